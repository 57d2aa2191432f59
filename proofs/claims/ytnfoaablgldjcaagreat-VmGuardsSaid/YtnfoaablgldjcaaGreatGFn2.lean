/- Functions. -/
import Derived.Test.YtnfoaablgldjcaaGreatGSl
set_option linter.unusedVariables false
set_option maxRecDepth 100000
set_option maxHeartbeats 0
namespace Go.Sy
noncomputable section
/- (*quarry/vm.frame).pushes -/
def fb119 : AFunc2 := ⟨32, [], .seq (.draw [
⟨0, ⟨(some 7), .p (.mv (.t 0)), none⟩, 0, 0⟩,
⟨1, ⟨(some 8), .p (.nilCheck (.t 7)), none⟩, 1, 0⟩,
⟨2, ⟨(some 9), .p (.faddr 69 (.t 8)), none⟩, 3, 0⟩,
⟨3, ⟨(some 10), .r (.load none (.t 9)), none⟩, 7, 0⟩,
⟨4, ⟨(some 11), .p (.mv (.t 0)), none⟩, 0, 0⟩,
⟨5, ⟨(some 12), .p (.nilCheck (.t 11)), none⟩, 16, 0⟩,
⟨6, ⟨(some 13), .p (.faddr 73 (.t 12)), none⟩, 48, 0⟩,
⟨7, ⟨(some 14), .r (.load none (.t 13)), none⟩, 112, 0⟩,
⟨9, ⟨(some 16), .p (.mv (.t 1)), none⟩, 0, 0⟩,
⟨15, ⟨(some 4), .m (.alloc 24 [.int .u64 (.lit (.ofNat 0)), .int .u64 (.lit (.ofNat 0)), .int .u64 (.lit (.ofNat 0)), .int .u64 (.lit (.ofNat 0))]), none⟩, 0, 3072⟩,
⟨8, ⟨(some 15), .b (.call 163 [(.t 14)]), none⟩, 240, 0⟩,
⟨10, ⟨(some 17), .b (.call 162 [(.t 10), (.t 15), (.t 16)]), none⟩, 1023, 0⟩,
⟨11, ⟨(some 18), .b (.call 10 [(.t 17)]), none⟩, 2047, 0⟩,
⟨12, ⟨(some 6), .p (.mv (.t 18)), none⟩, 4095, 0⟩,
⟨13, ⟨(some 19), .p (.ext (.t 6) 0), none⟩, 8191, 0⟩,
⟨14, ⟨(some 20), .p (.ext (.t 6) 1), none⟩, 8191, 0⟩,
⟨16, ⟨none, .b (.store 4 (.t 4) (.t 19)), none⟩, 49151, 0⟩,
⟨17, ⟨(some 5), .p (.mv (.t 20)), none⟩, 131071, 0⟩]) (.seq (.reg [
oP w21 (pMv g0),
oR w22 (rLoad (some 4) g4),
oCall w23 120 [g21, g22]]) (.reg [
oP w24 (pMv g0),
oP w25 (pGen fun _ t => opNil t (.t 24)),
oP w26 (pFaddr 73 g25),
oR w27 (rLoad none g26),
oP w28 (pMv g1),
oP w29 (pAr 0 g27 g28),
oP w30 (pGen fun _ t => opNil t (.t 24)),
oP w31 (pFaddr 73 g30),
oK wZ (bSt 1 g31 g29)]))⟩
theorem fp119 : ∃ fn, fb119 = denF fn ∧ ∃ func code hint, FnOk Go.Proofs.Tryz.prog TT 119 fn func code hint := f2_mk (func := Go.Proofs.Tryz.f119) (code := bodyOf Go.Proofs.Tryz.f119) (hint := hintL [(0, [(0, 0), (1, 0), (2, 0), (3, 0), (4, 0), (5, 0), (6, 0), (7, 0), (9, 0), (15, 3072), (8, 0), (10, 0), (11, 0), (12, 0), (13, 0), (14, 0), (16, 0), (17, 0)])]) (n := 32) (res := []) Go.Proofs.Tryz.func119 Go.Proofs.Tryz.call119 (by kernel_rfl) (by kernel_rfl) (by kernel_rfl) (by kernel_rfl) (by kernel_rfl)
/- (*quarry/vm.frame).push -/
def fb120 : AFunc2 := ⟨14, [], .seq (.reg [
oBox w3 24 g1]) (.draw [
⟨0, ⟨(some 4), .p (.mv (.t 0)), none⟩, 0, 0⟩,
⟨1, ⟨(some 5), .p (.mv (.t 0)), none⟩, 0, 0⟩,
⟨2, ⟨(some 6), .p (.nilCheck (.t 5)), none⟩, 2, 0⟩,
⟨3, ⟨(some 7), .p (.faddr 70 (.t 6)), none⟩, 6, 0⟩,
⟨4, ⟨(some 8), .r (.load none (.t 7)), none⟩, 14, 0⟩,
⟨5, ⟨(some 9), .r (.load (some 4) (.t 3)), none⟩, 0, 0⟩,
⟨6, ⟨(some 10), .m (.bslice 24 1 [.int .u64 (.lit (.ofNat 0)), .int .u64 (.lit (.ofNat 0)), .int .u64 (.lit (.ofNat 0)), .int .u64 (.lit (.ofNat 0))] [(0, 4, (.t 9))]), none⟩, 32, 0⟩,
⟨7, ⟨(some 11), .b (.append 24 4 32 (.t 8) (.t 10)), none⟩, 126, 0⟩,
⟨8, ⟨(some 12), .p (.nilCheck (.t 4)), none⟩, 255, 0⟩,
⟨9, ⟨(some 13), .p (.faddr 70 (.t 12)), none⟩, 511, 0⟩,
⟨10, ⟨none, .b (.store 1 (.t 13) (.t 11)), none⟩, 1023, 0⟩])⟩
theorem fp120 : ∃ fn, fb120 = denF fn ∧ ∃ func code hint, FnOk Go.Proofs.Tryz.prog TT 120 fn func code hint := f2_mk (func := Go.Proofs.Tryz.f120) (code := bodyOf Go.Proofs.Tryz.f120) (hint := hintL [(1, [(0, 0), (1, 0), (2, 0), (3, 0), (4, 0), (5, 0), (6, 0), (7, 0), (8, 0), (9, 0), (10, 0)])]) (n := 14) (res := []) Go.Proofs.Tryz.func120 Go.Proofs.Tryz.call120 (by kernel_rfl) (by kernel_rfl) (by kernel_rfl) (by kernel_rfl) (by kernel_rfl)
/- (*quarry/vm.frame).messages -/
def fb122 : AFunc2 := ⟨39, [], .seq (.reg [
oP w6 (pMv g1)]) (.block 0 (.seq (.seq (.reg [
oK w11 (bCmp 0 intEq .eq false g6 (gC (.w (.s (.int .i64 (.lit (.ofNat 240))))))),
oP w10 (pMv g11)]) (.cond g10 (.skip) (.reg [
oK w12 (bCmp 0 intEq .eq false g6 (gC (.w (.s (.int .i64 (.lit (.ofNat 245))))))),
oP w10 (pMv g12)]))) (.cond g10 (.reg [
oP w13 (pMv g0),
oP w14 (pMv g1),
oCall w15 174 [g13, g14]]) (.seq (.seq (.reg [
oK w17 (bCmp 0 intEq .eq false g6 (gC (.w (.s (.int .i64 (.lit (.ofNat 243))))))),
oP w16 (pMv g17)]) (.cond g16 (.skip) (.reg [
oK w18 (bCmp 0 intEq .eq false g6 (gC (.w (.s (.int .i64 (.lit (.ofNat 253))))))),
oP w16 (pMv g18)]))) (.cond g16 (.seq (.reg [
oP w19 (pMv g0),
oCall w20 153 [g19],
oAlloc w4 225 [.int .u64 (.lit (.ofNat 0)), .int .u64 (.lit (.ofNat 0)), .int .u64 (.lit (.ofNat 0)), .int .u64 (.lit (.ofNat 0)), .int .u64 (.lit (.ofNat 0)), .int .u64 (.lit (.ofNat 0)), .int .u64 (.lit (.ofNat 0)), .int .u64 (.lit (.ofNat 0))],
oK wZ (bSt 8 g4 g20)]) (.seq (.reg [
oP w21 (pMv g0),
oR w22 (rLoad (some 8) g4),
oM w23 (.bslice 225 1 [.int .u64 (.lit (.ofNat 0)), .int .u64 (.lit (.ofNat 0)), .int .u64 (.lit (.ofNat 0)), .int .u64 (.lit (.ofNat 0)), .int .u64 (.lit (.ofNat 0)), .int .u64 (.lit (.ofNat 0)), .int .u64 (.lit (.ofNat 0)), .int .u64 (.lit (.ofNat 0))] [(0, 8, (.t 22))]),
oCall w24 156 [g21, g23]]) (.seq (.reg [
oP w5 (pMv (gC (.w (.s (.int .i64 (.lit (.ofNat 0)))))))]) (.seq (.seq (.reg [
oP w25 (pMv g1),
oK w26 (bCmp 0 intEq .eq false g25 (gC (.w (.s (.int .i64 (.lit (.ofNat 253)))))))]) (.cond g26 (.reg [
oP w5 (pMv (gC (.w (.s (.int .i64 (.lit (.ofNat 1)))))))]) (.skip))) (.reg [
oP w27 (pMv g0),
oP w28 (pMv g5),
oP w29 (pMv g0),
oR w30 (rLoad (some 8) g4),
oCall w31 158 [g29, g30],
oCall w32 145 [g27, g28, g31]]))))) (.seq (.reg [
oK w34 (bCmp 0 intEq .eq false g6 (gC (.w (.s (.int .i64 (.lit (.ofNat 255))))))),
oP w33 (pMv g34)]) (.cond g33 (.reg [
oP w35 (pMv g0),
oP w36 (pMv g0),
oCall w37 160 [g36],
oCall w38 175 [g35, g37]]) (.reg [
oP w7 (pMv g0),
oP w8 (pMv g1),
oCall w9 176 [g7, g8]]))))))))⟩
theorem fp122 : ∃ fn, fb122 = denF fn ∧ ∃ func code hint, FnOk Go.Proofs.Tryz.prog TT 122 fn func code hint := f2_mk (func := Go.Proofs.Tryz.f122) (code := bodyOf Go.Proofs.Tryz.f122) (hint := hintL []) (n := 39) (res := []) Go.Proofs.Tryz.func122 Go.Proofs.Tryz.call122 (by kernel_rfl) (by kernel_rfl) (by kernel_rfl) (by kernel_rfl) (by kernel_rfl)
/- quarry/pre.Run -/
def fb128 : AFunc2 := ⟨47, [.tmp g8, .tmp g9, .tmp g10], .seq (.reg [
oP w8 (pMv (gC (.w (.s (.nils))))),
oP w9 (pMv (gC (.w (.s (.int .u64 (.lit (.ofNat 0))))))),
oP w10 (pMv (gC (.w (.s (.bool false)))))]) (.seq (.reg [
oP w15 (pMv g0),
oP w16 (pMv g1),
oP w17 (pMv g2),
oCall w18 180 [g15, g16, g17],
oP w14 (pMv g18),
oP w19 (pExt g14 0),
oP w20 (pExt g14 1),
oP w11 (pMv g19),
oP w12 (pMv g20)]) (.seq (.seq (.reg [
oP w21 (pMv g12),
oK w22 (bCmp 1 nEq .eq true g21 (gC (.w (.s (.int .i64 (.lit (.ofNat 0))))))),
oP w23 (pMv g22),
oGd g23 false w24 (oP w24 (pMv g11)),
oGd g23 false w25 (oP w25 (pMv g3)),
oGd g23 false w26 (oK w26 (bCmp 4 nLe .le true g24 g25)),
oP w27 (pGen fun _ t => opPick t (.t 23) (.c (.w (.s (.bool true)))) (.t 26)),
oP w28 (pMv g27),
oGd g28 false w29 (oP w29 (pMv g11)),
oGd g28 false w30 (oK w30 (bCmp 0 intEq .eq false g29 (gC (.w (.s (.int .u64 (.lit (.ofNat 18446744073709551615)))))))),
oP w31 (pGen fun _ t => opPick t (.t 28) (.c (.w (.s (.bool true)))) (.t 30))]) (.cond g31 (.seq (.reg [
oP w8 (pMv (gC (.w (.s (.nils))))),
oP w9 (pMv (gC (.w (.s (.int .u64 (.lit (.ofNat 0))))))),
oP w10 (pMv (gC (.w (.s (.bool false)))))]) (.ret)) (.skip))) (.seq (.reg [
oP w32 (pBuild zz3 [(1, 1, (gC (.w (.s (.fn 181 []))))), (2, 1, (gC (.w (.s (.fn 182 []))))), (3, 1, (gC (.w (.s (.fn 183 []))))), (4, 1, (gC (.w (.s (.fn 184 []))))), (5, 1, (gC (.w (.s (.fn 185 []))))), (6, 1, (gC (.w (.s (.fn 186 []))))), (7, 1, (gC (.w (.s (.fn 187 []))))), (8, 1, (gC (.w (.s (.fn 188 []))))), (9, 1, (gC (.w (.s (.fn 189 []))))), (10, 1, (gC (.w (.s (.fn 190 [])))))]),
oAlloc w13 248 zz3,
oK wZ (bSt 11 g13 g32)]) (.seq (.seq (.reg [
oP w34 (pMv g1),
oP w35 (pIaddrA 11 1 g13 g34),
oR w36 (rLoad none g35),
oP w37 (pMv g2),
oCallv w38 g36 [g37],
oP w33 (pMv g38),
oP w39 (pExt g33 0),
oP w40 (pExt g33 1),
oP w8 (pMv g39),
oP w10 (pMv g40)]) (.seq (.reg [
oP w41 (pMv g10),
oP w42 (pNot g41)]) (.cond g42 (.seq (.reg [
oP w8 (pMv (gC (.w (.s (.nils))))),
oP w9 (pMv (gC (.w (.s (.int .u64 (.lit (.ofNat 0))))))),
oP w10 (pMv (gC (.w (.s (.bool false)))))]) (.ret)) (.skip)))) (.seq (.reg [
oP w43 (pMv g8),
oP w44 (pMv g3),
oP w45 (pMv g11),
oP w46 (pAr 1 g44 g45),
oP w8 (pMv g43),
oP w9 (pMv g46),
oP w10 (pMv (gC (.w (.s (.bool true)))))]) (.ret))))))⟩
theorem fp128 : ∃ fn, fb128 = denF fn ∧ ∃ func code hint, FnOk Go.Proofs.Tryz.prog TT 128 fn func code hint := f2_mk (func := Go.Proofs.Tryz.f128) (code := bodyOf Go.Proofs.Tryz.f128) (hint := hintL []) (n := 47) (res := [.tmp 8, .tmp 9, .tmp 10]) Go.Proofs.Tryz.func128 Go.Proofs.Tryz.call128 (by kernel_rfl) (by kernel_rfl) (by kernel_rfl) (by kernel_rfl) (by kernel_rfl)
/- quarry/vm.fail -/
def fb130 : AFunc2 := ⟨2, [], .reg [
oP w0 (pBuild [] []),
oP w1 (pGen fun _ t => opMkif t 185 (.t 0)),
oAny none (.b (.panic (.t 1)))]⟩
theorem fp130 : ∃ fn, fb130 = denF fn ∧ ∃ func code hint, FnOk Go.Proofs.Tryz.prog TT 130 fn func code hint := f2_mk (func := Go.Proofs.Tryz.f130) (code := bodyOf Go.Proofs.Tryz.f130) (hint := hintL []) (n := 2) (res := []) Go.Proofs.Tryz.func130 Go.Proofs.Tryz.call130 (by kernel_rfl) (by kernel_rfl) (by kernel_rfl) (by kernel_rfl) (by kernel_rfl)
/- quarry/word.Mul -/
def fb131 : AFunc2 := ⟨14, [.cell (rLoad (some 4) g4)], .seq (.reg [
oBox w2 24 g0,
oBox w3 24 g1,
oAlloc w4 24 [.int .u64 (.lit (.ofNat 0)), .int .u64 (.lit (.ofNat 0)), .int .u64 (.lit (.ofNat 0)), .int .u64 (.lit (.ofNat 0))]]) (.seq (.reg [
oR w8 (rLoad (some 4) g2),
oR w9 (rLoad (some 4) g3),
oCall w10 191 [g8, g9],
oP w7 (pMv g10),
oP w11 (pExt g7 0),
oP w12 (pExt g7 1),
oAlloc w5 24 [.int .u64 (.lit (.ofNat 0)), .int .u64 (.lit (.ofNat 0)), .int .u64 (.lit (.ofNat 0)), .int .u64 (.lit (.ofNat 0))],
oAlloc w6 24 [.int .u64 (.lit (.ofNat 0)), .int .u64 (.lit (.ofNat 0)), .int .u64 (.lit (.ofNat 0)), .int .u64 (.lit (.ofNat 0))],
oK wZ (bSt 4 g5 g11),
oK wZ (bSt 4 g6 g12)]) (.seq (.reg [
oR w13 (rLoad (some 4) g6),
oK wZ (bSt 4 g4 g13)]) (.ret)))⟩
theorem fp131 : ∃ fn, fb131 = denF fn ∧ ∃ func code hint, FnOk Go.Proofs.Tryz.prog TT 131 fn func code hint := f2_mk (func := Go.Proofs.Tryz.f131) (code := bodyOf Go.Proofs.Tryz.f131) (hint := hintL []) (n := 14) (res := [.cell 4 (some 4)]) Go.Proofs.Tryz.func131 Go.Proofs.Tryz.call131 (by kernel_rfl) (by kernel_rfl) (by kernel_rfl) (by kernel_rfl) (by kernel_rfl)
/- quarry/word.Div -/
def fb132 : AFunc2 := ⟨14, [.cell (rLoad (some 4) g4)], .seq (.reg [
oBox w2 24 g0,
oBox w3 24 g1,
oAlloc w4 24 [.int .u64 (.lit (.ofNat 0)), .int .u64 (.lit (.ofNat 0)), .int .u64 (.lit (.ofNat 0)), .int .u64 (.lit (.ofNat 0))]]) (.seq (.reg [
oR w8 (rLoad (some 4) g2),
oR w9 (rLoad (some 4) g3),
oCall w10 192 [g8, g9],
oP w7 (pMv g10),
oP w11 (pExt g7 0),
oP w12 (pExt g7 1),
oAlloc w5 24 [.int .u64 (.lit (.ofNat 0)), .int .u64 (.lit (.ofNat 0)), .int .u64 (.lit (.ofNat 0)), .int .u64 (.lit (.ofNat 0))],
oAlloc w6 24 [.int .u64 (.lit (.ofNat 0)), .int .u64 (.lit (.ofNat 0)), .int .u64 (.lit (.ofNat 0)), .int .u64 (.lit (.ofNat 0))],
oK wZ (bSt 4 g5 g11),
oK wZ (bSt 4 g6 g12)]) (.seq (.reg [
oR w13 (rLoad (some 4) g5),
oK wZ (bSt 4 g4 g13)]) (.ret)))⟩
theorem fp132 : ∃ fn, fb132 = denF fn ∧ ∃ func code hint, FnOk Go.Proofs.Tryz.prog TT 132 fn func code hint := f2_mk (func := Go.Proofs.Tryz.f132) (code := bodyOf Go.Proofs.Tryz.f132) (hint := hintL []) (n := 14) (res := [.cell 4 (some 4)]) Go.Proofs.Tryz.func132 Go.Proofs.Tryz.call132 (by kernel_rfl) (by kernel_rfl) (by kernel_rfl) (by kernel_rfl) (by kernel_rfl)
/- (*quarry/vm.frame).end -/
def fb145 : AFunc2 := ⟨19, [], .draw [
⟨0, ⟨(some 6), .p (.mv (.t 0)), none⟩, 0, 0⟩,
⟨1, ⟨(some 7), .p (.mv (.t 1)), none⟩, 0, 0⟩,
⟨2, ⟨(some 8), .p (.mv (.t 2)), none⟩, 0, 0⟩,
⟨4, ⟨(some 10), .p (.mv (.t 0)), none⟩, 0, 0⟩,
⟨5, ⟨(some 11), .p (.nilCheck (.t 10)), none⟩, 16, 0⟩,
⟨6, ⟨(some 12), .p (.faddr 1 (.t 11)), none⟩, 48, 0⟩,
⟨7, ⟨(some 13), .p (.faddr 65 (.t 12)), none⟩, 112, 0⟩,
⟨8, ⟨(some 14), .r (.load none (.t 13)), none⟩, 240, 0⟩,
⟨3, ⟨(some 9), .b (.append 5 1 1 (.c (.w (.s (.nils)))) (.t 8)), none⟩, 4, 0⟩,
⟨9, ⟨(some 15), .p (.build [.int .i64 (.lit (.ofNat 0)), .nils, .int .u64 (.lit (.ofNat 0)), .int .u8 (.lit (.ofNat 0)), .int .u8 (.lit (.ofNat 0)), .int .u8 (.lit (.ofNat 0)), .int .u8 (.lit (.ofNat 0)), .int .u8 (.lit (.ofNat 0)), .int .u8 (.lit (.ofNat 0)), .int .u8 (.lit (.ofNat 0)), .int .u8 (.lit (.ofNat 0)), .int .u8 (.lit (.ofNat 0)), .int .u8 (.lit (.ofNat 0)), .int .u8 (.lit (.ofNat 0)), .int .u8 (.lit (.ofNat 0)), .int .u8 (.lit (.ofNat 0)), .int .u8 (.lit (.ofNat 0)), .int .u8 (.lit (.ofNat 0)), .int .u8 (.lit (.ofNat 0)), .int .u8 (.lit (.ofNat 0)), .int .u8 (.lit (.ofNat 0)), .int .u8 (.lit (.ofNat 0)), .int .u8 (.lit (.ofNat 0))] [(0, 1, (.t 7)), (1, 1, (.t 9)), (2, 1, (.t 14))]), none⟩, 510, 0⟩,
⟨10, ⟨(some 16), .m (.box 131 (.t 15)), none⟩, 1022, 1024⟩,
⟨11, ⟨(some 17), .p (.nilCheck (.t 6)), none⟩, 2047, 0⟩,
⟨12, ⟨(some 18), .p (.faddr 74 (.t 17)), none⟩, 4095, 0⟩,
⟨13, ⟨none, .b (.store 1 (.t 18) (.t 16)), none⟩, 8191, 0⟩]⟩
theorem fp145 : ∃ fn, fb145 = denF fn ∧ ∃ func code hint, FnOk Go.Proofs.Tryz.prog TT 145 fn func code hint := f2_mk (func := Go.Proofs.Tryz.f145) (code := bodyOf Go.Proofs.Tryz.f145) (hint := hintL [(0, [(0, 0), (1, 0), (2, 0), (4, 0), (5, 0), (6, 0), (7, 0), (8, 0), (3, 0), (9, 0), (10, 1024), (11, 0), (12, 0), (13, 0)])]) (n := 19) (res := []) Go.Proofs.Tryz.func145 Go.Proofs.Tryz.call145 (by kernel_rfl) (by kernel_rfl) (by kernel_rfl) (by kernel_rfl) (by kernel_rfl)
/- (*quarry/vm.frame).pop -/
def fb146 : AFunc2 := ⟨31, [.cell (rLoad (some 4) g2)], .seq (.reg [
oAlloc w2 24 [.int .u64 (.lit (.ofNat 0)), .int .u64 (.lit (.ofNat 0)), .int .u64 (.lit (.ofNat 0)), .int .u64 (.lit (.ofNat 0))]]) (.seq (.draw [
⟨0, ⟨(some 4), .p (.mv (.t 0)), none⟩, 0, 0⟩,
⟨1, ⟨(some 5), .p (.nilCheck (.t 4)), none⟩, 1, 0⟩,
⟨2, ⟨(some 6), .p (.faddr 70 (.t 5)), none⟩, 3, 0⟩,
⟨3, ⟨(some 7), .r (.load none (.t 6)), none⟩, 7, 0⟩,
⟨4, ⟨(some 8), .p (.mv (.t 0)), none⟩, 0, 0⟩,
⟨5, ⟨(some 9), .p (.nilCheck (.t 8)), none⟩, 16, 0⟩,
⟨6, ⟨(some 10), .p (.faddr 70 (.t 9)), none⟩, 48, 0⟩,
⟨7, ⟨(some 11), .r (.load none (.t 10)), none⟩, 112, 0⟩,
⟨8, ⟨(some 12), .p (.len (.t 11)), none⟩, 240, 0⟩,
⟨9, ⟨(some 13), .p (.ar 1 (.t 12) (.c (.w (.s (.int .i64 (.lit (.ofNat 1))))))), none⟩, 496, 0⟩,
⟨10, ⟨(some 14), .p (.iaddrS 4 (.t 7) (.t 13)), none⟩, 1023, 0⟩,
⟨11, ⟨(some 15), .r (.load (some 4) (.t 14)), none⟩, 2047, 0⟩,
⟨12, ⟨(some 3), .m (.alloc 24 [.int .u64 (.lit (.ofNat 0)), .int .u64 (.lit (.ofNat 0)), .int .u64 (.lit (.ofNat 0)), .int .u64 (.lit (.ofNat 0))]), none⟩, 0, 0⟩,
⟨13, ⟨none, .b (.store 4 (.t 3) (.t 15)), none⟩, 8191, 0⟩]) (.seq (.draw [
⟨0, ⟨(some 16), .p (.mv (.t 0)), none⟩, 0, 0⟩,
⟨1, ⟨(some 17), .p (.mv (.t 0)), none⟩, 0, 0⟩,
⟨2, ⟨(some 18), .p (.nilCheck (.t 17)), none⟩, 2, 0⟩,
⟨3, ⟨(some 19), .p (.faddr 70 (.t 18)), none⟩, 6, 0⟩,
⟨4, ⟨(some 20), .r (.load none (.t 19)), none⟩, 14, 0⟩,
⟨5, ⟨(some 21), .p (.mv (.t 0)), none⟩, 0, 0⟩,
⟨6, ⟨(some 22), .p (.nilCheck (.t 21)), none⟩, 32, 0⟩,
⟨7, ⟨(some 23), .p (.faddr 70 (.t 22)), none⟩, 96, 0⟩,
⟨8, ⟨(some 24), .r (.load none (.t 23)), none⟩, 224, 0⟩,
⟨9, ⟨(some 25), .p (.len (.t 24)), none⟩, 480, 0⟩,
⟨10, ⟨(some 26), .p (.ar 1 (.t 25) (.c (.w (.s (.int .i64 (.lit (.ofNat 1))))))), none⟩, 992, 0⟩,
⟨11, ⟨(some 27), .p (.slice 4 (.t 20) none (some (.t 26))), none⟩, 2046, 0⟩,
⟨12, ⟨(some 28), .p (.nilCheck (.t 16)), none⟩, 4095, 0⟩,
⟨13, ⟨(some 29), .p (.faddr 70 (.t 28)), none⟩, 8191, 0⟩,
⟨14, ⟨none, .b (.store 1 (.t 29) (.t 27)), none⟩, 16383, 0⟩]) (.seq (.reg [
oR w30 (rLoad (some 4) g3),
oK wZ (bSt 4 g2 g30)]) (.ret))))⟩
theorem fp146 : ∃ fn, fb146 = denF fn ∧ ∃ func code hint, FnOk Go.Proofs.Tryz.prog TT 146 fn func code hint := f2_mk (func := Go.Proofs.Tryz.f146) (code := bodyOf Go.Proofs.Tryz.f146) (hint := hintL [(1, [(0, 0), (1, 0), (2, 0), (3, 0), (4, 0), (5, 0), (6, 0), (7, 0), (8, 0), (9, 0), (10, 0), (11, 0), (12, 0), (13, 0)]), (2, [(0, 0), (1, 0), (2, 0), (3, 0), (4, 0), (5, 0), (6, 0), (7, 0), (8, 0), (9, 0), (10, 0), (11, 0), (12, 0), (13, 0), (14, 0)])]) (n := 31) (res := [.cell 2 (some 4)]) Go.Proofs.Tryz.func146 Go.Proofs.Tryz.call146 (by kernel_rfl) (by kernel_rfl) (by kernel_rfl) (by kernel_rfl) (by kernel_rfl)
/- quarry/vm.truth -/
def fb149 : AFunc2 := ⟨6, [.cell (rLoad (some 4) g2)], .seq (.reg [
oAlloc w2 24 [.int .u64 (.lit (.ofNat 0)), .int .u64 (.lit (.ofNat 0)), .int .u64 (.lit (.ofNat 0)), .int .u64 (.lit (.ofNat 0))]]) (.seq (.seq (.reg [
oP w3 (pMv g0)]) (.cond g3 (.seq (.reg [
oCall w4 26 [(gC (.w (.s (.int .u64 (.lit (.ofNat 1))))))],
oK wZ (bSt 4 g2 g4)]) (.ret)) (.skip))) (.seq (.reg [
oP w5 (pBuild [.int .u64 (.lit (.ofNat 0)), .int .u64 (.lit (.ofNat 0)), .int .u64 (.lit (.ofNat 0)), .int .u64 (.lit (.ofNat 0))] []),
oK wZ (bSt 4 g2 g5)]) (.ret)))⟩
theorem fp149 : ∃ fn, fb149 = denF fn ∧ ∃ func code hint, FnOk Go.Proofs.Tryz.prog TT 149 fn func code hint := f2_mk (func := Go.Proofs.Tryz.f149) (code := bodyOf Go.Proofs.Tryz.f149) (hint := hintL []) (n := 6) (res := [.cell 2 (some 4)]) Go.Proofs.Tryz.func149 Go.Proofs.Tryz.call149 (by kernel_rfl) (by kernel_rfl) (by kernel_rfl) (by kernel_rfl) (by kernel_rfl)
/- (*quarry/vm.frame).taken -/
def fb153 : AFunc2 := ⟨10, [.cell (rLoad (some 8) g2)], .seq (.reg [
oAlloc w2 225 [.int .u64 (.lit (.ofNat 0)), .int .u64 (.lit (.ofNat 0)), .int .u64 (.lit (.ofNat 0)), .int .u64 (.lit (.ofNat 0)), .int .u64 (.lit (.ofNat 0)), .int .u64 (.lit (.ofNat 0)), .int .u64 (.lit (.ofNat 0)), .int .u64 (.lit (.ofNat 0))]]) (.seq (.reg [
oP w4 (pMv g0),
oCall w5 146 [g4],
oAlloc w3 24 [.int .u64 (.lit (.ofNat 0)), .int .u64 (.lit (.ofNat 0)), .int .u64 (.lit (.ofNat 0)), .int .u64 (.lit (.ofNat 0))],
oK wZ (bSt 4 g3 g5)]) (.seq (.draw [
⟨0, ⟨(some 6), .r (.load (some 4) (.t 3)), none⟩, 0, 0⟩,
⟨1, ⟨(some 7), .p (.mv (.t 0)), none⟩, 0, 0⟩,
⟨2, ⟨(some 8), .b (.call 146 [(.t 7)]), none⟩, 2, 0⟩,
⟨3, ⟨(some 9), .p (.build [.int .u64 (.lit (.ofNat 0)), .int .u64 (.lit (.ofNat 0)), .int .u64 (.lit (.ofNat 0)), .int .u64 (.lit (.ofNat 0)), .int .u64 (.lit (.ofNat 0)), .int .u64 (.lit (.ofNat 0)), .int .u64 (.lit (.ofNat 0)), .int .u64 (.lit (.ofNat 0))] [(0, 4, (.t 6)), (4, 4, (.t 8))]), none⟩, 7, 0⟩,
⟨4, ⟨none, .b (.store 8 (.t 2) (.t 9)), none⟩, 15, 0⟩]) (.ret)))⟩
theorem fp153 : ∃ fn, fb153 = denF fn ∧ ∃ func code hint, FnOk Go.Proofs.Tryz.prog TT 153 fn func code hint := f2_mk (func := Go.Proofs.Tryz.f153) (code := bodyOf Go.Proofs.Tryz.f153) (hint := hintL [(2, [(0, 0), (1, 0), (2, 0), (3, 0), (4, 0)])]) (n := 10) (res := [.cell 2 (some 8)]) Go.Proofs.Tryz.func153 Go.Proofs.Tryz.call153 (by kernel_rfl) (by kernel_rfl) (by kernel_rfl) (by kernel_rfl) (by kernel_rfl)
/- (*quarry/vm.frame).reach -/
def fb156 : AFunc2 := ⟨70, [], .seq (.reg [
oP w12 (pMv g0),
oP w13 (pGen fun _ t => opNil t (.t 12)),
oP w14 (pFaddr 71 g13),
oR w15 (rLoad none g14),
oP w16 (pGen fun _ t => opLen t (.t 15)),
oP w17 (pConv .u64 g16),
oP w4 (pMv g17),
oP w5 (pMv (gC (.w (.s (.int .u64 (.lit (.ofNat 0)))))))]) (.seq (.seq (.reg [
oP w18 (pMv g1),
oP w19 (pGen fun _ t => opLen t (.t 18)),
oP w20 (pMv (gC (.w (.s (.int .i64 (.lit (.ofNat 0)))))))]) (.block 0 (.loop (.seq (.reg [
oK w21 (bCmp 2 lLt cGe true g20 g19)]) (.seq (.cond g21 (.skip) (.exit 0)) (.seq (.block 1 (.seq (.reg [
oP w22 (pIaddrS 8 g18 g20),
oR w23 (rLoad (some 8) g22),
oAlloc w7 225 [.int .u64 (.lit (.ofNat 0)), .int .u64 (.lit (.ofNat 0)), .int .u64 (.lit (.ofNat 0)), .int .u64 (.lit (.ofNat 0)), .int .u64 (.lit (.ofNat 0)), .int .u64 (.lit (.ofNat 0)), .int .u64 (.lit (.ofNat 0)), .int .u64 (.lit (.ofNat 0))],
oK wZ (bSt 8 g7 g23)]) (.seq (.draw [
⟨0, ⟨(some 25), .p (.mv (.t 0)), none⟩, 0, 0⟩,
⟨1, ⟨(some 26), .p (.nilCheck (.t 25)), none⟩, 1, 0⟩,
⟨2, ⟨(some 27), .p (.faddr 71 (.t 26)), none⟩, 3, 0⟩,
⟨3, ⟨(some 28), .r (.load none (.t 27)), none⟩, 7, 0⟩,
⟨4, ⟨(some 29), .p (.len (.t 28)), none⟩, 15, 0⟩,
⟨5, ⟨(some 30), .p (.conv .u64 (.t 29)), none⟩, 31, 0⟩,
⟨6, ⟨(some 31), .p (.faddr 0 (.t 7)), none⟩, 0, 0⟩,
⟨7, ⟨(some 32), .r (.load (some 4) (.t 31)), none⟩, 64, 0⟩,
⟨8, ⟨(some 33), .p (.faddr 4 (.t 7)), none⟩, 0, 0⟩,
⟨9, ⟨(some 34), .r (.load (some 4) (.t 33)), none⟩, 256, 0⟩,
⟨10, ⟨(some 35), .b (.call 200 [(.t 30), (.t 32), (.t 34)]), none⟩, 1023, 0⟩,
⟨11, ⟨(some 24), .p (.mv (.t 35)), none⟩, 2047, 0⟩,
⟨12, ⟨(some 36), .p (.ext (.t 24) 0), none⟩, 4095, 0⟩,
⟨13, ⟨(some 37), .p (.ext (.t 24) 1), none⟩, 4095, 0⟩,
⟨14, ⟨(some 38), .p (.ext (.t 24) 2), none⟩, 4095, 0⟩,
⟨15, ⟨(some 8), .p (.mv (.t 36)), none⟩, 8191, 0⟩,
⟨16, ⟨(some 9), .p (.mv (.t 37)), none⟩, 49151, 0⟩,
⟨17, ⟨(some 10), .p (.mv (.t 38)), none⟩, 131071, 0⟩]) (.seq (.reg [
oP w39 (pMv g10),
oCall w40 111 [g39]]) (.reg [
oP w41 (pMv g4),
oP w42 (pMv g8),
oK w43 (b2 (mmA true) g41 g42),
oP w44 (pMv g5),
oP w45 (pMv g9),
oK w46 (b2 (mmA true) g44 g45),
oP w4 (pMv g43),
oP w5 (pMv g46)]))))) (.reg [
oP w47 (pAr 0 g20 (gC (.w (.s (.int .i64 (.lit (.ofNat 1))))))),
oP w20 (pMv g47)]))))))) (.seq (.reg [
oP w48 (pMv g0),
oP w49 (pMv g5),
oCall w50 113 [g48, g49]]) (.seq (.reg [
oP w51 (pMv g4),
oP w52 (pConv .i64 g51),
oP w53 (pMv g0),
oP w54 (pGen fun _ t => opNil t (.t 53)),
oP w55 (pFaddr 71 g54),
oR w56 (rLoad none g55),
oP w57 (pGen fun _ t => opLen t (.t 56)),
oP w58 (pAr 1 g52 g57),
oP w11 (pMv g58)]) (.seq (.reg [
oP w59 (pMv g11),
oK w60 (bCmp 4 nLe .le true g59 (gC (.w (.s (.int .i64 (.lit (.ofNat 0)))))))]) (.cond g60 (.reg [
oP w61 (pMv g0),
oP w62 (pMv g0),
oP w63 (pGen fun _ t => opNil t (.t 62)),
oP w64 (pFaddr 71 g63),
oR w65 (rLoad none g64),
oP w66 (pMv g11),
oK w67 (b2 (bAppendz 5 1 1 [.int .u8 (.lit (.ofNat 0))]) g65 g66),
oP w68 (pGen fun _ t => opNil t (.t 61)),
oP w69 (pFaddr 71 g68),
oK wZ (bSt 1 g69 g67)]) (.skip))))))⟩
theorem fp156 : ∃ fn, fb156 = denF fn ∧ ∃ func code hint, FnOk Go.Proofs.Tryz.prog TT 156 fn func code hint := f2_mk (func := Go.Proofs.Tryz.f156) (code := bodyOf Go.Proofs.Tryz.f156) (hint := hintL [(4, [(0, 0), (1, 0), (2, 0), (3, 0), (4, 0), (5, 0), (6, 0), (7, 0), (8, 0), (9, 0), (10, 0), (11, 0), (12, 0), (13, 0), (14, 0), (15, 0), (16, 0), (17, 0)])]) (n := 70) (res := []) Go.Proofs.Tryz.func156 Go.Proofs.Tryz.call156 (by kernel_rfl) (by kernel_rfl) (by kernel_rfl) (by kernel_rfl) (by kernel_rfl)
/- (*quarry/vm.frame).bytes -/
def fb158 : AFunc2 := ⟨26, [.tmp g4], .seq (.reg [
oBox w3 225 g1,
oP w4 (pMv (gC (.w (.s (.nils)))))]) (.seq (.seq (.reg [
oP w6 (pFaddr 4 g3),
oR w7 (rLoad (some 4) g6),
oP w8 (pBuild [.int .u64 (.lit (.ofNat 0)), .int .u64 (.lit (.ofNat 0)), .int .u64 (.lit (.ofNat 0)), .int .u64 (.lit (.ofNat 0))] []),
oK w9 (b2 (fun x y s K => cmpA 0 (.agg (.one (.arr 4 22 .u64))) x y s fun b s => K (vBool b) s) g7 g8)]) (.cond g9 (.seq (.reg [
oP w4 (pMv (gC (.w (.s (.nils)))))]) (.ret)) (.skip))) (.seq (.reg [
oP w10 (pFaddr 0 g3),
oP w11 (pIaddrA 4 1 g10 (gC (.w (.s (.int .i64 (.lit (.ofNat 0))))))),
oR w12 (rLoad none g11),
oP w13 (pConv .i64 g12),
oP w5 (pMv g13)]) (.seq (.draw [
⟨0, ⟨(some 14), .p (.mv (.t 0)), none⟩, 0, 0⟩,
⟨1, ⟨(some 15), .p (.nilCheck (.t 14)), none⟩, 1, 0⟩,
⟨2, ⟨(some 16), .p (.faddr 71 (.t 15)), none⟩, 3, 0⟩,
⟨3, ⟨(some 17), .r (.load none (.t 16)), none⟩, 7, 0⟩,
⟨4, ⟨(some 18), .p (.mv (.t 5)), none⟩, 0, 0⟩,
⟨5, ⟨(some 19), .p (.mv (.t 5)), none⟩, 0, 0⟩,
⟨6, ⟨(some 20), .p (.faddr 4 (.t 3)), none⟩, 0, 0⟩,
⟨7, ⟨(some 21), .p (.iaddrA 4 1 (.t 20) (.c (.w (.s (.int .i64 (.lit (.ofNat 0))))))), none⟩, 64, 0⟩,
⟨8, ⟨(some 22), .r (.load none (.t 21)), none⟩, 192, 0⟩,
⟨9, ⟨(some 23), .p (.conv .i64 (.t 22)), none⟩, 448, 0⟩,
⟨10, ⟨(some 24), .p (.ar 0 (.t 19) (.t 23)), none⟩, 992, 0⟩,
⟨11, ⟨(some 25), .p (.slice 1 (.t 17) (some (.t 18)) (some (.t 24))), none⟩, 2047, 0⟩,
⟨12, ⟨(some 4), .p (.mv (.t 25)), none⟩, 4095, 0⟩]) (.ret))))⟩
theorem fp158 : ∃ fn, fb158 = denF fn ∧ ∃ func code hint, FnOk Go.Proofs.Tryz.prog TT 158 fn func code hint := f2_mk (func := Go.Proofs.Tryz.f158) (code := bodyOf Go.Proofs.Tryz.f158) (hint := hintL [(4, [(0, 0), (1, 0), (2, 0), (3, 0), (4, 0), (5, 0), (6, 0), (7, 0), (8, 0), (9, 0), (10, 0), (11, 0), (12, 0)])]) (n := 26) (res := [.tmp 4]) Go.Proofs.Tryz.func158 Go.Proofs.Tryz.call158 (by kernel_rfl) (by kernel_rfl) (by kernel_rfl) (by kernel_rfl) (by kernel_rfl)
/- quarry/vm.number -/
def fb159 : AFunc2 := ⟨11, [.cell (rLoad (some 4) g2)], .seq (.reg [
oBox w1 30 g0,
oAlloc w2 24 [.int .u64 (.lit (.ofNat 0)), .int .u64 (.lit (.ofNat 0)), .int .u64 (.lit (.ofNat 0)), .int .u64 (.lit (.ofNat 0))]]) (.seq (.reg [
oP w6 (pGen fun _ t => opASlice t 20 1 (.t 1) none none),
oCall w7 10 [g6],
oP w5 (pMv g7),
oP w8 (pExt g5 0),
oP w9 (pExt g5 1),
oAlloc w3 24 [.int .u64 (.lit (.ofNat 0)), .int .u64 (.lit (.ofNat 0)), .int .u64 (.lit (.ofNat 0)), .int .u64 (.lit (.ofNat 0))],
oK wZ (bSt 4 g3 g8),
oP w4 (pMv g9)]) (.seq (.reg [
oR w10 (rLoad (some 4) g3),
oK wZ (bSt 4 g2 g10)]) (.ret)))⟩
theorem fp159 : ∃ fn, fb159 = denF fn ∧ ∃ func code hint, FnOk Go.Proofs.Tryz.prog TT 159 fn func code hint := f2_mk (func := Go.Proofs.Tryz.f159) (code := bodyOf Go.Proofs.Tryz.f159) (hint := hintL []) (n := 11) (res := [.cell 2 (some 4)]) Go.Proofs.Tryz.func159 Go.Proofs.Tryz.call159 (by kernel_rfl) (by kernel_rfl) (by kernel_rfl) (by kernel_rfl) (by kernel_rfl)
/- (*quarry/vm.frame).account -/
def fb160 : AFunc2 := ⟨6, [.cell (rLoad (some 20) g2)], .seq (.reg [
oAlloc w2 30 zz0]) (.seq (.reg [
oP w3 (pMv g0),
oCall w4 146 [g3],
oCall w5 201 [g4],
oK wZ (bSt 20 g2 g5)]) (.ret))⟩
theorem fp160 : ∃ fn, fb160 = denF fn ∧ ∃ func code hint, FnOk Go.Proofs.Tryz.prog TT 160 fn func code hint := f2_mk (func := Go.Proofs.Tryz.f160) (code := bodyOf Go.Proofs.Tryz.f160) (hint := hintL []) (n := 6) (res := [.cell 2 (some 20)]) Go.Proofs.Tryz.func160 Go.Proofs.Tryz.call160 (by kernel_rfl) (by kernel_rfl) (by kernel_rfl) (by kernel_rfl) (by kernel_rfl)
/- (*quarry/vm.frame).warm -/
def fb161 : AFunc2 := ⟨39, [], .seq (.reg [
oBox w3 30 g1]) (.seq (.seq (.reg [
oP w4 (pMv g0),
oP w5 (pGen fun _ t => opNil t (.t 4)),
oP w6 (pFaddr 0 g5),
oR w7 (rLoad none g6),
oCall w8 66 [g7, (gC (.w (.s (.int .i64 (.lit (.ofNat 9))))))],
oP w9 (pNot g8)]) (.cond g9 (.ret) (.skip))) (.seq (.draw [
⟨0, ⟨(some 10), .p (.mv (.t 0)), none⟩, 0, 0⟩,
⟨1, ⟨(some 11), .p (.nilCheck (.t 10)), none⟩, 1, 0⟩,
⟨2, ⟨(some 12), .p (.faddr 0 (.t 11)), none⟩, 3, 0⟩,
⟨3, ⟨(some 13), .r (.load none (.t 12)), none⟩, 7, 0⟩,
⟨4, ⟨(some 14), .p (.nilCheck (.t 13)), none⟩, 15, 0⟩,
⟨5, ⟨(some 15), .p (.faddr 89 (.t 14)), none⟩, 31, 0⟩,
⟨6, ⟨(some 16), .r (.load none (.t 15)), none⟩, 63, 0⟩,
⟨7, ⟨(some 17), .r (.load (some 20) (.t 3)), none⟩, 0, 0⟩,
⟨8, ⟨(some 18), .b (.call 67 [(.t 16), (.t 17)]), none⟩, 255, 0⟩]) (.cond g18 (.reg [
oP w19 (pMv g0),
oP w20 (pMv g0),
oP w21 (pGen fun _ t => opNil t (.t 20)),
oP w22 (pFaddr 0 g21),
oR w23 (rLoad none g22),
oP w24 (pGen fun _ t => opNil t (.t 23)),
oP w25 (pFaddr 1 g24),
oP w26 (pFaddr 17 g25),
oR w27 (rLoad none g26),
oCall w28 113 [g19, g27]]) (.reg [
oP w29 (pMv g0),
oP w30 (pMv g0),
oP w31 (pGen fun _ t => opNil t (.t 30)),
oP w32 (pFaddr 0 g31),
oR w33 (rLoad none g32),
oP w34 (pGen fun _ t => opNil t (.t 33)),
oP w35 (pFaddr 1 g34),
oP w36 (pFaddr 15 g35),
oR w37 (rLoad none g36),
oCall w38 113 [g29, g37]]))))⟩
theorem fp161 : ∃ fn, fb161 = denF fn ∧ ∃ func code hint, FnOk Go.Proofs.Tryz.prog TT 161 fn func code hint := f2_mk (func := Go.Proofs.Tryz.f161) (code := bodyOf Go.Proofs.Tryz.f161) (hint := hintL [(2, [(0, 0), (1, 0), (2, 0), (3, 0), (4, 0), (5, 0), (6, 0), (7, 0), (8, 0)])]) (n := 39) (res := []) Go.Proofs.Tryz.func161 Go.Proofs.Tryz.call161 (by kernel_rfl) (by kernel_rfl) (by kernel_rfl) (by kernel_rfl) (by kernel_rfl)
/- quarry/vm.cut -/
def fb162 : AFunc2 := ⟨31, [.tmp g6], .seq (.reg [
oBox w4 24 g1,
oP w6 (pMv (gC (.w (.s (.nils)))))]) (.seq (.reg [
oP w10 (pMv g2),
oM w11 (.mkslice 5 1 [.int .u8 (.lit (.ofNat 0))] (.t 10) (.t 10)),
oP w7 (pMv g11)]) (.seq (.seq (.reg [
oR w13 (rLoad (some 4) g4),
oCall w14 38 [g13],
oP w12 (pMv g14),
oP w15 (pExt g12 0),
oP w16 (pExt g12 1),
oP w8 (pMv g15),
oP w9 (pMv g16)]) (.seq (.reg [
oP w17 (pMv g9),
oP w18 (pMv g17),
oGd g18 true w19 (oP w19 (pMv g8)),
oGd g18 true w20 (oP w20 (pMv g0)),
oGd g18 true w21 (oP w21 (pGen fun _ t => opLen t (.t 20))),
oGd g18 true w22 (oP w22 (pConv .u64 g21)),
oGd g18 true w23 (oK w23 (bCmp 2 lLt cGe true g19 g22)),
oP w24 (pGen fun _ t => opPick t (.t 18) (.t 23) (.c (.w (.s (.bool false)))))]) (.cond g24 (.reg [
oP w25 (pMv g7),
oP w26 (pMv g0),
oP w27 (pMv g8),
oP w28 (pGen fun _ t => opSlice t 1 (.t 26) (some (.t 27)) none),
oK w29 (b2 (bCopy 1) g25 g28)]) (.skip)))) (.seq (.reg [
oP w30 (pMv g7),
oP w6 (pMv g30)]) (.ret))))⟩
theorem fp162 : ∃ fn, fb162 = denF fn ∧ ∃ func code hint, FnOk Go.Proofs.Tryz.prog TT 162 fn func code hint := f2_mk (func := Go.Proofs.Tryz.f162) (code := bodyOf Go.Proofs.Tryz.f162) (hint := hintL []) (n := 31) (res := [.tmp 6]) Go.Proofs.Tryz.func162 Go.Proofs.Tryz.call162 (by kernel_rfl) (by kernel_rfl) (by kernel_rfl) (by kernel_rfl) (by kernel_rfl)
/- quarry/vm.long -/
def fb163 : AFunc2 := ⟨6, [.cell (rLoad (some 4) g2)], .seq (.reg [
oAlloc w2 24 [.int .u64 (.lit (.ofNat 0)), .int .u64 (.lit (.ofNat 0)), .int .u64 (.lit (.ofNat 0)), .int .u64 (.lit (.ofNat 0))]]) (.seq (.reg [
oP w3 (pMv g0),
oP w4 (pConv .u64 g3),
oCall w5 26 [g4],
oK wZ (bSt 4 g2 g5)]) (.ret))⟩
theorem fp163 : ∃ fn, fb163 = denF fn ∧ ∃ func code hint, FnOk Go.Proofs.Tryz.prog TT 163 fn func code hint := f2_mk (func := Go.Proofs.Tryz.f163) (code := bodyOf Go.Proofs.Tryz.f163) (hint := hintL []) (n := 6) (res := [.cell 2 (some 4)]) Go.Proofs.Tryz.func163 Go.Proofs.Tryz.call163 (by kernel_rfl) (by kernel_rfl) (by kernel_rfl) (by kernel_rfl) (by kernel_rfl)
/- (*quarry/state.State).HeatSlot -/
def fb167 : AFunc2 := ⟨29, [.tmp g6], .seq (.reg [
oBox w4 30 g1,
oBox w5 24 g2,
oP w6 (pMv (gC (.w (.s (.bool false)))))]) (.seq (.draw [
⟨0, ⟨(some 8), .p (.mv (.t 0)), none⟩, 0, 0⟩,
⟨1, ⟨(some 9), .p (.nilCheck (.t 8)), none⟩, 1, 0⟩,
⟨2, ⟨(some 10), .p (.faddr 1 (.t 9)), none⟩, 3, 0⟩,
⟨3, ⟨(some 11), .p (.faddr 4 (.t 10)), none⟩, 7, 0⟩,
⟨4, ⟨(some 12), .r (.load none (.t 11)), none⟩, 15, 0⟩,
⟨5, ⟨(some 13), .r (.load (some 20) (.t 4)), none⟩, 0, 0⟩,
⟨6, ⟨(some 14), .r (.load (some 4) (.t 5)), none⟩, 0, 0⟩,
⟨7, ⟨(some 15), .p (.build [.int .u8 (.lit (.ofNat 0)), .int .u8 (.lit (.ofNat 0)), .int .u8 (.lit (.ofNat 0)), .int .u8 (.lit (.ofNat 0)), .int .u8 (.lit (.ofNat 0)), .int .u8 (.lit (.ofNat 0)), .int .u8 (.lit (.ofNat 0)), .int .u8 (.lit (.ofNat 0)), .int .u8 (.lit (.ofNat 0)), .int .u8 (.lit (.ofNat 0)), .int .u8 (.lit (.ofNat 0)), .int .u8 (.lit (.ofNat 0)), .int .u8 (.lit (.ofNat 0)), .int .u8 (.lit (.ofNat 0)), .int .u8 (.lit (.ofNat 0)), .int .u8 (.lit (.ofNat 0)), .int .u8 (.lit (.ofNat 0)), .int .u8 (.lit (.ofNat 0)), .int .u8 (.lit (.ofNat 0)), .int .u8 (.lit (.ofNat 0)), .int .u64 (.lit (.ofNat 0)), .int .u64 (.lit (.ofNat 0)), .int .u64 (.lit (.ofNat 0)), .int .u64 (.lit (.ofNat 0))] [(0, 20, (.t 13)), (20, 4, (.t 14))]), none⟩, 96, 0⟩,
⟨8, ⟨(some 16), .b (.call 202 [(.t 12), (.t 15)]), none⟩, 255, 0⟩,
⟨9, ⟨(some 7), .p (.mv (.t 16)), none⟩, 511, 0⟩]) (.seq (.draw [
⟨0, ⟨(some 17), .p (.mv (.t 0)), none⟩, 0, 0⟩,
⟨1, ⟨(some 18), .p (.mv (.t 0)), none⟩, 0, 0⟩,
⟨2, ⟨(some 19), .p (.nilCheck (.t 18)), none⟩, 2, 0⟩,
⟨3, ⟨(some 20), .p (.faddr 1 (.t 19)), none⟩, 6, 0⟩,
⟨4, ⟨(some 21), .p (.faddr 4 (.t 20)), none⟩, 14, 0⟩,
⟨5, ⟨(some 22), .r (.load none (.t 21)), none⟩, 30, 0⟩,
⟨6, ⟨(some 23), .r (.load (some 20) (.t 4)), none⟩, 0, 0⟩,
⟨7, ⟨(some 24), .r (.load (some 4) (.t 5)), none⟩, 0, 0⟩,
⟨8, ⟨(some 25), .p (.build [.int .u8 (.lit (.ofNat 0)), .int .u8 (.lit (.ofNat 0)), .int .u8 (.lit (.ofNat 0)), .int .u8 (.lit (.ofNat 0)), .int .u8 (.lit (.ofNat 0)), .int .u8 (.lit (.ofNat 0)), .int .u8 (.lit (.ofNat 0)), .int .u8 (.lit (.ofNat 0)), .int .u8 (.lit (.ofNat 0)), .int .u8 (.lit (.ofNat 0)), .int .u8 (.lit (.ofNat 0)), .int .u8 (.lit (.ofNat 0)), .int .u8 (.lit (.ofNat 0)), .int .u8 (.lit (.ofNat 0)), .int .u8 (.lit (.ofNat 0)), .int .u8 (.lit (.ofNat 0)), .int .u8 (.lit (.ofNat 0)), .int .u8 (.lit (.ofNat 0)), .int .u8 (.lit (.ofNat 0)), .int .u8 (.lit (.ofNat 0)), .int .u64 (.lit (.ofNat 0)), .int .u64 (.lit (.ofNat 0)), .int .u64 (.lit (.ofNat 0)), .int .u64 (.lit (.ofNat 0))] [(0, 20, (.t 23)), (20, 4, (.t 24))]), none⟩, 192, 0⟩,
⟨9, ⟨(some 26), .p (.build [] []), none⟩, 0, 0⟩,
⟨10, ⟨(some 27), .b (.call 203 [(.t 17), (.t 22), (.t 25), (.t 26)]), none⟩, 1023, 0⟩]) (.seq (.reg [
oP w28 (pMv g7),
oP w6 (pMv g28)]) (.ret))))⟩
theorem fp167 : ∃ fn, fb167 = denF fn ∧ ∃ func code hint, FnOk Go.Proofs.Tryz.prog TT 167 fn func code hint := f2_mk (func := Go.Proofs.Tryz.f167) (code := bodyOf Go.Proofs.Tryz.f167) (hint := hintL [(1, [(0, 0), (1, 0), (2, 0), (3, 0), (4, 0), (5, 0), (6, 0), (7, 0), (8, 0), (9, 0)]), (2, [(0, 0), (1, 0), (2, 0), (3, 0), (4, 0), (5, 0), (6, 0), (7, 0), (8, 0), (9, 0), (10, 0)])]) (n := 29) (res := [.tmp 6]) Go.Proofs.Tryz.func167 Go.Proofs.Tryz.call167 (by kernel_rfl) (by kernel_rfl) (by kernel_rfl) (by kernel_rfl) (by kernel_rfl)
/- (*quarry/vm.frame).goes -/
def fb175 : AFunc2 := ⟨174, [], .seq (.reg [
oBox w3 30 g1]) (.seq (.seq (.draw [
⟨0, ⟨(some 5), .p (.mv (.t 0)), none⟩, 0, 0⟩,
⟨1, ⟨(some 6), .p (.nilCheck (.t 5)), none⟩, 1, 0⟩,
⟨2, ⟨(some 7), .p (.faddr 0 (.t 6)), none⟩, 3, 0⟩,
⟨3, ⟨(some 8), .r (.load none (.t 7)), none⟩, 7, 0⟩,
⟨4, ⟨(some 9), .b (.call 66 [(.t 8), (.c (.w (.s (.int .i64 (.lit (.ofNat 9))))))]), none⟩, 15, 0⟩,
⟨5, ⟨(some 10), .p (.mv (.t 9)), none⟩, 31, 0⟩,
⟨6, ⟨(some 11), .p (.mv (.t 0)), some (10, true)⟩, 63, 0⟩,
⟨7, ⟨(some 12), .p (.nilCheck (.t 11)), some (10, true)⟩, 127, 0⟩,
⟨8, ⟨(some 13), .p (.faddr 0 (.t 12)), some (10, true)⟩, 255, 0⟩,
⟨9, ⟨(some 14), .r (.load none (.t 13)), some (10, true)⟩, 511, 0⟩,
⟨10, ⟨(some 15), .p (.nilCheck (.t 14)), some (10, true)⟩, 1023, 0⟩,
⟨11, ⟨(some 16), .p (.faddr 89 (.t 15)), some (10, true)⟩, 2047, 0⟩,
⟨12, ⟨(some 17), .r (.load none (.t 16)), some (10, true)⟩, 4095, 0⟩,
⟨13, ⟨(some 18), .r (.load (some 20) (.t 3)), some (10, true)⟩, 63, 0⟩,
⟨14, ⟨(some 19), .b (.call 67 [(.t 17), (.t 18)]), some (10, true)⟩, 16383, 0⟩,
⟨15, ⟨(some 20), .p (.not (.t 19)), some (10, true)⟩, 32767, 0⟩,
⟨16, ⟨(some 21), .p (.pick (.t 10) (.t 20) (.c (.w (.s (.bool false))))), none⟩, 65535, 0⟩]) (.cond g21 (.reg [
oP w22 (pMv g0),
oP w23 (pMv g0),
oP w24 (pGen fun _ t => opNil t (.t 23)),
oP w25 (pFaddr 0 g24),
oR w26 (rLoad none g25),
oP w27 (pGen fun _ t => opNil t (.t 26)),
oP w28 (pFaddr 1 g27),
oP w29 (pFaddr 15 g28),
oR w30 (rLoad none g29),
oCall w31 113 [g22, g30]]) (.skip))) (.seq (.draw [
⟨0, ⟨(some 32), .p (.mv (.t 0)), none⟩, 0, 0⟩,
⟨1, ⟨(some 33), .p (.nilCheck (.t 32)), none⟩, 1, 0⟩,
⟨2, ⟨(some 34), .p (.faddr 0 (.t 33)), none⟩, 3, 0⟩,
⟨3, ⟨(some 35), .r (.load none (.t 34)), none⟩, 7, 0⟩,
⟨4, ⟨(some 36), .p (.nilCheck (.t 35)), none⟩, 15, 0⟩,
⟨5, ⟨(some 37), .p (.faddr 89 (.t 36)), none⟩, 31, 0⟩,
⟨6, ⟨(some 38), .r (.load none (.t 37)), none⟩, 63, 0⟩,
⟨7, ⟨(some 39), .p (.mv (.t 0)), none⟩, 0, 0⟩,
⟨8, ⟨(some 40), .p (.nilCheck (.t 39)), none⟩, 128, 0⟩,
⟨9, ⟨(some 41), .p (.faddr 1 (.t 40)), none⟩, 384, 0⟩,
⟨10, ⟨(some 42), .p (.faddr 20 (.t 41)), none⟩, 896, 0⟩,
⟨11, ⟨(some 43), .r (.load (some 20) (.t 42)), none⟩, 1920, 0⟩,
⟨13, ⟨(some 4), .m (.alloc 24 [.int .u64 (.lit (.ofNat 0)), .int .u64 (.lit (.ofNat 0)), .int .u64 (.lit (.ofNat 0)), .int .u64 (.lit (.ofNat 0))]), none⟩, 0, 1024⟩,
⟨12, ⟨(some 44), .b (.call 34 [(.t 38), (.t 43)]), none⟩, 4095, 0⟩,
⟨14, ⟨none, .b (.store 4 (.t 4) (.t 44)), none⟩, 16383, 0⟩]) (.seq (.seq (.draw [
⟨0, ⟨(some 45), .p (.mv (.t 0)), none⟩, 0, 0⟩,
⟨1, ⟨(some 46), .r (.load (some 20) (.t 3)), none⟩, 0, 0⟩,
⟨2, ⟨(some 47), .r (.load (some 4) (.t 4)), none⟩, 0, 0⟩,
⟨3, ⟨(some 48), .p (.build [.int .u64 (.lit (.ofNat 0)), .int .u64 (.lit (.ofNat 0)), .int .u64 (.lit (.ofNat 0)), .int .u64 (.lit (.ofNat 0))] []), none⟩, 0, 0⟩,
⟨4, ⟨(some 49), .b (.cmp 1 (.agg (.one (.arr 4 22 .u64))) (.t 47) (.t 48)), none⟩, 12, 0⟩,
⟨5, ⟨(some 50), .b (.call 213 [(.t 45), (.t 46), (.t 49)]), none⟩, 31, 0⟩]) (.cond g50 (.reg [
oP w51 (pMv g0),
oP w52 (pMv g0),
oP w53 (pGen fun _ t => opNil t (.t 52)),
oP w54 (pFaddr 0 g53),
oR w55 (rLoad none g54),
oP w56 (pGen fun _ t => opNil t (.t 55)),
oP w57 (pFaddr 1 g56),
oP w58 (pFaddr 19 g57),
oR w59 (rLoad none g58),
oCall w60 113 [g51, g59]]) (.skip))) (.seq (.seq (.draw [
⟨0, ⟨(some 61), .p (.mv (.t 0)), none⟩, 0, 0⟩,
⟨1, ⟨(some 62), .p (.nilCheck (.t 61)), none⟩, 1, 0⟩,
⟨2, ⟨(some 63), .p (.faddr 0 (.t 62)), none⟩, 3, 0⟩,
⟨3, ⟨(some 64), .r (.load none (.t 63)), none⟩, 7, 0⟩,
⟨4, ⟨(some 65), .p (.nilCheck (.t 64)), none⟩, 15, 0⟩,
⟨5, ⟨(some 66), .p (.faddr 89 (.t 65)), none⟩, 31, 0⟩,
⟨6, ⟨(some 67), .r (.load none (.t 66)), none⟩, 63, 0⟩,
⟨7, ⟨(some 68), .p (.mv (.t 0)), none⟩, 0, 0⟩,
⟨8, ⟨(some 69), .p (.nilCheck (.t 68)), none⟩, 128, 0⟩,
⟨9, ⟨(some 70), .p (.faddr 1 (.t 69)), none⟩, 384, 0⟩,
⟨10, ⟨(some 71), .p (.faddr 20 (.t 70)), none⟩, 896, 0⟩,
⟨11, ⟨(some 72), .r (.load (some 20) (.t 71)), none⟩, 1920, 0⟩,
⟨12, ⟨(some 73), .b (.call 25 [(.t 67), (.t 72)]), none⟩, 4095, 0⟩,
⟨13, ⟨(some 74), .p (.not (.t 73)), none⟩, 8191, 0⟩]) (.cond g74 (.draw [
⟨0, ⟨(some 75), .p (.mv (.t 0)), none⟩, 0, 0⟩,
⟨1, ⟨(some 76), .p (.nilCheck (.t 75)), none⟩, 1, 0⟩,
⟨2, ⟨(some 77), .p (.faddr 0 (.t 76)), none⟩, 3, 0⟩,
⟨3, ⟨(some 78), .r (.load none (.t 77)), none⟩, 7, 0⟩,
⟨4, ⟨(some 79), .p (.nilCheck (.t 78)), none⟩, 15, 0⟩,
⟨5, ⟨(some 80), .p (.faddr 89 (.t 79)), none⟩, 31, 0⟩,
⟨6, ⟨(some 81), .r (.load none (.t 80)), none⟩, 63, 0⟩,
⟨7, ⟨(some 82), .p (.mv (.t 0)), none⟩, 0, 0⟩,
⟨8, ⟨(some 83), .p (.nilCheck (.t 82)), none⟩, 128, 0⟩,
⟨9, ⟨(some 84), .p (.faddr 0 (.t 83)), none⟩, 384, 0⟩,
⟨10, ⟨(some 85), .r (.load none (.t 84)), none⟩, 896, 0⟩,
⟨11, ⟨(some 86), .p (.nilCheck (.t 85)), none⟩, 1920, 0⟩,
⟨12, ⟨(some 87), .p (.faddr 1 (.t 86)), none⟩, 3968, 0⟩,
⟨13, ⟨(some 88), .p (.faddr 20 (.t 87)), none⟩, 8064, 0⟩,
⟨14, ⟨(some 89), .r (.load none (.t 88)), none⟩, 16256, 0⟩,
⟨15, ⟨(some 90), .b (.call 205 [(.t 81), (.t 89)]), none⟩, 32767, 0⟩]) (.skip))) (.seq (.draw [
⟨0, ⟨(some 91), .p (.mv (.t 0)), none⟩, 0, 0⟩,
⟨1, ⟨(some 92), .p (.nilCheck (.t 91)), none⟩, 1, 0⟩,
⟨2, ⟨(some 93), .p (.faddr 0 (.t 92)), none⟩, 3, 0⟩,
⟨3, ⟨(some 94), .r (.load none (.t 93)), none⟩, 7, 0⟩,
⟨4, ⟨(some 95), .p (.nilCheck (.t 94)), none⟩, 15, 0⟩,
⟨5, ⟨(some 96), .p (.faddr 89 (.t 95)), none⟩, 31, 0⟩,
⟨6, ⟨(some 97), .r (.load none (.t 96)), none⟩, 63, 0⟩,
⟨7, ⟨(some 98), .r (.load (some 20) (.t 3)), none⟩, 0, 0⟩,
⟨8, ⟨(some 99), .b (.call 83 [(.t 97), (.t 98)]), none⟩, 255, 0⟩]) (.seq (.seq (.draw [
⟨0, ⟨(some 100), .p (.mv (.t 0)), none⟩, 0, 0⟩,
⟨1, ⟨(some 101), .p (.nilCheck (.t 100)), none⟩, 1, 0⟩,
⟨2, ⟨(some 102), .p (.faddr 0 (.t 101)), none⟩, 3, 0⟩,
⟨3, ⟨(some 103), .r (.load none (.t 102)), none⟩, 7, 0⟩,
⟨4, ⟨(some 104), .b (.call 66 [(.t 103), (.c (.w (.s (.int .i64 (.lit (.ofNat 15))))))]), none⟩, 15, 0⟩,
⟨5, ⟨(some 105), .p (.mv (.t 104)), none⟩, 31, 0⟩,
⟨6, ⟨(some 106), .p (.mv (.t 0)), some (105, true)⟩, 63, 0⟩,
⟨7, ⟨(some 107), .p (.nilCheck (.t 106)), some (105, true)⟩, 127, 0⟩,
⟨8, ⟨(some 108), .p (.faddr 0 (.t 107)), some (105, true)⟩, 255, 0⟩,
⟨9, ⟨(some 109), .r (.load none (.t 108)), some (105, true)⟩, 511, 0⟩,
⟨10, ⟨(some 110), .p (.nilCheck (.t 109)), some (105, true)⟩, 1023, 0⟩,
⟨11, ⟨(some 111), .p (.faddr 89 (.t 110)), some (105, true)⟩, 2047, 0⟩,
⟨12, ⟨(some 112), .r (.load none (.t 111)), some (105, true)⟩, 4095, 0⟩,
⟨13, ⟨(some 113), .p (.mv (.t 0)), some (105, true)⟩, 63, 0⟩,
⟨14, ⟨(some 114), .p (.nilCheck (.t 113)), some (105, true)⟩, 8255, 0⟩,
⟨15, ⟨(some 115), .p (.faddr 1 (.t 114)), some (105, true)⟩, 24639, 0⟩,
⟨16, ⟨(some 116), .p (.faddr 20 (.t 115)), some (105, true)⟩, 57407, 0⟩,
⟨17, ⟨(some 117), .r (.load (some 20) (.t 116)), some (105, true)⟩, 122943, 0⟩,
⟨18, ⟨(some 118), .b (.call 214 [(.t 112), (.t 117)]), some (105, true)⟩, 262143, 0⟩,
⟨19, ⟨(some 119), .p (.not (.t 118)), some (105, true)⟩, 524287, 0⟩,
⟨20, ⟨(some 120), .p (.pick (.t 105) (.t 119) (.c (.w (.s (.bool false))))), none⟩, 1048575, 0⟩]) (.cond g120 (.draw [
⟨0, ⟨(some 121), .p (.mv (.t 0)), none⟩, 0, 0⟩,
⟨1, ⟨(some 122), .p (.nilCheck (.t 121)), none⟩, 1, 0⟩,
⟨2, ⟨(some 123), .p (.faddr 0 (.t 122)), none⟩, 3, 0⟩,
⟨3, ⟨(some 124), .r (.load none (.t 123)), none⟩, 7, 0⟩,
⟨4, ⟨(some 125), .p (.mv (.t 0)), none⟩, 0, 0⟩,
⟨5, ⟨(some 126), .p (.nilCheck (.t 125)), none⟩, 16, 0⟩,
⟨6, ⟨(some 127), .p (.faddr 1 (.t 126)), none⟩, 48, 0⟩,
⟨7, ⟨(some 128), .p (.faddr 20 (.t 127)), none⟩, 112, 0⟩,
⟨8, ⟨(some 129), .r (.load (some 20) (.t 128)), none⟩, 240, 0⟩,
⟨9, ⟨(some 130), .r (.load (some 20) (.t 3)), none⟩, 0, 0⟩,
⟨10, ⟨(some 131), .r (.load (some 4) (.t 4)), none⟩, 0, 0⟩,
⟨11, ⟨(some 132), .b (.call 71 [(.t 124), (.t 129), (.t 130), (.t 131)]), none⟩, 2047, 0⟩]) (.seq (.draw [
⟨0, ⟨(some 133), .p (.mv (.t 0)), none⟩, 0, 0⟩,
⟨1, ⟨(some 134), .p (.nilCheck (.t 133)), none⟩, 1, 0⟩,
⟨2, ⟨(some 135), .p (.faddr 0 (.t 134)), none⟩, 3, 0⟩,
⟨3, ⟨(some 136), .r (.load none (.t 135)), none⟩, 7, 0⟩,
⟨4, ⟨(some 137), .p (.mv (.t 0)), none⟩, 0, 0⟩,
⟨5, ⟨(some 138), .p (.nilCheck (.t 137)), none⟩, 16, 0⟩,
⟨6, ⟨(some 139), .p (.faddr 1 (.t 138)), none⟩, 48, 0⟩,
⟨7, ⟨(some 140), .p (.faddr 20 (.t 139)), none⟩, 112, 0⟩,
⟨8, ⟨(some 141), .r (.load (some 20) (.t 140)), none⟩, 240, 0⟩,
⟨9, ⟨(some 142), .r (.load (some 20) (.t 3)), none⟩, 0, 0⟩,
⟨10, ⟨(some 143), .r (.load (some 4) (.t 4)), none⟩, 0, 0⟩,
⟨11, ⟨(some 144), .b (.call 71 [(.t 136), (.t 141), (.t 142), (.t 143)]), none⟩, 2047, 0⟩]) (.seq (.draw [
⟨0, ⟨(some 145), .p (.mv (.t 0)), none⟩, 0, 0⟩,
⟨1, ⟨(some 146), .p (.nilCheck (.t 145)), none⟩, 1, 0⟩,
⟨2, ⟨(some 147), .p (.faddr 0 (.t 146)), none⟩, 3, 0⟩,
⟨3, ⟨(some 148), .r (.load none (.t 147)), none⟩, 7, 0⟩,
⟨4, ⟨(some 149), .p (.nilCheck (.t 148)), none⟩, 15, 0⟩,
⟨5, ⟨(some 150), .p (.faddr 89 (.t 149)), none⟩, 31, 0⟩,
⟨6, ⟨(some 151), .r (.load none (.t 150)), none⟩, 63, 0⟩,
⟨7, ⟨(some 152), .p (.mv (.t 0)), none⟩, 0, 0⟩,
⟨8, ⟨(some 153), .p (.nilCheck (.t 152)), none⟩, 128, 0⟩,
⟨9, ⟨(some 154), .p (.faddr 1 (.t 153)), none⟩, 384, 0⟩,
⟨10, ⟨(some 155), .p (.faddr 20 (.t 154)), none⟩, 896, 0⟩,
⟨11, ⟨(some 156), .r (.load (some 20) (.t 155)), none⟩, 1920, 0⟩,
⟨12, ⟨(some 157), .p (.build [.int .u64 (.lit (.ofNat 0)), .int .u64 (.lit (.ofNat 0)), .int .u64 (.lit (.ofNat 0)), .int .u64 (.lit (.ofNat 0))] []), none⟩, 0, 0⟩,
⟨13, ⟨(some 158), .b (.call 93 [(.t 151), (.t 156), (.t 157)]), none⟩, 8191, 0⟩]) (.draw [
⟨0, ⟨(some 159), .p (.mv (.t 0)), none⟩, 0, 0⟩,
⟨1, ⟨(some 160), .p (.nilCheck (.t 159)), none⟩, 1, 0⟩,
⟨2, ⟨(some 161), .p (.faddr 0 (.t 160)), none⟩, 3, 0⟩,
⟨3, ⟨(some 162), .r (.load none (.t 161)), none⟩, 7, 0⟩,
⟨4, ⟨(some 163), .p (.nilCheck (.t 162)), none⟩, 15, 0⟩,
⟨5, ⟨(some 164), .p (.faddr 89 (.t 163)), none⟩, 31, 0⟩,
⟨6, ⟨(some 165), .r (.load none (.t 164)), none⟩, 63, 0⟩,
⟨7, ⟨(some 166), .p (.mv (.t 0)), none⟩, 0, 0⟩,
⟨8, ⟨(some 167), .p (.nilCheck (.t 166)), none⟩, 128, 0⟩,
⟨9, ⟨(some 168), .p (.faddr 1 (.t 167)), none⟩, 384, 0⟩,
⟨10, ⟨(some 169), .p (.faddr 20 (.t 168)), none⟩, 896, 0⟩,
⟨11, ⟨(some 170), .r (.load (some 20) (.t 169)), none⟩, 1920, 0⟩,
⟨12, ⟨(some 171), .b (.call 215 [(.t 165), (.t 170)]), none⟩, 4095, 0⟩]))))) (.reg [
oP w172 (pMv g0),
oCall w173 145 [g172, (gC (.w (.s (.int .i64 (.lit (.ofNat 0)))))), (gC (.w (.s (.nils))))]])))))))⟩
theorem fp175 : ∃ fn, fb175 = denF fn ∧ ∃ func code hint, FnOk Go.Proofs.Tryz.prog TT 175 fn func code hint := f2_mk (func := Go.Proofs.Tryz.f175) (code := bodyOf Go.Proofs.Tryz.f175) (hint := hintL [(1, [(0, 0), (1, 0), (2, 0), (3, 0), (4, 0), (5, 0), (6, 0), (7, 0), (8, 0), (9, 0), (10, 0), (11, 0), (12, 0), (13, 0), (14, 0), (15, 0), (16, 0)]), (3, [(0, 0), (1, 0), (2, 0), (3, 0), (4, 0), (5, 0), (6, 0), (7, 0), (8, 0), (9, 0), (10, 0), (11, 0), (13, 1024), (12, 0), (14, 0)]), (4, [(0, 0), (1, 0), (2, 0), (3, 0), (4, 0), (5, 0)]), (6, [(0, 0), (1, 0), (2, 0), (3, 0), (4, 0), (5, 0), (6, 0), (7, 0), (8, 0), (9, 0), (10, 0), (11, 0), (12, 0), (13, 0)]), (7, [(0, 0), (1, 0), (2, 0), (3, 0), (4, 0), (5, 0), (6, 0), (7, 0), (8, 0), (9, 0), (10, 0), (11, 0), (12, 0), (13, 0), (14, 0), (15, 0)]), (8, [(0, 0), (1, 0), (2, 0), (3, 0), (4, 0), (5, 0), (6, 0), (7, 0), (8, 0)]), (9, [(0, 0), (1, 0), (2, 0), (3, 0), (4, 0), (5, 0), (6, 0), (7, 0), (8, 0), (9, 0), (10, 0), (11, 0), (12, 0), (13, 0), (14, 0), (15, 0), (16, 0), (17, 0), (18, 0), (19, 0), (20, 0)]), (10, [(0, 0), (1, 0), (2, 0), (3, 0), (4, 0), (5, 0), (6, 0), (7, 0), (8, 0), (9, 0), (10, 0), (11, 0)]), (11, [(0, 0), (1, 0), (2, 0), (3, 0), (4, 0), (5, 0), (6, 0), (7, 0), (8, 0), (9, 0), (10, 0), (11, 0)]), (12, [(0, 0), (1, 0), (2, 0), (3, 0), (4, 0), (5, 0), (6, 0), (7, 0), (8, 0), (9, 0), (10, 0), (11, 0), (12, 0), (13, 0)]), (13, [(0, 0), (1, 0), (2, 0), (3, 0), (4, 0), (5, 0), (6, 0), (7, 0), (8, 0), (9, 0), (10, 0), (11, 0), (12, 0)])]) (n := 174) (res := []) Go.Proofs.Tryz.func175 Go.Proofs.Tryz.call175 (by kernel_rfl) (by kernel_rfl) (by kernel_rfl) (by kernel_rfl) (by kernel_rfl)
/- (*quarry/vm.frame).sends -/
def fb176 : AFunc2 := ⟨145, [], .seq (.reg [
oP w14 (pMv g0),
oCall w15 146 [g14],
oP w16 (pMv g0),
oCall w17 160 [g16],
oAlloc w4 24 [.int .u64 (.lit (.ofNat 0)), .int .u64 (.lit (.ofNat 0)), .int .u64 (.lit (.ofNat 0)), .int .u64 (.lit (.ofNat 0))],
oAlloc w5 30 zz0,
oK wZ (bSt 4 g4 g15),
oK wZ (bSt 20 g5 g17)]) (.seq (.reg [
oP w18 (pBuild [.int .u64 (.lit (.ofNat 0)), .int .u64 (.lit (.ofNat 0)), .int .u64 (.lit (.ofNat 0)), .int .u64 (.lit (.ofNat 0))] []),
oAlloc w6 24 [.int .u64 (.lit (.ofNat 0)), .int .u64 (.lit (.ofNat 0)), .int .u64 (.lit (.ofNat 0)), .int .u64 (.lit (.ofNat 0))],
oK wZ (bSt 4 g6 g18)]) (.seq (.seq (.reg [
oP w19 (pMv g1),
oK w20 (bCmp 0 intEq .eq false g19 (gC (.w (.s (.int .i64 (.lit (.ofNat 241))))))),
oP w21 (pMv g20),
oGd g21 false w22 (oP w22 (pMv g1)),
oGd g21 false w23 (oK w23 (bCmp 0 intEq .eq false g22 (gC (.w (.s (.int .i64 (.lit (.ofNat 242)))))))),
oP w24 (pGen fun _ t => opPick t (.t 21) (.c (.w (.s (.bool true)))) (.t 23))]) (.cond g24 (.reg [
oP w25 (pMv g0),
oCall w26 146 [g25],
oK wZ (bSt 4 g6 g26)]) (.skip))) (.seq (.reg [
oP w27 (pMv g0),
oCall w28 153 [g27],
oP w29 (pMv g0),
oCall w30 153 [g29],
oAlloc w7 225 [.int .u64 (.lit (.ofNat 0)), .int .u64 (.lit (.ofNat 0)), .int .u64 (.lit (.ofNat 0)), .int .u64 (.lit (.ofNat 0)), .int .u64 (.lit (.ofNat 0)), .int .u64 (.lit (.ofNat 0)), .int .u64 (.lit (.ofNat 0)), .int .u64 (.lit (.ofNat 0))],
oAlloc w8 225 [.int .u64 (.lit (.ofNat 0)), .int .u64 (.lit (.ofNat 0)), .int .u64 (.lit (.ofNat 0)), .int .u64 (.lit (.ofNat 0)), .int .u64 (.lit (.ofNat 0)), .int .u64 (.lit (.ofNat 0)), .int .u64 (.lit (.ofNat 0)), .int .u64 (.lit (.ofNat 0))],
oK wZ (bSt 8 g7 g28),
oK wZ (bSt 8 g8 g30)]) (.seq (.reg [
oR w31 (rLoad (some 4) g6),
oP w32 (pBuild [.int .u64 (.lit (.ofNat 0)), .int .u64 (.lit (.ofNat 0)), .int .u64 (.lit (.ofNat 0)), .int .u64 (.lit (.ofNat 0))] []),
oK w33 (b2 (fun x y s K => cmpA 1 (.agg (.one (.arr 4 22 .u64))) x y s fun b s => K (vBool b) s) g31 g32),
oP w9 (pMv g33)]) (.seq (.reg [
oP w34 (pMv g0),
oR w35 (rLoad (some 8) g7),
oR w36 (rLoad (some 8) g8),
oM w37 (.bslice 225 2 [.int .u64 (.lit (.ofNat 0)), .int .u64 (.lit (.ofNat 0)), .int .u64 (.lit (.ofNat 0)), .int .u64 (.lit (.ofNat 0)), .int .u64 (.lit (.ofNat 0)), .int .u64 (.lit (.ofNat 0)), .int .u64 (.lit (.ofNat 0)), .int .u64 (.lit (.ofNat 0))] [(0, 8, (.t 35)), (8, 8, (.t 36))]),
oCall w38 156 [g34, g37]]) (.seq (.reg [
oP w39 (pMv g0),
oR w40 (rLoad (some 20) g5),
oCall w41 161 [g39, g40]]) (.seq (.seq (.reg [
oP w42 (pMv g9)]) (.cond g42 (.reg [
oP w43 (pMv g0),
oCall w44 113 [g43, (gC (.w (.s (.int .u64 (.lit (.ofNat 9000))))))]]) (.skip))) (.seq (.seq (.reg [
oP w45 (pMv g1),
oK w46 (bCmp 0 intEq .eq false g45 (gC (.w (.s (.int .i64 (.lit (.ofNat 241))))))),
oP w47 (pMv g46),
oGd g47 true w48 (oP w48 (pMv g0)),
oGd g47 true w49 (oR w49 (rLoad (some 20) g5)),
oGd g47 true w50 (oP w50 (pMv g9)),
oGd g47 true w51 (oCall w51 213 [g48, g49, g50]),
oP w52 (pGen fun _ t => opPick t (.t 47) (.t 51) (.c (.w (.s (.bool false)))))]) (.cond g52 (.reg [
oP w53 (pMv g0),
oCall w54 113 [g53, (gC (.w (.s (.int .u64 (.lit (.ofNat 25000))))))]]) (.skip))) (.seq (.draw [
⟨0, ⟨(some 56), .p (.mv (.t 0)), none⟩, 0, 0⟩,
⟨1, ⟨(some 57), .p (.nilCheck (.t 56)), none⟩, 1, 0⟩,
⟨2, ⟨(some 58), .p (.faddr 0 (.t 57)), none⟩, 3, 0⟩,
⟨3, ⟨(some 59), .r (.load none (.t 58)), none⟩, 7, 0⟩,
⟨4, ⟨(some 60), .p (.nilCheck (.t 59)), none⟩, 15, 0⟩,
⟨5, ⟨(some 61), .p (.faddr 1 (.t 60)), none⟩, 31, 0⟩,
⟨6, ⟨(some 62), .r (.load (some 26) (.t 61)), none⟩, 63, 0⟩,
⟨7, ⟨(some 63), .p (.mv (.t 0)), none⟩, 0, 0⟩,
⟨8, ⟨(some 64), .p (.nilCheck (.t 63)), none⟩, 128, 0⟩,
⟨9, ⟨(some 65), .p (.faddr 1 (.t 64)), none⟩, 384, 0⟩,
⟨10, ⟨(some 66), .p (.faddr 65 (.t 65)), none⟩, 896, 0⟩,
⟨11, ⟨(some 67), .r (.load none (.t 66)), none⟩, 1920, 0⟩,
⟨12, ⟨(some 68), .r (.load (some 4) (.t 4)), none⟩, 0, 0⟩,
⟨13, ⟨(some 69), .b (.call 17 [(.t 62), (.t 67), (.t 68)]), none⟩, 8191, 0⟩,
⟨14, ⟨(some 55), .p (.mv (.t 69)), none⟩, 16383, 0⟩,
⟨15, ⟨(some 70), .p (.ext (.t 55) 0), none⟩, 32767, 0⟩,
⟨16, ⟨(some 71), .p (.ext (.t 55) 1), none⟩, 32767, 0⟩,
⟨17, ⟨(some 10), .p (.mv (.t 70)), none⟩, 65535, 0⟩,
⟨18, ⟨(some 11), .p (.mv (.t 71)), none⟩, 262143, 0⟩]) (.seq (.reg [
oP w72 (pMv g11),
oCall w73 111 [g72]]) (.seq (.reg [
oP w74 (pMv g0),
oP w75 (pMv g10),
oCall w76 113 [g74, g75]]) (.seq (.seq (.reg [
oP w77 (pMv g9)]) (.cond g77 (.reg [
oP w78 (pMv g10),
oP w79 (pAr 0 g78 (gC (.w (.s (.int .u64 (.lit (.ofNat 2300))))))),
oP w10 (pMv g79)]) (.skip))) (.seq (.draw [
⟨0, ⟨(some 80), .p (.mv (.t 0)), none⟩, 0, 0⟩,
⟨1, ⟨(some 81), .p (.nilCheck (.t 80)), none⟩, 1, 0⟩,
⟨2, ⟨(some 82), .p (.faddr 1 (.t 81)), none⟩, 3, 0⟩,
⟨3, ⟨(some 83), .p (.faddr 20 (.t 82)), none⟩, 7, 0⟩,
⟨4, ⟨(some 84), .r (.load (some 20) (.t 83)), none⟩, 15, 0⟩,
⟨5, ⟨(some 85), .r (.load (some 20) (.t 5)), none⟩, 0, 0⟩,
⟨6, ⟨(some 86), .r (.load (some 20) (.t 5)), none⟩, 0, 0⟩,
⟨7, ⟨(some 87), .r (.load (some 4) (.t 6)), none⟩, 0, 0⟩,
⟨8, ⟨(some 88), .p (.mv (.t 0)), none⟩, 0, 0⟩,
⟨9, ⟨(some 89), .r (.load (some 8) (.t 7)), none⟩, 0, 0⟩,
⟨12, ⟨(some 92), .p (.mv (.t 10)), none⟩, 0, 0⟩,
⟨13, ⟨(some 93), .p (.mv (.t 0)), none⟩, 0, 0⟩,
⟨14, ⟨(some 94), .p (.nilCheck (.t 93)), none⟩, 8192, 0⟩,
⟨15, ⟨(some 95), .p (.faddr 1 (.t 94)), none⟩, 24576, 0⟩,
⟨16, ⟨(some 96), .p (.faddr 66 (.t 95)), none⟩, 57344, 0⟩,
⟨17, ⟨(some 97), .r (.load none (.t 96)), none⟩, 122880, 0⟩,
⟨18, ⟨(some 98), .p (.mv (.t 0)), none⟩, 0, 0⟩,
⟨19, ⟨(some 99), .p (.nilCheck (.t 98)), none⟩, 262144, 0⟩,
⟨20, ⟨(some 100), .p (.faddr 1 (.t 99)), none⟩, 786432, 0⟩,
⟨21, ⟨(some 101), .p (.faddr 67 (.t 100)), none⟩, 1835008, 0⟩,
⟨22, ⟨(some 102), .r (.load none (.t 101)), none⟩, 3932160, 0⟩,
⟨23, ⟨(some 103), .p (.ar 0 (.t 102) (.c (.w (.s (.int .i64 (.lit (.ofNat 1))))))), none⟩, 8126464, 0⟩,
⟨25, ⟨(some 12), .m (.alloc 129 [.int .u8 (.lit (.ofNat 0)), .int .u8 (.lit (.ofNat 0)), .int .u8 (.lit (.ofNat 0)), .int .u8 (.lit (.ofNat 0)), .int .u8 (.lit (.ofNat 0)), .int .u8 (.lit (.ofNat 0)), .int .u8 (.lit (.ofNat 0)), .int .u8 (.lit (.ofNat 0)), .int .u8 (.lit (.ofNat 0)), .int .u8 (.lit (.ofNat 0)), .int .u8 (.lit (.ofNat 0)), .int .u8 (.lit (.ofNat 0)), .int .u8 (.lit (.ofNat 0)), .int .u8 (.lit (.ofNat 0)), .int .u8 (.lit (.ofNat 0)), .int .u8 (.lit (.ofNat 0)), .int .u8 (.lit (.ofNat 0)), .int .u8 (.lit (.ofNat 0)), .int .u8 (.lit (.ofNat 0)), .int .u8 (.lit (.ofNat 0)), .int .u8 (.lit (.ofNat 0)), .int .u8 (.lit (.ofNat 0)), .int .u8 (.lit (.ofNat 0)), .int .u8 (.lit (.ofNat 0)), .int .u8 (.lit (.ofNat 0)), .int .u8 (.lit (.ofNat 0)), .int .u8 (.lit (.ofNat 0)), .int .u8 (.lit (.ofNat 0)), .int .u8 (.lit (.ofNat 0)), .int .u8 (.lit (.ofNat 0)), .int .u8 (.lit (.ofNat 0)), .int .u8 (.lit (.ofNat 0)), .int .u8 (.lit (.ofNat 0)), .int .u8 (.lit (.ofNat 0)), .int .u8 (.lit (.ofNat 0)), .int .u8 (.lit (.ofNat 0)), .int .u8 (.lit (.ofNat 0)), .int .u8 (.lit (.ofNat 0)), .int .u8 (.lit (.ofNat 0)), .int .u8 (.lit (.ofNat 0)), .int .u8 (.lit (.ofNat 0)), .int .u8 (.lit (.ofNat 0)), .int .u8 (.lit (.ofNat 0)), .int .u8 (.lit (.ofNat 0)), .int .u8 (.lit (.ofNat 0)), .int .u8 (.lit (.ofNat 0)), .int .u8 (.lit (.ofNat 0)), .int .u8 (.lit (.ofNat 0)), .int .u8 (.lit (.ofNat 0)), .int .u8 (.lit (.ofNat 0)), .int .u8 (.lit (.ofNat 0)), .int .u8 (.lit (.ofNat 0)), .int .u8 (.lit (.ofNat 0)), .int .u8 (.lit (.ofNat 0)), .int .u8 (.lit (.ofNat 0)), .int .u8 (.lit (.ofNat 0)), .int .u8 (.lit (.ofNat 0)), .int .u8 (.lit (.ofNat 0)), .int .u8 (.lit (.ofNat 0)), .int .u8 (.lit (.ofNat 0)), .int .u64 (.lit (.ofNat 0)), .int .u64 (.lit (.ofNat 0)), .int .u64 (.lit (.ofNat 0)), .int .u64 (.lit (.ofNat 0)), .nils, .int .u64 (.lit (.ofNat 0)), .bool false, .int .i64 (.lit (.ofNat 0))]), none⟩, 0, 2048⟩,
⟨10, ⟨(some 90), .b (.call 158 [(.t 88), (.t 89)]), none⟩, 768, 0⟩,
⟨11, ⟨(some 91), .b (.append 5 1 1 (.c (.w (.s (.nils)))) (.t 90)), none⟩, 1792, 0⟩,
⟨24, ⟨(some 104), .p (.build [.int .u8 (.lit (.ofNat 0)), .int .u8 (.lit (.ofNat 0)), .int .u8 (.lit (.ofNat 0)), .int .u8 (.lit (.ofNat 0)), .int .u8 (.lit (.ofNat 0)), .int .u8 (.lit (.ofNat 0)), .int .u8 (.lit (.ofNat 0)), .int .u8 (.lit (.ofNat 0)), .int .u8 (.lit (.ofNat 0)), .int .u8 (.lit (.ofNat 0)), .int .u8 (.lit (.ofNat 0)), .int .u8 (.lit (.ofNat 0)), .int .u8 (.lit (.ofNat 0)), .int .u8 (.lit (.ofNat 0)), .int .u8 (.lit (.ofNat 0)), .int .u8 (.lit (.ofNat 0)), .int .u8 (.lit (.ofNat 0)), .int .u8 (.lit (.ofNat 0)), .int .u8 (.lit (.ofNat 0)), .int .u8 (.lit (.ofNat 0)), .int .u8 (.lit (.ofNat 0)), .int .u8 (.lit (.ofNat 0)), .int .u8 (.lit (.ofNat 0)), .int .u8 (.lit (.ofNat 0)), .int .u8 (.lit (.ofNat 0)), .int .u8 (.lit (.ofNat 0)), .int .u8 (.lit (.ofNat 0)), .int .u8 (.lit (.ofNat 0)), .int .u8 (.lit (.ofNat 0)), .int .u8 (.lit (.ofNat 0)), .int .u8 (.lit (.ofNat 0)), .int .u8 (.lit (.ofNat 0)), .int .u8 (.lit (.ofNat 0)), .int .u8 (.lit (.ofNat 0)), .int .u8 (.lit (.ofNat 0)), .int .u8 (.lit (.ofNat 0)), .int .u8 (.lit (.ofNat 0)), .int .u8 (.lit (.ofNat 0)), .int .u8 (.lit (.ofNat 0)), .int .u8 (.lit (.ofNat 0)), .int .u8 (.lit (.ofNat 0)), .int .u8 (.lit (.ofNat 0)), .int .u8 (.lit (.ofNat 0)), .int .u8 (.lit (.ofNat 0)), .int .u8 (.lit (.ofNat 0)), .int .u8 (.lit (.ofNat 0)), .int .u8 (.lit (.ofNat 0)), .int .u8 (.lit (.ofNat 0)), .int .u8 (.lit (.ofNat 0)), .int .u8 (.lit (.ofNat 0)), .int .u8 (.lit (.ofNat 0)), .int .u8 (.lit (.ofNat 0)), .int .u8 (.lit (.ofNat 0)), .int .u8 (.lit (.ofNat 0)), .int .u8 (.lit (.ofNat 0)), .int .u8 (.lit (.ofNat 0)), .int .u8 (.lit (.ofNat 0)), .int .u8 (.lit (.ofNat 0)), .int .u8 (.lit (.ofNat 0)), .int .u8 (.lit (.ofNat 0)), .int .u64 (.lit (.ofNat 0)), .int .u64 (.lit (.ofNat 0)), .int .u64 (.lit (.ofNat 0)), .int .u64 (.lit (.ofNat 0)), .nils, .int .u64 (.lit (.ofNat 0)), .bool false, .int .i64 (.lit (.ofNat 0))] [(0, 20, (.t 84)), (20, 20, (.t 85)), (40, 20, (.t 86)), (60, 4, (.t 87)), (64, 1, (.t 91)), (65, 1, (.t 92)), (66, 1, (.t 97)), (67, 1, (.t 103))]), none⟩, 16777215, 0⟩,
⟨26, ⟨none, .b (.store 68 (.t 12) (.t 104)), none⟩, 67108863, 0⟩]) (.seq (.reg [
oP w105 (pMv g10),
oCall w106 64 [g105],
oAlloc w13 131 [.int .i64 (.lit (.ofNat 0)), .nils, .int .u64 (.lit (.ofNat 0)), .int .u8 (.lit (.ofNat 0)), .int .u8 (.lit (.ofNat 0)), .int .u8 (.lit (.ofNat 0)), .int .u8 (.lit (.ofNat 0)), .int .u8 (.lit (.ofNat 0)), .int .u8 (.lit (.ofNat 0)), .int .u8 (.lit (.ofNat 0)), .int .u8 (.lit (.ofNat 0)), .int .u8 (.lit (.ofNat 0)), .int .u8 (.lit (.ofNat 0)), .int .u8 (.lit (.ofNat 0)), .int .u8 (.lit (.ofNat 0)), .int .u8 (.lit (.ofNat 0)), .int .u8 (.lit (.ofNat 0)), .int .u8 (.lit (.ofNat 0)), .int .u8 (.lit (.ofNat 0)), .int .u8 (.lit (.ofNat 0)), .int .u8 (.lit (.ofNat 0)), .int .u8 (.lit (.ofNat 0)), .int .u8 (.lit (.ofNat 0))],
oK wZ (bSt 23 g13 g106)]) (.seq (.seq (.reg [
oP w107 (pMv g0),
oP w108 (pGen fun _ t => opNil t (.t 107)),
oP w109 (pFaddr 1 g108),
oP w110 (pFaddr 67 g109),
oR w111 (rLoad none g110),
oK w112 (bCmp 2 lLt cGe true g111 (gC (.w (.s (.int .i64 (.lit (.ofNat 1024)))))))]) (.cond g112 (.reg [
oP w113 (pMv g0),
oP w114 (pMv g1),
oR w115 (rLoad (some 68) g12),
oCall w116 216 [g113, g114, g115],
oK wZ (bSt 23 g13 g116)]) (.skip))) (.seq (.draw [
⟨0, ⟨(some 117), .p (.mv (.t 0)), none⟩, 0, 0⟩,
⟨1, ⟨(some 118), .p (.nilCheck (.t 117)), none⟩, 1, 0⟩,
⟨2, ⟨(some 119), .p (.faddr 1 (.t 118)), none⟩, 3, 0⟩,
⟨3, ⟨(some 120), .p (.faddr 65 (.t 119)), none⟩, 7, 0⟩,
⟨4, ⟨(some 121), .r (.load none (.t 120)), none⟩, 15, 0⟩,
⟨5, ⟨(some 122), .p (.faddr 2 (.t 13)), none⟩, 0, 0⟩,
⟨6, ⟨(some 123), .r (.load none (.t 122)), none⟩, 32, 0⟩,
⟨7, ⟨(some 124), .p (.ar 0 (.t 121) (.t 123)), none⟩, 127, 0⟩,
⟨8, ⟨(some 125), .p (.nilCheck (.t 117)), none⟩, 255, 0⟩,
⟨9, ⟨(some 126), .p (.faddr 1 (.t 125)), none⟩, 511, 0⟩,
⟨10, ⟨(some 127), .p (.faddr 65 (.t 126)), none⟩, 1023, 0⟩,
⟨11, ⟨none, .b (.store 1 (.t 127) (.t 124)), none⟩, 2047, 0⟩]) (.seq (.reg [
oP w128 (pMv g0),
oP w129 (pFaddr 1 g13),
oR w130 (rLoad none g129),
oP w131 (pGen fun _ t => opNil t (.t 128)),
oP w132 (pFaddr 72 g131),
oK wZ (bSt 1 g132 g130)]) (.seq (.draw [
⟨0, ⟨(some 133), .p (.mv (.t 0)), none⟩, 0, 0⟩,
⟨1, ⟨(some 134), .r (.load (some 8) (.t 8)), none⟩, 0, 0⟩,
⟨3, ⟨(some 136), .p (.faddr 1 (.t 13)), none⟩, 0, 0⟩,
⟨4, ⟨(some 137), .r (.load none (.t 136)), none⟩, 8, 0⟩,
⟨2, ⟨(some 135), .b (.call 158 [(.t 133), (.t 134)]), none⟩, 3, 0⟩,
⟨5, ⟨(some 138), .b (.copy 1 (.t 135) (.t 137)), none⟩, 31, 0⟩]) (.reg [
oP w139 (pMv g0),
oP w140 (pFaddr 0 g13),
oR w141 (rLoad none g140),
oK w142 (bCmp 0 intEq .eq false g141 (gC (.w (.s (.int .i64 (.lit (.ofNat 0))))))),
oCall w143 149 [g142],
oCall w144 120 [g139, g143]])))))))))))))))))))⟩
theorem fp176 : ∃ fn, fb176 = denF fn ∧ ∃ func code hint, FnOk Go.Proofs.Tryz.prog TT 176 fn func code hint := f2_mk (func := Go.Proofs.Tryz.f176) (code := bodyOf Go.Proofs.Tryz.f176) (hint := hintL [(12, [(0, 0), (1, 0), (2, 0), (3, 0), (4, 0), (5, 0), (6, 0), (7, 0), (8, 0), (9, 0), (10, 0), (11, 0), (12, 0), (13, 0), (14, 0), (15, 0), (16, 0), (17, 0), (18, 0)]), (17, [(0, 0), (1, 0), (2, 0), (3, 0), (4, 0), (5, 0), (6, 0), (7, 0), (8, 0), (9, 0), (12, 0), (13, 0), (14, 0), (15, 0), (16, 0), (17, 0), (18, 0), (19, 0), (20, 0), (21, 0), (22, 0), (23, 0), (25, 2048), (10, 0), (11, 0), (24, 0), (26, 0)]), (21, [(0, 0), (1, 0), (2, 0), (3, 0), (4, 0), (5, 0), (6, 0), (7, 0), (8, 0), (9, 0), (10, 0), (11, 0)]), (23, [(0, 0), (1, 0), (3, 0), (4, 0), (2, 0), (5, 0)])]) (n := 145) (res := []) Go.Proofs.Tryz.func176 Go.Proofs.Tryz.call176 (by kernel_rfl) (by kernel_rfl) (by kernel_rfl) (by kernel_rfl) (by kernel_rfl)
/- quarry/pre.Price -/
def fb180 : AFunc2 := ⟨86, [.tmp g6, .tmp g7], .seq (.reg [
oP w6 (pMv (gC (.w (.s (.int .u64 (.lit (.ofNat 0))))))),
oP w7 (pMv (gC (.w (.s (.int .i64 (.lit (.ofNat 0)))))))]) (.seq (.seq (.reg [
oP w12 (pMv g1),
oK w13 (bCmp 2 lLt cGe true g12 (gC (.w (.s (.int .i64 (.lit (.ofNat 1))))))),
oP w14 (pMv g13),
oGd g14 false w15 (oP w15 (pMv g1)),
oGd g14 false w16 (oK w16 (bCmp 4 nLe .le true g15 (gC (.w (.s (.int .i64 (.lit (.ofNat 10)))))))),
oP w17 (pGen fun _ t => opPick t (.t 14) (.c (.w (.s (.bool true)))) (.t 16)),
oP w18 (pMv g17),
oGd g18 false w19 (oP w19 (pMv g0)),
oGd g18 false w20 (oP w20 (pMv g1)),
oGd g18 false w21 (oP w21 (pConv .u8 g20)),
oGd g18 false w22 (oP w22 (pBuild zz0 [(19, 1, g21)])),
oGd g18 false w23 (oCall w23 80 [g19, g22]),
oGd g18 false w24 (oP w24 (pMv g1)),
oGd g18 false w25 (oK w25 (bCmp 1 nEq .eq true g23 g24)),
oP w26 (pGen fun _ t => opPick t (.t 18) (.c (.w (.s (.bool true)))) (.t 25))]) (.cond g26 (.seq (.reg [
oP w6 (pMv (gC (.w (.s (.int .u64 (.lit (.ofNat 0))))))),
oP w7 (pMv (gC (.w (.s (.int .i64 (.lit (.ofNat 1)))))))]) (.ret)) (.skip))) (.seq (.reg [
oP w27 (pMv g2),
oP w28 (pGen fun _ t => opLen t (.t 27)),
oP w29 (pAr 0 g28 (gC (.w (.s (.int .i64 (.lit (.ofNat 32))))))),
oP w30 (pAr 1 g29 (gC (.w (.s (.int .i64 (.lit (.ofNat 1))))))),
oP w31 (pGen fun φ t => opDv φ t (.t 30) (.c (.w (.s (.int .i64 (.lit (.ofNat 32))))))),
oP w8 (pMv g31)]) (.seq (.reg [
oP w32 (pMv g0),
oK w33 (bCmp 5 gLe cGe false g32 (gC (.w (.s (.int .i64 (.lit (.ofNat 7))))))),
oAlloc w9 4 [.bool false],
oK wZ (bSt 1 g9 g33)]) (.seq (.reg [
oP w34 (pGen fun _ t => opMkfn t 223 [(.t 9)]),
oP w10 (pMv g34)]) (.seq (.reg [
oP w11 (pMv (gC (.w (.s (.int .u64 (.lit (.ofNat 0)))))))]) (.seq (.seq (.reg [
oP w35 (pMv g1)]) (.block 0 (.seq (.reg [
oK w37 (bCmp 0 intEq .eq false g35 (gC (.w (.s (.int .i64 (.lit (.ofNat 1))))))),
oP w36 (pMv g37)]) (.cond g36 (.reg [
oP w11 (pMv (gC (.w (.s (.int .u64 (.lit (.ofNat 3000)))))))]) (.seq (.reg [
oK w39 (bCmp 0 intEq .eq false g35 (gC (.w (.s (.int .i64 (.lit (.ofNat 2))))))),
oP w38 (pMv g39)]) (.cond g38 (.reg [
oP w40 (pMv g8),
oCall w41 224 [(gC (.w (.s (.int .u64 (.lit (.ofNat 60)))))), (gC (.w (.s (.int .u64 (.lit (.ofNat 12)))))), g40],
oP w11 (pMv g41)]) (.seq (.reg [
oK w43 (bCmp 0 intEq .eq false g35 (gC (.w (.s (.int .i64 (.lit (.ofNat 3))))))),
oP w42 (pMv g43)]) (.cond g42 (.reg [
oP w44 (pMv g8),
oCall w45 224 [(gC (.w (.s (.int .u64 (.lit (.ofNat 600)))))), (gC (.w (.s (.int .u64 (.lit (.ofNat 120)))))), g44],
oP w11 (pMv g45)]) (.seq (.reg [
oK w47 (bCmp 0 intEq .eq false g35 (gC (.w (.s (.int .i64 (.lit (.ofNat 4))))))),
oP w46 (pMv g47)]) (.cond g46 (.reg [
oP w48 (pMv g8),
oCall w49 224 [(gC (.w (.s (.int .u64 (.lit (.ofNat 15)))))), (gC (.w (.s (.int .u64 (.lit (.ofNat 3)))))), g48],
oP w11 (pMv g49)]) (.seq (.reg [
oK w51 (bCmp 0 intEq .eq false g35 (gC (.w (.s (.int .i64 (.lit (.ofNat 5))))))),
oP w50 (pMv g51)]) (.cond g50 (.reg [
oP w52 (pMv g2),
oCall w53 225 [g52],
oP w54 (pMv g0),
oK w55 (bCmp 5 gLe cGe false g54 (gC (.w (.s (.int .i64 (.lit (.ofNat 9))))))),
oCall w56 226 [g53, g55],
oP w11 (pMv g56)]) (.seq (.reg [
oK w58 (bCmp 0 intEq .eq false g35 (gC (.w (.s (.int .i64 (.lit (.ofNat 6))))))),
oP w57 (pMv g58)]) (.cond g57 (.reg [
oP w59 (pMv g10),
oCallv w60 g59 [(gC (.w (.s (.int .u64 (.lit (.ofNat 150)))))), (gC (.w (.s (.int .u64 (.lit (.ofNat 500))))))],
oP w11 (pMv g60)]) (.seq (.reg [
oK w62 (bCmp 0 intEq .eq false g35 (gC (.w (.s (.int .i64 (.lit (.ofNat 7))))))),
oP w61 (pMv g62)]) (.cond g61 (.reg [
oP w63 (pMv g10),
oCallv w64 g63 [(gC (.w (.s (.int .u64 (.lit (.ofNat 6000)))))), (gC (.w (.s (.int .u64 (.lit (.ofNat 40000))))))],
oP w11 (pMv g64)]) (.seq (.reg [
oK w66 (bCmp 0 intEq .eq false g35 (gC (.w (.s (.int .i64 (.lit (.ofNat 8))))))),
oP w65 (pMv g66)]) (.cond g65 (.reg [
oP w67 (pMv g10),
oCallv w68 g67 [(gC (.w (.s (.int .u64 (.lit (.ofNat 45000)))))), (gC (.w (.s (.int .u64 (.lit (.ofNat 100000))))))],
oP w69 (pMv g10),
oCallv w70 g69 [(gC (.w (.s (.int .u64 (.lit (.ofNat 34000)))))), (gC (.w (.s (.int .u64 (.lit (.ofNat 80000))))))],
oP w71 (pMv g2),
oP w72 (pGen fun _ t => opLen t (.t 71)),
oP w73 (pGen fun φ t => opDv φ t (.t 72) (.c (.w (.s (.int .i64 (.lit (.ofNat 192))))))),
oCall w74 224 [g68, g70, g73],
oP w11 (pMv g74)]) (.seq (.reg [
oK w76 (bCmp 0 intEq .eq false g35 (gC (.w (.s (.int .i64 (.lit (.ofNat 9))))))),
oP w75 (pMv g76)]) (.cond g75 (.seq (.reg [
oP w77 (pMv g2),
oP w78 (pGen fun _ t => opLen t (.t 77)),
oK w79 (bCmp 0 intEq .eq false g78 (gC (.w (.s (.int .i64 (.lit (.ofNat 213)))))))]) (.cond g79 (.reg [
oP w80 (pMv g2),
oP w81 (pGen fun _ t => opSlice t 1 (.t 80) none (some (.c (.w (.s (.int .i64 (.lit (.ofNat 4)))))))),
oCall w82 227 [g81],
oP w11 (pMv g82)]) (.skip))) (.seq (.reg [
oK w84 (bCmp 0 intEq .eq false g35 (gC (.w (.s (.int .i64 (.lit (.ofNat 10))))))),
oP w83 (pMv g84)]) (.cond g83 (.reg [
oP w11 (pMv (gC (.w (.s (.int .u64 (.lit (.ofNat 50000)))))))]) (.skip))))))))))))))))))))))) (.seq (.reg [
oP w85 (pMv g11),
oP w6 (pMv g85),
oP w7 (pMv (gC (.w (.s (.int .i64 (.lit (.ofNat 0)))))))]) (.ret))))))))⟩
theorem fp180 : ∃ fn, fb180 = denF fn ∧ ∃ func code hint, FnOk Go.Proofs.Tryz.prog TT 180 fn func code hint := f2_mk (func := Go.Proofs.Tryz.f180) (code := bodyOf Go.Proofs.Tryz.f180) (hint := hintL []) (n := 86) (res := [.tmp 6, .tmp 7]) Go.Proofs.Tryz.func180 Go.Proofs.Tryz.call180 (by kernel_rfl) (by kernel_rfl) (by kernel_rfl) (by kernel_rfl) (by kernel_rfl)
/- quarry/pre.copied -/
def fb184 : AFunc2 := ⟨6, [.tmp g2, .tmp g3], .seq (.reg [
oP w2 (pMv (gC (.w (.s (.nils))))),
oP w3 (pMv (gC (.w (.s (.bool false)))))]) (.seq (.reg [
oP w4 (pMv g0),
oCall w5 234 [g4],
oP w2 (pMv g5),
oP w3 (pMv (gC (.w (.s (.bool true)))))]) (.ret))⟩
theorem fp184 : ∃ fn, fb184 = denF fn ∧ ∃ func code hint, FnOk Go.Proofs.Tryz.prog TT 184 fn func code hint := f2_mk (func := Go.Proofs.Tryz.f184) (code := bodyOf Go.Proofs.Tryz.f184) (hint := hintL []) (n := 6) (res := [.tmp 2, .tmp 3]) Go.Proofs.Tryz.func184 Go.Proofs.Tryz.call184 (by kernel_rfl) (by kernel_rfl) (by kernel_rfl) (by kernel_rfl) (by kernel_rfl)
/- quarry/word.Wide -/
def fb191 : AFunc2 := ⟨72, [.cell (rLoad (some 4) g4), .cell (rLoad (some 4) g5)], .seq (.reg [
oBox w2 24 g0,
oBox w3 24 g1,
oAlloc w4 24 [.int .u64 (.lit (.ofNat 0)), .int .u64 (.lit (.ofNat 0)), .int .u64 (.lit (.ofNat 0)), .int .u64 (.lit (.ofNat 0))],
oAlloc w5 24 [.int .u64 (.lit (.ofNat 0)), .int .u64 (.lit (.ofNat 0)), .int .u64 (.lit (.ofNat 0)), .int .u64 (.lit (.ofNat 0))]]) (.seq (.reg [
oAlloc w6 312 [.int .u64 (.lit (.ofNat 0)), .int .u64 (.lit (.ofNat 0)), .int .u64 (.lit (.ofNat 0)), .int .u64 (.lit (.ofNat 0)), .int .u64 (.lit (.ofNat 0)), .int .u64 (.lit (.ofNat 0)), .int .u64 (.lit (.ofNat 0)), .int .u64 (.lit (.ofNat 0))]]) (.seq (.seq (.reg [
oR w15 (rLoad (some 4) g2),
oP w16 (pMv (gC (.w (.s (.int .i64 (.lit (.ofNat 0)))))))]) (.block 0 (.loop (.seq (.reg [
oK w17 (bCmp 2 lLt cGe true g16 (gC (.w (.s (.int .i64 (.lit (.ofNat 4)))))))]) (.seq (.cond g17 (.skip) (.exit 0)) (.seq (.block 1 (.seq (.reg [
oP w18 (pMv g16),
oP w19 (pIndex none 4 1 g15 g16),
oP w7 (pMv g18),
oP w8 (pMv g19)]) (.seq (.reg [
oP w9 (pMv (gC (.w (.s (.int .u64 (.lit (.ofNat 0)))))))]) (.seq (.seq (.reg [
oR w20 (rLoad (some 4) g3),
oP w21 (pMv (gC (.w (.s (.int .i64 (.lit (.ofNat 0)))))))]) (.block 2 (.loop (.seq (.reg [
oK w22 (bCmp 2 lLt cGe true g21 (gC (.w (.s (.int .i64 (.lit (.ofNat 4)))))))]) (.seq (.cond g22 (.skip) (.exit 2)) (.seq (.block 3 (.seq (.reg [
oP w23 (pMv g21),
oP w24 (pIndex none 4 1 g20 g21),
oP w10 (pMv g23),
oP w11 (pMv g24)]) (.seq (.reg [
oP w26 (pMv g8),
oP w27 (pMv g11),
oCall w28 253 [g26, g27],
oP w25 (pMv g28),
oP w29 (pExt g25 0),
oP w30 (pExt g25 1),
oP w12 (pMv g29),
oP w13 (pMv g30)]) (.seq (.reg [
oP w14 (pMv (gC (.w (.s (.int .u64 (.lit (.ofNat 0)))))))]) (.seq (.reg [
oP w32 (pMv g13),
oP w33 (pMv g7),
oP w34 (pMv g10),
oP w35 (pAr 0 g33 g34),
oP w36 (pIaddrA 8 1 g6 g35),
oR w37 (rLoad none g36),
oCall w38 129 [g32, g37, (gC (.w (.s (.int .u64 (.lit (.ofNat 0))))))],
oP w31 (pMv g38),
oP w39 (pExt g31 0),
oP w40 (pExt g31 1),
oP w13 (pMv g39),
oP w14 (pMv g40)]) (.seq (.reg [
oP w41 (pMv g12),
oP w42 (pMv g14),
oP w43 (pAr 0 g41 g42),
oP w12 (pMv g43)]) (.seq (.reg [
oP w45 (pMv g13),
oP w46 (pMv g9),
oCall w47 129 [g45, g46, (gC (.w (.s (.int .u64 (.lit (.ofNat 0))))))],
oP w44 (pMv g47),
oP w48 (pExt g44 0),
oP w49 (pExt g44 1),
oP w13 (pMv g48),
oP w14 (pMv g49)]) (.reg [
oP w50 (pMv g7),
oP w51 (pMv g10),
oP w52 (pAr 0 g50 g51),
oP w53 (pMv g13),
oP w54 (pMv g12),
oP w55 (pMv g14),
oP w56 (pAr 0 g54 g55),
oP w57 (pIaddrA 8 1 g6 g52),
oK wZ (bSt 1 g57 g53),
oP w9 (pMv g56)])))))))) (.reg [
oP w58 (pAr 0 g21 (gC (.w (.s (.int .i64 (.lit (.ofNat 1))))))),
oP w21 (pMv g58)]))))))) (.reg [
oP w59 (pMv g7),
oP w60 (pAr 0 g59 (gC (.w (.s (.int .i64 (.lit (.ofNat 4))))))),
oP w61 (pMv g9),
oP w62 (pIaddrA 8 1 g6 g60),
oK wZ (bSt 1 g62 g61)]))))) (.reg [
oP w63 (pAr 0 g16 (gC (.w (.s (.int .i64 (.lit (.ofNat 1))))))),
oP w16 (pMv g63)]))))))) (.seq (.draw [
⟨0, ⟨(some 64), .p (.aslice 4 1 (.t 5) none none), none⟩, 0, 0⟩,
⟨1, ⟨(some 65), .p (.aslice 8 1 (.t 6) none (some (.c (.w (.s (.int .i64 (.lit (.ofNat 4)))))))), none⟩, 0, 0⟩,
⟨2, ⟨(some 66), .b (.copy 1 (.t 64) (.t 65)), none⟩, 3, 0⟩]) (.seq (.draw [
⟨0, ⟨(some 67), .p (.aslice 4 1 (.t 4) none none), none⟩, 0, 0⟩,
⟨1, ⟨(some 68), .p (.aslice 8 1 (.t 6) (some (.c (.w (.s (.int .i64 (.lit (.ofNat 4))))))) none), none⟩, 0, 0⟩,
⟨2, ⟨(some 69), .b (.copy 1 (.t 67) (.t 68)), none⟩, 3, 0⟩]) (.seq (.reg [
oR w70 (rLoad (some 4) g4),
oR w71 (rLoad (some 4) g5),
oK wZ (bSt 4 g4 g70),
oK wZ (bSt 4 g5 g71)]) (.ret))))))⟩
theorem fp191 : ∃ fn, fb191 = denF fn ∧ ∃ func code hint, FnOk Go.Proofs.Tryz.prog TT 191 fn func code hint := f2_mk (func := Go.Proofs.Tryz.f191) (code := bodyOf Go.Proofs.Tryz.f191) (hint := hintL [(18, [(0, 0), (1, 0), (2, 0)]), (19, [(0, 0), (1, 0), (2, 0)])]) (n := 72) (res := [.cell 4 (some 4), .cell 5 (some 4)]) Go.Proofs.Tryz.func191 Go.Proofs.Tryz.call191 (by kernel_rfl) (by kernel_rfl) (by kernel_rfl) (by kernel_rfl) (by kernel_rfl)
/- quarry/word.divmod -/
def fb192 : AFunc2 := ⟨16, [.cell (rLoad (some 4) g4), .cell (rLoad (some 4) g5)], .seq (.reg [
oBox w2 24 g0,
oBox w3 24 g1,
oAlloc w4 24 [.int .u64 (.lit (.ofNat 0)), .int .u64 (.lit (.ofNat 0)), .int .u64 (.lit (.ofNat 0)), .int .u64 (.lit (.ofNat 0))],
oAlloc w5 24 [.int .u64 (.lit (.ofNat 0)), .int .u64 (.lit (.ofNat 0)), .int .u64 (.lit (.ofNat 0)), .int .u64 (.lit (.ofNat 0))]]) (.seq (.seq (.reg [
oR w6 (rLoad (some 4) g3),
oP w7 (pBuild [.int .u64 (.lit (.ofNat 0)), .int .u64 (.lit (.ofNat 0)), .int .u64 (.lit (.ofNat 0)), .int .u64 (.lit (.ofNat 0))] []),
oK w8 (b2 (fun x y s K => cmpA 0 (.agg (.one (.arr 4 22 .u64))) x y s fun b s => K (vBool b) s) g6 g7)]) (.cond g8 (.seq (.reg [
oP w9 (pBuild [.int .u64 (.lit (.ofNat 0)), .int .u64 (.lit (.ofNat 0)), .int .u64 (.lit (.ofNat 0)), .int .u64 (.lit (.ofNat 0))] []),
oP w10 (pBuild [.int .u64 (.lit (.ofNat 0)), .int .u64 (.lit (.ofNat 0)), .int .u64 (.lit (.ofNat 0)), .int .u64 (.lit (.ofNat 0))] []),
oK wZ (bSt 4 g4 g9),
oK wZ (bSt 4 g5 g10)]) (.ret)) (.skip))) (.seq (.draw [
⟨0, ⟨(some 11), .p (.aslice 4 1 (.t 2) none none), none⟩, 0, 0⟩,
⟨1, ⟨(some 12), .p (.aslice 4 1 (.t 3) none none), none⟩, 0, 0⟩,
⟨2, ⟨(some 13), .b (.call 197 [(.t 11), (.t 12)]), none⟩, 3, 0⟩,
⟨3, ⟨(some 14), .p (.ext (.t 13) 0), none⟩, 7, 0⟩,
⟨4, ⟨(some 15), .p (.ext (.t 13) 1), none⟩, 7, 0⟩,
⟨5, ⟨none, .b (.store 4 (.t 4) (.t 14)), none⟩, 31, 0⟩,
⟨6, ⟨none, .b (.store 4 (.t 5) (.t 15)), none⟩, 63, 0⟩]) (.ret)))⟩
theorem fp192 : ∃ fn, fb192 = denF fn ∧ ∃ func code hint, FnOk Go.Proofs.Tryz.prog TT 192 fn func code hint := f2_mk (func := Go.Proofs.Tryz.f192) (code := bodyOf Go.Proofs.Tryz.f192) (hint := hintL [(3, [(0, 0), (1, 0), (2, 0), (3, 0), (4, 0), (5, 0), (6, 0)])]) (n := 16) (res := [.cell 4 (some 4), .cell 5 (some 4)]) Go.Proofs.Tryz.func192 Go.Proofs.Tryz.call192 (by kernel_rfl) (by kernel_rfl) (by kernel_rfl) (by kernel_rfl) (by kernel_rfl)
/- quarry/word.divide -/
def fb197 : AFunc2 := ⟨22, [.cell (rLoad (some 4) g4), .cell (rLoad (some 4) g5)], .seq (.reg [
oAlloc w4 24 [.int .u64 (.lit (.ofNat 0)), .int .u64 (.lit (.ofNat 0)), .int .u64 (.lit (.ofNat 0)), .int .u64 (.lit (.ofNat 0))],
oAlloc w5 24 [.int .u64 (.lit (.ofNat 0)), .int .u64 (.lit (.ofNat 0)), .int .u64 (.lit (.ofNat 0)), .int .u64 (.lit (.ofNat 0))]]) (.seq (.reg [
oP w9 (pMv g0),
oP w10 (pMv g1),
oCall w11 254 [g9, g10],
oP w8 (pMv g11),
oP w12 (pExt g8 0),
oP w13 (pExt g8 1),
oP w6 (pMv g12),
oP w7 (pMv g13)]) (.seq (.reg [
oP w14 (pGen fun _ t => opASlice t 4 1 (.t 4) none none),
oP w15 (pMv g6),
oK w16 (b2 (bCopy 1) g14 g15)]) (.seq (.reg [
oP w17 (pGen fun _ t => opASlice t 4 1 (.t 5) none none),
oP w18 (pMv g7),
oK w19 (b2 (bCopy 1) g17 g18)]) (.seq (.reg [
oR w20 (rLoad (some 4) g4),
oR w21 (rLoad (some 4) g5),
oK wZ (bSt 4 g4 g20),
oK wZ (bSt 4 g5 g21)]) (.ret)))))⟩
theorem fp197 : ∃ fn, fb197 = denF fn ∧ ∃ func code hint, FnOk Go.Proofs.Tryz.prog TT 197 fn func code hint := f2_mk (func := Go.Proofs.Tryz.f197) (code := bodyOf Go.Proofs.Tryz.f197) (hint := hintL []) (n := 22) (res := [.cell 4 (some 4), .cell 5 (some 4)]) Go.Proofs.Tryz.func197 Go.Proofs.Tryz.call197 (by kernel_rfl) (by kernel_rfl) (by kernel_rfl) (by kernel_rfl) (by kernel_rfl)
/- quarry/gas.words -/
def fb199 : AFunc2 := ⟨10, [.tmp g2], .seq (.reg [
oP w2 (pMv (gC (.w (.s (.int .u64 (.lit (.ofNat 0)))))))]) (.seq (.reg [
oP w3 (pMv g0),
oP w4 (pGen fun φ t => opDv φ t (.t 3) (.c (.w (.s (.int .u64 (.lit (.ofNat 32))))))),
oP w5 (pMv g0),
oP w6 (pGen fun φ t => opMd φ t (.t 5) (.c (.w (.s (.int .u64 (.lit (.ofNat 32))))))),
oP w7 (pAr 0 g6 (gC (.w (.s (.int .u64 (.lit (.ofNat 31))))))),
oP w8 (pGen fun φ t => opDv φ t (.t 7) (.c (.w (.s (.int .u64 (.lit (.ofNat 32))))))),
oP w9 (pAr 0 g4 g8),
oP w2 (pMv g9)]) (.ret))⟩
theorem fp199 : ∃ fn, fb199 = denF fn ∧ ∃ func code hint, FnOk Go.Proofs.Tryz.prog TT 199 fn func code hint := f2_mk (func := Go.Proofs.Tryz.f199) (code := bodyOf Go.Proofs.Tryz.f199) (hint := hintL []) (n := 10) (res := [.tmp 2]) Go.Proofs.Tryz.func199 Go.Proofs.Tryz.call199 (by kernel_rfl) (by kernel_rfl) (by kernel_rfl) (by kernel_rfl) (by kernel_rfl)
/- quarry/gas.Grow -/
def fb200 : AFunc2 := ⟨63, [.tmp g6, .tmp g7, .tmp g8], .seq (.reg [
oBox w4 24 g1,
oBox w5 24 g2,
oP w6 (pMv (gC (.w (.s (.int .u64 (.lit (.ofNat 0))))))),
oP w7 (pMv (gC (.w (.s (.int .u64 (.lit (.ofNat 0))))))),
oP w8 (pMv (gC (.w (.s (.bool false)))))]) (.seq (.seq (.reg [
oR w15 (rLoad (some 4) g5),
oP w16 (pBuild [.int .u64 (.lit (.ofNat 0)), .int .u64 (.lit (.ofNat 0)), .int .u64 (.lit (.ofNat 0)), .int .u64 (.lit (.ofNat 0))] []),
oK w17 (b2 (fun x y s K => cmpA 0 (.agg (.one (.arr 4 22 .u64))) x y s fun b s => K (vBool b) s) g15 g16)]) (.cond g17 (.seq (.reg [
oP w18 (pMv g0),
oP w6 (pMv g18),
oP w7 (pMv (gC (.w (.s (.int .u64 (.lit (.ofNat 0))))))),
oP w8 (pMv (gC (.w (.s (.bool true)))))]) (.ret)) (.skip))) (.seq (.reg [
oR w20 (rLoad (some 4) g4),
oCall w21 38 [g20],
oP w19 (pMv g21),
oP w22 (pExt g19 0),
oP w23 (pExt g19 1),
oP w9 (pMv g22),
oP w10 (pMv g23)]) (.seq (.reg [
oR w25 (rLoad (some 4) g5),
oCall w26 38 [g25],
oP w24 (pMv g26),
oP w27 (pExt g24 0),
oP w28 (pExt g24 1),
oP w11 (pMv g27),
oP w12 (pMv g28)]) (.seq (.reg [
oP w30 (pMv g9),
oP w31 (pMv g11),
oCall w32 129 [g30, g31, (gC (.w (.s (.int .u64 (.lit (.ofNat 0))))))],
oP w29 (pMv g32),
oP w33 (pExt g29 0),
oP w34 (pExt g29 1),
oP w13 (pMv g33),
oP w14 (pMv g34)]) (.seq (.seq (.reg [
oP w35 (pMv g10),
oP w36 (pNot g35),
oP w37 (pMv g36),
oGd g37 false w38 (oP w38 (pMv g12)),
oGd g37 false w39 (oP w39 (pNot g38)),
oP w40 (pGen fun _ t => opPick t (.t 37) (.c (.w (.s (.bool true)))) (.t 39)),
oP w41 (pMv g40),
oGd g41 false w42 (oP w42 (pMv g14)),
oGd g41 false w43 (oK w43 (bCmp 4 nLe .le true g42 (gC (.w (.s (.int .u64 (.lit (.ofNat 0)))))))),
oP w44 (pGen fun _ t => opPick t (.t 41) (.c (.w (.s (.bool true)))) (.t 43)),
oP w45 (pMv g44),
oGd g45 false w46 (oP w46 (pMv g13)),
oGd g45 false w47 (oCall w47 199 [g46]),
oGd g45 false w48 (oK w48 (bCmp 4 nLe .le true g47 (gC (.w (.s (.int .u64 (.lit (.ofNat 34359738368)))))))),
oP w49 (pGen fun _ t => opPick t (.t 45) (.c (.w (.s (.bool true)))) (.t 48))]) (.cond g49 (.seq (.reg [
oP w6 (pMv (gC (.w (.s (.int .u64 (.lit (.ofNat 0))))))),
oP w7 (pMv (gC (.w (.s (.int .u64 (.lit (.ofNat 0))))))),
oP w8 (pMv (gC (.w (.s (.bool false)))))]) (.ret)) (.skip))) (.seq (.reg [
oP w50 (pMv g0),
oP w51 (pMv g13),
oCall w52 199 [g51],
oP w53 (pAr 2 (gC (.w (.s (.int .u64 (.lit (.ofNat 32)))))) g52),
oK w54 (b2 (mmA true) g50 g53),
oP w6 (pMv g54)]) (.seq (.reg [
oP w55 (pMv g6),
oP w56 (pMv g6),
oP w57 (pGen fun φ t => opDv φ t (.t 56) (.c (.w (.s (.int .u64 (.lit (.ofNat 32))))))),
oCall w58 255 [g57],
oP w59 (pMv g0),
oP w60 (pGen fun φ t => opDv φ t (.t 59) (.c (.w (.s (.int .u64 (.lit (.ofNat 32))))))),
oCall w61 255 [g60],
oP w62 (pAr 1 g58 g61),
oP w6 (pMv g55),
oP w7 (pMv g62),
oP w8 (pMv (gC (.w (.s (.bool true)))))]) (.ret))))))))⟩
theorem fp200 : ∃ fn, fb200 = denF fn ∧ ∃ func code hint, FnOk Go.Proofs.Tryz.prog TT 200 fn func code hint := f2_mk (func := Go.Proofs.Tryz.f200) (code := bodyOf Go.Proofs.Tryz.f200) (hint := hintL []) (n := 63) (res := [.tmp 6, .tmp 7, .tmp 8]) Go.Proofs.Tryz.func200 Go.Proofs.Tryz.call200 (by kernel_rfl) (by kernel_rfl) (by kernel_rfl) (by kernel_rfl) (by kernel_rfl)
/- quarry/vm.account -/
def fb201 : AFunc2 := ⟨9, [.cell (rLoad (some 20) g2)], .seq (.reg [
oBox w1 24 g0,
oAlloc w2 30 zz0]) (.seq (.reg [
oR w4 (rLoad (some 4) g1),
oCall w5 19 [g4],
oAlloc w3 50 zz1,
oK wZ (bSt 32 g3 g5)]) (.seq (.reg [
oP w6 (pGen fun _ t => opASlice t 32 1 (.t 3) (some (.c (.w (.s (.int .i64 (.lit (.ofNat 12))))))) none),
oP w7 (pGen fun _ t => opS2a t 20 (.t 6)),
oR w8 (rLoad (some 20) g7),
oK wZ (bSt 20 g2 g8)]) (.ret)))⟩
theorem fp201 : ∃ fn, fb201 = denF fn ∧ ∃ func code hint, FnOk Go.Proofs.Tryz.prog TT 201 fn func code hint := f2_mk (func := Go.Proofs.Tryz.f201) (code := bodyOf Go.Proofs.Tryz.f201) (hint := hintL []) (n := 9) (res := [.cell 2 (some 20)]) Go.Proofs.Tryz.func201 Go.Proofs.Tryz.call201 (by kernel_rfl) (by kernel_rfl) (by kernel_rfl) (by kernel_rfl) (by kernel_rfl)
/- (quarry/state.set[quarry/state.place]).has -/
def fb202 : AFunc2 := ⟨14, [.tmp g4], .seq (.reg [
oBox w3 180 g1,
oP w4 (pMv (gC (.w (.s (.bool false)))))]) (.seq (.reg [
oP w8 (pMv g0),
oR w9 (rLoad (some 24) g3),
oR w10 (rGen fun t s => match s with | .mk _ _ φ => opLook φ t s (.str [(0, 30, .arr 20 5 .u8), (20, 24, .arr 4 22 .u64)]) (.agg []) (.t 8) (.t 9) true),
oP w7 (pMv g10),
oP w11 (pExt g7 0),
oP w12 (pExt g7 1),
oAlloc w5 146 [],
oK wZ (bSt 0 g5 g11),
oP w6 (pMv g12)]) (.seq (.reg [
oP w13 (pMv g6),
oP w4 (pMv g13)]) (.ret)))⟩
theorem fp202 : ∃ fn, fb202 = denF fn ∧ ∃ func code hint, FnOk Go.Proofs.Tryz.prog TT 202 fn func code hint := f2_mk (func := Go.Proofs.Tryz.f202) (code := bodyOf Go.Proofs.Tryz.f202) (hint := hintL []) (n := 14) (res := [.tmp 4]) Go.Proofs.Tryz.func202 Go.Proofs.Tryz.call202 (by kernel_rfl) (by kernel_rfl) (by kernel_rfl) (by kernel_rfl) (by kernel_rfl)
/- quarry/state.put[quarry/state.place,struct{}] -/
def fb203 : AFunc2 := ⟨22, [], .seq (.reg [
oBox w5 103 g1,
oBox w6 180 g2,
oBox w7 146 g3]) (.seq (.reg [
oR w11 (rLoad none g5),
oR w12 (rLoad (some 24) g6),
oR w13 (rGen fun t s => match s with | .mk _ _ φ => opLook φ t s (.str [(0, 30, .arr 20 5 .u8), (20, 24, .arr 4 22 .u64)]) (.agg []) (.t 11) (.t 12) true),
oP w10 (pMv g13),
oP w14 (pExt g10 0),
oP w15 (pExt g10 1),
oAlloc w8 146 [],
oAlloc w9 4 [.bool false],
oK wZ (bSt 0 g8 g14),
oK wZ (bSt 1 g9 g15)]) (.seq (.reg [
oR w16 (rLoad none g5),
oR w17 (rLoad (some 24) g6),
oR w18 (rLoad (some 0) g7),
oK wZ (b3 (bMupd (.str [(0, 30, .arr 20 5 .u8), (20, 24, .arr 4 22 .u64)])) g16 g17 g18)]) (.reg [
oP w19 (pMv g0),
oP w20 (pGen fun _ t => opMkfn t 256 [(.t 9), (.t 8), (.t 5), (.t 6)]),
oCall w21 88 [g19, g20]])))⟩
theorem fp203 : ∃ fn, fb203 = denF fn ∧ ∃ func code hint, FnOk Go.Proofs.Tryz.prog TT 203 fn func code hint := f2_mk (func := Go.Proofs.Tryz.f203) (code := bodyOf Go.Proofs.Tryz.f203) (hint := hintL []) (n := 22) (res := []) Go.Proofs.Tryz.func203 Go.Proofs.Tryz.call203 (by kernel_rfl) (by kernel_rfl) (by kernel_rfl) (by kernel_rfl) (by kernel_rfl)
/- (*quarry/state.State).AddRefund -/
def fb205 : AFunc2 := ⟨22, [], .seq (.reg [
oP w7 (pMv g0),
oP w8 (pGen fun _ t => opNil t (.t 7)),
oP w9 (pFaddr 1 g8),
oP w10 (pFaddr 7 g9),
oR w11 (rLoad none g10),
oP w12 (pMv g1),
oCall w13 129 [g11, g12, (gC (.w (.s (.int .u64 (.lit (.ofNat 0))))))],
oP w6 (pMv g13),
oP w14 (pExt g6 0),
oP w15 (pExt g6 1),
oP w4 (pMv g14),
oP w5 (pMv g15)]) (.reg [
oP w16 (pMv g0),
oP w17 (pMv g4),
oP w18 (pMv g5),
oP w19 (pAr 1 (gC (.w (.s (.int .u64 (.lit (.ofNat 0)))))) g18),
oP w20 (pBt 1 g17 g19),
oCall w21 257 [g16, g20]])⟩
theorem fp205 : ∃ fn, fb205 = denF fn ∧ ∃ func code hint, FnOk Go.Proofs.Tryz.prog TT 205 fn func code hint := f2_mk (func := Go.Proofs.Tryz.f205) (code := bodyOf Go.Proofs.Tryz.f205) (hint := hintL []) (n := 22) (res := []) Go.Proofs.Tryz.func205 Go.Proofs.Tryz.call205 (by kernel_rfl) (by kernel_rfl) (by kernel_rfl) (by kernel_rfl) (by kernel_rfl)
/- (*quarry/vm.frame).fresh -/
def fb213 : AFunc2 := ⟨35, [.tmp g6], .seq (.reg [
oBox w4 30 g1,
oP w6 (pMv (gC (.w (.s (.bool false)))))]) (.seq (.seq (.reg [
oP w7 (pMv g0),
oP w8 (pGen fun _ t => opNil t (.t 7)),
oP w9 (pFaddr 0 g8),
oR w10 (rLoad none g9),
oCall w11 66 [g10, (gC (.w (.s (.int .i64 (.lit (.ofNat 3))))))],
oP w12 (pNot g11)]) (.cond g12 (.seq (.draw [
⟨0, ⟨(some 13), .p (.mv (.t 0)), none⟩, 0, 0⟩,
⟨1, ⟨(some 14), .p (.nilCheck (.t 13)), none⟩, 1, 0⟩,
⟨2, ⟨(some 15), .p (.faddr 0 (.t 14)), none⟩, 3, 0⟩,
⟨3, ⟨(some 16), .r (.load none (.t 15)), none⟩, 7, 0⟩,
⟨4, ⟨(some 17), .p (.nilCheck (.t 16)), none⟩, 15, 0⟩,
⟨5, ⟨(some 18), .p (.faddr 89 (.t 17)), none⟩, 31, 0⟩,
⟨6, ⟨(some 19), .r (.load none (.t 18)), none⟩, 63, 0⟩,
⟨7, ⟨(some 20), .r (.load (some 20) (.t 4)), none⟩, 0, 0⟩,
⟨8, ⟨(some 21), .b (.call 33 [(.t 19), (.t 20)]), none⟩, 255, 0⟩,
⟨9, ⟨(some 22), .p (.not (.t 21)), none⟩, 511, 0⟩,
⟨10, ⟨(some 6), .p (.mv (.t 22)), none⟩, 1023, 0⟩]) (.ret)) (.skip))) (.seq (.draw [
⟨0, ⟨(some 23), .p (.mv (.t 2)), none⟩, 0, 0⟩,
⟨1, ⟨(some 24), .p (.mv (.t 23)), none⟩, 1, 0⟩,
⟨2, ⟨(some 25), .p (.mv (.t 0)), some (24, true)⟩, 3, 0⟩,
⟨3, ⟨(some 26), .p (.nilCheck (.t 25)), some (24, true)⟩, 7, 0⟩,
⟨4, ⟨(some 27), .p (.faddr 0 (.t 26)), some (24, true)⟩, 15, 0⟩,
⟨5, ⟨(some 28), .r (.load none (.t 27)), some (24, true)⟩, 31, 0⟩,
⟨6, ⟨(some 29), .p (.nilCheck (.t 28)), some (24, true)⟩, 63, 0⟩,
⟨7, ⟨(some 30), .p (.faddr 89 (.t 29)), some (24, true)⟩, 127, 0⟩,
⟨8, ⟨(some 31), .r (.load none (.t 30)), some (24, true)⟩, 255, 0⟩,
⟨9, ⟨(some 32), .r (.load (some 20) (.t 4)), some (24, true)⟩, 3, 0⟩,
⟨10, ⟨(some 33), .b (.call 55 [(.t 31), (.t 32)]), some (24, true)⟩, 1023, 0⟩,
⟨11, ⟨(some 34), .p (.pick (.t 24) (.t 33) (.c (.w (.s (.bool false))))), none⟩, 2047, 0⟩,
⟨12, ⟨(some 6), .p (.mv (.t 34)), none⟩, 4095, 0⟩]) (.ret)))⟩
theorem fp213 : ∃ fn, fb213 = denF fn ∧ ∃ func code hint, FnOk Go.Proofs.Tryz.prog TT 213 fn func code hint := f2_mk (func := Go.Proofs.Tryz.f213) (code := bodyOf Go.Proofs.Tryz.f213) (hint := hintL [(2, [(0, 0), (1, 0), (2, 0), (3, 0), (4, 0), (5, 0), (6, 0), (7, 0), (8, 0), (9, 0), (10, 0)]), (3, [(0, 0), (1, 0), (2, 0), (3, 0), (4, 0), (5, 0), (6, 0), (7, 0), (8, 0), (9, 0), (10, 0), (11, 0), (12, 0)])]) (n := 35) (res := [.tmp 6]) Go.Proofs.Tryz.func213 Go.Proofs.Tryz.call213 (by kernel_rfl) (by kernel_rfl) (by kernel_rfl) (by kernel_rfl) (by kernel_rfl)
/- (*quarry/state.State).Made -/
def fb214 : AFunc2 := ⟨12, [.tmp g4], .seq (.reg [
oBox w3 30 g1,
oP w4 (pMv (gC (.w (.s (.bool false)))))]) (.seq (.draw [
⟨0, ⟨(some 5), .p (.mv (.t 0)), none⟩, 0, 0⟩,
⟨1, ⟨(some 6), .p (.nilCheck (.t 5)), none⟩, 1, 0⟩,
⟨2, ⟨(some 7), .p (.faddr 1 (.t 6)), none⟩, 3, 0⟩,
⟨3, ⟨(some 8), .p (.faddr 1 (.t 7)), none⟩, 7, 0⟩,
⟨4, ⟨(some 9), .r (.load none (.t 8)), none⟩, 15, 0⟩,
⟨5, ⟨(some 10), .r (.load (some 20) (.t 3)), none⟩, 0, 0⟩,
⟨6, ⟨(some 11), .b (.call 41 [(.t 9), (.t 10)]), none⟩, 63, 0⟩,
⟨7, ⟨(some 4), .p (.mv (.t 11)), none⟩, 127, 0⟩]) (.ret))⟩
theorem fp214 : ∃ fn, fb214 = denF fn ∧ ∃ func code hint, FnOk Go.Proofs.Tryz.prog TT 214 fn func code hint := f2_mk (func := Go.Proofs.Tryz.f214) (code := bodyOf Go.Proofs.Tryz.f214) (hint := hintL [(1, [(0, 0), (1, 0), (2, 0), (3, 0), (4, 0), (5, 0), (6, 0), (7, 0)])]) (n := 12) (res := [.tmp 4]) Go.Proofs.Tryz.func214 Go.Proofs.Tryz.call214 (by kernel_rfl) (by kernel_rfl) (by kernel_rfl) (by kernel_rfl) (by kernel_rfl)
/- (*quarry/state.State).Destroy -/
def fb215 : AFunc2 := ⟨13, [], .seq (.reg [
oBox w3 30 g1]) (.draw [
⟨0, ⟨(some 4), .p (.mv (.t 0)), none⟩, 0, 0⟩,
⟨1, ⟨(some 5), .p (.mv (.t 0)), none⟩, 0, 0⟩,
⟨2, ⟨(some 6), .p (.nilCheck (.t 5)), none⟩, 2, 0⟩,
⟨3, ⟨(some 7), .p (.faddr 1 (.t 6)), none⟩, 6, 0⟩,
⟨4, ⟨(some 8), .p (.faddr 3 (.t 7)), none⟩, 14, 0⟩,
⟨5, ⟨(some 9), .r (.load none (.t 8)), none⟩, 30, 0⟩,
⟨6, ⟨(some 10), .r (.load (some 20) (.t 3)), none⟩, 0, 0⟩,
⟨7, ⟨(some 11), .p (.build [] []), none⟩, 0, 0⟩,
⟨8, ⟨(some 12), .b (.call 90 [(.t 4), (.t 9), (.t 10), (.t 11)]), none⟩, 255, 0⟩])⟩
theorem fp215 : ∃ fn, fb215 = denF fn ∧ ∃ func code hint, FnOk Go.Proofs.Tryz.prog TT 215 fn func code hint := f2_mk (func := Go.Proofs.Tryz.f215) (code := bodyOf Go.Proofs.Tryz.f215) (hint := hintL [(1, [(0, 0), (1, 0), (2, 0), (3, 0), (4, 0), (5, 0), (6, 0), (7, 0), (8, 0)])]) (n := 13) (res := []) Go.Proofs.Tryz.func215 Go.Proofs.Tryz.call215 (by kernel_rfl) (by kernel_rfl) (by kernel_rfl) (by kernel_rfl) (by kernel_rfl)
/- (*quarry/vm.frame).sent -/
def fb216 : AFunc2 := ⟨80, [.cell (rLoad (some 23) g6)], .seq (.reg [
oBox w3 187 g0,
oBox w5 129 g2,
oAlloc w6 131 [.int .i64 (.lit (.ofNat 0)), .nils, .int .u64 (.lit (.ofNat 0)), .int .u8 (.lit (.ofNat 0)), .int .u8 (.lit (.ofNat 0)), .int .u8 (.lit (.ofNat 0)), .int .u8 (.lit (.ofNat 0)), .int .u8 (.lit (.ofNat 0)), .int .u8 (.lit (.ofNat 0)), .int .u8 (.lit (.ofNat 0)), .int .u8 (.lit (.ofNat 0)), .int .u8 (.lit (.ofNat 0)), .int .u8 (.lit (.ofNat 0)), .int .u8 (.lit (.ofNat 0)), .int .u8 (.lit (.ofNat 0)), .int .u8 (.lit (.ofNat 0)), .int .u8 (.lit (.ofNat 0)), .int .u8 (.lit (.ofNat 0)), .int .u8 (.lit (.ofNat 0)), .int .u8 (.lit (.ofNat 0)), .int .u8 (.lit (.ofNat 0)), .int .u8 (.lit (.ofNat 0)), .int .u8 (.lit (.ofNat 0))]]) (.seq (.seq (.reg [
oP w7 (pMv g1)]) (.block 0 (.seq (.reg [
oK w9 (bCmp 0 intEq .eq false g7 (gC (.w (.s (.int .i64 (.lit (.ofNat 241))))))),
oP w8 (pMv g9)]) (.cond g8 (.seq (.draw [
⟨0, ⟨(some 10), .r (.load none (.t 3)), none⟩, 0, 0⟩,
⟨1, ⟨(some 11), .p (.nilCheck (.t 10)), none⟩, 1, 0⟩,
⟨2, ⟨(some 12), .p (.faddr 0 (.t 11)), none⟩, 3, 0⟩,
⟨3, ⟨(some 13), .r (.load none (.t 12)), none⟩, 7, 0⟩,
⟨4, ⟨(some 14), .r (.load (some 68) (.t 5)), none⟩, 0, 0⟩,
⟨5, ⟨(some 15), .b (.call 51 [(.t 13), (.t 14)]), none⟩, 31, 0⟩,
⟨6, ⟨none, .b (.store 23 (.t 6) (.t 15)), none⟩, 63, 0⟩]) (.ret)) (.seq (.reg [
oK w17 (bCmp 0 intEq .eq false g7 (gC (.w (.s (.int .i64 (.lit (.ofNat 242))))))),
oP w16 (pMv g17)]) (.cond g16 (.seq (.seq (.draw [
⟨0, ⟨(some 18), .r (.load none (.t 3)), none⟩, 0, 0⟩,
⟨1, ⟨(some 19), .p (.nilCheck (.t 18)), none⟩, 1, 0⟩,
⟨2, ⟨(some 20), .p (.faddr 0 (.t 19)), none⟩, 3, 0⟩,
⟨3, ⟨(some 21), .r (.load none (.t 20)), none⟩, 7, 0⟩,
⟨4, ⟨(some 22), .r (.load none (.t 3)), none⟩, 0, 0⟩,
⟨5, ⟨(some 23), .p (.nilCheck (.t 22)), none⟩, 16, 0⟩,
⟨6, ⟨(some 24), .p (.faddr 1 (.t 23)), none⟩, 48, 0⟩,
⟨7, ⟨(some 25), .p (.faddr 20 (.t 24)), none⟩, 112, 0⟩,
⟨8, ⟨(some 26), .r (.load (some 20) (.t 25)), none⟩, 240, 0⟩,
⟨9, ⟨(some 27), .p (.faddr 60 (.t 5)), none⟩, 0, 0⟩,
⟨10, ⟨(some 28), .r (.load (some 4) (.t 27)), none⟩, 512, 0⟩,
⟨11, ⟨(some 29), .b (.call 63 [(.t 21), (.t 26), (.t 28)]), none⟩, 2047, 0⟩,
⟨12, ⟨(some 30), .p (.not (.t 29)), none⟩, 4095, 0⟩]) (.cond g30 (.seq (.reg [
oP w31 (pFaddr 65 g5),
oR w32 (rLoad none g31),
oCall w33 64 [g32],
oK wZ (bSt 23 g6 g33)]) (.ret)) (.skip))) (.seq (.reg [
oR w34 (rLoad none g3),
oP w35 (pGen fun _ t => opNil t (.t 34)),
oP w36 (pFaddr 1 g35),
oP w37 (pFaddr 20 g36),
oR w38 (rLoad (some 20) g37),
oP w39 (pFaddr 20 g5),
oK wZ (bSt 20 g39 g38)]) (.seq (.draw [
⟨0, ⟨(some 40), .r (.load none (.t 3)), none⟩, 0, 0⟩,
⟨1, ⟨(some 41), .p (.nilCheck (.t 40)), none⟩, 1, 0⟩,
⟨2, ⟨(some 42), .p (.faddr 0 (.t 41)), none⟩, 3, 0⟩,
⟨3, ⟨(some 43), .r (.load none (.t 42)), none⟩, 7, 0⟩,
⟨4, ⟨(some 44), .r (.load (some 68) (.t 5)), none⟩, 0, 0⟩,
⟨5, ⟨(some 45), .b (.call 81 [(.t 43), (.t 44), (.c (.w (.s (.fn 261 []))))]), none⟩, 31, 0⟩,
⟨6, ⟨none, .b (.store 23 (.t 6) (.t 45)), none⟩, 63, 0⟩]) (.ret)))) (.seq (.reg [
oK w47 (bCmp 0 intEq .eq false g7 (gC (.w (.s (.int .i64 (.lit (.ofNat 244))))))),
oP w46 (pMv g47)]) (.cond g46 (.seq (.draw [
⟨0, ⟨(some 48), .r (.load none (.t 3)), none⟩, 0, 0⟩,
⟨1, ⟨(some 49), .p (.nilCheck (.t 48)), none⟩, 1, 0⟩,
⟨2, ⟨(some 50), .p (.faddr 1 (.t 49)), none⟩, 3, 0⟩,
⟨3, ⟨(some 51), .p (.faddr 20 (.t 50)), none⟩, 7, 0⟩,
⟨4, ⟨(some 52), .r (.load (some 20) (.t 51)), none⟩, 15, 0⟩,
⟨5, ⟨(some 53), .r (.load none (.t 3)), none⟩, 0, 0⟩,
⟨6, ⟨(some 54), .p (.nilCheck (.t 53)), none⟩, 32, 0⟩,
⟨7, ⟨(some 55), .p (.faddr 1 (.t 54)), none⟩, 96, 0⟩,
⟨8, ⟨(some 56), .p (.faddr 0 (.t 55)), none⟩, 224, 0⟩,
⟨9, ⟨(some 57), .r (.load (some 20) (.t 56)), none⟩, 480, 0⟩,
⟨10, ⟨(some 58), .r (.load none (.t 3)), none⟩, 0, 0⟩,
⟨11, ⟨(some 59), .p (.nilCheck (.t 58)), none⟩, 1024, 0⟩,
⟨12, ⟨(some 60), .p (.faddr 1 (.t 59)), none⟩, 3072, 0⟩,
⟨13, ⟨(some 61), .p (.faddr 60 (.t 60)), none⟩, 7168, 0⟩,
⟨14, ⟨(some 62), .r (.load (some 4) (.t 61)), none⟩, 15360, 0⟩,
⟨15, ⟨(some 63), .p (.faddr 20 (.t 5)), none⟩, 31, 0⟩,
⟨16, ⟨none, .b (.store 20 (.t 63) (.t 52)), none⟩, 32799, 0⟩,
⟨17, ⟨(some 64), .p (.faddr 0 (.t 5)), none⟩, 99327, 0⟩,
⟨18, ⟨none, .b (.store 20 (.t 64) (.t 57)), none⟩, 230399, 0⟩,
⟨19, ⟨(some 65), .p (.faddr 60 (.t 5)), none⟩, 524287, 0⟩,
⟨20, ⟨none, .b (.store 4 (.t 65) (.t 62)), none⟩, 1048575, 0⟩]) (.seq (.draw [
⟨0, ⟨(some 66), .r (.load none (.t 3)), none⟩, 0, 0⟩,
⟨1, ⟨(some 67), .p (.nilCheck (.t 66)), none⟩, 1, 0⟩,
⟨2, ⟨(some 68), .p (.faddr 0 (.t 67)), none⟩, 3, 0⟩,
⟨3, ⟨(some 69), .r (.load none (.t 68)), none⟩, 7, 0⟩,
⟨4, ⟨(some 70), .r (.load (some 68) (.t 5)), none⟩, 0, 0⟩,
⟨5, ⟨(some 71), .b (.call 81 [(.t 69), (.t 70), (.c (.w (.s (.fn 262 []))))]), none⟩, 31, 0⟩,
⟨6, ⟨none, .b (.store 23 (.t 6) (.t 71)), none⟩, 63, 0⟩]) (.ret))) (.skip))))))))) (.seq (.reg [
oP w72 (pFaddr 66 g5),
oK wZ (bSt 1 g72 (gC (.w (.s (.bool true)))))]) (.seq (.draw [
⟨0, ⟨(some 73), .r (.load none (.t 3)), none⟩, 0, 0⟩,
⟨1, ⟨(some 74), .p (.nilCheck (.t 73)), none⟩, 1, 0⟩,
⟨2, ⟨(some 75), .p (.faddr 0 (.t 74)), none⟩, 3, 0⟩,
⟨3, ⟨(some 76), .r (.load none (.t 75)), none⟩, 7, 0⟩,
⟨4, ⟨(some 77), .r (.load (some 68) (.t 5)), none⟩, 0, 0⟩,
⟨5, ⟨(some 78), .p (.mkfunc 263 [(.t 3), (.t 5)]), none⟩, 0, 0⟩,
⟨6, ⟨(some 79), .b (.call 81 [(.t 76), (.t 77), (.t 78)]), none⟩, 63, 0⟩,
⟨7, ⟨none, .b (.store 23 (.t 6) (.t 79)), none⟩, 127, 0⟩]) (.ret))))⟩
theorem fp216 : ∃ fn, fb216 = denF fn ∧ ∃ func code hint, FnOk Go.Proofs.Tryz.prog TT 216 fn func code hint := f2_mk (func := Go.Proofs.Tryz.f216) (code := bodyOf Go.Proofs.Tryz.f216) (hint := hintL [(3, [(0, 0), (1, 0), (2, 0), (3, 0), (4, 0), (5, 0), (6, 0)]), (5, [(0, 0), (1, 0), (2, 0), (3, 0), (4, 0), (5, 0), (6, 0), (7, 0), (8, 0), (9, 0), (10, 0), (11, 0), (12, 0)]), (8, [(0, 0), (1, 0), (2, 0), (3, 0), (4, 0), (5, 0), (6, 0)]), (10, [(0, 0), (1, 0), (2, 0), (3, 0), (4, 0), (5, 0), (6, 0), (7, 0), (8, 0), (9, 0), (10, 0), (11, 0), (12, 0), (13, 0), (14, 0), (15, 0), (16, 0), (17, 0), (18, 0), (19, 0), (20, 0)]), (11, [(0, 0), (1, 0), (2, 0), (3, 0), (4, 0), (5, 0), (6, 0)]), (13, [(0, 0), (1, 0), (2, 0), (3, 0), (4, 0), (5, 0), (6, 0), (7, 0)])]) (n := 80) (res := [.cell 6 (some 23)]) Go.Proofs.Tryz.func216 Go.Proofs.Tryz.call216 (by kernel_rfl) (by kernel_rfl) (by kernel_rfl) (by kernel_rfl) (by kernel_rfl)
/- quarry/pre.linear -/
def fb224 : AFunc2 := ⟨29, [.tmp g6], .seq (.reg [
oP w6 (pMv (gC (.w (.s (.int .u64 (.lit (.ofNat 0)))))))]) (.seq (.reg [
oP w12 (pMv g1),
oP w13 (pMv g2),
oP w14 (pConv .u64 g13),
oCall w15 253 [g12, g14],
oP w11 (pMv g15),
oP w16 (pExt g11 0),
oP w17 (pExt g11 1),
oP w7 (pMv g16),
oP w8 (pMv g17)]) (.seq (.reg [
oP w19 (pMv g0),
oP w20 (pMv g8),
oCall w21 129 [g19, g20, (gC (.w (.s (.int .u64 (.lit (.ofNat 0))))))],
oP w18 (pMv g21),
oP w22 (pExt g18 0),
oP w23 (pExt g18 1),
oP w9 (pMv g22),
oP w10 (pMv g23)]) (.seq (.seq (.reg [
oP w24 (pMv g7),
oP w25 (pMv g10),
oP w26 (pAr 0 g24 g25),
oK w27 (bCmp 4 nLe .le true g26 (gC (.w (.s (.int .u64 (.lit (.ofNat 0)))))))]) (.cond g27 (.seq (.reg [
oP w6 (pMv (gC (.w (.s (.int .u64 (.lit (.ofNat 18446744073709551615)))))))]) (.ret)) (.skip))) (.seq (.reg [
oP w28 (pMv g9),
oP w6 (pMv g28)]) (.ret)))))⟩
theorem fp224 : ∃ fn, fb224 = denF fn ∧ ∃ func code hint, FnOk Go.Proofs.Tryz.prog TT 224 fn func code hint := f2_mk (func := Go.Proofs.Tryz.f224) (code := bodyOf Go.Proofs.Tryz.f224) (hint := hintL []) (n := 29) (res := [.tmp 6]) Go.Proofs.Tryz.func224 Go.Proofs.Tryz.call224 (by kernel_rfl) (by kernel_rfl) (by kernel_rfl) (by kernel_rfl) (by kernel_rfl)
/- slices.Clone[[]byte,byte] -/
def fb234 : AFunc2 := ⟨8, [.tmp g2], .seq (.reg [
oP w2 (pMv (gC (.w (.s (.nils)))))]) (.seq (.seq (.reg [
oP w3 (pMv g0),
oK w4 (b2 (fun x y s K => cmpA 0 .slice x y s fun b s => K (vBool b) s) g3 (gC (.w (.s (.nils)))))]) (.cond g4 (.seq (.reg [
oP w2 (pMv (gC (.w (.s (.nils)))))]) (.ret)) (.skip))) (.seq (.reg [
oM w5 (.bslice 5 0 [.int .u8 (.lit (.ofNat 0))] []),
oP w6 (pMv g0),
oK w7 (b2 (bAppend 5 1 1) g5 g6),
oP w2 (pMv g7)]) (.ret)))⟩
theorem fp234 : ∃ fn, fb234 = denF fn ∧ ∃ func code hint, FnOk Go.Proofs.Tryz.prog TT 234 fn func code hint := f2_mk (func := Go.Proofs.Tryz.f234) (code := bodyOf Go.Proofs.Tryz.f234) (hint := hintL []) (n := 8) (res := [.tmp 2]) Go.Proofs.Tryz.func234 Go.Proofs.Tryz.call234 (by kernel_rfl) (by kernel_rfl) (by kernel_rfl) (by kernel_rfl) (by kernel_rfl)
/- math/bits.Mul64 -/
def fb253 : AFunc2 := ⟨51, [.tmp g4, .tmp g5], .seq (.reg [
oP w4 (pMv (gC (.w (.s (.int .u64 (.lit (.ofNat 0))))))),
oP w5 (pMv (gC (.w (.s (.int .u64 (.lit (.ofNat 0)))))))]) (.seq (.reg [
oP w14 (pMv g0),
oP w15 (pBt 0 g14 (gC (.w (.s (.int .u64 (.lit (.ofNat 4294967295))))))),
oP w6 (pMv g15)]) (.seq (.reg [
oP w16 (pMv g0),
oP w17 (pShr g16 (gC (.w (.s (.int .u64 (.lit (.ofNat 32))))))),
oP w7 (pMv g17)]) (.seq (.reg [
oP w18 (pMv g1),
oP w19 (pBt 0 g18 (gC (.w (.s (.int .u64 (.lit (.ofNat 4294967295))))))),
oP w8 (pMv g19)]) (.seq (.reg [
oP w20 (pMv g1),
oP w21 (pShr g20 (gC (.w (.s (.int .u64 (.lit (.ofNat 32))))))),
oP w9 (pMv g21)]) (.seq (.reg [
oP w22 (pMv g6),
oP w23 (pMv g8),
oP w24 (pAr 2 g22 g23),
oP w10 (pMv g24)]) (.seq (.reg [
oP w25 (pMv g7),
oP w26 (pMv g8),
oP w27 (pAr 2 g25 g26),
oP w28 (pMv g10),
oP w29 (pShr g28 (gC (.w (.s (.int .u64 (.lit (.ofNat 32))))))),
oP w30 (pAr 0 g27 g29),
oP w11 (pMv g30)]) (.seq (.reg [
oP w31 (pMv g11),
oP w32 (pBt 0 g31 (gC (.w (.s (.int .u64 (.lit (.ofNat 4294967295))))))),
oP w12 (pMv g32)]) (.seq (.reg [
oP w33 (pMv g11),
oP w34 (pShr g33 (gC (.w (.s (.int .u64 (.lit (.ofNat 32))))))),
oP w13 (pMv g34)]) (.seq (.reg [
oP w35 (pMv g12),
oP w36 (pMv g6),
oP w37 (pMv g9),
oP w38 (pAr 2 g36 g37),
oP w39 (pAr 0 g35 g38),
oP w12 (pMv g39)]) (.seq (.reg [
oP w40 (pMv g7),
oP w41 (pMv g9),
oP w42 (pAr 2 g40 g41),
oP w43 (pMv g13),
oP w44 (pAr 0 g42 g43),
oP w45 (pMv g12),
oP w46 (pShr g45 (gC (.w (.s (.int .u64 (.lit (.ofNat 32))))))),
oP w47 (pAr 0 g44 g46),
oP w4 (pMv g47)]) (.seq (.reg [
oP w48 (pMv g0),
oP w49 (pMv g1),
oP w50 (pAr 2 g48 g49),
oP w5 (pMv g50)]) (.ret))))))))))))⟩
theorem fp253 : ∃ fn, fb253 = denF fn ∧ ∃ func code hint, FnOk Go.Proofs.Tryz.prog TT 253 fn func code hint := f2_mk (func := Go.Proofs.Tryz.f253) (code := bodyOf Go.Proofs.Tryz.f253) (hint := hintL []) (n := 51) (res := [.tmp 4, .tmp 5]) Go.Proofs.Tryz.func253 Go.Proofs.Tryz.call253 (by kernel_rfl) (by kernel_rfl) (by kernel_rfl) (by kernel_rfl) (by kernel_rfl)
/- quarry/limb.DivMod -/
def fb254 : AFunc2 := ⟨102, [.tmp g4, .tmp g5], .seq (.reg [
oP w4 (pMv (gC (.w (.s (.nils))))),
oP w5 (pMv (gC (.w (.s (.nils)))))]) (.seq (.reg [
oP w13 (pMv g0),
oCall w14 296 [g13],
oP w15 (pMv g1),
oCall w16 296 [g15],
oP w0 (pMv g14),
oP w1 (pMv g16)]) (.seq (.reg [
oP w17 (pMv g1),
oP w18 (pGen fun _ t => opLen t (.t 17)),
oP w19 (pMv g0),
oP w20 (pGen fun _ t => opLen t (.t 19)),
oP w6 (pMv g18),
oP w7 (pMv g20)]) (.seq (.seq (.reg [
oP w21 (pMv g7),
oP w22 (pMv g6),
oK w23 (bCmp 2 lLt cGe true g21 g22)]) (.cond g23 (.seq (.reg [
oP w24 (pMv g0),
oK w25 (b2 (bAppend 22 1 8) (gC (.w (.s (.nils)))) g24),
oCall w26 296 [g25],
oP w4 (pMv (gC (.w (.s (.nils))))),
oP w5 (pMv g26)]) (.ret)) (.skip))) (.seq (.reg [
oP w27 (pMv g1),
oP w28 (pMv g6),
oP w29 (pAr 1 g28 (gC (.w (.s (.int .i64 (.lit (.ofNat 1))))))),
oP w30 (pIaddrS 1 g27 g29),
oR w31 (rLoad none g30),
oCall w32 325 [g31],
oP w8 (pMv g32)]) (.seq (.reg [
oP w33 (pMv g1),
oP w34 (pMv g8),
oP w35 (pMv g6),
oCall w36 326 [g33, g34, g35],
oP w37 (pMv g0),
oP w38 (pMv g8),
oP w39 (pMv g7),
oP w40 (pAr 0 g39 (gC (.w (.s (.int .i64 (.lit (.ofNat 1))))))),
oCall w41 326 [g37, g38, g40],
oP w9 (pMv g36),
oP w10 (pMv g41)]) (.seq (.reg [
oP w42 (pMv g7),
oP w43 (pMv g6),
oP w44 (pAr 1 g42 g43),
oP w45 (pAr 0 g44 (gC (.w (.s (.int .i64 (.lit (.ofNat 1))))))),
oM w46 (.mkslice 22 8 [.int .u64 (.lit (.ofNat 0))] (.t 45) (.t 45)),
oP w4 (pMv g46)]) (.seq (.seq (.reg [
oP w47 (pMv g7),
oP w48 (pMv g6),
oP w49 (pAr 1 g47 g48),
oP w11 (pMv g49)]) (.block 0 (.loop (.seq (.seq (.reg [
oP w50 (pMv g11),
oK w51 (bCmp 5 gLe cGe false g50 (gC (.w (.s (.int .i64 (.lit (.ofNat 0)))))))]) (.cond g51 (.skip) (.exit 0))) (.seq (.block 1 (.reg [
oP w54 (pMv g4),
oP w55 (pMv g11),
oP w56 (pMv g10),
oP w57 (pMv g11),
oP w58 (pMv g11),
oP w59 (pMv g6),
oP w60 (pAr 0 g58 g59),
oP w61 (pAr 0 g60 (gC (.w (.s (.int .i64 (.lit (.ofNat 1))))))),
oP w62 (pGen fun _ t => opSlice t 1 (.t 56) (some (.t 57)) (some (.t 61))),
oP w63 (pMv g9),
oCall w64 327 [g62, g63],
oP w65 (pIaddrS 1 g54 g55),
oK wZ (bSt 1 g65 g64)])) (.reg [
oP w52 (pMv g11),
oP w53 (pAr 1 g52 (gC (.w (.s (.int .i64 (.lit (.ofNat 1))))))),
oP w11 (pMv g53)])))))) (.seq (.reg [
oP w66 (pMv g6),
oM w67 (.mkslice 22 8 [.int .u64 (.lit (.ofNat 0))] (.t 66) (.t 66)),
oP w5 (pMv g67)]) (.seq (.seq (.reg [
oP w68 (pMv g6),
oP w69 (pMv (gC (.w (.s (.int .i64 (.lit (.ofNat 0)))))))]) (.block 2 (.loop (.seq (.reg [
oK w70 (bCmp 2 lLt cGe true g69 g68)]) (.seq (.cond g70 (.skip) (.exit 2)) (.seq (.block 3 (.seq (.reg [
oP w71 (pMv g69),
oP w12 (pMv g71)]) (.seq (.reg [
oP w72 (pMv g5),
oP w73 (pMv g12),
oP w74 (pMv g10),
oP w75 (pMv g12),
oP w76 (pIaddrS 1 g74 g75),
oR w77 (rLoad none g76),
oP w78 (pMv g8),
oP w79 (pShr g77 g78),
oP w80 (pIaddrS 1 g72 g73),
oK wZ (bSt 1 g80 g79)]) (.seq (.reg [
oP w81 (pMv g8),
oK w82 (bCmp 4 nLe .le true g81 (gC (.w (.s (.int .i64 (.lit (.ofNat 0)))))))]) (.cond g82 (.draw [
⟨0, ⟨(some 83), .p (.mv (.t 5)), none⟩, 0, 0⟩,
⟨1, ⟨(some 84), .p (.mv (.t 12)), none⟩, 0, 0⟩,
⟨2, ⟨(some 85), .p (.iaddrS 1 (.t 83) (.t 84)), none⟩, 3, 0⟩,
⟨3, ⟨(some 86), .r (.load none (.t 85)), none⟩, 7, 0⟩,
⟨4, ⟨(some 87), .p (.mv (.t 10)), none⟩, 0, 0⟩,
⟨5, ⟨(some 88), .p (.mv (.t 12)), none⟩, 0, 0⟩,
⟨6, ⟨(some 89), .p (.ar 0 (.t 88) (.c (.w (.s (.int .i64 (.lit (.ofNat 1))))))), none⟩, 32, 0⟩,
⟨7, ⟨(some 90), .p (.iaddrS 1 (.t 87) (.t 89)), none⟩, 112, 0⟩,
⟨8, ⟨(some 91), .r (.load none (.t 90)), none⟩, 240, 0⟩,
⟨9, ⟨(some 92), .p (.mv (.t 8)), none⟩, 0, 0⟩,
⟨10, ⟨(some 93), .p (.ar 1 (.c (.w (.s (.int .i64 (.lit (.ofNat 64)))))) (.t 92)), none⟩, 512, 0⟩,
⟨11, ⟨(some 94), .p (.shl (.t 91) (.t 93)), none⟩, 2032, 0⟩,
⟨12, ⟨(some 95), .p (.bt 1 (.t 86) (.t 94)), none⟩, 4095, 0⟩,
⟨13, ⟨(some 96), .p (.iaddrS 1 (.t 83) (.t 84)), none⟩, 8191, 0⟩,
⟨14, ⟨none, .b (.store 1 (.t 96) (.t 95)), none⟩, 16383, 0⟩]) (.skip)))))) (.reg [
oP w97 (pAr 0 g69 (gC (.w (.s (.int .i64 (.lit (.ofNat 1))))))),
oP w69 (pMv g97)]))))))) (.seq (.reg [
oP w98 (pMv g4),
oCall w99 296 [g98],
oP w100 (pMv g5),
oCall w101 296 [g100],
oP w4 (pMv g99),
oP w5 (pMv g101)]) (.ret)))))))))))⟩
theorem fp254 : ∃ fn, fb254 = denF fn ∧ ∃ func code hint, FnOk Go.Proofs.Tryz.prog TT 254 fn func code hint := f2_mk (func := Go.Proofs.Tryz.f254) (code := bodyOf Go.Proofs.Tryz.f254) (hint := hintL [(18, [(0, 0), (1, 0), (2, 0), (3, 0), (4, 0), (5, 0), (6, 0), (7, 0), (8, 0), (9, 0), (10, 0), (11, 0), (12, 0), (13, 0), (14, 0)])]) (n := 102) (res := [.tmp 4, .tmp 5]) Go.Proofs.Tryz.func254 Go.Proofs.Tryz.call254 (by kernel_rfl) (by kernel_rfl) (by kernel_rfl) (by kernel_rfl) (by kernel_rfl)
/- quarry/gas.memory -/
def fb255 : AFunc2 := ⟨19, [.tmp g2], .seq (.reg [
oP w2 (pMv (gC (.w (.s (.int .u64 (.lit (.ofNat 0)))))))]) (.seq (.reg [
oP w6 (pMv g0),
oP w7 (pMv g0),
oCall w8 253 [g6, g7],
oP w5 (pMv g8),
oP w9 (pExt g5 0),
oP w10 (pExt g5 1),
oP w3 (pMv g9),
oP w4 (pMv g10)]) (.seq (.reg [
oP w11 (pMv g0),
oP w12 (pAr 2 (gC (.w (.s (.int .u64 (.lit (.ofNat 3)))))) g11),
oP w13 (pMv g3),
oP w14 (pShl g13 (gC (.w (.s (.int .u64 (.lit (.ofNat 55))))))),
oP w15 (pMv g4),
oP w16 (pShr g15 (gC (.w (.s (.int .u64 (.lit (.ofNat 9))))))),
oP w17 (pBt 1 g14 g16),
oP w18 (pAr 0 g12 g17),
oP w2 (pMv g18)]) (.ret)))⟩
theorem fp255 : ∃ fn, fb255 = denF fn ∧ ∃ func code hint, FnOk Go.Proofs.Tryz.prog TT 255 fn func code hint := f2_mk (func := Go.Proofs.Tryz.f255) (code := bodyOf Go.Proofs.Tryz.f255) (hint := hintL []) (n := 19) (res := [.tmp 2]) Go.Proofs.Tryz.func255 Go.Proofs.Tryz.call255 (by kernel_rfl) (by kernel_rfl) (by kernel_rfl) (by kernel_rfl) (by kernel_rfl)
/- (*quarry/state.State).refunded -/
def fb257 : AFunc2 := ⟨18, [], .seq (.reg [
oBox w2 40 g0]) (.seq (.reg [
oR w5 (rLoad none g2),
oP w6 (pGen fun _ t => opNil t (.t 5)),
oP w7 (pFaddr 1 g6),
oP w8 (pFaddr 7 g7),
oR w9 (rLoad none g8),
oAlloc w4 22 [.int .u64 (.lit (.ofNat 0))],
oK wZ (bSt 1 g4 g9)]) (.seq (.reg [
oR w10 (rLoad none g2),
oP w11 (pMv g1),
oP w12 (pGen fun _ t => opNil t (.t 10)),
oP w13 (pFaddr 1 g12),
oP w14 (pFaddr 7 g13),
oK wZ (bSt 1 g14 g11)]) (.reg [
oR w15 (rLoad none g2),
oP w16 (pGen fun _ t => opMkfn t 328 [(.t 4), (.t 2)]),
oCall w17 88 [g15, g16]])))⟩
theorem fp257 : ∃ fn, fb257 = denF fn ∧ ∃ func code hint, FnOk Go.Proofs.Tryz.prog TT 257 fn func code hint := f2_mk (func := Go.Proofs.Tryz.f257) (code := bodyOf Go.Proofs.Tryz.f257) (hint := hintL []) (n := 18) (res := []) Go.Proofs.Tryz.func257 Go.Proofs.Tryz.call257 (by kernel_rfl) (by kernel_rfl) (by kernel_rfl) (by kernel_rfl) (by kernel_rfl)
/- (*quarry/vm.frame).sent$3 -/
def fb263 : AFunc2 := ⟨12, [], .draw [
⟨0, ⟨(some 2), .r (.load none (.t 0)), none⟩, 0, 0⟩,
⟨1, ⟨(some 3), .p (.nilCheck (.t 2)), none⟩, 1, 0⟩,
⟨2, ⟨(some 4), .p (.faddr 0 (.t 3)), none⟩, 3, 0⟩,
⟨3, ⟨(some 5), .r (.load none (.t 4)), none⟩, 7, 0⟩,
⟨4, ⟨(some 6), .p (.nilCheck (.t 5)), none⟩, 15, 0⟩,
⟨5, ⟨(some 7), .p (.faddr 89 (.t 6)), none⟩, 31, 0⟩,
⟨6, ⟨(some 8), .r (.load none (.t 7)), none⟩, 63, 0⟩,
⟨7, ⟨(some 9), .p (.faddr 20 (.t 1)), none⟩, 0, 0⟩,
⟨8, ⟨(some 10), .r (.load (some 20) (.t 9)), none⟩, 128, 0⟩,
⟨9, ⟨(some 11), .b (.call 84 [(.t 8), (.t 10)]), none⟩, 511, 0⟩]⟩
theorem fp263 : ∃ fn, fb263 = denF fn ∧ ∃ func code hint, FnOk Go.Proofs.Tryz.prog TT 263 fn func code hint := f2_mk (func := Go.Proofs.Tryz.f263) (code := bodyOf Go.Proofs.Tryz.f263) (hint := hintL [(0, [(0, 0), (1, 0), (2, 0), (3, 0), (4, 0), (5, 0), (6, 0), (7, 0), (8, 0), (9, 0)])]) (n := 12) (res := []) Go.Proofs.Tryz.func263 Go.Proofs.Tryz.call263 (by kernel_rfl) (by kernel_rfl) (by kernel_rfl) (by kernel_rfl) (by kernel_rfl)
end
end Go.Sy
