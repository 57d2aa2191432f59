/- Functions. -/
import Derived.Test.YtcpeflfonacdgaaGreatGTy
set_option linter.unusedVariables false
set_option maxRecDepth 100000
set_option maxHeartbeats 0
namespace Go.Sy
noncomputable section
/- quarry/gas.Grow -/
def fa202 : AFunc := ⟨63, [.tmp 6, .tmp 7, .tmp 8], .seq (.reg [
⟨(some 4), .m (.box 24 (.t 1)), none⟩,
⟨(some 5), .m (.box 24 (.t 2)), none⟩,
⟨(some 6), .p (.mv (.c (.w (.s (.int .u64 (.lit (.ofNat 0))))))), none⟩,
⟨(some 7), .p (.mv (.c (.w (.s (.int .u64 (.lit (.ofNat 0))))))), none⟩,
⟨(some 8), .p (.mv (.c (.w (.s (.bool false))))), none⟩]) (.seq (.seq (.reg [
⟨(some 15), .r (.load (some 4) (.t 5)), none⟩,
⟨(some 16), .p (.build [.int .u64 (.lit (.ofNat 0)), .int .u64 (.lit (.ofNat 0)), .int .u64 (.lit (.ofNat 0)), .int .u64 (.lit (.ofNat 0))] []), none⟩,
⟨(some 17), .b (.cmp 0 (.agg (.one (.arr 4 22 .u64))) (.t 15) (.t 16)), none⟩]) (.cond (.t 17) (.seq (.reg [
⟨(some 18), .p (.mv (.t 0)), none⟩,
⟨(some 6), .p (.mv (.t 18)), none⟩,
⟨(some 7), .p (.mv (.c (.w (.s (.int .u64 (.lit (.ofNat 0))))))), none⟩,
⟨(some 8), .p (.mv (.c (.w (.s (.bool true))))), none⟩]) (.ret)) (.skip))) (.seq (.reg [
⟨(some 20), .r (.load (some 4) (.t 4)), none⟩,
⟨(some 21), .b (.call 43 [(.t 20)]), none⟩,
⟨(some 19), .p (.mv (.t 21)), none⟩,
⟨(some 22), .p (.ext (.t 19) 0), none⟩,
⟨(some 23), .p (.ext (.t 19) 1), none⟩,
⟨(some 9), .p (.mv (.t 22)), none⟩,
⟨(some 10), .p (.mv (.t 23)), none⟩]) (.seq (.reg [
⟨(some 25), .r (.load (some 4) (.t 5)), none⟩,
⟨(some 26), .b (.call 43 [(.t 25)]), none⟩,
⟨(some 24), .p (.mv (.t 26)), none⟩,
⟨(some 27), .p (.ext (.t 24) 0), none⟩,
⟨(some 28), .p (.ext (.t 24) 1), none⟩,
⟨(some 11), .p (.mv (.t 27)), none⟩,
⟨(some 12), .p (.mv (.t 28)), none⟩]) (.seq (.reg [
⟨(some 30), .p (.mv (.t 9)), none⟩,
⟨(some 31), .p (.mv (.t 11)), none⟩,
⟨(some 32), .b (.call 134 [(.t 30), (.t 31), (.c (.w (.s (.int .u64 (.lit (.ofNat 0))))))]), none⟩,
⟨(some 29), .p (.mv (.t 32)), none⟩,
⟨(some 33), .p (.ext (.t 29) 0), none⟩,
⟨(some 34), .p (.ext (.t 29) 1), none⟩,
⟨(some 13), .p (.mv (.t 33)), none⟩,
⟨(some 14), .p (.mv (.t 34)), none⟩]) (.seq (.seq (.reg [
⟨(some 35), .p (.mv (.t 10)), none⟩,
⟨(some 36), .p (.not (.t 35)), none⟩,
⟨(some 37), .p (.mv (.t 36)), none⟩,
⟨(some 38), .p (.mv (.t 12)), some (37, false)⟩,
⟨(some 39), .p (.not (.t 38)), some (37, false)⟩,
⟨(some 40), .p (.pick (.t 37) (.c (.w (.s (.bool true)))) (.t 39)), none⟩,
⟨(some 41), .p (.mv (.t 40)), none⟩,
⟨(some 42), .p (.mv (.t 14)), some (41, false)⟩,
⟨(some 43), .b (.cmp 4 .int (.t 42) (.c (.w (.s (.int .u64 (.lit (.ofNat 0))))))), some (41, false)⟩,
⟨(some 44), .p (.pick (.t 41) (.c (.w (.s (.bool true)))) (.t 43)), none⟩,
⟨(some 45), .p (.mv (.t 44)), none⟩,
⟨(some 46), .p (.mv (.t 13)), some (45, false)⟩,
⟨(some 47), .b (.call 201 [(.t 46)]), some (45, false)⟩,
⟨(some 48), .b (.cmp 4 .int (.t 47) (.c (.w (.s (.int .u64 (.lit (.ofNat 34359738368))))))), some (45, false)⟩,
⟨(some 49), .p (.pick (.t 45) (.c (.w (.s (.bool true)))) (.t 48)), none⟩]) (.cond (.t 49) (.seq (.reg [
⟨(some 6), .p (.mv (.c (.w (.s (.int .u64 (.lit (.ofNat 0))))))), none⟩,
⟨(some 7), .p (.mv (.c (.w (.s (.int .u64 (.lit (.ofNat 0))))))), none⟩,
⟨(some 8), .p (.mv (.c (.w (.s (.bool false))))), none⟩]) (.ret)) (.skip))) (.seq (.reg [
⟨(some 50), .p (.mv (.t 0)), none⟩,
⟨(some 51), .p (.mv (.t 13)), none⟩,
⟨(some 52), .b (.call 201 [(.t 51)]), none⟩,
⟨(some 53), .p (.ar 2 (.c (.w (.s (.int .u64 (.lit (.ofNat 32)))))) (.t 52)), none⟩,
⟨(some 54), .b (.mm true (.t 50) (.t 53)), none⟩,
⟨(some 6), .p (.mv (.t 54)), none⟩]) (.seq (.reg [
⟨(some 55), .p (.mv (.t 6)), none⟩,
⟨(some 56), .p (.mv (.t 6)), none⟩,
⟨(some 57), .p (.dv (.t 56) (.c (.w (.s (.int .u64 (.lit (.ofNat 32))))))), none⟩,
⟨(some 58), .b (.call 257 [(.t 57)]), none⟩,
⟨(some 59), .p (.mv (.t 0)), none⟩,
⟨(some 60), .p (.dv (.t 59) (.c (.w (.s (.int .u64 (.lit (.ofNat 32))))))), none⟩,
⟨(some 61), .b (.call 257 [(.t 60)]), none⟩,
⟨(some 62), .p (.ar 1 (.t 58) (.t 61)), none⟩,
⟨(some 6), .p (.mv (.t 55)), none⟩,
⟨(some 7), .p (.mv (.t 62)), none⟩,
⟨(some 8), .p (.mv (.c (.w (.s (.bool true))))), none⟩]) (.ret))))))))⟩
theorem fo202 : ∃ func code hint, FnOk Go.Proofs.Tryz.prog TT 202 fa202 func code hint := ⟨Go.Proofs.Tryz.f202, bodyOf Go.Proofs.Tryz.f202, hintL [], ⟨Go.Proofs.Tryz.func202, Go.Proofs.Tryz.call202, by kernel_rfl, by kernel_rfl, by kernel_rfl, by kernel_rfl⟩⟩
/- quarry/vm.account -/
def fa203 : AFunc := ⟨9, [.cell 2 (some 20)], .seq (.reg [
⟨(some 1), .m (.box 24 (.t 0)), none⟩,
⟨(some 2), .m (.alloc 30 (lrep (.int .u8 (.lit (.ofNat 0))) 20)), none⟩]) (.seq (.reg [
⟨(some 4), .r (.load (some 4) (.t 1)), none⟩,
⟨(some 5), .b (.call 24 [(.t 4)]), none⟩,
⟨(some 3), .m (.alloc 54 (lrep (.int .u8 (.lit (.ofNat 0))) 32)), none⟩,
⟨none, .b (.store 32 (.t 3) (.t 5)), none⟩]) (.seq (.reg [
⟨(some 6), .p (.aslice 32 1 (.t 3) (some (.c (.w (.s (.int .i64 (.lit (.ofNat 12))))))) none), none⟩,
⟨(some 7), .p (.s2a 20 (.t 6)), none⟩,
⟨(some 8), .r (.load (some 20) (.t 7)), none⟩,
⟨none, .b (.store 20 (.t 2) (.t 8)), none⟩]) (.ret)))⟩
theorem fo203 : ∃ func code hint, FnOk Go.Proofs.Tryz.prog TT 203 fa203 func code hint := ⟨Go.Proofs.Tryz.f203, bodyOf Go.Proofs.Tryz.f203, hintL [], ⟨Go.Proofs.Tryz.func203, Go.Proofs.Tryz.call203, by kernel_rfl, by kernel_rfl, by kernel_rfl, by kernel_rfl⟩⟩
/- (quarry/state.set[quarry/state.place]).has -/
def fa204 : AFunc := ⟨14, [.tmp 4], .seq (.reg [
⟨(some 3), .m (.box 113 (.t 1)), none⟩,
⟨(some 4), .p (.mv (.c (.w (.s (.bool false))))), none⟩]) (.seq (.reg [
⟨(some 8), .p (.mv (.t 0)), none⟩,
⟨(some 9), .r (.load (some 24) (.t 3)), none⟩,
⟨(some 10), .r (.lookup (.str [(0, 30, .arr 20 5 .u8), (20, 24, .arr 4 22 .u64)]) (.agg []) (.t 8) (.t 9) true), none⟩,
⟨(some 7), .p (.mv (.t 10)), none⟩,
⟨(some 11), .p (.ext (.t 7) 0), none⟩,
⟨(some 12), .p (.ext (.t 7) 1), none⟩,
⟨(some 5), .m (.alloc 174 []), none⟩,
⟨none, .b (.store 0 (.t 5) (.t 11)), none⟩,
⟨(some 6), .p (.mv (.t 12)), none⟩]) (.seq (.reg [
⟨(some 13), .p (.mv (.t 6)), none⟩,
⟨(some 4), .p (.mv (.t 13)), none⟩]) (.ret)))⟩
theorem fo204 : ∃ func code hint, FnOk Go.Proofs.Tryz.prog TT 204 fa204 func code hint := ⟨Go.Proofs.Tryz.f204, bodyOf Go.Proofs.Tryz.f204, hintL [], ⟨Go.Proofs.Tryz.func204, Go.Proofs.Tryz.call204, by kernel_rfl, by kernel_rfl, by kernel_rfl, by kernel_rfl⟩⟩
/- quarry/state.put[quarry/state.place,struct{}] -/
def fa205 : AFunc := ⟨22, [], .seq (.reg [
⟨(some 5), .m (.box 103 (.t 1)), none⟩,
⟨(some 6), .m (.box 113 (.t 2)), none⟩,
⟨(some 7), .m (.box 174 (.t 3)), none⟩]) (.seq (.reg [
⟨(some 11), .r (.load none (.t 5)), none⟩,
⟨(some 12), .r (.load (some 24) (.t 6)), none⟩,
⟨(some 13), .r (.lookup (.str [(0, 30, .arr 20 5 .u8), (20, 24, .arr 4 22 .u64)]) (.agg []) (.t 11) (.t 12) true), none⟩,
⟨(some 10), .p (.mv (.t 13)), none⟩,
⟨(some 14), .p (.ext (.t 10) 0), none⟩,
⟨(some 15), .p (.ext (.t 10) 1), none⟩,
⟨(some 8), .m (.alloc 174 []), none⟩,
⟨(some 9), .m (.alloc 4 [.bool false]), none⟩,
⟨none, .b (.store 0 (.t 8) (.t 14)), none⟩,
⟨none, .b (.store 1 (.t 9) (.t 15)), none⟩]) (.seq (.reg [
⟨(some 16), .r (.load none (.t 5)), none⟩,
⟨(some 17), .r (.load (some 24) (.t 6)), none⟩,
⟨(some 18), .r (.load (some 0) (.t 7)), none⟩,
⟨none, .b (.mupd (.str [(0, 30, .arr 20 5 .u8), (20, 24, .arr 4 22 .u64)]) (.t 16) (.t 17) (.t 18)), none⟩]) (.reg [
⟨(some 19), .p (.mv (.t 0)), none⟩,
⟨(some 20), .p (.mkfunc 258 [(.t 9), (.t 8), (.t 5), (.t 6)]), none⟩,
⟨(some 21), .b (.call 93 [(.t 19), (.t 20)]), none⟩])))⟩
theorem fo205 : ∃ func code hint, FnOk Go.Proofs.Tryz.prog TT 205 fa205 func code hint := ⟨Go.Proofs.Tryz.f205, bodyOf Go.Proofs.Tryz.f205, hintL [], ⟨Go.Proofs.Tryz.func205, Go.Proofs.Tryz.call205, by kernel_rfl, by kernel_rfl, by kernel_rfl, by kernel_rfl⟩⟩
/- (*quarry/state.State).Original -/
def fa206 : AFunc := ⟨31, [.cell 6 (some 4)], .seq (.reg [
⟨(some 4), .m (.box 30 (.t 1)), none⟩,
⟨(some 5), .m (.box 24 (.t 2)), none⟩,
⟨(some 6), .m (.alloc 24 [.int .u64 (.lit (.ofNat 0)), .int .u64 (.lit (.ofNat 0)), .int .u64 (.lit (.ofNat 0)), .int .u64 (.lit (.ofNat 0))]), none⟩]) (.seq (.seq (.reg [
⟨(some 9), .p (.mv (.t 0)), none⟩,
⟨(some 10), .r (.load (some 20) (.t 4)), none⟩,
⟨(some 11), .b (.call 216 [(.t 9), (.t 10)]), none⟩]) (.cond (.t 11) (.seq (.reg [
⟨(some 12), .p (.build [.int .u64 (.lit (.ofNat 0)), .int .u64 (.lit (.ofNat 0)), .int .u64 (.lit (.ofNat 0)), .int .u64 (.lit (.ofNat 0))] []), none⟩,
⟨none, .b (.store 4 (.t 6) (.t 12)), none⟩]) (.ret)) (.skip))) (.seq (.seq (.draw [
⟨0, ⟨(some 14), .p (.mv (.t 0)), none⟩, 0, 0⟩,
⟨1, ⟨(some 15), .p (.nilCheck (.t 14)), none⟩, 1, 0⟩,
⟨2, ⟨(some 16), .p (.faddr 1 (.t 15)), none⟩, 3, 0⟩,
⟨3, ⟨(some 17), .p (.faddr 6 (.t 16)), none⟩, 7, 0⟩,
⟨4, ⟨(some 18), .r (.load none (.t 17)), none⟩, 15, 0⟩,
⟨5, ⟨(some 19), .r (.load (some 20) (.t 4)), none⟩, 0, 0⟩,
⟨6, ⟨(some 20), .r (.load (some 4) (.t 5)), none⟩, 0, 0⟩,
⟨7, ⟨(some 21), .p (.build [.int .u8 (.lit (.ofNat 0)), .int .u8 (.lit (.ofNat 0)), .int .u8 (.lit (.ofNat 0)), .int .u8 (.lit (.ofNat 0)), .int .u8 (.lit (.ofNat 0)), .int .u8 (.lit (.ofNat 0)), .int .u8 (.lit (.ofNat 0)), .int .u8 (.lit (.ofNat 0)), .int .u8 (.lit (.ofNat 0)), .int .u8 (.lit (.ofNat 0)), .int .u8 (.lit (.ofNat 0)), .int .u8 (.lit (.ofNat 0)), .int .u8 (.lit (.ofNat 0)), .int .u8 (.lit (.ofNat 0)), .int .u8 (.lit (.ofNat 0)), .int .u8 (.lit (.ofNat 0)), .int .u8 (.lit (.ofNat 0)), .int .u8 (.lit (.ofNat 0)), .int .u8 (.lit (.ofNat 0)), .int .u8 (.lit (.ofNat 0)), .int .u64 (.lit (.ofNat 0)), .int .u64 (.lit (.ofNat 0)), .int .u64 (.lit (.ofNat 0)), .int .u64 (.lit (.ofNat 0))] [(0, 20, (.t 19)), (20, 4, (.t 20))]), none⟩, 96, 0⟩,
⟨8, ⟨(some 22), .r (.lookup (.str [(0, 30, .arr 20 5 .u8), (20, 24, .arr 4 22 .u64)]) (.agg [.int .u64 (.lit (.ofNat 0)), .int .u64 (.lit (.ofNat 0)), .int .u64 (.lit (.ofNat 0)), .int .u64 (.lit (.ofNat 0))]) (.t 18) (.t 21) true), none⟩, 255, 0⟩,
⟨9, ⟨(some 13), .p (.mv (.t 22)), none⟩, 511, 0⟩,
⟨10, ⟨(some 23), .p (.ext (.t 13) 0), none⟩, 1023, 0⟩,
⟨11, ⟨(some 24), .p (.ext (.t 13) 1), none⟩, 1023, 0⟩,
⟨12, ⟨(some 7), .m (.alloc 24 [.int .u64 (.lit (.ofNat 0)), .int .u64 (.lit (.ofNat 0)), .int .u64 (.lit (.ofNat 0)), .int .u64 (.lit (.ofNat 0))]), none⟩, 0, 0⟩,
⟨13, ⟨none, .b (.store 4 (.t 7) (.t 23)), none⟩, 6143, 0⟩,
⟨14, ⟨(some 8), .p (.mv (.t 24)), none⟩, 16383, 0⟩]) (.seq (.reg [
⟨(some 25), .p (.mv (.t 8)), none⟩]) (.cond (.t 25) (.seq (.reg [
⟨(some 26), .r (.load (some 4) (.t 7)), none⟩,
⟨none, .b (.store 4 (.t 6) (.t 26)), none⟩]) (.ret)) (.skip)))) (.seq (.reg [
⟨(some 27), .p (.mv (.t 0)), none⟩,
⟨(some 28), .r (.load (some 20) (.t 4)), none⟩,
⟨(some 29), .r (.load (some 4) (.t 5)), none⟩,
⟨(some 30), .b (.call 34 [(.t 27), (.t 28), (.t 29)]), none⟩,
⟨none, .b (.store 4 (.t 6) (.t 30)), none⟩]) (.ret))))⟩
theorem fo206 : ∃ func code hint, FnOk Go.Proofs.Tryz.prog TT 206 fa206 func code hint := ⟨Go.Proofs.Tryz.f206, bodyOf Go.Proofs.Tryz.f206, hintL [(3, [(0, 0), (1, 0), (2, 0), (3, 0), (4, 0), (5, 0), (6, 0), (7, 0), (8, 0), (9, 0), (10, 0), (11, 0), (12, 0), (13, 0), (14, 0)])], ⟨Go.Proofs.Tryz.func206, Go.Proofs.Tryz.call206, by kernel_rfl, by kernel_rfl, by kernel_rfl, by kernel_rfl⟩⟩
/- (*quarry/state.State).AddRefund -/
def fa207 : AFunc := ⟨22, [], .seq (.reg [
⟨(some 7), .p (.mv (.t 0)), none⟩,
⟨(some 8), .p (.nilCheck (.t 7)), none⟩,
⟨(some 9), .p (.faddr 1 (.t 8)), none⟩,
⟨(some 10), .p (.faddr 7 (.t 9)), none⟩,
⟨(some 11), .r (.load none (.t 10)), none⟩,
⟨(some 12), .p (.mv (.t 1)), none⟩,
⟨(some 13), .b (.call 134 [(.t 11), (.t 12), (.c (.w (.s (.int .u64 (.lit (.ofNat 0))))))]), none⟩,
⟨(some 6), .p (.mv (.t 13)), none⟩,
⟨(some 14), .p (.ext (.t 6) 0), none⟩,
⟨(some 15), .p (.ext (.t 6) 1), none⟩,
⟨(some 4), .p (.mv (.t 14)), none⟩,
⟨(some 5), .p (.mv (.t 15)), none⟩]) (.reg [
⟨(some 16), .p (.mv (.t 0)), none⟩,
⟨(some 17), .p (.mv (.t 4)), none⟩,
⟨(some 18), .p (.mv (.t 5)), none⟩,
⟨(some 19), .p (.ar 1 (.c (.w (.s (.int .u64 (.lit (.ofNat 0)))))) (.t 18)), none⟩,
⟨(some 20), .p (.bt 1 (.t 17) (.t 19)), none⟩,
⟨(some 21), .b (.call 259 [(.t 16), (.t 20)]), none⟩])⟩
theorem fo207 : ∃ func code hint, FnOk Go.Proofs.Tryz.prog TT 207 fa207 func code hint := ⟨Go.Proofs.Tryz.f207, bodyOf Go.Proofs.Tryz.f207, hintL [], ⟨Go.Proofs.Tryz.func207, Go.Proofs.Tryz.call207, by kernel_rfl, by kernel_rfl, by kernel_rfl, by kernel_rfl⟩⟩
/- (*quarry/state.State).SubRefund -/
def fa208 : AFunc := ⟨19, [], .draw [
⟨0, ⟨(some 4), .p (.mv (.t 0)), none⟩, 0, 0⟩,
⟨1, ⟨(some 5), .p (.mv (.t 0)), none⟩, 0, 0⟩,
⟨2, ⟨(some 6), .p (.nilCheck (.t 5)), none⟩, 2, 0⟩,
⟨3, ⟨(some 7), .p (.faddr 1 (.t 6)), none⟩, 6, 0⟩,
⟨4, ⟨(some 8), .p (.faddr 7 (.t 7)), none⟩, 14, 0⟩,
⟨5, ⟨(some 9), .r (.load none (.t 8)), none⟩, 30, 0⟩,
⟨6, ⟨(some 10), .p (.mv (.t 1)), none⟩, 0, 0⟩,
⟨7, ⟨(some 11), .p (.mv (.t 0)), none⟩, 0, 0⟩,
⟨8, ⟨(some 12), .p (.nilCheck (.t 11)), none⟩, 128, 0⟩,
⟨9, ⟨(some 13), .p (.faddr 1 (.t 12)), none⟩, 384, 0⟩,
⟨10, ⟨(some 14), .p (.faddr 7 (.t 13)), none⟩, 896, 0⟩,
⟨11, ⟨(some 15), .r (.load none (.t 14)), none⟩, 1920, 0⟩,
⟨12, ⟨(some 16), .b (.mm false (.t 10) (.t 15)), none⟩, 4032, 0⟩,
⟨13, ⟨(some 17), .p (.ar 1 (.t 9) (.t 16)), none⟩, 8190, 0⟩,
⟨14, ⟨(some 18), .b (.call 259 [(.t 4), (.t 17)]), none⟩, 16383, 0⟩]⟩
theorem fo208 : ∃ func code hint, FnOk Go.Proofs.Tryz.prog TT 208 fa208 func code hint := ⟨Go.Proofs.Tryz.f208, bodyOf Go.Proofs.Tryz.f208, hintL [(0, [(0, 0), (1, 0), (2, 0), (3, 0), (4, 0), (5, 0), (6, 0), (7, 0), (8, 0), (9, 0), (10, 0), (11, 0), (12, 0), (13, 0), (14, 0)])], ⟨Go.Proofs.Tryz.func208, Go.Proofs.Tryz.call208, by kernel_rfl, by kernel_rfl, by kernel_rfl, by kernel_rfl⟩⟩
/- (*quarry/state.State).SetSlot -/
def fa209 : AFunc := ⟨39, [], .seq (.reg [
⟨(some 5), .m (.box 30 (.t 1)), none⟩,
⟨(some 6), .m (.box 24 (.t 2)), none⟩,
⟨(some 7), .m (.box 24 (.t 3)), none⟩]) (.seq (.reg [
⟨(some 9), .p (.mv (.t 0)), none⟩,
⟨(some 10), .r (.load (some 20) (.t 5)), none⟩,
⟨(some 11), .b (.call 92 [(.t 9), (.t 10)]), none⟩,
⟨(some 8), .p (.mv (.t 11)), none⟩]) (.seq (.draw [
⟨0, ⟨(some 12), .p (.mv (.t 0)), none⟩, 0, 0⟩,
⟨1, ⟨(some 13), .r (.load (some 20) (.t 5)), none⟩, 0, 0⟩,
⟨2, ⟨(some 14), .r (.load (some 4) (.t 6)), none⟩, 0, 0⟩,
⟨3, ⟨(some 15), .p (.build [.int .u8 (.lit (.ofNat 0)), .int .u8 (.lit (.ofNat 0)), .int .u8 (.lit (.ofNat 0)), .int .u8 (.lit (.ofNat 0)), .int .u8 (.lit (.ofNat 0)), .int .u8 (.lit (.ofNat 0)), .int .u8 (.lit (.ofNat 0)), .int .u8 (.lit (.ofNat 0)), .int .u8 (.lit (.ofNat 0)), .int .u8 (.lit (.ofNat 0)), .int .u8 (.lit (.ofNat 0)), .int .u8 (.lit (.ofNat 0)), .int .u8 (.lit (.ofNat 0)), .int .u8 (.lit (.ofNat 0)), .int .u8 (.lit (.ofNat 0)), .int .u8 (.lit (.ofNat 0)), .int .u8 (.lit (.ofNat 0)), .int .u8 (.lit (.ofNat 0)), .int .u8 (.lit (.ofNat 0)), .int .u8 (.lit (.ofNat 0)), .int .u64 (.lit (.ofNat 0)), .int .u64 (.lit (.ofNat 0)), .int .u64 (.lit (.ofNat 0)), .int .u64 (.lit (.ofNat 0))] [(0, 20, (.t 13)), (20, 4, (.t 14))]), none⟩, 6, 0⟩,
⟨4, ⟨(some 16), .p (.mv (.t 8)), none⟩, 0, 0⟩,
⟨5, ⟨(some 17), .p (.nilCheck (.t 16)), none⟩, 16, 0⟩,
⟨6, ⟨(some 18), .p (.faddr 6 (.t 17)), none⟩, 48, 0⟩,
⟨7, ⟨(some 19), .r (.load none (.t 18)), none⟩, 112, 0⟩,
⟨8, ⟨(some 20), .r (.load (some 4) (.t 6)), none⟩, 0, 0⟩,
⟨9, ⟨(some 21), .r (.lookup (.one (.arr 4 22 .u64)) (.agg [.int .u64 (.lit (.ofNat 0)), .int .u64 (.lit (.ofNat 0)), .int .u64 (.lit (.ofNat 0)), .int .u64 (.lit (.ofNat 0))]) (.t 19) (.t 20) false), none⟩, 496, 0⟩,
⟨10, ⟨(some 22), .b (.call 96 [(.t 12), (.t 15), (.t 21)]), none⟩, 1023, 0⟩]) (.seq (.draw [
⟨0, ⟨(some 23), .p (.mv (.t 0)), none⟩, 0, 0⟩,
⟨1, ⟨(some 24), .p (.mv (.t 8)), none⟩, 0, 0⟩,
⟨2, ⟨(some 25), .p (.nilCheck (.t 24)), none⟩, 2, 0⟩,
⟨3, ⟨(some 26), .p (.faddr 6 (.t 25)), none⟩, 6, 0⟩,
⟨4, ⟨(some 27), .r (.load none (.t 26)), none⟩, 14, 0⟩,
⟨5, ⟨(some 28), .r (.load (some 4) (.t 6)), none⟩, 0, 0⟩,
⟨6, ⟨(some 29), .r (.load (some 4) (.t 7)), none⟩, 0, 0⟩,
⟨7, ⟨(some 30), .b (.call 260 [(.t 23), (.t 27), (.t 28), (.t 29)]), none⟩, 127, 0⟩]) (.seq (.reg [
⟨(some 31), .r (.load (some 4) (.t 7)), none⟩,
⟨(some 32), .p (.build [.int .u64 (.lit (.ofNat 0)), .int .u64 (.lit (.ofNat 0)), .int .u64 (.lit (.ofNat 0)), .int .u64 (.lit (.ofNat 0))] []), none⟩,
⟨(some 33), .b (.cmp 0 (.agg (.one (.arr 4 22 .u64))) (.t 31) (.t 32)), none⟩]) (.cond (.t 33) (.draw [
⟨0, ⟨(some 34), .p (.mv (.t 8)), none⟩, 0, 0⟩,
⟨1, ⟨(some 35), .p (.nilCheck (.t 34)), none⟩, 1, 0⟩,
⟨2, ⟨(some 36), .p (.faddr 6 (.t 35)), none⟩, 3, 0⟩,
⟨3, ⟨(some 37), .r (.load none (.t 36)), none⟩, 7, 0⟩,
⟨4, ⟨(some 38), .r (.load (some 4) (.t 6)), none⟩, 0, 0⟩,
⟨5, ⟨none, .b (.del (.one (.arr 4 22 .u64)) (.t 37) (.t 38)), none⟩, 31, 0⟩]) (.skip))))))⟩
theorem fo209 : ∃ func code hint, FnOk Go.Proofs.Tryz.prog TT 209 fa209 func code hint := ⟨Go.Proofs.Tryz.f209, bodyOf Go.Proofs.Tryz.f209, hintL [(2, [(0, 0), (1, 0), (2, 0), (3, 0), (4, 0), (5, 0), (6, 0), (7, 0), (8, 0), (9, 0), (10, 0)]), (3, [(0, 0), (1, 0), (2, 0), (3, 0), (4, 0), (5, 0), (6, 0), (7, 0)]), (5, [(0, 0), (1, 0), (2, 0), (3, 0), (4, 0), (5, 0)])], ⟨Go.Proofs.Tryz.func209, Go.Proofs.Tryz.call209, by kernel_rfl, by kernel_rfl, by kernel_rfl, by kernel_rfl⟩⟩
/- quarry/state.put[quarry/state.place,quarry/api.Word] -/
def fa211 : AFunc := ⟨22, [], .seq (.reg [
⟨(some 5), .m (.box 105 (.t 1)), none⟩,
⟨(some 6), .m (.box 113 (.t 2)), none⟩,
⟨(some 7), .m (.box 24 (.t 3)), none⟩]) (.seq (.reg [
⟨(some 11), .r (.load none (.t 5)), none⟩,
⟨(some 12), .r (.load (some 24) (.t 6)), none⟩,
⟨(some 13), .r (.lookup (.str [(0, 30, .arr 20 5 .u8), (20, 24, .arr 4 22 .u64)]) (.agg [.int .u64 (.lit (.ofNat 0)), .int .u64 (.lit (.ofNat 0)), .int .u64 (.lit (.ofNat 0)), .int .u64 (.lit (.ofNat 0))]) (.t 11) (.t 12) true), none⟩,
⟨(some 10), .p (.mv (.t 13)), none⟩,
⟨(some 14), .p (.ext (.t 10) 0), none⟩,
⟨(some 15), .p (.ext (.t 10) 1), none⟩,
⟨(some 8), .m (.alloc 24 [.int .u64 (.lit (.ofNat 0)), .int .u64 (.lit (.ofNat 0)), .int .u64 (.lit (.ofNat 0)), .int .u64 (.lit (.ofNat 0))]), none⟩,
⟨(some 9), .m (.alloc 4 [.bool false]), none⟩,
⟨none, .b (.store 4 (.t 8) (.t 14)), none⟩,
⟨none, .b (.store 1 (.t 9) (.t 15)), none⟩]) (.seq (.reg [
⟨(some 16), .r (.load none (.t 5)), none⟩,
⟨(some 17), .r (.load (some 24) (.t 6)), none⟩,
⟨(some 18), .r (.load (some 4) (.t 7)), none⟩,
⟨none, .b (.mupd (.str [(0, 30, .arr 20 5 .u8), (20, 24, .arr 4 22 .u64)]) (.t 16) (.t 17) (.t 18)), none⟩]) (.reg [
⟨(some 19), .p (.mv (.t 0)), none⟩,
⟨(some 20), .p (.mkfunc 262 [(.t 9), (.t 8), (.t 5), (.t 6)]), none⟩,
⟨(some 21), .b (.call 93 [(.t 19), (.t 20)]), none⟩])))⟩
theorem fo211 : ∃ func code hint, FnOk Go.Proofs.Tryz.prog TT 211 fa211 func code hint := ⟨Go.Proofs.Tryz.f211, bodyOf Go.Proofs.Tryz.f211, hintL [], ⟨Go.Proofs.Tryz.func211, Go.Proofs.Tryz.call211, by kernel_rfl, by kernel_rfl, by kernel_rfl, by kernel_rfl⟩⟩
/- (*quarry/vm.frame).fresh -/
def fa215 : AFunc := ⟨35, [.tmp 6], .seq (.reg [
⟨(some 4), .m (.box 30 (.t 1)), none⟩,
⟨(some 6), .p (.mv (.c (.w (.s (.bool false))))), none⟩]) (.seq (.seq (.reg [
⟨(some 7), .p (.mv (.t 0)), none⟩,
⟨(some 8), .p (.nilCheck (.t 7)), none⟩,
⟨(some 9), .p (.faddr 0 (.t 8)), none⟩,
⟨(some 10), .r (.load none (.t 9)), none⟩,
⟨(some 11), .b (.call 70 [(.t 10), (.c (.w (.s (.int .i64 (.lit (.ofNat 3))))))]), none⟩,
⟨(some 12), .p (.not (.t 11)), none⟩]) (.cond (.t 12) (.seq (.draw [
⟨0, ⟨(some 13), .p (.mv (.t 0)), none⟩, 0, 0⟩,
⟨1, ⟨(some 14), .p (.nilCheck (.t 13)), none⟩, 1, 0⟩,
⟨2, ⟨(some 15), .p (.faddr 0 (.t 14)), none⟩, 3, 0⟩,
⟨3, ⟨(some 16), .r (.load none (.t 15)), none⟩, 7, 0⟩,
⟨4, ⟨(some 17), .p (.nilCheck (.t 16)), none⟩, 15, 0⟩,
⟨5, ⟨(some 18), .p (.faddr 89 (.t 17)), none⟩, 31, 0⟩,
⟨6, ⟨(some 19), .r (.load none (.t 18)), none⟩, 63, 0⟩,
⟨7, ⟨(some 20), .r (.load (some 20) (.t 4)), none⟩, 0, 0⟩,
⟨8, ⟨(some 21), .b (.call 38 [(.t 19), (.t 20)]), none⟩, 255, 0⟩,
⟨9, ⟨(some 22), .p (.not (.t 21)), none⟩, 511, 0⟩,
⟨10, ⟨(some 6), .p (.mv (.t 22)), none⟩, 1023, 0⟩]) (.ret)) (.skip))) (.seq (.draw [
⟨0, ⟨(some 23), .p (.mv (.t 2)), none⟩, 0, 0⟩,
⟨1, ⟨(some 24), .p (.mv (.t 23)), none⟩, 1, 0⟩,
⟨2, ⟨(some 25), .p (.mv (.t 0)), some (24, true)⟩, 3, 0⟩,
⟨3, ⟨(some 26), .p (.nilCheck (.t 25)), some (24, true)⟩, 7, 0⟩,
⟨4, ⟨(some 27), .p (.faddr 0 (.t 26)), some (24, true)⟩, 15, 0⟩,
⟨5, ⟨(some 28), .r (.load none (.t 27)), some (24, true)⟩, 31, 0⟩,
⟨6, ⟨(some 29), .p (.nilCheck (.t 28)), some (24, true)⟩, 63, 0⟩,
⟨7, ⟨(some 30), .p (.faddr 89 (.t 29)), some (24, true)⟩, 127, 0⟩,
⟨8, ⟨(some 31), .r (.load none (.t 30)), some (24, true)⟩, 255, 0⟩,
⟨9, ⟨(some 32), .r (.load (some 20) (.t 4)), some (24, true)⟩, 3, 0⟩,
⟨10, ⟨(some 33), .b (.call 60 [(.t 31), (.t 32)]), some (24, true)⟩, 1023, 0⟩,
⟨11, ⟨(some 34), .p (.pick (.t 24) (.t 33) (.c (.w (.s (.bool false))))), none⟩, 2047, 0⟩,
⟨12, ⟨(some 6), .p (.mv (.t 34)), none⟩, 4095, 0⟩]) (.ret)))⟩
theorem fo215 : ∃ func code hint, FnOk Go.Proofs.Tryz.prog TT 215 fa215 func code hint := ⟨Go.Proofs.Tryz.f215, bodyOf Go.Proofs.Tryz.f215, hintL [(2, [(0, 0), (1, 0), (2, 0), (3, 0), (4, 0), (5, 0), (6, 0), (7, 0), (8, 0), (9, 0), (10, 0)]), (3, [(0, 0), (1, 0), (2, 0), (3, 0), (4, 0), (5, 0), (6, 0), (7, 0), (8, 0), (9, 0), (10, 0), (11, 0), (12, 0)])], ⟨Go.Proofs.Tryz.func215, Go.Proofs.Tryz.call215, by kernel_rfl, by kernel_rfl, by kernel_rfl, by kernel_rfl⟩⟩
/- (*quarry/state.State).Made -/
def fa216 : AFunc := ⟨12, [.tmp 4], .seq (.reg [
⟨(some 3), .m (.box 30 (.t 1)), none⟩,
⟨(some 4), .p (.mv (.c (.w (.s (.bool false))))), none⟩]) (.seq (.draw [
⟨0, ⟨(some 5), .p (.mv (.t 0)), none⟩, 0, 0⟩,
⟨1, ⟨(some 6), .p (.nilCheck (.t 5)), none⟩, 1, 0⟩,
⟨2, ⟨(some 7), .p (.faddr 1 (.t 6)), none⟩, 3, 0⟩,
⟨3, ⟨(some 8), .p (.faddr 1 (.t 7)), none⟩, 7, 0⟩,
⟨4, ⟨(some 9), .r (.load none (.t 8)), none⟩, 15, 0⟩,
⟨5, ⟨(some 10), .r (.load (some 20) (.t 3)), none⟩, 0, 0⟩,
⟨6, ⟨(some 11), .b (.call 59 [(.t 9), (.t 10)]), none⟩, 63, 0⟩,
⟨7, ⟨(some 4), .p (.mv (.t 11)), none⟩, 127, 0⟩]) (.ret))⟩
theorem fo216 : ∃ func code hint, FnOk Go.Proofs.Tryz.prog TT 216 fa216 func code hint := ⟨Go.Proofs.Tryz.f216, bodyOf Go.Proofs.Tryz.f216, hintL [(1, [(0, 0), (1, 0), (2, 0), (3, 0), (4, 0), (5, 0), (6, 0), (7, 0)])], ⟨Go.Proofs.Tryz.func216, Go.Proofs.Tryz.call216, by kernel_rfl, by kernel_rfl, by kernel_rfl, by kernel_rfl⟩⟩
/- (*quarry/vm.frame).sent -/
def fa218 : AFunc := ⟨80, [.cell 6 (some 23)], .seq (.reg [
⟨(some 3), .m (.box 188 (.t 0)), none⟩,
⟨(some 5), .m (.box 130 (.t 2)), none⟩,
⟨(some 6), .m (.alloc 132 [.int .i64 (.lit (.ofNat 0)), .nils, .int .u64 (.lit (.ofNat 0)), .int .u8 (.lit (.ofNat 0)), .int .u8 (.lit (.ofNat 0)), .int .u8 (.lit (.ofNat 0)), .int .u8 (.lit (.ofNat 0)), .int .u8 (.lit (.ofNat 0)), .int .u8 (.lit (.ofNat 0)), .int .u8 (.lit (.ofNat 0)), .int .u8 (.lit (.ofNat 0)), .int .u8 (.lit (.ofNat 0)), .int .u8 (.lit (.ofNat 0)), .int .u8 (.lit (.ofNat 0)), .int .u8 (.lit (.ofNat 0)), .int .u8 (.lit (.ofNat 0)), .int .u8 (.lit (.ofNat 0)), .int .u8 (.lit (.ofNat 0)), .int .u8 (.lit (.ofNat 0)), .int .u8 (.lit (.ofNat 0)), .int .u8 (.lit (.ofNat 0)), .int .u8 (.lit (.ofNat 0)), .int .u8 (.lit (.ofNat 0))]), none⟩]) (.seq (.seq (.reg [
⟨(some 7), .p (.mv (.t 1)), none⟩]) (.block 0 (.seq (.reg [
⟨(some 9), .b (.cmp 0 .int (.t 7) (.c (.w (.s (.int .i64 (.lit (.ofNat 241))))))), none⟩,
⟨(some 8), .p (.mv (.t 9)), none⟩]) (.cond (.t 8) (.seq (.draw [
⟨0, ⟨(some 10), .r (.load none (.t 3)), none⟩, 0, 0⟩,
⟨1, ⟨(some 11), .p (.nilCheck (.t 10)), none⟩, 1, 0⟩,
⟨2, ⟨(some 12), .p (.faddr 0 (.t 11)), none⟩, 3, 0⟩,
⟨3, ⟨(some 13), .r (.load none (.t 12)), none⟩, 7, 0⟩,
⟨4, ⟨(some 14), .r (.load (some 68) (.t 5)), none⟩, 0, 0⟩,
⟨5, ⟨(some 15), .b (.call 54 [(.t 13), (.t 14)]), none⟩, 31, 0⟩,
⟨6, ⟨none, .b (.store 23 (.t 6) (.t 15)), none⟩, 63, 0⟩]) (.ret)) (.seq (.reg [
⟨(some 17), .b (.cmp 0 .int (.t 7) (.c (.w (.s (.int .i64 (.lit (.ofNat 242))))))), none⟩,
⟨(some 16), .p (.mv (.t 17)), none⟩]) (.cond (.t 16) (.seq (.seq (.draw [
⟨0, ⟨(some 18), .r (.load none (.t 3)), none⟩, 0, 0⟩,
⟨1, ⟨(some 19), .p (.nilCheck (.t 18)), none⟩, 1, 0⟩,
⟨2, ⟨(some 20), .p (.faddr 0 (.t 19)), none⟩, 3, 0⟩,
⟨3, ⟨(some 21), .r (.load none (.t 20)), none⟩, 7, 0⟩,
⟨4, ⟨(some 22), .r (.load none (.t 3)), none⟩, 0, 0⟩,
⟨5, ⟨(some 23), .p (.nilCheck (.t 22)), none⟩, 16, 0⟩,
⟨6, ⟨(some 24), .p (.faddr 1 (.t 23)), none⟩, 48, 0⟩,
⟨7, ⟨(some 25), .p (.faddr 20 (.t 24)), none⟩, 112, 0⟩,
⟨8, ⟨(some 26), .r (.load (some 20) (.t 25)), none⟩, 240, 0⟩,
⟨9, ⟨(some 27), .p (.faddr 60 (.t 5)), none⟩, 0, 0⟩,
⟨10, ⟨(some 28), .r (.load (some 4) (.t 27)), none⟩, 512, 0⟩,
⟨11, ⟨(some 29), .b (.call 67 [(.t 21), (.t 26), (.t 28)]), none⟩, 2047, 0⟩,
⟨12, ⟨(some 30), .p (.not (.t 29)), none⟩, 4095, 0⟩]) (.cond (.t 30) (.seq (.reg [
⟨(some 31), .p (.faddr 65 (.t 5)), none⟩,
⟨(some 32), .r (.load none (.t 31)), none⟩,
⟨(some 33), .b (.call 68 [(.t 32)]), none⟩,
⟨none, .b (.store 23 (.t 6) (.t 33)), none⟩]) (.ret)) (.skip))) (.seq (.reg [
⟨(some 34), .r (.load none (.t 3)), none⟩,
⟨(some 35), .p (.nilCheck (.t 34)), none⟩,
⟨(some 36), .p (.faddr 1 (.t 35)), none⟩,
⟨(some 37), .p (.faddr 20 (.t 36)), none⟩,
⟨(some 38), .r (.load (some 20) (.t 37)), none⟩,
⟨(some 39), .p (.faddr 20 (.t 5)), none⟩,
⟨none, .b (.store 20 (.t 39) (.t 38)), none⟩]) (.seq (.draw [
⟨0, ⟨(some 40), .r (.load none (.t 3)), none⟩, 0, 0⟩,
⟨1, ⟨(some 41), .p (.nilCheck (.t 40)), none⟩, 1, 0⟩,
⟨2, ⟨(some 42), .p (.faddr 0 (.t 41)), none⟩, 3, 0⟩,
⟨3, ⟨(some 43), .r (.load none (.t 42)), none⟩, 7, 0⟩,
⟨4, ⟨(some 44), .r (.load (some 68) (.t 5)), none⟩, 0, 0⟩,
⟨5, ⟨(some 45), .b (.call 85 [(.t 43), (.t 44), (.c (.w (.s (.fn 263 []))))]), none⟩, 31, 0⟩,
⟨6, ⟨none, .b (.store 23 (.t 6) (.t 45)), none⟩, 63, 0⟩]) (.ret)))) (.seq (.reg [
⟨(some 47), .b (.cmp 0 .int (.t 7) (.c (.w (.s (.int .i64 (.lit (.ofNat 244))))))), none⟩,
⟨(some 46), .p (.mv (.t 47)), none⟩]) (.cond (.t 46) (.seq (.draw [
⟨0, ⟨(some 48), .r (.load none (.t 3)), none⟩, 0, 0⟩,
⟨1, ⟨(some 49), .p (.nilCheck (.t 48)), none⟩, 1, 0⟩,
⟨2, ⟨(some 50), .p (.faddr 1 (.t 49)), none⟩, 3, 0⟩,
⟨3, ⟨(some 51), .p (.faddr 20 (.t 50)), none⟩, 7, 0⟩,
⟨4, ⟨(some 52), .r (.load (some 20) (.t 51)), none⟩, 15, 0⟩,
⟨5, ⟨(some 53), .r (.load none (.t 3)), none⟩, 0, 0⟩,
⟨6, ⟨(some 54), .p (.nilCheck (.t 53)), none⟩, 32, 0⟩,
⟨7, ⟨(some 55), .p (.faddr 1 (.t 54)), none⟩, 96, 0⟩,
⟨8, ⟨(some 56), .p (.faddr 0 (.t 55)), none⟩, 224, 0⟩,
⟨9, ⟨(some 57), .r (.load (some 20) (.t 56)), none⟩, 480, 0⟩,
⟨10, ⟨(some 58), .r (.load none (.t 3)), none⟩, 0, 0⟩,
⟨11, ⟨(some 59), .p (.nilCheck (.t 58)), none⟩, 1024, 0⟩,
⟨12, ⟨(some 60), .p (.faddr 1 (.t 59)), none⟩, 3072, 0⟩,
⟨13, ⟨(some 61), .p (.faddr 60 (.t 60)), none⟩, 7168, 0⟩,
⟨14, ⟨(some 62), .r (.load (some 4) (.t 61)), none⟩, 15360, 0⟩,
⟨15, ⟨(some 63), .p (.faddr 20 (.t 5)), none⟩, 31, 0⟩,
⟨16, ⟨none, .b (.store 20 (.t 63) (.t 52)), none⟩, 32799, 0⟩,
⟨17, ⟨(some 64), .p (.faddr 0 (.t 5)), none⟩, 99327, 0⟩,
⟨18, ⟨none, .b (.store 20 (.t 64) (.t 57)), none⟩, 230399, 0⟩,
⟨19, ⟨(some 65), .p (.faddr 60 (.t 5)), none⟩, 524287, 0⟩,
⟨20, ⟨none, .b (.store 4 (.t 65) (.t 62)), none⟩, 1048575, 0⟩]) (.seq (.draw [
⟨0, ⟨(some 66), .r (.load none (.t 3)), none⟩, 0, 0⟩,
⟨1, ⟨(some 67), .p (.nilCheck (.t 66)), none⟩, 1, 0⟩,
⟨2, ⟨(some 68), .p (.faddr 0 (.t 67)), none⟩, 3, 0⟩,
⟨3, ⟨(some 69), .r (.load none (.t 68)), none⟩, 7, 0⟩,
⟨4, ⟨(some 70), .r (.load (some 68) (.t 5)), none⟩, 0, 0⟩,
⟨5, ⟨(some 71), .b (.call 85 [(.t 69), (.t 70), (.c (.w (.s (.fn 264 []))))]), none⟩, 31, 0⟩,
⟨6, ⟨none, .b (.store 23 (.t 6) (.t 71)), none⟩, 63, 0⟩]) (.ret))) (.skip))))))))) (.seq (.reg [
⟨(some 72), .p (.faddr 66 (.t 5)), none⟩,
⟨none, .b (.store 1 (.t 72) (.c (.w (.s (.bool true))))), none⟩]) (.seq (.draw [
⟨0, ⟨(some 73), .r (.load none (.t 3)), none⟩, 0, 0⟩,
⟨1, ⟨(some 74), .p (.nilCheck (.t 73)), none⟩, 1, 0⟩,
⟨2, ⟨(some 75), .p (.faddr 0 (.t 74)), none⟩, 3, 0⟩,
⟨3, ⟨(some 76), .r (.load none (.t 75)), none⟩, 7, 0⟩,
⟨4, ⟨(some 77), .r (.load (some 68) (.t 5)), none⟩, 0, 0⟩,
⟨5, ⟨(some 78), .p (.mkfunc 265 [(.t 3), (.t 5)]), none⟩, 0, 0⟩,
⟨6, ⟨(some 79), .b (.call 85 [(.t 76), (.t 77), (.t 78)]), none⟩, 63, 0⟩,
⟨7, ⟨none, .b (.store 23 (.t 6) (.t 79)), none⟩, 127, 0⟩]) (.ret))))⟩
theorem fo218 : ∃ func code hint, FnOk Go.Proofs.Tryz.prog TT 218 fa218 func code hint := ⟨Go.Proofs.Tryz.f218, bodyOf Go.Proofs.Tryz.f218, hintL [(3, [(0, 0), (1, 0), (2, 0), (3, 0), (4, 0), (5, 0), (6, 0)]), (5, [(0, 0), (1, 0), (2, 0), (3, 0), (4, 0), (5, 0), (6, 0), (7, 0), (8, 0), (9, 0), (10, 0), (11, 0), (12, 0)]), (8, [(0, 0), (1, 0), (2, 0), (3, 0), (4, 0), (5, 0), (6, 0)]), (10, [(0, 0), (1, 0), (2, 0), (3, 0), (4, 0), (5, 0), (6, 0), (7, 0), (8, 0), (9, 0), (10, 0), (11, 0), (12, 0), (13, 0), (14, 0), (15, 0), (16, 0), (17, 0), (18, 0), (19, 0), (20, 0)]), (11, [(0, 0), (1, 0), (2, 0), (3, 0), (4, 0), (5, 0), (6, 0)]), (13, [(0, 0), (1, 0), (2, 0), (3, 0), (4, 0), (5, 0), (6, 0), (7, 0)])], ⟨Go.Proofs.Tryz.func218, Go.Proofs.Tryz.call218, by kernel_rfl, by kernel_rfl, by kernel_rfl, by kernel_rfl⟩⟩
/- quarry/pre.linear -/
def fa226 : AFunc := ⟨29, [.tmp 6], .seq (.reg [
⟨(some 6), .p (.mv (.c (.w (.s (.int .u64 (.lit (.ofNat 0))))))), none⟩]) (.seq (.reg [
⟨(some 12), .p (.mv (.t 1)), none⟩,
⟨(some 13), .p (.mv (.t 2)), none⟩,
⟨(some 14), .p (.conv .u64 (.t 13)), none⟩,
⟨(some 15), .b (.call 255 [(.t 12), (.t 14)]), none⟩,
⟨(some 11), .p (.mv (.t 15)), none⟩,
⟨(some 16), .p (.ext (.t 11) 0), none⟩,
⟨(some 17), .p (.ext (.t 11) 1), none⟩,
⟨(some 7), .p (.mv (.t 16)), none⟩,
⟨(some 8), .p (.mv (.t 17)), none⟩]) (.seq (.reg [
⟨(some 19), .p (.mv (.t 0)), none⟩,
⟨(some 20), .p (.mv (.t 8)), none⟩,
⟨(some 21), .b (.call 134 [(.t 19), (.t 20), (.c (.w (.s (.int .u64 (.lit (.ofNat 0))))))]), none⟩,
⟨(some 18), .p (.mv (.t 21)), none⟩,
⟨(some 22), .p (.ext (.t 18) 0), none⟩,
⟨(some 23), .p (.ext (.t 18) 1), none⟩,
⟨(some 9), .p (.mv (.t 22)), none⟩,
⟨(some 10), .p (.mv (.t 23)), none⟩]) (.seq (.seq (.reg [
⟨(some 24), .p (.mv (.t 7)), none⟩,
⟨(some 25), .p (.mv (.t 10)), none⟩,
⟨(some 26), .p (.ar 0 (.t 24) (.t 25)), none⟩,
⟨(some 27), .b (.cmp 4 .int (.t 26) (.c (.w (.s (.int .u64 (.lit (.ofNat 0))))))), none⟩]) (.cond (.t 27) (.seq (.reg [
⟨(some 6), .p (.mv (.c (.w (.s (.int .u64 (.lit (.ofNat 18446744073709551615))))))), none⟩]) (.ret)) (.skip))) (.seq (.reg [
⟨(some 28), .p (.mv (.t 9)), none⟩,
⟨(some 6), .p (.mv (.t 28)), none⟩]) (.ret)))))⟩
theorem fo226 : ∃ func code hint, FnOk Go.Proofs.Tryz.prog TT 226 fa226 func code hint := ⟨Go.Proofs.Tryz.f226, bodyOf Go.Proofs.Tryz.f226, hintL [], ⟨Go.Proofs.Tryz.func226, Go.Proofs.Tryz.call226, by kernel_rfl, by kernel_rfl, by kernel_rfl, by kernel_rfl⟩⟩
/- slices.Clone[[]byte,byte] -/
def fa236 : AFunc := ⟨8, [.tmp 2], .seq (.reg [
⟨(some 2), .p (.mv (.c (.w (.s (.nils))))), none⟩]) (.seq (.seq (.reg [
⟨(some 3), .p (.mv (.t 0)), none⟩,
⟨(some 4), .b (.cmp 0 .slice (.t 3) (.c (.w (.s (.nils))))), none⟩]) (.cond (.t 4) (.seq (.reg [
⟨(some 2), .p (.mv (.c (.w (.s (.nils))))), none⟩]) (.ret)) (.skip))) (.seq (.reg [
⟨(some 5), .m (.bslice 5 0 [.int .u8 (.lit (.ofNat 0))] []), none⟩,
⟨(some 6), .p (.mv (.t 0)), none⟩,
⟨(some 7), .b (.append 5 1 1 (.t 5) (.t 6)), none⟩,
⟨(some 2), .p (.mv (.t 7)), none⟩]) (.ret)))⟩
theorem fo236 : ∃ func code hint, FnOk Go.Proofs.Tryz.prog TT 236 fa236 func code hint := ⟨Go.Proofs.Tryz.f236, bodyOf Go.Proofs.Tryz.f236, hintL [], ⟨Go.Proofs.Tryz.func236, Go.Proofs.Tryz.call236, by kernel_rfl, by kernel_rfl, by kernel_rfl, by kernel_rfl⟩⟩
/- math/bits.Mul64 -/
def fa255 : AFunc := ⟨51, [.tmp 4, .tmp 5], .seq (.reg [
⟨(some 4), .p (.mv (.c (.w (.s (.int .u64 (.lit (.ofNat 0))))))), none⟩,
⟨(some 5), .p (.mv (.c (.w (.s (.int .u64 (.lit (.ofNat 0))))))), none⟩]) (.seq (.reg [
⟨(some 14), .p (.mv (.t 0)), none⟩,
⟨(some 15), .p (.bt 0 (.t 14) (.c (.w (.s (.int .u64 (.lit (.ofNat 4294967295))))))), none⟩,
⟨(some 6), .p (.mv (.t 15)), none⟩]) (.seq (.reg [
⟨(some 16), .p (.mv (.t 0)), none⟩,
⟨(some 17), .p (.sr (.t 16) (.c (.w (.s (.int .u64 (.lit (.ofNat 32))))))), none⟩,
⟨(some 7), .p (.mv (.t 17)), none⟩]) (.seq (.reg [
⟨(some 18), .p (.mv (.t 1)), none⟩,
⟨(some 19), .p (.bt 0 (.t 18) (.c (.w (.s (.int .u64 (.lit (.ofNat 4294967295))))))), none⟩,
⟨(some 8), .p (.mv (.t 19)), none⟩]) (.seq (.reg [
⟨(some 20), .p (.mv (.t 1)), none⟩,
⟨(some 21), .p (.sr (.t 20) (.c (.w (.s (.int .u64 (.lit (.ofNat 32))))))), none⟩,
⟨(some 9), .p (.mv (.t 21)), none⟩]) (.seq (.reg [
⟨(some 22), .p (.mv (.t 6)), none⟩,
⟨(some 23), .p (.mv (.t 8)), none⟩,
⟨(some 24), .p (.ar 2 (.t 22) (.t 23)), none⟩,
⟨(some 10), .p (.mv (.t 24)), none⟩]) (.seq (.reg [
⟨(some 25), .p (.mv (.t 7)), none⟩,
⟨(some 26), .p (.mv (.t 8)), none⟩,
⟨(some 27), .p (.ar 2 (.t 25) (.t 26)), none⟩,
⟨(some 28), .p (.mv (.t 10)), none⟩,
⟨(some 29), .p (.sr (.t 28) (.c (.w (.s (.int .u64 (.lit (.ofNat 32))))))), none⟩,
⟨(some 30), .p (.ar 0 (.t 27) (.t 29)), none⟩,
⟨(some 11), .p (.mv (.t 30)), none⟩]) (.seq (.reg [
⟨(some 31), .p (.mv (.t 11)), none⟩,
⟨(some 32), .p (.bt 0 (.t 31) (.c (.w (.s (.int .u64 (.lit (.ofNat 4294967295))))))), none⟩,
⟨(some 12), .p (.mv (.t 32)), none⟩]) (.seq (.reg [
⟨(some 33), .p (.mv (.t 11)), none⟩,
⟨(some 34), .p (.sr (.t 33) (.c (.w (.s (.int .u64 (.lit (.ofNat 32))))))), none⟩,
⟨(some 13), .p (.mv (.t 34)), none⟩]) (.seq (.reg [
⟨(some 35), .p (.mv (.t 12)), none⟩,
⟨(some 36), .p (.mv (.t 6)), none⟩,
⟨(some 37), .p (.mv (.t 9)), none⟩,
⟨(some 38), .p (.ar 2 (.t 36) (.t 37)), none⟩,
⟨(some 39), .p (.ar 0 (.t 35) (.t 38)), none⟩,
⟨(some 12), .p (.mv (.t 39)), none⟩]) (.seq (.reg [
⟨(some 40), .p (.mv (.t 7)), none⟩,
⟨(some 41), .p (.mv (.t 9)), none⟩,
⟨(some 42), .p (.ar 2 (.t 40) (.t 41)), none⟩,
⟨(some 43), .p (.mv (.t 13)), none⟩,
⟨(some 44), .p (.ar 0 (.t 42) (.t 43)), none⟩,
⟨(some 45), .p (.mv (.t 12)), none⟩,
⟨(some 46), .p (.sr (.t 45) (.c (.w (.s (.int .u64 (.lit (.ofNat 32))))))), none⟩,
⟨(some 47), .p (.ar 0 (.t 44) (.t 46)), none⟩,
⟨(some 4), .p (.mv (.t 47)), none⟩]) (.seq (.reg [
⟨(some 48), .p (.mv (.t 0)), none⟩,
⟨(some 49), .p (.mv (.t 1)), none⟩,
⟨(some 50), .p (.ar 2 (.t 48) (.t 49)), none⟩,
⟨(some 5), .p (.mv (.t 50)), none⟩]) (.ret))))))))))))⟩
theorem fo255 : ∃ func code hint, FnOk Go.Proofs.Tryz.prog TT 255 fa255 func code hint := ⟨Go.Proofs.Tryz.f255, bodyOf Go.Proofs.Tryz.f255, hintL [], ⟨Go.Proofs.Tryz.func255, Go.Proofs.Tryz.call255, by kernel_rfl, by kernel_rfl, by kernel_rfl, by kernel_rfl⟩⟩
/- quarry/gas.memory -/
def fa257 : AFunc := ⟨19, [.tmp 2], .seq (.reg [
⟨(some 2), .p (.mv (.c (.w (.s (.int .u64 (.lit (.ofNat 0))))))), none⟩]) (.seq (.reg [
⟨(some 6), .p (.mv (.t 0)), none⟩,
⟨(some 7), .p (.mv (.t 0)), none⟩,
⟨(some 8), .b (.call 255 [(.t 6), (.t 7)]), none⟩,
⟨(some 5), .p (.mv (.t 8)), none⟩,
⟨(some 9), .p (.ext (.t 5) 0), none⟩,
⟨(some 10), .p (.ext (.t 5) 1), none⟩,
⟨(some 3), .p (.mv (.t 9)), none⟩,
⟨(some 4), .p (.mv (.t 10)), none⟩]) (.seq (.reg [
⟨(some 11), .p (.mv (.t 0)), none⟩,
⟨(some 12), .p (.ar 2 (.c (.w (.s (.int .u64 (.lit (.ofNat 3)))))) (.t 11)), none⟩,
⟨(some 13), .p (.mv (.t 3)), none⟩,
⟨(some 14), .p (.shl (.t 13) (.c (.w (.s (.int .u64 (.lit (.ofNat 55))))))), none⟩,
⟨(some 15), .p (.mv (.t 4)), none⟩,
⟨(some 16), .p (.sr (.t 15) (.c (.w (.s (.int .u64 (.lit (.ofNat 9))))))), none⟩,
⟨(some 17), .p (.bt 1 (.t 14) (.t 16)), none⟩,
⟨(some 18), .p (.ar 0 (.t 12) (.t 17)), none⟩,
⟨(some 2), .p (.mv (.t 18)), none⟩]) (.ret)))⟩
theorem fo257 : ∃ func code hint, FnOk Go.Proofs.Tryz.prog TT 257 fa257 func code hint := ⟨Go.Proofs.Tryz.f257, bodyOf Go.Proofs.Tryz.f257, hintL [], ⟨Go.Proofs.Tryz.func257, Go.Proofs.Tryz.call257, by kernel_rfl, by kernel_rfl, by kernel_rfl, by kernel_rfl⟩⟩
/- quarry/state.put[quarry/state.place,struct{}]$1 -/
def fa258 : AFunc := ⟨10, [], .seq (.reg [
⟨(some 4), .r (.load none (.t 0)), none⟩]) (.cond (.t 4) (.reg [
⟨(some 5), .r (.load none (.t 2)), none⟩,
⟨(some 6), .r (.load (some 24) (.t 3)), none⟩,
⟨(some 7), .r (.load (some 0) (.t 1)), none⟩,
⟨none, .b (.mupd (.str [(0, 30, .arr 20 5 .u8), (20, 24, .arr 4 22 .u64)]) (.t 5) (.t 6) (.t 7)), none⟩]) (.reg [
⟨(some 8), .r (.load none (.t 2)), none⟩,
⟨(some 9), .r (.load (some 24) (.t 3)), none⟩,
⟨none, .b (.del (.str [(0, 30, .arr 20 5 .u8), (20, 24, .arr 4 22 .u64)]) (.t 8) (.t 9)), none⟩]))⟩
theorem fo258 : ∃ func code hint, FnOk Go.Proofs.Tryz.prog TT 258 fa258 func code hint := ⟨Go.Proofs.Tryz.f258, bodyOf Go.Proofs.Tryz.f258, hintL [], ⟨Go.Proofs.Tryz.func258, Go.Proofs.Tryz.call258, by kernel_rfl, by kernel_rfl, by kernel_rfl, by kernel_rfl⟩⟩
/- (*quarry/state.State).refunded -/
def fa259 : AFunc := ⟨18, [], .seq (.reg [
⟨(some 2), .m (.box 40 (.t 0)), none⟩]) (.seq (.reg [
⟨(some 5), .r (.load none (.t 2)), none⟩,
⟨(some 6), .p (.nilCheck (.t 5)), none⟩,
⟨(some 7), .p (.faddr 1 (.t 6)), none⟩,
⟨(some 8), .p (.faddr 7 (.t 7)), none⟩,
⟨(some 9), .r (.load none (.t 8)), none⟩,
⟨(some 4), .m (.alloc 22 [.int .u64 (.lit (.ofNat 0))]), none⟩,
⟨none, .b (.store 1 (.t 4) (.t 9)), none⟩]) (.seq (.reg [
⟨(some 10), .r (.load none (.t 2)), none⟩,
⟨(some 11), .p (.mv (.t 1)), none⟩,
⟨(some 12), .p (.nilCheck (.t 10)), none⟩,
⟨(some 13), .p (.faddr 1 (.t 12)), none⟩,
⟨(some 14), .p (.faddr 7 (.t 13)), none⟩,
⟨none, .b (.store 1 (.t 14) (.t 11)), none⟩]) (.reg [
⟨(some 15), .r (.load none (.t 2)), none⟩,
⟨(some 16), .p (.mkfunc 330 [(.t 4), (.t 2)]), none⟩,
⟨(some 17), .b (.call 93 [(.t 15), (.t 16)]), none⟩])))⟩
theorem fo259 : ∃ func code hint, FnOk Go.Proofs.Tryz.prog TT 259 fa259 func code hint := ⟨Go.Proofs.Tryz.f259, bodyOf Go.Proofs.Tryz.f259, hintL [], ⟨Go.Proofs.Tryz.func259, Go.Proofs.Tryz.call259, by kernel_rfl, by kernel_rfl, by kernel_rfl, by kernel_rfl⟩⟩
/- quarry/state.put[quarry/api.Word,quarry/api.Word] -/
def fa260 : AFunc := ⟨22, [], .seq (.reg [
⟨(some 5), .m (.box 91 (.t 1)), none⟩,
⟨(some 6), .m (.box 24 (.t 2)), none⟩,
⟨(some 7), .m (.box 24 (.t 3)), none⟩]) (.seq (.reg [
⟨(some 11), .r (.load none (.t 5)), none⟩,
⟨(some 12), .r (.load (some 4) (.t 6)), none⟩,
⟨(some 13), .r (.lookup (.one (.arr 4 22 .u64)) (.agg [.int .u64 (.lit (.ofNat 0)), .int .u64 (.lit (.ofNat 0)), .int .u64 (.lit (.ofNat 0)), .int .u64 (.lit (.ofNat 0))]) (.t 11) (.t 12) true), none⟩,
⟨(some 10), .p (.mv (.t 13)), none⟩,
⟨(some 14), .p (.ext (.t 10) 0), none⟩,
⟨(some 15), .p (.ext (.t 10) 1), none⟩,
⟨(some 8), .m (.alloc 24 [.int .u64 (.lit (.ofNat 0)), .int .u64 (.lit (.ofNat 0)), .int .u64 (.lit (.ofNat 0)), .int .u64 (.lit (.ofNat 0))]), none⟩,
⟨(some 9), .m (.alloc 4 [.bool false]), none⟩,
⟨none, .b (.store 4 (.t 8) (.t 14)), none⟩,
⟨none, .b (.store 1 (.t 9) (.t 15)), none⟩]) (.seq (.reg [
⟨(some 16), .r (.load none (.t 5)), none⟩,
⟨(some 17), .r (.load (some 4) (.t 6)), none⟩,
⟨(some 18), .r (.load (some 4) (.t 7)), none⟩,
⟨none, .b (.mupd (.one (.arr 4 22 .u64)) (.t 16) (.t 17) (.t 18)), none⟩]) (.reg [
⟨(some 19), .p (.mv (.t 0)), none⟩,
⟨(some 20), .p (.mkfunc 331 [(.t 9), (.t 8), (.t 5), (.t 6)]), none⟩,
⟨(some 21), .b (.call 93 [(.t 19), (.t 20)]), none⟩])))⟩
theorem fo260 : ∃ func code hint, FnOk Go.Proofs.Tryz.prog TT 260 fa260 func code hint := ⟨Go.Proofs.Tryz.f260, bodyOf Go.Proofs.Tryz.f260, hintL [], ⟨Go.Proofs.Tryz.func260, Go.Proofs.Tryz.call260, by kernel_rfl, by kernel_rfl, by kernel_rfl, by kernel_rfl⟩⟩
/- quarry/state.put[quarry/state.place,quarry/api.Word]$1 -/
def fa262 : AFunc := ⟨10, [], .seq (.reg [
⟨(some 4), .r (.load none (.t 0)), none⟩]) (.cond (.t 4) (.reg [
⟨(some 5), .r (.load none (.t 2)), none⟩,
⟨(some 6), .r (.load (some 24) (.t 3)), none⟩,
⟨(some 7), .r (.load (some 4) (.t 1)), none⟩,
⟨none, .b (.mupd (.str [(0, 30, .arr 20 5 .u8), (20, 24, .arr 4 22 .u64)]) (.t 5) (.t 6) (.t 7)), none⟩]) (.reg [
⟨(some 8), .r (.load none (.t 2)), none⟩,
⟨(some 9), .r (.load (some 24) (.t 3)), none⟩,
⟨none, .b (.del (.str [(0, 30, .arr 20 5 .u8), (20, 24, .arr 4 22 .u64)]) (.t 8) (.t 9)), none⟩]))⟩
theorem fo262 : ∃ func code hint, FnOk Go.Proofs.Tryz.prog TT 262 fa262 func code hint := ⟨Go.Proofs.Tryz.f262, bodyOf Go.Proofs.Tryz.f262, hintL [], ⟨Go.Proofs.Tryz.func262, Go.Proofs.Tryz.call262, by kernel_rfl, by kernel_rfl, by kernel_rfl, by kernel_rfl⟩⟩
/- (*quarry/vm.frame).sent$1 -/
def fa263 : AFunc := ⟨0, [], .skip⟩
theorem fo263 : ∃ func code hint, FnOk Go.Proofs.Tryz.prog TT 263 fa263 func code hint := ⟨Go.Proofs.Tryz.f263, bodyOf Go.Proofs.Tryz.f263, hintL [], ⟨Go.Proofs.Tryz.func263, Go.Proofs.Tryz.call263, by kernel_rfl, by kernel_rfl, by kernel_rfl, by kernel_rfl⟩⟩
/- (*quarry/vm.frame).sent$2 -/
def fa264 : AFunc := ⟨0, [], .skip⟩
theorem fo264 : ∃ func code hint, FnOk Go.Proofs.Tryz.prog TT 264 fa264 func code hint := ⟨Go.Proofs.Tryz.f264, bodyOf Go.Proofs.Tryz.f264, hintL [], ⟨Go.Proofs.Tryz.func264, Go.Proofs.Tryz.call264, by kernel_rfl, by kernel_rfl, by kernel_rfl, by kernel_rfl⟩⟩
/- (*quarry/vm.frame).sent$3 -/
def fa265 : AFunc := ⟨12, [], .draw [
⟨0, ⟨(some 2), .r (.load none (.t 0)), none⟩, 0, 0⟩,
⟨1, ⟨(some 3), .p (.nilCheck (.t 2)), none⟩, 1, 0⟩,
⟨2, ⟨(some 4), .p (.faddr 0 (.t 3)), none⟩, 3, 0⟩,
⟨3, ⟨(some 5), .r (.load none (.t 4)), none⟩, 7, 0⟩,
⟨4, ⟨(some 6), .p (.nilCheck (.t 5)), none⟩, 15, 0⟩,
⟨5, ⟨(some 7), .p (.faddr 89 (.t 6)), none⟩, 31, 0⟩,
⟨6, ⟨(some 8), .r (.load none (.t 7)), none⟩, 63, 0⟩,
⟨7, ⟨(some 9), .p (.faddr 20 (.t 1)), none⟩, 0, 0⟩,
⟨8, ⟨(some 10), .r (.load (some 20) (.t 9)), none⟩, 128, 0⟩,
⟨9, ⟨(some 11), .b (.call 88 [(.t 8), (.t 10)]), none⟩, 511, 0⟩]⟩
theorem fo265 : ∃ func code hint, FnOk Go.Proofs.Tryz.prog TT 265 fa265 func code hint := ⟨Go.Proofs.Tryz.f265, bodyOf Go.Proofs.Tryz.f265, hintL [(0, [(0, 0), (1, 0), (2, 0), (3, 0), (4, 0), (5, 0), (6, 0), (7, 0), (8, 0), (9, 0)])], ⟨Go.Proofs.Tryz.func265, Go.Proofs.Tryz.call265, by kernel_rfl, by kernel_rfl, by kernel_rfl, by kernel_rfl⟩⟩
/- (*quarry/state.State).refunded$1 -/
def fa330 : AFunc := ⟨7, [], .reg [
⟨(some 2), .r (.load none (.t 1)), none⟩,
⟨(some 3), .r (.load none (.t 0)), none⟩,
⟨(some 4), .p (.nilCheck (.t 2)), none⟩,
⟨(some 5), .p (.faddr 1 (.t 4)), none⟩,
⟨(some 6), .p (.faddr 7 (.t 5)), none⟩,
⟨none, .b (.store 1 (.t 6) (.t 3)), none⟩]⟩
theorem fo330 : ∃ func code hint, FnOk Go.Proofs.Tryz.prog TT 330 fa330 func code hint := ⟨Go.Proofs.Tryz.f330, bodyOf Go.Proofs.Tryz.f330, hintL [], ⟨Go.Proofs.Tryz.func330, Go.Proofs.Tryz.call330, by kernel_rfl, by kernel_rfl, by kernel_rfl, by kernel_rfl⟩⟩
/- quarry/state.put[quarry/api.Word,quarry/api.Word]$1 -/
def fa331 : AFunc := ⟨10, [], .seq (.reg [
⟨(some 4), .r (.load none (.t 0)), none⟩]) (.cond (.t 4) (.reg [
⟨(some 5), .r (.load none (.t 2)), none⟩,
⟨(some 6), .r (.load (some 4) (.t 3)), none⟩,
⟨(some 7), .r (.load (some 4) (.t 1)), none⟩,
⟨none, .b (.mupd (.one (.arr 4 22 .u64)) (.t 5) (.t 6) (.t 7)), none⟩]) (.reg [
⟨(some 8), .r (.load none (.t 2)), none⟩,
⟨(some 9), .r (.load (some 4) (.t 3)), none⟩,
⟨none, .b (.del (.one (.arr 4 22 .u64)) (.t 8) (.t 9)), none⟩]))⟩
theorem fo331 : ∃ func code hint, FnOk Go.Proofs.Tryz.prog TT 331 fa331 func code hint := ⟨Go.Proofs.Tryz.f331, bodyOf Go.Proofs.Tryz.f331, hintL [], ⟨Go.Proofs.Tryz.func331, Go.Proofs.Tryz.call331, by kernel_rfl, by kernel_rfl, by kernel_rfl, by kernel_rfl⟩⟩
end
end Go.Sy
