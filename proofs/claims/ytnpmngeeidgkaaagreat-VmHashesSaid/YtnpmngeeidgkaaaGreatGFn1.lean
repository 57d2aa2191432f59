/- Functions. -/
import Derived.Test.YtnpmngeeidgkaaaGreatGTy
set_option linter.unusedVariables false
set_option maxRecDepth 100000
set_option maxHeartbeats 0
namespace Go.Sy
noncomputable section
/- (*quarry/vm.machine).pays -/
def fa44 : AFunc := ⟨39, [], .seq (.reg [
⟨(some 5), .m (.box 30 (.t 1)), none⟩,
⟨(some 6), .m (.box 30 (.t 2)), none⟩,
⟨(some 7), .m (.box 24 (.t 3)), none⟩]) (.seq (.seq (.reg [
⟨(some 8), .r (.load (some 4) (.t 7)), none⟩,
⟨(some 9), .p (.build [.int .u64 (.lit (.ofNat 0)), .int .u64 (.lit (.ofNat 0)), .int .u64 (.lit (.ofNat 0)), .int .u64 (.lit (.ofNat 0))] []), none⟩,
⟨(some 10), .b (.cmp 0 (.agg (.one (.arr 4 22 .u64))) (.t 8) (.t 9)), none⟩]) (.cond (.t 10) (.ret) (.skip))) (.seq (.draw [
⟨0, ⟨(some 11), .p (.mv (.t 0)), none⟩, 0, 0⟩,
⟨1, ⟨(some 12), .p (.nilCheck (.t 11)), none⟩, 1, 0⟩,
⟨2, ⟨(some 13), .p (.faddr 89 (.t 12)), none⟩, 3, 0⟩,
⟨3, ⟨(some 14), .r (.load none (.t 13)), none⟩, 7, 0⟩,
⟨4, ⟨(some 15), .r (.load (some 20) (.t 5)), none⟩, 0, 0⟩,
⟨5, ⟨(some 16), .p (.mv (.t 0)), none⟩, 0, 0⟩,
⟨6, ⟨(some 17), .p (.nilCheck (.t 16)), none⟩, 32, 0⟩,
⟨7, ⟨(some 18), .p (.faddr 89 (.t 17)), none⟩, 96, 0⟩,
⟨8, ⟨(some 19), .r (.load none (.t 18)), none⟩, 224, 0⟩,
⟨9, ⟨(some 20), .r (.load (some 20) (.t 5)), none⟩, 0, 0⟩,
⟨11, ⟨(some 22), .r (.load (some 4) (.t 7)), none⟩, 0, 0⟩,
⟨10, ⟨(some 21), .b (.call 61 [(.t 19), (.t 20)]), none⟩, 992, 0⟩,
⟨12, ⟨(some 23), .b (.call 70 [(.t 21), (.t 22)]), none⟩, 4064, 0⟩,
⟨13, ⟨(some 24), .b (.call 69 [(.t 14), (.t 15), (.t 23)]), none⟩, 8191, 0⟩]) (.draw [
⟨0, ⟨(some 25), .p (.mv (.t 0)), none⟩, 0, 0⟩,
⟨1, ⟨(some 26), .p (.nilCheck (.t 25)), none⟩, 1, 0⟩,
⟨2, ⟨(some 27), .p (.faddr 89 (.t 26)), none⟩, 3, 0⟩,
⟨3, ⟨(some 28), .r (.load none (.t 27)), none⟩, 7, 0⟩,
⟨4, ⟨(some 29), .r (.load (some 20) (.t 6)), none⟩, 0, 0⟩,
⟨5, ⟨(some 30), .p (.mv (.t 0)), none⟩, 0, 0⟩,
⟨6, ⟨(some 31), .p (.nilCheck (.t 30)), none⟩, 32, 0⟩,
⟨7, ⟨(some 32), .p (.faddr 89 (.t 31)), none⟩, 96, 0⟩,
⟨8, ⟨(some 33), .r (.load none (.t 32)), none⟩, 224, 0⟩,
⟨9, ⟨(some 34), .r (.load (some 20) (.t 6)), none⟩, 0, 0⟩,
⟨11, ⟨(some 36), .r (.load (some 4) (.t 7)), none⟩, 0, 0⟩,
⟨10, ⟨(some 35), .b (.call 61 [(.t 33), (.t 34)]), none⟩, 992, 0⟩,
⟨12, ⟨(some 37), .b (.call 71 [(.t 35), (.t 36)]), none⟩, 4064, 0⟩,
⟨13, ⟨(some 38), .b (.call 69 [(.t 28), (.t 29), (.t 37)]), none⟩, 8191, 0⟩])))⟩
theorem fo44 : ∃ func code hint, FnOk Go.Proofs.Tryz.prog TT 44 fa44 func code hint := ⟨Go.Proofs.Tryz.f44, bodyOf Go.Proofs.Tryz.f44, hintL [(2, [(0, 0), (1, 0), (2, 0), (3, 0), (4, 0), (5, 0), (6, 0), (7, 0), (8, 0), (9, 0), (11, 0), (10, 0), (12, 0), (13, 0)]), (3, [(0, 0), (1, 0), (2, 0), (3, 0), (4, 0), (5, 0), (6, 0), (7, 0), (8, 0), (9, 0), (11, 0), (10, 0), (12, 0), (13, 0)])], ⟨Go.Proofs.Tryz.func44, Go.Proofs.Tryz.call44, by kernel_rfl, by kernel_rfl, by kernel_rfl, by kernel_rfl⟩⟩
/- quarry/fork.Native -/
def fa53 : AFunc := ⟨33, [.tmp 4], .seq (.reg [
⟨(some 3), .m (.box 30 (.t 1)), none⟩,
⟨(some 4), .p (.mv (.c (.w (.s (.int .i64 (.lit (.ofNat 0))))))), none⟩]) (.seq (.reg [
⟨(some 6), .p (.iaddrA 20 1 (.t 3) (.c (.w (.s (.int .i64 (.lit (.ofNat 19))))))), none⟩,
⟨(some 7), .r (.load none (.t 6)), none⟩,
⟨(some 8), .p (.conv .i64 (.t 7)), none⟩,
⟨(some 5), .p (.mv (.t 8)), none⟩]) (.seq (.seq (.reg [
⟨(some 9), .r (.load (some 20) (.t 3)), none⟩,
⟨(some 10), .p (.mv (.t 5)), none⟩,
⟨(some 11), .p (.conv .u8 (.t 10)), none⟩,
⟨(some 12), .p (.build (lrep (.int .u8 (.lit (.ofNat 0))) 20) [(19, 1, (.t 11))]), none⟩,
⟨(some 13), .b (.cmp 1 (.agg (.one (.arr 20 5 .u8))) (.t 9) (.t 12)), none⟩,
⟨(some 14), .p (.mv (.t 13)), none⟩,
⟨(some 15), .p (.mv (.t 0)), some (14, false)⟩,
⟨(some 16), .b (.cmp 2 .int (.t 15) (.c (.w (.s (.int .i64 (.lit (.ofNat 0))))))), some (14, false)⟩,
⟨(some 17), .p (.pick (.t 14) (.c (.w (.s (.bool true)))) (.t 16)), none⟩,
⟨(some 18), .p (.mv (.t 17)), none⟩,
⟨(some 19), .p (.mv (.t 0)), some (18, false)⟩,
⟨(some 20), .b (.cmp 4 .int (.t 19) (.c (.w (.s (.int .i64 (.lit (.ofNat 15))))))), some (18, false)⟩,
⟨(some 21), .p (.pick (.t 18) (.c (.w (.s (.bool true)))) (.t 20)), none⟩]) (.cond (.t 21) (.seq (.reg [
⟨(some 4), .p (.mv (.c (.w (.s (.int .i64 (.lit (.ofNat 0))))))), none⟩]) (.ret)) (.skip))) (.seq (.seq (.reg [
⟨(some 22), .p (.mv (.t 5)), none⟩,
⟨(some 23), .p (.mv (.t 0)), none⟩,
⟨(some 24), .p (.build [.int .i64 (.lit (.ofNat 0)), .int .u64 (.lit (.ofNat 0))] [(0, 1, (.c (.w (.s (.int .i64 (.lit (.ofNat 0))))))), (1, 1, (.c (.w (.s (.int .u64 (.lit (.ofNat 4)))))))]), none⟩,
⟨(some 25), .p (.build [.int .i64 (.lit (.ofNat 0)), .int .u64 (.lit (.ofNat 0))] [(0, 1, (.c (.w (.s (.int .i64 (.lit (.ofNat 4))))))), (1, 1, (.c (.w (.s (.int .u64 (.lit (.ofNat 8)))))))]), none⟩,
⟨(some 26), .p (.build [.int .i64 (.lit (.ofNat 0)), .int .u64 (.lit (.ofNat 0))] [(0, 1, (.c (.w (.s (.int .i64 (.lit (.ofNat 7))))))), (1, 1, (.c (.w (.s (.int .u64 (.lit (.ofNat 9)))))))]), none⟩,
⟨(some 27), .p (.build [.int .i64 (.lit (.ofNat 0)), .int .u64 (.lit (.ofNat 0))] [(0, 1, (.c (.w (.s (.int .i64 (.lit (.ofNat 15))))))), (1, 1, (.c (.w (.s (.int .u64 (.lit (.ofNat 10)))))))]), none⟩,
⟨(some 28), .m (.bslice 111 4 [.int .i64 (.lit (.ofNat 0)), .int .u64 (.lit (.ofNat 0))] [(0, 2, (.t 24)), (2, 2, (.t 25)), (4, 2, (.t 26)), (6, 2, (.t 27))]), none⟩,
⟨(some 29), .b (.call 29 [(.t 23), (.t 28)]), none⟩,
⟨(some 30), .p (.conv .i64 (.t 29)), none⟩,
⟨(some 31), .b (.cmp 3 .int (.t 22) (.t 30)), none⟩]) (.cond (.t 31) (.seq (.reg [
⟨(some 32), .p (.mv (.t 5)), none⟩,
⟨(some 4), .p (.mv (.t 32)), none⟩]) (.ret)) (.skip))) (.seq (.reg [
⟨(some 4), .p (.mv (.c (.w (.s (.int .i64 (.lit (.ofNat 0))))))), none⟩]) (.ret)))))⟩
theorem fo53 : ∃ func code hint, FnOk Go.Proofs.Tryz.prog TT 53 fa53 func code hint := ⟨Go.Proofs.Tryz.f53, bodyOf Go.Proofs.Tryz.f53, hintL [], ⟨Go.Proofs.Tryz.func53, Go.Proofs.Tryz.call53, by kernel_rfl, by kernel_rfl, by kernel_rfl, by kernel_rfl⟩⟩
/- (*quarry/vm.machine).enters -/
def fa54 : AFunc := ⟨29, [.cell 6 (some 23)], .seq (.reg [
⟨(some 4), .m (.box 101 (.t 1)), none⟩,
⟨(some 6), .m (.alloc 103 [.int .i64 (.lit (.ofNat 0)), .nils, .int .u64 (.lit (.ofNat 0)), .int .u8 (.lit (.ofNat 0)), .int .u8 (.lit (.ofNat 0)), .int .u8 (.lit (.ofNat 0)), .int .u8 (.lit (.ofNat 0)), .int .u8 (.lit (.ofNat 0)), .int .u8 (.lit (.ofNat 0)), .int .u8 (.lit (.ofNat 0)), .int .u8 (.lit (.ofNat 0)), .int .u8 (.lit (.ofNat 0)), .int .u8 (.lit (.ofNat 0)), .int .u8 (.lit (.ofNat 0)), .int .u8 (.lit (.ofNat 0)), .int .u8 (.lit (.ofNat 0)), .int .u8 (.lit (.ofNat 0)), .int .u8 (.lit (.ofNat 0)), .int .u8 (.lit (.ofNat 0)), .int .u8 (.lit (.ofNat 0)), .int .u8 (.lit (.ofNat 0)), .int .u8 (.lit (.ofNat 0)), .int .u8 (.lit (.ofNat 0))]), none⟩]) (.seq (.reg [
⟨(some 9), .p (.mv (.t 0)), none⟩,
⟨(some 10), .p (.nilCheck (.t 9)), none⟩,
⟨(some 11), .p (.faddr 89 (.t 10)), none⟩,
⟨(some 12), .r (.load none (.t 11)), none⟩,
⟨(some 13), .b (.call 42 [(.t 12)]), none⟩,
⟨(some 7), .p (.mv (.t 13)), none⟩]) (.seq (.reg [
⟨(some 14), .p (.mv (.t 2)), none⟩,
⟨(some 15), .b (.callv (.t 14) []), none⟩]) (.seq (.reg [
⟨(some 16), .p (.mv (.t 0)), none⟩,
⟨(some 17), .r (.load (some 68) (.t 4)), none⟩,
⟨(some 18), .b (.call 81 [(.t 16), (.t 17)]), none⟩,
⟨(some 8), .m (.alloc 103 [.int .i64 (.lit (.ofNat 0)), .nils, .int .u64 (.lit (.ofNat 0)), .int .u8 (.lit (.ofNat 0)), .int .u8 (.lit (.ofNat 0)), .int .u8 (.lit (.ofNat 0)), .int .u8 (.lit (.ofNat 0)), .int .u8 (.lit (.ofNat 0)), .int .u8 (.lit (.ofNat 0)), .int .u8 (.lit (.ofNat 0)), .int .u8 (.lit (.ofNat 0)), .int .u8 (.lit (.ofNat 0)), .int .u8 (.lit (.ofNat 0)), .int .u8 (.lit (.ofNat 0)), .int .u8 (.lit (.ofNat 0)), .int .u8 (.lit (.ofNat 0)), .int .u8 (.lit (.ofNat 0)), .int .u8 (.lit (.ofNat 0)), .int .u8 (.lit (.ofNat 0)), .int .u8 (.lit (.ofNat 0)), .int .u8 (.lit (.ofNat 0)), .int .u8 (.lit (.ofNat 0)), .int .u8 (.lit (.ofNat 0))]), none⟩,
⟨none, .b (.store 23 (.t 8) (.t 18)), none⟩]) (.seq (.seq (.reg [
⟨(some 19), .p (.faddr 0 (.t 8)), none⟩,
⟨(some 20), .r (.load none (.t 19)), none⟩,
⟨(some 21), .b (.cmp 1 .int (.t 20) (.c (.w (.s (.int .i64 (.lit (.ofNat 0))))))), none⟩]) (.cond (.t 21) (.reg [
⟨(some 22), .p (.mv (.t 0)), none⟩,
⟨(some 23), .p (.nilCheck (.t 22)), none⟩,
⟨(some 24), .p (.faddr 89 (.t 23)), none⟩,
⟨(some 25), .r (.load none (.t 24)), none⟩,
⟨(some 26), .p (.mv (.t 7)), none⟩,
⟨(some 27), .b (.call 47 [(.t 25), (.t 26)]), none⟩]) (.skip))) (.seq (.reg [
⟨(some 28), .r (.load (some 23) (.t 8)), none⟩,
⟨none, .b (.store 23 (.t 6) (.t 28)), none⟩]) (.ret))))))⟩
theorem fo54 : ∃ func code hint, FnOk Go.Proofs.Tryz.prog TT 54 fa54 func code hint := ⟨Go.Proofs.Tryz.f54, bodyOf Go.Proofs.Tryz.f54, hintL [], ⟨Go.Proofs.Tryz.func54, Go.Proofs.Tryz.call54, by kernel_rfl, by kernel_rfl, by kernel_rfl, by kernel_rfl⟩⟩
/- (*quarry/vm.machine).calls$1 -/
def fa55 : AFunc := ⟨32, [], .seq (.seq (.draw [
⟨0, ⟨(some 2), .r (.load none (.t 0)), none⟩, 0, 0⟩,
⟨1, ⟨(some 3), .p (.nilCheck (.t 2)), none⟩, 1, 0⟩,
⟨2, ⟨(some 4), .p (.faddr 89 (.t 3)), none⟩, 3, 0⟩,
⟨3, ⟨(some 5), .r (.load none (.t 4)), none⟩, 7, 0⟩,
⟨4, ⟨(some 6), .p (.faddr 20 (.t 1)), none⟩, 0, 0⟩,
⟨5, ⟨(some 7), .r (.load (some 20) (.t 6)), none⟩, 16, 0⟩,
⟨6, ⟨(some 8), .b (.call 16 [(.t 5), (.t 7)]), none⟩, 63, 0⟩,
⟨7, ⟨(some 9), .p (.not (.t 8)), none⟩, 127, 0⟩]) (.cond (.t 9) (.draw [
⟨0, ⟨(some 10), .r (.load none (.t 0)), none⟩, 0, 0⟩,
⟨1, ⟨(some 11), .p (.nilCheck (.t 10)), none⟩, 1, 0⟩,
⟨2, ⟨(some 12), .p (.faddr 89 (.t 11)), none⟩, 3, 0⟩,
⟨3, ⟨(some 13), .r (.load none (.t 12)), none⟩, 7, 0⟩,
⟨4, ⟨(some 14), .p (.faddr 20 (.t 1)), none⟩, 0, 0⟩,
⟨5, ⟨(some 15), .r (.load (some 20) (.t 14)), none⟩, 16, 0⟩,
⟨6, ⟨(some 16), .b (.call 56 [(.t 13), (.t 15)]), none⟩, 63, 0⟩]) (.skip))) (.seq (.draw [
⟨0, ⟨(some 17), .r (.load none (.t 0)), none⟩, 0, 0⟩,
⟨1, ⟨(some 18), .p (.nilCheck (.t 17)), none⟩, 1, 0⟩,
⟨2, ⟨(some 19), .p (.faddr 89 (.t 18)), none⟩, 3, 0⟩,
⟨3, ⟨(some 20), .r (.load none (.t 19)), none⟩, 7, 0⟩,
⟨4, ⟨(some 21), .p (.faddr 20 (.t 1)), none⟩, 0, 0⟩,
⟨5, ⟨(some 22), .r (.load (some 20) (.t 21)), none⟩, 16, 0⟩,
⟨6, ⟨(some 23), .b (.call 57 [(.t 20), (.t 22)]), none⟩, 63, 0⟩]) (.reg [
⟨(some 24), .r (.load none (.t 0)), none⟩,
⟨(some 25), .p (.faddr 0 (.t 1)), none⟩,
⟨(some 26), .r (.load (some 20) (.t 25)), none⟩,
⟨(some 27), .p (.faddr 20 (.t 1)), none⟩,
⟨(some 28), .r (.load (some 20) (.t 27)), none⟩,
⟨(some 29), .p (.faddr 60 (.t 1)), none⟩,
⟨(some 30), .r (.load (some 4) (.t 29)), none⟩,
⟨(some 31), .b (.call 44 [(.t 24), (.t 26), (.t 28), (.t 30)]), none⟩]))⟩
theorem fo55 : ∃ func code hint, FnOk Go.Proofs.Tryz.prog TT 55 fa55 func code hint := ⟨Go.Proofs.Tryz.f55, bodyOf Go.Proofs.Tryz.f55, hintL [(0, [(0, 0), (1, 0), (2, 0), (3, 0), (4, 0), (5, 0), (6, 0), (7, 0)]), (1, [(0, 0), (1, 0), (2, 0), (3, 0), (4, 0), (5, 0), (6, 0)]), (2, [(0, 0), (1, 0), (2, 0), (3, 0), (4, 0), (5, 0), (6, 0)])], ⟨Go.Proofs.Tryz.func55, Go.Proofs.Tryz.call55, by kernel_rfl, by kernel_rfl, by kernel_rfl, by kernel_rfl⟩⟩
/- (*quarry/state.State).Touch -/
def fa57 : AFunc := ⟨13, [], .seq (.reg [
⟨(some 3), .m (.box 30 (.t 1)), none⟩]) (.draw [
⟨0, ⟨(some 4), .p (.mv (.t 0)), none⟩, 0, 0⟩,
⟨1, ⟨(some 5), .p (.mv (.t 0)), none⟩, 0, 0⟩,
⟨2, ⟨(some 6), .p (.nilCheck (.t 5)), none⟩, 2, 0⟩,
⟨3, ⟨(some 7), .p (.faddr 1 (.t 6)), none⟩, 6, 0⟩,
⟨4, ⟨(some 8), .p (.faddr 0 (.t 7)), none⟩, 14, 0⟩,
⟨5, ⟨(some 9), .r (.load none (.t 8)), none⟩, 30, 0⟩,
⟨6, ⟨(some 10), .r (.load (some 20) (.t 3)), none⟩, 0, 0⟩,
⟨7, ⟨(some 11), .p (.build [] []), none⟩, 0, 0⟩,
⟨8, ⟨(some 12), .b (.call 66 [(.t 4), (.t 9), (.t 10), (.t 11)]), none⟩, 255, 0⟩])⟩
theorem fo57 : ∃ func code hint, FnOk Go.Proofs.Tryz.prog TT 57 fa57 func code hint := ⟨Go.Proofs.Tryz.f57, bodyOf Go.Proofs.Tryz.f57, hintL [(1, [(0, 0), (1, 0), (2, 0), (3, 0), (4, 0), (5, 0), (6, 0), (7, 0), (8, 0)])], ⟨Go.Proofs.Tryz.func57, Go.Proofs.Tryz.call57, by kernel_rfl, by kernel_rfl, by kernel_rfl, by kernel_rfl⟩⟩
/- quarry/fork.since -/
def fa58 : AFunc := ⟨76, [.tmp 2], .seq (.reg [
⟨(some 2), .p (.mv (.c (.w (.s (.int .i64 (.lit (.ofNat 0))))))), none⟩]) (.seq (.block 0 (.seq (.reg [
⟨(some 4), .p (.mv (.t 0)), none⟩,
⟨(some 5), .b (.cmp 2 .int (.t 4) (.c (.w (.s (.int .i64 (.lit (.ofNat 0))))))), none⟩,
⟨(some 3), .p (.mv (.t 5)), none⟩]) (.cond (.t 3) (.seq (.reg [
⟨(some 2), .p (.mv (.c (.w (.s (.int .i64 (.lit (.negSucc 0))))))), none⟩]) (.ret)) (.seq (.seq (.reg [
⟨(some 7), .p (.mv (.t 0)), none⟩,
⟨(some 8), .b (.cmp 3 .int (.t 7) (.c (.w (.s (.int .i64 (.lit (.ofNat 11))))))), none⟩,
⟨(some 6), .p (.mv (.t 8)), none⟩]) (.cond (.t 6) (.skip) (.seq (.reg [
⟨(some 9), .p (.mv (.t 0)), none⟩,
⟨(some 10), .b (.cmp 5 .int (.t 9) (.c (.w (.s (.int .i64 (.lit (.ofNat 16))))))), none⟩,
⟨(some 11), .p (.mv (.t 10)), none⟩,
⟨(some 12), .p (.mv (.t 0)), some (11, true)⟩,
⟨(some 13), .b (.cmp 3 .int (.t 12) (.c (.w (.s (.int .i64 (.lit (.ofNat 26))))))), some (11, true)⟩,
⟨(some 14), .p (.pick (.t 11) (.t 13) (.c (.w (.s (.bool false))))), none⟩,
⟨(some 6), .p (.mv (.t 14)), none⟩]) (.cond (.t 6) (.skip) (.seq (.reg [
⟨(some 15), .p (.mv (.t 0)), none⟩,
⟨(some 16), .b (.cmp 0 .int (.t 15) (.c (.w (.s (.int .i64 (.lit (.ofNat 32))))))), none⟩,
⟨(some 6), .p (.mv (.t 16)), none⟩]) (.cond (.t 6) (.skip) (.seq (.reg [
⟨(some 17), .p (.mv (.t 0)), none⟩,
⟨(some 18), .b (.cmp 5 .int (.t 17) (.c (.w (.s (.int .i64 (.lit (.ofNat 48))))))), none⟩,
⟨(some 19), .p (.mv (.t 18)), none⟩,
⟨(some 20), .p (.mv (.t 0)), some (19, true)⟩,
⟨(some 21), .b (.cmp 3 .int (.t 20) (.c (.w (.s (.int .i64 (.lit (.ofNat 60))))))), some (19, true)⟩,
⟨(some 22), .p (.pick (.t 19) (.t 21) (.c (.w (.s (.bool false))))), none⟩,
⟨(some 6), .p (.mv (.t 22)), none⟩]) (.cond (.t 6) (.skip) (.seq (.reg [
⟨(some 23), .p (.mv (.t 0)), none⟩,
⟨(some 24), .b (.cmp 5 .int (.t 23) (.c (.w (.s (.int .i64 (.lit (.ofNat 64))))))), none⟩,
⟨(some 25), .p (.mv (.t 24)), none⟩,
⟨(some 26), .p (.mv (.t 0)), some (25, true)⟩,
⟨(some 27), .b (.cmp 3 .int (.t 26) (.c (.w (.s (.int .i64 (.lit (.ofNat 69))))))), some (25, true)⟩,
⟨(some 28), .p (.pick (.t 25) (.t 27) (.c (.w (.s (.bool false))))), none⟩,
⟨(some 6), .p (.mv (.t 28)), none⟩]) (.cond (.t 6) (.skip) (.seq (.reg [
⟨(some 29), .p (.mv (.t 0)), none⟩,
⟨(some 30), .b (.cmp 5 .int (.t 29) (.c (.w (.s (.int .i64 (.lit (.ofNat 80))))))), none⟩,
⟨(some 31), .p (.mv (.t 30)), none⟩,
⟨(some 32), .p (.mv (.t 0)), some (31, true)⟩,
⟨(some 33), .b (.cmp 3 .int (.t 32) (.c (.w (.s (.int .i64 (.lit (.ofNat 91))))))), some (31, true)⟩,
⟨(some 34), .p (.pick (.t 31) (.t 33) (.c (.w (.s (.bool false))))), none⟩,
⟨(some 6), .p (.mv (.t 34)), none⟩]) (.cond (.t 6) (.skip) (.seq (.reg [
⟨(some 35), .p (.mv (.t 0)), none⟩,
⟨(some 36), .b (.cmp 5 .int (.t 35) (.c (.w (.s (.int .i64 (.lit (.ofNat 96))))))), none⟩,
⟨(some 37), .p (.mv (.t 36)), none⟩,
⟨(some 38), .p (.mv (.t 0)), some (37, true)⟩,
⟨(some 39), .b (.cmp 3 .int (.t 38) (.c (.w (.s (.int .i64 (.lit (.ofNat 164))))))), some (37, true)⟩,
⟨(some 40), .p (.pick (.t 37) (.t 39) (.c (.w (.s (.bool false))))), none⟩,
⟨(some 6), .p (.mv (.t 40)), none⟩]) (.cond (.t 6) (.skip) (.seq (.reg [
⟨(some 41), .p (.mv (.t 0)), none⟩,
⟨(some 42), .b (.cmp 5 .int (.t 41) (.c (.w (.s (.int .i64 (.lit (.ofNat 240))))))), none⟩,
⟨(some 43), .p (.mv (.t 42)), none⟩,
⟨(some 44), .p (.mv (.t 0)), some (43, true)⟩,
⟨(some 45), .b (.cmp 3 .int (.t 44) (.c (.w (.s (.int .i64 (.lit (.ofNat 243))))))), some (43, true)⟩,
⟨(some 46), .p (.pick (.t 43) (.t 45) (.c (.w (.s (.bool false))))), none⟩,
⟨(some 6), .p (.mv (.t 46)), none⟩]) (.cond (.t 6) (.skip) (.reg [
⟨(some 47), .p (.mv (.t 0)), none⟩,
⟨(some 48), .b (.cmp 0 .int (.t 47) (.c (.w (.s (.int .i64 (.lit (.ofNat 255))))))), none⟩,
⟨(some 6), .p (.mv (.t 48)), none⟩]))))))))))))))))) (.cond (.t 6) (.seq (.reg [
⟨(some 2), .p (.mv (.c (.w (.s (.int .i64 (.lit (.ofNat 0))))))), none⟩]) (.ret)) (.skip)))))) (.seq (.seq (.reg [
⟨(some 49), .p (.mv (.t 0)), none⟩]) (.block 1 (.seq (.reg [
⟨(some 51), .b (.cmp 0 .int (.t 49) (.c (.w (.s (.int .i64 (.lit (.ofNat 244))))))), none⟩,
⟨(some 50), .p (.mv (.t 51)), none⟩]) (.cond (.t 50) (.seq (.reg [
⟨(some 2), .p (.mv (.c (.w (.s (.int .i64 (.lit (.ofNat 1))))))), none⟩]) (.ret)) (.seq (.seq (.reg [
⟨(some 53), .b (.cmp 0 .int (.t 49) (.c (.w (.s (.int .i64 (.lit (.ofNat 61))))))), none⟩,
⟨(some 52), .p (.mv (.t 53)), none⟩]) (.cond (.t 52) (.skip) (.seq (.reg [
⟨(some 54), .b (.cmp 0 .int (.t 49) (.c (.w (.s (.int .i64 (.lit (.ofNat 62))))))), none⟩,
⟨(some 52), .p (.mv (.t 54)), none⟩]) (.cond (.t 52) (.skip) (.seq (.reg [
⟨(some 55), .b (.cmp 0 .int (.t 49) (.c (.w (.s (.int .i64 (.lit (.ofNat 250))))))), none⟩,
⟨(some 52), .p (.mv (.t 55)), none⟩]) (.cond (.t 52) (.skip) (.reg [
⟨(some 56), .b (.cmp 0 .int (.t 49) (.c (.w (.s (.int .i64 (.lit (.ofNat 253))))))), none⟩,
⟨(some 52), .p (.mv (.t 56)), none⟩]))))))) (.cond (.t 52) (.seq (.reg [
⟨(some 2), .p (.mv (.c (.w (.s (.int .i64 (.lit (.ofNat 4))))))), none⟩]) (.ret)) (.seq (.seq (.reg [
⟨(some 58), .b (.cmp 0 .int (.t 49) (.c (.w (.s (.int .i64 (.lit (.ofNat 27))))))), none⟩,
⟨(some 57), .p (.mv (.t 58)), none⟩]) (.cond (.t 57) (.skip) (.seq (.reg [
⟨(some 59), .b (.cmp 0 .int (.t 49) (.c (.w (.s (.int .i64 (.lit (.ofNat 28))))))), none⟩,
⟨(some 57), .p (.mv (.t 59)), none⟩]) (.cond (.t 57) (.skip) (.seq (.reg [
⟨(some 60), .b (.cmp 0 .int (.t 49) (.c (.w (.s (.int .i64 (.lit (.ofNat 29))))))), none⟩,
⟨(some 57), .p (.mv (.t 60)), none⟩]) (.cond (.t 57) (.skip) (.seq (.reg [
⟨(some 61), .b (.cmp 0 .int (.t 49) (.c (.w (.s (.int .i64 (.lit (.ofNat 63))))))), none⟩,
⟨(some 57), .p (.mv (.t 61)), none⟩]) (.cond (.t 57) (.skip) (.reg [
⟨(some 62), .b (.cmp 0 .int (.t 49) (.c (.w (.s (.int .i64 (.lit (.ofNat 245))))))), none⟩,
⟨(some 57), .p (.mv (.t 62)), none⟩]))))))))) (.cond (.t 57) (.seq (.reg [
⟨(some 2), .p (.mv (.c (.w (.s (.int .i64 (.lit (.ofNat 5))))))), none⟩]) (.ret)) (.seq (.seq (.reg [
⟨(some 64), .b (.cmp 0 .int (.t 49) (.c (.w (.s (.int .i64 (.lit (.ofNat 70))))))), none⟩,
⟨(some 63), .p (.mv (.t 64)), none⟩]) (.cond (.t 63) (.skip) (.reg [
⟨(some 65), .b (.cmp 0 .int (.t 49) (.c (.w (.s (.int .i64 (.lit (.ofNat 71))))))), none⟩,
⟨(some 63), .p (.mv (.t 65)), none⟩]))) (.cond (.t 63) (.seq (.reg [
⟨(some 2), .p (.mv (.c (.w (.s (.int .i64 (.lit (.ofNat 7))))))), none⟩]) (.ret)) (.seq (.reg [
⟨(some 67), .b (.cmp 0 .int (.t 49) (.c (.w (.s (.int .i64 (.lit (.ofNat 72))))))), none⟩,
⟨(some 66), .p (.mv (.t 67)), none⟩]) (.cond (.t 66) (.seq (.reg [
⟨(some 2), .p (.mv (.c (.w (.s (.int .i64 (.lit (.ofNat 10))))))), none⟩]) (.ret)) (.seq (.reg [
⟨(some 69), .b (.cmp 0 .int (.t 49) (.c (.w (.s (.int .i64 (.lit (.ofNat 95))))))), none⟩,
⟨(some 68), .p (.mv (.t 69)), none⟩]) (.cond (.t 68) (.seq (.reg [
⟨(some 2), .p (.mv (.c (.w (.s (.int .i64 (.lit (.ofNat 14))))))), none⟩]) (.ret)) (.seq (.seq (.reg [
⟨(some 71), .b (.cmp 0 .int (.t 49) (.c (.w (.s (.int .i64 (.lit (.ofNat 73))))))), none⟩,
⟨(some 70), .p (.mv (.t 71)), none⟩]) (.cond (.t 70) (.skip) (.seq (.reg [
⟨(some 72), .b (.cmp 0 .int (.t 49) (.c (.w (.s (.int .i64 (.lit (.ofNat 74))))))), none⟩,
⟨(some 70), .p (.mv (.t 72)), none⟩]) (.cond (.t 70) (.skip) (.seq (.reg [
⟨(some 73), .b (.cmp 0 .int (.t 49) (.c (.w (.s (.int .i64 (.lit (.ofNat 92))))))), none⟩,
⟨(some 70), .p (.mv (.t 73)), none⟩]) (.cond (.t 70) (.skip) (.seq (.reg [
⟨(some 74), .b (.cmp 0 .int (.t 49) (.c (.w (.s (.int .i64 (.lit (.ofNat 93))))))), none⟩,
⟨(some 70), .p (.mv (.t 74)), none⟩]) (.cond (.t 70) (.skip) (.reg [
⟨(some 75), .b (.cmp 0 .int (.t 49) (.c (.w (.s (.int .i64 (.lit (.ofNat 94))))))), none⟩,
⟨(some 70), .p (.mv (.t 75)), none⟩]))))))))) (.cond (.t 70) (.seq (.reg [
⟨(some 2), .p (.mv (.c (.w (.s (.int .i64 (.lit (.ofNat 15))))))), none⟩]) (.ret)) (.skip))))))))))))))))) (.seq (.reg [
⟨(some 2), .p (.mv (.c (.w (.s (.int .i64 (.lit (.negSucc 0))))))), none⟩]) (.ret))))⟩
theorem fo58 : ∃ func code hint, FnOk Go.Proofs.Tryz.prog TT 58 fa58 func code hint := ⟨Go.Proofs.Tryz.f58, bodyOf Go.Proofs.Tryz.f58, hintL [], ⟨Go.Proofs.Tryz.func58, Go.Proofs.Tryz.call58, by kernel_rfl, by kernel_rfl, by kernel_rfl, by kernel_rfl⟩⟩
/- (*quarry/state.State).at -/
def fa59 : AFunc := ⟨17, [.tmp 4], .seq (.reg [
⟨(some 3), .m (.box 30 (.t 1)), none⟩,
⟨(some 4), .p (.mv (.c (.w (.s (.nilp))))), none⟩]) (.seq (.seq (.draw [
⟨0, ⟨(some 6), .p (.mv (.t 0)), none⟩, 0, 0⟩,
⟨1, ⟨(some 7), .p (.nilCheck (.t 6)), none⟩, 1, 0⟩,
⟨2, ⟨(some 8), .p (.faddr 0 (.t 7)), none⟩, 3, 0⟩,
⟨3, ⟨(some 9), .r (.load none (.t 8)), none⟩, 7, 0⟩,
⟨4, ⟨(some 10), .r (.load (some 20) (.t 3)), none⟩, 0, 0⟩,
⟨5, ⟨(some 11), .r (.lookup (.one (.arr 20 5 .u8)) (.s (.nilp)) (.t 9) (.t 10) false), none⟩, 31, 0⟩,
⟨6, ⟨(some 5), .p (.mv (.t 11)), none⟩, 63, 0⟩]) (.seq (.reg [
⟨(some 12), .p (.mv (.t 5)), none⟩,
⟨(some 13), .b (.cmp 1 .ptr (.t 12) (.c (.w (.s (.nilp))))), none⟩]) (.cond (.t 13) (.seq (.reg [
⟨(some 14), .p (.mv (.t 5)), none⟩,
⟨(some 4), .p (.mv (.t 14)), none⟩]) (.ret)) (.skip)))) (.seq (.reg [
⟨(some 15), .p (.build [.int .u64 (.lit (.ofNat 0)), .int .u64 (.lit (.ofNat 0)), .int .u64 (.lit (.ofNat 0)), .int .u64 (.lit (.ofNat 0)), .int .u64 (.lit (.ofNat 0)), .nils, .nilm] []), none⟩,
⟨(some 16), .m (.box 69 (.t 15)), none⟩,
⟨(some 4), .p (.mv (.t 16)), none⟩]) (.ret)))⟩
theorem fo59 : ∃ func code hint, FnOk Go.Proofs.Tryz.prog TT 59 fa59 func code hint := ⟨Go.Proofs.Tryz.f59, bodyOf Go.Proofs.Tryz.f59, hintL [(1, [(0, 0), (1, 0), (2, 0), (3, 0), (4, 0), (5, 0), (6, 0)])], ⟨Go.Proofs.Tryz.func59, Go.Proofs.Tryz.call59, by kernel_rfl, by kernel_rfl, by kernel_rfl, by kernel_rfl⟩⟩
/- quarry/word.Cmp -/
def fa60 : AFunc := ⟨26, [.tmp 4], .seq (.reg [
⟨(some 2), .m (.box 24 (.t 0)), none⟩,
⟨(some 3), .m (.box 24 (.t 1)), none⟩,
⟨(some 4), .p (.mv (.c (.w (.s (.int .i64 (.lit (.ofNat 0))))))), none⟩]) (.seq (.seq (.reg [
⟨(some 5), .p (.mv (.c (.w (.s (.int .i64 (.lit (.ofNat 3))))))), none⟩]) (.block 0 (.loop (.seq (.seq (.reg [
⟨(some 6), .p (.mv (.t 5)), none⟩,
⟨(some 7), .b (.cmp 5 .int (.t 6) (.c (.w (.s (.int .i64 (.lit (.ofNat 0))))))), none⟩]) (.cond (.t 7) (.skip) (.exit 0))) (.seq (.block 1 (.block 2 (.seq (.draw [
⟨0, ⟨(some 11), .p (.mv (.t 5)), none⟩, 0, 0⟩,
⟨1, ⟨(some 12), .p (.iaddrA 4 1 (.t 2) (.t 11)), none⟩, 1, 0⟩,
⟨2, ⟨(some 13), .r (.load none (.t 12)), none⟩, 3, 0⟩,
⟨3, ⟨(some 14), .p (.mv (.t 5)), none⟩, 0, 0⟩,
⟨4, ⟨(some 15), .p (.iaddrA 4 1 (.t 3) (.t 14)), none⟩, 8, 0⟩,
⟨5, ⟨(some 16), .r (.load none (.t 15)), none⟩, 24, 0⟩,
⟨6, ⟨(some 17), .b (.cmp 2 .int (.t 13) (.t 16)), none⟩, 63, 0⟩,
⟨7, ⟨(some 10), .p (.mv (.t 17)), none⟩, 127, 0⟩]) (.cond (.t 10) (.seq (.reg [
⟨(some 4), .p (.mv (.c (.w (.s (.int .i64 (.lit (.negSucc 0))))))), none⟩]) (.ret)) (.seq (.draw [
⟨0, ⟨(some 19), .p (.mv (.t 5)), none⟩, 0, 0⟩,
⟨1, ⟨(some 20), .p (.iaddrA 4 1 (.t 2) (.t 19)), none⟩, 1, 0⟩,
⟨2, ⟨(some 21), .r (.load none (.t 20)), none⟩, 3, 0⟩,
⟨3, ⟨(some 22), .p (.mv (.t 5)), none⟩, 0, 0⟩,
⟨4, ⟨(some 23), .p (.iaddrA 4 1 (.t 3) (.t 22)), none⟩, 8, 0⟩,
⟨5, ⟨(some 24), .r (.load none (.t 23)), none⟩, 24, 0⟩,
⟨6, ⟨(some 25), .b (.cmp 4 .int (.t 21) (.t 24)), none⟩, 63, 0⟩,
⟨7, ⟨(some 18), .p (.mv (.t 25)), none⟩, 127, 0⟩]) (.cond (.t 18) (.seq (.reg [
⟨(some 4), .p (.mv (.c (.w (.s (.int .i64 (.lit (.ofNat 1))))))), none⟩]) (.ret)) (.skip))))))) (.reg [
⟨(some 8), .p (.mv (.t 5)), none⟩,
⟨(some 9), .p (.ar 1 (.t 8) (.c (.w (.s (.int .i64 (.lit (.ofNat 1))))))), none⟩,
⟨(some 5), .p (.mv (.t 9)), none⟩])))))) (.seq (.reg [
⟨(some 4), .p (.mv (.c (.w (.s (.int .i64 (.lit (.ofNat 0))))))), none⟩]) (.ret)))⟩
theorem fo60 : ∃ func code hint, FnOk Go.Proofs.Tryz.prog TT 60 fa60 func code hint := ⟨Go.Proofs.Tryz.f60, bodyOf Go.Proofs.Tryz.f60, hintL [(4, [(0, 0), (1, 0), (2, 0), (3, 0), (4, 0), (5, 0), (6, 0), (7, 0)]), (6, [(0, 0), (1, 0), (2, 0), (3, 0), (4, 0), (5, 0), (6, 0), (7, 0)])], ⟨Go.Proofs.Tryz.func60, Go.Proofs.Tryz.call60, by kernel_rfl, by kernel_rfl, by kernel_rfl, by kernel_rfl⟩⟩
/- (*quarry/state.State).Balance -/
def fa61 : AFunc := ⟨11, [.cell 4 (some 4)], .seq (.reg [
⟨(some 3), .m (.box 30 (.t 1)), none⟩,
⟨(some 4), .m (.alloc 24 [.int .u64 (.lit (.ofNat 0)), .int .u64 (.lit (.ofNat 0)), .int .u64 (.lit (.ofNat 0)), .int .u64 (.lit (.ofNat 0))]), none⟩]) (.seq (.reg [
⟨(some 5), .p (.mv (.t 0)), none⟩,
⟨(some 6), .r (.load (some 20) (.t 3)), none⟩,
⟨(some 7), .b (.call 59 [(.t 5), (.t 6)]), none⟩,
⟨(some 8), .p (.nilCheck (.t 7)), none⟩,
⟨(some 9), .p (.faddr 1 (.t 8)), none⟩,
⟨(some 10), .r (.load (some 4) (.t 9)), none⟩,
⟨none, .b (.store 4 (.t 4) (.t 10)), none⟩]) (.ret))⟩
theorem fo61 : ∃ func code hint, FnOk Go.Proofs.Tryz.prog TT 61 fa61 func code hint := ⟨Go.Proofs.Tryz.f61, bodyOf Go.Proofs.Tryz.f61, hintL [], ⟨Go.Proofs.Tryz.func61, Go.Proofs.Tryz.call61, by kernel_rfl, by kernel_rfl, by kernel_rfl, by kernel_rfl⟩⟩
/- (*quarry/state.State).undoable -/
def fa63 : AFunc := ⟨16, [], .reg [
⟨(some 4), .p (.mv (.t 0)), none⟩,
⟨(some 5), .p (.mv (.t 0)), none⟩,
⟨(some 6), .p (.nilCheck (.t 5)), none⟩,
⟨(some 7), .p (.faddr 1 (.t 6)), none⟩,
⟨(some 8), .p (.faddr 9 (.t 7)), none⟩,
⟨(some 9), .r (.load none (.t 8)), none⟩,
⟨(some 10), .p (.mv (.t 1)), none⟩,
⟨(some 11), .m (.bslice 1 1 [.nilfn] [(0, 1, (.t 10))]), none⟩,
⟨(some 12), .b (.append 1 1 8 (.t 9) (.t 11)), none⟩,
⟨(some 13), .p (.nilCheck (.t 4)), none⟩,
⟨(some 14), .p (.faddr 1 (.t 13)), none⟩,
⟨(some 15), .p (.faddr 9 (.t 14)), none⟩,
⟨none, .b (.store 1 (.t 15) (.t 12)), none⟩]⟩
theorem fo63 : ∃ func code hint, FnOk Go.Proofs.Tryz.prog TT 63 fa63 func code hint := ⟨Go.Proofs.Tryz.f63, bodyOf Go.Proofs.Tryz.f63, hintL [], ⟨Go.Proofs.Tryz.func63, Go.Proofs.Tryz.call63, by kernel_rfl, by kernel_rfl, by kernel_rfl, by kernel_rfl⟩⟩
/- quarry/state.put[quarry/api.Address,struct{}] -/
def fa66 : AFunc := ⟨22, [], .seq (.reg [
⟨(some 5), .m (.box 75 (.t 1)), none⟩,
⟨(some 6), .m (.box 30 (.t 2)), none⟩,
⟨(some 7), .m (.box 143 (.t 3)), none⟩]) (.seq (.reg [
⟨(some 11), .r (.load none (.t 5)), none⟩,
⟨(some 12), .r (.load (some 20) (.t 6)), none⟩,
⟨(some 13), .r (.lookup (.one (.arr 20 5 .u8)) (.agg []) (.t 11) (.t 12) true), none⟩,
⟨(some 10), .p (.mv (.t 13)), none⟩,
⟨(some 14), .p (.ext (.t 10) 0), none⟩,
⟨(some 15), .p (.ext (.t 10) 1), none⟩,
⟨(some 8), .m (.alloc 143 []), none⟩,
⟨(some 9), .m (.alloc 4 [.bool false]), none⟩,
⟨none, .b (.store 0 (.t 8) (.t 14)), none⟩,
⟨none, .b (.store 1 (.t 9) (.t 15)), none⟩]) (.seq (.reg [
⟨(some 16), .r (.load none (.t 5)), none⟩,
⟨(some 17), .r (.load (some 20) (.t 6)), none⟩,
⟨(some 18), .r (.load (some 0) (.t 7)), none⟩,
⟨none, .b (.mupd (.one (.arr 20 5 .u8)) (.t 16) (.t 17) (.t 18)), none⟩]) (.reg [
⟨(some 19), .p (.mv (.t 0)), none⟩,
⟨(some 20), .p (.mkfunc 82 [(.t 9), (.t 8), (.t 5), (.t 6)]), none⟩,
⟨(some 21), .b (.call 63 [(.t 19), (.t 20)]), none⟩])))⟩
theorem fo66 : ∃ func code hint, FnOk Go.Proofs.Tryz.prog TT 66 fa66 func code hint := ⟨Go.Proofs.Tryz.f66, bodyOf Go.Proofs.Tryz.f66, hintL [], ⟨Go.Proofs.Tryz.func66, Go.Proofs.Tryz.call66, by kernel_rfl, by kernel_rfl, by kernel_rfl, by kernel_rfl⟩⟩
/- quarry/word.Add -/
def fa71 : AFunc := ⟨14, [.cell 4 (some 4)], .seq (.reg [
⟨(some 2), .m (.box 24 (.t 0)), none⟩,
⟨(some 3), .m (.box 24 (.t 1)), none⟩,
⟨(some 4), .m (.alloc 24 [.int .u64 (.lit (.ofNat 0)), .int .u64 (.lit (.ofNat 0)), .int .u64 (.lit (.ofNat 0)), .int .u64 (.lit (.ofNat 0))]), none⟩]) (.seq (.reg [
⟨(some 8), .r (.load (some 4) (.t 2)), none⟩,
⟨(some 9), .r (.load (some 4) (.t 3)), none⟩,
⟨(some 10), .b (.call 86 [(.t 8), (.t 9)]), none⟩,
⟨(some 7), .p (.mv (.t 10)), none⟩,
⟨(some 11), .p (.ext (.t 7) 0), none⟩,
⟨(some 12), .p (.ext (.t 7) 1), none⟩,
⟨(some 5), .m (.alloc 24 [.int .u64 (.lit (.ofNat 0)), .int .u64 (.lit (.ofNat 0)), .int .u64 (.lit (.ofNat 0)), .int .u64 (.lit (.ofNat 0))]), none⟩,
⟨none, .b (.store 4 (.t 5) (.t 11)), none⟩,
⟨(some 6), .p (.mv (.t 12)), none⟩]) (.seq (.reg [
⟨(some 13), .r (.load (some 4) (.t 5)), none⟩,
⟨none, .b (.store 4 (.t 4) (.t 13)), none⟩]) (.ret)))⟩
theorem fo71 : ∃ func code hint, FnOk Go.Proofs.Tryz.prog TT 71 fa71 func code hint := ⟨Go.Proofs.Tryz.f71, bodyOf Go.Proofs.Tryz.f71, hintL [], ⟨Go.Proofs.Tryz.func71, Go.Proofs.Tryz.call71, by kernel_rfl, by kernel_rfl, by kernel_rfl, by kernel_rfl⟩⟩
/- (*quarry/vm.frame).step -/
def fa74 : AFunc := ⟨187, [], .seq (.reg [
⟨(some 7), .p (.mv (.t 0)), none⟩,
⟨(some 8), .p (.nilCheck (.t 7)), none⟩,
⟨(some 9), .p (.faddr 0 (.t 8)), none⟩,
⟨(some 10), .r (.load none (.t 9)), none⟩,
⟨(some 11), .p (.nilCheck (.t 10)), none⟩,
⟨(some 12), .p (.faddr 90 (.t 11)), none⟩,
⟨(some 13), .r (.load none (.t 12)), none⟩,
⟨(some 14), .p (.ar 0 (.t 13) (.c (.w (.s (.int .u64 (.lit (.ofNat 1))))))), none⟩,
⟨(some 15), .p (.nilCheck (.t 10)), none⟩,
⟨(some 16), .p (.faddr 90 (.t 15)), none⟩,
⟨none, .b (.store 1 (.t 16) (.t 14)), none⟩]) (.seq (.reg [
⟨(some 17), .p (.mv (.t 0)), none⟩,
⟨(some 18), .p (.nilCheck (.t 17)), none⟩,
⟨(some 19), .p (.faddr 0 (.t 18)), none⟩,
⟨(some 20), .r (.load none (.t 19)), none⟩,
⟨(some 21), .p (.mv (.t 1)), none⟩,
⟨(some 22), .p (.nilCheck (.t 20)), none⟩,
⟨(some 23), .p (.faddr 91 (.t 22)), none⟩,
⟨(some 24), .p (.iaddrA 256 4 (.t 23) (.t 21)), none⟩,
⟨(some 25), .r (.load (some 4) (.t 24)), none⟩,
⟨(some 4), .m (.alloc 93 [.bool false, .int .i64 (.lit (.ofNat 0)), .int .i64 (.lit (.ofNat 0)), .int .u64 (.lit (.ofNat 0))]), none⟩,
⟨none, .b (.store 4 (.t 4) (.t 25)), none⟩]) (.seq (.draw [
⟨0, ⟨(some 26), .p (.faddr 0 (.t 4)), none⟩, 0, 0⟩,
⟨1, ⟨(some 27), .r (.load none (.t 26)), none⟩, 1, 0⟩,
⟨2, ⟨(some 28), .p (.mv (.t 27)), none⟩, 3, 0⟩,
⟨3, ⟨(some 29), .p (.mv (.t 0)), some (28, true)⟩, 7, 0⟩,
⟨4, ⟨(some 30), .p (.nilCheck (.t 29)), some (28, true)⟩, 15, 0⟩,
⟨5, ⟨(some 31), .p (.faddr 70 (.t 30)), some (28, true)⟩, 31, 0⟩,
⟨6, ⟨(some 32), .r (.load none (.t 31)), some (28, true)⟩, 63, 0⟩,
⟨7, ⟨(some 33), .p (.len (.t 32)), some (28, true)⟩, 127, 0⟩,
⟨8, ⟨(some 34), .p (.faddr 1 (.t 4)), some (28, true)⟩, 7, 0⟩,
⟨9, ⟨(some 35), .r (.load none (.t 34)), some (28, true)⟩, 263, 0⟩,
⟨10, ⟨(some 36), .b (.cmp 5 .int (.t 33) (.t 35)), some (28, true)⟩, 1023, 0⟩,
⟨11, ⟨(some 37), .p (.pick (.t 28) (.t 36) (.c (.w (.s (.bool false))))), none⟩, 2047, 0⟩,
⟨12, ⟨(some 38), .p (.mv (.t 37)), none⟩, 4095, 0⟩,
⟨13, ⟨(some 39), .p (.mv (.t 0)), some (38, true)⟩, 8191, 0⟩,
⟨14, ⟨(some 40), .p (.nilCheck (.t 39)), some (38, true)⟩, 16383, 0⟩,
⟨15, ⟨(some 41), .p (.faddr 70 (.t 40)), some (38, true)⟩, 32767, 0⟩,
⟨16, ⟨(some 42), .r (.load none (.t 41)), some (38, true)⟩, 65535, 0⟩,
⟨17, ⟨(some 43), .p (.len (.t 42)), some (38, true)⟩, 131071, 0⟩,
⟨18, ⟨(some 44), .p (.faddr 1 (.t 4)), some (38, true)⟩, 8191, 0⟩,
⟨19, ⟨(some 45), .r (.load none (.t 44)), some (38, true)⟩, 270335, 0⟩,
⟨20, ⟨(some 46), .p (.ar 1 (.t 43) (.t 45)), some (38, true)⟩, 1048575, 0⟩,
⟨21, ⟨(some 47), .p (.faddr 2 (.t 4)), some (38, true)⟩, 8191, 0⟩,
⟨22, ⟨(some 48), .r (.load none (.t 47)), some (38, true)⟩, 2105343, 0⟩,
⟨23, ⟨(some 49), .p (.ar 0 (.t 46) (.t 48)), some (38, true)⟩, 8388607, 0⟩,
⟨24, ⟨(some 50), .b (.cmp 3 .int (.t 49) (.c (.w (.s (.int .i64 (.lit (.ofNat 1024))))))), some (38, true)⟩, 16777215, 0⟩,
⟨25, ⟨(some 51), .p (.pick (.t 38) (.t 50) (.c (.w (.s (.bool false))))), none⟩, 33554431, 0⟩,
⟨26, ⟨(some 52), .b (.call 88 [(.t 51)]), none⟩, 67108863, 0⟩]) (.seq (.reg [
⟨(some 53), .p (.mv (.t 0)), none⟩,
⟨(some 54), .p (.nilCheck (.t 53)), none⟩,
⟨(some 55), .p (.faddr 1 (.t 54)), none⟩,
⟨(some 56), .p (.faddr 66 (.t 55)), none⟩,
⟨(some 57), .r (.load none (.t 56)), none⟩,
⟨(some 58), .p (.not (.t 57)), none⟩,
⟨(some 59), .p (.mv (.t 58)), none⟩,
⟨(some 60), .p (.mv (.t 0)), some (59, false)⟩,
⟨(some 61), .p (.mv (.t 1)), some (59, false)⟩,
⟨(some 62), .b (.call 89 [(.t 60), (.t 61)]), some (59, false)⟩,
⟨(some 63), .p (.not (.t 62)), some (59, false)⟩,
⟨(some 64), .p (.pick (.t 59) (.c (.w (.s (.bool true)))) (.t 63)), none⟩,
⟨(some 65), .b (.call 88 [(.t 64)]), none⟩]) (.seq (.reg [
⟨(some 66), .p (.mv (.t 0)), none⟩,
⟨(some 67), .p (.faddr 3 (.t 4)), none⟩,
⟨(some 68), .r (.load none (.t 67)), none⟩,
⟨(some 69), .b (.call 90 [(.t 66), (.t 68)]), none⟩]) (.seq (.reg [
⟨(some 70), .p (.mv (.t 0)), none⟩,
⟨(some 71), .p (.nilCheck (.t 70)), none⟩,
⟨(some 72), .p (.faddr 73 (.t 71)), none⟩,
⟨(some 73), .r (.load none (.t 72)), none⟩,
⟨(some 74), .p (.ar 0 (.t 73) (.c (.w (.s (.int .i64 (.lit (.ofNat 1))))))), none⟩,
⟨(some 75), .p (.nilCheck (.t 70)), none⟩,
⟨(some 76), .p (.faddr 73 (.t 75)), none⟩,
⟨none, .b (.store 1 (.t 76) (.t 74)), none⟩]) (.block 0 (.seq (.reg [
⟨(some 81), .p (.mv (.t 1)), none⟩,
⟨(some 82), .b (.cmp 3 .int (.t 81) (.c (.w (.s (.int .i64 (.lit (.ofNat 29))))))), none⟩,
⟨(some 80), .p (.mv (.t 82)), none⟩]) (.cond (.t 80) (.reg [
⟨(some 83), .p (.mv (.t 0)), none⟩,
⟨(some 84), .p (.mv (.t 1)), none⟩,
⟨(some 85), .b (.call 91 [(.t 83), (.t 84)]), none⟩]) (.seq (.reg [
⟨(some 87), .p (.mv (.t 1)), none⟩,
⟨(some 88), .b (.cmp 0 .int (.t 87) (.c (.w (.s (.int .i64 (.lit (.ofNat 32))))))), none⟩,
⟨(some 86), .p (.mv (.t 88)), none⟩]) (.cond (.t 86) (.reg [
⟨(some 89), .p (.mv (.t 0)), none⟩,
⟨(some 90), .b (.call 92 [(.t 89)]), none⟩]) (.seq (.reg [
⟨(some 92), .p (.mv (.t 1)), none⟩,
⟨(some 93), .b (.cmp 3 .int (.t 92) (.c (.w (.s (.int .i64 (.lit (.ofNat 63))))))), none⟩,
⟨(some 91), .p (.mv (.t 93)), none⟩]) (.cond (.t 91) (.reg [
⟨(some 94), .p (.mv (.t 0)), none⟩,
⟨(some 95), .p (.mv (.t 1)), none⟩,
⟨(some 96), .b (.call 93 [(.t 94), (.t 95)]), none⟩]) (.seq (.reg [
⟨(some 98), .p (.mv (.t 1)), none⟩,
⟨(some 99), .b (.cmp 3 .int (.t 98) (.c (.w (.s (.int .i64 (.lit (.ofNat 74))))))), none⟩,
⟨(some 97), .p (.mv (.t 99)), none⟩]) (.cond (.t 97) (.reg [
⟨(some 100), .p (.mv (.t 0)), none⟩,
⟨(some 101), .p (.mv (.t 1)), none⟩,
⟨(some 102), .b (.call 94 [(.t 100), (.t 101)]), none⟩]) (.seq (.reg [
⟨(some 104), .p (.mv (.t 1)), none⟩,
⟨(some 105), .b (.cmp 3 .int (.t 104) (.c (.w (.s (.int .i64 (.lit (.ofNat 94))))))), none⟩,
⟨(some 103), .p (.mv (.t 105)), none⟩]) (.cond (.t 103) (.reg [
⟨(some 106), .p (.mv (.t 0)), none⟩,
⟨(some 107), .p (.mv (.t 1)), none⟩,
⟨(some 108), .b (.call 95 [(.t 106), (.t 107)]), none⟩]) (.seq (.reg [
⟨(some 110), .p (.mv (.t 1)), none⟩,
⟨(some 111), .b (.cmp 3 .int (.t 110) (.c (.w (.s (.int .i64 (.lit (.ofNat 127))))))), none⟩,
⟨(some 109), .p (.mv (.t 111)), none⟩]) (.cond (.t 109) (.reg [
⟨(some 112), .p (.mv (.t 0)), none⟩,
⟨(some 113), .p (.mv (.t 1)), none⟩,
⟨(some 114), .p (.ar 1 (.t 113) (.c (.w (.s (.int .i64 (.lit (.ofNat 95))))))), none⟩,
⟨(some 115), .b (.call 96 [(.t 112), (.t 114)]), none⟩]) (.seq (.reg [
⟨(some 117), .p (.mv (.t 1)), none⟩,
⟨(some 118), .b (.cmp 3 .int (.t 117) (.c (.w (.s (.int .i64 (.lit (.ofNat 143))))))), none⟩,
⟨(some 116), .p (.mv (.t 118)), none⟩]) (.cond (.t 116) (.draw [
⟨0, ⟨(some 119), .p (.mv (.t 0)), none⟩, 0, 0⟩,
⟨1, ⟨(some 120), .p (.mv (.t 0)), none⟩, 0, 0⟩,
⟨2, ⟨(some 121), .p (.nilCheck (.t 120)), none⟩, 2, 0⟩,
⟨3, ⟨(some 122), .p (.faddr 70 (.t 121)), none⟩, 6, 0⟩,
⟨4, ⟨(some 123), .r (.load none (.t 122)), none⟩, 14, 0⟩,
⟨5, ⟨(some 124), .p (.mv (.t 0)), none⟩, 0, 0⟩,
⟨6, ⟨(some 125), .p (.nilCheck (.t 124)), none⟩, 32, 0⟩,
⟨7, ⟨(some 126), .p (.faddr 70 (.t 125)), none⟩, 96, 0⟩,
⟨8, ⟨(some 127), .r (.load none (.t 126)), none⟩, 224, 0⟩,
⟨9, ⟨(some 128), .p (.len (.t 127)), none⟩, 480, 0⟩,
⟨10, ⟨(some 129), .p (.ar 1 (.t 128) (.c (.w (.s (.int .i64 (.lit (.ofNat 1))))))), none⟩, 992, 0⟩,
⟨11, ⟨(some 130), .p (.mv (.t 1)), none⟩, 0, 0⟩,
⟨12, ⟨(some 131), .p (.ar 1 (.t 130) (.c (.w (.s (.int .i64 (.lit (.ofNat 128))))))), none⟩, 2048, 0⟩,
⟨13, ⟨(some 132), .p (.ar 1 (.t 129) (.t 131)), none⟩, 8160, 0⟩,
⟨14, ⟨(some 133), .p (.iaddrS 4 (.t 123) (.t 132)), none⟩, 16382, 0⟩,
⟨15, ⟨(some 134), .r (.load (some 4) (.t 133)), none⟩, 32766, 0⟩,
⟨16, ⟨(some 135), .b (.call 97 [(.t 119), (.t 134)]), none⟩, 65535, 0⟩]) (.seq (.reg [
⟨(some 137), .p (.mv (.t 1)), none⟩,
⟨(some 138), .b (.cmp 3 .int (.t 137) (.c (.w (.s (.int .i64 (.lit (.ofNat 159))))))), none⟩,
⟨(some 136), .p (.mv (.t 138)), none⟩]) (.cond (.t 136) (.seq (.draw [
⟨0, ⟨(some 139), .p (.mv (.t 0)), none⟩, 0, 0⟩,
⟨1, ⟨(some 140), .p (.nilCheck (.t 139)), none⟩, 1, 0⟩,
⟨2, ⟨(some 141), .p (.faddr 70 (.t 140)), none⟩, 3, 0⟩,
⟨3, ⟨(some 142), .r (.load none (.t 141)), none⟩, 7, 0⟩,
⟨4, ⟨(some 143), .p (.len (.t 142)), none⟩, 15, 0⟩,
⟨5, ⟨(some 144), .p (.ar 1 (.t 143) (.c (.w (.s (.int .i64 (.lit (.ofNat 1))))))), none⟩, 31, 0⟩,
⟨6, ⟨(some 145), .p (.mv (.t 0)), none⟩, 0, 0⟩,
⟨7, ⟨(some 146), .p (.nilCheck (.t 145)), none⟩, 64, 0⟩,
⟨8, ⟨(some 147), .p (.faddr 70 (.t 146)), none⟩, 192, 0⟩,
⟨9, ⟨(some 148), .r (.load none (.t 147)), none⟩, 448, 0⟩,
⟨10, ⟨(some 149), .p (.len (.t 148)), none⟩, 960, 0⟩,
⟨11, ⟨(some 150), .p (.ar 1 (.t 149) (.c (.w (.s (.int .i64 (.lit (.ofNat 2))))))), none⟩, 1984, 0⟩,
⟨12, ⟨(some 151), .p (.mv (.t 1)), none⟩, 0, 0⟩,
⟨13, ⟨(some 152), .p (.ar 1 (.t 151) (.c (.w (.s (.int .i64 (.lit (.ofNat 144))))))), none⟩, 4096, 0⟩,
⟨14, ⟨(some 153), .p (.ar 1 (.t 150) (.t 152)), none⟩, 16320, 0⟩,
⟨15, ⟨(some 5), .p (.mv (.t 144)), none⟩, 63, 0⟩,
⟨16, ⟨(some 6), .p (.mv (.t 153)), none⟩, 65535, 0⟩]) (.draw [
⟨0, ⟨(some 154), .p (.mv (.t 0)), none⟩, 0, 0⟩,
⟨1, ⟨(some 155), .p (.nilCheck (.t 154)), none⟩, 1, 0⟩,
⟨2, ⟨(some 156), .p (.faddr 70 (.t 155)), none⟩, 3, 0⟩,
⟨3, ⟨(some 157), .r (.load none (.t 156)), none⟩, 7, 0⟩,
⟨4, ⟨(some 158), .p (.mv (.t 5)), none⟩, 0, 0⟩,
⟨5, ⟨(some 159), .p (.mv (.t 0)), none⟩, 0, 0⟩,
⟨6, ⟨(some 160), .p (.nilCheck (.t 159)), none⟩, 32, 0⟩,
⟨7, ⟨(some 161), .p (.faddr 70 (.t 160)), none⟩, 96, 0⟩,
⟨8, ⟨(some 162), .r (.load none (.t 161)), none⟩, 224, 0⟩,
⟨9, ⟨(some 163), .p (.mv (.t 6)), none⟩, 0, 0⟩,
⟨10, ⟨(some 164), .p (.mv (.t 0)), none⟩, 0, 0⟩,
⟨11, ⟨(some 165), .p (.nilCheck (.t 164)), none⟩, 1024, 0⟩,
⟨12, ⟨(some 166), .p (.faddr 70 (.t 165)), none⟩, 3072, 0⟩,
⟨13, ⟨(some 167), .r (.load none (.t 166)), none⟩, 7168, 0⟩,
⟨14, ⟨(some 168), .p (.mv (.t 6)), none⟩, 0, 0⟩,
⟨15, ⟨(some 169), .p (.iaddrS 4 (.t 167) (.t 168)), none⟩, 31744, 0⟩,
⟨16, ⟨(some 170), .r (.load (some 4) (.t 169)), none⟩, 64512, 0⟩,
⟨17, ⟨(some 171), .p (.mv (.t 0)), none⟩, 0, 0⟩,
⟨18, ⟨(some 172), .p (.nilCheck (.t 171)), none⟩, 131072, 0⟩,
⟨19, ⟨(some 173), .p (.faddr 70 (.t 172)), none⟩, 393216, 0⟩,
⟨20, ⟨(some 174), .r (.load none (.t 173)), none⟩, 917504, 0⟩,
⟨21, ⟨(some 175), .p (.mv (.t 5)), none⟩, 0, 0⟩,
⟨22, ⟨(some 176), .p (.iaddrS 4 (.t 174) (.t 175)), none⟩, 4063232, 0⟩,
⟨23, ⟨(some 177), .r (.load (some 4) (.t 176)), none⟩, 8257536, 0⟩,
⟨24, ⟨(some 178), .p (.iaddrS 4 (.t 157) (.t 158)), none⟩, 16776703, 0⟩,
⟨25, ⟨none, .b (.store 4 (.t 178) (.t 170)), none⟩, 33553919, 0⟩,
⟨26, ⟨(some 179), .p (.iaddrS 4 (.t 162) (.t 163)), none⟩, 67108863, 0⟩,
⟨27, ⟨none, .b (.store 4 (.t 179) (.t 177)), none⟩, 134217727, 0⟩])) (.seq (.reg [
⟨(some 181), .p (.mv (.t 1)), none⟩,
⟨(some 182), .b (.cmp 3 .int (.t 181) (.c (.w (.s (.int .i64 (.lit (.ofNat 164))))))), none⟩,
⟨(some 180), .p (.mv (.t 182)), none⟩]) (.cond (.t 180) (.reg [
⟨(some 183), .p (.mv (.t 0)), none⟩,
⟨(some 184), .p (.mv (.t 1)), none⟩,
⟨(some 185), .p (.ar 1 (.t 184) (.c (.w (.s (.int .i64 (.lit (.ofNat 160))))))), none⟩,
⟨(some 186), .b (.call 98 [(.t 183), (.t 185)]), none⟩]) (.reg [
⟨(some 77), .p (.mv (.t 0)), none⟩,
⟨(some 78), .p (.mv (.t 1)), none⟩,
⟨(some 79), .b (.call 99 [(.t 77), (.t 78)]), none⟩])))))))))))))))))))))))))⟩
theorem fo74 : ∃ func code hint, FnOk Go.Proofs.Tryz.prog TT 74 fa74 func code hint := ⟨Go.Proofs.Tryz.f74, bodyOf Go.Proofs.Tryz.f74, hintL [(2, [(0, 0), (1, 0), (2, 0), (3, 0), (4, 0), (5, 0), (6, 0), (7, 0), (8, 0), (9, 0), (10, 0), (11, 0), (12, 0), (13, 0), (14, 0), (15, 0), (16, 0), (17, 0), (18, 0), (19, 0), (20, 0), (21, 0), (22, 0), (23, 0), (24, 0), (25, 0), (26, 0)]), (20, [(0, 0), (1, 0), (2, 0), (3, 0), (4, 0), (5, 0), (6, 0), (7, 0), (8, 0), (9, 0), (10, 0), (11, 0), (12, 0), (13, 0), (14, 0), (15, 0), (16, 0)]), (22, [(0, 0), (1, 0), (2, 0), (3, 0), (4, 0), (5, 0), (6, 0), (7, 0), (8, 0), (9, 0), (10, 0), (11, 0), (12, 0), (13, 0), (14, 0), (15, 0), (16, 0)]), (23, [(0, 0), (1, 0), (2, 0), (3, 0), (4, 0), (5, 0), (6, 0), (7, 0), (8, 0), (9, 0), (10, 0), (11, 0), (12, 0), (13, 0), (14, 0), (15, 0), (16, 0), (17, 0), (18, 0), (19, 0), (20, 0), (21, 0), (22, 0), (23, 0), (24, 0), (25, 0), (26, 0), (27, 0)])], ⟨Go.Proofs.Tryz.func74, Go.Proofs.Tryz.call74, by kernel_rfl, by kernel_rfl, by kernel_rfl, by kernel_rfl⟩⟩
/- quarry/word.Of -/
def fa80 : AFunc := ⟨5, [.cell 2 (some 4)], .seq (.reg [
⟨(some 2), .m (.alloc 24 [.int .u64 (.lit (.ofNat 0)), .int .u64 (.lit (.ofNat 0)), .int .u64 (.lit (.ofNat 0)), .int .u64 (.lit (.ofNat 0))]), none⟩]) (.seq (.reg [
⟨(some 3), .p (.mv (.t 0)), none⟩,
⟨(some 4), .p (.build [.int .u64 (.lit (.ofNat 0)), .int .u64 (.lit (.ofNat 0)), .int .u64 (.lit (.ofNat 0)), .int .u64 (.lit (.ofNat 0))] [(0, 1, (.t 3))]), none⟩,
⟨none, .b (.store 4 (.t 2) (.t 4)), none⟩]) (.ret))⟩
theorem fo80 : ∃ func code hint, FnOk Go.Proofs.Tryz.prog TT 80 fa80 func code hint := ⟨Go.Proofs.Tryz.f80, bodyOf Go.Proofs.Tryz.f80, hintL [], ⟨Go.Proofs.Tryz.func80, Go.Proofs.Tryz.call80, by kernel_rfl, by kernel_rfl, by kernel_rfl, by kernel_rfl⟩⟩
/- (*quarry/vm.machine).inside -/
def fa81 : AFunc := ⟨48, [.cell 4 (some 23)], .seq (.reg [
⟨(some 3), .m (.box 101 (.t 1)), none⟩,
⟨(some 4), .m (.alloc 103 [.int .i64 (.lit (.ofNat 0)), .nils, .int .u64 (.lit (.ofNat 0)), .int .u8 (.lit (.ofNat 0)), .int .u8 (.lit (.ofNat 0)), .int .u8 (.lit (.ofNat 0)), .int .u8 (.lit (.ofNat 0)), .int .u8 (.lit (.ofNat 0)), .int .u8 (.lit (.ofNat 0)), .int .u8 (.lit (.ofNat 0)), .int .u8 (.lit (.ofNat 0)), .int .u8 (.lit (.ofNat 0)), .int .u8 (.lit (.ofNat 0)), .int .u8 (.lit (.ofNat 0)), .int .u8 (.lit (.ofNat 0)), .int .u8 (.lit (.ofNat 0)), .int .u8 (.lit (.ofNat 0)), .int .u8 (.lit (.ofNat 0)), .int .u8 (.lit (.ofNat 0)), .int .u8 (.lit (.ofNat 0)), .int .u8 (.lit (.ofNat 0)), .int .u8 (.lit (.ofNat 0)), .int .u8 (.lit (.ofNat 0))]), none⟩]) (.seq (.seq (.draw [
⟨0, ⟨(some 9), .p (.mv (.t 0)), none⟩, 0, 0⟩,
⟨1, ⟨(some 10), .p (.nilCheck (.t 9)), none⟩, 1, 0⟩,
⟨2, ⟨(some 11), .p (.faddr 0 (.t 10)), none⟩, 3, 0⟩,
⟨3, ⟨(some 12), .r (.load none (.t 11)), none⟩, 7, 0⟩,
⟨4, ⟨(some 13), .p (.faddr 40 (.t 3)), none⟩, 0, 0⟩,
⟨5, ⟨(some 14), .r (.load (some 20) (.t 13)), none⟩, 16, 0⟩,
⟨6, ⟨(some 15), .b (.call 53 [(.t 12), (.t 14)]), none⟩, 63, 0⟩,
⟨7, ⟨(some 5), .p (.mv (.t 15)), none⟩, 127, 0⟩]) (.seq (.reg [
⟨(some 16), .p (.mv (.t 5)), none⟩,
⟨(some 17), .b (.cmp 1 .int (.t 16) (.c (.w (.s (.int .i64 (.lit (.ofNat 0))))))), none⟩]) (.cond (.t 17) (.seq (.draw [
⟨0, ⟨(some 19), .p (.mv (.t 0)), none⟩, 0, 0⟩,
⟨1, ⟨(some 20), .p (.nilCheck (.t 19)), none⟩, 1, 0⟩,
⟨2, ⟨(some 21), .p (.faddr 0 (.t 20)), none⟩, 3, 0⟩,
⟨3, ⟨(some 22), .r (.load none (.t 21)), none⟩, 7, 0⟩,
⟨4, ⟨(some 23), .p (.mv (.t 5)), none⟩, 0, 0⟩,
⟨5, ⟨(some 24), .p (.faddr 64 (.t 3)), none⟩, 0, 0⟩,
⟨6, ⟨(some 25), .r (.load none (.t 24)), none⟩, 32, 0⟩,
⟨7, ⟨(some 26), .p (.faddr 65 (.t 3)), none⟩, 0, 0⟩,
⟨8, ⟨(some 27), .r (.load none (.t 26)), none⟩, 128, 0⟩,
⟨9, ⟨(some 28), .b (.call 105 [(.t 22), (.t 23), (.t 25), (.t 27)]), none⟩, 511, 0⟩,
⟨10, ⟨(some 18), .p (.mv (.t 28)), none⟩, 1023, 0⟩,
⟨11, ⟨(some 29), .p (.ext (.t 18) 0), none⟩, 2047, 0⟩,
⟨12, ⟨(some 30), .p (.ext (.t 18) 1), none⟩, 2047, 0⟩,
⟨13, ⟨(some 31), .p (.ext (.t 18) 2), none⟩, 2047, 0⟩,
⟨14, ⟨(some 6), .p (.mv (.t 29)), none⟩, 4095, 0⟩,
⟨15, ⟨(some 7), .p (.mv (.t 30)), none⟩, 24575, 0⟩,
⟨16, ⟨(some 8), .p (.mv (.t 31)), none⟩, 65535, 0⟩]) (.seq (.seq (.reg [
⟨(some 32), .p (.mv (.t 8)), none⟩,
⟨(some 33), .p (.not (.t 32)), none⟩]) (.cond (.t 33) (.seq (.reg [
⟨(some 34), .b (.call 41 []), none⟩,
⟨none, .b (.store 23 (.t 4) (.t 34)), none⟩]) (.ret)) (.skip))) (.seq (.reg [
⟨(some 35), .p (.mv (.t 6)), none⟩,
⟨(some 36), .p (.mv (.t 7)), none⟩,
⟨(some 37), .p (.build [.int .i64 (.lit (.ofNat 0)), .nils, .int .u64 (.lit (.ofNat 0)), .int .u8 (.lit (.ofNat 0)), .int .u8 (.lit (.ofNat 0)), .int .u8 (.lit (.ofNat 0)), .int .u8 (.lit (.ofNat 0)), .int .u8 (.lit (.ofNat 0)), .int .u8 (.lit (.ofNat 0)), .int .u8 (.lit (.ofNat 0)), .int .u8 (.lit (.ofNat 0)), .int .u8 (.lit (.ofNat 0)), .int .u8 (.lit (.ofNat 0)), .int .u8 (.lit (.ofNat 0)), .int .u8 (.lit (.ofNat 0)), .int .u8 (.lit (.ofNat 0)), .int .u8 (.lit (.ofNat 0)), .int .u8 (.lit (.ofNat 0)), .int .u8 (.lit (.ofNat 0)), .int .u8 (.lit (.ofNat 0)), .int .u8 (.lit (.ofNat 0)), .int .u8 (.lit (.ofNat 0)), .int .u8 (.lit (.ofNat 0))] [(1, 1, (.t 35)), (2, 1, (.t 36))]), none⟩,
⟨none, .b (.store 23 (.t 4) (.t 37)), none⟩]) (.ret)))) (.skip)))) (.seq (.draw [
⟨0, ⟨(some 38), .p (.mv (.t 0)), none⟩, 0, 0⟩,
⟨1, ⟨(some 39), .r (.load (some 68) (.t 3)), none⟩, 0, 0⟩,
⟨2, ⟨(some 40), .p (.mv (.t 0)), none⟩, 0, 0⟩,
⟨3, ⟨(some 41), .p (.nilCheck (.t 40)), none⟩, 4, 0⟩,
⟨4, ⟨(some 42), .p (.faddr 89 (.t 41)), none⟩, 12, 0⟩,
⟨5, ⟨(some 43), .r (.load none (.t 42)), none⟩, 28, 0⟩,
⟨6, ⟨(some 44), .p (.faddr 40 (.t 3)), none⟩, 0, 0⟩,
⟨7, ⟨(some 45), .r (.load (some 20) (.t 44)), none⟩, 64, 0⟩,
⟨8, ⟨(some 46), .b (.call 39 [(.t 43), (.t 45)]), none⟩, 252, 0⟩,
⟨9, ⟨(some 47), .b (.call 46 [(.t 38), (.t 39), (.t 46)]), none⟩, 511, 0⟩,
⟨10, ⟨none, .b (.store 23 (.t 4) (.t 47)), none⟩, 1023, 0⟩]) (.ret)))⟩
theorem fo81 : ∃ func code hint, FnOk Go.Proofs.Tryz.prog TT 81 fa81 func code hint := ⟨Go.Proofs.Tryz.f81, bodyOf Go.Proofs.Tryz.f81, hintL [(1, [(0, 0), (1, 0), (2, 0), (3, 0), (4, 0), (5, 0), (6, 0), (7, 0)]), (3, [(0, 0), (1, 0), (2, 0), (3, 0), (4, 0), (5, 0), (6, 0), (7, 0), (8, 0), (9, 0), (10, 0), (11, 0), (12, 0), (13, 0), (14, 0), (15, 0), (16, 0)]), (7, [(0, 0), (1, 0), (2, 0), (3, 0), (4, 0), (5, 0), (6, 0), (7, 0), (8, 0), (9, 0), (10, 0)])], ⟨Go.Proofs.Tryz.func81, Go.Proofs.Tryz.call81, by kernel_rfl, by kernel_rfl, by kernel_rfl, by kernel_rfl⟩⟩
/- quarry/word.added -/
def fa86 : AFunc := ⟨27, [.cell 4 (some 4), .tmp 5], .seq (.reg [
⟨(some 2), .m (.box 24 (.t 0)), none⟩,
⟨(some 3), .m (.box 24 (.t 1)), none⟩,
⟨(some 4), .m (.alloc 24 [.int .u64 (.lit (.ofNat 0)), .int .u64 (.lit (.ofNat 0)), .int .u64 (.lit (.ofNat 0)), .int .u64 (.lit (.ofNat 0))]), none⟩,
⟨(some 5), .p (.mv (.c (.w (.s (.int .u64 (.lit (.ofNat 0))))))), none⟩]) (.seq (.reg [
⟨(some 6), .p (.mv (.c (.w (.s (.int .u64 (.lit (.ofNat 0))))))), none⟩]) (.seq (.seq (.reg [
⟨(some 8), .p (.mv (.c (.w (.s (.int .i64 (.lit (.ofNat 0))))))), none⟩]) (.block 0 (.loop (.seq (.reg [
⟨(some 9), .b (.cmp 2 .int (.t 8) (.c (.w (.s (.int .i64 (.lit (.ofNat 4))))))), none⟩]) (.seq (.cond (.t 9) (.skip) (.exit 0)) (.seq (.block 1 (.seq (.reg [
⟨(some 10), .p (.mv (.t 8)), none⟩,
⟨(some 7), .p (.mv (.t 10)), none⟩]) (.draw [
⟨0, ⟨(some 12), .p (.mv (.t 7)), none⟩, 0, 0⟩,
⟨1, ⟨(some 13), .p (.mv (.t 7)), none⟩, 0, 0⟩,
⟨2, ⟨(some 14), .p (.iaddrA 4 1 (.t 2) (.t 13)), none⟩, 2, 0⟩,
⟨3, ⟨(some 15), .r (.load none (.t 14)), none⟩, 6, 0⟩,
⟨4, ⟨(some 16), .p (.mv (.t 7)), none⟩, 0, 0⟩,
⟨5, ⟨(some 17), .p (.iaddrA 4 1 (.t 3) (.t 16)), none⟩, 16, 0⟩,
⟨6, ⟨(some 18), .r (.load none (.t 17)), none⟩, 48, 0⟩,
⟨7, ⟨(some 19), .p (.mv (.t 6)), none⟩, 0, 0⟩,
⟨8, ⟨(some 20), .b (.call 106 [(.t 15), (.t 18), (.t 19)]), none⟩, 254, 0⟩,
⟨9, ⟨(some 11), .p (.mv (.t 20)), none⟩, 510, 0⟩,
⟨10, ⟨(some 21), .p (.ext (.t 11) 0), none⟩, 1022, 0⟩,
⟨11, ⟨(some 22), .p (.ext (.t 11) 1), none⟩, 1022, 0⟩,
⟨12, ⟨(some 23), .p (.iaddrA 4 1 (.t 2) (.t 12)), none⟩, 2047, 0⟩,
⟨13, ⟨none, .b (.store 1 (.t 23) (.t 21)), none⟩, 6143, 0⟩,
⟨14, ⟨(some 6), .p (.mv (.t 22)), none⟩, 16383, 0⟩]))) (.reg [
⟨(some 24), .p (.ar 0 (.t 8) (.c (.w (.s (.int .i64 (.lit (.ofNat 1))))))), none⟩,
⟨(some 8), .p (.mv (.t 24)), none⟩]))))))) (.seq (.reg [
⟨(some 25), .r (.load (some 4) (.t 2)), none⟩,
⟨(some 26), .p (.mv (.t 6)), none⟩,
⟨none, .b (.store 4 (.t 4) (.t 25)), none⟩,
⟨(some 5), .p (.mv (.t 26)), none⟩]) (.ret))))⟩
theorem fo86 : ∃ func code hint, FnOk Go.Proofs.Tryz.prog TT 86 fa86 func code hint := ⟨Go.Proofs.Tryz.f86, bodyOf Go.Proofs.Tryz.f86, hintL [(5, [(0, 0), (1, 0), (2, 0), (3, 0), (4, 0), (5, 0), (6, 0), (7, 0), (8, 0), (9, 0), (10, 0), (11, 0), (12, 0), (13, 0), (14, 0)])], ⟨Go.Proofs.Tryz.func86, Go.Proofs.Tryz.call86, by kernel_rfl, by kernel_rfl, by kernel_rfl, by kernel_rfl⟩⟩
/- quarry/vm.must -/
def fa88 : AFunc := ⟨5, [], .seq (.reg [
⟨(some 2), .p (.mv (.t 0)), none⟩,
⟨(some 3), .p (.not (.t 2)), none⟩]) (.cond (.t 3) (.reg [
⟨(some 4), .b (.call 107 []), none⟩]) (.skip))⟩
theorem fo88 : ∃ func code hint, FnOk Go.Proofs.Tryz.prog TT 88 fa88 func code hint := ⟨Go.Proofs.Tryz.f88, bodyOf Go.Proofs.Tryz.f88, hintL [], ⟨Go.Proofs.Tryz.func88, Go.Proofs.Tryz.call88, by kernel_rfl, by kernel_rfl, by kernel_rfl, by kernel_rfl⟩⟩
/- (*quarry/vm.frame).pay -/
def fa90 : AFunc := ⟨22, [], .seq (.reg [
⟨(some 4), .p (.mv (.t 1)), none⟩,
⟨(some 5), .p (.mv (.t 0)), none⟩,
⟨(some 6), .p (.nilCheck (.t 5)), none⟩,
⟨(some 7), .p (.faddr 1 (.t 6)), none⟩,
⟨(some 8), .p (.faddr 65 (.t 7)), none⟩,
⟨(some 9), .r (.load none (.t 8)), none⟩,
⟨(some 10), .b (.cmp 3 .int (.t 4) (.t 9)), none⟩,
⟨(some 11), .b (.call 88 [(.t 10)]), none⟩]) (.reg [
⟨(some 12), .p (.mv (.t 0)), none⟩,
⟨(some 13), .p (.nilCheck (.t 12)), none⟩,
⟨(some 14), .p (.faddr 1 (.t 13)), none⟩,
⟨(some 15), .p (.faddr 65 (.t 14)), none⟩,
⟨(some 16), .r (.load none (.t 15)), none⟩,
⟨(some 17), .p (.mv (.t 1)), none⟩,
⟨(some 18), .p (.ar 1 (.t 16) (.t 17)), none⟩,
⟨(some 19), .p (.nilCheck (.t 12)), none⟩,
⟨(some 20), .p (.faddr 1 (.t 19)), none⟩,
⟨(some 21), .p (.faddr 65 (.t 20)), none⟩,
⟨none, .b (.store 1 (.t 21) (.t 18)), none⟩])⟩
theorem fo90 : ∃ func code hint, FnOk Go.Proofs.Tryz.prog TT 90 fa90 func code hint := ⟨Go.Proofs.Tryz.f90, bodyOf Go.Proofs.Tryz.f90, hintL [], ⟨Go.Proofs.Tryz.func90, Go.Proofs.Tryz.call90, by kernel_rfl, by kernel_rfl, by kernel_rfl, by kernel_rfl⟩⟩
/- (*quarry/vm.frame).reckons -/
def fa91 : AFunc := ⟨125, [], .seq (.reg [
⟨(some 9), .p (.build (lrep (.nilfn) 30) [(1, 1, (.c (.w (.s (.fn 71 []))))), (2, 1, (.c (.w (.s (.fn 108 []))))), (3, 1, (.c (.w (.s (.fn 70 []))))), (4, 1, (.c (.w (.s (.fn 109 []))))), (5, 1, (.c (.w (.s (.fn 110 []))))), (6, 1, (.c (.w (.s (.fn 111 []))))), (7, 1, (.c (.w (.s (.fn 112 []))))), (10, 1, (.c (.w (.s (.fn 113 []))))), (11, 1, (.c (.w (.s (.fn 114 []))))), (22, 1, (.c (.w (.s (.fn 115 []))))), (23, 1, (.c (.w (.s (.fn 116 []))))), (24, 1, (.c (.w (.s (.fn 117 []))))), (26, 1, (.c (.w (.s (.fn 118 []))))), (27, 1, (.c (.w (.s (.fn 119 []))))), (28, 1, (.c (.w (.s (.fn 120 []))))), (29, 1, (.c (.w (.s (.fn 121 [])))))]), none⟩,
⟨(some 4), .m (.alloc 190 (lrep (.nilfn) 30)), none⟩,
⟨none, .b (.store 30 (.t 4) (.t 9)), none⟩]) (.seq (.seq (.reg [
⟨(some 10), .p (.mv (.t 1)), none⟩,
⟨(some 11), .b (.cmp 0 .int (.t 10) (.c (.w (.s (.int .i64 (.lit (.ofNat 0))))))), none⟩]) (.cond (.t 11) (.seq (.reg [
⟨(some 12), .p (.mv (.t 0)), none⟩,
⟨(some 13), .b (.call 122 [(.t 12), (.c (.w (.s (.int .i64 (.lit (.ofNat 0)))))), (.c (.w (.s (.nils))))]), none⟩]) (.ret)) (.skip))) (.seq (.reg [
⟨(some 14), .p (.mv (.t 0)), none⟩,
⟨(some 15), .b (.call 123 [(.t 14)]), none⟩,
⟨(some 5), .m (.alloc 24 [.int .u64 (.lit (.ofNat 0)), .int .u64 (.lit (.ofNat 0)), .int .u64 (.lit (.ofNat 0)), .int .u64 (.lit (.ofNat 0))]), none⟩,
⟨none, .b (.store 4 (.t 5) (.t 15)), none⟩]) (.seq (.reg [
⟨(some 16), .p (.mv (.t 1)), none⟩]) (.block 0 (.seq (.reg [
⟨(some 41), .b (.cmp 0 .int (.t 16) (.c (.w (.s (.int .i64 (.lit (.ofNat 8))))))), none⟩,
⟨(some 40), .p (.mv (.t 41)), none⟩]) (.cond (.t 40) (.seq (.reg [
⟨(some 42), .p (.mv (.t 0)), none⟩,
⟨(some 43), .b (.call 123 [(.t 42)]), none⟩,
⟨(some 6), .m (.alloc 24 [.int .u64 (.lit (.ofNat 0)), .int .u64 (.lit (.ofNat 0)), .int .u64 (.lit (.ofNat 0)), .int .u64 (.lit (.ofNat 0))]), none⟩,
⟨none, .b (.store 4 (.t 6) (.t 43)), none⟩]) (.draw [
⟨0, ⟨(some 44), .p (.mv (.t 0)), none⟩, 0, 0⟩,
⟨1, ⟨(some 45), .r (.load (some 4) (.t 5)), none⟩, 0, 0⟩,
⟨2, ⟨(some 46), .r (.load (some 4) (.t 6)), none⟩, 0, 0⟩,
⟨3, ⟨(some 47), .p (.mv (.t 0)), none⟩, 0, 0⟩,
⟨4, ⟨(some 48), .b (.call 123 [(.t 47)]), none⟩, 8, 0⟩,
⟨5, ⟨(some 49), .b (.call 124 [(.t 45), (.t 46), (.t 48)]), none⟩, 30, 0⟩,
⟨6, ⟨(some 50), .b (.call 97 [(.t 44), (.t 49)]), none⟩, 63, 0⟩])) (.seq (.reg [
⟨(some 52), .b (.cmp 0 .int (.t 16) (.c (.w (.s (.int .i64 (.lit (.ofNat 9))))))), none⟩,
⟨(some 51), .p (.mv (.t 52)), none⟩]) (.cond (.t 51) (.seq (.reg [
⟨(some 53), .p (.mv (.t 0)), none⟩,
⟨(some 54), .b (.call 123 [(.t 53)]), none⟩,
⟨(some 7), .m (.alloc 24 [.int .u64 (.lit (.ofNat 0)), .int .u64 (.lit (.ofNat 0)), .int .u64 (.lit (.ofNat 0)), .int .u64 (.lit (.ofNat 0))]), none⟩,
⟨none, .b (.store 4 (.t 7) (.t 54)), none⟩]) (.draw [
⟨0, ⟨(some 55), .p (.mv (.t 0)), none⟩, 0, 0⟩,
⟨1, ⟨(some 56), .r (.load (some 4) (.t 5)), none⟩, 0, 0⟩,
⟨2, ⟨(some 57), .r (.load (some 4) (.t 7)), none⟩, 0, 0⟩,
⟨3, ⟨(some 58), .p (.mv (.t 0)), none⟩, 0, 0⟩,
⟨4, ⟨(some 59), .b (.call 123 [(.t 58)]), none⟩, 8, 0⟩,
⟨5, ⟨(some 60), .b (.call 125 [(.t 56), (.t 57), (.t 59)]), none⟩, 30, 0⟩,
⟨6, ⟨(some 61), .b (.call 97 [(.t 55), (.t 60)]), none⟩, 63, 0⟩])) (.seq (.reg [
⟨(some 63), .b (.cmp 0 .int (.t 16) (.c (.w (.s (.int .i64 (.lit (.ofNat 16))))))), none⟩,
⟨(some 62), .p (.mv (.t 63)), none⟩]) (.cond (.t 62) (.draw [
⟨0, ⟨(some 64), .p (.mv (.t 0)), none⟩, 0, 0⟩,
⟨1, ⟨(some 65), .r (.load (some 4) (.t 5)), none⟩, 0, 0⟩,
⟨2, ⟨(some 66), .p (.mv (.t 0)), none⟩, 0, 0⟩,
⟨3, ⟨(some 67), .b (.call 123 [(.t 66)]), none⟩, 4, 0⟩,
⟨4, ⟨(some 68), .b (.call 60 [(.t 65), (.t 67)]), none⟩, 14, 0⟩,
⟨5, ⟨(some 69), .b (.cmp 2 .int (.t 68) (.c (.w (.s (.int .i64 (.lit (.ofNat 0))))))), none⟩, 30, 0⟩,
⟨6, ⟨(some 70), .b (.call 126 [(.t 69)]), none⟩, 62, 0⟩,
⟨7, ⟨(some 71), .b (.call 97 [(.t 64), (.t 70)]), none⟩, 127, 0⟩]) (.seq (.reg [
⟨(some 73), .b (.cmp 0 .int (.t 16) (.c (.w (.s (.int .i64 (.lit (.ofNat 17))))))), none⟩,
⟨(some 72), .p (.mv (.t 73)), none⟩]) (.cond (.t 72) (.draw [
⟨0, ⟨(some 74), .p (.mv (.t 0)), none⟩, 0, 0⟩,
⟨1, ⟨(some 75), .r (.load (some 4) (.t 5)), none⟩, 0, 0⟩,
⟨2, ⟨(some 76), .p (.mv (.t 0)), none⟩, 0, 0⟩,
⟨3, ⟨(some 77), .b (.call 123 [(.t 76)]), none⟩, 4, 0⟩,
⟨4, ⟨(some 78), .b (.call 60 [(.t 75), (.t 77)]), none⟩, 14, 0⟩,
⟨5, ⟨(some 79), .b (.cmp 4 .int (.t 78) (.c (.w (.s (.int .i64 (.lit (.ofNat 0))))))), none⟩, 30, 0⟩,
⟨6, ⟨(some 80), .b (.call 126 [(.t 79)]), none⟩, 62, 0⟩,
⟨7, ⟨(some 81), .b (.call 97 [(.t 74), (.t 80)]), none⟩, 127, 0⟩]) (.seq (.reg [
⟨(some 83), .b (.cmp 0 .int (.t 16) (.c (.w (.s (.int .i64 (.lit (.ofNat 18))))))), none⟩,
⟨(some 82), .p (.mv (.t 83)), none⟩]) (.cond (.t 82) (.draw [
⟨0, ⟨(some 84), .p (.mv (.t 0)), none⟩, 0, 0⟩,
⟨1, ⟨(some 85), .r (.load (some 4) (.t 5)), none⟩, 0, 0⟩,
⟨2, ⟨(some 86), .p (.mv (.t 0)), none⟩, 0, 0⟩,
⟨3, ⟨(some 87), .b (.call 123 [(.t 86)]), none⟩, 4, 0⟩,
⟨4, ⟨(some 88), .b (.call 127 [(.t 85), (.t 87)]), none⟩, 14, 0⟩,
⟨5, ⟨(some 89), .b (.cmp 2 .int (.t 88) (.c (.w (.s (.int .i64 (.lit (.ofNat 0))))))), none⟩, 30, 0⟩,
⟨6, ⟨(some 90), .b (.call 126 [(.t 89)]), none⟩, 62, 0⟩,
⟨7, ⟨(some 91), .b (.call 97 [(.t 84), (.t 90)]), none⟩, 127, 0⟩]) (.seq (.reg [
⟨(some 93), .b (.cmp 0 .int (.t 16) (.c (.w (.s (.int .i64 (.lit (.ofNat 19))))))), none⟩,
⟨(some 92), .p (.mv (.t 93)), none⟩]) (.cond (.t 92) (.draw [
⟨0, ⟨(some 94), .p (.mv (.t 0)), none⟩, 0, 0⟩,
⟨1, ⟨(some 95), .r (.load (some 4) (.t 5)), none⟩, 0, 0⟩,
⟨2, ⟨(some 96), .p (.mv (.t 0)), none⟩, 0, 0⟩,
⟨3, ⟨(some 97), .b (.call 123 [(.t 96)]), none⟩, 4, 0⟩,
⟨4, ⟨(some 98), .b (.call 127 [(.t 95), (.t 97)]), none⟩, 14, 0⟩,
⟨5, ⟨(some 99), .b (.cmp 4 .int (.t 98) (.c (.w (.s (.int .i64 (.lit (.ofNat 0))))))), none⟩, 30, 0⟩,
⟨6, ⟨(some 100), .b (.call 126 [(.t 99)]), none⟩, 62, 0⟩,
⟨7, ⟨(some 101), .b (.call 97 [(.t 94), (.t 100)]), none⟩, 127, 0⟩]) (.seq (.reg [
⟨(some 103), .b (.cmp 0 .int (.t 16) (.c (.w (.s (.int .i64 (.lit (.ofNat 20))))))), none⟩,
⟨(some 102), .p (.mv (.t 103)), none⟩]) (.cond (.t 102) (.draw [
⟨0, ⟨(some 104), .p (.mv (.t 0)), none⟩, 0, 0⟩,
⟨1, ⟨(some 105), .r (.load (some 4) (.t 5)), none⟩, 0, 0⟩,
⟨2, ⟨(some 106), .p (.mv (.t 0)), none⟩, 0, 0⟩,
⟨3, ⟨(some 107), .b (.call 123 [(.t 106)]), none⟩, 4, 0⟩,
⟨4, ⟨(some 108), .b (.cmp 0 (.agg (.one (.arr 4 22 .u64))) (.t 105) (.t 107)), none⟩, 14, 0⟩,
⟨5, ⟨(some 109), .b (.call 126 [(.t 108)]), none⟩, 30, 0⟩,
⟨6, ⟨(some 110), .b (.call 97 [(.t 104), (.t 109)]), none⟩, 63, 0⟩]) (.seq (.reg [
⟨(some 112), .b (.cmp 0 .int (.t 16) (.c (.w (.s (.int .i64 (.lit (.ofNat 21))))))), none⟩,
⟨(some 111), .p (.mv (.t 112)), none⟩]) (.cond (.t 111) (.reg [
⟨(some 113), .p (.mv (.t 0)), none⟩,
⟨(some 114), .r (.load (some 4) (.t 5)), none⟩,
⟨(some 115), .p (.build [.int .u64 (.lit (.ofNat 0)), .int .u64 (.lit (.ofNat 0)), .int .u64 (.lit (.ofNat 0)), .int .u64 (.lit (.ofNat 0))] []), none⟩,
⟨(some 116), .b (.cmp 0 (.agg (.one (.arr 4 22 .u64))) (.t 114) (.t 115)), none⟩,
⟨(some 117), .b (.call 126 [(.t 116)]), none⟩,
⟨(some 118), .b (.call 97 [(.t 113), (.t 117)]), none⟩]) (.seq (.reg [
⟨(some 120), .b (.cmp 0 .int (.t 16) (.c (.w (.s (.int .i64 (.lit (.ofNat 25))))))), none⟩,
⟨(some 119), .p (.mv (.t 120)), none⟩]) (.cond (.t 119) (.reg [
⟨(some 121), .p (.mv (.t 0)), none⟩,
⟨(some 122), .r (.load (some 4) (.t 5)), none⟩,
⟨(some 123), .b (.call 128 [(.t 122)]), none⟩,
⟨(some 124), .b (.call 97 [(.t 121), (.t 123)]), none⟩]) (.seq (.reg [
⟨(some 17), .p (.mv (.t 0)), none⟩,
⟨(some 18), .b (.call 123 [(.t 17)]), none⟩,
⟨(some 8), .m (.alloc 24 [.int .u64 (.lit (.ofNat 0)), .int .u64 (.lit (.ofNat 0)), .int .u64 (.lit (.ofNat 0)), .int .u64 (.lit (.ofNat 0))]), none⟩,
⟨none, .b (.store 4 (.t 8) (.t 18)), none⟩]) (.seq (.seq (.reg [
⟨(some 19), .p (.mv (.t 1)), none⟩,
⟨(some 20), .b (.cmp 0 .int (.t 19) (.c (.w (.s (.int .i64 (.lit (.ofNat 10))))))), none⟩]) (.cond (.t 20) (.draw [
⟨0, ⟨(some 21), .p (.mv (.t 0)), none⟩, 0, 0⟩,
⟨1, ⟨(some 22), .p (.mv (.t 0)), none⟩, 0, 0⟩,
⟨2, ⟨(some 23), .p (.nilCheck (.t 22)), none⟩, 2, 0⟩,
⟨3, ⟨(some 24), .p (.faddr 0 (.t 23)), none⟩, 6, 0⟩,
⟨4, ⟨(some 25), .r (.load none (.t 24)), none⟩, 14, 0⟩,
⟨5, ⟨(some 26), .p (.nilCheck (.t 25)), none⟩, 30, 0⟩,
⟨6, ⟨(some 27), .p (.faddr 1 (.t 26)), none⟩, 62, 0⟩,
⟨7, ⟨(some 28), .r (.load (some 26) (.t 27)), none⟩, 126, 0⟩,
⟨8, ⟨(some 29), .r (.load (some 4) (.t 8)), none⟩, 0, 0⟩,
⟨9, ⟨(some 30), .b (.call 129 [(.t 28), (.t 29)]), none⟩, 510, 0⟩,
⟨10, ⟨(some 31), .b (.call 90 [(.t 21), (.t 30)]), none⟩, 1023, 0⟩]) (.skip))) (.draw [
⟨0, ⟨(some 32), .p (.mv (.t 0)), none⟩, 0, 0⟩,
⟨1, ⟨(some 33), .p (.mv (.t 1)), none⟩, 0, 0⟩,
⟨2, ⟨(some 34), .p (.iaddrA 30 1 (.t 4) (.t 33)), none⟩, 2, 0⟩,
⟨3, ⟨(some 35), .r (.load none (.t 34)), none⟩, 6, 0⟩,
⟨4, ⟨(some 36), .r (.load (some 4) (.t 5)), none⟩, 0, 0⟩,
⟨5, ⟨(some 37), .r (.load (some 4) (.t 8)), none⟩, 0, 0⟩,
⟨6, ⟨(some 38), .b (.callv (.t 35) [(.t 36), (.t 37)]), none⟩, 62, 0⟩,
⟨7, ⟨(some 39), .b (.call 97 [(.t 32), (.t 38)]), none⟩, 127, 0⟩])))))))))))))))))))))))))⟩
theorem fo91 : ∃ func code hint, FnOk Go.Proofs.Tryz.prog TT 91 fa91 func code hint := ⟨Go.Proofs.Tryz.f91, bodyOf Go.Proofs.Tryz.f91, hintL [(11, [(0, 0), (1, 0), (2, 0), (3, 0), (4, 0), (5, 0), (6, 0)]), (14, [(0, 0), (1, 0), (2, 0), (3, 0), (4, 0), (5, 0), (6, 0)]), (16, [(0, 0), (1, 0), (2, 0), (3, 0), (4, 0), (5, 0), (6, 0), (7, 0)]), (18, [(0, 0), (1, 0), (2, 0), (3, 0), (4, 0), (5, 0), (6, 0), (7, 0)]), (20, [(0, 0), (1, 0), (2, 0), (3, 0), (4, 0), (5, 0), (6, 0), (7, 0)]), (22, [(0, 0), (1, 0), (2, 0), (3, 0), (4, 0), (5, 0), (6, 0), (7, 0)]), (24, [(0, 0), (1, 0), (2, 0), (3, 0), (4, 0), (5, 0), (6, 0)]), (7, [(0, 0), (1, 0), (2, 0), (3, 0), (4, 0), (5, 0), (6, 0), (7, 0), (8, 0), (9, 0), (10, 0)]), (8, [(0, 0), (1, 0), (2, 0), (3, 0), (4, 0), (5, 0), (6, 0), (7, 0)])], ⟨Go.Proofs.Tryz.func91, Go.Proofs.Tryz.call91, by kernel_rfl, by kernel_rfl, by kernel_rfl, by kernel_rfl⟩⟩
/- (*quarry/vm.frame).blocks -/
def fa94 : AFunc := ⟨174, [], .seq (.reg [
⟨(some 6), .p (.mv (.t 1)), none⟩]) (.block 0 (.seq (.reg [
⟨(some 8), .b (.cmp 0 .int (.t 6) (.c (.w (.s (.int .i64 (.lit (.ofNat 64))))))), none⟩,
⟨(some 7), .p (.mv (.t 8)), none⟩]) (.cond (.t 7) (.reg [
⟨(some 9), .p (.mv (.t 0)), none⟩,
⟨(some 10), .p (.mv (.t 0)), none⟩,
⟨(some 11), .p (.mv (.t 0)), none⟩,
⟨(some 12), .b (.call 123 [(.t 11)]), none⟩,
⟨(some 13), .b (.call 145 [(.t 10), (.t 12)]), none⟩,
⟨(some 14), .b (.call 97 [(.t 9), (.t 13)]), none⟩]) (.seq (.reg [
⟨(some 16), .b (.cmp 0 .int (.t 6) (.c (.w (.s (.int .i64 (.lit (.ofNat 65))))))), none⟩,
⟨(some 15), .p (.mv (.t 16)), none⟩]) (.cond (.t 15) (.reg [
⟨(some 17), .p (.mv (.t 0)), none⟩,
⟨(some 18), .p (.mv (.t 0)), none⟩,
⟨(some 19), .p (.nilCheck (.t 18)), none⟩,
⟨(some 20), .p (.faddr 0 (.t 19)), none⟩,
⟨(some 21), .r (.load none (.t 20)), none⟩,
⟨(some 22), .p (.nilCheck (.t 21)), none⟩,
⟨(some 23), .p (.faddr 27 (.t 22)), none⟩,
⟨(some 24), .p (.faddr 0 (.t 23)), none⟩,
⟨(some 25), .r (.load (some 20) (.t 24)), none⟩,
⟨(some 26), .b (.call 136 [(.t 25)]), none⟩,
⟨(some 27), .b (.call 97 [(.t 17), (.t 26)]), none⟩]) (.seq (.reg [
⟨(some 29), .b (.cmp 0 .int (.t 6) (.c (.w (.s (.int .i64 (.lit (.ofNat 66))))))), none⟩,
⟨(some 28), .p (.mv (.t 29)), none⟩]) (.cond (.t 28) (.reg [
⟨(some 30), .p (.mv (.t 0)), none⟩,
⟨(some 31), .p (.mv (.t 0)), none⟩,
⟨(some 32), .p (.nilCheck (.t 31)), none⟩,
⟨(some 33), .p (.faddr 0 (.t 32)), none⟩,
⟨(some 34), .r (.load none (.t 33)), none⟩,
⟨(some 35), .p (.nilCheck (.t 34)), none⟩,
⟨(some 36), .p (.faddr 27 (.t 35)), none⟩,
⟨(some 37), .p (.faddr 21 (.t 36)), none⟩,
⟨(some 38), .r (.load none (.t 37)), none⟩,
⟨(some 39), .b (.call 80 [(.t 38)]), none⟩,
⟨(some 40), .b (.call 97 [(.t 30), (.t 39)]), none⟩]) (.seq (.reg [
⟨(some 42), .b (.cmp 0 .int (.t 6) (.c (.w (.s (.int .i64 (.lit (.ofNat 67))))))), none⟩,
⟨(some 41), .p (.mv (.t 42)), none⟩]) (.cond (.t 41) (.reg [
⟨(some 43), .p (.mv (.t 0)), none⟩,
⟨(some 44), .p (.mv (.t 0)), none⟩,
⟨(some 45), .p (.nilCheck (.t 44)), none⟩,
⟨(some 46), .p (.faddr 0 (.t 45)), none⟩,
⟨(some 47), .r (.load none (.t 46)), none⟩,
⟨(some 48), .p (.nilCheck (.t 47)), none⟩,
⟨(some 49), .p (.faddr 27 (.t 48)), none⟩,
⟨(some 50), .p (.faddr 20 (.t 49)), none⟩,
⟨(some 51), .r (.load none (.t 50)), none⟩,
⟨(some 52), .b (.call 80 [(.t 51)]), none⟩,
⟨(some 53), .b (.call 97 [(.t 43), (.t 52)]), none⟩]) (.seq (.reg [
⟨(some 55), .b (.cmp 0 .int (.t 6) (.c (.w (.s (.int .i64 (.lit (.ofNat 68))))))), none⟩,
⟨(some 54), .p (.mv (.t 55)), none⟩]) (.cond (.t 54) (.reg [
⟨(some 56), .p (.mv (.t 0)), none⟩,
⟨(some 57), .p (.mv (.t 0)), none⟩,
⟨(some 58), .p (.nilCheck (.t 57)), none⟩,
⟨(some 59), .p (.faddr 0 (.t 58)), none⟩,
⟨(some 60), .r (.load none (.t 59)), none⟩,
⟨(some 61), .p (.nilCheck (.t 60)), none⟩,
⟨(some 62), .p (.faddr 27 (.t 61)), none⟩,
⟨(some 63), .p (.faddr 23 (.t 62)), none⟩,
⟨(some 64), .r (.load (some 4) (.t 63)), none⟩,
⟨(some 65), .b (.call 97 [(.t 56), (.t 64)]), none⟩]) (.seq (.reg [
⟨(some 67), .b (.cmp 0 .int (.t 6) (.c (.w (.s (.int .i64 (.lit (.ofNat 69))))))), none⟩,
⟨(some 66), .p (.mv (.t 67)), none⟩]) (.cond (.t 66) (.reg [
⟨(some 68), .p (.mv (.t 0)), none⟩,
⟨(some 69), .p (.mv (.t 0)), none⟩,
⟨(some 70), .p (.nilCheck (.t 69)), none⟩,
⟨(some 71), .p (.faddr 0 (.t 70)), none⟩,
⟨(some 72), .r (.load none (.t 71)), none⟩,
⟨(some 73), .p (.nilCheck (.t 72)), none⟩,
⟨(some 74), .p (.faddr 27 (.t 73)), none⟩,
⟨(some 75), .p (.faddr 22 (.t 74)), none⟩,
⟨(some 76), .r (.load none (.t 75)), none⟩,
⟨(some 77), .b (.call 80 [(.t 76)]), none⟩,
⟨(some 78), .b (.call 97 [(.t 68), (.t 77)]), none⟩]) (.seq (.reg [
⟨(some 80), .b (.cmp 0 .int (.t 6) (.c (.w (.s (.int .i64 (.lit (.ofNat 70))))))), none⟩,
⟨(some 79), .p (.mv (.t 80)), none⟩]) (.cond (.t 79) (.reg [
⟨(some 81), .p (.mv (.t 0)), none⟩,
⟨(some 82), .p (.mv (.t 0)), none⟩,
⟨(some 83), .p (.nilCheck (.t 82)), none⟩,
⟨(some 84), .p (.faddr 0 (.t 83)), none⟩,
⟨(some 85), .r (.load none (.t 84)), none⟩,
⟨(some 86), .p (.nilCheck (.t 85)), none⟩,
⟨(some 87), .p (.faddr 27 (.t 86)), none⟩,
⟨(some 88), .p (.faddr 35 (.t 87)), none⟩,
⟨(some 89), .r (.load none (.t 88)), none⟩,
⟨(some 90), .b (.call 80 [(.t 89)]), none⟩,
⟨(some 91), .b (.call 97 [(.t 81), (.t 90)]), none⟩]) (.seq (.reg [
⟨(some 93), .b (.cmp 0 .int (.t 6) (.c (.w (.s (.int .i64 (.lit (.ofNat 71))))))), none⟩,
⟨(some 92), .p (.mv (.t 93)), none⟩]) (.cond (.t 92) (.draw [
⟨0, ⟨(some 94), .p (.mv (.t 0)), none⟩, 0, 0⟩,
⟨1, ⟨(some 95), .p (.mv (.t 0)), none⟩, 0, 0⟩,
⟨2, ⟨(some 96), .p (.nilCheck (.t 95)), none⟩, 2, 0⟩,
⟨3, ⟨(some 97), .p (.faddr 0 (.t 96)), none⟩, 6, 0⟩,
⟨4, ⟨(some 98), .r (.load none (.t 97)), none⟩, 14, 0⟩,
⟨5, ⟨(some 99), .p (.nilCheck (.t 98)), none⟩, 30, 0⟩,
⟨6, ⟨(some 100), .p (.faddr 89 (.t 99)), none⟩, 62, 0⟩,
⟨7, ⟨(some 101), .r (.load none (.t 100)), none⟩, 126, 0⟩,
⟨8, ⟨(some 102), .p (.mv (.t 0)), none⟩, 0, 0⟩,
⟨9, ⟨(some 103), .p (.nilCheck (.t 102)), none⟩, 256, 0⟩,
⟨10, ⟨(some 104), .p (.faddr 1 (.t 103)), none⟩, 768, 0⟩,
⟨11, ⟨(some 105), .p (.faddr 20 (.t 104)), none⟩, 1792, 0⟩,
⟨12, ⟨(some 106), .r (.load (some 20) (.t 105)), none⟩, 3840, 0⟩,
⟨13, ⟨(some 107), .b (.call 61 [(.t 101), (.t 106)]), none⟩, 8190, 0⟩,
⟨14, ⟨(some 108), .b (.call 97 [(.t 94), (.t 107)]), none⟩, 16383, 0⟩]) (.seq (.reg [
⟨(some 110), .b (.cmp 0 .int (.t 6) (.c (.w (.s (.int .i64 (.lit (.ofNat 72))))))), none⟩,
⟨(some 109), .p (.mv (.t 110)), none⟩]) (.cond (.t 109) (.reg [
⟨(some 111), .p (.mv (.t 0)), none⟩,
⟨(some 112), .p (.mv (.t 0)), none⟩,
⟨(some 113), .p (.nilCheck (.t 112)), none⟩,
⟨(some 114), .p (.faddr 0 (.t 113)), none⟩,
⟨(some 115), .r (.load none (.t 114)), none⟩,
⟨(some 116), .p (.nilCheck (.t 115)), none⟩,
⟨(some 117), .p (.faddr 27 (.t 116)), none⟩,
⟨(some 118), .p (.faddr 27 (.t 117)), none⟩,
⟨(some 119), .r (.load (some 4) (.t 118)), none⟩,
⟨(some 120), .b (.call 97 [(.t 111), (.t 119)]), none⟩]) (.seq (.reg [
⟨(some 122), .b (.cmp 0 .int (.t 6) (.c (.w (.s (.int .i64 (.lit (.ofNat 73))))))), none⟩,
⟨(some 121), .p (.mv (.t 122)), none⟩]) (.cond (.t 121) (.seq (.reg [
⟨(some 124), .p (.mv (.t 0)), none⟩,
⟨(some 125), .b (.call 123 [(.t 124)]), none⟩,
⟨(some 126), .b (.call 146 [(.t 125)]), none⟩,
⟨(some 123), .p (.mv (.t 126)), none⟩,
⟨(some 127), .p (.ext (.t 123) 0), none⟩,
⟨(some 128), .p (.ext (.t 123) 1), none⟩,
⟨(some 4), .p (.mv (.t 127)), none⟩,
⟨(some 5), .p (.mv (.t 128)), none⟩]) (.seq (.reg [
⟨(some 129), .p (.mv (.t 5)), none⟩,
⟨(some 130), .p (.not (.t 129)), none⟩,
⟨(some 131), .p (.mv (.t 130)), none⟩,
⟨(some 132), .p (.mv (.t 4)), some (131, false)⟩,
⟨(some 133), .p (.mv (.t 0)), some (131, false)⟩,
⟨(some 134), .p (.nilCheck (.t 133)), some (131, false)⟩,
⟨(some 135), .p (.faddr 0 (.t 134)), some (131, false)⟩,
⟨(some 136), .r (.load none (.t 135)), some (131, false)⟩,
⟨(some 137), .p (.nilCheck (.t 136)), some (131, false)⟩,
⟨(some 138), .p (.faddr 64 (.t 137)), some (131, false)⟩,
⟨(some 139), .p (.faddr 24 (.t 138)), some (131, false)⟩,
⟨(some 140), .r (.load none (.t 139)), some (131, false)⟩,
⟨(some 141), .p (.len (.t 140)), some (131, false)⟩,
⟨(some 142), .p (.conv .u64 (.t 141)), some (131, false)⟩,
⟨(some 143), .b (.cmp 5 .int (.t 132) (.t 142)), some (131, false)⟩,
⟨(some 144), .p (.pick (.t 131) (.c (.w (.s (.bool true)))) (.t 143)), none⟩]) (.cond (.t 144) (.reg [
⟨(some 145), .p (.mv (.t 0)), none⟩,
⟨(some 146), .p (.build [.int .u64 (.lit (.ofNat 0)), .int .u64 (.lit (.ofNat 0)), .int .u64 (.lit (.ofNat 0)), .int .u64 (.lit (.ofNat 0))] []), none⟩,
⟨(some 147), .b (.call 97 [(.t 145), (.t 146)]), none⟩]) (.reg [
⟨(some 148), .p (.mv (.t 0)), none⟩,
⟨(some 149), .p (.mv (.t 0)), none⟩,
⟨(some 150), .p (.nilCheck (.t 149)), none⟩,
⟨(some 151), .p (.faddr 0 (.t 150)), none⟩,
⟨(some 152), .r (.load none (.t 151)), none⟩,
⟨(some 153), .p (.nilCheck (.t 152)), none⟩,
⟨(some 154), .p (.faddr 64 (.t 153)), none⟩,
⟨(some 155), .p (.faddr 24 (.t 154)), none⟩,
⟨(some 156), .r (.load none (.t 155)), none⟩,
⟨(some 157), .p (.mv (.t 4)), none⟩,
⟨(some 158), .p (.iaddrS 32 (.t 156) (.t 157)), none⟩,
⟨(some 159), .r (.load (some 32) (.t 158)), none⟩,
⟨(some 160), .b (.call 134 [(.t 159)]), none⟩,
⟨(some 161), .b (.call 97 [(.t 148), (.t 160)]), none⟩])))) (.seq (.reg [
⟨(some 163), .b (.cmp 0 .int (.t 6) (.c (.w (.s (.int .i64 (.lit (.ofNat 74))))))), none⟩,
⟨(some 162), .p (.mv (.t 163)), none⟩]) (.cond (.t 162) (.reg [
⟨(some 164), .p (.mv (.t 0)), none⟩,
⟨(some 165), .p (.mv (.t 0)), none⟩,
⟨(some 166), .p (.nilCheck (.t 165)), none⟩,
⟨(some 167), .p (.faddr 0 (.t 166)), none⟩,
⟨(some 168), .r (.load none (.t 167)), none⟩,
⟨(some 169), .p (.nilCheck (.t 168)), none⟩,
⟨(some 170), .p (.faddr 27 (.t 169)), none⟩,
⟨(some 171), .p (.faddr 31 (.t 170)), none⟩,
⟨(some 172), .r (.load (some 4) (.t 171)), none⟩,
⟨(some 173), .b (.call 97 [(.t 164), (.t 172)]), none⟩]) (.skip))))))))))))))))))))))))⟩
theorem fo94 : ∃ func code hint, FnOk Go.Proofs.Tryz.prog TT 94 fa94 func code hint := ⟨Go.Proofs.Tryz.f94, bodyOf Go.Proofs.Tryz.f94, hintL [(16, [(0, 0), (1, 0), (2, 0), (3, 0), (4, 0), (5, 0), (6, 0), (7, 0), (8, 0), (9, 0), (10, 0), (11, 0), (12, 0), (13, 0), (14, 0)])], ⟨Go.Proofs.Tryz.func94, Go.Proofs.Tryz.call94, by kernel_rfl, by kernel_rfl, by kernel_rfl, by kernel_rfl⟩⟩
/- (*quarry/vm.frame).stores -/
def fa95 : AFunc := ⟨269, [], .seq (.reg [
⟨(some 18), .p (.mv (.t 1)), none⟩]) (.block 0 (.seq (.reg [
⟨(some 20), .b (.cmp 0 .int (.t 18) (.c (.w (.s (.int .i64 (.lit (.ofNat 80))))))), none⟩,
⟨(some 19), .p (.mv (.t 20)), none⟩]) (.cond (.t 19) (.reg [
⟨(some 21), .p (.mv (.t 0)), none⟩,
⟨(some 22), .b (.call 123 [(.t 21)]), none⟩]) (.seq (.reg [
⟨(some 24), .b (.cmp 0 .int (.t 18) (.c (.w (.s (.int .i64 (.lit (.ofNat 81))))))), none⟩,
⟨(some 23), .p (.mv (.t 24)), none⟩]) (.cond (.t 23) (.seq (.reg [
⟨(some 25), .p (.mv (.t 0)), none⟩,
⟨(some 26), .b (.call 123 [(.t 25)]), none⟩,
⟨(some 27), .b (.call 141 [(.c (.w (.s (.int .i64 (.lit (.ofNat 32))))))]), none⟩,
⟨(some 28), .p (.build [.int .u64 (.lit (.ofNat 0)), .int .u64 (.lit (.ofNat 0)), .int .u64 (.lit (.ofNat 0)), .int .u64 (.lit (.ofNat 0)), .int .u64 (.lit (.ofNat 0)), .int .u64 (.lit (.ofNat 0)), .int .u64 (.lit (.ofNat 0)), .int .u64 (.lit (.ofNat 0))] [(0, 4, (.t 26)), (4, 4, (.t 27))]), none⟩,
⟨(some 4), .m (.alloc 198 [.int .u64 (.lit (.ofNat 0)), .int .u64 (.lit (.ofNat 0)), .int .u64 (.lit (.ofNat 0)), .int .u64 (.lit (.ofNat 0)), .int .u64 (.lit (.ofNat 0)), .int .u64 (.lit (.ofNat 0)), .int .u64 (.lit (.ofNat 0)), .int .u64 (.lit (.ofNat 0))]), none⟩,
⟨none, .b (.store 8 (.t 4) (.t 28)), none⟩]) (.seq (.reg [
⟨(some 29), .p (.mv (.t 0)), none⟩,
⟨(some 30), .r (.load (some 8) (.t 4)), none⟩,
⟨(some 31), .m (.bslice 198 1 [.int .u64 (.lit (.ofNat 0)), .int .u64 (.lit (.ofNat 0)), .int .u64 (.lit (.ofNat 0)), .int .u64 (.lit (.ofNat 0)), .int .u64 (.lit (.ofNat 0)), .int .u64 (.lit (.ofNat 0)), .int .u64 (.lit (.ofNat 0)), .int .u64 (.lit (.ofNat 0))] [(0, 8, (.t 30))]), none⟩,
⟨(some 32), .b (.call 133 [(.t 29), (.t 31)]), none⟩]) (.seq (.reg [
⟨(some 34), .p (.mv (.t 0)), none⟩,
⟨(some 35), .r (.load (some 8) (.t 4)), none⟩,
⟨(some 36), .b (.call 135 [(.t 34), (.t 35)]), none⟩,
⟨(some 37), .b (.call 139 [(.t 36)]), none⟩,
⟨(some 33), .p (.mv (.t 37)), none⟩,
⟨(some 38), .p (.ext (.t 33) 0), none⟩,
⟨(some 39), .p (.ext (.t 33) 1), none⟩,
⟨(some 5), .m (.alloc 24 [.int .u64 (.lit (.ofNat 0)), .int .u64 (.lit (.ofNat 0)), .int .u64 (.lit (.ofNat 0)), .int .u64 (.lit (.ofNat 0))]), none⟩,
⟨none, .b (.store 4 (.t 5) (.t 38)), none⟩,
⟨(some 6), .p (.mv (.t 39)), none⟩]) (.reg [
⟨(some 40), .p (.mv (.t 0)), none⟩,
⟨(some 41), .r (.load (some 4) (.t 5)), none⟩,
⟨(some 42), .b (.call 97 [(.t 40), (.t 41)]), none⟩])))) (.seq (.reg [
⟨(some 44), .b (.cmp 0 .int (.t 18) (.c (.w (.s (.int .i64 (.lit (.ofNat 82))))))), none⟩,
⟨(some 43), .p (.mv (.t 44)), none⟩]) (.cond (.t 43) (.seq (.reg [
⟨(some 45), .p (.mv (.t 0)), none⟩,
⟨(some 46), .b (.call 123 [(.t 45)]), none⟩,
⟨(some 47), .b (.call 141 [(.c (.w (.s (.int .i64 (.lit (.ofNat 32))))))]), none⟩,
⟨(some 48), .p (.build [.int .u64 (.lit (.ofNat 0)), .int .u64 (.lit (.ofNat 0)), .int .u64 (.lit (.ofNat 0)), .int .u64 (.lit (.ofNat 0)), .int .u64 (.lit (.ofNat 0)), .int .u64 (.lit (.ofNat 0)), .int .u64 (.lit (.ofNat 0)), .int .u64 (.lit (.ofNat 0))] [(0, 4, (.t 46)), (4, 4, (.t 47))]), none⟩,
⟨(some 7), .m (.alloc 198 [.int .u64 (.lit (.ofNat 0)), .int .u64 (.lit (.ofNat 0)), .int .u64 (.lit (.ofNat 0)), .int .u64 (.lit (.ofNat 0)), .int .u64 (.lit (.ofNat 0)), .int .u64 (.lit (.ofNat 0)), .int .u64 (.lit (.ofNat 0)), .int .u64 (.lit (.ofNat 0))]), none⟩,
⟨none, .b (.store 8 (.t 7) (.t 48)), none⟩]) (.seq (.reg [
⟨(some 49), .p (.mv (.t 0)), none⟩,
⟨(some 50), .b (.call 123 [(.t 49)]), none⟩,
⟨(some 51), .b (.call 27 [(.t 50)]), none⟩,
⟨(some 8), .m (.alloc 40 (lrep (.int .u8 (.lit (.ofNat 0))) 32)), none⟩,
⟨none, .b (.store 32 (.t 8) (.t 51)), none⟩]) (.seq (.reg [
⟨(some 52), .p (.mv (.t 0)), none⟩,
⟨(some 53), .r (.load (some 8) (.t 7)), none⟩,
⟨(some 54), .m (.bslice 198 1 [.int .u64 (.lit (.ofNat 0)), .int .u64 (.lit (.ofNat 0)), .int .u64 (.lit (.ofNat 0)), .int .u64 (.lit (.ofNat 0)), .int .u64 (.lit (.ofNat 0)), .int .u64 (.lit (.ofNat 0)), .int .u64 (.lit (.ofNat 0)), .int .u64 (.lit (.ofNat 0))] [(0, 8, (.t 53))]), none⟩,
⟨(some 55), .b (.call 133 [(.t 52), (.t 54)]), none⟩]) (.draw [
⟨0, ⟨(some 56), .p (.mv (.t 0)), none⟩, 0, 0⟩,
⟨1, ⟨(some 57), .r (.load (some 8) (.t 7)), none⟩, 0, 0⟩,
⟨3, ⟨(some 59), .p (.aslice 32 1 (.t 8) none none), none⟩, 0, 0⟩,
⟨2, ⟨(some 58), .b (.call 135 [(.t 56), (.t 57)]), none⟩, 3, 0⟩,
⟨4, ⟨(some 60), .b (.copy 1 (.t 58) (.t 59)), none⟩, 15, 0⟩])))) (.seq (.reg [
⟨(some 62), .b (.cmp 0 .int (.t 18) (.c (.w (.s (.int .i64 (.lit (.ofNat 83))))))), none⟩,
⟨(some 61), .p (.mv (.t 62)), none⟩]) (.cond (.t 61) (.seq (.reg [
⟨(some 63), .p (.mv (.t 0)), none⟩,
⟨(some 64), .b (.call 123 [(.t 63)]), none⟩,
⟨(some 65), .b (.call 141 [(.c (.w (.s (.int .i64 (.lit (.ofNat 1))))))]), none⟩,
⟨(some 66), .p (.build [.int .u64 (.lit (.ofNat 0)), .int .u64 (.lit (.ofNat 0)), .int .u64 (.lit (.ofNat 0)), .int .u64 (.lit (.ofNat 0)), .int .u64 (.lit (.ofNat 0)), .int .u64 (.lit (.ofNat 0)), .int .u64 (.lit (.ofNat 0)), .int .u64 (.lit (.ofNat 0))] [(0, 4, (.t 64)), (4, 4, (.t 65))]), none⟩,
⟨(some 9), .m (.alloc 198 [.int .u64 (.lit (.ofNat 0)), .int .u64 (.lit (.ofNat 0)), .int .u64 (.lit (.ofNat 0)), .int .u64 (.lit (.ofNat 0)), .int .u64 (.lit (.ofNat 0)), .int .u64 (.lit (.ofNat 0)), .int .u64 (.lit (.ofNat 0)), .int .u64 (.lit (.ofNat 0))]), none⟩,
⟨none, .b (.store 8 (.t 9) (.t 66)), none⟩]) (.seq (.reg [
⟨(some 67), .p (.mv (.t 0)), none⟩,
⟨(some 68), .b (.call 123 [(.t 67)]), none⟩,
⟨(some 69), .b (.call 27 [(.t 68)]), none⟩,
⟨(some 10), .m (.alloc 40 (lrep (.int .u8 (.lit (.ofNat 0))) 32)), none⟩,
⟨none, .b (.store 32 (.t 10) (.t 69)), none⟩]) (.seq (.reg [
⟨(some 70), .p (.mv (.t 0)), none⟩,
⟨(some 71), .r (.load (some 8) (.t 9)), none⟩,
⟨(some 72), .m (.bslice 198 1 [.int .u64 (.lit (.ofNat 0)), .int .u64 (.lit (.ofNat 0)), .int .u64 (.lit (.ofNat 0)), .int .u64 (.lit (.ofNat 0)), .int .u64 (.lit (.ofNat 0)), .int .u64 (.lit (.ofNat 0)), .int .u64 (.lit (.ofNat 0)), .int .u64 (.lit (.ofNat 0))] [(0, 8, (.t 71))]), none⟩,
⟨(some 73), .b (.call 133 [(.t 70), (.t 72)]), none⟩]) (.draw [
⟨0, ⟨(some 74), .p (.mv (.t 0)), none⟩, 0, 0⟩,
⟨1, ⟨(some 75), .r (.load (some 8) (.t 9)), none⟩, 0, 0⟩,
⟨3, ⟨(some 77), .p (.aslice 32 1 (.t 10) (some (.c (.w (.s (.int .i64 (.lit (.ofNat 31))))))) none), none⟩, 0, 0⟩,
⟨2, ⟨(some 76), .b (.call 135 [(.t 74), (.t 75)]), none⟩, 3, 0⟩,
⟨4, ⟨(some 78), .b (.copy 1 (.t 76) (.t 77)), none⟩, 15, 0⟩])))) (.seq (.reg [
⟨(some 80), .b (.cmp 0 .int (.t 18) (.c (.w (.s (.int .i64 (.lit (.ofNat 84))))))), none⟩,
⟨(some 79), .p (.mv (.t 80)), none⟩]) (.cond (.t 79) (.seq (.reg [
⟨(some 81), .p (.mv (.t 0)), none⟩,
⟨(some 82), .b (.call 123 [(.t 81)]), none⟩,
⟨(some 11), .m (.alloc 24 [.int .u64 (.lit (.ofNat 0)), .int .u64 (.lit (.ofNat 0)), .int .u64 (.lit (.ofNat 0)), .int .u64 (.lit (.ofNat 0))]), none⟩,
⟨none, .b (.store 4 (.t 11) (.t 82)), none⟩]) (.seq (.seq (.draw [
⟨0, ⟨(some 83), .p (.mv (.t 0)), none⟩, 0, 0⟩,
⟨1, ⟨(some 84), .p (.nilCheck (.t 83)), none⟩, 1, 0⟩,
⟨2, ⟨(some 85), .p (.faddr 0 (.t 84)), none⟩, 3, 0⟩,
⟨3, ⟨(some 86), .r (.load none (.t 85)), none⟩, 7, 0⟩,
⟨4, ⟨(some 87), .b (.call 37 [(.t 86), (.c (.w (.s (.int .i64 (.lit (.ofNat 9))))))]), none⟩, 15, 0⟩,
⟨5, ⟨(some 88), .p (.mv (.t 87)), none⟩, 31, 0⟩,
⟨6, ⟨(some 89), .p (.mv (.t 0)), some (88, true)⟩, 63, 0⟩,
⟨7, ⟨(some 90), .p (.nilCheck (.t 89)), some (88, true)⟩, 127, 0⟩,
⟨8, ⟨(some 91), .p (.faddr 0 (.t 90)), some (88, true)⟩, 255, 0⟩,
⟨9, ⟨(some 92), .r (.load none (.t 91)), some (88, true)⟩, 511, 0⟩,
⟨10, ⟨(some 93), .p (.nilCheck (.t 92)), some (88, true)⟩, 1023, 0⟩,
⟨11, ⟨(some 94), .p (.faddr 89 (.t 93)), some (88, true)⟩, 2047, 0⟩,
⟨12, ⟨(some 95), .r (.load none (.t 94)), some (88, true)⟩, 4095, 0⟩,
⟨13, ⟨(some 96), .p (.mv (.t 0)), some (88, true)⟩, 63, 0⟩,
⟨14, ⟨(some 97), .p (.nilCheck (.t 96)), some (88, true)⟩, 8255, 0⟩,
⟨15, ⟨(some 98), .p (.faddr 1 (.t 97)), some (88, true)⟩, 24639, 0⟩,
⟨16, ⟨(some 99), .p (.faddr 20 (.t 98)), some (88, true)⟩, 57407, 0⟩,
⟨17, ⟨(some 100), .r (.load (some 20) (.t 99)), some (88, true)⟩, 122943, 0⟩,
⟨18, ⟨(some 101), .r (.load (some 4) (.t 11)), some (88, true)⟩, 63, 0⟩,
⟨19, ⟨(some 102), .b (.call 147 [(.t 95), (.t 100), (.t 101)]), some (88, true)⟩, 524287, 0⟩,
⟨20, ⟨(some 103), .p (.pick (.t 88) (.t 102) (.c (.w (.s (.bool false))))), none⟩, 1048575, 0⟩]) (.cond (.t 103) (.reg [
⟨(some 104), .p (.mv (.t 0)), none⟩,
⟨(some 105), .p (.mv (.t 0)), none⟩,
⟨(some 106), .p (.nilCheck (.t 105)), none⟩,
⟨(some 107), .p (.faddr 0 (.t 106)), none⟩,
⟨(some 108), .r (.load none (.t 107)), none⟩,
⟨(some 109), .p (.nilCheck (.t 108)), none⟩,
⟨(some 110), .p (.faddr 1 (.t 109)), none⟩,
⟨(some 111), .p (.faddr 17 (.t 110)), none⟩,
⟨(some 112), .r (.load none (.t 111)), none⟩,
⟨(some 113), .b (.call 90 [(.t 104), (.t 112)]), none⟩]) (.reg [
⟨(some 114), .p (.mv (.t 0)), none⟩,
⟨(some 115), .p (.mv (.t 0)), none⟩,
⟨(some 116), .p (.nilCheck (.t 115)), none⟩,
⟨(some 117), .p (.faddr 0 (.t 116)), none⟩,
⟨(some 118), .r (.load none (.t 117)), none⟩,
⟨(some 119), .p (.nilCheck (.t 118)), none⟩,
⟨(some 120), .p (.faddr 1 (.t 119)), none⟩,
⟨(some 121), .p (.faddr 16 (.t 120)), none⟩,
⟨(some 122), .r (.load none (.t 121)), none⟩,
⟨(some 123), .b (.call 90 [(.t 114), (.t 122)]), none⟩]))) (.draw [
⟨0, ⟨(some 124), .p (.mv (.t 0)), none⟩, 0, 0⟩,
⟨1, ⟨(some 125), .p (.mv (.t 0)), none⟩, 0, 0⟩,
⟨2, ⟨(some 126), .p (.nilCheck (.t 125)), none⟩, 2, 0⟩,
⟨3, ⟨(some 127), .p (.faddr 0 (.t 126)), none⟩, 6, 0⟩,
⟨4, ⟨(some 128), .r (.load none (.t 127)), none⟩, 14, 0⟩,
⟨5, ⟨(some 129), .p (.nilCheck (.t 128)), none⟩, 30, 0⟩,
⟨6, ⟨(some 130), .p (.faddr 89 (.t 129)), none⟩, 62, 0⟩,
⟨7, ⟨(some 131), .r (.load none (.t 130)), none⟩, 126, 0⟩,
⟨8, ⟨(some 132), .p (.mv (.t 0)), none⟩, 0, 0⟩,
⟨9, ⟨(some 133), .p (.nilCheck (.t 132)), none⟩, 256, 0⟩,
⟨10, ⟨(some 134), .p (.faddr 1 (.t 133)), none⟩, 768, 0⟩,
⟨11, ⟨(some 135), .p (.faddr 20 (.t 134)), none⟩, 1792, 0⟩,
⟨12, ⟨(some 136), .r (.load (some 20) (.t 135)), none⟩, 3840, 0⟩,
⟨13, ⟨(some 137), .r (.load (some 4) (.t 11)), none⟩, 0, 0⟩,
⟨14, ⟨(some 138), .b (.call 148 [(.t 131), (.t 136), (.t 137)]), none⟩, 16382, 0⟩,
⟨15, ⟨(some 139), .b (.call 97 [(.t 124), (.t 138)]), none⟩, 32767, 0⟩]))) (.seq (.reg [
⟨(some 141), .b (.cmp 0 .int (.t 18) (.c (.w (.s (.int .i64 (.lit (.ofNat 85))))))), none⟩,
⟨(some 140), .p (.mv (.t 141)), none⟩]) (.cond (.t 140) (.seq (.reg [
⟨(some 142), .p (.mv (.t 0)), none⟩,
⟨(some 143), .b (.call 123 [(.t 142)]), none⟩,
⟨(some 12), .m (.alloc 24 [.int .u64 (.lit (.ofNat 0)), .int .u64 (.lit (.ofNat 0)), .int .u64 (.lit (.ofNat 0)), .int .u64 (.lit (.ofNat 0))]), none⟩,
⟨none, .b (.store 4 (.t 12) (.t 143)), none⟩]) (.draw [
⟨0, ⟨(some 144), .p (.mv (.t 0)), none⟩, 0, 0⟩,
⟨1, ⟨(some 145), .r (.load (some 4) (.t 12)), none⟩, 0, 0⟩,
⟨2, ⟨(some 146), .p (.mv (.t 0)), none⟩, 0, 0⟩,
⟨3, ⟨(some 147), .b (.call 123 [(.t 146)]), none⟩, 4, 0⟩,
⟨4, ⟨(some 148), .b (.call 149 [(.t 144), (.t 145), (.t 147)]), none⟩, 15, 0⟩])) (.seq (.reg [
⟨(some 150), .b (.cmp 0 .int (.t 18) (.c (.w (.s (.int .i64 (.lit (.ofNat 86))))))), none⟩,
⟨(some 149), .p (.mv (.t 150)), none⟩]) (.cond (.t 149) (.reg [
⟨(some 151), .p (.mv (.t 0)), none⟩,
⟨(some 152), .p (.mv (.t 0)), none⟩,
⟨(some 153), .b (.call 123 [(.t 152)]), none⟩,
⟨(some 154), .b (.call 150 [(.t 151), (.t 153)]), none⟩]) (.seq (.reg [
⟨(some 156), .b (.cmp 0 .int (.t 18) (.c (.w (.s (.int .i64 (.lit (.ofNat 87))))))), none⟩,
⟨(some 155), .p (.mv (.t 156)), none⟩]) (.cond (.t 155) (.seq (.reg [
⟨(some 157), .p (.mv (.t 0)), none⟩,
⟨(some 158), .b (.call 123 [(.t 157)]), none⟩,
⟨(some 13), .m (.alloc 24 [.int .u64 (.lit (.ofNat 0)), .int .u64 (.lit (.ofNat 0)), .int .u64 (.lit (.ofNat 0)), .int .u64 (.lit (.ofNat 0))]), none⟩,
⟨none, .b (.store 4 (.t 13) (.t 158)), none⟩]) (.seq (.reg [
⟨(some 159), .p (.mv (.t 0)), none⟩,
⟨(some 160), .b (.call 123 [(.t 159)]), none⟩,
⟨(some 161), .p (.build [.int .u64 (.lit (.ofNat 0)), .int .u64 (.lit (.ofNat 0)), .int .u64 (.lit (.ofNat 0)), .int .u64 (.lit (.ofNat 0))] []), none⟩,
⟨(some 162), .b (.cmp 1 (.agg (.one (.arr 4 22 .u64))) (.t 160) (.t 161)), none⟩]) (.cond (.t 162) (.reg [
⟨(some 163), .p (.mv (.t 0)), none⟩,
⟨(some 164), .r (.load (some 4) (.t 13)), none⟩,
⟨(some 165), .b (.call 150 [(.t 163), (.t 164)]), none⟩]) (.skip)))) (.seq (.reg [
⟨(some 167), .b (.cmp 0 .int (.t 18) (.c (.w (.s (.int .i64 (.lit (.ofNat 88))))))), none⟩,
⟨(some 166), .p (.mv (.t 167)), none⟩]) (.cond (.t 166) (.reg [
⟨(some 168), .p (.mv (.t 0)), none⟩,
⟨(some 169), .p (.mv (.t 0)), none⟩,
⟨(some 170), .p (.nilCheck (.t 169)), none⟩,
⟨(some 171), .p (.faddr 73 (.t 170)), none⟩,
⟨(some 172), .r (.load none (.t 171)), none⟩,
⟨(some 173), .p (.ar 1 (.t 172) (.c (.w (.s (.int .i64 (.lit (.ofNat 1))))))), none⟩,
⟨(some 174), .b (.call 141 [(.t 173)]), none⟩,
⟨(some 175), .b (.call 97 [(.t 168), (.t 174)]), none⟩]) (.seq (.reg [
⟨(some 177), .b (.cmp 0 .int (.t 18) (.c (.w (.s (.int .i64 (.lit (.ofNat 89))))))), none⟩,
⟨(some 176), .p (.mv (.t 177)), none⟩]) (.cond (.t 176) (.reg [
⟨(some 178), .p (.mv (.t 0)), none⟩,
⟨(some 179), .p (.mv (.t 0)), none⟩,
⟨(some 180), .p (.nilCheck (.t 179)), none⟩,
⟨(some 181), .p (.faddr 71 (.t 180)), none⟩,
⟨(some 182), .r (.load none (.t 181)), none⟩,
⟨(some 183), .p (.len (.t 182)), none⟩,
⟨(some 184), .b (.call 141 [(.t 183)]), none⟩,
⟨(some 185), .b (.call 97 [(.t 178), (.t 184)]), none⟩]) (.seq (.reg [
⟨(some 187), .b (.cmp 0 .int (.t 18) (.c (.w (.s (.int .i64 (.lit (.ofNat 90))))))), none⟩,
⟨(some 186), .p (.mv (.t 187)), none⟩]) (.cond (.t 186) (.reg [
⟨(some 188), .p (.mv (.t 0)), none⟩,
⟨(some 189), .p (.mv (.t 0)), none⟩,
⟨(some 190), .p (.nilCheck (.t 189)), none⟩,
⟨(some 191), .p (.faddr 1 (.t 190)), none⟩,
⟨(some 192), .p (.faddr 65 (.t 191)), none⟩,
⟨(some 193), .r (.load none (.t 192)), none⟩,
⟨(some 194), .b (.call 80 [(.t 193)]), none⟩,
⟨(some 195), .b (.call 97 [(.t 188), (.t 194)]), none⟩]) (.seq (.reg [
⟨(some 197), .b (.cmp 0 .int (.t 18) (.c (.w (.s (.int .i64 (.lit (.ofNat 92))))))), none⟩,
⟨(some 196), .p (.mv (.t 197)), none⟩]) (.cond (.t 196) (.draw [
⟨0, ⟨(some 198), .p (.mv (.t 0)), none⟩, 0, 0⟩,
⟨1, ⟨(some 199), .p (.mv (.t 0)), none⟩, 0, 0⟩,
⟨2, ⟨(some 200), .p (.nilCheck (.t 199)), none⟩, 2, 0⟩,
⟨3, ⟨(some 201), .p (.faddr 0 (.t 200)), none⟩, 6, 0⟩,
⟨4, ⟨(some 202), .r (.load none (.t 201)), none⟩, 14, 0⟩,
⟨5, ⟨(some 203), .p (.nilCheck (.t 202)), none⟩, 30, 0⟩,
⟨6, ⟨(some 204), .p (.faddr 89 (.t 203)), none⟩, 62, 0⟩,
⟨7, ⟨(some 205), .r (.load none (.t 204)), none⟩, 126, 0⟩,
⟨8, ⟨(some 206), .p (.mv (.t 0)), none⟩, 0, 0⟩,
⟨9, ⟨(some 207), .p (.nilCheck (.t 206)), none⟩, 256, 0⟩,
⟨10, ⟨(some 208), .p (.faddr 1 (.t 207)), none⟩, 768, 0⟩,
⟨11, ⟨(some 209), .p (.faddr 20 (.t 208)), none⟩, 1792, 0⟩,
⟨12, ⟨(some 210), .r (.load (some 20) (.t 209)), none⟩, 3840, 0⟩,
⟨13, ⟨(some 211), .p (.mv (.t 0)), none⟩, 0, 0⟩,
⟨14, ⟨(some 212), .b (.call 123 [(.t 211)]), none⟩, 8192, 0⟩,
⟨15, ⟨(some 213), .b (.call 151 [(.t 205), (.t 210), (.t 212)]), none⟩, 32766, 0⟩,
⟨16, ⟨(some 214), .b (.call 97 [(.t 198), (.t 213)]), none⟩, 65535, 0⟩]) (.seq (.reg [
⟨(some 216), .b (.cmp 0 .int (.t 18) (.c (.w (.s (.int .i64 (.lit (.ofNat 93))))))), none⟩,
⟨(some 215), .p (.mv (.t 216)), none⟩]) (.cond (.t 215) (.seq (.reg [
⟨(some 217), .p (.mv (.t 0)), none⟩,
⟨(some 218), .b (.call 123 [(.t 217)]), none⟩,
⟨(some 14), .m (.alloc 24 [.int .u64 (.lit (.ofNat 0)), .int .u64 (.lit (.ofNat 0)), .int .u64 (.lit (.ofNat 0)), .int .u64 (.lit (.ofNat 0))]), none⟩,
⟨none, .b (.store 4 (.t 14) (.t 218)), none⟩]) (.draw [
⟨0, ⟨(some 219), .p (.mv (.t 0)), none⟩, 0, 0⟩,
⟨1, ⟨(some 220), .p (.nilCheck (.t 219)), none⟩, 1, 0⟩,
⟨2, ⟨(some 221), .p (.faddr 0 (.t 220)), none⟩, 3, 0⟩,
⟨3, ⟨(some 222), .r (.load none (.t 221)), none⟩, 7, 0⟩,
⟨4, ⟨(some 223), .p (.nilCheck (.t 222)), none⟩, 15, 0⟩,
⟨5, ⟨(some 224), .p (.faddr 89 (.t 223)), none⟩, 31, 0⟩,
⟨6, ⟨(some 225), .r (.load none (.t 224)), none⟩, 63, 0⟩,
⟨7, ⟨(some 226), .p (.mv (.t 0)), none⟩, 0, 0⟩,
⟨8, ⟨(some 227), .p (.nilCheck (.t 226)), none⟩, 128, 0⟩,
⟨9, ⟨(some 228), .p (.faddr 1 (.t 227)), none⟩, 384, 0⟩,
⟨10, ⟨(some 229), .p (.faddr 20 (.t 228)), none⟩, 896, 0⟩,
⟨11, ⟨(some 230), .r (.load (some 20) (.t 229)), none⟩, 1920, 0⟩,
⟨12, ⟨(some 231), .r (.load (some 4) (.t 14)), none⟩, 0, 0⟩,
⟨13, ⟨(some 232), .p (.mv (.t 0)), none⟩, 0, 0⟩,
⟨14, ⟨(some 233), .b (.call 123 [(.t 232)]), none⟩, 8192, 0⟩,
⟨15, ⟨(some 234), .b (.call 152 [(.t 225), (.t 230), (.t 231), (.t 233)]), none⟩, 32767, 0⟩])) (.seq (.reg [
⟨(some 236), .b (.cmp 0 .int (.t 18) (.c (.w (.s (.int .i64 (.lit (.ofNat 94))))))), none⟩,
⟨(some 235), .p (.mv (.t 236)), none⟩]) (.cond (.t 235) (.seq (.reg [
⟨(some 237), .p (.mv (.t 0)), none⟩,
⟨(some 238), .b (.call 123 [(.t 237)]), none⟩,
⟨(some 239), .p (.mv (.t 0)), none⟩,
⟨(some 240), .b (.call 123 [(.t 239)]), none⟩,
⟨(some 15), .m (.alloc 24 [.int .u64 (.lit (.ofNat 0)), .int .u64 (.lit (.ofNat 0)), .int .u64 (.lit (.ofNat 0)), .int .u64 (.lit (.ofNat 0))]), none⟩,
⟨(some 16), .m (.alloc 24 [.int .u64 (.lit (.ofNat 0)), .int .u64 (.lit (.ofNat 0)), .int .u64 (.lit (.ofNat 0)), .int .u64 (.lit (.ofNat 0))]), none⟩,
⟨none, .b (.store 4 (.t 15) (.t 238)), none⟩,
⟨none, .b (.store 4 (.t 16) (.t 240)), none⟩]) (.seq (.reg [
⟨(some 241), .p (.mv (.t 0)), none⟩,
⟨(some 242), .b (.call 123 [(.t 241)]), none⟩,
⟨(some 17), .m (.alloc 24 [.int .u64 (.lit (.ofNat 0)), .int .u64 (.lit (.ofNat 0)), .int .u64 (.lit (.ofNat 0)), .int .u64 (.lit (.ofNat 0))]), none⟩,
⟨none, .b (.store 4 (.t 17) (.t 242)), none⟩]) (.seq (.reg [
⟨(some 243), .p (.mv (.t 0)), none⟩,
⟨(some 244), .r (.load (some 4) (.t 17)), none⟩,
⟨(some 245), .b (.call 132 [(.t 244), (.c (.w (.s (.int .u64 (.lit (.ofNat 3))))))]), none⟩,
⟨(some 246), .p (.ext (.t 245) 0), none⟩,
⟨(some 247), .p (.ext (.t 245) 1), none⟩,
⟨(some 248), .b (.call 131 [(.t 243), (.t 246), (.t 247)]), none⟩]) (.seq (.reg [
⟨(some 249), .p (.mv (.t 0)), none⟩,
⟨(some 250), .r (.load (some 4) (.t 15)), none⟩,
⟨(some 251), .r (.load (some 4) (.t 17)), none⟩,
⟨(some 252), .p (.build [.int .u64 (.lit (.ofNat 0)), .int .u64 (.lit (.ofNat 0)), .int .u64 (.lit (.ofNat 0)), .int .u64 (.lit (.ofNat 0)), .int .u64 (.lit (.ofNat 0)), .int .u64 (.lit (.ofNat 0)), .int .u64 (.lit (.ofNat 0)), .int .u64 (.lit (.ofNat 0))] [(0, 4, (.t 250)), (4, 4, (.t 251))]), none⟩,
⟨(some 253), .r (.load (some 4) (.t 16)), none⟩,
⟨(some 254), .r (.load (some 4) (.t 17)), none⟩,
⟨(some 255), .p (.build [.int .u64 (.lit (.ofNat 0)), .int .u64 (.lit (.ofNat 0)), .int .u64 (.lit (.ofNat 0)), .int .u64 (.lit (.ofNat 0)), .int .u64 (.lit (.ofNat 0)), .int .u64 (.lit (.ofNat 0)), .int .u64 (.lit (.ofNat 0)), .int .u64 (.lit (.ofNat 0))] [(0, 4, (.t 253)), (4, 4, (.t 254))]), none⟩,
⟨(some 256), .m (.bslice 198 2 [.int .u64 (.lit (.ofNat 0)), .int .u64 (.lit (.ofNat 0)), .int .u64 (.lit (.ofNat 0)), .int .u64 (.lit (.ofNat 0)), .int .u64 (.lit (.ofNat 0)), .int .u64 (.lit (.ofNat 0)), .int .u64 (.lit (.ofNat 0)), .int .u64 (.lit (.ofNat 0))] [(0, 8, (.t 252)), (8, 8, (.t 255))]), none⟩,
⟨(some 257), .b (.call 133 [(.t 249), (.t 256)]), none⟩]) (.draw [
⟨0, ⟨(some 258), .p (.mv (.t 0)), none⟩, 0, 0⟩,
⟨1, ⟨(some 259), .r (.load (some 4) (.t 15)), none⟩, 0, 0⟩,
⟨2, ⟨(some 260), .r (.load (some 4) (.t 17)), none⟩, 0, 0⟩,
⟨3, ⟨(some 261), .p (.build [.int .u64 (.lit (.ofNat 0)), .int .u64 (.lit (.ofNat 0)), .int .u64 (.lit (.ofNat 0)), .int .u64 (.lit (.ofNat 0)), .int .u64 (.lit (.ofNat 0)), .int .u64 (.lit (.ofNat 0)), .int .u64 (.lit (.ofNat 0)), .int .u64 (.lit (.ofNat 0))] [(0, 4, (.t 259)), (4, 4, (.t 260))]), none⟩, 6, 0⟩,
⟨5, ⟨(some 263), .p (.mv (.t 0)), none⟩, 0, 0⟩,
⟨6, ⟨(some 264), .r (.load (some 4) (.t 16)), none⟩, 0, 0⟩,
⟨7, ⟨(some 265), .r (.load (some 4) (.t 17)), none⟩, 0, 0⟩,
⟨8, ⟨(some 266), .p (.build [.int .u64 (.lit (.ofNat 0)), .int .u64 (.lit (.ofNat 0)), .int .u64 (.lit (.ofNat 0)), .int .u64 (.lit (.ofNat 0)), .int .u64 (.lit (.ofNat 0)), .int .u64 (.lit (.ofNat 0)), .int .u64 (.lit (.ofNat 0)), .int .u64 (.lit (.ofNat 0))] [(0, 4, (.t 264)), (4, 4, (.t 265))]), none⟩, 192, 0⟩,
⟨4, ⟨(some 262), .b (.call 135 [(.t 258), (.t 261)]), none⟩, 15, 0⟩,
⟨9, ⟨(some 267), .b (.call 135 [(.t 263), (.t 266)]), none⟩, 511, 0⟩,
⟨10, ⟨(some 268), .b (.copy 1 (.t 262) (.t 267)), none⟩, 1023, 0⟩]))))) (.skip))))))))))))))))))))))))))))))⟩
theorem fo95 : ∃ func code hint, FnOk Go.Proofs.Tryz.prog TT 95 fa95 func code hint := ⟨Go.Proofs.Tryz.f95, bodyOf Go.Proofs.Tryz.f95, hintL [(12, [(0, 0), (1, 0), (3, 0), (2, 0), (4, 0)]), (17, [(0, 0), (1, 0), (3, 0), (2, 0), (4, 0)]), (20, [(0, 0), (1, 0), (2, 0), (3, 0), (4, 0), (5, 0), (6, 0), (7, 0), (8, 0), (9, 0), (10, 0), (11, 0), (12, 0), (13, 0), (14, 0), (15, 0), (16, 0), (17, 0), (18, 0), (19, 0), (20, 0)]), (23, [(0, 0), (1, 0), (2, 0), (3, 0), (4, 0), (5, 0), (6, 0), (7, 0), (8, 0), (9, 0), (10, 0), (11, 0), (12, 0), (13, 0), (14, 0), (15, 0)]), (26, [(0, 0), (1, 0), (2, 0), (3, 0), (4, 0)]), (40, [(0, 0), (1, 0), (2, 0), (3, 0), (4, 0), (5, 0), (6, 0), (7, 0), (8, 0), (9, 0), (10, 0), (11, 0), (12, 0), (13, 0), (14, 0), (15, 0), (16, 0)]), (43, [(0, 0), (1, 0), (2, 0), (3, 0), (4, 0), (5, 0), (6, 0), (7, 0), (8, 0), (9, 0), (10, 0), (11, 0), (12, 0), (13, 0), (14, 0), (15, 0)]), (49, [(0, 0), (1, 0), (2, 0), (3, 0), (5, 0), (6, 0), (7, 0), (8, 0), (4, 0), (9, 0), (10, 0)])], ⟨Go.Proofs.Tryz.func95, Go.Proofs.Tryz.call95, by kernel_rfl, by kernel_rfl, by kernel_rfl, by kernel_rfl⟩⟩
/- (*quarry/vm.frame).pushes -/
def fa96 : AFunc := ⟨32, [], .seq (.draw [
⟨0, ⟨(some 7), .p (.mv (.t 0)), none⟩, 0, 0⟩,
⟨1, ⟨(some 8), .p (.nilCheck (.t 7)), none⟩, 1, 0⟩,
⟨2, ⟨(some 9), .p (.faddr 69 (.t 8)), none⟩, 3, 0⟩,
⟨3, ⟨(some 10), .r (.load none (.t 9)), none⟩, 7, 0⟩,
⟨4, ⟨(some 11), .p (.mv (.t 0)), none⟩, 0, 0⟩,
⟨5, ⟨(some 12), .p (.nilCheck (.t 11)), none⟩, 16, 0⟩,
⟨6, ⟨(some 13), .p (.faddr 73 (.t 12)), none⟩, 48, 0⟩,
⟨7, ⟨(some 14), .r (.load none (.t 13)), none⟩, 112, 0⟩,
⟨9, ⟨(some 16), .p (.mv (.t 1)), none⟩, 0, 0⟩,
⟨15, ⟨(some 4), .m (.alloc 24 [.int .u64 (.lit (.ofNat 0)), .int .u64 (.lit (.ofNat 0)), .int .u64 (.lit (.ofNat 0)), .int .u64 (.lit (.ofNat 0))]), none⟩, 0, 3072⟩,
⟨8, ⟨(some 15), .b (.call 141 [(.t 14)]), none⟩, 240, 0⟩,
⟨10, ⟨(some 17), .b (.call 140 [(.t 10), (.t 15), (.t 16)]), none⟩, 1023, 0⟩,
⟨11, ⟨(some 18), .b (.call 139 [(.t 17)]), none⟩, 2047, 0⟩,
⟨12, ⟨(some 6), .p (.mv (.t 18)), none⟩, 4095, 0⟩,
⟨13, ⟨(some 19), .p (.ext (.t 6) 0), none⟩, 8191, 0⟩,
⟨14, ⟨(some 20), .p (.ext (.t 6) 1), none⟩, 8191, 0⟩,
⟨16, ⟨none, .b (.store 4 (.t 4) (.t 19)), none⟩, 49151, 0⟩,
⟨17, ⟨(some 5), .p (.mv (.t 20)), none⟩, 131071, 0⟩]) (.seq (.reg [
⟨(some 21), .p (.mv (.t 0)), none⟩,
⟨(some 22), .r (.load (some 4) (.t 4)), none⟩,
⟨(some 23), .b (.call 97 [(.t 21), (.t 22)]), none⟩]) (.reg [
⟨(some 24), .p (.mv (.t 0)), none⟩,
⟨(some 25), .p (.nilCheck (.t 24)), none⟩,
⟨(some 26), .p (.faddr 73 (.t 25)), none⟩,
⟨(some 27), .r (.load none (.t 26)), none⟩,
⟨(some 28), .p (.mv (.t 1)), none⟩,
⟨(some 29), .p (.ar 0 (.t 27) (.t 28)), none⟩,
⟨(some 30), .p (.nilCheck (.t 24)), none⟩,
⟨(some 31), .p (.faddr 73 (.t 30)), none⟩,
⟨none, .b (.store 1 (.t 31) (.t 29)), none⟩]))⟩
theorem fo96 : ∃ func code hint, FnOk Go.Proofs.Tryz.prog TT 96 fa96 func code hint := ⟨Go.Proofs.Tryz.f96, bodyOf Go.Proofs.Tryz.f96, hintL [(0, [(0, 0), (1, 0), (2, 0), (3, 0), (4, 0), (5, 0), (6, 0), (7, 0), (9, 0), (15, 3072), (8, 0), (10, 0), (11, 0), (12, 0), (13, 0), (14, 0), (16, 0), (17, 0)])], ⟨Go.Proofs.Tryz.func96, Go.Proofs.Tryz.call96, by kernel_rfl, by kernel_rfl, by kernel_rfl, by kernel_rfl⟩⟩
/- (*quarry/vm.frame).push -/
def fa97 : AFunc := ⟨14, [], .seq (.reg [
⟨(some 3), .m (.box 24 (.t 1)), none⟩]) (.draw [
⟨0, ⟨(some 4), .p (.mv (.t 0)), none⟩, 0, 0⟩,
⟨1, ⟨(some 5), .p (.mv (.t 0)), none⟩, 0, 0⟩,
⟨2, ⟨(some 6), .p (.nilCheck (.t 5)), none⟩, 2, 0⟩,
⟨3, ⟨(some 7), .p (.faddr 70 (.t 6)), none⟩, 6, 0⟩,
⟨4, ⟨(some 8), .r (.load none (.t 7)), none⟩, 14, 0⟩,
⟨5, ⟨(some 9), .r (.load (some 4) (.t 3)), none⟩, 0, 0⟩,
⟨6, ⟨(some 10), .m (.bslice 24 1 [.int .u64 (.lit (.ofNat 0)), .int .u64 (.lit (.ofNat 0)), .int .u64 (.lit (.ofNat 0)), .int .u64 (.lit (.ofNat 0))] [(0, 4, (.t 9))]), none⟩, 32, 0⟩,
⟨7, ⟨(some 11), .b (.append 24 4 32 (.t 8) (.t 10)), none⟩, 126, 0⟩,
⟨8, ⟨(some 12), .p (.nilCheck (.t 4)), none⟩, 255, 0⟩,
⟨9, ⟨(some 13), .p (.faddr 70 (.t 12)), none⟩, 511, 0⟩,
⟨10, ⟨none, .b (.store 1 (.t 13) (.t 11)), none⟩, 1023, 0⟩])⟩
theorem fo97 : ∃ func code hint, FnOk Go.Proofs.Tryz.prog TT 97 fa97 func code hint := ⟨Go.Proofs.Tryz.f97, bodyOf Go.Proofs.Tryz.f97, hintL [(1, [(0, 0), (1, 0), (2, 0), (3, 0), (4, 0), (5, 0), (6, 0), (7, 0), (8, 0), (9, 0), (10, 0)])], ⟨Go.Proofs.Tryz.func97, Go.Proofs.Tryz.call97, by kernel_rfl, by kernel_rfl, by kernel_rfl, by kernel_rfl⟩⟩
/- (*quarry/vm.frame).messages -/
def fa99 : AFunc := ⟨39, [], .seq (.reg [
⟨(some 6), .p (.mv (.t 1)), none⟩]) (.block 0 (.seq (.seq (.reg [
⟨(some 11), .b (.cmp 0 .int (.t 6) (.c (.w (.s (.int .i64 (.lit (.ofNat 240))))))), none⟩,
⟨(some 10), .p (.mv (.t 11)), none⟩]) (.cond (.t 10) (.skip) (.reg [
⟨(some 12), .b (.cmp 0 .int (.t 6) (.c (.w (.s (.int .i64 (.lit (.ofNat 245))))))), none⟩,
⟨(some 10), .p (.mv (.t 12)), none⟩]))) (.cond (.t 10) (.reg [
⟨(some 13), .p (.mv (.t 0)), none⟩,
⟨(some 14), .p (.mv (.t 1)), none⟩,
⟨(some 15), .b (.call 155 [(.t 13), (.t 14)]), none⟩]) (.seq (.seq (.reg [
⟨(some 17), .b (.cmp 0 .int (.t 6) (.c (.w (.s (.int .i64 (.lit (.ofNat 243))))))), none⟩,
⟨(some 16), .p (.mv (.t 17)), none⟩]) (.cond (.t 16) (.skip) (.reg [
⟨(some 18), .b (.cmp 0 .int (.t 6) (.c (.w (.s (.int .i64 (.lit (.ofNat 253))))))), none⟩,
⟨(some 16), .p (.mv (.t 18)), none⟩]))) (.cond (.t 16) (.seq (.reg [
⟨(some 19), .p (.mv (.t 0)), none⟩,
⟨(some 20), .b (.call 130 [(.t 19)]), none⟩,
⟨(some 4), .m (.alloc 198 [.int .u64 (.lit (.ofNat 0)), .int .u64 (.lit (.ofNat 0)), .int .u64 (.lit (.ofNat 0)), .int .u64 (.lit (.ofNat 0)), .int .u64 (.lit (.ofNat 0)), .int .u64 (.lit (.ofNat 0)), .int .u64 (.lit (.ofNat 0)), .int .u64 (.lit (.ofNat 0))]), none⟩,
⟨none, .b (.store 8 (.t 4) (.t 20)), none⟩]) (.seq (.reg [
⟨(some 21), .p (.mv (.t 0)), none⟩,
⟨(some 22), .r (.load (some 8) (.t 4)), none⟩,
⟨(some 23), .m (.bslice 198 1 [.int .u64 (.lit (.ofNat 0)), .int .u64 (.lit (.ofNat 0)), .int .u64 (.lit (.ofNat 0)), .int .u64 (.lit (.ofNat 0)), .int .u64 (.lit (.ofNat 0)), .int .u64 (.lit (.ofNat 0)), .int .u64 (.lit (.ofNat 0)), .int .u64 (.lit (.ofNat 0))] [(0, 8, (.t 22))]), none⟩,
⟨(some 24), .b (.call 133 [(.t 21), (.t 23)]), none⟩]) (.seq (.reg [
⟨(some 5), .p (.mv (.c (.w (.s (.int .i64 (.lit (.ofNat 0))))))), none⟩]) (.seq (.seq (.reg [
⟨(some 25), .p (.mv (.t 1)), none⟩,
⟨(some 26), .b (.cmp 0 .int (.t 25) (.c (.w (.s (.int .i64 (.lit (.ofNat 253))))))), none⟩]) (.cond (.t 26) (.reg [
⟨(some 5), .p (.mv (.c (.w (.s (.int .i64 (.lit (.ofNat 1))))))), none⟩]) (.skip))) (.reg [
⟨(some 27), .p (.mv (.t 0)), none⟩,
⟨(some 28), .p (.mv (.t 5)), none⟩,
⟨(some 29), .p (.mv (.t 0)), none⟩,
⟨(some 30), .r (.load (some 8) (.t 4)), none⟩,
⟨(some 31), .b (.call 135 [(.t 29), (.t 30)]), none⟩,
⟨(some 32), .b (.call 122 [(.t 27), (.t 28), (.t 31)]), none⟩]))))) (.seq (.reg [
⟨(some 34), .b (.cmp 0 .int (.t 6) (.c (.w (.s (.int .i64 (.lit (.ofNat 255))))))), none⟩,
⟨(some 33), .p (.mv (.t 34)), none⟩]) (.cond (.t 33) (.reg [
⟨(some 35), .p (.mv (.t 0)), none⟩,
⟨(some 36), .p (.mv (.t 0)), none⟩,
⟨(some 37), .b (.call 137 [(.t 36)]), none⟩,
⟨(some 38), .b (.call 156 [(.t 35), (.t 37)]), none⟩]) (.reg [
⟨(some 7), .p (.mv (.t 0)), none⟩,
⟨(some 8), .p (.mv (.t 1)), none⟩,
⟨(some 9), .b (.call 157 [(.t 7), (.t 8)]), none⟩]))))))))⟩
theorem fo99 : ∃ func code hint, FnOk Go.Proofs.Tryz.prog TT 99 fa99 func code hint := ⟨Go.Proofs.Tryz.f99, bodyOf Go.Proofs.Tryz.f99, hintL [], ⟨Go.Proofs.Tryz.func99, Go.Proofs.Tryz.call99, by kernel_rfl, by kernel_rfl, by kernel_rfl, by kernel_rfl⟩⟩
/- (*quarry/vm.frame).end -/
def fa122 : AFunc := ⟨19, [], .draw [
⟨0, ⟨(some 6), .p (.mv (.t 0)), none⟩, 0, 0⟩,
⟨1, ⟨(some 7), .p (.mv (.t 1)), none⟩, 0, 0⟩,
⟨2, ⟨(some 8), .p (.mv (.t 2)), none⟩, 0, 0⟩,
⟨4, ⟨(some 10), .p (.mv (.t 0)), none⟩, 0, 0⟩,
⟨5, ⟨(some 11), .p (.nilCheck (.t 10)), none⟩, 16, 0⟩,
⟨6, ⟨(some 12), .p (.faddr 1 (.t 11)), none⟩, 48, 0⟩,
⟨7, ⟨(some 13), .p (.faddr 65 (.t 12)), none⟩, 112, 0⟩,
⟨8, ⟨(some 14), .r (.load none (.t 13)), none⟩, 240, 0⟩,
⟨3, ⟨(some 9), .b (.append 5 1 1 (.c (.w (.s (.nils)))) (.t 8)), none⟩, 4, 0⟩,
⟨9, ⟨(some 15), .p (.build [.int .i64 (.lit (.ofNat 0)), .nils, .int .u64 (.lit (.ofNat 0)), .int .u8 (.lit (.ofNat 0)), .int .u8 (.lit (.ofNat 0)), .int .u8 (.lit (.ofNat 0)), .int .u8 (.lit (.ofNat 0)), .int .u8 (.lit (.ofNat 0)), .int .u8 (.lit (.ofNat 0)), .int .u8 (.lit (.ofNat 0)), .int .u8 (.lit (.ofNat 0)), .int .u8 (.lit (.ofNat 0)), .int .u8 (.lit (.ofNat 0)), .int .u8 (.lit (.ofNat 0)), .int .u8 (.lit (.ofNat 0)), .int .u8 (.lit (.ofNat 0)), .int .u8 (.lit (.ofNat 0)), .int .u8 (.lit (.ofNat 0)), .int .u8 (.lit (.ofNat 0)), .int .u8 (.lit (.ofNat 0)), .int .u8 (.lit (.ofNat 0)), .int .u8 (.lit (.ofNat 0)), .int .u8 (.lit (.ofNat 0))] [(0, 1, (.t 7)), (1, 1, (.t 9)), (2, 1, (.t 14))]), none⟩, 510, 0⟩,
⟨10, ⟨(some 16), .m (.box 103 (.t 15)), none⟩, 1022, 1024⟩,
⟨11, ⟨(some 17), .p (.nilCheck (.t 6)), none⟩, 2047, 0⟩,
⟨12, ⟨(some 18), .p (.faddr 74 (.t 17)), none⟩, 4095, 0⟩,
⟨13, ⟨none, .b (.store 1 (.t 18) (.t 16)), none⟩, 8191, 0⟩]⟩
theorem fo122 : ∃ func code hint, FnOk Go.Proofs.Tryz.prog TT 122 fa122 func code hint := ⟨Go.Proofs.Tryz.f122, bodyOf Go.Proofs.Tryz.f122, hintL [(0, [(0, 0), (1, 0), (2, 0), (4, 0), (5, 0), (6, 0), (7, 0), (8, 0), (3, 0), (9, 0), (10, 1024), (11, 0), (12, 0), (13, 0)])], ⟨Go.Proofs.Tryz.func122, Go.Proofs.Tryz.call122, by kernel_rfl, by kernel_rfl, by kernel_rfl, by kernel_rfl⟩⟩
/- (*quarry/vm.frame).pop -/
def fa123 : AFunc := ⟨31, [.cell 2 (some 4)], .seq (.reg [
⟨(some 2), .m (.alloc 24 [.int .u64 (.lit (.ofNat 0)), .int .u64 (.lit (.ofNat 0)), .int .u64 (.lit (.ofNat 0)), .int .u64 (.lit (.ofNat 0))]), none⟩]) (.seq (.draw [
⟨0, ⟨(some 4), .p (.mv (.t 0)), none⟩, 0, 0⟩,
⟨1, ⟨(some 5), .p (.nilCheck (.t 4)), none⟩, 1, 0⟩,
⟨2, ⟨(some 6), .p (.faddr 70 (.t 5)), none⟩, 3, 0⟩,
⟨3, ⟨(some 7), .r (.load none (.t 6)), none⟩, 7, 0⟩,
⟨4, ⟨(some 8), .p (.mv (.t 0)), none⟩, 0, 0⟩,
⟨5, ⟨(some 9), .p (.nilCheck (.t 8)), none⟩, 16, 0⟩,
⟨6, ⟨(some 10), .p (.faddr 70 (.t 9)), none⟩, 48, 0⟩,
⟨7, ⟨(some 11), .r (.load none (.t 10)), none⟩, 112, 0⟩,
⟨8, ⟨(some 12), .p (.len (.t 11)), none⟩, 240, 0⟩,
⟨9, ⟨(some 13), .p (.ar 1 (.t 12) (.c (.w (.s (.int .i64 (.lit (.ofNat 1))))))), none⟩, 496, 0⟩,
⟨10, ⟨(some 14), .p (.iaddrS 4 (.t 7) (.t 13)), none⟩, 1023, 0⟩,
⟨11, ⟨(some 15), .r (.load (some 4) (.t 14)), none⟩, 2047, 0⟩,
⟨12, ⟨(some 3), .m (.alloc 24 [.int .u64 (.lit (.ofNat 0)), .int .u64 (.lit (.ofNat 0)), .int .u64 (.lit (.ofNat 0)), .int .u64 (.lit (.ofNat 0))]), none⟩, 0, 0⟩,
⟨13, ⟨none, .b (.store 4 (.t 3) (.t 15)), none⟩, 8191, 0⟩]) (.seq (.draw [
⟨0, ⟨(some 16), .p (.mv (.t 0)), none⟩, 0, 0⟩,
⟨1, ⟨(some 17), .p (.mv (.t 0)), none⟩, 0, 0⟩,
⟨2, ⟨(some 18), .p (.nilCheck (.t 17)), none⟩, 2, 0⟩,
⟨3, ⟨(some 19), .p (.faddr 70 (.t 18)), none⟩, 6, 0⟩,
⟨4, ⟨(some 20), .r (.load none (.t 19)), none⟩, 14, 0⟩,
⟨5, ⟨(some 21), .p (.mv (.t 0)), none⟩, 0, 0⟩,
⟨6, ⟨(some 22), .p (.nilCheck (.t 21)), none⟩, 32, 0⟩,
⟨7, ⟨(some 23), .p (.faddr 70 (.t 22)), none⟩, 96, 0⟩,
⟨8, ⟨(some 24), .r (.load none (.t 23)), none⟩, 224, 0⟩,
⟨9, ⟨(some 25), .p (.len (.t 24)), none⟩, 480, 0⟩,
⟨10, ⟨(some 26), .p (.ar 1 (.t 25) (.c (.w (.s (.int .i64 (.lit (.ofNat 1))))))), none⟩, 992, 0⟩,
⟨11, ⟨(some 27), .p (.slice 4 (.t 20) none (some (.t 26))), none⟩, 2046, 0⟩,
⟨12, ⟨(some 28), .p (.nilCheck (.t 16)), none⟩, 4095, 0⟩,
⟨13, ⟨(some 29), .p (.faddr 70 (.t 28)), none⟩, 8191, 0⟩,
⟨14, ⟨none, .b (.store 1 (.t 29) (.t 27)), none⟩, 16383, 0⟩]) (.seq (.reg [
⟨(some 30), .r (.load (some 4) (.t 3)), none⟩,
⟨none, .b (.store 4 (.t 2) (.t 30)), none⟩]) (.ret))))⟩
theorem fo123 : ∃ func code hint, FnOk Go.Proofs.Tryz.prog TT 123 fa123 func code hint := ⟨Go.Proofs.Tryz.f123, bodyOf Go.Proofs.Tryz.f123, hintL [(1, [(0, 0), (1, 0), (2, 0), (3, 0), (4, 0), (5, 0), (6, 0), (7, 0), (8, 0), (9, 0), (10, 0), (11, 0), (12, 0), (13, 0)]), (2, [(0, 0), (1, 0), (2, 0), (3, 0), (4, 0), (5, 0), (6, 0), (7, 0), (8, 0), (9, 0), (10, 0), (11, 0), (12, 0), (13, 0), (14, 0)])], ⟨Go.Proofs.Tryz.func123, Go.Proofs.Tryz.call123, by kernel_rfl, by kernel_rfl, by kernel_rfl, by kernel_rfl⟩⟩
/- (*quarry/vm.frame).taken -/
def fa130 : AFunc := ⟨10, [.cell 2 (some 8)], .seq (.reg [
⟨(some 2), .m (.alloc 198 [.int .u64 (.lit (.ofNat 0)), .int .u64 (.lit (.ofNat 0)), .int .u64 (.lit (.ofNat 0)), .int .u64 (.lit (.ofNat 0)), .int .u64 (.lit (.ofNat 0)), .int .u64 (.lit (.ofNat 0)), .int .u64 (.lit (.ofNat 0)), .int .u64 (.lit (.ofNat 0))]), none⟩]) (.seq (.reg [
⟨(some 4), .p (.mv (.t 0)), none⟩,
⟨(some 5), .b (.call 123 [(.t 4)]), none⟩,
⟨(some 3), .m (.alloc 24 [.int .u64 (.lit (.ofNat 0)), .int .u64 (.lit (.ofNat 0)), .int .u64 (.lit (.ofNat 0)), .int .u64 (.lit (.ofNat 0))]), none⟩,
⟨none, .b (.store 4 (.t 3) (.t 5)), none⟩]) (.seq (.draw [
⟨0, ⟨(some 6), .r (.load (some 4) (.t 3)), none⟩, 0, 0⟩,
⟨1, ⟨(some 7), .p (.mv (.t 0)), none⟩, 0, 0⟩,
⟨2, ⟨(some 8), .b (.call 123 [(.t 7)]), none⟩, 2, 0⟩,
⟨3, ⟨(some 9), .p (.build [.int .u64 (.lit (.ofNat 0)), .int .u64 (.lit (.ofNat 0)), .int .u64 (.lit (.ofNat 0)), .int .u64 (.lit (.ofNat 0)), .int .u64 (.lit (.ofNat 0)), .int .u64 (.lit (.ofNat 0)), .int .u64 (.lit (.ofNat 0)), .int .u64 (.lit (.ofNat 0))] [(0, 4, (.t 6)), (4, 4, (.t 8))]), none⟩, 7, 0⟩,
⟨4, ⟨none, .b (.store 8 (.t 2) (.t 9)), none⟩, 15, 0⟩]) (.ret)))⟩
theorem fo130 : ∃ func code hint, FnOk Go.Proofs.Tryz.prog TT 130 fa130 func code hint := ⟨Go.Proofs.Tryz.f130, bodyOf Go.Proofs.Tryz.f130, hintL [(2, [(0, 0), (1, 0), (2, 0), (3, 0), (4, 0)])], ⟨Go.Proofs.Tryz.func130, Go.Proofs.Tryz.call130, by kernel_rfl, by kernel_rfl, by kernel_rfl, by kernel_rfl⟩⟩
/- (*quarry/vm.frame).reach -/
def fa133 : AFunc := ⟨70, [], .seq (.reg [
⟨(some 12), .p (.mv (.t 0)), none⟩,
⟨(some 13), .p (.nilCheck (.t 12)), none⟩,
⟨(some 14), .p (.faddr 71 (.t 13)), none⟩,
⟨(some 15), .r (.load none (.t 14)), none⟩,
⟨(some 16), .p (.len (.t 15)), none⟩,
⟨(some 17), .p (.conv .u64 (.t 16)), none⟩,
⟨(some 4), .p (.mv (.t 17)), none⟩,
⟨(some 5), .p (.mv (.c (.w (.s (.int .u64 (.lit (.ofNat 0))))))), none⟩]) (.seq (.seq (.reg [
⟨(some 18), .p (.mv (.t 1)), none⟩,
⟨(some 19), .p (.len (.t 18)), none⟩,
⟨(some 20), .p (.mv (.c (.w (.s (.int .i64 (.lit (.ofNat 0))))))), none⟩]) (.block 0 (.loop (.seq (.reg [
⟨(some 21), .b (.cmp 2 .int (.t 20) (.t 19)), none⟩]) (.seq (.cond (.t 21) (.skip) (.exit 0)) (.seq (.block 1 (.seq (.reg [
⟨(some 22), .p (.iaddrS 8 (.t 18) (.t 20)), none⟩,
⟨(some 23), .r (.load (some 8) (.t 22)), none⟩,
⟨(some 7), .m (.alloc 198 [.int .u64 (.lit (.ofNat 0)), .int .u64 (.lit (.ofNat 0)), .int .u64 (.lit (.ofNat 0)), .int .u64 (.lit (.ofNat 0)), .int .u64 (.lit (.ofNat 0)), .int .u64 (.lit (.ofNat 0)), .int .u64 (.lit (.ofNat 0)), .int .u64 (.lit (.ofNat 0))]), none⟩,
⟨none, .b (.store 8 (.t 7) (.t 23)), none⟩]) (.seq (.draw [
⟨0, ⟨(some 25), .p (.mv (.t 0)), none⟩, 0, 0⟩,
⟨1, ⟨(some 26), .p (.nilCheck (.t 25)), none⟩, 1, 0⟩,
⟨2, ⟨(some 27), .p (.faddr 71 (.t 26)), none⟩, 3, 0⟩,
⟨3, ⟨(some 28), .r (.load none (.t 27)), none⟩, 7, 0⟩,
⟨4, ⟨(some 29), .p (.len (.t 28)), none⟩, 15, 0⟩,
⟨5, ⟨(some 30), .p (.conv .u64 (.t 29)), none⟩, 31, 0⟩,
⟨6, ⟨(some 31), .p (.faddr 0 (.t 7)), none⟩, 0, 0⟩,
⟨7, ⟨(some 32), .r (.load (some 4) (.t 31)), none⟩, 64, 0⟩,
⟨8, ⟨(some 33), .p (.faddr 4 (.t 7)), none⟩, 0, 0⟩,
⟨9, ⟨(some 34), .r (.load (some 4) (.t 33)), none⟩, 256, 0⟩,
⟨10, ⟨(some 35), .b (.call 181 [(.t 30), (.t 32), (.t 34)]), none⟩, 1023, 0⟩,
⟨11, ⟨(some 24), .p (.mv (.t 35)), none⟩, 2047, 0⟩,
⟨12, ⟨(some 36), .p (.ext (.t 24) 0), none⟩, 4095, 0⟩,
⟨13, ⟨(some 37), .p (.ext (.t 24) 1), none⟩, 4095, 0⟩,
⟨14, ⟨(some 38), .p (.ext (.t 24) 2), none⟩, 4095, 0⟩,
⟨15, ⟨(some 8), .p (.mv (.t 36)), none⟩, 8191, 0⟩,
⟨16, ⟨(some 9), .p (.mv (.t 37)), none⟩, 49151, 0⟩,
⟨17, ⟨(some 10), .p (.mv (.t 38)), none⟩, 131071, 0⟩]) (.seq (.reg [
⟨(some 39), .p (.mv (.t 10)), none⟩,
⟨(some 40), .b (.call 88 [(.t 39)]), none⟩]) (.reg [
⟨(some 41), .p (.mv (.t 4)), none⟩,
⟨(some 42), .p (.mv (.t 8)), none⟩,
⟨(some 43), .b (.mm true (.t 41) (.t 42)), none⟩,
⟨(some 44), .p (.mv (.t 5)), none⟩,
⟨(some 45), .p (.mv (.t 9)), none⟩,
⟨(some 46), .b (.mm true (.t 44) (.t 45)), none⟩,
⟨(some 4), .p (.mv (.t 43)), none⟩,
⟨(some 5), .p (.mv (.t 46)), none⟩]))))) (.reg [
⟨(some 47), .p (.ar 0 (.t 20) (.c (.w (.s (.int .i64 (.lit (.ofNat 1))))))), none⟩,
⟨(some 20), .p (.mv (.t 47)), none⟩]))))))) (.seq (.reg [
⟨(some 48), .p (.mv (.t 0)), none⟩,
⟨(some 49), .p (.mv (.t 5)), none⟩,
⟨(some 50), .b (.call 90 [(.t 48), (.t 49)]), none⟩]) (.seq (.reg [
⟨(some 51), .p (.mv (.t 4)), none⟩,
⟨(some 52), .p (.conv .i64 (.t 51)), none⟩,
⟨(some 53), .p (.mv (.t 0)), none⟩,
⟨(some 54), .p (.nilCheck (.t 53)), none⟩,
⟨(some 55), .p (.faddr 71 (.t 54)), none⟩,
⟨(some 56), .r (.load none (.t 55)), none⟩,
⟨(some 57), .p (.len (.t 56)), none⟩,
⟨(some 58), .p (.ar 1 (.t 52) (.t 57)), none⟩,
⟨(some 11), .p (.mv (.t 58)), none⟩]) (.seq (.reg [
⟨(some 59), .p (.mv (.t 11)), none⟩,
⟨(some 60), .b (.cmp 4 .int (.t 59) (.c (.w (.s (.int .i64 (.lit (.ofNat 0))))))), none⟩]) (.cond (.t 60) (.reg [
⟨(some 61), .p (.mv (.t 0)), none⟩,
⟨(some 62), .p (.mv (.t 0)), none⟩,
⟨(some 63), .p (.nilCheck (.t 62)), none⟩,
⟨(some 64), .p (.faddr 71 (.t 63)), none⟩,
⟨(some 65), .r (.load none (.t 64)), none⟩,
⟨(some 66), .p (.mv (.t 11)), none⟩,
⟨(some 67), .b (.appendz 5 1 1 [.int .u8 (.lit (.ofNat 0))] (.t 65) (.t 66)), none⟩,
⟨(some 68), .p (.nilCheck (.t 61)), none⟩,
⟨(some 69), .p (.faddr 71 (.t 68)), none⟩,
⟨none, .b (.store 1 (.t 69) (.t 67)), none⟩]) (.skip))))))⟩
theorem fo133 : ∃ func code hint, FnOk Go.Proofs.Tryz.prog TT 133 fa133 func code hint := ⟨Go.Proofs.Tryz.f133, bodyOf Go.Proofs.Tryz.f133, hintL [(4, [(0, 0), (1, 0), (2, 0), (3, 0), (4, 0), (5, 0), (6, 0), (7, 0), (8, 0), (9, 0), (10, 0), (11, 0), (12, 0), (13, 0), (14, 0), (15, 0), (16, 0), (17, 0)])], ⟨Go.Proofs.Tryz.func133, Go.Proofs.Tryz.call133, by kernel_rfl, by kernel_rfl, by kernel_rfl, by kernel_rfl⟩⟩
/- quarry/vm.hashed -/
def fa134 : AFunc := ⟨11, [.cell 2 (some 4)], .seq (.reg [
⟨(some 1), .m (.box 41 (.t 0)), none⟩,
⟨(some 2), .m (.alloc 24 [.int .u64 (.lit (.ofNat 0)), .int .u64 (.lit (.ofNat 0)), .int .u64 (.lit (.ofNat 0)), .int .u64 (.lit (.ofNat 0))]), none⟩]) (.seq (.reg [
⟨(some 6), .p (.aslice 32 1 (.t 1) none none), none⟩,
⟨(some 7), .b (.call 139 [(.t 6)]), none⟩,
⟨(some 5), .p (.mv (.t 7)), none⟩,
⟨(some 8), .p (.ext (.t 5) 0), none⟩,
⟨(some 9), .p (.ext (.t 5) 1), none⟩,
⟨(some 3), .m (.alloc 24 [.int .u64 (.lit (.ofNat 0)), .int .u64 (.lit (.ofNat 0)), .int .u64 (.lit (.ofNat 0)), .int .u64 (.lit (.ofNat 0))]), none⟩,
⟨none, .b (.store 4 (.t 3) (.t 8)), none⟩,
⟨(some 4), .p (.mv (.t 9)), none⟩]) (.seq (.reg [
⟨(some 10), .r (.load (some 4) (.t 3)), none⟩,
⟨none, .b (.store 4 (.t 2) (.t 10)), none⟩]) (.ret)))⟩
theorem fo134 : ∃ func code hint, FnOk Go.Proofs.Tryz.prog TT 134 fa134 func code hint := ⟨Go.Proofs.Tryz.f134, bodyOf Go.Proofs.Tryz.f134, hintL [], ⟨Go.Proofs.Tryz.func134, Go.Proofs.Tryz.call134, by kernel_rfl, by kernel_rfl, by kernel_rfl, by kernel_rfl⟩⟩
/- (*quarry/vm.frame).bytes -/
def fa135 : AFunc := ⟨26, [.tmp 4], .seq (.reg [
⟨(some 3), .m (.box 198 (.t 1)), none⟩,
⟨(some 4), .p (.mv (.c (.w (.s (.nils))))), none⟩]) (.seq (.seq (.reg [
⟨(some 6), .p (.faddr 4 (.t 3)), none⟩,
⟨(some 7), .r (.load (some 4) (.t 6)), none⟩,
⟨(some 8), .p (.build [.int .u64 (.lit (.ofNat 0)), .int .u64 (.lit (.ofNat 0)), .int .u64 (.lit (.ofNat 0)), .int .u64 (.lit (.ofNat 0))] []), none⟩,
⟨(some 9), .b (.cmp 0 (.agg (.one (.arr 4 22 .u64))) (.t 7) (.t 8)), none⟩]) (.cond (.t 9) (.seq (.reg [
⟨(some 4), .p (.mv (.c (.w (.s (.nils))))), none⟩]) (.ret)) (.skip))) (.seq (.reg [
⟨(some 10), .p (.faddr 0 (.t 3)), none⟩,
⟨(some 11), .p (.iaddrA 4 1 (.t 10) (.c (.w (.s (.int .i64 (.lit (.ofNat 0))))))), none⟩,
⟨(some 12), .r (.load none (.t 11)), none⟩,
⟨(some 13), .p (.conv .i64 (.t 12)), none⟩,
⟨(some 5), .p (.mv (.t 13)), none⟩]) (.seq (.draw [
⟨0, ⟨(some 14), .p (.mv (.t 0)), none⟩, 0, 0⟩,
⟨1, ⟨(some 15), .p (.nilCheck (.t 14)), none⟩, 1, 0⟩,
⟨2, ⟨(some 16), .p (.faddr 71 (.t 15)), none⟩, 3, 0⟩,
⟨3, ⟨(some 17), .r (.load none (.t 16)), none⟩, 7, 0⟩,
⟨4, ⟨(some 18), .p (.mv (.t 5)), none⟩, 0, 0⟩,
⟨5, ⟨(some 19), .p (.mv (.t 5)), none⟩, 0, 0⟩,
⟨6, ⟨(some 20), .p (.faddr 4 (.t 3)), none⟩, 0, 0⟩,
⟨7, ⟨(some 21), .p (.iaddrA 4 1 (.t 20) (.c (.w (.s (.int .i64 (.lit (.ofNat 0))))))), none⟩, 64, 0⟩,
⟨8, ⟨(some 22), .r (.load none (.t 21)), none⟩, 192, 0⟩,
⟨9, ⟨(some 23), .p (.conv .i64 (.t 22)), none⟩, 448, 0⟩,
⟨10, ⟨(some 24), .p (.ar 0 (.t 19) (.t 23)), none⟩, 992, 0⟩,
⟨11, ⟨(some 25), .p (.slice 1 (.t 17) (some (.t 18)) (some (.t 24))), none⟩, 2047, 0⟩,
⟨12, ⟨(some 4), .p (.mv (.t 25)), none⟩, 4095, 0⟩]) (.ret))))⟩
theorem fo135 : ∃ func code hint, FnOk Go.Proofs.Tryz.prog TT 135 fa135 func code hint := ⟨Go.Proofs.Tryz.f135, bodyOf Go.Proofs.Tryz.f135, hintL [(4, [(0, 0), (1, 0), (2, 0), (3, 0), (4, 0), (5, 0), (6, 0), (7, 0), (8, 0), (9, 0), (10, 0), (11, 0), (12, 0)])], ⟨Go.Proofs.Tryz.func135, Go.Proofs.Tryz.call135, by kernel_rfl, by kernel_rfl, by kernel_rfl, by kernel_rfl⟩⟩
/- quarry/word.From -/
def fa139 : AFunc := ⟨38, [.cell 2 (some 4), .tmp 3], .seq (.reg [
⟨(some 2), .m (.alloc 24 [.int .u64 (.lit (.ofNat 0)), .int .u64 (.lit (.ofNat 0)), .int .u64 (.lit (.ofNat 0)), .int .u64 (.lit (.ofNat 0))]), none⟩,
⟨(some 3), .p (.mv (.c (.w (.s (.bool false))))), none⟩]) (.seq (.seq (.reg [
⟨(some 8), .p (.mv (.t 0)), none⟩,
⟨(some 9), .p (.len (.t 8)), none⟩,
⟨(some 10), .b (.cmp 4 .int (.t 9) (.c (.w (.s (.int .i64 (.lit (.ofNat 32))))))), none⟩]) (.cond (.t 10) (.seq (.reg [
⟨(some 11), .p (.build [.int .u64 (.lit (.ofNat 0)), .int .u64 (.lit (.ofNat 0)), .int .u64 (.lit (.ofNat 0)), .int .u64 (.lit (.ofNat 0))] []), none⟩,
⟨none, .b (.store 4 (.t 2) (.t 11)), none⟩,
⟨(some 3), .p (.mv (.c (.w (.s (.bool false))))), none⟩]) (.ret)) (.skip))) (.seq (.reg [
⟨(some 4), .m (.alloc 24 [.int .u64 (.lit (.ofNat 0)), .int .u64 (.lit (.ofNat 0)), .int .u64 (.lit (.ofNat 0)), .int .u64 (.lit (.ofNat 0))]), none⟩]) (.seq (.seq (.reg [
⟨(some 12), .p (.mv (.t 0)), none⟩,
⟨(some 13), .p (.len (.t 12)), none⟩,
⟨(some 14), .p (.mv (.c (.w (.s (.int .i64 (.lit (.ofNat 0))))))), none⟩]) (.block 0 (.loop (.seq (.reg [
⟨(some 15), .b (.cmp 2 .int (.t 14) (.t 13)), none⟩]) (.seq (.cond (.t 15) (.skip) (.exit 0)) (.seq (.block 1 (.seq (.reg [
⟨(some 16), .p (.mv (.t 14)), none⟩,
⟨(some 17), .p (.iaddrS 1 (.t 12) (.t 14)), none⟩,
⟨(some 18), .r (.load none (.t 17)), none⟩,
⟨(some 5), .p (.mv (.t 16)), none⟩,
⟨(some 6), .p (.mv (.t 18)), none⟩]) (.seq (.reg [
⟨(some 19), .p (.mv (.t 0)), none⟩,
⟨(some 20), .p (.len (.t 19)), none⟩,
⟨(some 21), .p (.ar 1 (.t 20) (.c (.w (.s (.int .i64 (.lit (.ofNat 1))))))), none⟩,
⟨(some 22), .p (.mv (.t 5)), none⟩,
⟨(some 23), .p (.ar 1 (.t 21) (.t 22)), none⟩,
⟨(some 7), .p (.mv (.t 23)), none⟩]) (.draw [
⟨0, ⟨(some 24), .p (.mv (.t 7)), none⟩, 0, 0⟩,
⟨1, ⟨(some 25), .p (.dv (.t 24) (.c (.w (.s (.int .i64 (.lit (.ofNat 8))))))), none⟩, 1, 0⟩,
⟨2, ⟨(some 26), .p (.iaddrA 4 1 (.t 4) (.t 25)), none⟩, 3, 0⟩,
⟨3, ⟨(some 27), .r (.load none (.t 26)), none⟩, 7, 0⟩,
⟨4, ⟨(some 28), .p (.mv (.t 6)), none⟩, 0, 0⟩,
⟨5, ⟨(some 29), .p (.conv .u64 (.t 28)), none⟩, 16, 0⟩,
⟨6, ⟨(some 30), .p (.mv (.t 7)), none⟩, 0, 0⟩,
⟨7, ⟨(some 31), .p (.md (.t 30) (.c (.w (.s (.int .i64 (.lit (.ofNat 8))))))), none⟩, 64, 0⟩,
⟨8, ⟨(some 32), .p (.ar 2 (.t 31) (.c (.w (.s (.int .i64 (.lit (.ofNat 8))))))), none⟩, 192, 0⟩,
⟨9, ⟨(some 33), .p (.shl (.t 29) (.t 32)), none⟩, 496, 0⟩,
⟨10, ⟨(some 34), .p (.bt 1 (.t 27) (.t 33)), none⟩, 1023, 0⟩,
⟨11, ⟨(some 35), .p (.iaddrA 4 1 (.t 4) (.t 25)), none⟩, 2047, 0⟩,
⟨12, ⟨none, .b (.store 1 (.t 35) (.t 34)), none⟩, 4095, 0⟩])))) (.reg [
⟨(some 36), .p (.ar 0 (.t 14) (.c (.w (.s (.int .i64 (.lit (.ofNat 1))))))), none⟩,
⟨(some 14), .p (.mv (.t 36)), none⟩]))))))) (.seq (.reg [
⟨(some 37), .r (.load (some 4) (.t 4)), none⟩,
⟨none, .b (.store 4 (.t 2) (.t 37)), none⟩,
⟨(some 3), .p (.mv (.c (.w (.s (.bool true))))), none⟩]) (.ret)))))⟩
theorem fo139 : ∃ func code hint, FnOk Go.Proofs.Tryz.prog TT 139 fa139 func code hint := ⟨Go.Proofs.Tryz.f139, bodyOf Go.Proofs.Tryz.f139, hintL [(8, [(0, 0), (1, 0), (2, 0), (3, 0), (4, 0), (5, 0), (6, 0), (7, 0), (8, 0), (9, 0), (10, 0), (11, 0), (12, 0)])], ⟨Go.Proofs.Tryz.func139, Go.Proofs.Tryz.call139, by kernel_rfl, by kernel_rfl, by kernel_rfl, by kernel_rfl⟩⟩
/- quarry/vm.cut -/
def fa140 : AFunc := ⟨31, [.tmp 6], .seq (.reg [
⟨(some 4), .m (.box 24 (.t 1)), none⟩,
⟨(some 6), .p (.mv (.c (.w (.s (.nils))))), none⟩]) (.seq (.reg [
⟨(some 10), .p (.mv (.t 2)), none⟩,
⟨(some 11), .m (.mkslice 5 1 [.int .u8 (.lit (.ofNat 0))] (.t 10) (.t 10)), none⟩,
⟨(some 7), .p (.mv (.t 11)), none⟩]) (.seq (.seq (.reg [
⟨(some 13), .r (.load (some 4) (.t 4)), none⟩,
⟨(some 14), .b (.call 146 [(.t 13)]), none⟩,
⟨(some 12), .p (.mv (.t 14)), none⟩,
⟨(some 15), .p (.ext (.t 12) 0), none⟩,
⟨(some 16), .p (.ext (.t 12) 1), none⟩,
⟨(some 8), .p (.mv (.t 15)), none⟩,
⟨(some 9), .p (.mv (.t 16)), none⟩]) (.seq (.reg [
⟨(some 17), .p (.mv (.t 9)), none⟩,
⟨(some 18), .p (.mv (.t 17)), none⟩,
⟨(some 19), .p (.mv (.t 8)), some (18, true)⟩,
⟨(some 20), .p (.mv (.t 0)), some (18, true)⟩,
⟨(some 21), .p (.len (.t 20)), some (18, true)⟩,
⟨(some 22), .p (.conv .u64 (.t 21)), some (18, true)⟩,
⟨(some 23), .b (.cmp 2 .int (.t 19) (.t 22)), some (18, true)⟩,
⟨(some 24), .p (.pick (.t 18) (.t 23) (.c (.w (.s (.bool false))))), none⟩]) (.cond (.t 24) (.reg [
⟨(some 25), .p (.mv (.t 7)), none⟩,
⟨(some 26), .p (.mv (.t 0)), none⟩,
⟨(some 27), .p (.mv (.t 8)), none⟩,
⟨(some 28), .p (.slice 1 (.t 26) (some (.t 27)) none), none⟩,
⟨(some 29), .b (.copy 1 (.t 25) (.t 28)), none⟩]) (.skip)))) (.seq (.reg [
⟨(some 30), .p (.mv (.t 7)), none⟩,
⟨(some 6), .p (.mv (.t 30)), none⟩]) (.ret))))⟩
theorem fo140 : ∃ func code hint, FnOk Go.Proofs.Tryz.prog TT 140 fa140 func code hint := ⟨Go.Proofs.Tryz.f140, bodyOf Go.Proofs.Tryz.f140, hintL [], ⟨Go.Proofs.Tryz.func140, Go.Proofs.Tryz.call140, by kernel_rfl, by kernel_rfl, by kernel_rfl, by kernel_rfl⟩⟩
/- quarry/vm.long -/
def fa141 : AFunc := ⟨6, [.cell 2 (some 4)], .seq (.reg [
⟨(some 2), .m (.alloc 24 [.int .u64 (.lit (.ofNat 0)), .int .u64 (.lit (.ofNat 0)), .int .u64 (.lit (.ofNat 0)), .int .u64 (.lit (.ofNat 0))]), none⟩]) (.seq (.reg [
⟨(some 3), .p (.mv (.t 0)), none⟩,
⟨(some 4), .p (.conv .u64 (.t 3)), none⟩,
⟨(some 5), .b (.call 80 [(.t 4)]), none⟩,
⟨none, .b (.store 4 (.t 2) (.t 5)), none⟩]) (.ret))⟩
theorem fo141 : ∃ func code hint, FnOk Go.Proofs.Tryz.prog TT 141 fa141 func code hint := ⟨Go.Proofs.Tryz.f141, bodyOf Go.Proofs.Tryz.f141, hintL [], ⟨Go.Proofs.Tryz.func141, Go.Proofs.Tryz.call141, by kernel_rfl, by kernel_rfl, by kernel_rfl, by kernel_rfl⟩⟩
/- (*quarry/vm.frame).ahead -/
def fa145 : AFunc := ⟨73, [.cell 4 (some 4)], .seq (.reg [
⟨(some 3), .m (.box 24 (.t 1)), none⟩,
⟨(some 4), .m (.alloc 24 [.int .u64 (.lit (.ofNat 0)), .int .u64 (.lit (.ofNat 0)), .int .u64 (.lit (.ofNat 0)), .int .u64 (.lit (.ofNat 0))]), none⟩]) (.seq (.reg [
⟨(some 8), .r (.load (some 4) (.t 3)), none⟩,
⟨(some 9), .b (.call 146 [(.t 8)]), none⟩,
⟨(some 7), .p (.mv (.t 9)), none⟩,
⟨(some 10), .p (.ext (.t 7) 0), none⟩,
⟨(some 11), .p (.ext (.t 7) 1), none⟩,
⟨(some 5), .p (.mv (.t 10)), none⟩,
⟨(some 6), .p (.mv (.t 11)), none⟩]) (.seq (.seq (.draw [
⟨0, ⟨(some 12), .p (.mv (.t 6)), none⟩, 0, 0⟩,
⟨1, ⟨(some 13), .p (.not (.t 12)), none⟩, 1, 0⟩,
⟨2, ⟨(some 14), .p (.mv (.t 13)), none⟩, 3, 0⟩,
⟨3, ⟨(some 15), .p (.mv (.t 5)), some (14, false)⟩, 7, 0⟩,
⟨4, ⟨(some 16), .p (.mv (.t 0)), some (14, false)⟩, 7, 0⟩,
⟨5, ⟨(some 17), .p (.nilCheck (.t 16)), some (14, false)⟩, 23, 0⟩,
⟨6, ⟨(some 18), .p (.faddr 0 (.t 17)), some (14, false)⟩, 55, 0⟩,
⟨7, ⟨(some 19), .r (.load none (.t 18)), some (14, false)⟩, 119, 0⟩,
⟨8, ⟨(some 20), .p (.nilCheck (.t 19)), some (14, false)⟩, 247, 0⟩,
⟨9, ⟨(some 21), .p (.faddr 27 (.t 20)), some (14, false)⟩, 503, 0⟩,
⟨10, ⟨(some 22), .p (.faddr 20 (.t 21)), some (14, false)⟩, 1015, 0⟩,
⟨11, ⟨(some 23), .r (.load none (.t 22)), some (14, false)⟩, 2039, 0⟩,
⟨12, ⟨(some 24), .b (.cmp 5 .int (.t 15) (.t 23)), some (14, false)⟩, 4095, 0⟩,
⟨13, ⟨(some 25), .p (.pick (.t 14) (.c (.w (.s (.bool true)))) (.t 24)), none⟩, 8191, 0⟩,
⟨14, ⟨(some 26), .p (.mv (.t 25)), none⟩, 16383, 0⟩,
⟨15, ⟨(some 27), .p (.mv (.t 0)), some (26, false)⟩, 32767, 0⟩,
⟨16, ⟨(some 28), .p (.nilCheck (.t 27)), some (26, false)⟩, 65535, 0⟩,
⟨17, ⟨(some 29), .p (.faddr 0 (.t 28)), some (26, false)⟩, 131071, 0⟩,
⟨18, ⟨(some 30), .r (.load none (.t 29)), some (26, false)⟩, 262143, 0⟩,
⟨19, ⟨(some 31), .p (.nilCheck (.t 30)), some (26, false)⟩, 524287, 0⟩,
⟨20, ⟨(some 32), .p (.faddr 27 (.t 31)), some (26, false)⟩, 1048575, 0⟩,
⟨21, ⟨(some 33), .p (.faddr 20 (.t 32)), some (26, false)⟩, 2097151, 0⟩,
⟨22, ⟨(some 34), .r (.load none (.t 33)), some (26, false)⟩, 4194303, 0⟩,
⟨23, ⟨(some 35), .p (.ar 1 (.t 34) (.c (.w (.s (.int .u64 (.lit (.ofNat 1))))))), some (26, false)⟩, 8388607, 0⟩,
⟨24, ⟨(some 36), .p (.mv (.t 5)), some (26, false)⟩, 32767, 0⟩,
⟨25, ⟨(some 37), .p (.ar 1 (.t 35) (.t 36)), some (26, false)⟩, 33554431, 0⟩,
⟨26, ⟨(some 38), .p (.mv (.t 0)), some (26, false)⟩, 32767, 0⟩,
⟨27, ⟨(some 39), .p (.nilCheck (.t 38)), some (26, false)⟩, 67141631, 0⟩,
⟨28, ⟨(some 40), .p (.faddr 0 (.t 39)), some (26, false)⟩, 201359359, 0⟩,
⟨29, ⟨(some 41), .r (.load none (.t 40)), some (26, false)⟩, 469794815, 0⟩,
⟨30, ⟨(some 42), .p (.nilCheck (.t 41)), some (26, false)⟩, 1006665727, 0⟩,
⟨31, ⟨(some 43), .p (.faddr 27 (.t 42)), some (26, false)⟩, 2080407551, 0⟩,
⟨32, ⟨(some 44), .p (.faddr 36 (.t 43)), some (26, false)⟩, 4227891199, 0⟩,
⟨33, ⟨(some 45), .r (.load none (.t 44)), some (26, false)⟩, 8522858495, 0⟩,
⟨34, ⟨(some 46), .p (.len (.t 45)), some (26, false)⟩, 17112793087, 0⟩,
⟨35, ⟨(some 47), .p (.conv .u64 (.t 46)), some (26, false)⟩, 34292662271, 0⟩,
⟨36, ⟨(some 48), .b (.cmp 5 .int (.t 37) (.t 47)), some (26, false)⟩, 68719476735, 0⟩,
⟨37, ⟨(some 49), .p (.pick (.t 26) (.c (.w (.s (.bool true)))) (.t 48)), none⟩, 137438953471, 0⟩]) (.cond (.t 49) (.seq (.reg [
⟨(some 50), .p (.build [.int .u64 (.lit (.ofNat 0)), .int .u64 (.lit (.ofNat 0)), .int .u64 (.lit (.ofNat 0)), .int .u64 (.lit (.ofNat 0))] []), none⟩,
⟨none, .b (.store 4 (.t 4) (.t 50)), none⟩]) (.ret)) (.skip))) (.seq (.draw [
⟨0, ⟨(some 51), .p (.mv (.t 0)), none⟩, 0, 0⟩,
⟨1, ⟨(some 52), .p (.nilCheck (.t 51)), none⟩, 1, 0⟩,
⟨2, ⟨(some 53), .p (.faddr 0 (.t 52)), none⟩, 3, 0⟩,
⟨3, ⟨(some 54), .r (.load none (.t 53)), none⟩, 7, 0⟩,
⟨4, ⟨(some 55), .p (.nilCheck (.t 54)), none⟩, 15, 0⟩,
⟨5, ⟨(some 56), .p (.faddr 27 (.t 55)), none⟩, 31, 0⟩,
⟨6, ⟨(some 57), .p (.faddr 36 (.t 56)), none⟩, 63, 0⟩,
⟨7, ⟨(some 58), .r (.load none (.t 57)), none⟩, 127, 0⟩,
⟨8, ⟨(some 59), .p (.mv (.t 0)), none⟩, 0, 0⟩,
⟨9, ⟨(some 60), .p (.nilCheck (.t 59)), none⟩, 256, 0⟩,
⟨10, ⟨(some 61), .p (.faddr 0 (.t 60)), none⟩, 768, 0⟩,
⟨11, ⟨(some 62), .r (.load none (.t 61)), none⟩, 1792, 0⟩,
⟨12, ⟨(some 63), .p (.nilCheck (.t 62)), none⟩, 3840, 0⟩,
⟨13, ⟨(some 64), .p (.faddr 27 (.t 63)), none⟩, 7936, 0⟩,
⟨14, ⟨(some 65), .p (.faddr 20 (.t 64)), none⟩, 16128, 0⟩,
⟨15, ⟨(some 66), .r (.load none (.t 65)), none⟩, 32512, 0⟩,
⟨16, ⟨(some 67), .p (.ar 1 (.t 66) (.c (.w (.s (.int .u64 (.lit (.ofNat 1))))))), none⟩, 65280, 0⟩,
⟨17, ⟨(some 68), .p (.mv (.t 5)), none⟩, 0, 0⟩,
⟨18, ⟨(some 69), .p (.ar 1 (.t 67) (.t 68)), none⟩, 261888, 0⟩,
⟨19, ⟨(some 70), .p (.iaddrS 32 (.t 58) (.t 69)), none⟩, 524287, 0⟩,
⟨20, ⟨(some 71), .r (.load (some 32) (.t 70)), none⟩, 1048575, 0⟩,
⟨21, ⟨(some 72), .b (.call 134 [(.t 71)]), none⟩, 2097151, 0⟩,
⟨22, ⟨none, .b (.store 4 (.t 4) (.t 72)), none⟩, 4194303, 0⟩]) (.ret))))⟩
theorem fo145 : ∃ func code hint, FnOk Go.Proofs.Tryz.prog TT 145 fa145 func code hint := ⟨Go.Proofs.Tryz.f145, bodyOf Go.Proofs.Tryz.f145, hintL [(2, [(0, 0), (1, 0), (2, 0), (3, 0), (4, 0), (5, 0), (6, 0), (7, 0), (8, 0), (9, 0), (10, 0), (11, 0), (12, 0), (13, 0), (14, 0), (15, 0), (16, 0), (17, 0), (18, 0), (19, 0), (20, 0), (21, 0), (22, 0), (23, 0), (24, 0), (25, 0), (26, 0), (27, 0), (28, 0), (29, 0), (30, 0), (31, 0), (32, 0), (33, 0), (34, 0), (35, 0), (36, 0), (37, 0)]), (4, [(0, 0), (1, 0), (2, 0), (3, 0), (4, 0), (5, 0), (6, 0), (7, 0), (8, 0), (9, 0), (10, 0), (11, 0), (12, 0), (13, 0), (14, 0), (15, 0), (16, 0), (17, 0), (18, 0), (19, 0), (20, 0), (21, 0), (22, 0)])], ⟨Go.Proofs.Tryz.func145, Go.Proofs.Tryz.call145, by kernel_rfl, by kernel_rfl, by kernel_rfl, by kernel_rfl⟩⟩
/- quarry/word.Small -/
def fa146 : AFunc := ⟨15, [.tmp 2, .tmp 3], .seq (.reg [
⟨(some 1), .m (.box 24 (.t 0)), none⟩,
⟨(some 2), .p (.mv (.c (.w (.s (.int .u64 (.lit (.ofNat 0))))))), none⟩,
⟨(some 3), .p (.mv (.c (.w (.s (.bool false))))), none⟩]) (.seq (.seq (.reg [
⟨(some 4), .p (.iaddrA 4 1 (.t 1) (.c (.w (.s (.int .i64 (.lit (.ofNat 1))))))), none⟩,
⟨(some 5), .r (.load none (.t 4)), none⟩,
⟨(some 6), .p (.iaddrA 4 1 (.t 1) (.c (.w (.s (.int .i64 (.lit (.ofNat 2))))))), none⟩,
⟨(some 7), .r (.load none (.t 6)), none⟩,
⟨(some 8), .p (.bt 1 (.t 5) (.t 7)), none⟩,
⟨(some 9), .p (.iaddrA 4 1 (.t 1) (.c (.w (.s (.int .i64 (.lit (.ofNat 3))))))), none⟩,
⟨(some 10), .r (.load none (.t 9)), none⟩,
⟨(some 11), .p (.bt 1 (.t 8) (.t 10)), none⟩,
⟨(some 12), .b (.cmp 1 .int (.t 11) (.c (.w (.s (.int .u64 (.lit (.ofNat 0))))))), none⟩]) (.cond (.t 12) (.seq (.reg [
⟨(some 2), .p (.mv (.c (.w (.s (.int .u64 (.lit (.ofNat 0))))))), none⟩,
⟨(some 3), .p (.mv (.c (.w (.s (.bool false))))), none⟩]) (.ret)) (.skip))) (.seq (.reg [
⟨(some 13), .p (.iaddrA 4 1 (.t 1) (.c (.w (.s (.int .i64 (.lit (.ofNat 0))))))), none⟩,
⟨(some 14), .r (.load none (.t 13)), none⟩,
⟨(some 2), .p (.mv (.t 14)), none⟩,
⟨(some 3), .p (.mv (.c (.w (.s (.bool true))))), none⟩]) (.ret)))⟩
theorem fo146 : ∃ func code hint, FnOk Go.Proofs.Tryz.prog TT 146 fa146 func code hint := ⟨Go.Proofs.Tryz.f146, bodyOf Go.Proofs.Tryz.f146, hintL [], ⟨Go.Proofs.Tryz.func146, Go.Proofs.Tryz.call146, by kernel_rfl, by kernel_rfl, by kernel_rfl, by kernel_rfl⟩⟩
/- quarry/gas.words -/
def fa180 : AFunc := ⟨10, [.tmp 2], .seq (.reg [
⟨(some 2), .p (.mv (.c (.w (.s (.int .u64 (.lit (.ofNat 0))))))), none⟩]) (.seq (.reg [
⟨(some 3), .p (.mv (.t 0)), none⟩,
⟨(some 4), .p (.dv (.t 3) (.c (.w (.s (.int .u64 (.lit (.ofNat 32))))))), none⟩,
⟨(some 5), .p (.mv (.t 0)), none⟩,
⟨(some 6), .p (.md (.t 5) (.c (.w (.s (.int .u64 (.lit (.ofNat 32))))))), none⟩,
⟨(some 7), .p (.ar 0 (.t 6) (.c (.w (.s (.int .u64 (.lit (.ofNat 31))))))), none⟩,
⟨(some 8), .p (.dv (.t 7) (.c (.w (.s (.int .u64 (.lit (.ofNat 32))))))), none⟩,
⟨(some 9), .p (.ar 0 (.t 4) (.t 8)), none⟩,
⟨(some 2), .p (.mv (.t 9)), none⟩]) (.ret))⟩
theorem fo180 : ∃ func code hint, FnOk Go.Proofs.Tryz.prog TT 180 fa180 func code hint := ⟨Go.Proofs.Tryz.f180, bodyOf Go.Proofs.Tryz.f180, hintL [], ⟨Go.Proofs.Tryz.func180, Go.Proofs.Tryz.call180, by kernel_rfl, by kernel_rfl, by kernel_rfl, by kernel_rfl⟩⟩
/- quarry/gas.Grow -/
def fa181 : AFunc := ⟨63, [.tmp 6, .tmp 7, .tmp 8], .seq (.reg [
⟨(some 4), .m (.box 24 (.t 1)), none⟩,
⟨(some 5), .m (.box 24 (.t 2)), none⟩,
⟨(some 6), .p (.mv (.c (.w (.s (.int .u64 (.lit (.ofNat 0))))))), none⟩,
⟨(some 7), .p (.mv (.c (.w (.s (.int .u64 (.lit (.ofNat 0))))))), none⟩,
⟨(some 8), .p (.mv (.c (.w (.s (.bool false))))), none⟩]) (.seq (.seq (.reg [
⟨(some 15), .r (.load (some 4) (.t 5)), none⟩,
⟨(some 16), .p (.build [.int .u64 (.lit (.ofNat 0)), .int .u64 (.lit (.ofNat 0)), .int .u64 (.lit (.ofNat 0)), .int .u64 (.lit (.ofNat 0))] []), none⟩,
⟨(some 17), .b (.cmp 0 (.agg (.one (.arr 4 22 .u64))) (.t 15) (.t 16)), none⟩]) (.cond (.t 17) (.seq (.reg [
⟨(some 18), .p (.mv (.t 0)), none⟩,
⟨(some 6), .p (.mv (.t 18)), none⟩,
⟨(some 7), .p (.mv (.c (.w (.s (.int .u64 (.lit (.ofNat 0))))))), none⟩,
⟨(some 8), .p (.mv (.c (.w (.s (.bool true))))), none⟩]) (.ret)) (.skip))) (.seq (.reg [
⟨(some 20), .r (.load (some 4) (.t 4)), none⟩,
⟨(some 21), .b (.call 146 [(.t 20)]), none⟩,
⟨(some 19), .p (.mv (.t 21)), none⟩,
⟨(some 22), .p (.ext (.t 19) 0), none⟩,
⟨(some 23), .p (.ext (.t 19) 1), none⟩,
⟨(some 9), .p (.mv (.t 22)), none⟩,
⟨(some 10), .p (.mv (.t 23)), none⟩]) (.seq (.reg [
⟨(some 25), .r (.load (some 4) (.t 5)), none⟩,
⟨(some 26), .b (.call 146 [(.t 25)]), none⟩,
⟨(some 24), .p (.mv (.t 26)), none⟩,
⟨(some 27), .p (.ext (.t 24) 0), none⟩,
⟨(some 28), .p (.ext (.t 24) 1), none⟩,
⟨(some 11), .p (.mv (.t 27)), none⟩,
⟨(some 12), .p (.mv (.t 28)), none⟩]) (.seq (.reg [
⟨(some 30), .p (.mv (.t 9)), none⟩,
⟨(some 31), .p (.mv (.t 11)), none⟩,
⟨(some 32), .b (.call 106 [(.t 30), (.t 31), (.c (.w (.s (.int .u64 (.lit (.ofNat 0))))))]), none⟩,
⟨(some 29), .p (.mv (.t 32)), none⟩,
⟨(some 33), .p (.ext (.t 29) 0), none⟩,
⟨(some 34), .p (.ext (.t 29) 1), none⟩,
⟨(some 13), .p (.mv (.t 33)), none⟩,
⟨(some 14), .p (.mv (.t 34)), none⟩]) (.seq (.seq (.reg [
⟨(some 35), .p (.mv (.t 10)), none⟩,
⟨(some 36), .p (.not (.t 35)), none⟩,
⟨(some 37), .p (.mv (.t 36)), none⟩,
⟨(some 38), .p (.mv (.t 12)), some (37, false)⟩,
⟨(some 39), .p (.not (.t 38)), some (37, false)⟩,
⟨(some 40), .p (.pick (.t 37) (.c (.w (.s (.bool true)))) (.t 39)), none⟩,
⟨(some 41), .p (.mv (.t 40)), none⟩,
⟨(some 42), .p (.mv (.t 14)), some (41, false)⟩,
⟨(some 43), .b (.cmp 4 .int (.t 42) (.c (.w (.s (.int .u64 (.lit (.ofNat 0))))))), some (41, false)⟩,
⟨(some 44), .p (.pick (.t 41) (.c (.w (.s (.bool true)))) (.t 43)), none⟩,
⟨(some 45), .p (.mv (.t 44)), none⟩,
⟨(some 46), .p (.mv (.t 13)), some (45, false)⟩,
⟨(some 47), .b (.call 180 [(.t 46)]), some (45, false)⟩,
⟨(some 48), .b (.cmp 4 .int (.t 47) (.c (.w (.s (.int .u64 (.lit (.ofNat 34359738368))))))), some (45, false)⟩,
⟨(some 49), .p (.pick (.t 45) (.c (.w (.s (.bool true)))) (.t 48)), none⟩]) (.cond (.t 49) (.seq (.reg [
⟨(some 6), .p (.mv (.c (.w (.s (.int .u64 (.lit (.ofNat 0))))))), none⟩,
⟨(some 7), .p (.mv (.c (.w (.s (.int .u64 (.lit (.ofNat 0))))))), none⟩,
⟨(some 8), .p (.mv (.c (.w (.s (.bool false))))), none⟩]) (.ret)) (.skip))) (.seq (.reg [
⟨(some 50), .p (.mv (.t 0)), none⟩,
⟨(some 51), .p (.mv (.t 13)), none⟩,
⟨(some 52), .b (.call 180 [(.t 51)]), none⟩,
⟨(some 53), .p (.ar 2 (.c (.w (.s (.int .u64 (.lit (.ofNat 32)))))) (.t 52)), none⟩,
⟨(some 54), .b (.mm true (.t 50) (.t 53)), none⟩,
⟨(some 6), .p (.mv (.t 54)), none⟩]) (.seq (.reg [
⟨(some 55), .p (.mv (.t 6)), none⟩,
⟨(some 56), .p (.mv (.t 6)), none⟩,
⟨(some 57), .p (.dv (.t 56) (.c (.w (.s (.int .u64 (.lit (.ofNat 32))))))), none⟩,
⟨(some 58), .b (.call 240 [(.t 57)]), none⟩,
⟨(some 59), .p (.mv (.t 0)), none⟩,
⟨(some 60), .p (.dv (.t 59) (.c (.w (.s (.int .u64 (.lit (.ofNat 32))))))), none⟩,
⟨(some 61), .b (.call 240 [(.t 60)]), none⟩,
⟨(some 62), .p (.ar 1 (.t 58) (.t 61)), none⟩,
⟨(some 6), .p (.mv (.t 55)), none⟩,
⟨(some 7), .p (.mv (.t 62)), none⟩,
⟨(some 8), .p (.mv (.c (.w (.s (.bool true))))), none⟩]) (.ret))))))))⟩
theorem fo181 : ∃ func code hint, FnOk Go.Proofs.Tryz.prog TT 181 fa181 func code hint := ⟨Go.Proofs.Tryz.f181, bodyOf Go.Proofs.Tryz.f181, hintL [], ⟨Go.Proofs.Tryz.func181, Go.Proofs.Tryz.call181, by kernel_rfl, by kernel_rfl, by kernel_rfl, by kernel_rfl⟩⟩
/- math/bits.Mul64 -/
def fa238 : AFunc := ⟨51, [.tmp 4, .tmp 5], .seq (.reg [
⟨(some 4), .p (.mv (.c (.w (.s (.int .u64 (.lit (.ofNat 0))))))), none⟩,
⟨(some 5), .p (.mv (.c (.w (.s (.int .u64 (.lit (.ofNat 0))))))), none⟩]) (.seq (.reg [
⟨(some 14), .p (.mv (.t 0)), none⟩,
⟨(some 15), .p (.bt 0 (.t 14) (.c (.w (.s (.int .u64 (.lit (.ofNat 4294967295))))))), none⟩,
⟨(some 6), .p (.mv (.t 15)), none⟩]) (.seq (.reg [
⟨(some 16), .p (.mv (.t 0)), none⟩,
⟨(some 17), .p (.sr (.t 16) (.c (.w (.s (.int .u64 (.lit (.ofNat 32))))))), none⟩,
⟨(some 7), .p (.mv (.t 17)), none⟩]) (.seq (.reg [
⟨(some 18), .p (.mv (.t 1)), none⟩,
⟨(some 19), .p (.bt 0 (.t 18) (.c (.w (.s (.int .u64 (.lit (.ofNat 4294967295))))))), none⟩,
⟨(some 8), .p (.mv (.t 19)), none⟩]) (.seq (.reg [
⟨(some 20), .p (.mv (.t 1)), none⟩,
⟨(some 21), .p (.sr (.t 20) (.c (.w (.s (.int .u64 (.lit (.ofNat 32))))))), none⟩,
⟨(some 9), .p (.mv (.t 21)), none⟩]) (.seq (.reg [
⟨(some 22), .p (.mv (.t 6)), none⟩,
⟨(some 23), .p (.mv (.t 8)), none⟩,
⟨(some 24), .p (.ar 2 (.t 22) (.t 23)), none⟩,
⟨(some 10), .p (.mv (.t 24)), none⟩]) (.seq (.reg [
⟨(some 25), .p (.mv (.t 7)), none⟩,
⟨(some 26), .p (.mv (.t 8)), none⟩,
⟨(some 27), .p (.ar 2 (.t 25) (.t 26)), none⟩,
⟨(some 28), .p (.mv (.t 10)), none⟩,
⟨(some 29), .p (.sr (.t 28) (.c (.w (.s (.int .u64 (.lit (.ofNat 32))))))), none⟩,
⟨(some 30), .p (.ar 0 (.t 27) (.t 29)), none⟩,
⟨(some 11), .p (.mv (.t 30)), none⟩]) (.seq (.reg [
⟨(some 31), .p (.mv (.t 11)), none⟩,
⟨(some 32), .p (.bt 0 (.t 31) (.c (.w (.s (.int .u64 (.lit (.ofNat 4294967295))))))), none⟩,
⟨(some 12), .p (.mv (.t 32)), none⟩]) (.seq (.reg [
⟨(some 33), .p (.mv (.t 11)), none⟩,
⟨(some 34), .p (.sr (.t 33) (.c (.w (.s (.int .u64 (.lit (.ofNat 32))))))), none⟩,
⟨(some 13), .p (.mv (.t 34)), none⟩]) (.seq (.reg [
⟨(some 35), .p (.mv (.t 12)), none⟩,
⟨(some 36), .p (.mv (.t 6)), none⟩,
⟨(some 37), .p (.mv (.t 9)), none⟩,
⟨(some 38), .p (.ar 2 (.t 36) (.t 37)), none⟩,
⟨(some 39), .p (.ar 0 (.t 35) (.t 38)), none⟩,
⟨(some 12), .p (.mv (.t 39)), none⟩]) (.seq (.reg [
⟨(some 40), .p (.mv (.t 7)), none⟩,
⟨(some 41), .p (.mv (.t 9)), none⟩,
⟨(some 42), .p (.ar 2 (.t 40) (.t 41)), none⟩,
⟨(some 43), .p (.mv (.t 13)), none⟩,
⟨(some 44), .p (.ar 0 (.t 42) (.t 43)), none⟩,
⟨(some 45), .p (.mv (.t 12)), none⟩,
⟨(some 46), .p (.sr (.t 45) (.c (.w (.s (.int .u64 (.lit (.ofNat 32))))))), none⟩,
⟨(some 47), .p (.ar 0 (.t 44) (.t 46)), none⟩,
⟨(some 4), .p (.mv (.t 47)), none⟩]) (.seq (.reg [
⟨(some 48), .p (.mv (.t 0)), none⟩,
⟨(some 49), .p (.mv (.t 1)), none⟩,
⟨(some 50), .p (.ar 2 (.t 48) (.t 49)), none⟩,
⟨(some 5), .p (.mv (.t 50)), none⟩]) (.ret))))))))))))⟩
theorem fo238 : ∃ func code hint, FnOk Go.Proofs.Tryz.prog TT 238 fa238 func code hint := ⟨Go.Proofs.Tryz.f238, bodyOf Go.Proofs.Tryz.f238, hintL [], ⟨Go.Proofs.Tryz.func238, Go.Proofs.Tryz.call238, by kernel_rfl, by kernel_rfl, by kernel_rfl, by kernel_rfl⟩⟩
/- quarry/gas.memory -/
def fa240 : AFunc := ⟨19, [.tmp 2], .seq (.reg [
⟨(some 2), .p (.mv (.c (.w (.s (.int .u64 (.lit (.ofNat 0))))))), none⟩]) (.seq (.reg [
⟨(some 6), .p (.mv (.t 0)), none⟩,
⟨(some 7), .p (.mv (.t 0)), none⟩,
⟨(some 8), .b (.call 238 [(.t 6), (.t 7)]), none⟩,
⟨(some 5), .p (.mv (.t 8)), none⟩,
⟨(some 9), .p (.ext (.t 5) 0), none⟩,
⟨(some 10), .p (.ext (.t 5) 1), none⟩,
⟨(some 3), .p (.mv (.t 9)), none⟩,
⟨(some 4), .p (.mv (.t 10)), none⟩]) (.seq (.reg [
⟨(some 11), .p (.mv (.t 0)), none⟩,
⟨(some 12), .p (.ar 2 (.c (.w (.s (.int .u64 (.lit (.ofNat 3)))))) (.t 11)), none⟩,
⟨(some 13), .p (.mv (.t 3)), none⟩,
⟨(some 14), .p (.shl (.t 13) (.c (.w (.s (.int .u64 (.lit (.ofNat 55))))))), none⟩,
⟨(some 15), .p (.mv (.t 4)), none⟩,
⟨(some 16), .p (.sr (.t 15) (.c (.w (.s (.int .u64 (.lit (.ofNat 9))))))), none⟩,
⟨(some 17), .p (.bt 1 (.t 14) (.t 16)), none⟩,
⟨(some 18), .p (.ar 0 (.t 12) (.t 17)), none⟩,
⟨(some 2), .p (.mv (.t 18)), none⟩]) (.ret)))⟩
theorem fo240 : ∃ func code hint, FnOk Go.Proofs.Tryz.prog TT 240 fa240 func code hint := ⟨Go.Proofs.Tryz.f240, bodyOf Go.Proofs.Tryz.f240, hintL [], ⟨Go.Proofs.Tryz.func240, Go.Proofs.Tryz.call240, by kernel_rfl, by kernel_rfl, by kernel_rfl, by kernel_rfl⟩⟩
end
end Go.Sy
