/- Functions. -/
import Derived.Test.YtnpmngeeidgkaaaGreatGTy
set_option linter.unusedVariables false
set_option maxRecDepth 100000
set_option maxHeartbeats 0
namespace Go.Sy
noncomputable section
/- quarry/quarrylaw19.VmHashes -/
def fa3 : AFunc := ⟨56, [.tmp 2], .seq (.reg [
⟨(some 1), .m (.box 27 (.t 0)), none⟩,
⟨(some 2), .p (.mv (.c (.w (.s (.bool false))))), none⟩]) (.seq (.reg [
⟨(some 7), .r (.load (some 11) (.t 1)), none⟩,
⟨(some 8), .b (.call 4 [(.t 7), (.c (.w (.s (.int .i64 (.lit (.ofNat 1010))))))]), none⟩,
⟨(some 3), .p (.mv (.t 8)), none⟩]) (.seq (.reg [
⟨(some 10), .r (.load (some 11) (.t 1)), none⟩,
⟨(some 11), .b (.call 6 [(.t 10)]), none⟩,
⟨(some 12), .p (.mv (.t 3)), none⟩,
⟨(some 13), .b (.call 8 [(.t 12)]), none⟩,
⟨(some 14), .m (.bslice 5 4 [.int .u8 (.lit (.ofNat 0))] [(0, 1, (.c (.w (.s (.int .u8 (.lit (.ofNat 64))))))), (1, 1, (.c (.w (.s (.int .u8 (.lit (.ofNat 96))))))), (2, 1, (.c (.w (.s (.int .u8 (.lit (.ofNat 0))))))), (3, 1, (.c (.w (.s (.int .u8 (.lit (.ofNat 82)))))))]), none⟩,
⟨(some 15), .b (.call 9 [(.c (.w (.s (.int .i64 (.lit (.ofNat 32))))))]), none⟩,
⟨(some 16), .m (.bslice 25 3 [.nils] [(0, 1, (.t 13)), (1, 1, (.t 14)), (2, 1, (.t 15))]), none⟩,
⟨(some 17), .b (.call 7 [(.t 16)]), none⟩,
⟨(some 18), .p (.build [.int .u64 (.lit (.ofNat 0)), .int .u64 (.lit (.ofNat 0)), .int .u64 (.lit (.ofNat 0)), .int .u64 (.lit (.ofNat 0))] []), none⟩,
⟨(some 19), .b (.call 5 [(.t 11), (.t 17), (.c (.w (.s (.nils)))), (.c (.w (.s (.nils)))), (.t 18), (.c (.w (.s (.int .u64 (.lit (.ofNat 100000))))))]), none⟩,
⟨(some 9), .p (.mv (.t 19)), none⟩,
⟨(some 20), .p (.ext (.t 9) 0), none⟩,
⟨(some 21), .p (.ext (.t 9) 1), none⟩,
⟨(some 4), .m (.alloc 32 [.int .i64 (.lit (.ofNat 0)), .nils, .int .u64 (.lit (.ofNat 0)), .int .u8 (.lit (.ofNat 0)), .int .u8 (.lit (.ofNat 0)), .int .u8 (.lit (.ofNat 0)), .int .u8 (.lit (.ofNat 0)), .int .u8 (.lit (.ofNat 0)), .int .u8 (.lit (.ofNat 0)), .int .u8 (.lit (.ofNat 0)), .int .u8 (.lit (.ofNat 0)), .int .u8 (.lit (.ofNat 0)), .int .u8 (.lit (.ofNat 0)), .int .u8 (.lit (.ofNat 0)), .int .u8 (.lit (.ofNat 0)), .int .u8 (.lit (.ofNat 0)), .int .u8 (.lit (.ofNat 0)), .int .u8 (.lit (.ofNat 0)), .int .u8 (.lit (.ofNat 0)), .int .u8 (.lit (.ofNat 0)), .int .u8 (.lit (.ofNat 0)), .int .u8 (.lit (.ofNat 0)), .int .u8 (.lit (.ofNat 0)), .int .u64 (.lit (.ofNat 0))]), none⟩,
⟨none, .b (.store 24 (.t 4) (.t 20)), none⟩,
⟨(some 5), .p (.mv (.t 21)), none⟩]) (.seq (.seq (.reg [
⟨(some 22), .p (.mv (.t 5)), none⟩,
⟨(some 23), .b (.cmp 0 .ptr (.t 22) (.c (.w (.s (.nilp))))), none⟩,
⟨(some 24), .p (.mv (.t 23)), none⟩,
⟨(some 25), .p (.faddr 0 (.t 4)), some (24, false)⟩,
⟨(some 26), .r (.load none (.t 25)), some (24, false)⟩,
⟨(some 27), .b (.cmp 1 .int (.t 26) (.c (.w (.s (.int .i64 (.lit (.ofNat 0))))))), some (24, false)⟩,
⟨(some 28), .p (.pick (.t 24) (.c (.w (.s (.bool true)))) (.t 27)), none⟩,
⟨(some 29), .p (.mv (.t 28)), none⟩,
⟨(some 30), .p (.faddr 1 (.t 4)), some (29, false)⟩,
⟨(some 31), .r (.load none (.t 30)), some (29, false)⟩,
⟨(some 32), .p (.len (.t 31)), some (29, false)⟩,
⟨(some 33), .b (.cmp 1 .int (.t 32) (.c (.w (.s (.int .i64 (.lit (.ofNat 32))))))), some (29, false)⟩,
⟨(some 34), .p (.pick (.t 29) (.c (.w (.s (.bool true)))) (.t 33)), none⟩,
⟨(some 35), .p (.mv (.t 34)), none⟩,
⟨(some 36), .b (.call 10 []), some (35, false)⟩,
⟨(some 37), .p (.not (.t 36)), some (35, false)⟩,
⟨(some 38), .p (.pick (.t 35) (.c (.w (.s (.bool true)))) (.t 37)), none⟩]) (.cond (.t 38) (.seq (.reg [
⟨(some 2), .p (.mv (.c (.w (.s (.bool false))))), none⟩]) (.ret)) (.skip))) (.seq (.reg [
⟨(some 39), .p (.build (lrep (.int .u8 (.lit (.ofNat 0))) 32) []), none⟩,
⟨(some 6), .m (.alloc 41 (lrep (.int .u8 (.lit (.ofNat 0))) 32)), none⟩,
⟨none, .b (.store 32 (.t 6) (.t 39)), none⟩]) (.seq (.seq (.reg [
⟨(some 40), .p (.mv (.t 3)), none⟩,
⟨(some 41), .b (.cmp 2 .int (.t 40) (.c (.w (.s (.int .i64 (.lit (.ofNat 1000))))))), none⟩,
⟨(some 42), .p (.mv (.t 41)), none⟩,
⟨(some 43), .p (.mv (.t 3)), some (42, true)⟩,
⟨(some 44), .b (.cmp 5 .int (.t 43) (.c (.w (.s (.int .i64 (.lit (.ofNat 997))))))), some (42, true)⟩,
⟨(some 45), .p (.pick (.t 42) (.t 44) (.c (.w (.s (.bool false))))), none⟩]) (.cond (.t 45) (.reg [
⟨(some 46), .p (.mv (.t 3)), none⟩,
⟨(some 47), .p (.ar 1 (.c (.w (.s (.int .i64 (.lit (.ofNat 1000)))))) (.t 46)), none⟩,
⟨(some 48), .p (.conv .u8 (.t 47)), none⟩,
⟨(some 49), .p (.iaddrA 32 1 (.t 6) (.c (.w (.s (.int .i64 (.lit (.ofNat 0))))))), none⟩,
⟨none, .b (.store 1 (.t 49) (.t 48)), none⟩]) (.skip))) (.seq (.draw [
⟨0, ⟨(some 50), .p (.faddr 1 (.t 4)), none⟩, 0, 0⟩,
⟨1, ⟨(some 51), .r (.load none (.t 50)), none⟩, 1, 0⟩,
⟨2, ⟨(some 52), .r (.cstr (.t 51)), none⟩, 3, 0⟩,
⟨3, ⟨(some 53), .p (.aslice 32 1 (.t 6) none none), none⟩, 0, 0⟩,
⟨4, ⟨(some 54), .r (.cstr (.t 53)), none⟩, 8, 0⟩,
⟨5, ⟨(some 55), .b (.cmp 0 .str (.t 52) (.t 54)), none⟩, 31, 0⟩,
⟨6, ⟨(some 2), .p (.mv (.t 55)), none⟩, 63, 0⟩]) (.ret)))))))⟩
theorem fo3 : ∃ func code hint, FnOk Go.Proofs.Tryz.prog TT 3 fa3 func code hint := ⟨Go.Proofs.Tryz.f3, bodyOf Go.Proofs.Tryz.f3, hintL [(8, [(0, 0), (1, 0), (2, 0), (3, 0), (4, 0), (5, 0), (6, 0)])], ⟨Go.Proofs.Tryz.func3, Go.Proofs.Tryz.call3, by kernel_rfl, by kernel_rfl, by kernel_rfl, by kernel_rfl⟩⟩
/- (quarry/quarrylaw19.Small).n -/
def fa4 : AFunc := ⟨13, [.tmp 4], .seq (.reg [
⟨(some 2), .m (.box 27 (.t 0)), none⟩,
⟨(some 4), .p (.mv (.c (.w (.s (.int .i64 (.lit (.ofNat 0))))))), none⟩]) (.seq (.reg [
⟨(some 5), .p (.faddr 1 (.t 2)), none⟩,
⟨(some 6), .r (.load none (.t 5)), none⟩,
⟨(some 7), .p (.mv (.t 1)), none⟩,
⟨(some 8), .p (.md (.t 6) (.t 7)), none⟩,
⟨(some 9), .p (.mv (.t 1)), none⟩,
⟨(some 10), .p (.ar 0 (.t 8) (.t 9)), none⟩,
⟨(some 11), .p (.mv (.t 1)), none⟩,
⟨(some 12), .p (.md (.t 10) (.t 11)), none⟩,
⟨(some 4), .p (.mv (.t 12)), none⟩]) (.ret))⟩
theorem fo4 : ∃ func code hint, FnOk Go.Proofs.Tryz.prog TT 4 fa4 func code hint := ⟨Go.Proofs.Tryz.f4, bodyOf Go.Proofs.Tryz.f4, hintL [], ⟨Go.Proofs.Tryz.func4, Go.Proofs.Tryz.call4, by kernel_rfl, by kernel_rfl, by kernel_rfl, by kernel_rfl⟩⟩
/- quarry/quarrylaw19.plays -/
def fa5 : AFunc := ⟨76, [.cell 12 (some 24), .tmp 13], .seq (.reg [
⟨(some 10), .m (.box 24 (.t 4)), none⟩,
⟨(some 12), .m (.alloc 32 [.int .i64 (.lit (.ofNat 0)), .nils, .int .u64 (.lit (.ofNat 0)), .int .u8 (.lit (.ofNat 0)), .int .u8 (.lit (.ofNat 0)), .int .u8 (.lit (.ofNat 0)), .int .u8 (.lit (.ofNat 0)), .int .u8 (.lit (.ofNat 0)), .int .u8 (.lit (.ofNat 0)), .int .u8 (.lit (.ofNat 0)), .int .u8 (.lit (.ofNat 0)), .int .u8 (.lit (.ofNat 0)), .int .u8 (.lit (.ofNat 0)), .int .u8 (.lit (.ofNat 0)), .int .u8 (.lit (.ofNat 0)), .int .u8 (.lit (.ofNat 0)), .int .u8 (.lit (.ofNat 0)), .int .u8 (.lit (.ofNat 0)), .int .u8 (.lit (.ofNat 0)), .int .u8 (.lit (.ofNat 0)), .int .u8 (.lit (.ofNat 0)), .int .u8 (.lit (.ofNat 0)), .int .u8 (.lit (.ofNat 0)), .int .u64 (.lit (.ofNat 0))]), none⟩,
⟨(some 13), .p (.mv (.c (.w (.s (.nilp))))), none⟩]) (.seq (.reg [
⟨(some 23), .b (.call 11 []), none⟩,
⟨(some 22), .p (.mv (.t 23)), none⟩,
⟨(some 24), .p (.ext (.t 22) 0), none⟩,
⟨(some 25), .p (.ext (.t 22) 1), none⟩,
⟨(some 26), .p (.ext (.t 22) 2), none⟩,
⟨(some 14), .m (.alloc 30 (lrep (.int .u8 (.lit (.ofNat 0))) 20)), none⟩,
⟨(some 15), .m (.alloc 30 (lrep (.int .u8 (.lit (.ofNat 0))) 20)), none⟩,
⟨(some 16), .m (.alloc 30 (lrep (.int .u8 (.lit (.ofNat 0))) 20)), none⟩,
⟨none, .b (.store 20 (.t 14) (.t 24)), none⟩,
⟨none, .b (.store 20 (.t 15) (.t 25)), none⟩,
⟨none, .b (.store 20 (.t 16) (.t 26)), none⟩]) (.seq (.reg [
⟨(some 27), .r (.load (some 20) (.t 14)), none⟩,
⟨(some 28), .p (.build [.int .u64 (.lit (.ofNat 0)), .int .u64 (.lit (.ofNat 0)), .int .u64 (.lit (.ofNat 0)), .int .u64 (.lit (.ofNat 0))] [(0, 1, (.c (.w (.s (.int .u64 (.lit (.ofNat 1000)))))))]), none⟩,
⟨(some 29), .p (.mv (.t 1)), none⟩,
⟨(some 30), .p (.build [.int .u8 (.lit (.ofNat 0)), .int .u8 (.lit (.ofNat 0)), .int .u8 (.lit (.ofNat 0)), .int .u8 (.lit (.ofNat 0)), .int .u8 (.lit (.ofNat 0)), .int .u8 (.lit (.ofNat 0)), .int .u8 (.lit (.ofNat 0)), .int .u8 (.lit (.ofNat 0)), .int .u8 (.lit (.ofNat 0)), .int .u8 (.lit (.ofNat 0)), .int .u8 (.lit (.ofNat 0)), .int .u8 (.lit (.ofNat 0)), .int .u8 (.lit (.ofNat 0)), .int .u8 (.lit (.ofNat 0)), .int .u8 (.lit (.ofNat 0)), .int .u8 (.lit (.ofNat 0)), .int .u8 (.lit (.ofNat 0)), .int .u8 (.lit (.ofNat 0)), .int .u8 (.lit (.ofNat 0)), .int .u8 (.lit (.ofNat 0)), .int .u64 (.lit (.ofNat 0)), .int .u64 (.lit (.ofNat 0)), .int .u64 (.lit (.ofNat 0)), .int .u64 (.lit (.ofNat 0)), .int .u64 (.lit (.ofNat 0)), .nils, .nils] [(0, 20, (.t 27)), (20, 1, (.c (.w (.s (.int .u64 (.lit (.ofNat 1))))))), (21, 4, (.t 28)), (25, 1, (.t 29))]), none⟩,
⟨(some 31), .r (.load (some 20) (.t 15)), none⟩,
⟨(some 32), .p (.build [.int .u64 (.lit (.ofNat 0)), .int .u64 (.lit (.ofNat 0)), .int .u64 (.lit (.ofNat 0)), .int .u64 (.lit (.ofNat 0))] [(0, 1, (.c (.w (.s (.int .u64 (.lit (.ofNat 1000000)))))))]), none⟩,
⟨(some 33), .p (.build [.int .u8 (.lit (.ofNat 0)), .int .u8 (.lit (.ofNat 0)), .int .u8 (.lit (.ofNat 0)), .int .u8 (.lit (.ofNat 0)), .int .u8 (.lit (.ofNat 0)), .int .u8 (.lit (.ofNat 0)), .int .u8 (.lit (.ofNat 0)), .int .u8 (.lit (.ofNat 0)), .int .u8 (.lit (.ofNat 0)), .int .u8 (.lit (.ofNat 0)), .int .u8 (.lit (.ofNat 0)), .int .u8 (.lit (.ofNat 0)), .int .u8 (.lit (.ofNat 0)), .int .u8 (.lit (.ofNat 0)), .int .u8 (.lit (.ofNat 0)), .int .u8 (.lit (.ofNat 0)), .int .u8 (.lit (.ofNat 0)), .int .u8 (.lit (.ofNat 0)), .int .u8 (.lit (.ofNat 0)), .int .u8 (.lit (.ofNat 0)), .int .u64 (.lit (.ofNat 0)), .int .u64 (.lit (.ofNat 0)), .int .u64 (.lit (.ofNat 0)), .int .u64 (.lit (.ofNat 0)), .int .u64 (.lit (.ofNat 0)), .nils, .nils] [(0, 20, (.t 31)), (20, 1, (.c (.w (.s (.int .u64 (.lit (.ofNat 1))))))), (21, 4, (.t 32))]), none⟩,
⟨(some 34), .m (.bslice 47 2 [.int .u8 (.lit (.ofNat 0)), .int .u8 (.lit (.ofNat 0)), .int .u8 (.lit (.ofNat 0)), .int .u8 (.lit (.ofNat 0)), .int .u8 (.lit (.ofNat 0)), .int .u8 (.lit (.ofNat 0)), .int .u8 (.lit (.ofNat 0)), .int .u8 (.lit (.ofNat 0)), .int .u8 (.lit (.ofNat 0)), .int .u8 (.lit (.ofNat 0)), .int .u8 (.lit (.ofNat 0)), .int .u8 (.lit (.ofNat 0)), .int .u8 (.lit (.ofNat 0)), .int .u8 (.lit (.ofNat 0)), .int .u8 (.lit (.ofNat 0)), .int .u8 (.lit (.ofNat 0)), .int .u8 (.lit (.ofNat 0)), .int .u8 (.lit (.ofNat 0)), .int .u8 (.lit (.ofNat 0)), .int .u8 (.lit (.ofNat 0)), .int .u64 (.lit (.ofNat 0)), .int .u64 (.lit (.ofNat 0)), .int .u64 (.lit (.ofNat 0)), .int .u64 (.lit (.ofNat 0)), .int .u64 (.lit (.ofNat 0)), .nils, .nils] [(0, 27, (.t 30)), (27, 27, (.t 33))]), none⟩,
⟨(some 17), .p (.mv (.t 34)), none⟩]) (.seq (.seq (.reg [
⟨(some 35), .p (.mv (.t 2)), none⟩,
⟨(some 36), .p (.len (.t 35)), none⟩,
⟨(some 37), .b (.cmp 4 .int (.t 36) (.c (.w (.s (.int .i64 (.lit (.ofNat 0))))))), none⟩]) (.cond (.t 37) (.reg [
⟨(some 38), .p (.mv (.t 17)), none⟩,
⟨(some 39), .r (.load (some 20) (.t 16)), none⟩,
⟨(some 40), .p (.mv (.t 2)), none⟩,
⟨(some 41), .p (.build [.int .u8 (.lit (.ofNat 0)), .int .u8 (.lit (.ofNat 0)), .int .u8 (.lit (.ofNat 0)), .int .u8 (.lit (.ofNat 0)), .int .u8 (.lit (.ofNat 0)), .int .u8 (.lit (.ofNat 0)), .int .u8 (.lit (.ofNat 0)), .int .u8 (.lit (.ofNat 0)), .int .u8 (.lit (.ofNat 0)), .int .u8 (.lit (.ofNat 0)), .int .u8 (.lit (.ofNat 0)), .int .u8 (.lit (.ofNat 0)), .int .u8 (.lit (.ofNat 0)), .int .u8 (.lit (.ofNat 0)), .int .u8 (.lit (.ofNat 0)), .int .u8 (.lit (.ofNat 0)), .int .u8 (.lit (.ofNat 0)), .int .u8 (.lit (.ofNat 0)), .int .u8 (.lit (.ofNat 0)), .int .u8 (.lit (.ofNat 0)), .int .u64 (.lit (.ofNat 0)), .int .u64 (.lit (.ofNat 0)), .int .u64 (.lit (.ofNat 0)), .int .u64 (.lit (.ofNat 0)), .int .u64 (.lit (.ofNat 0)), .nils, .nils] [(0, 20, (.t 39)), (20, 1, (.c (.w (.s (.int .u64 (.lit (.ofNat 1))))))), (25, 1, (.t 40))]), none⟩,
⟨(some 42), .m (.bslice 47 1 [.int .u8 (.lit (.ofNat 0)), .int .u8 (.lit (.ofNat 0)), .int .u8 (.lit (.ofNat 0)), .int .u8 (.lit (.ofNat 0)), .int .u8 (.lit (.ofNat 0)), .int .u8 (.lit (.ofNat 0)), .int .u8 (.lit (.ofNat 0)), .int .u8 (.lit (.ofNat 0)), .int .u8 (.lit (.ofNat 0)), .int .u8 (.lit (.ofNat 0)), .int .u8 (.lit (.ofNat 0)), .int .u8 (.lit (.ofNat 0)), .int .u8 (.lit (.ofNat 0)), .int .u8 (.lit (.ofNat 0)), .int .u8 (.lit (.ofNat 0)), .int .u8 (.lit (.ofNat 0)), .int .u8 (.lit (.ofNat 0)), .int .u8 (.lit (.ofNat 0)), .int .u8 (.lit (.ofNat 0)), .int .u8 (.lit (.ofNat 0)), .int .u64 (.lit (.ofNat 0)), .int .u64 (.lit (.ofNat 0)), .int .u64 (.lit (.ofNat 0)), .int .u64 (.lit (.ofNat 0)), .int .u64 (.lit (.ofNat 0)), .nils, .nils] [(0, 27, (.t 41))]), none⟩,
⟨(some 43), .b (.append 47 27 112 (.t 38) (.t 42)), none⟩,
⟨(some 17), .p (.mv (.t 43)), none⟩]) (.skip))) (.seq (.reg [
⟨(some 45), .p (.mv (.t 17)), none⟩,
⟨(some 46), .b (.call 12 [(.t 45)]), none⟩,
⟨(some 44), .p (.mv (.t 46)), none⟩,
⟨(some 47), .p (.ext (.t 44) 0), none⟩,
⟨(some 48), .p (.ext (.t 44) 1), none⟩,
⟨(some 18), .p (.mv (.t 47)), none⟩,
⟨(some 19), .p (.mv (.t 48)), none⟩]) (.seq (.seq (.reg [
⟨(some 49), .p (.mv (.t 18)), none⟩,
⟨(some 50), .b (.cmp 0 .ptr (.t 49) (.c (.w (.s (.nilp))))), none⟩]) (.cond (.t 50) (.seq (.reg [
⟨(some 51), .p (.build [.int .i64 (.lit (.ofNat 0)), .nils, .int .u64 (.lit (.ofNat 0)), .int .u8 (.lit (.ofNat 0)), .int .u8 (.lit (.ofNat 0)), .int .u8 (.lit (.ofNat 0)), .int .u8 (.lit (.ofNat 0)), .int .u8 (.lit (.ofNat 0)), .int .u8 (.lit (.ofNat 0)), .int .u8 (.lit (.ofNat 0)), .int .u8 (.lit (.ofNat 0)), .int .u8 (.lit (.ofNat 0)), .int .u8 (.lit (.ofNat 0)), .int .u8 (.lit (.ofNat 0)), .int .u8 (.lit (.ofNat 0)), .int .u8 (.lit (.ofNat 0)), .int .u8 (.lit (.ofNat 0)), .int .u8 (.lit (.ofNat 0)), .int .u8 (.lit (.ofNat 0)), .int .u8 (.lit (.ofNat 0)), .int .u8 (.lit (.ofNat 0)), .int .u8 (.lit (.ofNat 0)), .int .u8 (.lit (.ofNat 0)), .int .u64 (.lit (.ofNat 0))] [(0, 1, (.c (.w (.s (.int .i64 (.lit (.ofNat 9)))))))]), none⟩,
⟨none, .b (.store 24 (.t 12) (.t 51)), none⟩,
⟨(some 13), .p (.mv (.c (.w (.s (.nilp))))), none⟩]) (.ret)) (.skip))) (.seq (.reg [
⟨(some 53), .p (.mv (.t 0)), none⟩,
⟨(some 54), .p (.build (lrep (.int .u8 (.lit (.ofNat 0))) 32) [(0, 1, (.c (.w (.s (.int .u8 (.lit (.ofNat 1)))))))]), none⟩,
⟨(some 55), .p (.build (lrep (.int .u8 (.lit (.ofNat 0))) 32) [(0, 1, (.c (.w (.s (.int .u8 (.lit (.ofNat 2)))))))]), none⟩,
⟨(some 56), .p (.build (lrep (.int .u8 (.lit (.ofNat 0))) 32) [(0, 1, (.c (.w (.s (.int .u8 (.lit (.ofNat 3)))))))]), none⟩,
⟨(some 57), .m (.bslice 41 3 (lrep (.int .u8 (.lit (.ofNat 0))) 32) [(0, 32, (.t 54)), (32, 32, (.t 55)), (64, 32, (.t 56))]), none⟩,
⟨(some 58), .p (.build [.int .u8 (.lit (.ofNat 0)), .int .u8 (.lit (.ofNat 0)), .int .u8 (.lit (.ofNat 0)), .int .u8 (.lit (.ofNat 0)), .int .u8 (.lit (.ofNat 0)), .int .u8 (.lit (.ofNat 0)), .int .u8 (.lit (.ofNat 0)), .int .u8 (.lit (.ofNat 0)), .int .u8 (.lit (.ofNat 0)), .int .u8 (.lit (.ofNat 0)), .int .u8 (.lit (.ofNat 0)), .int .u8 (.lit (.ofNat 0)), .int .u8 (.lit (.ofNat 0)), .int .u8 (.lit (.ofNat 0)), .int .u8 (.lit (.ofNat 0)), .int .u8 (.lit (.ofNat 0)), .int .u8 (.lit (.ofNat 0)), .int .u8 (.lit (.ofNat 0)), .int .u8 (.lit (.ofNat 0)), .int .u8 (.lit (.ofNat 0)), .int .u64 (.lit (.ofNat 0)), .int .u64 (.lit (.ofNat 0)), .int .u64 (.lit (.ofNat 0)), .int .u64 (.lit (.ofNat 0)), .int .u64 (.lit (.ofNat 0)), .int .u64 (.lit (.ofNat 0)), .int .u64 (.lit (.ofNat 0)), .int .u64 (.lit (.ofNat 0)), .int .u64 (.lit (.ofNat 0)), .int .u64 (.lit (.ofNat 0)), .int .u64 (.lit (.ofNat 0)), .int .u64 (.lit (.ofNat 0)), .int .u64 (.lit (.ofNat 0)), .int .u64 (.lit (.ofNat 0)), .int .u64 (.lit (.ofNat 0)), .int .u64 (.lit (.ofNat 0)), .nils] [(20, 1, (.c (.w (.s (.int .u64 (.lit (.ofNat 1000))))))), (36, 1, (.t 57))]), none⟩,
⟨(some 59), .r (.load (some 20) (.t 15)), none⟩,
⟨(some 60), .p (.build [.int .u8 (.lit (.ofNat 0)), .int .u8 (.lit (.ofNat 0)), .int .u8 (.lit (.ofNat 0)), .int .u8 (.lit (.ofNat 0)), .int .u8 (.lit (.ofNat 0)), .int .u8 (.lit (.ofNat 0)), .int .u8 (.lit (.ofNat 0)), .int .u8 (.lit (.ofNat 0)), .int .u8 (.lit (.ofNat 0)), .int .u8 (.lit (.ofNat 0)), .int .u8 (.lit (.ofNat 0)), .int .u8 (.lit (.ofNat 0)), .int .u8 (.lit (.ofNat 0)), .int .u8 (.lit (.ofNat 0)), .int .u8 (.lit (.ofNat 0)), .int .u8 (.lit (.ofNat 0)), .int .u8 (.lit (.ofNat 0)), .int .u8 (.lit (.ofNat 0)), .int .u8 (.lit (.ofNat 0)), .int .u8 (.lit (.ofNat 0)), .int .u64 (.lit (.ofNat 0)), .int .u64 (.lit (.ofNat 0)), .int .u64 (.lit (.ofNat 0)), .int .u64 (.lit (.ofNat 0)), .nils] [(0, 20, (.t 59))]), none⟩,
⟨(some 61), .p (.mv (.t 18)), none⟩,
⟨(some 62), .r (.load (some 20) (.t 15)), none⟩,
⟨(some 63), .r (.load (some 20) (.t 14)), none⟩,
⟨(some 64), .r (.load (some 4) (.t 10)), none⟩,
⟨(some 65), .p (.mv (.t 3)), none⟩,
⟨(some 66), .p (.mv (.t 5)), none⟩,
⟨(some 67), .p (.build [.bool false, .int .u8 (.lit (.ofNat 0)), .int .u8 (.lit (.ofNat 0)), .int .u8 (.lit (.ofNat 0)), .int .u8 (.lit (.ofNat 0)), .int .u8 (.lit (.ofNat 0)), .int .u8 (.lit (.ofNat 0)), .int .u8 (.lit (.ofNat 0)), .int .u8 (.lit (.ofNat 0)), .int .u8 (.lit (.ofNat 0)), .int .u8 (.lit (.ofNat 0)), .int .u8 (.lit (.ofNat 0)), .int .u8 (.lit (.ofNat 0)), .int .u8 (.lit (.ofNat 0)), .int .u8 (.lit (.ofNat 0)), .int .u8 (.lit (.ofNat 0)), .int .u8 (.lit (.ofNat 0)), .int .u8 (.lit (.ofNat 0)), .int .u8 (.lit (.ofNat 0)), .int .u8 (.lit (.ofNat 0)), .int .u8 (.lit (.ofNat 0)), .int .u8 (.lit (.ofNat 0)), .int .u8 (.lit (.ofNat 0)), .int .u8 (.lit (.ofNat 0)), .int .u8 (.lit (.ofNat 0)), .int .u8 (.lit (.ofNat 0)), .int .u8 (.lit (.ofNat 0)), .int .u8 (.lit (.ofNat 0)), .int .u8 (.lit (.ofNat 0)), .int .u8 (.lit (.ofNat 0)), .int .u8 (.lit (.ofNat 0)), .int .u8 (.lit (.ofNat 0)), .int .u8 (.lit (.ofNat 0)), .int .u8 (.lit (.ofNat 0)), .int .u8 (.lit (.ofNat 0)), .int .u8 (.lit (.ofNat 0)), .int .u8 (.lit (.ofNat 0)), .int .u8 (.lit (.ofNat 0)), .int .u8 (.lit (.ofNat 0)), .int .u8 (.lit (.ofNat 0)), .int .u8 (.lit (.ofNat 0)), .int .u64 (.lit (.ofNat 0)), .int .u64 (.lit (.ofNat 0)), .int .u64 (.lit (.ofNat 0)), .int .u64 (.lit (.ofNat 0)), .nils, .int .u64 (.lit (.ofNat 0)), .bool false, .int .i64 (.lit (.ofNat 0))] [(1, 20, (.t 62)), (21, 20, (.t 63)), (41, 4, (.t 64)), (45, 1, (.t 65)), (46, 1, (.t 66))]), none⟩,
⟨(some 68), .b (.call 13 [(.t 53), (.t 58), (.t 60), (.t 61), (.t 67)]), none⟩,
⟨(some 52), .p (.mv (.t 68)), none⟩,
⟨(some 69), .p (.ext (.t 52) 0), none⟩,
⟨(some 70), .p (.ext (.t 52) 1), none⟩,
⟨(some 20), .m (.alloc 32 [.int .i64 (.lit (.ofNat 0)), .nils, .int .u64 (.lit (.ofNat 0)), .int .u8 (.lit (.ofNat 0)), .int .u8 (.lit (.ofNat 0)), .int .u8 (.lit (.ofNat 0)), .int .u8 (.lit (.ofNat 0)), .int .u8 (.lit (.ofNat 0)), .int .u8 (.lit (.ofNat 0)), .int .u8 (.lit (.ofNat 0)), .int .u8 (.lit (.ofNat 0)), .int .u8 (.lit (.ofNat 0)), .int .u8 (.lit (.ofNat 0)), .int .u8 (.lit (.ofNat 0)), .int .u8 (.lit (.ofNat 0)), .int .u8 (.lit (.ofNat 0)), .int .u8 (.lit (.ofNat 0)), .int .u8 (.lit (.ofNat 0)), .int .u8 (.lit (.ofNat 0)), .int .u8 (.lit (.ofNat 0)), .int .u8 (.lit (.ofNat 0)), .int .u8 (.lit (.ofNat 0)), .int .u8 (.lit (.ofNat 0)), .int .u64 (.lit (.ofNat 0))]), none⟩,
⟨none, .b (.store 24 (.t 20) (.t 69)), none⟩,
⟨(some 21), .p (.mv (.t 70)), none⟩]) (.seq (.seq (.reg [
⟨(some 71), .p (.mv (.t 21)), none⟩,
⟨(some 72), .b (.cmp 1 .int (.t 71) (.c (.w (.s (.int .i64 (.lit (.ofNat 0))))))), none⟩]) (.cond (.t 72) (.seq (.reg [
⟨(some 73), .p (.build [.int .i64 (.lit (.ofNat 0)), .nils, .int .u64 (.lit (.ofNat 0)), .int .u8 (.lit (.ofNat 0)), .int .u8 (.lit (.ofNat 0)), .int .u8 (.lit (.ofNat 0)), .int .u8 (.lit (.ofNat 0)), .int .u8 (.lit (.ofNat 0)), .int .u8 (.lit (.ofNat 0)), .int .u8 (.lit (.ofNat 0)), .int .u8 (.lit (.ofNat 0)), .int .u8 (.lit (.ofNat 0)), .int .u8 (.lit (.ofNat 0)), .int .u8 (.lit (.ofNat 0)), .int .u8 (.lit (.ofNat 0)), .int .u8 (.lit (.ofNat 0)), .int .u8 (.lit (.ofNat 0)), .int .u8 (.lit (.ofNat 0)), .int .u8 (.lit (.ofNat 0)), .int .u8 (.lit (.ofNat 0)), .int .u8 (.lit (.ofNat 0)), .int .u8 (.lit (.ofNat 0)), .int .u8 (.lit (.ofNat 0)), .int .u64 (.lit (.ofNat 0))] [(0, 1, (.c (.w (.s (.int .i64 (.lit (.ofNat 9)))))))]), none⟩,
⟨none, .b (.store 24 (.t 12) (.t 73)), none⟩,
⟨(some 13), .p (.mv (.c (.w (.s (.nilp))))), none⟩]) (.ret)) (.skip))) (.seq (.reg [
⟨(some 74), .r (.load (some 24) (.t 20)), none⟩,
⟨(some 75), .p (.mv (.t 18)), none⟩,
⟨none, .b (.store 24 (.t 12) (.t 74)), none⟩,
⟨(some 13), .p (.mv (.t 75)), none⟩]) (.ret)))))))))⟩
theorem fo5 : ∃ func code hint, FnOk Go.Proofs.Tryz.prog TT 5 fa5 func code hint := ⟨Go.Proofs.Tryz.f5, bodyOf Go.Proofs.Tryz.f5, hintL [], ⟨Go.Proofs.Tryz.func5, Go.Proofs.Tryz.call5, by kernel_rfl, by kernel_rfl, by kernel_rfl, by kernel_rfl⟩⟩
/- (quarry/quarrylaw19.Small).fork -/
def fa6 : AFunc := ⟨8, [.tmp 2], .seq (.reg [
⟨(some 1), .m (.box 27 (.t 0)), none⟩,
⟨(some 2), .p (.mv (.c (.w (.s (.int .i64 (.lit (.ofNat 0))))))), none⟩]) (.seq (.reg [
⟨(some 3), .p (.faddr 0 (.t 1)), none⟩,
⟨(some 4), .r (.load none (.t 3)), none⟩,
⟨(some 5), .p (.md (.t 4) (.c (.w (.s (.int .i64 (.lit (.ofNat 16))))))), none⟩,
⟨(some 6), .p (.ar 0 (.t 5) (.c (.w (.s (.int .i64 (.lit (.ofNat 16))))))), none⟩,
⟨(some 7), .p (.md (.t 6) (.c (.w (.s (.int .i64 (.lit (.ofNat 16))))))), none⟩,
⟨(some 2), .p (.mv (.t 7)), none⟩]) (.ret))⟩
theorem fo6 : ∃ func code hint, FnOk Go.Proofs.Tryz.prog TT 6 fa6 func code hint := ⟨Go.Proofs.Tryz.f6, bodyOf Go.Proofs.Tryz.f6, hintL [], ⟨Go.Proofs.Tryz.func6, Go.Proofs.Tryz.call6, by kernel_rfl, by kernel_rfl, by kernel_rfl, by kernel_rfl⟩⟩
/- quarry/quarrylaw19.cat -/
def fa7 : AFunc := ⟨18, [.tmp 2], .seq (.reg [
⟨(some 2), .p (.mv (.c (.w (.s (.nils))))), none⟩]) (.seq (.reg [
⟨(some 3), .p (.mv (.c (.w (.s (.nils))))), none⟩]) (.seq (.seq (.reg [
⟨(some 4), .p (.mv (.c (.w (.s (.int .i64 (.lit (.ofNat 0))))))), none⟩]) (.block 0 (.loop (.seq (.seq (.reg [
⟨(some 5), .p (.mv (.t 4)), none⟩,
⟨(some 6), .p (.mv (.t 0)), none⟩,
⟨(some 7), .p (.len (.t 6)), none⟩,
⟨(some 8), .b (.cmp 2 .int (.t 5) (.t 7)), none⟩]) (.cond (.t 8) (.skip) (.exit 0))) (.seq (.block 1 (.reg [
⟨(some 11), .p (.mv (.t 3)), none⟩,
⟨(some 12), .p (.mv (.t 0)), none⟩,
⟨(some 13), .p (.mv (.t 4)), none⟩,
⟨(some 14), .p (.iaddrS 1 (.t 12) (.t 13)), none⟩,
⟨(some 15), .r (.load none (.t 14)), none⟩,
⟨(some 16), .b (.append 5 1 1 (.t 11) (.t 15)), none⟩,
⟨(some 3), .p (.mv (.t 16)), none⟩])) (.reg [
⟨(some 9), .p (.mv (.t 4)), none⟩,
⟨(some 10), .p (.ar 0 (.t 9) (.c (.w (.s (.int .i64 (.lit (.ofNat 1))))))), none⟩,
⟨(some 4), .p (.mv (.t 10)), none⟩])))))) (.seq (.reg [
⟨(some 17), .p (.mv (.t 3)), none⟩,
⟨(some 2), .p (.mv (.t 17)), none⟩]) (.ret))))⟩
theorem fo7 : ∃ func code hint, FnOk Go.Proofs.Tryz.prog TT 7 fa7 func code hint := ⟨Go.Proofs.Tryz.f7, bodyOf Go.Proofs.Tryz.f7, hintL [], ⟨Go.Proofs.Tryz.func7, Go.Proofs.Tryz.call7, by kernel_rfl, by kernel_rfl, by kernel_rfl, by kernel_rfl⟩⟩
/- quarry/quarrylaw19.num -/
def fa8 : AFunc := ⟨7, [.tmp 2], .seq (.reg [
⟨(some 2), .p (.mv (.c (.w (.s (.nils))))), none⟩]) (.seq (.reg [
⟨(some 3), .p (.mv (.t 0)), none⟩,
⟨(some 4), .p (.conv .u64 (.t 3)), none⟩,
⟨(some 5), .p (.build [.int .u64 (.lit (.ofNat 0)), .int .u64 (.lit (.ofNat 0)), .int .u64 (.lit (.ofNat 0)), .int .u64 (.lit (.ofNat 0))] [(0, 1, (.t 4))]), none⟩,
⟨(some 6), .b (.call 14 [(.t 5)]), none⟩,
⟨(some 2), .p (.mv (.t 6)), none⟩]) (.ret))⟩
theorem fo8 : ∃ func code hint, FnOk Go.Proofs.Tryz.prog TT 8 fa8 func code hint := ⟨Go.Proofs.Tryz.f8, bodyOf Go.Proofs.Tryz.f8, hintL [], ⟨Go.Proofs.Tryz.func8, Go.Proofs.Tryz.call8, by kernel_rfl, by kernel_rfl, by kernel_rfl, by kernel_rfl⟩⟩
/- quarry/quarrylaw19.ret -/
def fa9 : AFunc := ⟨9, [.tmp 2], .seq (.reg [
⟨(some 2), .p (.mv (.c (.w (.s (.nils))))), none⟩]) (.seq (.reg [
⟨(some 3), .p (.mv (.t 0)), none⟩,
⟨(some 4), .b (.call 8 [(.t 3)]), none⟩,
⟨(some 5), .b (.call 8 [(.c (.w (.s (.int .i64 (.lit (.ofNat 0))))))]), none⟩,
⟨(some 6), .m (.bslice 5 1 [.int .u8 (.lit (.ofNat 0))] [(0, 1, (.c (.w (.s (.int .u8 (.lit (.ofNat 243)))))))]), none⟩,
⟨(some 7), .m (.bslice 25 3 [.nils] [(0, 1, (.t 4)), (1, 1, (.t 5)), (2, 1, (.t 6))]), none⟩,
⟨(some 8), .b (.call 7 [(.t 7)]), none⟩,
⟨(some 2), .p (.mv (.t 8)), none⟩]) (.ret))⟩
theorem fo9 : ∃ func code hint, FnOk Go.Proofs.Tryz.prog TT 9 fa9 func code hint := ⟨Go.Proofs.Tryz.f9, bodyOf Go.Proofs.Tryz.f9, hintL [], ⟨Go.Proofs.Tryz.func9, Go.Proofs.Tryz.call9, by kernel_rfl, by kernel_rfl, by kernel_rfl, by kernel_rfl⟩⟩
/- quarry/quarrylaw19.wakes -/
def fa10 : AFunc := ⟨57, [.tmp 0], .seq (.reg [
⟨(some 0), .p (.mv (.c (.w (.s (.bool false))))), none⟩]) (.seq (.reg [
⟨(some 7), .p (.build (lrep (.int .u8 (.lit (.ofNat 0))) 20) [(0, 1, (.c (.w (.s (.int .u8 (.lit (.ofNat 170)))))))]), none⟩,
⟨(some 8), .p (.build (lrep (.int .u8 (.lit (.ofNat 0))) 20) [(0, 1, (.c (.w (.s (.int .u8 (.lit (.ofNat 187)))))))]), none⟩,
⟨(some 1), .m (.alloc 30 (lrep (.int .u8 (.lit (.ofNat 0))) 20)), none⟩,
⟨(some 2), .m (.alloc 30 (lrep (.int .u8 (.lit (.ofNat 0))) 20)), none⟩,
⟨none, .b (.store 20 (.t 1) (.t 7)), none⟩,
⟨none, .b (.store 20 (.t 2) (.t 8)), none⟩]) (.seq (.reg [
⟨(some 10), .r (.load (some 20) (.t 1)), none⟩,
⟨(some 11), .m (.bslice 5 13 [.int .u8 (.lit (.ofNat 0))] [(0, 1, (.c (.w (.s (.int .u8 (.lit (.ofNat 96))))))), (1, 1, (.c (.w (.s (.int .u8 (.lit (.ofNat 5))))))), (2, 1, (.c (.w (.s (.int .u8 (.lit (.ofNat 96))))))), (3, 1, (.c (.w (.s (.int .u8 (.lit (.ofNat 3))))))), (4, 1, (.c (.w (.s (.int .u8 (.lit (.ofNat 1))))))), (5, 1, (.c (.w (.s (.int .u8 (.lit (.ofNat 96))))))), (6, 1, (.c (.w (.s (.int .u8 (.lit (.ofNat 0))))))), (7, 1, (.c (.w (.s (.int .u8 (.lit (.ofNat 82))))))), (8, 1, (.c (.w (.s (.int .u8 (.lit (.ofNat 96))))))), (9, 1, (.c (.w (.s (.int .u8 (.lit (.ofNat 32))))))), (10, 1, (.c (.w (.s (.int .u8 (.lit (.ofNat 96))))))), (11, 1, (.c (.w (.s (.int .u8 (.lit (.ofNat 0))))))), (12, 1, (.c (.w (.s (.int .u8 (.lit (.ofNat 243)))))))]), none⟩,
⟨(some 12), .p (.build [.int .u8 (.lit (.ofNat 0)), .int .u8 (.lit (.ofNat 0)), .int .u8 (.lit (.ofNat 0)), .int .u8 (.lit (.ofNat 0)), .int .u8 (.lit (.ofNat 0)), .int .u8 (.lit (.ofNat 0)), .int .u8 (.lit (.ofNat 0)), .int .u8 (.lit (.ofNat 0)), .int .u8 (.lit (.ofNat 0)), .int .u8 (.lit (.ofNat 0)), .int .u8 (.lit (.ofNat 0)), .int .u8 (.lit (.ofNat 0)), .int .u8 (.lit (.ofNat 0)), .int .u8 (.lit (.ofNat 0)), .int .u8 (.lit (.ofNat 0)), .int .u8 (.lit (.ofNat 0)), .int .u8 (.lit (.ofNat 0)), .int .u8 (.lit (.ofNat 0)), .int .u8 (.lit (.ofNat 0)), .int .u8 (.lit (.ofNat 0)), .int .u64 (.lit (.ofNat 0)), .int .u64 (.lit (.ofNat 0)), .int .u64 (.lit (.ofNat 0)), .int .u64 (.lit (.ofNat 0)), .int .u64 (.lit (.ofNat 0)), .nils, .nils] [(0, 20, (.t 10)), (25, 1, (.t 11))]), none⟩,
⟨(some 13), .r (.load (some 20) (.t 2)), none⟩,
⟨(some 14), .p (.build [.int .u64 (.lit (.ofNat 0)), .int .u64 (.lit (.ofNat 0)), .int .u64 (.lit (.ofNat 0)), .int .u64 (.lit (.ofNat 0))] [(0, 1, (.c (.w (.s (.int .u64 (.lit (.ofNat 100)))))))]), none⟩,
⟨(some 15), .p (.build [.int .u8 (.lit (.ofNat 0)), .int .u8 (.lit (.ofNat 0)), .int .u8 (.lit (.ofNat 0)), .int .u8 (.lit (.ofNat 0)), .int .u8 (.lit (.ofNat 0)), .int .u8 (.lit (.ofNat 0)), .int .u8 (.lit (.ofNat 0)), .int .u8 (.lit (.ofNat 0)), .int .u8 (.lit (.ofNat 0)), .int .u8 (.lit (.ofNat 0)), .int .u8 (.lit (.ofNat 0)), .int .u8 (.lit (.ofNat 0)), .int .u8 (.lit (.ofNat 0)), .int .u8 (.lit (.ofNat 0)), .int .u8 (.lit (.ofNat 0)), .int .u8 (.lit (.ofNat 0)), .int .u8 (.lit (.ofNat 0)), .int .u8 (.lit (.ofNat 0)), .int .u8 (.lit (.ofNat 0)), .int .u8 (.lit (.ofNat 0)), .int .u64 (.lit (.ofNat 0)), .int .u64 (.lit (.ofNat 0)), .int .u64 (.lit (.ofNat 0)), .int .u64 (.lit (.ofNat 0)), .int .u64 (.lit (.ofNat 0)), .nils, .nils] [(0, 20, (.t 13)), (21, 4, (.t 14))]), none⟩,
⟨(some 16), .m (.bslice 47 2 [.int .u8 (.lit (.ofNat 0)), .int .u8 (.lit (.ofNat 0)), .int .u8 (.lit (.ofNat 0)), .int .u8 (.lit (.ofNat 0)), .int .u8 (.lit (.ofNat 0)), .int .u8 (.lit (.ofNat 0)), .int .u8 (.lit (.ofNat 0)), .int .u8 (.lit (.ofNat 0)), .int .u8 (.lit (.ofNat 0)), .int .u8 (.lit (.ofNat 0)), .int .u8 (.lit (.ofNat 0)), .int .u8 (.lit (.ofNat 0)), .int .u8 (.lit (.ofNat 0)), .int .u8 (.lit (.ofNat 0)), .int .u8 (.lit (.ofNat 0)), .int .u8 (.lit (.ofNat 0)), .int .u8 (.lit (.ofNat 0)), .int .u8 (.lit (.ofNat 0)), .int .u8 (.lit (.ofNat 0)), .int .u8 (.lit (.ofNat 0)), .int .u64 (.lit (.ofNat 0)), .int .u64 (.lit (.ofNat 0)), .int .u64 (.lit (.ofNat 0)), .int .u64 (.lit (.ofNat 0)), .int .u64 (.lit (.ofNat 0)), .nils, .nils] [(0, 27, (.t 12)), (27, 27, (.t 15))]), none⟩,
⟨(some 17), .b (.call 12 [(.t 16)]), none⟩,
⟨(some 9), .p (.mv (.t 17)), none⟩,
⟨(some 18), .p (.ext (.t 9) 0), none⟩,
⟨(some 19), .p (.ext (.t 9) 1), none⟩,
⟨(some 3), .p (.mv (.t 18)), none⟩,
⟨(some 4), .p (.mv (.t 19)), none⟩]) (.seq (.seq (.reg [
⟨(some 20), .p (.mv (.t 3)), none⟩,
⟨(some 21), .b (.cmp 0 .ptr (.t 20) (.c (.w (.s (.nilp))))), none⟩]) (.cond (.t 21) (.seq (.reg [
⟨(some 0), .p (.mv (.c (.w (.s (.bool false))))), none⟩]) (.ret)) (.skip))) (.seq (.reg [
⟨(some 23), .p (.build [.int .u8 (.lit (.ofNat 0)), .int .u8 (.lit (.ofNat 0)), .int .u8 (.lit (.ofNat 0)), .int .u8 (.lit (.ofNat 0)), .int .u8 (.lit (.ofNat 0)), .int .u8 (.lit (.ofNat 0)), .int .u8 (.lit (.ofNat 0)), .int .u8 (.lit (.ofNat 0)), .int .u8 (.lit (.ofNat 0)), .int .u8 (.lit (.ofNat 0)), .int .u8 (.lit (.ofNat 0)), .int .u8 (.lit (.ofNat 0)), .int .u8 (.lit (.ofNat 0)), .int .u8 (.lit (.ofNat 0)), .int .u8 (.lit (.ofNat 0)), .int .u8 (.lit (.ofNat 0)), .int .u8 (.lit (.ofNat 0)), .int .u8 (.lit (.ofNat 0)), .int .u8 (.lit (.ofNat 0)), .int .u8 (.lit (.ofNat 0)), .int .u64 (.lit (.ofNat 0)), .int .u64 (.lit (.ofNat 0)), .int .u64 (.lit (.ofNat 0)), .int .u64 (.lit (.ofNat 0)), .int .u64 (.lit (.ofNat 0)), .int .u64 (.lit (.ofNat 0)), .int .u64 (.lit (.ofNat 0)), .int .u64 (.lit (.ofNat 0)), .int .u64 (.lit (.ofNat 0)), .int .u64 (.lit (.ofNat 0)), .int .u64 (.lit (.ofNat 0)), .int .u64 (.lit (.ofNat 0)), .int .u64 (.lit (.ofNat 0)), .int .u64 (.lit (.ofNat 0)), .int .u64 (.lit (.ofNat 0)), .int .u64 (.lit (.ofNat 0)), .nils] []), none⟩,
⟨(some 24), .p (.build [.int .u8 (.lit (.ofNat 0)), .int .u8 (.lit (.ofNat 0)), .int .u8 (.lit (.ofNat 0)), .int .u8 (.lit (.ofNat 0)), .int .u8 (.lit (.ofNat 0)), .int .u8 (.lit (.ofNat 0)), .int .u8 (.lit (.ofNat 0)), .int .u8 (.lit (.ofNat 0)), .int .u8 (.lit (.ofNat 0)), .int .u8 (.lit (.ofNat 0)), .int .u8 (.lit (.ofNat 0)), .int .u8 (.lit (.ofNat 0)), .int .u8 (.lit (.ofNat 0)), .int .u8 (.lit (.ofNat 0)), .int .u8 (.lit (.ofNat 0)), .int .u8 (.lit (.ofNat 0)), .int .u8 (.lit (.ofNat 0)), .int .u8 (.lit (.ofNat 0)), .int .u8 (.lit (.ofNat 0)), .int .u8 (.lit (.ofNat 0)), .int .u64 (.lit (.ofNat 0)), .int .u64 (.lit (.ofNat 0)), .int .u64 (.lit (.ofNat 0)), .int .u64 (.lit (.ofNat 0)), .nils] []), none⟩,
⟨(some 25), .p (.mv (.t 3)), none⟩,
⟨(some 26), .r (.load (some 20) (.t 2)), none⟩,
⟨(some 27), .r (.load (some 20) (.t 1)), none⟩,
⟨(some 28), .p (.build [.bool false, .int .u8 (.lit (.ofNat 0)), .int .u8 (.lit (.ofNat 0)), .int .u8 (.lit (.ofNat 0)), .int .u8 (.lit (.ofNat 0)), .int .u8 (.lit (.ofNat 0)), .int .u8 (.lit (.ofNat 0)), .int .u8 (.lit (.ofNat 0)), .int .u8 (.lit (.ofNat 0)), .int .u8 (.lit (.ofNat 0)), .int .u8 (.lit (.ofNat 0)), .int .u8 (.lit (.ofNat 0)), .int .u8 (.lit (.ofNat 0)), .int .u8 (.lit (.ofNat 0)), .int .u8 (.lit (.ofNat 0)), .int .u8 (.lit (.ofNat 0)), .int .u8 (.lit (.ofNat 0)), .int .u8 (.lit (.ofNat 0)), .int .u8 (.lit (.ofNat 0)), .int .u8 (.lit (.ofNat 0)), .int .u8 (.lit (.ofNat 0)), .int .u8 (.lit (.ofNat 0)), .int .u8 (.lit (.ofNat 0)), .int .u8 (.lit (.ofNat 0)), .int .u8 (.lit (.ofNat 0)), .int .u8 (.lit (.ofNat 0)), .int .u8 (.lit (.ofNat 0)), .int .u8 (.lit (.ofNat 0)), .int .u8 (.lit (.ofNat 0)), .int .u8 (.lit (.ofNat 0)), .int .u8 (.lit (.ofNat 0)), .int .u8 (.lit (.ofNat 0)), .int .u8 (.lit (.ofNat 0)), .int .u8 (.lit (.ofNat 0)), .int .u8 (.lit (.ofNat 0)), .int .u8 (.lit (.ofNat 0)), .int .u8 (.lit (.ofNat 0)), .int .u8 (.lit (.ofNat 0)), .int .u8 (.lit (.ofNat 0)), .int .u8 (.lit (.ofNat 0)), .int .u8 (.lit (.ofNat 0)), .int .u64 (.lit (.ofNat 0)), .int .u64 (.lit (.ofNat 0)), .int .u64 (.lit (.ofNat 0)), .int .u64 (.lit (.ofNat 0)), .nils, .int .u64 (.lit (.ofNat 0)), .bool false, .int .i64 (.lit (.ofNat 0))] [(1, 20, (.t 26)), (21, 20, (.t 27)), (46, 1, (.c (.w (.s (.int .u64 (.lit (.ofNat 100000)))))))]), none⟩,
⟨(some 29), .b (.call 13 [(.c (.w (.s (.int .i64 (.lit (.ofNat 0)))))), (.t 23), (.t 24), (.t 25), (.t 28)]), none⟩,
⟨(some 22), .p (.mv (.t 29)), none⟩,
⟨(some 30), .p (.ext (.t 22) 0), none⟩,
⟨(some 31), .p (.ext (.t 22) 1), none⟩,
⟨(some 5), .m (.alloc 32 [.int .i64 (.lit (.ofNat 0)), .nils, .int .u64 (.lit (.ofNat 0)), .int .u8 (.lit (.ofNat 0)), .int .u8 (.lit (.ofNat 0)), .int .u8 (.lit (.ofNat 0)), .int .u8 (.lit (.ofNat 0)), .int .u8 (.lit (.ofNat 0)), .int .u8 (.lit (.ofNat 0)), .int .u8 (.lit (.ofNat 0)), .int .u8 (.lit (.ofNat 0)), .int .u8 (.lit (.ofNat 0)), .int .u8 (.lit (.ofNat 0)), .int .u8 (.lit (.ofNat 0)), .int .u8 (.lit (.ofNat 0)), .int .u8 (.lit (.ofNat 0)), .int .u8 (.lit (.ofNat 0)), .int .u8 (.lit (.ofNat 0)), .int .u8 (.lit (.ofNat 0)), .int .u8 (.lit (.ofNat 0)), .int .u8 (.lit (.ofNat 0)), .int .u8 (.lit (.ofNat 0)), .int .u8 (.lit (.ofNat 0)), .int .u64 (.lit (.ofNat 0))]), none⟩,
⟨none, .b (.store 24 (.t 5) (.t 30)), none⟩,
⟨(some 6), .p (.mv (.t 31)), none⟩]) (.seq (.reg [
⟨(some 32), .p (.mv (.t 6)), none⟩,
⟨(some 33), .b (.cmp 0 .int (.t 32) (.c (.w (.s (.int .i64 (.lit (.ofNat 0))))))), none⟩,
⟨(some 34), .p (.mv (.t 33)), none⟩,
⟨(some 35), .p (.faddr 0 (.t 5)), some (34, true)⟩,
⟨(some 36), .r (.load none (.t 35)), some (34, true)⟩,
⟨(some 37), .b (.cmp 0 .int (.t 36) (.c (.w (.s (.int .i64 (.lit (.ofNat 0))))))), some (34, true)⟩,
⟨(some 38), .p (.pick (.t 34) (.t 37) (.c (.w (.s (.bool false))))), none⟩,
⟨(some 39), .p (.mv (.t 38)), none⟩,
⟨(some 40), .p (.faddr 1 (.t 5)), some (39, true)⟩,
⟨(some 41), .r (.load none (.t 40)), some (39, true)⟩,
⟨(some 42), .p (.len (.t 41)), some (39, true)⟩,
⟨(some 43), .b (.cmp 0 .int (.t 42) (.c (.w (.s (.int .i64 (.lit (.ofNat 32))))))), some (39, true)⟩,
⟨(some 44), .p (.pick (.t 39) (.t 43) (.c (.w (.s (.bool false))))), none⟩,
⟨(some 45), .p (.mv (.t 44)), none⟩,
⟨(some 46), .p (.faddr 1 (.t 5)), some (45, true)⟩,
⟨(some 47), .r (.load none (.t 46)), some (45, true)⟩,
⟨(some 48), .p (.iaddrS 1 (.t 47) (.c (.w (.s (.int .i64 (.lit (.ofNat 31))))))), some (45, true)⟩,
⟨(some 49), .r (.load none (.t 48)), some (45, true)⟩,
⟨(some 50), .b (.cmp 0 .int (.t 49) (.c (.w (.s (.int .u8 (.lit (.ofNat 8))))))), some (45, true)⟩,
⟨(some 51), .p (.pick (.t 45) (.t 50) (.c (.w (.s (.bool false))))), none⟩,
⟨(some 52), .p (.mv (.t 51)), none⟩,
⟨(some 53), .p (.faddr 23 (.t 5)), some (52, true)⟩,
⟨(some 54), .r (.load none (.t 53)), some (52, true)⟩,
⟨(some 55), .b (.cmp 0 .int (.t 54) (.c (.w (.s (.int .u64 (.lit (.ofNat 8))))))), some (52, true)⟩,
⟨(some 56), .p (.pick (.t 52) (.t 55) (.c (.w (.s (.bool false))))), none⟩,
⟨(some 0), .p (.mv (.t 56)), none⟩]) (.ret))))))⟩
theorem fo10 : ∃ func code hint, FnOk Go.Proofs.Tryz.prog TT 10 fa10 func code hint := ⟨Go.Proofs.Tryz.f10, bodyOf Go.Proofs.Tryz.f10, hintL [], ⟨Go.Proofs.Tryz.func10, Go.Proofs.Tryz.call10, by kernel_rfl, by kernel_rfl, by kernel_rfl, by kernel_rfl⟩⟩
/- quarry/quarrylaw19.who -/
def fa11 : AFunc := ⟨6, [.cell 0 (some 20), .cell 1 (some 20), .cell 2 (some 20)], .seq (.reg [
⟨(some 0), .m (.alloc 30 (lrep (.int .u8 (.lit (.ofNat 0))) 20)), none⟩,
⟨(some 1), .m (.alloc 30 (lrep (.int .u8 (.lit (.ofNat 0))) 20)), none⟩,
⟨(some 2), .m (.alloc 30 (lrep (.int .u8 (.lit (.ofNat 0))) 20)), none⟩]) (.seq (.reg [
⟨(some 3), .p (.build (lrep (.int .u8 (.lit (.ofNat 0))) 20) [(0, 1, (.c (.w (.s (.int .u8 (.lit (.ofNat 170)))))))]), none⟩,
⟨(some 4), .p (.build (lrep (.int .u8 (.lit (.ofNat 0))) 20) [(0, 1, (.c (.w (.s (.int .u8 (.lit (.ofNat 187)))))))]), none⟩,
⟨(some 5), .p (.build (lrep (.int .u8 (.lit (.ofNat 0))) 20) [(0, 1, (.c (.w (.s (.int .u8 (.lit (.ofNat 204)))))))]), none⟩,
⟨none, .b (.store 20 (.t 0) (.t 3)), none⟩,
⟨none, .b (.store 20 (.t 1) (.t 4)), none⟩,
⟨none, .b (.store 20 (.t 2) (.t 5)), none⟩]) (.ret))⟩
theorem fo11 : ∃ func code hint, FnOk Go.Proofs.Tryz.prog TT 11 fa11 func code hint := ⟨Go.Proofs.Tryz.f11, bodyOf Go.Proofs.Tryz.f11, hintL [], ⟨Go.Proofs.Tryz.func11, Go.Proofs.Tryz.call11, by kernel_rfl, by kernel_rfl, by kernel_rfl, by kernel_rfl⟩⟩
/- quarry/state.Load -/
def fa12 : AFunc := ⟨70, [.tmp 2, .tmp 3], .seq (.reg [
⟨(some 2), .p (.mv (.c (.w (.s (.nilp))))), none⟩,
⟨(some 3), .p (.mv (.c (.w (.s (.int .i64 (.lit (.ofNat 0))))))), none⟩]) (.seq (.reg [
⟨(some 10), .b (.call 15 []), none⟩,
⟨(some 4), .p (.mv (.t 10)), none⟩]) (.seq (.seq (.reg [
⟨(some 11), .p (.mv (.t 0)), none⟩,
⟨(some 12), .p (.len (.t 11)), none⟩,
⟨(some 13), .p (.mv (.c (.w (.s (.int .i64 (.lit (.ofNat 0))))))), none⟩]) (.block 0 (.loop (.seq (.reg [
⟨(some 14), .b (.cmp 2 .int (.t 13) (.t 12)), none⟩]) (.seq (.cond (.t 14) (.skip) (.exit 0)) (.seq (.block 1 (.seq (.reg [
⟨(some 15), .p (.iaddrS 27 (.t 11) (.t 13)), none⟩,
⟨(some 16), .r (.load (some 27) (.t 15)), none⟩,
⟨(some 6), .m (.alloc 47 [.int .u8 (.lit (.ofNat 0)), .int .u8 (.lit (.ofNat 0)), .int .u8 (.lit (.ofNat 0)), .int .u8 (.lit (.ofNat 0)), .int .u8 (.lit (.ofNat 0)), .int .u8 (.lit (.ofNat 0)), .int .u8 (.lit (.ofNat 0)), .int .u8 (.lit (.ofNat 0)), .int .u8 (.lit (.ofNat 0)), .int .u8 (.lit (.ofNat 0)), .int .u8 (.lit (.ofNat 0)), .int .u8 (.lit (.ofNat 0)), .int .u8 (.lit (.ofNat 0)), .int .u8 (.lit (.ofNat 0)), .int .u8 (.lit (.ofNat 0)), .int .u8 (.lit (.ofNat 0)), .int .u8 (.lit (.ofNat 0)), .int .u8 (.lit (.ofNat 0)), .int .u8 (.lit (.ofNat 0)), .int .u8 (.lit (.ofNat 0)), .int .u64 (.lit (.ofNat 0)), .int .u64 (.lit (.ofNat 0)), .int .u64 (.lit (.ofNat 0)), .int .u64 (.lit (.ofNat 0)), .int .u64 (.lit (.ofNat 0)), .nils, .nils]), none⟩,
⟨none, .b (.store 27 (.t 6) (.t 16)), none⟩]) (.seq (.seq (.reg [
⟨(some 17), .p (.mv (.t 4)), none⟩,
⟨(some 18), .p (.faddr 0 (.t 6)), none⟩,
⟨(some 19), .r (.load (some 20) (.t 18)), none⟩,
⟨(some 20), .b (.call 16 [(.t 17), (.t 19)]), none⟩]) (.cond (.t 20) (.seq (.reg [
⟨(some 2), .p (.mv (.c (.w (.s (.nilp))))), none⟩,
⟨(some 3), .p (.mv (.c (.w (.s (.int .i64 (.lit (.ofNat 9))))))), none⟩]) (.ret)) (.skip))) (.seq (.draw [
⟨0, ⟨(some 21), .p (.faddr 20 (.t 6)), none⟩, 0, 0⟩,
⟨1, ⟨(some 22), .r (.load none (.t 21)), none⟩, 1, 0⟩,
⟨2, ⟨(some 23), .p (.faddr 21 (.t 6)), none⟩, 0, 0⟩,
⟨3, ⟨(some 24), .r (.load (some 4) (.t 23)), none⟩, 4, 0⟩,
⟨4, ⟨(some 25), .p (.faddr 25 (.t 6)), none⟩, 0, 0⟩,
⟨5, ⟨(some 26), .r (.load none (.t 25)), none⟩, 16, 0⟩,
⟨7, ⟨(some 28), .m (.mkmap), none⟩, 0, 1024⟩,
⟨6, ⟨(some 27), .b (.call 17 [(.t 26)]), none⟩, 48, 0⟩,
⟨8, ⟨(some 29), .p (.build [.int .u64 (.lit (.ofNat 0)), .int .u64 (.lit (.ofNat 0)), .int .u64 (.lit (.ofNat 0)), .int .u64 (.lit (.ofNat 0)), .int .u64 (.lit (.ofNat 0)), .nils, .nilm] [(0, 1, (.t 22)), (1, 4, (.t 24)), (5, 1, (.t 27)), (6, 1, (.t 28))]), none⟩, 255, 0⟩,
⟨9, ⟨(some 30), .m (.box 69 (.t 29)), none⟩, 511, 1025⟩,
⟨10, ⟨(some 7), .p (.mv (.t 30)), none⟩, 1023, 0⟩]) (.seq (.seq (.reg [
⟨(some 31), .p (.faddr 26 (.t 6)), none⟩,
⟨(some 32), .r (.load none (.t 31)), none⟩,
⟨(some 33), .p (.len (.t 32)), none⟩,
⟨(some 34), .p (.mv (.c (.w (.s (.int .i64 (.lit (.ofNat 0))))))), none⟩]) (.block 2 (.loop (.seq (.reg [
⟨(some 35), .b (.cmp 2 .int (.t 34) (.t 33)), none⟩]) (.seq (.cond (.t 35) (.skip) (.exit 2)) (.seq (.block 3 (.seq (.reg [
⟨(some 36), .p (.iaddrS 8 (.t 32) (.t 34)), none⟩,
⟨(some 37), .r (.load (some 8) (.t 36)), none⟩,
⟨(some 9), .m (.alloc 71 [.int .u64 (.lit (.ofNat 0)), .int .u64 (.lit (.ofNat 0)), .int .u64 (.lit (.ofNat 0)), .int .u64 (.lit (.ofNat 0)), .int .u64 (.lit (.ofNat 0)), .int .u64 (.lit (.ofNat 0)), .int .u64 (.lit (.ofNat 0)), .int .u64 (.lit (.ofNat 0))]), none⟩,
⟨none, .b (.store 8 (.t 9) (.t 37)), none⟩]) (.draw [
⟨0, ⟨(some 38), .p (.mv (.t 7)), none⟩, 0, 0⟩,
⟨1, ⟨(some 39), .p (.nilCheck (.t 38)), none⟩, 1, 0⟩,
⟨2, ⟨(some 40), .p (.faddr 6 (.t 39)), none⟩, 3, 0⟩,
⟨3, ⟨(some 41), .r (.load none (.t 40)), none⟩, 7, 0⟩,
⟨4, ⟨(some 42), .p (.faddr 0 (.t 9)), none⟩, 0, 0⟩,
⟨5, ⟨(some 43), .r (.load (some 4) (.t 42)), none⟩, 16, 0⟩,
⟨6, ⟨(some 44), .p (.faddr 4 (.t 9)), none⟩, 0, 0⟩,
⟨7, ⟨(some 45), .r (.load (some 4) (.t 44)), none⟩, 64, 0⟩,
⟨8, ⟨none, .b (.mupd (.one (.arr 4 22 .u64)) (.t 41) (.t 43) (.t 45)), none⟩, 255, 0⟩]))) (.reg [
⟨(some 46), .p (.ar 0 (.t 34) (.c (.w (.s (.int .i64 (.lit (.ofNat 1))))))), none⟩,
⟨(some 34), .p (.mv (.t 46)), none⟩]))))))) (.seq (.seq (.draw [
⟨0, ⟨(some 47), .p (.mv (.t 7)), none⟩, 0, 0⟩,
⟨1, ⟨(some 48), .p (.nilCheck (.t 47)), none⟩, 1, 0⟩,
⟨2, ⟨(some 49), .p (.faddr 6 (.t 48)), none⟩, 3, 0⟩,
⟨3, ⟨(some 50), .r (.load none (.t 49)), none⟩, 7, 0⟩,
⟨4, ⟨(some 51), .r (.mlen (.t 50)), none⟩, 15, 0⟩,
⟨5, ⟨(some 52), .p (.faddr 26 (.t 6)), none⟩, 0, 0⟩,
⟨6, ⟨(some 53), .r (.load none (.t 52)), none⟩, 32, 0⟩,
⟨7, ⟨(some 54), .p (.len (.t 53)), none⟩, 96, 0⟩,
⟨8, ⟨(some 55), .b (.cmp 1 .int (.t 51) (.t 54)), none⟩, 255, 0⟩]) (.cond (.t 55) (.seq (.reg [
⟨(some 2), .p (.mv (.c (.w (.s (.nilp))))), none⟩,
⟨(some 3), .p (.mv (.c (.w (.s (.int .i64 (.lit (.ofNat 9))))))), none⟩]) (.ret)) (.skip))) (.seq (.reg [
⟨(some 56), .p (.mv (.t 7)), none⟩,
⟨(some 57), .p (.nilCheck (.t 56)), none⟩,
⟨(some 58), .p (.faddr 6 (.t 57)), none⟩,
⟨(some 59), .r (.load none (.t 58)), none⟩,
⟨(some 60), .b (.call 18 [(.t 59), (.c (.w (.s (.fn 19 []))))]), none⟩]) (.draw [
⟨0, ⟨(some 61), .p (.mv (.t 4)), none⟩, 0, 0⟩,
⟨1, ⟨(some 62), .p (.nilCheck (.t 61)), none⟩, 1, 0⟩,
⟨2, ⟨(some 63), .p (.faddr 0 (.t 62)), none⟩, 3, 0⟩,
⟨3, ⟨(some 64), .r (.load none (.t 63)), none⟩, 7, 0⟩,
⟨4, ⟨(some 65), .p (.faddr 0 (.t 6)), none⟩, 0, 0⟩,
⟨5, ⟨(some 66), .r (.load (some 20) (.t 65)), none⟩, 16, 0⟩,
⟨6, ⟨(some 67), .p (.mv (.t 7)), none⟩, 0, 0⟩,
⟨7, ⟨none, .b (.mupd (.one (.arr 20 5 .u8)) (.t 64) (.t 66) (.t 67)), none⟩, 127, 0⟩])))))))) (.reg [
⟨(some 68), .p (.ar 0 (.t 13) (.c (.w (.s (.int .i64 (.lit (.ofNat 1))))))), none⟩,
⟨(some 13), .p (.mv (.t 68)), none⟩]))))))) (.seq (.reg [
⟨(some 69), .p (.mv (.t 4)), none⟩,
⟨(some 2), .p (.mv (.t 69)), none⟩,
⟨(some 3), .p (.mv (.c (.w (.s (.int .i64 (.lit (.ofNat 0))))))), none⟩]) (.ret))))⟩
theorem fo12 : ∃ func code hint, FnOk Go.Proofs.Tryz.prog TT 12 fa12 func code hint := ⟨Go.Proofs.Tryz.f12, bodyOf Go.Proofs.Tryz.f12, hintL [(7, [(0, 0), (1, 0), (2, 0), (3, 0), (4, 0), (5, 0), (7, 1024), (6, 0), (8, 0), (9, 1025), (10, 0)]), (11, [(0, 0), (1, 0), (2, 0), (3, 0), (4, 0), (5, 0), (6, 0), (7, 0), (8, 0)]), (13, [(0, 0), (1, 0), (2, 0), (3, 0), (4, 0), (5, 0), (6, 0), (7, 0), (8, 0)]), (16, [(0, 0), (1, 0), (2, 0), (3, 0), (4, 0), (5, 0), (6, 0), (7, 0)])], ⟨Go.Proofs.Tryz.func12, Go.Proofs.Tryz.call12, by kernel_rfl, by kernel_rfl, by kernel_rfl, by kernel_rfl⟩⟩
/- quarry/vm.Run -/
def fa13 : AFunc := ⟨132, [.cell 10 (some 24), .tmp 11], .seq (.reg [
⟨(some 6), .m (.box 56 (.t 1)), none⟩,
⟨(some 7), .m (.box 58 (.t 2)), none⟩,
⟨(some 9), .m (.box 60 (.t 4)), none⟩,
⟨(some 10), .m (.alloc 32 [.int .i64 (.lit (.ofNat 0)), .nils, .int .u64 (.lit (.ofNat 0)), .int .u8 (.lit (.ofNat 0)), .int .u8 (.lit (.ofNat 0)), .int .u8 (.lit (.ofNat 0)), .int .u8 (.lit (.ofNat 0)), .int .u8 (.lit (.ofNat 0)), .int .u8 (.lit (.ofNat 0)), .int .u8 (.lit (.ofNat 0)), .int .u8 (.lit (.ofNat 0)), .int .u8 (.lit (.ofNat 0)), .int .u8 (.lit (.ofNat 0)), .int .u8 (.lit (.ofNat 0)), .int .u8 (.lit (.ofNat 0)), .int .u8 (.lit (.ofNat 0)), .int .u8 (.lit (.ofNat 0)), .int .u8 (.lit (.ofNat 0)), .int .u8 (.lit (.ofNat 0)), .int .u8 (.lit (.ofNat 0)), .int .u8 (.lit (.ofNat 0)), .int .u8 (.lit (.ofNat 0)), .int .u8 (.lit (.ofNat 0)), .int .u64 (.lit (.ofNat 0))]), none⟩,
⟨(some 11), .p (.mv (.c (.w (.s (.int .i64 (.lit (.ofNat 0))))))), none⟩]) (.seq (.reg [
⟨(some 22), .p (.mv (.t 0)), none⟩,
⟨(some 23), .b (.call 20 [(.t 22)]), none⟩,
⟨(some 21), .p (.mv (.t 23)), none⟩,
⟨(some 24), .p (.ext (.t 21) 0), none⟩,
⟨(some 25), .p (.ext (.t 21) 1), none⟩,
⟨(some 12), .m (.alloc 88 [.int .i64 (.lit (.ofNat 0)), .int .u64 (.lit (.ofNat 0)), .int .u64 (.lit (.ofNat 0)), .int .u64 (.lit (.ofNat 0)), .int .u64 (.lit (.ofNat 0)), .int .u64 (.lit (.ofNat 0)), .int .u64 (.lit (.ofNat 0)), .int .u64 (.lit (.ofNat 0)), .int .i64 (.lit (.ofNat 0)), .int .i64 (.lit (.ofNat 0)), .int .u64 (.lit (.ofNat 0)), .int .u64 (.lit (.ofNat 0)), .int .u64 (.lit (.ofNat 0)), .int .u64 (.lit (.ofNat 0)), .int .u64 (.lit (.ofNat 0)), .int .u64 (.lit (.ofNat 0)), .int .u64 (.lit (.ofNat 0)), .int .u64 (.lit (.ofNat 0)), .int .u64 (.lit (.ofNat 0)), .int .u64 (.lit (.ofNat 0)), .int .u64 (.lit (.ofNat 0)), .int .u64 (.lit (.ofNat 0)), .int .u64 (.lit (.ofNat 0)), .int .u64 (.lit (.ofNat 0)), .int .u64 (.lit (.ofNat 0)), .int .u64 (.lit (.ofNat 0))]), none⟩,
⟨none, .b (.store 26 (.t 12) (.t 24)), none⟩,
⟨(some 13), .p (.mv (.t 25)), none⟩]) (.seq (.seq (.reg [
⟨(some 26), .p (.mv (.t 13)), none⟩,
⟨(some 27), .b (.cmp 1 .int (.t 26) (.c (.w (.s (.int .i64 (.lit (.ofNat 0))))))), none⟩,
⟨(some 28), .p (.mv (.t 27)), none⟩,
⟨(some 29), .p (.mv (.t 3)), some (28, false)⟩,
⟨(some 30), .b (.cmp 0 .ptr (.t 29) (.c (.w (.s (.nilp))))), some (28, false)⟩,
⟨(some 31), .p (.pick (.t 28) (.c (.w (.s (.bool true)))) (.t 30)), none⟩,
⟨(some 32), .p (.mv (.t 31)), none⟩,
⟨(some 33), .p (.faddr 48 (.t 9)), some (32, false)⟩,
⟨(some 34), .r (.load none (.t 33)), some (32, false)⟩,
⟨(some 35), .b (.cmp 2 .int (.t 34) (.c (.w (.s (.int .i64 (.lit (.ofNat 0))))))), some (32, false)⟩,
⟨(some 36), .p (.pick (.t 32) (.c (.w (.s (.bool true)))) (.t 35)), none⟩,
⟨(some 37), .p (.mv (.t 36)), none⟩,
⟨(some 38), .p (.faddr 48 (.t 9)), some (37, false)⟩,
⟨(some 39), .r (.load none (.t 38)), some (37, false)⟩,
⟨(some 40), .b (.cmp 4 .int (.t 39) (.c (.w (.s (.int .i64 (.lit (.ofNat 1024))))))), some (37, false)⟩,
⟨(some 41), .p (.pick (.t 37) (.c (.w (.s (.bool true)))) (.t 40)), none⟩,
⟨(some 42), .p (.mv (.t 41)), none⟩,
⟨(some 43), .p (.faddr 46 (.t 9)), some (42, false)⟩,
⟨(some 44), .r (.load none (.t 43)), some (42, false)⟩,
⟨(some 45), .b (.cmp 4 .int (.t 44) (.c (.w (.s (.int .u64 (.lit (.ofNat 9223372036854775807))))))), some (42, false)⟩,
⟨(some 46), .p (.pick (.t 42) (.c (.w (.s (.bool true)))) (.t 45)), none⟩,
⟨(some 47), .p (.mv (.t 46)), none⟩,
⟨(some 48), .p (.faddr 36 (.t 6)), some (47, false)⟩,
⟨(some 49), .r (.load none (.t 48)), some (47, false)⟩,
⟨(some 50), .p (.len (.t 49)), some (47, false)⟩,
⟨(some 51), .b (.cmp 4 .int (.t 50) (.c (.w (.s (.int .i64 (.lit (.ofNat 256))))))), some (47, false)⟩,
⟨(some 52), .p (.pick (.t 47) (.c (.w (.s (.bool true)))) (.t 51)), none⟩,
⟨(some 53), .p (.mv (.t 52)), none⟩,
⟨(some 54), .p (.faddr 0 (.t 9)), some (53, false)⟩,
⟨(some 55), .r (.load none (.t 54)), some (53, false)⟩,
⟨(some 56), .p (.mv (.t 55)), some (53, false)⟩,
⟨(some 57), .p (.faddr 47 (.t 9)), some (56, true)⟩,
⟨(some 58), .r (.load none (.t 57)), some (56, true)⟩,
⟨(some 59), .p (.pick (.t 56) (.t 58) (.c (.w (.s (.bool false))))), some (53, false)⟩,
⟨(some 60), .p (.pick (.t 53) (.c (.w (.s (.bool true)))) (.t 59)), none⟩]) (.cond (.t 60) (.seq (.reg [
⟨(some 61), .p (.build [.int .i64 (.lit (.ofNat 0)), .nils, .int .u64 (.lit (.ofNat 0)), .int .u8 (.lit (.ofNat 0)), .int .u8 (.lit (.ofNat 0)), .int .u8 (.lit (.ofNat 0)), .int .u8 (.lit (.ofNat 0)), .int .u8 (.lit (.ofNat 0)), .int .u8 (.lit (.ofNat 0)), .int .u8 (.lit (.ofNat 0)), .int .u8 (.lit (.ofNat 0)), .int .u8 (.lit (.ofNat 0)), .int .u8 (.lit (.ofNat 0)), .int .u8 (.lit (.ofNat 0)), .int .u8 (.lit (.ofNat 0)), .int .u8 (.lit (.ofNat 0)), .int .u8 (.lit (.ofNat 0)), .int .u8 (.lit (.ofNat 0)), .int .u8 (.lit (.ofNat 0)), .int .u8 (.lit (.ofNat 0)), .int .u8 (.lit (.ofNat 0)), .int .u8 (.lit (.ofNat 0)), .int .u8 (.lit (.ofNat 0)), .int .u64 (.lit (.ofNat 0))] []), none⟩,
⟨none, .b (.store 24 (.t 10) (.t 61)), none⟩,
⟨(some 11), .p (.mv (.c (.w (.s (.int .i64 (.lit (.ofNat 1))))))), none⟩]) (.ret)) (.skip))) (.seq (.reg [
⟨(some 62), .p (.mv (.t 0)), none⟩,
⟨(some 63), .r (.load (some 26) (.t 12)), none⟩,
⟨(some 64), .r (.load (some 37) (.t 6)), none⟩,
⟨(some 65), .r (.load (some 25) (.t 7)), none⟩,
⟨(some 66), .p (.mv (.t 3)), none⟩,
⟨(some 67), .p (.build [.int .i64 (.lit (.ofNat 0)), .int .i64 (.lit (.ofNat 0)), .int .u64 (.lit (.ofNat 0)), .int .u64 (.lit (.ofNat 0)), .int .u64 (.lit (.ofNat 0)), .int .u64 (.lit (.ofNat 0)), .int .u64 (.lit (.ofNat 0)), .int .u64 (.lit (.ofNat 0)), .int .u64 (.lit (.ofNat 0)), .int .i64 (.lit (.ofNat 0)), .int .i64 (.lit (.ofNat 0)), .int .u64 (.lit (.ofNat 0)), .int .u64 (.lit (.ofNat 0)), .int .u64 (.lit (.ofNat 0)), .int .u64 (.lit (.ofNat 0)), .int .u64 (.lit (.ofNat 0)), .int .u64 (.lit (.ofNat 0)), .int .u64 (.lit (.ofNat 0)), .int .u64 (.lit (.ofNat 0)), .int .u64 (.lit (.ofNat 0)), .int .u64 (.lit (.ofNat 0)), .int .u64 (.lit (.ofNat 0)), .int .u64 (.lit (.ofNat 0)), .int .u64 (.lit (.ofNat 0)), .int .u64 (.lit (.ofNat 0)), .int .u64 (.lit (.ofNat 0)), .int .u64 (.lit (.ofNat 0)), .int .u8 (.lit (.ofNat 0)), .int .u8 (.lit (.ofNat 0)), .int .u8 (.lit (.ofNat 0)), .int .u8 (.lit (.ofNat 0)), .int .u8 (.lit (.ofNat 0)), .int .u8 (.lit (.ofNat 0)), .int .u8 (.lit (.ofNat 0)), .int .u8 (.lit (.ofNat 0)), .int .u8 (.lit (.ofNat 0)), .int .u8 (.lit (.ofNat 0)), .int .u8 (.lit (.ofNat 0)), .int .u8 (.lit (.ofNat 0)), .int .u8 (.lit (.ofNat 0)), .int .u8 (.lit (.ofNat 0)), .int .u8 (.lit (.ofNat 0)), .int .u8 (.lit (.ofNat 0)), .int .u8 (.lit (.ofNat 0)), .int .u8 (.lit (.ofNat 0)), .int .u8 (.lit (.ofNat 0)), .int .u8 (.lit (.ofNat 0)), .int .u64 (.lit (.ofNat 0)), .int .u64 (.lit (.ofNat 0)), .int .u64 (.lit (.ofNat 0)), .int .u64 (.lit (.ofNat 0)), .int .u64 (.lit (.ofNat 0)), .int .u64 (.lit (.ofNat 0)), .int .u64 (.lit (.ofNat 0)), .int .u64 (.lit (.ofNat 0)), .int .u64 (.lit (.ofNat 0)), .int .u64 (.lit (.ofNat 0)), .int .u64 (.lit (.ofNat 0)), .int .u64 (.lit (.ofNat 0)), .int .u64 (.lit (.ofNat 0)), .int .u64 (.lit (.ofNat 0)), .int .u64 (.lit (.ofNat 0)), .int .u64 (.lit (.ofNat 0)), .nils, .int .u8 (.lit (.ofNat 0)), .int .u8 (.lit (.ofNat 0)), .int .u8 (.lit (.ofNat 0)), .int .u8 (.lit (.ofNat 0)), .int .u8 (.lit (.ofNat 0)), .int .u8 (.lit (.ofNat 0)), .int .u8 (.lit (.ofNat 0)), .int .u8 (.lit (.ofNat 0)), .int .u8 (.lit (.ofNat 0)), .int .u8 (.lit (.ofNat 0)), .int .u8 (.lit (.ofNat 0)), .int .u8 (.lit (.ofNat 0)), .int .u8 (.lit (.ofNat 0)), .int .u8 (.lit (.ofNat 0)), .int .u8 (.lit (.ofNat 0)), .int .u8 (.lit (.ofNat 0)), .int .u8 (.lit (.ofNat 0)), .int .u8 (.lit (.ofNat 0)), .int .u8 (.lit (.ofNat 0)), .int .u8 (.lit (.ofNat 0)), .int .u64 (.lit (.ofNat 0)), .int .u64 (.lit (.ofNat 0)), .int .u64 (.lit (.ofNat 0)), .int .u64 (.lit (.ofNat 0)), .nils, .nilp, .int .u64 (.lit (.ofNat 0)), .bool false, .int .i64 (.lit (.ofNat 0)), .int .i64 (.lit (.ofNat 0)), .int .u64 (.lit (.ofNat 0)), .bool false, .int .i64 (.lit (.ofNat 0)), .int .i64 (.lit (.ofNat 0)), .int .u64 (.lit (.ofNat 0)), .bool false, .int .i64 (.lit (.ofNat 0)), .int .i64 (.lit (.ofNat 0)), .int .u64 (.lit (.ofNat 0)), .bool false, .int .i64 (.lit (.ofNat 0)), .int .i64 (.lit (.ofNat 0)), .int .u64 (.lit (.ofNat 0)), .bool false, .int .i64 (.lit (.ofNat 0)), .int .i64 (.lit (.ofNat 0)), .int .u64 (.lit (.ofNat 0)), .bool false, .int .i64 (.lit (.ofNat 0)), .int .i64 (.lit (.ofNat 0)), .int .u64 (.lit (.ofNat 0)), .bool false, .int .i64 (.lit (.ofNat 0)), .int .i64 (.lit (.ofNat 0)), .int .u64 (.lit (.ofNat 0)), .bool false, .int .i64 (.lit (.ofNat 0)), .int .i64 (.lit (.ofNat 0)), .int .u64 (.lit (.ofNat 0)), .bool false, .int .i64 (.lit (.ofNat 0)), .int .i64 (.lit (.ofNat 0)), .int .u64 (.lit (.ofNat 0)), .bool false, .int .i64 (.lit (.ofNat 0)), .int .i64 (.lit (.ofNat 0)), .int .u64 (.lit (.ofNat 0)), .bool false, .int .i64 (.lit (.ofNat 0)), .int .i64 (.lit (.ofNat 0)), .int .u64 (.lit (.ofNat 0)), .bool false, .int .i64 (.lit (.ofNat 0)), .int .i64 (.lit (.ofNat 0)), .int .u64 (.lit (.ofNat 0)), .bool false, .int .i64 (.lit (.ofNat 0)), .int .i64 (.lit (.ofNat 0)), .int .u64 (.lit (.ofNat 0)), .bool false, .int .i64 (.lit (.ofNat 0)), .int .i64 (.lit (.ofNat 0)), .int .u64 (.lit (.ofNat 0)), .bool false, .int .i64 (.lit (.ofNat 0)), .int .i64 (.lit (.ofNat 0)), .int .u64 (.lit (.ofNat 0)), .bool false, .int .i64 (.lit (.ofNat 0)), .int .i64 (.lit (.ofNat 0)), .int .u64 (.lit (.ofNat 0)), .bool false, .int .i64 (.lit (.ofNat 0)), .int .i64 (.lit (.ofNat 0)), .int .u64 (.lit (.ofNat 0)), .bool false, .int .i64 (.lit (.ofNat 0)), .int .i64 (.lit (.ofNat 0)), .int .u64 (.lit (.ofNat 0)), .bool false, .int .i64 (.lit (.ofNat 0)), .int .i64 (.lit (.ofNat 0)), .int .u64 (.lit (.ofNat 0)), .bool false, .int .i64 (.lit (.ofNat 0)), .int .i64 (.lit (.ofNat 0)), .int .u64 (.lit (.ofNat 0)), .bool false, .int .i64 (.lit (.ofNat 0)), .int .i64 (.lit (.ofNat 0)), .int .u64 (.lit (.ofNat 0)), .bool false, .int .i64 (.lit (.ofNat 0)), .int .i64 (.lit (.ofNat 0)), .int .u64 (.lit (.ofNat 0)), .bool false, .int .i64 (.lit (.ofNat 0)), .int .i64 (.lit (.ofNat 0)), .int .u64 (.lit (.ofNat 0)), .bool false, .int .i64 (.lit (.ofNat 0)), .int .i64 (.lit (.ofNat 0)), .int .u64 (.lit (.ofNat 0)), .bool false, .int .i64 (.lit (.ofNat 0)), .int .i64 (.lit (.ofNat 0)), .int .u64 (.lit (.ofNat 0)), .bool false, .int .i64 (.lit (.ofNat 0)), .int .i64 (.lit (.ofNat 0)), .int .u64 (.lit (.ofNat 0)), .bool false, .int .i64 (.lit (.ofNat 0)), .int .i64 (.lit (.ofNat 0)), .int .u64 (.lit (.ofNat 0)), .bool false, .int .i64 (.lit (.ofNat 0)), .int .i64 (.lit (.ofNat 0)), .int .u64 (.lit (.ofNat 0)), .bool false, .int .i64 (.lit (.ofNat 0)), .int .i64 (.lit (.ofNat 0)), .int .u64 (.lit (.ofNat 0)), .bool false, .int .i64 (.lit (.ofNat 0)), .int .i64 (.lit (.ofNat 0)), .int .u64 (.lit (.ofNat 0)), .bool false, .int .i64 (.lit (.ofNat 0)), .int .i64 (.lit (.ofNat 0)), .int .u64 (.lit (.ofNat 0)), .bool false, .int .i64 (.lit (.ofNat 0)), .int .i64 (.lit (.ofNat 0)), .int .u64 (.lit (.ofNat 0)), .bool false, .int .i64 (.lit (.ofNat 0)), .int .i64 (.lit (.ofNat 0)), .int .u64 (.lit (.ofNat 0)), .bool false, .int .i64 (.lit (.ofNat 0)), .int .i64 (.lit (.ofNat 0)), .int .u64 (.lit (.ofNat 0)), .bool false, .int .i64 (.lit (.ofNat 0)), .int .i64 (.lit (.ofNat 0)), .int .u64 (.lit (.ofNat 0)), .bool false, .int .i64 (.lit (.ofNat 0)), .int .i64 (.lit (.ofNat 0)), .int .u64 (.lit (.ofNat 0)), .bool false, .int .i64 (.lit (.ofNat 0)), .int .i64 (.lit (.ofNat 0)), .int .u64 (.lit (.ofNat 0)), .bool false, .int .i64 (.lit (.ofNat 0)), .int .i64 (.lit (.ofNat 0)), .int .u64 (.lit (.ofNat 0)), .bool false, .int .i64 (.lit (.ofNat 0)), .int .i64 (.lit (.ofNat 0)), .int .u64 (.lit (.ofNat 0)), .bool false, .int .i64 (.lit (.ofNat 0)), .int .i64 (.lit (.ofNat 0)), .int .u64 (.lit (.ofNat 0)), .bool false, .int .i64 (.lit (.ofNat 0)), .int .i64 (.lit (.ofNat 0)), .int .u64 (.lit (.ofNat 0)), .bool false, .int .i64 (.lit (.ofNat 0)), .int .i64 (.lit (.ofNat 0)), .int .u64 (.lit (.ofNat 0)), .bool false, .int .i64 (.lit (.ofNat 0)), .int .i64 (.lit (.ofNat 0)), .int .u64 (.lit (.ofNat 0)), .bool false, .int .i64 (.lit (.ofNat 0)), .int .i64 (.lit (.ofNat 0)), .int .u64 (.lit (.ofNat 0)), .bool false, .int .i64 (.lit (.ofNat 0)), .int .i64 (.lit (.ofNat 0)), .int .u64 (.lit (.ofNat 0)), .bool false, .int .i64 (.lit (.ofNat 0)), .int .i64 (.lit (.ofNat 0)), .int .u64 (.lit (.ofNat 0)), .bool false, .int .i64 (.lit (.ofNat 0)), .int .i64 (.lit (.ofNat 0)), .int .u64 (.lit (.ofNat 0)), .bool false, .int .i64 (.lit (.ofNat 0)), .int .i64 (.lit (.ofNat 0)), .int .u64 (.lit (.ofNat 0)), .bool false, .int .i64 (.lit (.ofNat 0)), .int .i64 (.lit (.ofNat 0)), .int .u64 (.lit (.ofNat 0)), .bool false, .int .i64 (.lit (.ofNat 0)), .int .i64 (.lit (.ofNat 0)), .int .u64 (.lit (.ofNat 0)), .bool false, .int .i64 (.lit (.ofNat 0)), .int .i64 (.lit (.ofNat 0)), .int .u64 (.lit (.ofNat 0)), .bool false, .int .i64 (.lit (.ofNat 0)), .int .i64 (.lit (.ofNat 0)), .int .u64 (.lit (.ofNat 0)), .bool false, .int .i64 (.lit (.ofNat 0)), .int .i64 (.lit (.ofNat 0)), .int .u64 (.lit (.ofNat 0)), .bool false, .int .i64 (.lit (.ofNat 0)), .int .i64 (.lit (.ofNat 0)), .int .u64 (.lit (.ofNat 0)), .bool false, .int .i64 (.lit (.ofNat 0)), .int .i64 (.lit (.ofNat 0)), .int .u64 (.lit (.ofNat 0)), .bool false, .int .i64 (.lit (.ofNat 0)), .int .i64 (.lit (.ofNat 0)), .int .u64 (.lit (.ofNat 0)), .bool false, .int .i64 (.lit (.ofNat 0)), .int .i64 (.lit (.ofNat 0)), .int .u64 (.lit (.ofNat 0)), .bool false, .int .i64 (.lit (.ofNat 0)), .int .i64 (.lit (.ofNat 0)), .int .u64 (.lit (.ofNat 0)), .bool false, .int .i64 (.lit (.ofNat 0)), .int .i64 (.lit (.ofNat 0)), .int .u64 (.lit (.ofNat 0)), .bool false, .int .i64 (.lit (.ofNat 0)), .int .i64 (.lit (.ofNat 0)), .int .u64 (.lit (.ofNat 0)), .bool false, .int .i64 (.lit (.ofNat 0)), .int .i64 (.lit (.ofNat 0)), .int .u64 (.lit (.ofNat 0)), .bool false, .int .i64 (.lit (.ofNat 0)), .int .i64 (.lit (.ofNat 0)), .int .u64 (.lit (.ofNat 0)), .bool false, .int .i64 (.lit (.ofNat 0)), .int .i64 (.lit (.ofNat 0)), .int .u64 (.lit (.ofNat 0)), .bool false, .int .i64 (.lit (.ofNat 0)), .int .i64 (.lit (.ofNat 0)), .int .u64 (.lit (.ofNat 0)), .bool false, .int .i64 (.lit (.ofNat 0)), .int .i64 (.lit (.ofNat 0)), .int .u64 (.lit (.ofNat 0)), .bool false, .int .i64 (.lit (.ofNat 0)), .int .i64 (.lit (.ofNat 0)), .int .u64 (.lit (.ofNat 0)), .bool false, .int .i64 (.lit (.ofNat 0)), .int .i64 (.lit (.ofNat 0)), .int .u64 (.lit (.ofNat 0)), .bool false, .int .i64 (.lit (.ofNat 0)), .int .i64 (.lit (.ofNat 0)), .int .u64 (.lit (.ofNat 0)), .bool false, .int .i64 (.lit (.ofNat 0)), .int .i64 (.lit (.ofNat 0)), .int .u64 (.lit (.ofNat 0)), .bool false, .int .i64 (.lit (.ofNat 0)), .int .i64 (.lit (.ofNat 0)), .int .u64 (.lit (.ofNat 0)), .bool false, .int .i64 (.lit (.ofNat 0)), .int .i64 (.lit (.ofNat 0)), .int .u64 (.lit (.ofNat 0)), .bool false, .int .i64 (.lit (.ofNat 0)), .int .i64 (.lit (.ofNat 0)), .int .u64 (.lit (.ofNat 0)), .bool false, .int .i64 (.lit (.ofNat 0)), .int .i64 (.lit (.ofNat 0)), .int .u64 (.lit (.ofNat 0)), .bool false, .int .i64 (.lit (.ofNat 0)), .int .i64 (.lit (.ofNat 0)), .int .u64 (.lit (.ofNat 0)), .bool false, .int .i64 (.lit (.ofNat 0)), .int .i64 (.lit (.ofNat 0)), .int .u64 (.lit (.ofNat 0)), .bool false, .int .i64 (.lit (.ofNat 0)), .int .i64 (.lit (.ofNat 0)), .int .u64 (.lit (.ofNat 0)), .bool false, .int .i64 (.lit (.ofNat 0)), .int .i64 (.lit (.ofNat 0)), .int .u64 (.lit (.ofNat 0)), .bool false, .int .i64 (.lit (.ofNat 0)), .int .i64 (.lit (.ofNat 0)), .int .u64 (.lit (.ofNat 0)), .bool false, .int .i64 (.lit (.ofNat 0)), .int .i64 (.lit (.ofNat 0)), .int .u64 (.lit (.ofNat 0)), .bool false, .int .i64 (.lit (.ofNat 0)), .int .i64 (.lit (.ofNat 0)), .int .u64 (.lit (.ofNat 0)), .bool false, .int .i64 (.lit (.ofNat 0)), .int .i64 (.lit (.ofNat 0)), .int .u64 (.lit (.ofNat 0)), .bool false, .int .i64 (.lit (.ofNat 0)), .int .i64 (.lit (.ofNat 0)), .int .u64 (.lit (.ofNat 0)), .bool false, .int .i64 (.lit (.ofNat 0)), .int .i64 (.lit (.ofNat 0)), .int .u64 (.lit (.ofNat 0)), .bool false, .int .i64 (.lit (.ofNat 0)), .int .i64 (.lit (.ofNat 0)), .int .u64 (.lit (.ofNat 0)), .bool false, .int .i64 (.lit (.ofNat 0)), .int .i64 (.lit (.ofNat 0)), .int .u64 (.lit (.ofNat 0)), .bool false, .int .i64 (.lit (.ofNat 0)), .int .i64 (.lit (.ofNat 0)), .int .u64 (.lit (.ofNat 0)), .bool false, .int .i64 (.lit (.ofNat 0)), .int .i64 (.lit (.ofNat 0)), .int .u64 (.lit (.ofNat 0)), .bool false, .int .i64 (.lit (.ofNat 0)), .int .i64 (.lit (.ofNat 0)), .int .u64 (.lit (.ofNat 0)), .bool false, .int .i64 (.lit (.ofNat 0)), .int .i64 (.lit (.ofNat 0)), .int .u64 (.lit (.ofNat 0)), .bool false, .int .i64 (.lit (.ofNat 0)), .int .i64 (.lit (.ofNat 0)), .int .u64 (.lit (.ofNat 0)), .bool false, .int .i64 (.lit (.ofNat 0)), .int .i64 (.lit (.ofNat 0)), .int .u64 (.lit (.ofNat 0)), .bool false, .int .i64 (.lit (.ofNat 0)), .int .i64 (.lit (.ofNat 0)), .int .u64 (.lit (.ofNat 0)), .bool false, .int .i64 (.lit (.ofNat 0)), .int .i64 (.lit (.ofNat 0)), .int .u64 (.lit (.ofNat 0)), .bool false, .int .i64 (.lit (.ofNat 0)), .int .i64 (.lit (.ofNat 0)), .int .u64 (.lit (.ofNat 0)), .bool false, .int .i64 (.lit (.ofNat 0)), .int .i64 (.lit (.ofNat 0)), .int .u64 (.lit (.ofNat 0)), .bool false, .int .i64 (.lit (.ofNat 0)), .int .i64 (.lit (.ofNat 0)), .int .u64 (.lit (.ofNat 0)), .bool false, .int .i64 (.lit (.ofNat 0)), .int .i64 (.lit (.ofNat 0)), .int .u64 (.lit (.ofNat 0)), .bool false, .int .i64 (.lit (.ofNat 0)), .int .i64 (.lit (.ofNat 0)), .int .u64 (.lit (.ofNat 0)), .bool false, .int .i64 (.lit (.ofNat 0)), .int .i64 (.lit (.ofNat 0)), .int .u64 (.lit (.ofNat 0)), .bool false, .int .i64 (.lit (.ofNat 0)), .int .i64 (.lit (.ofNat 0)), .int .u64 (.lit (.ofNat 0)), .bool false, .int .i64 (.lit (.ofNat 0)), .int .i64 (.lit (.ofNat 0)), .int .u64 (.lit (.ofNat 0)), .bool false, .int .i64 (.lit (.ofNat 0)), .int .i64 (.lit (.ofNat 0)), .int .u64 (.lit (.ofNat 0)), .bool false, .int .i64 (.lit (.ofNat 0)), .int .i64 (.lit (.ofNat 0)), .int .u64 (.lit (.ofNat 0)), .bool false, .int .i64 (.lit (.ofNat 0)), .int .i64 (.lit (.ofNat 0)), .int .u64 (.lit (.ofNat 0)), .bool false, .int .i64 (.lit (.ofNat 0)), .int .i64 (.lit (.ofNat 0)), .int .u64 (.lit (.ofNat 0)), .bool false, .int .i64 (.lit (.ofNat 0)), .int .i64 (.lit (.ofNat 0)), .int .u64 (.lit (.ofNat 0)), .bool false, .int .i64 (.lit (.ofNat 0)), .int .i64 (.lit (.ofNat 0)), .int .u64 (.lit (.ofNat 0)), .bool false, .int .i64 (.lit (.ofNat 0)), .int .i64 (.lit (.ofNat 0)), .int .u64 (.lit (.ofNat 0)), .bool false, .int .i64 (.lit (.ofNat 0)), .int .i64 (.lit (.ofNat 0)), .int .u64 (.lit (.ofNat 0)), .bool false, .int .i64 (.lit (.ofNat 0)), .int .i64 (.lit (.ofNat 0)), .int .u64 (.lit (.ofNat 0)), .bool false, .int .i64 (.lit (.ofNat 0)), .int .i64 (.lit (.ofNat 0)), .int .u64 (.lit (.ofNat 0)), .bool false, .int .i64 (.lit (.ofNat 0)), .int .i64 (.lit (.ofNat 0)), .int .u64 (.lit (.ofNat 0)), .bool false, .int .i64 (.lit (.ofNat 0)), .int .i64 (.lit (.ofNat 0)), .int .u64 (.lit (.ofNat 0)), .bool false, .int .i64 (.lit (.ofNat 0)), .int .i64 (.lit (.ofNat 0)), .int .u64 (.lit (.ofNat 0)), .bool false, .int .i64 (.lit (.ofNat 0)), .int .i64 (.lit (.ofNat 0)), .int .u64 (.lit (.ofNat 0)), .bool false, .int .i64 (.lit (.ofNat 0)), .int .i64 (.lit (.ofNat 0)), .int .u64 (.lit (.ofNat 0)), .bool false, .int .i64 (.lit (.ofNat 0)), .int .i64 (.lit (.ofNat 0)), .int .u64 (.lit (.ofNat 0)), .bool false, .int .i64 (.lit (.ofNat 0)), .int .i64 (.lit (.ofNat 0)), .int .u64 (.lit (.ofNat 0)), .bool false, .int .i64 (.lit (.ofNat 0)), .int .i64 (.lit (.ofNat 0)), .int .u64 (.lit (.ofNat 0)), .bool false, .int .i64 (.lit (.ofNat 0)), .int .i64 (.lit (.ofNat 0)), .int .u64 (.lit (.ofNat 0)), .bool false, .int .i64 (.lit (.ofNat 0)), .int .i64 (.lit (.ofNat 0)), .int .u64 (.lit (.ofNat 0)), .bool false, .int .i64 (.lit (.ofNat 0)), .int .i64 (.lit (.ofNat 0)), .int .u64 (.lit (.ofNat 0)), .bool false, .int .i64 (.lit (.ofNat 0)), .int .i64 (.lit (.ofNat 0)), .int .u64 (.lit (.ofNat 0)), .bool false, .int .i64 (.lit (.ofNat 0)), .int .i64 (.lit (.ofNat 0)), .int .u64 (.lit (.ofNat 0)), .bool false, .int .i64 (.lit (.ofNat 0)), .int .i64 (.lit (.ofNat 0)), .int .u64 (.lit (.ofNat 0)), .bool false, .int .i64 (.lit (.ofNat 0)), .int .i64 (.lit (.ofNat 0)), .int .u64 (.lit (.ofNat 0)), .bool false, .int .i64 (.lit (.ofNat 0)), .int .i64 (.lit (.ofNat 0)), .int .u64 (.lit (.ofNat 0)), .bool false, .int .i64 (.lit (.ofNat 0)), .int .i64 (.lit (.ofNat 0)), .int .u64 (.lit (.ofNat 0)), .bool false, .int .i64 (.lit (.ofNat 0)), .int .i64 (.lit (.ofNat 0)), .int .u64 (.lit (.ofNat 0)), .bool false, .int .i64 (.lit (.ofNat 0)), .int .i64 (.lit (.ofNat 0)), .int .u64 (.lit (.ofNat 0)), .bool false, .int .i64 (.lit (.ofNat 0)), .int .i64 (.lit (.ofNat 0)), .int .u64 (.lit (.ofNat 0)), .bool false, .int .i64 (.lit (.ofNat 0)), .int .i64 (.lit (.ofNat 0)), .int .u64 (.lit (.ofNat 0)), .bool false, .int .i64 (.lit (.ofNat 0)), .int .i64 (.lit (.ofNat 0)), .int .u64 (.lit (.ofNat 0)), .bool false, .int .i64 (.lit (.ofNat 0)), .int .i64 (.lit (.ofNat 0)), .int .u64 (.lit (.ofNat 0)), .bool false, .int .i64 (.lit (.ofNat 0)), .int .i64 (.lit (.ofNat 0)), .int .u64 (.lit (.ofNat 0)), .bool false, .int .i64 (.lit (.ofNat 0)), .int .i64 (.lit (.ofNat 0)), .int .u64 (.lit (.ofNat 0)), .bool false, .int .i64 (.lit (.ofNat 0)), .int .i64 (.lit (.ofNat 0)), .int .u64 (.lit (.ofNat 0)), .bool false, .int .i64 (.lit (.ofNat 0)), .int .i64 (.lit (.ofNat 0)), .int .u64 (.lit (.ofNat 0)), .bool false, .int .i64 (.lit (.ofNat 0)), .int .i64 (.lit (.ofNat 0)), .int .u64 (.lit (.ofNat 0)), .bool false, .int .i64 (.lit (.ofNat 0)), .int .i64 (.lit (.ofNat 0)), .int .u64 (.lit (.ofNat 0)), .bool false, .int .i64 (.lit (.ofNat 0)), .int .i64 (.lit (.ofNat 0)), .int .u64 (.lit (.ofNat 0)), .bool false, .int .i64 (.lit (.ofNat 0)), .int .i64 (.lit (.ofNat 0)), .int .u64 (.lit (.ofNat 0)), .bool false, .int .i64 (.lit (.ofNat 0)), .int .i64 (.lit (.ofNat 0)), .int .u64 (.lit (.ofNat 0)), .bool false, .int .i64 (.lit (.ofNat 0)), .int .i64 (.lit (.ofNat 0)), .int .u64 (.lit (.ofNat 0)), .bool false, .int .i64 (.lit (.ofNat 0)), .int .i64 (.lit (.ofNat 0)), .int .u64 (.lit (.ofNat 0)), .bool false, .int .i64 (.lit (.ofNat 0)), .int .i64 (.lit (.ofNat 0)), .int .u64 (.lit (.ofNat 0)), .bool false, .int .i64 (.lit (.ofNat 0)), .int .i64 (.lit (.ofNat 0)), .int .u64 (.lit (.ofNat 0)), .bool false, .int .i64 (.lit (.ofNat 0)), .int .i64 (.lit (.ofNat 0)), .int .u64 (.lit (.ofNat 0)), .bool false, .int .i64 (.lit (.ofNat 0)), .int .i64 (.lit (.ofNat 0)), .int .u64 (.lit (.ofNat 0)), .bool false, .int .i64 (.lit (.ofNat 0)), .int .i64 (.lit (.ofNat 0)), .int .u64 (.lit (.ofNat 0)), .bool false, .int .i64 (.lit (.ofNat 0)), .int .i64 (.lit (.ofNat 0)), .int .u64 (.lit (.ofNat 0)), .bool false, .int .i64 (.lit (.ofNat 0)), .int .i64 (.lit (.ofNat 0)), .int .u64 (.lit (.ofNat 0)), .bool false, .int .i64 (.lit (.ofNat 0)), .int .i64 (.lit (.ofNat 0)), .int .u64 (.lit (.ofNat 0)), .bool false, .int .i64 (.lit (.ofNat 0)), .int .i64 (.lit (.ofNat 0)), .int .u64 (.lit (.ofNat 0)), .bool false, .int .i64 (.lit (.ofNat 0)), .int .i64 (.lit (.ofNat 0)), .int .u64 (.lit (.ofNat 0)), .bool false, .int .i64 (.lit (.ofNat 0)), .int .i64 (.lit (.ofNat 0)), .int .u64 (.lit (.ofNat 0)), .bool false, .int .i64 (.lit (.ofNat 0)), .int .i64 (.lit (.ofNat 0)), .int .u64 (.lit (.ofNat 0)), .bool false, .int .i64 (.lit (.ofNat 0)), .int .i64 (.lit (.ofNat 0)), .int .u64 (.lit (.ofNat 0)), .bool false, .int .i64 (.lit (.ofNat 0)), .int .i64 (.lit (.ofNat 0)), .int .u64 (.lit (.ofNat 0)), .bool false, .int .i64 (.lit (.ofNat 0)), .int .i64 (.lit (.ofNat 0)), .int .u64 (.lit (.ofNat 0)), .bool false, .int .i64 (.lit (.ofNat 0)), .int .i64 (.lit (.ofNat 0)), .int .u64 (.lit (.ofNat 0)), .bool false, .int .i64 (.lit (.ofNat 0)), .int .i64 (.lit (.ofNat 0)), .int .u64 (.lit (.ofNat 0)), .bool false, .int .i64 (.lit (.ofNat 0)), .int .i64 (.lit (.ofNat 0)), .int .u64 (.lit (.ofNat 0)), .bool false, .int .i64 (.lit (.ofNat 0)), .int .i64 (.lit (.ofNat 0)), .int .u64 (.lit (.ofNat 0)), .bool false, .int .i64 (.lit (.ofNat 0)), .int .i64 (.lit (.ofNat 0)), .int .u64 (.lit (.ofNat 0)), .bool false, .int .i64 (.lit (.ofNat 0)), .int .i64 (.lit (.ofNat 0)), .int .u64 (.lit (.ofNat 0)), .bool false, .int .i64 (.lit (.ofNat 0)), .int .i64 (.lit (.ofNat 0)), .int .u64 (.lit (.ofNat 0)), .bool false, .int .i64 (.lit (.ofNat 0)), .int .i64 (.lit (.ofNat 0)), .int .u64 (.lit (.ofNat 0)), .bool false, .int .i64 (.lit (.ofNat 0)), .int .i64 (.lit (.ofNat 0)), .int .u64 (.lit (.ofNat 0)), .bool false, .int .i64 (.lit (.ofNat 0)), .int .i64 (.lit (.ofNat 0)), .int .u64 (.lit (.ofNat 0)), .bool false, .int .i64 (.lit (.ofNat 0)), .int .i64 (.lit (.ofNat 0)), .int .u64 (.lit (.ofNat 0)), .bool false, .int .i64 (.lit (.ofNat 0)), .int .i64 (.lit (.ofNat 0)), .int .u64 (.lit (.ofNat 0)), .bool false, .int .i64 (.lit (.ofNat 0)), .int .i64 (.lit (.ofNat 0)), .int .u64 (.lit (.ofNat 0)), .bool false, .int .i64 (.lit (.ofNat 0)), .int .i64 (.lit (.ofNat 0)), .int .u64 (.lit (.ofNat 0)), .bool false, .int .i64 (.lit (.ofNat 0)), .int .i64 (.lit (.ofNat 0)), .int .u64 (.lit (.ofNat 0)), .bool false, .int .i64 (.lit (.ofNat 0)), .int .i64 (.lit (.ofNat 0)), .int .u64 (.lit (.ofNat 0)), .bool false, .int .i64 (.lit (.ofNat 0)), .int .i64 (.lit (.ofNat 0)), .int .u64 (.lit (.ofNat 0)), .bool false, .int .i64 (.lit (.ofNat 0)), .int .i64 (.lit (.ofNat 0)), .int .u64 (.lit (.ofNat 0)), .bool false, .int .i64 (.lit (.ofNat 0)), .int .i64 (.lit (.ofNat 0)), .int .u64 (.lit (.ofNat 0)), .bool false, .int .i64 (.lit (.ofNat 0)), .int .i64 (.lit (.ofNat 0)), .int .u64 (.lit (.ofNat 0)), .bool false, .int .i64 (.lit (.ofNat 0)), .int .i64 (.lit (.ofNat 0)), .int .u64 (.lit (.ofNat 0)), .bool false, .int .i64 (.lit (.ofNat 0)), .int .i64 (.lit (.ofNat 0)), .int .u64 (.lit (.ofNat 0)), .bool false, .int .i64 (.lit (.ofNat 0)), .int .i64 (.lit (.ofNat 0)), .int .u64 (.lit (.ofNat 0)), .bool false, .int .i64 (.lit (.ofNat 0)), .int .i64 (.lit (.ofNat 0)), .int .u64 (.lit (.ofNat 0)), .bool false, .int .i64 (.lit (.ofNat 0)), .int .i64 (.lit (.ofNat 0)), .int .u64 (.lit (.ofNat 0)), .bool false, .int .i64 (.lit (.ofNat 0)), .int .i64 (.lit (.ofNat 0)), .int .u64 (.lit (.ofNat 0)), .bool false, .int .i64 (.lit (.ofNat 0)), .int .i64 (.lit (.ofNat 0)), .int .u64 (.lit (.ofNat 0)), .bool false, .int .i64 (.lit (.ofNat 0)), .int .i64 (.lit (.ofNat 0)), .int .u64 (.lit (.ofNat 0)), .bool false, .int .i64 (.lit (.ofNat 0)), .int .i64 (.lit (.ofNat 0)), .int .u64 (.lit (.ofNat 0)), .bool false, .int .i64 (.lit (.ofNat 0)), .int .i64 (.lit (.ofNat 0)), .int .u64 (.lit (.ofNat 0)), .bool false, .int .i64 (.lit (.ofNat 0)), .int .i64 (.lit (.ofNat 0)), .int .u64 (.lit (.ofNat 0)), .bool false, .int .i64 (.lit (.ofNat 0)), .int .i64 (.lit (.ofNat 0)), .int .u64 (.lit (.ofNat 0)), .bool false, .int .i64 (.lit (.ofNat 0)), .int .i64 (.lit (.ofNat 0)), .int .u64 (.lit (.ofNat 0)), .bool false, .int .i64 (.lit (.ofNat 0)), .int .i64 (.lit (.ofNat 0)), .int .u64 (.lit (.ofNat 0)), .bool false, .int .i64 (.lit (.ofNat 0)), .int .i64 (.lit (.ofNat 0)), .int .u64 (.lit (.ofNat 0)), .bool false, .int .i64 (.lit (.ofNat 0)), .int .i64 (.lit (.ofNat 0)), .int .u64 (.lit (.ofNat 0)), .bool false, .int .i64 (.lit (.ofNat 0)), .int .i64 (.lit (.ofNat 0)), .int .u64 (.lit (.ofNat 0)), .bool false, .int .i64 (.lit (.ofNat 0)), .int .i64 (.lit (.ofNat 0)), .int .u64 (.lit (.ofNat 0)), .bool false, .int .i64 (.lit (.ofNat 0)), .int .i64 (.lit (.ofNat 0)), .int .u64 (.lit (.ofNat 0)), .bool false, .int .i64 (.lit (.ofNat 0)), .int .i64 (.lit (.ofNat 0)), .int .u64 (.lit (.ofNat 0)), .bool false, .int .i64 (.lit (.ofNat 0)), .int .i64 (.lit (.ofNat 0)), .int .u64 (.lit (.ofNat 0)), .bool false, .int .i64 (.lit (.ofNat 0)), .int .i64 (.lit (.ofNat 0)), .int .u64 (.lit (.ofNat 0)), .bool false, .int .i64 (.lit (.ofNat 0)), .int .i64 (.lit (.ofNat 0)), .int .u64 (.lit (.ofNat 0)), .bool false, .int .i64 (.lit (.ofNat 0)), .int .i64 (.lit (.ofNat 0)), .int .u64 (.lit (.ofNat 0)), .bool false, .int .i64 (.lit (.ofNat 0)), .int .i64 (.lit (.ofNat 0)), .int .u64 (.lit (.ofNat 0)), .bool false, .int .i64 (.lit (.ofNat 0)), .int .i64 (.lit (.ofNat 0)), .int .u64 (.lit (.ofNat 0)), .bool false, .int .i64 (.lit (.ofNat 0)), .int .i64 (.lit (.ofNat 0)), .int .u64 (.lit (.ofNat 0)), .bool false, .int .i64 (.lit (.ofNat 0)), .int .i64 (.lit (.ofNat 0)), .int .u64 (.lit (.ofNat 0)), .bool false, .int .i64 (.lit (.ofNat 0)), .int .i64 (.lit (.ofNat 0)), .int .u64 (.lit (.ofNat 0)), .bool false, .int .i64 (.lit (.ofNat 0)), .int .i64 (.lit (.ofNat 0)), .int .u64 (.lit (.ofNat 0)), .bool false, .int .i64 (.lit (.ofNat 0)), .int .i64 (.lit (.ofNat 0)), .int .u64 (.lit (.ofNat 0)), .bool false, .int .i64 (.lit (.ofNat 0)), .int .i64 (.lit (.ofNat 0)), .int .u64 (.lit (.ofNat 0)), .bool false, .int .i64 (.lit (.ofNat 0)), .int .i64 (.lit (.ofNat 0)), .int .u64 (.lit (.ofNat 0)), .bool false, .int .i64 (.lit (.ofNat 0)), .int .i64 (.lit (.ofNat 0)), .int .u64 (.lit (.ofNat 0)), .bool false, .int .i64 (.lit (.ofNat 0)), .int .i64 (.lit (.ofNat 0)), .int .u64 (.lit (.ofNat 0)), .bool false, .int .i64 (.lit (.ofNat 0)), .int .i64 (.lit (.ofNat 0)), .int .u64 (.lit (.ofNat 0)), .bool false, .int .i64 (.lit (.ofNat 0)), .int .i64 (.lit (.ofNat 0)), .int .u64 (.lit (.ofNat 0)), .bool false, .int .i64 (.lit (.ofNat 0)), .int .i64 (.lit (.ofNat 0)), .int .u64 (.lit (.ofNat 0)), .bool false, .int .i64 (.lit (.ofNat 0)), .int .i64 (.lit (.ofNat 0)), .int .u64 (.lit (.ofNat 0)), .bool false, .int .i64 (.lit (.ofNat 0)), .int .i64 (.lit (.ofNat 0)), .int .u64 (.lit (.ofNat 0)), .bool false, .int .i64 (.lit (.ofNat 0)), .int .i64 (.lit (.ofNat 0)), .int .u64 (.lit (.ofNat 0)), .bool false, .int .i64 (.lit (.ofNat 0)), .int .i64 (.lit (.ofNat 0)), .int .u64 (.lit (.ofNat 0)), .bool false, .int .i64 (.lit (.ofNat 0)), .int .i64 (.lit (.ofNat 0)), .int .u64 (.lit (.ofNat 0)), .bool false, .int .i64 (.lit (.ofNat 0)), .int .i64 (.lit (.ofNat 0)), .int .u64 (.lit (.ofNat 0)), .bool false, .int .i64 (.lit (.ofNat 0)), .int .i64 (.lit (.ofNat 0)), .int .u64 (.lit (.ofNat 0)), .bool false, .int .i64 (.lit (.ofNat 0)), .int .i64 (.lit (.ofNat 0)), .int .u64 (.lit (.ofNat 0)), .bool false, .int .i64 (.lit (.ofNat 0)), .int .i64 (.lit (.ofNat 0)), .int .u64 (.lit (.ofNat 0)), .bool false, .int .i64 (.lit (.ofNat 0)), .int .i64 (.lit (.ofNat 0)), .int .u64 (.lit (.ofNat 0)), .bool false, .int .i64 (.lit (.ofNat 0)), .int .i64 (.lit (.ofNat 0)), .int .u64 (.lit (.ofNat 0)), .bool false, .int .i64 (.lit (.ofNat 0)), .int .i64 (.lit (.ofNat 0)), .int .u64 (.lit (.ofNat 0)), .bool false, .int .i64 (.lit (.ofNat 0)), .int .i64 (.lit (.ofNat 0)), .int .u64 (.lit (.ofNat 0)), .bool false, .int .i64 (.lit (.ofNat 0)), .int .i64 (.lit (.ofNat 0)), .int .u64 (.lit (.ofNat 0)), .bool false, .int .i64 (.lit (.ofNat 0)), .int .i64 (.lit (.ofNat 0)), .int .u64 (.lit (.ofNat 0)), .bool false, .int .i64 (.lit (.ofNat 0)), .int .i64 (.lit (.ofNat 0)), .int .u64 (.lit (.ofNat 0)), .bool false, .int .i64 (.lit (.ofNat 0)), .int .i64 (.lit (.ofNat 0)), .int .u64 (.lit (.ofNat 0)), .bool false, .int .i64 (.lit (.ofNat 0)), .int .i64 (.lit (.ofNat 0)), .int .u64 (.lit (.ofNat 0)), .bool false, .int .i64 (.lit (.ofNat 0)), .int .i64 (.lit (.ofNat 0)), .int .u64 (.lit (.ofNat 0)), .bool false, .int .i64 (.lit (.ofNat 0)), .int .i64 (.lit (.ofNat 0)), .int .u64 (.lit (.ofNat 0)), .bool false, .int .i64 (.lit (.ofNat 0)), .int .i64 (.lit (.ofNat 0)), .int .u64 (.lit (.ofNat 0)), .bool false, .int .i64 (.lit (.ofNat 0)), .int .i64 (.lit (.ofNat 0)), .int .u64 (.lit (.ofNat 0)), .bool false, .int .i64 (.lit (.ofNat 0)), .int .i64 (.lit (.ofNat 0)), .int .u64 (.lit (.ofNat 0)), .bool false, .int .i64 (.lit (.ofNat 0)), .int .i64 (.lit (.ofNat 0)), .int .u64 (.lit (.ofNat 0)), .bool false, .int .i64 (.lit (.ofNat 0)), .int .i64 (.lit (.ofNat 0)), .int .u64 (.lit (.ofNat 0)), .bool false, .int .i64 (.lit (.ofNat 0)), .int .i64 (.lit (.ofNat 0)), .int .u64 (.lit (.ofNat 0)), .bool false, .int .i64 (.lit (.ofNat 0)), .int .i64 (.lit (.ofNat 0)), .int .u64 (.lit (.ofNat 0)), .bool false, .int .i64 (.lit (.ofNat 0)), .int .i64 (.lit (.ofNat 0)), .int .u64 (.lit (.ofNat 0)), .bool false, .int .i64 (.lit (.ofNat 0)), .int .i64 (.lit (.ofNat 0)), .int .u64 (.lit (.ofNat 0)), .bool false, .int .i64 (.lit (.ofNat 0)), .int .i64 (.lit (.ofNat 0)), .int .u64 (.lit (.ofNat 0)), .bool false, .int .i64 (.lit (.ofNat 0)), .int .i64 (.lit (.ofNat 0)), .int .u64 (.lit (.ofNat 0)), .bool false, .int .i64 (.lit (.ofNat 0)), .int .i64 (.lit (.ofNat 0)), .int .u64 (.lit (.ofNat 0)), .bool false, .int .i64 (.lit (.ofNat 0)), .int .i64 (.lit (.ofNat 0)), .int .u64 (.lit (.ofNat 0)), .bool false, .int .i64 (.lit (.ofNat 0)), .int .i64 (.lit (.ofNat 0)), .int .u64 (.lit (.ofNat 0)), .bool false, .int .i64 (.lit (.ofNat 0)), .int .i64 (.lit (.ofNat 0)), .int .u64 (.lit (.ofNat 0)), .bool false, .int .i64 (.lit (.ofNat 0)), .int .i64 (.lit (.ofNat 0)), .int .u64 (.lit (.ofNat 0)), .bool false, .int .i64 (.lit (.ofNat 0)), .int .i64 (.lit (.ofNat 0)), .int .u64 (.lit (.ofNat 0)), .bool false, .int .i64 (.lit (.ofNat 0)), .int .i64 (.lit (.ofNat 0)), .int .u64 (.lit (.ofNat 0))] [(0, 1, (.t 62)), (1, 26, (.t 63)), (27, 37, (.t 64)), (64, 25, (.t 65)), (89, 1, (.t 66))]), none⟩,
⟨(some 68), .m (.box 96 (.t 67)), none⟩,
⟨(some 14), .p (.mv (.t 68)), none⟩]) (.seq (.seq (.reg [
⟨(some 69), .p (.mv (.c (.w (.s (.int .i64 (.lit (.ofNat 0))))))), none⟩]) (.block 0 (.loop (.seq (.reg [
⟨(some 70), .b (.cmp 2 .int (.t 69) (.c (.w (.s (.int .i64 (.lit (.ofNat 256))))))), none⟩]) (.seq (.cond (.t 70) (.skip) (.exit 0)) (.seq (.block 1 (.seq (.reg [
⟨(some 71), .p (.mv (.t 69)), none⟩,
⟨(some 15), .p (.mv (.t 71)), none⟩]) (.seq (.reg [
⟨(some 73), .p (.mv (.t 0)), none⟩,
⟨(some 74), .p (.mv (.t 15)), none⟩,
⟨(some 75), .b (.call 21 [(.t 73), (.t 74)]), none⟩,
⟨(some 72), .p (.mv (.t 75)), none⟩,
⟨(some 76), .p (.ext (.t 72) 0), none⟩,
⟨(some 77), .p (.ext (.t 72) 1), none⟩,
⟨(some 78), .p (.ext (.t 72) 2), none⟩,
⟨(some 16), .p (.mv (.t 76)), none⟩,
⟨(some 17), .p (.mv (.t 77)), none⟩,
⟨(some 18), .p (.mv (.t 78)), none⟩]) (.draw [
⟨0, ⟨(some 79), .p (.mv (.t 14)), none⟩, 0, 0⟩,
⟨1, ⟨(some 80), .p (.mv (.t 15)), none⟩, 0, 0⟩,
⟨2, ⟨(some 81), .p (.mv (.t 18)), none⟩, 0, 0⟩,
⟨3, ⟨(some 82), .p (.mv (.t 16)), none⟩, 0, 0⟩,
⟨4, ⟨(some 83), .p (.mv (.t 17)), none⟩, 0, 0⟩,
⟨5, ⟨(some 84), .r (.load (some 26) (.t 12)), none⟩, 0, 0⟩,
⟨6, ⟨(some 85), .p (.mv (.t 15)), none⟩, 0, 0⟩,
⟨9, ⟨(some 88), .p (.nilCheck (.t 79)), none⟩, 1, 0⟩,
⟨10, ⟨(some 89), .p (.faddr 91 (.t 88)), none⟩, 513, 0⟩,
⟨7, ⟨(some 86), .b (.call 22 [(.t 84), (.t 85)]), none⟩, 96, 0⟩,
⟨8, ⟨(some 87), .p (.build [.bool false, .int .i64 (.lit (.ofNat 0)), .int .i64 (.lit (.ofNat 0)), .int .u64 (.lit (.ofNat 0))] [(0, 1, (.t 81)), (1, 1, (.t 82)), (2, 1, (.t 83)), (3, 1, (.t 86))]), none⟩, 252, 0⟩,
⟨11, ⟨(some 90), .p (.iaddrA 256 4 (.t 89) (.t 80)), none⟩, 2047, 0⟩,
⟨12, ⟨none, .b (.store 4 (.t 90) (.t 87)), none⟩, 4095, 0⟩])))) (.reg [
⟨(some 91), .p (.ar 0 (.t 69) (.c (.w (.s (.int .i64 (.lit (.ofNat 1))))))), none⟩,
⟨(some 69), .p (.mv (.t 91)), none⟩]))))))) (.seq (.reg [
⟨(some 92), .p (.faddr 1 (.t 9)), none⟩,
⟨(some 93), .r (.load (some 20) (.t 92)), none⟩,
⟨(some 94), .p (.faddr 21 (.t 9)), none⟩,
⟨(some 95), .r (.load (some 20) (.t 94)), none⟩,
⟨(some 96), .p (.faddr 21 (.t 9)), none⟩,
⟨(some 97), .r (.load (some 20) (.t 96)), none⟩,
⟨(some 98), .p (.faddr 41 (.t 9)), none⟩,
⟨(some 99), .r (.load (some 4) (.t 98)), none⟩,
⟨(some 100), .p (.faddr 45 (.t 9)), none⟩,
⟨(some 101), .r (.load none (.t 100)), none⟩,
⟨(some 102), .p (.faddr 46 (.t 9)), none⟩,
⟨(some 103), .r (.load none (.t 102)), none⟩,
⟨(some 104), .p (.faddr 47 (.t 9)), none⟩,
⟨(some 105), .r (.load none (.t 104)), none⟩,
⟨(some 106), .p (.faddr 48 (.t 9)), none⟩,
⟨(some 107), .r (.load none (.t 106)), none⟩,
⟨(some 108), .p (.build [.int .u8 (.lit (.ofNat 0)), .int .u8 (.lit (.ofNat 0)), .int .u8 (.lit (.ofNat 0)), .int .u8 (.lit (.ofNat 0)), .int .u8 (.lit (.ofNat 0)), .int .u8 (.lit (.ofNat 0)), .int .u8 (.lit (.ofNat 0)), .int .u8 (.lit (.ofNat 0)), .int .u8 (.lit (.ofNat 0)), .int .u8 (.lit (.ofNat 0)), .int .u8 (.lit (.ofNat 0)), .int .u8 (.lit (.ofNat 0)), .int .u8 (.lit (.ofNat 0)), .int .u8 (.lit (.ofNat 0)), .int .u8 (.lit (.ofNat 0)), .int .u8 (.lit (.ofNat 0)), .int .u8 (.lit (.ofNat 0)), .int .u8 (.lit (.ofNat 0)), .int .u8 (.lit (.ofNat 0)), .int .u8 (.lit (.ofNat 0)), .int .u8 (.lit (.ofNat 0)), .int .u8 (.lit (.ofNat 0)), .int .u8 (.lit (.ofNat 0)), .int .u8 (.lit (.ofNat 0)), .int .u8 (.lit (.ofNat 0)), .int .u8 (.lit (.ofNat 0)), .int .u8 (.lit (.ofNat 0)), .int .u8 (.lit (.ofNat 0)), .int .u8 (.lit (.ofNat 0)), .int .u8 (.lit (.ofNat 0)), .int .u8 (.lit (.ofNat 0)), .int .u8 (.lit (.ofNat 0)), .int .u8 (.lit (.ofNat 0)), .int .u8 (.lit (.ofNat 0)), .int .u8 (.lit (.ofNat 0)), .int .u8 (.lit (.ofNat 0)), .int .u8 (.lit (.ofNat 0)), .int .u8 (.lit (.ofNat 0)), .int .u8 (.lit (.ofNat 0)), .int .u8 (.lit (.ofNat 0)), .int .u8 (.lit (.ofNat 0)), .int .u8 (.lit (.ofNat 0)), .int .u8 (.lit (.ofNat 0)), .int .u8 (.lit (.ofNat 0)), .int .u8 (.lit (.ofNat 0)), .int .u8 (.lit (.ofNat 0)), .int .u8 (.lit (.ofNat 0)), .int .u8 (.lit (.ofNat 0)), .int .u8 (.lit (.ofNat 0)), .int .u8 (.lit (.ofNat 0)), .int .u8 (.lit (.ofNat 0)), .int .u8 (.lit (.ofNat 0)), .int .u8 (.lit (.ofNat 0)), .int .u8 (.lit (.ofNat 0)), .int .u8 (.lit (.ofNat 0)), .int .u8 (.lit (.ofNat 0)), .int .u8 (.lit (.ofNat 0)), .int .u8 (.lit (.ofNat 0)), .int .u8 (.lit (.ofNat 0)), .int .u8 (.lit (.ofNat 0)), .int .u64 (.lit (.ofNat 0)), .int .u64 (.lit (.ofNat 0)), .int .u64 (.lit (.ofNat 0)), .int .u64 (.lit (.ofNat 0)), .nils, .int .u64 (.lit (.ofNat 0)), .bool false, .int .i64 (.lit (.ofNat 0))] [(0, 20, (.t 93)), (20, 20, (.t 95)), (40, 20, (.t 97)), (60, 4, (.t 99)), (64, 1, (.t 101)), (65, 1, (.t 103)), (66, 1, (.t 105)), (67, 1, (.t 107))]), none⟩,
⟨(some 19), .m (.alloc 101 [.int .u8 (.lit (.ofNat 0)), .int .u8 (.lit (.ofNat 0)), .int .u8 (.lit (.ofNat 0)), .int .u8 (.lit (.ofNat 0)), .int .u8 (.lit (.ofNat 0)), .int .u8 (.lit (.ofNat 0)), .int .u8 (.lit (.ofNat 0)), .int .u8 (.lit (.ofNat 0)), .int .u8 (.lit (.ofNat 0)), .int .u8 (.lit (.ofNat 0)), .int .u8 (.lit (.ofNat 0)), .int .u8 (.lit (.ofNat 0)), .int .u8 (.lit (.ofNat 0)), .int .u8 (.lit (.ofNat 0)), .int .u8 (.lit (.ofNat 0)), .int .u8 (.lit (.ofNat 0)), .int .u8 (.lit (.ofNat 0)), .int .u8 (.lit (.ofNat 0)), .int .u8 (.lit (.ofNat 0)), .int .u8 (.lit (.ofNat 0)), .int .u8 (.lit (.ofNat 0)), .int .u8 (.lit (.ofNat 0)), .int .u8 (.lit (.ofNat 0)), .int .u8 (.lit (.ofNat 0)), .int .u8 (.lit (.ofNat 0)), .int .u8 (.lit (.ofNat 0)), .int .u8 (.lit (.ofNat 0)), .int .u8 (.lit (.ofNat 0)), .int .u8 (.lit (.ofNat 0)), .int .u8 (.lit (.ofNat 0)), .int .u8 (.lit (.ofNat 0)), .int .u8 (.lit (.ofNat 0)), .int .u8 (.lit (.ofNat 0)), .int .u8 (.lit (.ofNat 0)), .int .u8 (.lit (.ofNat 0)), .int .u8 (.lit (.ofNat 0)), .int .u8 (.lit (.ofNat 0)), .int .u8 (.lit (.ofNat 0)), .int .u8 (.lit (.ofNat 0)), .int .u8 (.lit (.ofNat 0)), .int .u8 (.lit (.ofNat 0)), .int .u8 (.lit (.ofNat 0)), .int .u8 (.lit (.ofNat 0)), .int .u8 (.lit (.ofNat 0)), .int .u8 (.lit (.ofNat 0)), .int .u8 (.lit (.ofNat 0)), .int .u8 (.lit (.ofNat 0)), .int .u8 (.lit (.ofNat 0)), .int .u8 (.lit (.ofNat 0)), .int .u8 (.lit (.ofNat 0)), .int .u8 (.lit (.ofNat 0)), .int .u8 (.lit (.ofNat 0)), .int .u8 (.lit (.ofNat 0)), .int .u8 (.lit (.ofNat 0)), .int .u8 (.lit (.ofNat 0)), .int .u8 (.lit (.ofNat 0)), .int .u8 (.lit (.ofNat 0)), .int .u8 (.lit (.ofNat 0)), .int .u8 (.lit (.ofNat 0)), .int .u8 (.lit (.ofNat 0)), .int .u64 (.lit (.ofNat 0)), .int .u64 (.lit (.ofNat 0)), .int .u64 (.lit (.ofNat 0)), .int .u64 (.lit (.ofNat 0)), .nils, .int .u64 (.lit (.ofNat 0)), .bool false, .int .i64 (.lit (.ofNat 0))]), none⟩,
⟨none, .b (.store 68 (.t 19) (.t 108)), none⟩]) (.seq (.reg [
⟨(some 20), .m (.alloc 103 [.int .i64 (.lit (.ofNat 0)), .nils, .int .u64 (.lit (.ofNat 0)), .int .u8 (.lit (.ofNat 0)), .int .u8 (.lit (.ofNat 0)), .int .u8 (.lit (.ofNat 0)), .int .u8 (.lit (.ofNat 0)), .int .u8 (.lit (.ofNat 0)), .int .u8 (.lit (.ofNat 0)), .int .u8 (.lit (.ofNat 0)), .int .u8 (.lit (.ofNat 0)), .int .u8 (.lit (.ofNat 0)), .int .u8 (.lit (.ofNat 0)), .int .u8 (.lit (.ofNat 0)), .int .u8 (.lit (.ofNat 0)), .int .u8 (.lit (.ofNat 0)), .int .u8 (.lit (.ofNat 0)), .int .u8 (.lit (.ofNat 0)), .int .u8 (.lit (.ofNat 0)), .int .u8 (.lit (.ofNat 0)), .int .u8 (.lit (.ofNat 0)), .int .u8 (.lit (.ofNat 0)), .int .u8 (.lit (.ofNat 0))]), none⟩]) (.seq (.seq (.reg [
⟨(some 109), .p (.faddr 0 (.t 9)), none⟩,
⟨(some 110), .r (.load none (.t 109)), none⟩]) (.cond (.t 110) (.reg [
⟨(some 111), .p (.mv (.t 14)), none⟩,
⟨(some 112), .r (.load (some 68) (.t 19)), none⟩,
⟨(some 113), .p (.mkfunc 24 [(.t 9)]), none⟩,
⟨(some 114), .b (.call 23 [(.t 111), (.t 112), (.t 113)]), none⟩,
⟨none, .b (.store 23 (.t 20) (.t 114)), none⟩]) (.reg [
⟨(some 115), .p (.mv (.t 14)), none⟩,
⟨(some 116), .r (.load (some 68) (.t 19)), none⟩,
⟨(some 117), .b (.call 26 [(.t 115), (.t 116)]), none⟩,
⟨none, .b (.store 23 (.t 20) (.t 117)), none⟩]))) (.seq (.draw [
⟨0, ⟨(some 118), .p (.faddr 0 (.t 20)), none⟩, 0, 0⟩,
⟨1, ⟨(some 119), .r (.load none (.t 118)), none⟩, 1, 0⟩,
⟨2, ⟨(some 120), .p (.faddr 1 (.t 20)), none⟩, 0, 0⟩,
⟨3, ⟨(some 121), .r (.load none (.t 120)), none⟩, 4, 0⟩,
⟨5, ⟨(some 123), .p (.faddr 2 (.t 20)), none⟩, 0, 0⟩,
⟨6, ⟨(some 124), .r (.load none (.t 123)), none⟩, 32, 0⟩,
⟨7, ⟨(some 125), .p (.faddr 3 (.t 20)), none⟩, 0, 0⟩,
⟨8, ⟨(some 126), .r (.load (some 20) (.t 125)), none⟩, 128, 0⟩,
⟨9, ⟨(some 127), .p (.mv (.t 14)), none⟩, 0, 0⟩,
⟨10, ⟨(some 128), .p (.nilCheck (.t 127)), none⟩, 512, 0⟩,
⟨11, ⟨(some 129), .p (.faddr 90 (.t 128)), none⟩, 1536, 0⟩,
⟨12, ⟨(some 130), .r (.load none (.t 129)), none⟩, 3584, 0⟩,
⟨4, ⟨(some 122), .b (.append 5 1 1 (.c (.w (.s (.nils)))) (.t 121)), none⟩, 12, 0⟩,
⟨13, ⟨(some 131), .p (.build [.int .i64 (.lit (.ofNat 0)), .nils, .int .u64 (.lit (.ofNat 0)), .int .u8 (.lit (.ofNat 0)), .int .u8 (.lit (.ofNat 0)), .int .u8 (.lit (.ofNat 0)), .int .u8 (.lit (.ofNat 0)), .int .u8 (.lit (.ofNat 0)), .int .u8 (.lit (.ofNat 0)), .int .u8 (.lit (.ofNat 0)), .int .u8 (.lit (.ofNat 0)), .int .u8 (.lit (.ofNat 0)), .int .u8 (.lit (.ofNat 0)), .int .u8 (.lit (.ofNat 0)), .int .u8 (.lit (.ofNat 0)), .int .u8 (.lit (.ofNat 0)), .int .u8 (.lit (.ofNat 0)), .int .u8 (.lit (.ofNat 0)), .int .u8 (.lit (.ofNat 0)), .int .u8 (.lit (.ofNat 0)), .int .u8 (.lit (.ofNat 0)), .int .u8 (.lit (.ofNat 0)), .int .u8 (.lit (.ofNat 0)), .int .u64 (.lit (.ofNat 0))] [(0, 1, (.t 119)), (1, 1, (.t 122)), (2, 1, (.t 124)), (3, 20, (.t 126)), (23, 1, (.t 130))]), none⟩, 8191, 0⟩,
⟨14, ⟨none, .b (.store 24 (.t 10) (.t 131)), none⟩, 16383, 0⟩,
⟨15, ⟨(some 11), .p (.mv (.c (.w (.s (.int .i64 (.lit (.ofNat 0))))))), none⟩, 32767, 0⟩]) (.ret)))))))))⟩
theorem fo13 : ∃ func code hint, FnOk Go.Proofs.Tryz.prog TT 13 fa13 func code hint := ⟨Go.Proofs.Tryz.f13, bodyOf Go.Proofs.Tryz.f13, hintL [(9, [(0, 0), (1, 0), (2, 0), (3, 0), (4, 0), (5, 0), (6, 0), (9, 0), (10, 0), (7, 0), (8, 0), (11, 0), (12, 0)]), (16, [(0, 0), (1, 0), (2, 0), (3, 0), (5, 0), (6, 0), (7, 0), (8, 0), (9, 0), (10, 0), (11, 0), (12, 0), (4, 0), (13, 0), (14, 0), (15, 0)])], ⟨Go.Proofs.Tryz.func13, Go.Proofs.Tryz.call13, by kernel_rfl, by kernel_rfl, by kernel_rfl, by kernel_rfl⟩⟩
/- quarry/quarrylaw19.push -/
def fa14 : AFunc := ⟨9, [.tmp 2], .seq (.reg [
⟨(some 1), .m (.box 24 (.t 0)), none⟩,
⟨(some 2), .p (.mv (.c (.w (.s (.nils))))), none⟩]) (.seq (.reg [
⟨(some 4), .r (.load (some 4) (.t 1)), none⟩,
⟨(some 5), .b (.call 27 [(.t 4)]), none⟩,
⟨(some 3), .m (.alloc 40 (lrep (.int .u8 (.lit (.ofNat 0))) 32)), none⟩,
⟨none, .b (.store 32 (.t 3) (.t 5)), none⟩]) (.seq (.reg [
⟨(some 6), .m (.bslice 5 1 [.int .u8 (.lit (.ofNat 0))] [(0, 1, (.c (.w (.s (.int .u8 (.lit (.ofNat 127)))))))]), none⟩,
⟨(some 7), .p (.aslice 32 1 (.t 3) none none), none⟩,
⟨(some 8), .b (.append 5 1 1 (.t 6) (.t 7)), none⟩,
⟨(some 2), .p (.mv (.t 8)), none⟩]) (.ret)))⟩
theorem fo14 : ∃ func code hint, FnOk Go.Proofs.Tryz.prog TT 14 fa14 func code hint := ⟨Go.Proofs.Tryz.f14, bodyOf Go.Proofs.Tryz.f14, hintL [], ⟨Go.Proofs.Tryz.func14, Go.Proofs.Tryz.call14, by kernel_rfl, by kernel_rfl, by kernel_rfl, by kernel_rfl⟩⟩
/- quarry/state.New -/
def fa15 : AFunc := ⟨8, [.tmp 0], .seq (.reg [
⟨(some 0), .p (.mv (.c (.w (.s (.nilp))))), none⟩]) (.seq (.reg [
⟨(some 2), .m (.mkmap), none⟩,
⟨(some 3), .p (.build [.nilm, .nilm, .nilm, .nilm, .nilm, .nilm, .nilm, .nilm, .int .u64 (.lit (.ofNat 0)), .nils, .nils, .nils, .int .i64 (.lit (.ofNat 0))] [(0, 1, (.t 2))]), none⟩,
⟨(some 4), .m (.box 86 (.t 3)), none⟩,
⟨(some 1), .p (.mv (.t 4)), none⟩]) (.seq (.reg [
⟨(some 5), .p (.mv (.t 1)), none⟩,
⟨(some 6), .b (.call 28 [(.t 5)]), none⟩]) (.seq (.reg [
⟨(some 7), .p (.mv (.t 1)), none⟩,
⟨(some 0), .p (.mv (.t 7)), none⟩]) (.ret))))⟩
theorem fo15 : ∃ func code hint, FnOk Go.Proofs.Tryz.prog TT 15 fa15 func code hint := ⟨Go.Proofs.Tryz.f15, bodyOf Go.Proofs.Tryz.f15, hintL [], ⟨Go.Proofs.Tryz.func15, Go.Proofs.Tryz.call15, by kernel_rfl, by kernel_rfl, by kernel_rfl, by kernel_rfl⟩⟩
/- (*quarry/state.State).Exists -/
def fa16 : AFunc := ⟨12, [.tmp 4], .seq (.reg [
⟨(some 3), .m (.box 30 (.t 1)), none⟩,
⟨(some 4), .p (.mv (.c (.w (.s (.bool false))))), none⟩]) (.seq (.draw [
⟨0, ⟨(some 5), .p (.mv (.t 0)), none⟩, 0, 0⟩,
⟨1, ⟨(some 6), .p (.nilCheck (.t 5)), none⟩, 1, 0⟩,
⟨2, ⟨(some 7), .p (.faddr 0 (.t 6)), none⟩, 3, 0⟩,
⟨3, ⟨(some 8), .r (.load none (.t 7)), none⟩, 7, 0⟩,
⟨4, ⟨(some 9), .r (.load (some 20) (.t 3)), none⟩, 0, 0⟩,
⟨5, ⟨(some 10), .r (.lookup (.one (.arr 20 5 .u8)) (.s (.nilp)) (.t 8) (.t 9) false), none⟩, 31, 0⟩,
⟨6, ⟨(some 11), .b (.cmp 1 .ptr (.t 10) (.c (.w (.s (.nilp))))), none⟩, 63, 0⟩,
⟨7, ⟨(some 4), .p (.mv (.t 11)), none⟩, 127, 0⟩]) (.ret))⟩
theorem fo16 : ∃ func code hint, FnOk Go.Proofs.Tryz.prog TT 16 fa16 func code hint := ⟨Go.Proofs.Tryz.f16, bodyOf Go.Proofs.Tryz.f16, hintL [(1, [(0, 0), (1, 0), (2, 0), (3, 0), (4, 0), (5, 0), (6, 0), (7, 0)])], ⟨Go.Proofs.Tryz.func16, Go.Proofs.Tryz.call16, by kernel_rfl, by kernel_rfl, by kernel_rfl, by kernel_rfl⟩⟩
/- bytes.Clone -/
def fa17 : AFunc := ⟨8, [.tmp 2], .seq (.reg [
⟨(some 2), .p (.mv (.c (.w (.s (.nils))))), none⟩]) (.seq (.seq (.reg [
⟨(some 3), .p (.mv (.t 0)), none⟩,
⟨(some 4), .b (.cmp 0 .slice (.t 3) (.c (.w (.s (.nils))))), none⟩]) (.cond (.t 4) (.seq (.reg [
⟨(some 2), .p (.mv (.c (.w (.s (.nils))))), none⟩]) (.ret)) (.skip))) (.seq (.reg [
⟨(some 5), .m (.bslice 5 0 [.int .u8 (.lit (.ofNat 0))] []), none⟩,
⟨(some 6), .p (.mv (.t 0)), none⟩,
⟨(some 7), .b (.append 5 1 1 (.t 5) (.t 6)), none⟩,
⟨(some 2), .p (.mv (.t 7)), none⟩]) (.ret)))⟩
theorem fo17 : ∃ func code hint, FnOk Go.Proofs.Tryz.prog TT 17 fa17 func code hint := ⟨Go.Proofs.Tryz.f17, bodyOf Go.Proofs.Tryz.f17, hintL [], ⟨Go.Proofs.Tryz.func17, Go.Proofs.Tryz.call17, by kernel_rfl, by kernel_rfl, by kernel_rfl, by kernel_rfl⟩⟩
/- quarry/fork.Of -/
def fa20 : AFunc := ⟨133, [.cell 2 (some 26), .tmp 3], .seq (.reg [
⟨(some 2), .m (.alloc 88 [.int .i64 (.lit (.ofNat 0)), .int .u64 (.lit (.ofNat 0)), .int .u64 (.lit (.ofNat 0)), .int .u64 (.lit (.ofNat 0)), .int .u64 (.lit (.ofNat 0)), .int .u64 (.lit (.ofNat 0)), .int .u64 (.lit (.ofNat 0)), .int .u64 (.lit (.ofNat 0)), .int .i64 (.lit (.ofNat 0)), .int .i64 (.lit (.ofNat 0)), .int .u64 (.lit (.ofNat 0)), .int .u64 (.lit (.ofNat 0)), .int .u64 (.lit (.ofNat 0)), .int .u64 (.lit (.ofNat 0)), .int .u64 (.lit (.ofNat 0)), .int .u64 (.lit (.ofNat 0)), .int .u64 (.lit (.ofNat 0)), .int .u64 (.lit (.ofNat 0)), .int .u64 (.lit (.ofNat 0)), .int .u64 (.lit (.ofNat 0)), .int .u64 (.lit (.ofNat 0)), .int .u64 (.lit (.ofNat 0)), .int .u64 (.lit (.ofNat 0)), .int .u64 (.lit (.ofNat 0)), .int .u64 (.lit (.ofNat 0)), .int .u64 (.lit (.ofNat 0))]), none⟩,
⟨(some 3), .p (.mv (.c (.w (.s (.int .i64 (.lit (.ofNat 0))))))), none⟩]) (.seq (.seq (.reg [
⟨(some 4), .p (.mv (.t 0)), none⟩,
⟨(some 5), .b (.cmp 2 .int (.t 4) (.c (.w (.s (.int .i64 (.lit (.ofNat 0))))))), none⟩,
⟨(some 6), .p (.mv (.t 5)), none⟩,
⟨(some 7), .p (.mv (.t 0)), some (6, false)⟩,
⟨(some 8), .b (.cmp 4 .int (.t 7) (.c (.w (.s (.int .i64 (.lit (.ofNat 15))))))), some (6, false)⟩,
⟨(some 9), .p (.pick (.t 6) (.c (.w (.s (.bool true)))) (.t 8)), none⟩]) (.cond (.t 9) (.seq (.reg [
⟨(some 10), .p (.build [.int .i64 (.lit (.ofNat 0)), .int .u64 (.lit (.ofNat 0)), .int .u64 (.lit (.ofNat 0)), .int .u64 (.lit (.ofNat 0)), .int .u64 (.lit (.ofNat 0)), .int .u64 (.lit (.ofNat 0)), .int .u64 (.lit (.ofNat 0)), .int .u64 (.lit (.ofNat 0)), .int .i64 (.lit (.ofNat 0)), .int .i64 (.lit (.ofNat 0)), .int .u64 (.lit (.ofNat 0)), .int .u64 (.lit (.ofNat 0)), .int .u64 (.lit (.ofNat 0)), .int .u64 (.lit (.ofNat 0)), .int .u64 (.lit (.ofNat 0)), .int .u64 (.lit (.ofNat 0)), .int .u64 (.lit (.ofNat 0)), .int .u64 (.lit (.ofNat 0)), .int .u64 (.lit (.ofNat 0)), .int .u64 (.lit (.ofNat 0)), .int .u64 (.lit (.ofNat 0)), .int .u64 (.lit (.ofNat 0)), .int .u64 (.lit (.ofNat 0)), .int .u64 (.lit (.ofNat 0)), .int .u64 (.lit (.ofNat 0)), .int .u64 (.lit (.ofNat 0))] []), none⟩,
⟨none, .b (.store 26 (.t 2) (.t 10)), none⟩,
⟨(some 3), .p (.mv (.c (.w (.s (.int .i64 (.lit (.ofNat 1))))))), none⟩]) (.ret)) (.skip))) (.seq (.reg [
⟨(some 11), .p (.mv (.t 0)), none⟩,
⟨(some 12), .p (.mv (.t 0)), none⟩,
⟨(some 13), .p (.build [.int .i64 (.lit (.ofNat 0)), .int .u64 (.lit (.ofNat 0))] [(0, 1, (.c (.w (.s (.int .i64 (.lit (.ofNat 1))))))), (1, 1, (.c (.w (.s (.int .u64 (.lit (.ofNat 32000)))))))]), none⟩,
⟨(some 14), .m (.bslice 111 1 [.int .i64 (.lit (.ofNat 0)), .int .u64 (.lit (.ofNat 0))] [(0, 2, (.t 13))]), none⟩,
⟨(some 15), .b (.call 29 [(.t 12), (.t 14)]), none⟩,
⟨(some 16), .p (.mv (.t 0)), none⟩,
⟨(some 17), .p (.build [.int .i64 (.lit (.ofNat 0)), .int .u64 (.lit (.ofNat 0))] [(0, 1, (.c (.w (.s (.int .i64 (.lit (.ofNat 0))))))), (1, 1, (.c (.w (.s (.int .u64 (.lit (.ofNat 68)))))))]), none⟩,
⟨(some 18), .p (.build [.int .i64 (.lit (.ofNat 0)), .int .u64 (.lit (.ofNat 0))] [(0, 1, (.c (.w (.s (.int .i64 (.lit (.ofNat 7))))))), (1, 1, (.c (.w (.s (.int .u64 (.lit (.ofNat 16)))))))]), none⟩,
⟨(some 19), .m (.bslice 111 2 [.int .i64 (.lit (.ofNat 0)), .int .u64 (.lit (.ofNat 0))] [(0, 2, (.t 17)), (2, 2, (.t 18))]), none⟩,
⟨(some 20), .b (.call 29 [(.t 16), (.t 19)]), none⟩,
⟨(some 21), .p (.mv (.t 0)), none⟩,
⟨(some 22), .p (.build [.int .i64 (.lit (.ofNat 0)), .int .u64 (.lit (.ofNat 0))] [(0, 1, (.c (.w (.s (.int .i64 (.lit (.ofNat 9))))))), (1, 1, (.c (.w (.s (.int .u64 (.lit (.ofNat 2400)))))))]), none⟩,
⟨(some 23), .m (.bslice 111 1 [.int .i64 (.lit (.ofNat 0)), .int .u64 (.lit (.ofNat 0))] [(0, 2, (.t 22))]), none⟩,
⟨(some 24), .b (.call 29 [(.t 21), (.t 23)]), none⟩,
⟨(some 25), .p (.mv (.t 0)), none⟩,
⟨(some 26), .p (.build [.int .i64 (.lit (.ofNat 0)), .int .u64 (.lit (.ofNat 0))] [(0, 1, (.c (.w (.s (.int .i64 (.lit (.ofNat 9))))))), (1, 1, (.c (.w (.s (.int .u64 (.lit (.ofNat 1900)))))))]), none⟩,
⟨(some 27), .m (.bslice 111 1 [.int .i64 (.lit (.ofNat 0)), .int .u64 (.lit (.ofNat 0))] [(0, 2, (.t 26))]), none⟩,
⟨(some 28), .b (.call 29 [(.t 25), (.t 27)]), none⟩,
⟨(some 29), .p (.mv (.t 0)), none⟩,
⟨(some 30), .p (.build [.int .i64 (.lit (.ofNat 0)), .int .u64 (.lit (.ofNat 0))] [(0, 1, (.c (.w (.s (.int .i64 (.lit (.ofNat 14))))))), (1, 1, (.c (.w (.s (.int .u64 (.lit (.ofNat 2)))))))]), none⟩,
⟨(some 31), .m (.bslice 111 1 [.int .i64 (.lit (.ofNat 0)), .int .u64 (.lit (.ofNat 0))] [(0, 2, (.t 30))]), none⟩,
⟨(some 32), .b (.call 29 [(.t 29), (.t 31)]), none⟩,
⟨(some 33), .p (.mv (.t 0)), none⟩,
⟨(some 34), .p (.build [.int .i64 (.lit (.ofNat 0)), .int .u64 (.lit (.ofNat 0))] [(0, 1, (.c (.w (.s (.int .i64 (.lit (.ofNat 14))))))), (1, 1, (.c (.w (.s (.int .u64 (.lit (.ofNat 49152)))))))]), none⟩,
⟨(some 35), .m (.bslice 111 1 [.int .i64 (.lit (.ofNat 0)), .int .u64 (.lit (.ofNat 0))] [(0, 2, (.t 34))]), none⟩,
⟨(some 36), .b (.call 29 [(.t 33), (.t 35)]), none⟩,
⟨(some 37), .p (.conv .i64 (.t 36)), none⟩,
⟨(some 38), .p (.mv (.t 0)), none⟩,
⟨(some 39), .p (.build [.int .i64 (.lit (.ofNat 0)), .int .u64 (.lit (.ofNat 0))] [(0, 1, (.c (.w (.s (.int .i64 (.lit (.ofNat 3))))))), (1, 1, (.c (.w (.s (.int .u64 (.lit (.ofNat 24576)))))))]), none⟩,
⟨(some 40), .m (.bslice 111 1 [.int .i64 (.lit (.ofNat 0)), .int .u64 (.lit (.ofNat 0))] [(0, 2, (.t 39))]), none⟩,
⟨(some 41), .b (.call 29 [(.t 38), (.t 40)]), none⟩,
⟨(some 42), .p (.conv .i64 (.t 41)), none⟩,
⟨(some 43), .p (.mv (.t 0)), none⟩,
⟨(some 44), .p (.build [.int .i64 (.lit (.ofNat 0)), .int .u64 (.lit (.ofNat 0))] [(0, 1, (.c (.w (.s (.int .i64 (.lit (.ofNat 0))))))), (1, 1, (.c (.w (.s (.int .u64 (.lit (.ofNat 20)))))))]), none⟩,
⟨(some 45), .p (.build [.int .i64 (.lit (.ofNat 0)), .int .u64 (.lit (.ofNat 0))] [(0, 1, (.c (.w (.s (.int .i64 (.lit (.ofNat 2))))))), (1, 1, (.c (.w (.s (.int .u64 (.lit (.ofNat 400)))))))]), none⟩,
⟨(some 46), .p (.build [.int .i64 (.lit (.ofNat 0)), .int .u64 (.lit (.ofNat 0))] [(0, 1, (.c (.w (.s (.int .i64 (.lit (.ofNat 7))))))), (1, 1, (.c (.w (.s (.int .u64 (.lit (.ofNat 700)))))))]), none⟩,
⟨(some 47), .p (.build [.int .i64 (.lit (.ofNat 0)), .int .u64 (.lit (.ofNat 0))] [(0, 1, (.c (.w (.s (.int .i64 (.lit (.ofNat 9))))))), (1, 1, (.c (.w (.s (.int .u64 (.lit (.ofNat 0)))))))]), none⟩,
⟨(some 48), .m (.bslice 111 4 [.int .i64 (.lit (.ofNat 0)), .int .u64 (.lit (.ofNat 0))] [(0, 2, (.t 44)), (2, 2, (.t 45)), (4, 2, (.t 46)), (6, 2, (.t 47))]), none⟩,
⟨(some 49), .b (.call 29 [(.t 43), (.t 48)]), none⟩,
⟨(some 50), .p (.mv (.t 0)), none⟩,
⟨(some 51), .p (.build [.int .i64 (.lit (.ofNat 0)), .int .u64 (.lit (.ofNat 0))] [(0, 1, (.c (.w (.s (.int .i64 (.lit (.ofNat 0))))))), (1, 1, (.c (.w (.s (.int .u64 (.lit (.ofNat 20)))))))]), none⟩,
⟨(some 52), .p (.build [.int .i64 (.lit (.ofNat 0)), .int .u64 (.lit (.ofNat 0))] [(0, 1, (.c (.w (.s (.int .i64 (.lit (.ofNat 2))))))), (1, 1, (.c (.w (.s (.int .u64 (.lit (.ofNat 700)))))))]), none⟩,
⟨(some 53), .p (.build [.int .i64 (.lit (.ofNat 0)), .int .u64 (.lit (.ofNat 0))] [(0, 1, (.c (.w (.s (.int .i64 (.lit (.ofNat 9))))))), (1, 1, (.c (.w (.s (.int .u64 (.lit (.ofNat 0)))))))]), none⟩,
⟨(some 54), .m (.bslice 111 3 [.int .i64 (.lit (.ofNat 0)), .int .u64 (.lit (.ofNat 0))] [(0, 2, (.t 51)), (2, 2, (.t 52)), (4, 2, (.t 53))]), none⟩,
⟨(some 55), .b (.call 29 [(.t 50), (.t 54)]), none⟩,
⟨(some 56), .p (.mv (.t 0)), none⟩,
⟨(some 57), .p (.build [.int .i64 (.lit (.ofNat 0)), .int .u64 (.lit (.ofNat 0))] [(0, 1, (.c (.w (.s (.int .i64 (.lit (.ofNat 5))))))), (1, 1, (.c (.w (.s (.int .u64 (.lit (.ofNat 400)))))))]), none⟩,
⟨(some 58), .p (.build [.int .i64 (.lit (.ofNat 0)), .int .u64 (.lit (.ofNat 0))] [(0, 1, (.c (.w (.s (.int .i64 (.lit (.ofNat 7))))))), (1, 1, (.c (.w (.s (.int .u64 (.lit (.ofNat 700)))))))]), none⟩,
⟨(some 59), .p (.build [.int .i64 (.lit (.ofNat 0)), .int .u64 (.lit (.ofNat 0))] [(0, 1, (.c (.w (.s (.int .i64 (.lit (.ofNat 9))))))), (1, 1, (.c (.w (.s (.int .u64 (.lit (.ofNat 0)))))))]), none⟩,
⟨(some 60), .m (.bslice 111 3 [.int .i64 (.lit (.ofNat 0)), .int .u64 (.lit (.ofNat 0))] [(0, 2, (.t 57)), (2, 2, (.t 58)), (4, 2, (.t 59))]), none⟩,
⟨(some 61), .b (.call 29 [(.t 56), (.t 60)]), none⟩,
⟨(some 62), .p (.mv (.t 0)), none⟩,
⟨(some 63), .p (.build [.int .i64 (.lit (.ofNat 0)), .int .u64 (.lit (.ofNat 0))] [(0, 1, (.c (.w (.s (.int .i64 (.lit (.ofNat 0))))))), (1, 1, (.c (.w (.s (.int .u64 (.lit (.ofNat 50)))))))]), none⟩,
⟨(some 64), .p (.build [.int .i64 (.lit (.ofNat 0)), .int .u64 (.lit (.ofNat 0))] [(0, 1, (.c (.w (.s (.int .i64 (.lit (.ofNat 2))))))), (1, 1, (.c (.w (.s (.int .u64 (.lit (.ofNat 200)))))))]), none⟩,
⟨(some 65), .p (.build [.int .i64 (.lit (.ofNat 0)), .int .u64 (.lit (.ofNat 0))] [(0, 1, (.c (.w (.s (.int .i64 (.lit (.ofNat 7))))))), (1, 1, (.c (.w (.s (.int .u64 (.lit (.ofNat 800)))))))]), none⟩,
⟨(some 66), .p (.build [.int .i64 (.lit (.ofNat 0)), .int .u64 (.lit (.ofNat 0))] [(0, 1, (.c (.w (.s (.int .i64 (.lit (.ofNat 9))))))), (1, 1, (.c (.w (.s (.int .u64 (.lit (.ofNat 0)))))))]), none⟩,
⟨(some 67), .m (.bslice 111 4 [.int .i64 (.lit (.ofNat 0)), .int .u64 (.lit (.ofNat 0))] [(0, 2, (.t 63)), (2, 2, (.t 64)), (4, 2, (.t 65)), (6, 2, (.t 66))]), none⟩,
⟨(some 68), .b (.call 29 [(.t 62), (.t 67)]), none⟩,
⟨(some 69), .p (.mv (.t 0)), none⟩,
⟨(some 70), .p (.build [.int .i64 (.lit (.ofNat 0)), .int .u64 (.lit (.ofNat 0))] [(0, 1, (.c (.w (.s (.int .i64 (.lit (.ofNat 0))))))), (1, 1, (.c (.w (.s (.int .u64 (.lit (.ofNat 40)))))))]), none⟩,
⟨(some 71), .p (.build [.int .i64 (.lit (.ofNat 0)), .int .u64 (.lit (.ofNat 0))] [(0, 1, (.c (.w (.s (.int .i64 (.lit (.ofNat 2))))))), (1, 1, (.c (.w (.s (.int .u64 (.lit (.ofNat 700)))))))]), none⟩,
⟨(some 72), .p (.build [.int .i64 (.lit (.ofNat 0)), .int .u64 (.lit (.ofNat 0))] [(0, 1, (.c (.w (.s (.int .i64 (.lit (.ofNat 9))))))), (1, 1, (.c (.w (.s (.int .u64 (.lit (.ofNat 0)))))))]), none⟩,
⟨(some 73), .m (.bslice 111 3 [.int .i64 (.lit (.ofNat 0)), .int .u64 (.lit (.ofNat 0))] [(0, 2, (.t 70)), (2, 2, (.t 71)), (4, 2, (.t 72))]), none⟩,
⟨(some 74), .b (.call 29 [(.t 69), (.t 73)]), none⟩,
⟨(some 75), .p (.mv (.t 0)), none⟩,
⟨(some 76), .p (.build [.int .i64 (.lit (.ofNat 0)), .int .u64 (.lit (.ofNat 0))] [(0, 1, (.c (.w (.s (.int .i64 (.lit (.ofNat 9))))))), (1, 1, (.c (.w (.s (.int .u64 (.lit (.ofNat 2600)))))))]), none⟩,
⟨(some 77), .m (.bslice 111 1 [.int .i64 (.lit (.ofNat 0)), .int .u64 (.lit (.ofNat 0))] [(0, 2, (.t 76))]), none⟩,
⟨(some 78), .b (.call 29 [(.t 75), (.t 77)]), none⟩,
⟨(some 79), .p (.mv (.t 0)), none⟩,
⟨(some 80), .p (.build [.int .i64 (.lit (.ofNat 0)), .int .u64 (.lit (.ofNat 0))] [(0, 1, (.c (.w (.s (.int .i64 (.lit (.ofNat 9))))))), (1, 1, (.c (.w (.s (.int .u64 (.lit (.ofNat 2100)))))))]), none⟩,
⟨(some 81), .m (.bslice 111 1 [.int .i64 (.lit (.ofNat 0)), .int .u64 (.lit (.ofNat 0))] [(0, 2, (.t 80))]), none⟩,
⟨(some 82), .b (.call 29 [(.t 79), (.t 81)]), none⟩,
⟨(some 83), .p (.mv (.t 0)), none⟩,
⟨(some 84), .p (.build [.int .i64 (.lit (.ofNat 0)), .int .u64 (.lit (.ofNat 0))] [(0, 1, (.c (.w (.s (.int .i64 (.lit (.ofNat 9))))))), (1, 1, (.c (.w (.s (.int .u64 (.lit (.ofNat 100)))))))]), none⟩,
⟨(some 85), .m (.bslice 111 1 [.int .i64 (.lit (.ofNat 0)), .int .u64 (.lit (.ofNat 0))] [(0, 2, (.t 84))]), none⟩,
⟨(some 86), .b (.call 29 [(.t 83), (.t 85)]), none⟩,
⟨(some 87), .p (.mv (.t 0)), none⟩,
⟨(some 88), .p (.build [.int .i64 (.lit (.ofNat 0)), .int .u64 (.lit (.ofNat 0))] [(0, 1, (.c (.w (.s (.int .i64 (.lit (.ofNat 2))))))), (1, 1, (.c (.w (.s (.int .u64 (.lit (.ofNat 5000)))))))]), none⟩,
⟨(some 89), .m (.bslice 111 1 [.int .i64 (.lit (.ofNat 0)), .int .u64 (.lit (.ofNat 0))] [(0, 2, (.t 88))]), none⟩,
⟨(some 90), .b (.call 29 [(.t 87), (.t 89)]), none⟩,
⟨(some 91), .p (.mv (.t 0)), none⟩,
⟨(some 92), .p (.build [.int .i64 (.lit (.ofNat 0)), .int .u64 (.lit (.ofNat 0))] [(0, 1, (.c (.w (.s (.int .i64 (.lit (.ofNat 2))))))), (1, 1, (.c (.w (.s (.int .u64 (.lit (.ofNat 25000)))))))]), none⟩,
⟨(some 93), .m (.bslice 111 1 [.int .i64 (.lit (.ofNat 0)), .int .u64 (.lit (.ofNat 0))] [(0, 2, (.t 92))]), none⟩,
⟨(some 94), .b (.call 29 [(.t 91), (.t 93)]), none⟩,
⟨(some 95), .p (.mv (.t 0)), none⟩,
⟨(some 96), .p (.build [.int .i64 (.lit (.ofNat 0)), .int .u64 (.lit (.ofNat 0))] [(0, 1, (.c (.w (.s (.int .i64 (.lit (.ofNat 0))))))), (1, 1, (.c (.w (.s (.int .u64 (.lit (.ofNat 24000)))))))]), none⟩,
⟨(some 97), .p (.build [.int .i64 (.lit (.ofNat 0)), .int .u64 (.lit (.ofNat 0))] [(0, 1, (.c (.w (.s (.int .i64 (.lit (.ofNat 10))))))), (1, 1, (.c (.w (.s (.int .u64 (.lit (.ofNat 0)))))))]), none⟩,
⟨(some 98), .m (.bslice 111 2 [.int .i64 (.lit (.ofNat 0)), .int .u64 (.lit (.ofNat 0))] [(0, 2, (.t 96)), (2, 2, (.t 97))]), none⟩,
⟨(some 99), .b (.call 29 [(.t 95), (.t 98)]), none⟩,
⟨(some 100), .p (.mv (.t 0)), none⟩,
⟨(some 101), .p (.build [.int .i64 (.lit (.ofNat 0)), .int .u64 (.lit (.ofNat 0))] [(0, 1, (.c (.w (.s (.int .i64 (.lit (.ofNat 0))))))), (1, 1, (.c (.w (.s (.int .u64 (.lit (.ofNat 10)))))))]), none⟩,
⟨(some 102), .p (.build [.int .i64 (.lit (.ofNat 0)), .int .u64 (.lit (.ofNat 0))] [(0, 1, (.c (.w (.s (.int .i64 (.lit (.ofNat 3))))))), (1, 1, (.c (.w (.s (.int .u64 (.lit (.ofNat 50)))))))]), none⟩,
⟨(some 103), .m (.bslice 111 2 [.int .i64 (.lit (.ofNat 0)), .int .u64 (.lit (.ofNat 0))] [(0, 2, (.t 101)), (2, 2, (.t 102))]), none⟩,
⟨(some 104), .b (.call 29 [(.t 100), (.t 103)]), none⟩,
⟨(some 105), .p (.mv (.t 0)), none⟩,
⟨(some 106), .p (.build [.int .i64 (.lit (.ofNat 0)), .int .u64 (.lit (.ofNat 0))] [(0, 1, (.c (.w (.s (.int .i64 (.lit (.ofNat 0))))))), (1, 1, (.c (.w (.s (.int .u64 (.lit (.ofNat 15000)))))))]), none⟩,
⟨(some 107), .p (.build [.int .i64 (.lit (.ofNat 0)), .int .u64 (.lit (.ofNat 0))] [(0, 1, (.c (.w (.s (.int .i64 (.lit (.ofNat 10))))))), (1, 1, (.c (.w (.s (.int .u64 (.lit (.ofNat 4800)))))))]), none⟩,
⟨(some 108), .m (.bslice 111 2 [.int .i64 (.lit (.ofNat 0)), .int .u64 (.lit (.ofNat 0))] [(0, 2, (.t 106)), (2, 2, (.t 107))]), none⟩,
⟨(some 109), .b (.call 29 [(.t 105), (.t 108)]), none⟩,
⟨(some 110), .p (.mv (.t 0)), none⟩,
⟨(some 111), .p (.build [.int .i64 (.lit (.ofNat 0)), .int .u64 (.lit (.ofNat 0))] [(0, 1, (.c (.w (.s (.int .i64 (.lit (.ofNat 0))))))), (1, 1, (.c (.w (.s (.int .u64 (.lit (.ofNat 2)))))))]), none⟩,
⟨(some 112), .p (.build [.int .i64 (.lit (.ofNat 0)), .int .u64 (.lit (.ofNat 0))] [(0, 1, (.c (.w (.s (.int .i64 (.lit (.ofNat 10))))))), (1, 1, (.c (.w (.s (.int .u64 (.lit (.ofNat 5)))))))]), none⟩,
⟨(some 113), .m (.bslice 111 2 [.int .i64 (.lit (.ofNat 0)), .int .u64 (.lit (.ofNat 0))] [(0, 2, (.t 111)), (2, 2, (.t 112))]), none⟩,
⟨(some 114), .b (.call 29 [(.t 110), (.t 113)]), none⟩,
⟨(some 115), .p (.mv (.t 0)), none⟩,
⟨(some 116), .p (.build [.int .i64 (.lit (.ofNat 0)), .int .u64 (.lit (.ofNat 0))] [(0, 1, (.c (.w (.s (.int .i64 (.lit (.ofNat 0))))))), (1, 1, (.c (.w (.s (.int .u64 (.lit (.ofNat 5000000000000000000)))))))]), none⟩,
⟨(some 117), .p (.build [.int .i64 (.lit (.ofNat 0)), .int .u64 (.lit (.ofNat 0))] [(0, 1, (.c (.w (.s (.int .i64 (.lit (.ofNat 4))))))), (1, 1, (.c (.w (.s (.int .u64 (.lit (.ofNat 3000000000000000000)))))))]), none⟩,
⟨(some 118), .p (.build [.int .i64 (.lit (.ofNat 0)), .int .u64 (.lit (.ofNat 0))] [(0, 1, (.c (.w (.s (.int .i64 (.lit (.ofNat 5))))))), (1, 1, (.c (.w (.s (.int .u64 (.lit (.ofNat 2000000000000000000)))))))]), none⟩,
⟨(some 119), .p (.build [.int .i64 (.lit (.ofNat 0)), .int .u64 (.lit (.ofNat 0))] [(0, 1, (.c (.w (.s (.int .i64 (.lit (.ofNat 13))))))), (1, 1, (.c (.w (.s (.int .u64 (.lit (.ofNat 0)))))))]), none⟩,
⟨(some 120), .m (.bslice 111 4 [.int .i64 (.lit (.ofNat 0)), .int .u64 (.lit (.ofNat 0))] [(0, 2, (.t 116)), (2, 2, (.t 117)), (4, 2, (.t 118)), (6, 2, (.t 119))]), none⟩,
⟨(some 121), .b (.call 29 [(.t 115), (.t 120)]), none⟩,
⟨(some 122), .p (.mv (.t 0)), none⟩,
⟨(some 123), .p (.build [.int .i64 (.lit (.ofNat 0)), .int .u64 (.lit (.ofNat 0))] [(0, 1, (.c (.w (.s (.int .i64 (.lit (.ofNat 4))))))), (1, 1, (.c (.w (.s (.int .u64 (.lit (.ofNat 3000000)))))))]), none⟩,
⟨(some 124), .p (.build [.int .i64 (.lit (.ofNat 0)), .int .u64 (.lit (.ofNat 0))] [(0, 1, (.c (.w (.s (.int .i64 (.lit (.ofNat 5))))))), (1, 1, (.c (.w (.s (.int .u64 (.lit (.ofNat 5000000)))))))]), none⟩,
⟨(some 125), .p (.build [.int .i64 (.lit (.ofNat 0)), .int .u64 (.lit (.ofNat 0))] [(0, 1, (.c (.w (.s (.int .i64 (.lit (.ofNat 8))))))), (1, 1, (.c (.w (.s (.int .u64 (.lit (.ofNat 9000000)))))))]), none⟩,
⟨(some 126), .p (.build [.int .i64 (.lit (.ofNat 0)), .int .u64 (.lit (.ofNat 0))] [(0, 1, (.c (.w (.s (.int .i64 (.lit (.ofNat 10))))))), (1, 1, (.c (.w (.s (.int .u64 (.lit (.ofNat 9700000)))))))]), none⟩,
⟨(some 127), .p (.build [.int .i64 (.lit (.ofNat 0)), .int .u64 (.lit (.ofNat 0))] [(0, 1, (.c (.w (.s (.int .i64 (.lit (.ofNat 11))))))), (1, 1, (.c (.w (.s (.int .u64 (.lit (.ofNat 10700000)))))))]), none⟩,
⟨(some 128), .p (.build [.int .i64 (.lit (.ofNat 0)), .int .u64 (.lit (.ofNat 0))] [(0, 1, (.c (.w (.s (.int .i64 (.lit (.ofNat 12))))))), (1, 1, (.c (.w (.s (.int .u64 (.lit (.ofNat 11400000)))))))]), none⟩,
⟨(some 129), .p (.build [.int .i64 (.lit (.ofNat 0)), .int .u64 (.lit (.ofNat 0))] [(0, 1, (.c (.w (.s (.int .i64 (.lit (.ofNat 13))))))), (1, 1, (.c (.w (.s (.int .u64 (.lit (.ofNat 0)))))))]), none⟩,
⟨(some 130), .m (.bslice 111 7 [.int .i64 (.lit (.ofNat 0)), .int .u64 (.lit (.ofNat 0))] [(0, 2, (.t 123)), (2, 2, (.t 124)), (4, 2, (.t 125)), (6, 2, (.t 126)), (8, 2, (.t 127)), (10, 2, (.t 128)), (12, 2, (.t 129))]), none⟩,
⟨(some 131), .b (.call 29 [(.t 122), (.t 130)]), none⟩,
⟨(some 132), .p (.build [.int .i64 (.lit (.ofNat 0)), .int .u64 (.lit (.ofNat 0)), .int .u64 (.lit (.ofNat 0)), .int .u64 (.lit (.ofNat 0)), .int .u64 (.lit (.ofNat 0)), .int .u64 (.lit (.ofNat 0)), .int .u64 (.lit (.ofNat 0)), .int .u64 (.lit (.ofNat 0)), .int .i64 (.lit (.ofNat 0)), .int .i64 (.lit (.ofNat 0)), .int .u64 (.lit (.ofNat 0)), .int .u64 (.lit (.ofNat 0)), .int .u64 (.lit (.ofNat 0)), .int .u64 (.lit (.ofNat 0)), .int .u64 (.lit (.ofNat 0)), .int .u64 (.lit (.ofNat 0)), .int .u64 (.lit (.ofNat 0)), .int .u64 (.lit (.ofNat 0)), .int .u64 (.lit (.ofNat 0)), .int .u64 (.lit (.ofNat 0)), .int .u64 (.lit (.ofNat 0)), .int .u64 (.lit (.ofNat 0)), .int .u64 (.lit (.ofNat 0)), .int .u64 (.lit (.ofNat 0)), .int .u64 (.lit (.ofNat 0)), .int .u64 (.lit (.ofNat 0))] [(0, 1, (.t 11)), (1, 1, (.c (.w (.s (.int .u64 (.lit (.ofNat 21000))))))), (2, 1, (.t 15)), (3, 1, (.c (.w (.s (.int .u64 (.lit (.ofNat 4))))))), (4, 1, (.t 20)), (5, 1, (.t 24)), (6, 1, (.t 28)), (7, 1, (.t 32)), (8, 1, (.t 37)), (9, 1, (.t 42)), (10, 1, (.t 49)), (11, 1, (.t 55)), (12, 1, (.t 61)), (13, 1, (.t 68)), (14, 1, (.t 74)), (15, 1, (.t 78)), (16, 1, (.t 82)), (17, 1, (.t 86)), (18, 1, (.t 90)), (19, 1, (.t 94)), (20, 1, (.t 99)), (21, 1, (.t 104)), (22, 1, (.t 109)), (23, 1, (.t 114)), (24, 1, (.t 121)), (25, 1, (.t 131))]), none⟩,
⟨none, .b (.store 26 (.t 2) (.t 132)), none⟩,
⟨(some 3), .p (.mv (.c (.w (.s (.int .i64 (.lit (.ofNat 0))))))), none⟩]) (.ret)))⟩
theorem fo20 : ∃ func code hint, FnOk Go.Proofs.Tryz.prog TT 20 fa20 func code hint := ⟨Go.Proofs.Tryz.f20, bodyOf Go.Proofs.Tryz.f20, hintL [], ⟨Go.Proofs.Tryz.func20, Go.Proofs.Tryz.call20, by kernel_rfl, by kernel_rfl, by kernel_rfl, by kernel_rfl⟩⟩
/- quarry/code.Pops -/
def fa21 : AFunc := ⟨63, [.tmp 4, .tmp 5, .tmp 6], .seq (.reg [
⟨(some 4), .p (.mv (.c (.w (.s (.int .i64 (.lit (.ofNat 0))))))), none⟩,
⟨(some 5), .p (.mv (.c (.w (.s (.int .i64 (.lit (.ofNat 0))))))), none⟩,
⟨(some 6), .p (.mv (.c (.w (.s (.bool false))))), none⟩]) (.seq (.seq (.reg [
⟨(some 9), .p (.mv (.t 0)), none⟩,
⟨(some 10), .p (.mv (.t 1)), none⟩,
⟨(some 11), .b (.call 30 [(.t 9), (.t 10)]), none⟩,
⟨(some 12), .p (.not (.t 11)), none⟩]) (.cond (.t 12) (.seq (.reg [
⟨(some 4), .p (.mv (.c (.w (.s (.int .i64 (.lit (.ofNat 0))))))), none⟩,
⟨(some 5), .p (.mv (.c (.w (.s (.int .i64 (.lit (.ofNat 0))))))), none⟩,
⟨(some 6), .p (.mv (.c (.w (.s (.bool false))))), none⟩]) (.ret)) (.skip))) (.seq (.block 0 (.seq (.reg [
⟨(some 14), .p (.mv (.t 1)), none⟩,
⟨(some 15), .b (.cmp 5 .int (.t 14) (.c (.w (.s (.int .i64 (.lit (.ofNat 95))))))), none⟩,
⟨(some 16), .p (.mv (.t 15)), none⟩,
⟨(some 17), .p (.mv (.t 1)), some (16, true)⟩,
⟨(some 18), .b (.cmp 3 .int (.t 17) (.c (.w (.s (.int .i64 (.lit (.ofNat 127))))))), some (16, true)⟩,
⟨(some 19), .p (.pick (.t 16) (.t 18) (.c (.w (.s (.bool false))))), none⟩,
⟨(some 13), .p (.mv (.t 19)), none⟩]) (.cond (.t 13) (.seq (.reg [
⟨(some 4), .p (.mv (.c (.w (.s (.int .i64 (.lit (.ofNat 0))))))), none⟩,
⟨(some 5), .p (.mv (.c (.w (.s (.int .i64 (.lit (.ofNat 1))))))), none⟩,
⟨(some 6), .p (.mv (.c (.w (.s (.bool true))))), none⟩]) (.ret)) (.seq (.reg [
⟨(some 21), .p (.mv (.t 1)), none⟩,
⟨(some 22), .b (.cmp 5 .int (.t 21) (.c (.w (.s (.int .i64 (.lit (.ofNat 128))))))), none⟩,
⟨(some 23), .p (.mv (.t 22)), none⟩,
⟨(some 24), .p (.mv (.t 1)), some (23, true)⟩,
⟨(some 25), .b (.cmp 2 .int (.t 24) (.c (.w (.s (.int .i64 (.lit (.ofNat 144))))))), some (23, true)⟩,
⟨(some 26), .p (.pick (.t 23) (.t 25) (.c (.w (.s (.bool false))))), none⟩,
⟨(some 20), .p (.mv (.t 26)), none⟩]) (.cond (.t 20) (.seq (.reg [
⟨(some 27), .p (.mv (.t 1)), none⟩,
⟨(some 28), .p (.ar 1 (.t 27) (.c (.w (.s (.int .i64 (.lit (.ofNat 128))))))), none⟩,
⟨(some 29), .p (.ar 0 (.t 28) (.c (.w (.s (.int .i64 (.lit (.ofNat 1))))))), none⟩,
⟨(some 30), .p (.mv (.t 1)), none⟩,
⟨(some 31), .p (.ar 1 (.t 30) (.c (.w (.s (.int .i64 (.lit (.ofNat 128))))))), none⟩,
⟨(some 32), .p (.ar 0 (.t 31) (.c (.w (.s (.int .i64 (.lit (.ofNat 2))))))), none⟩,
⟨(some 4), .p (.mv (.t 29)), none⟩,
⟨(some 5), .p (.mv (.t 32)), none⟩,
⟨(some 6), .p (.mv (.c (.w (.s (.bool true))))), none⟩]) (.ret)) (.seq (.reg [
⟨(some 34), .p (.mv (.t 1)), none⟩,
⟨(some 35), .b (.cmp 5 .int (.t 34) (.c (.w (.s (.int .i64 (.lit (.ofNat 144))))))), none⟩,
⟨(some 36), .p (.mv (.t 35)), none⟩,
⟨(some 37), .p (.mv (.t 1)), some (36, true)⟩,
⟨(some 38), .b (.cmp 2 .int (.t 37) (.c (.w (.s (.int .i64 (.lit (.ofNat 160))))))), some (36, true)⟩,
⟨(some 39), .p (.pick (.t 36) (.t 38) (.c (.w (.s (.bool false))))), none⟩,
⟨(some 33), .p (.mv (.t 39)), none⟩]) (.cond (.t 33) (.seq (.reg [
⟨(some 40), .p (.mv (.t 1)), none⟩,
⟨(some 41), .p (.ar 1 (.t 40) (.c (.w (.s (.int .i64 (.lit (.ofNat 144))))))), none⟩,
⟨(some 42), .p (.ar 0 (.t 41) (.c (.w (.s (.int .i64 (.lit (.ofNat 2))))))), none⟩,
⟨(some 43), .p (.mv (.t 1)), none⟩,
⟨(some 44), .p (.ar 1 (.t 43) (.c (.w (.s (.int .i64 (.lit (.ofNat 144))))))), none⟩,
⟨(some 45), .p (.ar 0 (.t 44) (.c (.w (.s (.int .i64 (.lit (.ofNat 2))))))), none⟩,
⟨(some 4), .p (.mv (.t 42)), none⟩,
⟨(some 5), .p (.mv (.t 45)), none⟩,
⟨(some 6), .p (.mv (.c (.w (.s (.bool true))))), none⟩]) (.ret)) (.seq (.reg [
⟨(some 47), .p (.mv (.t 1)), none⟩,
⟨(some 48), .b (.cmp 5 .int (.t 47) (.c (.w (.s (.int .i64 (.lit (.ofNat 160))))))), none⟩,
⟨(some 49), .p (.mv (.t 48)), none⟩,
⟨(some 50), .p (.mv (.t 1)), some (49, true)⟩,
⟨(some 51), .b (.cmp 3 .int (.t 50) (.c (.w (.s (.int .i64 (.lit (.ofNat 164))))))), some (49, true)⟩,
⟨(some 52), .p (.pick (.t 49) (.t 51) (.c (.w (.s (.bool false))))), none⟩,
⟨(some 46), .p (.mv (.t 52)), none⟩]) (.cond (.t 46) (.seq (.reg [
⟨(some 53), .p (.mv (.t 1)), none⟩,
⟨(some 54), .p (.ar 1 (.t 53) (.c (.w (.s (.int .i64 (.lit (.ofNat 160))))))), none⟩,
⟨(some 55), .p (.ar 0 (.t 54) (.c (.w (.s (.int .i64 (.lit (.ofNat 2))))))), none⟩,
⟨(some 4), .p (.mv (.t 55)), none⟩,
⟨(some 5), .p (.mv (.c (.w (.s (.int .i64 (.lit (.ofNat 0))))))), none⟩,
⟨(some 6), .p (.mv (.c (.w (.s (.bool true))))), none⟩]) (.ret)) (.skip)))))))))) (.seq (.reg [
⟨(some 57), .p (.mv (.t 1)), none⟩,
⟨(some 58), .b (.call 31 [(.t 57)]), none⟩,
⟨(some 56), .p (.mv (.t 58)), none⟩,
⟨(some 59), .p (.ext (.t 56) 0), none⟩,
⟨(some 60), .p (.ext (.t 56) 1), none⟩,
⟨(some 7), .p (.mv (.t 59)), none⟩,
⟨(some 8), .p (.mv (.t 60)), none⟩]) (.seq (.reg [
⟨(some 61), .p (.mv (.t 7)), none⟩,
⟨(some 62), .p (.mv (.t 8)), none⟩,
⟨(some 4), .p (.mv (.t 61)), none⟩,
⟨(some 5), .p (.mv (.t 62)), none⟩,
⟨(some 6), .p (.mv (.c (.w (.s (.bool true))))), none⟩]) (.ret)))))⟩
theorem fo21 : ∃ func code hint, FnOk Go.Proofs.Tryz.prog TT 21 fa21 func code hint := ⟨Go.Proofs.Tryz.f21, bodyOf Go.Proofs.Tryz.f21, hintL [], ⟨Go.Proofs.Tryz.func21, Go.Proofs.Tryz.call21, by kernel_rfl, by kernel_rfl, by kernel_rfl, by kernel_rfl⟩⟩
/- quarry/gas.Base -/
def fa22 : AFunc := ⟨102, [.tmp 4], .seq (.reg [
⟨(some 2), .m (.box 88 (.t 0)), none⟩,
⟨(some 4), .p (.mv (.c (.w (.s (.int .u64 (.lit (.ofNat 0))))))), none⟩]) (.seq (.seq (.reg [
⟨(some 5), .p (.faddr 0 (.t 2)), none⟩,
⟨(some 6), .r (.load none (.t 5)), none⟩,
⟨(some 7), .p (.mv (.t 1)), none⟩,
⟨(some 8), .b (.call 30 [(.t 6), (.t 7)]), none⟩,
⟨(some 9), .p (.not (.t 8)), none⟩]) (.cond (.t 9) (.seq (.reg [
⟨(some 4), .p (.mv (.c (.w (.s (.int .u64 (.lit (.ofNat 0))))))), none⟩]) (.ret)) (.skip))) (.seq (.block 0 (.seq (.seq (.reg [
⟨(some 11), .p (.mv (.t 1)), none⟩,
⟨(some 12), .b (.call 32 [(.t 11), (.c (.w (.s (.int .i64 (.lit (.ofNat 16)))))), (.c (.w (.s (.int .i64 (.lit (.ofNat 29))))))]), none⟩,
⟨(some 10), .p (.mv (.t 12)), none⟩]) (.cond (.t 10) (.skip) (.seq (.reg [
⟨(some 13), .p (.mv (.t 1)), none⟩,
⟨(some 14), .b (.call 32 [(.t 13), (.c (.w (.s (.int .i64 (.lit (.ofNat 81)))))), (.c (.w (.s (.int .i64 (.lit (.ofNat 83))))))]), none⟩,
⟨(some 10), .p (.mv (.t 14)), none⟩]) (.cond (.t 10) (.skip) (.reg [
⟨(some 15), .p (.mv (.t 1)), none⟩,
⟨(some 16), .b (.call 32 [(.t 15), (.c (.w (.s (.int .i64 (.lit (.ofNat 96)))))), (.c (.w (.s (.int .i64 (.lit (.ofNat 159))))))]), none⟩,
⟨(some 10), .p (.mv (.t 16)), none⟩]))))) (.cond (.t 10) (.seq (.reg [
⟨(some 4), .p (.mv (.c (.w (.s (.int .u64 (.lit (.ofNat 3))))))), none⟩]) (.ret)) (.seq (.seq (.reg [
⟨(some 18), .p (.mv (.t 1)), none⟩,
⟨(some 19), .b (.call 32 [(.t 18), (.c (.w (.s (.int .i64 (.lit (.ofNat 50)))))), (.c (.w (.s (.int .i64 (.lit (.ofNat 52))))))]), none⟩,
⟨(some 17), .p (.mv (.t 19)), none⟩]) (.cond (.t 17) (.skip) (.seq (.reg [
⟨(some 20), .p (.mv (.t 1)), none⟩,
⟨(some 21), .b (.call 32 [(.t 20), (.c (.w (.s (.int .i64 (.lit (.ofNat 65)))))), (.c (.w (.s (.int .i64 (.lit (.ofNat 70))))))]), none⟩,
⟨(some 17), .p (.mv (.t 21)), none⟩]) (.cond (.t 17) (.skip) (.reg [
⟨(some 22), .p (.mv (.t 1)), none⟩,
⟨(some 23), .b (.call 32 [(.t 22), (.c (.w (.s (.int .i64 (.lit (.ofNat 88)))))), (.c (.w (.s (.int .i64 (.lit (.ofNat 90))))))]), none⟩,
⟨(some 17), .p (.mv (.t 23)), none⟩]))))) (.cond (.t 17) (.seq (.reg [
⟨(some 4), .p (.mv (.c (.w (.s (.int .u64 (.lit (.ofNat 2))))))), none⟩]) (.ret)) (.seq (.reg [
⟨(some 25), .p (.mv (.t 1)), none⟩,
⟨(some 26), .b (.call 32 [(.t 25), (.c (.w (.s (.int .i64 (.lit (.ofNat 160)))))), (.c (.w (.s (.int .i64 (.lit (.ofNat 164))))))]), none⟩,
⟨(some 24), .p (.mv (.t 26)), none⟩]) (.cond (.t 24) (.seq (.reg [
⟨(some 4), .p (.mv (.c (.w (.s (.int .u64 (.lit (.ofNat 375))))))), none⟩]) (.ret)) (.skip)))))))) (.seq (.seq (.reg [
⟨(some 27), .p (.mv (.t 1)), none⟩]) (.block 1 (.seq (.seq (.reg [
⟨(some 29), .b (.cmp 0 .int (.t 27) (.c (.w (.s (.int .i64 (.lit (.ofNat 48))))))), none⟩,
⟨(some 28), .p (.mv (.t 29)), none⟩]) (.cond (.t 28) (.skip) (.seq (.reg [
⟨(some 30), .b (.cmp 0 .int (.t 27) (.c (.w (.s (.int .i64 (.lit (.ofNat 54))))))), none⟩,
⟨(some 28), .p (.mv (.t 30)), none⟩]) (.cond (.t 28) (.skip) (.seq (.reg [
⟨(some 31), .b (.cmp 0 .int (.t 27) (.c (.w (.s (.int .i64 (.lit (.ofNat 56))))))), none⟩,
⟨(some 28), .p (.mv (.t 31)), none⟩]) (.cond (.t 28) (.skip) (.seq (.reg [
⟨(some 32), .b (.cmp 0 .int (.t 27) (.c (.w (.s (.int .i64 (.lit (.ofNat 58))))))), none⟩,
⟨(some 28), .p (.mv (.t 32)), none⟩]) (.cond (.t 28) (.skip) (.seq (.reg [
⟨(some 33), .b (.cmp 0 .int (.t 27) (.c (.w (.s (.int .i64 (.lit (.ofNat 61))))))), none⟩,
⟨(some 28), .p (.mv (.t 33)), none⟩]) (.cond (.t 28) (.skip) (.seq (.reg [
⟨(some 34), .b (.cmp 0 .int (.t 27) (.c (.w (.s (.int .i64 (.lit (.ofNat 72))))))), none⟩,
⟨(some 28), .p (.mv (.t 34)), none⟩]) (.cond (.t 28) (.skip) (.seq (.reg [
⟨(some 35), .b (.cmp 0 .int (.t 27) (.c (.w (.s (.int .i64 (.lit (.ofNat 74))))))), none⟩,
⟨(some 28), .p (.mv (.t 35)), none⟩]) (.cond (.t 28) (.skip) (.seq (.reg [
⟨(some 36), .b (.cmp 0 .int (.t 27) (.c (.w (.s (.int .i64 (.lit (.ofNat 80))))))), none⟩,
⟨(some 28), .p (.mv (.t 36)), none⟩]) (.cond (.t 28) (.skip) (.reg [
⟨(some 37), .b (.cmp 0 .int (.t 27) (.c (.w (.s (.int .i64 (.lit (.ofNat 95))))))), none⟩,
⟨(some 28), .p (.mv (.t 37)), none⟩]))))))))))))))))) (.cond (.t 28) (.seq (.reg [
⟨(some 4), .p (.mv (.c (.w (.s (.int .u64 (.lit (.ofNat 2))))))), none⟩]) (.ret)) (.seq (.seq (.reg [
⟨(some 39), .b (.cmp 0 .int (.t 27) (.c (.w (.s (.int .i64 (.lit (.ofNat 1))))))), none⟩,
⟨(some 38), .p (.mv (.t 39)), none⟩]) (.cond (.t 38) (.skip) (.seq (.reg [
⟨(some 40), .b (.cmp 0 .int (.t 27) (.c (.w (.s (.int .i64 (.lit (.ofNat 3))))))), none⟩,
⟨(some 38), .p (.mv (.t 40)), none⟩]) (.cond (.t 38) (.skip) (.seq (.reg [
⟨(some 41), .b (.cmp 0 .int (.t 27) (.c (.w (.s (.int .i64 (.lit (.ofNat 53))))))), none⟩,
⟨(some 38), .p (.mv (.t 41)), none⟩]) (.cond (.t 38) (.skip) (.seq (.reg [
⟨(some 42), .b (.cmp 0 .int (.t 27) (.c (.w (.s (.int .i64 (.lit (.ofNat 55))))))), none⟩,
⟨(some 38), .p (.mv (.t 42)), none⟩]) (.cond (.t 38) (.skip) (.seq (.reg [
⟨(some 43), .b (.cmp 0 .int (.t 27) (.c (.w (.s (.int .i64 (.lit (.ofNat 57))))))), none⟩,
⟨(some 38), .p (.mv (.t 43)), none⟩]) (.cond (.t 38) (.skip) (.seq (.reg [
⟨(some 44), .b (.cmp 0 .int (.t 27) (.c (.w (.s (.int .i64 (.lit (.ofNat 62))))))), none⟩,
⟨(some 38), .p (.mv (.t 44)), none⟩]) (.cond (.t 38) (.skip) (.seq (.reg [
⟨(some 45), .b (.cmp 0 .int (.t 27) (.c (.w (.s (.int .i64 (.lit (.ofNat 73))))))), none⟩,
⟨(some 38), .p (.mv (.t 45)), none⟩]) (.cond (.t 38) (.skip) (.reg [
⟨(some 46), .b (.cmp 0 .int (.t 27) (.c (.w (.s (.int .i64 (.lit (.ofNat 94))))))), none⟩,
⟨(some 38), .p (.mv (.t 46)), none⟩]))))))))))))))) (.cond (.t 38) (.seq (.reg [
⟨(some 4), .p (.mv (.c (.w (.s (.int .u64 (.lit (.ofNat 3))))))), none⟩]) (.ret)) (.seq (.seq (.reg [
⟨(some 48), .b (.cmp 0 .int (.t 27) (.c (.w (.s (.int .i64 (.lit (.ofNat 2))))))), none⟩,
⟨(some 47), .p (.mv (.t 48)), none⟩]) (.cond (.t 47) (.skip) (.seq (.reg [
⟨(some 49), .b (.cmp 0 .int (.t 27) (.c (.w (.s (.int .i64 (.lit (.ofNat 4))))))), none⟩,
⟨(some 47), .p (.mv (.t 49)), none⟩]) (.cond (.t 47) (.skip) (.seq (.reg [
⟨(some 50), .b (.cmp 0 .int (.t 27) (.c (.w (.s (.int .i64 (.lit (.ofNat 5))))))), none⟩,
⟨(some 47), .p (.mv (.t 50)), none⟩]) (.cond (.t 47) (.skip) (.seq (.reg [
⟨(some 51), .b (.cmp 0 .int (.t 27) (.c (.w (.s (.int .i64 (.lit (.ofNat 6))))))), none⟩,
⟨(some 47), .p (.mv (.t 51)), none⟩]) (.cond (.t 47) (.skip) (.seq (.reg [
⟨(some 52), .b (.cmp 0 .int (.t 27) (.c (.w (.s (.int .i64 (.lit (.ofNat 7))))))), none⟩,
⟨(some 47), .p (.mv (.t 52)), none⟩]) (.cond (.t 47) (.skip) (.seq (.reg [
⟨(some 53), .b (.cmp 0 .int (.t 27) (.c (.w (.s (.int .i64 (.lit (.ofNat 11))))))), none⟩,
⟨(some 47), .p (.mv (.t 53)), none⟩]) (.cond (.t 47) (.skip) (.reg [
⟨(some 54), .b (.cmp 0 .int (.t 27) (.c (.w (.s (.int .i64 (.lit (.ofNat 71))))))), none⟩,
⟨(some 47), .p (.mv (.t 54)), none⟩]))))))))))))) (.cond (.t 47) (.seq (.reg [
⟨(some 4), .p (.mv (.c (.w (.s (.int .u64 (.lit (.ofNat 5))))))), none⟩]) (.ret)) (.seq (.seq (.reg [
⟨(some 56), .b (.cmp 0 .int (.t 27) (.c (.w (.s (.int .i64 (.lit (.ofNat 8))))))), none⟩,
⟨(some 55), .p (.mv (.t 56)), none⟩]) (.cond (.t 55) (.skip) (.seq (.reg [
⟨(some 57), .b (.cmp 0 .int (.t 27) (.c (.w (.s (.int .i64 (.lit (.ofNat 9))))))), none⟩,
⟨(some 55), .p (.mv (.t 57)), none⟩]) (.cond (.t 55) (.skip) (.reg [
⟨(some 58), .b (.cmp 0 .int (.t 27) (.c (.w (.s (.int .i64 (.lit (.ofNat 86))))))), none⟩,
⟨(some 55), .p (.mv (.t 58)), none⟩]))))) (.cond (.t 55) (.seq (.reg [
⟨(some 4), .p (.mv (.c (.w (.s (.int .u64 (.lit (.ofNat 8))))))), none⟩]) (.ret)) (.seq (.seq (.reg [
⟨(some 60), .b (.cmp 0 .int (.t 27) (.c (.w (.s (.int .i64 (.lit (.ofNat 10))))))), none⟩,
⟨(some 59), .p (.mv (.t 60)), none⟩]) (.cond (.t 59) (.skip) (.reg [
⟨(some 61), .b (.cmp 0 .int (.t 27) (.c (.w (.s (.int .i64 (.lit (.ofNat 87))))))), none⟩,
⟨(some 59), .p (.mv (.t 61)), none⟩]))) (.cond (.t 59) (.seq (.reg [
⟨(some 4), .p (.mv (.c (.w (.s (.int .u64 (.lit (.ofNat 10))))))), none⟩]) (.ret)) (.seq (.reg [
⟨(some 63), .b (.cmp 0 .int (.t 27) (.c (.w (.s (.int .i64 (.lit (.ofNat 32))))))), none⟩,
⟨(some 62), .p (.mv (.t 63)), none⟩]) (.cond (.t 62) (.seq (.reg [
⟨(some 4), .p (.mv (.c (.w (.s (.int .u64 (.lit (.ofNat 30))))))), none⟩]) (.ret)) (.seq (.reg [
⟨(some 65), .b (.cmp 0 .int (.t 27) (.c (.w (.s (.int .i64 (.lit (.ofNat 64))))))), none⟩,
⟨(some 64), .p (.mv (.t 65)), none⟩]) (.cond (.t 64) (.seq (.reg [
⟨(some 4), .p (.mv (.c (.w (.s (.int .u64 (.lit (.ofNat 20))))))), none⟩]) (.ret)) (.seq (.reg [
⟨(some 67), .b (.cmp 0 .int (.t 27) (.c (.w (.s (.int .i64 (.lit (.ofNat 91))))))), none⟩,
⟨(some 66), .p (.mv (.t 67)), none⟩]) (.cond (.t 66) (.seq (.reg [
⟨(some 4), .p (.mv (.c (.w (.s (.int .u64 (.lit (.ofNat 1))))))), none⟩]) (.ret)) (.seq (.seq (.reg [
⟨(some 69), .b (.cmp 0 .int (.t 27) (.c (.w (.s (.int .i64 (.lit (.ofNat 92))))))), none⟩,
⟨(some 68), .p (.mv (.t 69)), none⟩]) (.cond (.t 68) (.skip) (.reg [
⟨(some 70), .b (.cmp 0 .int (.t 27) (.c (.w (.s (.int .i64 (.lit (.ofNat 93))))))), none⟩,
⟨(some 68), .p (.mv (.t 70)), none⟩]))) (.cond (.t 68) (.seq (.reg [
⟨(some 4), .p (.mv (.c (.w (.s (.int .u64 (.lit (.ofNat 100))))))), none⟩]) (.ret)) (.seq (.reg [
⟨(some 72), .b (.cmp 0 .int (.t 27) (.c (.w (.s (.int .i64 (.lit (.ofNat 49))))))), none⟩,
⟨(some 71), .p (.mv (.t 72)), none⟩]) (.cond (.t 71) (.seq (.reg [
⟨(some 73), .p (.faddr 10 (.t 2)), none⟩,
⟨(some 74), .r (.load none (.t 73)), none⟩,
⟨(some 4), .p (.mv (.t 74)), none⟩]) (.ret)) (.seq (.seq (.reg [
⟨(some 76), .b (.cmp 0 .int (.t 27) (.c (.w (.s (.int .i64 (.lit (.ofNat 59))))))), none⟩,
⟨(some 75), .p (.mv (.t 76)), none⟩]) (.cond (.t 75) (.skip) (.reg [
⟨(some 77), .b (.cmp 0 .int (.t 27) (.c (.w (.s (.int .i64 (.lit (.ofNat 60))))))), none⟩,
⟨(some 75), .p (.mv (.t 77)), none⟩]))) (.cond (.t 75) (.seq (.reg [
⟨(some 78), .p (.faddr 11 (.t 2)), none⟩,
⟨(some 79), .r (.load none (.t 78)), none⟩,
⟨(some 4), .p (.mv (.t 79)), none⟩]) (.ret)) (.seq (.reg [
⟨(some 81), .b (.cmp 0 .int (.t 27) (.c (.w (.s (.int .i64 (.lit (.ofNat 63))))))), none⟩,
⟨(some 80), .p (.mv (.t 81)), none⟩]) (.cond (.t 80) (.seq (.reg [
⟨(some 82), .p (.faddr 12 (.t 2)), none⟩,
⟨(some 83), .r (.load none (.t 82)), none⟩,
⟨(some 4), .p (.mv (.t 83)), none⟩]) (.ret)) (.seq (.reg [
⟨(some 85), .b (.cmp 0 .int (.t 27) (.c (.w (.s (.int .i64 (.lit (.ofNat 84))))))), none⟩,
⟨(some 84), .p (.mv (.t 85)), none⟩]) (.cond (.t 84) (.seq (.reg [
⟨(some 86), .p (.faddr 13 (.t 2)), none⟩,
⟨(some 87), .r (.load none (.t 86)), none⟩,
⟨(some 4), .p (.mv (.t 87)), none⟩]) (.ret)) (.seq (.seq (.reg [
⟨(some 89), .b (.cmp 0 .int (.t 27) (.c (.w (.s (.int .i64 (.lit (.ofNat 241))))))), none⟩,
⟨(some 88), .p (.mv (.t 89)), none⟩]) (.cond (.t 88) (.skip) (.seq (.reg [
⟨(some 90), .b (.cmp 0 .int (.t 27) (.c (.w (.s (.int .i64 (.lit (.ofNat 242))))))), none⟩,
⟨(some 88), .p (.mv (.t 90)), none⟩]) (.cond (.t 88) (.skip) (.seq (.reg [
⟨(some 91), .b (.cmp 0 .int (.t 27) (.c (.w (.s (.int .i64 (.lit (.ofNat 244))))))), none⟩,
⟨(some 88), .p (.mv (.t 91)), none⟩]) (.cond (.t 88) (.skip) (.reg [
⟨(some 92), .b (.cmp 0 .int (.t 27) (.c (.w (.s (.int .i64 (.lit (.ofNat 250))))))), none⟩,
⟨(some 88), .p (.mv (.t 92)), none⟩]))))))) (.cond (.t 88) (.seq (.reg [
⟨(some 93), .p (.faddr 14 (.t 2)), none⟩,
⟨(some 94), .r (.load none (.t 93)), none⟩,
⟨(some 4), .p (.mv (.t 94)), none⟩]) (.ret)) (.seq (.reg [
⟨(some 96), .b (.cmp 0 .int (.t 27) (.c (.w (.s (.int .i64 (.lit (.ofNat 255))))))), none⟩,
⟨(some 95), .p (.mv (.t 96)), none⟩]) (.cond (.t 95) (.seq (.reg [
⟨(some 97), .p (.faddr 18 (.t 2)), none⟩,
⟨(some 98), .r (.load none (.t 97)), none⟩,
⟨(some 4), .p (.mv (.t 98)), none⟩]) (.ret)) (.seq (.seq (.reg [
⟨(some 100), .b (.cmp 0 .int (.t 27) (.c (.w (.s (.int .i64 (.lit (.ofNat 240))))))), none⟩,
⟨(some 99), .p (.mv (.t 100)), none⟩]) (.cond (.t 99) (.skip) (.reg [
⟨(some 101), .b (.cmp 0 .int (.t 27) (.c (.w (.s (.int .i64 (.lit (.ofNat 245))))))), none⟩,
⟨(some 99), .p (.mv (.t 101)), none⟩]))) (.cond (.t 99) (.seq (.reg [
⟨(some 4), .p (.mv (.c (.w (.s (.int .u64 (.lit (.ofNat 32000))))))), none⟩]) (.ret)) (.skip))))))))))))))))))))))))))))))))))) (.seq (.reg [
⟨(some 4), .p (.mv (.c (.w (.s (.int .u64 (.lit (.ofNat 0))))))), none⟩]) (.ret)))))⟩
theorem fo22 : ∃ func code hint, FnOk Go.Proofs.Tryz.prog TT 22 fa22 func code hint := ⟨Go.Proofs.Tryz.f22, bodyOf Go.Proofs.Tryz.f22, hintL [], ⟨Go.Proofs.Tryz.func22, Go.Proofs.Tryz.call22, by kernel_rfl, by kernel_rfl, by kernel_rfl, by kernel_rfl⟩⟩
/- (*quarry/vm.machine).calls -/
def fa26 : AFunc := ⟨50, [.cell 4 (some 23)], .seq (.reg [
⟨(some 2), .m (.box 91 (.t 0)), none⟩,
⟨(some 3), .m (.box 101 (.t 1)), none⟩,
⟨(some 4), .m (.alloc 103 [.int .i64 (.lit (.ofNat 0)), .nils, .int .u64 (.lit (.ofNat 0)), .int .u8 (.lit (.ofNat 0)), .int .u8 (.lit (.ofNat 0)), .int .u8 (.lit (.ofNat 0)), .int .u8 (.lit (.ofNat 0)), .int .u8 (.lit (.ofNat 0)), .int .u8 (.lit (.ofNat 0)), .int .u8 (.lit (.ofNat 0)), .int .u8 (.lit (.ofNat 0)), .int .u8 (.lit (.ofNat 0)), .int .u8 (.lit (.ofNat 0)), .int .u8 (.lit (.ofNat 0)), .int .u8 (.lit (.ofNat 0)), .int .u8 (.lit (.ofNat 0)), .int .u8 (.lit (.ofNat 0)), .int .u8 (.lit (.ofNat 0)), .int .u8 (.lit (.ofNat 0)), .int .u8 (.lit (.ofNat 0)), .int .u8 (.lit (.ofNat 0)), .int .u8 (.lit (.ofNat 0)), .int .u8 (.lit (.ofNat 0))]), none⟩]) (.seq (.seq (.reg [
⟨(some 5), .r (.load none (.t 2)), none⟩,
⟨(some 6), .p (.faddr 0 (.t 3)), none⟩,
⟨(some 7), .r (.load (some 20) (.t 6)), none⟩,
⟨(some 8), .p (.faddr 60 (.t 3)), none⟩,
⟨(some 9), .r (.load (some 4) (.t 8)), none⟩,
⟨(some 10), .b (.call 34 [(.t 5), (.t 7), (.t 9)]), none⟩,
⟨(some 11), .p (.not (.t 10)), none⟩]) (.cond (.t 11) (.seq (.reg [
⟨(some 12), .p (.faddr 65 (.t 3)), none⟩,
⟨(some 13), .r (.load none (.t 12)), none⟩,
⟨(some 14), .b (.call 35 [(.t 13)]), none⟩,
⟨none, .b (.store 23 (.t 4) (.t 14)), none⟩]) (.ret)) (.skip))) (.seq (.seq (.draw [
⟨0, ⟨(some 15), .r (.load none (.t 2)), none⟩, 0, 0⟩,
⟨1, ⟨(some 16), .p (.nilCheck (.t 15)), none⟩, 1, 0⟩,
⟨2, ⟨(some 17), .p (.faddr 89 (.t 16)), none⟩, 3, 0⟩,
⟨3, ⟨(some 18), .r (.load none (.t 17)), none⟩, 7, 0⟩,
⟨4, ⟨(some 19), .p (.faddr 20 (.t 3)), none⟩, 0, 0⟩,
⟨5, ⟨(some 20), .r (.load (some 20) (.t 19)), none⟩, 16, 0⟩,
⟨6, ⟨(some 21), .b (.call 16 [(.t 18), (.t 20)]), none⟩, 63, 0⟩,
⟨7, ⟨(some 22), .p (.not (.t 21)), none⟩, 127, 0⟩,
⟨8, ⟨(some 23), .p (.mv (.t 22)), none⟩, 255, 0⟩,
⟨9, ⟨(some 24), .r (.load none (.t 2)), some (23, true)⟩, 511, 0⟩,
⟨10, ⟨(some 25), .b (.call 37 [(.t 24), (.c (.w (.s (.int .i64 (.lit (.ofNat 3))))))]), some (23, true)⟩, 1023, 0⟩,
⟨11, ⟨(some 26), .p (.pick (.t 23) (.t 25) (.c (.w (.s (.bool false))))), none⟩, 2047, 0⟩,
⟨12, ⟨(some 27), .p (.mv (.t 26)), none⟩, 4095, 0⟩,
⟨13, ⟨(some 28), .p (.faddr 60 (.t 3)), some (27, true)⟩, 8191, 0⟩,
⟨14, ⟨(some 29), .r (.load (some 4) (.t 28)), some (27, true)⟩, 16383, 0⟩,
⟨15, ⟨(some 30), .p (.build [.int .u64 (.lit (.ofNat 0)), .int .u64 (.lit (.ofNat 0)), .int .u64 (.lit (.ofNat 0)), .int .u64 (.lit (.ofNat 0))] []), some (27, true)⟩, 8191, 0⟩,
⟨16, ⟨(some 31), .b (.cmp 0 (.agg (.one (.arr 4 22 .u64))) (.t 29) (.t 30)), some (27, true)⟩, 65535, 0⟩,
⟨17, ⟨(some 32), .p (.pick (.t 27) (.t 31) (.c (.w (.s (.bool false))))), none⟩, 131071, 0⟩,
⟨18, ⟨(some 33), .p (.mv (.t 32)), none⟩, 262143, 0⟩,
⟨19, ⟨(some 34), .r (.load none (.t 2)), some (33, true)⟩, 524287, 0⟩,
⟨20, ⟨(some 35), .p (.nilCheck (.t 34)), some (33, true)⟩, 1048575, 0⟩,
⟨21, ⟨(some 36), .p (.faddr 0 (.t 35)), some (33, true)⟩, 2097151, 0⟩,
⟨22, ⟨(some 37), .r (.load none (.t 36)), some (33, true)⟩, 4194303, 0⟩,
⟨23, ⟨(some 38), .p (.faddr 20 (.t 3)), some (33, true)⟩, 524287, 0⟩,
⟨24, ⟨(some 39), .r (.load (some 20) (.t 38)), some (33, true)⟩, 8912895, 0⟩,
⟨25, ⟨(some 40), .b (.call 53 [(.t 37), (.t 39)]), some (33, true)⟩, 33554431, 0⟩,
⟨26, ⟨(some 41), .b (.cmp 0 .int (.t 40) (.c (.w (.s (.int .i64 (.lit (.ofNat 0))))))), some (33, true)⟩, 67108863, 0⟩,
⟨27, ⟨(some 42), .p (.pick (.t 33) (.t 41) (.c (.w (.s (.bool false))))), none⟩, 134217727, 0⟩]) (.cond (.t 42) (.seq (.reg [
⟨(some 43), .p (.faddr 65 (.t 3)), none⟩,
⟨(some 44), .r (.load none (.t 43)), none⟩,
⟨(some 45), .p (.build [.int .i64 (.lit (.ofNat 0)), .nils, .int .u64 (.lit (.ofNat 0)), .int .u8 (.lit (.ofNat 0)), .int .u8 (.lit (.ofNat 0)), .int .u8 (.lit (.ofNat 0)), .int .u8 (.lit (.ofNat 0)), .int .u8 (.lit (.ofNat 0)), .int .u8 (.lit (.ofNat 0)), .int .u8 (.lit (.ofNat 0)), .int .u8 (.lit (.ofNat 0)), .int .u8 (.lit (.ofNat 0)), .int .u8 (.lit (.ofNat 0)), .int .u8 (.lit (.ofNat 0)), .int .u8 (.lit (.ofNat 0)), .int .u8 (.lit (.ofNat 0)), .int .u8 (.lit (.ofNat 0)), .int .u8 (.lit (.ofNat 0)), .int .u8 (.lit (.ofNat 0)), .int .u8 (.lit (.ofNat 0)), .int .u8 (.lit (.ofNat 0)), .int .u8 (.lit (.ofNat 0)), .int .u8 (.lit (.ofNat 0))] [(2, 1, (.t 44))]), none⟩,
⟨none, .b (.store 23 (.t 4) (.t 45)), none⟩]) (.ret)) (.skip))) (.seq (.reg [
⟨(some 46), .r (.load none (.t 2)), none⟩,
⟨(some 47), .r (.load (some 68) (.t 3)), none⟩,
⟨(some 48), .p (.mkfunc 55 [(.t 2), (.t 3)]), none⟩,
⟨(some 49), .b (.call 54 [(.t 46), (.t 47), (.t 48)]), none⟩,
⟨none, .b (.store 23 (.t 4) (.t 49)), none⟩]) (.ret))))⟩
theorem fo26 : ∃ func code hint, FnOk Go.Proofs.Tryz.prog TT 26 fa26 func code hint := ⟨Go.Proofs.Tryz.f26, bodyOf Go.Proofs.Tryz.f26, hintL [(3, [(0, 0), (1, 0), (2, 0), (3, 0), (4, 0), (5, 0), (6, 0), (7, 0), (8, 0), (9, 0), (10, 0), (11, 0), (12, 0), (13, 0), (14, 0), (15, 0), (16, 0), (17, 0), (18, 0), (19, 0), (20, 0), (21, 0), (22, 0), (23, 0), (24, 0), (25, 0), (26, 0), (27, 0)])], ⟨Go.Proofs.Tryz.func26, Go.Proofs.Tryz.call26, by kernel_rfl, by kernel_rfl, by kernel_rfl, by kernel_rfl⟩⟩
/- quarry/word.Bytes -/
def fa27 : AFunc := ⟨24, [.cell 2 (some 32)], .seq (.reg [
⟨(some 1), .m (.box 24 (.t 0)), none⟩,
⟨(some 2), .m (.alloc 40 (lrep (.int .u8 (.lit (.ofNat 0))) 32)), none⟩]) (.seq (.reg [
⟨(some 3), .m (.alloc 40 (lrep (.int .u8 (.lit (.ofNat 0))) 32)), none⟩]) (.seq (.seq (.reg [
⟨(some 6), .p (.mv (.c (.w (.s (.int .i64 (.lit (.ofNat 0))))))), none⟩]) (.block 0 (.loop (.seq (.reg [
⟨(some 7), .b (.cmp 2 .int (.t 6) (.c (.w (.s (.int .i64 (.lit (.ofNat 32))))))), none⟩]) (.seq (.cond (.t 7) (.skip) (.exit 0)) (.seq (.block 1 (.seq (.reg [
⟨(some 8), .p (.mv (.t 6)), none⟩,
⟨(some 4), .p (.mv (.t 8)), none⟩]) (.seq (.reg [
⟨(some 9), .p (.mv (.t 4)), none⟩,
⟨(some 10), .p (.ar 1 (.c (.w (.s (.int .i64 (.lit (.ofNat 31)))))) (.t 9)), none⟩,
⟨(some 5), .p (.mv (.t 10)), none⟩]) (.reg [
⟨(some 11), .p (.mv (.t 4)), none⟩,
⟨(some 12), .p (.mv (.t 5)), none⟩,
⟨(some 13), .p (.dv (.t 12) (.c (.w (.s (.int .i64 (.lit (.ofNat 8))))))), none⟩,
⟨(some 14), .p (.iaddrA 4 1 (.t 1) (.t 13)), none⟩,
⟨(some 15), .r (.load none (.t 14)), none⟩,
⟨(some 16), .p (.mv (.t 5)), none⟩,
⟨(some 17), .p (.md (.t 16) (.c (.w (.s (.int .i64 (.lit (.ofNat 8))))))), none⟩,
⟨(some 18), .p (.ar 2 (.t 17) (.c (.w (.s (.int .i64 (.lit (.ofNat 8))))))), none⟩,
⟨(some 19), .p (.sr (.t 15) (.t 18)), none⟩,
⟨(some 20), .p (.conv .u8 (.t 19)), none⟩,
⟨(some 21), .p (.iaddrA 32 1 (.t 3) (.t 11)), none⟩,
⟨none, .b (.store 1 (.t 21) (.t 20)), none⟩])))) (.reg [
⟨(some 22), .p (.ar 0 (.t 6) (.c (.w (.s (.int .i64 (.lit (.ofNat 1))))))), none⟩,
⟨(some 6), .p (.mv (.t 22)), none⟩]))))))) (.seq (.reg [
⟨(some 23), .r (.load (some 32) (.t 3)), none⟩,
⟨none, .b (.store 32 (.t 2) (.t 23)), none⟩]) (.ret))))⟩
theorem fo27 : ∃ func code hint, FnOk Go.Proofs.Tryz.prog TT 27 fa27 func code hint := ⟨Go.Proofs.Tryz.f27, bodyOf Go.Proofs.Tryz.f27, hintL [], ⟨Go.Proofs.Tryz.func27, Go.Proofs.Tryz.call27, by kernel_rfl, by kernel_rfl, by kernel_rfl, by kernel_rfl⟩⟩
/- (*quarry/state.State).Begin -/
def fa28 : AFunc := ⟨13, [], .reg [
⟨(some 2), .p (.mv (.t 0)), none⟩,
⟨(some 3), .m (.mkmap), none⟩,
⟨(some 4), .m (.mkmap), none⟩,
⟨(some 5), .m (.mkmap), none⟩,
⟨(some 6), .m (.mkmap), none⟩,
⟨(some 7), .m (.mkmap), none⟩,
⟨(some 8), .m (.mkmap), none⟩,
⟨(some 9), .m (.mkmap), none⟩,
⟨(some 10), .p (.build [.nilm, .nilm, .nilm, .nilm, .nilm, .nilm, .nilm, .int .u64 (.lit (.ofNat 0)), .nils, .nils, .nils, .int .i64 (.lit (.ofNat 0))] [(0, 1, (.t 3)), (1, 1, (.t 4)), (2, 1, (.t 5)), (3, 1, (.t 6)), (4, 1, (.t 7)), (5, 1, (.t 8)), (6, 1, (.t 9))]), none⟩,
⟨(some 11), .p (.nilCheck (.t 2)), none⟩,
⟨(some 12), .p (.faddr 1 (.t 11)), none⟩,
⟨none, .b (.store 12 (.t 12) (.t 10)), none⟩]⟩
theorem fo28 : ∃ func code hint, FnOk Go.Proofs.Tryz.prog TT 28 fa28 func code hint := ⟨Go.Proofs.Tryz.f28, bodyOf Go.Proofs.Tryz.f28, hintL [], ⟨Go.Proofs.Tryz.func28, Go.Proofs.Tryz.call28, by kernel_rfl, by kernel_rfl, by kernel_rfl, by kernel_rfl⟩⟩
/- quarry/fork.pick -/
def fa29 : AFunc := ⟨22, [.tmp 4], .seq (.reg [
⟨(some 4), .p (.mv (.c (.w (.s (.int .u64 (.lit (.ofNat 0))))))), none⟩]) (.seq (.reg [
⟨(some 5), .p (.mv (.c (.w (.s (.int .u64 (.lit (.ofNat 0))))))), none⟩]) (.seq (.seq (.reg [
⟨(some 8), .p (.mv (.t 1)), none⟩,
⟨(some 9), .p (.len (.t 8)), none⟩,
⟨(some 10), .p (.mv (.c (.w (.s (.int .i64 (.lit (.ofNat 0))))))), none⟩]) (.block 0 (.loop (.seq (.reg [
⟨(some 11), .b (.cmp 2 .int (.t 10) (.t 9)), none⟩]) (.seq (.cond (.t 11) (.skip) (.exit 0)) (.seq (.block 1 (.seq (.reg [
⟨(some 12), .p (.iaddrS 2 (.t 8) (.t 10)), none⟩,
⟨(some 13), .r (.load (some 2) (.t 12)), none⟩,
⟨(some 7), .m (.alloc 111 [.int .i64 (.lit (.ofNat 0)), .int .u64 (.lit (.ofNat 0))]), none⟩,
⟨none, .b (.store 2 (.t 7) (.t 13)), none⟩]) (.seq (.reg [
⟨(some 14), .p (.mv (.t 0)), none⟩,
⟨(some 15), .p (.faddr 0 (.t 7)), none⟩,
⟨(some 16), .r (.load none (.t 15)), none⟩,
⟨(some 17), .b (.cmp 5 .int (.t 14) (.t 16)), none⟩]) (.cond (.t 17) (.reg [
⟨(some 18), .p (.faddr 1 (.t 7)), none⟩,
⟨(some 19), .r (.load none (.t 18)), none⟩,
⟨(some 5), .p (.mv (.t 19)), none⟩]) (.skip))))) (.reg [
⟨(some 20), .p (.ar 0 (.t 10) (.c (.w (.s (.int .i64 (.lit (.ofNat 1))))))), none⟩,
⟨(some 10), .p (.mv (.t 20)), none⟩]))))))) (.seq (.reg [
⟨(some 21), .p (.mv (.t 5)), none⟩,
⟨(some 4), .p (.mv (.t 21)), none⟩]) (.ret))))⟩
theorem fo29 : ∃ func code hint, FnOk Go.Proofs.Tryz.prog TT 29 fa29 func code hint := ⟨Go.Proofs.Tryz.f29, bodyOf Go.Proofs.Tryz.f29, hintL [], ⟨Go.Proofs.Tryz.func29, Go.Proofs.Tryz.call29, by kernel_rfl, by kernel_rfl, by kernel_rfl, by kernel_rfl⟩⟩
/- quarry/fork.Op -/
def fa30 : AFunc := ⟨19, [.tmp 4], .seq (.reg [
⟨(some 4), .p (.mv (.c (.w (.s (.bool false))))), none⟩]) (.seq (.reg [
⟨(some 6), .p (.mv (.t 1)), none⟩,
⟨(some 7), .b (.call 58 [(.t 6)]), none⟩,
⟨(some 5), .p (.mv (.t 7)), none⟩]) (.seq (.reg [
⟨(some 8), .p (.mv (.t 5)), none⟩,
⟨(some 9), .b (.cmp 5 .int (.t 8) (.c (.w (.s (.int .i64 (.lit (.ofNat 0))))))), none⟩,
⟨(some 10), .p (.mv (.t 9)), none⟩,
⟨(some 11), .p (.mv (.t 0)), some (10, true)⟩,
⟨(some 12), .p (.mv (.t 5)), some (10, true)⟩,
⟨(some 13), .b (.cmp 5 .int (.t 11) (.t 12)), some (10, true)⟩,
⟨(some 14), .p (.pick (.t 10) (.t 13) (.c (.w (.s (.bool false))))), none⟩,
⟨(some 15), .p (.mv (.t 14)), none⟩,
⟨(some 16), .p (.mv (.t 0)), some (15, true)⟩,
⟨(some 17), .b (.cmp 3 .int (.t 16) (.c (.w (.s (.int .i64 (.lit (.ofNat 15))))))), some (15, true)⟩,
⟨(some 18), .p (.pick (.t 15) (.t 17) (.c (.w (.s (.bool false))))), none⟩,
⟨(some 4), .p (.mv (.t 18)), none⟩]) (.ret)))⟩
theorem fo30 : ∃ func code hint, FnOk Go.Proofs.Tryz.prog TT 30 fa30 func code hint := ⟨Go.Proofs.Tryz.f30, bodyOf Go.Proofs.Tryz.f30, hintL [], ⟨Go.Proofs.Tryz.func30, Go.Proofs.Tryz.call30, by kernel_rfl, by kernel_rfl, by kernel_rfl, by kernel_rfl⟩⟩
/- quarry/code.shape -/
def fa31 : AFunc := ⟨53, [.tmp 2, .tmp 3], .seq (.reg [
⟨(some 2), .p (.mv (.c (.w (.s (.int .i64 (.lit (.ofNat 0))))))), none⟩,
⟨(some 3), .p (.mv (.c (.w (.s (.int .i64 (.lit (.ofNat 0))))))), none⟩]) (.seq (.seq (.reg [
⟨(some 4), .p (.mv (.t 0)), none⟩]) (.block 0 (.seq (.seq (.reg [
⟨(some 6), .b (.cmp 0 .int (.t 4) (.c (.w (.s (.int .i64 (.lit (.ofNat 0))))))), none⟩,
⟨(some 5), .p (.mv (.t 6)), none⟩]) (.cond (.t 5) (.skip) (.reg [
⟨(some 7), .b (.cmp 0 .int (.t 4) (.c (.w (.s (.int .i64 (.lit (.ofNat 91))))))), none⟩,
⟨(some 5), .p (.mv (.t 7)), none⟩]))) (.cond (.t 5) (.seq (.reg [
⟨(some 2), .p (.mv (.c (.w (.s (.int .i64 (.lit (.ofNat 0))))))), none⟩,
⟨(some 3), .p (.mv (.c (.w (.s (.int .i64 (.lit (.ofNat 0))))))), none⟩]) (.ret)) (.seq (.seq (.reg [
⟨(some 9), .b (.cmp 0 .int (.t 4) (.c (.w (.s (.int .i64 (.lit (.ofNat 21))))))), none⟩,
⟨(some 8), .p (.mv (.t 9)), none⟩]) (.cond (.t 8) (.skip) (.seq (.reg [
⟨(some 10), .b (.cmp 0 .int (.t 4) (.c (.w (.s (.int .i64 (.lit (.ofNat 25))))))), none⟩,
⟨(some 8), .p (.mv (.t 10)), none⟩]) (.cond (.t 8) (.skip) (.seq (.reg [
⟨(some 11), .b (.cmp 0 .int (.t 4) (.c (.w (.s (.int .i64 (.lit (.ofNat 49))))))), none⟩,
⟨(some 8), .p (.mv (.t 11)), none⟩]) (.cond (.t 8) (.skip) (.seq (.reg [
⟨(some 12), .b (.cmp 0 .int (.t 4) (.c (.w (.s (.int .i64 (.lit (.ofNat 53))))))), none⟩,
⟨(some 8), .p (.mv (.t 12)), none⟩]) (.cond (.t 8) (.skip) (.seq (.reg [
⟨(some 13), .b (.cmp 0 .int (.t 4) (.c (.w (.s (.int .i64 (.lit (.ofNat 59))))))), none⟩,
⟨(some 8), .p (.mv (.t 13)), none⟩]) (.cond (.t 8) (.skip) (.seq (.reg [
⟨(some 14), .b (.cmp 0 .int (.t 4) (.c (.w (.s (.int .i64 (.lit (.ofNat 63))))))), none⟩,
⟨(some 8), .p (.mv (.t 14)), none⟩]) (.cond (.t 8) (.skip) (.seq (.reg [
⟨(some 15), .b (.cmp 0 .int (.t 4) (.c (.w (.s (.int .i64 (.lit (.ofNat 64))))))), none⟩,
⟨(some 8), .p (.mv (.t 15)), none⟩]) (.cond (.t 8) (.skip) (.seq (.reg [
⟨(some 16), .b (.cmp 0 .int (.t 4) (.c (.w (.s (.int .i64 (.lit (.ofNat 73))))))), none⟩,
⟨(some 8), .p (.mv (.t 16)), none⟩]) (.cond (.t 8) (.skip) (.seq (.reg [
⟨(some 17), .b (.cmp 0 .int (.t 4) (.c (.w (.s (.int .i64 (.lit (.ofNat 81))))))), none⟩,
⟨(some 8), .p (.mv (.t 17)), none⟩]) (.cond (.t 8) (.skip) (.seq (.reg [
⟨(some 18), .b (.cmp 0 .int (.t 4) (.c (.w (.s (.int .i64 (.lit (.ofNat 84))))))), none⟩,
⟨(some 8), .p (.mv (.t 18)), none⟩]) (.cond (.t 8) (.skip) (.reg [
⟨(some 19), .b (.cmp 0 .int (.t 4) (.c (.w (.s (.int .i64 (.lit (.ofNat 92))))))), none⟩,
⟨(some 8), .p (.mv (.t 19)), none⟩]))))))))))))))))))))) (.cond (.t 8) (.seq (.reg [
⟨(some 2), .p (.mv (.c (.w (.s (.int .i64 (.lit (.ofNat 1))))))), none⟩,
⟨(some 3), .p (.mv (.c (.w (.s (.int .i64 (.lit (.ofNat 1))))))), none⟩]) (.ret)) (.seq (.seq (.reg [
⟨(some 21), .b (.cmp 0 .int (.t 4) (.c (.w (.s (.int .i64 (.lit (.ofNat 80))))))), none⟩,
⟨(some 20), .p (.mv (.t 21)), none⟩]) (.cond (.t 20) (.skip) (.seq (.reg [
⟨(some 22), .b (.cmp 0 .int (.t 4) (.c (.w (.s (.int .i64 (.lit (.ofNat 86))))))), none⟩,
⟨(some 20), .p (.mv (.t 22)), none⟩]) (.cond (.t 20) (.skip) (.reg [
⟨(some 23), .b (.cmp 0 .int (.t 4) (.c (.w (.s (.int .i64 (.lit (.ofNat 255))))))), none⟩,
⟨(some 20), .p (.mv (.t 23)), none⟩]))))) (.cond (.t 20) (.seq (.reg [
⟨(some 2), .p (.mv (.c (.w (.s (.int .i64 (.lit (.ofNat 1))))))), none⟩,
⟨(some 3), .p (.mv (.c (.w (.s (.int .i64 (.lit (.ofNat 0))))))), none⟩]) (.ret)) (.seq (.seq (.reg [
⟨(some 25), .b (.cmp 0 .int (.t 4) (.c (.w (.s (.int .i64 (.lit (.ofNat 82))))))), none⟩,
⟨(some 24), .p (.mv (.t 25)), none⟩]) (.cond (.t 24) (.skip) (.seq (.reg [
⟨(some 26), .b (.cmp 0 .int (.t 4) (.c (.w (.s (.int .i64 (.lit (.ofNat 83))))))), none⟩,
⟨(some 24), .p (.mv (.t 26)), none⟩]) (.cond (.t 24) (.skip) (.seq (.reg [
⟨(some 27), .b (.cmp 0 .int (.t 4) (.c (.w (.s (.int .i64 (.lit (.ofNat 85))))))), none⟩,
⟨(some 24), .p (.mv (.t 27)), none⟩]) (.cond (.t 24) (.skip) (.seq (.reg [
⟨(some 28), .b (.cmp 0 .int (.t 4) (.c (.w (.s (.int .i64 (.lit (.ofNat 87))))))), none⟩,
⟨(some 24), .p (.mv (.t 28)), none⟩]) (.cond (.t 24) (.skip) (.seq (.reg [
⟨(some 29), .b (.cmp 0 .int (.t 4) (.c (.w (.s (.int .i64 (.lit (.ofNat 93))))))), none⟩,
⟨(some 24), .p (.mv (.t 29)), none⟩]) (.cond (.t 24) (.skip) (.seq (.reg [
⟨(some 30), .b (.cmp 0 .int (.t 4) (.c (.w (.s (.int .i64 (.lit (.ofNat 243))))))), none⟩,
⟨(some 24), .p (.mv (.t 30)), none⟩]) (.cond (.t 24) (.skip) (.reg [
⟨(some 31), .b (.cmp 0 .int (.t 4) (.c (.w (.s (.int .i64 (.lit (.ofNat 253))))))), none⟩,
⟨(some 24), .p (.mv (.t 31)), none⟩]))))))))))))) (.cond (.t 24) (.seq (.reg [
⟨(some 2), .p (.mv (.c (.w (.s (.int .i64 (.lit (.ofNat 2))))))), none⟩,
⟨(some 3), .p (.mv (.c (.w (.s (.int .i64 (.lit (.ofNat 0))))))), none⟩]) (.ret)) (.seq (.seq (.reg [
⟨(some 33), .b (.cmp 0 .int (.t 4) (.c (.w (.s (.int .i64 (.lit (.ofNat 8))))))), none⟩,
⟨(some 32), .p (.mv (.t 33)), none⟩]) (.cond (.t 32) (.skip) (.seq (.reg [
⟨(some 34), .b (.cmp 0 .int (.t 4) (.c (.w (.s (.int .i64 (.lit (.ofNat 9))))))), none⟩,
⟨(some 32), .p (.mv (.t 34)), none⟩]) (.cond (.t 32) (.skip) (.reg [
⟨(some 35), .b (.cmp 0 .int (.t 4) (.c (.w (.s (.int .i64 (.lit (.ofNat 240))))))), none⟩,
⟨(some 32), .p (.mv (.t 35)), none⟩]))))) (.cond (.t 32) (.seq (.reg [
⟨(some 2), .p (.mv (.c (.w (.s (.int .i64 (.lit (.ofNat 3))))))), none⟩,
⟨(some 3), .p (.mv (.c (.w (.s (.int .i64 (.lit (.ofNat 1))))))), none⟩]) (.ret)) (.seq (.seq (.reg [
⟨(some 37), .b (.cmp 0 .int (.t 4) (.c (.w (.s (.int .i64 (.lit (.ofNat 55))))))), none⟩,
⟨(some 36), .p (.mv (.t 37)), none⟩]) (.cond (.t 36) (.skip) (.seq (.reg [
⟨(some 38), .b (.cmp 0 .int (.t 4) (.c (.w (.s (.int .i64 (.lit (.ofNat 57))))))), none⟩,
⟨(some 36), .p (.mv (.t 38)), none⟩]) (.cond (.t 36) (.skip) (.seq (.reg [
⟨(some 39), .b (.cmp 0 .int (.t 4) (.c (.w (.s (.int .i64 (.lit (.ofNat 62))))))), none⟩,
⟨(some 36), .p (.mv (.t 39)), none⟩]) (.cond (.t 36) (.skip) (.reg [
⟨(some 40), .b (.cmp 0 .int (.t 4) (.c (.w (.s (.int .i64 (.lit (.ofNat 94))))))), none⟩,
⟨(some 36), .p (.mv (.t 40)), none⟩]))))))) (.cond (.t 36) (.seq (.reg [
⟨(some 2), .p (.mv (.c (.w (.s (.int .i64 (.lit (.ofNat 3))))))), none⟩,
⟨(some 3), .p (.mv (.c (.w (.s (.int .i64 (.lit (.ofNat 0))))))), none⟩]) (.ret)) (.seq (.reg [
⟨(some 42), .b (.cmp 0 .int (.t 4) (.c (.w (.s (.int .i64 (.lit (.ofNat 60))))))), none⟩,
⟨(some 41), .p (.mv (.t 42)), none⟩]) (.cond (.t 41) (.seq (.reg [
⟨(some 2), .p (.mv (.c (.w (.s (.int .i64 (.lit (.ofNat 4))))))), none⟩,
⟨(some 3), .p (.mv (.c (.w (.s (.int .i64 (.lit (.ofNat 0))))))), none⟩]) (.ret)) (.seq (.reg [
⟨(some 44), .b (.cmp 0 .int (.t 4) (.c (.w (.s (.int .i64 (.lit (.ofNat 245))))))), none⟩,
⟨(some 43), .p (.mv (.t 44)), none⟩]) (.cond (.t 43) (.seq (.reg [
⟨(some 2), .p (.mv (.c (.w (.s (.int .i64 (.lit (.ofNat 4))))))), none⟩,
⟨(some 3), .p (.mv (.c (.w (.s (.int .i64 (.lit (.ofNat 1))))))), none⟩]) (.ret)) (.seq (.seq (.reg [
⟨(some 46), .b (.cmp 0 .int (.t 4) (.c (.w (.s (.int .i64 (.lit (.ofNat 244))))))), none⟩,
⟨(some 45), .p (.mv (.t 46)), none⟩]) (.cond (.t 45) (.skip) (.reg [
⟨(some 47), .b (.cmp 0 .int (.t 4) (.c (.w (.s (.int .i64 (.lit (.ofNat 250))))))), none⟩,
⟨(some 45), .p (.mv (.t 47)), none⟩]))) (.cond (.t 45) (.seq (.reg [
⟨(some 2), .p (.mv (.c (.w (.s (.int .i64 (.lit (.ofNat 6))))))), none⟩,
⟨(some 3), .p (.mv (.c (.w (.s (.int .i64 (.lit (.ofNat 1))))))), none⟩]) (.ret)) (.seq (.seq (.reg [
⟨(some 49), .b (.cmp 0 .int (.t 4) (.c (.w (.s (.int .i64 (.lit (.ofNat 241))))))), none⟩,
⟨(some 48), .p (.mv (.t 49)), none⟩]) (.cond (.t 48) (.skip) (.reg [
⟨(some 50), .b (.cmp 0 .int (.t 4) (.c (.w (.s (.int .i64 (.lit (.ofNat 242))))))), none⟩,
⟨(some 48), .p (.mv (.t 50)), none⟩]))) (.cond (.t 48) (.seq (.reg [
⟨(some 2), .p (.mv (.c (.w (.s (.int .i64 (.lit (.ofNat 7))))))), none⟩,
⟨(some 3), .p (.mv (.c (.w (.s (.int .i64 (.lit (.ofNat 1))))))), none⟩]) (.ret)) (.skip))))))))))))))))))))))) (.seq (.seq (.reg [
⟨(some 51), .p (.mv (.t 0)), none⟩,
⟨(some 52), .b (.cmp 2 .int (.t 51) (.c (.w (.s (.int .i64 (.lit (.ofNat 48))))))), none⟩]) (.cond (.t 52) (.seq (.reg [
⟨(some 2), .p (.mv (.c (.w (.s (.int .i64 (.lit (.ofNat 2))))))), none⟩,
⟨(some 3), .p (.mv (.c (.w (.s (.int .i64 (.lit (.ofNat 1))))))), none⟩]) (.ret)) (.skip))) (.seq (.reg [
⟨(some 2), .p (.mv (.c (.w (.s (.int .i64 (.lit (.ofNat 0))))))), none⟩,
⟨(some 3), .p (.mv (.c (.w (.s (.int .i64 (.lit (.ofNat 1))))))), none⟩]) (.ret))))⟩
theorem fo31 : ∃ func code hint, FnOk Go.Proofs.Tryz.prog TT 31 fa31 func code hint := ⟨Go.Proofs.Tryz.f31, bodyOf Go.Proofs.Tryz.f31, hintL [], ⟨Go.Proofs.Tryz.func31, Go.Proofs.Tryz.call31, by kernel_rfl, by kernel_rfl, by kernel_rfl, by kernel_rfl⟩⟩
/- quarry/gas.within -/
def fa32 : AFunc := ⟨15, [.tmp 6], .seq (.reg [
⟨(some 6), .p (.mv (.c (.w (.s (.bool false))))), none⟩]) (.seq (.reg [
⟨(some 7), .p (.mv (.t 0)), none⟩,
⟨(some 8), .p (.mv (.t 1)), none⟩,
⟨(some 9), .b (.cmp 5 .int (.t 7) (.t 8)), none⟩,
⟨(some 10), .p (.mv (.t 9)), none⟩,
⟨(some 11), .p (.mv (.t 0)), some (10, true)⟩,
⟨(some 12), .p (.mv (.t 2)), some (10, true)⟩,
⟨(some 13), .b (.cmp 3 .int (.t 11) (.t 12)), some (10, true)⟩,
⟨(some 14), .p (.pick (.t 10) (.t 13) (.c (.w (.s (.bool false))))), none⟩,
⟨(some 6), .p (.mv (.t 14)), none⟩]) (.ret))⟩
theorem fo32 : ∃ func code hint, FnOk Go.Proofs.Tryz.prog TT 32 fa32 func code hint := ⟨Go.Proofs.Tryz.f32, bodyOf Go.Proofs.Tryz.f32, hintL [], ⟨Go.Proofs.Tryz.func32, Go.Proofs.Tryz.call32, by kernel_rfl, by kernel_rfl, by kernel_rfl, by kernel_rfl⟩⟩
/- (*quarry/vm.machine).has -/
def fa34 : AFunc := ⟨16, [.tmp 6], .seq (.reg [
⟨(some 4), .m (.box 30 (.t 1)), none⟩,
⟨(some 5), .m (.box 24 (.t 2)), none⟩,
⟨(some 6), .p (.mv (.c (.w (.s (.bool false))))), none⟩]) (.seq (.draw [
⟨0, ⟨(some 7), .p (.mv (.t 0)), none⟩, 0, 0⟩,
⟨1, ⟨(some 8), .p (.nilCheck (.t 7)), none⟩, 1, 0⟩,
⟨2, ⟨(some 9), .p (.faddr 89 (.t 8)), none⟩, 3, 0⟩,
⟨3, ⟨(some 10), .r (.load none (.t 9)), none⟩, 7, 0⟩,
⟨4, ⟨(some 11), .r (.load (some 20) (.t 4)), none⟩, 0, 0⟩,
⟨6, ⟨(some 13), .r (.load (some 4) (.t 5)), none⟩, 0, 0⟩,
⟨5, ⟨(some 12), .b (.call 61 [(.t 10), (.t 11)]), none⟩, 31, 0⟩,
⟨7, ⟨(some 14), .b (.call 60 [(.t 12), (.t 13)]), none⟩, 127, 0⟩,
⟨8, ⟨(some 15), .b (.cmp 5 .int (.t 14) (.c (.w (.s (.int .i64 (.lit (.ofNat 0))))))), none⟩, 255, 0⟩,
⟨9, ⟨(some 6), .p (.mv (.t 15)), none⟩, 511, 0⟩]) (.ret))⟩
theorem fo34 : ∃ func code hint, FnOk Go.Proofs.Tryz.prog TT 34 fa34 func code hint := ⟨Go.Proofs.Tryz.f34, bodyOf Go.Proofs.Tryz.f34, hintL [(1, [(0, 0), (1, 0), (2, 0), (3, 0), (4, 0), (6, 0), (5, 0), (7, 0), (8, 0), (9, 0)])], ⟨Go.Proofs.Tryz.func34, Go.Proofs.Tryz.call34, by kernel_rfl, by kernel_rfl, by kernel_rfl, by kernel_rfl⟩⟩
/- (*quarry/state.State).Code -/
def fa39 : AFunc := ⟨12, [.tmp 4], .seq (.reg [
⟨(some 3), .m (.box 30 (.t 1)), none⟩,
⟨(some 4), .p (.mv (.c (.w (.s (.nils))))), none⟩]) (.seq (.reg [
⟨(some 5), .p (.mv (.t 0)), none⟩,
⟨(some 6), .r (.load (some 20) (.t 3)), none⟩,
⟨(some 7), .b (.call 59 [(.t 5), (.t 6)]), none⟩,
⟨(some 8), .p (.nilCheck (.t 7)), none⟩,
⟨(some 9), .p (.faddr 5 (.t 8)), none⟩,
⟨(some 10), .r (.load none (.t 9)), none⟩,
⟨(some 11), .b (.call 17 [(.t 10)]), none⟩,
⟨(some 4), .p (.mv (.t 11)), none⟩]) (.ret))⟩
theorem fo39 : ∃ func code hint, FnOk Go.Proofs.Tryz.prog TT 39 fa39 func code hint := ⟨Go.Proofs.Tryz.f39, bodyOf Go.Proofs.Tryz.f39, hintL [], ⟨Go.Proofs.Tryz.func39, Go.Proofs.Tryz.call39, by kernel_rfl, by kernel_rfl, by kernel_rfl, by kernel_rfl⟩⟩
/- (*quarry/state.State).Mark -/
def fa42 : AFunc := ⟨38, [.tmp 2], .seq (.reg [
⟨(some 2), .p (.mv (.c (.w (.s (.int .i64 (.lit (.ofNat 0))))))), none⟩]) (.seq (.reg [
⟨(some 4), .p (.mv (.t 0)), none⟩,
⟨(some 5), .p (.nilCheck (.t 4)), none⟩,
⟨(some 6), .p (.faddr 1 (.t 5)), none⟩,
⟨(some 7), .p (.faddr 11 (.t 6)), none⟩,
⟨(some 8), .r (.load none (.t 7)), none⟩,
⟨(some 3), .p (.mv (.t 8)), none⟩]) (.seq (.reg [
⟨(some 9), .p (.mv (.t 0)), none⟩,
⟨(some 10), .p (.nilCheck (.t 9)), none⟩,
⟨(some 11), .p (.faddr 1 (.t 10)), none⟩,
⟨(some 12), .p (.faddr 11 (.t 11)), none⟩,
⟨(some 13), .r (.load none (.t 12)), none⟩,
⟨(some 14), .p (.ar 0 (.t 13) (.c (.w (.s (.int .i64 (.lit (.ofNat 1))))))), none⟩,
⟨(some 15), .p (.nilCheck (.t 9)), none⟩,
⟨(some 16), .p (.faddr 1 (.t 15)), none⟩,
⟨(some 17), .p (.faddr 11 (.t 16)), none⟩,
⟨none, .b (.store 1 (.t 17) (.t 14)), none⟩]) (.seq (.draw [
⟨0, ⟨(some 18), .p (.mv (.t 0)), none⟩, 0, 0⟩,
⟨1, ⟨(some 19), .p (.mv (.t 0)), none⟩, 0, 0⟩,
⟨2, ⟨(some 20), .p (.nilCheck (.t 19)), none⟩, 2, 0⟩,
⟨3, ⟨(some 21), .p (.faddr 1 (.t 20)), none⟩, 6, 0⟩,
⟨4, ⟨(some 22), .p (.faddr 10 (.t 21)), none⟩, 14, 0⟩,
⟨5, ⟨(some 23), .r (.load none (.t 22)), none⟩, 30, 0⟩,
⟨6, ⟨(some 24), .p (.mv (.t 3)), none⟩, 0, 0⟩,
⟨7, ⟨(some 25), .p (.mv (.t 0)), none⟩, 0, 0⟩,
⟨8, ⟨(some 26), .p (.nilCheck (.t 25)), none⟩, 128, 0⟩,
⟨9, ⟨(some 27), .p (.faddr 1 (.t 26)), none⟩, 384, 0⟩,
⟨10, ⟨(some 28), .p (.faddr 9 (.t 27)), none⟩, 896, 0⟩,
⟨11, ⟨(some 29), .r (.load none (.t 28)), none⟩, 1920, 0⟩,
⟨12, ⟨(some 30), .p (.len (.t 29)), none⟩, 3968, 0⟩,
⟨13, ⟨(some 31), .p (.build [.int .i64 (.lit (.ofNat 0)), .int .i64 (.lit (.ofNat 0))] [(0, 1, (.t 24)), (1, 1, (.t 30))]), none⟩, 8128, 0⟩,
⟨14, ⟨(some 32), .m (.bslice 145 1 [.int .i64 (.lit (.ofNat 0)), .int .i64 (.lit (.ofNat 0))] [(0, 2, (.t 31))]), none⟩, 16320, 0⟩,
⟨15, ⟨(some 33), .b (.append 145 2 16 (.t 23) (.t 32)), none⟩, 32766, 0⟩,
⟨16, ⟨(some 34), .p (.nilCheck (.t 18)), none⟩, 65535, 0⟩,
⟨17, ⟨(some 35), .p (.faddr 1 (.t 34)), none⟩, 131071, 0⟩,
⟨18, ⟨(some 36), .p (.faddr 10 (.t 35)), none⟩, 262143, 0⟩,
⟨19, ⟨none, .b (.store 1 (.t 36) (.t 33)), none⟩, 524287, 0⟩]) (.seq (.reg [
⟨(some 37), .p (.mv (.t 3)), none⟩,
⟨(some 2), .p (.mv (.t 37)), none⟩]) (.ret)))))⟩
theorem fo42 : ∃ func code hint, FnOk Go.Proofs.Tryz.prog TT 42 fa42 func code hint := ⟨Go.Proofs.Tryz.f42, bodyOf Go.Proofs.Tryz.f42, hintL [(3, [(0, 0), (1, 0), (2, 0), (3, 0), (4, 0), (5, 0), (6, 0), (7, 0), (8, 0), (9, 0), (10, 0), (11, 0), (12, 0), (13, 0), (14, 0), (15, 0), (16, 0), (17, 0), (18, 0), (19, 0)])], ⟨Go.Proofs.Tryz.func42, Go.Proofs.Tryz.call42, by kernel_rfl, by kernel_rfl, by kernel_rfl, by kernel_rfl⟩⟩
end
end Go.Sy
