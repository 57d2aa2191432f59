/- Functions. -/
import Derived.Test.YtcpeflfonacdgaaGreatGTy
set_option linter.unusedVariables false
set_option maxRecDepth 100000
set_option maxHeartbeats 0
namespace Go.Sy
noncomputable section
/- quarry/quarrylaw19.VmSend -/
def fa3 : AFunc := ⟨99, [.tmp 2], .seq (.reg [
⟨(some 1), .m (.box 27 (.t 0)), none⟩,
⟨(some 2), .p (.mv (.c (.w (.s (.bool false))))), none⟩]) (.seq (.reg [
⟨(some 13), .r (.load (some 11) (.t 1)), none⟩,
⟨(some 14), .b (.call 10 [(.t 13)]), none⟩,
⟨(some 3), .p (.mv (.t 14)), none⟩]) (.seq (.reg [
⟨(some 16), .b (.call 11 []), none⟩,
⟨(some 15), .p (.mv (.t 16)), none⟩,
⟨(some 17), .p (.ext (.t 15) 0), none⟩,
⟨(some 18), .p (.ext (.t 15) 1), none⟩,
⟨(some 19), .p (.ext (.t 15) 2), none⟩,
⟨(some 4), .m (.alloc 30 (lrep (.int .u8 (.lit (.ofNat 0))) 20)), none⟩,
⟨(some 5), .m (.alloc 30 (lrep (.int .u8 (.lit (.ofNat 0))) 20)), none⟩,
⟨(some 6), .m (.alloc 30 (lrep (.int .u8 (.lit (.ofNat 0))) 20)), none⟩,
⟨none, .b (.store 20 (.t 4) (.t 17)), none⟩,
⟨none, .b (.store 20 (.t 5) (.t 18)), none⟩,
⟨none, .b (.store 20 (.t 6) (.t 19)), none⟩]) (.seq (.reg [
⟨(some 20), .r (.load (some 11) (.t 1)), none⟩,
⟨(some 21), .b (.call 12 [(.t 20), (.c (.w (.s (.int .i64 (.lit (.ofNat 3000))))))]), none⟩,
⟨(some 7), .p (.mv (.t 21)), none⟩]) (.seq (.reg [
⟨(some 22), .p (.build [.int .u64 (.lit (.ofNat 0)), .int .u64 (.lit (.ofNat 0)), .int .u64 (.lit (.ofNat 0)), .int .u64 (.lit (.ofNat 0))] [(0, 1, (.c (.w (.s (.int .u64 (.lit (.ofNat 152)))))))]), none⟩,
⟨(some 23), .p (.build [.int .u64 (.lit (.ofNat 0)), .int .u64 (.lit (.ofNat 0)), .int .u64 (.lit (.ofNat 0)), .int .u64 (.lit (.ofNat 0))] [(0, 1, (.c (.w (.s (.int .u64 (.lit (.ofNat 204)))))))]), none⟩,
⟨(some 24), .b (.call 13 [(.t 22), (.t 23)]), none⟩,
⟨(some 8), .m (.alloc 24 [.int .u64 (.lit (.ofNat 0)), .int .u64 (.lit (.ofNat 0)), .int .u64 (.lit (.ofNat 0)), .int .u64 (.lit (.ofNat 0))]), none⟩,
⟨none, .b (.store 4 (.t 8) (.t 24)), none⟩]) (.seq (.draw [
⟨4, ⟨(some 29), .p (.mv (.t 7)), none⟩, 0, 0⟩,
⟨6, ⟨(some 31), .r (.load (some 4) (.t 8)), none⟩, 0, 0⟩,
⟨9, ⟨(some 34), .m (.bslice 5 4 [.int .u8 (.lit (.ofNat 0))] [(0, 1, (.c (.w (.s (.int .u8 (.lit (.ofNat 241))))))), (1, 1, (.c (.w (.s (.int .u8 (.lit (.ofNat 96))))))), (2, 1, (.c (.w (.s (.int .u8 (.lit (.ofNat 0))))))), (3, 1, (.c (.w (.s (.int .u8 (.lit (.ofNat 82)))))))]), none⟩, 0, 8388608⟩,
⟨0, ⟨(some 25), .b (.call 15 [(.c (.w (.s (.int .i64 (.lit (.ofNat 0))))))]), none⟩, 0, 0⟩,
⟨1, ⟨(some 26), .b (.call 15 [(.c (.w (.s (.int .i64 (.lit (.ofNat 0))))))]), none⟩, 1, 0⟩,
⟨2, ⟨(some 27), .b (.call 15 [(.c (.w (.s (.int .i64 (.lit (.ofNat 0))))))]), none⟩, 3, 0⟩,
⟨3, ⟨(some 28), .b (.call 15 [(.c (.w (.s (.int .i64 (.lit (.ofNat 0))))))]), none⟩, 7, 0⟩,
⟨5, ⟨(some 30), .b (.call 15 [(.t 29)]), none⟩, 31, 0⟩,
⟨7, ⟨(some 32), .b (.call 16 [(.t 31)]), none⟩, 127, 0⟩,
⟨8, ⟨(some 33), .b (.call 15 [(.c (.w (.s (.int .i64 (.lit (.ofNat 10000))))))]), none⟩, 255, 0⟩,
⟨10, ⟨(some 35), .b (.call 17 [(.c (.w (.s (.int .i64 (.lit (.ofNat 32))))))]), none⟩, 511, 0⟩,
⟨11, ⟨(some 36), .m (.bslice 25 9 [.nils] [(0, 1, (.t 25)), (1, 1, (.t 26)), (2, 1, (.t 27)), (3, 1, (.t 28)), (4, 1, (.t 30)), (5, 1, (.t 32)), (6, 1, (.t 33)), (7, 1, (.t 34)), (8, 1, (.t 35))]), none⟩, 2047, 8388609⟩,
⟨12, ⟨(some 37), .b (.call 14 [(.t 36)]), none⟩, 4095, 0⟩,
⟨13, ⟨(some 9), .p (.mv (.t 37)), none⟩, 8191, 0⟩]) (.seq (.reg [
⟨(some 39), .p (.mv (.t 3)), none⟩,
⟨(some 40), .p (.mv (.t 9)), none⟩,
⟨(some 41), .p (.build [.int .u64 (.lit (.ofNat 0)), .int .u64 (.lit (.ofNat 0)), .int .u64 (.lit (.ofNat 0)), .int .u64 (.lit (.ofNat 0))] [(0, 1, (.c (.w (.s (.int .u64 (.lit (.ofNat 500)))))))]), none⟩,
⟨(some 42), .b (.call 18 [(.t 39), (.t 40), (.c (.w (.s (.nils)))), (.c (.w (.s (.nils)))), (.t 41), (.c (.w (.s (.int .u64 (.lit (.ofNat 300000))))))]), none⟩,
⟨(some 38), .p (.mv (.t 42)), none⟩,
⟨(some 43), .p (.ext (.t 38) 0), none⟩,
⟨(some 44), .p (.ext (.t 38) 1), none⟩,
⟨(some 10), .m (.alloc 39 [.int .i64 (.lit (.ofNat 0)), .nils, .int .u64 (.lit (.ofNat 0)), .int .u8 (.lit (.ofNat 0)), .int .u8 (.lit (.ofNat 0)), .int .u8 (.lit (.ofNat 0)), .int .u8 (.lit (.ofNat 0)), .int .u8 (.lit (.ofNat 0)), .int .u8 (.lit (.ofNat 0)), .int .u8 (.lit (.ofNat 0)), .int .u8 (.lit (.ofNat 0)), .int .u8 (.lit (.ofNat 0)), .int .u8 (.lit (.ofNat 0)), .int .u8 (.lit (.ofNat 0)), .int .u8 (.lit (.ofNat 0)), .int .u8 (.lit (.ofNat 0)), .int .u8 (.lit (.ofNat 0)), .int .u8 (.lit (.ofNat 0)), .int .u8 (.lit (.ofNat 0)), .int .u8 (.lit (.ofNat 0)), .int .u8 (.lit (.ofNat 0)), .int .u8 (.lit (.ofNat 0)), .int .u8 (.lit (.ofNat 0)), .int .u64 (.lit (.ofNat 0))]), none⟩,
⟨none, .b (.store 24 (.t 10) (.t 43)), none⟩,
⟨(some 11), .p (.mv (.t 44)), none⟩]) (.seq (.seq (.reg [
⟨(some 45), .p (.mv (.t 11)), none⟩,
⟨(some 46), .b (.cmp 0 .ptr (.t 45) (.c (.w (.s (.nilp))))), none⟩,
⟨(some 47), .p (.mv (.t 46)), none⟩,
⟨(some 48), .p (.faddr 0 (.t 10)), some (47, false)⟩,
⟨(some 49), .r (.load none (.t 48)), some (47, false)⟩,
⟨(some 50), .b (.cmp 1 .int (.t 49) (.c (.w (.s (.int .i64 (.lit (.ofNat 0))))))), some (47, false)⟩,
⟨(some 51), .p (.pick (.t 47) (.c (.w (.s (.bool true)))) (.t 50)), none⟩,
⟨(some 52), .p (.mv (.t 51)), none⟩,
⟨(some 53), .p (.faddr 1 (.t 10)), some (52, false)⟩,
⟨(some 54), .r (.load none (.t 53)), some (52, false)⟩,
⟨(some 55), .p (.len (.t 54)), some (52, false)⟩,
⟨(some 56), .b (.cmp 1 .int (.t 55) (.c (.w (.s (.int .i64 (.lit (.ofNat 32))))))), some (52, false)⟩,
⟨(some 57), .p (.pick (.t 52) (.c (.w (.s (.bool true)))) (.t 56)), none⟩,
⟨(some 58), .p (.mv (.t 57)), none⟩,
⟨(some 59), .b (.call 19 []), some (58, false)⟩,
⟨(some 60), .p (.not (.t 59)), some (58, false)⟩,
⟨(some 61), .p (.pick (.t 58) (.c (.w (.s (.bool true)))) (.t 60)), none⟩]) (.cond (.t 61) (.seq (.reg [
⟨(some 2), .p (.mv (.c (.w (.s (.bool false))))), none⟩]) (.ret)) (.skip))) (.seq (.reg [
⟨(some 12), .p (.mv (.c (.w (.s (.int .i64 (.lit (.ofNat 0))))))), none⟩]) (.seq (.seq (.reg [
⟨(some 62), .p (.mv (.t 7)), none⟩,
⟨(some 63), .b (.cmp 3 .int (.t 62) (.c (.w (.s (.int .i64 (.lit (.ofNat 1500))))))), none⟩]) (.cond (.t 63) (.reg [
⟨(some 64), .p (.mv (.t 7)), none⟩,
⟨(some 12), .p (.mv (.t 64)), none⟩]) (.skip))) (.seq (.reg [
⟨(some 65), .p (.faddr 1 (.t 10)), none⟩,
⟨(some 66), .r (.load none (.t 65)), none⟩,
⟨(some 67), .p (.iaddrS 1 (.t 66) (.c (.w (.s (.int .i64 (.lit (.ofNat 31))))))), none⟩,
⟨(some 68), .r (.load none (.t 67)), none⟩,
⟨(some 69), .b (.cmp 0 .int (.t 68) (.c (.w (.s (.int .u8 (.lit (.ofNat 1))))))), none⟩,
⟨(some 70), .p (.mv (.t 7)), none⟩,
⟨(some 71), .b (.cmp 3 .int (.t 70) (.c (.w (.s (.int .i64 (.lit (.ofNat 1500))))))), none⟩,
⟨(some 72), .b (.cmp 0 .bool (.t 69) (.t 71)), none⟩,
⟨(some 73), .p (.mv (.t 72)), none⟩,
⟨(some 74), .p (.mv (.t 11)), some (73, true)⟩,
⟨(some 75), .r (.load (some 20) (.t 6)), some (73, true)⟩,
⟨(some 76), .b (.call 20 [(.t 74), (.t 75)]), some (73, true)⟩,
⟨(some 77), .p (.mv (.t 12)), some (73, true)⟩,
⟨(some 78), .p (.conv .u64 (.t 77)), some (73, true)⟩,
⟨(some 79), .p (.build [.int .u64 (.lit (.ofNat 0)), .int .u64 (.lit (.ofNat 0)), .int .u64 (.lit (.ofNat 0)), .int .u64 (.lit (.ofNat 0))] [(0, 1, (.t 78))]), some (73, true)⟩,
⟨(some 80), .b (.cmp 0 (.agg (.one (.arr 4 22 .u64))) (.t 76) (.t 79)), some (73, true)⟩,
⟨(some 81), .p (.pick (.t 73) (.t 80) (.c (.w (.s (.bool false))))), none⟩,
⟨(some 82), .p (.mv (.t 81)), none⟩,
⟨(some 83), .p (.mv (.t 11)), some (82, true)⟩,
⟨(some 84), .r (.load (some 20) (.t 4)), some (82, true)⟩,
⟨(some 85), .b (.call 20 [(.t 83), (.t 84)]), some (82, true)⟩,
⟨(some 86), .p (.mv (.t 12)), some (82, true)⟩,
⟨(some 87), .p (.ar 1 (.c (.w (.s (.int .i64 (.lit (.ofNat 1500)))))) (.t 86)), some (82, true)⟩,
⟨(some 88), .p (.conv .u64 (.t 87)), some (82, true)⟩,
⟨(some 89), .p (.build [.int .u64 (.lit (.ofNat 0)), .int .u64 (.lit (.ofNat 0)), .int .u64 (.lit (.ofNat 0)), .int .u64 (.lit (.ofNat 0))] [(0, 1, (.t 88))]), some (82, true)⟩,
⟨(some 90), .b (.cmp 0 (.agg (.one (.arr 4 22 .u64))) (.t 85) (.t 89)), some (82, true)⟩,
⟨(some 91), .p (.pick (.t 82) (.t 90) (.c (.w (.s (.bool false))))), none⟩,
⟨(some 92), .p (.mv (.t 91)), none⟩,
⟨(some 93), .p (.mv (.t 11)), some (92, true)⟩,
⟨(some 94), .r (.load (some 20) (.t 5)), some (92, true)⟩,
⟨(some 95), .b (.call 20 [(.t 93), (.t 94)]), some (92, true)⟩,
⟨(some 96), .p (.build [.int .u64 (.lit (.ofNat 0)), .int .u64 (.lit (.ofNat 0)), .int .u64 (.lit (.ofNat 0)), .int .u64 (.lit (.ofNat 0))] [(0, 1, (.c (.w (.s (.int .u64 (.lit (.ofNat 999500)))))))]), some (92, true)⟩,
⟨(some 97), .b (.cmp 0 (.agg (.one (.arr 4 22 .u64))) (.t 95) (.t 96)), some (92, true)⟩,
⟨(some 98), .p (.pick (.t 92) (.t 97) (.c (.w (.s (.bool false))))), none⟩,
⟨(some 2), .p (.mv (.t 98)), none⟩]) (.ret)))))))))))⟩
theorem fo3 : ∃ func code hint, FnOk Go.Proofs.Tryz.prog TT 3 fa3 func code hint := ⟨Go.Proofs.Tryz.f3, bodyOf Go.Proofs.Tryz.f3, hintL [(5, [(4, 0), (6, 0), (9, 8388608), (0, 0), (1, 0), (2, 0), (3, 0), (5, 0), (7, 0), (8, 0), (10, 0), (11, 8388609), (12, 0), (13, 0)])], ⟨Go.Proofs.Tryz.func3, Go.Proofs.Tryz.call3, by kernel_rfl, by kernel_rfl, by kernel_rfl, by kernel_rfl⟩⟩
/- quarry/quarrylaw19.VmPart -/
def fa4 : AFunc := ⟨122, [.tmp 2], .seq (.reg [
⟨(some 1), .m (.box 27 (.t 0)), none⟩,
⟨(some 2), .p (.mv (.c (.w (.s (.bool false))))), none⟩]) (.seq (.reg [
⟨(some 20), .r (.load (some 11) (.t 1)), none⟩,
⟨(some 21), .b (.call 10 [(.t 20)]), none⟩,
⟨(some 3), .p (.mv (.t 21)), none⟩]) (.seq (.reg [
⟨(some 23), .b (.call 11 []), none⟩,
⟨(some 22), .p (.mv (.t 23)), none⟩,
⟨(some 24), .p (.ext (.t 22) 0), none⟩,
⟨(some 25), .p (.ext (.t 22) 1), none⟩,
⟨(some 26), .p (.ext (.t 22) 2), none⟩,
⟨(some 4), .m (.alloc 30 (lrep (.int .u8 (.lit (.ofNat 0))) 20)), none⟩,
⟨(some 5), .m (.alloc 30 (lrep (.int .u8 (.lit (.ofNat 0))) 20)), none⟩,
⟨(some 6), .m (.alloc 30 (lrep (.int .u8 (.lit (.ofNat 0))) 20)), none⟩,
⟨none, .b (.store 20 (.t 4) (.t 24)), none⟩,
⟨none, .b (.store 20 (.t 5) (.t 25)), none⟩,
⟨none, .b (.store 20 (.t 6) (.t 26)), none⟩]) (.seq (.reg [
⟨(some 28), .p (.aslice 20 1 (.t 6) none none), none⟩,
⟨(some 29), .b (.call 21 [(.t 28)]), none⟩,
⟨(some 27), .p (.mv (.t 29)), none⟩,
⟨(some 30), .p (.ext (.t 27) 0), none⟩,
⟨(some 31), .p (.ext (.t 27) 1), none⟩,
⟨(some 7), .m (.alloc 24 [.int .u64 (.lit (.ofNat 0)), .int .u64 (.lit (.ofNat 0)), .int .u64 (.lit (.ofNat 0)), .int .u64 (.lit (.ofNat 0))]), none⟩,
⟨none, .b (.store 4 (.t 7) (.t 30)), none⟩,
⟨(some 8), .p (.mv (.t 31)), none⟩]) (.seq (.reg [
⟨(some 32), .m (.bslice 5 4 [.int .u8 (.lit (.ofNat 0))] [(0, 1, (.c (.w (.s (.int .u8 (.lit (.ofNat 90))))))), (1, 1, (.c (.w (.s (.int .u8 (.lit (.ofNat 96))))))), (2, 1, (.c (.w (.s (.int .u8 (.lit (.ofNat 0))))))), (3, 1, (.c (.w (.s (.int .u8 (.lit (.ofNat 82)))))))]), none⟩,
⟨(some 33), .b (.call 17 [(.c (.w (.s (.int .i64 (.lit (.ofNat 32))))))]), none⟩,
⟨(some 34), .m (.bslice 25 2 [.nils] [(0, 1, (.t 32)), (1, 1, (.t 33))]), none⟩,
⟨(some 35), .b (.call 14 [(.t 34)]), none⟩,
⟨(some 9), .p (.mv (.t 35)), none⟩]) (.seq (.draw [
⟨5, ⟨(some 41), .r (.load (some 4) (.t 7)), none⟩, 0, 0⟩,
⟨7, ⟨(some 43), .p (.faddr 2 (.t 1)), none⟩, 0, 0⟩,
⟨8, ⟨(some 44), .r (.load (some 4) (.t 43)), none⟩, 128, 0⟩,
⟨10, ⟨(some 46), .m (.bslice 5 2 [.int .u8 (.lit (.ofNat 0))] [(0, 1, (.c (.w (.s (.int .u8 (.lit (.ofNat 241))))))), (1, 1, (.c (.w (.s (.int .u8 (.lit (.ofNat 80)))))))]), none⟩, 0, 8388608⟩,
⟨0, ⟨(some 36), .b (.call 15 [(.c (.w (.s (.int .i64 (.lit (.ofNat 32))))))]), none⟩, 0, 0⟩,
⟨1, ⟨(some 37), .b (.call 15 [(.c (.w (.s (.int .i64 (.lit (.ofNat 0))))))]), none⟩, 1, 0⟩,
⟨2, ⟨(some 38), .b (.call 15 [(.c (.w (.s (.int .i64 (.lit (.ofNat 0))))))]), none⟩, 3, 0⟩,
⟨3, ⟨(some 39), .b (.call 15 [(.c (.w (.s (.int .i64 (.lit (.ofNat 0))))))]), none⟩, 7, 0⟩,
⟨4, ⟨(some 40), .b (.call 15 [(.c (.w (.s (.int .i64 (.lit (.ofNat 0))))))]), none⟩, 15, 0⟩,
⟨6, ⟨(some 42), .b (.call 16 [(.t 41)]), none⟩, 63, 0⟩,
⟨9, ⟨(some 45), .b (.call 16 [(.t 44)]), none⟩, 511, 0⟩,
⟨11, ⟨(some 47), .b (.call 17 [(.c (.w (.s (.int .i64 (.lit (.ofNat 32))))))]), none⟩, 1023, 0⟩,
⟨12, ⟨(some 48), .m (.bslice 25 9 [.nils] [(0, 1, (.t 36)), (1, 1, (.t 37)), (2, 1, (.t 38)), (3, 1, (.t 39)), (4, 1, (.t 40)), (5, 1, (.t 42)), (6, 1, (.t 45)), (7, 1, (.t 46)), (8, 1, (.t 47))]), none⟩, 4095, 8388609⟩,
⟨13, ⟨(some 49), .b (.call 14 [(.t 48)]), none⟩, 8191, 0⟩,
⟨14, ⟨(some 10), .p (.mv (.t 49)), none⟩, 16383, 0⟩]) (.seq (.reg [
⟨(some 51), .p (.mv (.t 3)), none⟩,
⟨(some 52), .p (.mv (.t 10)), none⟩,
⟨(some 53), .p (.mv (.t 9)), none⟩,
⟨(some 54), .p (.build [.int .u64 (.lit (.ofNat 0)), .int .u64 (.lit (.ofNat 0)), .int .u64 (.lit (.ofNat 0)), .int .u64 (.lit (.ofNat 0))] []), none⟩,
⟨(some 55), .b (.call 18 [(.t 51), (.t 52), (.t 53), (.c (.w (.s (.nils)))), (.t 54), (.c (.w (.s (.int .u64 (.lit (.ofNat 100000))))))]), none⟩,
⟨(some 50), .p (.mv (.t 55)), none⟩,
⟨(some 56), .p (.ext (.t 50) 0), none⟩,
⟨(some 57), .p (.ext (.t 50) 1), none⟩,
⟨(some 11), .m (.alloc 39 [.int .i64 (.lit (.ofNat 0)), .nils, .int .u64 (.lit (.ofNat 0)), .int .u8 (.lit (.ofNat 0)), .int .u8 (.lit (.ofNat 0)), .int .u8 (.lit (.ofNat 0)), .int .u8 (.lit (.ofNat 0)), .int .u8 (.lit (.ofNat 0)), .int .u8 (.lit (.ofNat 0)), .int .u8 (.lit (.ofNat 0)), .int .u8 (.lit (.ofNat 0)), .int .u8 (.lit (.ofNat 0)), .int .u8 (.lit (.ofNat 0)), .int .u8 (.lit (.ofNat 0)), .int .u8 (.lit (.ofNat 0)), .int .u8 (.lit (.ofNat 0)), .int .u8 (.lit (.ofNat 0)), .int .u8 (.lit (.ofNat 0)), .int .u8 (.lit (.ofNat 0)), .int .u8 (.lit (.ofNat 0)), .int .u8 (.lit (.ofNat 0)), .int .u8 (.lit (.ofNat 0)), .int .u8 (.lit (.ofNat 0)), .int .u64 (.lit (.ofNat 0))]), none⟩,
⟨none, .b (.store 24 (.t 11) (.t 56)), none⟩,
⟨(some 12), .p (.mv (.t 57)), none⟩]) (.seq (.reg [
⟨(some 59), .p (.mv (.t 3)), none⟩,
⟨(some 60), .b (.call 22 [(.t 59)]), none⟩,
⟨(some 58), .p (.mv (.t 60)), none⟩,
⟨(some 61), .p (.ext (.t 58) 0), none⟩,
⟨(some 62), .p (.ext (.t 58) 1), none⟩,
⟨(some 13), .m (.alloc 49 [.int .i64 (.lit (.ofNat 0)), .int .u64 (.lit (.ofNat 0)), .int .u64 (.lit (.ofNat 0)), .int .u64 (.lit (.ofNat 0)), .int .u64 (.lit (.ofNat 0)), .int .u64 (.lit (.ofNat 0)), .int .u64 (.lit (.ofNat 0)), .int .u64 (.lit (.ofNat 0)), .int .i64 (.lit (.ofNat 0)), .int .i64 (.lit (.ofNat 0)), .int .u64 (.lit (.ofNat 0)), .int .u64 (.lit (.ofNat 0)), .int .u64 (.lit (.ofNat 0)), .int .u64 (.lit (.ofNat 0)), .int .u64 (.lit (.ofNat 0)), .int .u64 (.lit (.ofNat 0)), .int .u64 (.lit (.ofNat 0)), .int .u64 (.lit (.ofNat 0)), .int .u64 (.lit (.ofNat 0)), .int .u64 (.lit (.ofNat 0)), .int .u64 (.lit (.ofNat 0)), .int .u64 (.lit (.ofNat 0)), .int .u64 (.lit (.ofNat 0)), .int .u64 (.lit (.ofNat 0)), .int .u64 (.lit (.ofNat 0)), .int .u64 (.lit (.ofNat 0))]), none⟩,
⟨none, .b (.store 26 (.t 13) (.t 61)), none⟩,
⟨(some 14), .p (.mv (.t 62)), none⟩]) (.seq (.reg [
⟨(some 63), .p (.faddr 14 (.t 13)), none⟩,
⟨(some 64), .r (.load none (.t 63)), none⟩,
⟨(some 65), .p (.ar 1 (.c (.w (.s (.int .u64 (.lit (.ofNat 99979)))))) (.t 64)), none⟩,
⟨(some 66), .p (.ar 1 (.t 65) (.c (.w (.s (.int .u64 (.lit (.ofNat 3))))))), none⟩,
⟨(some 15), .p (.mv (.t 66)), none⟩]) (.seq (.seq (.reg [
⟨(some 67), .p (.mv (.t 3)), none⟩,
⟨(some 68), .b (.cmp 5 .int (.t 67) (.c (.w (.s (.int .i64 (.lit (.ofNat 9))))))), none⟩]) (.cond (.t 68) (.reg [
⟨(some 69), .p (.mv (.t 15)), none⟩,
⟨(some 70), .p (.ar 1 (.t 69) (.c (.w (.s (.int .u64 (.lit (.ofNat 2600))))))), none⟩,
⟨(some 15), .p (.mv (.t 70)), none⟩]) (.skip))) (.seq (.reg [
⟨(some 72), .r (.load (some 26) (.t 13)), none⟩,
⟨(some 73), .p (.mv (.t 15)), none⟩,
⟨(some 74), .p (.faddr 2 (.t 1)), none⟩,
⟨(some 75), .r (.load (some 4) (.t 74)), none⟩,
⟨(some 76), .b (.call 23 [(.t 72), (.t 73), (.t 75)]), none⟩,
⟨(some 71), .p (.mv (.t 76)), none⟩,
⟨(some 77), .p (.ext (.t 71) 0), none⟩,
⟨(some 78), .p (.ext (.t 71) 1), none⟩,
⟨(some 16), .p (.mv (.t 77)), none⟩,
⟨(some 17), .p (.mv (.t 78)), none⟩]) (.seq (.seq (.reg [
⟨(some 79), .p (.mv (.t 17)), none⟩,
⟨(some 80), .p (.not (.t 79)), none⟩]) (.cond (.t 80) (.seq (.reg [
⟨(some 81), .p (.mv (.t 12)), none⟩,
⟨(some 82), .b (.cmp 1 .ptr (.t 81) (.c (.w (.s (.nilp))))), none⟩,
⟨(some 83), .p (.mv (.t 82)), none⟩,
⟨(some 84), .p (.faddr 0 (.t 11)), some (83, true)⟩,
⟨(some 85), .r (.load none (.t 84)), some (83, true)⟩,
⟨(some 86), .b (.cmp 0 .int (.t 85) (.c (.w (.s (.int .i64 (.lit (.ofNat 2))))))), some (83, true)⟩,
⟨(some 87), .p (.pick (.t 83) (.t 86) (.c (.w (.s (.bool false))))), none⟩,
⟨(some 88), .p (.mv (.t 87)), none⟩,
⟨(some 89), .b (.call 19 []), some (88, true)⟩,
⟨(some 90), .p (.pick (.t 88) (.t 89) (.c (.w (.s (.bool false))))), none⟩,
⟨(some 2), .p (.mv (.t 90)), none⟩]) (.ret)) (.skip))) (.seq (.seq (.reg [
⟨(some 91), .p (.mv (.t 12)), none⟩,
⟨(some 92), .b (.cmp 0 .ptr (.t 91) (.c (.w (.s (.nilp))))), none⟩,
⟨(some 93), .p (.mv (.t 92)), none⟩,
⟨(some 94), .p (.faddr 0 (.t 11)), some (93, false)⟩,
⟨(some 95), .r (.load none (.t 94)), some (93, false)⟩,
⟨(some 96), .b (.cmp 1 .int (.t 95) (.c (.w (.s (.int .i64 (.lit (.ofNat 0))))))), some (93, false)⟩,
⟨(some 97), .p (.pick (.t 93) (.c (.w (.s (.bool true)))) (.t 96)), none⟩,
⟨(some 98), .p (.mv (.t 97)), none⟩,
⟨(some 99), .p (.faddr 1 (.t 11)), some (98, false)⟩,
⟨(some 100), .r (.load none (.t 99)), some (98, false)⟩,
⟨(some 101), .p (.len (.t 100)), some (98, false)⟩,
⟨(some 102), .b (.cmp 1 .int (.t 101) (.c (.w (.s (.int .i64 (.lit (.ofNat 32))))))), some (98, false)⟩,
⟨(some 103), .p (.pick (.t 98) (.c (.w (.s (.bool true)))) (.t 102)), none⟩,
⟨(some 104), .p (.mv (.t 103)), none⟩,
⟨(some 105), .b (.call 19 []), some (104, false)⟩,
⟨(some 106), .p (.not (.t 105)), some (104, false)⟩,
⟨(some 107), .p (.pick (.t 104) (.c (.w (.s (.bool true)))) (.t 106)), none⟩]) (.cond (.t 107) (.seq (.reg [
⟨(some 2), .p (.mv (.c (.w (.s (.bool false))))), none⟩]) (.ret)) (.skip))) (.seq (.reg [
⟨(some 108), .p (.build [.int .u64 (.lit (.ofNat 0)), .int .u64 (.lit (.ofNat 0)), .int .u64 (.lit (.ofNat 0)), .int .u64 (.lit (.ofNat 0))] []), none⟩,
⟨(some 18), .m (.alloc 24 [.int .u64 (.lit (.ofNat 0)), .int .u64 (.lit (.ofNat 0)), .int .u64 (.lit (.ofNat 0)), .int .u64 (.lit (.ofNat 0))]), none⟩,
⟨none, .b (.store 4 (.t 18) (.t 108)), none⟩]) (.seq (.seq (.reg [
⟨(some 109), .p (.mv (.t 16)), none⟩,
⟨(some 110), .b (.cmp 5 .int (.t 109) (.c (.w (.s (.int .u64 (.lit (.ofNat 17))))))), none⟩]) (.cond (.t 110) (.reg [
⟨(some 111), .p (.mv (.t 16)), none⟩,
⟨(some 112), .p (.ar 1 (.t 111) (.c (.w (.s (.int .u64 (.lit (.ofNat 2))))))), none⟩,
⟨(some 113), .p (.build [.int .u64 (.lit (.ofNat 0)), .int .u64 (.lit (.ofNat 0)), .int .u64 (.lit (.ofNat 0)), .int .u64 (.lit (.ofNat 0))] [(0, 1, (.t 112))]), none⟩,
⟨none, .b (.store 4 (.t 18) (.t 113)), none⟩]) (.skip))) (.seq (.reg [
⟨(some 114), .r (.load (some 4) (.t 18)), none⟩,
⟨(some 115), .b (.call 24 [(.t 114)]), none⟩,
⟨(some 19), .m (.alloc 54 (lrep (.int .u8 (.lit (.ofNat 0))) 32)), none⟩,
⟨none, .b (.store 32 (.t 19) (.t 115)), none⟩]) (.seq (.draw [
⟨0, ⟨(some 116), .p (.faddr 1 (.t 11)), none⟩, 0, 0⟩,
⟨1, ⟨(some 117), .r (.load none (.t 116)), none⟩, 1, 0⟩,
⟨2, ⟨(some 118), .r (.cstr (.t 117)), none⟩, 3, 0⟩,
⟨3, ⟨(some 119), .p (.aslice 32 1 (.t 19) none none), none⟩, 0, 0⟩,
⟨4, ⟨(some 120), .r (.cstr (.t 119)), none⟩, 8, 0⟩,
⟨5, ⟨(some 121), .b (.cmp 0 .str (.t 118) (.t 120)), none⟩, 31, 0⟩,
⟨6, ⟨(some 2), .p (.mv (.t 121)), none⟩, 63, 0⟩]) (.ret)))))))))))))))))⟩
theorem fo4 : ∃ func code hint, FnOk Go.Proofs.Tryz.prog TT 4 fa4 func code hint := ⟨Go.Proofs.Tryz.f4, bodyOf Go.Proofs.Tryz.f4, hintL [(5, [(5, 0), (7, 0), (8, 0), (10, 8388608), (0, 0), (1, 0), (2, 0), (3, 0), (4, 0), (6, 0), (9, 0), (11, 0), (12, 8388609), (13, 0), (14, 0)]), (20, [(0, 0), (1, 0), (2, 0), (3, 0), (4, 0), (5, 0), (6, 0)])], ⟨Go.Proofs.Tryz.func4, Go.Proofs.Tryz.call4, by kernel_rfl, by kernel_rfl, by kernel_rfl, by kernel_rfl⟩⟩
/- quarry/quarrylaw19.VmTransient -/
def fa5 : AFunc := ⟨116, [.tmp 2], .seq (.reg [
⟨(some 1), .m (.box 27 (.t 0)), none⟩,
⟨(some 2), .p (.mv (.c (.w (.s (.bool false))))), none⟩]) (.seq (.reg [
⟨(some 12), .r (.load (some 11) (.t 1)), none⟩,
⟨(some 13), .b (.call 10 [(.t 12)]), none⟩,
⟨(some 3), .p (.mv (.t 13)), none⟩]) (.seq (.reg [
⟨(some 15), .b (.call 11 []), none⟩,
⟨(some 14), .p (.mv (.t 15)), none⟩,
⟨(some 16), .p (.ext (.t 14) 0), none⟩,
⟨(some 17), .p (.ext (.t 14) 1), none⟩,
⟨(some 18), .p (.ext (.t 14) 2), none⟩,
⟨(some 4), .m (.alloc 30 (lrep (.int .u8 (.lit (.ofNat 0))) 20)), none⟩,
⟨(some 5), .m (.alloc 30 (lrep (.int .u8 (.lit (.ofNat 0))) 20)), none⟩,
⟨(some 6), .m (.alloc 30 (lrep (.int .u8 (.lit (.ofNat 0))) 20)), none⟩,
⟨none, .b (.store 20 (.t 4) (.t 16)), none⟩,
⟨none, .b (.store 20 (.t 5) (.t 17)), none⟩,
⟨none, .b (.store 20 (.t 6) (.t 18)), none⟩]) (.seq (.draw [
⟨0, ⟨(some 19), .p (.faddr 6 (.t 1)), none⟩, 0, 0⟩,
⟨1, ⟨(some 20), .r (.load (some 4) (.t 19)), none⟩, 1, 0⟩,
⟨3, ⟨(some 22), .p (.faddr 2 (.t 1)), none⟩, 0, 0⟩,
⟨4, ⟨(some 23), .r (.load (some 4) (.t 22)), none⟩, 8, 0⟩,
⟨6, ⟨(some 25), .m (.bslice 5 1 [.int .u8 (.lit (.ofNat 0))] [(0, 1, (.c (.w (.s (.int .u8 (.lit (.ofNat 93)))))))]), none⟩, 0, 4194304⟩,
⟨7, ⟨(some 26), .p (.faddr 2 (.t 1)), none⟩, 0, 0⟩,
⟨8, ⟨(some 27), .r (.load (some 4) (.t 26)), none⟩, 128, 0⟩,
⟨10, ⟨(some 29), .m (.bslice 5 4 [.int .u8 (.lit (.ofNat 0))] [(0, 1, (.c (.w (.s (.int .u8 (.lit (.ofNat 92))))))), (1, 1, (.c (.w (.s (.int .u8 (.lit (.ofNat 96))))))), (2, 1, (.c (.w (.s (.int .u8 (.lit (.ofNat 0))))))), (3, 1, (.c (.w (.s (.int .u8 (.lit (.ofNat 82)))))))]), none⟩, 0, 4194305⟩,
⟨2, ⟨(some 21), .b (.call 16 [(.t 20)]), none⟩, 3, 0⟩,
⟨5, ⟨(some 24), .b (.call 16 [(.t 23)]), none⟩, 31, 0⟩,
⟨9, ⟨(some 28), .b (.call 16 [(.t 27)]), none⟩, 447, 0⟩,
⟨11, ⟨(some 30), .b (.call 17 [(.c (.w (.s (.int .i64 (.lit (.ofNat 32))))))]), none⟩, 959, 0⟩,
⟨12, ⟨(some 31), .m (.bslice 25 6 [.nils] [(0, 1, (.t 21)), (1, 1, (.t 24)), (2, 1, (.t 25)), (3, 1, (.t 28)), (4, 1, (.t 29)), (5, 1, (.t 30))]), none⟩, 4095, 4194306⟩,
⟨13, ⟨(some 32), .b (.call 14 [(.t 31)]), none⟩, 8191, 0⟩,
⟨14, ⟨(some 7), .p (.mv (.t 32)), none⟩, 16383, 0⟩]) (.seq (.reg [
⟨(some 34), .p (.mv (.t 3)), none⟩,
⟨(some 35), .p (.mv (.t 7)), none⟩,
⟨(some 36), .p (.build [.int .u64 (.lit (.ofNat 0)), .int .u64 (.lit (.ofNat 0)), .int .u64 (.lit (.ofNat 0)), .int .u64 (.lit (.ofNat 0))] []), none⟩,
⟨(some 37), .b (.call 18 [(.t 34), (.t 35), (.c (.w (.s (.nils)))), (.c (.w (.s (.nils)))), (.t 36), (.c (.w (.s (.int .u64 (.lit (.ofNat 100000))))))]), none⟩,
⟨(some 33), .p (.mv (.t 37)), none⟩,
⟨(some 38), .p (.ext (.t 33) 0), none⟩,
⟨(some 39), .p (.ext (.t 33) 1), none⟩,
⟨(some 8), .m (.alloc 39 [.int .i64 (.lit (.ofNat 0)), .nils, .int .u64 (.lit (.ofNat 0)), .int .u8 (.lit (.ofNat 0)), .int .u8 (.lit (.ofNat 0)), .int .u8 (.lit (.ofNat 0)), .int .u8 (.lit (.ofNat 0)), .int .u8 (.lit (.ofNat 0)), .int .u8 (.lit (.ofNat 0)), .int .u8 (.lit (.ofNat 0)), .int .u8 (.lit (.ofNat 0)), .int .u8 (.lit (.ofNat 0)), .int .u8 (.lit (.ofNat 0)), .int .u8 (.lit (.ofNat 0)), .int .u8 (.lit (.ofNat 0)), .int .u8 (.lit (.ofNat 0)), .int .u8 (.lit (.ofNat 0)), .int .u8 (.lit (.ofNat 0)), .int .u8 (.lit (.ofNat 0)), .int .u8 (.lit (.ofNat 0)), .int .u8 (.lit (.ofNat 0)), .int .u8 (.lit (.ofNat 0)), .int .u8 (.lit (.ofNat 0)), .int .u64 (.lit (.ofNat 0))]), none⟩,
⟨none, .b (.store 24 (.t 8) (.t 38)), none⟩,
⟨(some 9), .p (.mv (.t 39)), none⟩]) (.seq (.seq (.reg [
⟨(some 40), .p (.mv (.t 9)), none⟩,
⟨(some 41), .b (.cmp 0 .ptr (.t 40) (.c (.w (.s (.nilp))))), none⟩,
⟨(some 42), .p (.mv (.t 41)), none⟩,
⟨(some 43), .p (.mv (.t 3)), some (42, false)⟩,
⟨(some 44), .b (.cmp 2 .int (.t 43) (.c (.w (.s (.int .i64 (.lit (.ofNat 15))))))), some (42, false)⟩,
⟨(some 45), .p (.pick (.t 42) (.c (.w (.s (.bool true)))) (.t 44)), none⟩]) (.cond (.t 45) (.seq (.reg [
⟨(some 46), .p (.mv (.t 9)), none⟩,
⟨(some 47), .b (.cmp 1 .ptr (.t 46) (.c (.w (.s (.nilp))))), none⟩,
⟨(some 48), .p (.mv (.t 47)), none⟩,
⟨(some 49), .p (.faddr 0 (.t 8)), some (48, true)⟩,
⟨(some 50), .r (.load none (.t 49)), some (48, true)⟩,
⟨(some 51), .b (.cmp 0 .int (.t 50) (.c (.w (.s (.int .i64 (.lit (.ofNat 2))))))), some (48, true)⟩,
⟨(some 52), .p (.pick (.t 48) (.t 51) (.c (.w (.s (.bool false))))), none⟩,
⟨(some 53), .p (.mv (.t 52)), none⟩,
⟨(some 54), .b (.call 19 []), some (53, true)⟩,
⟨(some 55), .p (.pick (.t 53) (.t 54) (.c (.w (.s (.bool false))))), none⟩,
⟨(some 2), .p (.mv (.t 55)), none⟩]) (.ret)) (.skip))) (.seq (.draw [
⟨0, ⟨(some 57), .p (.mv (.t 3)), none⟩, 0, 0⟩,
⟨1, ⟨(some 58), .p (.faddr 6 (.t 1)), none⟩, 0, 0⟩,
⟨2, ⟨(some 59), .r (.load (some 4) (.t 58)), none⟩, 2, 0⟩,
⟨4, ⟨(some 61), .p (.faddr 2 (.t 1)), none⟩, 0, 0⟩,
⟨5, ⟨(some 62), .r (.load (some 4) (.t 61)), none⟩, 16, 0⟩,
⟨7, ⟨(some 64), .m (.bslice 5 2 [.int .u8 (.lit (.ofNat 0))] [(0, 1, (.c (.w (.s (.int .u8 (.lit (.ofNat 93))))))), (1, 1, (.c (.w (.s (.int .u8 (.lit (.ofNat 254)))))))]), none⟩, 0, 2097152⟩,
⟨10, ⟨(some 67), .p (.build [.int .u64 (.lit (.ofNat 0)), .int .u64 (.lit (.ofNat 0)), .int .u64 (.lit (.ofNat 0)), .int .u64 (.lit (.ofNat 0))] []), none⟩, 0, 0⟩,
⟨15, ⟨(some 10), .m (.alloc 39 [.int .i64 (.lit (.ofNat 0)), .nils, .int .u64 (.lit (.ofNat 0)), .int .u8 (.lit (.ofNat 0)), .int .u8 (.lit (.ofNat 0)), .int .u8 (.lit (.ofNat 0)), .int .u8 (.lit (.ofNat 0)), .int .u8 (.lit (.ofNat 0)), .int .u8 (.lit (.ofNat 0)), .int .u8 (.lit (.ofNat 0)), .int .u8 (.lit (.ofNat 0)), .int .u8 (.lit (.ofNat 0)), .int .u8 (.lit (.ofNat 0)), .int .u8 (.lit (.ofNat 0)), .int .u8 (.lit (.ofNat 0)), .int .u8 (.lit (.ofNat 0)), .int .u8 (.lit (.ofNat 0)), .int .u8 (.lit (.ofNat 0)), .int .u8 (.lit (.ofNat 0)), .int .u8 (.lit (.ofNat 0)), .int .u8 (.lit (.ofNat 0)), .int .u8 (.lit (.ofNat 0)), .int .u8 (.lit (.ofNat 0)), .int .u64 (.lit (.ofNat 0))]), none⟩, 0, 4194305⟩,
⟨3, ⟨(some 60), .b (.call 16 [(.t 59)]), none⟩, 6, 0⟩,
⟨6, ⟨(some 63), .b (.call 16 [(.t 62)]), none⟩, 62, 0⟩,
⟨8, ⟨(some 65), .m (.bslice 25 3 [.nils] [(0, 1, (.t 60)), (1, 1, (.t 63)), (2, 1, (.t 64))]), none⟩, 254, 2097154⟩,
⟨9, ⟨(some 66), .b (.call 14 [(.t 65)]), none⟩, 510, 0⟩,
⟨11, ⟨(some 68), .b (.call 18 [(.t 57), (.t 66), (.c (.w (.s (.nils)))), (.c (.w (.s (.nils)))), (.t 67), (.c (.w (.s (.int .u64 (.lit (.ofNat 100000))))))]), none⟩, 2047, 0⟩,
⟨12, ⟨(some 56), .p (.mv (.t 68)), none⟩, 4095, 0⟩,
⟨13, ⟨(some 69), .p (.ext (.t 56) 0), none⟩, 8191, 0⟩,
⟨14, ⟨(some 70), .p (.ext (.t 56) 1), none⟩, 8191, 0⟩,
⟨16, ⟨none, .b (.store 24 (.t 10) (.t 69)), none⟩, 49151, 0⟩,
⟨17, ⟨(some 11), .p (.mv (.t 70)), none⟩, 131071, 0⟩]) (.seq (.seq (.draw [
⟨0, ⟨(some 71), .p (.faddr 0 (.t 8)), none⟩, 0, 0⟩,
⟨1, ⟨(some 72), .r (.load none (.t 71)), none⟩, 1, 0⟩,
⟨2, ⟨(some 73), .b (.cmp 1 .int (.t 72) (.c (.w (.s (.int .i64 (.lit (.ofNat 0))))))), none⟩, 3, 0⟩,
⟨3, ⟨(some 74), .p (.mv (.t 73)), none⟩, 7, 0⟩,
⟨4, ⟨(some 75), .p (.faddr 1 (.t 8)), some (74, false)⟩, 15, 0⟩,
⟨5, ⟨(some 76), .r (.load none (.t 75)), some (74, false)⟩, 31, 0⟩,
⟨6, ⟨(some 77), .p (.faddr 6 (.t 1)), some (74, false)⟩, 15, 0⟩,
⟨7, ⟨(some 78), .r (.load (some 4) (.t 77)), some (74, false)⟩, 79, 0⟩,
⟨8, ⟨(some 79), .b (.call 25 [(.t 76), (.t 78)]), some (74, false)⟩, 255, 0⟩,
⟨9, ⟨(some 80), .p (.not (.t 79)), some (74, false)⟩, 511, 0⟩,
⟨10, ⟨(some 81), .p (.pick (.t 74) (.c (.w (.s (.bool true)))) (.t 80)), none⟩, 1023, 0⟩,
⟨11, ⟨(some 82), .p (.mv (.t 81)), none⟩, 2047, 0⟩,
⟨12, ⟨(some 83), .p (.mv (.t 9)), some (82, false)⟩, 4095, 0⟩,
⟨13, ⟨(some 84), .r (.load (some 20) (.t 4)), some (82, false)⟩, 4095, 0⟩,
⟨14, ⟨(some 85), .b (.call 26 [(.t 83), (.t 84)]), some (82, false)⟩, 16383, 0⟩,
⟨15, ⟨(some 86), .p (.pick (.t 82) (.c (.w (.s (.bool true)))) (.t 85)), none⟩, 32767, 0⟩,
⟨16, ⟨(some 87), .p (.mv (.t 86)), none⟩, 65535, 0⟩,
⟨17, ⟨(some 88), .p (.mv (.t 9)), some (87, false)⟩, 131071, 0⟩,
⟨18, ⟨(some 89), .r (.load (some 20) (.t 4)), some (87, false)⟩, 131071, 0⟩,
⟨19, ⟨(some 90), .p (.faddr 2 (.t 1)), some (87, false)⟩, 131071, 0⟩,
⟨20, ⟨(some 91), .r (.load (some 4) (.t 90)), some (87, false)⟩, 655359, 0⟩,
⟨22, ⟨(some 93), .p (.faddr 6 (.t 1)), some (87, false)⟩, 131071, 0⟩,
⟨23, ⟨(some 94), .r (.load (some 4) (.t 93)), some (87, false)⟩, 4325375, 0⟩,
⟨21, ⟨(some 92), .b (.call 27 [(.t 88), (.t 89), (.t 91)]), some (87, false)⟩, 2097151, 0⟩,
⟨24, ⟨(some 95), .b (.cmp 1 (.agg (.one (.arr 4 22 .u64))) (.t 92) (.t 94)), some (87, false)⟩, 16777215, 0⟩,
⟨25, ⟨(some 96), .p (.pick (.t 87) (.c (.w (.s (.bool true)))) (.t 95)), none⟩, 33554431, 0⟩,
⟨26, ⟨(some 97), .p (.mv (.t 96)), none⟩, 67108863, 0⟩,
⟨27, ⟨(some 98), .p (.mv (.t 11)), some (97, false)⟩, 134217727, 0⟩,
⟨28, ⟨(some 99), .b (.cmp 0 .ptr (.t 98) (.c (.w (.s (.nilp))))), some (97, false)⟩, 268435455, 0⟩,
⟨29, ⟨(some 100), .p (.pick (.t 97) (.c (.w (.s (.bool true)))) (.t 99)), none⟩, 536870911, 0⟩]) (.cond (.t 100) (.seq (.reg [
⟨(some 2), .p (.mv (.c (.w (.s (.bool false))))), none⟩]) (.ret)) (.skip))) (.seq (.reg [
⟨(some 101), .p (.faddr 0 (.t 10)), none⟩,
⟨(some 102), .r (.load none (.t 101)), none⟩,
⟨(some 103), .b (.cmp 0 .int (.t 102) (.c (.w (.s (.int .i64 (.lit (.ofNat 2))))))), none⟩,
⟨(some 104), .p (.mv (.t 103)), none⟩,
⟨(some 105), .p (.mv (.t 11)), some (104, true)⟩,
⟨(some 106), .r (.load (some 20) (.t 4)), some (104, true)⟩,
⟨(some 107), .p (.faddr 2 (.t 1)), some (104, true)⟩,
⟨(some 108), .r (.load (some 4) (.t 107)), some (104, true)⟩,
⟨(some 109), .b (.call 27 [(.t 105), (.t 106), (.t 108)]), some (104, true)⟩,
⟨(some 110), .p (.build [.int .u64 (.lit (.ofNat 0)), .int .u64 (.lit (.ofNat 0)), .int .u64 (.lit (.ofNat 0)), .int .u64 (.lit (.ofNat 0))] []), some (104, true)⟩,
⟨(some 111), .b (.cmp 0 (.agg (.one (.arr 4 22 .u64))) (.t 109) (.t 110)), some (104, true)⟩,
⟨(some 112), .p (.pick (.t 104) (.t 111) (.c (.w (.s (.bool false))))), none⟩,
⟨(some 113), .p (.mv (.t 112)), none⟩,
⟨(some 114), .b (.call 19 []), some (113, true)⟩,
⟨(some 115), .p (.pick (.t 113) (.t 114) (.c (.w (.s (.bool false))))), none⟩,
⟨(some 2), .p (.mv (.t 115)), none⟩]) (.ret)))))))))⟩
theorem fo5 : ∃ func code hint, FnOk Go.Proofs.Tryz.prog TT 5 fa5 func code hint := ⟨Go.Proofs.Tryz.f5, bodyOf Go.Proofs.Tryz.f5, hintL [(3, [(0, 0), (1, 0), (3, 0), (4, 0), (6, 4194304), (7, 0), (8, 0), (10, 4194305), (2, 0), (5, 0), (9, 0), (11, 0), (12, 4194306), (13, 0), (14, 0)]), (7, [(0, 0), (1, 0), (2, 0), (4, 0), (5, 0), (7, 2097152), (10, 0), (15, 4194305), (3, 0), (6, 0), (8, 2097154), (9, 0), (11, 0), (12, 0), (13, 0), (14, 0), (16, 0), (17, 0)]), (8, [(0, 0), (1, 0), (2, 0), (3, 0), (4, 0), (5, 0), (6, 0), (7, 0), (8, 0), (9, 0), (10, 0), (11, 0), (12, 0), (13, 0), (14, 0), (15, 0), (16, 0), (17, 0), (18, 0), (19, 0), (20, 0), (22, 0), (23, 0), (21, 0), (24, 0), (25, 0), (26, 0), (27, 0), (28, 0), (29, 0)])], ⟨Go.Proofs.Tryz.func5, Go.Proofs.Tryz.call5, by kernel_rfl, by kernel_rfl, by kernel_rfl, by kernel_rfl⟩⟩
/- quarry/quarrylaw19.VmGuards -/
def fa8 : AFunc := ⟨131, [.tmp 2], .seq (.reg [
⟨(some 1), .m (.box 27 (.t 0)), none⟩,
⟨(some 2), .p (.mv (.c (.w (.s (.bool false))))), none⟩]) (.seq (.reg [
⟨(some 13), .r (.load (some 11) (.t 1)), none⟩,
⟨(some 14), .b (.call 10 [(.t 13)]), none⟩,
⟨(some 3), .p (.mv (.t 14)), none⟩]) (.seq (.seq (.reg [
⟨(some 15), .p (.mv (.t 3)), none⟩,
⟨(some 16), .b (.cmp 2 .int (.t 15) (.c (.w (.s (.int .i64 (.lit (.ofNat 4))))))), none⟩]) (.cond (.t 16) (.reg [
⟨(some 17), .p (.mv (.t 3)), none⟩,
⟨(some 18), .p (.ar 0 (.t 17) (.c (.w (.s (.int .i64 (.lit (.ofNat 4))))))), none⟩,
⟨(some 3), .p (.mv (.t 18)), none⟩]) (.skip))) (.seq (.reg [
⟨(some 20), .b (.call 11 []), none⟩,
⟨(some 19), .p (.mv (.t 20)), none⟩,
⟨(some 21), .p (.ext (.t 19) 0), none⟩,
⟨(some 22), .p (.ext (.t 19) 1), none⟩,
⟨(some 23), .p (.ext (.t 19) 2), none⟩,
⟨(some 4), .m (.alloc 30 (lrep (.int .u8 (.lit (.ofNat 0))) 20)), none⟩,
⟨(some 5), .m (.alloc 30 (lrep (.int .u8 (.lit (.ofNat 0))) 20)), none⟩,
⟨(some 6), .m (.alloc 30 (lrep (.int .u8 (.lit (.ofNat 0))) 20)), none⟩,
⟨none, .b (.store 20 (.t 4) (.t 21)), none⟩,
⟨none, .b (.store 20 (.t 5) (.t 22)), none⟩,
⟨none, .b (.store 20 (.t 6) (.t 23)), none⟩]) (.seq (.reg [
⟨(some 24), .b (.call 15 [(.c (.w (.s (.int .i64 (.lit (.ofNat 1))))))]), none⟩,
⟨(some 25), .b (.call 15 [(.c (.w (.s (.int .i64 (.lit (.ofNat 1))))))]), none⟩,
⟨(some 26), .m (.bslice 5 1 [.int .u8 (.lit (.ofNat 0))] [(0, 1, (.c (.w (.s (.int .u8 (.lit (.ofNat 85)))))))]), none⟩,
⟨(some 27), .m (.bslice 25 3 [.nils] [(0, 1, (.t 24)), (1, 1, (.t 25)), (2, 1, (.t 26))]), none⟩,
⟨(some 28), .b (.call 14 [(.t 27)]), none⟩,
⟨(some 29), .b (.call 15 [(.c (.w (.s (.int .i64 (.lit (.ofNat 0))))))]), none⟩,
⟨(some 30), .b (.call 15 [(.c (.w (.s (.int .i64 (.lit (.ofNat 0))))))]), none⟩,
⟨(some 31), .m (.bslice 5 1 [.int .u8 (.lit (.ofNat 0))] [(0, 1, (.c (.w (.s (.int .u8 (.lit (.ofNat 160)))))))]), none⟩,
⟨(some 32), .m (.bslice 25 3 [.nils] [(0, 1, (.t 29)), (1, 1, (.t 30)), (2, 1, (.t 31))]), none⟩,
⟨(some 33), .b (.call 14 [(.t 32)]), none⟩,
⟨(some 34), .b (.call 15 [(.c (.w (.s (.int .i64 (.lit (.ofNat 0))))))]), none⟩,
⟨(some 35), .b (.call 15 [(.c (.w (.s (.int .i64 (.lit (.ofNat 0))))))]), none⟩,
⟨(some 36), .b (.call 15 [(.c (.w (.s (.int .i64 (.lit (.ofNat 0))))))]), none⟩,
⟨(some 37), .m (.bslice 5 1 [.int .u8 (.lit (.ofNat 0))] [(0, 1, (.c (.w (.s (.int .u8 (.lit (.ofNat 240)))))))]), none⟩,
⟨(some 38), .m (.bslice 25 4 [.nils] [(0, 1, (.t 34)), (1, 1, (.t 35)), (2, 1, (.t 36)), (3, 1, (.t 37))]), none⟩,
⟨(some 39), .b (.call 14 [(.t 38)]), none⟩,
⟨(some 40), .b (.call 15 [(.c (.w (.s (.int .i64 (.lit (.ofNat 0))))))]), none⟩,
⟨(some 41), .b (.call 15 [(.c (.w (.s (.int .i64 (.lit (.ofNat 0))))))]), none⟩,
⟨(some 42), .b (.call 15 [(.c (.w (.s (.int .i64 (.lit (.ofNat 0))))))]), none⟩,
⟨(some 43), .b (.call 15 [(.c (.w (.s (.int .i64 (.lit (.ofNat 0))))))]), none⟩,
⟨(some 44), .b (.call 15 [(.c (.w (.s (.int .i64 (.lit (.ofNat 1))))))]), none⟩,
⟨(some 45), .b (.call 15 [(.c (.w (.s (.int .i64 (.lit (.ofNat 153))))))]), none⟩,
⟨(some 46), .b (.call 15 [(.c (.w (.s (.int .i64 (.lit (.ofNat 1000))))))]), none⟩,
⟨(some 47), .m (.bslice 5 1 [.int .u8 (.lit (.ofNat 0))] [(0, 1, (.c (.w (.s (.int .u8 (.lit (.ofNat 241)))))))]), none⟩,
⟨(some 48), .m (.bslice 25 8 [.nils] [(0, 1, (.t 40)), (1, 1, (.t 41)), (2, 1, (.t 42)), (3, 1, (.t 43)), (4, 1, (.t 44)), (5, 1, (.t 45)), (6, 1, (.t 46)), (7, 1, (.t 47))]), none⟩,
⟨(some 49), .b (.call 14 [(.t 48)]), none⟩,
⟨(some 50), .m (.bslice 5 2 [.int .u8 (.lit (.ofNat 0))] [(0, 1, (.c (.w (.s (.int .u8 (.lit (.ofNat 51))))))), (1, 1, (.c (.w (.s (.int .u8 (.lit (.ofNat 255)))))))]), none⟩,
⟨(some 51), .b (.call 15 [(.c (.w (.s (.int .i64 (.lit (.ofNat 1))))))]), none⟩,
⟨(some 52), .m (.bslice 5 1 [.int .u8 (.lit (.ofNat 0))] [(0, 1, (.c (.w (.s (.int .u8 (.lit (.ofNat 84)))))))]), none⟩,
⟨(some 53), .m (.bslice 25 2 [.nils] [(0, 1, (.t 51)), (1, 1, (.t 52))]), none⟩,
⟨(some 54), .b (.call 14 [(.t 53)]), none⟩,
⟨(some 55), .b (.call 15 [(.c (.w (.s (.int .i64 (.lit (.ofNat 0))))))]), none⟩,
⟨(some 56), .b (.call 15 [(.c (.w (.s (.int .i64 (.lit (.ofNat 0))))))]), none⟩,
⟨(some 57), .b (.call 15 [(.c (.w (.s (.int .i64 (.lit (.ofNat 0))))))]), none⟩,
⟨(some 58), .b (.call 15 [(.c (.w (.s (.int .i64 (.lit (.ofNat 0))))))]), none⟩,
⟨(some 59), .b (.call 15 [(.c (.w (.s (.int .i64 (.lit (.ofNat 0))))))]), none⟩,
⟨(some 60), .b (.call 15 [(.c (.w (.s (.int .i64 (.lit (.ofNat 4))))))]), none⟩,
⟨(some 61), .b (.call 15 [(.c (.w (.s (.int .i64 (.lit (.ofNat 1000))))))]), none⟩,
⟨(some 62), .m (.bslice 5 1 [.int .u8 (.lit (.ofNat 0))] [(0, 1, (.c (.w (.s (.int .u8 (.lit (.ofNat 241)))))))]), none⟩,
⟨(some 63), .m (.bslice 25 8 [.nils] [(0, 1, (.t 55)), (1, 1, (.t 56)), (2, 1, (.t 57)), (3, 1, (.t 58)), (4, 1, (.t 59)), (5, 1, (.t 60)), (6, 1, (.t 61)), (7, 1, (.t 62))]), none⟩,
⟨(some 64), .b (.call 14 [(.t 63)]), none⟩,
⟨(some 65), .m (.bslice 25 7 [.nils] [(0, 1, (.t 28)), (1, 1, (.t 33)), (2, 1, (.t 39)), (3, 1, (.t 49)), (4, 1, (.t 50)), (5, 1, (.t 54)), (6, 1, (.t 64))]), none⟩,
⟨(some 7), .p (.mv (.t 65)), none⟩]) (.seq (.reg [
⟨(some 66), .r (.load (some 11) (.t 1)), none⟩,
⟨(some 67), .p (.mv (.t 7)), none⟩,
⟨(some 68), .p (.len (.t 67)), none⟩,
⟨(some 69), .b (.call 12 [(.t 66), (.t 68)]), none⟩,
⟨(some 8), .p (.mv (.t 69)), none⟩]) (.seq (.draw [
⟨4, ⟨(some 74), .r (.load (some 20) (.t 6)), none⟩, 0, 0⟩,
⟨8, ⟨(some 78), .m (.bslice 5 4 [.int .u8 (.lit (.ofNat 0))] [(0, 1, (.c (.w (.s (.int .u8 (.lit (.ofNat 250))))))), (1, 1, (.c (.w (.s (.int .u8 (.lit (.ofNat 96))))))), (2, 1, (.c (.w (.s (.int .u8 (.lit (.ofNat 0))))))), (3, 1, (.c (.w (.s (.int .u8 (.lit (.ofNat 82)))))))]), none⟩, 0, 8388608⟩,
⟨0, ⟨(some 70), .b (.call 15 [(.c (.w (.s (.int .i64 (.lit (.ofNat 0))))))]), none⟩, 0, 0⟩,
⟨1, ⟨(some 71), .b (.call 15 [(.c (.w (.s (.int .i64 (.lit (.ofNat 0))))))]), none⟩, 1, 0⟩,
⟨2, ⟨(some 72), .b (.call 15 [(.c (.w (.s (.int .i64 (.lit (.ofNat 0))))))]), none⟩, 3, 0⟩,
⟨3, ⟨(some 73), .b (.call 15 [(.c (.w (.s (.int .i64 (.lit (.ofNat 0))))))]), none⟩, 7, 0⟩,
⟨5, ⟨(some 75), .b (.call 28 [(.t 74)]), none⟩, 31, 0⟩,
⟨6, ⟨(some 76), .b (.call 16 [(.t 75)]), none⟩, 63, 0⟩,
⟨7, ⟨(some 77), .b (.call 15 [(.c (.w (.s (.int .i64 (.lit (.ofNat 90000))))))]), none⟩, 127, 0⟩,
⟨9, ⟨(some 79), .b (.call 17 [(.c (.w (.s (.int .i64 (.lit (.ofNat 32))))))]), none⟩, 255, 0⟩,
⟨10, ⟨(some 80), .m (.bslice 25 8 [.nils] [(0, 1, (.t 70)), (1, 1, (.t 71)), (2, 1, (.t 72)), (3, 1, (.t 73)), (4, 1, (.t 76)), (5, 1, (.t 77)), (6, 1, (.t 78)), (7, 1, (.t 79))]), none⟩, 1023, 8388609⟩,
⟨11, ⟨(some 81), .b (.call 14 [(.t 80)]), none⟩, 2047, 0⟩,
⟨12, ⟨(some 9), .p (.mv (.t 81)), none⟩, 4095, 0⟩]) (.seq (.reg [
⟨(some 83), .p (.mv (.t 3)), none⟩,
⟨(some 84), .p (.mv (.t 9)), none⟩,
⟨(some 85), .p (.mv (.t 7)), none⟩,
⟨(some 86), .p (.mv (.t 8)), none⟩,
⟨(some 87), .p (.iaddrS 1 (.t 85) (.t 86)), none⟩,
⟨(some 88), .r (.load none (.t 87)), none⟩,
⟨(some 89), .p (.build [.int .u64 (.lit (.ofNat 0)), .int .u64 (.lit (.ofNat 0)), .int .u64 (.lit (.ofNat 0)), .int .u64 (.lit (.ofNat 0))] []), none⟩,
⟨(some 90), .b (.call 18 [(.t 83), (.t 84), (.t 88), (.c (.w (.s (.nils)))), (.t 89), (.c (.w (.s (.int .u64 (.lit (.ofNat 200000))))))]), none⟩,
⟨(some 82), .p (.mv (.t 90)), none⟩,
⟨(some 91), .p (.ext (.t 82) 0), none⟩,
⟨(some 92), .p (.ext (.t 82) 1), none⟩,
⟨(some 10), .m (.alloc 39 [.int .i64 (.lit (.ofNat 0)), .nils, .int .u64 (.lit (.ofNat 0)), .int .u8 (.lit (.ofNat 0)), .int .u8 (.lit (.ofNat 0)), .int .u8 (.lit (.ofNat 0)), .int .u8 (.lit (.ofNat 0)), .int .u8 (.lit (.ofNat 0)), .int .u8 (.lit (.ofNat 0)), .int .u8 (.lit (.ofNat 0)), .int .u8 (.lit (.ofNat 0)), .int .u8 (.lit (.ofNat 0)), .int .u8 (.lit (.ofNat 0)), .int .u8 (.lit (.ofNat 0)), .int .u8 (.lit (.ofNat 0)), .int .u8 (.lit (.ofNat 0)), .int .u8 (.lit (.ofNat 0)), .int .u8 (.lit (.ofNat 0)), .int .u8 (.lit (.ofNat 0)), .int .u8 (.lit (.ofNat 0)), .int .u8 (.lit (.ofNat 0)), .int .u8 (.lit (.ofNat 0)), .int .u8 (.lit (.ofNat 0)), .int .u64 (.lit (.ofNat 0))]), none⟩,
⟨none, .b (.store 24 (.t 10) (.t 91)), none⟩,
⟨(some 11), .p (.mv (.t 92)), none⟩]) (.seq (.reg [
⟨(some 93), .p (.build [.int .u64 (.lit (.ofNat 0)), .int .u64 (.lit (.ofNat 0)), .int .u64 (.lit (.ofNat 0)), .int .u64 (.lit (.ofNat 0))] []), none⟩,
⟨(some 12), .m (.alloc 24 [.int .u64 (.lit (.ofNat 0)), .int .u64 (.lit (.ofNat 0)), .int .u64 (.lit (.ofNat 0)), .int .u64 (.lit (.ofNat 0))]), none⟩,
⟨none, .b (.store 4 (.t 12) (.t 93)), none⟩]) (.seq (.seq (.reg [
⟨(some 94), .p (.mv (.t 8)), none⟩,
⟨(some 95), .b (.cmp 5 .int (.t 94) (.c (.w (.s (.int .i64 (.lit (.ofNat 5))))))), none⟩]) (.cond (.t 95) (.reg [
⟨(some 96), .p (.build [.int .u64 (.lit (.ofNat 0)), .int .u64 (.lit (.ofNat 0)), .int .u64 (.lit (.ofNat 0)), .int .u64 (.lit (.ofNat 0))] [(0, 1, (.c (.w (.s (.int .u64 (.lit (.ofNat 1)))))))]), none⟩,
⟨none, .b (.store 4 (.t 12) (.t 96)), none⟩]) (.skip))) (.seq (.reg [
⟨(some 97), .p (.mv (.t 11)), none⟩,
⟨(some 98), .b (.cmp 1 .ptr (.t 97) (.c (.w (.s (.nilp))))), none⟩,
⟨(some 99), .p (.mv (.t 98)), none⟩,
⟨(some 100), .p (.faddr 0 (.t 10)), some (99, true)⟩,
⟨(some 101), .r (.load none (.t 100)), some (99, true)⟩,
⟨(some 102), .b (.cmp 0 .int (.t 101) (.c (.w (.s (.int .i64 (.lit (.ofNat 0))))))), some (99, true)⟩,
⟨(some 103), .p (.pick (.t 99) (.t 102) (.c (.w (.s (.bool false))))), none⟩,
⟨(some 104), .p (.mv (.t 103)), none⟩,
⟨(some 105), .p (.faddr 1 (.t 10)), some (104, true)⟩,
⟨(some 106), .r (.load none (.t 105)), some (104, true)⟩,
⟨(some 107), .r (.load (some 4) (.t 12)), some (104, true)⟩,
⟨(some 108), .b (.call 25 [(.t 106), (.t 107)]), some (104, true)⟩,
⟨(some 109), .p (.pick (.t 104) (.t 108) (.c (.w (.s (.bool false))))), none⟩,
⟨(some 110), .p (.mv (.t 109)), none⟩,
⟨(some 111), .p (.mv (.t 11)), some (110, true)⟩,
⟨(some 112), .r (.load (some 20) (.t 6)), some (110, true)⟩,
⟨(some 113), .b (.call 26 [(.t 111), (.t 112)]), some (110, true)⟩,
⟨(some 114), .p (.not (.t 113)), some (110, true)⟩,
⟨(some 115), .p (.pick (.t 110) (.t 114) (.c (.w (.s (.bool false))))), none⟩,
⟨(some 116), .p (.mv (.t 115)), none⟩,
⟨(some 117), .p (.mv (.t 11)), some (116, true)⟩,
⟨(some 118), .b (.call 35 [(.t 117)]), some (116, true)⟩,
⟨(some 119), .p (.len (.t 118)), some (116, true)⟩,
⟨(some 120), .b (.cmp 0 .int (.t 119) (.c (.w (.s (.int .i64 (.lit (.ofNat 0))))))), some (116, true)⟩,
⟨(some 121), .p (.pick (.t 116) (.t 120) (.c (.w (.s (.bool false))))), none⟩,
⟨(some 122), .p (.mv (.t 121)), none⟩,
⟨(some 123), .p (.mv (.t 11)), some (122, true)⟩,
⟨(some 124), .r (.load (some 20) (.t 6)), some (122, true)⟩,
⟨(some 125), .b (.call 36 [(.t 123), (.t 124)]), some (122, true)⟩,
⟨(some 126), .p (.not (.t 125)), some (122, true)⟩,
⟨(some 127), .p (.pick (.t 122) (.t 126) (.c (.w (.s (.bool false))))), none⟩,
⟨(some 128), .p (.mv (.t 127)), none⟩,
⟨(some 129), .b (.call 19 []), some (128, true)⟩,
⟨(some 130), .p (.pick (.t 128) (.t 129) (.c (.w (.s (.bool false))))), none⟩,
⟨(some 2), .p (.mv (.t 130)), none⟩]) (.ret)))))))))))⟩
theorem fo8 : ∃ func code hint, FnOk Go.Proofs.Tryz.prog TT 8 fa8 func code hint := ⟨Go.Proofs.Tryz.f8, bodyOf Go.Proofs.Tryz.f8, hintL [(7, [(4, 0), (8, 8388608), (0, 0), (1, 0), (2, 0), (3, 0), (5, 0), (6, 0), (7, 0), (9, 0), (10, 8388609), (11, 0), (12, 0)])], ⟨Go.Proofs.Tryz.func8, Go.Proofs.Tryz.call8, by kernel_rfl, by kernel_rfl, by kernel_rfl, by kernel_rfl⟩⟩
/- (quarry/quarrylaw19.Small).fork -/
def fa10 : AFunc := ⟨8, [.tmp 2], .seq (.reg [
⟨(some 1), .m (.box 27 (.t 0)), none⟩,
⟨(some 2), .p (.mv (.c (.w (.s (.int .i64 (.lit (.ofNat 0))))))), none⟩]) (.seq (.reg [
⟨(some 3), .p (.faddr 0 (.t 1)), none⟩,
⟨(some 4), .r (.load none (.t 3)), none⟩,
⟨(some 5), .p (.md (.t 4) (.c (.w (.s (.int .i64 (.lit (.ofNat 16))))))), none⟩,
⟨(some 6), .p (.ar 0 (.t 5) (.c (.w (.s (.int .i64 (.lit (.ofNat 16))))))), none⟩,
⟨(some 7), .p (.md (.t 6) (.c (.w (.s (.int .i64 (.lit (.ofNat 16))))))), none⟩,
⟨(some 2), .p (.mv (.t 7)), none⟩]) (.ret))⟩
theorem fo10 : ∃ func code hint, FnOk Go.Proofs.Tryz.prog TT 10 fa10 func code hint := ⟨Go.Proofs.Tryz.f10, bodyOf Go.Proofs.Tryz.f10, hintL [], ⟨Go.Proofs.Tryz.func10, Go.Proofs.Tryz.call10, by kernel_rfl, by kernel_rfl, by kernel_rfl, by kernel_rfl⟩⟩
/- quarry/quarrylaw19.who -/
def fa11 : AFunc := ⟨6, [.cell 0 (some 20), .cell 1 (some 20), .cell 2 (some 20)], .seq (.reg [
⟨(some 0), .m (.alloc 30 (lrep (.int .u8 (.lit (.ofNat 0))) 20)), none⟩,
⟨(some 1), .m (.alloc 30 (lrep (.int .u8 (.lit (.ofNat 0))) 20)), none⟩,
⟨(some 2), .m (.alloc 30 (lrep (.int .u8 (.lit (.ofNat 0))) 20)), none⟩]) (.seq (.reg [
⟨(some 3), .p (.build (lrep (.int .u8 (.lit (.ofNat 0))) 20) [(0, 1, (.c (.w (.s (.int .u8 (.lit (.ofNat 170)))))))]), none⟩,
⟨(some 4), .p (.build (lrep (.int .u8 (.lit (.ofNat 0))) 20) [(0, 1, (.c (.w (.s (.int .u8 (.lit (.ofNat 187)))))))]), none⟩,
⟨(some 5), .p (.build (lrep (.int .u8 (.lit (.ofNat 0))) 20) [(0, 1, (.c (.w (.s (.int .u8 (.lit (.ofNat 204)))))))]), none⟩,
⟨none, .b (.store 20 (.t 0) (.t 3)), none⟩,
⟨none, .b (.store 20 (.t 1) (.t 4)), none⟩,
⟨none, .b (.store 20 (.t 2) (.t 5)), none⟩]) (.ret))⟩
theorem fo11 : ∃ func code hint, FnOk Go.Proofs.Tryz.prog TT 11 fa11 func code hint := ⟨Go.Proofs.Tryz.f11, bodyOf Go.Proofs.Tryz.f11, hintL [], ⟨Go.Proofs.Tryz.func11, Go.Proofs.Tryz.call11, by kernel_rfl, by kernel_rfl, by kernel_rfl, by kernel_rfl⟩⟩
/- (quarry/quarrylaw19.Small).n -/
def fa12 : AFunc := ⟨13, [.tmp 4], .seq (.reg [
⟨(some 2), .m (.box 27 (.t 0)), none⟩,
⟨(some 4), .p (.mv (.c (.w (.s (.int .i64 (.lit (.ofNat 0))))))), none⟩]) (.seq (.reg [
⟨(some 5), .p (.faddr 1 (.t 2)), none⟩,
⟨(some 6), .r (.load none (.t 5)), none⟩,
⟨(some 7), .p (.mv (.t 1)), none⟩,
⟨(some 8), .p (.md (.t 6) (.t 7)), none⟩,
⟨(some 9), .p (.mv (.t 1)), none⟩,
⟨(some 10), .p (.ar 0 (.t 8) (.t 9)), none⟩,
⟨(some 11), .p (.mv (.t 1)), none⟩,
⟨(some 12), .p (.md (.t 10) (.t 11)), none⟩,
⟨(some 4), .p (.mv (.t 12)), none⟩]) (.ret))⟩
theorem fo12 : ∃ func code hint, FnOk Go.Proofs.Tryz.prog TT 12 fa12 func code hint := ⟨Go.Proofs.Tryz.f12, bodyOf Go.Proofs.Tryz.f12, hintL [], ⟨Go.Proofs.Tryz.func12, Go.Proofs.Tryz.call12, by kernel_rfl, by kernel_rfl, by kernel_rfl, by kernel_rfl⟩⟩
/- quarry/word.Shl -/
def fa13 : AFunc := ⟨53, [.cell 4 (some 4)], .seq (.reg [
⟨(some 2), .m (.box 24 (.t 0)), none⟩,
⟨(some 3), .m (.box 24 (.t 1)), none⟩,
⟨(some 4), .m (.alloc 24 [.int .u64 (.lit (.ofNat 0)), .int .u64 (.lit (.ofNat 0)), .int .u64 (.lit (.ofNat 0)), .int .u64 (.lit (.ofNat 0))]), none⟩]) (.seq (.reg [
⟨(some 5), .m (.alloc 24 [.int .u64 (.lit (.ofNat 0)), .int .u64 (.lit (.ofNat 0)), .int .u64 (.lit (.ofNat 0)), .int .u64 (.lit (.ofNat 0))]), none⟩]) (.seq (.reg [
⟨(some 8), .r (.load (some 4) (.t 2)), none⟩,
⟨(some 9), .b (.call 40 [(.t 8)]), none⟩,
⟨(some 6), .p (.mv (.t 9)), none⟩]) (.seq (.seq (.reg [
⟨(some 10), .p (.mv (.t 6)), none⟩,
⟨(some 11), .p (.dv (.t 10) (.c (.w (.s (.int .i64 (.lit (.ofNat 64))))))), none⟩,
⟨(some 7), .p (.mv (.t 11)), none⟩]) (.block 0 (.loop (.seq (.seq (.reg [
⟨(some 12), .p (.mv (.t 7)), none⟩,
⟨(some 13), .b (.cmp 2 .int (.t 12) (.c (.w (.s (.int .i64 (.lit (.ofNat 4))))))), none⟩]) (.cond (.t 13) (.skip) (.exit 0))) (.seq (.block 1 (.seq (.reg [
⟨(some 16), .p (.mv (.t 7)), none⟩,
⟨(some 17), .p (.mv (.t 7)), none⟩,
⟨(some 18), .p (.mv (.t 6)), none⟩,
⟨(some 19), .p (.dv (.t 18) (.c (.w (.s (.int .i64 (.lit (.ofNat 64))))))), none⟩,
⟨(some 20), .p (.ar 1 (.t 17) (.t 19)), none⟩,
⟨(some 21), .p (.iaddrA 4 1 (.t 3) (.t 20)), none⟩,
⟨(some 22), .r (.load none (.t 21)), none⟩,
⟨(some 23), .p (.mv (.t 6)), none⟩,
⟨(some 24), .p (.md (.t 23) (.c (.w (.s (.int .i64 (.lit (.ofNat 64))))))), none⟩,
⟨(some 25), .p (.shl (.t 22) (.t 24)), none⟩,
⟨(some 26), .p (.iaddrA 4 1 (.t 5) (.t 16)), none⟩,
⟨none, .b (.store 1 (.t 26) (.t 25)), none⟩]) (.seq (.reg [
⟨(some 27), .p (.mv (.t 7)), none⟩,
⟨(some 28), .p (.mv (.t 6)), none⟩,
⟨(some 29), .p (.dv (.t 28) (.c (.w (.s (.int .i64 (.lit (.ofNat 64))))))), none⟩,
⟨(some 30), .b (.cmp 4 .int (.t 27) (.t 29)), none⟩,
⟨(some 31), .p (.mv (.t 30)), none⟩,
⟨(some 32), .p (.mv (.t 6)), some (31, true)⟩,
⟨(some 33), .p (.md (.t 32) (.c (.w (.s (.int .i64 (.lit (.ofNat 64))))))), some (31, true)⟩,
⟨(some 34), .b (.cmp 4 .int (.t 33) (.c (.w (.s (.int .i64 (.lit (.ofNat 0))))))), some (31, true)⟩,
⟨(some 35), .p (.pick (.t 31) (.t 34) (.c (.w (.s (.bool false))))), none⟩]) (.cond (.t 35) (.draw [
⟨0, ⟨(some 36), .p (.mv (.t 7)), none⟩, 0, 0⟩,
⟨1, ⟨(some 37), .p (.iaddrA 4 1 (.t 5) (.t 36)), none⟩, 1, 0⟩,
⟨2, ⟨(some 38), .r (.load none (.t 37)), none⟩, 3, 0⟩,
⟨3, ⟨(some 39), .p (.mv (.t 7)), none⟩, 0, 0⟩,
⟨4, ⟨(some 40), .p (.mv (.t 6)), none⟩, 0, 0⟩,
⟨5, ⟨(some 41), .p (.dv (.t 40) (.c (.w (.s (.int .i64 (.lit (.ofNat 64))))))), none⟩, 16, 0⟩,
⟨6, ⟨(some 42), .p (.ar 1 (.t 39) (.t 41)), none⟩, 56, 0⟩,
⟨7, ⟨(some 43), .p (.ar 1 (.t 42) (.c (.w (.s (.int .i64 (.lit (.ofNat 1))))))), none⟩, 120, 0⟩,
⟨8, ⟨(some 44), .p (.iaddrA 4 1 (.t 3) (.t 43)), none⟩, 248, 0⟩,
⟨9, ⟨(some 45), .r (.load none (.t 44)), none⟩, 504, 0⟩,
⟨10, ⟨(some 46), .p (.mv (.t 6)), none⟩, 0, 0⟩,
⟨11, ⟨(some 47), .p (.md (.t 46) (.c (.w (.s (.int .i64 (.lit (.ofNat 64))))))), none⟩, 1024, 0⟩,
⟨12, ⟨(some 48), .p (.ar 1 (.c (.w (.s (.int .i64 (.lit (.ofNat 64)))))) (.t 47)), none⟩, 3072, 0⟩,
⟨13, ⟨(some 49), .p (.sr (.t 45) (.t 48)), none⟩, 8184, 0⟩,
⟨14, ⟨(some 50), .p (.bt 1 (.t 38) (.t 49)), none⟩, 16383, 0⟩,
⟨15, ⟨(some 51), .p (.iaddrA 4 1 (.t 5) (.t 36)), none⟩, 32767, 0⟩,
⟨16, ⟨none, .b (.store 1 (.t 51) (.t 50)), none⟩, 65535, 0⟩]) (.skip))))) (.reg [
⟨(some 14), .p (.mv (.t 7)), none⟩,
⟨(some 15), .p (.ar 0 (.t 14) (.c (.w (.s (.int .i64 (.lit (.ofNat 1))))))), none⟩,
⟨(some 7), .p (.mv (.t 15)), none⟩])))))) (.seq (.reg [
⟨(some 52), .r (.load (some 4) (.t 5)), none⟩,
⟨none, .b (.store 4 (.t 4) (.t 52)), none⟩]) (.ret)))))⟩
theorem fo13 : ∃ func code hint, FnOk Go.Proofs.Tryz.prog TT 13 fa13 func code hint := ⟨Go.Proofs.Tryz.f13, bodyOf Go.Proofs.Tryz.f13, hintL [(8, [(0, 0), (1, 0), (2, 0), (3, 0), (4, 0), (5, 0), (6, 0), (7, 0), (8, 0), (9, 0), (10, 0), (11, 0), (12, 0), (13, 0), (14, 0), (15, 0), (16, 0)])], ⟨Go.Proofs.Tryz.func13, Go.Proofs.Tryz.call13, by kernel_rfl, by kernel_rfl, by kernel_rfl, by kernel_rfl⟩⟩
/- quarry/quarrylaw19.cat -/
def fa14 : AFunc := ⟨18, [.tmp 2], .seq (.reg [
⟨(some 2), .p (.mv (.c (.w (.s (.nils))))), none⟩]) (.seq (.reg [
⟨(some 3), .p (.mv (.c (.w (.s (.nils))))), none⟩]) (.seq (.seq (.reg [
⟨(some 4), .p (.mv (.c (.w (.s (.int .i64 (.lit (.ofNat 0))))))), none⟩]) (.block 0 (.loop (.seq (.seq (.reg [
⟨(some 5), .p (.mv (.t 4)), none⟩,
⟨(some 6), .p (.mv (.t 0)), none⟩,
⟨(some 7), .p (.len (.t 6)), none⟩,
⟨(some 8), .b (.cmp 2 .int (.t 5) (.t 7)), none⟩]) (.cond (.t 8) (.skip) (.exit 0))) (.seq (.block 1 (.reg [
⟨(some 11), .p (.mv (.t 3)), none⟩,
⟨(some 12), .p (.mv (.t 0)), none⟩,
⟨(some 13), .p (.mv (.t 4)), none⟩,
⟨(some 14), .p (.iaddrS 1 (.t 12) (.t 13)), none⟩,
⟨(some 15), .r (.load none (.t 14)), none⟩,
⟨(some 16), .b (.append 5 1 1 (.t 11) (.t 15)), none⟩,
⟨(some 3), .p (.mv (.t 16)), none⟩])) (.reg [
⟨(some 9), .p (.mv (.t 4)), none⟩,
⟨(some 10), .p (.ar 0 (.t 9) (.c (.w (.s (.int .i64 (.lit (.ofNat 1))))))), none⟩,
⟨(some 4), .p (.mv (.t 10)), none⟩])))))) (.seq (.reg [
⟨(some 17), .p (.mv (.t 3)), none⟩,
⟨(some 2), .p (.mv (.t 17)), none⟩]) (.ret))))⟩
theorem fo14 : ∃ func code hint, FnOk Go.Proofs.Tryz.prog TT 14 fa14 func code hint := ⟨Go.Proofs.Tryz.f14, bodyOf Go.Proofs.Tryz.f14, hintL [], ⟨Go.Proofs.Tryz.func14, Go.Proofs.Tryz.call14, by kernel_rfl, by kernel_rfl, by kernel_rfl, by kernel_rfl⟩⟩
/- quarry/quarrylaw19.num -/
def fa15 : AFunc := ⟨7, [.tmp 2], .seq (.reg [
⟨(some 2), .p (.mv (.c (.w (.s (.nils))))), none⟩]) (.seq (.reg [
⟨(some 3), .p (.mv (.t 0)), none⟩,
⟨(some 4), .p (.conv .u64 (.t 3)), none⟩,
⟨(some 5), .p (.build [.int .u64 (.lit (.ofNat 0)), .int .u64 (.lit (.ofNat 0)), .int .u64 (.lit (.ofNat 0)), .int .u64 (.lit (.ofNat 0))] [(0, 1, (.t 4))]), none⟩,
⟨(some 6), .b (.call 16 [(.t 5)]), none⟩,
⟨(some 2), .p (.mv (.t 6)), none⟩]) (.ret))⟩
theorem fo15 : ∃ func code hint, FnOk Go.Proofs.Tryz.prog TT 15 fa15 func code hint := ⟨Go.Proofs.Tryz.f15, bodyOf Go.Proofs.Tryz.f15, hintL [], ⟨Go.Proofs.Tryz.func15, Go.Proofs.Tryz.call15, by kernel_rfl, by kernel_rfl, by kernel_rfl, by kernel_rfl⟩⟩
/- quarry/quarrylaw19.push -/
def fa16 : AFunc := ⟨9, [.tmp 2], .seq (.reg [
⟨(some 1), .m (.box 24 (.t 0)), none⟩,
⟨(some 2), .p (.mv (.c (.w (.s (.nils))))), none⟩]) (.seq (.reg [
⟨(some 4), .r (.load (some 4) (.t 1)), none⟩,
⟨(some 5), .b (.call 24 [(.t 4)]), none⟩,
⟨(some 3), .m (.alloc 54 (lrep (.int .u8 (.lit (.ofNat 0))) 32)), none⟩,
⟨none, .b (.store 32 (.t 3) (.t 5)), none⟩]) (.seq (.reg [
⟨(some 6), .m (.bslice 5 1 [.int .u8 (.lit (.ofNat 0))] [(0, 1, (.c (.w (.s (.int .u8 (.lit (.ofNat 127)))))))]), none⟩,
⟨(some 7), .p (.aslice 32 1 (.t 3) none none), none⟩,
⟨(some 8), .b (.append 5 1 1 (.t 6) (.t 7)), none⟩,
⟨(some 2), .p (.mv (.t 8)), none⟩]) (.ret)))⟩
theorem fo16 : ∃ func code hint, FnOk Go.Proofs.Tryz.prog TT 16 fa16 func code hint := ⟨Go.Proofs.Tryz.f16, bodyOf Go.Proofs.Tryz.f16, hintL [], ⟨Go.Proofs.Tryz.func16, Go.Proofs.Tryz.call16, by kernel_rfl, by kernel_rfl, by kernel_rfl, by kernel_rfl⟩⟩
/- quarry/quarrylaw19.ret -/
def fa17 : AFunc := ⟨9, [.tmp 2], .seq (.reg [
⟨(some 2), .p (.mv (.c (.w (.s (.nils))))), none⟩]) (.seq (.reg [
⟨(some 3), .p (.mv (.t 0)), none⟩,
⟨(some 4), .b (.call 15 [(.t 3)]), none⟩,
⟨(some 5), .b (.call 15 [(.c (.w (.s (.int .i64 (.lit (.ofNat 0))))))]), none⟩,
⟨(some 6), .m (.bslice 5 1 [.int .u8 (.lit (.ofNat 0))] [(0, 1, (.c (.w (.s (.int .u8 (.lit (.ofNat 243)))))))]), none⟩,
⟨(some 7), .m (.bslice 25 3 [.nils] [(0, 1, (.t 4)), (1, 1, (.t 5)), (2, 1, (.t 6))]), none⟩,
⟨(some 8), .b (.call 14 [(.t 7)]), none⟩,
⟨(some 2), .p (.mv (.t 8)), none⟩]) (.ret))⟩
theorem fo17 : ∃ func code hint, FnOk Go.Proofs.Tryz.prog TT 17 fa17 func code hint := ⟨Go.Proofs.Tryz.f17, bodyOf Go.Proofs.Tryz.f17, hintL [], ⟨Go.Proofs.Tryz.func17, Go.Proofs.Tryz.call17, by kernel_rfl, by kernel_rfl, by kernel_rfl, by kernel_rfl⟩⟩
/- quarry/quarrylaw19.plays -/
def fa18 : AFunc := ⟨76, [.cell 12 (some 24), .tmp 13], .seq (.reg [
⟨(some 10), .m (.box 24 (.t 4)), none⟩,
⟨(some 12), .m (.alloc 39 [.int .i64 (.lit (.ofNat 0)), .nils, .int .u64 (.lit (.ofNat 0)), .int .u8 (.lit (.ofNat 0)), .int .u8 (.lit (.ofNat 0)), .int .u8 (.lit (.ofNat 0)), .int .u8 (.lit (.ofNat 0)), .int .u8 (.lit (.ofNat 0)), .int .u8 (.lit (.ofNat 0)), .int .u8 (.lit (.ofNat 0)), .int .u8 (.lit (.ofNat 0)), .int .u8 (.lit (.ofNat 0)), .int .u8 (.lit (.ofNat 0)), .int .u8 (.lit (.ofNat 0)), .int .u8 (.lit (.ofNat 0)), .int .u8 (.lit (.ofNat 0)), .int .u8 (.lit (.ofNat 0)), .int .u8 (.lit (.ofNat 0)), .int .u8 (.lit (.ofNat 0)), .int .u8 (.lit (.ofNat 0)), .int .u8 (.lit (.ofNat 0)), .int .u8 (.lit (.ofNat 0)), .int .u8 (.lit (.ofNat 0)), .int .u64 (.lit (.ofNat 0))]), none⟩,
⟨(some 13), .p (.mv (.c (.w (.s (.nilp))))), none⟩]) (.seq (.reg [
⟨(some 23), .b (.call 11 []), none⟩,
⟨(some 22), .p (.mv (.t 23)), none⟩,
⟨(some 24), .p (.ext (.t 22) 0), none⟩,
⟨(some 25), .p (.ext (.t 22) 1), none⟩,
⟨(some 26), .p (.ext (.t 22) 2), none⟩,
⟨(some 14), .m (.alloc 30 (lrep (.int .u8 (.lit (.ofNat 0))) 20)), none⟩,
⟨(some 15), .m (.alloc 30 (lrep (.int .u8 (.lit (.ofNat 0))) 20)), none⟩,
⟨(some 16), .m (.alloc 30 (lrep (.int .u8 (.lit (.ofNat 0))) 20)), none⟩,
⟨none, .b (.store 20 (.t 14) (.t 24)), none⟩,
⟨none, .b (.store 20 (.t 15) (.t 25)), none⟩,
⟨none, .b (.store 20 (.t 16) (.t 26)), none⟩]) (.seq (.reg [
⟨(some 27), .r (.load (some 20) (.t 14)), none⟩,
⟨(some 28), .p (.build [.int .u64 (.lit (.ofNat 0)), .int .u64 (.lit (.ofNat 0)), .int .u64 (.lit (.ofNat 0)), .int .u64 (.lit (.ofNat 0))] [(0, 1, (.c (.w (.s (.int .u64 (.lit (.ofNat 1000)))))))]), none⟩,
⟨(some 29), .p (.mv (.t 1)), none⟩,
⟨(some 30), .p (.build [.int .u8 (.lit (.ofNat 0)), .int .u8 (.lit (.ofNat 0)), .int .u8 (.lit (.ofNat 0)), .int .u8 (.lit (.ofNat 0)), .int .u8 (.lit (.ofNat 0)), .int .u8 (.lit (.ofNat 0)), .int .u8 (.lit (.ofNat 0)), .int .u8 (.lit (.ofNat 0)), .int .u8 (.lit (.ofNat 0)), .int .u8 (.lit (.ofNat 0)), .int .u8 (.lit (.ofNat 0)), .int .u8 (.lit (.ofNat 0)), .int .u8 (.lit (.ofNat 0)), .int .u8 (.lit (.ofNat 0)), .int .u8 (.lit (.ofNat 0)), .int .u8 (.lit (.ofNat 0)), .int .u8 (.lit (.ofNat 0)), .int .u8 (.lit (.ofNat 0)), .int .u8 (.lit (.ofNat 0)), .int .u8 (.lit (.ofNat 0)), .int .u64 (.lit (.ofNat 0)), .int .u64 (.lit (.ofNat 0)), .int .u64 (.lit (.ofNat 0)), .int .u64 (.lit (.ofNat 0)), .int .u64 (.lit (.ofNat 0)), .nils, .nils] [(0, 20, (.t 27)), (20, 1, (.c (.w (.s (.int .u64 (.lit (.ofNat 1))))))), (21, 4, (.t 28)), (25, 1, (.t 29))]), none⟩,
⟨(some 31), .r (.load (some 20) (.t 15)), none⟩,
⟨(some 32), .p (.build [.int .u64 (.lit (.ofNat 0)), .int .u64 (.lit (.ofNat 0)), .int .u64 (.lit (.ofNat 0)), .int .u64 (.lit (.ofNat 0))] [(0, 1, (.c (.w (.s (.int .u64 (.lit (.ofNat 1000000)))))))]), none⟩,
⟨(some 33), .p (.build [.int .u8 (.lit (.ofNat 0)), .int .u8 (.lit (.ofNat 0)), .int .u8 (.lit (.ofNat 0)), .int .u8 (.lit (.ofNat 0)), .int .u8 (.lit (.ofNat 0)), .int .u8 (.lit (.ofNat 0)), .int .u8 (.lit (.ofNat 0)), .int .u8 (.lit (.ofNat 0)), .int .u8 (.lit (.ofNat 0)), .int .u8 (.lit (.ofNat 0)), .int .u8 (.lit (.ofNat 0)), .int .u8 (.lit (.ofNat 0)), .int .u8 (.lit (.ofNat 0)), .int .u8 (.lit (.ofNat 0)), .int .u8 (.lit (.ofNat 0)), .int .u8 (.lit (.ofNat 0)), .int .u8 (.lit (.ofNat 0)), .int .u8 (.lit (.ofNat 0)), .int .u8 (.lit (.ofNat 0)), .int .u8 (.lit (.ofNat 0)), .int .u64 (.lit (.ofNat 0)), .int .u64 (.lit (.ofNat 0)), .int .u64 (.lit (.ofNat 0)), .int .u64 (.lit (.ofNat 0)), .int .u64 (.lit (.ofNat 0)), .nils, .nils] [(0, 20, (.t 31)), (20, 1, (.c (.w (.s (.int .u64 (.lit (.ofNat 1))))))), (21, 4, (.t 32))]), none⟩,
⟨(some 34), .m (.bslice 63 2 [.int .u8 (.lit (.ofNat 0)), .int .u8 (.lit (.ofNat 0)), .int .u8 (.lit (.ofNat 0)), .int .u8 (.lit (.ofNat 0)), .int .u8 (.lit (.ofNat 0)), .int .u8 (.lit (.ofNat 0)), .int .u8 (.lit (.ofNat 0)), .int .u8 (.lit (.ofNat 0)), .int .u8 (.lit (.ofNat 0)), .int .u8 (.lit (.ofNat 0)), .int .u8 (.lit (.ofNat 0)), .int .u8 (.lit (.ofNat 0)), .int .u8 (.lit (.ofNat 0)), .int .u8 (.lit (.ofNat 0)), .int .u8 (.lit (.ofNat 0)), .int .u8 (.lit (.ofNat 0)), .int .u8 (.lit (.ofNat 0)), .int .u8 (.lit (.ofNat 0)), .int .u8 (.lit (.ofNat 0)), .int .u8 (.lit (.ofNat 0)), .int .u64 (.lit (.ofNat 0)), .int .u64 (.lit (.ofNat 0)), .int .u64 (.lit (.ofNat 0)), .int .u64 (.lit (.ofNat 0)), .int .u64 (.lit (.ofNat 0)), .nils, .nils] [(0, 27, (.t 30)), (27, 27, (.t 33))]), none⟩,
⟨(some 17), .p (.mv (.t 34)), none⟩]) (.seq (.seq (.reg [
⟨(some 35), .p (.mv (.t 2)), none⟩,
⟨(some 36), .p (.len (.t 35)), none⟩,
⟨(some 37), .b (.cmp 4 .int (.t 36) (.c (.w (.s (.int .i64 (.lit (.ofNat 0))))))), none⟩]) (.cond (.t 37) (.reg [
⟨(some 38), .p (.mv (.t 17)), none⟩,
⟨(some 39), .r (.load (some 20) (.t 16)), none⟩,
⟨(some 40), .p (.mv (.t 2)), none⟩,
⟨(some 41), .p (.build [.int .u8 (.lit (.ofNat 0)), .int .u8 (.lit (.ofNat 0)), .int .u8 (.lit (.ofNat 0)), .int .u8 (.lit (.ofNat 0)), .int .u8 (.lit (.ofNat 0)), .int .u8 (.lit (.ofNat 0)), .int .u8 (.lit (.ofNat 0)), .int .u8 (.lit (.ofNat 0)), .int .u8 (.lit (.ofNat 0)), .int .u8 (.lit (.ofNat 0)), .int .u8 (.lit (.ofNat 0)), .int .u8 (.lit (.ofNat 0)), .int .u8 (.lit (.ofNat 0)), .int .u8 (.lit (.ofNat 0)), .int .u8 (.lit (.ofNat 0)), .int .u8 (.lit (.ofNat 0)), .int .u8 (.lit (.ofNat 0)), .int .u8 (.lit (.ofNat 0)), .int .u8 (.lit (.ofNat 0)), .int .u8 (.lit (.ofNat 0)), .int .u64 (.lit (.ofNat 0)), .int .u64 (.lit (.ofNat 0)), .int .u64 (.lit (.ofNat 0)), .int .u64 (.lit (.ofNat 0)), .int .u64 (.lit (.ofNat 0)), .nils, .nils] [(0, 20, (.t 39)), (20, 1, (.c (.w (.s (.int .u64 (.lit (.ofNat 1))))))), (25, 1, (.t 40))]), none⟩,
⟨(some 42), .m (.bslice 63 1 [.int .u8 (.lit (.ofNat 0)), .int .u8 (.lit (.ofNat 0)), .int .u8 (.lit (.ofNat 0)), .int .u8 (.lit (.ofNat 0)), .int .u8 (.lit (.ofNat 0)), .int .u8 (.lit (.ofNat 0)), .int .u8 (.lit (.ofNat 0)), .int .u8 (.lit (.ofNat 0)), .int .u8 (.lit (.ofNat 0)), .int .u8 (.lit (.ofNat 0)), .int .u8 (.lit (.ofNat 0)), .int .u8 (.lit (.ofNat 0)), .int .u8 (.lit (.ofNat 0)), .int .u8 (.lit (.ofNat 0)), .int .u8 (.lit (.ofNat 0)), .int .u8 (.lit (.ofNat 0)), .int .u8 (.lit (.ofNat 0)), .int .u8 (.lit (.ofNat 0)), .int .u8 (.lit (.ofNat 0)), .int .u8 (.lit (.ofNat 0)), .int .u64 (.lit (.ofNat 0)), .int .u64 (.lit (.ofNat 0)), .int .u64 (.lit (.ofNat 0)), .int .u64 (.lit (.ofNat 0)), .int .u64 (.lit (.ofNat 0)), .nils, .nils] [(0, 27, (.t 41))]), none⟩,
⟨(some 43), .b (.append 63 27 112 (.t 38) (.t 42)), none⟩,
⟨(some 17), .p (.mv (.t 43)), none⟩]) (.skip))) (.seq (.reg [
⟨(some 45), .p (.mv (.t 17)), none⟩,
⟨(some 46), .b (.call 31 [(.t 45)]), none⟩,
⟨(some 44), .p (.mv (.t 46)), none⟩,
⟨(some 47), .p (.ext (.t 44) 0), none⟩,
⟨(some 48), .p (.ext (.t 44) 1), none⟩,
⟨(some 18), .p (.mv (.t 47)), none⟩,
⟨(some 19), .p (.mv (.t 48)), none⟩]) (.seq (.seq (.reg [
⟨(some 49), .p (.mv (.t 18)), none⟩,
⟨(some 50), .b (.cmp 0 .ptr (.t 49) (.c (.w (.s (.nilp))))), none⟩]) (.cond (.t 50) (.seq (.reg [
⟨(some 51), .p (.build [.int .i64 (.lit (.ofNat 0)), .nils, .int .u64 (.lit (.ofNat 0)), .int .u8 (.lit (.ofNat 0)), .int .u8 (.lit (.ofNat 0)), .int .u8 (.lit (.ofNat 0)), .int .u8 (.lit (.ofNat 0)), .int .u8 (.lit (.ofNat 0)), .int .u8 (.lit (.ofNat 0)), .int .u8 (.lit (.ofNat 0)), .int .u8 (.lit (.ofNat 0)), .int .u8 (.lit (.ofNat 0)), .int .u8 (.lit (.ofNat 0)), .int .u8 (.lit (.ofNat 0)), .int .u8 (.lit (.ofNat 0)), .int .u8 (.lit (.ofNat 0)), .int .u8 (.lit (.ofNat 0)), .int .u8 (.lit (.ofNat 0)), .int .u8 (.lit (.ofNat 0)), .int .u8 (.lit (.ofNat 0)), .int .u8 (.lit (.ofNat 0)), .int .u8 (.lit (.ofNat 0)), .int .u8 (.lit (.ofNat 0)), .int .u64 (.lit (.ofNat 0))] [(0, 1, (.c (.w (.s (.int .i64 (.lit (.ofNat 9)))))))]), none⟩,
⟨none, .b (.store 24 (.t 12) (.t 51)), none⟩,
⟨(some 13), .p (.mv (.c (.w (.s (.nilp))))), none⟩]) (.ret)) (.skip))) (.seq (.reg [
⟨(some 53), .p (.mv (.t 0)), none⟩,
⟨(some 54), .p (.build (lrep (.int .u8 (.lit (.ofNat 0))) 32) [(0, 1, (.c (.w (.s (.int .u8 (.lit (.ofNat 1)))))))]), none⟩,
⟨(some 55), .p (.build (lrep (.int .u8 (.lit (.ofNat 0))) 32) [(0, 1, (.c (.w (.s (.int .u8 (.lit (.ofNat 2)))))))]), none⟩,
⟨(some 56), .p (.build (lrep (.int .u8 (.lit (.ofNat 0))) 32) [(0, 1, (.c (.w (.s (.int .u8 (.lit (.ofNat 3)))))))]), none⟩,
⟨(some 57), .m (.bslice 90 3 (lrep (.int .u8 (.lit (.ofNat 0))) 32) [(0, 32, (.t 54)), (32, 32, (.t 55)), (64, 32, (.t 56))]), none⟩,
⟨(some 58), .p (.build [.int .u8 (.lit (.ofNat 0)), .int .u8 (.lit (.ofNat 0)), .int .u8 (.lit (.ofNat 0)), .int .u8 (.lit (.ofNat 0)), .int .u8 (.lit (.ofNat 0)), .int .u8 (.lit (.ofNat 0)), .int .u8 (.lit (.ofNat 0)), .int .u8 (.lit (.ofNat 0)), .int .u8 (.lit (.ofNat 0)), .int .u8 (.lit (.ofNat 0)), .int .u8 (.lit (.ofNat 0)), .int .u8 (.lit (.ofNat 0)), .int .u8 (.lit (.ofNat 0)), .int .u8 (.lit (.ofNat 0)), .int .u8 (.lit (.ofNat 0)), .int .u8 (.lit (.ofNat 0)), .int .u8 (.lit (.ofNat 0)), .int .u8 (.lit (.ofNat 0)), .int .u8 (.lit (.ofNat 0)), .int .u8 (.lit (.ofNat 0)), .int .u64 (.lit (.ofNat 0)), .int .u64 (.lit (.ofNat 0)), .int .u64 (.lit (.ofNat 0)), .int .u64 (.lit (.ofNat 0)), .int .u64 (.lit (.ofNat 0)), .int .u64 (.lit (.ofNat 0)), .int .u64 (.lit (.ofNat 0)), .int .u64 (.lit (.ofNat 0)), .int .u64 (.lit (.ofNat 0)), .int .u64 (.lit (.ofNat 0)), .int .u64 (.lit (.ofNat 0)), .int .u64 (.lit (.ofNat 0)), .int .u64 (.lit (.ofNat 0)), .int .u64 (.lit (.ofNat 0)), .int .u64 (.lit (.ofNat 0)), .int .u64 (.lit (.ofNat 0)), .nils] [(20, 1, (.c (.w (.s (.int .u64 (.lit (.ofNat 1000))))))), (36, 1, (.t 57))]), none⟩,
⟨(some 59), .r (.load (some 20) (.t 15)), none⟩,
⟨(some 60), .p (.build [.int .u8 (.lit (.ofNat 0)), .int .u8 (.lit (.ofNat 0)), .int .u8 (.lit (.ofNat 0)), .int .u8 (.lit (.ofNat 0)), .int .u8 (.lit (.ofNat 0)), .int .u8 (.lit (.ofNat 0)), .int .u8 (.lit (.ofNat 0)), .int .u8 (.lit (.ofNat 0)), .int .u8 (.lit (.ofNat 0)), .int .u8 (.lit (.ofNat 0)), .int .u8 (.lit (.ofNat 0)), .int .u8 (.lit (.ofNat 0)), .int .u8 (.lit (.ofNat 0)), .int .u8 (.lit (.ofNat 0)), .int .u8 (.lit (.ofNat 0)), .int .u8 (.lit (.ofNat 0)), .int .u8 (.lit (.ofNat 0)), .int .u8 (.lit (.ofNat 0)), .int .u8 (.lit (.ofNat 0)), .int .u8 (.lit (.ofNat 0)), .int .u64 (.lit (.ofNat 0)), .int .u64 (.lit (.ofNat 0)), .int .u64 (.lit (.ofNat 0)), .int .u64 (.lit (.ofNat 0)), .nils] [(0, 20, (.t 59))]), none⟩,
⟨(some 61), .p (.mv (.t 18)), none⟩,
⟨(some 62), .r (.load (some 20) (.t 15)), none⟩,
⟨(some 63), .r (.load (some 20) (.t 14)), none⟩,
⟨(some 64), .r (.load (some 4) (.t 10)), none⟩,
⟨(some 65), .p (.mv (.t 3)), none⟩,
⟨(some 66), .p (.mv (.t 5)), none⟩,
⟨(some 67), .p (.build [.bool false, .int .u8 (.lit (.ofNat 0)), .int .u8 (.lit (.ofNat 0)), .int .u8 (.lit (.ofNat 0)), .int .u8 (.lit (.ofNat 0)), .int .u8 (.lit (.ofNat 0)), .int .u8 (.lit (.ofNat 0)), .int .u8 (.lit (.ofNat 0)), .int .u8 (.lit (.ofNat 0)), .int .u8 (.lit (.ofNat 0)), .int .u8 (.lit (.ofNat 0)), .int .u8 (.lit (.ofNat 0)), .int .u8 (.lit (.ofNat 0)), .int .u8 (.lit (.ofNat 0)), .int .u8 (.lit (.ofNat 0)), .int .u8 (.lit (.ofNat 0)), .int .u8 (.lit (.ofNat 0)), .int .u8 (.lit (.ofNat 0)), .int .u8 (.lit (.ofNat 0)), .int .u8 (.lit (.ofNat 0)), .int .u8 (.lit (.ofNat 0)), .int .u8 (.lit (.ofNat 0)), .int .u8 (.lit (.ofNat 0)), .int .u8 (.lit (.ofNat 0)), .int .u8 (.lit (.ofNat 0)), .int .u8 (.lit (.ofNat 0)), .int .u8 (.lit (.ofNat 0)), .int .u8 (.lit (.ofNat 0)), .int .u8 (.lit (.ofNat 0)), .int .u8 (.lit (.ofNat 0)), .int .u8 (.lit (.ofNat 0)), .int .u8 (.lit (.ofNat 0)), .int .u8 (.lit (.ofNat 0)), .int .u8 (.lit (.ofNat 0)), .int .u8 (.lit (.ofNat 0)), .int .u8 (.lit (.ofNat 0)), .int .u8 (.lit (.ofNat 0)), .int .u8 (.lit (.ofNat 0)), .int .u8 (.lit (.ofNat 0)), .int .u8 (.lit (.ofNat 0)), .int .u8 (.lit (.ofNat 0)), .int .u64 (.lit (.ofNat 0)), .int .u64 (.lit (.ofNat 0)), .int .u64 (.lit (.ofNat 0)), .int .u64 (.lit (.ofNat 0)), .nils, .int .u64 (.lit (.ofNat 0)), .bool false, .int .i64 (.lit (.ofNat 0))] [(1, 20, (.t 62)), (21, 20, (.t 63)), (41, 4, (.t 64)), (45, 1, (.t 65)), (46, 1, (.t 66))]), none⟩,
⟨(some 68), .b (.call 32 [(.t 53), (.t 58), (.t 60), (.t 61), (.t 67)]), none⟩,
⟨(some 52), .p (.mv (.t 68)), none⟩,
⟨(some 69), .p (.ext (.t 52) 0), none⟩,
⟨(some 70), .p (.ext (.t 52) 1), none⟩,
⟨(some 20), .m (.alloc 39 [.int .i64 (.lit (.ofNat 0)), .nils, .int .u64 (.lit (.ofNat 0)), .int .u8 (.lit (.ofNat 0)), .int .u8 (.lit (.ofNat 0)), .int .u8 (.lit (.ofNat 0)), .int .u8 (.lit (.ofNat 0)), .int .u8 (.lit (.ofNat 0)), .int .u8 (.lit (.ofNat 0)), .int .u8 (.lit (.ofNat 0)), .int .u8 (.lit (.ofNat 0)), .int .u8 (.lit (.ofNat 0)), .int .u8 (.lit (.ofNat 0)), .int .u8 (.lit (.ofNat 0)), .int .u8 (.lit (.ofNat 0)), .int .u8 (.lit (.ofNat 0)), .int .u8 (.lit (.ofNat 0)), .int .u8 (.lit (.ofNat 0)), .int .u8 (.lit (.ofNat 0)), .int .u8 (.lit (.ofNat 0)), .int .u8 (.lit (.ofNat 0)), .int .u8 (.lit (.ofNat 0)), .int .u8 (.lit (.ofNat 0)), .int .u64 (.lit (.ofNat 0))]), none⟩,
⟨none, .b (.store 24 (.t 20) (.t 69)), none⟩,
⟨(some 21), .p (.mv (.t 70)), none⟩]) (.seq (.seq (.reg [
⟨(some 71), .p (.mv (.t 21)), none⟩,
⟨(some 72), .b (.cmp 1 .int (.t 71) (.c (.w (.s (.int .i64 (.lit (.ofNat 0))))))), none⟩]) (.cond (.t 72) (.seq (.reg [
⟨(some 73), .p (.build [.int .i64 (.lit (.ofNat 0)), .nils, .int .u64 (.lit (.ofNat 0)), .int .u8 (.lit (.ofNat 0)), .int .u8 (.lit (.ofNat 0)), .int .u8 (.lit (.ofNat 0)), .int .u8 (.lit (.ofNat 0)), .int .u8 (.lit (.ofNat 0)), .int .u8 (.lit (.ofNat 0)), .int .u8 (.lit (.ofNat 0)), .int .u8 (.lit (.ofNat 0)), .int .u8 (.lit (.ofNat 0)), .int .u8 (.lit (.ofNat 0)), .int .u8 (.lit (.ofNat 0)), .int .u8 (.lit (.ofNat 0)), .int .u8 (.lit (.ofNat 0)), .int .u8 (.lit (.ofNat 0)), .int .u8 (.lit (.ofNat 0)), .int .u8 (.lit (.ofNat 0)), .int .u8 (.lit (.ofNat 0)), .int .u8 (.lit (.ofNat 0)), .int .u8 (.lit (.ofNat 0)), .int .u8 (.lit (.ofNat 0)), .int .u64 (.lit (.ofNat 0))] [(0, 1, (.c (.w (.s (.int .i64 (.lit (.ofNat 9)))))))]), none⟩,
⟨none, .b (.store 24 (.t 12) (.t 73)), none⟩,
⟨(some 13), .p (.mv (.c (.w (.s (.nilp))))), none⟩]) (.ret)) (.skip))) (.seq (.reg [
⟨(some 74), .r (.load (some 24) (.t 20)), none⟩,
⟨(some 75), .p (.mv (.t 18)), none⟩,
⟨none, .b (.store 24 (.t 12) (.t 74)), none⟩,
⟨(some 13), .p (.mv (.t 75)), none⟩]) (.ret)))))))))⟩
theorem fo18 : ∃ func code hint, FnOk Go.Proofs.Tryz.prog TT 18 fa18 func code hint := ⟨Go.Proofs.Tryz.f18, bodyOf Go.Proofs.Tryz.f18, hintL [], ⟨Go.Proofs.Tryz.func18, Go.Proofs.Tryz.call18, by kernel_rfl, by kernel_rfl, by kernel_rfl, by kernel_rfl⟩⟩
/- quarry/quarrylaw19.wakes -/
def fa19 : AFunc := ⟨57, [.tmp 0], .seq (.reg [
⟨(some 0), .p (.mv (.c (.w (.s (.bool false))))), none⟩]) (.seq (.reg [
⟨(some 7), .p (.build (lrep (.int .u8 (.lit (.ofNat 0))) 20) [(0, 1, (.c (.w (.s (.int .u8 (.lit (.ofNat 170)))))))]), none⟩,
⟨(some 8), .p (.build (lrep (.int .u8 (.lit (.ofNat 0))) 20) [(0, 1, (.c (.w (.s (.int .u8 (.lit (.ofNat 187)))))))]), none⟩,
⟨(some 1), .m (.alloc 30 (lrep (.int .u8 (.lit (.ofNat 0))) 20)), none⟩,
⟨(some 2), .m (.alloc 30 (lrep (.int .u8 (.lit (.ofNat 0))) 20)), none⟩,
⟨none, .b (.store 20 (.t 1) (.t 7)), none⟩,
⟨none, .b (.store 20 (.t 2) (.t 8)), none⟩]) (.seq (.reg [
⟨(some 10), .r (.load (some 20) (.t 1)), none⟩,
⟨(some 11), .m (.bslice 5 13 [.int .u8 (.lit (.ofNat 0))] [(0, 1, (.c (.w (.s (.int .u8 (.lit (.ofNat 96))))))), (1, 1, (.c (.w (.s (.int .u8 (.lit (.ofNat 5))))))), (2, 1, (.c (.w (.s (.int .u8 (.lit (.ofNat 96))))))), (3, 1, (.c (.w (.s (.int .u8 (.lit (.ofNat 3))))))), (4, 1, (.c (.w (.s (.int .u8 (.lit (.ofNat 1))))))), (5, 1, (.c (.w (.s (.int .u8 (.lit (.ofNat 96))))))), (6, 1, (.c (.w (.s (.int .u8 (.lit (.ofNat 0))))))), (7, 1, (.c (.w (.s (.int .u8 (.lit (.ofNat 82))))))), (8, 1, (.c (.w (.s (.int .u8 (.lit (.ofNat 96))))))), (9, 1, (.c (.w (.s (.int .u8 (.lit (.ofNat 32))))))), (10, 1, (.c (.w (.s (.int .u8 (.lit (.ofNat 96))))))), (11, 1, (.c (.w (.s (.int .u8 (.lit (.ofNat 0))))))), (12, 1, (.c (.w (.s (.int .u8 (.lit (.ofNat 243)))))))]), none⟩,
⟨(some 12), .p (.build [.int .u8 (.lit (.ofNat 0)), .int .u8 (.lit (.ofNat 0)), .int .u8 (.lit (.ofNat 0)), .int .u8 (.lit (.ofNat 0)), .int .u8 (.lit (.ofNat 0)), .int .u8 (.lit (.ofNat 0)), .int .u8 (.lit (.ofNat 0)), .int .u8 (.lit (.ofNat 0)), .int .u8 (.lit (.ofNat 0)), .int .u8 (.lit (.ofNat 0)), .int .u8 (.lit (.ofNat 0)), .int .u8 (.lit (.ofNat 0)), .int .u8 (.lit (.ofNat 0)), .int .u8 (.lit (.ofNat 0)), .int .u8 (.lit (.ofNat 0)), .int .u8 (.lit (.ofNat 0)), .int .u8 (.lit (.ofNat 0)), .int .u8 (.lit (.ofNat 0)), .int .u8 (.lit (.ofNat 0)), .int .u8 (.lit (.ofNat 0)), .int .u64 (.lit (.ofNat 0)), .int .u64 (.lit (.ofNat 0)), .int .u64 (.lit (.ofNat 0)), .int .u64 (.lit (.ofNat 0)), .int .u64 (.lit (.ofNat 0)), .nils, .nils] [(0, 20, (.t 10)), (25, 1, (.t 11))]), none⟩,
⟨(some 13), .r (.load (some 20) (.t 2)), none⟩,
⟨(some 14), .p (.build [.int .u64 (.lit (.ofNat 0)), .int .u64 (.lit (.ofNat 0)), .int .u64 (.lit (.ofNat 0)), .int .u64 (.lit (.ofNat 0))] [(0, 1, (.c (.w (.s (.int .u64 (.lit (.ofNat 100)))))))]), none⟩,
⟨(some 15), .p (.build [.int .u8 (.lit (.ofNat 0)), .int .u8 (.lit (.ofNat 0)), .int .u8 (.lit (.ofNat 0)), .int .u8 (.lit (.ofNat 0)), .int .u8 (.lit (.ofNat 0)), .int .u8 (.lit (.ofNat 0)), .int .u8 (.lit (.ofNat 0)), .int .u8 (.lit (.ofNat 0)), .int .u8 (.lit (.ofNat 0)), .int .u8 (.lit (.ofNat 0)), .int .u8 (.lit (.ofNat 0)), .int .u8 (.lit (.ofNat 0)), .int .u8 (.lit (.ofNat 0)), .int .u8 (.lit (.ofNat 0)), .int .u8 (.lit (.ofNat 0)), .int .u8 (.lit (.ofNat 0)), .int .u8 (.lit (.ofNat 0)), .int .u8 (.lit (.ofNat 0)), .int .u8 (.lit (.ofNat 0)), .int .u8 (.lit (.ofNat 0)), .int .u64 (.lit (.ofNat 0)), .int .u64 (.lit (.ofNat 0)), .int .u64 (.lit (.ofNat 0)), .int .u64 (.lit (.ofNat 0)), .int .u64 (.lit (.ofNat 0)), .nils, .nils] [(0, 20, (.t 13)), (21, 4, (.t 14))]), none⟩,
⟨(some 16), .m (.bslice 63 2 [.int .u8 (.lit (.ofNat 0)), .int .u8 (.lit (.ofNat 0)), .int .u8 (.lit (.ofNat 0)), .int .u8 (.lit (.ofNat 0)), .int .u8 (.lit (.ofNat 0)), .int .u8 (.lit (.ofNat 0)), .int .u8 (.lit (.ofNat 0)), .int .u8 (.lit (.ofNat 0)), .int .u8 (.lit (.ofNat 0)), .int .u8 (.lit (.ofNat 0)), .int .u8 (.lit (.ofNat 0)), .int .u8 (.lit (.ofNat 0)), .int .u8 (.lit (.ofNat 0)), .int .u8 (.lit (.ofNat 0)), .int .u8 (.lit (.ofNat 0)), .int .u8 (.lit (.ofNat 0)), .int .u8 (.lit (.ofNat 0)), .int .u8 (.lit (.ofNat 0)), .int .u8 (.lit (.ofNat 0)), .int .u8 (.lit (.ofNat 0)), .int .u64 (.lit (.ofNat 0)), .int .u64 (.lit (.ofNat 0)), .int .u64 (.lit (.ofNat 0)), .int .u64 (.lit (.ofNat 0)), .int .u64 (.lit (.ofNat 0)), .nils, .nils] [(0, 27, (.t 12)), (27, 27, (.t 15))]), none⟩,
⟨(some 17), .b (.call 31 [(.t 16)]), none⟩,
⟨(some 9), .p (.mv (.t 17)), none⟩,
⟨(some 18), .p (.ext (.t 9) 0), none⟩,
⟨(some 19), .p (.ext (.t 9) 1), none⟩,
⟨(some 3), .p (.mv (.t 18)), none⟩,
⟨(some 4), .p (.mv (.t 19)), none⟩]) (.seq (.seq (.reg [
⟨(some 20), .p (.mv (.t 3)), none⟩,
⟨(some 21), .b (.cmp 0 .ptr (.t 20) (.c (.w (.s (.nilp))))), none⟩]) (.cond (.t 21) (.seq (.reg [
⟨(some 0), .p (.mv (.c (.w (.s (.bool false))))), none⟩]) (.ret)) (.skip))) (.seq (.reg [
⟨(some 23), .p (.build [.int .u8 (.lit (.ofNat 0)), .int .u8 (.lit (.ofNat 0)), .int .u8 (.lit (.ofNat 0)), .int .u8 (.lit (.ofNat 0)), .int .u8 (.lit (.ofNat 0)), .int .u8 (.lit (.ofNat 0)), .int .u8 (.lit (.ofNat 0)), .int .u8 (.lit (.ofNat 0)), .int .u8 (.lit (.ofNat 0)), .int .u8 (.lit (.ofNat 0)), .int .u8 (.lit (.ofNat 0)), .int .u8 (.lit (.ofNat 0)), .int .u8 (.lit (.ofNat 0)), .int .u8 (.lit (.ofNat 0)), .int .u8 (.lit (.ofNat 0)), .int .u8 (.lit (.ofNat 0)), .int .u8 (.lit (.ofNat 0)), .int .u8 (.lit (.ofNat 0)), .int .u8 (.lit (.ofNat 0)), .int .u8 (.lit (.ofNat 0)), .int .u64 (.lit (.ofNat 0)), .int .u64 (.lit (.ofNat 0)), .int .u64 (.lit (.ofNat 0)), .int .u64 (.lit (.ofNat 0)), .int .u64 (.lit (.ofNat 0)), .int .u64 (.lit (.ofNat 0)), .int .u64 (.lit (.ofNat 0)), .int .u64 (.lit (.ofNat 0)), .int .u64 (.lit (.ofNat 0)), .int .u64 (.lit (.ofNat 0)), .int .u64 (.lit (.ofNat 0)), .int .u64 (.lit (.ofNat 0)), .int .u64 (.lit (.ofNat 0)), .int .u64 (.lit (.ofNat 0)), .int .u64 (.lit (.ofNat 0)), .int .u64 (.lit (.ofNat 0)), .nils] []), none⟩,
⟨(some 24), .p (.build [.int .u8 (.lit (.ofNat 0)), .int .u8 (.lit (.ofNat 0)), .int .u8 (.lit (.ofNat 0)), .int .u8 (.lit (.ofNat 0)), .int .u8 (.lit (.ofNat 0)), .int .u8 (.lit (.ofNat 0)), .int .u8 (.lit (.ofNat 0)), .int .u8 (.lit (.ofNat 0)), .int .u8 (.lit (.ofNat 0)), .int .u8 (.lit (.ofNat 0)), .int .u8 (.lit (.ofNat 0)), .int .u8 (.lit (.ofNat 0)), .int .u8 (.lit (.ofNat 0)), .int .u8 (.lit (.ofNat 0)), .int .u8 (.lit (.ofNat 0)), .int .u8 (.lit (.ofNat 0)), .int .u8 (.lit (.ofNat 0)), .int .u8 (.lit (.ofNat 0)), .int .u8 (.lit (.ofNat 0)), .int .u8 (.lit (.ofNat 0)), .int .u64 (.lit (.ofNat 0)), .int .u64 (.lit (.ofNat 0)), .int .u64 (.lit (.ofNat 0)), .int .u64 (.lit (.ofNat 0)), .nils] []), none⟩,
⟨(some 25), .p (.mv (.t 3)), none⟩,
⟨(some 26), .r (.load (some 20) (.t 2)), none⟩,
⟨(some 27), .r (.load (some 20) (.t 1)), none⟩,
⟨(some 28), .p (.build [.bool false, .int .u8 (.lit (.ofNat 0)), .int .u8 (.lit (.ofNat 0)), .int .u8 (.lit (.ofNat 0)), .int .u8 (.lit (.ofNat 0)), .int .u8 (.lit (.ofNat 0)), .int .u8 (.lit (.ofNat 0)), .int .u8 (.lit (.ofNat 0)), .int .u8 (.lit (.ofNat 0)), .int .u8 (.lit (.ofNat 0)), .int .u8 (.lit (.ofNat 0)), .int .u8 (.lit (.ofNat 0)), .int .u8 (.lit (.ofNat 0)), .int .u8 (.lit (.ofNat 0)), .int .u8 (.lit (.ofNat 0)), .int .u8 (.lit (.ofNat 0)), .int .u8 (.lit (.ofNat 0)), .int .u8 (.lit (.ofNat 0)), .int .u8 (.lit (.ofNat 0)), .int .u8 (.lit (.ofNat 0)), .int .u8 (.lit (.ofNat 0)), .int .u8 (.lit (.ofNat 0)), .int .u8 (.lit (.ofNat 0)), .int .u8 (.lit (.ofNat 0)), .int .u8 (.lit (.ofNat 0)), .int .u8 (.lit (.ofNat 0)), .int .u8 (.lit (.ofNat 0)), .int .u8 (.lit (.ofNat 0)), .int .u8 (.lit (.ofNat 0)), .int .u8 (.lit (.ofNat 0)), .int .u8 (.lit (.ofNat 0)), .int .u8 (.lit (.ofNat 0)), .int .u8 (.lit (.ofNat 0)), .int .u8 (.lit (.ofNat 0)), .int .u8 (.lit (.ofNat 0)), .int .u8 (.lit (.ofNat 0)), .int .u8 (.lit (.ofNat 0)), .int .u8 (.lit (.ofNat 0)), .int .u8 (.lit (.ofNat 0)), .int .u8 (.lit (.ofNat 0)), .int .u8 (.lit (.ofNat 0)), .int .u64 (.lit (.ofNat 0)), .int .u64 (.lit (.ofNat 0)), .int .u64 (.lit (.ofNat 0)), .int .u64 (.lit (.ofNat 0)), .nils, .int .u64 (.lit (.ofNat 0)), .bool false, .int .i64 (.lit (.ofNat 0))] [(1, 20, (.t 26)), (21, 20, (.t 27)), (46, 1, (.c (.w (.s (.int .u64 (.lit (.ofNat 100000)))))))]), none⟩,
⟨(some 29), .b (.call 32 [(.c (.w (.s (.int .i64 (.lit (.ofNat 0)))))), (.t 23), (.t 24), (.t 25), (.t 28)]), none⟩,
⟨(some 22), .p (.mv (.t 29)), none⟩,
⟨(some 30), .p (.ext (.t 22) 0), none⟩,
⟨(some 31), .p (.ext (.t 22) 1), none⟩,
⟨(some 5), .m (.alloc 39 [.int .i64 (.lit (.ofNat 0)), .nils, .int .u64 (.lit (.ofNat 0)), .int .u8 (.lit (.ofNat 0)), .int .u8 (.lit (.ofNat 0)), .int .u8 (.lit (.ofNat 0)), .int .u8 (.lit (.ofNat 0)), .int .u8 (.lit (.ofNat 0)), .int .u8 (.lit (.ofNat 0)), .int .u8 (.lit (.ofNat 0)), .int .u8 (.lit (.ofNat 0)), .int .u8 (.lit (.ofNat 0)), .int .u8 (.lit (.ofNat 0)), .int .u8 (.lit (.ofNat 0)), .int .u8 (.lit (.ofNat 0)), .int .u8 (.lit (.ofNat 0)), .int .u8 (.lit (.ofNat 0)), .int .u8 (.lit (.ofNat 0)), .int .u8 (.lit (.ofNat 0)), .int .u8 (.lit (.ofNat 0)), .int .u8 (.lit (.ofNat 0)), .int .u8 (.lit (.ofNat 0)), .int .u8 (.lit (.ofNat 0)), .int .u64 (.lit (.ofNat 0))]), none⟩,
⟨none, .b (.store 24 (.t 5) (.t 30)), none⟩,
⟨(some 6), .p (.mv (.t 31)), none⟩]) (.seq (.reg [
⟨(some 32), .p (.mv (.t 6)), none⟩,
⟨(some 33), .b (.cmp 0 .int (.t 32) (.c (.w (.s (.int .i64 (.lit (.ofNat 0))))))), none⟩,
⟨(some 34), .p (.mv (.t 33)), none⟩,
⟨(some 35), .p (.faddr 0 (.t 5)), some (34, true)⟩,
⟨(some 36), .r (.load none (.t 35)), some (34, true)⟩,
⟨(some 37), .b (.cmp 0 .int (.t 36) (.c (.w (.s (.int .i64 (.lit (.ofNat 0))))))), some (34, true)⟩,
⟨(some 38), .p (.pick (.t 34) (.t 37) (.c (.w (.s (.bool false))))), none⟩,
⟨(some 39), .p (.mv (.t 38)), none⟩,
⟨(some 40), .p (.faddr 1 (.t 5)), some (39, true)⟩,
⟨(some 41), .r (.load none (.t 40)), some (39, true)⟩,
⟨(some 42), .p (.len (.t 41)), some (39, true)⟩,
⟨(some 43), .b (.cmp 0 .int (.t 42) (.c (.w (.s (.int .i64 (.lit (.ofNat 32))))))), some (39, true)⟩,
⟨(some 44), .p (.pick (.t 39) (.t 43) (.c (.w (.s (.bool false))))), none⟩,
⟨(some 45), .p (.mv (.t 44)), none⟩,
⟨(some 46), .p (.faddr 1 (.t 5)), some (45, true)⟩,
⟨(some 47), .r (.load none (.t 46)), some (45, true)⟩,
⟨(some 48), .p (.iaddrS 1 (.t 47) (.c (.w (.s (.int .i64 (.lit (.ofNat 31))))))), some (45, true)⟩,
⟨(some 49), .r (.load none (.t 48)), some (45, true)⟩,
⟨(some 50), .b (.cmp 0 .int (.t 49) (.c (.w (.s (.int .u8 (.lit (.ofNat 8))))))), some (45, true)⟩,
⟨(some 51), .p (.pick (.t 45) (.t 50) (.c (.w (.s (.bool false))))), none⟩,
⟨(some 52), .p (.mv (.t 51)), none⟩,
⟨(some 53), .p (.faddr 23 (.t 5)), some (52, true)⟩,
⟨(some 54), .r (.load none (.t 53)), some (52, true)⟩,
⟨(some 55), .b (.cmp 0 .int (.t 54) (.c (.w (.s (.int .u64 (.lit (.ofNat 8))))))), some (52, true)⟩,
⟨(some 56), .p (.pick (.t 52) (.t 55) (.c (.w (.s (.bool false))))), none⟩,
⟨(some 0), .p (.mv (.t 56)), none⟩]) (.ret))))))⟩
theorem fo19 : ∃ func code hint, FnOk Go.Proofs.Tryz.prog TT 19 fa19 func code hint := ⟨Go.Proofs.Tryz.f19, bodyOf Go.Proofs.Tryz.f19, hintL [], ⟨Go.Proofs.Tryz.func19, Go.Proofs.Tryz.call19, by kernel_rfl, by kernel_rfl, by kernel_rfl, by kernel_rfl⟩⟩
/- (*quarry/state.State).Balance -/
def fa20 : AFunc := ⟨11, [.cell 4 (some 4)], .seq (.reg [
⟨(some 3), .m (.box 30 (.t 1)), none⟩,
⟨(some 4), .m (.alloc 24 [.int .u64 (.lit (.ofNat 0)), .int .u64 (.lit (.ofNat 0)), .int .u64 (.lit (.ofNat 0)), .int .u64 (.lit (.ofNat 0))]), none⟩]) (.seq (.reg [
⟨(some 5), .p (.mv (.t 0)), none⟩,
⟨(some 6), .r (.load (some 20) (.t 3)), none⟩,
⟨(some 7), .b (.call 41 [(.t 5), (.t 6)]), none⟩,
⟨(some 8), .p (.nilCheck (.t 7)), none⟩,
⟨(some 9), .p (.faddr 1 (.t 8)), none⟩,
⟨(some 10), .r (.load (some 4) (.t 9)), none⟩,
⟨none, .b (.store 4 (.t 4) (.t 10)), none⟩]) (.ret))⟩
theorem fo20 : ∃ func code hint, FnOk Go.Proofs.Tryz.prog TT 20 fa20 func code hint := ⟨Go.Proofs.Tryz.f20, bodyOf Go.Proofs.Tryz.f20, hintL [], ⟨Go.Proofs.Tryz.func20, Go.Proofs.Tryz.call20, by kernel_rfl, by kernel_rfl, by kernel_rfl, by kernel_rfl⟩⟩
/- quarry/word.From -/
def fa21 : AFunc := ⟨38, [.cell 2 (some 4), .tmp 3], .seq (.reg [
⟨(some 2), .m (.alloc 24 [.int .u64 (.lit (.ofNat 0)), .int .u64 (.lit (.ofNat 0)), .int .u64 (.lit (.ofNat 0)), .int .u64 (.lit (.ofNat 0))]), none⟩,
⟨(some 3), .p (.mv (.c (.w (.s (.bool false))))), none⟩]) (.seq (.seq (.reg [
⟨(some 8), .p (.mv (.t 0)), none⟩,
⟨(some 9), .p (.len (.t 8)), none⟩,
⟨(some 10), .b (.cmp 4 .int (.t 9) (.c (.w (.s (.int .i64 (.lit (.ofNat 32))))))), none⟩]) (.cond (.t 10) (.seq (.reg [
⟨(some 11), .p (.build [.int .u64 (.lit (.ofNat 0)), .int .u64 (.lit (.ofNat 0)), .int .u64 (.lit (.ofNat 0)), .int .u64 (.lit (.ofNat 0))] []), none⟩,
⟨none, .b (.store 4 (.t 2) (.t 11)), none⟩,
⟨(some 3), .p (.mv (.c (.w (.s (.bool false))))), none⟩]) (.ret)) (.skip))) (.seq (.reg [
⟨(some 4), .m (.alloc 24 [.int .u64 (.lit (.ofNat 0)), .int .u64 (.lit (.ofNat 0)), .int .u64 (.lit (.ofNat 0)), .int .u64 (.lit (.ofNat 0))]), none⟩]) (.seq (.seq (.reg [
⟨(some 12), .p (.mv (.t 0)), none⟩,
⟨(some 13), .p (.len (.t 12)), none⟩,
⟨(some 14), .p (.mv (.c (.w (.s (.int .i64 (.lit (.ofNat 0))))))), none⟩]) (.block 0 (.loop (.seq (.reg [
⟨(some 15), .b (.cmp 2 .int (.t 14) (.t 13)), none⟩]) (.seq (.cond (.t 15) (.skip) (.exit 0)) (.seq (.block 1 (.seq (.reg [
⟨(some 16), .p (.mv (.t 14)), none⟩,
⟨(some 17), .p (.iaddrS 1 (.t 12) (.t 14)), none⟩,
⟨(some 18), .r (.load none (.t 17)), none⟩,
⟨(some 5), .p (.mv (.t 16)), none⟩,
⟨(some 6), .p (.mv (.t 18)), none⟩]) (.seq (.reg [
⟨(some 19), .p (.mv (.t 0)), none⟩,
⟨(some 20), .p (.len (.t 19)), none⟩,
⟨(some 21), .p (.ar 1 (.t 20) (.c (.w (.s (.int .i64 (.lit (.ofNat 1))))))), none⟩,
⟨(some 22), .p (.mv (.t 5)), none⟩,
⟨(some 23), .p (.ar 1 (.t 21) (.t 22)), none⟩,
⟨(some 7), .p (.mv (.t 23)), none⟩]) (.draw [
⟨0, ⟨(some 24), .p (.mv (.t 7)), none⟩, 0, 0⟩,
⟨1, ⟨(some 25), .p (.dv (.t 24) (.c (.w (.s (.int .i64 (.lit (.ofNat 8))))))), none⟩, 1, 0⟩,
⟨2, ⟨(some 26), .p (.iaddrA 4 1 (.t 4) (.t 25)), none⟩, 3, 0⟩,
⟨3, ⟨(some 27), .r (.load none (.t 26)), none⟩, 7, 0⟩,
⟨4, ⟨(some 28), .p (.mv (.t 6)), none⟩, 0, 0⟩,
⟨5, ⟨(some 29), .p (.conv .u64 (.t 28)), none⟩, 16, 0⟩,
⟨6, ⟨(some 30), .p (.mv (.t 7)), none⟩, 0, 0⟩,
⟨7, ⟨(some 31), .p (.md (.t 30) (.c (.w (.s (.int .i64 (.lit (.ofNat 8))))))), none⟩, 64, 0⟩,
⟨8, ⟨(some 32), .p (.ar 2 (.t 31) (.c (.w (.s (.int .i64 (.lit (.ofNat 8))))))), none⟩, 192, 0⟩,
⟨9, ⟨(some 33), .p (.shl (.t 29) (.t 32)), none⟩, 496, 0⟩,
⟨10, ⟨(some 34), .p (.bt 1 (.t 27) (.t 33)), none⟩, 1023, 0⟩,
⟨11, ⟨(some 35), .p (.iaddrA 4 1 (.t 4) (.t 25)), none⟩, 2047, 0⟩,
⟨12, ⟨none, .b (.store 1 (.t 35) (.t 34)), none⟩, 4095, 0⟩])))) (.reg [
⟨(some 36), .p (.ar 0 (.t 14) (.c (.w (.s (.int .i64 (.lit (.ofNat 1))))))), none⟩,
⟨(some 14), .p (.mv (.t 36)), none⟩]))))))) (.seq (.reg [
⟨(some 37), .r (.load (some 4) (.t 4)), none⟩,
⟨none, .b (.store 4 (.t 2) (.t 37)), none⟩,
⟨(some 3), .p (.mv (.c (.w (.s (.bool true))))), none⟩]) (.ret)))))⟩
theorem fo21 : ∃ func code hint, FnOk Go.Proofs.Tryz.prog TT 21 fa21 func code hint := ⟨Go.Proofs.Tryz.f21, bodyOf Go.Proofs.Tryz.f21, hintL [(8, [(0, 0), (1, 0), (2, 0), (3, 0), (4, 0), (5, 0), (6, 0), (7, 0), (8, 0), (9, 0), (10, 0), (11, 0), (12, 0)])], ⟨Go.Proofs.Tryz.func21, Go.Proofs.Tryz.call21, by kernel_rfl, by kernel_rfl, by kernel_rfl, by kernel_rfl⟩⟩
/- quarry/quarryref13.Of -/
def fa22 : AFunc := ⟨123, [.cell 2 (some 26), .tmp 3], .seq (.reg [
⟨(some 2), .m (.alloc 49 [.int .i64 (.lit (.ofNat 0)), .int .u64 (.lit (.ofNat 0)), .int .u64 (.lit (.ofNat 0)), .int .u64 (.lit (.ofNat 0)), .int .u64 (.lit (.ofNat 0)), .int .u64 (.lit (.ofNat 0)), .int .u64 (.lit (.ofNat 0)), .int .u64 (.lit (.ofNat 0)), .int .i64 (.lit (.ofNat 0)), .int .i64 (.lit (.ofNat 0)), .int .u64 (.lit (.ofNat 0)), .int .u64 (.lit (.ofNat 0)), .int .u64 (.lit (.ofNat 0)), .int .u64 (.lit (.ofNat 0)), .int .u64 (.lit (.ofNat 0)), .int .u64 (.lit (.ofNat 0)), .int .u64 (.lit (.ofNat 0)), .int .u64 (.lit (.ofNat 0)), .int .u64 (.lit (.ofNat 0)), .int .u64 (.lit (.ofNat 0)), .int .u64 (.lit (.ofNat 0)), .int .u64 (.lit (.ofNat 0)), .int .u64 (.lit (.ofNat 0)), .int .u64 (.lit (.ofNat 0)), .int .u64 (.lit (.ofNat 0)), .int .u64 (.lit (.ofNat 0))]), none⟩,
⟨(some 3), .p (.mv (.c (.w (.s (.bool false))))), none⟩]) (.seq (.seq (.reg [
⟨(some 4), .p (.mv (.t 0)), none⟩,
⟨(some 5), .b (.cmp 2 .int (.t 4) (.c (.w (.s (.int .i64 (.lit (.ofNat 0))))))), none⟩,
⟨(some 6), .p (.mv (.t 5)), none⟩,
⟨(some 7), .p (.mv (.t 0)), some (6, false)⟩,
⟨(some 8), .b (.cmp 4 .int (.t 7) (.c (.w (.s (.int .i64 (.lit (.ofNat 15))))))), some (6, false)⟩,
⟨(some 9), .p (.pick (.t 6) (.c (.w (.s (.bool true)))) (.t 8)), none⟩]) (.cond (.t 9) (.seq (.reg [
⟨(some 10), .p (.build [.int .i64 (.lit (.ofNat 0)), .int .u64 (.lit (.ofNat 0)), .int .u64 (.lit (.ofNat 0)), .int .u64 (.lit (.ofNat 0)), .int .u64 (.lit (.ofNat 0)), .int .u64 (.lit (.ofNat 0)), .int .u64 (.lit (.ofNat 0)), .int .u64 (.lit (.ofNat 0)), .int .i64 (.lit (.ofNat 0)), .int .i64 (.lit (.ofNat 0)), .int .u64 (.lit (.ofNat 0)), .int .u64 (.lit (.ofNat 0)), .int .u64 (.lit (.ofNat 0)), .int .u64 (.lit (.ofNat 0)), .int .u64 (.lit (.ofNat 0)), .int .u64 (.lit (.ofNat 0)), .int .u64 (.lit (.ofNat 0)), .int .u64 (.lit (.ofNat 0)), .int .u64 (.lit (.ofNat 0)), .int .u64 (.lit (.ofNat 0)), .int .u64 (.lit (.ofNat 0)), .int .u64 (.lit (.ofNat 0)), .int .u64 (.lit (.ofNat 0)), .int .u64 (.lit (.ofNat 0)), .int .u64 (.lit (.ofNat 0)), .int .u64 (.lit (.ofNat 0))] []), none⟩,
⟨none, .b (.store 26 (.t 2) (.t 10)), none⟩,
⟨(some 3), .p (.mv (.c (.w (.s (.bool false))))), none⟩]) (.ret)) (.skip))) (.seq (.reg [
⟨(some 11), .p (.mv (.t 0)), none⟩,
⟨(some 12), .p (.mv (.t 0)), none⟩,
⟨(some 13), .p (.build [.int .u64 (.lit (.ofNat 0)), .int .u64 (.lit (.ofNat 0))] [(0, 1, (.c (.w (.s (.int .u64 (.lit (.ofNat 1))))))), (1, 1, (.c (.w (.s (.int .u64 (.lit (.ofNat 32000)))))))]), none⟩,
⟨(some 14), .m (.bslice 97 1 [.int .u64 (.lit (.ofNat 0)), .int .u64 (.lit (.ofNat 0))] [(0, 2, (.t 13))]), none⟩,
⟨(some 15), .b (.call 42 [(.t 12), (.c (.w (.s (.int .u64 (.lit (.ofNat 0)))))), (.t 14)]), none⟩,
⟨(some 16), .p (.mv (.t 0)), none⟩,
⟨(some 17), .p (.build [.int .u64 (.lit (.ofNat 0)), .int .u64 (.lit (.ofNat 0))] [(0, 1, (.c (.w (.s (.int .u64 (.lit (.ofNat 7))))))), (1, 1, (.c (.w (.s (.int .u64 (.lit (.ofNat 16)))))))]), none⟩,
⟨(some 18), .m (.bslice 97 1 [.int .u64 (.lit (.ofNat 0)), .int .u64 (.lit (.ofNat 0))] [(0, 2, (.t 17))]), none⟩,
⟨(some 19), .b (.call 42 [(.t 16), (.c (.w (.s (.int .u64 (.lit (.ofNat 68)))))), (.t 18)]), none⟩,
⟨(some 20), .p (.mv (.t 0)), none⟩,
⟨(some 21), .p (.build [.int .u64 (.lit (.ofNat 0)), .int .u64 (.lit (.ofNat 0))] [(0, 1, (.c (.w (.s (.int .u64 (.lit (.ofNat 9))))))), (1, 1, (.c (.w (.s (.int .u64 (.lit (.ofNat 2400)))))))]), none⟩,
⟨(some 22), .m (.bslice 97 1 [.int .u64 (.lit (.ofNat 0)), .int .u64 (.lit (.ofNat 0))] [(0, 2, (.t 21))]), none⟩,
⟨(some 23), .b (.call 42 [(.t 20), (.c (.w (.s (.int .u64 (.lit (.ofNat 0)))))), (.t 22)]), none⟩,
⟨(some 24), .p (.mv (.t 0)), none⟩,
⟨(some 25), .p (.build [.int .u64 (.lit (.ofNat 0)), .int .u64 (.lit (.ofNat 0))] [(0, 1, (.c (.w (.s (.int .u64 (.lit (.ofNat 9))))))), (1, 1, (.c (.w (.s (.int .u64 (.lit (.ofNat 1900)))))))]), none⟩,
⟨(some 26), .m (.bslice 97 1 [.int .u64 (.lit (.ofNat 0)), .int .u64 (.lit (.ofNat 0))] [(0, 2, (.t 25))]), none⟩,
⟨(some 27), .b (.call 42 [(.t 24), (.c (.w (.s (.int .u64 (.lit (.ofNat 0)))))), (.t 26)]), none⟩,
⟨(some 28), .p (.mv (.t 0)), none⟩,
⟨(some 29), .p (.build [.int .u64 (.lit (.ofNat 0)), .int .u64 (.lit (.ofNat 0))] [(0, 1, (.c (.w (.s (.int .u64 (.lit (.ofNat 14))))))), (1, 1, (.c (.w (.s (.int .u64 (.lit (.ofNat 2)))))))]), none⟩,
⟨(some 30), .m (.bslice 97 1 [.int .u64 (.lit (.ofNat 0)), .int .u64 (.lit (.ofNat 0))] [(0, 2, (.t 29))]), none⟩,
⟨(some 31), .b (.call 42 [(.t 28), (.c (.w (.s (.int .u64 (.lit (.ofNat 0)))))), (.t 30)]), none⟩,
⟨(some 32), .p (.mv (.t 0)), none⟩,
⟨(some 33), .p (.build [.int .u64 (.lit (.ofNat 0)), .int .u64 (.lit (.ofNat 0))] [(0, 1, (.c (.w (.s (.int .u64 (.lit (.ofNat 14))))))), (1, 1, (.c (.w (.s (.int .u64 (.lit (.ofNat 49152)))))))]), none⟩,
⟨(some 34), .m (.bslice 97 1 [.int .u64 (.lit (.ofNat 0)), .int .u64 (.lit (.ofNat 0))] [(0, 2, (.t 33))]), none⟩,
⟨(some 35), .b (.call 42 [(.t 32), (.c (.w (.s (.int .u64 (.lit (.ofNat 0)))))), (.t 34)]), none⟩,
⟨(some 36), .p (.conv .i64 (.t 35)), none⟩,
⟨(some 37), .p (.mv (.t 0)), none⟩,
⟨(some 38), .p (.build [.int .u64 (.lit (.ofNat 0)), .int .u64 (.lit (.ofNat 0))] [(0, 1, (.c (.w (.s (.int .u64 (.lit (.ofNat 3))))))), (1, 1, (.c (.w (.s (.int .u64 (.lit (.ofNat 24576)))))))]), none⟩,
⟨(some 39), .m (.bslice 97 1 [.int .u64 (.lit (.ofNat 0)), .int .u64 (.lit (.ofNat 0))] [(0, 2, (.t 38))]), none⟩,
⟨(some 40), .b (.call 42 [(.t 37), (.c (.w (.s (.int .u64 (.lit (.ofNat 0)))))), (.t 39)]), none⟩,
⟨(some 41), .p (.conv .i64 (.t 40)), none⟩,
⟨(some 42), .p (.mv (.t 0)), none⟩,
⟨(some 43), .p (.build [.int .u64 (.lit (.ofNat 0)), .int .u64 (.lit (.ofNat 0))] [(0, 1, (.c (.w (.s (.int .u64 (.lit (.ofNat 2))))))), (1, 1, (.c (.w (.s (.int .u64 (.lit (.ofNat 400)))))))]), none⟩,
⟨(some 44), .p (.build [.int .u64 (.lit (.ofNat 0)), .int .u64 (.lit (.ofNat 0))] [(0, 1, (.c (.w (.s (.int .u64 (.lit (.ofNat 7))))))), (1, 1, (.c (.w (.s (.int .u64 (.lit (.ofNat 700)))))))]), none⟩,
⟨(some 45), .p (.build [.int .u64 (.lit (.ofNat 0)), .int .u64 (.lit (.ofNat 0))] [(0, 1, (.c (.w (.s (.int .u64 (.lit (.ofNat 9))))))), (1, 1, (.c (.w (.s (.int .u64 (.lit (.ofNat 0)))))))]), none⟩,
⟨(some 46), .m (.bslice 97 3 [.int .u64 (.lit (.ofNat 0)), .int .u64 (.lit (.ofNat 0))] [(0, 2, (.t 43)), (2, 2, (.t 44)), (4, 2, (.t 45))]), none⟩,
⟨(some 47), .b (.call 42 [(.t 42), (.c (.w (.s (.int .u64 (.lit (.ofNat 20)))))), (.t 46)]), none⟩,
⟨(some 48), .p (.mv (.t 0)), none⟩,
⟨(some 49), .p (.build [.int .u64 (.lit (.ofNat 0)), .int .u64 (.lit (.ofNat 0))] [(0, 1, (.c (.w (.s (.int .u64 (.lit (.ofNat 2))))))), (1, 1, (.c (.w (.s (.int .u64 (.lit (.ofNat 700)))))))]), none⟩,
⟨(some 50), .p (.build [.int .u64 (.lit (.ofNat 0)), .int .u64 (.lit (.ofNat 0))] [(0, 1, (.c (.w (.s (.int .u64 (.lit (.ofNat 9))))))), (1, 1, (.c (.w (.s (.int .u64 (.lit (.ofNat 0)))))))]), none⟩,
⟨(some 51), .m (.bslice 97 2 [.int .u64 (.lit (.ofNat 0)), .int .u64 (.lit (.ofNat 0))] [(0, 2, (.t 49)), (2, 2, (.t 50))]), none⟩,
⟨(some 52), .b (.call 42 [(.t 48), (.c (.w (.s (.int .u64 (.lit (.ofNat 20)))))), (.t 51)]), none⟩,
⟨(some 53), .p (.mv (.t 0)), none⟩,
⟨(some 54), .p (.build [.int .u64 (.lit (.ofNat 0)), .int .u64 (.lit (.ofNat 0))] [(0, 1, (.c (.w (.s (.int .u64 (.lit (.ofNat 5))))))), (1, 1, (.c (.w (.s (.int .u64 (.lit (.ofNat 400)))))))]), none⟩,
⟨(some 55), .p (.build [.int .u64 (.lit (.ofNat 0)), .int .u64 (.lit (.ofNat 0))] [(0, 1, (.c (.w (.s (.int .u64 (.lit (.ofNat 7))))))), (1, 1, (.c (.w (.s (.int .u64 (.lit (.ofNat 700)))))))]), none⟩,
⟨(some 56), .p (.build [.int .u64 (.lit (.ofNat 0)), .int .u64 (.lit (.ofNat 0))] [(0, 1, (.c (.w (.s (.int .u64 (.lit (.ofNat 9))))))), (1, 1, (.c (.w (.s (.int .u64 (.lit (.ofNat 0)))))))]), none⟩,
⟨(some 57), .m (.bslice 97 3 [.int .u64 (.lit (.ofNat 0)), .int .u64 (.lit (.ofNat 0))] [(0, 2, (.t 54)), (2, 2, (.t 55)), (4, 2, (.t 56))]), none⟩,
⟨(some 58), .b (.call 42 [(.t 53), (.c (.w (.s (.int .u64 (.lit (.ofNat 0)))))), (.t 57)]), none⟩,
⟨(some 59), .p (.mv (.t 0)), none⟩,
⟨(some 60), .p (.build [.int .u64 (.lit (.ofNat 0)), .int .u64 (.lit (.ofNat 0))] [(0, 1, (.c (.w (.s (.int .u64 (.lit (.ofNat 2))))))), (1, 1, (.c (.w (.s (.int .u64 (.lit (.ofNat 200)))))))]), none⟩,
⟨(some 61), .p (.build [.int .u64 (.lit (.ofNat 0)), .int .u64 (.lit (.ofNat 0))] [(0, 1, (.c (.w (.s (.int .u64 (.lit (.ofNat 7))))))), (1, 1, (.c (.w (.s (.int .u64 (.lit (.ofNat 800)))))))]), none⟩,
⟨(some 62), .p (.build [.int .u64 (.lit (.ofNat 0)), .int .u64 (.lit (.ofNat 0))] [(0, 1, (.c (.w (.s (.int .u64 (.lit (.ofNat 9))))))), (1, 1, (.c (.w (.s (.int .u64 (.lit (.ofNat 0)))))))]), none⟩,
⟨(some 63), .m (.bslice 97 3 [.int .u64 (.lit (.ofNat 0)), .int .u64 (.lit (.ofNat 0))] [(0, 2, (.t 60)), (2, 2, (.t 61)), (4, 2, (.t 62))]), none⟩,
⟨(some 64), .b (.call 42 [(.t 59), (.c (.w (.s (.int .u64 (.lit (.ofNat 50)))))), (.t 63)]), none⟩,
⟨(some 65), .p (.mv (.t 0)), none⟩,
⟨(some 66), .p (.build [.int .u64 (.lit (.ofNat 0)), .int .u64 (.lit (.ofNat 0))] [(0, 1, (.c (.w (.s (.int .u64 (.lit (.ofNat 2))))))), (1, 1, (.c (.w (.s (.int .u64 (.lit (.ofNat 700)))))))]), none⟩,
⟨(some 67), .p (.build [.int .u64 (.lit (.ofNat 0)), .int .u64 (.lit (.ofNat 0))] [(0, 1, (.c (.w (.s (.int .u64 (.lit (.ofNat 9))))))), (1, 1, (.c (.w (.s (.int .u64 (.lit (.ofNat 0)))))))]), none⟩,
⟨(some 68), .m (.bslice 97 2 [.int .u64 (.lit (.ofNat 0)), .int .u64 (.lit (.ofNat 0))] [(0, 2, (.t 66)), (2, 2, (.t 67))]), none⟩,
⟨(some 69), .b (.call 42 [(.t 65), (.c (.w (.s (.int .u64 (.lit (.ofNat 40)))))), (.t 68)]), none⟩,
⟨(some 70), .p (.mv (.t 0)), none⟩,
⟨(some 71), .p (.build [.int .u64 (.lit (.ofNat 0)), .int .u64 (.lit (.ofNat 0))] [(0, 1, (.c (.w (.s (.int .u64 (.lit (.ofNat 9))))))), (1, 1, (.c (.w (.s (.int .u64 (.lit (.ofNat 2600)))))))]), none⟩,
⟨(some 72), .m (.bslice 97 1 [.int .u64 (.lit (.ofNat 0)), .int .u64 (.lit (.ofNat 0))] [(0, 2, (.t 71))]), none⟩,
⟨(some 73), .b (.call 42 [(.t 70), (.c (.w (.s (.int .u64 (.lit (.ofNat 0)))))), (.t 72)]), none⟩,
⟨(some 74), .p (.mv (.t 0)), none⟩,
⟨(some 75), .p (.build [.int .u64 (.lit (.ofNat 0)), .int .u64 (.lit (.ofNat 0))] [(0, 1, (.c (.w (.s (.int .u64 (.lit (.ofNat 9))))))), (1, 1, (.c (.w (.s (.int .u64 (.lit (.ofNat 2100)))))))]), none⟩,
⟨(some 76), .m (.bslice 97 1 [.int .u64 (.lit (.ofNat 0)), .int .u64 (.lit (.ofNat 0))] [(0, 2, (.t 75))]), none⟩,
⟨(some 77), .b (.call 42 [(.t 74), (.c (.w (.s (.int .u64 (.lit (.ofNat 0)))))), (.t 76)]), none⟩,
⟨(some 78), .p (.mv (.t 0)), none⟩,
⟨(some 79), .p (.build [.int .u64 (.lit (.ofNat 0)), .int .u64 (.lit (.ofNat 0))] [(0, 1, (.c (.w (.s (.int .u64 (.lit (.ofNat 9))))))), (1, 1, (.c (.w (.s (.int .u64 (.lit (.ofNat 100)))))))]), none⟩,
⟨(some 80), .m (.bslice 97 1 [.int .u64 (.lit (.ofNat 0)), .int .u64 (.lit (.ofNat 0))] [(0, 2, (.t 79))]), none⟩,
⟨(some 81), .b (.call 42 [(.t 78), (.c (.w (.s (.int .u64 (.lit (.ofNat 0)))))), (.t 80)]), none⟩,
⟨(some 82), .p (.mv (.t 0)), none⟩,
⟨(some 83), .p (.build [.int .u64 (.lit (.ofNat 0)), .int .u64 (.lit (.ofNat 0))] [(0, 1, (.c (.w (.s (.int .u64 (.lit (.ofNat 2))))))), (1, 1, (.c (.w (.s (.int .u64 (.lit (.ofNat 5000)))))))]), none⟩,
⟨(some 84), .m (.bslice 97 1 [.int .u64 (.lit (.ofNat 0)), .int .u64 (.lit (.ofNat 0))] [(0, 2, (.t 83))]), none⟩,
⟨(some 85), .b (.call 42 [(.t 82), (.c (.w (.s (.int .u64 (.lit (.ofNat 0)))))), (.t 84)]), none⟩,
⟨(some 86), .p (.mv (.t 0)), none⟩,
⟨(some 87), .p (.build [.int .u64 (.lit (.ofNat 0)), .int .u64 (.lit (.ofNat 0))] [(0, 1, (.c (.w (.s (.int .u64 (.lit (.ofNat 2))))))), (1, 1, (.c (.w (.s (.int .u64 (.lit (.ofNat 25000)))))))]), none⟩,
⟨(some 88), .m (.bslice 97 1 [.int .u64 (.lit (.ofNat 0)), .int .u64 (.lit (.ofNat 0))] [(0, 2, (.t 87))]), none⟩,
⟨(some 89), .b (.call 42 [(.t 86), (.c (.w (.s (.int .u64 (.lit (.ofNat 0)))))), (.t 88)]), none⟩,
⟨(some 90), .p (.mv (.t 0)), none⟩,
⟨(some 91), .p (.build [.int .u64 (.lit (.ofNat 0)), .int .u64 (.lit (.ofNat 0))] [(0, 1, (.c (.w (.s (.int .u64 (.lit (.ofNat 10))))))), (1, 1, (.c (.w (.s (.int .u64 (.lit (.ofNat 0)))))))]), none⟩,
⟨(some 92), .m (.bslice 97 1 [.int .u64 (.lit (.ofNat 0)), .int .u64 (.lit (.ofNat 0))] [(0, 2, (.t 91))]), none⟩,
⟨(some 93), .b (.call 42 [(.t 90), (.c (.w (.s (.int .u64 (.lit (.ofNat 24000)))))), (.t 92)]), none⟩,
⟨(some 94), .p (.mv (.t 0)), none⟩,
⟨(some 95), .p (.build [.int .u64 (.lit (.ofNat 0)), .int .u64 (.lit (.ofNat 0))] [(0, 1, (.c (.w (.s (.int .u64 (.lit (.ofNat 3))))))), (1, 1, (.c (.w (.s (.int .u64 (.lit (.ofNat 50)))))))]), none⟩,
⟨(some 96), .m (.bslice 97 1 [.int .u64 (.lit (.ofNat 0)), .int .u64 (.lit (.ofNat 0))] [(0, 2, (.t 95))]), none⟩,
⟨(some 97), .b (.call 42 [(.t 94), (.c (.w (.s (.int .u64 (.lit (.ofNat 10)))))), (.t 96)]), none⟩,
⟨(some 98), .p (.mv (.t 0)), none⟩,
⟨(some 99), .p (.build [.int .u64 (.lit (.ofNat 0)), .int .u64 (.lit (.ofNat 0))] [(0, 1, (.c (.w (.s (.int .u64 (.lit (.ofNat 10))))))), (1, 1, (.c (.w (.s (.int .u64 (.lit (.ofNat 4800)))))))]), none⟩,
⟨(some 100), .m (.bslice 97 1 [.int .u64 (.lit (.ofNat 0)), .int .u64 (.lit (.ofNat 0))] [(0, 2, (.t 99))]), none⟩,
⟨(some 101), .b (.call 42 [(.t 98), (.c (.w (.s (.int .u64 (.lit (.ofNat 15000)))))), (.t 100)]), none⟩,
⟨(some 102), .p (.mv (.t 0)), none⟩,
⟨(some 103), .p (.build [.int .u64 (.lit (.ofNat 0)), .int .u64 (.lit (.ofNat 0))] [(0, 1, (.c (.w (.s (.int .u64 (.lit (.ofNat 10))))))), (1, 1, (.c (.w (.s (.int .u64 (.lit (.ofNat 5)))))))]), none⟩,
⟨(some 104), .m (.bslice 97 1 [.int .u64 (.lit (.ofNat 0)), .int .u64 (.lit (.ofNat 0))] [(0, 2, (.t 103))]), none⟩,
⟨(some 105), .b (.call 42 [(.t 102), (.c (.w (.s (.int .u64 (.lit (.ofNat 2)))))), (.t 104)]), none⟩,
⟨(some 106), .p (.mv (.t 0)), none⟩,
⟨(some 107), .p (.build [.int .u64 (.lit (.ofNat 0)), .int .u64 (.lit (.ofNat 0))] [(0, 1, (.c (.w (.s (.int .u64 (.lit (.ofNat 4))))))), (1, 1, (.c (.w (.s (.int .u64 (.lit (.ofNat 3000000000000000000)))))))]), none⟩,
⟨(some 108), .p (.build [.int .u64 (.lit (.ofNat 0)), .int .u64 (.lit (.ofNat 0))] [(0, 1, (.c (.w (.s (.int .u64 (.lit (.ofNat 5))))))), (1, 1, (.c (.w (.s (.int .u64 (.lit (.ofNat 2000000000000000000)))))))]), none⟩,
⟨(some 109), .p (.build [.int .u64 (.lit (.ofNat 0)), .int .u64 (.lit (.ofNat 0))] [(0, 1, (.c (.w (.s (.int .u64 (.lit (.ofNat 13))))))), (1, 1, (.c (.w (.s (.int .u64 (.lit (.ofNat 0)))))))]), none⟩,
⟨(some 110), .m (.bslice 97 3 [.int .u64 (.lit (.ofNat 0)), .int .u64 (.lit (.ofNat 0))] [(0, 2, (.t 107)), (2, 2, (.t 108)), (4, 2, (.t 109))]), none⟩,
⟨(some 111), .b (.call 42 [(.t 106), (.c (.w (.s (.int .u64 (.lit (.ofNat 5000000000000000000)))))), (.t 110)]), none⟩,
⟨(some 112), .p (.mv (.t 0)), none⟩,
⟨(some 113), .p (.build [.int .u64 (.lit (.ofNat 0)), .int .u64 (.lit (.ofNat 0))] [(0, 1, (.c (.w (.s (.int .u64 (.lit (.ofNat 4))))))), (1, 1, (.c (.w (.s (.int .u64 (.lit (.ofNat 3000000)))))))]), none⟩,
⟨(some 114), .p (.build [.int .u64 (.lit (.ofNat 0)), .int .u64 (.lit (.ofNat 0))] [(0, 1, (.c (.w (.s (.int .u64 (.lit (.ofNat 5))))))), (1, 1, (.c (.w (.s (.int .u64 (.lit (.ofNat 5000000)))))))]), none⟩,
⟨(some 115), .p (.build [.int .u64 (.lit (.ofNat 0)), .int .u64 (.lit (.ofNat 0))] [(0, 1, (.c (.w (.s (.int .u64 (.lit (.ofNat 8))))))), (1, 1, (.c (.w (.s (.int .u64 (.lit (.ofNat 9000000)))))))]), none⟩,
⟨(some 116), .p (.build [.int .u64 (.lit (.ofNat 0)), .int .u64 (.lit (.ofNat 0))] [(0, 1, (.c (.w (.s (.int .u64 (.lit (.ofNat 10))))))), (1, 1, (.c (.w (.s (.int .u64 (.lit (.ofNat 9700000)))))))]), none⟩,
⟨(some 117), .p (.build [.int .u64 (.lit (.ofNat 0)), .int .u64 (.lit (.ofNat 0))] [(0, 1, (.c (.w (.s (.int .u64 (.lit (.ofNat 11))))))), (1, 1, (.c (.w (.s (.int .u64 (.lit (.ofNat 10700000)))))))]), none⟩,
⟨(some 118), .p (.build [.int .u64 (.lit (.ofNat 0)), .int .u64 (.lit (.ofNat 0))] [(0, 1, (.c (.w (.s (.int .u64 (.lit (.ofNat 12))))))), (1, 1, (.c (.w (.s (.int .u64 (.lit (.ofNat 11400000)))))))]), none⟩,
⟨(some 119), .p (.build [.int .u64 (.lit (.ofNat 0)), .int .u64 (.lit (.ofNat 0))] [(0, 1, (.c (.w (.s (.int .u64 (.lit (.ofNat 13))))))), (1, 1, (.c (.w (.s (.int .u64 (.lit (.ofNat 0)))))))]), none⟩,
⟨(some 120), .m (.bslice 97 7 [.int .u64 (.lit (.ofNat 0)), .int .u64 (.lit (.ofNat 0))] [(0, 2, (.t 113)), (2, 2, (.t 114)), (4, 2, (.t 115)), (6, 2, (.t 116)), (8, 2, (.t 117)), (10, 2, (.t 118)), (12, 2, (.t 119))]), none⟩,
⟨(some 121), .b (.call 42 [(.t 112), (.c (.w (.s (.int .u64 (.lit (.ofNat 0)))))), (.t 120)]), none⟩,
⟨(some 122), .p (.build [.int .i64 (.lit (.ofNat 0)), .int .u64 (.lit (.ofNat 0)), .int .u64 (.lit (.ofNat 0)), .int .u64 (.lit (.ofNat 0)), .int .u64 (.lit (.ofNat 0)), .int .u64 (.lit (.ofNat 0)), .int .u64 (.lit (.ofNat 0)), .int .u64 (.lit (.ofNat 0)), .int .i64 (.lit (.ofNat 0)), .int .i64 (.lit (.ofNat 0)), .int .u64 (.lit (.ofNat 0)), .int .u64 (.lit (.ofNat 0)), .int .u64 (.lit (.ofNat 0)), .int .u64 (.lit (.ofNat 0)), .int .u64 (.lit (.ofNat 0)), .int .u64 (.lit (.ofNat 0)), .int .u64 (.lit (.ofNat 0)), .int .u64 (.lit (.ofNat 0)), .int .u64 (.lit (.ofNat 0)), .int .u64 (.lit (.ofNat 0)), .int .u64 (.lit (.ofNat 0)), .int .u64 (.lit (.ofNat 0)), .int .u64 (.lit (.ofNat 0)), .int .u64 (.lit (.ofNat 0)), .int .u64 (.lit (.ofNat 0)), .int .u64 (.lit (.ofNat 0))] [(0, 1, (.t 11)), (1, 1, (.c (.w (.s (.int .u64 (.lit (.ofNat 21000))))))), (3, 1, (.c (.w (.s (.int .u64 (.lit (.ofNat 4))))))), (2, 1, (.t 15)), (4, 1, (.t 19)), (5, 1, (.t 23)), (6, 1, (.t 27)), (7, 1, (.t 31)), (8, 1, (.t 36)), (9, 1, (.t 41)), (10, 1, (.t 47)), (11, 1, (.t 52)), (12, 1, (.t 58)), (13, 1, (.t 64)), (14, 1, (.t 69)), (15, 1, (.t 73)), (16, 1, (.t 77)), (17, 1, (.t 81)), (18, 1, (.t 85)), (19, 1, (.t 89)), (20, 1, (.t 93)), (21, 1, (.t 97)), (22, 1, (.t 101)), (23, 1, (.t 105)), (24, 1, (.t 111)), (25, 1, (.t 121))]), none⟩,
⟨none, .b (.store 26 (.t 2) (.t 122)), none⟩,
⟨(some 3), .p (.mv (.c (.w (.s (.bool true))))), none⟩]) (.ret)))⟩
theorem fo22 : ∃ func code hint, FnOk Go.Proofs.Tryz.prog TT 22 fa22 func code hint := ⟨Go.Proofs.Tryz.f22, bodyOf Go.Proofs.Tryz.f22, hintL [], ⟨Go.Proofs.Tryz.func22, Go.Proofs.Tryz.call22, by kernel_rfl, by kernel_rfl, by kernel_rfl, by kernel_rfl⟩⟩
/- quarry/gas.Part -/
def fa23 : AFunc := ⟨37, [.tmp 6, .tmp 7], .seq (.reg [
⟨(some 3), .m (.box 49 (.t 0)), none⟩,
⟨(some 5), .m (.box 24 (.t 2)), none⟩,
⟨(some 6), .p (.mv (.c (.w (.s (.int .u64 (.lit (.ofNat 0))))))), none⟩,
⟨(some 7), .p (.mv (.c (.w (.s (.bool false))))), none⟩]) (.seq (.reg [
⟨(some 12), .r (.load (some 4) (.t 5)), none⟩,
⟨(some 13), .b (.call 43 [(.t 12)]), none⟩,
⟨(some 11), .p (.mv (.t 13)), none⟩,
⟨(some 14), .p (.ext (.t 11) 0), none⟩,
⟨(some 15), .p (.ext (.t 11) 1), none⟩,
⟨(some 8), .p (.mv (.t 14)), none⟩,
⟨(some 9), .p (.mv (.t 15)), none⟩]) (.seq (.seq (.reg [
⟨(some 16), .p (.faddr 0 (.t 3)), none⟩,
⟨(some 17), .r (.load none (.t 16)), none⟩,
⟨(some 18), .b (.cmp 2 .int (.t 17) (.c (.w (.s (.int .i64 (.lit (.ofNat 2))))))), none⟩]) (.cond (.t 18) (.seq (.seq (.reg [
⟨(some 19), .p (.mv (.t 9)), none⟩,
⟨(some 20), .p (.not (.t 19)), none⟩,
⟨(some 21), .p (.mv (.t 20)), none⟩,
⟨(some 22), .p (.mv (.t 8)), some (21, false)⟩,
⟨(some 23), .p (.mv (.t 1)), some (21, false)⟩,
⟨(some 24), .b (.cmp 4 .int (.t 22) (.t 23)), some (21, false)⟩,
⟨(some 25), .p (.pick (.t 21) (.c (.w (.s (.bool true)))) (.t 24)), none⟩]) (.cond (.t 25) (.seq (.reg [
⟨(some 6), .p (.mv (.c (.w (.s (.int .u64 (.lit (.ofNat 0))))))), none⟩,
⟨(some 7), .p (.mv (.c (.w (.s (.bool false))))), none⟩]) (.ret)) (.skip))) (.seq (.reg [
⟨(some 26), .p (.mv (.t 8)), none⟩,
⟨(some 6), .p (.mv (.t 26)), none⟩,
⟨(some 7), .p (.mv (.c (.w (.s (.bool true))))), none⟩]) (.ret))) (.skip))) (.seq (.reg [
⟨(some 27), .p (.mv (.t 1)), none⟩,
⟨(some 28), .p (.mv (.t 1)), none⟩,
⟨(some 29), .p (.dv (.t 28) (.c (.w (.s (.int .u64 (.lit (.ofNat 64))))))), none⟩,
⟨(some 30), .p (.ar 1 (.t 27) (.t 29)), none⟩,
⟨(some 10), .p (.mv (.t 30)), none⟩]) (.seq (.seq (.reg [
⟨(some 31), .p (.mv (.t 9)), none⟩,
⟨(some 32), .p (.not (.t 31)), none⟩]) (.cond (.t 32) (.seq (.reg [
⟨(some 33), .p (.mv (.t 10)), none⟩,
⟨(some 6), .p (.mv (.t 33)), none⟩,
⟨(some 7), .p (.mv (.c (.w (.s (.bool true))))), none⟩]) (.ret)) (.skip))) (.seq (.reg [
⟨(some 34), .p (.mv (.t 8)), none⟩,
⟨(some 35), .p (.mv (.t 10)), none⟩,
⟨(some 36), .b (.mm false (.t 34) (.t 35)), none⟩,
⟨(some 6), .p (.mv (.t 36)), none⟩,
⟨(some 7), .p (.mv (.c (.w (.s (.bool true))))), none⟩]) (.ret))))))⟩
theorem fo23 : ∃ func code hint, FnOk Go.Proofs.Tryz.prog TT 23 fa23 func code hint := ⟨Go.Proofs.Tryz.f23, bodyOf Go.Proofs.Tryz.f23, hintL [], ⟨Go.Proofs.Tryz.func23, Go.Proofs.Tryz.call23, by kernel_rfl, by kernel_rfl, by kernel_rfl, by kernel_rfl⟩⟩
/- quarry/word.Bytes -/
def fa24 : AFunc := ⟨24, [.cell 2 (some 32)], .seq (.reg [
⟨(some 1), .m (.box 24 (.t 0)), none⟩,
⟨(some 2), .m (.alloc 54 (lrep (.int .u8 (.lit (.ofNat 0))) 32)), none⟩]) (.seq (.reg [
⟨(some 3), .m (.alloc 54 (lrep (.int .u8 (.lit (.ofNat 0))) 32)), none⟩]) (.seq (.seq (.reg [
⟨(some 6), .p (.mv (.c (.w (.s (.int .i64 (.lit (.ofNat 0))))))), none⟩]) (.block 0 (.loop (.seq (.reg [
⟨(some 7), .b (.cmp 2 .int (.t 6) (.c (.w (.s (.int .i64 (.lit (.ofNat 32))))))), none⟩]) (.seq (.cond (.t 7) (.skip) (.exit 0)) (.seq (.block 1 (.seq (.reg [
⟨(some 8), .p (.mv (.t 6)), none⟩,
⟨(some 4), .p (.mv (.t 8)), none⟩]) (.seq (.reg [
⟨(some 9), .p (.mv (.t 4)), none⟩,
⟨(some 10), .p (.ar 1 (.c (.w (.s (.int .i64 (.lit (.ofNat 31)))))) (.t 9)), none⟩,
⟨(some 5), .p (.mv (.t 10)), none⟩]) (.reg [
⟨(some 11), .p (.mv (.t 4)), none⟩,
⟨(some 12), .p (.mv (.t 5)), none⟩,
⟨(some 13), .p (.dv (.t 12) (.c (.w (.s (.int .i64 (.lit (.ofNat 8))))))), none⟩,
⟨(some 14), .p (.iaddrA 4 1 (.t 1) (.t 13)), none⟩,
⟨(some 15), .r (.load none (.t 14)), none⟩,
⟨(some 16), .p (.mv (.t 5)), none⟩,
⟨(some 17), .p (.md (.t 16) (.c (.w (.s (.int .i64 (.lit (.ofNat 8))))))), none⟩,
⟨(some 18), .p (.ar 2 (.t 17) (.c (.w (.s (.int .i64 (.lit (.ofNat 8))))))), none⟩,
⟨(some 19), .p (.sr (.t 15) (.t 18)), none⟩,
⟨(some 20), .p (.conv .u8 (.t 19)), none⟩,
⟨(some 21), .p (.iaddrA 32 1 (.t 3) (.t 11)), none⟩,
⟨none, .b (.store 1 (.t 21) (.t 20)), none⟩])))) (.reg [
⟨(some 22), .p (.ar 0 (.t 6) (.c (.w (.s (.int .i64 (.lit (.ofNat 1))))))), none⟩,
⟨(some 6), .p (.mv (.t 22)), none⟩]))))))) (.seq (.reg [
⟨(some 23), .r (.load (some 32) (.t 3)), none⟩,
⟨none, .b (.store 32 (.t 2) (.t 23)), none⟩]) (.ret))))⟩
theorem fo24 : ∃ func code hint, FnOk Go.Proofs.Tryz.prog TT 24 fa24 func code hint := ⟨Go.Proofs.Tryz.f24, bodyOf Go.Proofs.Tryz.f24, hintL [], ⟨Go.Proofs.Tryz.func24, Go.Proofs.Tryz.call24, by kernel_rfl, by kernel_rfl, by kernel_rfl, by kernel_rfl⟩⟩
/- quarry/quarrylaw19.is -/
def fa25 : AFunc := ⟨13, [.tmp 4], .seq (.reg [
⟨(some 3), .m (.box 24 (.t 1)), none⟩,
⟨(some 4), .p (.mv (.c (.w (.s (.bool false))))), none⟩]) (.seq (.reg [
⟨(some 6), .r (.load (some 4) (.t 3)), none⟩,
⟨(some 7), .b (.call 24 [(.t 6)]), none⟩,
⟨(some 5), .m (.alloc 54 (lrep (.int .u8 (.lit (.ofNat 0))) 32)), none⟩,
⟨none, .b (.store 32 (.t 5) (.t 7)), none⟩]) (.seq (.draw [
⟨0, ⟨(some 8), .p (.mv (.t 0)), none⟩, 0, 0⟩,
⟨1, ⟨(some 9), .r (.cstr (.t 8)), none⟩, 1, 0⟩,
⟨2, ⟨(some 10), .p (.aslice 32 1 (.t 5) none none), none⟩, 0, 0⟩,
⟨3, ⟨(some 11), .r (.cstr (.t 10)), none⟩, 4, 0⟩,
⟨4, ⟨(some 12), .b (.cmp 0 .str (.t 9) (.t 11)), none⟩, 15, 0⟩,
⟨5, ⟨(some 4), .p (.mv (.t 12)), none⟩, 31, 0⟩]) (.ret)))⟩
theorem fo25 : ∃ func code hint, FnOk Go.Proofs.Tryz.prog TT 25 fa25 func code hint := ⟨Go.Proofs.Tryz.f25, bodyOf Go.Proofs.Tryz.f25, hintL [(2, [(0, 0), (1, 0), (2, 0), (3, 0), (4, 0), (5, 0)])], ⟨Go.Proofs.Tryz.func25, Go.Proofs.Tryz.call25, by kernel_rfl, by kernel_rfl, by kernel_rfl, by kernel_rfl⟩⟩
/- (*quarry/state.State).Stored -/
def fa26 : AFunc := ⟨13, [.tmp 4], .seq (.reg [
⟨(some 3), .m (.box 30 (.t 1)), none⟩,
⟨(some 4), .p (.mv (.c (.w (.s (.bool false))))), none⟩]) (.seq (.reg [
⟨(some 5), .p (.mv (.t 0)), none⟩,
⟨(some 6), .r (.load (some 20) (.t 3)), none⟩,
⟨(some 7), .b (.call 41 [(.t 5), (.t 6)]), none⟩,
⟨(some 8), .p (.nilCheck (.t 7)), none⟩,
⟨(some 9), .p (.faddr 6 (.t 8)), none⟩,
⟨(some 10), .r (.load none (.t 9)), none⟩,
⟨(some 11), .r (.mlen (.t 10)), none⟩,
⟨(some 12), .b (.cmp 4 .int (.t 11) (.c (.w (.s (.int .i64 (.lit (.ofNat 0))))))), none⟩,
⟨(some 4), .p (.mv (.t 12)), none⟩]) (.ret))⟩
theorem fo26 : ∃ func code hint, FnOk Go.Proofs.Tryz.prog TT 26 fa26 func code hint := ⟨Go.Proofs.Tryz.f26, bodyOf Go.Proofs.Tryz.f26, hintL [], ⟨Go.Proofs.Tryz.func26, Go.Proofs.Tryz.call26, by kernel_rfl, by kernel_rfl, by kernel_rfl, by kernel_rfl⟩⟩
/- (*quarry/state.State).Transient -/
def fa27 : AFunc := ⟨16, [.cell 6 (some 4)], .seq (.reg [
⟨(some 4), .m (.box 30 (.t 1)), none⟩,
⟨(some 5), .m (.box 24 (.t 2)), none⟩,
⟨(some 6), .m (.alloc 24 [.int .u64 (.lit (.ofNat 0)), .int .u64 (.lit (.ofNat 0)), .int .u64 (.lit (.ofNat 0)), .int .u64 (.lit (.ofNat 0))]), none⟩]) (.seq (.draw [
⟨0, ⟨(some 7), .p (.mv (.t 0)), none⟩, 0, 0⟩,
⟨1, ⟨(some 8), .p (.nilCheck (.t 7)), none⟩, 1, 0⟩,
⟨2, ⟨(some 9), .p (.faddr 1 (.t 8)), none⟩, 3, 0⟩,
⟨3, ⟨(some 10), .p (.faddr 5 (.t 9)), none⟩, 7, 0⟩,
⟨4, ⟨(some 11), .r (.load none (.t 10)), none⟩, 15, 0⟩,
⟨5, ⟨(some 12), .r (.load (some 20) (.t 4)), none⟩, 0, 0⟩,
⟨6, ⟨(some 13), .r (.load (some 4) (.t 5)), none⟩, 0, 0⟩,
⟨7, ⟨(some 14), .p (.build [.int .u8 (.lit (.ofNat 0)), .int .u8 (.lit (.ofNat 0)), .int .u8 (.lit (.ofNat 0)), .int .u8 (.lit (.ofNat 0)), .int .u8 (.lit (.ofNat 0)), .int .u8 (.lit (.ofNat 0)), .int .u8 (.lit (.ofNat 0)), .int .u8 (.lit (.ofNat 0)), .int .u8 (.lit (.ofNat 0)), .int .u8 (.lit (.ofNat 0)), .int .u8 (.lit (.ofNat 0)), .int .u8 (.lit (.ofNat 0)), .int .u8 (.lit (.ofNat 0)), .int .u8 (.lit (.ofNat 0)), .int .u8 (.lit (.ofNat 0)), .int .u8 (.lit (.ofNat 0)), .int .u8 (.lit (.ofNat 0)), .int .u8 (.lit (.ofNat 0)), .int .u8 (.lit (.ofNat 0)), .int .u8 (.lit (.ofNat 0)), .int .u64 (.lit (.ofNat 0)), .int .u64 (.lit (.ofNat 0)), .int .u64 (.lit (.ofNat 0)), .int .u64 (.lit (.ofNat 0))] [(0, 20, (.t 12)), (20, 4, (.t 13))]), none⟩, 96, 0⟩,
⟨8, ⟨(some 15), .r (.lookup (.str [(0, 30, .arr 20 5 .u8), (20, 24, .arr 4 22 .u64)]) (.agg [.int .u64 (.lit (.ofNat 0)), .int .u64 (.lit (.ofNat 0)), .int .u64 (.lit (.ofNat 0)), .int .u64 (.lit (.ofNat 0))]) (.t 11) (.t 14) false), none⟩, 255, 0⟩,
⟨9, ⟨none, .b (.store 4 (.t 6) (.t 15)), none⟩, 511, 0⟩]) (.ret))⟩
theorem fo27 : ∃ func code hint, FnOk Go.Proofs.Tryz.prog TT 27 fa27 func code hint := ⟨Go.Proofs.Tryz.f27, bodyOf Go.Proofs.Tryz.f27, hintL [(1, [(0, 0), (1, 0), (2, 0), (3, 0), (4, 0), (5, 0), (6, 0), (7, 0), (8, 0), (9, 0)])], ⟨Go.Proofs.Tryz.func27, Go.Proofs.Tryz.call27, by kernel_rfl, by kernel_rfl, by kernel_rfl, by kernel_rfl⟩⟩
/- quarry/quarrylaw19.addr -/
def fa28 : AFunc := ⟨11, [.cell 2 (some 4)], .seq (.reg [
⟨(some 1), .m (.box 30 (.t 0)), none⟩,
⟨(some 2), .m (.alloc 24 [.int .u64 (.lit (.ofNat 0)), .int .u64 (.lit (.ofNat 0)), .int .u64 (.lit (.ofNat 0)), .int .u64 (.lit (.ofNat 0))]), none⟩]) (.seq (.reg [
⟨(some 6), .p (.aslice 20 1 (.t 1) none none), none⟩,
⟨(some 7), .b (.call 21 [(.t 6)]), none⟩,
⟨(some 5), .p (.mv (.t 7)), none⟩,
⟨(some 8), .p (.ext (.t 5) 0), none⟩,
⟨(some 9), .p (.ext (.t 5) 1), none⟩,
⟨(some 3), .m (.alloc 24 [.int .u64 (.lit (.ofNat 0)), .int .u64 (.lit (.ofNat 0)), .int .u64 (.lit (.ofNat 0)), .int .u64 (.lit (.ofNat 0))]), none⟩,
⟨none, .b (.store 4 (.t 3) (.t 8)), none⟩,
⟨(some 4), .p (.mv (.t 9)), none⟩]) (.seq (.reg [
⟨(some 10), .r (.load (some 4) (.t 3)), none⟩,
⟨none, .b (.store 4 (.t 2) (.t 10)), none⟩]) (.ret)))⟩
theorem fo28 : ∃ func code hint, FnOk Go.Proofs.Tryz.prog TT 28 fa28 func code hint := ⟨Go.Proofs.Tryz.f28, bodyOf Go.Proofs.Tryz.f28, hintL [], ⟨Go.Proofs.Tryz.func28, Go.Proofs.Tryz.call28, by kernel_rfl, by kernel_rfl, by kernel_rfl, by kernel_rfl⟩⟩
/- quarry/word.Of -/
def fa30 : AFunc := ⟨5, [.cell 2 (some 4)], .seq (.reg [
⟨(some 2), .m (.alloc 24 [.int .u64 (.lit (.ofNat 0)), .int .u64 (.lit (.ofNat 0)), .int .u64 (.lit (.ofNat 0)), .int .u64 (.lit (.ofNat 0))]), none⟩]) (.seq (.reg [
⟨(some 3), .p (.mv (.t 0)), none⟩,
⟨(some 4), .p (.build [.int .u64 (.lit (.ofNat 0)), .int .u64 (.lit (.ofNat 0)), .int .u64 (.lit (.ofNat 0)), .int .u64 (.lit (.ofNat 0))] [(0, 1, (.t 3))]), none⟩,
⟨none, .b (.store 4 (.t 2) (.t 4)), none⟩]) (.ret))⟩
theorem fo30 : ∃ func code hint, FnOk Go.Proofs.Tryz.prog TT 30 fa30 func code hint := ⟨Go.Proofs.Tryz.f30, bodyOf Go.Proofs.Tryz.f30, hintL [], ⟨Go.Proofs.Tryz.func30, Go.Proofs.Tryz.call30, by kernel_rfl, by kernel_rfl, by kernel_rfl, by kernel_rfl⟩⟩
/- quarry/state.Load -/
def fa31 : AFunc := ⟨70, [.tmp 2, .tmp 3], .seq (.reg [
⟨(some 2), .p (.mv (.c (.w (.s (.nilp))))), none⟩,
⟨(some 3), .p (.mv (.c (.w (.s (.int .i64 (.lit (.ofNat 0))))))), none⟩]) (.seq (.reg [
⟨(some 10), .b (.call 44 []), none⟩,
⟨(some 4), .p (.mv (.t 10)), none⟩]) (.seq (.seq (.reg [
⟨(some 11), .p (.mv (.t 0)), none⟩,
⟨(some 12), .p (.len (.t 11)), none⟩,
⟨(some 13), .p (.mv (.c (.w (.s (.int .i64 (.lit (.ofNat 0))))))), none⟩]) (.block 0 (.loop (.seq (.reg [
⟨(some 14), .b (.cmp 2 .int (.t 13) (.t 12)), none⟩]) (.seq (.cond (.t 14) (.skip) (.exit 0)) (.seq (.block 1 (.seq (.reg [
⟨(some 15), .p (.iaddrS 27 (.t 11) (.t 13)), none⟩,
⟨(some 16), .r (.load (some 27) (.t 15)), none⟩,
⟨(some 6), .m (.alloc 63 [.int .u8 (.lit (.ofNat 0)), .int .u8 (.lit (.ofNat 0)), .int .u8 (.lit (.ofNat 0)), .int .u8 (.lit (.ofNat 0)), .int .u8 (.lit (.ofNat 0)), .int .u8 (.lit (.ofNat 0)), .int .u8 (.lit (.ofNat 0)), .int .u8 (.lit (.ofNat 0)), .int .u8 (.lit (.ofNat 0)), .int .u8 (.lit (.ofNat 0)), .int .u8 (.lit (.ofNat 0)), .int .u8 (.lit (.ofNat 0)), .int .u8 (.lit (.ofNat 0)), .int .u8 (.lit (.ofNat 0)), .int .u8 (.lit (.ofNat 0)), .int .u8 (.lit (.ofNat 0)), .int .u8 (.lit (.ofNat 0)), .int .u8 (.lit (.ofNat 0)), .int .u8 (.lit (.ofNat 0)), .int .u8 (.lit (.ofNat 0)), .int .u64 (.lit (.ofNat 0)), .int .u64 (.lit (.ofNat 0)), .int .u64 (.lit (.ofNat 0)), .int .u64 (.lit (.ofNat 0)), .int .u64 (.lit (.ofNat 0)), .nils, .nils]), none⟩,
⟨none, .b (.store 27 (.t 6) (.t 16)), none⟩]) (.seq (.seq (.reg [
⟨(some 17), .p (.mv (.t 4)), none⟩,
⟨(some 18), .p (.faddr 0 (.t 6)), none⟩,
⟨(some 19), .r (.load (some 20) (.t 18)), none⟩,
⟨(some 20), .b (.call 38 [(.t 17), (.t 19)]), none⟩]) (.cond (.t 20) (.seq (.reg [
⟨(some 2), .p (.mv (.c (.w (.s (.nilp))))), none⟩,
⟨(some 3), .p (.mv (.c (.w (.s (.int .i64 (.lit (.ofNat 9))))))), none⟩]) (.ret)) (.skip))) (.seq (.draw [
⟨0, ⟨(some 21), .p (.faddr 20 (.t 6)), none⟩, 0, 0⟩,
⟨1, ⟨(some 22), .r (.load none (.t 21)), none⟩, 1, 0⟩,
⟨2, ⟨(some 23), .p (.faddr 21 (.t 6)), none⟩, 0, 0⟩,
⟨3, ⟨(some 24), .r (.load (some 4) (.t 23)), none⟩, 4, 0⟩,
⟨4, ⟨(some 25), .p (.faddr 25 (.t 6)), none⟩, 0, 0⟩,
⟨5, ⟨(some 26), .r (.load none (.t 25)), none⟩, 16, 0⟩,
⟨7, ⟨(some 28), .m (.mkmap), none⟩, 0, 1024⟩,
⟨6, ⟨(some 27), .b (.call 45 [(.t 26)]), none⟩, 48, 0⟩,
⟨8, ⟨(some 29), .p (.build [.int .u64 (.lit (.ofNat 0)), .int .u64 (.lit (.ofNat 0)), .int .u64 (.lit (.ofNat 0)), .int .u64 (.lit (.ofNat 0)), .int .u64 (.lit (.ofNat 0)), .nils, .nilm] [(0, 1, (.t 22)), (1, 4, (.t 24)), (5, 1, (.t 27)), (6, 1, (.t 28))]), none⟩, 255, 0⟩,
⟨9, ⟨(some 30), .m (.box 93 (.t 29)), none⟩, 511, 1025⟩,
⟨10, ⟨(some 7), .p (.mv (.t 30)), none⟩, 1023, 0⟩]) (.seq (.seq (.reg [
⟨(some 31), .p (.faddr 26 (.t 6)), none⟩,
⟨(some 32), .r (.load none (.t 31)), none⟩,
⟨(some 33), .p (.len (.t 32)), none⟩,
⟨(some 34), .p (.mv (.c (.w (.s (.int .i64 (.lit (.ofNat 0))))))), none⟩]) (.block 2 (.loop (.seq (.reg [
⟨(some 35), .b (.cmp 2 .int (.t 34) (.t 33)), none⟩]) (.seq (.cond (.t 35) (.skip) (.exit 2)) (.seq (.block 3 (.seq (.reg [
⟨(some 36), .p (.iaddrS 8 (.t 32) (.t 34)), none⟩,
⟨(some 37), .r (.load (some 8) (.t 36)), none⟩,
⟨(some 9), .m (.alloc 65 [.int .u64 (.lit (.ofNat 0)), .int .u64 (.lit (.ofNat 0)), .int .u64 (.lit (.ofNat 0)), .int .u64 (.lit (.ofNat 0)), .int .u64 (.lit (.ofNat 0)), .int .u64 (.lit (.ofNat 0)), .int .u64 (.lit (.ofNat 0)), .int .u64 (.lit (.ofNat 0))]), none⟩,
⟨none, .b (.store 8 (.t 9) (.t 37)), none⟩]) (.draw [
⟨0, ⟨(some 38), .p (.mv (.t 7)), none⟩, 0, 0⟩,
⟨1, ⟨(some 39), .p (.nilCheck (.t 38)), none⟩, 1, 0⟩,
⟨2, ⟨(some 40), .p (.faddr 6 (.t 39)), none⟩, 3, 0⟩,
⟨3, ⟨(some 41), .r (.load none (.t 40)), none⟩, 7, 0⟩,
⟨4, ⟨(some 42), .p (.faddr 0 (.t 9)), none⟩, 0, 0⟩,
⟨5, ⟨(some 43), .r (.load (some 4) (.t 42)), none⟩, 16, 0⟩,
⟨6, ⟨(some 44), .p (.faddr 4 (.t 9)), none⟩, 0, 0⟩,
⟨7, ⟨(some 45), .r (.load (some 4) (.t 44)), none⟩, 64, 0⟩,
⟨8, ⟨none, .b (.mupd (.one (.arr 4 22 .u64)) (.t 41) (.t 43) (.t 45)), none⟩, 255, 0⟩]))) (.reg [
⟨(some 46), .p (.ar 0 (.t 34) (.c (.w (.s (.int .i64 (.lit (.ofNat 1))))))), none⟩,
⟨(some 34), .p (.mv (.t 46)), none⟩]))))))) (.seq (.seq (.draw [
⟨0, ⟨(some 47), .p (.mv (.t 7)), none⟩, 0, 0⟩,
⟨1, ⟨(some 48), .p (.nilCheck (.t 47)), none⟩, 1, 0⟩,
⟨2, ⟨(some 49), .p (.faddr 6 (.t 48)), none⟩, 3, 0⟩,
⟨3, ⟨(some 50), .r (.load none (.t 49)), none⟩, 7, 0⟩,
⟨4, ⟨(some 51), .r (.mlen (.t 50)), none⟩, 15, 0⟩,
⟨5, ⟨(some 52), .p (.faddr 26 (.t 6)), none⟩, 0, 0⟩,
⟨6, ⟨(some 53), .r (.load none (.t 52)), none⟩, 32, 0⟩,
⟨7, ⟨(some 54), .p (.len (.t 53)), none⟩, 96, 0⟩,
⟨8, ⟨(some 55), .b (.cmp 1 .int (.t 51) (.t 54)), none⟩, 255, 0⟩]) (.cond (.t 55) (.seq (.reg [
⟨(some 2), .p (.mv (.c (.w (.s (.nilp))))), none⟩,
⟨(some 3), .p (.mv (.c (.w (.s (.int .i64 (.lit (.ofNat 9))))))), none⟩]) (.ret)) (.skip))) (.seq (.reg [
⟨(some 56), .p (.mv (.t 7)), none⟩,
⟨(some 57), .p (.nilCheck (.t 56)), none⟩,
⟨(some 58), .p (.faddr 6 (.t 57)), none⟩,
⟨(some 59), .r (.load none (.t 58)), none⟩,
⟨(some 60), .b (.call 46 [(.t 59), (.c (.w (.s (.fn 47 []))))]), none⟩]) (.draw [
⟨0, ⟨(some 61), .p (.mv (.t 4)), none⟩, 0, 0⟩,
⟨1, ⟨(some 62), .p (.nilCheck (.t 61)), none⟩, 1, 0⟩,
⟨2, ⟨(some 63), .p (.faddr 0 (.t 62)), none⟩, 3, 0⟩,
⟨3, ⟨(some 64), .r (.load none (.t 63)), none⟩, 7, 0⟩,
⟨4, ⟨(some 65), .p (.faddr 0 (.t 6)), none⟩, 0, 0⟩,
⟨5, ⟨(some 66), .r (.load (some 20) (.t 65)), none⟩, 16, 0⟩,
⟨6, ⟨(some 67), .p (.mv (.t 7)), none⟩, 0, 0⟩,
⟨7, ⟨none, .b (.mupd (.one (.arr 20 5 .u8)) (.t 64) (.t 66) (.t 67)), none⟩, 127, 0⟩])))))))) (.reg [
⟨(some 68), .p (.ar 0 (.t 13) (.c (.w (.s (.int .i64 (.lit (.ofNat 1))))))), none⟩,
⟨(some 13), .p (.mv (.t 68)), none⟩]))))))) (.seq (.reg [
⟨(some 69), .p (.mv (.t 4)), none⟩,
⟨(some 2), .p (.mv (.t 69)), none⟩,
⟨(some 3), .p (.mv (.c (.w (.s (.int .i64 (.lit (.ofNat 0))))))), none⟩]) (.ret))))⟩
theorem fo31 : ∃ func code hint, FnOk Go.Proofs.Tryz.prog TT 31 fa31 func code hint := ⟨Go.Proofs.Tryz.f31, bodyOf Go.Proofs.Tryz.f31, hintL [(7, [(0, 0), (1, 0), (2, 0), (3, 0), (4, 0), (5, 0), (7, 1024), (6, 0), (8, 0), (9, 1025), (10, 0)]), (11, [(0, 0), (1, 0), (2, 0), (3, 0), (4, 0), (5, 0), (6, 0), (7, 0), (8, 0)]), (13, [(0, 0), (1, 0), (2, 0), (3, 0), (4, 0), (5, 0), (6, 0), (7, 0), (8, 0)]), (16, [(0, 0), (1, 0), (2, 0), (3, 0), (4, 0), (5, 0), (6, 0), (7, 0)])], ⟨Go.Proofs.Tryz.func31, Go.Proofs.Tryz.call31, by kernel_rfl, by kernel_rfl, by kernel_rfl, by kernel_rfl⟩⟩
/- quarry/vm.Run -/
def fa32 : AFunc := ⟨132, [.cell 10 (some 24), .tmp 11], .seq (.reg [
⟨(some 6), .m (.box 74 (.t 1)), none⟩,
⟨(some 7), .m (.box 76 (.t 2)), none⟩,
⟨(some 9), .m (.box 78 (.t 4)), none⟩,
⟨(some 10), .m (.alloc 39 [.int .i64 (.lit (.ofNat 0)), .nils, .int .u64 (.lit (.ofNat 0)), .int .u8 (.lit (.ofNat 0)), .int .u8 (.lit (.ofNat 0)), .int .u8 (.lit (.ofNat 0)), .int .u8 (.lit (.ofNat 0)), .int .u8 (.lit (.ofNat 0)), .int .u8 (.lit (.ofNat 0)), .int .u8 (.lit (.ofNat 0)), .int .u8 (.lit (.ofNat 0)), .int .u8 (.lit (.ofNat 0)), .int .u8 (.lit (.ofNat 0)), .int .u8 (.lit (.ofNat 0)), .int .u8 (.lit (.ofNat 0)), .int .u8 (.lit (.ofNat 0)), .int .u8 (.lit (.ofNat 0)), .int .u8 (.lit (.ofNat 0)), .int .u8 (.lit (.ofNat 0)), .int .u8 (.lit (.ofNat 0)), .int .u8 (.lit (.ofNat 0)), .int .u8 (.lit (.ofNat 0)), .int .u8 (.lit (.ofNat 0)), .int .u64 (.lit (.ofNat 0))]), none⟩,
⟨(some 11), .p (.mv (.c (.w (.s (.int .i64 (.lit (.ofNat 0))))))), none⟩]) (.seq (.reg [
⟨(some 22), .p (.mv (.t 0)), none⟩,
⟨(some 23), .b (.call 48 [(.t 22)]), none⟩,
⟨(some 21), .p (.mv (.t 23)), none⟩,
⟨(some 24), .p (.ext (.t 21) 0), none⟩,
⟨(some 25), .p (.ext (.t 21) 1), none⟩,
⟨(some 12), .m (.alloc 49 [.int .i64 (.lit (.ofNat 0)), .int .u64 (.lit (.ofNat 0)), .int .u64 (.lit (.ofNat 0)), .int .u64 (.lit (.ofNat 0)), .int .u64 (.lit (.ofNat 0)), .int .u64 (.lit (.ofNat 0)), .int .u64 (.lit (.ofNat 0)), .int .u64 (.lit (.ofNat 0)), .int .i64 (.lit (.ofNat 0)), .int .i64 (.lit (.ofNat 0)), .int .u64 (.lit (.ofNat 0)), .int .u64 (.lit (.ofNat 0)), .int .u64 (.lit (.ofNat 0)), .int .u64 (.lit (.ofNat 0)), .int .u64 (.lit (.ofNat 0)), .int .u64 (.lit (.ofNat 0)), .int .u64 (.lit (.ofNat 0)), .int .u64 (.lit (.ofNat 0)), .int .u64 (.lit (.ofNat 0)), .int .u64 (.lit (.ofNat 0)), .int .u64 (.lit (.ofNat 0)), .int .u64 (.lit (.ofNat 0)), .int .u64 (.lit (.ofNat 0)), .int .u64 (.lit (.ofNat 0)), .int .u64 (.lit (.ofNat 0)), .int .u64 (.lit (.ofNat 0))]), none⟩,
⟨none, .b (.store 26 (.t 12) (.t 24)), none⟩,
⟨(some 13), .p (.mv (.t 25)), none⟩]) (.seq (.seq (.reg [
⟨(some 26), .p (.mv (.t 13)), none⟩,
⟨(some 27), .b (.cmp 1 .int (.t 26) (.c (.w (.s (.int .i64 (.lit (.ofNat 0))))))), none⟩,
⟨(some 28), .p (.mv (.t 27)), none⟩,
⟨(some 29), .p (.mv (.t 3)), some (28, false)⟩,
⟨(some 30), .b (.cmp 0 .ptr (.t 29) (.c (.w (.s (.nilp))))), some (28, false)⟩,
⟨(some 31), .p (.pick (.t 28) (.c (.w (.s (.bool true)))) (.t 30)), none⟩,
⟨(some 32), .p (.mv (.t 31)), none⟩,
⟨(some 33), .p (.faddr 48 (.t 9)), some (32, false)⟩,
⟨(some 34), .r (.load none (.t 33)), some (32, false)⟩,
⟨(some 35), .b (.cmp 2 .int (.t 34) (.c (.w (.s (.int .i64 (.lit (.ofNat 0))))))), some (32, false)⟩,
⟨(some 36), .p (.pick (.t 32) (.c (.w (.s (.bool true)))) (.t 35)), none⟩,
⟨(some 37), .p (.mv (.t 36)), none⟩,
⟨(some 38), .p (.faddr 48 (.t 9)), some (37, false)⟩,
⟨(some 39), .r (.load none (.t 38)), some (37, false)⟩,
⟨(some 40), .b (.cmp 4 .int (.t 39) (.c (.w (.s (.int .i64 (.lit (.ofNat 1024))))))), some (37, false)⟩,
⟨(some 41), .p (.pick (.t 37) (.c (.w (.s (.bool true)))) (.t 40)), none⟩,
⟨(some 42), .p (.mv (.t 41)), none⟩,
⟨(some 43), .p (.faddr 46 (.t 9)), some (42, false)⟩,
⟨(some 44), .r (.load none (.t 43)), some (42, false)⟩,
⟨(some 45), .b (.cmp 4 .int (.t 44) (.c (.w (.s (.int .u64 (.lit (.ofNat 9223372036854775807))))))), some (42, false)⟩,
⟨(some 46), .p (.pick (.t 42) (.c (.w (.s (.bool true)))) (.t 45)), none⟩,
⟨(some 47), .p (.mv (.t 46)), none⟩,
⟨(some 48), .p (.faddr 36 (.t 6)), some (47, false)⟩,
⟨(some 49), .r (.load none (.t 48)), some (47, false)⟩,
⟨(some 50), .p (.len (.t 49)), some (47, false)⟩,
⟨(some 51), .b (.cmp 4 .int (.t 50) (.c (.w (.s (.int .i64 (.lit (.ofNat 256))))))), some (47, false)⟩,
⟨(some 52), .p (.pick (.t 47) (.c (.w (.s (.bool true)))) (.t 51)), none⟩,
⟨(some 53), .p (.mv (.t 52)), none⟩,
⟨(some 54), .p (.faddr 0 (.t 9)), some (53, false)⟩,
⟨(some 55), .r (.load none (.t 54)), some (53, false)⟩,
⟨(some 56), .p (.mv (.t 55)), some (53, false)⟩,
⟨(some 57), .p (.faddr 47 (.t 9)), some (56, true)⟩,
⟨(some 58), .r (.load none (.t 57)), some (56, true)⟩,
⟨(some 59), .p (.pick (.t 56) (.t 58) (.c (.w (.s (.bool false))))), some (53, false)⟩,
⟨(some 60), .p (.pick (.t 53) (.c (.w (.s (.bool true)))) (.t 59)), none⟩]) (.cond (.t 60) (.seq (.reg [
⟨(some 61), .p (.build [.int .i64 (.lit (.ofNat 0)), .nils, .int .u64 (.lit (.ofNat 0)), .int .u8 (.lit (.ofNat 0)), .int .u8 (.lit (.ofNat 0)), .int .u8 (.lit (.ofNat 0)), .int .u8 (.lit (.ofNat 0)), .int .u8 (.lit (.ofNat 0)), .int .u8 (.lit (.ofNat 0)), .int .u8 (.lit (.ofNat 0)), .int .u8 (.lit (.ofNat 0)), .int .u8 (.lit (.ofNat 0)), .int .u8 (.lit (.ofNat 0)), .int .u8 (.lit (.ofNat 0)), .int .u8 (.lit (.ofNat 0)), .int .u8 (.lit (.ofNat 0)), .int .u8 (.lit (.ofNat 0)), .int .u8 (.lit (.ofNat 0)), .int .u8 (.lit (.ofNat 0)), .int .u8 (.lit (.ofNat 0)), .int .u8 (.lit (.ofNat 0)), .int .u8 (.lit (.ofNat 0)), .int .u8 (.lit (.ofNat 0)), .int .u64 (.lit (.ofNat 0))] []), none⟩,
⟨none, .b (.store 24 (.t 10) (.t 61)), none⟩,
⟨(some 11), .p (.mv (.c (.w (.s (.int .i64 (.lit (.ofNat 1))))))), none⟩]) (.ret)) (.skip))) (.seq (.reg [
⟨(some 62), .p (.mv (.t 0)), none⟩,
⟨(some 63), .r (.load (some 26) (.t 12)), none⟩,
⟨(some 64), .r (.load (some 37) (.t 6)), none⟩,
⟨(some 65), .r (.load (some 25) (.t 7)), none⟩,
⟨(some 66), .p (.mv (.t 3)), none⟩,
⟨(some 67), .p (.build [.int .i64 (.lit (.ofNat 0)), .int .i64 (.lit (.ofNat 0)), .int .u64 (.lit (.ofNat 0)), .int .u64 (.lit (.ofNat 0)), .int .u64 (.lit (.ofNat 0)), .int .u64 (.lit (.ofNat 0)), .int .u64 (.lit (.ofNat 0)), .int .u64 (.lit (.ofNat 0)), .int .u64 (.lit (.ofNat 0)), .int .i64 (.lit (.ofNat 0)), .int .i64 (.lit (.ofNat 0)), .int .u64 (.lit (.ofNat 0)), .int .u64 (.lit (.ofNat 0)), .int .u64 (.lit (.ofNat 0)), .int .u64 (.lit (.ofNat 0)), .int .u64 (.lit (.ofNat 0)), .int .u64 (.lit (.ofNat 0)), .int .u64 (.lit (.ofNat 0)), .int .u64 (.lit (.ofNat 0)), .int .u64 (.lit (.ofNat 0)), .int .u64 (.lit (.ofNat 0)), .int .u64 (.lit (.ofNat 0)), .int .u64 (.lit (.ofNat 0)), .int .u64 (.lit (.ofNat 0)), .int .u64 (.lit (.ofNat 0)), .int .u64 (.lit (.ofNat 0)), .int .u64 (.lit (.ofNat 0)), .int .u8 (.lit (.ofNat 0)), .int .u8 (.lit (.ofNat 0)), .int .u8 (.lit (.ofNat 0)), .int .u8 (.lit (.ofNat 0)), .int .u8 (.lit (.ofNat 0)), .int .u8 (.lit (.ofNat 0)), .int .u8 (.lit (.ofNat 0)), .int .u8 (.lit (.ofNat 0)), .int .u8 (.lit (.ofNat 0)), .int .u8 (.lit (.ofNat 0)), .int .u8 (.lit (.ofNat 0)), .int .u8 (.lit (.ofNat 0)), .int .u8 (.lit (.ofNat 0)), .int .u8 (.lit (.ofNat 0)), .int .u8 (.lit (.ofNat 0)), .int .u8 (.lit (.ofNat 0)), .int .u8 (.lit (.ofNat 0)), .int .u8 (.lit (.ofNat 0)), .int .u8 (.lit (.ofNat 0)), .int .u8 (.lit (.ofNat 0)), .int .u64 (.lit (.ofNat 0)), .int .u64 (.lit (.ofNat 0)), .int .u64 (.lit (.ofNat 0)), .int .u64 (.lit (.ofNat 0)), .int .u64 (.lit (.ofNat 0)), .int .u64 (.lit (.ofNat 0)), .int .u64 (.lit (.ofNat 0)), .int .u64 (.lit (.ofNat 0)), .int .u64 (.lit (.ofNat 0)), .int .u64 (.lit (.ofNat 0)), .int .u64 (.lit (.ofNat 0)), .int .u64 (.lit (.ofNat 0)), .int .u64 (.lit (.ofNat 0)), .int .u64 (.lit (.ofNat 0)), .int .u64 (.lit (.ofNat 0)), .int .u64 (.lit (.ofNat 0)), .nils, .int .u8 (.lit (.ofNat 0)), .int .u8 (.lit (.ofNat 0)), .int .u8 (.lit (.ofNat 0)), .int .u8 (.lit (.ofNat 0)), .int .u8 (.lit (.ofNat 0)), .int .u8 (.lit (.ofNat 0)), .int .u8 (.lit (.ofNat 0)), .int .u8 (.lit (.ofNat 0)), .int .u8 (.lit (.ofNat 0)), .int .u8 (.lit (.ofNat 0)), .int .u8 (.lit (.ofNat 0)), .int .u8 (.lit (.ofNat 0)), .int .u8 (.lit (.ofNat 0)), .int .u8 (.lit (.ofNat 0)), .int .u8 (.lit (.ofNat 0)), .int .u8 (.lit (.ofNat 0)), .int .u8 (.lit (.ofNat 0)), .int .u8 (.lit (.ofNat 0)), .int .u8 (.lit (.ofNat 0)), .int .u8 (.lit (.ofNat 0)), .int .u64 (.lit (.ofNat 0)), .int .u64 (.lit (.ofNat 0)), .int .u64 (.lit (.ofNat 0)), .int .u64 (.lit (.ofNat 0)), .nils, .nilp, .int .u64 (.lit (.ofNat 0)), .bool false, .int .i64 (.lit (.ofNat 0)), .int .i64 (.lit (.ofNat 0)), .int .u64 (.lit (.ofNat 0)), .bool false, .int .i64 (.lit (.ofNat 0)), .int .i64 (.lit (.ofNat 0)), .int .u64 (.lit (.ofNat 0)), .bool false, .int .i64 (.lit (.ofNat 0)), .int .i64 (.lit (.ofNat 0)), .int .u64 (.lit (.ofNat 0)), .bool false, .int .i64 (.lit (.ofNat 0)), .int .i64 (.lit (.ofNat 0)), .int .u64 (.lit (.ofNat 0)), .bool false, .int .i64 (.lit (.ofNat 0)), .int .i64 (.lit (.ofNat 0)), .int .u64 (.lit (.ofNat 0)), .bool false, .int .i64 (.lit (.ofNat 0)), .int .i64 (.lit (.ofNat 0)), .int .u64 (.lit (.ofNat 0)), .bool false, .int .i64 (.lit (.ofNat 0)), .int .i64 (.lit (.ofNat 0)), .int .u64 (.lit (.ofNat 0)), .bool false, .int .i64 (.lit (.ofNat 0)), .int .i64 (.lit (.ofNat 0)), .int .u64 (.lit (.ofNat 0)), .bool false, .int .i64 (.lit (.ofNat 0)), .int .i64 (.lit (.ofNat 0)), .int .u64 (.lit (.ofNat 0)), .bool false, .int .i64 (.lit (.ofNat 0)), .int .i64 (.lit (.ofNat 0)), .int .u64 (.lit (.ofNat 0)), .bool false, .int .i64 (.lit (.ofNat 0)), .int .i64 (.lit (.ofNat 0)), .int .u64 (.lit (.ofNat 0)), .bool false, .int .i64 (.lit (.ofNat 0)), .int .i64 (.lit (.ofNat 0)), .int .u64 (.lit (.ofNat 0)), .bool false, .int .i64 (.lit (.ofNat 0)), .int .i64 (.lit (.ofNat 0)), .int .u64 (.lit (.ofNat 0)), .bool false, .int .i64 (.lit (.ofNat 0)), .int .i64 (.lit (.ofNat 0)), .int .u64 (.lit (.ofNat 0)), .bool false, .int .i64 (.lit (.ofNat 0)), .int .i64 (.lit (.ofNat 0)), .int .u64 (.lit (.ofNat 0)), .bool false, .int .i64 (.lit (.ofNat 0)), .int .i64 (.lit (.ofNat 0)), .int .u64 (.lit (.ofNat 0)), .bool false, .int .i64 (.lit (.ofNat 0)), .int .i64 (.lit (.ofNat 0)), .int .u64 (.lit (.ofNat 0)), .bool false, .int .i64 (.lit (.ofNat 0)), .int .i64 (.lit (.ofNat 0)), .int .u64 (.lit (.ofNat 0)), .bool false, .int .i64 (.lit (.ofNat 0)), .int .i64 (.lit (.ofNat 0)), .int .u64 (.lit (.ofNat 0)), .bool false, .int .i64 (.lit (.ofNat 0)), .int .i64 (.lit (.ofNat 0)), .int .u64 (.lit (.ofNat 0)), .bool false, .int .i64 (.lit (.ofNat 0)), .int .i64 (.lit (.ofNat 0)), .int .u64 (.lit (.ofNat 0)), .bool false, .int .i64 (.lit (.ofNat 0)), .int .i64 (.lit (.ofNat 0)), .int .u64 (.lit (.ofNat 0)), .bool false, .int .i64 (.lit (.ofNat 0)), .int .i64 (.lit (.ofNat 0)), .int .u64 (.lit (.ofNat 0)), .bool false, .int .i64 (.lit (.ofNat 0)), .int .i64 (.lit (.ofNat 0)), .int .u64 (.lit (.ofNat 0)), .bool false, .int .i64 (.lit (.ofNat 0)), .int .i64 (.lit (.ofNat 0)), .int .u64 (.lit (.ofNat 0)), .bool false, .int .i64 (.lit (.ofNat 0)), .int .i64 (.lit (.ofNat 0)), .int .u64 (.lit (.ofNat 0)), .bool false, .int .i64 (.lit (.ofNat 0)), .int .i64 (.lit (.ofNat 0)), .int .u64 (.lit (.ofNat 0)), .bool false, .int .i64 (.lit (.ofNat 0)), .int .i64 (.lit (.ofNat 0)), .int .u64 (.lit (.ofNat 0)), .bool false, .int .i64 (.lit (.ofNat 0)), .int .i64 (.lit (.ofNat 0)), .int .u64 (.lit (.ofNat 0)), .bool false, .int .i64 (.lit (.ofNat 0)), .int .i64 (.lit (.ofNat 0)), .int .u64 (.lit (.ofNat 0)), .bool false, .int .i64 (.lit (.ofNat 0)), .int .i64 (.lit (.ofNat 0)), .int .u64 (.lit (.ofNat 0)), .bool false, .int .i64 (.lit (.ofNat 0)), .int .i64 (.lit (.ofNat 0)), .int .u64 (.lit (.ofNat 0)), .bool false, .int .i64 (.lit (.ofNat 0)), .int .i64 (.lit (.ofNat 0)), .int .u64 (.lit (.ofNat 0)), .bool false, .int .i64 (.lit (.ofNat 0)), .int .i64 (.lit (.ofNat 0)), .int .u64 (.lit (.ofNat 0)), .bool false, .int .i64 (.lit (.ofNat 0)), .int .i64 (.lit (.ofNat 0)), .int .u64 (.lit (.ofNat 0)), .bool false, .int .i64 (.lit (.ofNat 0)), .int .i64 (.lit (.ofNat 0)), .int .u64 (.lit (.ofNat 0)), .bool false, .int .i64 (.lit (.ofNat 0)), .int .i64 (.lit (.ofNat 0)), .int .u64 (.lit (.ofNat 0)), .bool false, .int .i64 (.lit (.ofNat 0)), .int .i64 (.lit (.ofNat 0)), .int .u64 (.lit (.ofNat 0)), .bool false, .int .i64 (.lit (.ofNat 0)), .int .i64 (.lit (.ofNat 0)), .int .u64 (.lit (.ofNat 0)), .bool false, .int .i64 (.lit (.ofNat 0)), .int .i64 (.lit (.ofNat 0)), .int .u64 (.lit (.ofNat 0)), .bool false, .int .i64 (.lit (.ofNat 0)), .int .i64 (.lit (.ofNat 0)), .int .u64 (.lit (.ofNat 0)), .bool false, .int .i64 (.lit (.ofNat 0)), .int .i64 (.lit (.ofNat 0)), .int .u64 (.lit (.ofNat 0)), .bool false, .int .i64 (.lit (.ofNat 0)), .int .i64 (.lit (.ofNat 0)), .int .u64 (.lit (.ofNat 0)), .bool false, .int .i64 (.lit (.ofNat 0)), .int .i64 (.lit (.ofNat 0)), .int .u64 (.lit (.ofNat 0)), .bool false, .int .i64 (.lit (.ofNat 0)), .int .i64 (.lit (.ofNat 0)), .int .u64 (.lit (.ofNat 0)), .bool false, .int .i64 (.lit (.ofNat 0)), .int .i64 (.lit (.ofNat 0)), .int .u64 (.lit (.ofNat 0)), .bool false, .int .i64 (.lit (.ofNat 0)), .int .i64 (.lit (.ofNat 0)), .int .u64 (.lit (.ofNat 0)), .bool false, .int .i64 (.lit (.ofNat 0)), .int .i64 (.lit (.ofNat 0)), .int .u64 (.lit (.ofNat 0)), .bool false, .int .i64 (.lit (.ofNat 0)), .int .i64 (.lit (.ofNat 0)), .int .u64 (.lit (.ofNat 0)), .bool false, .int .i64 (.lit (.ofNat 0)), .int .i64 (.lit (.ofNat 0)), .int .u64 (.lit (.ofNat 0)), .bool false, .int .i64 (.lit (.ofNat 0)), .int .i64 (.lit (.ofNat 0)), .int .u64 (.lit (.ofNat 0)), .bool false, .int .i64 (.lit (.ofNat 0)), .int .i64 (.lit (.ofNat 0)), .int .u64 (.lit (.ofNat 0)), .bool false, .int .i64 (.lit (.ofNat 0)), .int .i64 (.lit (.ofNat 0)), .int .u64 (.lit (.ofNat 0)), .bool false, .int .i64 (.lit (.ofNat 0)), .int .i64 (.lit (.ofNat 0)), .int .u64 (.lit (.ofNat 0)), .bool false, .int .i64 (.lit (.ofNat 0)), .int .i64 (.lit (.ofNat 0)), .int .u64 (.lit (.ofNat 0)), .bool false, .int .i64 (.lit (.ofNat 0)), .int .i64 (.lit (.ofNat 0)), .int .u64 (.lit (.ofNat 0)), .bool false, .int .i64 (.lit (.ofNat 0)), .int .i64 (.lit (.ofNat 0)), .int .u64 (.lit (.ofNat 0)), .bool false, .int .i64 (.lit (.ofNat 0)), .int .i64 (.lit (.ofNat 0)), .int .u64 (.lit (.ofNat 0)), .bool false, .int .i64 (.lit (.ofNat 0)), .int .i64 (.lit (.ofNat 0)), .int .u64 (.lit (.ofNat 0)), .bool false, .int .i64 (.lit (.ofNat 0)), .int .i64 (.lit (.ofNat 0)), .int .u64 (.lit (.ofNat 0)), .bool false, .int .i64 (.lit (.ofNat 0)), .int .i64 (.lit (.ofNat 0)), .int .u64 (.lit (.ofNat 0)), .bool false, .int .i64 (.lit (.ofNat 0)), .int .i64 (.lit (.ofNat 0)), .int .u64 (.lit (.ofNat 0)), .bool false, .int .i64 (.lit (.ofNat 0)), .int .i64 (.lit (.ofNat 0)), .int .u64 (.lit (.ofNat 0)), .bool false, .int .i64 (.lit (.ofNat 0)), .int .i64 (.lit (.ofNat 0)), .int .u64 (.lit (.ofNat 0)), .bool false, .int .i64 (.lit (.ofNat 0)), .int .i64 (.lit (.ofNat 0)), .int .u64 (.lit (.ofNat 0)), .bool false, .int .i64 (.lit (.ofNat 0)), .int .i64 (.lit (.ofNat 0)), .int .u64 (.lit (.ofNat 0)), .bool false, .int .i64 (.lit (.ofNat 0)), .int .i64 (.lit (.ofNat 0)), .int .u64 (.lit (.ofNat 0)), .bool false, .int .i64 (.lit (.ofNat 0)), .int .i64 (.lit (.ofNat 0)), .int .u64 (.lit (.ofNat 0)), .bool false, .int .i64 (.lit (.ofNat 0)), .int .i64 (.lit (.ofNat 0)), .int .u64 (.lit (.ofNat 0)), .bool false, .int .i64 (.lit (.ofNat 0)), .int .i64 (.lit (.ofNat 0)), .int .u64 (.lit (.ofNat 0)), .bool false, .int .i64 (.lit (.ofNat 0)), .int .i64 (.lit (.ofNat 0)), .int .u64 (.lit (.ofNat 0)), .bool false, .int .i64 (.lit (.ofNat 0)), .int .i64 (.lit (.ofNat 0)), .int .u64 (.lit (.ofNat 0)), .bool false, .int .i64 (.lit (.ofNat 0)), .int .i64 (.lit (.ofNat 0)), .int .u64 (.lit (.ofNat 0)), .bool false, .int .i64 (.lit (.ofNat 0)), .int .i64 (.lit (.ofNat 0)), .int .u64 (.lit (.ofNat 0)), .bool false, .int .i64 (.lit (.ofNat 0)), .int .i64 (.lit (.ofNat 0)), .int .u64 (.lit (.ofNat 0)), .bool false, .int .i64 (.lit (.ofNat 0)), .int .i64 (.lit (.ofNat 0)), .int .u64 (.lit (.ofNat 0)), .bool false, .int .i64 (.lit (.ofNat 0)), .int .i64 (.lit (.ofNat 0)), .int .u64 (.lit (.ofNat 0)), .bool false, .int .i64 (.lit (.ofNat 0)), .int .i64 (.lit (.ofNat 0)), .int .u64 (.lit (.ofNat 0)), .bool false, .int .i64 (.lit (.ofNat 0)), .int .i64 (.lit (.ofNat 0)), .int .u64 (.lit (.ofNat 0)), .bool false, .int .i64 (.lit (.ofNat 0)), .int .i64 (.lit (.ofNat 0)), .int .u64 (.lit (.ofNat 0)), .bool false, .int .i64 (.lit (.ofNat 0)), .int .i64 (.lit (.ofNat 0)), .int .u64 (.lit (.ofNat 0)), .bool false, .int .i64 (.lit (.ofNat 0)), .int .i64 (.lit (.ofNat 0)), .int .u64 (.lit (.ofNat 0)), .bool false, .int .i64 (.lit (.ofNat 0)), .int .i64 (.lit (.ofNat 0)), .int .u64 (.lit (.ofNat 0)), .bool false, .int .i64 (.lit (.ofNat 0)), .int .i64 (.lit (.ofNat 0)), .int .u64 (.lit (.ofNat 0)), .bool false, .int .i64 (.lit (.ofNat 0)), .int .i64 (.lit (.ofNat 0)), .int .u64 (.lit (.ofNat 0)), .bool false, .int .i64 (.lit (.ofNat 0)), .int .i64 (.lit (.ofNat 0)), .int .u64 (.lit (.ofNat 0)), .bool false, .int .i64 (.lit (.ofNat 0)), .int .i64 (.lit (.ofNat 0)), .int .u64 (.lit (.ofNat 0)), .bool false, .int .i64 (.lit (.ofNat 0)), .int .i64 (.lit (.ofNat 0)), .int .u64 (.lit (.ofNat 0)), .bool false, .int .i64 (.lit (.ofNat 0)), .int .i64 (.lit (.ofNat 0)), .int .u64 (.lit (.ofNat 0)), .bool false, .int .i64 (.lit (.ofNat 0)), .int .i64 (.lit (.ofNat 0)), .int .u64 (.lit (.ofNat 0)), .bool false, .int .i64 (.lit (.ofNat 0)), .int .i64 (.lit (.ofNat 0)), .int .u64 (.lit (.ofNat 0)), .bool false, .int .i64 (.lit (.ofNat 0)), .int .i64 (.lit (.ofNat 0)), .int .u64 (.lit (.ofNat 0)), .bool false, .int .i64 (.lit (.ofNat 0)), .int .i64 (.lit (.ofNat 0)), .int .u64 (.lit (.ofNat 0)), .bool false, .int .i64 (.lit (.ofNat 0)), .int .i64 (.lit (.ofNat 0)), .int .u64 (.lit (.ofNat 0)), .bool false, .int .i64 (.lit (.ofNat 0)), .int .i64 (.lit (.ofNat 0)), .int .u64 (.lit (.ofNat 0)), .bool false, .int .i64 (.lit (.ofNat 0)), .int .i64 (.lit (.ofNat 0)), .int .u64 (.lit (.ofNat 0)), .bool false, .int .i64 (.lit (.ofNat 0)), .int .i64 (.lit (.ofNat 0)), .int .u64 (.lit (.ofNat 0)), .bool false, .int .i64 (.lit (.ofNat 0)), .int .i64 (.lit (.ofNat 0)), .int .u64 (.lit (.ofNat 0)), .bool false, .int .i64 (.lit (.ofNat 0)), .int .i64 (.lit (.ofNat 0)), .int .u64 (.lit (.ofNat 0)), .bool false, .int .i64 (.lit (.ofNat 0)), .int .i64 (.lit (.ofNat 0)), .int .u64 (.lit (.ofNat 0)), .bool false, .int .i64 (.lit (.ofNat 0)), .int .i64 (.lit (.ofNat 0)), .int .u64 (.lit (.ofNat 0)), .bool false, .int .i64 (.lit (.ofNat 0)), .int .i64 (.lit (.ofNat 0)), .int .u64 (.lit (.ofNat 0)), .bool false, .int .i64 (.lit (.ofNat 0)), .int .i64 (.lit (.ofNat 0)), .int .u64 (.lit (.ofNat 0)), .bool false, .int .i64 (.lit (.ofNat 0)), .int .i64 (.lit (.ofNat 0)), .int .u64 (.lit (.ofNat 0)), .bool false, .int .i64 (.lit (.ofNat 0)), .int .i64 (.lit (.ofNat 0)), .int .u64 (.lit (.ofNat 0)), .bool false, .int .i64 (.lit (.ofNat 0)), .int .i64 (.lit (.ofNat 0)), .int .u64 (.lit (.ofNat 0)), .bool false, .int .i64 (.lit (.ofNat 0)), .int .i64 (.lit (.ofNat 0)), .int .u64 (.lit (.ofNat 0)), .bool false, .int .i64 (.lit (.ofNat 0)), .int .i64 (.lit (.ofNat 0)), .int .u64 (.lit (.ofNat 0)), .bool false, .int .i64 (.lit (.ofNat 0)), .int .i64 (.lit (.ofNat 0)), .int .u64 (.lit (.ofNat 0)), .bool false, .int .i64 (.lit (.ofNat 0)), .int .i64 (.lit (.ofNat 0)), .int .u64 (.lit (.ofNat 0)), .bool false, .int .i64 (.lit (.ofNat 0)), .int .i64 (.lit (.ofNat 0)), .int .u64 (.lit (.ofNat 0)), .bool false, .int .i64 (.lit (.ofNat 0)), .int .i64 (.lit (.ofNat 0)), .int .u64 (.lit (.ofNat 0)), .bool false, .int .i64 (.lit (.ofNat 0)), .int .i64 (.lit (.ofNat 0)), .int .u64 (.lit (.ofNat 0)), .bool false, .int .i64 (.lit (.ofNat 0)), .int .i64 (.lit (.ofNat 0)), .int .u64 (.lit (.ofNat 0)), .bool false, .int .i64 (.lit (.ofNat 0)), .int .i64 (.lit (.ofNat 0)), .int .u64 (.lit (.ofNat 0)), .bool false, .int .i64 (.lit (.ofNat 0)), .int .i64 (.lit (.ofNat 0)), .int .u64 (.lit (.ofNat 0)), .bool false, .int .i64 (.lit (.ofNat 0)), .int .i64 (.lit (.ofNat 0)), .int .u64 (.lit (.ofNat 0)), .bool false, .int .i64 (.lit (.ofNat 0)), .int .i64 (.lit (.ofNat 0)), .int .u64 (.lit (.ofNat 0)), .bool false, .int .i64 (.lit (.ofNat 0)), .int .i64 (.lit (.ofNat 0)), .int .u64 (.lit (.ofNat 0)), .bool false, .int .i64 (.lit (.ofNat 0)), .int .i64 (.lit (.ofNat 0)), .int .u64 (.lit (.ofNat 0)), .bool false, .int .i64 (.lit (.ofNat 0)), .int .i64 (.lit (.ofNat 0)), .int .u64 (.lit (.ofNat 0)), .bool false, .int .i64 (.lit (.ofNat 0)), .int .i64 (.lit (.ofNat 0)), .int .u64 (.lit (.ofNat 0)), .bool false, .int .i64 (.lit (.ofNat 0)), .int .i64 (.lit (.ofNat 0)), .int .u64 (.lit (.ofNat 0)), .bool false, .int .i64 (.lit (.ofNat 0)), .int .i64 (.lit (.ofNat 0)), .int .u64 (.lit (.ofNat 0)), .bool false, .int .i64 (.lit (.ofNat 0)), .int .i64 (.lit (.ofNat 0)), .int .u64 (.lit (.ofNat 0)), .bool false, .int .i64 (.lit (.ofNat 0)), .int .i64 (.lit (.ofNat 0)), .int .u64 (.lit (.ofNat 0)), .bool false, .int .i64 (.lit (.ofNat 0)), .int .i64 (.lit (.ofNat 0)), .int .u64 (.lit (.ofNat 0)), .bool false, .int .i64 (.lit (.ofNat 0)), .int .i64 (.lit (.ofNat 0)), .int .u64 (.lit (.ofNat 0)), .bool false, .int .i64 (.lit (.ofNat 0)), .int .i64 (.lit (.ofNat 0)), .int .u64 (.lit (.ofNat 0)), .bool false, .int .i64 (.lit (.ofNat 0)), .int .i64 (.lit (.ofNat 0)), .int .u64 (.lit (.ofNat 0)), .bool false, .int .i64 (.lit (.ofNat 0)), .int .i64 (.lit (.ofNat 0)), .int .u64 (.lit (.ofNat 0)), .bool false, .int .i64 (.lit (.ofNat 0)), .int .i64 (.lit (.ofNat 0)), .int .u64 (.lit (.ofNat 0)), .bool false, .int .i64 (.lit (.ofNat 0)), .int .i64 (.lit (.ofNat 0)), .int .u64 (.lit (.ofNat 0)), .bool false, .int .i64 (.lit (.ofNat 0)), .int .i64 (.lit (.ofNat 0)), .int .u64 (.lit (.ofNat 0)), .bool false, .int .i64 (.lit (.ofNat 0)), .int .i64 (.lit (.ofNat 0)), .int .u64 (.lit (.ofNat 0)), .bool false, .int .i64 (.lit (.ofNat 0)), .int .i64 (.lit (.ofNat 0)), .int .u64 (.lit (.ofNat 0)), .bool false, .int .i64 (.lit (.ofNat 0)), .int .i64 (.lit (.ofNat 0)), .int .u64 (.lit (.ofNat 0)), .bool false, .int .i64 (.lit (.ofNat 0)), .int .i64 (.lit (.ofNat 0)), .int .u64 (.lit (.ofNat 0)), .bool false, .int .i64 (.lit (.ofNat 0)), .int .i64 (.lit (.ofNat 0)), .int .u64 (.lit (.ofNat 0)), .bool false, .int .i64 (.lit (.ofNat 0)), .int .i64 (.lit (.ofNat 0)), .int .u64 (.lit (.ofNat 0)), .bool false, .int .i64 (.lit (.ofNat 0)), .int .i64 (.lit (.ofNat 0)), .int .u64 (.lit (.ofNat 0)), .bool false, .int .i64 (.lit (.ofNat 0)), .int .i64 (.lit (.ofNat 0)), .int .u64 (.lit (.ofNat 0)), .bool false, .int .i64 (.lit (.ofNat 0)), .int .i64 (.lit (.ofNat 0)), .int .u64 (.lit (.ofNat 0)), .bool false, .int .i64 (.lit (.ofNat 0)), .int .i64 (.lit (.ofNat 0)), .int .u64 (.lit (.ofNat 0)), .bool false, .int .i64 (.lit (.ofNat 0)), .int .i64 (.lit (.ofNat 0)), .int .u64 (.lit (.ofNat 0)), .bool false, .int .i64 (.lit (.ofNat 0)), .int .i64 (.lit (.ofNat 0)), .int .u64 (.lit (.ofNat 0)), .bool false, .int .i64 (.lit (.ofNat 0)), .int .i64 (.lit (.ofNat 0)), .int .u64 (.lit (.ofNat 0)), .bool false, .int .i64 (.lit (.ofNat 0)), .int .i64 (.lit (.ofNat 0)), .int .u64 (.lit (.ofNat 0)), .bool false, .int .i64 (.lit (.ofNat 0)), .int .i64 (.lit (.ofNat 0)), .int .u64 (.lit (.ofNat 0)), .bool false, .int .i64 (.lit (.ofNat 0)), .int .i64 (.lit (.ofNat 0)), .int .u64 (.lit (.ofNat 0)), .bool false, .int .i64 (.lit (.ofNat 0)), .int .i64 (.lit (.ofNat 0)), .int .u64 (.lit (.ofNat 0)), .bool false, .int .i64 (.lit (.ofNat 0)), .int .i64 (.lit (.ofNat 0)), .int .u64 (.lit (.ofNat 0)), .bool false, .int .i64 (.lit (.ofNat 0)), .int .i64 (.lit (.ofNat 0)), .int .u64 (.lit (.ofNat 0)), .bool false, .int .i64 (.lit (.ofNat 0)), .int .i64 (.lit (.ofNat 0)), .int .u64 (.lit (.ofNat 0)), .bool false, .int .i64 (.lit (.ofNat 0)), .int .i64 (.lit (.ofNat 0)), .int .u64 (.lit (.ofNat 0)), .bool false, .int .i64 (.lit (.ofNat 0)), .int .i64 (.lit (.ofNat 0)), .int .u64 (.lit (.ofNat 0)), .bool false, .int .i64 (.lit (.ofNat 0)), .int .i64 (.lit (.ofNat 0)), .int .u64 (.lit (.ofNat 0)), .bool false, .int .i64 (.lit (.ofNat 0)), .int .i64 (.lit (.ofNat 0)), .int .u64 (.lit (.ofNat 0)), .bool false, .int .i64 (.lit (.ofNat 0)), .int .i64 (.lit (.ofNat 0)), .int .u64 (.lit (.ofNat 0)), .bool false, .int .i64 (.lit (.ofNat 0)), .int .i64 (.lit (.ofNat 0)), .int .u64 (.lit (.ofNat 0)), .bool false, .int .i64 (.lit (.ofNat 0)), .int .i64 (.lit (.ofNat 0)), .int .u64 (.lit (.ofNat 0)), .bool false, .int .i64 (.lit (.ofNat 0)), .int .i64 (.lit (.ofNat 0)), .int .u64 (.lit (.ofNat 0)), .bool false, .int .i64 (.lit (.ofNat 0)), .int .i64 (.lit (.ofNat 0)), .int .u64 (.lit (.ofNat 0)), .bool false, .int .i64 (.lit (.ofNat 0)), .int .i64 (.lit (.ofNat 0)), .int .u64 (.lit (.ofNat 0)), .bool false, .int .i64 (.lit (.ofNat 0)), .int .i64 (.lit (.ofNat 0)), .int .u64 (.lit (.ofNat 0)), .bool false, .int .i64 (.lit (.ofNat 0)), .int .i64 (.lit (.ofNat 0)), .int .u64 (.lit (.ofNat 0)), .bool false, .int .i64 (.lit (.ofNat 0)), .int .i64 (.lit (.ofNat 0)), .int .u64 (.lit (.ofNat 0)), .bool false, .int .i64 (.lit (.ofNat 0)), .int .i64 (.lit (.ofNat 0)), .int .u64 (.lit (.ofNat 0)), .bool false, .int .i64 (.lit (.ofNat 0)), .int .i64 (.lit (.ofNat 0)), .int .u64 (.lit (.ofNat 0)), .bool false, .int .i64 (.lit (.ofNat 0)), .int .i64 (.lit (.ofNat 0)), .int .u64 (.lit (.ofNat 0)), .bool false, .int .i64 (.lit (.ofNat 0)), .int .i64 (.lit (.ofNat 0)), .int .u64 (.lit (.ofNat 0)), .bool false, .int .i64 (.lit (.ofNat 0)), .int .i64 (.lit (.ofNat 0)), .int .u64 (.lit (.ofNat 0)), .bool false, .int .i64 (.lit (.ofNat 0)), .int .i64 (.lit (.ofNat 0)), .int .u64 (.lit (.ofNat 0)), .bool false, .int .i64 (.lit (.ofNat 0)), .int .i64 (.lit (.ofNat 0)), .int .u64 (.lit (.ofNat 0)), .bool false, .int .i64 (.lit (.ofNat 0)), .int .i64 (.lit (.ofNat 0)), .int .u64 (.lit (.ofNat 0)), .bool false, .int .i64 (.lit (.ofNat 0)), .int .i64 (.lit (.ofNat 0)), .int .u64 (.lit (.ofNat 0)), .bool false, .int .i64 (.lit (.ofNat 0)), .int .i64 (.lit (.ofNat 0)), .int .u64 (.lit (.ofNat 0)), .bool false, .int .i64 (.lit (.ofNat 0)), .int .i64 (.lit (.ofNat 0)), .int .u64 (.lit (.ofNat 0)), .bool false, .int .i64 (.lit (.ofNat 0)), .int .i64 (.lit (.ofNat 0)), .int .u64 (.lit (.ofNat 0)), .bool false, .int .i64 (.lit (.ofNat 0)), .int .i64 (.lit (.ofNat 0)), .int .u64 (.lit (.ofNat 0)), .bool false, .int .i64 (.lit (.ofNat 0)), .int .i64 (.lit (.ofNat 0)), .int .u64 (.lit (.ofNat 0)), .bool false, .int .i64 (.lit (.ofNat 0)), .int .i64 (.lit (.ofNat 0)), .int .u64 (.lit (.ofNat 0)), .bool false, .int .i64 (.lit (.ofNat 0)), .int .i64 (.lit (.ofNat 0)), .int .u64 (.lit (.ofNat 0)), .bool false, .int .i64 (.lit (.ofNat 0)), .int .i64 (.lit (.ofNat 0)), .int .u64 (.lit (.ofNat 0)), .bool false, .int .i64 (.lit (.ofNat 0)), .int .i64 (.lit (.ofNat 0)), .int .u64 (.lit (.ofNat 0)), .bool false, .int .i64 (.lit (.ofNat 0)), .int .i64 (.lit (.ofNat 0)), .int .u64 (.lit (.ofNat 0)), .bool false, .int .i64 (.lit (.ofNat 0)), .int .i64 (.lit (.ofNat 0)), .int .u64 (.lit (.ofNat 0)), .bool false, .int .i64 (.lit (.ofNat 0)), .int .i64 (.lit (.ofNat 0)), .int .u64 (.lit (.ofNat 0)), .bool false, .int .i64 (.lit (.ofNat 0)), .int .i64 (.lit (.ofNat 0)), .int .u64 (.lit (.ofNat 0)), .bool false, .int .i64 (.lit (.ofNat 0)), .int .i64 (.lit (.ofNat 0)), .int .u64 (.lit (.ofNat 0)), .bool false, .int .i64 (.lit (.ofNat 0)), .int .i64 (.lit (.ofNat 0)), .int .u64 (.lit (.ofNat 0)), .bool false, .int .i64 (.lit (.ofNat 0)), .int .i64 (.lit (.ofNat 0)), .int .u64 (.lit (.ofNat 0)), .bool false, .int .i64 (.lit (.ofNat 0)), .int .i64 (.lit (.ofNat 0)), .int .u64 (.lit (.ofNat 0)), .bool false, .int .i64 (.lit (.ofNat 0)), .int .i64 (.lit (.ofNat 0)), .int .u64 (.lit (.ofNat 0)), .bool false, .int .i64 (.lit (.ofNat 0)), .int .i64 (.lit (.ofNat 0)), .int .u64 (.lit (.ofNat 0)), .bool false, .int .i64 (.lit (.ofNat 0)), .int .i64 (.lit (.ofNat 0)), .int .u64 (.lit (.ofNat 0)), .bool false, .int .i64 (.lit (.ofNat 0)), .int .i64 (.lit (.ofNat 0)), .int .u64 (.lit (.ofNat 0)), .bool false, .int .i64 (.lit (.ofNat 0)), .int .i64 (.lit (.ofNat 0)), .int .u64 (.lit (.ofNat 0)), .bool false, .int .i64 (.lit (.ofNat 0)), .int .i64 (.lit (.ofNat 0)), .int .u64 (.lit (.ofNat 0)), .bool false, .int .i64 (.lit (.ofNat 0)), .int .i64 (.lit (.ofNat 0)), .int .u64 (.lit (.ofNat 0)), .bool false, .int .i64 (.lit (.ofNat 0)), .int .i64 (.lit (.ofNat 0)), .int .u64 (.lit (.ofNat 0)), .bool false, .int .i64 (.lit (.ofNat 0)), .int .i64 (.lit (.ofNat 0)), .int .u64 (.lit (.ofNat 0)), .bool false, .int .i64 (.lit (.ofNat 0)), .int .i64 (.lit (.ofNat 0)), .int .u64 (.lit (.ofNat 0)), .bool false, .int .i64 (.lit (.ofNat 0)), .int .i64 (.lit (.ofNat 0)), .int .u64 (.lit (.ofNat 0)), .bool false, .int .i64 (.lit (.ofNat 0)), .int .i64 (.lit (.ofNat 0)), .int .u64 (.lit (.ofNat 0)), .bool false, .int .i64 (.lit (.ofNat 0)), .int .i64 (.lit (.ofNat 0)), .int .u64 (.lit (.ofNat 0)), .bool false, .int .i64 (.lit (.ofNat 0)), .int .i64 (.lit (.ofNat 0)), .int .u64 (.lit (.ofNat 0)), .bool false, .int .i64 (.lit (.ofNat 0)), .int .i64 (.lit (.ofNat 0)), .int .u64 (.lit (.ofNat 0)), .bool false, .int .i64 (.lit (.ofNat 0)), .int .i64 (.lit (.ofNat 0)), .int .u64 (.lit (.ofNat 0)), .bool false, .int .i64 (.lit (.ofNat 0)), .int .i64 (.lit (.ofNat 0)), .int .u64 (.lit (.ofNat 0)), .bool false, .int .i64 (.lit (.ofNat 0)), .int .i64 (.lit (.ofNat 0)), .int .u64 (.lit (.ofNat 0)), .bool false, .int .i64 (.lit (.ofNat 0)), .int .i64 (.lit (.ofNat 0)), .int .u64 (.lit (.ofNat 0)), .bool false, .int .i64 (.lit (.ofNat 0)), .int .i64 (.lit (.ofNat 0)), .int .u64 (.lit (.ofNat 0)), .bool false, .int .i64 (.lit (.ofNat 0)), .int .i64 (.lit (.ofNat 0)), .int .u64 (.lit (.ofNat 0)), .bool false, .int .i64 (.lit (.ofNat 0)), .int .i64 (.lit (.ofNat 0)), .int .u64 (.lit (.ofNat 0)), .bool false, .int .i64 (.lit (.ofNat 0)), .int .i64 (.lit (.ofNat 0)), .int .u64 (.lit (.ofNat 0)), .bool false, .int .i64 (.lit (.ofNat 0)), .int .i64 (.lit (.ofNat 0)), .int .u64 (.lit (.ofNat 0)), .bool false, .int .i64 (.lit (.ofNat 0)), .int .i64 (.lit (.ofNat 0)), .int .u64 (.lit (.ofNat 0)), .bool false, .int .i64 (.lit (.ofNat 0)), .int .i64 (.lit (.ofNat 0)), .int .u64 (.lit (.ofNat 0)), .bool false, .int .i64 (.lit (.ofNat 0)), .int .i64 (.lit (.ofNat 0)), .int .u64 (.lit (.ofNat 0)), .bool false, .int .i64 (.lit (.ofNat 0)), .int .i64 (.lit (.ofNat 0)), .int .u64 (.lit (.ofNat 0)), .bool false, .int .i64 (.lit (.ofNat 0)), .int .i64 (.lit (.ofNat 0)), .int .u64 (.lit (.ofNat 0)), .bool false, .int .i64 (.lit (.ofNat 0)), .int .i64 (.lit (.ofNat 0)), .int .u64 (.lit (.ofNat 0)), .bool false, .int .i64 (.lit (.ofNat 0)), .int .i64 (.lit (.ofNat 0)), .int .u64 (.lit (.ofNat 0)), .bool false, .int .i64 (.lit (.ofNat 0)), .int .i64 (.lit (.ofNat 0)), .int .u64 (.lit (.ofNat 0)), .bool false, .int .i64 (.lit (.ofNat 0)), .int .i64 (.lit (.ofNat 0)), .int .u64 (.lit (.ofNat 0)), .bool false, .int .i64 (.lit (.ofNat 0)), .int .i64 (.lit (.ofNat 0)), .int .u64 (.lit (.ofNat 0)), .bool false, .int .i64 (.lit (.ofNat 0)), .int .i64 (.lit (.ofNat 0)), .int .u64 (.lit (.ofNat 0)), .bool false, .int .i64 (.lit (.ofNat 0)), .int .i64 (.lit (.ofNat 0)), .int .u64 (.lit (.ofNat 0)), .bool false, .int .i64 (.lit (.ofNat 0)), .int .i64 (.lit (.ofNat 0)), .int .u64 (.lit (.ofNat 0)), .bool false, .int .i64 (.lit (.ofNat 0)), .int .i64 (.lit (.ofNat 0)), .int .u64 (.lit (.ofNat 0)), .bool false, .int .i64 (.lit (.ofNat 0)), .int .i64 (.lit (.ofNat 0)), .int .u64 (.lit (.ofNat 0)), .bool false, .int .i64 (.lit (.ofNat 0)), .int .i64 (.lit (.ofNat 0)), .int .u64 (.lit (.ofNat 0)), .bool false, .int .i64 (.lit (.ofNat 0)), .int .i64 (.lit (.ofNat 0)), .int .u64 (.lit (.ofNat 0)), .bool false, .int .i64 (.lit (.ofNat 0)), .int .i64 (.lit (.ofNat 0)), .int .u64 (.lit (.ofNat 0)), .bool false, .int .i64 (.lit (.ofNat 0)), .int .i64 (.lit (.ofNat 0)), .int .u64 (.lit (.ofNat 0)), .bool false, .int .i64 (.lit (.ofNat 0)), .int .i64 (.lit (.ofNat 0)), .int .u64 (.lit (.ofNat 0)), .bool false, .int .i64 (.lit (.ofNat 0)), .int .i64 (.lit (.ofNat 0)), .int .u64 (.lit (.ofNat 0)), .bool false, .int .i64 (.lit (.ofNat 0)), .int .i64 (.lit (.ofNat 0)), .int .u64 (.lit (.ofNat 0)), .bool false, .int .i64 (.lit (.ofNat 0)), .int .i64 (.lit (.ofNat 0)), .int .u64 (.lit (.ofNat 0)), .bool false, .int .i64 (.lit (.ofNat 0)), .int .i64 (.lit (.ofNat 0)), .int .u64 (.lit (.ofNat 0)), .bool false, .int .i64 (.lit (.ofNat 0)), .int .i64 (.lit (.ofNat 0)), .int .u64 (.lit (.ofNat 0)), .bool false, .int .i64 (.lit (.ofNat 0)), .int .i64 (.lit (.ofNat 0)), .int .u64 (.lit (.ofNat 0)), .bool false, .int .i64 (.lit (.ofNat 0)), .int .i64 (.lit (.ofNat 0)), .int .u64 (.lit (.ofNat 0)), .bool false, .int .i64 (.lit (.ofNat 0)), .int .i64 (.lit (.ofNat 0)), .int .u64 (.lit (.ofNat 0)), .bool false, .int .i64 (.lit (.ofNat 0)), .int .i64 (.lit (.ofNat 0)), .int .u64 (.lit (.ofNat 0)), .bool false, .int .i64 (.lit (.ofNat 0)), .int .i64 (.lit (.ofNat 0)), .int .u64 (.lit (.ofNat 0)), .bool false, .int .i64 (.lit (.ofNat 0)), .int .i64 (.lit (.ofNat 0)), .int .u64 (.lit (.ofNat 0)), .bool false, .int .i64 (.lit (.ofNat 0)), .int .i64 (.lit (.ofNat 0)), .int .u64 (.lit (.ofNat 0)), .bool false, .int .i64 (.lit (.ofNat 0)), .int .i64 (.lit (.ofNat 0)), .int .u64 (.lit (.ofNat 0)), .bool false, .int .i64 (.lit (.ofNat 0)), .int .i64 (.lit (.ofNat 0)), .int .u64 (.lit (.ofNat 0)), .bool false, .int .i64 (.lit (.ofNat 0)), .int .i64 (.lit (.ofNat 0)), .int .u64 (.lit (.ofNat 0)), .bool false, .int .i64 (.lit (.ofNat 0)), .int .i64 (.lit (.ofNat 0)), .int .u64 (.lit (.ofNat 0)), .bool false, .int .i64 (.lit (.ofNat 0)), .int .i64 (.lit (.ofNat 0)), .int .u64 (.lit (.ofNat 0)), .bool false, .int .i64 (.lit (.ofNat 0)), .int .i64 (.lit (.ofNat 0)), .int .u64 (.lit (.ofNat 0)), .bool false, .int .i64 (.lit (.ofNat 0)), .int .i64 (.lit (.ofNat 0)), .int .u64 (.lit (.ofNat 0))] [(0, 1, (.t 62)), (1, 26, (.t 63)), (27, 37, (.t 64)), (64, 25, (.t 65)), (89, 1, (.t 66))]), none⟩,
⟨(some 68), .m (.box 125 (.t 67)), none⟩,
⟨(some 14), .p (.mv (.t 68)), none⟩]) (.seq (.seq (.reg [
⟨(some 69), .p (.mv (.c (.w (.s (.int .i64 (.lit (.ofNat 0))))))), none⟩]) (.block 0 (.loop (.seq (.reg [
⟨(some 70), .b (.cmp 2 .int (.t 69) (.c (.w (.s (.int .i64 (.lit (.ofNat 256))))))), none⟩]) (.seq (.cond (.t 70) (.skip) (.exit 0)) (.seq (.block 1 (.seq (.reg [
⟨(some 71), .p (.mv (.t 69)), none⟩,
⟨(some 15), .p (.mv (.t 71)), none⟩]) (.seq (.reg [
⟨(some 73), .p (.mv (.t 0)), none⟩,
⟨(some 74), .p (.mv (.t 15)), none⟩,
⟨(some 75), .b (.call 49 [(.t 73), (.t 74)]), none⟩,
⟨(some 72), .p (.mv (.t 75)), none⟩,
⟨(some 76), .p (.ext (.t 72) 0), none⟩,
⟨(some 77), .p (.ext (.t 72) 1), none⟩,
⟨(some 78), .p (.ext (.t 72) 2), none⟩,
⟨(some 16), .p (.mv (.t 76)), none⟩,
⟨(some 17), .p (.mv (.t 77)), none⟩,
⟨(some 18), .p (.mv (.t 78)), none⟩]) (.draw [
⟨0, ⟨(some 79), .p (.mv (.t 14)), none⟩, 0, 0⟩,
⟨1, ⟨(some 80), .p (.mv (.t 15)), none⟩, 0, 0⟩,
⟨2, ⟨(some 81), .p (.mv (.t 18)), none⟩, 0, 0⟩,
⟨3, ⟨(some 82), .p (.mv (.t 16)), none⟩, 0, 0⟩,
⟨4, ⟨(some 83), .p (.mv (.t 17)), none⟩, 0, 0⟩,
⟨5, ⟨(some 84), .r (.load (some 26) (.t 12)), none⟩, 0, 0⟩,
⟨6, ⟨(some 85), .p (.mv (.t 15)), none⟩, 0, 0⟩,
⟨9, ⟨(some 88), .p (.nilCheck (.t 79)), none⟩, 1, 0⟩,
⟨10, ⟨(some 89), .p (.faddr 91 (.t 88)), none⟩, 513, 0⟩,
⟨7, ⟨(some 86), .b (.call 50 [(.t 84), (.t 85)]), none⟩, 96, 0⟩,
⟨8, ⟨(some 87), .p (.build [.bool false, .int .i64 (.lit (.ofNat 0)), .int .i64 (.lit (.ofNat 0)), .int .u64 (.lit (.ofNat 0))] [(0, 1, (.t 81)), (1, 1, (.t 82)), (2, 1, (.t 83)), (3, 1, (.t 86))]), none⟩, 252, 0⟩,
⟨11, ⟨(some 90), .p (.iaddrA 256 4 (.t 89) (.t 80)), none⟩, 2047, 0⟩,
⟨12, ⟨none, .b (.store 4 (.t 90) (.t 87)), none⟩, 4095, 0⟩])))) (.reg [
⟨(some 91), .p (.ar 0 (.t 69) (.c (.w (.s (.int .i64 (.lit (.ofNat 1))))))), none⟩,
⟨(some 69), .p (.mv (.t 91)), none⟩]))))))) (.seq (.reg [
⟨(some 92), .p (.faddr 1 (.t 9)), none⟩,
⟨(some 93), .r (.load (some 20) (.t 92)), none⟩,
⟨(some 94), .p (.faddr 21 (.t 9)), none⟩,
⟨(some 95), .r (.load (some 20) (.t 94)), none⟩,
⟨(some 96), .p (.faddr 21 (.t 9)), none⟩,
⟨(some 97), .r (.load (some 20) (.t 96)), none⟩,
⟨(some 98), .p (.faddr 41 (.t 9)), none⟩,
⟨(some 99), .r (.load (some 4) (.t 98)), none⟩,
⟨(some 100), .p (.faddr 45 (.t 9)), none⟩,
⟨(some 101), .r (.load none (.t 100)), none⟩,
⟨(some 102), .p (.faddr 46 (.t 9)), none⟩,
⟨(some 103), .r (.load none (.t 102)), none⟩,
⟨(some 104), .p (.faddr 47 (.t 9)), none⟩,
⟨(some 105), .r (.load none (.t 104)), none⟩,
⟨(some 106), .p (.faddr 48 (.t 9)), none⟩,
⟨(some 107), .r (.load none (.t 106)), none⟩,
⟨(some 108), .p (.build [.int .u8 (.lit (.ofNat 0)), .int .u8 (.lit (.ofNat 0)), .int .u8 (.lit (.ofNat 0)), .int .u8 (.lit (.ofNat 0)), .int .u8 (.lit (.ofNat 0)), .int .u8 (.lit (.ofNat 0)), .int .u8 (.lit (.ofNat 0)), .int .u8 (.lit (.ofNat 0)), .int .u8 (.lit (.ofNat 0)), .int .u8 (.lit (.ofNat 0)), .int .u8 (.lit (.ofNat 0)), .int .u8 (.lit (.ofNat 0)), .int .u8 (.lit (.ofNat 0)), .int .u8 (.lit (.ofNat 0)), .int .u8 (.lit (.ofNat 0)), .int .u8 (.lit (.ofNat 0)), .int .u8 (.lit (.ofNat 0)), .int .u8 (.lit (.ofNat 0)), .int .u8 (.lit (.ofNat 0)), .int .u8 (.lit (.ofNat 0)), .int .u8 (.lit (.ofNat 0)), .int .u8 (.lit (.ofNat 0)), .int .u8 (.lit (.ofNat 0)), .int .u8 (.lit (.ofNat 0)), .int .u8 (.lit (.ofNat 0)), .int .u8 (.lit (.ofNat 0)), .int .u8 (.lit (.ofNat 0)), .int .u8 (.lit (.ofNat 0)), .int .u8 (.lit (.ofNat 0)), .int .u8 (.lit (.ofNat 0)), .int .u8 (.lit (.ofNat 0)), .int .u8 (.lit (.ofNat 0)), .int .u8 (.lit (.ofNat 0)), .int .u8 (.lit (.ofNat 0)), .int .u8 (.lit (.ofNat 0)), .int .u8 (.lit (.ofNat 0)), .int .u8 (.lit (.ofNat 0)), .int .u8 (.lit (.ofNat 0)), .int .u8 (.lit (.ofNat 0)), .int .u8 (.lit (.ofNat 0)), .int .u8 (.lit (.ofNat 0)), .int .u8 (.lit (.ofNat 0)), .int .u8 (.lit (.ofNat 0)), .int .u8 (.lit (.ofNat 0)), .int .u8 (.lit (.ofNat 0)), .int .u8 (.lit (.ofNat 0)), .int .u8 (.lit (.ofNat 0)), .int .u8 (.lit (.ofNat 0)), .int .u8 (.lit (.ofNat 0)), .int .u8 (.lit (.ofNat 0)), .int .u8 (.lit (.ofNat 0)), .int .u8 (.lit (.ofNat 0)), .int .u8 (.lit (.ofNat 0)), .int .u8 (.lit (.ofNat 0)), .int .u8 (.lit (.ofNat 0)), .int .u8 (.lit (.ofNat 0)), .int .u8 (.lit (.ofNat 0)), .int .u8 (.lit (.ofNat 0)), .int .u8 (.lit (.ofNat 0)), .int .u8 (.lit (.ofNat 0)), .int .u64 (.lit (.ofNat 0)), .int .u64 (.lit (.ofNat 0)), .int .u64 (.lit (.ofNat 0)), .int .u64 (.lit (.ofNat 0)), .nils, .int .u64 (.lit (.ofNat 0)), .bool false, .int .i64 (.lit (.ofNat 0))] [(0, 20, (.t 93)), (20, 20, (.t 95)), (40, 20, (.t 97)), (60, 4, (.t 99)), (64, 1, (.t 101)), (65, 1, (.t 103)), (66, 1, (.t 105)), (67, 1, (.t 107))]), none⟩,
⟨(some 19), .m (.alloc 130 [.int .u8 (.lit (.ofNat 0)), .int .u8 (.lit (.ofNat 0)), .int .u8 (.lit (.ofNat 0)), .int .u8 (.lit (.ofNat 0)), .int .u8 (.lit (.ofNat 0)), .int .u8 (.lit (.ofNat 0)), .int .u8 (.lit (.ofNat 0)), .int .u8 (.lit (.ofNat 0)), .int .u8 (.lit (.ofNat 0)), .int .u8 (.lit (.ofNat 0)), .int .u8 (.lit (.ofNat 0)), .int .u8 (.lit (.ofNat 0)), .int .u8 (.lit (.ofNat 0)), .int .u8 (.lit (.ofNat 0)), .int .u8 (.lit (.ofNat 0)), .int .u8 (.lit (.ofNat 0)), .int .u8 (.lit (.ofNat 0)), .int .u8 (.lit (.ofNat 0)), .int .u8 (.lit (.ofNat 0)), .int .u8 (.lit (.ofNat 0)), .int .u8 (.lit (.ofNat 0)), .int .u8 (.lit (.ofNat 0)), .int .u8 (.lit (.ofNat 0)), .int .u8 (.lit (.ofNat 0)), .int .u8 (.lit (.ofNat 0)), .int .u8 (.lit (.ofNat 0)), .int .u8 (.lit (.ofNat 0)), .int .u8 (.lit (.ofNat 0)), .int .u8 (.lit (.ofNat 0)), .int .u8 (.lit (.ofNat 0)), .int .u8 (.lit (.ofNat 0)), .int .u8 (.lit (.ofNat 0)), .int .u8 (.lit (.ofNat 0)), .int .u8 (.lit (.ofNat 0)), .int .u8 (.lit (.ofNat 0)), .int .u8 (.lit (.ofNat 0)), .int .u8 (.lit (.ofNat 0)), .int .u8 (.lit (.ofNat 0)), .int .u8 (.lit (.ofNat 0)), .int .u8 (.lit (.ofNat 0)), .int .u8 (.lit (.ofNat 0)), .int .u8 (.lit (.ofNat 0)), .int .u8 (.lit (.ofNat 0)), .int .u8 (.lit (.ofNat 0)), .int .u8 (.lit (.ofNat 0)), .int .u8 (.lit (.ofNat 0)), .int .u8 (.lit (.ofNat 0)), .int .u8 (.lit (.ofNat 0)), .int .u8 (.lit (.ofNat 0)), .int .u8 (.lit (.ofNat 0)), .int .u8 (.lit (.ofNat 0)), .int .u8 (.lit (.ofNat 0)), .int .u8 (.lit (.ofNat 0)), .int .u8 (.lit (.ofNat 0)), .int .u8 (.lit (.ofNat 0)), .int .u8 (.lit (.ofNat 0)), .int .u8 (.lit (.ofNat 0)), .int .u8 (.lit (.ofNat 0)), .int .u8 (.lit (.ofNat 0)), .int .u8 (.lit (.ofNat 0)), .int .u64 (.lit (.ofNat 0)), .int .u64 (.lit (.ofNat 0)), .int .u64 (.lit (.ofNat 0)), .int .u64 (.lit (.ofNat 0)), .nils, .int .u64 (.lit (.ofNat 0)), .bool false, .int .i64 (.lit (.ofNat 0))]), none⟩,
⟨none, .b (.store 68 (.t 19) (.t 108)), none⟩]) (.seq (.reg [
⟨(some 20), .m (.alloc 132 [.int .i64 (.lit (.ofNat 0)), .nils, .int .u64 (.lit (.ofNat 0)), .int .u8 (.lit (.ofNat 0)), .int .u8 (.lit (.ofNat 0)), .int .u8 (.lit (.ofNat 0)), .int .u8 (.lit (.ofNat 0)), .int .u8 (.lit (.ofNat 0)), .int .u8 (.lit (.ofNat 0)), .int .u8 (.lit (.ofNat 0)), .int .u8 (.lit (.ofNat 0)), .int .u8 (.lit (.ofNat 0)), .int .u8 (.lit (.ofNat 0)), .int .u8 (.lit (.ofNat 0)), .int .u8 (.lit (.ofNat 0)), .int .u8 (.lit (.ofNat 0)), .int .u8 (.lit (.ofNat 0)), .int .u8 (.lit (.ofNat 0)), .int .u8 (.lit (.ofNat 0)), .int .u8 (.lit (.ofNat 0)), .int .u8 (.lit (.ofNat 0)), .int .u8 (.lit (.ofNat 0)), .int .u8 (.lit (.ofNat 0))]), none⟩]) (.seq (.seq (.reg [
⟨(some 109), .p (.faddr 0 (.t 9)), none⟩,
⟨(some 110), .r (.load none (.t 109)), none⟩]) (.cond (.t 110) (.reg [
⟨(some 111), .p (.mv (.t 14)), none⟩,
⟨(some 112), .r (.load (some 68) (.t 19)), none⟩,
⟨(some 113), .p (.mkfunc 52 [(.t 9)]), none⟩,
⟨(some 114), .b (.call 51 [(.t 111), (.t 112), (.t 113)]), none⟩,
⟨none, .b (.store 23 (.t 20) (.t 114)), none⟩]) (.reg [
⟨(some 115), .p (.mv (.t 14)), none⟩,
⟨(some 116), .r (.load (some 68) (.t 19)), none⟩,
⟨(some 117), .b (.call 54 [(.t 115), (.t 116)]), none⟩,
⟨none, .b (.store 23 (.t 20) (.t 117)), none⟩]))) (.seq (.draw [
⟨0, ⟨(some 118), .p (.faddr 0 (.t 20)), none⟩, 0, 0⟩,
⟨1, ⟨(some 119), .r (.load none (.t 118)), none⟩, 1, 0⟩,
⟨2, ⟨(some 120), .p (.faddr 1 (.t 20)), none⟩, 0, 0⟩,
⟨3, ⟨(some 121), .r (.load none (.t 120)), none⟩, 4, 0⟩,
⟨5, ⟨(some 123), .p (.faddr 2 (.t 20)), none⟩, 0, 0⟩,
⟨6, ⟨(some 124), .r (.load none (.t 123)), none⟩, 32, 0⟩,
⟨7, ⟨(some 125), .p (.faddr 3 (.t 20)), none⟩, 0, 0⟩,
⟨8, ⟨(some 126), .r (.load (some 20) (.t 125)), none⟩, 128, 0⟩,
⟨9, ⟨(some 127), .p (.mv (.t 14)), none⟩, 0, 0⟩,
⟨10, ⟨(some 128), .p (.nilCheck (.t 127)), none⟩, 512, 0⟩,
⟨11, ⟨(some 129), .p (.faddr 90 (.t 128)), none⟩, 1536, 0⟩,
⟨12, ⟨(some 130), .r (.load none (.t 129)), none⟩, 3584, 0⟩,
⟨4, ⟨(some 122), .b (.append 5 1 1 (.c (.w (.s (.nils)))) (.t 121)), none⟩, 12, 0⟩,
⟨13, ⟨(some 131), .p (.build [.int .i64 (.lit (.ofNat 0)), .nils, .int .u64 (.lit (.ofNat 0)), .int .u8 (.lit (.ofNat 0)), .int .u8 (.lit (.ofNat 0)), .int .u8 (.lit (.ofNat 0)), .int .u8 (.lit (.ofNat 0)), .int .u8 (.lit (.ofNat 0)), .int .u8 (.lit (.ofNat 0)), .int .u8 (.lit (.ofNat 0)), .int .u8 (.lit (.ofNat 0)), .int .u8 (.lit (.ofNat 0)), .int .u8 (.lit (.ofNat 0)), .int .u8 (.lit (.ofNat 0)), .int .u8 (.lit (.ofNat 0)), .int .u8 (.lit (.ofNat 0)), .int .u8 (.lit (.ofNat 0)), .int .u8 (.lit (.ofNat 0)), .int .u8 (.lit (.ofNat 0)), .int .u8 (.lit (.ofNat 0)), .int .u8 (.lit (.ofNat 0)), .int .u8 (.lit (.ofNat 0)), .int .u8 (.lit (.ofNat 0)), .int .u64 (.lit (.ofNat 0))] [(0, 1, (.t 119)), (1, 1, (.t 122)), (2, 1, (.t 124)), (3, 20, (.t 126)), (23, 1, (.t 130))]), none⟩, 8191, 0⟩,
⟨14, ⟨none, .b (.store 24 (.t 10) (.t 131)), none⟩, 16383, 0⟩,
⟨15, ⟨(some 11), .p (.mv (.c (.w (.s (.int .i64 (.lit (.ofNat 0))))))), none⟩, 32767, 0⟩]) (.ret)))))))))⟩
theorem fo32 : ∃ func code hint, FnOk Go.Proofs.Tryz.prog TT 32 fa32 func code hint := ⟨Go.Proofs.Tryz.f32, bodyOf Go.Proofs.Tryz.f32, hintL [(9, [(0, 0), (1, 0), (2, 0), (3, 0), (4, 0), (5, 0), (6, 0), (9, 0), (10, 0), (7, 0), (8, 0), (11, 0), (12, 0)]), (16, [(0, 0), (1, 0), (2, 0), (3, 0), (5, 0), (6, 0), (7, 0), (8, 0), (9, 0), (10, 0), (11, 0), (12, 0), (4, 0), (13, 0), (14, 0), (15, 0)])], ⟨Go.Proofs.Tryz.func32, Go.Proofs.Tryz.call32, by kernel_rfl, by kernel_rfl, by kernel_rfl, by kernel_rfl⟩⟩
end
end Go.Sy
