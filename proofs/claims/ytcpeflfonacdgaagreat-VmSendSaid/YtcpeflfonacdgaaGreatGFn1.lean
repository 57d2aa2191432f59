/- Functions. -/
import Derived.Test.YtcpeflfonacdgaaGreatGTy
set_option linter.unusedVariables false
set_option maxRecDepth 100000
set_option maxHeartbeats 0
namespace Go.Sy
noncomputable section
/- quarry/gas.Store -/
def fa33 : AFunc := ⟨106, [.tmp 4, .tmp 5, .tmp 6, .tmp 7], .seq (.reg [
⟨(some 2), .m (.box 49 (.t 0)), none⟩,
⟨(some 3), .m (.box 82 (.t 1)), none⟩,
⟨(some 4), .p (.mv (.c (.w (.s (.int .u64 (.lit (.ofNat 0))))))), none⟩,
⟨(some 5), .p (.mv (.c (.w (.s (.int .u64 (.lit (.ofNat 0))))))), none⟩,
⟨(some 6), .p (.mv (.c (.w (.s (.int .u64 (.lit (.ofNat 0))))))), none⟩,
⟨(some 7), .p (.mv (.c (.w (.s (.bool false))))), none⟩]) (.seq (.reg [
⟨(some 10), .p (.build [.int .u64 (.lit (.ofNat 0)), .int .u64 (.lit (.ofNat 0)), .int .u64 (.lit (.ofNat 0)), .int .u64 (.lit (.ofNat 0))] []), none⟩,
⟨(some 8), .m (.alloc 24 [.int .u64 (.lit (.ofNat 0)), .int .u64 (.lit (.ofNat 0)), .int .u64 (.lit (.ofNat 0)), .int .u64 (.lit (.ofNat 0))]), none⟩,
⟨none, .b (.store 4 (.t 8) (.t 10)), none⟩]) (.seq (.block 0 (.seq (.reg [
⟨(some 12), .r (.load (some 26) (.t 2)), none⟩,
⟨(some 13), .b (.call 55 [(.t 12)]), none⟩,
⟨(some 11), .p (.mv (.t 13)), none⟩]) (.cond (.t 11) (.seq (.reg [
⟨(some 4), .p (.mv (.c (.w (.s (.int .u64 (.lit (.ofNat 5000))))))), none⟩]) (.seq (.seq (.reg [
⟨(some 14), .p (.faddr 4 (.t 3)), none⟩,
⟨(some 15), .r (.load (some 4) (.t 14)), none⟩,
⟨(some 16), .r (.load (some 4) (.t 8)), none⟩,
⟨(some 17), .b (.cmp 0 (.agg (.one (.arr 4 22 .u64))) (.t 15) (.t 16)), none⟩,
⟨(some 18), .p (.mv (.t 17)), none⟩,
⟨(some 19), .p (.faddr 8 (.t 3)), some (18, true)⟩,
⟨(some 20), .r (.load (some 4) (.t 19)), some (18, true)⟩,
⟨(some 21), .r (.load (some 4) (.t 8)), some (18, true)⟩,
⟨(some 22), .b (.cmp 1 (.agg (.one (.arr 4 22 .u64))) (.t 20) (.t 21)), some (18, true)⟩,
⟨(some 23), .p (.pick (.t 18) (.t 22) (.c (.w (.s (.bool false))))), none⟩]) (.cond (.t 23) (.reg [
⟨(some 4), .p (.mv (.c (.w (.s (.int .u64 (.lit (.ofNat 20000))))))), none⟩]) (.skip))) (.seq (.seq (.reg [
⟨(some 24), .p (.faddr 4 (.t 3)), none⟩,
⟨(some 25), .r (.load (some 4) (.t 24)), none⟩,
⟨(some 26), .r (.load (some 4) (.t 8)), none⟩,
⟨(some 27), .b (.cmp 1 (.agg (.one (.arr 4 22 .u64))) (.t 25) (.t 26)), none⟩,
⟨(some 28), .p (.mv (.t 27)), none⟩,
⟨(some 29), .p (.faddr 8 (.t 3)), some (28, true)⟩,
⟨(some 30), .r (.load (some 4) (.t 29)), some (28, true)⟩,
⟨(some 31), .r (.load (some 4) (.t 8)), some (28, true)⟩,
⟨(some 32), .b (.cmp 0 (.agg (.one (.arr 4 22 .u64))) (.t 30) (.t 31)), some (28, true)⟩,
⟨(some 33), .p (.pick (.t 28) (.t 32) (.c (.w (.s (.bool false))))), none⟩]) (.cond (.t 33) (.reg [
⟨(some 34), .p (.faddr 22 (.t 2)), none⟩,
⟨(some 35), .r (.load none (.t 34)), none⟩,
⟨(some 5), .p (.mv (.t 35)), none⟩]) (.skip))) (.seq (.reg [
⟨(some 36), .p (.mv (.t 4)), none⟩,
⟨(some 37), .p (.mv (.t 5)), none⟩,
⟨(some 4), .p (.mv (.t 36)), none⟩,
⟨(some 5), .p (.mv (.t 37)), none⟩,
⟨(some 6), .p (.mv (.c (.w (.s (.int .u64 (.lit (.ofNat 0))))))), none⟩,
⟨(some 7), .p (.mv (.c (.w (.s (.bool true))))), none⟩]) (.ret))))) (.seq (.reg [
⟨(some 39), .p (.faddr 0 (.t 2)), none⟩,
⟨(some 40), .r (.load none (.t 39)), none⟩,
⟨(some 41), .b (.cmp 5 .int (.t 40) (.c (.w (.s (.int .i64 (.lit (.ofNat 7))))))), none⟩,
⟨(some 42), .p (.mv (.t 41)), none⟩,
⟨(some 43), .p (.faddr 13 (.t 3)), some (42, true)⟩,
⟨(some 44), .r (.load none (.t 43)), some (42, true)⟩,
⟨(some 45), .b (.cmp 3 .int (.t 44) (.c (.w (.s (.int .u64 (.lit (.ofNat 2300))))))), some (42, true)⟩,
⟨(some 46), .p (.pick (.t 42) (.t 45) (.c (.w (.s (.bool false))))), none⟩,
⟨(some 38), .p (.mv (.t 46)), none⟩]) (.cond (.t 38) (.seq (.reg [
⟨(some 4), .p (.mv (.c (.w (.s (.int .u64 (.lit (.ofNat 0))))))), none⟩,
⟨(some 5), .p (.mv (.c (.w (.s (.int .u64 (.lit (.ofNat 0))))))), none⟩,
⟨(some 6), .p (.mv (.c (.w (.s (.int .u64 (.lit (.ofNat 0))))))), none⟩,
⟨(some 7), .p (.mv (.c (.w (.s (.bool false))))), none⟩]) (.ret)) (.skip)))))) (.seq (.reg [
⟨(some 47), .r (.load (some 26) (.t 2)), none⟩,
⟨(some 48), .b (.call 56 [(.t 47)]), none⟩,
⟨(some 9), .m (.alloc 139 [.int .u64 (.lit (.ofNat 0)), .int .u64 (.lit (.ofNat 0)), .int .u64 (.lit (.ofNat 0))]), none⟩,
⟨none, .b (.store 3 (.t 9) (.t 48)), none⟩]) (.seq (.reg [
⟨(some 49), .p (.faddr 0 (.t 9)), none⟩,
⟨(some 50), .r (.load none (.t 49)), none⟩,
⟨(some 4), .p (.mv (.t 50)), none⟩]) (.seq (.block 1 (.seq (.reg [
⟨(some 58), .p (.faddr 4 (.t 3)), none⟩,
⟨(some 59), .r (.load (some 4) (.t 58)), none⟩,
⟨(some 60), .p (.faddr 8 (.t 3)), none⟩,
⟨(some 61), .r (.load (some 4) (.t 60)), none⟩,
⟨(some 62), .b (.cmp 0 (.agg (.one (.arr 4 22 .u64))) (.t 59) (.t 61)), none⟩,
⟨(some 57), .p (.mv (.t 62)), none⟩]) (.cond (.t 57) (.skip) (.seq (.reg [
⟨(some 64), .p (.faddr 0 (.t 3)), none⟩,
⟨(some 65), .r (.load (some 4) (.t 64)), none⟩,
⟨(some 66), .p (.faddr 4 (.t 3)), none⟩,
⟨(some 67), .r (.load (some 4) (.t 66)), none⟩,
⟨(some 68), .b (.cmp 0 (.agg (.one (.arr 4 22 .u64))) (.t 65) (.t 67)), none⟩,
⟨(some 69), .p (.mv (.t 68)), none⟩,
⟨(some 70), .p (.faddr 0 (.t 3)), some (69, true)⟩,
⟨(some 71), .r (.load (some 4) (.t 70)), some (69, true)⟩,
⟨(some 72), .r (.load (some 4) (.t 8)), some (69, true)⟩,
⟨(some 73), .b (.cmp 0 (.agg (.one (.arr 4 22 .u64))) (.t 71) (.t 72)), some (69, true)⟩,
⟨(some 74), .p (.pick (.t 69) (.t 73) (.c (.w (.s (.bool false))))), none⟩,
⟨(some 63), .p (.mv (.t 74)), none⟩]) (.cond (.t 63) (.reg [
⟨(some 75), .p (.faddr 1 (.t 9)), none⟩,
⟨(some 76), .r (.load none (.t 75)), none⟩,
⟨(some 4), .p (.mv (.t 76)), none⟩]) (.seq (.reg [
⟨(some 78), .p (.faddr 0 (.t 3)), none⟩,
⟨(some 79), .r (.load (some 4) (.t 78)), none⟩,
⟨(some 80), .p (.faddr 4 (.t 3)), none⟩,
⟨(some 81), .r (.load (some 4) (.t 80)), none⟩,
⟨(some 82), .b (.cmp 0 (.agg (.one (.arr 4 22 .u64))) (.t 79) (.t 81)), none⟩,
⟨(some 77), .p (.mv (.t 82)), none⟩]) (.cond (.t 77) (.seq (.reg [
⟨(some 83), .p (.faddr 2 (.t 9)), none⟩,
⟨(some 84), .r (.load none (.t 83)), none⟩,
⟨(some 4), .p (.mv (.t 84)), none⟩]) (.seq (.reg [
⟨(some 85), .p (.faddr 8 (.t 3)), none⟩,
⟨(some 86), .r (.load (some 4) (.t 85)), none⟩,
⟨(some 87), .r (.load (some 4) (.t 8)), none⟩,
⟨(some 88), .b (.cmp 0 (.agg (.one (.arr 4 22 .u64))) (.t 86) (.t 87)), none⟩]) (.cond (.t 88) (.reg [
⟨(some 89), .p (.faddr 22 (.t 2)), none⟩,
⟨(some 90), .r (.load none (.t 89)), none⟩,
⟨(some 5), .p (.mv (.t 90)), none⟩]) (.skip)))) (.reg [
⟨(some 52), .r (.load (some 26) (.t 2)), none⟩,
⟨(some 53), .r (.load (some 14) (.t 3)), none⟩,
⟨(some 54), .b (.call 57 [(.t 52), (.t 53)]), none⟩,
⟨(some 51), .p (.mv (.t 54)), none⟩,
⟨(some 55), .p (.ext (.t 51) 0), none⟩,
⟨(some 56), .p (.ext (.t 51) 1), none⟩,
⟨(some 5), .p (.mv (.t 55)), none⟩,
⟨(some 6), .p (.mv (.t 56)), none⟩])))))))) (.seq (.seq (.reg [
⟨(some 91), .p (.faddr 0 (.t 2)), none⟩,
⟨(some 92), .r (.load none (.t 91)), none⟩,
⟨(some 93), .b (.cmp 5 .int (.t 92) (.c (.w (.s (.int .i64 (.lit (.ofNat 9))))))), none⟩,
⟨(some 94), .p (.mv (.t 93)), none⟩,
⟨(some 95), .p (.faddr 12 (.t 3)), some (94, true)⟩,
⟨(some 96), .r (.load none (.t 95)), some (94, true)⟩,
⟨(some 97), .p (.not (.t 96)), some (94, true)⟩,
⟨(some 98), .p (.pick (.t 94) (.t 97) (.c (.w (.s (.bool false))))), none⟩]) (.cond (.t 98) (.reg [
⟨(some 99), .p (.mv (.t 4)), none⟩,
⟨(some 100), .p (.faddr 16 (.t 2)), none⟩,
⟨(some 101), .r (.load none (.t 100)), none⟩,
⟨(some 102), .p (.ar 0 (.t 99) (.t 101)), none⟩,
⟨(some 4), .p (.mv (.t 102)), none⟩]) (.skip))) (.seq (.reg [
⟨(some 103), .p (.mv (.t 4)), none⟩,
⟨(some 104), .p (.mv (.t 5)), none⟩,
⟨(some 105), .p (.mv (.t 6)), none⟩,
⟨(some 4), .p (.mv (.t 103)), none⟩,
⟨(some 5), .p (.mv (.t 104)), none⟩,
⟨(some 6), .p (.mv (.t 105)), none⟩,
⟨(some 7), .p (.mv (.c (.w (.s (.bool true))))), none⟩]) (.ret))))))))⟩
theorem fo33 : ∃ func code hint, FnOk Go.Proofs.Tryz.prog TT 33 fa33 func code hint := ⟨Go.Proofs.Tryz.f33, bodyOf Go.Proofs.Tryz.f33, hintL [], ⟨Go.Proofs.Tryz.func33, Go.Proofs.Tryz.call33, by kernel_rfl, by kernel_rfl, by kernel_rfl, by kernel_rfl⟩⟩
/- (*quarry/state.State).Slot -/
def fa34 : AFunc := ⟨15, [.cell 6 (some 4)], .seq (.reg [
⟨(some 4), .m (.box 30 (.t 1)), none⟩,
⟨(some 5), .m (.box 24 (.t 2)), none⟩,
⟨(some 6), .m (.alloc 24 [.int .u64 (.lit (.ofNat 0)), .int .u64 (.lit (.ofNat 0)), .int .u64 (.lit (.ofNat 0)), .int .u64 (.lit (.ofNat 0))]), none⟩]) (.seq (.draw [
⟨0, ⟨(some 7), .p (.mv (.t 0)), none⟩, 0, 0⟩,
⟨1, ⟨(some 8), .r (.load (some 20) (.t 4)), none⟩, 0, 0⟩,
⟨6, ⟨(some 13), .r (.load (some 4) (.t 5)), none⟩, 0, 0⟩,
⟨2, ⟨(some 9), .b (.call 41 [(.t 7), (.t 8)]), none⟩, 3, 0⟩,
⟨3, ⟨(some 10), .p (.nilCheck (.t 9)), none⟩, 7, 0⟩,
⟨4, ⟨(some 11), .p (.faddr 6 (.t 10)), none⟩, 15, 0⟩,
⟨5, ⟨(some 12), .r (.load none (.t 11)), none⟩, 31, 0⟩,
⟨7, ⟨(some 14), .r (.lookup (.one (.arr 4 22 .u64)) (.agg [.int .u64 (.lit (.ofNat 0)), .int .u64 (.lit (.ofNat 0)), .int .u64 (.lit (.ofNat 0)), .int .u64 (.lit (.ofNat 0))]) (.t 12) (.t 13) false), none⟩, 127, 0⟩,
⟨8, ⟨none, .b (.store 4 (.t 6) (.t 14)), none⟩, 255, 0⟩]) (.ret))⟩
theorem fo34 : ∃ func code hint, FnOk Go.Proofs.Tryz.prog TT 34 fa34 func code hint := ⟨Go.Proofs.Tryz.f34, bodyOf Go.Proofs.Tryz.f34, hintL [(1, [(0, 0), (1, 0), (6, 0), (2, 0), (3, 0), (4, 0), (5, 0), (7, 0), (8, 0)])], ⟨Go.Proofs.Tryz.func34, Go.Proofs.Tryz.call34, by kernel_rfl, by kernel_rfl, by kernel_rfl, by kernel_rfl⟩⟩
/- (*quarry/state.State).Logs -/
def fa35 : AFunc := ⟨31, [.tmp 2], .seq (.reg [
⟨(some 2), .p (.mv (.c (.w (.s (.nils))))), none⟩]) (.seq (.reg [
⟨(some 6), .p (.mv (.t 0)), none⟩,
⟨(some 7), .p (.nilCheck (.t 6)), none⟩,
⟨(some 8), .p (.faddr 1 (.t 7)), none⟩,
⟨(some 9), .p (.faddr 8 (.t 8)), none⟩,
⟨(some 10), .r (.load none (.t 9)), none⟩,
⟨(some 11), .p (.len (.t 10)), none⟩,
⟨(some 12), .m (.mkslice 144 72 [.int .u8 (.lit (.ofNat 0)), .int .u8 (.lit (.ofNat 0)), .int .u8 (.lit (.ofNat 0)), .int .u8 (.lit (.ofNat 0)), .int .u8 (.lit (.ofNat 0)), .int .u8 (.lit (.ofNat 0)), .int .u8 (.lit (.ofNat 0)), .int .u8 (.lit (.ofNat 0)), .int .u8 (.lit (.ofNat 0)), .int .u8 (.lit (.ofNat 0)), .int .u8 (.lit (.ofNat 0)), .int .u8 (.lit (.ofNat 0)), .int .u8 (.lit (.ofNat 0)), .int .u8 (.lit (.ofNat 0)), .int .u8 (.lit (.ofNat 0)), .int .u8 (.lit (.ofNat 0)), .int .u8 (.lit (.ofNat 0)), .int .u8 (.lit (.ofNat 0)), .int .u8 (.lit (.ofNat 0)), .int .u8 (.lit (.ofNat 0)), .nils, .nils] (.t 11) (.t 11)), none⟩,
⟨(some 3), .p (.mv (.t 12)), none⟩]) (.seq (.seq (.reg [
⟨(some 13), .p (.mv (.t 0)), none⟩,
⟨(some 14), .p (.nilCheck (.t 13)), none⟩,
⟨(some 15), .p (.faddr 1 (.t 14)), none⟩,
⟨(some 16), .p (.faddr 8 (.t 15)), none⟩,
⟨(some 17), .r (.load none (.t 16)), none⟩,
⟨(some 18), .p (.len (.t 17)), none⟩,
⟨(some 19), .p (.mv (.c (.w (.s (.int .i64 (.lit (.ofNat 0))))))), none⟩]) (.block 0 (.loop (.seq (.reg [
⟨(some 20), .b (.cmp 2 .int (.t 19) (.t 18)), none⟩]) (.seq (.cond (.t 20) (.skip) (.exit 0)) (.seq (.block 1 (.seq (.reg [
⟨(some 21), .p (.mv (.t 19)), none⟩,
⟨(some 22), .p (.iaddrS 22 (.t 17) (.t 19)), none⟩,
⟨(some 23), .r (.load (some 22) (.t 22)), none⟩,
⟨(some 5), .m (.alloc 144 [.int .u8 (.lit (.ofNat 0)), .int .u8 (.lit (.ofNat 0)), .int .u8 (.lit (.ofNat 0)), .int .u8 (.lit (.ofNat 0)), .int .u8 (.lit (.ofNat 0)), .int .u8 (.lit (.ofNat 0)), .int .u8 (.lit (.ofNat 0)), .int .u8 (.lit (.ofNat 0)), .int .u8 (.lit (.ofNat 0)), .int .u8 (.lit (.ofNat 0)), .int .u8 (.lit (.ofNat 0)), .int .u8 (.lit (.ofNat 0)), .int .u8 (.lit (.ofNat 0)), .int .u8 (.lit (.ofNat 0)), .int .u8 (.lit (.ofNat 0)), .int .u8 (.lit (.ofNat 0)), .int .u8 (.lit (.ofNat 0)), .int .u8 (.lit (.ofNat 0)), .int .u8 (.lit (.ofNat 0)), .int .u8 (.lit (.ofNat 0)), .nils, .nils]), none⟩,
⟨(some 4), .p (.mv (.t 21)), none⟩,
⟨none, .b (.store 22 (.t 5) (.t 23)), none⟩]) (.reg [
⟨(some 24), .p (.mv (.t 3)), none⟩,
⟨(some 25), .p (.mv (.t 4)), none⟩,
⟨(some 26), .r (.load (some 22) (.t 5)), none⟩,
⟨(some 27), .b (.call 58 [(.t 26)]), none⟩,
⟨(some 28), .p (.iaddrS 22 (.t 24) (.t 25)), none⟩,
⟨none, .b (.store 22 (.t 28) (.t 27)), none⟩]))) (.reg [
⟨(some 29), .p (.ar 0 (.t 19) (.c (.w (.s (.int .i64 (.lit (.ofNat 1))))))), none⟩,
⟨(some 19), .p (.mv (.t 29)), none⟩]))))))) (.seq (.reg [
⟨(some 30), .p (.mv (.t 3)), none⟩,
⟨(some 2), .p (.mv (.t 30)), none⟩]) (.ret))))⟩
theorem fo35 : ∃ func code hint, FnOk Go.Proofs.Tryz.prog TT 35 fa35 func code hint := ⟨Go.Proofs.Tryz.f35, bodyOf Go.Proofs.Tryz.f35, hintL [], ⟨Go.Proofs.Tryz.func35, Go.Proofs.Tryz.call35, by kernel_rfl, by kernel_rfl, by kernel_rfl, by kernel_rfl⟩⟩
/- (*quarry/state.State).Destroyed -/
def fa36 : AFunc := ⟨12, [.tmp 4], .seq (.reg [
⟨(some 3), .m (.box 30 (.t 1)), none⟩,
⟨(some 4), .p (.mv (.c (.w (.s (.bool false))))), none⟩]) (.seq (.draw [
⟨0, ⟨(some 5), .p (.mv (.t 0)), none⟩, 0, 0⟩,
⟨1, ⟨(some 6), .p (.nilCheck (.t 5)), none⟩, 1, 0⟩,
⟨2, ⟨(some 7), .p (.faddr 1 (.t 6)), none⟩, 3, 0⟩,
⟨3, ⟨(some 8), .p (.faddr 3 (.t 7)), none⟩, 7, 0⟩,
⟨4, ⟨(some 9), .r (.load none (.t 8)), none⟩, 15, 0⟩,
⟨5, ⟨(some 10), .r (.load (some 20) (.t 3)), none⟩, 0, 0⟩,
⟨6, ⟨(some 11), .b (.call 59 [(.t 9), (.t 10)]), none⟩, 63, 0⟩,
⟨7, ⟨(some 4), .p (.mv (.t 11)), none⟩, 127, 0⟩]) (.ret))⟩
theorem fo36 : ∃ func code hint, FnOk Go.Proofs.Tryz.prog TT 36 fa36 func code hint := ⟨Go.Proofs.Tryz.f36, bodyOf Go.Proofs.Tryz.f36, hintL [(1, [(0, 0), (1, 0), (2, 0), (3, 0), (4, 0), (5, 0), (6, 0), (7, 0)])], ⟨Go.Proofs.Tryz.func36, Go.Proofs.Tryz.call36, by kernel_rfl, by kernel_rfl, by kernel_rfl, by kernel_rfl⟩⟩
/- (*quarry/state.State).Exists -/
def fa38 : AFunc := ⟨12, [.tmp 4], .seq (.reg [
⟨(some 3), .m (.box 30 (.t 1)), none⟩,
⟨(some 4), .p (.mv (.c (.w (.s (.bool false))))), none⟩]) (.seq (.draw [
⟨0, ⟨(some 5), .p (.mv (.t 0)), none⟩, 0, 0⟩,
⟨1, ⟨(some 6), .p (.nilCheck (.t 5)), none⟩, 1, 0⟩,
⟨2, ⟨(some 7), .p (.faddr 0 (.t 6)), none⟩, 3, 0⟩,
⟨3, ⟨(some 8), .r (.load none (.t 7)), none⟩, 7, 0⟩,
⟨4, ⟨(some 9), .r (.load (some 20) (.t 3)), none⟩, 0, 0⟩,
⟨5, ⟨(some 10), .r (.lookup (.one (.arr 20 5 .u8)) (.s (.nilp)) (.t 8) (.t 9) false), none⟩, 31, 0⟩,
⟨6, ⟨(some 11), .b (.cmp 1 .ptr (.t 10) (.c (.w (.s (.nilp))))), none⟩, 63, 0⟩,
⟨7, ⟨(some 4), .p (.mv (.t 11)), none⟩, 127, 0⟩]) (.ret))⟩
theorem fo38 : ∃ func code hint, FnOk Go.Proofs.Tryz.prog TT 38 fa38 func code hint := ⟨Go.Proofs.Tryz.f38, bodyOf Go.Proofs.Tryz.f38, hintL [(1, [(0, 0), (1, 0), (2, 0), (3, 0), (4, 0), (5, 0), (6, 0), (7, 0)])], ⟨Go.Proofs.Tryz.func38, Go.Proofs.Tryz.call38, by kernel_rfl, by kernel_rfl, by kernel_rfl, by kernel_rfl⟩⟩
/- (*quarry/state.State).Code -/
def fa39 : AFunc := ⟨12, [.tmp 4], .seq (.reg [
⟨(some 3), .m (.box 30 (.t 1)), none⟩,
⟨(some 4), .p (.mv (.c (.w (.s (.nils))))), none⟩]) (.seq (.reg [
⟨(some 5), .p (.mv (.t 0)), none⟩,
⟨(some 6), .r (.load (some 20) (.t 3)), none⟩,
⟨(some 7), .b (.call 41 [(.t 5), (.t 6)]), none⟩,
⟨(some 8), .p (.nilCheck (.t 7)), none⟩,
⟨(some 9), .p (.faddr 5 (.t 8)), none⟩,
⟨(some 10), .r (.load none (.t 9)), none⟩,
⟨(some 11), .b (.call 45 [(.t 10)]), none⟩,
⟨(some 4), .p (.mv (.t 11)), none⟩]) (.ret))⟩
theorem fo39 : ∃ func code hint, FnOk Go.Proofs.Tryz.prog TT 39 fa39 func code hint := ⟨Go.Proofs.Tryz.f39, bodyOf Go.Proofs.Tryz.f39, hintL [], ⟨Go.Proofs.Tryz.func39, Go.Proofs.Tryz.call39, by kernel_rfl, by kernel_rfl, by kernel_rfl, by kernel_rfl⟩⟩
/- quarry/word.amount -/
def fa40 : AFunc := ⟨17, [.tmp 2], .seq (.reg [
⟨(some 1), .m (.box 24 (.t 0)), none⟩,
⟨(some 2), .p (.mv (.c (.w (.s (.int .i64 (.lit (.ofNat 0))))))), none⟩]) (.seq (.seq (.reg [
⟨(some 6), .r (.load (some 4) (.t 1)), none⟩,
⟨(some 7), .b (.call 43 [(.t 6)]), none⟩,
⟨(some 5), .p (.mv (.t 7)), none⟩,
⟨(some 8), .p (.ext (.t 5) 0), none⟩,
⟨(some 9), .p (.ext (.t 5) 1), none⟩,
⟨(some 3), .p (.mv (.t 8)), none⟩,
⟨(some 4), .p (.mv (.t 9)), none⟩]) (.seq (.reg [
⟨(some 10), .p (.mv (.t 4)), none⟩,
⟨(some 11), .p (.mv (.t 10)), none⟩,
⟨(some 12), .p (.mv (.t 3)), some (11, true)⟩,
⟨(some 13), .b (.cmp 2 .int (.t 12) (.c (.w (.s (.int .u64 (.lit (.ofNat 256))))))), some (11, true)⟩,
⟨(some 14), .p (.pick (.t 11) (.t 13) (.c (.w (.s (.bool false))))), none⟩]) (.cond (.t 14) (.seq (.reg [
⟨(some 15), .p (.mv (.t 3)), none⟩,
⟨(some 16), .p (.conv .i64 (.t 15)), none⟩,
⟨(some 2), .p (.mv (.t 16)), none⟩]) (.ret)) (.skip)))) (.seq (.reg [
⟨(some 2), .p (.mv (.c (.w (.s (.int .i64 (.lit (.ofNat 256))))))), none⟩]) (.ret)))⟩
theorem fo40 : ∃ func code hint, FnOk Go.Proofs.Tryz.prog TT 40 fa40 func code hint := ⟨Go.Proofs.Tryz.f40, bodyOf Go.Proofs.Tryz.f40, hintL [], ⟨Go.Proofs.Tryz.func40, Go.Proofs.Tryz.call40, by kernel_rfl, by kernel_rfl, by kernel_rfl, by kernel_rfl⟩⟩
/- (*quarry/state.State).at -/
def fa41 : AFunc := ⟨17, [.tmp 4], .seq (.reg [
⟨(some 3), .m (.box 30 (.t 1)), none⟩,
⟨(some 4), .p (.mv (.c (.w (.s (.nilp))))), none⟩]) (.seq (.seq (.draw [
⟨0, ⟨(some 6), .p (.mv (.t 0)), none⟩, 0, 0⟩,
⟨1, ⟨(some 7), .p (.nilCheck (.t 6)), none⟩, 1, 0⟩,
⟨2, ⟨(some 8), .p (.faddr 0 (.t 7)), none⟩, 3, 0⟩,
⟨3, ⟨(some 9), .r (.load none (.t 8)), none⟩, 7, 0⟩,
⟨4, ⟨(some 10), .r (.load (some 20) (.t 3)), none⟩, 0, 0⟩,
⟨5, ⟨(some 11), .r (.lookup (.one (.arr 20 5 .u8)) (.s (.nilp)) (.t 9) (.t 10) false), none⟩, 31, 0⟩,
⟨6, ⟨(some 5), .p (.mv (.t 11)), none⟩, 63, 0⟩]) (.seq (.reg [
⟨(some 12), .p (.mv (.t 5)), none⟩,
⟨(some 13), .b (.cmp 1 .ptr (.t 12) (.c (.w (.s (.nilp))))), none⟩]) (.cond (.t 13) (.seq (.reg [
⟨(some 14), .p (.mv (.t 5)), none⟩,
⟨(some 4), .p (.mv (.t 14)), none⟩]) (.ret)) (.skip)))) (.seq (.reg [
⟨(some 15), .p (.build [.int .u64 (.lit (.ofNat 0)), .int .u64 (.lit (.ofNat 0)), .int .u64 (.lit (.ofNat 0)), .int .u64 (.lit (.ofNat 0)), .int .u64 (.lit (.ofNat 0)), .nils, .nilm] []), none⟩,
⟨(some 16), .m (.box 93 (.t 15)), none⟩,
⟨(some 4), .p (.mv (.t 16)), none⟩]) (.ret)))⟩
theorem fo41 : ∃ func code hint, FnOk Go.Proofs.Tryz.prog TT 41 fa41 func code hint := ⟨Go.Proofs.Tryz.f41, bodyOf Go.Proofs.Tryz.f41, hintL [(1, [(0, 0), (1, 0), (2, 0), (3, 0), (4, 0), (5, 0), (6, 0)])], ⟨Go.Proofs.Tryz.func41, Go.Proofs.Tryz.call41, by kernel_rfl, by kernel_rfl, by kernel_rfl, by kernel_rfl⟩⟩
/- quarry/quarryref13.from -/
def fa42 : AFunc := ⟨28, [.tmp 6], .seq (.reg [
⟨(some 6), .p (.mv (.c (.w (.s (.int .u64 (.lit (.ofNat 0))))))), none⟩]) (.seq (.seq (.reg [
⟨(some 7), .p (.mv (.c (.w (.s (.int .i64 (.lit (.ofNat 0))))))), none⟩]) (.block 0 (.loop (.seq (.seq (.reg [
⟨(some 8), .p (.mv (.t 7)), none⟩,
⟨(some 9), .p (.mv (.t 2)), none⟩,
⟨(some 10), .p (.len (.t 9)), none⟩,
⟨(some 11), .b (.cmp 2 .int (.t 8) (.t 10)), none⟩]) (.cond (.t 11) (.skip) (.exit 0))) (.seq (.block 1 (.seq (.reg [
⟨(some 14), .p (.mv (.t 0)), none⟩,
⟨(some 15), .p (.mv (.t 2)), none⟩,
⟨(some 16), .p (.mv (.t 7)), none⟩,
⟨(some 17), .p (.iaddrS 2 (.t 15) (.t 16)), none⟩,
⟨(some 18), .p (.iaddrA 2 1 (.t 17) (.c (.w (.s (.int .i64 (.lit (.ofNat 0))))))), none⟩,
⟨(some 19), .r (.load none (.t 18)), none⟩,
⟨(some 20), .p (.conv .i64 (.t 19)), none⟩,
⟨(some 21), .b (.cmp 5 .int (.t 14) (.t 20)), none⟩]) (.cond (.t 21) (.reg [
⟨(some 22), .p (.mv (.t 2)), none⟩,
⟨(some 23), .p (.mv (.t 7)), none⟩,
⟨(some 24), .p (.iaddrS 2 (.t 22) (.t 23)), none⟩,
⟨(some 25), .p (.iaddrA 2 1 (.t 24) (.c (.w (.s (.int .i64 (.lit (.ofNat 1))))))), none⟩,
⟨(some 26), .r (.load none (.t 25)), none⟩,
⟨(some 1), .p (.mv (.t 26)), none⟩]) (.skip)))) (.reg [
⟨(some 12), .p (.mv (.t 7)), none⟩,
⟨(some 13), .p (.ar 0 (.t 12) (.c (.w (.s (.int .i64 (.lit (.ofNat 1))))))), none⟩,
⟨(some 7), .p (.mv (.t 13)), none⟩])))))) (.seq (.reg [
⟨(some 27), .p (.mv (.t 1)), none⟩,
⟨(some 6), .p (.mv (.t 27)), none⟩]) (.ret)))⟩
theorem fo42 : ∃ func code hint, FnOk Go.Proofs.Tryz.prog TT 42 fa42 func code hint := ⟨Go.Proofs.Tryz.f42, bodyOf Go.Proofs.Tryz.f42, hintL [], ⟨Go.Proofs.Tryz.func42, Go.Proofs.Tryz.call42, by kernel_rfl, by kernel_rfl, by kernel_rfl, by kernel_rfl⟩⟩
/- quarry/word.Small -/
def fa43 : AFunc := ⟨15, [.tmp 2, .tmp 3], .seq (.reg [
⟨(some 1), .m (.box 24 (.t 0)), none⟩,
⟨(some 2), .p (.mv (.c (.w (.s (.int .u64 (.lit (.ofNat 0))))))), none⟩,
⟨(some 3), .p (.mv (.c (.w (.s (.bool false))))), none⟩]) (.seq (.seq (.reg [
⟨(some 4), .p (.iaddrA 4 1 (.t 1) (.c (.w (.s (.int .i64 (.lit (.ofNat 1))))))), none⟩,
⟨(some 5), .r (.load none (.t 4)), none⟩,
⟨(some 6), .p (.iaddrA 4 1 (.t 1) (.c (.w (.s (.int .i64 (.lit (.ofNat 2))))))), none⟩,
⟨(some 7), .r (.load none (.t 6)), none⟩,
⟨(some 8), .p (.bt 1 (.t 5) (.t 7)), none⟩,
⟨(some 9), .p (.iaddrA 4 1 (.t 1) (.c (.w (.s (.int .i64 (.lit (.ofNat 3))))))), none⟩,
⟨(some 10), .r (.load none (.t 9)), none⟩,
⟨(some 11), .p (.bt 1 (.t 8) (.t 10)), none⟩,
⟨(some 12), .b (.cmp 1 .int (.t 11) (.c (.w (.s (.int .u64 (.lit (.ofNat 0))))))), none⟩]) (.cond (.t 12) (.seq (.reg [
⟨(some 2), .p (.mv (.c (.w (.s (.int .u64 (.lit (.ofNat 0))))))), none⟩,
⟨(some 3), .p (.mv (.c (.w (.s (.bool false))))), none⟩]) (.ret)) (.skip))) (.seq (.reg [
⟨(some 13), .p (.iaddrA 4 1 (.t 1) (.c (.w (.s (.int .i64 (.lit (.ofNat 0))))))), none⟩,
⟨(some 14), .r (.load none (.t 13)), none⟩,
⟨(some 2), .p (.mv (.t 14)), none⟩,
⟨(some 3), .p (.mv (.c (.w (.s (.bool true))))), none⟩]) (.ret)))⟩
theorem fo43 : ∃ func code hint, FnOk Go.Proofs.Tryz.prog TT 43 fa43 func code hint := ⟨Go.Proofs.Tryz.f43, bodyOf Go.Proofs.Tryz.f43, hintL [], ⟨Go.Proofs.Tryz.func43, Go.Proofs.Tryz.call43, by kernel_rfl, by kernel_rfl, by kernel_rfl, by kernel_rfl⟩⟩
/- quarry/state.New -/
def fa44 : AFunc := ⟨8, [.tmp 0], .seq (.reg [
⟨(some 0), .p (.mv (.c (.w (.s (.nilp))))), none⟩]) (.seq (.reg [
⟨(some 2), .m (.mkmap), none⟩,
⟨(some 3), .p (.build [.nilm, .nilm, .nilm, .nilm, .nilm, .nilm, .nilm, .nilm, .int .u64 (.lit (.ofNat 0)), .nils, .nils, .nils, .int .i64 (.lit (.ofNat 0))] [(0, 1, (.t 2))]), none⟩,
⟨(some 4), .m (.box 111 (.t 3)), none⟩,
⟨(some 1), .p (.mv (.t 4)), none⟩]) (.seq (.reg [
⟨(some 5), .p (.mv (.t 1)), none⟩,
⟨(some 6), .b (.call 61 [(.t 5)]), none⟩]) (.seq (.reg [
⟨(some 7), .p (.mv (.t 1)), none⟩,
⟨(some 0), .p (.mv (.t 7)), none⟩]) (.ret))))⟩
theorem fo44 : ∃ func code hint, FnOk Go.Proofs.Tryz.prog TT 44 fa44 func code hint := ⟨Go.Proofs.Tryz.f44, bodyOf Go.Proofs.Tryz.f44, hintL [], ⟨Go.Proofs.Tryz.func44, Go.Proofs.Tryz.call44, by kernel_rfl, by kernel_rfl, by kernel_rfl, by kernel_rfl⟩⟩
/- bytes.Clone -/
def fa45 : AFunc := ⟨8, [.tmp 2], .seq (.reg [
⟨(some 2), .p (.mv (.c (.w (.s (.nils))))), none⟩]) (.seq (.seq (.reg [
⟨(some 3), .p (.mv (.t 0)), none⟩,
⟨(some 4), .b (.cmp 0 .slice (.t 3) (.c (.w (.s (.nils))))), none⟩]) (.cond (.t 4) (.seq (.reg [
⟨(some 2), .p (.mv (.c (.w (.s (.nils))))), none⟩]) (.ret)) (.skip))) (.seq (.reg [
⟨(some 5), .m (.bslice 5 0 [.int .u8 (.lit (.ofNat 0))] []), none⟩,
⟨(some 6), .p (.mv (.t 0)), none⟩,
⟨(some 7), .b (.append 5 1 1 (.t 5) (.t 6)), none⟩,
⟨(some 2), .p (.mv (.t 7)), none⟩]) (.ret)))⟩
theorem fo45 : ∃ func code hint, FnOk Go.Proofs.Tryz.prog TT 45 fa45 func code hint := ⟨Go.Proofs.Tryz.f45, bodyOf Go.Proofs.Tryz.f45, hintL [], ⟨Go.Proofs.Tryz.func45, Go.Proofs.Tryz.call45, by kernel_rfl, by kernel_rfl, by kernel_rfl, by kernel_rfl⟩⟩
/- maps.DeleteFunc[map[quarry/api.Word]quarry/api.Word,quarry/api.Word,quarry/api.Word] -/
def fa46 : AFunc := ⟨19, [], .seq (.reg [
⟨(some 6), .p (.mv (.t 0)), none⟩,
⟨(some 7), .b (.range (.t 6)), none⟩]) (.block 0 (.loop (.seq (.reg [
⟨(some 8), .b (.next (.t 7)), none⟩,
⟨(some 9), .p (.ext (.t 8) 0), none⟩]) (.seq (.cond (.t 9) (.skip) (.exit 0)) (.block 1 (.seq (.reg [
⟨(some 10), .b (.entry (.t 7)), none⟩,
⟨(some 11), .p (.ext (.t 10) 0), none⟩,
⟨(some 12), .p (.ext (.t 10) 1), none⟩,
⟨(some 4), .m (.alloc 24 [.int .u64 (.lit (.ofNat 0)), .int .u64 (.lit (.ofNat 0)), .int .u64 (.lit (.ofNat 0)), .int .u64 (.lit (.ofNat 0))]), none⟩,
⟨(some 5), .m (.alloc 24 [.int .u64 (.lit (.ofNat 0)), .int .u64 (.lit (.ofNat 0)), .int .u64 (.lit (.ofNat 0)), .int .u64 (.lit (.ofNat 0))]), none⟩,
⟨none, .b (.store 4 (.t 4) (.t 11)), none⟩,
⟨none, .b (.store 4 (.t 5) (.t 12)), none⟩]) (.seq (.reg [
⟨(some 13), .p (.mv (.t 1)), none⟩,
⟨(some 14), .r (.load (some 4) (.t 4)), none⟩,
⟨(some 15), .r (.load (some 4) (.t 5)), none⟩,
⟨(some 16), .b (.callv (.t 13) [(.t 14), (.t 15)]), none⟩]) (.cond (.t 16) (.reg [
⟨(some 17), .p (.mv (.t 0)), none⟩,
⟨(some 18), .r (.load (some 4) (.t 4)), none⟩,
⟨none, .b (.del (.one (.arr 4 22 .u64)) (.t 17) (.t 18)), none⟩]) (.skip)))))))))⟩
theorem fo46 : ∃ func code hint, FnOk Go.Proofs.Tryz.prog TT 46 fa46 func code hint := ⟨Go.Proofs.Tryz.f46, bodyOf Go.Proofs.Tryz.f46, hintL [], ⟨Go.Proofs.Tryz.func46, Go.Proofs.Tryz.call46, by kernel_rfl, by kernel_rfl, by kernel_rfl, by kernel_rfl⟩⟩
/- quarry/state.Load$1 -/
def fa47 : AFunc := ⟨8, [.tmp 4], .seq (.reg [
⟨(some 2), .m (.box 24 (.t 0)), none⟩,
⟨(some 3), .m (.box 24 (.t 1)), none⟩,
⟨(some 4), .p (.mv (.c (.w (.s (.bool false))))), none⟩]) (.seq (.reg [
⟨(some 5), .r (.load (some 4) (.t 3)), none⟩,
⟨(some 6), .p (.build [.int .u64 (.lit (.ofNat 0)), .int .u64 (.lit (.ofNat 0)), .int .u64 (.lit (.ofNat 0)), .int .u64 (.lit (.ofNat 0))] []), none⟩,
⟨(some 7), .b (.cmp 0 (.agg (.one (.arr 4 22 .u64))) (.t 5) (.t 6)), none⟩,
⟨(some 4), .p (.mv (.t 7)), none⟩]) (.ret))⟩
theorem fo47 : ∃ func code hint, FnOk Go.Proofs.Tryz.prog TT 47 fa47 func code hint := ⟨Go.Proofs.Tryz.f47, bodyOf Go.Proofs.Tryz.f47, hintL [], ⟨Go.Proofs.Tryz.func47, Go.Proofs.Tryz.call47, by kernel_rfl, by kernel_rfl, by kernel_rfl, by kernel_rfl⟩⟩
/- quarry/fork.Of -/
def fa48 : AFunc := ⟨133, [.cell 2 (some 26), .tmp 3], .seq (.reg [
⟨(some 2), .m (.alloc 49 [.int .i64 (.lit (.ofNat 0)), .int .u64 (.lit (.ofNat 0)), .int .u64 (.lit (.ofNat 0)), .int .u64 (.lit (.ofNat 0)), .int .u64 (.lit (.ofNat 0)), .int .u64 (.lit (.ofNat 0)), .int .u64 (.lit (.ofNat 0)), .int .u64 (.lit (.ofNat 0)), .int .i64 (.lit (.ofNat 0)), .int .i64 (.lit (.ofNat 0)), .int .u64 (.lit (.ofNat 0)), .int .u64 (.lit (.ofNat 0)), .int .u64 (.lit (.ofNat 0)), .int .u64 (.lit (.ofNat 0)), .int .u64 (.lit (.ofNat 0)), .int .u64 (.lit (.ofNat 0)), .int .u64 (.lit (.ofNat 0)), .int .u64 (.lit (.ofNat 0)), .int .u64 (.lit (.ofNat 0)), .int .u64 (.lit (.ofNat 0)), .int .u64 (.lit (.ofNat 0)), .int .u64 (.lit (.ofNat 0)), .int .u64 (.lit (.ofNat 0)), .int .u64 (.lit (.ofNat 0)), .int .u64 (.lit (.ofNat 0)), .int .u64 (.lit (.ofNat 0))]), none⟩,
⟨(some 3), .p (.mv (.c (.w (.s (.int .i64 (.lit (.ofNat 0))))))), none⟩]) (.seq (.seq (.reg [
⟨(some 4), .p (.mv (.t 0)), none⟩,
⟨(some 5), .b (.cmp 2 .int (.t 4) (.c (.w (.s (.int .i64 (.lit (.ofNat 0))))))), none⟩,
⟨(some 6), .p (.mv (.t 5)), none⟩,
⟨(some 7), .p (.mv (.t 0)), some (6, false)⟩,
⟨(some 8), .b (.cmp 4 .int (.t 7) (.c (.w (.s (.int .i64 (.lit (.ofNat 15))))))), some (6, false)⟩,
⟨(some 9), .p (.pick (.t 6) (.c (.w (.s (.bool true)))) (.t 8)), none⟩]) (.cond (.t 9) (.seq (.reg [
⟨(some 10), .p (.build [.int .i64 (.lit (.ofNat 0)), .int .u64 (.lit (.ofNat 0)), .int .u64 (.lit (.ofNat 0)), .int .u64 (.lit (.ofNat 0)), .int .u64 (.lit (.ofNat 0)), .int .u64 (.lit (.ofNat 0)), .int .u64 (.lit (.ofNat 0)), .int .u64 (.lit (.ofNat 0)), .int .i64 (.lit (.ofNat 0)), .int .i64 (.lit (.ofNat 0)), .int .u64 (.lit (.ofNat 0)), .int .u64 (.lit (.ofNat 0)), .int .u64 (.lit (.ofNat 0)), .int .u64 (.lit (.ofNat 0)), .int .u64 (.lit (.ofNat 0)), .int .u64 (.lit (.ofNat 0)), .int .u64 (.lit (.ofNat 0)), .int .u64 (.lit (.ofNat 0)), .int .u64 (.lit (.ofNat 0)), .int .u64 (.lit (.ofNat 0)), .int .u64 (.lit (.ofNat 0)), .int .u64 (.lit (.ofNat 0)), .int .u64 (.lit (.ofNat 0)), .int .u64 (.lit (.ofNat 0)), .int .u64 (.lit (.ofNat 0)), .int .u64 (.lit (.ofNat 0))] []), none⟩,
⟨none, .b (.store 26 (.t 2) (.t 10)), none⟩,
⟨(some 3), .p (.mv (.c (.w (.s (.int .i64 (.lit (.ofNat 1))))))), none⟩]) (.ret)) (.skip))) (.seq (.reg [
⟨(some 11), .p (.mv (.t 0)), none⟩,
⟨(some 12), .p (.mv (.t 0)), none⟩,
⟨(some 13), .p (.build [.int .i64 (.lit (.ofNat 0)), .int .u64 (.lit (.ofNat 0))] [(0, 1, (.c (.w (.s (.int .i64 (.lit (.ofNat 1))))))), (1, 1, (.c (.w (.s (.int .u64 (.lit (.ofNat 32000)))))))]), none⟩,
⟨(some 14), .m (.bslice 148 1 [.int .i64 (.lit (.ofNat 0)), .int .u64 (.lit (.ofNat 0))] [(0, 2, (.t 13))]), none⟩,
⟨(some 15), .b (.call 62 [(.t 12), (.t 14)]), none⟩,
⟨(some 16), .p (.mv (.t 0)), none⟩,
⟨(some 17), .p (.build [.int .i64 (.lit (.ofNat 0)), .int .u64 (.lit (.ofNat 0))] [(0, 1, (.c (.w (.s (.int .i64 (.lit (.ofNat 0))))))), (1, 1, (.c (.w (.s (.int .u64 (.lit (.ofNat 68)))))))]), none⟩,
⟨(some 18), .p (.build [.int .i64 (.lit (.ofNat 0)), .int .u64 (.lit (.ofNat 0))] [(0, 1, (.c (.w (.s (.int .i64 (.lit (.ofNat 7))))))), (1, 1, (.c (.w (.s (.int .u64 (.lit (.ofNat 16)))))))]), none⟩,
⟨(some 19), .m (.bslice 148 2 [.int .i64 (.lit (.ofNat 0)), .int .u64 (.lit (.ofNat 0))] [(0, 2, (.t 17)), (2, 2, (.t 18))]), none⟩,
⟨(some 20), .b (.call 62 [(.t 16), (.t 19)]), none⟩,
⟨(some 21), .p (.mv (.t 0)), none⟩,
⟨(some 22), .p (.build [.int .i64 (.lit (.ofNat 0)), .int .u64 (.lit (.ofNat 0))] [(0, 1, (.c (.w (.s (.int .i64 (.lit (.ofNat 9))))))), (1, 1, (.c (.w (.s (.int .u64 (.lit (.ofNat 2400)))))))]), none⟩,
⟨(some 23), .m (.bslice 148 1 [.int .i64 (.lit (.ofNat 0)), .int .u64 (.lit (.ofNat 0))] [(0, 2, (.t 22))]), none⟩,
⟨(some 24), .b (.call 62 [(.t 21), (.t 23)]), none⟩,
⟨(some 25), .p (.mv (.t 0)), none⟩,
⟨(some 26), .p (.build [.int .i64 (.lit (.ofNat 0)), .int .u64 (.lit (.ofNat 0))] [(0, 1, (.c (.w (.s (.int .i64 (.lit (.ofNat 9))))))), (1, 1, (.c (.w (.s (.int .u64 (.lit (.ofNat 1900)))))))]), none⟩,
⟨(some 27), .m (.bslice 148 1 [.int .i64 (.lit (.ofNat 0)), .int .u64 (.lit (.ofNat 0))] [(0, 2, (.t 26))]), none⟩,
⟨(some 28), .b (.call 62 [(.t 25), (.t 27)]), none⟩,
⟨(some 29), .p (.mv (.t 0)), none⟩,
⟨(some 30), .p (.build [.int .i64 (.lit (.ofNat 0)), .int .u64 (.lit (.ofNat 0))] [(0, 1, (.c (.w (.s (.int .i64 (.lit (.ofNat 14))))))), (1, 1, (.c (.w (.s (.int .u64 (.lit (.ofNat 2)))))))]), none⟩,
⟨(some 31), .m (.bslice 148 1 [.int .i64 (.lit (.ofNat 0)), .int .u64 (.lit (.ofNat 0))] [(0, 2, (.t 30))]), none⟩,
⟨(some 32), .b (.call 62 [(.t 29), (.t 31)]), none⟩,
⟨(some 33), .p (.mv (.t 0)), none⟩,
⟨(some 34), .p (.build [.int .i64 (.lit (.ofNat 0)), .int .u64 (.lit (.ofNat 0))] [(0, 1, (.c (.w (.s (.int .i64 (.lit (.ofNat 14))))))), (1, 1, (.c (.w (.s (.int .u64 (.lit (.ofNat 49152)))))))]), none⟩,
⟨(some 35), .m (.bslice 148 1 [.int .i64 (.lit (.ofNat 0)), .int .u64 (.lit (.ofNat 0))] [(0, 2, (.t 34))]), none⟩,
⟨(some 36), .b (.call 62 [(.t 33), (.t 35)]), none⟩,
⟨(some 37), .p (.conv .i64 (.t 36)), none⟩,
⟨(some 38), .p (.mv (.t 0)), none⟩,
⟨(some 39), .p (.build [.int .i64 (.lit (.ofNat 0)), .int .u64 (.lit (.ofNat 0))] [(0, 1, (.c (.w (.s (.int .i64 (.lit (.ofNat 3))))))), (1, 1, (.c (.w (.s (.int .u64 (.lit (.ofNat 24576)))))))]), none⟩,
⟨(some 40), .m (.bslice 148 1 [.int .i64 (.lit (.ofNat 0)), .int .u64 (.lit (.ofNat 0))] [(0, 2, (.t 39))]), none⟩,
⟨(some 41), .b (.call 62 [(.t 38), (.t 40)]), none⟩,
⟨(some 42), .p (.conv .i64 (.t 41)), none⟩,
⟨(some 43), .p (.mv (.t 0)), none⟩,
⟨(some 44), .p (.build [.int .i64 (.lit (.ofNat 0)), .int .u64 (.lit (.ofNat 0))] [(0, 1, (.c (.w (.s (.int .i64 (.lit (.ofNat 0))))))), (1, 1, (.c (.w (.s (.int .u64 (.lit (.ofNat 20)))))))]), none⟩,
⟨(some 45), .p (.build [.int .i64 (.lit (.ofNat 0)), .int .u64 (.lit (.ofNat 0))] [(0, 1, (.c (.w (.s (.int .i64 (.lit (.ofNat 2))))))), (1, 1, (.c (.w (.s (.int .u64 (.lit (.ofNat 400)))))))]), none⟩,
⟨(some 46), .p (.build [.int .i64 (.lit (.ofNat 0)), .int .u64 (.lit (.ofNat 0))] [(0, 1, (.c (.w (.s (.int .i64 (.lit (.ofNat 7))))))), (1, 1, (.c (.w (.s (.int .u64 (.lit (.ofNat 700)))))))]), none⟩,
⟨(some 47), .p (.build [.int .i64 (.lit (.ofNat 0)), .int .u64 (.lit (.ofNat 0))] [(0, 1, (.c (.w (.s (.int .i64 (.lit (.ofNat 9))))))), (1, 1, (.c (.w (.s (.int .u64 (.lit (.ofNat 0)))))))]), none⟩,
⟨(some 48), .m (.bslice 148 4 [.int .i64 (.lit (.ofNat 0)), .int .u64 (.lit (.ofNat 0))] [(0, 2, (.t 44)), (2, 2, (.t 45)), (4, 2, (.t 46)), (6, 2, (.t 47))]), none⟩,
⟨(some 49), .b (.call 62 [(.t 43), (.t 48)]), none⟩,
⟨(some 50), .p (.mv (.t 0)), none⟩,
⟨(some 51), .p (.build [.int .i64 (.lit (.ofNat 0)), .int .u64 (.lit (.ofNat 0))] [(0, 1, (.c (.w (.s (.int .i64 (.lit (.ofNat 0))))))), (1, 1, (.c (.w (.s (.int .u64 (.lit (.ofNat 20)))))))]), none⟩,
⟨(some 52), .p (.build [.int .i64 (.lit (.ofNat 0)), .int .u64 (.lit (.ofNat 0))] [(0, 1, (.c (.w (.s (.int .i64 (.lit (.ofNat 2))))))), (1, 1, (.c (.w (.s (.int .u64 (.lit (.ofNat 700)))))))]), none⟩,
⟨(some 53), .p (.build [.int .i64 (.lit (.ofNat 0)), .int .u64 (.lit (.ofNat 0))] [(0, 1, (.c (.w (.s (.int .i64 (.lit (.ofNat 9))))))), (1, 1, (.c (.w (.s (.int .u64 (.lit (.ofNat 0)))))))]), none⟩,
⟨(some 54), .m (.bslice 148 3 [.int .i64 (.lit (.ofNat 0)), .int .u64 (.lit (.ofNat 0))] [(0, 2, (.t 51)), (2, 2, (.t 52)), (4, 2, (.t 53))]), none⟩,
⟨(some 55), .b (.call 62 [(.t 50), (.t 54)]), none⟩,
⟨(some 56), .p (.mv (.t 0)), none⟩,
⟨(some 57), .p (.build [.int .i64 (.lit (.ofNat 0)), .int .u64 (.lit (.ofNat 0))] [(0, 1, (.c (.w (.s (.int .i64 (.lit (.ofNat 5))))))), (1, 1, (.c (.w (.s (.int .u64 (.lit (.ofNat 400)))))))]), none⟩,
⟨(some 58), .p (.build [.int .i64 (.lit (.ofNat 0)), .int .u64 (.lit (.ofNat 0))] [(0, 1, (.c (.w (.s (.int .i64 (.lit (.ofNat 7))))))), (1, 1, (.c (.w (.s (.int .u64 (.lit (.ofNat 700)))))))]), none⟩,
⟨(some 59), .p (.build [.int .i64 (.lit (.ofNat 0)), .int .u64 (.lit (.ofNat 0))] [(0, 1, (.c (.w (.s (.int .i64 (.lit (.ofNat 9))))))), (1, 1, (.c (.w (.s (.int .u64 (.lit (.ofNat 0)))))))]), none⟩,
⟨(some 60), .m (.bslice 148 3 [.int .i64 (.lit (.ofNat 0)), .int .u64 (.lit (.ofNat 0))] [(0, 2, (.t 57)), (2, 2, (.t 58)), (4, 2, (.t 59))]), none⟩,
⟨(some 61), .b (.call 62 [(.t 56), (.t 60)]), none⟩,
⟨(some 62), .p (.mv (.t 0)), none⟩,
⟨(some 63), .p (.build [.int .i64 (.lit (.ofNat 0)), .int .u64 (.lit (.ofNat 0))] [(0, 1, (.c (.w (.s (.int .i64 (.lit (.ofNat 0))))))), (1, 1, (.c (.w (.s (.int .u64 (.lit (.ofNat 50)))))))]), none⟩,
⟨(some 64), .p (.build [.int .i64 (.lit (.ofNat 0)), .int .u64 (.lit (.ofNat 0))] [(0, 1, (.c (.w (.s (.int .i64 (.lit (.ofNat 2))))))), (1, 1, (.c (.w (.s (.int .u64 (.lit (.ofNat 200)))))))]), none⟩,
⟨(some 65), .p (.build [.int .i64 (.lit (.ofNat 0)), .int .u64 (.lit (.ofNat 0))] [(0, 1, (.c (.w (.s (.int .i64 (.lit (.ofNat 7))))))), (1, 1, (.c (.w (.s (.int .u64 (.lit (.ofNat 800)))))))]), none⟩,
⟨(some 66), .p (.build [.int .i64 (.lit (.ofNat 0)), .int .u64 (.lit (.ofNat 0))] [(0, 1, (.c (.w (.s (.int .i64 (.lit (.ofNat 9))))))), (1, 1, (.c (.w (.s (.int .u64 (.lit (.ofNat 0)))))))]), none⟩,
⟨(some 67), .m (.bslice 148 4 [.int .i64 (.lit (.ofNat 0)), .int .u64 (.lit (.ofNat 0))] [(0, 2, (.t 63)), (2, 2, (.t 64)), (4, 2, (.t 65)), (6, 2, (.t 66))]), none⟩,
⟨(some 68), .b (.call 62 [(.t 62), (.t 67)]), none⟩,
⟨(some 69), .p (.mv (.t 0)), none⟩,
⟨(some 70), .p (.build [.int .i64 (.lit (.ofNat 0)), .int .u64 (.lit (.ofNat 0))] [(0, 1, (.c (.w (.s (.int .i64 (.lit (.ofNat 0))))))), (1, 1, (.c (.w (.s (.int .u64 (.lit (.ofNat 40)))))))]), none⟩,
⟨(some 71), .p (.build [.int .i64 (.lit (.ofNat 0)), .int .u64 (.lit (.ofNat 0))] [(0, 1, (.c (.w (.s (.int .i64 (.lit (.ofNat 2))))))), (1, 1, (.c (.w (.s (.int .u64 (.lit (.ofNat 700)))))))]), none⟩,
⟨(some 72), .p (.build [.int .i64 (.lit (.ofNat 0)), .int .u64 (.lit (.ofNat 0))] [(0, 1, (.c (.w (.s (.int .i64 (.lit (.ofNat 9))))))), (1, 1, (.c (.w (.s (.int .u64 (.lit (.ofNat 0)))))))]), none⟩,
⟨(some 73), .m (.bslice 148 3 [.int .i64 (.lit (.ofNat 0)), .int .u64 (.lit (.ofNat 0))] [(0, 2, (.t 70)), (2, 2, (.t 71)), (4, 2, (.t 72))]), none⟩,
⟨(some 74), .b (.call 62 [(.t 69), (.t 73)]), none⟩,
⟨(some 75), .p (.mv (.t 0)), none⟩,
⟨(some 76), .p (.build [.int .i64 (.lit (.ofNat 0)), .int .u64 (.lit (.ofNat 0))] [(0, 1, (.c (.w (.s (.int .i64 (.lit (.ofNat 9))))))), (1, 1, (.c (.w (.s (.int .u64 (.lit (.ofNat 2600)))))))]), none⟩,
⟨(some 77), .m (.bslice 148 1 [.int .i64 (.lit (.ofNat 0)), .int .u64 (.lit (.ofNat 0))] [(0, 2, (.t 76))]), none⟩,
⟨(some 78), .b (.call 62 [(.t 75), (.t 77)]), none⟩,
⟨(some 79), .p (.mv (.t 0)), none⟩,
⟨(some 80), .p (.build [.int .i64 (.lit (.ofNat 0)), .int .u64 (.lit (.ofNat 0))] [(0, 1, (.c (.w (.s (.int .i64 (.lit (.ofNat 9))))))), (1, 1, (.c (.w (.s (.int .u64 (.lit (.ofNat 2100)))))))]), none⟩,
⟨(some 81), .m (.bslice 148 1 [.int .i64 (.lit (.ofNat 0)), .int .u64 (.lit (.ofNat 0))] [(0, 2, (.t 80))]), none⟩,
⟨(some 82), .b (.call 62 [(.t 79), (.t 81)]), none⟩,
⟨(some 83), .p (.mv (.t 0)), none⟩,
⟨(some 84), .p (.build [.int .i64 (.lit (.ofNat 0)), .int .u64 (.lit (.ofNat 0))] [(0, 1, (.c (.w (.s (.int .i64 (.lit (.ofNat 9))))))), (1, 1, (.c (.w (.s (.int .u64 (.lit (.ofNat 100)))))))]), none⟩,
⟨(some 85), .m (.bslice 148 1 [.int .i64 (.lit (.ofNat 0)), .int .u64 (.lit (.ofNat 0))] [(0, 2, (.t 84))]), none⟩,
⟨(some 86), .b (.call 62 [(.t 83), (.t 85)]), none⟩,
⟨(some 87), .p (.mv (.t 0)), none⟩,
⟨(some 88), .p (.build [.int .i64 (.lit (.ofNat 0)), .int .u64 (.lit (.ofNat 0))] [(0, 1, (.c (.w (.s (.int .i64 (.lit (.ofNat 2))))))), (1, 1, (.c (.w (.s (.int .u64 (.lit (.ofNat 5000)))))))]), none⟩,
⟨(some 89), .m (.bslice 148 1 [.int .i64 (.lit (.ofNat 0)), .int .u64 (.lit (.ofNat 0))] [(0, 2, (.t 88))]), none⟩,
⟨(some 90), .b (.call 62 [(.t 87), (.t 89)]), none⟩,
⟨(some 91), .p (.mv (.t 0)), none⟩,
⟨(some 92), .p (.build [.int .i64 (.lit (.ofNat 0)), .int .u64 (.lit (.ofNat 0))] [(0, 1, (.c (.w (.s (.int .i64 (.lit (.ofNat 2))))))), (1, 1, (.c (.w (.s (.int .u64 (.lit (.ofNat 25000)))))))]), none⟩,
⟨(some 93), .m (.bslice 148 1 [.int .i64 (.lit (.ofNat 0)), .int .u64 (.lit (.ofNat 0))] [(0, 2, (.t 92))]), none⟩,
⟨(some 94), .b (.call 62 [(.t 91), (.t 93)]), none⟩,
⟨(some 95), .p (.mv (.t 0)), none⟩,
⟨(some 96), .p (.build [.int .i64 (.lit (.ofNat 0)), .int .u64 (.lit (.ofNat 0))] [(0, 1, (.c (.w (.s (.int .i64 (.lit (.ofNat 0))))))), (1, 1, (.c (.w (.s (.int .u64 (.lit (.ofNat 24000)))))))]), none⟩,
⟨(some 97), .p (.build [.int .i64 (.lit (.ofNat 0)), .int .u64 (.lit (.ofNat 0))] [(0, 1, (.c (.w (.s (.int .i64 (.lit (.ofNat 10))))))), (1, 1, (.c (.w (.s (.int .u64 (.lit (.ofNat 0)))))))]), none⟩,
⟨(some 98), .m (.bslice 148 2 [.int .i64 (.lit (.ofNat 0)), .int .u64 (.lit (.ofNat 0))] [(0, 2, (.t 96)), (2, 2, (.t 97))]), none⟩,
⟨(some 99), .b (.call 62 [(.t 95), (.t 98)]), none⟩,
⟨(some 100), .p (.mv (.t 0)), none⟩,
⟨(some 101), .p (.build [.int .i64 (.lit (.ofNat 0)), .int .u64 (.lit (.ofNat 0))] [(0, 1, (.c (.w (.s (.int .i64 (.lit (.ofNat 0))))))), (1, 1, (.c (.w (.s (.int .u64 (.lit (.ofNat 10)))))))]), none⟩,
⟨(some 102), .p (.build [.int .i64 (.lit (.ofNat 0)), .int .u64 (.lit (.ofNat 0))] [(0, 1, (.c (.w (.s (.int .i64 (.lit (.ofNat 3))))))), (1, 1, (.c (.w (.s (.int .u64 (.lit (.ofNat 50)))))))]), none⟩,
⟨(some 103), .m (.bslice 148 2 [.int .i64 (.lit (.ofNat 0)), .int .u64 (.lit (.ofNat 0))] [(0, 2, (.t 101)), (2, 2, (.t 102))]), none⟩,
⟨(some 104), .b (.call 62 [(.t 100), (.t 103)]), none⟩,
⟨(some 105), .p (.mv (.t 0)), none⟩,
⟨(some 106), .p (.build [.int .i64 (.lit (.ofNat 0)), .int .u64 (.lit (.ofNat 0))] [(0, 1, (.c (.w (.s (.int .i64 (.lit (.ofNat 0))))))), (1, 1, (.c (.w (.s (.int .u64 (.lit (.ofNat 15000)))))))]), none⟩,
⟨(some 107), .p (.build [.int .i64 (.lit (.ofNat 0)), .int .u64 (.lit (.ofNat 0))] [(0, 1, (.c (.w (.s (.int .i64 (.lit (.ofNat 10))))))), (1, 1, (.c (.w (.s (.int .u64 (.lit (.ofNat 4800)))))))]), none⟩,
⟨(some 108), .m (.bslice 148 2 [.int .i64 (.lit (.ofNat 0)), .int .u64 (.lit (.ofNat 0))] [(0, 2, (.t 106)), (2, 2, (.t 107))]), none⟩,
⟨(some 109), .b (.call 62 [(.t 105), (.t 108)]), none⟩,
⟨(some 110), .p (.mv (.t 0)), none⟩,
⟨(some 111), .p (.build [.int .i64 (.lit (.ofNat 0)), .int .u64 (.lit (.ofNat 0))] [(0, 1, (.c (.w (.s (.int .i64 (.lit (.ofNat 0))))))), (1, 1, (.c (.w (.s (.int .u64 (.lit (.ofNat 2)))))))]), none⟩,
⟨(some 112), .p (.build [.int .i64 (.lit (.ofNat 0)), .int .u64 (.lit (.ofNat 0))] [(0, 1, (.c (.w (.s (.int .i64 (.lit (.ofNat 10))))))), (1, 1, (.c (.w (.s (.int .u64 (.lit (.ofNat 5)))))))]), none⟩,
⟨(some 113), .m (.bslice 148 2 [.int .i64 (.lit (.ofNat 0)), .int .u64 (.lit (.ofNat 0))] [(0, 2, (.t 111)), (2, 2, (.t 112))]), none⟩,
⟨(some 114), .b (.call 62 [(.t 110), (.t 113)]), none⟩,
⟨(some 115), .p (.mv (.t 0)), none⟩,
⟨(some 116), .p (.build [.int .i64 (.lit (.ofNat 0)), .int .u64 (.lit (.ofNat 0))] [(0, 1, (.c (.w (.s (.int .i64 (.lit (.ofNat 0))))))), (1, 1, (.c (.w (.s (.int .u64 (.lit (.ofNat 5000000000000000000)))))))]), none⟩,
⟨(some 117), .p (.build [.int .i64 (.lit (.ofNat 0)), .int .u64 (.lit (.ofNat 0))] [(0, 1, (.c (.w (.s (.int .i64 (.lit (.ofNat 4))))))), (1, 1, (.c (.w (.s (.int .u64 (.lit (.ofNat 3000000000000000000)))))))]), none⟩,
⟨(some 118), .p (.build [.int .i64 (.lit (.ofNat 0)), .int .u64 (.lit (.ofNat 0))] [(0, 1, (.c (.w (.s (.int .i64 (.lit (.ofNat 5))))))), (1, 1, (.c (.w (.s (.int .u64 (.lit (.ofNat 2000000000000000000)))))))]), none⟩,
⟨(some 119), .p (.build [.int .i64 (.lit (.ofNat 0)), .int .u64 (.lit (.ofNat 0))] [(0, 1, (.c (.w (.s (.int .i64 (.lit (.ofNat 13))))))), (1, 1, (.c (.w (.s (.int .u64 (.lit (.ofNat 0)))))))]), none⟩,
⟨(some 120), .m (.bslice 148 4 [.int .i64 (.lit (.ofNat 0)), .int .u64 (.lit (.ofNat 0))] [(0, 2, (.t 116)), (2, 2, (.t 117)), (4, 2, (.t 118)), (6, 2, (.t 119))]), none⟩,
⟨(some 121), .b (.call 62 [(.t 115), (.t 120)]), none⟩,
⟨(some 122), .p (.mv (.t 0)), none⟩,
⟨(some 123), .p (.build [.int .i64 (.lit (.ofNat 0)), .int .u64 (.lit (.ofNat 0))] [(0, 1, (.c (.w (.s (.int .i64 (.lit (.ofNat 4))))))), (1, 1, (.c (.w (.s (.int .u64 (.lit (.ofNat 3000000)))))))]), none⟩,
⟨(some 124), .p (.build [.int .i64 (.lit (.ofNat 0)), .int .u64 (.lit (.ofNat 0))] [(0, 1, (.c (.w (.s (.int .i64 (.lit (.ofNat 5))))))), (1, 1, (.c (.w (.s (.int .u64 (.lit (.ofNat 5000000)))))))]), none⟩,
⟨(some 125), .p (.build [.int .i64 (.lit (.ofNat 0)), .int .u64 (.lit (.ofNat 0))] [(0, 1, (.c (.w (.s (.int .i64 (.lit (.ofNat 8))))))), (1, 1, (.c (.w (.s (.int .u64 (.lit (.ofNat 9000000)))))))]), none⟩,
⟨(some 126), .p (.build [.int .i64 (.lit (.ofNat 0)), .int .u64 (.lit (.ofNat 0))] [(0, 1, (.c (.w (.s (.int .i64 (.lit (.ofNat 10))))))), (1, 1, (.c (.w (.s (.int .u64 (.lit (.ofNat 9700000)))))))]), none⟩,
⟨(some 127), .p (.build [.int .i64 (.lit (.ofNat 0)), .int .u64 (.lit (.ofNat 0))] [(0, 1, (.c (.w (.s (.int .i64 (.lit (.ofNat 11))))))), (1, 1, (.c (.w (.s (.int .u64 (.lit (.ofNat 10700000)))))))]), none⟩,
⟨(some 128), .p (.build [.int .i64 (.lit (.ofNat 0)), .int .u64 (.lit (.ofNat 0))] [(0, 1, (.c (.w (.s (.int .i64 (.lit (.ofNat 12))))))), (1, 1, (.c (.w (.s (.int .u64 (.lit (.ofNat 11400000)))))))]), none⟩,
⟨(some 129), .p (.build [.int .i64 (.lit (.ofNat 0)), .int .u64 (.lit (.ofNat 0))] [(0, 1, (.c (.w (.s (.int .i64 (.lit (.ofNat 13))))))), (1, 1, (.c (.w (.s (.int .u64 (.lit (.ofNat 0)))))))]), none⟩,
⟨(some 130), .m (.bslice 148 7 [.int .i64 (.lit (.ofNat 0)), .int .u64 (.lit (.ofNat 0))] [(0, 2, (.t 123)), (2, 2, (.t 124)), (4, 2, (.t 125)), (6, 2, (.t 126)), (8, 2, (.t 127)), (10, 2, (.t 128)), (12, 2, (.t 129))]), none⟩,
⟨(some 131), .b (.call 62 [(.t 122), (.t 130)]), none⟩,
⟨(some 132), .p (.build [.int .i64 (.lit (.ofNat 0)), .int .u64 (.lit (.ofNat 0)), .int .u64 (.lit (.ofNat 0)), .int .u64 (.lit (.ofNat 0)), .int .u64 (.lit (.ofNat 0)), .int .u64 (.lit (.ofNat 0)), .int .u64 (.lit (.ofNat 0)), .int .u64 (.lit (.ofNat 0)), .int .i64 (.lit (.ofNat 0)), .int .i64 (.lit (.ofNat 0)), .int .u64 (.lit (.ofNat 0)), .int .u64 (.lit (.ofNat 0)), .int .u64 (.lit (.ofNat 0)), .int .u64 (.lit (.ofNat 0)), .int .u64 (.lit (.ofNat 0)), .int .u64 (.lit (.ofNat 0)), .int .u64 (.lit (.ofNat 0)), .int .u64 (.lit (.ofNat 0)), .int .u64 (.lit (.ofNat 0)), .int .u64 (.lit (.ofNat 0)), .int .u64 (.lit (.ofNat 0)), .int .u64 (.lit (.ofNat 0)), .int .u64 (.lit (.ofNat 0)), .int .u64 (.lit (.ofNat 0)), .int .u64 (.lit (.ofNat 0)), .int .u64 (.lit (.ofNat 0))] [(0, 1, (.t 11)), (1, 1, (.c (.w (.s (.int .u64 (.lit (.ofNat 21000))))))), (2, 1, (.t 15)), (3, 1, (.c (.w (.s (.int .u64 (.lit (.ofNat 4))))))), (4, 1, (.t 20)), (5, 1, (.t 24)), (6, 1, (.t 28)), (7, 1, (.t 32)), (8, 1, (.t 37)), (9, 1, (.t 42)), (10, 1, (.t 49)), (11, 1, (.t 55)), (12, 1, (.t 61)), (13, 1, (.t 68)), (14, 1, (.t 74)), (15, 1, (.t 78)), (16, 1, (.t 82)), (17, 1, (.t 86)), (18, 1, (.t 90)), (19, 1, (.t 94)), (20, 1, (.t 99)), (21, 1, (.t 104)), (22, 1, (.t 109)), (23, 1, (.t 114)), (24, 1, (.t 121)), (25, 1, (.t 131))]), none⟩,
⟨none, .b (.store 26 (.t 2) (.t 132)), none⟩,
⟨(some 3), .p (.mv (.c (.w (.s (.int .i64 (.lit (.ofNat 0))))))), none⟩]) (.ret)))⟩
theorem fo48 : ∃ func code hint, FnOk Go.Proofs.Tryz.prog TT 48 fa48 func code hint := ⟨Go.Proofs.Tryz.f48, bodyOf Go.Proofs.Tryz.f48, hintL [], ⟨Go.Proofs.Tryz.func48, Go.Proofs.Tryz.call48, by kernel_rfl, by kernel_rfl, by kernel_rfl, by kernel_rfl⟩⟩
/- quarry/code.Pops -/
def fa49 : AFunc := ⟨63, [.tmp 4, .tmp 5, .tmp 6], .seq (.reg [
⟨(some 4), .p (.mv (.c (.w (.s (.int .i64 (.lit (.ofNat 0))))))), none⟩,
⟨(some 5), .p (.mv (.c (.w (.s (.int .i64 (.lit (.ofNat 0))))))), none⟩,
⟨(some 6), .p (.mv (.c (.w (.s (.bool false))))), none⟩]) (.seq (.seq (.reg [
⟨(some 9), .p (.mv (.t 0)), none⟩,
⟨(some 10), .p (.mv (.t 1)), none⟩,
⟨(some 11), .b (.call 63 [(.t 9), (.t 10)]), none⟩,
⟨(some 12), .p (.not (.t 11)), none⟩]) (.cond (.t 12) (.seq (.reg [
⟨(some 4), .p (.mv (.c (.w (.s (.int .i64 (.lit (.ofNat 0))))))), none⟩,
⟨(some 5), .p (.mv (.c (.w (.s (.int .i64 (.lit (.ofNat 0))))))), none⟩,
⟨(some 6), .p (.mv (.c (.w (.s (.bool false))))), none⟩]) (.ret)) (.skip))) (.seq (.block 0 (.seq (.reg [
⟨(some 14), .p (.mv (.t 1)), none⟩,
⟨(some 15), .b (.cmp 5 .int (.t 14) (.c (.w (.s (.int .i64 (.lit (.ofNat 95))))))), none⟩,
⟨(some 16), .p (.mv (.t 15)), none⟩,
⟨(some 17), .p (.mv (.t 1)), some (16, true)⟩,
⟨(some 18), .b (.cmp 3 .int (.t 17) (.c (.w (.s (.int .i64 (.lit (.ofNat 127))))))), some (16, true)⟩,
⟨(some 19), .p (.pick (.t 16) (.t 18) (.c (.w (.s (.bool false))))), none⟩,
⟨(some 13), .p (.mv (.t 19)), none⟩]) (.cond (.t 13) (.seq (.reg [
⟨(some 4), .p (.mv (.c (.w (.s (.int .i64 (.lit (.ofNat 0))))))), none⟩,
⟨(some 5), .p (.mv (.c (.w (.s (.int .i64 (.lit (.ofNat 1))))))), none⟩,
⟨(some 6), .p (.mv (.c (.w (.s (.bool true))))), none⟩]) (.ret)) (.seq (.reg [
⟨(some 21), .p (.mv (.t 1)), none⟩,
⟨(some 22), .b (.cmp 5 .int (.t 21) (.c (.w (.s (.int .i64 (.lit (.ofNat 128))))))), none⟩,
⟨(some 23), .p (.mv (.t 22)), none⟩,
⟨(some 24), .p (.mv (.t 1)), some (23, true)⟩,
⟨(some 25), .b (.cmp 2 .int (.t 24) (.c (.w (.s (.int .i64 (.lit (.ofNat 144))))))), some (23, true)⟩,
⟨(some 26), .p (.pick (.t 23) (.t 25) (.c (.w (.s (.bool false))))), none⟩,
⟨(some 20), .p (.mv (.t 26)), none⟩]) (.cond (.t 20) (.seq (.reg [
⟨(some 27), .p (.mv (.t 1)), none⟩,
⟨(some 28), .p (.ar 1 (.t 27) (.c (.w (.s (.int .i64 (.lit (.ofNat 128))))))), none⟩,
⟨(some 29), .p (.ar 0 (.t 28) (.c (.w (.s (.int .i64 (.lit (.ofNat 1))))))), none⟩,
⟨(some 30), .p (.mv (.t 1)), none⟩,
⟨(some 31), .p (.ar 1 (.t 30) (.c (.w (.s (.int .i64 (.lit (.ofNat 128))))))), none⟩,
⟨(some 32), .p (.ar 0 (.t 31) (.c (.w (.s (.int .i64 (.lit (.ofNat 2))))))), none⟩,
⟨(some 4), .p (.mv (.t 29)), none⟩,
⟨(some 5), .p (.mv (.t 32)), none⟩,
⟨(some 6), .p (.mv (.c (.w (.s (.bool true))))), none⟩]) (.ret)) (.seq (.reg [
⟨(some 34), .p (.mv (.t 1)), none⟩,
⟨(some 35), .b (.cmp 5 .int (.t 34) (.c (.w (.s (.int .i64 (.lit (.ofNat 144))))))), none⟩,
⟨(some 36), .p (.mv (.t 35)), none⟩,
⟨(some 37), .p (.mv (.t 1)), some (36, true)⟩,
⟨(some 38), .b (.cmp 2 .int (.t 37) (.c (.w (.s (.int .i64 (.lit (.ofNat 160))))))), some (36, true)⟩,
⟨(some 39), .p (.pick (.t 36) (.t 38) (.c (.w (.s (.bool false))))), none⟩,
⟨(some 33), .p (.mv (.t 39)), none⟩]) (.cond (.t 33) (.seq (.reg [
⟨(some 40), .p (.mv (.t 1)), none⟩,
⟨(some 41), .p (.ar 1 (.t 40) (.c (.w (.s (.int .i64 (.lit (.ofNat 144))))))), none⟩,
⟨(some 42), .p (.ar 0 (.t 41) (.c (.w (.s (.int .i64 (.lit (.ofNat 2))))))), none⟩,
⟨(some 43), .p (.mv (.t 1)), none⟩,
⟨(some 44), .p (.ar 1 (.t 43) (.c (.w (.s (.int .i64 (.lit (.ofNat 144))))))), none⟩,
⟨(some 45), .p (.ar 0 (.t 44) (.c (.w (.s (.int .i64 (.lit (.ofNat 2))))))), none⟩,
⟨(some 4), .p (.mv (.t 42)), none⟩,
⟨(some 5), .p (.mv (.t 45)), none⟩,
⟨(some 6), .p (.mv (.c (.w (.s (.bool true))))), none⟩]) (.ret)) (.seq (.reg [
⟨(some 47), .p (.mv (.t 1)), none⟩,
⟨(some 48), .b (.cmp 5 .int (.t 47) (.c (.w (.s (.int .i64 (.lit (.ofNat 160))))))), none⟩,
⟨(some 49), .p (.mv (.t 48)), none⟩,
⟨(some 50), .p (.mv (.t 1)), some (49, true)⟩,
⟨(some 51), .b (.cmp 3 .int (.t 50) (.c (.w (.s (.int .i64 (.lit (.ofNat 164))))))), some (49, true)⟩,
⟨(some 52), .p (.pick (.t 49) (.t 51) (.c (.w (.s (.bool false))))), none⟩,
⟨(some 46), .p (.mv (.t 52)), none⟩]) (.cond (.t 46) (.seq (.reg [
⟨(some 53), .p (.mv (.t 1)), none⟩,
⟨(some 54), .p (.ar 1 (.t 53) (.c (.w (.s (.int .i64 (.lit (.ofNat 160))))))), none⟩,
⟨(some 55), .p (.ar 0 (.t 54) (.c (.w (.s (.int .i64 (.lit (.ofNat 2))))))), none⟩,
⟨(some 4), .p (.mv (.t 55)), none⟩,
⟨(some 5), .p (.mv (.c (.w (.s (.int .i64 (.lit (.ofNat 0))))))), none⟩,
⟨(some 6), .p (.mv (.c (.w (.s (.bool true))))), none⟩]) (.ret)) (.skip)))))))))) (.seq (.reg [
⟨(some 57), .p (.mv (.t 1)), none⟩,
⟨(some 58), .b (.call 64 [(.t 57)]), none⟩,
⟨(some 56), .p (.mv (.t 58)), none⟩,
⟨(some 59), .p (.ext (.t 56) 0), none⟩,
⟨(some 60), .p (.ext (.t 56) 1), none⟩,
⟨(some 7), .p (.mv (.t 59)), none⟩,
⟨(some 8), .p (.mv (.t 60)), none⟩]) (.seq (.reg [
⟨(some 61), .p (.mv (.t 7)), none⟩,
⟨(some 62), .p (.mv (.t 8)), none⟩,
⟨(some 4), .p (.mv (.t 61)), none⟩,
⟨(some 5), .p (.mv (.t 62)), none⟩,
⟨(some 6), .p (.mv (.c (.w (.s (.bool true))))), none⟩]) (.ret)))))⟩
theorem fo49 : ∃ func code hint, FnOk Go.Proofs.Tryz.prog TT 49 fa49 func code hint := ⟨Go.Proofs.Tryz.f49, bodyOf Go.Proofs.Tryz.f49, hintL [], ⟨Go.Proofs.Tryz.func49, Go.Proofs.Tryz.call49, by kernel_rfl, by kernel_rfl, by kernel_rfl, by kernel_rfl⟩⟩
/- quarry/gas.Base -/
def fa50 : AFunc := ⟨102, [.tmp 4], .seq (.reg [
⟨(some 2), .m (.box 49 (.t 0)), none⟩,
⟨(some 4), .p (.mv (.c (.w (.s (.int .u64 (.lit (.ofNat 0))))))), none⟩]) (.seq (.seq (.reg [
⟨(some 5), .p (.faddr 0 (.t 2)), none⟩,
⟨(some 6), .r (.load none (.t 5)), none⟩,
⟨(some 7), .p (.mv (.t 1)), none⟩,
⟨(some 8), .b (.call 63 [(.t 6), (.t 7)]), none⟩,
⟨(some 9), .p (.not (.t 8)), none⟩]) (.cond (.t 9) (.seq (.reg [
⟨(some 4), .p (.mv (.c (.w (.s (.int .u64 (.lit (.ofNat 0))))))), none⟩]) (.ret)) (.skip))) (.seq (.block 0 (.seq (.seq (.reg [
⟨(some 11), .p (.mv (.t 1)), none⟩,
⟨(some 12), .b (.call 65 [(.t 11), (.c (.w (.s (.int .i64 (.lit (.ofNat 16)))))), (.c (.w (.s (.int .i64 (.lit (.ofNat 29))))))]), none⟩,
⟨(some 10), .p (.mv (.t 12)), none⟩]) (.cond (.t 10) (.skip) (.seq (.reg [
⟨(some 13), .p (.mv (.t 1)), none⟩,
⟨(some 14), .b (.call 65 [(.t 13), (.c (.w (.s (.int .i64 (.lit (.ofNat 81)))))), (.c (.w (.s (.int .i64 (.lit (.ofNat 83))))))]), none⟩,
⟨(some 10), .p (.mv (.t 14)), none⟩]) (.cond (.t 10) (.skip) (.reg [
⟨(some 15), .p (.mv (.t 1)), none⟩,
⟨(some 16), .b (.call 65 [(.t 15), (.c (.w (.s (.int .i64 (.lit (.ofNat 96)))))), (.c (.w (.s (.int .i64 (.lit (.ofNat 159))))))]), none⟩,
⟨(some 10), .p (.mv (.t 16)), none⟩]))))) (.cond (.t 10) (.seq (.reg [
⟨(some 4), .p (.mv (.c (.w (.s (.int .u64 (.lit (.ofNat 3))))))), none⟩]) (.ret)) (.seq (.seq (.reg [
⟨(some 18), .p (.mv (.t 1)), none⟩,
⟨(some 19), .b (.call 65 [(.t 18), (.c (.w (.s (.int .i64 (.lit (.ofNat 50)))))), (.c (.w (.s (.int .i64 (.lit (.ofNat 52))))))]), none⟩,
⟨(some 17), .p (.mv (.t 19)), none⟩]) (.cond (.t 17) (.skip) (.seq (.reg [
⟨(some 20), .p (.mv (.t 1)), none⟩,
⟨(some 21), .b (.call 65 [(.t 20), (.c (.w (.s (.int .i64 (.lit (.ofNat 65)))))), (.c (.w (.s (.int .i64 (.lit (.ofNat 70))))))]), none⟩,
⟨(some 17), .p (.mv (.t 21)), none⟩]) (.cond (.t 17) (.skip) (.reg [
⟨(some 22), .p (.mv (.t 1)), none⟩,
⟨(some 23), .b (.call 65 [(.t 22), (.c (.w (.s (.int .i64 (.lit (.ofNat 88)))))), (.c (.w (.s (.int .i64 (.lit (.ofNat 90))))))]), none⟩,
⟨(some 17), .p (.mv (.t 23)), none⟩]))))) (.cond (.t 17) (.seq (.reg [
⟨(some 4), .p (.mv (.c (.w (.s (.int .u64 (.lit (.ofNat 2))))))), none⟩]) (.ret)) (.seq (.reg [
⟨(some 25), .p (.mv (.t 1)), none⟩,
⟨(some 26), .b (.call 65 [(.t 25), (.c (.w (.s (.int .i64 (.lit (.ofNat 160)))))), (.c (.w (.s (.int .i64 (.lit (.ofNat 164))))))]), none⟩,
⟨(some 24), .p (.mv (.t 26)), none⟩]) (.cond (.t 24) (.seq (.reg [
⟨(some 4), .p (.mv (.c (.w (.s (.int .u64 (.lit (.ofNat 375))))))), none⟩]) (.ret)) (.skip)))))))) (.seq (.seq (.reg [
⟨(some 27), .p (.mv (.t 1)), none⟩]) (.block 1 (.seq (.seq (.reg [
⟨(some 29), .b (.cmp 0 .int (.t 27) (.c (.w (.s (.int .i64 (.lit (.ofNat 48))))))), none⟩,
⟨(some 28), .p (.mv (.t 29)), none⟩]) (.cond (.t 28) (.skip) (.seq (.reg [
⟨(some 30), .b (.cmp 0 .int (.t 27) (.c (.w (.s (.int .i64 (.lit (.ofNat 54))))))), none⟩,
⟨(some 28), .p (.mv (.t 30)), none⟩]) (.cond (.t 28) (.skip) (.seq (.reg [
⟨(some 31), .b (.cmp 0 .int (.t 27) (.c (.w (.s (.int .i64 (.lit (.ofNat 56))))))), none⟩,
⟨(some 28), .p (.mv (.t 31)), none⟩]) (.cond (.t 28) (.skip) (.seq (.reg [
⟨(some 32), .b (.cmp 0 .int (.t 27) (.c (.w (.s (.int .i64 (.lit (.ofNat 58))))))), none⟩,
⟨(some 28), .p (.mv (.t 32)), none⟩]) (.cond (.t 28) (.skip) (.seq (.reg [
⟨(some 33), .b (.cmp 0 .int (.t 27) (.c (.w (.s (.int .i64 (.lit (.ofNat 61))))))), none⟩,
⟨(some 28), .p (.mv (.t 33)), none⟩]) (.cond (.t 28) (.skip) (.seq (.reg [
⟨(some 34), .b (.cmp 0 .int (.t 27) (.c (.w (.s (.int .i64 (.lit (.ofNat 72))))))), none⟩,
⟨(some 28), .p (.mv (.t 34)), none⟩]) (.cond (.t 28) (.skip) (.seq (.reg [
⟨(some 35), .b (.cmp 0 .int (.t 27) (.c (.w (.s (.int .i64 (.lit (.ofNat 74))))))), none⟩,
⟨(some 28), .p (.mv (.t 35)), none⟩]) (.cond (.t 28) (.skip) (.seq (.reg [
⟨(some 36), .b (.cmp 0 .int (.t 27) (.c (.w (.s (.int .i64 (.lit (.ofNat 80))))))), none⟩,
⟨(some 28), .p (.mv (.t 36)), none⟩]) (.cond (.t 28) (.skip) (.reg [
⟨(some 37), .b (.cmp 0 .int (.t 27) (.c (.w (.s (.int .i64 (.lit (.ofNat 95))))))), none⟩,
⟨(some 28), .p (.mv (.t 37)), none⟩]))))))))))))))))) (.cond (.t 28) (.seq (.reg [
⟨(some 4), .p (.mv (.c (.w (.s (.int .u64 (.lit (.ofNat 2))))))), none⟩]) (.ret)) (.seq (.seq (.reg [
⟨(some 39), .b (.cmp 0 .int (.t 27) (.c (.w (.s (.int .i64 (.lit (.ofNat 1))))))), none⟩,
⟨(some 38), .p (.mv (.t 39)), none⟩]) (.cond (.t 38) (.skip) (.seq (.reg [
⟨(some 40), .b (.cmp 0 .int (.t 27) (.c (.w (.s (.int .i64 (.lit (.ofNat 3))))))), none⟩,
⟨(some 38), .p (.mv (.t 40)), none⟩]) (.cond (.t 38) (.skip) (.seq (.reg [
⟨(some 41), .b (.cmp 0 .int (.t 27) (.c (.w (.s (.int .i64 (.lit (.ofNat 53))))))), none⟩,
⟨(some 38), .p (.mv (.t 41)), none⟩]) (.cond (.t 38) (.skip) (.seq (.reg [
⟨(some 42), .b (.cmp 0 .int (.t 27) (.c (.w (.s (.int .i64 (.lit (.ofNat 55))))))), none⟩,
⟨(some 38), .p (.mv (.t 42)), none⟩]) (.cond (.t 38) (.skip) (.seq (.reg [
⟨(some 43), .b (.cmp 0 .int (.t 27) (.c (.w (.s (.int .i64 (.lit (.ofNat 57))))))), none⟩,
⟨(some 38), .p (.mv (.t 43)), none⟩]) (.cond (.t 38) (.skip) (.seq (.reg [
⟨(some 44), .b (.cmp 0 .int (.t 27) (.c (.w (.s (.int .i64 (.lit (.ofNat 62))))))), none⟩,
⟨(some 38), .p (.mv (.t 44)), none⟩]) (.cond (.t 38) (.skip) (.seq (.reg [
⟨(some 45), .b (.cmp 0 .int (.t 27) (.c (.w (.s (.int .i64 (.lit (.ofNat 73))))))), none⟩,
⟨(some 38), .p (.mv (.t 45)), none⟩]) (.cond (.t 38) (.skip) (.reg [
⟨(some 46), .b (.cmp 0 .int (.t 27) (.c (.w (.s (.int .i64 (.lit (.ofNat 94))))))), none⟩,
⟨(some 38), .p (.mv (.t 46)), none⟩]))))))))))))))) (.cond (.t 38) (.seq (.reg [
⟨(some 4), .p (.mv (.c (.w (.s (.int .u64 (.lit (.ofNat 3))))))), none⟩]) (.ret)) (.seq (.seq (.reg [
⟨(some 48), .b (.cmp 0 .int (.t 27) (.c (.w (.s (.int .i64 (.lit (.ofNat 2))))))), none⟩,
⟨(some 47), .p (.mv (.t 48)), none⟩]) (.cond (.t 47) (.skip) (.seq (.reg [
⟨(some 49), .b (.cmp 0 .int (.t 27) (.c (.w (.s (.int .i64 (.lit (.ofNat 4))))))), none⟩,
⟨(some 47), .p (.mv (.t 49)), none⟩]) (.cond (.t 47) (.skip) (.seq (.reg [
⟨(some 50), .b (.cmp 0 .int (.t 27) (.c (.w (.s (.int .i64 (.lit (.ofNat 5))))))), none⟩,
⟨(some 47), .p (.mv (.t 50)), none⟩]) (.cond (.t 47) (.skip) (.seq (.reg [
⟨(some 51), .b (.cmp 0 .int (.t 27) (.c (.w (.s (.int .i64 (.lit (.ofNat 6))))))), none⟩,
⟨(some 47), .p (.mv (.t 51)), none⟩]) (.cond (.t 47) (.skip) (.seq (.reg [
⟨(some 52), .b (.cmp 0 .int (.t 27) (.c (.w (.s (.int .i64 (.lit (.ofNat 7))))))), none⟩,
⟨(some 47), .p (.mv (.t 52)), none⟩]) (.cond (.t 47) (.skip) (.seq (.reg [
⟨(some 53), .b (.cmp 0 .int (.t 27) (.c (.w (.s (.int .i64 (.lit (.ofNat 11))))))), none⟩,
⟨(some 47), .p (.mv (.t 53)), none⟩]) (.cond (.t 47) (.skip) (.reg [
⟨(some 54), .b (.cmp 0 .int (.t 27) (.c (.w (.s (.int .i64 (.lit (.ofNat 71))))))), none⟩,
⟨(some 47), .p (.mv (.t 54)), none⟩]))))))))))))) (.cond (.t 47) (.seq (.reg [
⟨(some 4), .p (.mv (.c (.w (.s (.int .u64 (.lit (.ofNat 5))))))), none⟩]) (.ret)) (.seq (.seq (.reg [
⟨(some 56), .b (.cmp 0 .int (.t 27) (.c (.w (.s (.int .i64 (.lit (.ofNat 8))))))), none⟩,
⟨(some 55), .p (.mv (.t 56)), none⟩]) (.cond (.t 55) (.skip) (.seq (.reg [
⟨(some 57), .b (.cmp 0 .int (.t 27) (.c (.w (.s (.int .i64 (.lit (.ofNat 9))))))), none⟩,
⟨(some 55), .p (.mv (.t 57)), none⟩]) (.cond (.t 55) (.skip) (.reg [
⟨(some 58), .b (.cmp 0 .int (.t 27) (.c (.w (.s (.int .i64 (.lit (.ofNat 86))))))), none⟩,
⟨(some 55), .p (.mv (.t 58)), none⟩]))))) (.cond (.t 55) (.seq (.reg [
⟨(some 4), .p (.mv (.c (.w (.s (.int .u64 (.lit (.ofNat 8))))))), none⟩]) (.ret)) (.seq (.seq (.reg [
⟨(some 60), .b (.cmp 0 .int (.t 27) (.c (.w (.s (.int .i64 (.lit (.ofNat 10))))))), none⟩,
⟨(some 59), .p (.mv (.t 60)), none⟩]) (.cond (.t 59) (.skip) (.reg [
⟨(some 61), .b (.cmp 0 .int (.t 27) (.c (.w (.s (.int .i64 (.lit (.ofNat 87))))))), none⟩,
⟨(some 59), .p (.mv (.t 61)), none⟩]))) (.cond (.t 59) (.seq (.reg [
⟨(some 4), .p (.mv (.c (.w (.s (.int .u64 (.lit (.ofNat 10))))))), none⟩]) (.ret)) (.seq (.reg [
⟨(some 63), .b (.cmp 0 .int (.t 27) (.c (.w (.s (.int .i64 (.lit (.ofNat 32))))))), none⟩,
⟨(some 62), .p (.mv (.t 63)), none⟩]) (.cond (.t 62) (.seq (.reg [
⟨(some 4), .p (.mv (.c (.w (.s (.int .u64 (.lit (.ofNat 30))))))), none⟩]) (.ret)) (.seq (.reg [
⟨(some 65), .b (.cmp 0 .int (.t 27) (.c (.w (.s (.int .i64 (.lit (.ofNat 64))))))), none⟩,
⟨(some 64), .p (.mv (.t 65)), none⟩]) (.cond (.t 64) (.seq (.reg [
⟨(some 4), .p (.mv (.c (.w (.s (.int .u64 (.lit (.ofNat 20))))))), none⟩]) (.ret)) (.seq (.reg [
⟨(some 67), .b (.cmp 0 .int (.t 27) (.c (.w (.s (.int .i64 (.lit (.ofNat 91))))))), none⟩,
⟨(some 66), .p (.mv (.t 67)), none⟩]) (.cond (.t 66) (.seq (.reg [
⟨(some 4), .p (.mv (.c (.w (.s (.int .u64 (.lit (.ofNat 1))))))), none⟩]) (.ret)) (.seq (.seq (.reg [
⟨(some 69), .b (.cmp 0 .int (.t 27) (.c (.w (.s (.int .i64 (.lit (.ofNat 92))))))), none⟩,
⟨(some 68), .p (.mv (.t 69)), none⟩]) (.cond (.t 68) (.skip) (.reg [
⟨(some 70), .b (.cmp 0 .int (.t 27) (.c (.w (.s (.int .i64 (.lit (.ofNat 93))))))), none⟩,
⟨(some 68), .p (.mv (.t 70)), none⟩]))) (.cond (.t 68) (.seq (.reg [
⟨(some 4), .p (.mv (.c (.w (.s (.int .u64 (.lit (.ofNat 100))))))), none⟩]) (.ret)) (.seq (.reg [
⟨(some 72), .b (.cmp 0 .int (.t 27) (.c (.w (.s (.int .i64 (.lit (.ofNat 49))))))), none⟩,
⟨(some 71), .p (.mv (.t 72)), none⟩]) (.cond (.t 71) (.seq (.reg [
⟨(some 73), .p (.faddr 10 (.t 2)), none⟩,
⟨(some 74), .r (.load none (.t 73)), none⟩,
⟨(some 4), .p (.mv (.t 74)), none⟩]) (.ret)) (.seq (.seq (.reg [
⟨(some 76), .b (.cmp 0 .int (.t 27) (.c (.w (.s (.int .i64 (.lit (.ofNat 59))))))), none⟩,
⟨(some 75), .p (.mv (.t 76)), none⟩]) (.cond (.t 75) (.skip) (.reg [
⟨(some 77), .b (.cmp 0 .int (.t 27) (.c (.w (.s (.int .i64 (.lit (.ofNat 60))))))), none⟩,
⟨(some 75), .p (.mv (.t 77)), none⟩]))) (.cond (.t 75) (.seq (.reg [
⟨(some 78), .p (.faddr 11 (.t 2)), none⟩,
⟨(some 79), .r (.load none (.t 78)), none⟩,
⟨(some 4), .p (.mv (.t 79)), none⟩]) (.ret)) (.seq (.reg [
⟨(some 81), .b (.cmp 0 .int (.t 27) (.c (.w (.s (.int .i64 (.lit (.ofNat 63))))))), none⟩,
⟨(some 80), .p (.mv (.t 81)), none⟩]) (.cond (.t 80) (.seq (.reg [
⟨(some 82), .p (.faddr 12 (.t 2)), none⟩,
⟨(some 83), .r (.load none (.t 82)), none⟩,
⟨(some 4), .p (.mv (.t 83)), none⟩]) (.ret)) (.seq (.reg [
⟨(some 85), .b (.cmp 0 .int (.t 27) (.c (.w (.s (.int .i64 (.lit (.ofNat 84))))))), none⟩,
⟨(some 84), .p (.mv (.t 85)), none⟩]) (.cond (.t 84) (.seq (.reg [
⟨(some 86), .p (.faddr 13 (.t 2)), none⟩,
⟨(some 87), .r (.load none (.t 86)), none⟩,
⟨(some 4), .p (.mv (.t 87)), none⟩]) (.ret)) (.seq (.seq (.reg [
⟨(some 89), .b (.cmp 0 .int (.t 27) (.c (.w (.s (.int .i64 (.lit (.ofNat 241))))))), none⟩,
⟨(some 88), .p (.mv (.t 89)), none⟩]) (.cond (.t 88) (.skip) (.seq (.reg [
⟨(some 90), .b (.cmp 0 .int (.t 27) (.c (.w (.s (.int .i64 (.lit (.ofNat 242))))))), none⟩,
⟨(some 88), .p (.mv (.t 90)), none⟩]) (.cond (.t 88) (.skip) (.seq (.reg [
⟨(some 91), .b (.cmp 0 .int (.t 27) (.c (.w (.s (.int .i64 (.lit (.ofNat 244))))))), none⟩,
⟨(some 88), .p (.mv (.t 91)), none⟩]) (.cond (.t 88) (.skip) (.reg [
⟨(some 92), .b (.cmp 0 .int (.t 27) (.c (.w (.s (.int .i64 (.lit (.ofNat 250))))))), none⟩,
⟨(some 88), .p (.mv (.t 92)), none⟩]))))))) (.cond (.t 88) (.seq (.reg [
⟨(some 93), .p (.faddr 14 (.t 2)), none⟩,
⟨(some 94), .r (.load none (.t 93)), none⟩,
⟨(some 4), .p (.mv (.t 94)), none⟩]) (.ret)) (.seq (.reg [
⟨(some 96), .b (.cmp 0 .int (.t 27) (.c (.w (.s (.int .i64 (.lit (.ofNat 255))))))), none⟩,
⟨(some 95), .p (.mv (.t 96)), none⟩]) (.cond (.t 95) (.seq (.reg [
⟨(some 97), .p (.faddr 18 (.t 2)), none⟩,
⟨(some 98), .r (.load none (.t 97)), none⟩,
⟨(some 4), .p (.mv (.t 98)), none⟩]) (.ret)) (.seq (.seq (.reg [
⟨(some 100), .b (.cmp 0 .int (.t 27) (.c (.w (.s (.int .i64 (.lit (.ofNat 240))))))), none⟩,
⟨(some 99), .p (.mv (.t 100)), none⟩]) (.cond (.t 99) (.skip) (.reg [
⟨(some 101), .b (.cmp 0 .int (.t 27) (.c (.w (.s (.int .i64 (.lit (.ofNat 245))))))), none⟩,
⟨(some 99), .p (.mv (.t 101)), none⟩]))) (.cond (.t 99) (.seq (.reg [
⟨(some 4), .p (.mv (.c (.w (.s (.int .u64 (.lit (.ofNat 32000))))))), none⟩]) (.ret)) (.skip))))))))))))))))))))))))))))))))))) (.seq (.reg [
⟨(some 4), .p (.mv (.c (.w (.s (.int .u64 (.lit (.ofNat 0))))))), none⟩]) (.ret)))))⟩
theorem fo50 : ∃ func code hint, FnOk Go.Proofs.Tryz.prog TT 50 fa50 func code hint := ⟨Go.Proofs.Tryz.f50, bodyOf Go.Proofs.Tryz.f50, hintL [], ⟨Go.Proofs.Tryz.func50, Go.Proofs.Tryz.call50, by kernel_rfl, by kernel_rfl, by kernel_rfl, by kernel_rfl⟩⟩
/- (*quarry/vm.machine).calls -/
def fa54 : AFunc := ⟨50, [.cell 4 (some 23)], .seq (.reg [
⟨(some 2), .m (.box 120 (.t 0)), none⟩,
⟨(some 3), .m (.box 130 (.t 1)), none⟩,
⟨(some 4), .m (.alloc 132 [.int .i64 (.lit (.ofNat 0)), .nils, .int .u64 (.lit (.ofNat 0)), .int .u8 (.lit (.ofNat 0)), .int .u8 (.lit (.ofNat 0)), .int .u8 (.lit (.ofNat 0)), .int .u8 (.lit (.ofNat 0)), .int .u8 (.lit (.ofNat 0)), .int .u8 (.lit (.ofNat 0)), .int .u8 (.lit (.ofNat 0)), .int .u8 (.lit (.ofNat 0)), .int .u8 (.lit (.ofNat 0)), .int .u8 (.lit (.ofNat 0)), .int .u8 (.lit (.ofNat 0)), .int .u8 (.lit (.ofNat 0)), .int .u8 (.lit (.ofNat 0)), .int .u8 (.lit (.ofNat 0)), .int .u8 (.lit (.ofNat 0)), .int .u8 (.lit (.ofNat 0)), .int .u8 (.lit (.ofNat 0)), .int .u8 (.lit (.ofNat 0)), .int .u8 (.lit (.ofNat 0)), .int .u8 (.lit (.ofNat 0))]), none⟩]) (.seq (.seq (.reg [
⟨(some 5), .r (.load none (.t 2)), none⟩,
⟨(some 6), .p (.faddr 0 (.t 3)), none⟩,
⟨(some 7), .r (.load (some 20) (.t 6)), none⟩,
⟨(some 8), .p (.faddr 60 (.t 3)), none⟩,
⟨(some 9), .r (.load (some 4) (.t 8)), none⟩,
⟨(some 10), .b (.call 67 [(.t 5), (.t 7), (.t 9)]), none⟩,
⟨(some 11), .p (.not (.t 10)), none⟩]) (.cond (.t 11) (.seq (.reg [
⟨(some 12), .p (.faddr 65 (.t 3)), none⟩,
⟨(some 13), .r (.load none (.t 12)), none⟩,
⟨(some 14), .b (.call 68 [(.t 13)]), none⟩,
⟨none, .b (.store 23 (.t 4) (.t 14)), none⟩]) (.ret)) (.skip))) (.seq (.seq (.draw [
⟨0, ⟨(some 15), .r (.load none (.t 2)), none⟩, 0, 0⟩,
⟨1, ⟨(some 16), .p (.nilCheck (.t 15)), none⟩, 1, 0⟩,
⟨2, ⟨(some 17), .p (.faddr 89 (.t 16)), none⟩, 3, 0⟩,
⟨3, ⟨(some 18), .r (.load none (.t 17)), none⟩, 7, 0⟩,
⟨4, ⟨(some 19), .p (.faddr 20 (.t 3)), none⟩, 0, 0⟩,
⟨5, ⟨(some 20), .r (.load (some 20) (.t 19)), none⟩, 16, 0⟩,
⟨6, ⟨(some 21), .b (.call 38 [(.t 18), (.t 20)]), none⟩, 63, 0⟩,
⟨7, ⟨(some 22), .p (.not (.t 21)), none⟩, 127, 0⟩,
⟨8, ⟨(some 23), .p (.mv (.t 22)), none⟩, 255, 0⟩,
⟨9, ⟨(some 24), .r (.load none (.t 2)), some (23, true)⟩, 511, 0⟩,
⟨10, ⟨(some 25), .b (.call 70 [(.t 24), (.c (.w (.s (.int .i64 (.lit (.ofNat 3))))))]), some (23, true)⟩, 1023, 0⟩,
⟨11, ⟨(some 26), .p (.pick (.t 23) (.t 25) (.c (.w (.s (.bool false))))), none⟩, 2047, 0⟩,
⟨12, ⟨(some 27), .p (.mv (.t 26)), none⟩, 4095, 0⟩,
⟨13, ⟨(some 28), .p (.faddr 60 (.t 3)), some (27, true)⟩, 8191, 0⟩,
⟨14, ⟨(some 29), .r (.load (some 4) (.t 28)), some (27, true)⟩, 16383, 0⟩,
⟨15, ⟨(some 30), .p (.build [.int .u64 (.lit (.ofNat 0)), .int .u64 (.lit (.ofNat 0)), .int .u64 (.lit (.ofNat 0)), .int .u64 (.lit (.ofNat 0))] []), some (27, true)⟩, 8191, 0⟩,
⟨16, ⟨(some 31), .b (.cmp 0 (.agg (.one (.arr 4 22 .u64))) (.t 29) (.t 30)), some (27, true)⟩, 65535, 0⟩,
⟨17, ⟨(some 32), .p (.pick (.t 27) (.t 31) (.c (.w (.s (.bool false))))), none⟩, 131071, 0⟩,
⟨18, ⟨(some 33), .p (.mv (.t 32)), none⟩, 262143, 0⟩,
⟨19, ⟨(some 34), .r (.load none (.t 2)), some (33, true)⟩, 524287, 0⟩,
⟨20, ⟨(some 35), .p (.nilCheck (.t 34)), some (33, true)⟩, 1048575, 0⟩,
⟨21, ⟨(some 36), .p (.faddr 0 (.t 35)), some (33, true)⟩, 2097151, 0⟩,
⟨22, ⟨(some 37), .r (.load none (.t 36)), some (33, true)⟩, 4194303, 0⟩,
⟨23, ⟨(some 38), .p (.faddr 20 (.t 3)), some (33, true)⟩, 524287, 0⟩,
⟨24, ⟨(some 39), .r (.load (some 20) (.t 38)), some (33, true)⟩, 8912895, 0⟩,
⟨25, ⟨(some 40), .b (.call 84 [(.t 37), (.t 39)]), some (33, true)⟩, 33554431, 0⟩,
⟨26, ⟨(some 41), .b (.cmp 0 .int (.t 40) (.c (.w (.s (.int .i64 (.lit (.ofNat 0))))))), some (33, true)⟩, 67108863, 0⟩,
⟨27, ⟨(some 42), .p (.pick (.t 33) (.t 41) (.c (.w (.s (.bool false))))), none⟩, 134217727, 0⟩]) (.cond (.t 42) (.seq (.reg [
⟨(some 43), .p (.faddr 65 (.t 3)), none⟩,
⟨(some 44), .r (.load none (.t 43)), none⟩,
⟨(some 45), .p (.build [.int .i64 (.lit (.ofNat 0)), .nils, .int .u64 (.lit (.ofNat 0)), .int .u8 (.lit (.ofNat 0)), .int .u8 (.lit (.ofNat 0)), .int .u8 (.lit (.ofNat 0)), .int .u8 (.lit (.ofNat 0)), .int .u8 (.lit (.ofNat 0)), .int .u8 (.lit (.ofNat 0)), .int .u8 (.lit (.ofNat 0)), .int .u8 (.lit (.ofNat 0)), .int .u8 (.lit (.ofNat 0)), .int .u8 (.lit (.ofNat 0)), .int .u8 (.lit (.ofNat 0)), .int .u8 (.lit (.ofNat 0)), .int .u8 (.lit (.ofNat 0)), .int .u8 (.lit (.ofNat 0)), .int .u8 (.lit (.ofNat 0)), .int .u8 (.lit (.ofNat 0)), .int .u8 (.lit (.ofNat 0)), .int .u8 (.lit (.ofNat 0)), .int .u8 (.lit (.ofNat 0)), .int .u8 (.lit (.ofNat 0))] [(2, 1, (.t 44))]), none⟩,
⟨none, .b (.store 23 (.t 4) (.t 45)), none⟩]) (.ret)) (.skip))) (.seq (.reg [
⟨(some 46), .r (.load none (.t 2)), none⟩,
⟨(some 47), .r (.load (some 68) (.t 3)), none⟩,
⟨(some 48), .p (.mkfunc 86 [(.t 2), (.t 3)]), none⟩,
⟨(some 49), .b (.call 85 [(.t 46), (.t 47), (.t 48)]), none⟩,
⟨none, .b (.store 23 (.t 4) (.t 49)), none⟩]) (.ret))))⟩
theorem fo54 : ∃ func code hint, FnOk Go.Proofs.Tryz.prog TT 54 fa54 func code hint := ⟨Go.Proofs.Tryz.f54, bodyOf Go.Proofs.Tryz.f54, hintL [(3, [(0, 0), (1, 0), (2, 0), (3, 0), (4, 0), (5, 0), (6, 0), (7, 0), (8, 0), (9, 0), (10, 0), (11, 0), (12, 0), (13, 0), (14, 0), (15, 0), (16, 0), (17, 0), (18, 0), (19, 0), (20, 0), (21, 0), (22, 0), (23, 0), (24, 0), (25, 0), (26, 0), (27, 0)])], ⟨Go.Proofs.Tryz.func54, Go.Proofs.Tryz.call54, by kernel_rfl, by kernel_rfl, by kernel_rfl, by kernel_rfl⟩⟩
/- quarry/gas.plain -/
def fa55 : AFunc := ⟨11, [.tmp 2], .seq (.reg [
⟨(some 1), .m (.box 49 (.t 0)), none⟩,
⟨(some 2), .p (.mv (.c (.w (.s (.bool false))))), none⟩]) (.seq (.reg [
⟨(some 3), .p (.faddr 0 (.t 1)), none⟩,
⟨(some 4), .r (.load none (.t 3)), none⟩,
⟨(some 5), .b (.cmp 2 .int (.t 4) (.c (.w (.s (.int .i64 (.lit (.ofNat 5))))))), none⟩,
⟨(some 6), .p (.mv (.t 5)), none⟩,
⟨(some 7), .p (.faddr 0 (.t 1)), some (6, false)⟩,
⟨(some 8), .r (.load none (.t 7)), some (6, false)⟩,
⟨(some 9), .b (.cmp 0 .int (.t 8) (.c (.w (.s (.int .i64 (.lit (.ofNat 6))))))), some (6, false)⟩,
⟨(some 10), .p (.pick (.t 6) (.c (.w (.s (.bool true)))) (.t 9)), none⟩,
⟨(some 2), .p (.mv (.t 10)), none⟩]) (.ret))⟩
theorem fo55 : ∃ func code hint, FnOk Go.Proofs.Tryz.prog TT 55 fa55 func code hint := ⟨Go.Proofs.Tryz.f55, bodyOf Go.Proofs.Tryz.f55, hintL [], ⟨Go.Proofs.Tryz.func55, Go.Proofs.Tryz.call55, by kernel_rfl, by kernel_rfl, by kernel_rfl, by kernel_rfl⟩⟩
/- quarry/gas.writes -/
def fa56 : AFunc := ⟨14, [.cell 2 (some 3)], .seq (.reg [
⟨(some 1), .m (.box 49 (.t 0)), none⟩,
⟨(some 2), .m (.alloc 139 [.int .u64 (.lit (.ofNat 0)), .int .u64 (.lit (.ofNat 0)), .int .u64 (.lit (.ofNat 0))]), none⟩]) (.seq (.block 0 (.seq (.reg [
⟨(some 4), .p (.faddr 0 (.t 1)), none⟩,
⟨(some 5), .r (.load none (.t 4)), none⟩,
⟨(some 6), .b (.cmp 5 .int (.t 5) (.c (.w (.s (.int .i64 (.lit (.ofNat 9))))))), none⟩,
⟨(some 3), .p (.mv (.t 6)), none⟩]) (.cond (.t 3) (.seq (.reg [
⟨(some 7), .p (.build [.int .u64 (.lit (.ofNat 0)), .int .u64 (.lit (.ofNat 0)), .int .u64 (.lit (.ofNat 0))] [(0, 1, (.c (.w (.s (.int .u64 (.lit (.ofNat 100))))))), (1, 1, (.c (.w (.s (.int .u64 (.lit (.ofNat 20000))))))), (2, 1, (.c (.w (.s (.int .u64 (.lit (.ofNat 2900)))))))]), none⟩,
⟨none, .b (.store 3 (.t 2) (.t 7)), none⟩]) (.ret)) (.seq (.reg [
⟨(some 9), .p (.faddr 0 (.t 1)), none⟩,
⟨(some 10), .r (.load none (.t 9)), none⟩,
⟨(some 11), .b (.cmp 5 .int (.t 10) (.c (.w (.s (.int .i64 (.lit (.ofNat 7))))))), none⟩,
⟨(some 8), .p (.mv (.t 11)), none⟩]) (.cond (.t 8) (.seq (.reg [
⟨(some 12), .p (.build [.int .u64 (.lit (.ofNat 0)), .int .u64 (.lit (.ofNat 0)), .int .u64 (.lit (.ofNat 0))] [(0, 1, (.c (.w (.s (.int .u64 (.lit (.ofNat 800))))))), (1, 1, (.c (.w (.s (.int .u64 (.lit (.ofNat 20000))))))), (2, 1, (.c (.w (.s (.int .u64 (.lit (.ofNat 5000)))))))]), none⟩,
⟨none, .b (.store 3 (.t 2) (.t 12)), none⟩]) (.ret)) (.skip)))))) (.seq (.reg [
⟨(some 13), .p (.build [.int .u64 (.lit (.ofNat 0)), .int .u64 (.lit (.ofNat 0)), .int .u64 (.lit (.ofNat 0))] [(0, 1, (.c (.w (.s (.int .u64 (.lit (.ofNat 200))))))), (1, 1, (.c (.w (.s (.int .u64 (.lit (.ofNat 20000))))))), (2, 1, (.c (.w (.s (.int .u64 (.lit (.ofNat 5000)))))))]), none⟩,
⟨none, .b (.store 3 (.t 2) (.t 13)), none⟩]) (.ret)))⟩
theorem fo56 : ∃ func code hint, FnOk Go.Proofs.Tryz.prog TT 56 fa56 func code hint := ⟨Go.Proofs.Tryz.f56, bodyOf Go.Proofs.Tryz.f56, hintL [], ⟨Go.Proofs.Tryz.func56, Go.Proofs.Tryz.call56, by kernel_rfl, by kernel_rfl, by kernel_rfl, by kernel_rfl⟩⟩
/- quarry/gas.again -/
def fa57 : AFunc := ⟨68, [.tmp 4, .tmp 5], .seq (.reg [
⟨(some 2), .m (.box 49 (.t 0)), none⟩,
⟨(some 3), .m (.box 82 (.t 1)), none⟩,
⟨(some 4), .p (.mv (.c (.w (.s (.int .u64 (.lit (.ofNat 0))))))), none⟩,
⟨(some 5), .p (.mv (.c (.w (.s (.int .u64 (.lit (.ofNat 0))))))), none⟩]) (.seq (.reg [
⟨(some 8), .p (.build [.int .u64 (.lit (.ofNat 0)), .int .u64 (.lit (.ofNat 0)), .int .u64 (.lit (.ofNat 0)), .int .u64 (.lit (.ofNat 0))] []), none⟩,
⟨(some 9), .r (.load (some 26) (.t 2)), none⟩,
⟨(some 10), .b (.call 56 [(.t 9)]), none⟩,
⟨(some 6), .m (.alloc 24 [.int .u64 (.lit (.ofNat 0)), .int .u64 (.lit (.ofNat 0)), .int .u64 (.lit (.ofNat 0)), .int .u64 (.lit (.ofNat 0))]), none⟩,
⟨(some 7), .m (.alloc 139 [.int .u64 (.lit (.ofNat 0)), .int .u64 (.lit (.ofNat 0)), .int .u64 (.lit (.ofNat 0))]), none⟩,
⟨none, .b (.store 4 (.t 6) (.t 8)), none⟩,
⟨none, .b (.store 3 (.t 7) (.t 10)), none⟩]) (.seq (.seq (.reg [
⟨(some 11), .p (.faddr 0 (.t 3)), none⟩,
⟨(some 12), .r (.load (some 4) (.t 11)), none⟩,
⟨(some 13), .r (.load (some 4) (.t 6)), none⟩,
⟨(some 14), .b (.cmp 1 (.agg (.one (.arr 4 22 .u64))) (.t 12) (.t 13)), none⟩,
⟨(some 15), .p (.mv (.t 14)), none⟩,
⟨(some 16), .p (.faddr 4 (.t 3)), some (15, true)⟩,
⟨(some 17), .r (.load (some 4) (.t 16)), some (15, true)⟩,
⟨(some 18), .r (.load (some 4) (.t 6)), some (15, true)⟩,
⟨(some 19), .b (.cmp 0 (.agg (.one (.arr 4 22 .u64))) (.t 17) (.t 18)), some (15, true)⟩,
⟨(some 20), .p (.pick (.t 15) (.t 19) (.c (.w (.s (.bool false))))), none⟩]) (.cond (.t 20) (.reg [
⟨(some 21), .p (.faddr 22 (.t 2)), none⟩,
⟨(some 22), .r (.load none (.t 21)), none⟩,
⟨(some 5), .p (.mv (.t 22)), none⟩]) (.skip))) (.seq (.seq (.reg [
⟨(some 23), .p (.faddr 0 (.t 3)), none⟩,
⟨(some 24), .r (.load (some 4) (.t 23)), none⟩,
⟨(some 25), .r (.load (some 4) (.t 6)), none⟩,
⟨(some 26), .b (.cmp 1 (.agg (.one (.arr 4 22 .u64))) (.t 24) (.t 25)), none⟩,
⟨(some 27), .p (.mv (.t 26)), none⟩,
⟨(some 28), .p (.faddr 4 (.t 3)), some (27, true)⟩,
⟨(some 29), .r (.load (some 4) (.t 28)), some (27, true)⟩,
⟨(some 30), .r (.load (some 4) (.t 6)), some (27, true)⟩,
⟨(some 31), .b (.cmp 1 (.agg (.one (.arr 4 22 .u64))) (.t 29) (.t 30)), some (27, true)⟩,
⟨(some 32), .p (.pick (.t 27) (.t 31) (.c (.w (.s (.bool false))))), none⟩,
⟨(some 33), .p (.mv (.t 32)), none⟩,
⟨(some 34), .p (.faddr 8 (.t 3)), some (33, true)⟩,
⟨(some 35), .r (.load (some 4) (.t 34)), some (33, true)⟩,
⟨(some 36), .r (.load (some 4) (.t 6)), some (33, true)⟩,
⟨(some 37), .b (.cmp 0 (.agg (.one (.arr 4 22 .u64))) (.t 35) (.t 36)), some (33, true)⟩,
⟨(some 38), .p (.pick (.t 33) (.t 37) (.c (.w (.s (.bool false))))), none⟩]) (.cond (.t 38) (.reg [
⟨(some 39), .p (.faddr 22 (.t 2)), none⟩,
⟨(some 40), .r (.load none (.t 39)), none⟩,
⟨(some 4), .p (.mv (.t 40)), none⟩]) (.skip))) (.seq (.block 0 (.seq (.reg [
⟨(some 49), .p (.faddr 0 (.t 3)), none⟩,
⟨(some 50), .r (.load (some 4) (.t 49)), none⟩,
⟨(some 51), .p (.faddr 8 (.t 3)), none⟩,
⟨(some 52), .r (.load (some 4) (.t 51)), none⟩,
⟨(some 53), .b (.cmp 1 (.agg (.one (.arr 4 22 .u64))) (.t 50) (.t 52)), none⟩,
⟨(some 48), .p (.mv (.t 53)), none⟩]) (.cond (.t 48) (.skip) (.seq (.reg [
⟨(some 55), .p (.faddr 0 (.t 3)), none⟩,
⟨(some 56), .r (.load (some 4) (.t 55)), none⟩,
⟨(some 57), .r (.load (some 4) (.t 6)), none⟩,
⟨(some 58), .b (.cmp 0 (.agg (.one (.arr 4 22 .u64))) (.t 56) (.t 57)), none⟩,
⟨(some 54), .p (.mv (.t 58)), none⟩]) (.cond (.t 54) (.reg [
⟨(some 59), .p (.mv (.t 4)), none⟩,
⟨(some 60), .p (.faddr 1 (.t 7)), none⟩,
⟨(some 61), .r (.load none (.t 60)), none⟩,
⟨(some 62), .p (.faddr 0 (.t 7)), none⟩,
⟨(some 63), .r (.load none (.t 62)), none⟩,
⟨(some 64), .p (.ar 1 (.t 61) (.t 63)), none⟩,
⟨(some 65), .p (.ar 0 (.t 59) (.t 64)), none⟩,
⟨(some 4), .p (.mv (.t 65)), none⟩]) (.reg [
⟨(some 41), .p (.mv (.t 4)), none⟩,
⟨(some 42), .p (.faddr 2 (.t 7)), none⟩,
⟨(some 43), .r (.load none (.t 42)), none⟩,
⟨(some 44), .p (.faddr 0 (.t 7)), none⟩,
⟨(some 45), .r (.load none (.t 44)), none⟩,
⟨(some 46), .p (.ar 1 (.t 43) (.t 45)), none⟩,
⟨(some 47), .p (.ar 0 (.t 41) (.t 46)), none⟩,
⟨(some 4), .p (.mv (.t 47)), none⟩])))))) (.seq (.reg [
⟨(some 66), .p (.mv (.t 4)), none⟩,
⟨(some 67), .p (.mv (.t 5)), none⟩,
⟨(some 4), .p (.mv (.t 66)), none⟩,
⟨(some 5), .p (.mv (.t 67)), none⟩]) (.ret))))))⟩
theorem fo57 : ∃ func code hint, FnOk Go.Proofs.Tryz.prog TT 57 fa57 func code hint := ⟨Go.Proofs.Tryz.f57, bodyOf Go.Proofs.Tryz.f57, hintL [], ⟨Go.Proofs.Tryz.func57, Go.Proofs.Tryz.call57, by kernel_rfl, by kernel_rfl, by kernel_rfl, by kernel_rfl⟩⟩
/- (quarry/state.set[quarry/api.Address]).has -/
def fa59 : AFunc := ⟨14, [.tmp 4], .seq (.reg [
⟨(some 3), .m (.box 30 (.t 1)), none⟩,
⟨(some 4), .p (.mv (.c (.w (.s (.bool false))))), none⟩]) (.seq (.reg [
⟨(some 8), .p (.mv (.t 0)), none⟩,
⟨(some 9), .r (.load (some 20) (.t 3)), none⟩,
⟨(some 10), .r (.lookup (.one (.arr 20 5 .u8)) (.agg []) (.t 8) (.t 9) true), none⟩,
⟨(some 7), .p (.mv (.t 10)), none⟩,
⟨(some 11), .p (.ext (.t 7) 0), none⟩,
⟨(some 12), .p (.ext (.t 7) 1), none⟩,
⟨(some 5), .m (.alloc 174 []), none⟩,
⟨none, .b (.store 0 (.t 5) (.t 11)), none⟩,
⟨(some 6), .p (.mv (.t 12)), none⟩]) (.seq (.reg [
⟨(some 13), .p (.mv (.t 6)), none⟩,
⟨(some 4), .p (.mv (.t 13)), none⟩]) (.ret)))⟩
theorem fo59 : ∃ func code hint, FnOk Go.Proofs.Tryz.prog TT 59 fa59 func code hint := ⟨Go.Proofs.Tryz.f59, bodyOf Go.Proofs.Tryz.f59, hintL [], ⟨Go.Proofs.Tryz.func59, Go.Proofs.Tryz.call59, by kernel_rfl, by kernel_rfl, by kernel_rfl, by kernel_rfl⟩⟩
/- (*quarry/state.State).Empty -/
def fa60 : AFunc := ⟨30, [.tmp 4], .seq (.reg [
⟨(some 3), .m (.box 30 (.t 1)), none⟩,
⟨(some 4), .p (.mv (.c (.w (.s (.bool false))))), none⟩]) (.seq (.reg [
⟨(some 6), .p (.mv (.t 0)), none⟩,
⟨(some 7), .r (.load (some 20) (.t 3)), none⟩,
⟨(some 8), .b (.call 41 [(.t 6), (.t 7)]), none⟩,
⟨(some 5), .p (.mv (.t 8)), none⟩]) (.seq (.reg [
⟨(some 9), .p (.mv (.t 5)), none⟩,
⟨(some 10), .p (.nilCheck (.t 9)), none⟩,
⟨(some 11), .p (.faddr 0 (.t 10)), none⟩,
⟨(some 12), .r (.load none (.t 11)), none⟩,
⟨(some 13), .b (.cmp 0 .int (.t 12) (.c (.w (.s (.int .u64 (.lit (.ofNat 0))))))), none⟩,
⟨(some 14), .p (.mv (.t 13)), none⟩,
⟨(some 15), .p (.mv (.t 5)), some (14, true)⟩,
⟨(some 16), .p (.nilCheck (.t 15)), some (14, true)⟩,
⟨(some 17), .p (.faddr 1 (.t 16)), some (14, true)⟩,
⟨(some 18), .r (.load (some 4) (.t 17)), some (14, true)⟩,
⟨(some 19), .p (.build [.int .u64 (.lit (.ofNat 0)), .int .u64 (.lit (.ofNat 0)), .int .u64 (.lit (.ofNat 0)), .int .u64 (.lit (.ofNat 0))] []), some (14, true)⟩,
⟨(some 20), .b (.cmp 0 (.agg (.one (.arr 4 22 .u64))) (.t 18) (.t 19)), some (14, true)⟩,
⟨(some 21), .p (.pick (.t 14) (.t 20) (.c (.w (.s (.bool false))))), none⟩,
⟨(some 22), .p (.mv (.t 21)), none⟩,
⟨(some 23), .p (.mv (.t 5)), some (22, true)⟩,
⟨(some 24), .p (.nilCheck (.t 23)), some (22, true)⟩,
⟨(some 25), .p (.faddr 5 (.t 24)), some (22, true)⟩,
⟨(some 26), .r (.load none (.t 25)), some (22, true)⟩,
⟨(some 27), .p (.len (.t 26)), some (22, true)⟩,
⟨(some 28), .b (.cmp 0 .int (.t 27) (.c (.w (.s (.int .i64 (.lit (.ofNat 0))))))), some (22, true)⟩,
⟨(some 29), .p (.pick (.t 22) (.t 28) (.c (.w (.s (.bool false))))), none⟩,
⟨(some 4), .p (.mv (.t 29)), none⟩]) (.ret)))⟩
theorem fo60 : ∃ func code hint, FnOk Go.Proofs.Tryz.prog TT 60 fa60 func code hint := ⟨Go.Proofs.Tryz.f60, bodyOf Go.Proofs.Tryz.f60, hintL [], ⟨Go.Proofs.Tryz.func60, Go.Proofs.Tryz.call60, by kernel_rfl, by kernel_rfl, by kernel_rfl, by kernel_rfl⟩⟩
/- (*quarry/state.State).Begin -/
def fa61 : AFunc := ⟨13, [], .reg [
⟨(some 2), .p (.mv (.t 0)), none⟩,
⟨(some 3), .m (.mkmap), none⟩,
⟨(some 4), .m (.mkmap), none⟩,
⟨(some 5), .m (.mkmap), none⟩,
⟨(some 6), .m (.mkmap), none⟩,
⟨(some 7), .m (.mkmap), none⟩,
⟨(some 8), .m (.mkmap), none⟩,
⟨(some 9), .m (.mkmap), none⟩,
⟨(some 10), .p (.build [.nilm, .nilm, .nilm, .nilm, .nilm, .nilm, .nilm, .int .u64 (.lit (.ofNat 0)), .nils, .nils, .nils, .int .i64 (.lit (.ofNat 0))] [(0, 1, (.t 3)), (1, 1, (.t 4)), (2, 1, (.t 5)), (3, 1, (.t 6)), (4, 1, (.t 7)), (5, 1, (.t 8)), (6, 1, (.t 9))]), none⟩,
⟨(some 11), .p (.nilCheck (.t 2)), none⟩,
⟨(some 12), .p (.faddr 1 (.t 11)), none⟩,
⟨none, .b (.store 12 (.t 12) (.t 10)), none⟩]⟩
theorem fo61 : ∃ func code hint, FnOk Go.Proofs.Tryz.prog TT 61 fa61 func code hint := ⟨Go.Proofs.Tryz.f61, bodyOf Go.Proofs.Tryz.f61, hintL [], ⟨Go.Proofs.Tryz.func61, Go.Proofs.Tryz.call61, by kernel_rfl, by kernel_rfl, by kernel_rfl, by kernel_rfl⟩⟩
/- quarry/fork.pick -/
def fa62 : AFunc := ⟨22, [.tmp 4], .seq (.reg [
⟨(some 4), .p (.mv (.c (.w (.s (.int .u64 (.lit (.ofNat 0))))))), none⟩]) (.seq (.reg [
⟨(some 5), .p (.mv (.c (.w (.s (.int .u64 (.lit (.ofNat 0))))))), none⟩]) (.seq (.seq (.reg [
⟨(some 8), .p (.mv (.t 1)), none⟩,
⟨(some 9), .p (.len (.t 8)), none⟩,
⟨(some 10), .p (.mv (.c (.w (.s (.int .i64 (.lit (.ofNat 0))))))), none⟩]) (.block 0 (.loop (.seq (.reg [
⟨(some 11), .b (.cmp 2 .int (.t 10) (.t 9)), none⟩]) (.seq (.cond (.t 11) (.skip) (.exit 0)) (.seq (.block 1 (.seq (.reg [
⟨(some 12), .p (.iaddrS 2 (.t 8) (.t 10)), none⟩,
⟨(some 13), .r (.load (some 2) (.t 12)), none⟩,
⟨(some 7), .m (.alloc 148 [.int .i64 (.lit (.ofNat 0)), .int .u64 (.lit (.ofNat 0))]), none⟩,
⟨none, .b (.store 2 (.t 7) (.t 13)), none⟩]) (.seq (.reg [
⟨(some 14), .p (.mv (.t 0)), none⟩,
⟨(some 15), .p (.faddr 0 (.t 7)), none⟩,
⟨(some 16), .r (.load none (.t 15)), none⟩,
⟨(some 17), .b (.cmp 5 .int (.t 14) (.t 16)), none⟩]) (.cond (.t 17) (.reg [
⟨(some 18), .p (.faddr 1 (.t 7)), none⟩,
⟨(some 19), .r (.load none (.t 18)), none⟩,
⟨(some 5), .p (.mv (.t 19)), none⟩]) (.skip))))) (.reg [
⟨(some 20), .p (.ar 0 (.t 10) (.c (.w (.s (.int .i64 (.lit (.ofNat 1))))))), none⟩,
⟨(some 10), .p (.mv (.t 20)), none⟩]))))))) (.seq (.reg [
⟨(some 21), .p (.mv (.t 5)), none⟩,
⟨(some 4), .p (.mv (.t 21)), none⟩]) (.ret))))⟩
theorem fo62 : ∃ func code hint, FnOk Go.Proofs.Tryz.prog TT 62 fa62 func code hint := ⟨Go.Proofs.Tryz.f62, bodyOf Go.Proofs.Tryz.f62, hintL [], ⟨Go.Proofs.Tryz.func62, Go.Proofs.Tryz.call62, by kernel_rfl, by kernel_rfl, by kernel_rfl, by kernel_rfl⟩⟩
/- quarry/fork.Op -/
def fa63 : AFunc := ⟨19, [.tmp 4], .seq (.reg [
⟨(some 4), .p (.mv (.c (.w (.s (.bool false))))), none⟩]) (.seq (.reg [
⟨(some 6), .p (.mv (.t 1)), none⟩,
⟨(some 7), .b (.call 90 [(.t 6)]), none⟩,
⟨(some 5), .p (.mv (.t 7)), none⟩]) (.seq (.reg [
⟨(some 8), .p (.mv (.t 5)), none⟩,
⟨(some 9), .b (.cmp 5 .int (.t 8) (.c (.w (.s (.int .i64 (.lit (.ofNat 0))))))), none⟩,
⟨(some 10), .p (.mv (.t 9)), none⟩,
⟨(some 11), .p (.mv (.t 0)), some (10, true)⟩,
⟨(some 12), .p (.mv (.t 5)), some (10, true)⟩,
⟨(some 13), .b (.cmp 5 .int (.t 11) (.t 12)), some (10, true)⟩,
⟨(some 14), .p (.pick (.t 10) (.t 13) (.c (.w (.s (.bool false))))), none⟩,
⟨(some 15), .p (.mv (.t 14)), none⟩,
⟨(some 16), .p (.mv (.t 0)), some (15, true)⟩,
⟨(some 17), .b (.cmp 3 .int (.t 16) (.c (.w (.s (.int .i64 (.lit (.ofNat 15))))))), some (15, true)⟩,
⟨(some 18), .p (.pick (.t 15) (.t 17) (.c (.w (.s (.bool false))))), none⟩,
⟨(some 4), .p (.mv (.t 18)), none⟩]) (.ret)))⟩
theorem fo63 : ∃ func code hint, FnOk Go.Proofs.Tryz.prog TT 63 fa63 func code hint := ⟨Go.Proofs.Tryz.f63, bodyOf Go.Proofs.Tryz.f63, hintL [], ⟨Go.Proofs.Tryz.func63, Go.Proofs.Tryz.call63, by kernel_rfl, by kernel_rfl, by kernel_rfl, by kernel_rfl⟩⟩
/- quarry/code.shape -/
def fa64 : AFunc := ⟨53, [.tmp 2, .tmp 3], .seq (.reg [
⟨(some 2), .p (.mv (.c (.w (.s (.int .i64 (.lit (.ofNat 0))))))), none⟩,
⟨(some 3), .p (.mv (.c (.w (.s (.int .i64 (.lit (.ofNat 0))))))), none⟩]) (.seq (.seq (.reg [
⟨(some 4), .p (.mv (.t 0)), none⟩]) (.block 0 (.seq (.seq (.reg [
⟨(some 6), .b (.cmp 0 .int (.t 4) (.c (.w (.s (.int .i64 (.lit (.ofNat 0))))))), none⟩,
⟨(some 5), .p (.mv (.t 6)), none⟩]) (.cond (.t 5) (.skip) (.reg [
⟨(some 7), .b (.cmp 0 .int (.t 4) (.c (.w (.s (.int .i64 (.lit (.ofNat 91))))))), none⟩,
⟨(some 5), .p (.mv (.t 7)), none⟩]))) (.cond (.t 5) (.seq (.reg [
⟨(some 2), .p (.mv (.c (.w (.s (.int .i64 (.lit (.ofNat 0))))))), none⟩,
⟨(some 3), .p (.mv (.c (.w (.s (.int .i64 (.lit (.ofNat 0))))))), none⟩]) (.ret)) (.seq (.seq (.reg [
⟨(some 9), .b (.cmp 0 .int (.t 4) (.c (.w (.s (.int .i64 (.lit (.ofNat 21))))))), none⟩,
⟨(some 8), .p (.mv (.t 9)), none⟩]) (.cond (.t 8) (.skip) (.seq (.reg [
⟨(some 10), .b (.cmp 0 .int (.t 4) (.c (.w (.s (.int .i64 (.lit (.ofNat 25))))))), none⟩,
⟨(some 8), .p (.mv (.t 10)), none⟩]) (.cond (.t 8) (.skip) (.seq (.reg [
⟨(some 11), .b (.cmp 0 .int (.t 4) (.c (.w (.s (.int .i64 (.lit (.ofNat 49))))))), none⟩,
⟨(some 8), .p (.mv (.t 11)), none⟩]) (.cond (.t 8) (.skip) (.seq (.reg [
⟨(some 12), .b (.cmp 0 .int (.t 4) (.c (.w (.s (.int .i64 (.lit (.ofNat 53))))))), none⟩,
⟨(some 8), .p (.mv (.t 12)), none⟩]) (.cond (.t 8) (.skip) (.seq (.reg [
⟨(some 13), .b (.cmp 0 .int (.t 4) (.c (.w (.s (.int .i64 (.lit (.ofNat 59))))))), none⟩,
⟨(some 8), .p (.mv (.t 13)), none⟩]) (.cond (.t 8) (.skip) (.seq (.reg [
⟨(some 14), .b (.cmp 0 .int (.t 4) (.c (.w (.s (.int .i64 (.lit (.ofNat 63))))))), none⟩,
⟨(some 8), .p (.mv (.t 14)), none⟩]) (.cond (.t 8) (.skip) (.seq (.reg [
⟨(some 15), .b (.cmp 0 .int (.t 4) (.c (.w (.s (.int .i64 (.lit (.ofNat 64))))))), none⟩,
⟨(some 8), .p (.mv (.t 15)), none⟩]) (.cond (.t 8) (.skip) (.seq (.reg [
⟨(some 16), .b (.cmp 0 .int (.t 4) (.c (.w (.s (.int .i64 (.lit (.ofNat 73))))))), none⟩,
⟨(some 8), .p (.mv (.t 16)), none⟩]) (.cond (.t 8) (.skip) (.seq (.reg [
⟨(some 17), .b (.cmp 0 .int (.t 4) (.c (.w (.s (.int .i64 (.lit (.ofNat 81))))))), none⟩,
⟨(some 8), .p (.mv (.t 17)), none⟩]) (.cond (.t 8) (.skip) (.seq (.reg [
⟨(some 18), .b (.cmp 0 .int (.t 4) (.c (.w (.s (.int .i64 (.lit (.ofNat 84))))))), none⟩,
⟨(some 8), .p (.mv (.t 18)), none⟩]) (.cond (.t 8) (.skip) (.reg [
⟨(some 19), .b (.cmp 0 .int (.t 4) (.c (.w (.s (.int .i64 (.lit (.ofNat 92))))))), none⟩,
⟨(some 8), .p (.mv (.t 19)), none⟩]))))))))))))))))))))) (.cond (.t 8) (.seq (.reg [
⟨(some 2), .p (.mv (.c (.w (.s (.int .i64 (.lit (.ofNat 1))))))), none⟩,
⟨(some 3), .p (.mv (.c (.w (.s (.int .i64 (.lit (.ofNat 1))))))), none⟩]) (.ret)) (.seq (.seq (.reg [
⟨(some 21), .b (.cmp 0 .int (.t 4) (.c (.w (.s (.int .i64 (.lit (.ofNat 80))))))), none⟩,
⟨(some 20), .p (.mv (.t 21)), none⟩]) (.cond (.t 20) (.skip) (.seq (.reg [
⟨(some 22), .b (.cmp 0 .int (.t 4) (.c (.w (.s (.int .i64 (.lit (.ofNat 86))))))), none⟩,
⟨(some 20), .p (.mv (.t 22)), none⟩]) (.cond (.t 20) (.skip) (.reg [
⟨(some 23), .b (.cmp 0 .int (.t 4) (.c (.w (.s (.int .i64 (.lit (.ofNat 255))))))), none⟩,
⟨(some 20), .p (.mv (.t 23)), none⟩]))))) (.cond (.t 20) (.seq (.reg [
⟨(some 2), .p (.mv (.c (.w (.s (.int .i64 (.lit (.ofNat 1))))))), none⟩,
⟨(some 3), .p (.mv (.c (.w (.s (.int .i64 (.lit (.ofNat 0))))))), none⟩]) (.ret)) (.seq (.seq (.reg [
⟨(some 25), .b (.cmp 0 .int (.t 4) (.c (.w (.s (.int .i64 (.lit (.ofNat 82))))))), none⟩,
⟨(some 24), .p (.mv (.t 25)), none⟩]) (.cond (.t 24) (.skip) (.seq (.reg [
⟨(some 26), .b (.cmp 0 .int (.t 4) (.c (.w (.s (.int .i64 (.lit (.ofNat 83))))))), none⟩,
⟨(some 24), .p (.mv (.t 26)), none⟩]) (.cond (.t 24) (.skip) (.seq (.reg [
⟨(some 27), .b (.cmp 0 .int (.t 4) (.c (.w (.s (.int .i64 (.lit (.ofNat 85))))))), none⟩,
⟨(some 24), .p (.mv (.t 27)), none⟩]) (.cond (.t 24) (.skip) (.seq (.reg [
⟨(some 28), .b (.cmp 0 .int (.t 4) (.c (.w (.s (.int .i64 (.lit (.ofNat 87))))))), none⟩,
⟨(some 24), .p (.mv (.t 28)), none⟩]) (.cond (.t 24) (.skip) (.seq (.reg [
⟨(some 29), .b (.cmp 0 .int (.t 4) (.c (.w (.s (.int .i64 (.lit (.ofNat 93))))))), none⟩,
⟨(some 24), .p (.mv (.t 29)), none⟩]) (.cond (.t 24) (.skip) (.seq (.reg [
⟨(some 30), .b (.cmp 0 .int (.t 4) (.c (.w (.s (.int .i64 (.lit (.ofNat 243))))))), none⟩,
⟨(some 24), .p (.mv (.t 30)), none⟩]) (.cond (.t 24) (.skip) (.reg [
⟨(some 31), .b (.cmp 0 .int (.t 4) (.c (.w (.s (.int .i64 (.lit (.ofNat 253))))))), none⟩,
⟨(some 24), .p (.mv (.t 31)), none⟩]))))))))))))) (.cond (.t 24) (.seq (.reg [
⟨(some 2), .p (.mv (.c (.w (.s (.int .i64 (.lit (.ofNat 2))))))), none⟩,
⟨(some 3), .p (.mv (.c (.w (.s (.int .i64 (.lit (.ofNat 0))))))), none⟩]) (.ret)) (.seq (.seq (.reg [
⟨(some 33), .b (.cmp 0 .int (.t 4) (.c (.w (.s (.int .i64 (.lit (.ofNat 8))))))), none⟩,
⟨(some 32), .p (.mv (.t 33)), none⟩]) (.cond (.t 32) (.skip) (.seq (.reg [
⟨(some 34), .b (.cmp 0 .int (.t 4) (.c (.w (.s (.int .i64 (.lit (.ofNat 9))))))), none⟩,
⟨(some 32), .p (.mv (.t 34)), none⟩]) (.cond (.t 32) (.skip) (.reg [
⟨(some 35), .b (.cmp 0 .int (.t 4) (.c (.w (.s (.int .i64 (.lit (.ofNat 240))))))), none⟩,
⟨(some 32), .p (.mv (.t 35)), none⟩]))))) (.cond (.t 32) (.seq (.reg [
⟨(some 2), .p (.mv (.c (.w (.s (.int .i64 (.lit (.ofNat 3))))))), none⟩,
⟨(some 3), .p (.mv (.c (.w (.s (.int .i64 (.lit (.ofNat 1))))))), none⟩]) (.ret)) (.seq (.seq (.reg [
⟨(some 37), .b (.cmp 0 .int (.t 4) (.c (.w (.s (.int .i64 (.lit (.ofNat 55))))))), none⟩,
⟨(some 36), .p (.mv (.t 37)), none⟩]) (.cond (.t 36) (.skip) (.seq (.reg [
⟨(some 38), .b (.cmp 0 .int (.t 4) (.c (.w (.s (.int .i64 (.lit (.ofNat 57))))))), none⟩,
⟨(some 36), .p (.mv (.t 38)), none⟩]) (.cond (.t 36) (.skip) (.seq (.reg [
⟨(some 39), .b (.cmp 0 .int (.t 4) (.c (.w (.s (.int .i64 (.lit (.ofNat 62))))))), none⟩,
⟨(some 36), .p (.mv (.t 39)), none⟩]) (.cond (.t 36) (.skip) (.reg [
⟨(some 40), .b (.cmp 0 .int (.t 4) (.c (.w (.s (.int .i64 (.lit (.ofNat 94))))))), none⟩,
⟨(some 36), .p (.mv (.t 40)), none⟩]))))))) (.cond (.t 36) (.seq (.reg [
⟨(some 2), .p (.mv (.c (.w (.s (.int .i64 (.lit (.ofNat 3))))))), none⟩,
⟨(some 3), .p (.mv (.c (.w (.s (.int .i64 (.lit (.ofNat 0))))))), none⟩]) (.ret)) (.seq (.reg [
⟨(some 42), .b (.cmp 0 .int (.t 4) (.c (.w (.s (.int .i64 (.lit (.ofNat 60))))))), none⟩,
⟨(some 41), .p (.mv (.t 42)), none⟩]) (.cond (.t 41) (.seq (.reg [
⟨(some 2), .p (.mv (.c (.w (.s (.int .i64 (.lit (.ofNat 4))))))), none⟩,
⟨(some 3), .p (.mv (.c (.w (.s (.int .i64 (.lit (.ofNat 0))))))), none⟩]) (.ret)) (.seq (.reg [
⟨(some 44), .b (.cmp 0 .int (.t 4) (.c (.w (.s (.int .i64 (.lit (.ofNat 245))))))), none⟩,
⟨(some 43), .p (.mv (.t 44)), none⟩]) (.cond (.t 43) (.seq (.reg [
⟨(some 2), .p (.mv (.c (.w (.s (.int .i64 (.lit (.ofNat 4))))))), none⟩,
⟨(some 3), .p (.mv (.c (.w (.s (.int .i64 (.lit (.ofNat 1))))))), none⟩]) (.ret)) (.seq (.seq (.reg [
⟨(some 46), .b (.cmp 0 .int (.t 4) (.c (.w (.s (.int .i64 (.lit (.ofNat 244))))))), none⟩,
⟨(some 45), .p (.mv (.t 46)), none⟩]) (.cond (.t 45) (.skip) (.reg [
⟨(some 47), .b (.cmp 0 .int (.t 4) (.c (.w (.s (.int .i64 (.lit (.ofNat 250))))))), none⟩,
⟨(some 45), .p (.mv (.t 47)), none⟩]))) (.cond (.t 45) (.seq (.reg [
⟨(some 2), .p (.mv (.c (.w (.s (.int .i64 (.lit (.ofNat 6))))))), none⟩,
⟨(some 3), .p (.mv (.c (.w (.s (.int .i64 (.lit (.ofNat 1))))))), none⟩]) (.ret)) (.seq (.seq (.reg [
⟨(some 49), .b (.cmp 0 .int (.t 4) (.c (.w (.s (.int .i64 (.lit (.ofNat 241))))))), none⟩,
⟨(some 48), .p (.mv (.t 49)), none⟩]) (.cond (.t 48) (.skip) (.reg [
⟨(some 50), .b (.cmp 0 .int (.t 4) (.c (.w (.s (.int .i64 (.lit (.ofNat 242))))))), none⟩,
⟨(some 48), .p (.mv (.t 50)), none⟩]))) (.cond (.t 48) (.seq (.reg [
⟨(some 2), .p (.mv (.c (.w (.s (.int .i64 (.lit (.ofNat 7))))))), none⟩,
⟨(some 3), .p (.mv (.c (.w (.s (.int .i64 (.lit (.ofNat 1))))))), none⟩]) (.ret)) (.skip))))))))))))))))))))))) (.seq (.seq (.reg [
⟨(some 51), .p (.mv (.t 0)), none⟩,
⟨(some 52), .b (.cmp 2 .int (.t 51) (.c (.w (.s (.int .i64 (.lit (.ofNat 48))))))), none⟩]) (.cond (.t 52) (.seq (.reg [
⟨(some 2), .p (.mv (.c (.w (.s (.int .i64 (.lit (.ofNat 2))))))), none⟩,
⟨(some 3), .p (.mv (.c (.w (.s (.int .i64 (.lit (.ofNat 1))))))), none⟩]) (.ret)) (.skip))) (.seq (.reg [
⟨(some 2), .p (.mv (.c (.w (.s (.int .i64 (.lit (.ofNat 0))))))), none⟩,
⟨(some 3), .p (.mv (.c (.w (.s (.int .i64 (.lit (.ofNat 1))))))), none⟩]) (.ret))))⟩
theorem fo64 : ∃ func code hint, FnOk Go.Proofs.Tryz.prog TT 64 fa64 func code hint := ⟨Go.Proofs.Tryz.f64, bodyOf Go.Proofs.Tryz.f64, hintL [], ⟨Go.Proofs.Tryz.func64, Go.Proofs.Tryz.call64, by kernel_rfl, by kernel_rfl, by kernel_rfl, by kernel_rfl⟩⟩
/- quarry/gas.within -/
def fa65 : AFunc := ⟨15, [.tmp 6], .seq (.reg [
⟨(some 6), .p (.mv (.c (.w (.s (.bool false))))), none⟩]) (.seq (.reg [
⟨(some 7), .p (.mv (.t 0)), none⟩,
⟨(some 8), .p (.mv (.t 1)), none⟩,
⟨(some 9), .b (.cmp 5 .int (.t 7) (.t 8)), none⟩,
⟨(some 10), .p (.mv (.t 9)), none⟩,
⟨(some 11), .p (.mv (.t 0)), some (10, true)⟩,
⟨(some 12), .p (.mv (.t 2)), some (10, true)⟩,
⟨(some 13), .b (.cmp 3 .int (.t 11) (.t 12)), some (10, true)⟩,
⟨(some 14), .p (.pick (.t 10) (.t 13) (.c (.w (.s (.bool false))))), none⟩,
⟨(some 6), .p (.mv (.t 14)), none⟩]) (.ret))⟩
theorem fo65 : ∃ func code hint, FnOk Go.Proofs.Tryz.prog TT 65 fa65 func code hint := ⟨Go.Proofs.Tryz.f65, bodyOf Go.Proofs.Tryz.f65, hintL [], ⟨Go.Proofs.Tryz.func65, Go.Proofs.Tryz.call65, by kernel_rfl, by kernel_rfl, by kernel_rfl, by kernel_rfl⟩⟩
/- (*quarry/state.State).Nonce -/
def fa66 : AFunc := ⟨11, [.tmp 4], .seq (.reg [
⟨(some 3), .m (.box 30 (.t 1)), none⟩,
⟨(some 4), .p (.mv (.c (.w (.s (.int .u64 (.lit (.ofNat 0))))))), none⟩]) (.seq (.reg [
⟨(some 5), .p (.mv (.t 0)), none⟩,
⟨(some 6), .r (.load (some 20) (.t 3)), none⟩,
⟨(some 7), .b (.call 41 [(.t 5), (.t 6)]), none⟩,
⟨(some 8), .p (.nilCheck (.t 7)), none⟩,
⟨(some 9), .p (.faddr 0 (.t 8)), none⟩,
⟨(some 10), .r (.load none (.t 9)), none⟩,
⟨(some 4), .p (.mv (.t 10)), none⟩]) (.ret))⟩
theorem fo66 : ∃ func code hint, FnOk Go.Proofs.Tryz.prog TT 66 fa66 func code hint := ⟨Go.Proofs.Tryz.f66, bodyOf Go.Proofs.Tryz.f66, hintL [], ⟨Go.Proofs.Tryz.func66, Go.Proofs.Tryz.call66, by kernel_rfl, by kernel_rfl, by kernel_rfl, by kernel_rfl⟩⟩
/- (*quarry/vm.machine).has -/
def fa67 : AFunc := ⟨16, [.tmp 6], .seq (.reg [
⟨(some 4), .m (.box 30 (.t 1)), none⟩,
⟨(some 5), .m (.box 24 (.t 2)), none⟩,
⟨(some 6), .p (.mv (.c (.w (.s (.bool false))))), none⟩]) (.seq (.draw [
⟨0, ⟨(some 7), .p (.mv (.t 0)), none⟩, 0, 0⟩,
⟨1, ⟨(some 8), .p (.nilCheck (.t 7)), none⟩, 1, 0⟩,
⟨2, ⟨(some 9), .p (.faddr 89 (.t 8)), none⟩, 3, 0⟩,
⟨3, ⟨(some 10), .r (.load none (.t 9)), none⟩, 7, 0⟩,
⟨4, ⟨(some 11), .r (.load (some 20) (.t 4)), none⟩, 0, 0⟩,
⟨6, ⟨(some 13), .r (.load (some 4) (.t 5)), none⟩, 0, 0⟩,
⟨5, ⟨(some 12), .b (.call 20 [(.t 10), (.t 11)]), none⟩, 31, 0⟩,
⟨7, ⟨(some 14), .b (.call 91 [(.t 12), (.t 13)]), none⟩, 127, 0⟩,
⟨8, ⟨(some 15), .b (.cmp 5 .int (.t 14) (.c (.w (.s (.int .i64 (.lit (.ofNat 0))))))), none⟩, 255, 0⟩,
⟨9, ⟨(some 6), .p (.mv (.t 15)), none⟩, 511, 0⟩]) (.ret))⟩
theorem fo67 : ∃ func code hint, FnOk Go.Proofs.Tryz.prog TT 67 fa67 func code hint := ⟨Go.Proofs.Tryz.f67, bodyOf Go.Proofs.Tryz.f67, hintL [(1, [(0, 0), (1, 0), (2, 0), (3, 0), (4, 0), (6, 0), (5, 0), (7, 0), (8, 0), (9, 0)])], ⟨Go.Proofs.Tryz.func67, Go.Proofs.Tryz.call67, by kernel_rfl, by kernel_rfl, by kernel_rfl, by kernel_rfl⟩⟩
/- quarry/vm.refused -/
def fa68 : AFunc := ⟨5, [.cell 2 (some 23)], .seq (.reg [
⟨(some 2), .m (.alloc 132 [.int .i64 (.lit (.ofNat 0)), .nils, .int .u64 (.lit (.ofNat 0)), .int .u8 (.lit (.ofNat 0)), .int .u8 (.lit (.ofNat 0)), .int .u8 (.lit (.ofNat 0)), .int .u8 (.lit (.ofNat 0)), .int .u8 (.lit (.ofNat 0)), .int .u8 (.lit (.ofNat 0)), .int .u8 (.lit (.ofNat 0)), .int .u8 (.lit (.ofNat 0)), .int .u8 (.lit (.ofNat 0)), .int .u8 (.lit (.ofNat 0)), .int .u8 (.lit (.ofNat 0)), .int .u8 (.lit (.ofNat 0)), .int .u8 (.lit (.ofNat 0)), .int .u8 (.lit (.ofNat 0)), .int .u8 (.lit (.ofNat 0)), .int .u8 (.lit (.ofNat 0)), .int .u8 (.lit (.ofNat 0)), .int .u8 (.lit (.ofNat 0)), .int .u8 (.lit (.ofNat 0)), .int .u8 (.lit (.ofNat 0))]), none⟩]) (.seq (.reg [
⟨(some 3), .p (.mv (.t 0)), none⟩,
⟨(some 4), .p (.build [.int .i64 (.lit (.ofNat 0)), .nils, .int .u64 (.lit (.ofNat 0)), .int .u8 (.lit (.ofNat 0)), .int .u8 (.lit (.ofNat 0)), .int .u8 (.lit (.ofNat 0)), .int .u8 (.lit (.ofNat 0)), .int .u8 (.lit (.ofNat 0)), .int .u8 (.lit (.ofNat 0)), .int .u8 (.lit (.ofNat 0)), .int .u8 (.lit (.ofNat 0)), .int .u8 (.lit (.ofNat 0)), .int .u8 (.lit (.ofNat 0)), .int .u8 (.lit (.ofNat 0)), .int .u8 (.lit (.ofNat 0)), .int .u8 (.lit (.ofNat 0)), .int .u8 (.lit (.ofNat 0)), .int .u8 (.lit (.ofNat 0)), .int .u8 (.lit (.ofNat 0)), .int .u8 (.lit (.ofNat 0)), .int .u8 (.lit (.ofNat 0)), .int .u8 (.lit (.ofNat 0)), .int .u8 (.lit (.ofNat 0))] [(0, 1, (.c (.w (.s (.int .i64 (.lit (.ofNat 3))))))), (2, 1, (.t 3))]), none⟩,
⟨none, .b (.store 23 (.t 2) (.t 4)), none⟩]) (.ret))⟩
theorem fo68 : ∃ func code hint, FnOk Go.Proofs.Tryz.prog TT 68 fa68 func code hint := ⟨Go.Proofs.Tryz.f68, bodyOf Go.Proofs.Tryz.f68, hintL [], ⟨Go.Proofs.Tryz.func68, Go.Proofs.Tryz.call68, by kernel_rfl, by kernel_rfl, by kernel_rfl, by kernel_rfl⟩⟩
/- (*quarry/vm.machine).from -/
def fa70 : AFunc := ⟨11, [.tmp 4], .seq (.reg [
⟨(some 4), .p (.mv (.c (.w (.s (.bool false))))), none⟩]) (.seq (.reg [
⟨(some 5), .p (.mv (.t 0)), none⟩,
⟨(some 6), .p (.nilCheck (.t 5)), none⟩,
⟨(some 7), .p (.faddr 0 (.t 6)), none⟩,
⟨(some 8), .r (.load none (.t 7)), none⟩,
⟨(some 9), .p (.mv (.t 1)), none⟩,
⟨(some 10), .b (.cmp 5 .int (.t 8) (.t 9)), none⟩,
⟨(some 4), .p (.mv (.t 10)), none⟩]) (.ret))⟩
theorem fo70 : ∃ func code hint, FnOk Go.Proofs.Tryz.prog TT 70 fa70 func code hint := ⟨Go.Proofs.Tryz.f70, bodyOf Go.Proofs.Tryz.f70, hintL [], ⟨Go.Proofs.Tryz.func70, Go.Proofs.Tryz.call70, by kernel_rfl, by kernel_rfl, by kernel_rfl, by kernel_rfl⟩⟩
/- (*quarry/state.State).Heat -/
def fa71 : AFunc := ⟨23, [.tmp 4], .seq (.reg [
⟨(some 3), .m (.box 30 (.t 1)), none⟩,
⟨(some 4), .p (.mv (.c (.w (.s (.bool false))))), none⟩]) (.seq (.draw [
⟨0, ⟨(some 6), .p (.mv (.t 0)), none⟩, 0, 0⟩,
⟨1, ⟨(some 7), .p (.nilCheck (.t 6)), none⟩, 1, 0⟩,
⟨2, ⟨(some 8), .p (.faddr 1 (.t 7)), none⟩, 3, 0⟩,
⟨3, ⟨(some 9), .p (.faddr 2 (.t 8)), none⟩, 7, 0⟩,
⟨4, ⟨(some 10), .r (.load none (.t 9)), none⟩, 15, 0⟩,
⟨5, ⟨(some 11), .r (.load (some 20) (.t 3)), none⟩, 0, 0⟩,
⟨6, ⟨(some 12), .b (.call 59 [(.t 10), (.t 11)]), none⟩, 63, 0⟩,
⟨7, ⟨(some 5), .p (.mv (.t 12)), none⟩, 127, 0⟩]) (.seq (.draw [
⟨0, ⟨(some 13), .p (.mv (.t 0)), none⟩, 0, 0⟩,
⟨1, ⟨(some 14), .p (.mv (.t 0)), none⟩, 0, 0⟩,
⟨2, ⟨(some 15), .p (.nilCheck (.t 14)), none⟩, 2, 0⟩,
⟨3, ⟨(some 16), .p (.faddr 1 (.t 15)), none⟩, 6, 0⟩,
⟨4, ⟨(some 17), .p (.faddr 2 (.t 16)), none⟩, 14, 0⟩,
⟨5, ⟨(some 18), .r (.load none (.t 17)), none⟩, 30, 0⟩,
⟨6, ⟨(some 19), .r (.load (some 20) (.t 3)), none⟩, 0, 0⟩,
⟨7, ⟨(some 20), .p (.build [] []), none⟩, 0, 0⟩,
⟨8, ⟨(some 21), .b (.call 95 [(.t 13), (.t 18), (.t 19), (.t 20)]), none⟩, 255, 0⟩]) (.seq (.reg [
⟨(some 22), .p (.mv (.t 5)), none⟩,
⟨(some 4), .p (.mv (.t 22)), none⟩]) (.ret))))⟩
theorem fo71 : ∃ func code hint, FnOk Go.Proofs.Tryz.prog TT 71 fa71 func code hint := ⟨Go.Proofs.Tryz.f71, bodyOf Go.Proofs.Tryz.f71, hintL [(1, [(0, 0), (1, 0), (2, 0), (3, 0), (4, 0), (5, 0), (6, 0), (7, 0)]), (2, [(0, 0), (1, 0), (2, 0), (3, 0), (4, 0), (5, 0), (6, 0), (7, 0), (8, 0)])], ⟨Go.Proofs.Tryz.func71, Go.Proofs.Tryz.call71, by kernel_rfl, by kernel_rfl, by kernel_rfl, by kernel_rfl⟩⟩
/- quarry/vm.failed -/
def fa72 : AFunc := ⟨2, [.cell 0 (some 23)], .seq (.reg [
⟨(some 0), .m (.alloc 132 [.int .i64 (.lit (.ofNat 0)), .nils, .int .u64 (.lit (.ofNat 0)), .int .u8 (.lit (.ofNat 0)), .int .u8 (.lit (.ofNat 0)), .int .u8 (.lit (.ofNat 0)), .int .u8 (.lit (.ofNat 0)), .int .u8 (.lit (.ofNat 0)), .int .u8 (.lit (.ofNat 0)), .int .u8 (.lit (.ofNat 0)), .int .u8 (.lit (.ofNat 0)), .int .u8 (.lit (.ofNat 0)), .int .u8 (.lit (.ofNat 0)), .int .u8 (.lit (.ofNat 0)), .int .u8 (.lit (.ofNat 0)), .int .u8 (.lit (.ofNat 0)), .int .u8 (.lit (.ofNat 0)), .int .u8 (.lit (.ofNat 0)), .int .u8 (.lit (.ofNat 0)), .int .u8 (.lit (.ofNat 0)), .int .u8 (.lit (.ofNat 0)), .int .u8 (.lit (.ofNat 0)), .int .u8 (.lit (.ofNat 0))]), none⟩]) (.seq (.reg [
⟨(some 1), .p (.build [.int .i64 (.lit (.ofNat 0)), .nils, .int .u64 (.lit (.ofNat 0)), .int .u8 (.lit (.ofNat 0)), .int .u8 (.lit (.ofNat 0)), .int .u8 (.lit (.ofNat 0)), .int .u8 (.lit (.ofNat 0)), .int .u8 (.lit (.ofNat 0)), .int .u8 (.lit (.ofNat 0)), .int .u8 (.lit (.ofNat 0)), .int .u8 (.lit (.ofNat 0)), .int .u8 (.lit (.ofNat 0)), .int .u8 (.lit (.ofNat 0)), .int .u8 (.lit (.ofNat 0)), .int .u8 (.lit (.ofNat 0)), .int .u8 (.lit (.ofNat 0)), .int .u8 (.lit (.ofNat 0)), .int .u8 (.lit (.ofNat 0)), .int .u8 (.lit (.ofNat 0)), .int .u8 (.lit (.ofNat 0)), .int .u8 (.lit (.ofNat 0)), .int .u8 (.lit (.ofNat 0)), .int .u8 (.lit (.ofNat 0))] [(0, 1, (.c (.w (.s (.int .i64 (.lit (.ofNat 2)))))))]), none⟩,
⟨none, .b (.store 23 (.t 0) (.t 1)), none⟩]) (.ret))⟩
theorem fo72 : ∃ func code hint, FnOk Go.Proofs.Tryz.prog TT 72 fa72 func code hint := ⟨Go.Proofs.Tryz.f72, bodyOf Go.Proofs.Tryz.f72, hintL [], ⟨Go.Proofs.Tryz.func72, Go.Proofs.Tryz.call72, by kernel_rfl, by kernel_rfl, by kernel_rfl, by kernel_rfl⟩⟩
/- (*quarry/state.State).Mark -/
def fa73 : AFunc := ⟨38, [.tmp 2], .seq (.reg [
⟨(some 2), .p (.mv (.c (.w (.s (.int .i64 (.lit (.ofNat 0))))))), none⟩]) (.seq (.reg [
⟨(some 4), .p (.mv (.t 0)), none⟩,
⟨(some 5), .p (.nilCheck (.t 4)), none⟩,
⟨(some 6), .p (.faddr 1 (.t 5)), none⟩,
⟨(some 7), .p (.faddr 11 (.t 6)), none⟩,
⟨(some 8), .r (.load none (.t 7)), none⟩,
⟨(some 3), .p (.mv (.t 8)), none⟩]) (.seq (.reg [
⟨(some 9), .p (.mv (.t 0)), none⟩,
⟨(some 10), .p (.nilCheck (.t 9)), none⟩,
⟨(some 11), .p (.faddr 1 (.t 10)), none⟩,
⟨(some 12), .p (.faddr 11 (.t 11)), none⟩,
⟨(some 13), .r (.load none (.t 12)), none⟩,
⟨(some 14), .p (.ar 0 (.t 13) (.c (.w (.s (.int .i64 (.lit (.ofNat 1))))))), none⟩,
⟨(some 15), .p (.nilCheck (.t 9)), none⟩,
⟨(some 16), .p (.faddr 1 (.t 15)), none⟩,
⟨(some 17), .p (.faddr 11 (.t 16)), none⟩,
⟨none, .b (.store 1 (.t 17) (.t 14)), none⟩]) (.seq (.draw [
⟨0, ⟨(some 18), .p (.mv (.t 0)), none⟩, 0, 0⟩,
⟨1, ⟨(some 19), .p (.mv (.t 0)), none⟩, 0, 0⟩,
⟨2, ⟨(some 20), .p (.nilCheck (.t 19)), none⟩, 2, 0⟩,
⟨3, ⟨(some 21), .p (.faddr 1 (.t 20)), none⟩, 6, 0⟩,
⟨4, ⟨(some 22), .p (.faddr 10 (.t 21)), none⟩, 14, 0⟩,
⟨5, ⟨(some 23), .r (.load none (.t 22)), none⟩, 30, 0⟩,
⟨6, ⟨(some 24), .p (.mv (.t 3)), none⟩, 0, 0⟩,
⟨7, ⟨(some 25), .p (.mv (.t 0)), none⟩, 0, 0⟩,
⟨8, ⟨(some 26), .p (.nilCheck (.t 25)), none⟩, 128, 0⟩,
⟨9, ⟨(some 27), .p (.faddr 1 (.t 26)), none⟩, 384, 0⟩,
⟨10, ⟨(some 28), .p (.faddr 9 (.t 27)), none⟩, 896, 0⟩,
⟨11, ⟨(some 29), .r (.load none (.t 28)), none⟩, 1920, 0⟩,
⟨12, ⟨(some 30), .p (.len (.t 29)), none⟩, 3968, 0⟩,
⟨13, ⟨(some 31), .p (.build [.int .i64 (.lit (.ofNat 0)), .int .i64 (.lit (.ofNat 0))] [(0, 1, (.t 24)), (1, 1, (.t 30))]), none⟩, 8128, 0⟩,
⟨14, ⟨(some 32), .m (.bslice 181 1 [.int .i64 (.lit (.ofNat 0)), .int .i64 (.lit (.ofNat 0))] [(0, 2, (.t 31))]), none⟩, 16320, 0⟩,
⟨15, ⟨(some 33), .b (.append 181 2 16 (.t 23) (.t 32)), none⟩, 32766, 0⟩,
⟨16, ⟨(some 34), .p (.nilCheck (.t 18)), none⟩, 65535, 0⟩,
⟨17, ⟨(some 35), .p (.faddr 1 (.t 34)), none⟩, 131071, 0⟩,
⟨18, ⟨(some 36), .p (.faddr 10 (.t 35)), none⟩, 262143, 0⟩,
⟨19, ⟨none, .b (.store 1 (.t 36) (.t 33)), none⟩, 524287, 0⟩]) (.seq (.reg [
⟨(some 37), .p (.mv (.t 3)), none⟩,
⟨(some 2), .p (.mv (.t 37)), none⟩]) (.ret)))))⟩
theorem fo73 : ∃ func code hint, FnOk Go.Proofs.Tryz.prog TT 73 fa73 func code hint := ⟨Go.Proofs.Tryz.f73, bodyOf Go.Proofs.Tryz.f73, hintL [(3, [(0, 0), (1, 0), (2, 0), (3, 0), (4, 0), (5, 0), (6, 0), (7, 0), (8, 0), (9, 0), (10, 0), (11, 0), (12, 0), (13, 0), (14, 0), (15, 0), (16, 0), (17, 0), (18, 0), (19, 0)])], ⟨Go.Proofs.Tryz.func73, Go.Proofs.Tryz.call73, by kernel_rfl, by kernel_rfl, by kernel_rfl, by kernel_rfl⟩⟩
/- (*quarry/vm.machine).pays -/
def fa75 : AFunc := ⟨39, [], .seq (.reg [
⟨(some 5), .m (.box 30 (.t 1)), none⟩,
⟨(some 6), .m (.box 30 (.t 2)), none⟩,
⟨(some 7), .m (.box 24 (.t 3)), none⟩]) (.seq (.seq (.reg [
⟨(some 8), .r (.load (some 4) (.t 7)), none⟩,
⟨(some 9), .p (.build [.int .u64 (.lit (.ofNat 0)), .int .u64 (.lit (.ofNat 0)), .int .u64 (.lit (.ofNat 0)), .int .u64 (.lit (.ofNat 0))] []), none⟩,
⟨(some 10), .b (.cmp 0 (.agg (.one (.arr 4 22 .u64))) (.t 8) (.t 9)), none⟩]) (.cond (.t 10) (.ret) (.skip))) (.seq (.draw [
⟨0, ⟨(some 11), .p (.mv (.t 0)), none⟩, 0, 0⟩,
⟨1, ⟨(some 12), .p (.nilCheck (.t 11)), none⟩, 1, 0⟩,
⟨2, ⟨(some 13), .p (.faddr 89 (.t 12)), none⟩, 3, 0⟩,
⟨3, ⟨(some 14), .r (.load none (.t 13)), none⟩, 7, 0⟩,
⟨4, ⟨(some 15), .r (.load (some 20) (.t 5)), none⟩, 0, 0⟩,
⟨5, ⟨(some 16), .p (.mv (.t 0)), none⟩, 0, 0⟩,
⟨6, ⟨(some 17), .p (.nilCheck (.t 16)), none⟩, 32, 0⟩,
⟨7, ⟨(some 18), .p (.faddr 89 (.t 17)), none⟩, 96, 0⟩,
⟨8, ⟨(some 19), .r (.load none (.t 18)), none⟩, 224, 0⟩,
⟨9, ⟨(some 20), .r (.load (some 20) (.t 5)), none⟩, 0, 0⟩,
⟨11, ⟨(some 22), .r (.load (some 4) (.t 7)), none⟩, 0, 0⟩,
⟨10, ⟨(some 21), .b (.call 20 [(.t 19), (.t 20)]), none⟩, 992, 0⟩,
⟨12, ⟨(some 23), .b (.call 99 [(.t 21), (.t 22)]), none⟩, 4064, 0⟩,
⟨13, ⟨(some 24), .b (.call 98 [(.t 14), (.t 15), (.t 23)]), none⟩, 8191, 0⟩]) (.draw [
⟨0, ⟨(some 25), .p (.mv (.t 0)), none⟩, 0, 0⟩,
⟨1, ⟨(some 26), .p (.nilCheck (.t 25)), none⟩, 1, 0⟩,
⟨2, ⟨(some 27), .p (.faddr 89 (.t 26)), none⟩, 3, 0⟩,
⟨3, ⟨(some 28), .r (.load none (.t 27)), none⟩, 7, 0⟩,
⟨4, ⟨(some 29), .r (.load (some 20) (.t 6)), none⟩, 0, 0⟩,
⟨5, ⟨(some 30), .p (.mv (.t 0)), none⟩, 0, 0⟩,
⟨6, ⟨(some 31), .p (.nilCheck (.t 30)), none⟩, 32, 0⟩,
⟨7, ⟨(some 32), .p (.faddr 89 (.t 31)), none⟩, 96, 0⟩,
⟨8, ⟨(some 33), .r (.load none (.t 32)), none⟩, 224, 0⟩,
⟨9, ⟨(some 34), .r (.load (some 20) (.t 6)), none⟩, 0, 0⟩,
⟨11, ⟨(some 36), .r (.load (some 4) (.t 7)), none⟩, 0, 0⟩,
⟨10, ⟨(some 35), .b (.call 20 [(.t 33), (.t 34)]), none⟩, 992, 0⟩,
⟨12, ⟨(some 37), .b (.call 100 [(.t 35), (.t 36)]), none⟩, 4064, 0⟩,
⟨13, ⟨(some 38), .b (.call 98 [(.t 28), (.t 29), (.t 37)]), none⟩, 8191, 0⟩])))⟩
theorem fo75 : ∃ func code hint, FnOk Go.Proofs.Tryz.prog TT 75 fa75 func code hint := ⟨Go.Proofs.Tryz.f75, bodyOf Go.Proofs.Tryz.f75, hintL [(2, [(0, 0), (1, 0), (2, 0), (3, 0), (4, 0), (5, 0), (6, 0), (7, 0), (8, 0), (9, 0), (11, 0), (10, 0), (12, 0), (13, 0)]), (3, [(0, 0), (1, 0), (2, 0), (3, 0), (4, 0), (5, 0), (6, 0), (7, 0), (8, 0), (9, 0), (11, 0), (10, 0), (12, 0), (13, 0)])], ⟨Go.Proofs.Tryz.func75, Go.Proofs.Tryz.call75, by kernel_rfl, by kernel_rfl, by kernel_rfl, by kernel_rfl⟩⟩
/- (*quarry/state.State).Back -/
def fa78 : AFunc := ⟨76, [.tmp 4], .seq (.reg [
⟨(some 3), .m (.box 3 (.t 1)), none⟩,
⟨(some 4), .p (.mv (.c (.w (.s (.bool false))))), none⟩]) (.seq (.reg [
⟨(some 7), .p (.mv (.t 0)), none⟩,
⟨(some 8), .p (.nilCheck (.t 7)), none⟩,
⟨(some 9), .p (.faddr 1 (.t 8)), none⟩,
⟨(some 10), .p (.faddr 10 (.t 9)), none⟩,
⟨(some 11), .r (.load none (.t 10)), none⟩,
⟨(some 12), .p (.mkfunc 105 [(.t 3)]), none⟩,
⟨(some 13), .b (.call 104 [(.t 11), (.t 12)]), none⟩,
⟨(some 5), .p (.mv (.t 13)), none⟩]) (.seq (.seq (.reg [
⟨(some 14), .p (.mv (.t 5)), none⟩,
⟨(some 15), .b (.cmp 2 .int (.t 14) (.c (.w (.s (.int .i64 (.lit (.ofNat 0))))))), none⟩]) (.cond (.t 15) (.seq (.reg [
⟨(some 4), .p (.mv (.c (.w (.s (.bool false))))), none⟩]) (.ret)) (.skip))) (.seq (.seq (.reg [
⟨(some 16), .p (.mv (.t 0)), none⟩,
⟨(some 17), .p (.nilCheck (.t 16)), none⟩,
⟨(some 18), .p (.faddr 1 (.t 17)), none⟩,
⟨(some 19), .p (.faddr 9 (.t 18)), none⟩,
⟨(some 20), .r (.load none (.t 19)), none⟩,
⟨(some 21), .p (.len (.t 20)), none⟩,
⟨(some 22), .p (.ar 1 (.t 21) (.c (.w (.s (.int .i64 (.lit (.ofNat 1))))))), none⟩,
⟨(some 6), .p (.mv (.t 22)), none⟩]) (.block 0 (.loop (.seq (.seq (.reg [
⟨(some 23), .p (.mv (.t 6)), none⟩,
⟨(some 24), .p (.mv (.t 0)), none⟩,
⟨(some 25), .p (.nilCheck (.t 24)), none⟩,
⟨(some 26), .p (.faddr 1 (.t 25)), none⟩,
⟨(some 27), .p (.faddr 10 (.t 26)), none⟩,
⟨(some 28), .r (.load none (.t 27)), none⟩,
⟨(some 29), .p (.mv (.t 5)), none⟩,
⟨(some 30), .p (.iaddrS 2 (.t 28) (.t 29)), none⟩,
⟨(some 31), .p (.faddr 1 (.t 30)), none⟩,
⟨(some 32), .r (.load none (.t 31)), none⟩,
⟨(some 33), .b (.cmp 5 .int (.t 23) (.t 32)), none⟩]) (.cond (.t 33) (.skip) (.exit 0))) (.seq (.block 1 (.reg [
⟨(some 36), .p (.mv (.t 0)), none⟩,
⟨(some 37), .p (.nilCheck (.t 36)), none⟩,
⟨(some 38), .p (.faddr 1 (.t 37)), none⟩,
⟨(some 39), .p (.faddr 9 (.t 38)), none⟩,
⟨(some 40), .r (.load none (.t 39)), none⟩,
⟨(some 41), .p (.mv (.t 6)), none⟩,
⟨(some 42), .p (.iaddrS 1 (.t 40) (.t 41)), none⟩,
⟨(some 43), .r (.load none (.t 42)), none⟩,
⟨(some 44), .b (.callv (.t 43) []), none⟩])) (.reg [
⟨(some 34), .p (.mv (.t 6)), none⟩,
⟨(some 35), .p (.ar 1 (.t 34) (.c (.w (.s (.int .i64 (.lit (.ofNat 1))))))), none⟩,
⟨(some 6), .p (.mv (.t 35)), none⟩])))))) (.seq (.draw [
⟨0, ⟨(some 45), .p (.mv (.t 0)), none⟩, 0, 0⟩,
⟨1, ⟨(some 46), .p (.mv (.t 0)), none⟩, 0, 0⟩,
⟨2, ⟨(some 47), .p (.nilCheck (.t 46)), none⟩, 2, 0⟩,
⟨3, ⟨(some 48), .p (.faddr 1 (.t 47)), none⟩, 6, 0⟩,
⟨4, ⟨(some 49), .p (.faddr 9 (.t 48)), none⟩, 14, 0⟩,
⟨5, ⟨(some 50), .r (.load none (.t 49)), none⟩, 30, 0⟩,
⟨6, ⟨(some 51), .p (.mv (.t 0)), none⟩, 0, 0⟩,
⟨7, ⟨(some 52), .p (.nilCheck (.t 51)), none⟩, 64, 0⟩,
⟨8, ⟨(some 53), .p (.faddr 1 (.t 52)), none⟩, 192, 0⟩,
⟨9, ⟨(some 54), .p (.faddr 10 (.t 53)), none⟩, 448, 0⟩,
⟨10, ⟨(some 55), .r (.load none (.t 54)), none⟩, 960, 0⟩,
⟨11, ⟨(some 56), .p (.mv (.t 5)), none⟩, 0, 0⟩,
⟨12, ⟨(some 57), .p (.iaddrS 2 (.t 55) (.t 56)), none⟩, 4032, 0⟩,
⟨13, ⟨(some 58), .p (.faddr 1 (.t 57)), none⟩, 8128, 0⟩,
⟨14, ⟨(some 59), .r (.load none (.t 58)), none⟩, 16320, 0⟩,
⟨15, ⟨(some 60), .p (.slice 1 (.t 50) none (some (.t 59))), none⟩, 32766, 0⟩,
⟨16, ⟨(some 61), .p (.nilCheck (.t 45)), none⟩, 65535, 0⟩,
⟨17, ⟨(some 62), .p (.faddr 1 (.t 61)), none⟩, 131071, 0⟩,
⟨18, ⟨(some 63), .p (.faddr 9 (.t 62)), none⟩, 262143, 0⟩,
⟨19, ⟨none, .b (.store 1 (.t 63) (.t 60)), none⟩, 524287, 0⟩]) (.seq (.reg [
⟨(some 64), .p (.mv (.t 0)), none⟩,
⟨(some 65), .p (.mv (.t 0)), none⟩,
⟨(some 66), .p (.nilCheck (.t 65)), none⟩,
⟨(some 67), .p (.faddr 1 (.t 66)), none⟩,
⟨(some 68), .p (.faddr 10 (.t 67)), none⟩,
⟨(some 69), .r (.load none (.t 68)), none⟩,
⟨(some 70), .p (.mv (.t 5)), none⟩,
⟨(some 71), .p (.ar 0 (.t 70) (.c (.w (.s (.int .i64 (.lit (.ofNat 1))))))), none⟩,
⟨(some 72), .p (.slice 2 (.t 69) none (some (.t 71))), none⟩,
⟨(some 73), .p (.nilCheck (.t 64)), none⟩,
⟨(some 74), .p (.faddr 1 (.t 73)), none⟩,
⟨(some 75), .p (.faddr 10 (.t 74)), none⟩,
⟨none, .b (.store 1 (.t 75) (.t 72)), none⟩]) (.seq (.reg [
⟨(some 4), .p (.mv (.c (.w (.s (.bool true))))), none⟩]) (.ret)))))))⟩
theorem fo78 : ∃ func code hint, FnOk Go.Proofs.Tryz.prog TT 78 fa78 func code hint := ⟨Go.Proofs.Tryz.f78, bodyOf Go.Proofs.Tryz.f78, hintL [(8, [(0, 0), (1, 0), (2, 0), (3, 0), (4, 0), (5, 0), (6, 0), (7, 0), (8, 0), (9, 0), (10, 0), (11, 0), (12, 0), (13, 0), (14, 0), (15, 0), (16, 0), (17, 0), (18, 0), (19, 0)])], ⟨Go.Proofs.Tryz.func78, Go.Proofs.Tryz.call78, by kernel_rfl, by kernel_rfl, by kernel_rfl, by kernel_rfl⟩⟩
/- quarry/fork.Native -/
def fa84 : AFunc := ⟨33, [.tmp 4], .seq (.reg [
⟨(some 3), .m (.box 30 (.t 1)), none⟩,
⟨(some 4), .p (.mv (.c (.w (.s (.int .i64 (.lit (.ofNat 0))))))), none⟩]) (.seq (.reg [
⟨(some 6), .p (.iaddrA 20 1 (.t 3) (.c (.w (.s (.int .i64 (.lit (.ofNat 19))))))), none⟩,
⟨(some 7), .r (.load none (.t 6)), none⟩,
⟨(some 8), .p (.conv .i64 (.t 7)), none⟩,
⟨(some 5), .p (.mv (.t 8)), none⟩]) (.seq (.seq (.reg [
⟨(some 9), .r (.load (some 20) (.t 3)), none⟩,
⟨(some 10), .p (.mv (.t 5)), none⟩,
⟨(some 11), .p (.conv .u8 (.t 10)), none⟩,
⟨(some 12), .p (.build (lrep (.int .u8 (.lit (.ofNat 0))) 20) [(19, 1, (.t 11))]), none⟩,
⟨(some 13), .b (.cmp 1 (.agg (.one (.arr 20 5 .u8))) (.t 9) (.t 12)), none⟩,
⟨(some 14), .p (.mv (.t 13)), none⟩,
⟨(some 15), .p (.mv (.t 0)), some (14, false)⟩,
⟨(some 16), .b (.cmp 2 .int (.t 15) (.c (.w (.s (.int .i64 (.lit (.ofNat 0))))))), some (14, false)⟩,
⟨(some 17), .p (.pick (.t 14) (.c (.w (.s (.bool true)))) (.t 16)), none⟩,
⟨(some 18), .p (.mv (.t 17)), none⟩,
⟨(some 19), .p (.mv (.t 0)), some (18, false)⟩,
⟨(some 20), .b (.cmp 4 .int (.t 19) (.c (.w (.s (.int .i64 (.lit (.ofNat 15))))))), some (18, false)⟩,
⟨(some 21), .p (.pick (.t 18) (.c (.w (.s (.bool true)))) (.t 20)), none⟩]) (.cond (.t 21) (.seq (.reg [
⟨(some 4), .p (.mv (.c (.w (.s (.int .i64 (.lit (.ofNat 0))))))), none⟩]) (.ret)) (.skip))) (.seq (.seq (.reg [
⟨(some 22), .p (.mv (.t 5)), none⟩,
⟨(some 23), .p (.mv (.t 0)), none⟩,
⟨(some 24), .p (.build [.int .i64 (.lit (.ofNat 0)), .int .u64 (.lit (.ofNat 0))] [(0, 1, (.c (.w (.s (.int .i64 (.lit (.ofNat 0))))))), (1, 1, (.c (.w (.s (.int .u64 (.lit (.ofNat 4)))))))]), none⟩,
⟨(some 25), .p (.build [.int .i64 (.lit (.ofNat 0)), .int .u64 (.lit (.ofNat 0))] [(0, 1, (.c (.w (.s (.int .i64 (.lit (.ofNat 4))))))), (1, 1, (.c (.w (.s (.int .u64 (.lit (.ofNat 8)))))))]), none⟩,
⟨(some 26), .p (.build [.int .i64 (.lit (.ofNat 0)), .int .u64 (.lit (.ofNat 0))] [(0, 1, (.c (.w (.s (.int .i64 (.lit (.ofNat 7))))))), (1, 1, (.c (.w (.s (.int .u64 (.lit (.ofNat 9)))))))]), none⟩,
⟨(some 27), .p (.build [.int .i64 (.lit (.ofNat 0)), .int .u64 (.lit (.ofNat 0))] [(0, 1, (.c (.w (.s (.int .i64 (.lit (.ofNat 15))))))), (1, 1, (.c (.w (.s (.int .u64 (.lit (.ofNat 10)))))))]), none⟩,
⟨(some 28), .m (.bslice 148 4 [.int .i64 (.lit (.ofNat 0)), .int .u64 (.lit (.ofNat 0))] [(0, 2, (.t 24)), (2, 2, (.t 25)), (4, 2, (.t 26)), (6, 2, (.t 27))]), none⟩,
⟨(some 29), .b (.call 62 [(.t 23), (.t 28)]), none⟩,
⟨(some 30), .p (.conv .i64 (.t 29)), none⟩,
⟨(some 31), .b (.cmp 3 .int (.t 22) (.t 30)), none⟩]) (.cond (.t 31) (.seq (.reg [
⟨(some 32), .p (.mv (.t 5)), none⟩,
⟨(some 4), .p (.mv (.t 32)), none⟩]) (.ret)) (.skip))) (.seq (.reg [
⟨(some 4), .p (.mv (.c (.w (.s (.int .i64 (.lit (.ofNat 0))))))), none⟩]) (.ret)))))⟩
theorem fo84 : ∃ func code hint, FnOk Go.Proofs.Tryz.prog TT 84 fa84 func code hint := ⟨Go.Proofs.Tryz.f84, bodyOf Go.Proofs.Tryz.f84, hintL [], ⟨Go.Proofs.Tryz.func84, Go.Proofs.Tryz.call84, by kernel_rfl, by kernel_rfl, by kernel_rfl, by kernel_rfl⟩⟩
/- (*quarry/vm.machine).enters -/
def fa85 : AFunc := ⟨29, [.cell 6 (some 23)], .seq (.reg [
⟨(some 4), .m (.box 130 (.t 1)), none⟩,
⟨(some 6), .m (.alloc 132 [.int .i64 (.lit (.ofNat 0)), .nils, .int .u64 (.lit (.ofNat 0)), .int .u8 (.lit (.ofNat 0)), .int .u8 (.lit (.ofNat 0)), .int .u8 (.lit (.ofNat 0)), .int .u8 (.lit (.ofNat 0)), .int .u8 (.lit (.ofNat 0)), .int .u8 (.lit (.ofNat 0)), .int .u8 (.lit (.ofNat 0)), .int .u8 (.lit (.ofNat 0)), .int .u8 (.lit (.ofNat 0)), .int .u8 (.lit (.ofNat 0)), .int .u8 (.lit (.ofNat 0)), .int .u8 (.lit (.ofNat 0)), .int .u8 (.lit (.ofNat 0)), .int .u8 (.lit (.ofNat 0)), .int .u8 (.lit (.ofNat 0)), .int .u8 (.lit (.ofNat 0)), .int .u8 (.lit (.ofNat 0)), .int .u8 (.lit (.ofNat 0)), .int .u8 (.lit (.ofNat 0)), .int .u8 (.lit (.ofNat 0))]), none⟩]) (.seq (.reg [
⟨(some 9), .p (.mv (.t 0)), none⟩,
⟨(some 10), .p (.nilCheck (.t 9)), none⟩,
⟨(some 11), .p (.faddr 89 (.t 10)), none⟩,
⟨(some 12), .r (.load none (.t 11)), none⟩,
⟨(some 13), .b (.call 73 [(.t 12)]), none⟩,
⟨(some 7), .p (.mv (.t 13)), none⟩]) (.seq (.reg [
⟨(some 14), .p (.mv (.t 2)), none⟩,
⟨(some 15), .b (.callv (.t 14) []), none⟩]) (.seq (.reg [
⟨(some 16), .p (.mv (.t 0)), none⟩,
⟨(some 17), .r (.load (some 68) (.t 4)), none⟩,
⟨(some 18), .b (.call 109 [(.t 16), (.t 17)]), none⟩,
⟨(some 8), .m (.alloc 132 [.int .i64 (.lit (.ofNat 0)), .nils, .int .u64 (.lit (.ofNat 0)), .int .u8 (.lit (.ofNat 0)), .int .u8 (.lit (.ofNat 0)), .int .u8 (.lit (.ofNat 0)), .int .u8 (.lit (.ofNat 0)), .int .u8 (.lit (.ofNat 0)), .int .u8 (.lit (.ofNat 0)), .int .u8 (.lit (.ofNat 0)), .int .u8 (.lit (.ofNat 0)), .int .u8 (.lit (.ofNat 0)), .int .u8 (.lit (.ofNat 0)), .int .u8 (.lit (.ofNat 0)), .int .u8 (.lit (.ofNat 0)), .int .u8 (.lit (.ofNat 0)), .int .u8 (.lit (.ofNat 0)), .int .u8 (.lit (.ofNat 0)), .int .u8 (.lit (.ofNat 0)), .int .u8 (.lit (.ofNat 0)), .int .u8 (.lit (.ofNat 0)), .int .u8 (.lit (.ofNat 0)), .int .u8 (.lit (.ofNat 0))]), none⟩,
⟨none, .b (.store 23 (.t 8) (.t 18)), none⟩]) (.seq (.seq (.reg [
⟨(some 19), .p (.faddr 0 (.t 8)), none⟩,
⟨(some 20), .r (.load none (.t 19)), none⟩,
⟨(some 21), .b (.cmp 1 .int (.t 20) (.c (.w (.s (.int .i64 (.lit (.ofNat 0))))))), none⟩]) (.cond (.t 21) (.reg [
⟨(some 22), .p (.mv (.t 0)), none⟩,
⟨(some 23), .p (.nilCheck (.t 22)), none⟩,
⟨(some 24), .p (.faddr 89 (.t 23)), none⟩,
⟨(some 25), .r (.load none (.t 24)), none⟩,
⟨(some 26), .p (.mv (.t 7)), none⟩,
⟨(some 27), .b (.call 78 [(.t 25), (.t 26)]), none⟩]) (.skip))) (.seq (.reg [
⟨(some 28), .r (.load (some 23) (.t 8)), none⟩,
⟨none, .b (.store 23 (.t 6) (.t 28)), none⟩]) (.ret))))))⟩
theorem fo85 : ∃ func code hint, FnOk Go.Proofs.Tryz.prog TT 85 fa85 func code hint := ⟨Go.Proofs.Tryz.f85, bodyOf Go.Proofs.Tryz.f85, hintL [], ⟨Go.Proofs.Tryz.func85, Go.Proofs.Tryz.call85, by kernel_rfl, by kernel_rfl, by kernel_rfl, by kernel_rfl⟩⟩
/- (*quarry/vm.machine).calls$1 -/
def fa86 : AFunc := ⟨32, [], .seq (.seq (.draw [
⟨0, ⟨(some 2), .r (.load none (.t 0)), none⟩, 0, 0⟩,
⟨1, ⟨(some 3), .p (.nilCheck (.t 2)), none⟩, 1, 0⟩,
⟨2, ⟨(some 4), .p (.faddr 89 (.t 3)), none⟩, 3, 0⟩,
⟨3, ⟨(some 5), .r (.load none (.t 4)), none⟩, 7, 0⟩,
⟨4, ⟨(some 6), .p (.faddr 20 (.t 1)), none⟩, 0, 0⟩,
⟨5, ⟨(some 7), .r (.load (some 20) (.t 6)), none⟩, 16, 0⟩,
⟨6, ⟨(some 8), .b (.call 38 [(.t 5), (.t 7)]), none⟩, 63, 0⟩,
⟨7, ⟨(some 9), .p (.not (.t 8)), none⟩, 127, 0⟩]) (.cond (.t 9) (.draw [
⟨0, ⟨(some 10), .r (.load none (.t 0)), none⟩, 0, 0⟩,
⟨1, ⟨(some 11), .p (.nilCheck (.t 10)), none⟩, 1, 0⟩,
⟨2, ⟨(some 12), .p (.faddr 89 (.t 11)), none⟩, 3, 0⟩,
⟨3, ⟨(some 13), .r (.load none (.t 12)), none⟩, 7, 0⟩,
⟨4, ⟨(some 14), .p (.faddr 20 (.t 1)), none⟩, 0, 0⟩,
⟨5, ⟨(some 15), .r (.load (some 20) (.t 14)), none⟩, 16, 0⟩,
⟨6, ⟨(some 16), .b (.call 87 [(.t 13), (.t 15)]), none⟩, 63, 0⟩]) (.skip))) (.seq (.draw [
⟨0, ⟨(some 17), .r (.load none (.t 0)), none⟩, 0, 0⟩,
⟨1, ⟨(some 18), .p (.nilCheck (.t 17)), none⟩, 1, 0⟩,
⟨2, ⟨(some 19), .p (.faddr 89 (.t 18)), none⟩, 3, 0⟩,
⟨3, ⟨(some 20), .r (.load none (.t 19)), none⟩, 7, 0⟩,
⟨4, ⟨(some 21), .p (.faddr 20 (.t 1)), none⟩, 0, 0⟩,
⟨5, ⟨(some 22), .r (.load (some 20) (.t 21)), none⟩, 16, 0⟩,
⟨6, ⟨(some 23), .b (.call 88 [(.t 20), (.t 22)]), none⟩, 63, 0⟩]) (.reg [
⟨(some 24), .r (.load none (.t 0)), none⟩,
⟨(some 25), .p (.faddr 0 (.t 1)), none⟩,
⟨(some 26), .r (.load (some 20) (.t 25)), none⟩,
⟨(some 27), .p (.faddr 20 (.t 1)), none⟩,
⟨(some 28), .r (.load (some 20) (.t 27)), none⟩,
⟨(some 29), .p (.faddr 60 (.t 1)), none⟩,
⟨(some 30), .r (.load (some 4) (.t 29)), none⟩,
⟨(some 31), .b (.call 75 [(.t 24), (.t 26), (.t 28), (.t 30)]), none⟩]))⟩
theorem fo86 : ∃ func code hint, FnOk Go.Proofs.Tryz.prog TT 86 fa86 func code hint := ⟨Go.Proofs.Tryz.f86, bodyOf Go.Proofs.Tryz.f86, hintL [(0, [(0, 0), (1, 0), (2, 0), (3, 0), (4, 0), (5, 0), (6, 0), (7, 0)]), (1, [(0, 0), (1, 0), (2, 0), (3, 0), (4, 0), (5, 0), (6, 0)]), (2, [(0, 0), (1, 0), (2, 0), (3, 0), (4, 0), (5, 0), (6, 0)])], ⟨Go.Proofs.Tryz.func86, Go.Proofs.Tryz.call86, by kernel_rfl, by kernel_rfl, by kernel_rfl, by kernel_rfl⟩⟩
/- (*quarry/state.State).Open -/
def fa87 : AFunc := ⟨7, [], .seq (.reg [
⟨(some 3), .m (.box 30 (.t 1)), none⟩]) (.reg [
⟨(some 4), .p (.mv (.t 0)), none⟩,
⟨(some 5), .r (.load (some 20) (.t 3)), none⟩,
⟨(some 6), .b (.call 92 [(.t 4), (.t 5)]), none⟩])⟩
theorem fo87 : ∃ func code hint, FnOk Go.Proofs.Tryz.prog TT 87 fa87 func code hint := ⟨Go.Proofs.Tryz.f87, bodyOf Go.Proofs.Tryz.f87, hintL [], ⟨Go.Proofs.Tryz.func87, Go.Proofs.Tryz.call87, by kernel_rfl, by kernel_rfl, by kernel_rfl, by kernel_rfl⟩⟩
/- (*quarry/state.State).Touch -/
def fa88 : AFunc := ⟨13, [], .seq (.reg [
⟨(some 3), .m (.box 30 (.t 1)), none⟩]) (.draw [
⟨0, ⟨(some 4), .p (.mv (.t 0)), none⟩, 0, 0⟩,
⟨1, ⟨(some 5), .p (.mv (.t 0)), none⟩, 0, 0⟩,
⟨2, ⟨(some 6), .p (.nilCheck (.t 5)), none⟩, 2, 0⟩,
⟨3, ⟨(some 7), .p (.faddr 1 (.t 6)), none⟩, 6, 0⟩,
⟨4, ⟨(some 8), .p (.faddr 0 (.t 7)), none⟩, 14, 0⟩,
⟨5, ⟨(some 9), .r (.load none (.t 8)), none⟩, 30, 0⟩,
⟨6, ⟨(some 10), .r (.load (some 20) (.t 3)), none⟩, 0, 0⟩,
⟨7, ⟨(some 11), .p (.build [] []), none⟩, 0, 0⟩,
⟨8, ⟨(some 12), .b (.call 95 [(.t 4), (.t 9), (.t 10), (.t 11)]), none⟩, 255, 0⟩])⟩
theorem fo88 : ∃ func code hint, FnOk Go.Proofs.Tryz.prog TT 88 fa88 func code hint := ⟨Go.Proofs.Tryz.f88, bodyOf Go.Proofs.Tryz.f88, hintL [(1, [(0, 0), (1, 0), (2, 0), (3, 0), (4, 0), (5, 0), (6, 0), (7, 0), (8, 0)])], ⟨Go.Proofs.Tryz.func88, Go.Proofs.Tryz.call88, by kernel_rfl, by kernel_rfl, by kernel_rfl, by kernel_rfl⟩⟩
/- quarry/fork.since -/
def fa90 : AFunc := ⟨76, [.tmp 2], .seq (.reg [
⟨(some 2), .p (.mv (.c (.w (.s (.int .i64 (.lit (.ofNat 0))))))), none⟩]) (.seq (.block 0 (.seq (.reg [
⟨(some 4), .p (.mv (.t 0)), none⟩,
⟨(some 5), .b (.cmp 2 .int (.t 4) (.c (.w (.s (.int .i64 (.lit (.ofNat 0))))))), none⟩,
⟨(some 3), .p (.mv (.t 5)), none⟩]) (.cond (.t 3) (.seq (.reg [
⟨(some 2), .p (.mv (.c (.w (.s (.int .i64 (.lit (.negSucc 0))))))), none⟩]) (.ret)) (.seq (.seq (.reg [
⟨(some 7), .p (.mv (.t 0)), none⟩,
⟨(some 8), .b (.cmp 3 .int (.t 7) (.c (.w (.s (.int .i64 (.lit (.ofNat 11))))))), none⟩,
⟨(some 6), .p (.mv (.t 8)), none⟩]) (.cond (.t 6) (.skip) (.seq (.reg [
⟨(some 9), .p (.mv (.t 0)), none⟩,
⟨(some 10), .b (.cmp 5 .int (.t 9) (.c (.w (.s (.int .i64 (.lit (.ofNat 16))))))), none⟩,
⟨(some 11), .p (.mv (.t 10)), none⟩,
⟨(some 12), .p (.mv (.t 0)), some (11, true)⟩,
⟨(some 13), .b (.cmp 3 .int (.t 12) (.c (.w (.s (.int .i64 (.lit (.ofNat 26))))))), some (11, true)⟩,
⟨(some 14), .p (.pick (.t 11) (.t 13) (.c (.w (.s (.bool false))))), none⟩,
⟨(some 6), .p (.mv (.t 14)), none⟩]) (.cond (.t 6) (.skip) (.seq (.reg [
⟨(some 15), .p (.mv (.t 0)), none⟩,
⟨(some 16), .b (.cmp 0 .int (.t 15) (.c (.w (.s (.int .i64 (.lit (.ofNat 32))))))), none⟩,
⟨(some 6), .p (.mv (.t 16)), none⟩]) (.cond (.t 6) (.skip) (.seq (.reg [
⟨(some 17), .p (.mv (.t 0)), none⟩,
⟨(some 18), .b (.cmp 5 .int (.t 17) (.c (.w (.s (.int .i64 (.lit (.ofNat 48))))))), none⟩,
⟨(some 19), .p (.mv (.t 18)), none⟩,
⟨(some 20), .p (.mv (.t 0)), some (19, true)⟩,
⟨(some 21), .b (.cmp 3 .int (.t 20) (.c (.w (.s (.int .i64 (.lit (.ofNat 60))))))), some (19, true)⟩,
⟨(some 22), .p (.pick (.t 19) (.t 21) (.c (.w (.s (.bool false))))), none⟩,
⟨(some 6), .p (.mv (.t 22)), none⟩]) (.cond (.t 6) (.skip) (.seq (.reg [
⟨(some 23), .p (.mv (.t 0)), none⟩,
⟨(some 24), .b (.cmp 5 .int (.t 23) (.c (.w (.s (.int .i64 (.lit (.ofNat 64))))))), none⟩,
⟨(some 25), .p (.mv (.t 24)), none⟩,
⟨(some 26), .p (.mv (.t 0)), some (25, true)⟩,
⟨(some 27), .b (.cmp 3 .int (.t 26) (.c (.w (.s (.int .i64 (.lit (.ofNat 69))))))), some (25, true)⟩,
⟨(some 28), .p (.pick (.t 25) (.t 27) (.c (.w (.s (.bool false))))), none⟩,
⟨(some 6), .p (.mv (.t 28)), none⟩]) (.cond (.t 6) (.skip) (.seq (.reg [
⟨(some 29), .p (.mv (.t 0)), none⟩,
⟨(some 30), .b (.cmp 5 .int (.t 29) (.c (.w (.s (.int .i64 (.lit (.ofNat 80))))))), none⟩,
⟨(some 31), .p (.mv (.t 30)), none⟩,
⟨(some 32), .p (.mv (.t 0)), some (31, true)⟩,
⟨(some 33), .b (.cmp 3 .int (.t 32) (.c (.w (.s (.int .i64 (.lit (.ofNat 91))))))), some (31, true)⟩,
⟨(some 34), .p (.pick (.t 31) (.t 33) (.c (.w (.s (.bool false))))), none⟩,
⟨(some 6), .p (.mv (.t 34)), none⟩]) (.cond (.t 6) (.skip) (.seq (.reg [
⟨(some 35), .p (.mv (.t 0)), none⟩,
⟨(some 36), .b (.cmp 5 .int (.t 35) (.c (.w (.s (.int .i64 (.lit (.ofNat 96))))))), none⟩,
⟨(some 37), .p (.mv (.t 36)), none⟩,
⟨(some 38), .p (.mv (.t 0)), some (37, true)⟩,
⟨(some 39), .b (.cmp 3 .int (.t 38) (.c (.w (.s (.int .i64 (.lit (.ofNat 164))))))), some (37, true)⟩,
⟨(some 40), .p (.pick (.t 37) (.t 39) (.c (.w (.s (.bool false))))), none⟩,
⟨(some 6), .p (.mv (.t 40)), none⟩]) (.cond (.t 6) (.skip) (.seq (.reg [
⟨(some 41), .p (.mv (.t 0)), none⟩,
⟨(some 42), .b (.cmp 5 .int (.t 41) (.c (.w (.s (.int .i64 (.lit (.ofNat 240))))))), none⟩,
⟨(some 43), .p (.mv (.t 42)), none⟩,
⟨(some 44), .p (.mv (.t 0)), some (43, true)⟩,
⟨(some 45), .b (.cmp 3 .int (.t 44) (.c (.w (.s (.int .i64 (.lit (.ofNat 243))))))), some (43, true)⟩,
⟨(some 46), .p (.pick (.t 43) (.t 45) (.c (.w (.s (.bool false))))), none⟩,
⟨(some 6), .p (.mv (.t 46)), none⟩]) (.cond (.t 6) (.skip) (.reg [
⟨(some 47), .p (.mv (.t 0)), none⟩,
⟨(some 48), .b (.cmp 0 .int (.t 47) (.c (.w (.s (.int .i64 (.lit (.ofNat 255))))))), none⟩,
⟨(some 6), .p (.mv (.t 48)), none⟩]))))))))))))))))) (.cond (.t 6) (.seq (.reg [
⟨(some 2), .p (.mv (.c (.w (.s (.int .i64 (.lit (.ofNat 0))))))), none⟩]) (.ret)) (.skip)))))) (.seq (.seq (.reg [
⟨(some 49), .p (.mv (.t 0)), none⟩]) (.block 1 (.seq (.reg [
⟨(some 51), .b (.cmp 0 .int (.t 49) (.c (.w (.s (.int .i64 (.lit (.ofNat 244))))))), none⟩,
⟨(some 50), .p (.mv (.t 51)), none⟩]) (.cond (.t 50) (.seq (.reg [
⟨(some 2), .p (.mv (.c (.w (.s (.int .i64 (.lit (.ofNat 1))))))), none⟩]) (.ret)) (.seq (.seq (.reg [
⟨(some 53), .b (.cmp 0 .int (.t 49) (.c (.w (.s (.int .i64 (.lit (.ofNat 61))))))), none⟩,
⟨(some 52), .p (.mv (.t 53)), none⟩]) (.cond (.t 52) (.skip) (.seq (.reg [
⟨(some 54), .b (.cmp 0 .int (.t 49) (.c (.w (.s (.int .i64 (.lit (.ofNat 62))))))), none⟩,
⟨(some 52), .p (.mv (.t 54)), none⟩]) (.cond (.t 52) (.skip) (.seq (.reg [
⟨(some 55), .b (.cmp 0 .int (.t 49) (.c (.w (.s (.int .i64 (.lit (.ofNat 250))))))), none⟩,
⟨(some 52), .p (.mv (.t 55)), none⟩]) (.cond (.t 52) (.skip) (.reg [
⟨(some 56), .b (.cmp 0 .int (.t 49) (.c (.w (.s (.int .i64 (.lit (.ofNat 253))))))), none⟩,
⟨(some 52), .p (.mv (.t 56)), none⟩]))))))) (.cond (.t 52) (.seq (.reg [
⟨(some 2), .p (.mv (.c (.w (.s (.int .i64 (.lit (.ofNat 4))))))), none⟩]) (.ret)) (.seq (.seq (.reg [
⟨(some 58), .b (.cmp 0 .int (.t 49) (.c (.w (.s (.int .i64 (.lit (.ofNat 27))))))), none⟩,
⟨(some 57), .p (.mv (.t 58)), none⟩]) (.cond (.t 57) (.skip) (.seq (.reg [
⟨(some 59), .b (.cmp 0 .int (.t 49) (.c (.w (.s (.int .i64 (.lit (.ofNat 28))))))), none⟩,
⟨(some 57), .p (.mv (.t 59)), none⟩]) (.cond (.t 57) (.skip) (.seq (.reg [
⟨(some 60), .b (.cmp 0 .int (.t 49) (.c (.w (.s (.int .i64 (.lit (.ofNat 29))))))), none⟩,
⟨(some 57), .p (.mv (.t 60)), none⟩]) (.cond (.t 57) (.skip) (.seq (.reg [
⟨(some 61), .b (.cmp 0 .int (.t 49) (.c (.w (.s (.int .i64 (.lit (.ofNat 63))))))), none⟩,
⟨(some 57), .p (.mv (.t 61)), none⟩]) (.cond (.t 57) (.skip) (.reg [
⟨(some 62), .b (.cmp 0 .int (.t 49) (.c (.w (.s (.int .i64 (.lit (.ofNat 245))))))), none⟩,
⟨(some 57), .p (.mv (.t 62)), none⟩]))))))))) (.cond (.t 57) (.seq (.reg [
⟨(some 2), .p (.mv (.c (.w (.s (.int .i64 (.lit (.ofNat 5))))))), none⟩]) (.ret)) (.seq (.seq (.reg [
⟨(some 64), .b (.cmp 0 .int (.t 49) (.c (.w (.s (.int .i64 (.lit (.ofNat 70))))))), none⟩,
⟨(some 63), .p (.mv (.t 64)), none⟩]) (.cond (.t 63) (.skip) (.reg [
⟨(some 65), .b (.cmp 0 .int (.t 49) (.c (.w (.s (.int .i64 (.lit (.ofNat 71))))))), none⟩,
⟨(some 63), .p (.mv (.t 65)), none⟩]))) (.cond (.t 63) (.seq (.reg [
⟨(some 2), .p (.mv (.c (.w (.s (.int .i64 (.lit (.ofNat 7))))))), none⟩]) (.ret)) (.seq (.reg [
⟨(some 67), .b (.cmp 0 .int (.t 49) (.c (.w (.s (.int .i64 (.lit (.ofNat 72))))))), none⟩,
⟨(some 66), .p (.mv (.t 67)), none⟩]) (.cond (.t 66) (.seq (.reg [
⟨(some 2), .p (.mv (.c (.w (.s (.int .i64 (.lit (.ofNat 10))))))), none⟩]) (.ret)) (.seq (.reg [
⟨(some 69), .b (.cmp 0 .int (.t 49) (.c (.w (.s (.int .i64 (.lit (.ofNat 95))))))), none⟩,
⟨(some 68), .p (.mv (.t 69)), none⟩]) (.cond (.t 68) (.seq (.reg [
⟨(some 2), .p (.mv (.c (.w (.s (.int .i64 (.lit (.ofNat 14))))))), none⟩]) (.ret)) (.seq (.seq (.reg [
⟨(some 71), .b (.cmp 0 .int (.t 49) (.c (.w (.s (.int .i64 (.lit (.ofNat 73))))))), none⟩,
⟨(some 70), .p (.mv (.t 71)), none⟩]) (.cond (.t 70) (.skip) (.seq (.reg [
⟨(some 72), .b (.cmp 0 .int (.t 49) (.c (.w (.s (.int .i64 (.lit (.ofNat 74))))))), none⟩,
⟨(some 70), .p (.mv (.t 72)), none⟩]) (.cond (.t 70) (.skip) (.seq (.reg [
⟨(some 73), .b (.cmp 0 .int (.t 49) (.c (.w (.s (.int .i64 (.lit (.ofNat 92))))))), none⟩,
⟨(some 70), .p (.mv (.t 73)), none⟩]) (.cond (.t 70) (.skip) (.seq (.reg [
⟨(some 74), .b (.cmp 0 .int (.t 49) (.c (.w (.s (.int .i64 (.lit (.ofNat 93))))))), none⟩,
⟨(some 70), .p (.mv (.t 74)), none⟩]) (.cond (.t 70) (.skip) (.reg [
⟨(some 75), .b (.cmp 0 .int (.t 49) (.c (.w (.s (.int .i64 (.lit (.ofNat 94))))))), none⟩,
⟨(some 70), .p (.mv (.t 75)), none⟩]))))))))) (.cond (.t 70) (.seq (.reg [
⟨(some 2), .p (.mv (.c (.w (.s (.int .i64 (.lit (.ofNat 15))))))), none⟩]) (.ret)) (.skip))))))))))))))))) (.seq (.reg [
⟨(some 2), .p (.mv (.c (.w (.s (.int .i64 (.lit (.negSucc 0))))))), none⟩]) (.ret))))⟩
theorem fo90 : ∃ func code hint, FnOk Go.Proofs.Tryz.prog TT 90 fa90 func code hint := ⟨Go.Proofs.Tryz.f90, bodyOf Go.Proofs.Tryz.f90, hintL [], ⟨Go.Proofs.Tryz.func90, Go.Proofs.Tryz.call90, by kernel_rfl, by kernel_rfl, by kernel_rfl, by kernel_rfl⟩⟩
/- quarry/word.Cmp -/
def fa91 : AFunc := ⟨26, [.tmp 4], .seq (.reg [
⟨(some 2), .m (.box 24 (.t 0)), none⟩,
⟨(some 3), .m (.box 24 (.t 1)), none⟩,
⟨(some 4), .p (.mv (.c (.w (.s (.int .i64 (.lit (.ofNat 0))))))), none⟩]) (.seq (.seq (.reg [
⟨(some 5), .p (.mv (.c (.w (.s (.int .i64 (.lit (.ofNat 3))))))), none⟩]) (.block 0 (.loop (.seq (.seq (.reg [
⟨(some 6), .p (.mv (.t 5)), none⟩,
⟨(some 7), .b (.cmp 5 .int (.t 6) (.c (.w (.s (.int .i64 (.lit (.ofNat 0))))))), none⟩]) (.cond (.t 7) (.skip) (.exit 0))) (.seq (.block 1 (.block 2 (.seq (.draw [
⟨0, ⟨(some 11), .p (.mv (.t 5)), none⟩, 0, 0⟩,
⟨1, ⟨(some 12), .p (.iaddrA 4 1 (.t 2) (.t 11)), none⟩, 1, 0⟩,
⟨2, ⟨(some 13), .r (.load none (.t 12)), none⟩, 3, 0⟩,
⟨3, ⟨(some 14), .p (.mv (.t 5)), none⟩, 0, 0⟩,
⟨4, ⟨(some 15), .p (.iaddrA 4 1 (.t 3) (.t 14)), none⟩, 8, 0⟩,
⟨5, ⟨(some 16), .r (.load none (.t 15)), none⟩, 24, 0⟩,
⟨6, ⟨(some 17), .b (.cmp 2 .int (.t 13) (.t 16)), none⟩, 63, 0⟩,
⟨7, ⟨(some 10), .p (.mv (.t 17)), none⟩, 127, 0⟩]) (.cond (.t 10) (.seq (.reg [
⟨(some 4), .p (.mv (.c (.w (.s (.int .i64 (.lit (.negSucc 0))))))), none⟩]) (.ret)) (.seq (.draw [
⟨0, ⟨(some 19), .p (.mv (.t 5)), none⟩, 0, 0⟩,
⟨1, ⟨(some 20), .p (.iaddrA 4 1 (.t 2) (.t 19)), none⟩, 1, 0⟩,
⟨2, ⟨(some 21), .r (.load none (.t 20)), none⟩, 3, 0⟩,
⟨3, ⟨(some 22), .p (.mv (.t 5)), none⟩, 0, 0⟩,
⟨4, ⟨(some 23), .p (.iaddrA 4 1 (.t 3) (.t 22)), none⟩, 8, 0⟩,
⟨5, ⟨(some 24), .r (.load none (.t 23)), none⟩, 24, 0⟩,
⟨6, ⟨(some 25), .b (.cmp 4 .int (.t 21) (.t 24)), none⟩, 63, 0⟩,
⟨7, ⟨(some 18), .p (.mv (.t 25)), none⟩, 127, 0⟩]) (.cond (.t 18) (.seq (.reg [
⟨(some 4), .p (.mv (.c (.w (.s (.int .i64 (.lit (.ofNat 1))))))), none⟩]) (.ret)) (.skip))))))) (.reg [
⟨(some 8), .p (.mv (.t 5)), none⟩,
⟨(some 9), .p (.ar 1 (.t 8) (.c (.w (.s (.int .i64 (.lit (.ofNat 1))))))), none⟩,
⟨(some 5), .p (.mv (.t 9)), none⟩])))))) (.seq (.reg [
⟨(some 4), .p (.mv (.c (.w (.s (.int .i64 (.lit (.ofNat 0))))))), none⟩]) (.ret)))⟩
theorem fo91 : ∃ func code hint, FnOk Go.Proofs.Tryz.prog TT 91 fa91 func code hint := ⟨Go.Proofs.Tryz.f91, bodyOf Go.Proofs.Tryz.f91, hintL [(4, [(0, 0), (1, 0), (2, 0), (3, 0), (4, 0), (5, 0), (6, 0), (7, 0)]), (6, [(0, 0), (1, 0), (2, 0), (3, 0), (4, 0), (5, 0), (6, 0), (7, 0)])], ⟨Go.Proofs.Tryz.func91, Go.Proofs.Tryz.call91, by kernel_rfl, by kernel_rfl, by kernel_rfl, by kernel_rfl⟩⟩
/- (*quarry/state.State).opened -/
def fa92 : AFunc := ⟨28, [.tmp 4], .seq (.reg [
⟨(some 3), .m (.box 30 (.t 1)), none⟩,
⟨(some 4), .p (.mv (.c (.w (.s (.nilp))))), none⟩]) (.seq (.reg [
⟨(some 5), .p (.mv (.t 0)), none⟩,
⟨(some 6), .r (.load (some 20) (.t 3)), none⟩,
⟨(some 7), .b (.call 88 [(.t 5), (.t 6)]), none⟩]) (.seq (.seq (.reg [
⟨(some 8), .p (.mv (.t 0)), none⟩,
⟨(some 9), .r (.load (some 20) (.t 3)), none⟩,
⟨(some 10), .b (.call 38 [(.t 8), (.t 9)]), none⟩,
⟨(some 11), .p (.not (.t 10)), none⟩]) (.cond (.t 11) (.draw [
⟨0, ⟨(some 12), .p (.mv (.t 0)), none⟩, 0, 0⟩,
⟨1, ⟨(some 13), .p (.mv (.t 0)), none⟩, 0, 0⟩,
⟨2, ⟨(some 14), .p (.nilCheck (.t 13)), none⟩, 2, 0⟩,
⟨3, ⟨(some 15), .p (.faddr 0 (.t 14)), none⟩, 6, 0⟩,
⟨4, ⟨(some 16), .r (.load none (.t 15)), none⟩, 14, 0⟩,
⟨5, ⟨(some 17), .r (.load (some 20) (.t 3)), none⟩, 0, 0⟩,
⟨6, ⟨(some 18), .m (.mkmap), none⟩, 0, 0⟩,
⟨7, ⟨(some 19), .p (.build [.int .u64 (.lit (.ofNat 0)), .int .u64 (.lit (.ofNat 0)), .int .u64 (.lit (.ofNat 0)), .int .u64 (.lit (.ofNat 0)), .int .u64 (.lit (.ofNat 0)), .nils, .nilm] [(6, 1, (.t 18))]), none⟩, 64, 0⟩,
⟨8, ⟨(some 20), .m (.box 93 (.t 19)), none⟩, 192, 1⟩,
⟨9, ⟨(some 21), .b (.call 97 [(.t 12), (.t 16), (.t 17), (.t 20)]), none⟩, 511, 0⟩]) (.skip))) (.seq (.draw [
⟨0, ⟨(some 22), .p (.mv (.t 0)), none⟩, 0, 0⟩,
⟨1, ⟨(some 23), .p (.nilCheck (.t 22)), none⟩, 1, 0⟩,
⟨2, ⟨(some 24), .p (.faddr 0 (.t 23)), none⟩, 3, 0⟩,
⟨3, ⟨(some 25), .r (.load none (.t 24)), none⟩, 7, 0⟩,
⟨4, ⟨(some 26), .r (.load (some 20) (.t 3)), none⟩, 0, 0⟩,
⟨5, ⟨(some 27), .r (.lookup (.one (.arr 20 5 .u8)) (.s (.nilp)) (.t 25) (.t 26) false), none⟩, 31, 0⟩,
⟨6, ⟨(some 4), .p (.mv (.t 27)), none⟩, 63, 0⟩]) (.ret))))⟩
theorem fo92 : ∃ func code hint, FnOk Go.Proofs.Tryz.prog TT 92 fa92 func code hint := ⟨Go.Proofs.Tryz.f92, bodyOf Go.Proofs.Tryz.f92, hintL [(3, [(0, 0), (1, 0), (2, 0), (3, 0), (4, 0), (5, 0), (6, 0), (7, 0), (8, 1), (9, 0)]), (4, [(0, 0), (1, 0), (2, 0), (3, 0), (4, 0), (5, 0), (6, 0)])], ⟨Go.Proofs.Tryz.func92, Go.Proofs.Tryz.call92, by kernel_rfl, by kernel_rfl, by kernel_rfl, by kernel_rfl⟩⟩
/- (*quarry/state.State).undoable -/
def fa93 : AFunc := ⟨16, [], .reg [
⟨(some 4), .p (.mv (.t 0)), none⟩,
⟨(some 5), .p (.mv (.t 0)), none⟩,
⟨(some 6), .p (.nilCheck (.t 5)), none⟩,
⟨(some 7), .p (.faddr 1 (.t 6)), none⟩,
⟨(some 8), .p (.faddr 9 (.t 7)), none⟩,
⟨(some 9), .r (.load none (.t 8)), none⟩,
⟨(some 10), .p (.mv (.t 1)), none⟩,
⟨(some 11), .m (.bslice 1 1 [.nilfn] [(0, 1, (.t 10))]), none⟩,
⟨(some 12), .b (.append 1 1 8 (.t 9) (.t 11)), none⟩,
⟨(some 13), .p (.nilCheck (.t 4)), none⟩,
⟨(some 14), .p (.faddr 1 (.t 13)), none⟩,
⟨(some 15), .p (.faddr 9 (.t 14)), none⟩,
⟨none, .b (.store 1 (.t 15) (.t 12)), none⟩]⟩
theorem fo93 : ∃ func code hint, FnOk Go.Proofs.Tryz.prog TT 93 fa93 func code hint := ⟨Go.Proofs.Tryz.f93, bodyOf Go.Proofs.Tryz.f93, hintL [], ⟨Go.Proofs.Tryz.func93, Go.Proofs.Tryz.call93, by kernel_rfl, by kernel_rfl, by kernel_rfl, by kernel_rfl⟩⟩
/- quarry/state.put[quarry/api.Address,struct{}] -/
def fa95 : AFunc := ⟨22, [], .seq (.reg [
⟨(some 5), .m (.box 101 (.t 1)), none⟩,
⟨(some 6), .m (.box 30 (.t 2)), none⟩,
⟨(some 7), .m (.box 174 (.t 3)), none⟩]) (.seq (.reg [
⟨(some 11), .r (.load none (.t 5)), none⟩,
⟨(some 12), .r (.load (some 20) (.t 6)), none⟩,
⟨(some 13), .r (.lookup (.one (.arr 20 5 .u8)) (.agg []) (.t 11) (.t 12) true), none⟩,
⟨(some 10), .p (.mv (.t 13)), none⟩,
⟨(some 14), .p (.ext (.t 10) 0), none⟩,
⟨(some 15), .p (.ext (.t 10) 1), none⟩,
⟨(some 8), .m (.alloc 174 []), none⟩,
⟨(some 9), .m (.alloc 4 [.bool false]), none⟩,
⟨none, .b (.store 0 (.t 8) (.t 14)), none⟩,
⟨none, .b (.store 1 (.t 9) (.t 15)), none⟩]) (.seq (.reg [
⟨(some 16), .r (.load none (.t 5)), none⟩,
⟨(some 17), .r (.load (some 20) (.t 6)), none⟩,
⟨(some 18), .r (.load (some 0) (.t 7)), none⟩,
⟨none, .b (.mupd (.one (.arr 20 5 .u8)) (.t 16) (.t 17) (.t 18)), none⟩]) (.reg [
⟨(some 19), .p (.mv (.t 0)), none⟩,
⟨(some 20), .p (.mkfunc 110 [(.t 9), (.t 8), (.t 5), (.t 6)]), none⟩,
⟨(some 21), .b (.call 93 [(.t 19), (.t 20)]), none⟩])))⟩
theorem fo95 : ∃ func code hint, FnOk Go.Proofs.Tryz.prog TT 95 fa95 func code hint := ⟨Go.Proofs.Tryz.f95, bodyOf Go.Proofs.Tryz.f95, hintL [], ⟨Go.Proofs.Tryz.func95, Go.Proofs.Tryz.call95, by kernel_rfl, by kernel_rfl, by kernel_rfl, by kernel_rfl⟩⟩
/- (*quarry/state.State).first -/
def fa96 : AFunc := ⟨27, [], .seq (.reg [
⟨(some 4), .m (.box 113 (.t 1)), none⟩,
⟨(some 5), .m (.box 24 (.t 2)), none⟩]) (.seq (.draw [
⟨0, ⟨(some 9), .p (.mv (.t 0)), none⟩, 0, 0⟩,
⟨1, ⟨(some 10), .p (.nilCheck (.t 9)), none⟩, 1, 0⟩,
⟨2, ⟨(some 11), .p (.faddr 1 (.t 10)), none⟩, 3, 0⟩,
⟨3, ⟨(some 12), .p (.faddr 6 (.t 11)), none⟩, 7, 0⟩,
⟨4, ⟨(some 13), .r (.load none (.t 12)), none⟩, 15, 0⟩,
⟨5, ⟨(some 14), .r (.load (some 24) (.t 4)), none⟩, 0, 0⟩,
⟨6, ⟨(some 15), .r (.lookup (.str [(0, 30, .arr 20 5 .u8), (20, 24, .arr 4 22 .u64)]) (.agg [.int .u64 (.lit (.ofNat 0)), .int .u64 (.lit (.ofNat 0)), .int .u64 (.lit (.ofNat 0)), .int .u64 (.lit (.ofNat 0))]) (.t 13) (.t 14) true), none⟩, 63, 0⟩,
⟨7, ⟨(some 8), .p (.mv (.t 15)), none⟩, 127, 0⟩,
⟨8, ⟨(some 16), .p (.ext (.t 8) 0), none⟩, 255, 0⟩,
⟨9, ⟨(some 17), .p (.ext (.t 8) 1), none⟩, 255, 0⟩,
⟨10, ⟨(some 6), .m (.alloc 24 [.int .u64 (.lit (.ofNat 0)), .int .u64 (.lit (.ofNat 0)), .int .u64 (.lit (.ofNat 0)), .int .u64 (.lit (.ofNat 0))]), none⟩, 0, 0⟩,
⟨11, ⟨none, .b (.store 4 (.t 6) (.t 16)), none⟩, 1535, 0⟩,
⟨12, ⟨(some 7), .p (.mv (.t 17)), none⟩, 4095, 0⟩]) (.seq (.reg [
⟨(some 18), .p (.mv (.t 7)), none⟩,
⟨(some 19), .p (.not (.t 18)), none⟩]) (.cond (.t 19) (.draw [
⟨0, ⟨(some 20), .p (.mv (.t 0)), none⟩, 0, 0⟩,
⟨1, ⟨(some 21), .p (.nilCheck (.t 20)), none⟩, 1, 0⟩,
⟨2, ⟨(some 22), .p (.faddr 1 (.t 21)), none⟩, 3, 0⟩,
⟨3, ⟨(some 23), .p (.faddr 6 (.t 22)), none⟩, 7, 0⟩,
⟨4, ⟨(some 24), .r (.load none (.t 23)), none⟩, 15, 0⟩,
⟨5, ⟨(some 25), .r (.load (some 24) (.t 4)), none⟩, 0, 0⟩,
⟨6, ⟨(some 26), .r (.load (some 4) (.t 5)), none⟩, 0, 0⟩,
⟨7, ⟨none, .b (.mupd (.str [(0, 30, .arr 20 5 .u8), (20, 24, .arr 4 22 .u64)]) (.t 24) (.t 25) (.t 26)), none⟩, 127, 0⟩]) (.skip))))⟩
theorem fo96 : ∃ func code hint, FnOk Go.Proofs.Tryz.prog TT 96 fa96 func code hint := ⟨Go.Proofs.Tryz.f96, bodyOf Go.Proofs.Tryz.f96, hintL [(1, [(0, 0), (1, 0), (2, 0), (3, 0), (4, 0), (5, 0), (6, 0), (7, 0), (8, 0), (9, 0), (10, 0), (11, 0), (12, 0)]), (3, [(0, 0), (1, 0), (2, 0), (3, 0), (4, 0), (5, 0), (6, 0), (7, 0)])], ⟨Go.Proofs.Tryz.func96, Go.Proofs.Tryz.call96, by kernel_rfl, by kernel_rfl, by kernel_rfl, by kernel_rfl⟩⟩
/- quarry/state.put[quarry/api.Address,*quarry/state.account] -/
def fa97 : AFunc := ⟨22, [], .seq (.reg [
⟨(some 5), .m (.box 100 (.t 1)), none⟩,
⟨(some 6), .m (.box 30 (.t 2)), none⟩]) (.seq (.reg [
⟨(some 11), .r (.load none (.t 5)), none⟩,
⟨(some 12), .r (.load (some 20) (.t 6)), none⟩,
⟨(some 13), .r (.lookup (.one (.arr 20 5 .u8)) (.s (.nilp)) (.t 11) (.t 12) true), none⟩,
⟨(some 10), .p (.mv (.t 13)), none⟩,
⟨(some 14), .p (.ext (.t 10) 0), none⟩,
⟨(some 15), .p (.ext (.t 10) 1), none⟩,
⟨(some 8), .m (.alloc 94 [.nilp]), none⟩,
⟨(some 9), .m (.alloc 4 [.bool false]), none⟩,
⟨none, .b (.store 1 (.t 8) (.t 14)), none⟩,
⟨none, .b (.store 1 (.t 9) (.t 15)), none⟩]) (.seq (.reg [
⟨(some 16), .r (.load none (.t 5)), none⟩,
⟨(some 17), .r (.load (some 20) (.t 6)), none⟩,
⟨(some 18), .p (.mv (.t 3)), none⟩,
⟨none, .b (.mupd (.one (.arr 20 5 .u8)) (.t 16) (.t 17) (.t 18)), none⟩]) (.reg [
⟨(some 19), .p (.mv (.t 0)), none⟩,
⟨(some 20), .p (.mkfunc 111 [(.t 9), (.t 8), (.t 5), (.t 6)]), none⟩,
⟨(some 21), .b (.call 93 [(.t 19), (.t 20)]), none⟩])))⟩
theorem fo97 : ∃ func code hint, FnOk Go.Proofs.Tryz.prog TT 97 fa97 func code hint := ⟨Go.Proofs.Tryz.f97, bodyOf Go.Proofs.Tryz.f97, hintL [], ⟨Go.Proofs.Tryz.func97, Go.Proofs.Tryz.call97, by kernel_rfl, by kernel_rfl, by kernel_rfl, by kernel_rfl⟩⟩
/- (*quarry/state.State).SetBalance -/
def fa98 : AFunc := ⟨22, [], .seq (.reg [
⟨(some 4), .m (.box 30 (.t 1)), none⟩,
⟨(some 5), .m (.box 24 (.t 2)), none⟩]) (.seq (.reg [
⟨(some 8), .p (.mv (.t 0)), none⟩,
⟨(some 9), .r (.load (some 20) (.t 4)), none⟩,
⟨(some 10), .b (.call 92 [(.t 8), (.t 9)]), none⟩,
⟨(some 6), .m (.alloc 94 [.nilp]), none⟩,
⟨none, .b (.store 1 (.t 6) (.t 10)), none⟩]) (.seq (.reg [
⟨(some 11), .r (.load none (.t 6)), none⟩,
⟨(some 12), .p (.nilCheck (.t 11)), none⟩,
⟨(some 13), .p (.faddr 1 (.t 12)), none⟩,
⟨(some 14), .r (.load (some 4) (.t 13)), none⟩,
⟨(some 7), .m (.alloc 24 [.int .u64 (.lit (.ofNat 0)), .int .u64 (.lit (.ofNat 0)), .int .u64 (.lit (.ofNat 0)), .int .u64 (.lit (.ofNat 0))]), none⟩,
⟨none, .b (.store 4 (.t 7) (.t 14)), none⟩]) (.seq (.reg [
⟨(some 15), .r (.load none (.t 6)), none⟩,
⟨(some 16), .r (.load (some 4) (.t 5)), none⟩,
⟨(some 17), .p (.nilCheck (.t 15)), none⟩,
⟨(some 18), .p (.faddr 1 (.t 17)), none⟩,
⟨none, .b (.store 4 (.t 18) (.t 16)), none⟩]) (.reg [
⟨(some 19), .p (.mv (.t 0)), none⟩,
⟨(some 20), .p (.mkfunc 112 [(.t 7), (.t 6)]), none⟩,
⟨(some 21), .b (.call 93 [(.t 19), (.t 20)]), none⟩]))))⟩
theorem fo98 : ∃ func code hint, FnOk Go.Proofs.Tryz.prog TT 98 fa98 func code hint := ⟨Go.Proofs.Tryz.f98, bodyOf Go.Proofs.Tryz.f98, hintL [], ⟨Go.Proofs.Tryz.func98, Go.Proofs.Tryz.call98, by kernel_rfl, by kernel_rfl, by kernel_rfl, by kernel_rfl⟩⟩
/- quarry/word.Sub -/
def fa99 : AFunc := ⟨25, [.cell 4 (some 4)], .seq (.reg [
⟨(some 2), .m (.box 24 (.t 0)), none⟩,
⟨(some 3), .m (.box 24 (.t 1)), none⟩,
⟨(some 4), .m (.alloc 24 [.int .u64 (.lit (.ofNat 0)), .int .u64 (.lit (.ofNat 0)), .int .u64 (.lit (.ofNat 0)), .int .u64 (.lit (.ofNat 0))]), none⟩]) (.seq (.reg [
⟨(some 5), .p (.mv (.c (.w (.s (.int .u64 (.lit (.ofNat 0))))))), none⟩]) (.seq (.seq (.reg [
⟨(some 7), .p (.mv (.c (.w (.s (.int .i64 (.lit (.ofNat 0))))))), none⟩]) (.block 0 (.loop (.seq (.reg [
⟨(some 8), .b (.cmp 2 .int (.t 7) (.c (.w (.s (.int .i64 (.lit (.ofNat 4))))))), none⟩]) (.seq (.cond (.t 8) (.skip) (.exit 0)) (.seq (.block 1 (.seq (.reg [
⟨(some 9), .p (.mv (.t 7)), none⟩,
⟨(some 6), .p (.mv (.t 9)), none⟩]) (.draw [
⟨0, ⟨(some 11), .p (.mv (.t 6)), none⟩, 0, 0⟩,
⟨1, ⟨(some 12), .p (.mv (.t 6)), none⟩, 0, 0⟩,
⟨2, ⟨(some 13), .p (.iaddrA 4 1 (.t 2) (.t 12)), none⟩, 2, 0⟩,
⟨3, ⟨(some 14), .r (.load none (.t 13)), none⟩, 6, 0⟩,
⟨4, ⟨(some 15), .p (.mv (.t 6)), none⟩, 0, 0⟩,
⟨5, ⟨(some 16), .p (.iaddrA 4 1 (.t 3) (.t 15)), none⟩, 16, 0⟩,
⟨6, ⟨(some 17), .r (.load none (.t 16)), none⟩, 48, 0⟩,
⟨7, ⟨(some 18), .p (.mv (.t 5)), none⟩, 0, 0⟩,
⟨8, ⟨(some 19), .b (.call 113 [(.t 14), (.t 17), (.t 18)]), none⟩, 254, 0⟩,
⟨9, ⟨(some 10), .p (.mv (.t 19)), none⟩, 510, 0⟩,
⟨10, ⟨(some 20), .p (.ext (.t 10) 0), none⟩, 1022, 0⟩,
⟨11, ⟨(some 21), .p (.ext (.t 10) 1), none⟩, 1022, 0⟩,
⟨12, ⟨(some 22), .p (.iaddrA 4 1 (.t 2) (.t 11)), none⟩, 2047, 0⟩,
⟨13, ⟨none, .b (.store 1 (.t 22) (.t 20)), none⟩, 6143, 0⟩,
⟨14, ⟨(some 5), .p (.mv (.t 21)), none⟩, 16383, 0⟩]))) (.reg [
⟨(some 23), .p (.ar 0 (.t 7) (.c (.w (.s (.int .i64 (.lit (.ofNat 1))))))), none⟩,
⟨(some 7), .p (.mv (.t 23)), none⟩]))))))) (.seq (.reg [
⟨(some 24), .r (.load (some 4) (.t 2)), none⟩,
⟨none, .b (.store 4 (.t 4) (.t 24)), none⟩]) (.ret))))⟩
theorem fo99 : ∃ func code hint, FnOk Go.Proofs.Tryz.prog TT 99 fa99 func code hint := ⟨Go.Proofs.Tryz.f99, bodyOf Go.Proofs.Tryz.f99, hintL [(5, [(0, 0), (1, 0), (2, 0), (3, 0), (4, 0), (5, 0), (6, 0), (7, 0), (8, 0), (9, 0), (10, 0), (11, 0), (12, 0), (13, 0), (14, 0)])], ⟨Go.Proofs.Tryz.func99, Go.Proofs.Tryz.call99, by kernel_rfl, by kernel_rfl, by kernel_rfl, by kernel_rfl⟩⟩
/- quarry/word.Add -/
def fa100 : AFunc := ⟨14, [.cell 4 (some 4)], .seq (.reg [
⟨(some 2), .m (.box 24 (.t 0)), none⟩,
⟨(some 3), .m (.box 24 (.t 1)), none⟩,
⟨(some 4), .m (.alloc 24 [.int .u64 (.lit (.ofNat 0)), .int .u64 (.lit (.ofNat 0)), .int .u64 (.lit (.ofNat 0)), .int .u64 (.lit (.ofNat 0))]), none⟩]) (.seq (.reg [
⟨(some 8), .r (.load (some 4) (.t 2)), none⟩,
⟨(some 9), .r (.load (some 4) (.t 3)), none⟩,
⟨(some 10), .b (.call 114 [(.t 8), (.t 9)]), none⟩,
⟨(some 7), .p (.mv (.t 10)), none⟩,
⟨(some 11), .p (.ext (.t 7) 0), none⟩,
⟨(some 12), .p (.ext (.t 7) 1), none⟩,
⟨(some 5), .m (.alloc 24 [.int .u64 (.lit (.ofNat 0)), .int .u64 (.lit (.ofNat 0)), .int .u64 (.lit (.ofNat 0)), .int .u64 (.lit (.ofNat 0))]), none⟩,
⟨none, .b (.store 4 (.t 5) (.t 11)), none⟩,
⟨(some 6), .p (.mv (.t 12)), none⟩]) (.seq (.reg [
⟨(some 13), .r (.load (some 4) (.t 5)), none⟩,
⟨none, .b (.store 4 (.t 4) (.t 13)), none⟩]) (.ret)))⟩
theorem fo100 : ∃ func code hint, FnOk Go.Proofs.Tryz.prog TT 100 fa100 func code hint := ⟨Go.Proofs.Tryz.f100, bodyOf Go.Proofs.Tryz.f100, hintL [], ⟨Go.Proofs.Tryz.func100, Go.Proofs.Tryz.call100, by kernel_rfl, by kernel_rfl, by kernel_rfl, by kernel_rfl⟩⟩
/- (*quarry/vm.frame).step -/
def fa103 : AFunc := ⟨187, [], .seq (.reg [
⟨(some 7), .p (.mv (.t 0)), none⟩,
⟨(some 8), .p (.nilCheck (.t 7)), none⟩,
⟨(some 9), .p (.faddr 0 (.t 8)), none⟩,
⟨(some 10), .r (.load none (.t 9)), none⟩,
⟨(some 11), .p (.nilCheck (.t 10)), none⟩,
⟨(some 12), .p (.faddr 90 (.t 11)), none⟩,
⟨(some 13), .r (.load none (.t 12)), none⟩,
⟨(some 14), .p (.ar 0 (.t 13) (.c (.w (.s (.int .u64 (.lit (.ofNat 1))))))), none⟩,
⟨(some 15), .p (.nilCheck (.t 10)), none⟩,
⟨(some 16), .p (.faddr 90 (.t 15)), none⟩,
⟨none, .b (.store 1 (.t 16) (.t 14)), none⟩]) (.seq (.reg [
⟨(some 17), .p (.mv (.t 0)), none⟩,
⟨(some 18), .p (.nilCheck (.t 17)), none⟩,
⟨(some 19), .p (.faddr 0 (.t 18)), none⟩,
⟨(some 20), .r (.load none (.t 19)), none⟩,
⟨(some 21), .p (.mv (.t 1)), none⟩,
⟨(some 22), .p (.nilCheck (.t 20)), none⟩,
⟨(some 23), .p (.faddr 91 (.t 22)), none⟩,
⟨(some 24), .p (.iaddrA 256 4 (.t 23) (.t 21)), none⟩,
⟨(some 25), .r (.load (some 4) (.t 24)), none⟩,
⟨(some 4), .m (.alloc 122 [.bool false, .int .i64 (.lit (.ofNat 0)), .int .i64 (.lit (.ofNat 0)), .int .u64 (.lit (.ofNat 0))]), none⟩,
⟨none, .b (.store 4 (.t 4) (.t 25)), none⟩]) (.seq (.draw [
⟨0, ⟨(some 26), .p (.faddr 0 (.t 4)), none⟩, 0, 0⟩,
⟨1, ⟨(some 27), .r (.load none (.t 26)), none⟩, 1, 0⟩,
⟨2, ⟨(some 28), .p (.mv (.t 27)), none⟩, 3, 0⟩,
⟨3, ⟨(some 29), .p (.mv (.t 0)), some (28, true)⟩, 7, 0⟩,
⟨4, ⟨(some 30), .p (.nilCheck (.t 29)), some (28, true)⟩, 15, 0⟩,
⟨5, ⟨(some 31), .p (.faddr 70 (.t 30)), some (28, true)⟩, 31, 0⟩,
⟨6, ⟨(some 32), .r (.load none (.t 31)), some (28, true)⟩, 63, 0⟩,
⟨7, ⟨(some 33), .p (.len (.t 32)), some (28, true)⟩, 127, 0⟩,
⟨8, ⟨(some 34), .p (.faddr 1 (.t 4)), some (28, true)⟩, 7, 0⟩,
⟨9, ⟨(some 35), .r (.load none (.t 34)), some (28, true)⟩, 263, 0⟩,
⟨10, ⟨(some 36), .b (.cmp 5 .int (.t 33) (.t 35)), some (28, true)⟩, 1023, 0⟩,
⟨11, ⟨(some 37), .p (.pick (.t 28) (.t 36) (.c (.w (.s (.bool false))))), none⟩, 2047, 0⟩,
⟨12, ⟨(some 38), .p (.mv (.t 37)), none⟩, 4095, 0⟩,
⟨13, ⟨(some 39), .p (.mv (.t 0)), some (38, true)⟩, 8191, 0⟩,
⟨14, ⟨(some 40), .p (.nilCheck (.t 39)), some (38, true)⟩, 16383, 0⟩,
⟨15, ⟨(some 41), .p (.faddr 70 (.t 40)), some (38, true)⟩, 32767, 0⟩,
⟨16, ⟨(some 42), .r (.load none (.t 41)), some (38, true)⟩, 65535, 0⟩,
⟨17, ⟨(some 43), .p (.len (.t 42)), some (38, true)⟩, 131071, 0⟩,
⟨18, ⟨(some 44), .p (.faddr 1 (.t 4)), some (38, true)⟩, 8191, 0⟩,
⟨19, ⟨(some 45), .r (.load none (.t 44)), some (38, true)⟩, 270335, 0⟩,
⟨20, ⟨(some 46), .p (.ar 1 (.t 43) (.t 45)), some (38, true)⟩, 1048575, 0⟩,
⟨21, ⟨(some 47), .p (.faddr 2 (.t 4)), some (38, true)⟩, 8191, 0⟩,
⟨22, ⟨(some 48), .r (.load none (.t 47)), some (38, true)⟩, 2105343, 0⟩,
⟨23, ⟨(some 49), .p (.ar 0 (.t 46) (.t 48)), some (38, true)⟩, 8388607, 0⟩,
⟨24, ⟨(some 50), .b (.cmp 3 .int (.t 49) (.c (.w (.s (.int .i64 (.lit (.ofNat 1024))))))), some (38, true)⟩, 16777215, 0⟩,
⟨25, ⟨(some 51), .p (.pick (.t 38) (.t 50) (.c (.w (.s (.bool false))))), none⟩, 33554431, 0⟩,
⟨26, ⟨(some 52), .b (.call 116 [(.t 51)]), none⟩, 67108863, 0⟩]) (.seq (.reg [
⟨(some 53), .p (.mv (.t 0)), none⟩,
⟨(some 54), .p (.nilCheck (.t 53)), none⟩,
⟨(some 55), .p (.faddr 1 (.t 54)), none⟩,
⟨(some 56), .p (.faddr 66 (.t 55)), none⟩,
⟨(some 57), .r (.load none (.t 56)), none⟩,
⟨(some 58), .p (.not (.t 57)), none⟩,
⟨(some 59), .p (.mv (.t 58)), none⟩,
⟨(some 60), .p (.mv (.t 0)), some (59, false)⟩,
⟨(some 61), .p (.mv (.t 1)), some (59, false)⟩,
⟨(some 62), .b (.call 117 [(.t 60), (.t 61)]), some (59, false)⟩,
⟨(some 63), .p (.not (.t 62)), some (59, false)⟩,
⟨(some 64), .p (.pick (.t 59) (.c (.w (.s (.bool true)))) (.t 63)), none⟩,
⟨(some 65), .b (.call 116 [(.t 64)]), none⟩]) (.seq (.reg [
⟨(some 66), .p (.mv (.t 0)), none⟩,
⟨(some 67), .p (.faddr 3 (.t 4)), none⟩,
⟨(some 68), .r (.load none (.t 67)), none⟩,
⟨(some 69), .b (.call 118 [(.t 66), (.t 68)]), none⟩]) (.seq (.reg [
⟨(some 70), .p (.mv (.t 0)), none⟩,
⟨(some 71), .p (.nilCheck (.t 70)), none⟩,
⟨(some 72), .p (.faddr 73 (.t 71)), none⟩,
⟨(some 73), .r (.load none (.t 72)), none⟩,
⟨(some 74), .p (.ar 0 (.t 73) (.c (.w (.s (.int .i64 (.lit (.ofNat 1))))))), none⟩,
⟨(some 75), .p (.nilCheck (.t 70)), none⟩,
⟨(some 76), .p (.faddr 73 (.t 75)), none⟩,
⟨none, .b (.store 1 (.t 76) (.t 74)), none⟩]) (.block 0 (.seq (.reg [
⟨(some 81), .p (.mv (.t 1)), none⟩,
⟨(some 82), .b (.cmp 3 .int (.t 81) (.c (.w (.s (.int .i64 (.lit (.ofNat 29))))))), none⟩,
⟨(some 80), .p (.mv (.t 82)), none⟩]) (.cond (.t 80) (.reg [
⟨(some 83), .p (.mv (.t 0)), none⟩,
⟨(some 84), .p (.mv (.t 1)), none⟩,
⟨(some 85), .b (.call 119 [(.t 83), (.t 84)]), none⟩]) (.seq (.reg [
⟨(some 87), .p (.mv (.t 1)), none⟩,
⟨(some 88), .b (.cmp 0 .int (.t 87) (.c (.w (.s (.int .i64 (.lit (.ofNat 32))))))), none⟩,
⟨(some 86), .p (.mv (.t 88)), none⟩]) (.cond (.t 86) (.reg [
⟨(some 89), .p (.mv (.t 0)), none⟩,
⟨(some 90), .b (.call 120 [(.t 89)]), none⟩]) (.seq (.reg [
⟨(some 92), .p (.mv (.t 1)), none⟩,
⟨(some 93), .b (.cmp 3 .int (.t 92) (.c (.w (.s (.int .i64 (.lit (.ofNat 63))))))), none⟩,
⟨(some 91), .p (.mv (.t 93)), none⟩]) (.cond (.t 91) (.reg [
⟨(some 94), .p (.mv (.t 0)), none⟩,
⟨(some 95), .p (.mv (.t 1)), none⟩,
⟨(some 96), .b (.call 121 [(.t 94), (.t 95)]), none⟩]) (.seq (.reg [
⟨(some 98), .p (.mv (.t 1)), none⟩,
⟨(some 99), .b (.cmp 3 .int (.t 98) (.c (.w (.s (.int .i64 (.lit (.ofNat 74))))))), none⟩,
⟨(some 97), .p (.mv (.t 99)), none⟩]) (.cond (.t 97) (.reg [
⟨(some 100), .p (.mv (.t 0)), none⟩,
⟨(some 101), .p (.mv (.t 1)), none⟩,
⟨(some 102), .b (.call 122 [(.t 100), (.t 101)]), none⟩]) (.seq (.reg [
⟨(some 104), .p (.mv (.t 1)), none⟩,
⟨(some 105), .b (.cmp 3 .int (.t 104) (.c (.w (.s (.int .i64 (.lit (.ofNat 94))))))), none⟩,
⟨(some 103), .p (.mv (.t 105)), none⟩]) (.cond (.t 103) (.reg [
⟨(some 106), .p (.mv (.t 0)), none⟩,
⟨(some 107), .p (.mv (.t 1)), none⟩,
⟨(some 108), .b (.call 123 [(.t 106), (.t 107)]), none⟩]) (.seq (.reg [
⟨(some 110), .p (.mv (.t 1)), none⟩,
⟨(some 111), .b (.cmp 3 .int (.t 110) (.c (.w (.s (.int .i64 (.lit (.ofNat 127))))))), none⟩,
⟨(some 109), .p (.mv (.t 111)), none⟩]) (.cond (.t 109) (.reg [
⟨(some 112), .p (.mv (.t 0)), none⟩,
⟨(some 113), .p (.mv (.t 1)), none⟩,
⟨(some 114), .p (.ar 1 (.t 113) (.c (.w (.s (.int .i64 (.lit (.ofNat 95))))))), none⟩,
⟨(some 115), .b (.call 124 [(.t 112), (.t 114)]), none⟩]) (.seq (.reg [
⟨(some 117), .p (.mv (.t 1)), none⟩,
⟨(some 118), .b (.cmp 3 .int (.t 117) (.c (.w (.s (.int .i64 (.lit (.ofNat 143))))))), none⟩,
⟨(some 116), .p (.mv (.t 118)), none⟩]) (.cond (.t 116) (.draw [
⟨0, ⟨(some 119), .p (.mv (.t 0)), none⟩, 0, 0⟩,
⟨1, ⟨(some 120), .p (.mv (.t 0)), none⟩, 0, 0⟩,
⟨2, ⟨(some 121), .p (.nilCheck (.t 120)), none⟩, 2, 0⟩,
⟨3, ⟨(some 122), .p (.faddr 70 (.t 121)), none⟩, 6, 0⟩,
⟨4, ⟨(some 123), .r (.load none (.t 122)), none⟩, 14, 0⟩,
⟨5, ⟨(some 124), .p (.mv (.t 0)), none⟩, 0, 0⟩,
⟨6, ⟨(some 125), .p (.nilCheck (.t 124)), none⟩, 32, 0⟩,
⟨7, ⟨(some 126), .p (.faddr 70 (.t 125)), none⟩, 96, 0⟩,
⟨8, ⟨(some 127), .r (.load none (.t 126)), none⟩, 224, 0⟩,
⟨9, ⟨(some 128), .p (.len (.t 127)), none⟩, 480, 0⟩,
⟨10, ⟨(some 129), .p (.ar 1 (.t 128) (.c (.w (.s (.int .i64 (.lit (.ofNat 1))))))), none⟩, 992, 0⟩,
⟨11, ⟨(some 130), .p (.mv (.t 1)), none⟩, 0, 0⟩,
⟨12, ⟨(some 131), .p (.ar 1 (.t 130) (.c (.w (.s (.int .i64 (.lit (.ofNat 128))))))), none⟩, 2048, 0⟩,
⟨13, ⟨(some 132), .p (.ar 1 (.t 129) (.t 131)), none⟩, 8160, 0⟩,
⟨14, ⟨(some 133), .p (.iaddrS 4 (.t 123) (.t 132)), none⟩, 16382, 0⟩,
⟨15, ⟨(some 134), .r (.load (some 4) (.t 133)), none⟩, 32766, 0⟩,
⟨16, ⟨(some 135), .b (.call 125 [(.t 119), (.t 134)]), none⟩, 65535, 0⟩]) (.seq (.reg [
⟨(some 137), .p (.mv (.t 1)), none⟩,
⟨(some 138), .b (.cmp 3 .int (.t 137) (.c (.w (.s (.int .i64 (.lit (.ofNat 159))))))), none⟩,
⟨(some 136), .p (.mv (.t 138)), none⟩]) (.cond (.t 136) (.seq (.draw [
⟨0, ⟨(some 139), .p (.mv (.t 0)), none⟩, 0, 0⟩,
⟨1, ⟨(some 140), .p (.nilCheck (.t 139)), none⟩, 1, 0⟩,
⟨2, ⟨(some 141), .p (.faddr 70 (.t 140)), none⟩, 3, 0⟩,
⟨3, ⟨(some 142), .r (.load none (.t 141)), none⟩, 7, 0⟩,
⟨4, ⟨(some 143), .p (.len (.t 142)), none⟩, 15, 0⟩,
⟨5, ⟨(some 144), .p (.ar 1 (.t 143) (.c (.w (.s (.int .i64 (.lit (.ofNat 1))))))), none⟩, 31, 0⟩,
⟨6, ⟨(some 145), .p (.mv (.t 0)), none⟩, 0, 0⟩,
⟨7, ⟨(some 146), .p (.nilCheck (.t 145)), none⟩, 64, 0⟩,
⟨8, ⟨(some 147), .p (.faddr 70 (.t 146)), none⟩, 192, 0⟩,
⟨9, ⟨(some 148), .r (.load none (.t 147)), none⟩, 448, 0⟩,
⟨10, ⟨(some 149), .p (.len (.t 148)), none⟩, 960, 0⟩,
⟨11, ⟨(some 150), .p (.ar 1 (.t 149) (.c (.w (.s (.int .i64 (.lit (.ofNat 2))))))), none⟩, 1984, 0⟩,
⟨12, ⟨(some 151), .p (.mv (.t 1)), none⟩, 0, 0⟩,
⟨13, ⟨(some 152), .p (.ar 1 (.t 151) (.c (.w (.s (.int .i64 (.lit (.ofNat 144))))))), none⟩, 4096, 0⟩,
⟨14, ⟨(some 153), .p (.ar 1 (.t 150) (.t 152)), none⟩, 16320, 0⟩,
⟨15, ⟨(some 5), .p (.mv (.t 144)), none⟩, 63, 0⟩,
⟨16, ⟨(some 6), .p (.mv (.t 153)), none⟩, 65535, 0⟩]) (.draw [
⟨0, ⟨(some 154), .p (.mv (.t 0)), none⟩, 0, 0⟩,
⟨1, ⟨(some 155), .p (.nilCheck (.t 154)), none⟩, 1, 0⟩,
⟨2, ⟨(some 156), .p (.faddr 70 (.t 155)), none⟩, 3, 0⟩,
⟨3, ⟨(some 157), .r (.load none (.t 156)), none⟩, 7, 0⟩,
⟨4, ⟨(some 158), .p (.mv (.t 5)), none⟩, 0, 0⟩,
⟨5, ⟨(some 159), .p (.mv (.t 0)), none⟩, 0, 0⟩,
⟨6, ⟨(some 160), .p (.nilCheck (.t 159)), none⟩, 32, 0⟩,
⟨7, ⟨(some 161), .p (.faddr 70 (.t 160)), none⟩, 96, 0⟩,
⟨8, ⟨(some 162), .r (.load none (.t 161)), none⟩, 224, 0⟩,
⟨9, ⟨(some 163), .p (.mv (.t 6)), none⟩, 0, 0⟩,
⟨10, ⟨(some 164), .p (.mv (.t 0)), none⟩, 0, 0⟩,
⟨11, ⟨(some 165), .p (.nilCheck (.t 164)), none⟩, 1024, 0⟩,
⟨12, ⟨(some 166), .p (.faddr 70 (.t 165)), none⟩, 3072, 0⟩,
⟨13, ⟨(some 167), .r (.load none (.t 166)), none⟩, 7168, 0⟩,
⟨14, ⟨(some 168), .p (.mv (.t 6)), none⟩, 0, 0⟩,
⟨15, ⟨(some 169), .p (.iaddrS 4 (.t 167) (.t 168)), none⟩, 31744, 0⟩,
⟨16, ⟨(some 170), .r (.load (some 4) (.t 169)), none⟩, 64512, 0⟩,
⟨17, ⟨(some 171), .p (.mv (.t 0)), none⟩, 0, 0⟩,
⟨18, ⟨(some 172), .p (.nilCheck (.t 171)), none⟩, 131072, 0⟩,
⟨19, ⟨(some 173), .p (.faddr 70 (.t 172)), none⟩, 393216, 0⟩,
⟨20, ⟨(some 174), .r (.load none (.t 173)), none⟩, 917504, 0⟩,
⟨21, ⟨(some 175), .p (.mv (.t 5)), none⟩, 0, 0⟩,
⟨22, ⟨(some 176), .p (.iaddrS 4 (.t 174) (.t 175)), none⟩, 4063232, 0⟩,
⟨23, ⟨(some 177), .r (.load (some 4) (.t 176)), none⟩, 8257536, 0⟩,
⟨24, ⟨(some 178), .p (.iaddrS 4 (.t 157) (.t 158)), none⟩, 16776703, 0⟩,
⟨25, ⟨none, .b (.store 4 (.t 178) (.t 170)), none⟩, 33553919, 0⟩,
⟨26, ⟨(some 179), .p (.iaddrS 4 (.t 162) (.t 163)), none⟩, 67108863, 0⟩,
⟨27, ⟨none, .b (.store 4 (.t 179) (.t 177)), none⟩, 134217727, 0⟩])) (.seq (.reg [
⟨(some 181), .p (.mv (.t 1)), none⟩,
⟨(some 182), .b (.cmp 3 .int (.t 181) (.c (.w (.s (.int .i64 (.lit (.ofNat 164))))))), none⟩,
⟨(some 180), .p (.mv (.t 182)), none⟩]) (.cond (.t 180) (.reg [
⟨(some 183), .p (.mv (.t 0)), none⟩,
⟨(some 184), .p (.mv (.t 1)), none⟩,
⟨(some 185), .p (.ar 1 (.t 184) (.c (.w (.s (.int .i64 (.lit (.ofNat 160))))))), none⟩,
⟨(some 186), .b (.call 126 [(.t 183), (.t 185)]), none⟩]) (.reg [
⟨(some 77), .p (.mv (.t 0)), none⟩,
⟨(some 78), .p (.mv (.t 1)), none⟩,
⟨(some 79), .b (.call 127 [(.t 77), (.t 78)]), none⟩])))))))))))))))))))))))))⟩
theorem fo103 : ∃ func code hint, FnOk Go.Proofs.Tryz.prog TT 103 fa103 func code hint := ⟨Go.Proofs.Tryz.f103, bodyOf Go.Proofs.Tryz.f103, hintL [(2, [(0, 0), (1, 0), (2, 0), (3, 0), (4, 0), (5, 0), (6, 0), (7, 0), (8, 0), (9, 0), (10, 0), (11, 0), (12, 0), (13, 0), (14, 0), (15, 0), (16, 0), (17, 0), (18, 0), (19, 0), (20, 0), (21, 0), (22, 0), (23, 0), (24, 0), (25, 0), (26, 0)]), (20, [(0, 0), (1, 0), (2, 0), (3, 0), (4, 0), (5, 0), (6, 0), (7, 0), (8, 0), (9, 0), (10, 0), (11, 0), (12, 0), (13, 0), (14, 0), (15, 0), (16, 0)]), (22, [(0, 0), (1, 0), (2, 0), (3, 0), (4, 0), (5, 0), (6, 0), (7, 0), (8, 0), (9, 0), (10, 0), (11, 0), (12, 0), (13, 0), (14, 0), (15, 0), (16, 0)]), (23, [(0, 0), (1, 0), (2, 0), (3, 0), (4, 0), (5, 0), (6, 0), (7, 0), (8, 0), (9, 0), (10, 0), (11, 0), (12, 0), (13, 0), (14, 0), (15, 0), (16, 0), (17, 0), (18, 0), (19, 0), (20, 0), (21, 0), (22, 0), (23, 0), (24, 0), (25, 0), (26, 0), (27, 0)])], ⟨Go.Proofs.Tryz.func103, Go.Proofs.Tryz.call103, by kernel_rfl, by kernel_rfl, by kernel_rfl, by kernel_rfl⟩⟩
end
end Go.Sy
