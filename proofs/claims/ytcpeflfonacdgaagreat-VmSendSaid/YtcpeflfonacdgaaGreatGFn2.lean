/- Functions. -/
import Derived.Test.YtcpeflfonacdgaaGreatGTy
set_option linter.unusedVariables false
set_option maxRecDepth 100000
set_option maxHeartbeats 0
namespace Go.Sy
noncomputable section
/- slices.IndexFunc[[]quarry/state.mark,quarry/state.mark] -/
def fa104 : AFunc := ⟨19, [.tmp 4], .seq (.reg [
⟨(some 4), .p (.mv (.c (.w (.s (.int .i64 (.lit (.ofNat 0))))))), none⟩]) (.seq (.seq (.reg [
⟨(some 6), .p (.mv (.t 0)), none⟩,
⟨(some 7), .p (.len (.t 6)), none⟩,
⟨(some 8), .p (.mv (.c (.w (.s (.int .i64 (.lit (.ofNat 0))))))), none⟩]) (.block 0 (.loop (.seq (.reg [
⟨(some 9), .b (.cmp 2 .int (.t 8) (.t 7)), none⟩]) (.seq (.cond (.t 9) (.skip) (.exit 0)) (.seq (.block 1 (.seq (.reg [
⟨(some 10), .p (.mv (.t 8)), none⟩,
⟨(some 5), .p (.mv (.t 10)), none⟩]) (.seq (.reg [
⟨(some 11), .p (.mv (.t 1)), none⟩,
⟨(some 12), .p (.mv (.t 0)), none⟩,
⟨(some 13), .p (.mv (.t 5)), none⟩,
⟨(some 14), .p (.iaddrS 2 (.t 12) (.t 13)), none⟩,
⟨(some 15), .r (.load (some 2) (.t 14)), none⟩,
⟨(some 16), .b (.callv (.t 11) [(.t 15)]), none⟩]) (.cond (.t 16) (.seq (.reg [
⟨(some 17), .p (.mv (.t 5)), none⟩,
⟨(some 4), .p (.mv (.t 17)), none⟩]) (.ret)) (.skip))))) (.reg [
⟨(some 18), .p (.ar 0 (.t 8) (.c (.w (.s (.int .i64 (.lit (.ofNat 1))))))), none⟩,
⟨(some 8), .p (.mv (.t 18)), none⟩]))))))) (.seq (.reg [
⟨(some 4), .p (.mv (.c (.w (.s (.int .i64 (.lit (.negSucc 0))))))), none⟩]) (.ret)))⟩
theorem fo104 : ∃ func code hint, FnOk Go.Proofs.Tryz.prog TT 104 fa104 func code hint := ⟨Go.Proofs.Tryz.f104, bodyOf Go.Proofs.Tryz.f104, hintL [], ⟨Go.Proofs.Tryz.func104, Go.Proofs.Tryz.call104, by kernel_rfl, by kernel_rfl, by kernel_rfl, by kernel_rfl⟩⟩
/- (*quarry/state.State).Back$1 -/
def fa105 : AFunc := ⟨8, [.tmp 3], .seq (.reg [
⟨(some 2), .m (.box 181 (.t 0)), none⟩,
⟨(some 3), .p (.mv (.c (.w (.s (.bool false))))), none⟩]) (.seq (.reg [
⟨(some 4), .p (.faddr 0 (.t 2)), none⟩,
⟨(some 5), .r (.load none (.t 4)), none⟩,
⟨(some 6), .r (.load none (.t 1)), none⟩,
⟨(some 7), .b (.cmp 0 .int (.t 5) (.t 6)), none⟩,
⟨(some 3), .p (.mv (.t 7)), none⟩]) (.ret))⟩
theorem fo105 : ∃ func code hint, FnOk Go.Proofs.Tryz.prog TT 105 fa105 func code hint := ⟨Go.Proofs.Tryz.f105, bodyOf Go.Proofs.Tryz.f105, hintL [], ⟨Go.Proofs.Tryz.func105, Go.Proofs.Tryz.call105, by kernel_rfl, by kernel_rfl, by kernel_rfl, by kernel_rfl⟩⟩
/- (*quarry/vm.machine).inside -/
def fa109 : AFunc := ⟨48, [.cell 4 (some 23)], .seq (.reg [
⟨(some 3), .m (.box 130 (.t 1)), none⟩,
⟨(some 4), .m (.alloc 132 [.int .i64 (.lit (.ofNat 0)), .nils, .int .u64 (.lit (.ofNat 0)), .int .u8 (.lit (.ofNat 0)), .int .u8 (.lit (.ofNat 0)), .int .u8 (.lit (.ofNat 0)), .int .u8 (.lit (.ofNat 0)), .int .u8 (.lit (.ofNat 0)), .int .u8 (.lit (.ofNat 0)), .int .u8 (.lit (.ofNat 0)), .int .u8 (.lit (.ofNat 0)), .int .u8 (.lit (.ofNat 0)), .int .u8 (.lit (.ofNat 0)), .int .u8 (.lit (.ofNat 0)), .int .u8 (.lit (.ofNat 0)), .int .u8 (.lit (.ofNat 0)), .int .u8 (.lit (.ofNat 0)), .int .u8 (.lit (.ofNat 0)), .int .u8 (.lit (.ofNat 0)), .int .u8 (.lit (.ofNat 0)), .int .u8 (.lit (.ofNat 0)), .int .u8 (.lit (.ofNat 0)), .int .u8 (.lit (.ofNat 0))]), none⟩]) (.seq (.seq (.draw [
⟨0, ⟨(some 9), .p (.mv (.t 0)), none⟩, 0, 0⟩,
⟨1, ⟨(some 10), .p (.nilCheck (.t 9)), none⟩, 1, 0⟩,
⟨2, ⟨(some 11), .p (.faddr 0 (.t 10)), none⟩, 3, 0⟩,
⟨3, ⟨(some 12), .r (.load none (.t 11)), none⟩, 7, 0⟩,
⟨4, ⟨(some 13), .p (.faddr 40 (.t 3)), none⟩, 0, 0⟩,
⟨5, ⟨(some 14), .r (.load (some 20) (.t 13)), none⟩, 16, 0⟩,
⟨6, ⟨(some 15), .b (.call 84 [(.t 12), (.t 14)]), none⟩, 63, 0⟩,
⟨7, ⟨(some 5), .p (.mv (.t 15)), none⟩, 127, 0⟩]) (.seq (.reg [
⟨(some 16), .p (.mv (.t 5)), none⟩,
⟨(some 17), .b (.cmp 1 .int (.t 16) (.c (.w (.s (.int .i64 (.lit (.ofNat 0))))))), none⟩]) (.cond (.t 17) (.seq (.draw [
⟨0, ⟨(some 19), .p (.mv (.t 0)), none⟩, 0, 0⟩,
⟨1, ⟨(some 20), .p (.nilCheck (.t 19)), none⟩, 1, 0⟩,
⟨2, ⟨(some 21), .p (.faddr 0 (.t 20)), none⟩, 3, 0⟩,
⟨3, ⟨(some 22), .r (.load none (.t 21)), none⟩, 7, 0⟩,
⟨4, ⟨(some 23), .p (.mv (.t 5)), none⟩, 0, 0⟩,
⟨5, ⟨(some 24), .p (.faddr 64 (.t 3)), none⟩, 0, 0⟩,
⟨6, ⟨(some 25), .r (.load none (.t 24)), none⟩, 32, 0⟩,
⟨7, ⟨(some 26), .p (.faddr 65 (.t 3)), none⟩, 0, 0⟩,
⟨8, ⟨(some 27), .r (.load none (.t 26)), none⟩, 128, 0⟩,
⟨9, ⟨(some 28), .b (.call 133 [(.t 22), (.t 23), (.t 25), (.t 27)]), none⟩, 511, 0⟩,
⟨10, ⟨(some 18), .p (.mv (.t 28)), none⟩, 1023, 0⟩,
⟨11, ⟨(some 29), .p (.ext (.t 18) 0), none⟩, 2047, 0⟩,
⟨12, ⟨(some 30), .p (.ext (.t 18) 1), none⟩, 2047, 0⟩,
⟨13, ⟨(some 31), .p (.ext (.t 18) 2), none⟩, 2047, 0⟩,
⟨14, ⟨(some 6), .p (.mv (.t 29)), none⟩, 4095, 0⟩,
⟨15, ⟨(some 7), .p (.mv (.t 30)), none⟩, 24575, 0⟩,
⟨16, ⟨(some 8), .p (.mv (.t 31)), none⟩, 65535, 0⟩]) (.seq (.seq (.reg [
⟨(some 32), .p (.mv (.t 8)), none⟩,
⟨(some 33), .p (.not (.t 32)), none⟩]) (.cond (.t 33) (.seq (.reg [
⟨(some 34), .b (.call 72 []), none⟩,
⟨none, .b (.store 23 (.t 4) (.t 34)), none⟩]) (.ret)) (.skip))) (.seq (.reg [
⟨(some 35), .p (.mv (.t 6)), none⟩,
⟨(some 36), .p (.mv (.t 7)), none⟩,
⟨(some 37), .p (.build [.int .i64 (.lit (.ofNat 0)), .nils, .int .u64 (.lit (.ofNat 0)), .int .u8 (.lit (.ofNat 0)), .int .u8 (.lit (.ofNat 0)), .int .u8 (.lit (.ofNat 0)), .int .u8 (.lit (.ofNat 0)), .int .u8 (.lit (.ofNat 0)), .int .u8 (.lit (.ofNat 0)), .int .u8 (.lit (.ofNat 0)), .int .u8 (.lit (.ofNat 0)), .int .u8 (.lit (.ofNat 0)), .int .u8 (.lit (.ofNat 0)), .int .u8 (.lit (.ofNat 0)), .int .u8 (.lit (.ofNat 0)), .int .u8 (.lit (.ofNat 0)), .int .u8 (.lit (.ofNat 0)), .int .u8 (.lit (.ofNat 0)), .int .u8 (.lit (.ofNat 0)), .int .u8 (.lit (.ofNat 0)), .int .u8 (.lit (.ofNat 0)), .int .u8 (.lit (.ofNat 0)), .int .u8 (.lit (.ofNat 0))] [(1, 1, (.t 35)), (2, 1, (.t 36))]), none⟩,
⟨none, .b (.store 23 (.t 4) (.t 37)), none⟩]) (.ret)))) (.skip)))) (.seq (.draw [
⟨0, ⟨(some 38), .p (.mv (.t 0)), none⟩, 0, 0⟩,
⟨1, ⟨(some 39), .r (.load (some 68) (.t 3)), none⟩, 0, 0⟩,
⟨2, ⟨(some 40), .p (.mv (.t 0)), none⟩, 0, 0⟩,
⟨3, ⟨(some 41), .p (.nilCheck (.t 40)), none⟩, 4, 0⟩,
⟨4, ⟨(some 42), .p (.faddr 89 (.t 41)), none⟩, 12, 0⟩,
⟨5, ⟨(some 43), .r (.load none (.t 42)), none⟩, 28, 0⟩,
⟨6, ⟨(some 44), .p (.faddr 40 (.t 3)), none⟩, 0, 0⟩,
⟨7, ⟨(some 45), .r (.load (some 20) (.t 44)), none⟩, 64, 0⟩,
⟨8, ⟨(some 46), .b (.call 39 [(.t 43), (.t 45)]), none⟩, 252, 0⟩,
⟨9, ⟨(some 47), .b (.call 77 [(.t 38), (.t 39), (.t 46)]), none⟩, 511, 0⟩,
⟨10, ⟨none, .b (.store 23 (.t 4) (.t 47)), none⟩, 1023, 0⟩]) (.ret)))⟩
theorem fo109 : ∃ func code hint, FnOk Go.Proofs.Tryz.prog TT 109 fa109 func code hint := ⟨Go.Proofs.Tryz.f109, bodyOf Go.Proofs.Tryz.f109, hintL [(1, [(0, 0), (1, 0), (2, 0), (3, 0), (4, 0), (5, 0), (6, 0), (7, 0)]), (3, [(0, 0), (1, 0), (2, 0), (3, 0), (4, 0), (5, 0), (6, 0), (7, 0), (8, 0), (9, 0), (10, 0), (11, 0), (12, 0), (13, 0), (14, 0), (15, 0), (16, 0)]), (7, [(0, 0), (1, 0), (2, 0), (3, 0), (4, 0), (5, 0), (6, 0), (7, 0), (8, 0), (9, 0), (10, 0)])], ⟨Go.Proofs.Tryz.func109, Go.Proofs.Tryz.call109, by kernel_rfl, by kernel_rfl, by kernel_rfl, by kernel_rfl⟩⟩
/- quarry/state.put[quarry/api.Address,struct{}]$1 -/
def fa110 : AFunc := ⟨10, [], .seq (.reg [
⟨(some 4), .r (.load none (.t 0)), none⟩]) (.cond (.t 4) (.reg [
⟨(some 5), .r (.load none (.t 2)), none⟩,
⟨(some 6), .r (.load (some 20) (.t 3)), none⟩,
⟨(some 7), .r (.load (some 0) (.t 1)), none⟩,
⟨none, .b (.mupd (.one (.arr 20 5 .u8)) (.t 5) (.t 6) (.t 7)), none⟩]) (.reg [
⟨(some 8), .r (.load none (.t 2)), none⟩,
⟨(some 9), .r (.load (some 20) (.t 3)), none⟩,
⟨none, .b (.del (.one (.arr 20 5 .u8)) (.t 8) (.t 9)), none⟩]))⟩
theorem fo110 : ∃ func code hint, FnOk Go.Proofs.Tryz.prog TT 110 fa110 func code hint := ⟨Go.Proofs.Tryz.f110, bodyOf Go.Proofs.Tryz.f110, hintL [], ⟨Go.Proofs.Tryz.func110, Go.Proofs.Tryz.call110, by kernel_rfl, by kernel_rfl, by kernel_rfl, by kernel_rfl⟩⟩
/- quarry/state.put[quarry/api.Address,*quarry/state.account]$1 -/
def fa111 : AFunc := ⟨10, [], .seq (.reg [
⟨(some 4), .r (.load none (.t 0)), none⟩]) (.cond (.t 4) (.reg [
⟨(some 5), .r (.load none (.t 2)), none⟩,
⟨(some 6), .r (.load (some 20) (.t 3)), none⟩,
⟨(some 7), .r (.load none (.t 1)), none⟩,
⟨none, .b (.mupd (.one (.arr 20 5 .u8)) (.t 5) (.t 6) (.t 7)), none⟩]) (.reg [
⟨(some 8), .r (.load none (.t 2)), none⟩,
⟨(some 9), .r (.load (some 20) (.t 3)), none⟩,
⟨none, .b (.del (.one (.arr 20 5 .u8)) (.t 8) (.t 9)), none⟩]))⟩
theorem fo111 : ∃ func code hint, FnOk Go.Proofs.Tryz.prog TT 111 fa111 func code hint := ⟨Go.Proofs.Tryz.f111, bodyOf Go.Proofs.Tryz.f111, hintL [], ⟨Go.Proofs.Tryz.func111, Go.Proofs.Tryz.call111, by kernel_rfl, by kernel_rfl, by kernel_rfl, by kernel_rfl⟩⟩
/- (*quarry/state.State).SetBalance$1 -/
def fa112 : AFunc := ⟨6, [], .reg [
⟨(some 2), .r (.load none (.t 1)), none⟩,
⟨(some 3), .r (.load (some 4) (.t 0)), none⟩,
⟨(some 4), .p (.nilCheck (.t 2)), none⟩,
⟨(some 5), .p (.faddr 1 (.t 4)), none⟩,
⟨none, .b (.store 4 (.t 5) (.t 3)), none⟩]⟩
theorem fo112 : ∃ func code hint, FnOk Go.Proofs.Tryz.prog TT 112 fa112 func code hint := ⟨Go.Proofs.Tryz.f112, bodyOf Go.Proofs.Tryz.f112, hintL [], ⟨Go.Proofs.Tryz.func112, Go.Proofs.Tryz.call112, by kernel_rfl, by kernel_rfl, by kernel_rfl, by kernel_rfl⟩⟩
/- quarry/word.added -/
def fa114 : AFunc := ⟨27, [.cell 4 (some 4), .tmp 5], .seq (.reg [
⟨(some 2), .m (.box 24 (.t 0)), none⟩,
⟨(some 3), .m (.box 24 (.t 1)), none⟩,
⟨(some 4), .m (.alloc 24 [.int .u64 (.lit (.ofNat 0)), .int .u64 (.lit (.ofNat 0)), .int .u64 (.lit (.ofNat 0)), .int .u64 (.lit (.ofNat 0))]), none⟩,
⟨(some 5), .p (.mv (.c (.w (.s (.int .u64 (.lit (.ofNat 0))))))), none⟩]) (.seq (.reg [
⟨(some 6), .p (.mv (.c (.w (.s (.int .u64 (.lit (.ofNat 0))))))), none⟩]) (.seq (.seq (.reg [
⟨(some 8), .p (.mv (.c (.w (.s (.int .i64 (.lit (.ofNat 0))))))), none⟩]) (.block 0 (.loop (.seq (.reg [
⟨(some 9), .b (.cmp 2 .int (.t 8) (.c (.w (.s (.int .i64 (.lit (.ofNat 4))))))), none⟩]) (.seq (.cond (.t 9) (.skip) (.exit 0)) (.seq (.block 1 (.seq (.reg [
⟨(some 10), .p (.mv (.t 8)), none⟩,
⟨(some 7), .p (.mv (.t 10)), none⟩]) (.draw [
⟨0, ⟨(some 12), .p (.mv (.t 7)), none⟩, 0, 0⟩,
⟨1, ⟨(some 13), .p (.mv (.t 7)), none⟩, 0, 0⟩,
⟨2, ⟨(some 14), .p (.iaddrA 4 1 (.t 2) (.t 13)), none⟩, 2, 0⟩,
⟨3, ⟨(some 15), .r (.load none (.t 14)), none⟩, 6, 0⟩,
⟨4, ⟨(some 16), .p (.mv (.t 7)), none⟩, 0, 0⟩,
⟨5, ⟨(some 17), .p (.iaddrA 4 1 (.t 3) (.t 16)), none⟩, 16, 0⟩,
⟨6, ⟨(some 18), .r (.load none (.t 17)), none⟩, 48, 0⟩,
⟨7, ⟨(some 19), .p (.mv (.t 6)), none⟩, 0, 0⟩,
⟨8, ⟨(some 20), .b (.call 134 [(.t 15), (.t 18), (.t 19)]), none⟩, 254, 0⟩,
⟨9, ⟨(some 11), .p (.mv (.t 20)), none⟩, 510, 0⟩,
⟨10, ⟨(some 21), .p (.ext (.t 11) 0), none⟩, 1022, 0⟩,
⟨11, ⟨(some 22), .p (.ext (.t 11) 1), none⟩, 1022, 0⟩,
⟨12, ⟨(some 23), .p (.iaddrA 4 1 (.t 2) (.t 12)), none⟩, 2047, 0⟩,
⟨13, ⟨none, .b (.store 1 (.t 23) (.t 21)), none⟩, 6143, 0⟩,
⟨14, ⟨(some 6), .p (.mv (.t 22)), none⟩, 16383, 0⟩]))) (.reg [
⟨(some 24), .p (.ar 0 (.t 8) (.c (.w (.s (.int .i64 (.lit (.ofNat 1))))))), none⟩,
⟨(some 8), .p (.mv (.t 24)), none⟩]))))))) (.seq (.reg [
⟨(some 25), .r (.load (some 4) (.t 2)), none⟩,
⟨(some 26), .p (.mv (.t 6)), none⟩,
⟨none, .b (.store 4 (.t 4) (.t 25)), none⟩,
⟨(some 5), .p (.mv (.t 26)), none⟩]) (.ret))))⟩
theorem fo114 : ∃ func code hint, FnOk Go.Proofs.Tryz.prog TT 114 fa114 func code hint := ⟨Go.Proofs.Tryz.f114, bodyOf Go.Proofs.Tryz.f114, hintL [(5, [(0, 0), (1, 0), (2, 0), (3, 0), (4, 0), (5, 0), (6, 0), (7, 0), (8, 0), (9, 0), (10, 0), (11, 0), (12, 0), (13, 0), (14, 0)])], ⟨Go.Proofs.Tryz.func114, Go.Proofs.Tryz.call114, by kernel_rfl, by kernel_rfl, by kernel_rfl, by kernel_rfl⟩⟩
/- quarry/vm.must -/
def fa116 : AFunc := ⟨5, [], .seq (.reg [
⟨(some 2), .p (.mv (.t 0)), none⟩,
⟨(some 3), .p (.not (.t 2)), none⟩]) (.cond (.t 3) (.reg [
⟨(some 4), .b (.call 135 []), none⟩]) (.skip))⟩
theorem fo116 : ∃ func code hint, FnOk Go.Proofs.Tryz.prog TT 116 fa116 func code hint := ⟨Go.Proofs.Tryz.f116, bodyOf Go.Proofs.Tryz.f116, hintL [], ⟨Go.Proofs.Tryz.func116, Go.Proofs.Tryz.call116, by kernel_rfl, by kernel_rfl, by kernel_rfl, by kernel_rfl⟩⟩
/- (*quarry/vm.frame).changes -/
def fa117 : AFunc := ⟨33, [.tmp 4], .seq (.reg [
⟨(some 4), .p (.mv (.c (.w (.s (.bool false))))), none⟩]) (.seq (.seq (.reg [
⟨(some 5), .p (.mv (.t 1)), none⟩]) (.block 0 (.seq (.seq (.reg [
⟨(some 7), .b (.cmp 0 .int (.t 5) (.c (.w (.s (.int .i64 (.lit (.ofNat 85))))))), none⟩,
⟨(some 6), .p (.mv (.t 7)), none⟩]) (.cond (.t 6) (.skip) (.seq (.reg [
⟨(some 8), .b (.cmp 0 .int (.t 5) (.c (.w (.s (.int .i64 (.lit (.ofNat 93))))))), none⟩,
⟨(some 6), .p (.mv (.t 8)), none⟩]) (.cond (.t 6) (.skip) (.seq (.reg [
⟨(some 9), .b (.cmp 0 .int (.t 5) (.c (.w (.s (.int .i64 (.lit (.ofNat 160))))))), none⟩,
⟨(some 6), .p (.mv (.t 9)), none⟩]) (.cond (.t 6) (.skip) (.seq (.reg [
⟨(some 10), .b (.cmp 0 .int (.t 5) (.c (.w (.s (.int .i64 (.lit (.ofNat 161))))))), none⟩,
⟨(some 6), .p (.mv (.t 10)), none⟩]) (.cond (.t 6) (.skip) (.seq (.reg [
⟨(some 11), .b (.cmp 0 .int (.t 5) (.c (.w (.s (.int .i64 (.lit (.ofNat 162))))))), none⟩,
⟨(some 6), .p (.mv (.t 11)), none⟩]) (.cond (.t 6) (.skip) (.seq (.reg [
⟨(some 12), .b (.cmp 0 .int (.t 5) (.c (.w (.s (.int .i64 (.lit (.ofNat 163))))))), none⟩,
⟨(some 6), .p (.mv (.t 12)), none⟩]) (.cond (.t 6) (.skip) (.seq (.reg [
⟨(some 13), .b (.cmp 0 .int (.t 5) (.c (.w (.s (.int .i64 (.lit (.ofNat 164))))))), none⟩,
⟨(some 6), .p (.mv (.t 13)), none⟩]) (.cond (.t 6) (.skip) (.seq (.reg [
⟨(some 14), .b (.cmp 0 .int (.t 5) (.c (.w (.s (.int .i64 (.lit (.ofNat 240))))))), none⟩,
⟨(some 6), .p (.mv (.t 14)), none⟩]) (.cond (.t 6) (.skip) (.seq (.reg [
⟨(some 15), .b (.cmp 0 .int (.t 5) (.c (.w (.s (.int .i64 (.lit (.ofNat 245))))))), none⟩,
⟨(some 6), .p (.mv (.t 15)), none⟩]) (.cond (.t 6) (.skip) (.reg [
⟨(some 16), .b (.cmp 0 .int (.t 5) (.c (.w (.s (.int .i64 (.lit (.ofNat 255))))))), none⟩,
⟨(some 6), .p (.mv (.t 16)), none⟩]))))))))))))))))))) (.cond (.t 6) (.seq (.reg [
⟨(some 4), .p (.mv (.c (.w (.s (.bool true))))), none⟩]) (.ret)) (.seq (.reg [
⟨(some 18), .b (.cmp 0 .int (.t 5) (.c (.w (.s (.int .i64 (.lit (.ofNat 241))))))), none⟩,
⟨(some 17), .p (.mv (.t 18)), none⟩]) (.cond (.t 17) (.seq (.draw [
⟨0, ⟨(some 19), .p (.mv (.t 0)), none⟩, 0, 0⟩,
⟨1, ⟨(some 20), .p (.nilCheck (.t 19)), none⟩, 1, 0⟩,
⟨2, ⟨(some 21), .p (.faddr 70 (.t 20)), none⟩, 3, 0⟩,
⟨3, ⟨(some 22), .r (.load none (.t 21)), none⟩, 7, 0⟩,
⟨4, ⟨(some 23), .p (.mv (.t 0)), none⟩, 0, 0⟩,
⟨5, ⟨(some 24), .p (.nilCheck (.t 23)), none⟩, 16, 0⟩,
⟨6, ⟨(some 25), .p (.faddr 70 (.t 24)), none⟩, 48, 0⟩,
⟨7, ⟨(some 26), .r (.load none (.t 25)), none⟩, 112, 0⟩,
⟨8, ⟨(some 27), .p (.len (.t 26)), none⟩, 240, 0⟩,
⟨9, ⟨(some 28), .p (.ar 1 (.t 27) (.c (.w (.s (.int .i64 (.lit (.ofNat 3))))))), none⟩, 496, 0⟩,
⟨10, ⟨(some 29), .p (.iaddrS 4 (.t 22) (.t 28)), none⟩, 1023, 0⟩,
⟨11, ⟨(some 30), .r (.load (some 4) (.t 29)), none⟩, 2047, 0⟩,
⟨12, ⟨(some 31), .p (.build [.int .u64 (.lit (.ofNat 0)), .int .u64 (.lit (.ofNat 0)), .int .u64 (.lit (.ofNat 0)), .int .u64 (.lit (.ofNat 0))] []), none⟩, 0, 0⟩,
⟨13, ⟨(some 32), .b (.cmp 1 (.agg (.one (.arr 4 22 .u64))) (.t 30) (.t 31)), none⟩, 8191, 0⟩,
⟨14, ⟨(some 4), .p (.mv (.t 32)), none⟩, 16383, 0⟩]) (.ret)) (.skip))))))) (.seq (.reg [
⟨(some 4), .p (.mv (.c (.w (.s (.bool false))))), none⟩]) (.ret)))⟩
theorem fo117 : ∃ func code hint, FnOk Go.Proofs.Tryz.prog TT 117 fa117 func code hint := ⟨Go.Proofs.Tryz.f117, bodyOf Go.Proofs.Tryz.f117, hintL [(14, [(0, 0), (1, 0), (2, 0), (3, 0), (4, 0), (5, 0), (6, 0), (7, 0), (8, 0), (9, 0), (10, 0), (11, 0), (12, 0), (13, 0), (14, 0)])], ⟨Go.Proofs.Tryz.func117, Go.Proofs.Tryz.call117, by kernel_rfl, by kernel_rfl, by kernel_rfl, by kernel_rfl⟩⟩
/- (*quarry/vm.frame).pay -/
def fa118 : AFunc := ⟨22, [], .seq (.reg [
⟨(some 4), .p (.mv (.t 1)), none⟩,
⟨(some 5), .p (.mv (.t 0)), none⟩,
⟨(some 6), .p (.nilCheck (.t 5)), none⟩,
⟨(some 7), .p (.faddr 1 (.t 6)), none⟩,
⟨(some 8), .p (.faddr 65 (.t 7)), none⟩,
⟨(some 9), .r (.load none (.t 8)), none⟩,
⟨(some 10), .b (.cmp 3 .int (.t 4) (.t 9)), none⟩,
⟨(some 11), .b (.call 116 [(.t 10)]), none⟩]) (.reg [
⟨(some 12), .p (.mv (.t 0)), none⟩,
⟨(some 13), .p (.nilCheck (.t 12)), none⟩,
⟨(some 14), .p (.faddr 1 (.t 13)), none⟩,
⟨(some 15), .p (.faddr 65 (.t 14)), none⟩,
⟨(some 16), .r (.load none (.t 15)), none⟩,
⟨(some 17), .p (.mv (.t 1)), none⟩,
⟨(some 18), .p (.ar 1 (.t 16) (.t 17)), none⟩,
⟨(some 19), .p (.nilCheck (.t 12)), none⟩,
⟨(some 20), .p (.faddr 1 (.t 19)), none⟩,
⟨(some 21), .p (.faddr 65 (.t 20)), none⟩,
⟨none, .b (.store 1 (.t 21) (.t 18)), none⟩])⟩
theorem fo118 : ∃ func code hint, FnOk Go.Proofs.Tryz.prog TT 118 fa118 func code hint := ⟨Go.Proofs.Tryz.f118, bodyOf Go.Proofs.Tryz.f118, hintL [], ⟨Go.Proofs.Tryz.func118, Go.Proofs.Tryz.call118, by kernel_rfl, by kernel_rfl, by kernel_rfl, by kernel_rfl⟩⟩
/- (*quarry/vm.frame).reckons -/
def fa119 : AFunc := ⟨125, [], .seq (.reg [
⟨(some 9), .p (.build (lrep (.nilfn) 30) [(1, 1, (.c (.w (.s (.fn 100 []))))), (2, 1, (.c (.w (.s (.fn 136 []))))), (3, 1, (.c (.w (.s (.fn 99 []))))), (4, 1, (.c (.w (.s (.fn 137 []))))), (5, 1, (.c (.w (.s (.fn 138 []))))), (6, 1, (.c (.w (.s (.fn 139 []))))), (7, 1, (.c (.w (.s (.fn 140 []))))), (10, 1, (.c (.w (.s (.fn 141 []))))), (11, 1, (.c (.w (.s (.fn 142 []))))), (22, 1, (.c (.w (.s (.fn 143 []))))), (23, 1, (.c (.w (.s (.fn 144 []))))), (24, 1, (.c (.w (.s (.fn 145 []))))), (26, 1, (.c (.w (.s (.fn 146 []))))), (27, 1, (.c (.w (.s (.fn 13 []))))), (28, 1, (.c (.w (.s (.fn 147 []))))), (29, 1, (.c (.w (.s (.fn 148 [])))))]), none⟩,
⟨(some 4), .m (.alloc 218 (lrep (.nilfn) 30)), none⟩,
⟨none, .b (.store 30 (.t 4) (.t 9)), none⟩]) (.seq (.seq (.reg [
⟨(some 10), .p (.mv (.t 1)), none⟩,
⟨(some 11), .b (.cmp 0 .int (.t 10) (.c (.w (.s (.int .i64 (.lit (.ofNat 0))))))), none⟩]) (.cond (.t 11) (.seq (.reg [
⟨(some 12), .p (.mv (.t 0)), none⟩,
⟨(some 13), .b (.call 149 [(.t 12), (.c (.w (.s (.int .i64 (.lit (.ofNat 0)))))), (.c (.w (.s (.nils))))]), none⟩]) (.ret)) (.skip))) (.seq (.reg [
⟨(some 14), .p (.mv (.t 0)), none⟩,
⟨(some 15), .b (.call 150 [(.t 14)]), none⟩,
⟨(some 5), .m (.alloc 24 [.int .u64 (.lit (.ofNat 0)), .int .u64 (.lit (.ofNat 0)), .int .u64 (.lit (.ofNat 0)), .int .u64 (.lit (.ofNat 0))]), none⟩,
⟨none, .b (.store 4 (.t 5) (.t 15)), none⟩]) (.seq (.reg [
⟨(some 16), .p (.mv (.t 1)), none⟩]) (.block 0 (.seq (.reg [
⟨(some 41), .b (.cmp 0 .int (.t 16) (.c (.w (.s (.int .i64 (.lit (.ofNat 8))))))), none⟩,
⟨(some 40), .p (.mv (.t 41)), none⟩]) (.cond (.t 40) (.seq (.reg [
⟨(some 42), .p (.mv (.t 0)), none⟩,
⟨(some 43), .b (.call 150 [(.t 42)]), none⟩,
⟨(some 6), .m (.alloc 24 [.int .u64 (.lit (.ofNat 0)), .int .u64 (.lit (.ofNat 0)), .int .u64 (.lit (.ofNat 0)), .int .u64 (.lit (.ofNat 0))]), none⟩,
⟨none, .b (.store 4 (.t 6) (.t 43)), none⟩]) (.draw [
⟨0, ⟨(some 44), .p (.mv (.t 0)), none⟩, 0, 0⟩,
⟨1, ⟨(some 45), .r (.load (some 4) (.t 5)), none⟩, 0, 0⟩,
⟨2, ⟨(some 46), .r (.load (some 4) (.t 6)), none⟩, 0, 0⟩,
⟨3, ⟨(some 47), .p (.mv (.t 0)), none⟩, 0, 0⟩,
⟨4, ⟨(some 48), .b (.call 150 [(.t 47)]), none⟩, 8, 0⟩,
⟨5, ⟨(some 49), .b (.call 151 [(.t 45), (.t 46), (.t 48)]), none⟩, 30, 0⟩,
⟨6, ⟨(some 50), .b (.call 125 [(.t 44), (.t 49)]), none⟩, 63, 0⟩])) (.seq (.reg [
⟨(some 52), .b (.cmp 0 .int (.t 16) (.c (.w (.s (.int .i64 (.lit (.ofNat 9))))))), none⟩,
⟨(some 51), .p (.mv (.t 52)), none⟩]) (.cond (.t 51) (.seq (.reg [
⟨(some 53), .p (.mv (.t 0)), none⟩,
⟨(some 54), .b (.call 150 [(.t 53)]), none⟩,
⟨(some 7), .m (.alloc 24 [.int .u64 (.lit (.ofNat 0)), .int .u64 (.lit (.ofNat 0)), .int .u64 (.lit (.ofNat 0)), .int .u64 (.lit (.ofNat 0))]), none⟩,
⟨none, .b (.store 4 (.t 7) (.t 54)), none⟩]) (.draw [
⟨0, ⟨(some 55), .p (.mv (.t 0)), none⟩, 0, 0⟩,
⟨1, ⟨(some 56), .r (.load (some 4) (.t 5)), none⟩, 0, 0⟩,
⟨2, ⟨(some 57), .r (.load (some 4) (.t 7)), none⟩, 0, 0⟩,
⟨3, ⟨(some 58), .p (.mv (.t 0)), none⟩, 0, 0⟩,
⟨4, ⟨(some 59), .b (.call 150 [(.t 58)]), none⟩, 8, 0⟩,
⟨5, ⟨(some 60), .b (.call 152 [(.t 56), (.t 57), (.t 59)]), none⟩, 30, 0⟩,
⟨6, ⟨(some 61), .b (.call 125 [(.t 55), (.t 60)]), none⟩, 63, 0⟩])) (.seq (.reg [
⟨(some 63), .b (.cmp 0 .int (.t 16) (.c (.w (.s (.int .i64 (.lit (.ofNat 16))))))), none⟩,
⟨(some 62), .p (.mv (.t 63)), none⟩]) (.cond (.t 62) (.draw [
⟨0, ⟨(some 64), .p (.mv (.t 0)), none⟩, 0, 0⟩,
⟨1, ⟨(some 65), .r (.load (some 4) (.t 5)), none⟩, 0, 0⟩,
⟨2, ⟨(some 66), .p (.mv (.t 0)), none⟩, 0, 0⟩,
⟨3, ⟨(some 67), .b (.call 150 [(.t 66)]), none⟩, 4, 0⟩,
⟨4, ⟨(some 68), .b (.call 91 [(.t 65), (.t 67)]), none⟩, 14, 0⟩,
⟨5, ⟨(some 69), .b (.cmp 2 .int (.t 68) (.c (.w (.s (.int .i64 (.lit (.ofNat 0))))))), none⟩, 30, 0⟩,
⟨6, ⟨(some 70), .b (.call 153 [(.t 69)]), none⟩, 62, 0⟩,
⟨7, ⟨(some 71), .b (.call 125 [(.t 64), (.t 70)]), none⟩, 127, 0⟩]) (.seq (.reg [
⟨(some 73), .b (.cmp 0 .int (.t 16) (.c (.w (.s (.int .i64 (.lit (.ofNat 17))))))), none⟩,
⟨(some 72), .p (.mv (.t 73)), none⟩]) (.cond (.t 72) (.draw [
⟨0, ⟨(some 74), .p (.mv (.t 0)), none⟩, 0, 0⟩,
⟨1, ⟨(some 75), .r (.load (some 4) (.t 5)), none⟩, 0, 0⟩,
⟨2, ⟨(some 76), .p (.mv (.t 0)), none⟩, 0, 0⟩,
⟨3, ⟨(some 77), .b (.call 150 [(.t 76)]), none⟩, 4, 0⟩,
⟨4, ⟨(some 78), .b (.call 91 [(.t 75), (.t 77)]), none⟩, 14, 0⟩,
⟨5, ⟨(some 79), .b (.cmp 4 .int (.t 78) (.c (.w (.s (.int .i64 (.lit (.ofNat 0))))))), none⟩, 30, 0⟩,
⟨6, ⟨(some 80), .b (.call 153 [(.t 79)]), none⟩, 62, 0⟩,
⟨7, ⟨(some 81), .b (.call 125 [(.t 74), (.t 80)]), none⟩, 127, 0⟩]) (.seq (.reg [
⟨(some 83), .b (.cmp 0 .int (.t 16) (.c (.w (.s (.int .i64 (.lit (.ofNat 18))))))), none⟩,
⟨(some 82), .p (.mv (.t 83)), none⟩]) (.cond (.t 82) (.draw [
⟨0, ⟨(some 84), .p (.mv (.t 0)), none⟩, 0, 0⟩,
⟨1, ⟨(some 85), .r (.load (some 4) (.t 5)), none⟩, 0, 0⟩,
⟨2, ⟨(some 86), .p (.mv (.t 0)), none⟩, 0, 0⟩,
⟨3, ⟨(some 87), .b (.call 150 [(.t 86)]), none⟩, 4, 0⟩,
⟨4, ⟨(some 88), .b (.call 154 [(.t 85), (.t 87)]), none⟩, 14, 0⟩,
⟨5, ⟨(some 89), .b (.cmp 2 .int (.t 88) (.c (.w (.s (.int .i64 (.lit (.ofNat 0))))))), none⟩, 30, 0⟩,
⟨6, ⟨(some 90), .b (.call 153 [(.t 89)]), none⟩, 62, 0⟩,
⟨7, ⟨(some 91), .b (.call 125 [(.t 84), (.t 90)]), none⟩, 127, 0⟩]) (.seq (.reg [
⟨(some 93), .b (.cmp 0 .int (.t 16) (.c (.w (.s (.int .i64 (.lit (.ofNat 19))))))), none⟩,
⟨(some 92), .p (.mv (.t 93)), none⟩]) (.cond (.t 92) (.draw [
⟨0, ⟨(some 94), .p (.mv (.t 0)), none⟩, 0, 0⟩,
⟨1, ⟨(some 95), .r (.load (some 4) (.t 5)), none⟩, 0, 0⟩,
⟨2, ⟨(some 96), .p (.mv (.t 0)), none⟩, 0, 0⟩,
⟨3, ⟨(some 97), .b (.call 150 [(.t 96)]), none⟩, 4, 0⟩,
⟨4, ⟨(some 98), .b (.call 154 [(.t 95), (.t 97)]), none⟩, 14, 0⟩,
⟨5, ⟨(some 99), .b (.cmp 4 .int (.t 98) (.c (.w (.s (.int .i64 (.lit (.ofNat 0))))))), none⟩, 30, 0⟩,
⟨6, ⟨(some 100), .b (.call 153 [(.t 99)]), none⟩, 62, 0⟩,
⟨7, ⟨(some 101), .b (.call 125 [(.t 94), (.t 100)]), none⟩, 127, 0⟩]) (.seq (.reg [
⟨(some 103), .b (.cmp 0 .int (.t 16) (.c (.w (.s (.int .i64 (.lit (.ofNat 20))))))), none⟩,
⟨(some 102), .p (.mv (.t 103)), none⟩]) (.cond (.t 102) (.draw [
⟨0, ⟨(some 104), .p (.mv (.t 0)), none⟩, 0, 0⟩,
⟨1, ⟨(some 105), .r (.load (some 4) (.t 5)), none⟩, 0, 0⟩,
⟨2, ⟨(some 106), .p (.mv (.t 0)), none⟩, 0, 0⟩,
⟨3, ⟨(some 107), .b (.call 150 [(.t 106)]), none⟩, 4, 0⟩,
⟨4, ⟨(some 108), .b (.cmp 0 (.agg (.one (.arr 4 22 .u64))) (.t 105) (.t 107)), none⟩, 14, 0⟩,
⟨5, ⟨(some 109), .b (.call 153 [(.t 108)]), none⟩, 30, 0⟩,
⟨6, ⟨(some 110), .b (.call 125 [(.t 104), (.t 109)]), none⟩, 63, 0⟩]) (.seq (.reg [
⟨(some 112), .b (.cmp 0 .int (.t 16) (.c (.w (.s (.int .i64 (.lit (.ofNat 21))))))), none⟩,
⟨(some 111), .p (.mv (.t 112)), none⟩]) (.cond (.t 111) (.reg [
⟨(some 113), .p (.mv (.t 0)), none⟩,
⟨(some 114), .r (.load (some 4) (.t 5)), none⟩,
⟨(some 115), .p (.build [.int .u64 (.lit (.ofNat 0)), .int .u64 (.lit (.ofNat 0)), .int .u64 (.lit (.ofNat 0)), .int .u64 (.lit (.ofNat 0))] []), none⟩,
⟨(some 116), .b (.cmp 0 (.agg (.one (.arr 4 22 .u64))) (.t 114) (.t 115)), none⟩,
⟨(some 117), .b (.call 153 [(.t 116)]), none⟩,
⟨(some 118), .b (.call 125 [(.t 113), (.t 117)]), none⟩]) (.seq (.reg [
⟨(some 120), .b (.cmp 0 .int (.t 16) (.c (.w (.s (.int .i64 (.lit (.ofNat 25))))))), none⟩,
⟨(some 119), .p (.mv (.t 120)), none⟩]) (.cond (.t 119) (.reg [
⟨(some 121), .p (.mv (.t 0)), none⟩,
⟨(some 122), .r (.load (some 4) (.t 5)), none⟩,
⟨(some 123), .b (.call 155 [(.t 122)]), none⟩,
⟨(some 124), .b (.call 125 [(.t 121), (.t 123)]), none⟩]) (.seq (.reg [
⟨(some 17), .p (.mv (.t 0)), none⟩,
⟨(some 18), .b (.call 150 [(.t 17)]), none⟩,
⟨(some 8), .m (.alloc 24 [.int .u64 (.lit (.ofNat 0)), .int .u64 (.lit (.ofNat 0)), .int .u64 (.lit (.ofNat 0)), .int .u64 (.lit (.ofNat 0))]), none⟩,
⟨none, .b (.store 4 (.t 8) (.t 18)), none⟩]) (.seq (.seq (.reg [
⟨(some 19), .p (.mv (.t 1)), none⟩,
⟨(some 20), .b (.cmp 0 .int (.t 19) (.c (.w (.s (.int .i64 (.lit (.ofNat 10))))))), none⟩]) (.cond (.t 20) (.draw [
⟨0, ⟨(some 21), .p (.mv (.t 0)), none⟩, 0, 0⟩,
⟨1, ⟨(some 22), .p (.mv (.t 0)), none⟩, 0, 0⟩,
⟨2, ⟨(some 23), .p (.nilCheck (.t 22)), none⟩, 2, 0⟩,
⟨3, ⟨(some 24), .p (.faddr 0 (.t 23)), none⟩, 6, 0⟩,
⟨4, ⟨(some 25), .r (.load none (.t 24)), none⟩, 14, 0⟩,
⟨5, ⟨(some 26), .p (.nilCheck (.t 25)), none⟩, 30, 0⟩,
⟨6, ⟨(some 27), .p (.faddr 1 (.t 26)), none⟩, 62, 0⟩,
⟨7, ⟨(some 28), .r (.load (some 26) (.t 27)), none⟩, 126, 0⟩,
⟨8, ⟨(some 29), .r (.load (some 4) (.t 8)), none⟩, 0, 0⟩,
⟨9, ⟨(some 30), .b (.call 156 [(.t 28), (.t 29)]), none⟩, 510, 0⟩,
⟨10, ⟨(some 31), .b (.call 118 [(.t 21), (.t 30)]), none⟩, 1023, 0⟩]) (.skip))) (.draw [
⟨0, ⟨(some 32), .p (.mv (.t 0)), none⟩, 0, 0⟩,
⟨1, ⟨(some 33), .p (.mv (.t 1)), none⟩, 0, 0⟩,
⟨2, ⟨(some 34), .p (.iaddrA 30 1 (.t 4) (.t 33)), none⟩, 2, 0⟩,
⟨3, ⟨(some 35), .r (.load none (.t 34)), none⟩, 6, 0⟩,
⟨4, ⟨(some 36), .r (.load (some 4) (.t 5)), none⟩, 0, 0⟩,
⟨5, ⟨(some 37), .r (.load (some 4) (.t 8)), none⟩, 0, 0⟩,
⟨6, ⟨(some 38), .b (.callv (.t 35) [(.t 36), (.t 37)]), none⟩, 62, 0⟩,
⟨7, ⟨(some 39), .b (.call 125 [(.t 32), (.t 38)]), none⟩, 127, 0⟩])))))))))))))))))))))))))⟩
theorem fo119 : ∃ func code hint, FnOk Go.Proofs.Tryz.prog TT 119 fa119 func code hint := ⟨Go.Proofs.Tryz.f119, bodyOf Go.Proofs.Tryz.f119, hintL [(11, [(0, 0), (1, 0), (2, 0), (3, 0), (4, 0), (5, 0), (6, 0)]), (14, [(0, 0), (1, 0), (2, 0), (3, 0), (4, 0), (5, 0), (6, 0)]), (16, [(0, 0), (1, 0), (2, 0), (3, 0), (4, 0), (5, 0), (6, 0), (7, 0)]), (18, [(0, 0), (1, 0), (2, 0), (3, 0), (4, 0), (5, 0), (6, 0), (7, 0)]), (20, [(0, 0), (1, 0), (2, 0), (3, 0), (4, 0), (5, 0), (6, 0), (7, 0)]), (22, [(0, 0), (1, 0), (2, 0), (3, 0), (4, 0), (5, 0), (6, 0), (7, 0)]), (24, [(0, 0), (1, 0), (2, 0), (3, 0), (4, 0), (5, 0), (6, 0)]), (7, [(0, 0), (1, 0), (2, 0), (3, 0), (4, 0), (5, 0), (6, 0), (7, 0), (8, 0), (9, 0), (10, 0)]), (8, [(0, 0), (1, 0), (2, 0), (3, 0), (4, 0), (5, 0), (6, 0), (7, 0)])], ⟨Go.Proofs.Tryz.func119, Go.Proofs.Tryz.call119, by kernel_rfl, by kernel_rfl, by kernel_rfl, by kernel_rfl⟩⟩
/- (*quarry/vm.frame).surrounds -/
def fa121 : AFunc := ⟨281, [], .seq (.reg [
⟨(some 19), .p (.mv (.t 1)), none⟩]) (.block 0 (.seq (.reg [
⟨(some 21), .b (.cmp 0 .int (.t 19) (.c (.w (.s (.int .i64 (.lit (.ofNat 48))))))), none⟩,
⟨(some 20), .p (.mv (.t 21)), none⟩]) (.cond (.t 20) (.reg [
⟨(some 22), .p (.mv (.t 0)), none⟩,
⟨(some 23), .p (.mv (.t 0)), none⟩,
⟨(some 24), .p (.nilCheck (.t 23)), none⟩,
⟨(some 25), .p (.faddr 1 (.t 24)), none⟩,
⟨(some 26), .p (.faddr 20 (.t 25)), none⟩,
⟨(some 27), .r (.load (some 20) (.t 26)), none⟩,
⟨(some 28), .b (.call 163 [(.t 27)]), none⟩,
⟨(some 29), .b (.call 125 [(.t 22), (.t 28)]), none⟩]) (.seq (.reg [
⟨(some 31), .b (.cmp 0 .int (.t 19) (.c (.w (.s (.int .i64 (.lit (.ofNat 49))))))), none⟩,
⟨(some 30), .p (.mv (.t 31)), none⟩]) (.cond (.t 30) (.seq (.reg [
⟨(some 32), .p (.mv (.t 0)), none⟩,
⟨(some 33), .b (.call 164 [(.t 32)]), none⟩,
⟨(some 4), .m (.alloc 30 (lrep (.int .u8 (.lit (.ofNat 0))) 20)), none⟩,
⟨none, .b (.store 20 (.t 4) (.t 33)), none⟩]) (.seq (.reg [
⟨(some 34), .p (.mv (.t 0)), none⟩,
⟨(some 35), .r (.load (some 20) (.t 4)), none⟩,
⟨(some 36), .b (.call 165 [(.t 34), (.t 35)]), none⟩]) (.draw [
⟨0, ⟨(some 37), .p (.mv (.t 0)), none⟩, 0, 0⟩,
⟨1, ⟨(some 38), .p (.mv (.t 0)), none⟩, 0, 0⟩,
⟨2, ⟨(some 39), .p (.nilCheck (.t 38)), none⟩, 2, 0⟩,
⟨3, ⟨(some 40), .p (.faddr 0 (.t 39)), none⟩, 6, 0⟩,
⟨4, ⟨(some 41), .r (.load none (.t 40)), none⟩, 14, 0⟩,
⟨5, ⟨(some 42), .p (.nilCheck (.t 41)), none⟩, 30, 0⟩,
⟨6, ⟨(some 43), .p (.faddr 89 (.t 42)), none⟩, 62, 0⟩,
⟨7, ⟨(some 44), .r (.load none (.t 43)), none⟩, 126, 0⟩,
⟨8, ⟨(some 45), .r (.load (some 20) (.t 4)), none⟩, 0, 0⟩,
⟨9, ⟨(some 46), .b (.call 20 [(.t 44), (.t 45)]), none⟩, 510, 0⟩,
⟨10, ⟨(some 47), .b (.call 125 [(.t 37), (.t 46)]), none⟩, 1023, 0⟩]))) (.seq (.reg [
⟨(some 49), .b (.cmp 0 .int (.t 19) (.c (.w (.s (.int .i64 (.lit (.ofNat 50))))))), none⟩,
⟨(some 48), .p (.mv (.t 49)), none⟩]) (.cond (.t 48) (.reg [
⟨(some 50), .p (.mv (.t 0)), none⟩,
⟨(some 51), .p (.mv (.t 0)), none⟩,
⟨(some 52), .p (.nilCheck (.t 51)), none⟩,
⟨(some 53), .p (.faddr 0 (.t 52)), none⟩,
⟨(some 54), .r (.load none (.t 53)), none⟩,
⟨(some 55), .p (.nilCheck (.t 54)), none⟩,
⟨(some 56), .p (.faddr 64 (.t 55)), none⟩,
⟨(some 57), .p (.faddr 0 (.t 56)), none⟩,
⟨(some 58), .r (.load (some 20) (.t 57)), none⟩,
⟨(some 59), .b (.call 163 [(.t 58)]), none⟩,
⟨(some 60), .b (.call 125 [(.t 50), (.t 59)]), none⟩]) (.seq (.reg [
⟨(some 62), .b (.cmp 0 .int (.t 19) (.c (.w (.s (.int .i64 (.lit (.ofNat 51))))))), none⟩,
⟨(some 61), .p (.mv (.t 62)), none⟩]) (.cond (.t 61) (.reg [
⟨(some 63), .p (.mv (.t 0)), none⟩,
⟨(some 64), .p (.mv (.t 0)), none⟩,
⟨(some 65), .p (.nilCheck (.t 64)), none⟩,
⟨(some 66), .p (.faddr 1 (.t 65)), none⟩,
⟨(some 67), .p (.faddr 0 (.t 66)), none⟩,
⟨(some 68), .r (.load (some 20) (.t 67)), none⟩,
⟨(some 69), .b (.call 163 [(.t 68)]), none⟩,
⟨(some 70), .b (.call 125 [(.t 63), (.t 69)]), none⟩]) (.seq (.reg [
⟨(some 72), .b (.cmp 0 .int (.t 19) (.c (.w (.s (.int .i64 (.lit (.ofNat 52))))))), none⟩,
⟨(some 71), .p (.mv (.t 72)), none⟩]) (.cond (.t 71) (.reg [
⟨(some 73), .p (.mv (.t 0)), none⟩,
⟨(some 74), .p (.mv (.t 0)), none⟩,
⟨(some 75), .p (.nilCheck (.t 74)), none⟩,
⟨(some 76), .p (.faddr 1 (.t 75)), none⟩,
⟨(some 77), .p (.faddr 60 (.t 76)), none⟩,
⟨(some 78), .r (.load (some 4) (.t 77)), none⟩,
⟨(some 79), .b (.call 125 [(.t 73), (.t 78)]), none⟩]) (.seq (.reg [
⟨(some 81), .b (.cmp 0 .int (.t 19) (.c (.w (.s (.int .i64 (.lit (.ofNat 53))))))), none⟩,
⟨(some 80), .p (.mv (.t 81)), none⟩]) (.cond (.t 80) (.seq (.draw [
⟨0, ⟨(some 83), .p (.mv (.t 0)), none⟩, 0, 0⟩,
⟨1, ⟨(some 84), .p (.nilCheck (.t 83)), none⟩, 1, 0⟩,
⟨2, ⟨(some 85), .p (.faddr 1 (.t 84)), none⟩, 3, 0⟩,
⟨3, ⟨(some 86), .p (.faddr 64 (.t 85)), none⟩, 7, 0⟩,
⟨4, ⟨(some 87), .r (.load none (.t 86)), none⟩, 15, 0⟩,
⟨5, ⟨(some 88), .p (.mv (.t 0)), none⟩, 0, 0⟩,
⟨12, ⟨(some 5), .m (.alloc 24 [.int .u64 (.lit (.ofNat 0)), .int .u64 (.lit (.ofNat 0)), .int .u64 (.lit (.ofNat 0)), .int .u64 (.lit (.ofNat 0))]), none⟩, 0, 3072⟩,
⟨6, ⟨(some 89), .b (.call 150 [(.t 88)]), none⟩, 32, 0⟩,
⟨7, ⟨(some 90), .b (.call 166 [(.t 87), (.t 89), (.c (.w (.s (.int .i64 (.lit (.ofNat 32))))))]), none⟩, 127, 0⟩,
⟨8, ⟨(some 91), .b (.call 21 [(.t 90)]), none⟩, 255, 0⟩,
⟨9, ⟨(some 82), .p (.mv (.t 91)), none⟩, 511, 0⟩,
⟨10, ⟨(some 92), .p (.ext (.t 82) 0), none⟩, 1023, 0⟩,
⟨11, ⟨(some 93), .p (.ext (.t 82) 1), none⟩, 1023, 0⟩,
⟨13, ⟨none, .b (.store 4 (.t 5) (.t 92)), none⟩, 6143, 0⟩,
⟨14, ⟨(some 6), .p (.mv (.t 93)), none⟩, 16383, 0⟩]) (.reg [
⟨(some 94), .p (.mv (.t 0)), none⟩,
⟨(some 95), .r (.load (some 4) (.t 5)), none⟩,
⟨(some 96), .b (.call 125 [(.t 94), (.t 95)]), none⟩])) (.seq (.reg [
⟨(some 98), .b (.cmp 0 .int (.t 19) (.c (.w (.s (.int .i64 (.lit (.ofNat 54))))))), none⟩,
⟨(some 97), .p (.mv (.t 98)), none⟩]) (.cond (.t 97) (.reg [
⟨(some 99), .p (.mv (.t 0)), none⟩,
⟨(some 100), .p (.mv (.t 0)), none⟩,
⟨(some 101), .p (.nilCheck (.t 100)), none⟩,
⟨(some 102), .p (.faddr 1 (.t 101)), none⟩,
⟨(some 103), .p (.faddr 64 (.t 102)), none⟩,
⟨(some 104), .r (.load none (.t 103)), none⟩,
⟨(some 105), .p (.len (.t 104)), none⟩,
⟨(some 106), .b (.call 167 [(.t 105)]), none⟩,
⟨(some 107), .b (.call 125 [(.t 99), (.t 106)]), none⟩]) (.seq (.seq (.reg [
⟨(some 109), .b (.cmp 0 .int (.t 19) (.c (.w (.s (.int .i64 (.lit (.ofNat 55))))))), none⟩,
⟨(some 108), .p (.mv (.t 109)), none⟩]) (.cond (.t 108) (.skip) (.reg [
⟨(some 110), .b (.cmp 0 .int (.t 19) (.c (.w (.s (.int .i64 (.lit (.ofNat 57))))))), none⟩,
⟨(some 108), .p (.mv (.t 110)), none⟩]))) (.cond (.t 108) (.seq (.reg [
⟨(some 111), .p (.mv (.t 0)), none⟩,
⟨(some 112), .p (.nilCheck (.t 111)), none⟩,
⟨(some 113), .p (.faddr 1 (.t 112)), none⟩,
⟨(some 114), .p (.faddr 64 (.t 113)), none⟩,
⟨(some 115), .r (.load none (.t 114)), none⟩,
⟨(some 7), .p (.mv (.t 115)), none⟩]) (.seq (.seq (.reg [
⟨(some 116), .p (.mv (.t 1)), none⟩,
⟨(some 117), .b (.cmp 0 .int (.t 116) (.c (.w (.s (.int .i64 (.lit (.ofNat 57))))))), none⟩]) (.cond (.t 117) (.reg [
⟨(some 118), .p (.mv (.t 0)), none⟩,
⟨(some 119), .p (.nilCheck (.t 118)), none⟩,
⟨(some 120), .p (.faddr 69 (.t 119)), none⟩,
⟨(some 121), .r (.load none (.t 120)), none⟩,
⟨(some 7), .p (.mv (.t 121)), none⟩]) (.skip))) (.seq (.reg [
⟨(some 122), .p (.mv (.t 0)), none⟩,
⟨(some 123), .b (.call 150 [(.t 122)]), none⟩,
⟨(some 124), .p (.mv (.t 0)), none⟩,
⟨(some 125), .b (.call 150 [(.t 124)]), none⟩,
⟨(some 8), .m (.alloc 24 [.int .u64 (.lit (.ofNat 0)), .int .u64 (.lit (.ofNat 0)), .int .u64 (.lit (.ofNat 0)), .int .u64 (.lit (.ofNat 0))]), none⟩,
⟨(some 9), .m (.alloc 24 [.int .u64 (.lit (.ofNat 0)), .int .u64 (.lit (.ofNat 0)), .int .u64 (.lit (.ofNat 0)), .int .u64 (.lit (.ofNat 0))]), none⟩,
⟨none, .b (.store 4 (.t 8) (.t 123)), none⟩,
⟨none, .b (.store 4 (.t 9) (.t 125)), none⟩]) (.draw [
⟨0, ⟨(some 126), .p (.mv (.t 0)), none⟩, 0, 0⟩,
⟨1, ⟨(some 127), .r (.load (some 4) (.t 8)), none⟩, 0, 0⟩,
⟨2, ⟨(some 128), .p (.mv (.t 0)), none⟩, 0, 0⟩,
⟨5, ⟨(some 131), .p (.mv (.t 7)), none⟩, 0, 0⟩,
⟨6, ⟨(some 132), .r (.load (some 4) (.t 9)), none⟩, 0, 0⟩,
⟨3, ⟨(some 129), .b (.call 150 [(.t 128)]), none⟩, 4, 0⟩,
⟨4, ⟨(some 130), .p (.build [.int .u64 (.lit (.ofNat 0)), .int .u64 (.lit (.ofNat 0)), .int .u64 (.lit (.ofNat 0)), .int .u64 (.lit (.ofNat 0)), .int .u64 (.lit (.ofNat 0)), .int .u64 (.lit (.ofNat 0)), .int .u64 (.lit (.ofNat 0)), .int .u64 (.lit (.ofNat 0))] [(0, 4, (.t 127)), (4, 4, (.t 129))]), none⟩, 14, 0⟩,
⟨7, ⟨(some 133), .b (.call 168 [(.t 126), (.t 130), (.t 131), (.t 132)]), none⟩, 127, 0⟩])))) (.seq (.reg [
⟨(some 135), .b (.cmp 0 .int (.t 19) (.c (.w (.s (.int .i64 (.lit (.ofNat 56))))))), none⟩,
⟨(some 134), .p (.mv (.t 135)), none⟩]) (.cond (.t 134) (.reg [
⟨(some 136), .p (.mv (.t 0)), none⟩,
⟨(some 137), .p (.mv (.t 0)), none⟩,
⟨(some 138), .p (.nilCheck (.t 137)), none⟩,
⟨(some 139), .p (.faddr 69 (.t 138)), none⟩,
⟨(some 140), .r (.load none (.t 139)), none⟩,
⟨(some 141), .p (.len (.t 140)), none⟩,
⟨(some 142), .b (.call 167 [(.t 141)]), none⟩,
⟨(some 143), .b (.call 125 [(.t 136), (.t 142)]), none⟩]) (.seq (.reg [
⟨(some 145), .b (.cmp 0 .int (.t 19) (.c (.w (.s (.int .i64 (.lit (.ofNat 58))))))), none⟩,
⟨(some 144), .p (.mv (.t 145)), none⟩]) (.cond (.t 144) (.reg [
⟨(some 146), .p (.mv (.t 0)), none⟩,
⟨(some 147), .p (.mv (.t 0)), none⟩,
⟨(some 148), .p (.nilCheck (.t 147)), none⟩,
⟨(some 149), .p (.faddr 0 (.t 148)), none⟩,
⟨(some 150), .r (.load none (.t 149)), none⟩,
⟨(some 151), .p (.nilCheck (.t 150)), none⟩,
⟨(some 152), .p (.faddr 64 (.t 151)), none⟩,
⟨(some 153), .p (.faddr 20 (.t 152)), none⟩,
⟨(some 154), .r (.load (some 4) (.t 153)), none⟩,
⟨(some 155), .b (.call 125 [(.t 146), (.t 154)]), none⟩]) (.seq (.reg [
⟨(some 157), .b (.cmp 0 .int (.t 19) (.c (.w (.s (.int .i64 (.lit (.ofNat 59))))))), none⟩,
⟨(some 156), .p (.mv (.t 157)), none⟩]) (.cond (.t 156) (.seq (.reg [
⟨(some 158), .p (.mv (.t 0)), none⟩,
⟨(some 159), .b (.call 164 [(.t 158)]), none⟩,
⟨(some 10), .m (.alloc 30 (lrep (.int .u8 (.lit (.ofNat 0))) 20)), none⟩,
⟨none, .b (.store 20 (.t 10) (.t 159)), none⟩]) (.seq (.reg [
⟨(some 160), .p (.mv (.t 0)), none⟩,
⟨(some 161), .r (.load (some 20) (.t 10)), none⟩,
⟨(some 162), .b (.call 165 [(.t 160), (.t 161)]), none⟩]) (.draw [
⟨0, ⟨(some 163), .p (.mv (.t 0)), none⟩, 0, 0⟩,
⟨1, ⟨(some 164), .p (.mv (.t 0)), none⟩, 0, 0⟩,
⟨2, ⟨(some 165), .p (.nilCheck (.t 164)), none⟩, 2, 0⟩,
⟨3, ⟨(some 166), .p (.faddr 0 (.t 165)), none⟩, 6, 0⟩,
⟨4, ⟨(some 167), .r (.load none (.t 166)), none⟩, 14, 0⟩,
⟨5, ⟨(some 168), .p (.nilCheck (.t 167)), none⟩, 30, 0⟩,
⟨6, ⟨(some 169), .p (.faddr 89 (.t 168)), none⟩, 62, 0⟩,
⟨7, ⟨(some 170), .r (.load none (.t 169)), none⟩, 126, 0⟩,
⟨8, ⟨(some 171), .r (.load (some 20) (.t 10)), none⟩, 0, 0⟩,
⟨9, ⟨(some 172), .b (.call 39 [(.t 170), (.t 171)]), none⟩, 510, 0⟩,
⟨10, ⟨(some 173), .p (.len (.t 172)), none⟩, 1022, 0⟩,
⟨11, ⟨(some 174), .b (.call 167 [(.t 173)]), none⟩, 2046, 0⟩,
⟨12, ⟨(some 175), .b (.call 125 [(.t 163), (.t 174)]), none⟩, 4095, 0⟩]))) (.seq (.reg [
⟨(some 177), .b (.cmp 0 .int (.t 19) (.c (.w (.s (.int .i64 (.lit (.ofNat 60))))))), none⟩,
⟨(some 176), .p (.mv (.t 177)), none⟩]) (.cond (.t 176) (.seq (.reg [
⟨(some 178), .p (.mv (.t 0)), none⟩,
⟨(some 179), .b (.call 164 [(.t 178)]), none⟩,
⟨(some 11), .m (.alloc 30 (lrep (.int .u8 (.lit (.ofNat 0))) 20)), none⟩,
⟨none, .b (.store 20 (.t 11) (.t 179)), none⟩]) (.seq (.reg [
⟨(some 180), .p (.mv (.t 0)), none⟩,
⟨(some 181), .r (.load (some 20) (.t 11)), none⟩,
⟨(some 182), .b (.call 165 [(.t 180), (.t 181)]), none⟩]) (.seq (.reg [
⟨(some 183), .p (.mv (.t 0)), none⟩,
⟨(some 184), .b (.call 150 [(.t 183)]), none⟩,
⟨(some 185), .p (.mv (.t 0)), none⟩,
⟨(some 186), .b (.call 150 [(.t 185)]), none⟩,
⟨(some 12), .m (.alloc 24 [.int .u64 (.lit (.ofNat 0)), .int .u64 (.lit (.ofNat 0)), .int .u64 (.lit (.ofNat 0)), .int .u64 (.lit (.ofNat 0))]), none⟩,
⟨(some 13), .m (.alloc 24 [.int .u64 (.lit (.ofNat 0)), .int .u64 (.lit (.ofNat 0)), .int .u64 (.lit (.ofNat 0)), .int .u64 (.lit (.ofNat 0))]), none⟩,
⟨none, .b (.store 4 (.t 12) (.t 184)), none⟩,
⟨none, .b (.store 4 (.t 13) (.t 186)), none⟩]) (.draw [
⟨0, ⟨(some 187), .p (.mv (.t 0)), none⟩, 0, 0⟩,
⟨1, ⟨(some 188), .r (.load (some 4) (.t 12)), none⟩, 0, 0⟩,
⟨2, ⟨(some 189), .p (.mv (.t 0)), none⟩, 0, 0⟩,
⟨5, ⟨(some 192), .p (.mv (.t 0)), none⟩, 0, 0⟩,
⟨6, ⟨(some 193), .p (.nilCheck (.t 192)), none⟩, 32, 0⟩,
⟨7, ⟨(some 194), .p (.faddr 0 (.t 193)), none⟩, 96, 0⟩,
⟨8, ⟨(some 195), .r (.load none (.t 194)), none⟩, 224, 0⟩,
⟨9, ⟨(some 196), .p (.nilCheck (.t 195)), none⟩, 480, 0⟩,
⟨10, ⟨(some 197), .p (.faddr 89 (.t 196)), none⟩, 992, 0⟩,
⟨11, ⟨(some 198), .r (.load none (.t 197)), none⟩, 2016, 0⟩,
⟨12, ⟨(some 199), .r (.load (some 20) (.t 11)), none⟩, 0, 0⟩,
⟨14, ⟨(some 201), .r (.load (some 4) (.t 13)), none⟩, 0, 0⟩,
⟨3, ⟨(some 190), .b (.call 150 [(.t 189)]), none⟩, 4, 0⟩,
⟨4, ⟨(some 191), .p (.build [.int .u64 (.lit (.ofNat 0)), .int .u64 (.lit (.ofNat 0)), .int .u64 (.lit (.ofNat 0)), .int .u64 (.lit (.ofNat 0)), .int .u64 (.lit (.ofNat 0)), .int .u64 (.lit (.ofNat 0)), .int .u64 (.lit (.ofNat 0)), .int .u64 (.lit (.ofNat 0))] [(0, 4, (.t 188)), (4, 4, (.t 190))]), none⟩, 14, 0⟩,
⟨13, ⟨(some 200), .b (.call 39 [(.t 198), (.t 199)]), none⟩, 8172, 0⟩,
⟨15, ⟨(some 202), .b (.call 168 [(.t 187), (.t 191), (.t 200), (.t 201)]), none⟩, 32767, 0⟩])))) (.seq (.reg [
⟨(some 204), .b (.cmp 0 .int (.t 19) (.c (.w (.s (.int .i64 (.lit (.ofNat 61))))))), none⟩,
⟨(some 203), .p (.mv (.t 204)), none⟩]) (.cond (.t 203) (.reg [
⟨(some 205), .p (.mv (.t 0)), none⟩,
⟨(some 206), .p (.mv (.t 0)), none⟩,
⟨(some 207), .p (.nilCheck (.t 206)), none⟩,
⟨(some 208), .p (.faddr 72 (.t 207)), none⟩,
⟨(some 209), .r (.load none (.t 208)), none⟩,
⟨(some 210), .p (.len (.t 209)), none⟩,
⟨(some 211), .b (.call 167 [(.t 210)]), none⟩,
⟨(some 212), .b (.call 125 [(.t 205), (.t 211)]), none⟩]) (.seq (.reg [
⟨(some 214), .b (.cmp 0 .int (.t 19) (.c (.w (.s (.int .i64 (.lit (.ofNat 62))))))), none⟩,
⟨(some 213), .p (.mv (.t 214)), none⟩]) (.cond (.t 213) (.seq (.reg [
⟨(some 215), .p (.mv (.t 0)), none⟩,
⟨(some 216), .b (.call 150 [(.t 215)]), none⟩,
⟨(some 217), .p (.mv (.t 0)), none⟩,
⟨(some 218), .b (.call 150 [(.t 217)]), none⟩,
⟨(some 14), .m (.alloc 24 [.int .u64 (.lit (.ofNat 0)), .int .u64 (.lit (.ofNat 0)), .int .u64 (.lit (.ofNat 0)), .int .u64 (.lit (.ofNat 0))]), none⟩,
⟨(some 15), .m (.alloc 24 [.int .u64 (.lit (.ofNat 0)), .int .u64 (.lit (.ofNat 0)), .int .u64 (.lit (.ofNat 0)), .int .u64 (.lit (.ofNat 0))]), none⟩,
⟨none, .b (.store 4 (.t 14) (.t 216)), none⟩,
⟨none, .b (.store 4 (.t 15) (.t 218)), none⟩]) (.seq (.reg [
⟨(some 219), .p (.mv (.t 0)), none⟩,
⟨(some 220), .b (.call 150 [(.t 219)]), none⟩,
⟨(some 16), .m (.alloc 24 [.int .u64 (.lit (.ofNat 0)), .int .u64 (.lit (.ofNat 0)), .int .u64 (.lit (.ofNat 0)), .int .u64 (.lit (.ofNat 0))]), none⟩,
⟨none, .b (.store 4 (.t 16) (.t 220)), none⟩]) (.seq (.reg [
⟨(some 221), .r (.load (some 4) (.t 15)), none⟩,
⟨(some 222), .r (.load (some 4) (.t 16)), none⟩,
⟨(some 223), .b (.call 100 [(.t 221), (.t 222)]), none⟩,
⟨(some 17), .m (.alloc 24 [.int .u64 (.lit (.ofNat 0)), .int .u64 (.lit (.ofNat 0)), .int .u64 (.lit (.ofNat 0)), .int .u64 (.lit (.ofNat 0))]), none⟩,
⟨none, .b (.store 4 (.t 17) (.t 223)), none⟩]) (.seq (.draw [
⟨0, ⟨(some 224), .r (.load (some 4) (.t 17)), none⟩, 0, 0⟩,
⟨1, ⟨(some 225), .r (.load (some 4) (.t 15)), none⟩, 0, 0⟩,
⟨2, ⟨(some 226), .b (.call 91 [(.t 224), (.t 225)]), none⟩, 3, 0⟩,
⟨3, ⟨(some 227), .b (.cmp 5 .int (.t 226) (.c (.w (.s (.int .i64 (.lit (.ofNat 0))))))), none⟩, 7, 0⟩,
⟨4, ⟨(some 228), .p (.mv (.t 227)), none⟩, 15, 0⟩,
⟨5, ⟨(some 229), .r (.load (some 4) (.t 17)), some (228, true)⟩, 31, 0⟩,
⟨6, ⟨(some 230), .p (.mv (.t 0)), some (228, true)⟩, 31, 0⟩,
⟨7, ⟨(some 231), .p (.nilCheck (.t 230)), some (228, true)⟩, 95, 0⟩,
⟨8, ⟨(some 232), .p (.faddr 72 (.t 231)), some (228, true)⟩, 223, 0⟩,
⟨9, ⟨(some 233), .r (.load none (.t 232)), some (228, true)⟩, 479, 0⟩,
⟨10, ⟨(some 234), .p (.len (.t 233)), some (228, true)⟩, 991, 0⟩,
⟨11, ⟨(some 235), .b (.call 167 [(.t 234)]), some (228, true)⟩, 2015, 0⟩,
⟨12, ⟨(some 236), .b (.call 91 [(.t 229), (.t 235)]), some (228, true)⟩, 4095, 0⟩,
⟨13, ⟨(some 237), .b (.cmp 3 .int (.t 236) (.c (.w (.s (.int .i64 (.lit (.ofNat 0))))))), some (228, true)⟩, 8191, 0⟩,
⟨14, ⟨(some 238), .p (.pick (.t 228) (.t 237) (.c (.w (.s (.bool false))))), none⟩, 16383, 0⟩,
⟨15, ⟨(some 239), .b (.call 116 [(.t 238)]), none⟩, 32767, 0⟩]) (.draw [
⟨0, ⟨(some 240), .p (.mv (.t 0)), none⟩, 0, 0⟩,
⟨1, ⟨(some 241), .r (.load (some 4) (.t 14)), none⟩, 0, 0⟩,
⟨2, ⟨(some 242), .r (.load (some 4) (.t 16)), none⟩, 0, 0⟩,
⟨3, ⟨(some 243), .p (.build [.int .u64 (.lit (.ofNat 0)), .int .u64 (.lit (.ofNat 0)), .int .u64 (.lit (.ofNat 0)), .int .u64 (.lit (.ofNat 0)), .int .u64 (.lit (.ofNat 0)), .int .u64 (.lit (.ofNat 0)), .int .u64 (.lit (.ofNat 0)), .int .u64 (.lit (.ofNat 0))] [(0, 4, (.t 241)), (4, 4, (.t 242))]), none⟩, 6, 0⟩,
⟨4, ⟨(some 244), .p (.mv (.t 0)), none⟩, 0, 0⟩,
⟨5, ⟨(some 245), .p (.nilCheck (.t 244)), none⟩, 16, 0⟩,
⟨6, ⟨(some 246), .p (.faddr 72 (.t 245)), none⟩, 48, 0⟩,
⟨7, ⟨(some 247), .r (.load none (.t 246)), none⟩, 112, 0⟩,
⟨8, ⟨(some 248), .r (.load (some 4) (.t 15)), none⟩, 0, 0⟩,
⟨9, ⟨(some 249), .b (.call 168 [(.t 240), (.t 243), (.t 247), (.t 248)]), none⟩, 511, 0⟩]))))) (.seq (.reg [
⟨(some 251), .b (.cmp 0 .int (.t 19) (.c (.w (.s (.int .i64 (.lit (.ofNat 63))))))), none⟩,
⟨(some 250), .p (.mv (.t 251)), none⟩]) (.cond (.t 250) (.seq (.reg [
⟨(some 252), .p (.mv (.t 0)), none⟩,
⟨(some 253), .b (.call 164 [(.t 252)]), none⟩,
⟨(some 18), .m (.alloc 30 (lrep (.int .u8 (.lit (.ofNat 0))) 20)), none⟩,
⟨none, .b (.store 20 (.t 18) (.t 253)), none⟩]) (.seq (.reg [
⟨(some 254), .p (.mv (.t 0)), none⟩,
⟨(some 255), .r (.load (some 20) (.t 18)), none⟩,
⟨(some 256), .b (.call 165 [(.t 254), (.t 255)]), none⟩]) (.seq (.draw [
⟨0, ⟨(some 257), .p (.mv (.t 0)), none⟩, 0, 0⟩,
⟨1, ⟨(some 258), .p (.nilCheck (.t 257)), none⟩, 1, 0⟩,
⟨2, ⟨(some 259), .p (.faddr 0 (.t 258)), none⟩, 3, 0⟩,
⟨3, ⟨(some 260), .r (.load none (.t 259)), none⟩, 7, 0⟩,
⟨4, ⟨(some 261), .p (.nilCheck (.t 260)), none⟩, 15, 0⟩,
⟨5, ⟨(some 262), .p (.faddr 89 (.t 261)), none⟩, 31, 0⟩,
⟨6, ⟨(some 263), .r (.load none (.t 262)), none⟩, 63, 0⟩,
⟨7, ⟨(some 264), .r (.load (some 20) (.t 18)), none⟩, 0, 0⟩,
⟨8, ⟨(some 265), .b (.call 60 [(.t 263), (.t 264)]), none⟩, 255, 0⟩]) (.cond (.t 265) (.reg [
⟨(some 266), .p (.mv (.t 0)), none⟩,
⟨(some 267), .p (.build [.int .u64 (.lit (.ofNat 0)), .int .u64 (.lit (.ofNat 0)), .int .u64 (.lit (.ofNat 0)), .int .u64 (.lit (.ofNat 0))] []), none⟩,
⟨(some 268), .b (.call 125 [(.t 266), (.t 267)]), none⟩]) (.draw [
⟨0, ⟨(some 269), .p (.mv (.t 0)), none⟩, 0, 0⟩,
⟨1, ⟨(some 270), .p (.mv (.t 0)), none⟩, 0, 0⟩,
⟨2, ⟨(some 271), .p (.nilCheck (.t 270)), none⟩, 2, 0⟩,
⟨3, ⟨(some 272), .p (.faddr 0 (.t 271)), none⟩, 6, 0⟩,
⟨4, ⟨(some 273), .r (.load none (.t 272)), none⟩, 14, 0⟩,
⟨5, ⟨(some 274), .p (.nilCheck (.t 273)), none⟩, 30, 0⟩,
⟨6, ⟨(some 275), .p (.faddr 89 (.t 274)), none⟩, 62, 0⟩,
⟨7, ⟨(some 276), .r (.load none (.t 275)), none⟩, 126, 0⟩,
⟨8, ⟨(some 277), .r (.load (some 20) (.t 18)), none⟩, 0, 0⟩,
⟨9, ⟨(some 278), .b (.call 169 [(.t 276), (.t 277)]), none⟩, 510, 0⟩,
⟨10, ⟨(some 279), .b (.call 161 [(.t 278)]), none⟩, 1022, 0⟩,
⟨11, ⟨(some 280), .b (.call 125 [(.t 269), (.t 279)]), none⟩, 2047, 0⟩]))))) (.skip))))))))))))))))))))))))))))))))⟩
theorem fo121 : ∃ func code hint, FnOk Go.Proofs.Tryz.prog TT 121 fa121 func code hint := ⟨Go.Proofs.Tryz.f121, bodyOf Go.Proofs.Tryz.f121, hintL [(6, [(0, 0), (1, 0), (2, 0), (3, 0), (4, 0), (5, 0), (6, 0), (7, 0), (8, 0), (9, 0), (10, 0)]), (14, [(0, 0), (1, 0), (2, 0), (3, 0), (4, 0), (5, 0), (12, 3072), (6, 0), (7, 0), (8, 0), (9, 0), (10, 0), (11, 0), (13, 0), (14, 0)]), (24, [(0, 0), (1, 0), (2, 0), (5, 0), (6, 0), (3, 0), (4, 0), (7, 0)]), (32, [(0, 0), (1, 0), (2, 0), (3, 0), (4, 0), (5, 0), (6, 0), (7, 0), (8, 0), (9, 0), (10, 0), (11, 0), (12, 0)]), (37, [(0, 0), (1, 0), (2, 0), (5, 0), (6, 0), (7, 0), (8, 0), (9, 0), (10, 0), (11, 0), (12, 0), (14, 0), (3, 0), (4, 0), (13, 0), (15, 0)]), (44, [(0, 0), (1, 0), (2, 0), (3, 0), (4, 0), (5, 0), (6, 0), (7, 0), (8, 0), (9, 0), (10, 0), (11, 0), (12, 0), (13, 0), (14, 0), (15, 0)]), (45, [(0, 0), (1, 0), (2, 0), (3, 0), (4, 0), (5, 0), (6, 0), (7, 0), (8, 0), (9, 0)]), (49, [(0, 0), (1, 0), (2, 0), (3, 0), (4, 0), (5, 0), (6, 0), (7, 0), (8, 0)]), (51, [(0, 0), (1, 0), (2, 0), (3, 0), (4, 0), (5, 0), (6, 0), (7, 0), (8, 0), (9, 0), (10, 0), (11, 0)])], ⟨Go.Proofs.Tryz.func121, Go.Proofs.Tryz.call121, by kernel_rfl, by kernel_rfl, by kernel_rfl, by kernel_rfl⟩⟩
/- (*quarry/vm.frame).stores -/
def fa123 : AFunc := ⟨269, [], .seq (.reg [
⟨(some 18), .p (.mv (.t 1)), none⟩]) (.block 0 (.seq (.reg [
⟨(some 20), .b (.cmp 0 .int (.t 18) (.c (.w (.s (.int .i64 (.lit (.ofNat 80))))))), none⟩,
⟨(some 19), .p (.mv (.t 20)), none⟩]) (.cond (.t 19) (.reg [
⟨(some 21), .p (.mv (.t 0)), none⟩,
⟨(some 22), .b (.call 150 [(.t 21)]), none⟩]) (.seq (.reg [
⟨(some 24), .b (.cmp 0 .int (.t 18) (.c (.w (.s (.int .i64 (.lit (.ofNat 81))))))), none⟩,
⟨(some 23), .p (.mv (.t 24)), none⟩]) (.cond (.t 23) (.seq (.reg [
⟨(some 25), .p (.mv (.t 0)), none⟩,
⟨(some 26), .b (.call 150 [(.t 25)]), none⟩,
⟨(some 27), .b (.call 167 [(.c (.w (.s (.int .i64 (.lit (.ofNat 32))))))]), none⟩,
⟨(some 28), .p (.build [.int .u64 (.lit (.ofNat 0)), .int .u64 (.lit (.ofNat 0)), .int .u64 (.lit (.ofNat 0)), .int .u64 (.lit (.ofNat 0)), .int .u64 (.lit (.ofNat 0)), .int .u64 (.lit (.ofNat 0)), .int .u64 (.lit (.ofNat 0)), .int .u64 (.lit (.ofNat 0))] [(0, 4, (.t 26)), (4, 4, (.t 27))]), none⟩,
⟨(some 4), .m (.alloc 226 [.int .u64 (.lit (.ofNat 0)), .int .u64 (.lit (.ofNat 0)), .int .u64 (.lit (.ofNat 0)), .int .u64 (.lit (.ofNat 0)), .int .u64 (.lit (.ofNat 0)), .int .u64 (.lit (.ofNat 0)), .int .u64 (.lit (.ofNat 0)), .int .u64 (.lit (.ofNat 0))]), none⟩,
⟨none, .b (.store 8 (.t 4) (.t 28)), none⟩]) (.seq (.reg [
⟨(some 29), .p (.mv (.t 0)), none⟩,
⟨(some 30), .r (.load (some 8) (.t 4)), none⟩,
⟨(some 31), .m (.bslice 226 1 [.int .u64 (.lit (.ofNat 0)), .int .u64 (.lit (.ofNat 0)), .int .u64 (.lit (.ofNat 0)), .int .u64 (.lit (.ofNat 0)), .int .u64 (.lit (.ofNat 0)), .int .u64 (.lit (.ofNat 0)), .int .u64 (.lit (.ofNat 0)), .int .u64 (.lit (.ofNat 0))] [(0, 8, (.t 30))]), none⟩,
⟨(some 32), .b (.call 160 [(.t 29), (.t 31)]), none⟩]) (.seq (.reg [
⟨(some 34), .p (.mv (.t 0)), none⟩,
⟨(some 35), .r (.load (some 8) (.t 4)), none⟩,
⟨(some 36), .b (.call 162 [(.t 34), (.t 35)]), none⟩,
⟨(some 37), .b (.call 21 [(.t 36)]), none⟩,
⟨(some 33), .p (.mv (.t 37)), none⟩,
⟨(some 38), .p (.ext (.t 33) 0), none⟩,
⟨(some 39), .p (.ext (.t 33) 1), none⟩,
⟨(some 5), .m (.alloc 24 [.int .u64 (.lit (.ofNat 0)), .int .u64 (.lit (.ofNat 0)), .int .u64 (.lit (.ofNat 0)), .int .u64 (.lit (.ofNat 0))]), none⟩,
⟨none, .b (.store 4 (.t 5) (.t 38)), none⟩,
⟨(some 6), .p (.mv (.t 39)), none⟩]) (.reg [
⟨(some 40), .p (.mv (.t 0)), none⟩,
⟨(some 41), .r (.load (some 4) (.t 5)), none⟩,
⟨(some 42), .b (.call 125 [(.t 40), (.t 41)]), none⟩])))) (.seq (.reg [
⟨(some 44), .b (.cmp 0 .int (.t 18) (.c (.w (.s (.int .i64 (.lit (.ofNat 82))))))), none⟩,
⟨(some 43), .p (.mv (.t 44)), none⟩]) (.cond (.t 43) (.seq (.reg [
⟨(some 45), .p (.mv (.t 0)), none⟩,
⟨(some 46), .b (.call 150 [(.t 45)]), none⟩,
⟨(some 47), .b (.call 167 [(.c (.w (.s (.int .i64 (.lit (.ofNat 32))))))]), none⟩,
⟨(some 48), .p (.build [.int .u64 (.lit (.ofNat 0)), .int .u64 (.lit (.ofNat 0)), .int .u64 (.lit (.ofNat 0)), .int .u64 (.lit (.ofNat 0)), .int .u64 (.lit (.ofNat 0)), .int .u64 (.lit (.ofNat 0)), .int .u64 (.lit (.ofNat 0)), .int .u64 (.lit (.ofNat 0))] [(0, 4, (.t 46)), (4, 4, (.t 47))]), none⟩,
⟨(some 7), .m (.alloc 226 [.int .u64 (.lit (.ofNat 0)), .int .u64 (.lit (.ofNat 0)), .int .u64 (.lit (.ofNat 0)), .int .u64 (.lit (.ofNat 0)), .int .u64 (.lit (.ofNat 0)), .int .u64 (.lit (.ofNat 0)), .int .u64 (.lit (.ofNat 0)), .int .u64 (.lit (.ofNat 0))]), none⟩,
⟨none, .b (.store 8 (.t 7) (.t 48)), none⟩]) (.seq (.reg [
⟨(some 49), .p (.mv (.t 0)), none⟩,
⟨(some 50), .b (.call 150 [(.t 49)]), none⟩,
⟨(some 51), .b (.call 24 [(.t 50)]), none⟩,
⟨(some 8), .m (.alloc 54 (lrep (.int .u8 (.lit (.ofNat 0))) 32)), none⟩,
⟨none, .b (.store 32 (.t 8) (.t 51)), none⟩]) (.seq (.reg [
⟨(some 52), .p (.mv (.t 0)), none⟩,
⟨(some 53), .r (.load (some 8) (.t 7)), none⟩,
⟨(some 54), .m (.bslice 226 1 [.int .u64 (.lit (.ofNat 0)), .int .u64 (.lit (.ofNat 0)), .int .u64 (.lit (.ofNat 0)), .int .u64 (.lit (.ofNat 0)), .int .u64 (.lit (.ofNat 0)), .int .u64 (.lit (.ofNat 0)), .int .u64 (.lit (.ofNat 0)), .int .u64 (.lit (.ofNat 0))] [(0, 8, (.t 53))]), none⟩,
⟨(some 55), .b (.call 160 [(.t 52), (.t 54)]), none⟩]) (.draw [
⟨0, ⟨(some 56), .p (.mv (.t 0)), none⟩, 0, 0⟩,
⟨1, ⟨(some 57), .r (.load (some 8) (.t 7)), none⟩, 0, 0⟩,
⟨3, ⟨(some 59), .p (.aslice 32 1 (.t 8) none none), none⟩, 0, 0⟩,
⟨2, ⟨(some 58), .b (.call 162 [(.t 56), (.t 57)]), none⟩, 3, 0⟩,
⟨4, ⟨(some 60), .b (.copy 1 (.t 58) (.t 59)), none⟩, 15, 0⟩])))) (.seq (.reg [
⟨(some 62), .b (.cmp 0 .int (.t 18) (.c (.w (.s (.int .i64 (.lit (.ofNat 83))))))), none⟩,
⟨(some 61), .p (.mv (.t 62)), none⟩]) (.cond (.t 61) (.seq (.reg [
⟨(some 63), .p (.mv (.t 0)), none⟩,
⟨(some 64), .b (.call 150 [(.t 63)]), none⟩,
⟨(some 65), .b (.call 167 [(.c (.w (.s (.int .i64 (.lit (.ofNat 1))))))]), none⟩,
⟨(some 66), .p (.build [.int .u64 (.lit (.ofNat 0)), .int .u64 (.lit (.ofNat 0)), .int .u64 (.lit (.ofNat 0)), .int .u64 (.lit (.ofNat 0)), .int .u64 (.lit (.ofNat 0)), .int .u64 (.lit (.ofNat 0)), .int .u64 (.lit (.ofNat 0)), .int .u64 (.lit (.ofNat 0))] [(0, 4, (.t 64)), (4, 4, (.t 65))]), none⟩,
⟨(some 9), .m (.alloc 226 [.int .u64 (.lit (.ofNat 0)), .int .u64 (.lit (.ofNat 0)), .int .u64 (.lit (.ofNat 0)), .int .u64 (.lit (.ofNat 0)), .int .u64 (.lit (.ofNat 0)), .int .u64 (.lit (.ofNat 0)), .int .u64 (.lit (.ofNat 0)), .int .u64 (.lit (.ofNat 0))]), none⟩,
⟨none, .b (.store 8 (.t 9) (.t 66)), none⟩]) (.seq (.reg [
⟨(some 67), .p (.mv (.t 0)), none⟩,
⟨(some 68), .b (.call 150 [(.t 67)]), none⟩,
⟨(some 69), .b (.call 24 [(.t 68)]), none⟩,
⟨(some 10), .m (.alloc 54 (lrep (.int .u8 (.lit (.ofNat 0))) 32)), none⟩,
⟨none, .b (.store 32 (.t 10) (.t 69)), none⟩]) (.seq (.reg [
⟨(some 70), .p (.mv (.t 0)), none⟩,
⟨(some 71), .r (.load (some 8) (.t 9)), none⟩,
⟨(some 72), .m (.bslice 226 1 [.int .u64 (.lit (.ofNat 0)), .int .u64 (.lit (.ofNat 0)), .int .u64 (.lit (.ofNat 0)), .int .u64 (.lit (.ofNat 0)), .int .u64 (.lit (.ofNat 0)), .int .u64 (.lit (.ofNat 0)), .int .u64 (.lit (.ofNat 0)), .int .u64 (.lit (.ofNat 0))] [(0, 8, (.t 71))]), none⟩,
⟨(some 73), .b (.call 160 [(.t 70), (.t 72)]), none⟩]) (.draw [
⟨0, ⟨(some 74), .p (.mv (.t 0)), none⟩, 0, 0⟩,
⟨1, ⟨(some 75), .r (.load (some 8) (.t 9)), none⟩, 0, 0⟩,
⟨3, ⟨(some 77), .p (.aslice 32 1 (.t 10) (some (.c (.w (.s (.int .i64 (.lit (.ofNat 31))))))) none), none⟩, 0, 0⟩,
⟨2, ⟨(some 76), .b (.call 162 [(.t 74), (.t 75)]), none⟩, 3, 0⟩,
⟨4, ⟨(some 78), .b (.copy 1 (.t 76) (.t 77)), none⟩, 15, 0⟩])))) (.seq (.reg [
⟨(some 80), .b (.cmp 0 .int (.t 18) (.c (.w (.s (.int .i64 (.lit (.ofNat 84))))))), none⟩,
⟨(some 79), .p (.mv (.t 80)), none⟩]) (.cond (.t 79) (.seq (.reg [
⟨(some 81), .p (.mv (.t 0)), none⟩,
⟨(some 82), .b (.call 150 [(.t 81)]), none⟩,
⟨(some 11), .m (.alloc 24 [.int .u64 (.lit (.ofNat 0)), .int .u64 (.lit (.ofNat 0)), .int .u64 (.lit (.ofNat 0)), .int .u64 (.lit (.ofNat 0))]), none⟩,
⟨none, .b (.store 4 (.t 11) (.t 82)), none⟩]) (.seq (.seq (.draw [
⟨0, ⟨(some 83), .p (.mv (.t 0)), none⟩, 0, 0⟩,
⟨1, ⟨(some 84), .p (.nilCheck (.t 83)), none⟩, 1, 0⟩,
⟨2, ⟨(some 85), .p (.faddr 0 (.t 84)), none⟩, 3, 0⟩,
⟨3, ⟨(some 86), .r (.load none (.t 85)), none⟩, 7, 0⟩,
⟨4, ⟨(some 87), .b (.call 70 [(.t 86), (.c (.w (.s (.int .i64 (.lit (.ofNat 9))))))]), none⟩, 15, 0⟩,
⟨5, ⟨(some 88), .p (.mv (.t 87)), none⟩, 31, 0⟩,
⟨6, ⟨(some 89), .p (.mv (.t 0)), some (88, true)⟩, 63, 0⟩,
⟨7, ⟨(some 90), .p (.nilCheck (.t 89)), some (88, true)⟩, 127, 0⟩,
⟨8, ⟨(some 91), .p (.faddr 0 (.t 90)), some (88, true)⟩, 255, 0⟩,
⟨9, ⟨(some 92), .r (.load none (.t 91)), some (88, true)⟩, 511, 0⟩,
⟨10, ⟨(some 93), .p (.nilCheck (.t 92)), some (88, true)⟩, 1023, 0⟩,
⟨11, ⟨(some 94), .p (.faddr 89 (.t 93)), some (88, true)⟩, 2047, 0⟩,
⟨12, ⟨(some 95), .r (.load none (.t 94)), some (88, true)⟩, 4095, 0⟩,
⟨13, ⟨(some 96), .p (.mv (.t 0)), some (88, true)⟩, 63, 0⟩,
⟨14, ⟨(some 97), .p (.nilCheck (.t 96)), some (88, true)⟩, 8255, 0⟩,
⟨15, ⟨(some 98), .p (.faddr 1 (.t 97)), some (88, true)⟩, 24639, 0⟩,
⟨16, ⟨(some 99), .p (.faddr 20 (.t 98)), some (88, true)⟩, 57407, 0⟩,
⟨17, ⟨(some 100), .r (.load (some 20) (.t 99)), some (88, true)⟩, 122943, 0⟩,
⟨18, ⟨(some 101), .r (.load (some 4) (.t 11)), some (88, true)⟩, 63, 0⟩,
⟨19, ⟨(some 102), .b (.call 171 [(.t 95), (.t 100), (.t 101)]), some (88, true)⟩, 524287, 0⟩,
⟨20, ⟨(some 103), .p (.pick (.t 88) (.t 102) (.c (.w (.s (.bool false))))), none⟩, 1048575, 0⟩]) (.cond (.t 103) (.reg [
⟨(some 104), .p (.mv (.t 0)), none⟩,
⟨(some 105), .p (.mv (.t 0)), none⟩,
⟨(some 106), .p (.nilCheck (.t 105)), none⟩,
⟨(some 107), .p (.faddr 0 (.t 106)), none⟩,
⟨(some 108), .r (.load none (.t 107)), none⟩,
⟨(some 109), .p (.nilCheck (.t 108)), none⟩,
⟨(some 110), .p (.faddr 1 (.t 109)), none⟩,
⟨(some 111), .p (.faddr 17 (.t 110)), none⟩,
⟨(some 112), .r (.load none (.t 111)), none⟩,
⟨(some 113), .b (.call 118 [(.t 104), (.t 112)]), none⟩]) (.reg [
⟨(some 114), .p (.mv (.t 0)), none⟩,
⟨(some 115), .p (.mv (.t 0)), none⟩,
⟨(some 116), .p (.nilCheck (.t 115)), none⟩,
⟨(some 117), .p (.faddr 0 (.t 116)), none⟩,
⟨(some 118), .r (.load none (.t 117)), none⟩,
⟨(some 119), .p (.nilCheck (.t 118)), none⟩,
⟨(some 120), .p (.faddr 1 (.t 119)), none⟩,
⟨(some 121), .p (.faddr 16 (.t 120)), none⟩,
⟨(some 122), .r (.load none (.t 121)), none⟩,
⟨(some 123), .b (.call 118 [(.t 114), (.t 122)]), none⟩]))) (.draw [
⟨0, ⟨(some 124), .p (.mv (.t 0)), none⟩, 0, 0⟩,
⟨1, ⟨(some 125), .p (.mv (.t 0)), none⟩, 0, 0⟩,
⟨2, ⟨(some 126), .p (.nilCheck (.t 125)), none⟩, 2, 0⟩,
⟨3, ⟨(some 127), .p (.faddr 0 (.t 126)), none⟩, 6, 0⟩,
⟨4, ⟨(some 128), .r (.load none (.t 127)), none⟩, 14, 0⟩,
⟨5, ⟨(some 129), .p (.nilCheck (.t 128)), none⟩, 30, 0⟩,
⟨6, ⟨(some 130), .p (.faddr 89 (.t 129)), none⟩, 62, 0⟩,
⟨7, ⟨(some 131), .r (.load none (.t 130)), none⟩, 126, 0⟩,
⟨8, ⟨(some 132), .p (.mv (.t 0)), none⟩, 0, 0⟩,
⟨9, ⟨(some 133), .p (.nilCheck (.t 132)), none⟩, 256, 0⟩,
⟨10, ⟨(some 134), .p (.faddr 1 (.t 133)), none⟩, 768, 0⟩,
⟨11, ⟨(some 135), .p (.faddr 20 (.t 134)), none⟩, 1792, 0⟩,
⟨12, ⟨(some 136), .r (.load (some 20) (.t 135)), none⟩, 3840, 0⟩,
⟨13, ⟨(some 137), .r (.load (some 4) (.t 11)), none⟩, 0, 0⟩,
⟨14, ⟨(some 138), .b (.call 34 [(.t 131), (.t 136), (.t 137)]), none⟩, 16382, 0⟩,
⟨15, ⟨(some 139), .b (.call 125 [(.t 124), (.t 138)]), none⟩, 32767, 0⟩]))) (.seq (.reg [
⟨(some 141), .b (.cmp 0 .int (.t 18) (.c (.w (.s (.int .i64 (.lit (.ofNat 85))))))), none⟩,
⟨(some 140), .p (.mv (.t 141)), none⟩]) (.cond (.t 140) (.seq (.reg [
⟨(some 142), .p (.mv (.t 0)), none⟩,
⟨(some 143), .b (.call 150 [(.t 142)]), none⟩,
⟨(some 12), .m (.alloc 24 [.int .u64 (.lit (.ofNat 0)), .int .u64 (.lit (.ofNat 0)), .int .u64 (.lit (.ofNat 0)), .int .u64 (.lit (.ofNat 0))]), none⟩,
⟨none, .b (.store 4 (.t 12) (.t 143)), none⟩]) (.draw [
⟨0, ⟨(some 144), .p (.mv (.t 0)), none⟩, 0, 0⟩,
⟨1, ⟨(some 145), .r (.load (some 4) (.t 12)), none⟩, 0, 0⟩,
⟨2, ⟨(some 146), .p (.mv (.t 0)), none⟩, 0, 0⟩,
⟨3, ⟨(some 147), .b (.call 150 [(.t 146)]), none⟩, 4, 0⟩,
⟨4, ⟨(some 148), .b (.call 172 [(.t 144), (.t 145), (.t 147)]), none⟩, 15, 0⟩])) (.seq (.reg [
⟨(some 150), .b (.cmp 0 .int (.t 18) (.c (.w (.s (.int .i64 (.lit (.ofNat 86))))))), none⟩,
⟨(some 149), .p (.mv (.t 150)), none⟩]) (.cond (.t 149) (.reg [
⟨(some 151), .p (.mv (.t 0)), none⟩,
⟨(some 152), .p (.mv (.t 0)), none⟩,
⟨(some 153), .b (.call 150 [(.t 152)]), none⟩,
⟨(some 154), .b (.call 173 [(.t 151), (.t 153)]), none⟩]) (.seq (.reg [
⟨(some 156), .b (.cmp 0 .int (.t 18) (.c (.w (.s (.int .i64 (.lit (.ofNat 87))))))), none⟩,
⟨(some 155), .p (.mv (.t 156)), none⟩]) (.cond (.t 155) (.seq (.reg [
⟨(some 157), .p (.mv (.t 0)), none⟩,
⟨(some 158), .b (.call 150 [(.t 157)]), none⟩,
⟨(some 13), .m (.alloc 24 [.int .u64 (.lit (.ofNat 0)), .int .u64 (.lit (.ofNat 0)), .int .u64 (.lit (.ofNat 0)), .int .u64 (.lit (.ofNat 0))]), none⟩,
⟨none, .b (.store 4 (.t 13) (.t 158)), none⟩]) (.seq (.reg [
⟨(some 159), .p (.mv (.t 0)), none⟩,
⟨(some 160), .b (.call 150 [(.t 159)]), none⟩,
⟨(some 161), .p (.build [.int .u64 (.lit (.ofNat 0)), .int .u64 (.lit (.ofNat 0)), .int .u64 (.lit (.ofNat 0)), .int .u64 (.lit (.ofNat 0))] []), none⟩,
⟨(some 162), .b (.cmp 1 (.agg (.one (.arr 4 22 .u64))) (.t 160) (.t 161)), none⟩]) (.cond (.t 162) (.reg [
⟨(some 163), .p (.mv (.t 0)), none⟩,
⟨(some 164), .r (.load (some 4) (.t 13)), none⟩,
⟨(some 165), .b (.call 173 [(.t 163), (.t 164)]), none⟩]) (.skip)))) (.seq (.reg [
⟨(some 167), .b (.cmp 0 .int (.t 18) (.c (.w (.s (.int .i64 (.lit (.ofNat 88))))))), none⟩,
⟨(some 166), .p (.mv (.t 167)), none⟩]) (.cond (.t 166) (.reg [
⟨(some 168), .p (.mv (.t 0)), none⟩,
⟨(some 169), .p (.mv (.t 0)), none⟩,
⟨(some 170), .p (.nilCheck (.t 169)), none⟩,
⟨(some 171), .p (.faddr 73 (.t 170)), none⟩,
⟨(some 172), .r (.load none (.t 171)), none⟩,
⟨(some 173), .p (.ar 1 (.t 172) (.c (.w (.s (.int .i64 (.lit (.ofNat 1))))))), none⟩,
⟨(some 174), .b (.call 167 [(.t 173)]), none⟩,
⟨(some 175), .b (.call 125 [(.t 168), (.t 174)]), none⟩]) (.seq (.reg [
⟨(some 177), .b (.cmp 0 .int (.t 18) (.c (.w (.s (.int .i64 (.lit (.ofNat 89))))))), none⟩,
⟨(some 176), .p (.mv (.t 177)), none⟩]) (.cond (.t 176) (.reg [
⟨(some 178), .p (.mv (.t 0)), none⟩,
⟨(some 179), .p (.mv (.t 0)), none⟩,
⟨(some 180), .p (.nilCheck (.t 179)), none⟩,
⟨(some 181), .p (.faddr 71 (.t 180)), none⟩,
⟨(some 182), .r (.load none (.t 181)), none⟩,
⟨(some 183), .p (.len (.t 182)), none⟩,
⟨(some 184), .b (.call 167 [(.t 183)]), none⟩,
⟨(some 185), .b (.call 125 [(.t 178), (.t 184)]), none⟩]) (.seq (.reg [
⟨(some 187), .b (.cmp 0 .int (.t 18) (.c (.w (.s (.int .i64 (.lit (.ofNat 90))))))), none⟩,
⟨(some 186), .p (.mv (.t 187)), none⟩]) (.cond (.t 186) (.reg [
⟨(some 188), .p (.mv (.t 0)), none⟩,
⟨(some 189), .p (.mv (.t 0)), none⟩,
⟨(some 190), .p (.nilCheck (.t 189)), none⟩,
⟨(some 191), .p (.faddr 1 (.t 190)), none⟩,
⟨(some 192), .p (.faddr 65 (.t 191)), none⟩,
⟨(some 193), .r (.load none (.t 192)), none⟩,
⟨(some 194), .b (.call 30 [(.t 193)]), none⟩,
⟨(some 195), .b (.call 125 [(.t 188), (.t 194)]), none⟩]) (.seq (.reg [
⟨(some 197), .b (.cmp 0 .int (.t 18) (.c (.w (.s (.int .i64 (.lit (.ofNat 92))))))), none⟩,
⟨(some 196), .p (.mv (.t 197)), none⟩]) (.cond (.t 196) (.draw [
⟨0, ⟨(some 198), .p (.mv (.t 0)), none⟩, 0, 0⟩,
⟨1, ⟨(some 199), .p (.mv (.t 0)), none⟩, 0, 0⟩,
⟨2, ⟨(some 200), .p (.nilCheck (.t 199)), none⟩, 2, 0⟩,
⟨3, ⟨(some 201), .p (.faddr 0 (.t 200)), none⟩, 6, 0⟩,
⟨4, ⟨(some 202), .r (.load none (.t 201)), none⟩, 14, 0⟩,
⟨5, ⟨(some 203), .p (.nilCheck (.t 202)), none⟩, 30, 0⟩,
⟨6, ⟨(some 204), .p (.faddr 89 (.t 203)), none⟩, 62, 0⟩,
⟨7, ⟨(some 205), .r (.load none (.t 204)), none⟩, 126, 0⟩,
⟨8, ⟨(some 206), .p (.mv (.t 0)), none⟩, 0, 0⟩,
⟨9, ⟨(some 207), .p (.nilCheck (.t 206)), none⟩, 256, 0⟩,
⟨10, ⟨(some 208), .p (.faddr 1 (.t 207)), none⟩, 768, 0⟩,
⟨11, ⟨(some 209), .p (.faddr 20 (.t 208)), none⟩, 1792, 0⟩,
⟨12, ⟨(some 210), .r (.load (some 20) (.t 209)), none⟩, 3840, 0⟩,
⟨13, ⟨(some 211), .p (.mv (.t 0)), none⟩, 0, 0⟩,
⟨14, ⟨(some 212), .b (.call 150 [(.t 211)]), none⟩, 8192, 0⟩,
⟨15, ⟨(some 213), .b (.call 27 [(.t 205), (.t 210), (.t 212)]), none⟩, 32766, 0⟩,
⟨16, ⟨(some 214), .b (.call 125 [(.t 198), (.t 213)]), none⟩, 65535, 0⟩]) (.seq (.reg [
⟨(some 216), .b (.cmp 0 .int (.t 18) (.c (.w (.s (.int .i64 (.lit (.ofNat 93))))))), none⟩,
⟨(some 215), .p (.mv (.t 216)), none⟩]) (.cond (.t 215) (.seq (.reg [
⟨(some 217), .p (.mv (.t 0)), none⟩,
⟨(some 218), .b (.call 150 [(.t 217)]), none⟩,
⟨(some 14), .m (.alloc 24 [.int .u64 (.lit (.ofNat 0)), .int .u64 (.lit (.ofNat 0)), .int .u64 (.lit (.ofNat 0)), .int .u64 (.lit (.ofNat 0))]), none⟩,
⟨none, .b (.store 4 (.t 14) (.t 218)), none⟩]) (.draw [
⟨0, ⟨(some 219), .p (.mv (.t 0)), none⟩, 0, 0⟩,
⟨1, ⟨(some 220), .p (.nilCheck (.t 219)), none⟩, 1, 0⟩,
⟨2, ⟨(some 221), .p (.faddr 0 (.t 220)), none⟩, 3, 0⟩,
⟨3, ⟨(some 222), .r (.load none (.t 221)), none⟩, 7, 0⟩,
⟨4, ⟨(some 223), .p (.nilCheck (.t 222)), none⟩, 15, 0⟩,
⟨5, ⟨(some 224), .p (.faddr 89 (.t 223)), none⟩, 31, 0⟩,
⟨6, ⟨(some 225), .r (.load none (.t 224)), none⟩, 63, 0⟩,
⟨7, ⟨(some 226), .p (.mv (.t 0)), none⟩, 0, 0⟩,
⟨8, ⟨(some 227), .p (.nilCheck (.t 226)), none⟩, 128, 0⟩,
⟨9, ⟨(some 228), .p (.faddr 1 (.t 227)), none⟩, 384, 0⟩,
⟨10, ⟨(some 229), .p (.faddr 20 (.t 228)), none⟩, 896, 0⟩,
⟨11, ⟨(some 230), .r (.load (some 20) (.t 229)), none⟩, 1920, 0⟩,
⟨12, ⟨(some 231), .r (.load (some 4) (.t 14)), none⟩, 0, 0⟩,
⟨13, ⟨(some 232), .p (.mv (.t 0)), none⟩, 0, 0⟩,
⟨14, ⟨(some 233), .b (.call 150 [(.t 232)]), none⟩, 8192, 0⟩,
⟨15, ⟨(some 234), .b (.call 174 [(.t 225), (.t 230), (.t 231), (.t 233)]), none⟩, 32767, 0⟩])) (.seq (.reg [
⟨(some 236), .b (.cmp 0 .int (.t 18) (.c (.w (.s (.int .i64 (.lit (.ofNat 94))))))), none⟩,
⟨(some 235), .p (.mv (.t 236)), none⟩]) (.cond (.t 235) (.seq (.reg [
⟨(some 237), .p (.mv (.t 0)), none⟩,
⟨(some 238), .b (.call 150 [(.t 237)]), none⟩,
⟨(some 239), .p (.mv (.t 0)), none⟩,
⟨(some 240), .b (.call 150 [(.t 239)]), none⟩,
⟨(some 15), .m (.alloc 24 [.int .u64 (.lit (.ofNat 0)), .int .u64 (.lit (.ofNat 0)), .int .u64 (.lit (.ofNat 0)), .int .u64 (.lit (.ofNat 0))]), none⟩,
⟨(some 16), .m (.alloc 24 [.int .u64 (.lit (.ofNat 0)), .int .u64 (.lit (.ofNat 0)), .int .u64 (.lit (.ofNat 0)), .int .u64 (.lit (.ofNat 0))]), none⟩,
⟨none, .b (.store 4 (.t 15) (.t 238)), none⟩,
⟨none, .b (.store 4 (.t 16) (.t 240)), none⟩]) (.seq (.reg [
⟨(some 241), .p (.mv (.t 0)), none⟩,
⟨(some 242), .b (.call 150 [(.t 241)]), none⟩,
⟨(some 17), .m (.alloc 24 [.int .u64 (.lit (.ofNat 0)), .int .u64 (.lit (.ofNat 0)), .int .u64 (.lit (.ofNat 0)), .int .u64 (.lit (.ofNat 0))]), none⟩,
⟨none, .b (.store 4 (.t 17) (.t 242)), none⟩]) (.seq (.reg [
⟨(some 243), .p (.mv (.t 0)), none⟩,
⟨(some 244), .r (.load (some 4) (.t 17)), none⟩,
⟨(some 245), .b (.call 159 [(.t 244), (.c (.w (.s (.int .u64 (.lit (.ofNat 3))))))]), none⟩,
⟨(some 246), .p (.ext (.t 245) 0), none⟩,
⟨(some 247), .p (.ext (.t 245) 1), none⟩,
⟨(some 248), .b (.call 158 [(.t 243), (.t 246), (.t 247)]), none⟩]) (.seq (.reg [
⟨(some 249), .p (.mv (.t 0)), none⟩,
⟨(some 250), .r (.load (some 4) (.t 15)), none⟩,
⟨(some 251), .r (.load (some 4) (.t 17)), none⟩,
⟨(some 252), .p (.build [.int .u64 (.lit (.ofNat 0)), .int .u64 (.lit (.ofNat 0)), .int .u64 (.lit (.ofNat 0)), .int .u64 (.lit (.ofNat 0)), .int .u64 (.lit (.ofNat 0)), .int .u64 (.lit (.ofNat 0)), .int .u64 (.lit (.ofNat 0)), .int .u64 (.lit (.ofNat 0))] [(0, 4, (.t 250)), (4, 4, (.t 251))]), none⟩,
⟨(some 253), .r (.load (some 4) (.t 16)), none⟩,
⟨(some 254), .r (.load (some 4) (.t 17)), none⟩,
⟨(some 255), .p (.build [.int .u64 (.lit (.ofNat 0)), .int .u64 (.lit (.ofNat 0)), .int .u64 (.lit (.ofNat 0)), .int .u64 (.lit (.ofNat 0)), .int .u64 (.lit (.ofNat 0)), .int .u64 (.lit (.ofNat 0)), .int .u64 (.lit (.ofNat 0)), .int .u64 (.lit (.ofNat 0))] [(0, 4, (.t 253)), (4, 4, (.t 254))]), none⟩,
⟨(some 256), .m (.bslice 226 2 [.int .u64 (.lit (.ofNat 0)), .int .u64 (.lit (.ofNat 0)), .int .u64 (.lit (.ofNat 0)), .int .u64 (.lit (.ofNat 0)), .int .u64 (.lit (.ofNat 0)), .int .u64 (.lit (.ofNat 0)), .int .u64 (.lit (.ofNat 0)), .int .u64 (.lit (.ofNat 0))] [(0, 8, (.t 252)), (8, 8, (.t 255))]), none⟩,
⟨(some 257), .b (.call 160 [(.t 249), (.t 256)]), none⟩]) (.draw [
⟨0, ⟨(some 258), .p (.mv (.t 0)), none⟩, 0, 0⟩,
⟨1, ⟨(some 259), .r (.load (some 4) (.t 15)), none⟩, 0, 0⟩,
⟨2, ⟨(some 260), .r (.load (some 4) (.t 17)), none⟩, 0, 0⟩,
⟨3, ⟨(some 261), .p (.build [.int .u64 (.lit (.ofNat 0)), .int .u64 (.lit (.ofNat 0)), .int .u64 (.lit (.ofNat 0)), .int .u64 (.lit (.ofNat 0)), .int .u64 (.lit (.ofNat 0)), .int .u64 (.lit (.ofNat 0)), .int .u64 (.lit (.ofNat 0)), .int .u64 (.lit (.ofNat 0))] [(0, 4, (.t 259)), (4, 4, (.t 260))]), none⟩, 6, 0⟩,
⟨5, ⟨(some 263), .p (.mv (.t 0)), none⟩, 0, 0⟩,
⟨6, ⟨(some 264), .r (.load (some 4) (.t 16)), none⟩, 0, 0⟩,
⟨7, ⟨(some 265), .r (.load (some 4) (.t 17)), none⟩, 0, 0⟩,
⟨8, ⟨(some 266), .p (.build [.int .u64 (.lit (.ofNat 0)), .int .u64 (.lit (.ofNat 0)), .int .u64 (.lit (.ofNat 0)), .int .u64 (.lit (.ofNat 0)), .int .u64 (.lit (.ofNat 0)), .int .u64 (.lit (.ofNat 0)), .int .u64 (.lit (.ofNat 0)), .int .u64 (.lit (.ofNat 0))] [(0, 4, (.t 264)), (4, 4, (.t 265))]), none⟩, 192, 0⟩,
⟨4, ⟨(some 262), .b (.call 162 [(.t 258), (.t 261)]), none⟩, 15, 0⟩,
⟨9, ⟨(some 267), .b (.call 162 [(.t 263), (.t 266)]), none⟩, 511, 0⟩,
⟨10, ⟨(some 268), .b (.copy 1 (.t 262) (.t 267)), none⟩, 1023, 0⟩]))))) (.skip))))))))))))))))))))))))))))))⟩
theorem fo123 : ∃ func code hint, FnOk Go.Proofs.Tryz.prog TT 123 fa123 func code hint := ⟨Go.Proofs.Tryz.f123, bodyOf Go.Proofs.Tryz.f123, hintL [(12, [(0, 0), (1, 0), (3, 0), (2, 0), (4, 0)]), (17, [(0, 0), (1, 0), (3, 0), (2, 0), (4, 0)]), (20, [(0, 0), (1, 0), (2, 0), (3, 0), (4, 0), (5, 0), (6, 0), (7, 0), (8, 0), (9, 0), (10, 0), (11, 0), (12, 0), (13, 0), (14, 0), (15, 0), (16, 0), (17, 0), (18, 0), (19, 0), (20, 0)]), (23, [(0, 0), (1, 0), (2, 0), (3, 0), (4, 0), (5, 0), (6, 0), (7, 0), (8, 0), (9, 0), (10, 0), (11, 0), (12, 0), (13, 0), (14, 0), (15, 0)]), (26, [(0, 0), (1, 0), (2, 0), (3, 0), (4, 0)]), (40, [(0, 0), (1, 0), (2, 0), (3, 0), (4, 0), (5, 0), (6, 0), (7, 0), (8, 0), (9, 0), (10, 0), (11, 0), (12, 0), (13, 0), (14, 0), (15, 0), (16, 0)]), (43, [(0, 0), (1, 0), (2, 0), (3, 0), (4, 0), (5, 0), (6, 0), (7, 0), (8, 0), (9, 0), (10, 0), (11, 0), (12, 0), (13, 0), (14, 0), (15, 0)]), (49, [(0, 0), (1, 0), (2, 0), (3, 0), (5, 0), (6, 0), (7, 0), (8, 0), (4, 0), (9, 0), (10, 0)])], ⟨Go.Proofs.Tryz.func123, Go.Proofs.Tryz.call123, by kernel_rfl, by kernel_rfl, by kernel_rfl, by kernel_rfl⟩⟩
/- (*quarry/vm.frame).pushes -/
def fa124 : AFunc := ⟨32, [], .seq (.draw [
⟨0, ⟨(some 7), .p (.mv (.t 0)), none⟩, 0, 0⟩,
⟨1, ⟨(some 8), .p (.nilCheck (.t 7)), none⟩, 1, 0⟩,
⟨2, ⟨(some 9), .p (.faddr 69 (.t 8)), none⟩, 3, 0⟩,
⟨3, ⟨(some 10), .r (.load none (.t 9)), none⟩, 7, 0⟩,
⟨4, ⟨(some 11), .p (.mv (.t 0)), none⟩, 0, 0⟩,
⟨5, ⟨(some 12), .p (.nilCheck (.t 11)), none⟩, 16, 0⟩,
⟨6, ⟨(some 13), .p (.faddr 73 (.t 12)), none⟩, 48, 0⟩,
⟨7, ⟨(some 14), .r (.load none (.t 13)), none⟩, 112, 0⟩,
⟨9, ⟨(some 16), .p (.mv (.t 1)), none⟩, 0, 0⟩,
⟨15, ⟨(some 4), .m (.alloc 24 [.int .u64 (.lit (.ofNat 0)), .int .u64 (.lit (.ofNat 0)), .int .u64 (.lit (.ofNat 0)), .int .u64 (.lit (.ofNat 0))]), none⟩, 0, 3072⟩,
⟨8, ⟨(some 15), .b (.call 167 [(.t 14)]), none⟩, 240, 0⟩,
⟨10, ⟨(some 17), .b (.call 166 [(.t 10), (.t 15), (.t 16)]), none⟩, 1023, 0⟩,
⟨11, ⟨(some 18), .b (.call 21 [(.t 17)]), none⟩, 2047, 0⟩,
⟨12, ⟨(some 6), .p (.mv (.t 18)), none⟩, 4095, 0⟩,
⟨13, ⟨(some 19), .p (.ext (.t 6) 0), none⟩, 8191, 0⟩,
⟨14, ⟨(some 20), .p (.ext (.t 6) 1), none⟩, 8191, 0⟩,
⟨16, ⟨none, .b (.store 4 (.t 4) (.t 19)), none⟩, 49151, 0⟩,
⟨17, ⟨(some 5), .p (.mv (.t 20)), none⟩, 131071, 0⟩]) (.seq (.reg [
⟨(some 21), .p (.mv (.t 0)), none⟩,
⟨(some 22), .r (.load (some 4) (.t 4)), none⟩,
⟨(some 23), .b (.call 125 [(.t 21), (.t 22)]), none⟩]) (.reg [
⟨(some 24), .p (.mv (.t 0)), none⟩,
⟨(some 25), .p (.nilCheck (.t 24)), none⟩,
⟨(some 26), .p (.faddr 73 (.t 25)), none⟩,
⟨(some 27), .r (.load none (.t 26)), none⟩,
⟨(some 28), .p (.mv (.t 1)), none⟩,
⟨(some 29), .p (.ar 0 (.t 27) (.t 28)), none⟩,
⟨(some 30), .p (.nilCheck (.t 24)), none⟩,
⟨(some 31), .p (.faddr 73 (.t 30)), none⟩,
⟨none, .b (.store 1 (.t 31) (.t 29)), none⟩]))⟩
theorem fo124 : ∃ func code hint, FnOk Go.Proofs.Tryz.prog TT 124 fa124 func code hint := ⟨Go.Proofs.Tryz.f124, bodyOf Go.Proofs.Tryz.f124, hintL [(0, [(0, 0), (1, 0), (2, 0), (3, 0), (4, 0), (5, 0), (6, 0), (7, 0), (9, 0), (15, 3072), (8, 0), (10, 0), (11, 0), (12, 0), (13, 0), (14, 0), (16, 0), (17, 0)])], ⟨Go.Proofs.Tryz.func124, Go.Proofs.Tryz.call124, by kernel_rfl, by kernel_rfl, by kernel_rfl, by kernel_rfl⟩⟩
/- (*quarry/vm.frame).push -/
def fa125 : AFunc := ⟨14, [], .seq (.reg [
⟨(some 3), .m (.box 24 (.t 1)), none⟩]) (.draw [
⟨0, ⟨(some 4), .p (.mv (.t 0)), none⟩, 0, 0⟩,
⟨1, ⟨(some 5), .p (.mv (.t 0)), none⟩, 0, 0⟩,
⟨2, ⟨(some 6), .p (.nilCheck (.t 5)), none⟩, 2, 0⟩,
⟨3, ⟨(some 7), .p (.faddr 70 (.t 6)), none⟩, 6, 0⟩,
⟨4, ⟨(some 8), .r (.load none (.t 7)), none⟩, 14, 0⟩,
⟨5, ⟨(some 9), .r (.load (some 4) (.t 3)), none⟩, 0, 0⟩,
⟨6, ⟨(some 10), .m (.bslice 24 1 [.int .u64 (.lit (.ofNat 0)), .int .u64 (.lit (.ofNat 0)), .int .u64 (.lit (.ofNat 0)), .int .u64 (.lit (.ofNat 0))] [(0, 4, (.t 9))]), none⟩, 32, 0⟩,
⟨7, ⟨(some 11), .b (.append 24 4 32 (.t 8) (.t 10)), none⟩, 126, 0⟩,
⟨8, ⟨(some 12), .p (.nilCheck (.t 4)), none⟩, 255, 0⟩,
⟨9, ⟨(some 13), .p (.faddr 70 (.t 12)), none⟩, 511, 0⟩,
⟨10, ⟨none, .b (.store 1 (.t 13) (.t 11)), none⟩, 1023, 0⟩])⟩
theorem fo125 : ∃ func code hint, FnOk Go.Proofs.Tryz.prog TT 125 fa125 func code hint := ⟨Go.Proofs.Tryz.f125, bodyOf Go.Proofs.Tryz.f125, hintL [(1, [(0, 0), (1, 0), (2, 0), (3, 0), (4, 0), (5, 0), (6, 0), (7, 0), (8, 0), (9, 0), (10, 0)])], ⟨Go.Proofs.Tryz.func125, Go.Proofs.Tryz.call125, by kernel_rfl, by kernel_rfl, by kernel_rfl, by kernel_rfl⟩⟩
/- (*quarry/vm.frame).messages -/
def fa127 : AFunc := ⟨39, [], .seq (.reg [
⟨(some 6), .p (.mv (.t 1)), none⟩]) (.block 0 (.seq (.seq (.reg [
⟨(some 11), .b (.cmp 0 .int (.t 6) (.c (.w (.s (.int .i64 (.lit (.ofNat 240))))))), none⟩,
⟨(some 10), .p (.mv (.t 11)), none⟩]) (.cond (.t 10) (.skip) (.reg [
⟨(some 12), .b (.cmp 0 .int (.t 6) (.c (.w (.s (.int .i64 (.lit (.ofNat 245))))))), none⟩,
⟨(some 10), .p (.mv (.t 12)), none⟩]))) (.cond (.t 10) (.reg [
⟨(some 13), .p (.mv (.t 0)), none⟩,
⟨(some 14), .p (.mv (.t 1)), none⟩,
⟨(some 15), .b (.call 177 [(.t 13), (.t 14)]), none⟩]) (.seq (.seq (.reg [
⟨(some 17), .b (.cmp 0 .int (.t 6) (.c (.w (.s (.int .i64 (.lit (.ofNat 243))))))), none⟩,
⟨(some 16), .p (.mv (.t 17)), none⟩]) (.cond (.t 16) (.skip) (.reg [
⟨(some 18), .b (.cmp 0 .int (.t 6) (.c (.w (.s (.int .i64 (.lit (.ofNat 253))))))), none⟩,
⟨(some 16), .p (.mv (.t 18)), none⟩]))) (.cond (.t 16) (.seq (.reg [
⟨(some 19), .p (.mv (.t 0)), none⟩,
⟨(some 20), .b (.call 157 [(.t 19)]), none⟩,
⟨(some 4), .m (.alloc 226 [.int .u64 (.lit (.ofNat 0)), .int .u64 (.lit (.ofNat 0)), .int .u64 (.lit (.ofNat 0)), .int .u64 (.lit (.ofNat 0)), .int .u64 (.lit (.ofNat 0)), .int .u64 (.lit (.ofNat 0)), .int .u64 (.lit (.ofNat 0)), .int .u64 (.lit (.ofNat 0))]), none⟩,
⟨none, .b (.store 8 (.t 4) (.t 20)), none⟩]) (.seq (.reg [
⟨(some 21), .p (.mv (.t 0)), none⟩,
⟨(some 22), .r (.load (some 8) (.t 4)), none⟩,
⟨(some 23), .m (.bslice 226 1 [.int .u64 (.lit (.ofNat 0)), .int .u64 (.lit (.ofNat 0)), .int .u64 (.lit (.ofNat 0)), .int .u64 (.lit (.ofNat 0)), .int .u64 (.lit (.ofNat 0)), .int .u64 (.lit (.ofNat 0)), .int .u64 (.lit (.ofNat 0)), .int .u64 (.lit (.ofNat 0))] [(0, 8, (.t 22))]), none⟩,
⟨(some 24), .b (.call 160 [(.t 21), (.t 23)]), none⟩]) (.seq (.reg [
⟨(some 5), .p (.mv (.c (.w (.s (.int .i64 (.lit (.ofNat 0))))))), none⟩]) (.seq (.seq (.reg [
⟨(some 25), .p (.mv (.t 1)), none⟩,
⟨(some 26), .b (.cmp 0 .int (.t 25) (.c (.w (.s (.int .i64 (.lit (.ofNat 253))))))), none⟩]) (.cond (.t 26) (.reg [
⟨(some 5), .p (.mv (.c (.w (.s (.int .i64 (.lit (.ofNat 1))))))), none⟩]) (.skip))) (.reg [
⟨(some 27), .p (.mv (.t 0)), none⟩,
⟨(some 28), .p (.mv (.t 5)), none⟩,
⟨(some 29), .p (.mv (.t 0)), none⟩,
⟨(some 30), .r (.load (some 8) (.t 4)), none⟩,
⟨(some 31), .b (.call 162 [(.t 29), (.t 30)]), none⟩,
⟨(some 32), .b (.call 149 [(.t 27), (.t 28), (.t 31)]), none⟩]))))) (.seq (.reg [
⟨(some 34), .b (.cmp 0 .int (.t 6) (.c (.w (.s (.int .i64 (.lit (.ofNat 255))))))), none⟩,
⟨(some 33), .p (.mv (.t 34)), none⟩]) (.cond (.t 33) (.reg [
⟨(some 35), .p (.mv (.t 0)), none⟩,
⟨(some 36), .p (.mv (.t 0)), none⟩,
⟨(some 37), .b (.call 164 [(.t 36)]), none⟩,
⟨(some 38), .b (.call 178 [(.t 35), (.t 37)]), none⟩]) (.reg [
⟨(some 7), .p (.mv (.t 0)), none⟩,
⟨(some 8), .p (.mv (.t 1)), none⟩,
⟨(some 9), .b (.call 179 [(.t 7), (.t 8)]), none⟩]))))))))⟩
theorem fo127 : ∃ func code hint, FnOk Go.Proofs.Tryz.prog TT 127 fa127 func code hint := ⟨Go.Proofs.Tryz.f127, bodyOf Go.Proofs.Tryz.f127, hintL [], ⟨Go.Proofs.Tryz.func127, Go.Proofs.Tryz.call127, by kernel_rfl, by kernel_rfl, by kernel_rfl, by kernel_rfl⟩⟩
/- quarry/word.Short -/
def fa132 : AFunc := ⟨15, [.tmp 2], .seq (.reg [
⟨(some 1), .m (.box 24 (.t 0)), none⟩,
⟨(some 2), .p (.mv (.c (.w (.s (.nils))))), none⟩]) (.seq (.reg [
⟨(some 5), .r (.load (some 4) (.t 1)), none⟩,
⟨(some 6), .b (.call 24 [(.t 5)]), none⟩,
⟨(some 3), .m (.alloc 54 (lrep (.int .u8 (.lit (.ofNat 0))) 32)), none⟩,
⟨none, .b (.store 32 (.t 3) (.t 6)), none⟩]) (.seq (.reg [
⟨(some 7), .r (.load (some 4) (.t 1)), none⟩,
⟨(some 8), .b (.call 182 [(.t 7)]), none⟩,
⟨(some 9), .p (.ar 0 (.t 8) (.c (.w (.s (.int .i64 (.lit (.ofNat 7))))))), none⟩,
⟨(some 10), .p (.dv (.t 9) (.c (.w (.s (.int .i64 (.lit (.ofNat 8))))))), none⟩,
⟨(some 4), .p (.mv (.t 10)), none⟩]) (.seq (.reg [
⟨(some 11), .p (.mv (.t 4)), none⟩,
⟨(some 12), .p (.ar 1 (.c (.w (.s (.int .i64 (.lit (.ofNat 32)))))) (.t 11)), none⟩,
⟨(some 13), .p (.aslice 32 1 (.t 3) (some (.t 12)) none), none⟩,
⟨(some 14), .b (.append 5 1 1 (.c (.w (.s (.nils)))) (.t 13)), none⟩,
⟨(some 2), .p (.mv (.t 14)), none⟩]) (.ret))))⟩
theorem fo132 : ∃ func code hint, FnOk Go.Proofs.Tryz.prog TT 132 fa132 func code hint := ⟨Go.Proofs.Tryz.f132, bodyOf Go.Proofs.Tryz.f132, hintL [], ⟨Go.Proofs.Tryz.func132, Go.Proofs.Tryz.call132, by kernel_rfl, by kernel_rfl, by kernel_rfl, by kernel_rfl⟩⟩
/- quarry/pre.Run -/
def fa133 : AFunc := ⟨47, [.tmp 8, .tmp 9, .tmp 10], .seq (.reg [
⟨(some 8), .p (.mv (.c (.w (.s (.nils))))), none⟩,
⟨(some 9), .p (.mv (.c (.w (.s (.int .u64 (.lit (.ofNat 0))))))), none⟩,
⟨(some 10), .p (.mv (.c (.w (.s (.bool false))))), none⟩]) (.seq (.reg [
⟨(some 15), .p (.mv (.t 0)), none⟩,
⟨(some 16), .p (.mv (.t 1)), none⟩,
⟨(some 17), .p (.mv (.t 2)), none⟩,
⟨(some 18), .b (.call 183 [(.t 15), (.t 16), (.t 17)]), none⟩,
⟨(some 14), .p (.mv (.t 18)), none⟩,
⟨(some 19), .p (.ext (.t 14) 0), none⟩,
⟨(some 20), .p (.ext (.t 14) 1), none⟩,
⟨(some 11), .p (.mv (.t 19)), none⟩,
⟨(some 12), .p (.mv (.t 20)), none⟩]) (.seq (.seq (.reg [
⟨(some 21), .p (.mv (.t 12)), none⟩,
⟨(some 22), .b (.cmp 1 .int (.t 21) (.c (.w (.s (.int .i64 (.lit (.ofNat 0))))))), none⟩,
⟨(some 23), .p (.mv (.t 22)), none⟩,
⟨(some 24), .p (.mv (.t 11)), some (23, false)⟩,
⟨(some 25), .p (.mv (.t 3)), some (23, false)⟩,
⟨(some 26), .b (.cmp 4 .int (.t 24) (.t 25)), some (23, false)⟩,
⟨(some 27), .p (.pick (.t 23) (.c (.w (.s (.bool true)))) (.t 26)), none⟩,
⟨(some 28), .p (.mv (.t 27)), none⟩,
⟨(some 29), .p (.mv (.t 11)), some (28, false)⟩,
⟨(some 30), .b (.cmp 0 .int (.t 29) (.c (.w (.s (.int .u64 (.lit (.ofNat 18446744073709551615))))))), some (28, false)⟩,
⟨(some 31), .p (.pick (.t 28) (.c (.w (.s (.bool true)))) (.t 30)), none⟩]) (.cond (.t 31) (.seq (.reg [
⟨(some 8), .p (.mv (.c (.w (.s (.nils))))), none⟩,
⟨(some 9), .p (.mv (.c (.w (.s (.int .u64 (.lit (.ofNat 0))))))), none⟩,
⟨(some 10), .p (.mv (.c (.w (.s (.bool false))))), none⟩]) (.ret)) (.skip))) (.seq (.reg [
⟨(some 32), .p (.build (lrep (.nilfn) 11) [(1, 1, (.c (.w (.s (.fn 184 []))))), (2, 1, (.c (.w (.s (.fn 185 []))))), (3, 1, (.c (.w (.s (.fn 186 []))))), (4, 1, (.c (.w (.s (.fn 187 []))))), (5, 1, (.c (.w (.s (.fn 188 []))))), (6, 1, (.c (.w (.s (.fn 189 []))))), (7, 1, (.c (.w (.s (.fn 190 []))))), (8, 1, (.c (.w (.s (.fn 191 []))))), (9, 1, (.c (.w (.s (.fn 192 []))))), (10, 1, (.c (.w (.s (.fn 193 [])))))]), none⟩,
⟨(some 13), .m (.alloc 248 (lrep (.nilfn) 11)), none⟩,
⟨none, .b (.store 11 (.t 13) (.t 32)), none⟩]) (.seq (.seq (.reg [
⟨(some 34), .p (.mv (.t 1)), none⟩,
⟨(some 35), .p (.iaddrA 11 1 (.t 13) (.t 34)), none⟩,
⟨(some 36), .r (.load none (.t 35)), none⟩,
⟨(some 37), .p (.mv (.t 2)), none⟩,
⟨(some 38), .b (.callv (.t 36) [(.t 37)]), none⟩,
⟨(some 33), .p (.mv (.t 38)), none⟩,
⟨(some 39), .p (.ext (.t 33) 0), none⟩,
⟨(some 40), .p (.ext (.t 33) 1), none⟩,
⟨(some 8), .p (.mv (.t 39)), none⟩,
⟨(some 10), .p (.mv (.t 40)), none⟩]) (.seq (.reg [
⟨(some 41), .p (.mv (.t 10)), none⟩,
⟨(some 42), .p (.not (.t 41)), none⟩]) (.cond (.t 42) (.seq (.reg [
⟨(some 8), .p (.mv (.c (.w (.s (.nils))))), none⟩,
⟨(some 9), .p (.mv (.c (.w (.s (.int .u64 (.lit (.ofNat 0))))))), none⟩,
⟨(some 10), .p (.mv (.c (.w (.s (.bool false))))), none⟩]) (.ret)) (.skip)))) (.seq (.reg [
⟨(some 43), .p (.mv (.t 8)), none⟩,
⟨(some 44), .p (.mv (.t 3)), none⟩,
⟨(some 45), .p (.mv (.t 11)), none⟩,
⟨(some 46), .p (.ar 1 (.t 44) (.t 45)), none⟩,
⟨(some 8), .p (.mv (.t 43)), none⟩,
⟨(some 9), .p (.mv (.t 46)), none⟩,
⟨(some 10), .p (.mv (.c (.w (.s (.bool true))))), none⟩]) (.ret))))))⟩
theorem fo133 : ∃ func code hint, FnOk Go.Proofs.Tryz.prog TT 133 fa133 func code hint := ⟨Go.Proofs.Tryz.f133, bodyOf Go.Proofs.Tryz.f133, hintL [], ⟨Go.Proofs.Tryz.func133, Go.Proofs.Tryz.call133, by kernel_rfl, by kernel_rfl, by kernel_rfl, by kernel_rfl⟩⟩
/- quarry/vm.fail -/
def fa135 : AFunc := ⟨2, [], .reg [
⟨(some 0), .p (.build [] []), none⟩,
⟨(some 1), .p (.mkiface 186 (.t 0)), none⟩,
⟨none, .b (.panic (.t 1)), none⟩]⟩
theorem fo135 : ∃ func code hint, FnOk Go.Proofs.Tryz.prog TT 135 fa135 func code hint := ⟨Go.Proofs.Tryz.f135, bodyOf Go.Proofs.Tryz.f135, hintL [], ⟨Go.Proofs.Tryz.func135, Go.Proofs.Tryz.call135, by kernel_rfl, by kernel_rfl, by kernel_rfl, by kernel_rfl⟩⟩
/- quarry/word.Shr -/
def fa147 : AFunc := ⟨56, [.cell 4 (some 4)], .seq (.reg [
⟨(some 2), .m (.box 24 (.t 0)), none⟩,
⟨(some 3), .m (.box 24 (.t 1)), none⟩,
⟨(some 4), .m (.alloc 24 [.int .u64 (.lit (.ofNat 0)), .int .u64 (.lit (.ofNat 0)), .int .u64 (.lit (.ofNat 0)), .int .u64 (.lit (.ofNat 0))]), none⟩]) (.seq (.reg [
⟨(some 5), .m (.alloc 24 [.int .u64 (.lit (.ofNat 0)), .int .u64 (.lit (.ofNat 0)), .int .u64 (.lit (.ofNat 0)), .int .u64 (.lit (.ofNat 0))]), none⟩]) (.seq (.reg [
⟨(some 8), .r (.load (some 4) (.t 2)), none⟩,
⟨(some 9), .b (.call 40 [(.t 8)]), none⟩,
⟨(some 6), .p (.mv (.t 9)), none⟩]) (.seq (.seq (.reg [
⟨(some 7), .p (.mv (.c (.w (.s (.int .i64 (.lit (.ofNat 0))))))), none⟩]) (.block 0 (.loop (.seq (.seq (.reg [
⟨(some 10), .p (.mv (.t 7)), none⟩,
⟨(some 11), .p (.mv (.t 6)), none⟩,
⟨(some 12), .p (.dv (.t 11) (.c (.w (.s (.int .i64 (.lit (.ofNat 64))))))), none⟩,
⟨(some 13), .p (.ar 0 (.t 10) (.t 12)), none⟩,
⟨(some 14), .b (.cmp 2 .int (.t 13) (.c (.w (.s (.int .i64 (.lit (.ofNat 4))))))), none⟩]) (.cond (.t 14) (.skip) (.exit 0))) (.seq (.block 1 (.seq (.reg [
⟨(some 17), .p (.mv (.t 7)), none⟩,
⟨(some 18), .p (.mv (.t 7)), none⟩,
⟨(some 19), .p (.mv (.t 6)), none⟩,
⟨(some 20), .p (.dv (.t 19) (.c (.w (.s (.int .i64 (.lit (.ofNat 64))))))), none⟩,
⟨(some 21), .p (.ar 0 (.t 18) (.t 20)), none⟩,
⟨(some 22), .p (.iaddrA 4 1 (.t 3) (.t 21)), none⟩,
⟨(some 23), .r (.load none (.t 22)), none⟩,
⟨(some 24), .p (.mv (.t 6)), none⟩,
⟨(some 25), .p (.md (.t 24) (.c (.w (.s (.int .i64 (.lit (.ofNat 64))))))), none⟩,
⟨(some 26), .p (.sr (.t 23) (.t 25)), none⟩,
⟨(some 27), .p (.iaddrA 4 1 (.t 5) (.t 17)), none⟩,
⟨none, .b (.store 1 (.t 27) (.t 26)), none⟩]) (.seq (.reg [
⟨(some 28), .p (.mv (.t 7)), none⟩,
⟨(some 29), .p (.mv (.t 6)), none⟩,
⟨(some 30), .p (.dv (.t 29) (.c (.w (.s (.int .i64 (.lit (.ofNat 64))))))), none⟩,
⟨(some 31), .p (.ar 0 (.t 28) (.t 30)), none⟩,
⟨(some 32), .p (.ar 0 (.t 31) (.c (.w (.s (.int .i64 (.lit (.ofNat 1))))))), none⟩,
⟨(some 33), .b (.cmp 2 .int (.t 32) (.c (.w (.s (.int .i64 (.lit (.ofNat 4))))))), none⟩,
⟨(some 34), .p (.mv (.t 33)), none⟩,
⟨(some 35), .p (.mv (.t 6)), some (34, true)⟩,
⟨(some 36), .p (.md (.t 35) (.c (.w (.s (.int .i64 (.lit (.ofNat 64))))))), some (34, true)⟩,
⟨(some 37), .b (.cmp 4 .int (.t 36) (.c (.w (.s (.int .i64 (.lit (.ofNat 0))))))), some (34, true)⟩,
⟨(some 38), .p (.pick (.t 34) (.t 37) (.c (.w (.s (.bool false))))), none⟩]) (.cond (.t 38) (.draw [
⟨0, ⟨(some 39), .p (.mv (.t 7)), none⟩, 0, 0⟩,
⟨1, ⟨(some 40), .p (.iaddrA 4 1 (.t 5) (.t 39)), none⟩, 1, 0⟩,
⟨2, ⟨(some 41), .r (.load none (.t 40)), none⟩, 3, 0⟩,
⟨3, ⟨(some 42), .p (.mv (.t 7)), none⟩, 0, 0⟩,
⟨4, ⟨(some 43), .p (.mv (.t 6)), none⟩, 0, 0⟩,
⟨5, ⟨(some 44), .p (.dv (.t 43) (.c (.w (.s (.int .i64 (.lit (.ofNat 64))))))), none⟩, 16, 0⟩,
⟨6, ⟨(some 45), .p (.ar 0 (.t 42) (.t 44)), none⟩, 56, 0⟩,
⟨7, ⟨(some 46), .p (.ar 0 (.t 45) (.c (.w (.s (.int .i64 (.lit (.ofNat 1))))))), none⟩, 120, 0⟩,
⟨8, ⟨(some 47), .p (.iaddrA 4 1 (.t 3) (.t 46)), none⟩, 248, 0⟩,
⟨9, ⟨(some 48), .r (.load none (.t 47)), none⟩, 504, 0⟩,
⟨10, ⟨(some 49), .p (.mv (.t 6)), none⟩, 0, 0⟩,
⟨11, ⟨(some 50), .p (.md (.t 49) (.c (.w (.s (.int .i64 (.lit (.ofNat 64))))))), none⟩, 1024, 0⟩,
⟨12, ⟨(some 51), .p (.ar 1 (.c (.w (.s (.int .i64 (.lit (.ofNat 64)))))) (.t 50)), none⟩, 3072, 0⟩,
⟨13, ⟨(some 52), .p (.shl (.t 48) (.t 51)), none⟩, 8184, 0⟩,
⟨14, ⟨(some 53), .p (.bt 1 (.t 41) (.t 52)), none⟩, 16383, 0⟩,
⟨15, ⟨(some 54), .p (.iaddrA 4 1 (.t 5) (.t 39)), none⟩, 32767, 0⟩,
⟨16, ⟨none, .b (.store 1 (.t 54) (.t 53)), none⟩, 65535, 0⟩]) (.skip))))) (.reg [
⟨(some 15), .p (.mv (.t 7)), none⟩,
⟨(some 16), .p (.ar 0 (.t 15) (.c (.w (.s (.int .i64 (.lit (.ofNat 1))))))), none⟩,
⟨(some 7), .p (.mv (.t 16)), none⟩])))))) (.seq (.reg [
⟨(some 55), .r (.load (some 4) (.t 5)), none⟩,
⟨none, .b (.store 4 (.t 4) (.t 55)), none⟩]) (.ret)))))⟩
theorem fo147 : ∃ func code hint, FnOk Go.Proofs.Tryz.prog TT 147 fa147 func code hint := ⟨Go.Proofs.Tryz.f147, bodyOf Go.Proofs.Tryz.f147, hintL [(8, [(0, 0), (1, 0), (2, 0), (3, 0), (4, 0), (5, 0), (6, 0), (7, 0), (8, 0), (9, 0), (10, 0), (11, 0), (12, 0), (13, 0), (14, 0), (15, 0), (16, 0)])], ⟨Go.Proofs.Tryz.func147, Go.Proofs.Tryz.call147, by kernel_rfl, by kernel_rfl, by kernel_rfl, by kernel_rfl⟩⟩
/- (*quarry/vm.frame).end -/
def fa149 : AFunc := ⟨19, [], .draw [
⟨0, ⟨(some 6), .p (.mv (.t 0)), none⟩, 0, 0⟩,
⟨1, ⟨(some 7), .p (.mv (.t 1)), none⟩, 0, 0⟩,
⟨2, ⟨(some 8), .p (.mv (.t 2)), none⟩, 0, 0⟩,
⟨4, ⟨(some 10), .p (.mv (.t 0)), none⟩, 0, 0⟩,
⟨5, ⟨(some 11), .p (.nilCheck (.t 10)), none⟩, 16, 0⟩,
⟨6, ⟨(some 12), .p (.faddr 1 (.t 11)), none⟩, 48, 0⟩,
⟨7, ⟨(some 13), .p (.faddr 65 (.t 12)), none⟩, 112, 0⟩,
⟨8, ⟨(some 14), .r (.load none (.t 13)), none⟩, 240, 0⟩,
⟨3, ⟨(some 9), .b (.append 5 1 1 (.c (.w (.s (.nils)))) (.t 8)), none⟩, 4, 0⟩,
⟨9, ⟨(some 15), .p (.build [.int .i64 (.lit (.ofNat 0)), .nils, .int .u64 (.lit (.ofNat 0)), .int .u8 (.lit (.ofNat 0)), .int .u8 (.lit (.ofNat 0)), .int .u8 (.lit (.ofNat 0)), .int .u8 (.lit (.ofNat 0)), .int .u8 (.lit (.ofNat 0)), .int .u8 (.lit (.ofNat 0)), .int .u8 (.lit (.ofNat 0)), .int .u8 (.lit (.ofNat 0)), .int .u8 (.lit (.ofNat 0)), .int .u8 (.lit (.ofNat 0)), .int .u8 (.lit (.ofNat 0)), .int .u8 (.lit (.ofNat 0)), .int .u8 (.lit (.ofNat 0)), .int .u8 (.lit (.ofNat 0)), .int .u8 (.lit (.ofNat 0)), .int .u8 (.lit (.ofNat 0)), .int .u8 (.lit (.ofNat 0)), .int .u8 (.lit (.ofNat 0)), .int .u8 (.lit (.ofNat 0)), .int .u8 (.lit (.ofNat 0))] [(0, 1, (.t 7)), (1, 1, (.t 9)), (2, 1, (.t 14))]), none⟩, 510, 0⟩,
⟨10, ⟨(some 16), .m (.box 132 (.t 15)), none⟩, 1022, 1024⟩,
⟨11, ⟨(some 17), .p (.nilCheck (.t 6)), none⟩, 2047, 0⟩,
⟨12, ⟨(some 18), .p (.faddr 74 (.t 17)), none⟩, 4095, 0⟩,
⟨13, ⟨none, .b (.store 1 (.t 18) (.t 16)), none⟩, 8191, 0⟩]⟩
theorem fo149 : ∃ func code hint, FnOk Go.Proofs.Tryz.prog TT 149 fa149 func code hint := ⟨Go.Proofs.Tryz.f149, bodyOf Go.Proofs.Tryz.f149, hintL [(0, [(0, 0), (1, 0), (2, 0), (4, 0), (5, 0), (6, 0), (7, 0), (8, 0), (3, 0), (9, 0), (10, 1024), (11, 0), (12, 0), (13, 0)])], ⟨Go.Proofs.Tryz.func149, Go.Proofs.Tryz.call149, by kernel_rfl, by kernel_rfl, by kernel_rfl, by kernel_rfl⟩⟩
/- (*quarry/vm.frame).pop -/
def fa150 : AFunc := ⟨31, [.cell 2 (some 4)], .seq (.reg [
⟨(some 2), .m (.alloc 24 [.int .u64 (.lit (.ofNat 0)), .int .u64 (.lit (.ofNat 0)), .int .u64 (.lit (.ofNat 0)), .int .u64 (.lit (.ofNat 0))]), none⟩]) (.seq (.draw [
⟨0, ⟨(some 4), .p (.mv (.t 0)), none⟩, 0, 0⟩,
⟨1, ⟨(some 5), .p (.nilCheck (.t 4)), none⟩, 1, 0⟩,
⟨2, ⟨(some 6), .p (.faddr 70 (.t 5)), none⟩, 3, 0⟩,
⟨3, ⟨(some 7), .r (.load none (.t 6)), none⟩, 7, 0⟩,
⟨4, ⟨(some 8), .p (.mv (.t 0)), none⟩, 0, 0⟩,
⟨5, ⟨(some 9), .p (.nilCheck (.t 8)), none⟩, 16, 0⟩,
⟨6, ⟨(some 10), .p (.faddr 70 (.t 9)), none⟩, 48, 0⟩,
⟨7, ⟨(some 11), .r (.load none (.t 10)), none⟩, 112, 0⟩,
⟨8, ⟨(some 12), .p (.len (.t 11)), none⟩, 240, 0⟩,
⟨9, ⟨(some 13), .p (.ar 1 (.t 12) (.c (.w (.s (.int .i64 (.lit (.ofNat 1))))))), none⟩, 496, 0⟩,
⟨10, ⟨(some 14), .p (.iaddrS 4 (.t 7) (.t 13)), none⟩, 1023, 0⟩,
⟨11, ⟨(some 15), .r (.load (some 4) (.t 14)), none⟩, 2047, 0⟩,
⟨12, ⟨(some 3), .m (.alloc 24 [.int .u64 (.lit (.ofNat 0)), .int .u64 (.lit (.ofNat 0)), .int .u64 (.lit (.ofNat 0)), .int .u64 (.lit (.ofNat 0))]), none⟩, 0, 0⟩,
⟨13, ⟨none, .b (.store 4 (.t 3) (.t 15)), none⟩, 8191, 0⟩]) (.seq (.draw [
⟨0, ⟨(some 16), .p (.mv (.t 0)), none⟩, 0, 0⟩,
⟨1, ⟨(some 17), .p (.mv (.t 0)), none⟩, 0, 0⟩,
⟨2, ⟨(some 18), .p (.nilCheck (.t 17)), none⟩, 2, 0⟩,
⟨3, ⟨(some 19), .p (.faddr 70 (.t 18)), none⟩, 6, 0⟩,
⟨4, ⟨(some 20), .r (.load none (.t 19)), none⟩, 14, 0⟩,
⟨5, ⟨(some 21), .p (.mv (.t 0)), none⟩, 0, 0⟩,
⟨6, ⟨(some 22), .p (.nilCheck (.t 21)), none⟩, 32, 0⟩,
⟨7, ⟨(some 23), .p (.faddr 70 (.t 22)), none⟩, 96, 0⟩,
⟨8, ⟨(some 24), .r (.load none (.t 23)), none⟩, 224, 0⟩,
⟨9, ⟨(some 25), .p (.len (.t 24)), none⟩, 480, 0⟩,
⟨10, ⟨(some 26), .p (.ar 1 (.t 25) (.c (.w (.s (.int .i64 (.lit (.ofNat 1))))))), none⟩, 992, 0⟩,
⟨11, ⟨(some 27), .p (.slice 4 (.t 20) none (some (.t 26))), none⟩, 2046, 0⟩,
⟨12, ⟨(some 28), .p (.nilCheck (.t 16)), none⟩, 4095, 0⟩,
⟨13, ⟨(some 29), .p (.faddr 70 (.t 28)), none⟩, 8191, 0⟩,
⟨14, ⟨none, .b (.store 1 (.t 29) (.t 27)), none⟩, 16383, 0⟩]) (.seq (.reg [
⟨(some 30), .r (.load (some 4) (.t 3)), none⟩,
⟨none, .b (.store 4 (.t 2) (.t 30)), none⟩]) (.ret))))⟩
theorem fo150 : ∃ func code hint, FnOk Go.Proofs.Tryz.prog TT 150 fa150 func code hint := ⟨Go.Proofs.Tryz.f150, bodyOf Go.Proofs.Tryz.f150, hintL [(1, [(0, 0), (1, 0), (2, 0), (3, 0), (4, 0), (5, 0), (6, 0), (7, 0), (8, 0), (9, 0), (10, 0), (11, 0), (12, 0), (13, 0)]), (2, [(0, 0), (1, 0), (2, 0), (3, 0), (4, 0), (5, 0), (6, 0), (7, 0), (8, 0), (9, 0), (10, 0), (11, 0), (12, 0), (13, 0), (14, 0)])], ⟨Go.Proofs.Tryz.func150, Go.Proofs.Tryz.call150, by kernel_rfl, by kernel_rfl, by kernel_rfl, by kernel_rfl⟩⟩
/- quarry/vm.truth -/
def fa153 : AFunc := ⟨6, [.cell 2 (some 4)], .seq (.reg [
⟨(some 2), .m (.alloc 24 [.int .u64 (.lit (.ofNat 0)), .int .u64 (.lit (.ofNat 0)), .int .u64 (.lit (.ofNat 0)), .int .u64 (.lit (.ofNat 0))]), none⟩]) (.seq (.seq (.reg [
⟨(some 3), .p (.mv (.t 0)), none⟩]) (.cond (.t 3) (.seq (.reg [
⟨(some 4), .b (.call 30 [(.c (.w (.s (.int .u64 (.lit (.ofNat 1))))))]), none⟩,
⟨none, .b (.store 4 (.t 2) (.t 4)), none⟩]) (.ret)) (.skip))) (.seq (.reg [
⟨(some 5), .p (.build [.int .u64 (.lit (.ofNat 0)), .int .u64 (.lit (.ofNat 0)), .int .u64 (.lit (.ofNat 0)), .int .u64 (.lit (.ofNat 0))] []), none⟩,
⟨none, .b (.store 4 (.t 2) (.t 5)), none⟩]) (.ret)))⟩
theorem fo153 : ∃ func code hint, FnOk Go.Proofs.Tryz.prog TT 153 fa153 func code hint := ⟨Go.Proofs.Tryz.f153, bodyOf Go.Proofs.Tryz.f153, hintL [], ⟨Go.Proofs.Tryz.func153, Go.Proofs.Tryz.call153, by kernel_rfl, by kernel_rfl, by kernel_rfl, by kernel_rfl⟩⟩
/- (*quarry/vm.frame).taken -/
def fa157 : AFunc := ⟨10, [.cell 2 (some 8)], .seq (.reg [
⟨(some 2), .m (.alloc 226 [.int .u64 (.lit (.ofNat 0)), .int .u64 (.lit (.ofNat 0)), .int .u64 (.lit (.ofNat 0)), .int .u64 (.lit (.ofNat 0)), .int .u64 (.lit (.ofNat 0)), .int .u64 (.lit (.ofNat 0)), .int .u64 (.lit (.ofNat 0)), .int .u64 (.lit (.ofNat 0))]), none⟩]) (.seq (.reg [
⟨(some 4), .p (.mv (.t 0)), none⟩,
⟨(some 5), .b (.call 150 [(.t 4)]), none⟩,
⟨(some 3), .m (.alloc 24 [.int .u64 (.lit (.ofNat 0)), .int .u64 (.lit (.ofNat 0)), .int .u64 (.lit (.ofNat 0)), .int .u64 (.lit (.ofNat 0))]), none⟩,
⟨none, .b (.store 4 (.t 3) (.t 5)), none⟩]) (.seq (.draw [
⟨0, ⟨(some 6), .r (.load (some 4) (.t 3)), none⟩, 0, 0⟩,
⟨1, ⟨(some 7), .p (.mv (.t 0)), none⟩, 0, 0⟩,
⟨2, ⟨(some 8), .b (.call 150 [(.t 7)]), none⟩, 2, 0⟩,
⟨3, ⟨(some 9), .p (.build [.int .u64 (.lit (.ofNat 0)), .int .u64 (.lit (.ofNat 0)), .int .u64 (.lit (.ofNat 0)), .int .u64 (.lit (.ofNat 0)), .int .u64 (.lit (.ofNat 0)), .int .u64 (.lit (.ofNat 0)), .int .u64 (.lit (.ofNat 0)), .int .u64 (.lit (.ofNat 0))] [(0, 4, (.t 6)), (4, 4, (.t 8))]), none⟩, 7, 0⟩,
⟨4, ⟨none, .b (.store 8 (.t 2) (.t 9)), none⟩, 15, 0⟩]) (.ret)))⟩
theorem fo157 : ∃ func code hint, FnOk Go.Proofs.Tryz.prog TT 157 fa157 func code hint := ⟨Go.Proofs.Tryz.f157, bodyOf Go.Proofs.Tryz.f157, hintL [(2, [(0, 0), (1, 0), (2, 0), (3, 0), (4, 0)])], ⟨Go.Proofs.Tryz.func157, Go.Proofs.Tryz.call157, by kernel_rfl, by kernel_rfl, by kernel_rfl, by kernel_rfl⟩⟩
/- (*quarry/vm.frame).paid -/
def fa158 : AFunc := ⟨11, [], .seq (.reg [
⟨(some 6), .p (.mv (.t 2)), none⟩,
⟨(some 7), .b (.call 116 [(.t 6)]), none⟩]) (.reg [
⟨(some 8), .p (.mv (.t 0)), none⟩,
⟨(some 9), .p (.mv (.t 1)), none⟩,
⟨(some 10), .b (.call 118 [(.t 8), (.t 9)]), none⟩])⟩
theorem fo158 : ∃ func code hint, FnOk Go.Proofs.Tryz.prog TT 158 fa158 func code hint := ⟨Go.Proofs.Tryz.f158, bodyOf Go.Proofs.Tryz.f158, hintL [], ⟨Go.Proofs.Tryz.func158, Go.Proofs.Tryz.call158, by kernel_rfl, by kernel_rfl, by kernel_rfl, by kernel_rfl⟩⟩
/- quarry/gas.Words -/
def fa159 : AFunc := ⟨19, [.tmp 4, .tmp 5], .seq (.reg [
⟨(some 2), .m (.box 24 (.t 0)), none⟩,
⟨(some 4), .p (.mv (.c (.w (.s (.int .u64 (.lit (.ofNat 0))))))), none⟩,
⟨(some 5), .p (.mv (.c (.w (.s (.bool false))))), none⟩]) (.seq (.reg [
⟨(some 9), .r (.load (some 4) (.t 2)), none⟩,
⟨(some 10), .b (.call 200 [(.t 9)]), none⟩,
⟨(some 8), .p (.mv (.t 10)), none⟩,
⟨(some 11), .p (.ext (.t 8) 0), none⟩,
⟨(some 12), .p (.ext (.t 8) 1), none⟩,
⟨(some 6), .p (.mv (.t 11)), none⟩,
⟨(some 7), .p (.mv (.t 12)), none⟩]) (.seq (.seq (.reg [
⟨(some 13), .p (.mv (.t 7)), none⟩,
⟨(some 14), .p (.not (.t 13)), none⟩]) (.cond (.t 14) (.seq (.reg [
⟨(some 4), .p (.mv (.c (.w (.s (.int .u64 (.lit (.ofNat 0))))))), none⟩,
⟨(some 5), .p (.mv (.c (.w (.s (.bool false))))), none⟩]) (.ret)) (.skip))) (.seq (.reg [
⟨(some 15), .p (.mv (.t 6)), none⟩,
⟨(some 16), .b (.call 201 [(.t 15)]), none⟩,
⟨(some 17), .p (.mv (.t 1)), none⟩,
⟨(some 18), .p (.ar 2 (.t 16) (.t 17)), none⟩,
⟨(some 4), .p (.mv (.t 18)), none⟩,
⟨(some 5), .p (.mv (.c (.w (.s (.bool true))))), none⟩]) (.ret))))⟩
theorem fo159 : ∃ func code hint, FnOk Go.Proofs.Tryz.prog TT 159 fa159 func code hint := ⟨Go.Proofs.Tryz.f159, bodyOf Go.Proofs.Tryz.f159, hintL [], ⟨Go.Proofs.Tryz.func159, Go.Proofs.Tryz.call159, by kernel_rfl, by kernel_rfl, by kernel_rfl, by kernel_rfl⟩⟩
/- (*quarry/vm.frame).reach -/
def fa160 : AFunc := ⟨70, [], .seq (.reg [
⟨(some 12), .p (.mv (.t 0)), none⟩,
⟨(some 13), .p (.nilCheck (.t 12)), none⟩,
⟨(some 14), .p (.faddr 71 (.t 13)), none⟩,
⟨(some 15), .r (.load none (.t 14)), none⟩,
⟨(some 16), .p (.len (.t 15)), none⟩,
⟨(some 17), .p (.conv .u64 (.t 16)), none⟩,
⟨(some 4), .p (.mv (.t 17)), none⟩,
⟨(some 5), .p (.mv (.c (.w (.s (.int .u64 (.lit (.ofNat 0))))))), none⟩]) (.seq (.seq (.reg [
⟨(some 18), .p (.mv (.t 1)), none⟩,
⟨(some 19), .p (.len (.t 18)), none⟩,
⟨(some 20), .p (.mv (.c (.w (.s (.int .i64 (.lit (.ofNat 0))))))), none⟩]) (.block 0 (.loop (.seq (.reg [
⟨(some 21), .b (.cmp 2 .int (.t 20) (.t 19)), none⟩]) (.seq (.cond (.t 21) (.skip) (.exit 0)) (.seq (.block 1 (.seq (.reg [
⟨(some 22), .p (.iaddrS 8 (.t 18) (.t 20)), none⟩,
⟨(some 23), .r (.load (some 8) (.t 22)), none⟩,
⟨(some 7), .m (.alloc 226 [.int .u64 (.lit (.ofNat 0)), .int .u64 (.lit (.ofNat 0)), .int .u64 (.lit (.ofNat 0)), .int .u64 (.lit (.ofNat 0)), .int .u64 (.lit (.ofNat 0)), .int .u64 (.lit (.ofNat 0)), .int .u64 (.lit (.ofNat 0)), .int .u64 (.lit (.ofNat 0))]), none⟩,
⟨none, .b (.store 8 (.t 7) (.t 23)), none⟩]) (.seq (.draw [
⟨0, ⟨(some 25), .p (.mv (.t 0)), none⟩, 0, 0⟩,
⟨1, ⟨(some 26), .p (.nilCheck (.t 25)), none⟩, 1, 0⟩,
⟨2, ⟨(some 27), .p (.faddr 71 (.t 26)), none⟩, 3, 0⟩,
⟨3, ⟨(some 28), .r (.load none (.t 27)), none⟩, 7, 0⟩,
⟨4, ⟨(some 29), .p (.len (.t 28)), none⟩, 15, 0⟩,
⟨5, ⟨(some 30), .p (.conv .u64 (.t 29)), none⟩, 31, 0⟩,
⟨6, ⟨(some 31), .p (.faddr 0 (.t 7)), none⟩, 0, 0⟩,
⟨7, ⟨(some 32), .r (.load (some 4) (.t 31)), none⟩, 64, 0⟩,
⟨8, ⟨(some 33), .p (.faddr 4 (.t 7)), none⟩, 0, 0⟩,
⟨9, ⟨(some 34), .r (.load (some 4) (.t 33)), none⟩, 256, 0⟩,
⟨10, ⟨(some 35), .b (.call 202 [(.t 30), (.t 32), (.t 34)]), none⟩, 1023, 0⟩,
⟨11, ⟨(some 24), .p (.mv (.t 35)), none⟩, 2047, 0⟩,
⟨12, ⟨(some 36), .p (.ext (.t 24) 0), none⟩, 4095, 0⟩,
⟨13, ⟨(some 37), .p (.ext (.t 24) 1), none⟩, 4095, 0⟩,
⟨14, ⟨(some 38), .p (.ext (.t 24) 2), none⟩, 4095, 0⟩,
⟨15, ⟨(some 8), .p (.mv (.t 36)), none⟩, 8191, 0⟩,
⟨16, ⟨(some 9), .p (.mv (.t 37)), none⟩, 49151, 0⟩,
⟨17, ⟨(some 10), .p (.mv (.t 38)), none⟩, 131071, 0⟩]) (.seq (.reg [
⟨(some 39), .p (.mv (.t 10)), none⟩,
⟨(some 40), .b (.call 116 [(.t 39)]), none⟩]) (.reg [
⟨(some 41), .p (.mv (.t 4)), none⟩,
⟨(some 42), .p (.mv (.t 8)), none⟩,
⟨(some 43), .b (.mm true (.t 41) (.t 42)), none⟩,
⟨(some 44), .p (.mv (.t 5)), none⟩,
⟨(some 45), .p (.mv (.t 9)), none⟩,
⟨(some 46), .b (.mm true (.t 44) (.t 45)), none⟩,
⟨(some 4), .p (.mv (.t 43)), none⟩,
⟨(some 5), .p (.mv (.t 46)), none⟩]))))) (.reg [
⟨(some 47), .p (.ar 0 (.t 20) (.c (.w (.s (.int .i64 (.lit (.ofNat 1))))))), none⟩,
⟨(some 20), .p (.mv (.t 47)), none⟩]))))))) (.seq (.reg [
⟨(some 48), .p (.mv (.t 0)), none⟩,
⟨(some 49), .p (.mv (.t 5)), none⟩,
⟨(some 50), .b (.call 118 [(.t 48), (.t 49)]), none⟩]) (.seq (.reg [
⟨(some 51), .p (.mv (.t 4)), none⟩,
⟨(some 52), .p (.conv .i64 (.t 51)), none⟩,
⟨(some 53), .p (.mv (.t 0)), none⟩,
⟨(some 54), .p (.nilCheck (.t 53)), none⟩,
⟨(some 55), .p (.faddr 71 (.t 54)), none⟩,
⟨(some 56), .r (.load none (.t 55)), none⟩,
⟨(some 57), .p (.len (.t 56)), none⟩,
⟨(some 58), .p (.ar 1 (.t 52) (.t 57)), none⟩,
⟨(some 11), .p (.mv (.t 58)), none⟩]) (.seq (.reg [
⟨(some 59), .p (.mv (.t 11)), none⟩,
⟨(some 60), .b (.cmp 4 .int (.t 59) (.c (.w (.s (.int .i64 (.lit (.ofNat 0))))))), none⟩]) (.cond (.t 60) (.reg [
⟨(some 61), .p (.mv (.t 0)), none⟩,
⟨(some 62), .p (.mv (.t 0)), none⟩,
⟨(some 63), .p (.nilCheck (.t 62)), none⟩,
⟨(some 64), .p (.faddr 71 (.t 63)), none⟩,
⟨(some 65), .r (.load none (.t 64)), none⟩,
⟨(some 66), .p (.mv (.t 11)), none⟩,
⟨(some 67), .b (.appendz 5 1 1 [.int .u8 (.lit (.ofNat 0))] (.t 65) (.t 66)), none⟩,
⟨(some 68), .p (.nilCheck (.t 61)), none⟩,
⟨(some 69), .p (.faddr 71 (.t 68)), none⟩,
⟨none, .b (.store 1 (.t 69) (.t 67)), none⟩]) (.skip))))))⟩
theorem fo160 : ∃ func code hint, FnOk Go.Proofs.Tryz.prog TT 160 fa160 func code hint := ⟨Go.Proofs.Tryz.f160, bodyOf Go.Proofs.Tryz.f160, hintL [(4, [(0, 0), (1, 0), (2, 0), (3, 0), (4, 0), (5, 0), (6, 0), (7, 0), (8, 0), (9, 0), (10, 0), (11, 0), (12, 0), (13, 0), (14, 0), (15, 0), (16, 0), (17, 0)])], ⟨Go.Proofs.Tryz.func160, Go.Proofs.Tryz.call160, by kernel_rfl, by kernel_rfl, by kernel_rfl, by kernel_rfl⟩⟩
/- (*quarry/vm.frame).bytes -/
def fa162 : AFunc := ⟨26, [.tmp 4], .seq (.reg [
⟨(some 3), .m (.box 226 (.t 1)), none⟩,
⟨(some 4), .p (.mv (.c (.w (.s (.nils))))), none⟩]) (.seq (.seq (.reg [
⟨(some 6), .p (.faddr 4 (.t 3)), none⟩,
⟨(some 7), .r (.load (some 4) (.t 6)), none⟩,
⟨(some 8), .p (.build [.int .u64 (.lit (.ofNat 0)), .int .u64 (.lit (.ofNat 0)), .int .u64 (.lit (.ofNat 0)), .int .u64 (.lit (.ofNat 0))] []), none⟩,
⟨(some 9), .b (.cmp 0 (.agg (.one (.arr 4 22 .u64))) (.t 7) (.t 8)), none⟩]) (.cond (.t 9) (.seq (.reg [
⟨(some 4), .p (.mv (.c (.w (.s (.nils))))), none⟩]) (.ret)) (.skip))) (.seq (.reg [
⟨(some 10), .p (.faddr 0 (.t 3)), none⟩,
⟨(some 11), .p (.iaddrA 4 1 (.t 10) (.c (.w (.s (.int .i64 (.lit (.ofNat 0))))))), none⟩,
⟨(some 12), .r (.load none (.t 11)), none⟩,
⟨(some 13), .p (.conv .i64 (.t 12)), none⟩,
⟨(some 5), .p (.mv (.t 13)), none⟩]) (.seq (.draw [
⟨0, ⟨(some 14), .p (.mv (.t 0)), none⟩, 0, 0⟩,
⟨1, ⟨(some 15), .p (.nilCheck (.t 14)), none⟩, 1, 0⟩,
⟨2, ⟨(some 16), .p (.faddr 71 (.t 15)), none⟩, 3, 0⟩,
⟨3, ⟨(some 17), .r (.load none (.t 16)), none⟩, 7, 0⟩,
⟨4, ⟨(some 18), .p (.mv (.t 5)), none⟩, 0, 0⟩,
⟨5, ⟨(some 19), .p (.mv (.t 5)), none⟩, 0, 0⟩,
⟨6, ⟨(some 20), .p (.faddr 4 (.t 3)), none⟩, 0, 0⟩,
⟨7, ⟨(some 21), .p (.iaddrA 4 1 (.t 20) (.c (.w (.s (.int .i64 (.lit (.ofNat 0))))))), none⟩, 64, 0⟩,
⟨8, ⟨(some 22), .r (.load none (.t 21)), none⟩, 192, 0⟩,
⟨9, ⟨(some 23), .p (.conv .i64 (.t 22)), none⟩, 448, 0⟩,
⟨10, ⟨(some 24), .p (.ar 0 (.t 19) (.t 23)), none⟩, 992, 0⟩,
⟨11, ⟨(some 25), .p (.slice 1 (.t 17) (some (.t 18)) (some (.t 24))), none⟩, 2047, 0⟩,
⟨12, ⟨(some 4), .p (.mv (.t 25)), none⟩, 4095, 0⟩]) (.ret))))⟩
theorem fo162 : ∃ func code hint, FnOk Go.Proofs.Tryz.prog TT 162 fa162 func code hint := ⟨Go.Proofs.Tryz.f162, bodyOf Go.Proofs.Tryz.f162, hintL [(4, [(0, 0), (1, 0), (2, 0), (3, 0), (4, 0), (5, 0), (6, 0), (7, 0), (8, 0), (9, 0), (10, 0), (11, 0), (12, 0)])], ⟨Go.Proofs.Tryz.func162, Go.Proofs.Tryz.call162, by kernel_rfl, by kernel_rfl, by kernel_rfl, by kernel_rfl⟩⟩
/- quarry/vm.number -/
def fa163 : AFunc := ⟨11, [.cell 2 (some 4)], .seq (.reg [
⟨(some 1), .m (.box 30 (.t 0)), none⟩,
⟨(some 2), .m (.alloc 24 [.int .u64 (.lit (.ofNat 0)), .int .u64 (.lit (.ofNat 0)), .int .u64 (.lit (.ofNat 0)), .int .u64 (.lit (.ofNat 0))]), none⟩]) (.seq (.reg [
⟨(some 6), .p (.aslice 20 1 (.t 1) none none), none⟩,
⟨(some 7), .b (.call 21 [(.t 6)]), none⟩,
⟨(some 5), .p (.mv (.t 7)), none⟩,
⟨(some 8), .p (.ext (.t 5) 0), none⟩,
⟨(some 9), .p (.ext (.t 5) 1), none⟩,
⟨(some 3), .m (.alloc 24 [.int .u64 (.lit (.ofNat 0)), .int .u64 (.lit (.ofNat 0)), .int .u64 (.lit (.ofNat 0)), .int .u64 (.lit (.ofNat 0))]), none⟩,
⟨none, .b (.store 4 (.t 3) (.t 8)), none⟩,
⟨(some 4), .p (.mv (.t 9)), none⟩]) (.seq (.reg [
⟨(some 10), .r (.load (some 4) (.t 3)), none⟩,
⟨none, .b (.store 4 (.t 2) (.t 10)), none⟩]) (.ret)))⟩
theorem fo163 : ∃ func code hint, FnOk Go.Proofs.Tryz.prog TT 163 fa163 func code hint := ⟨Go.Proofs.Tryz.f163, bodyOf Go.Proofs.Tryz.f163, hintL [], ⟨Go.Proofs.Tryz.func163, Go.Proofs.Tryz.call163, by kernel_rfl, by kernel_rfl, by kernel_rfl, by kernel_rfl⟩⟩
/- (*quarry/vm.frame).account -/
def fa164 : AFunc := ⟨6, [.cell 2 (some 20)], .seq (.reg [
⟨(some 2), .m (.alloc 30 (lrep (.int .u8 (.lit (.ofNat 0))) 20)), none⟩]) (.seq (.reg [
⟨(some 3), .p (.mv (.t 0)), none⟩,
⟨(some 4), .b (.call 150 [(.t 3)]), none⟩,
⟨(some 5), .b (.call 203 [(.t 4)]), none⟩,
⟨none, .b (.store 20 (.t 2) (.t 5)), none⟩]) (.ret))⟩
theorem fo164 : ∃ func code hint, FnOk Go.Proofs.Tryz.prog TT 164 fa164 func code hint := ⟨Go.Proofs.Tryz.f164, bodyOf Go.Proofs.Tryz.f164, hintL [], ⟨Go.Proofs.Tryz.func164, Go.Proofs.Tryz.call164, by kernel_rfl, by kernel_rfl, by kernel_rfl, by kernel_rfl⟩⟩
/- (*quarry/vm.frame).warm -/
def fa165 : AFunc := ⟨39, [], .seq (.reg [
⟨(some 3), .m (.box 30 (.t 1)), none⟩]) (.seq (.seq (.reg [
⟨(some 4), .p (.mv (.t 0)), none⟩,
⟨(some 5), .p (.nilCheck (.t 4)), none⟩,
⟨(some 6), .p (.faddr 0 (.t 5)), none⟩,
⟨(some 7), .r (.load none (.t 6)), none⟩,
⟨(some 8), .b (.call 70 [(.t 7), (.c (.w (.s (.int .i64 (.lit (.ofNat 9))))))]), none⟩,
⟨(some 9), .p (.not (.t 8)), none⟩]) (.cond (.t 9) (.ret) (.skip))) (.seq (.draw [
⟨0, ⟨(some 10), .p (.mv (.t 0)), none⟩, 0, 0⟩,
⟨1, ⟨(some 11), .p (.nilCheck (.t 10)), none⟩, 1, 0⟩,
⟨2, ⟨(some 12), .p (.faddr 0 (.t 11)), none⟩, 3, 0⟩,
⟨3, ⟨(some 13), .r (.load none (.t 12)), none⟩, 7, 0⟩,
⟨4, ⟨(some 14), .p (.nilCheck (.t 13)), none⟩, 15, 0⟩,
⟨5, ⟨(some 15), .p (.faddr 89 (.t 14)), none⟩, 31, 0⟩,
⟨6, ⟨(some 16), .r (.load none (.t 15)), none⟩, 63, 0⟩,
⟨7, ⟨(some 17), .r (.load (some 20) (.t 3)), none⟩, 0, 0⟩,
⟨8, ⟨(some 18), .b (.call 71 [(.t 16), (.t 17)]), none⟩, 255, 0⟩]) (.cond (.t 18) (.reg [
⟨(some 19), .p (.mv (.t 0)), none⟩,
⟨(some 20), .p (.mv (.t 0)), none⟩,
⟨(some 21), .p (.nilCheck (.t 20)), none⟩,
⟨(some 22), .p (.faddr 0 (.t 21)), none⟩,
⟨(some 23), .r (.load none (.t 22)), none⟩,
⟨(some 24), .p (.nilCheck (.t 23)), none⟩,
⟨(some 25), .p (.faddr 1 (.t 24)), none⟩,
⟨(some 26), .p (.faddr 17 (.t 25)), none⟩,
⟨(some 27), .r (.load none (.t 26)), none⟩,
⟨(some 28), .b (.call 118 [(.t 19), (.t 27)]), none⟩]) (.reg [
⟨(some 29), .p (.mv (.t 0)), none⟩,
⟨(some 30), .p (.mv (.t 0)), none⟩,
⟨(some 31), .p (.nilCheck (.t 30)), none⟩,
⟨(some 32), .p (.faddr 0 (.t 31)), none⟩,
⟨(some 33), .r (.load none (.t 32)), none⟩,
⟨(some 34), .p (.nilCheck (.t 33)), none⟩,
⟨(some 35), .p (.faddr 1 (.t 34)), none⟩,
⟨(some 36), .p (.faddr 15 (.t 35)), none⟩,
⟨(some 37), .r (.load none (.t 36)), none⟩,
⟨(some 38), .b (.call 118 [(.t 29), (.t 37)]), none⟩]))))⟩
theorem fo165 : ∃ func code hint, FnOk Go.Proofs.Tryz.prog TT 165 fa165 func code hint := ⟨Go.Proofs.Tryz.f165, bodyOf Go.Proofs.Tryz.f165, hintL [(2, [(0, 0), (1, 0), (2, 0), (3, 0), (4, 0), (5, 0), (6, 0), (7, 0), (8, 0)])], ⟨Go.Proofs.Tryz.func165, Go.Proofs.Tryz.call165, by kernel_rfl, by kernel_rfl, by kernel_rfl, by kernel_rfl⟩⟩
/- quarry/vm.cut -/
def fa166 : AFunc := ⟨31, [.tmp 6], .seq (.reg [
⟨(some 4), .m (.box 24 (.t 1)), none⟩,
⟨(some 6), .p (.mv (.c (.w (.s (.nils))))), none⟩]) (.seq (.reg [
⟨(some 10), .p (.mv (.t 2)), none⟩,
⟨(some 11), .m (.mkslice 5 1 [.int .u8 (.lit (.ofNat 0))] (.t 10) (.t 10)), none⟩,
⟨(some 7), .p (.mv (.t 11)), none⟩]) (.seq (.seq (.reg [
⟨(some 13), .r (.load (some 4) (.t 4)), none⟩,
⟨(some 14), .b (.call 43 [(.t 13)]), none⟩,
⟨(some 12), .p (.mv (.t 14)), none⟩,
⟨(some 15), .p (.ext (.t 12) 0), none⟩,
⟨(some 16), .p (.ext (.t 12) 1), none⟩,
⟨(some 8), .p (.mv (.t 15)), none⟩,
⟨(some 9), .p (.mv (.t 16)), none⟩]) (.seq (.reg [
⟨(some 17), .p (.mv (.t 9)), none⟩,
⟨(some 18), .p (.mv (.t 17)), none⟩,
⟨(some 19), .p (.mv (.t 8)), some (18, true)⟩,
⟨(some 20), .p (.mv (.t 0)), some (18, true)⟩,
⟨(some 21), .p (.len (.t 20)), some (18, true)⟩,
⟨(some 22), .p (.conv .u64 (.t 21)), some (18, true)⟩,
⟨(some 23), .b (.cmp 2 .int (.t 19) (.t 22)), some (18, true)⟩,
⟨(some 24), .p (.pick (.t 18) (.t 23) (.c (.w (.s (.bool false))))), none⟩]) (.cond (.t 24) (.reg [
⟨(some 25), .p (.mv (.t 7)), none⟩,
⟨(some 26), .p (.mv (.t 0)), none⟩,
⟨(some 27), .p (.mv (.t 8)), none⟩,
⟨(some 28), .p (.slice 1 (.t 26) (some (.t 27)) none), none⟩,
⟨(some 29), .b (.copy 1 (.t 25) (.t 28)), none⟩]) (.skip)))) (.seq (.reg [
⟨(some 30), .p (.mv (.t 7)), none⟩,
⟨(some 6), .p (.mv (.t 30)), none⟩]) (.ret))))⟩
theorem fo166 : ∃ func code hint, FnOk Go.Proofs.Tryz.prog TT 166 fa166 func code hint := ⟨Go.Proofs.Tryz.f166, bodyOf Go.Proofs.Tryz.f166, hintL [], ⟨Go.Proofs.Tryz.func166, Go.Proofs.Tryz.call166, by kernel_rfl, by kernel_rfl, by kernel_rfl, by kernel_rfl⟩⟩
/- quarry/vm.long -/
def fa167 : AFunc := ⟨6, [.cell 2 (some 4)], .seq (.reg [
⟨(some 2), .m (.alloc 24 [.int .u64 (.lit (.ofNat 0)), .int .u64 (.lit (.ofNat 0)), .int .u64 (.lit (.ofNat 0)), .int .u64 (.lit (.ofNat 0))]), none⟩]) (.seq (.reg [
⟨(some 3), .p (.mv (.t 0)), none⟩,
⟨(some 4), .p (.conv .u64 (.t 3)), none⟩,
⟨(some 5), .b (.call 30 [(.t 4)]), none⟩,
⟨none, .b (.store 4 (.t 2) (.t 5)), none⟩]) (.ret))⟩
theorem fo167 : ∃ func code hint, FnOk Go.Proofs.Tryz.prog TT 167 fa167 func code hint := ⟨Go.Proofs.Tryz.f167, bodyOf Go.Proofs.Tryz.f167, hintL [], ⟨Go.Proofs.Tryz.func167, Go.Proofs.Tryz.call167, by kernel_rfl, by kernel_rfl, by kernel_rfl, by kernel_rfl⟩⟩
/- (*quarry/state.State).HeatSlot -/
def fa171 : AFunc := ⟨29, [.tmp 6], .seq (.reg [
⟨(some 4), .m (.box 30 (.t 1)), none⟩,
⟨(some 5), .m (.box 24 (.t 2)), none⟩,
⟨(some 6), .p (.mv (.c (.w (.s (.bool false))))), none⟩]) (.seq (.draw [
⟨0, ⟨(some 8), .p (.mv (.t 0)), none⟩, 0, 0⟩,
⟨1, ⟨(some 9), .p (.nilCheck (.t 8)), none⟩, 1, 0⟩,
⟨2, ⟨(some 10), .p (.faddr 1 (.t 9)), none⟩, 3, 0⟩,
⟨3, ⟨(some 11), .p (.faddr 4 (.t 10)), none⟩, 7, 0⟩,
⟨4, ⟨(some 12), .r (.load none (.t 11)), none⟩, 15, 0⟩,
⟨5, ⟨(some 13), .r (.load (some 20) (.t 4)), none⟩, 0, 0⟩,
⟨6, ⟨(some 14), .r (.load (some 4) (.t 5)), none⟩, 0, 0⟩,
⟨7, ⟨(some 15), .p (.build [.int .u8 (.lit (.ofNat 0)), .int .u8 (.lit (.ofNat 0)), .int .u8 (.lit (.ofNat 0)), .int .u8 (.lit (.ofNat 0)), .int .u8 (.lit (.ofNat 0)), .int .u8 (.lit (.ofNat 0)), .int .u8 (.lit (.ofNat 0)), .int .u8 (.lit (.ofNat 0)), .int .u8 (.lit (.ofNat 0)), .int .u8 (.lit (.ofNat 0)), .int .u8 (.lit (.ofNat 0)), .int .u8 (.lit (.ofNat 0)), .int .u8 (.lit (.ofNat 0)), .int .u8 (.lit (.ofNat 0)), .int .u8 (.lit (.ofNat 0)), .int .u8 (.lit (.ofNat 0)), .int .u8 (.lit (.ofNat 0)), .int .u8 (.lit (.ofNat 0)), .int .u8 (.lit (.ofNat 0)), .int .u8 (.lit (.ofNat 0)), .int .u64 (.lit (.ofNat 0)), .int .u64 (.lit (.ofNat 0)), .int .u64 (.lit (.ofNat 0)), .int .u64 (.lit (.ofNat 0))] [(0, 20, (.t 13)), (20, 4, (.t 14))]), none⟩, 96, 0⟩,
⟨8, ⟨(some 16), .b (.call 204 [(.t 12), (.t 15)]), none⟩, 255, 0⟩,
⟨9, ⟨(some 7), .p (.mv (.t 16)), none⟩, 511, 0⟩]) (.seq (.draw [
⟨0, ⟨(some 17), .p (.mv (.t 0)), none⟩, 0, 0⟩,
⟨1, ⟨(some 18), .p (.mv (.t 0)), none⟩, 0, 0⟩,
⟨2, ⟨(some 19), .p (.nilCheck (.t 18)), none⟩, 2, 0⟩,
⟨3, ⟨(some 20), .p (.faddr 1 (.t 19)), none⟩, 6, 0⟩,
⟨4, ⟨(some 21), .p (.faddr 4 (.t 20)), none⟩, 14, 0⟩,
⟨5, ⟨(some 22), .r (.load none (.t 21)), none⟩, 30, 0⟩,
⟨6, ⟨(some 23), .r (.load (some 20) (.t 4)), none⟩, 0, 0⟩,
⟨7, ⟨(some 24), .r (.load (some 4) (.t 5)), none⟩, 0, 0⟩,
⟨8, ⟨(some 25), .p (.build [.int .u8 (.lit (.ofNat 0)), .int .u8 (.lit (.ofNat 0)), .int .u8 (.lit (.ofNat 0)), .int .u8 (.lit (.ofNat 0)), .int .u8 (.lit (.ofNat 0)), .int .u8 (.lit (.ofNat 0)), .int .u8 (.lit (.ofNat 0)), .int .u8 (.lit (.ofNat 0)), .int .u8 (.lit (.ofNat 0)), .int .u8 (.lit (.ofNat 0)), .int .u8 (.lit (.ofNat 0)), .int .u8 (.lit (.ofNat 0)), .int .u8 (.lit (.ofNat 0)), .int .u8 (.lit (.ofNat 0)), .int .u8 (.lit (.ofNat 0)), .int .u8 (.lit (.ofNat 0)), .int .u8 (.lit (.ofNat 0)), .int .u8 (.lit (.ofNat 0)), .int .u8 (.lit (.ofNat 0)), .int .u8 (.lit (.ofNat 0)), .int .u64 (.lit (.ofNat 0)), .int .u64 (.lit (.ofNat 0)), .int .u64 (.lit (.ofNat 0)), .int .u64 (.lit (.ofNat 0))] [(0, 20, (.t 23)), (20, 4, (.t 24))]), none⟩, 192, 0⟩,
⟨9, ⟨(some 26), .p (.build [] []), none⟩, 0, 0⟩,
⟨10, ⟨(some 27), .b (.call 205 [(.t 17), (.t 22), (.t 25), (.t 26)]), none⟩, 1023, 0⟩]) (.seq (.reg [
⟨(some 28), .p (.mv (.t 7)), none⟩,
⟨(some 6), .p (.mv (.t 28)), none⟩]) (.ret))))⟩
theorem fo171 : ∃ func code hint, FnOk Go.Proofs.Tryz.prog TT 171 fa171 func code hint := ⟨Go.Proofs.Tryz.f171, bodyOf Go.Proofs.Tryz.f171, hintL [(1, [(0, 0), (1, 0), (2, 0), (3, 0), (4, 0), (5, 0), (6, 0), (7, 0), (8, 0), (9, 0)]), (2, [(0, 0), (1, 0), (2, 0), (3, 0), (4, 0), (5, 0), (6, 0), (7, 0), (8, 0), (9, 0), (10, 0)])], ⟨Go.Proofs.Tryz.func171, Go.Proofs.Tryz.call171, by kernel_rfl, by kernel_rfl, by kernel_rfl, by kernel_rfl⟩⟩
/- (*quarry/vm.frame).slot -/
def fa172 : AFunc := ⟨117, [], .seq (.reg [
⟨(some 4), .m (.box 24 (.t 1)), none⟩,
⟨(some 5), .m (.box 24 (.t 2)), none⟩]) (.seq (.draw [
⟨0, ⟨(some 11), .p (.mv (.t 0)), none⟩, 0, 0⟩,
⟨1, ⟨(some 12), .p (.nilCheck (.t 11)), none⟩, 1, 0⟩,
⟨2, ⟨(some 13), .p (.faddr 0 (.t 12)), none⟩, 3, 0⟩,
⟨3, ⟨(some 14), .r (.load none (.t 13)), none⟩, 7, 0⟩,
⟨4, ⟨(some 15), .p (.nilCheck (.t 14)), none⟩, 15, 0⟩,
⟨5, ⟨(some 16), .p (.faddr 89 (.t 15)), none⟩, 31, 0⟩,
⟨6, ⟨(some 17), .r (.load none (.t 16)), none⟩, 63, 0⟩,
⟨7, ⟨(some 18), .p (.mv (.t 0)), none⟩, 0, 0⟩,
⟨8, ⟨(some 19), .p (.nilCheck (.t 18)), none⟩, 128, 0⟩,
⟨9, ⟨(some 20), .p (.faddr 1 (.t 19)), none⟩, 384, 0⟩,
⟨10, ⟨(some 21), .p (.faddr 20 (.t 20)), none⟩, 896, 0⟩,
⟨11, ⟨(some 22), .r (.load (some 20) (.t 21)), none⟩, 1920, 0⟩,
⟨12, ⟨(some 23), .r (.load (some 4) (.t 4)), none⟩, 0, 0⟩,
⟨14, ⟨(some 25), .p (.mv (.t 0)), none⟩, 0, 0⟩,
⟨15, ⟨(some 26), .p (.nilCheck (.t 25)), none⟩, 16384, 0⟩,
⟨16, ⟨(some 27), .p (.faddr 0 (.t 26)), none⟩, 49152, 0⟩,
⟨17, ⟨(some 28), .r (.load none (.t 27)), none⟩, 114688, 0⟩,
⟨18, ⟨(some 29), .p (.nilCheck (.t 28)), none⟩, 245760, 0⟩,
⟨19, ⟨(some 30), .p (.faddr 89 (.t 29)), none⟩, 507904, 0⟩,
⟨20, ⟨(some 31), .r (.load none (.t 30)), none⟩, 1032192, 0⟩,
⟨21, ⟨(some 32), .p (.mv (.t 0)), none⟩, 0, 0⟩,
⟨22, ⟨(some 33), .p (.nilCheck (.t 32)), none⟩, 2097152, 0⟩,
⟨23, ⟨(some 34), .p (.faddr 1 (.t 33)), none⟩, 6291456, 0⟩,
⟨24, ⟨(some 35), .p (.faddr 20 (.t 34)), none⟩, 14680064, 0⟩,
⟨25, ⟨(some 36), .r (.load (some 20) (.t 35)), none⟩, 31457280, 0⟩,
⟨26, ⟨(some 37), .r (.load (some 4) (.t 4)), none⟩, 0, 0⟩,
⟨28, ⟨(some 39), .r (.load (some 4) (.t 5)), none⟩, 0, 0⟩,
⟨29, ⟨(some 40), .p (.mv (.t 0)), none⟩, 0, 0⟩,
⟨30, ⟨(some 41), .p (.nilCheck (.t 40)), none⟩, 536870912, 0⟩,
⟨31, ⟨(some 42), .p (.faddr 1 (.t 41)), none⟩, 1610612736, 0⟩,
⟨32, ⟨(some 43), .p (.faddr 65 (.t 42)), none⟩, 3758096384, 0⟩,
⟨33, ⟨(some 44), .r (.load none (.t 43)), none⟩, 8053063680, 0⟩,
⟨35, ⟨(some 6), .m (.alloc 82 [.int .u64 (.lit (.ofNat 0)), .int .u64 (.lit (.ofNat 0)), .int .u64 (.lit (.ofNat 0)), .int .u64 (.lit (.ofNat 0)), .int .u64 (.lit (.ofNat 0)), .int .u64 (.lit (.ofNat 0)), .int .u64 (.lit (.ofNat 0)), .int .u64 (.lit (.ofNat 0)), .int .u64 (.lit (.ofNat 0)), .int .u64 (.lit (.ofNat 0)), .int .u64 (.lit (.ofNat 0)), .int .u64 (.lit (.ofNat 0)), .bool false, .int .u64 (.lit (.ofNat 0))]), none⟩, 0, 2048⟩,
⟨13, ⟨(some 24), .b (.call 206 [(.t 17), (.t 22), (.t 23)]), none⟩, 8191, 0⟩,
⟨27, ⟨(some 38), .b (.call 34 [(.t 31), (.t 36), (.t 37)]), none⟩, 134217727, 0⟩,
⟨34, ⟨(some 45), .p (.build [.int .u64 (.lit (.ofNat 0)), .int .u64 (.lit (.ofNat 0)), .int .u64 (.lit (.ofNat 0)), .int .u64 (.lit (.ofNat 0)), .int .u64 (.lit (.ofNat 0)), .int .u64 (.lit (.ofNat 0)), .int .u64 (.lit (.ofNat 0)), .int .u64 (.lit (.ofNat 0)), .int .u64 (.lit (.ofNat 0)), .int .u64 (.lit (.ofNat 0)), .int .u64 (.lit (.ofNat 0)), .int .u64 (.lit (.ofNat 0)), .bool false, .int .u64 (.lit (.ofNat 0))] [(0, 4, (.t 24)), (4, 4, (.t 38)), (8, 4, (.t 39)), (13, 1, (.t 44))]), none⟩, 17179869183, 0⟩,
⟨36, ⟨none, .b (.store 14 (.t 6) (.t 45)), none⟩, 68719476735, 0⟩]) (.seq (.seq (.reg [
⟨(some 46), .p (.mv (.t 0)), none⟩,
⟨(some 47), .p (.nilCheck (.t 46)), none⟩,
⟨(some 48), .p (.faddr 0 (.t 47)), none⟩,
⟨(some 49), .r (.load none (.t 48)), none⟩,
⟨(some 50), .b (.call 70 [(.t 49), (.c (.w (.s (.int .i64 (.lit (.ofNat 9))))))]), none⟩]) (.cond (.t 50) (.draw [
⟨0, ⟨(some 51), .p (.mv (.t 0)), none⟩, 0, 0⟩,
⟨1, ⟨(some 52), .p (.nilCheck (.t 51)), none⟩, 1, 0⟩,
⟨2, ⟨(some 53), .p (.faddr 0 (.t 52)), none⟩, 3, 0⟩,
⟨3, ⟨(some 54), .r (.load none (.t 53)), none⟩, 7, 0⟩,
⟨4, ⟨(some 55), .p (.nilCheck (.t 54)), none⟩, 15, 0⟩,
⟨5, ⟨(some 56), .p (.faddr 89 (.t 55)), none⟩, 31, 0⟩,
⟨6, ⟨(some 57), .r (.load none (.t 56)), none⟩, 63, 0⟩,
⟨7, ⟨(some 58), .p (.mv (.t 0)), none⟩, 0, 0⟩,
⟨8, ⟨(some 59), .p (.nilCheck (.t 58)), none⟩, 128, 0⟩,
⟨9, ⟨(some 60), .p (.faddr 1 (.t 59)), none⟩, 384, 0⟩,
⟨10, ⟨(some 61), .p (.faddr 20 (.t 60)), none⟩, 896, 0⟩,
⟨11, ⟨(some 62), .r (.load (some 20) (.t 61)), none⟩, 1920, 0⟩,
⟨12, ⟨(some 63), .r (.load (some 4) (.t 4)), none⟩, 0, 0⟩,
⟨13, ⟨(some 64), .b (.call 171 [(.t 57), (.t 62), (.t 63)]), none⟩, 8191, 0⟩,
⟨14, ⟨(some 65), .p (.faddr 12 (.t 6)), none⟩, 16383, 0⟩,
⟨15, ⟨none, .b (.store 1 (.t 65) (.t 64)), none⟩, 32767, 0⟩]) (.skip))) (.seq (.draw [
⟨0, ⟨(some 67), .p (.mv (.t 0)), none⟩, 0, 0⟩,
⟨1, ⟨(some 68), .p (.nilCheck (.t 67)), none⟩, 1, 0⟩,
⟨2, ⟨(some 69), .p (.faddr 0 (.t 68)), none⟩, 3, 0⟩,
⟨3, ⟨(some 70), .r (.load none (.t 69)), none⟩, 7, 0⟩,
⟨4, ⟨(some 71), .p (.nilCheck (.t 70)), none⟩, 15, 0⟩,
⟨5, ⟨(some 72), .p (.faddr 1 (.t 71)), none⟩, 31, 0⟩,
⟨6, ⟨(some 73), .r (.load (some 26) (.t 72)), none⟩, 63, 0⟩,
⟨7, ⟨(some 74), .r (.load (some 14) (.t 6)), none⟩, 0, 0⟩,
⟨8, ⟨(some 75), .b (.call 33 [(.t 73), (.t 74)]), none⟩, 255, 0⟩,
⟨9, ⟨(some 66), .p (.mv (.t 75)), none⟩, 511, 0⟩,
⟨10, ⟨(some 76), .p (.ext (.t 66) 0), none⟩, 1023, 0⟩,
⟨11, ⟨(some 77), .p (.ext (.t 66) 1), none⟩, 1023, 0⟩,
⟨12, ⟨(some 78), .p (.ext (.t 66) 2), none⟩, 1023, 0⟩,
⟨13, ⟨(some 79), .p (.ext (.t 66) 3), none⟩, 1023, 0⟩,
⟨14, ⟨(some 7), .p (.mv (.t 76)), none⟩, 2047, 0⟩,
⟨15, ⟨(some 8), .p (.mv (.t 77)), none⟩, 20479, 0⟩,
⟨16, ⟨(some 9), .p (.mv (.t 78)), none⟩, 57343, 0⟩,
⟨17, ⟨(some 10), .p (.mv (.t 79)), none⟩, 131071, 0⟩]) (.seq (.reg [
⟨(some 80), .p (.mv (.t 0)), none⟩,
⟨(some 81), .p (.mv (.t 7)), none⟩,
⟨(some 82), .p (.mv (.t 10)), none⟩,
⟨(some 83), .b (.call 158 [(.t 80), (.t 81), (.t 82)]), none⟩]) (.seq (.reg [
⟨(some 84), .p (.mv (.t 0)), none⟩,
⟨(some 85), .p (.nilCheck (.t 84)), none⟩,
⟨(some 86), .p (.faddr 0 (.t 85)), none⟩,
⟨(some 87), .r (.load none (.t 86)), none⟩,
⟨(some 88), .p (.nilCheck (.t 87)), none⟩,
⟨(some 89), .p (.faddr 89 (.t 88)), none⟩,
⟨(some 90), .r (.load none (.t 89)), none⟩,
⟨(some 91), .p (.mv (.t 8)), none⟩,
⟨(some 92), .b (.call 207 [(.t 90), (.t 91)]), none⟩]) (.seq (.reg [
⟨(some 93), .p (.mv (.t 0)), none⟩,
⟨(some 94), .p (.nilCheck (.t 93)), none⟩,
⟨(some 95), .p (.faddr 0 (.t 94)), none⟩,
⟨(some 96), .r (.load none (.t 95)), none⟩,
⟨(some 97), .p (.nilCheck (.t 96)), none⟩,
⟨(some 98), .p (.faddr 89 (.t 97)), none⟩,
⟨(some 99), .r (.load none (.t 98)), none⟩,
⟨(some 100), .p (.mv (.t 9)), none⟩,
⟨(some 101), .b (.call 208 [(.t 99), (.t 100)]), none⟩]) (.draw [
⟨0, ⟨(some 102), .p (.mv (.t 0)), none⟩, 0, 0⟩,
⟨1, ⟨(some 103), .p (.nilCheck (.t 102)), none⟩, 1, 0⟩,
⟨2, ⟨(some 104), .p (.faddr 0 (.t 103)), none⟩, 3, 0⟩,
⟨3, ⟨(some 105), .r (.load none (.t 104)), none⟩, 7, 0⟩,
⟨4, ⟨(some 106), .p (.nilCheck (.t 105)), none⟩, 15, 0⟩,
⟨5, ⟨(some 107), .p (.faddr 89 (.t 106)), none⟩, 31, 0⟩,
⟨6, ⟨(some 108), .r (.load none (.t 107)), none⟩, 63, 0⟩,
⟨7, ⟨(some 109), .p (.mv (.t 0)), none⟩, 0, 0⟩,
⟨8, ⟨(some 110), .p (.nilCheck (.t 109)), none⟩, 128, 0⟩,
⟨9, ⟨(some 111), .p (.faddr 1 (.t 110)), none⟩, 384, 0⟩,
⟨10, ⟨(some 112), .p (.faddr 20 (.t 111)), none⟩, 896, 0⟩,
⟨11, ⟨(some 113), .r (.load (some 20) (.t 112)), none⟩, 1920, 0⟩,
⟨12, ⟨(some 114), .r (.load (some 4) (.t 4)), none⟩, 0, 0⟩,
⟨13, ⟨(some 115), .r (.load (some 4) (.t 5)), none⟩, 0, 0⟩,
⟨14, ⟨(some 116), .b (.call 209 [(.t 108), (.t 113), (.t 114), (.t 115)]), none⟩, 16383, 0⟩])))))))⟩
theorem fo172 : ∃ func code hint, FnOk Go.Proofs.Tryz.prog TT 172 fa172 func code hint := ⟨Go.Proofs.Tryz.f172, bodyOf Go.Proofs.Tryz.f172, hintL [(1, [(0, 0), (1, 0), (2, 0), (3, 0), (4, 0), (5, 0), (6, 0), (7, 0), (8, 0), (9, 0), (10, 0), (11, 0), (12, 0), (14, 0), (15, 0), (16, 0), (17, 0), (18, 0), (19, 0), (20, 0), (21, 0), (22, 0), (23, 0), (24, 0), (25, 0), (26, 0), (28, 0), (29, 0), (30, 0), (31, 0), (32, 0), (33, 0), (35, 2048), (13, 0), (27, 0), (34, 0), (36, 0)]), (3, [(0, 0), (1, 0), (2, 0), (3, 0), (4, 0), (5, 0), (6, 0), (7, 0), (8, 0), (9, 0), (10, 0), (11, 0), (12, 0), (13, 0), (14, 0), (15, 0)]), (4, [(0, 0), (1, 0), (2, 0), (3, 0), (4, 0), (5, 0), (6, 0), (7, 0), (8, 0), (9, 0), (10, 0), (11, 0), (12, 0), (13, 0), (14, 0), (15, 0), (16, 0), (17, 0)]), (8, [(0, 0), (1, 0), (2, 0), (3, 0), (4, 0), (5, 0), (6, 0), (7, 0), (8, 0), (9, 0), (10, 0), (11, 0), (12, 0), (13, 0), (14, 0)])], ⟨Go.Proofs.Tryz.func172, Go.Proofs.Tryz.call172, by kernel_rfl, by kernel_rfl, by kernel_rfl, by kernel_rfl⟩⟩
/- (*quarry/state.State).SetTransient -/
def fa174 : AFunc := ⟨19, [], .seq (.reg [
⟨(some 5), .m (.box 30 (.t 1)), none⟩,
⟨(some 6), .m (.box 24 (.t 2)), none⟩,
⟨(some 7), .m (.box 24 (.t 3)), none⟩]) (.draw [
⟨0, ⟨(some 8), .p (.mv (.t 0)), none⟩, 0, 0⟩,
⟨1, ⟨(some 9), .p (.mv (.t 0)), none⟩, 0, 0⟩,
⟨2, ⟨(some 10), .p (.nilCheck (.t 9)), none⟩, 2, 0⟩,
⟨3, ⟨(some 11), .p (.faddr 1 (.t 10)), none⟩, 6, 0⟩,
⟨4, ⟨(some 12), .p (.faddr 5 (.t 11)), none⟩, 14, 0⟩,
⟨5, ⟨(some 13), .r (.load none (.t 12)), none⟩, 30, 0⟩,
⟨6, ⟨(some 14), .r (.load (some 20) (.t 5)), none⟩, 0, 0⟩,
⟨7, ⟨(some 15), .r (.load (some 4) (.t 6)), none⟩, 0, 0⟩,
⟨8, ⟨(some 16), .p (.build [.int .u8 (.lit (.ofNat 0)), .int .u8 (.lit (.ofNat 0)), .int .u8 (.lit (.ofNat 0)), .int .u8 (.lit (.ofNat 0)), .int .u8 (.lit (.ofNat 0)), .int .u8 (.lit (.ofNat 0)), .int .u8 (.lit (.ofNat 0)), .int .u8 (.lit (.ofNat 0)), .int .u8 (.lit (.ofNat 0)), .int .u8 (.lit (.ofNat 0)), .int .u8 (.lit (.ofNat 0)), .int .u8 (.lit (.ofNat 0)), .int .u8 (.lit (.ofNat 0)), .int .u8 (.lit (.ofNat 0)), .int .u8 (.lit (.ofNat 0)), .int .u8 (.lit (.ofNat 0)), .int .u8 (.lit (.ofNat 0)), .int .u8 (.lit (.ofNat 0)), .int .u8 (.lit (.ofNat 0)), .int .u8 (.lit (.ofNat 0)), .int .u64 (.lit (.ofNat 0)), .int .u64 (.lit (.ofNat 0)), .int .u64 (.lit (.ofNat 0)), .int .u64 (.lit (.ofNat 0))] [(0, 20, (.t 14)), (20, 4, (.t 15))]), none⟩, 192, 0⟩,
⟨9, ⟨(some 17), .r (.load (some 4) (.t 7)), none⟩, 0, 0⟩,
⟨10, ⟨(some 18), .b (.call 211 [(.t 8), (.t 13), (.t 16), (.t 17)]), none⟩, 1023, 0⟩])⟩
theorem fo174 : ∃ func code hint, FnOk Go.Proofs.Tryz.prog TT 174 fa174 func code hint := ⟨Go.Proofs.Tryz.f174, bodyOf Go.Proofs.Tryz.f174, hintL [(1, [(0, 0), (1, 0), (2, 0), (3, 0), (4, 0), (5, 0), (6, 0), (7, 0), (8, 0), (9, 0), (10, 0)])], ⟨Go.Proofs.Tryz.func174, Go.Proofs.Tryz.call174, by kernel_rfl, by kernel_rfl, by kernel_rfl, by kernel_rfl⟩⟩
/- (*quarry/vm.frame).sends -/
def fa179 : AFunc := ⟨145, [], .seq (.reg [
⟨(some 14), .p (.mv (.t 0)), none⟩,
⟨(some 15), .b (.call 150 [(.t 14)]), none⟩,
⟨(some 16), .p (.mv (.t 0)), none⟩,
⟨(some 17), .b (.call 164 [(.t 16)]), none⟩,
⟨(some 4), .m (.alloc 24 [.int .u64 (.lit (.ofNat 0)), .int .u64 (.lit (.ofNat 0)), .int .u64 (.lit (.ofNat 0)), .int .u64 (.lit (.ofNat 0))]), none⟩,
⟨(some 5), .m (.alloc 30 (lrep (.int .u8 (.lit (.ofNat 0))) 20)), none⟩,
⟨none, .b (.store 4 (.t 4) (.t 15)), none⟩,
⟨none, .b (.store 20 (.t 5) (.t 17)), none⟩]) (.seq (.reg [
⟨(some 18), .p (.build [.int .u64 (.lit (.ofNat 0)), .int .u64 (.lit (.ofNat 0)), .int .u64 (.lit (.ofNat 0)), .int .u64 (.lit (.ofNat 0))] []), none⟩,
⟨(some 6), .m (.alloc 24 [.int .u64 (.lit (.ofNat 0)), .int .u64 (.lit (.ofNat 0)), .int .u64 (.lit (.ofNat 0)), .int .u64 (.lit (.ofNat 0))]), none⟩,
⟨none, .b (.store 4 (.t 6) (.t 18)), none⟩]) (.seq (.seq (.reg [
⟨(some 19), .p (.mv (.t 1)), none⟩,
⟨(some 20), .b (.cmp 0 .int (.t 19) (.c (.w (.s (.int .i64 (.lit (.ofNat 241))))))), none⟩,
⟨(some 21), .p (.mv (.t 20)), none⟩,
⟨(some 22), .p (.mv (.t 1)), some (21, false)⟩,
⟨(some 23), .b (.cmp 0 .int (.t 22) (.c (.w (.s (.int .i64 (.lit (.ofNat 242))))))), some (21, false)⟩,
⟨(some 24), .p (.pick (.t 21) (.c (.w (.s (.bool true)))) (.t 23)), none⟩]) (.cond (.t 24) (.reg [
⟨(some 25), .p (.mv (.t 0)), none⟩,
⟨(some 26), .b (.call 150 [(.t 25)]), none⟩,
⟨none, .b (.store 4 (.t 6) (.t 26)), none⟩]) (.skip))) (.seq (.reg [
⟨(some 27), .p (.mv (.t 0)), none⟩,
⟨(some 28), .b (.call 157 [(.t 27)]), none⟩,
⟨(some 29), .p (.mv (.t 0)), none⟩,
⟨(some 30), .b (.call 157 [(.t 29)]), none⟩,
⟨(some 7), .m (.alloc 226 [.int .u64 (.lit (.ofNat 0)), .int .u64 (.lit (.ofNat 0)), .int .u64 (.lit (.ofNat 0)), .int .u64 (.lit (.ofNat 0)), .int .u64 (.lit (.ofNat 0)), .int .u64 (.lit (.ofNat 0)), .int .u64 (.lit (.ofNat 0)), .int .u64 (.lit (.ofNat 0))]), none⟩,
⟨(some 8), .m (.alloc 226 [.int .u64 (.lit (.ofNat 0)), .int .u64 (.lit (.ofNat 0)), .int .u64 (.lit (.ofNat 0)), .int .u64 (.lit (.ofNat 0)), .int .u64 (.lit (.ofNat 0)), .int .u64 (.lit (.ofNat 0)), .int .u64 (.lit (.ofNat 0)), .int .u64 (.lit (.ofNat 0))]), none⟩,
⟨none, .b (.store 8 (.t 7) (.t 28)), none⟩,
⟨none, .b (.store 8 (.t 8) (.t 30)), none⟩]) (.seq (.reg [
⟨(some 31), .r (.load (some 4) (.t 6)), none⟩,
⟨(some 32), .p (.build [.int .u64 (.lit (.ofNat 0)), .int .u64 (.lit (.ofNat 0)), .int .u64 (.lit (.ofNat 0)), .int .u64 (.lit (.ofNat 0))] []), none⟩,
⟨(some 33), .b (.cmp 1 (.agg (.one (.arr 4 22 .u64))) (.t 31) (.t 32)), none⟩,
⟨(some 9), .p (.mv (.t 33)), none⟩]) (.seq (.reg [
⟨(some 34), .p (.mv (.t 0)), none⟩,
⟨(some 35), .r (.load (some 8) (.t 7)), none⟩,
⟨(some 36), .r (.load (some 8) (.t 8)), none⟩,
⟨(some 37), .m (.bslice 226 2 [.int .u64 (.lit (.ofNat 0)), .int .u64 (.lit (.ofNat 0)), .int .u64 (.lit (.ofNat 0)), .int .u64 (.lit (.ofNat 0)), .int .u64 (.lit (.ofNat 0)), .int .u64 (.lit (.ofNat 0)), .int .u64 (.lit (.ofNat 0)), .int .u64 (.lit (.ofNat 0))] [(0, 8, (.t 35)), (8, 8, (.t 36))]), none⟩,
⟨(some 38), .b (.call 160 [(.t 34), (.t 37)]), none⟩]) (.seq (.reg [
⟨(some 39), .p (.mv (.t 0)), none⟩,
⟨(some 40), .r (.load (some 20) (.t 5)), none⟩,
⟨(some 41), .b (.call 165 [(.t 39), (.t 40)]), none⟩]) (.seq (.seq (.reg [
⟨(some 42), .p (.mv (.t 9)), none⟩]) (.cond (.t 42) (.reg [
⟨(some 43), .p (.mv (.t 0)), none⟩,
⟨(some 44), .b (.call 118 [(.t 43), (.c (.w (.s (.int .u64 (.lit (.ofNat 9000))))))]), none⟩]) (.skip))) (.seq (.seq (.reg [
⟨(some 45), .p (.mv (.t 1)), none⟩,
⟨(some 46), .b (.cmp 0 .int (.t 45) (.c (.w (.s (.int .i64 (.lit (.ofNat 241))))))), none⟩,
⟨(some 47), .p (.mv (.t 46)), none⟩,
⟨(some 48), .p (.mv (.t 0)), some (47, true)⟩,
⟨(some 49), .r (.load (some 20) (.t 5)), some (47, true)⟩,
⟨(some 50), .p (.mv (.t 9)), some (47, true)⟩,
⟨(some 51), .b (.call 215 [(.t 48), (.t 49), (.t 50)]), some (47, true)⟩,
⟨(some 52), .p (.pick (.t 47) (.t 51) (.c (.w (.s (.bool false))))), none⟩]) (.cond (.t 52) (.reg [
⟨(some 53), .p (.mv (.t 0)), none⟩,
⟨(some 54), .b (.call 118 [(.t 53), (.c (.w (.s (.int .u64 (.lit (.ofNat 25000))))))]), none⟩]) (.skip))) (.seq (.draw [
⟨0, ⟨(some 56), .p (.mv (.t 0)), none⟩, 0, 0⟩,
⟨1, ⟨(some 57), .p (.nilCheck (.t 56)), none⟩, 1, 0⟩,
⟨2, ⟨(some 58), .p (.faddr 0 (.t 57)), none⟩, 3, 0⟩,
⟨3, ⟨(some 59), .r (.load none (.t 58)), none⟩, 7, 0⟩,
⟨4, ⟨(some 60), .p (.nilCheck (.t 59)), none⟩, 15, 0⟩,
⟨5, ⟨(some 61), .p (.faddr 1 (.t 60)), none⟩, 31, 0⟩,
⟨6, ⟨(some 62), .r (.load (some 26) (.t 61)), none⟩, 63, 0⟩,
⟨7, ⟨(some 63), .p (.mv (.t 0)), none⟩, 0, 0⟩,
⟨8, ⟨(some 64), .p (.nilCheck (.t 63)), none⟩, 128, 0⟩,
⟨9, ⟨(some 65), .p (.faddr 1 (.t 64)), none⟩, 384, 0⟩,
⟨10, ⟨(some 66), .p (.faddr 65 (.t 65)), none⟩, 896, 0⟩,
⟨11, ⟨(some 67), .r (.load none (.t 66)), none⟩, 1920, 0⟩,
⟨12, ⟨(some 68), .r (.load (some 4) (.t 4)), none⟩, 0, 0⟩,
⟨13, ⟨(some 69), .b (.call 23 [(.t 62), (.t 67), (.t 68)]), none⟩, 8191, 0⟩,
⟨14, ⟨(some 55), .p (.mv (.t 69)), none⟩, 16383, 0⟩,
⟨15, ⟨(some 70), .p (.ext (.t 55) 0), none⟩, 32767, 0⟩,
⟨16, ⟨(some 71), .p (.ext (.t 55) 1), none⟩, 32767, 0⟩,
⟨17, ⟨(some 10), .p (.mv (.t 70)), none⟩, 65535, 0⟩,
⟨18, ⟨(some 11), .p (.mv (.t 71)), none⟩, 262143, 0⟩]) (.seq (.reg [
⟨(some 72), .p (.mv (.t 11)), none⟩,
⟨(some 73), .b (.call 116 [(.t 72)]), none⟩]) (.seq (.reg [
⟨(some 74), .p (.mv (.t 0)), none⟩,
⟨(some 75), .p (.mv (.t 10)), none⟩,
⟨(some 76), .b (.call 118 [(.t 74), (.t 75)]), none⟩]) (.seq (.seq (.reg [
⟨(some 77), .p (.mv (.t 9)), none⟩]) (.cond (.t 77) (.reg [
⟨(some 78), .p (.mv (.t 10)), none⟩,
⟨(some 79), .p (.ar 0 (.t 78) (.c (.w (.s (.int .u64 (.lit (.ofNat 2300))))))), none⟩,
⟨(some 10), .p (.mv (.t 79)), none⟩]) (.skip))) (.seq (.draw [
⟨0, ⟨(some 80), .p (.mv (.t 0)), none⟩, 0, 0⟩,
⟨1, ⟨(some 81), .p (.nilCheck (.t 80)), none⟩, 1, 0⟩,
⟨2, ⟨(some 82), .p (.faddr 1 (.t 81)), none⟩, 3, 0⟩,
⟨3, ⟨(some 83), .p (.faddr 20 (.t 82)), none⟩, 7, 0⟩,
⟨4, ⟨(some 84), .r (.load (some 20) (.t 83)), none⟩, 15, 0⟩,
⟨5, ⟨(some 85), .r (.load (some 20) (.t 5)), none⟩, 0, 0⟩,
⟨6, ⟨(some 86), .r (.load (some 20) (.t 5)), none⟩, 0, 0⟩,
⟨7, ⟨(some 87), .r (.load (some 4) (.t 6)), none⟩, 0, 0⟩,
⟨8, ⟨(some 88), .p (.mv (.t 0)), none⟩, 0, 0⟩,
⟨9, ⟨(some 89), .r (.load (some 8) (.t 7)), none⟩, 0, 0⟩,
⟨12, ⟨(some 92), .p (.mv (.t 10)), none⟩, 0, 0⟩,
⟨13, ⟨(some 93), .p (.mv (.t 0)), none⟩, 0, 0⟩,
⟨14, ⟨(some 94), .p (.nilCheck (.t 93)), none⟩, 8192, 0⟩,
⟨15, ⟨(some 95), .p (.faddr 1 (.t 94)), none⟩, 24576, 0⟩,
⟨16, ⟨(some 96), .p (.faddr 66 (.t 95)), none⟩, 57344, 0⟩,
⟨17, ⟨(some 97), .r (.load none (.t 96)), none⟩, 122880, 0⟩,
⟨18, ⟨(some 98), .p (.mv (.t 0)), none⟩, 0, 0⟩,
⟨19, ⟨(some 99), .p (.nilCheck (.t 98)), none⟩, 262144, 0⟩,
⟨20, ⟨(some 100), .p (.faddr 1 (.t 99)), none⟩, 786432, 0⟩,
⟨21, ⟨(some 101), .p (.faddr 67 (.t 100)), none⟩, 1835008, 0⟩,
⟨22, ⟨(some 102), .r (.load none (.t 101)), none⟩, 3932160, 0⟩,
⟨23, ⟨(some 103), .p (.ar 0 (.t 102) (.c (.w (.s (.int .i64 (.lit (.ofNat 1))))))), none⟩, 8126464, 0⟩,
⟨25, ⟨(some 12), .m (.alloc 130 [.int .u8 (.lit (.ofNat 0)), .int .u8 (.lit (.ofNat 0)), .int .u8 (.lit (.ofNat 0)), .int .u8 (.lit (.ofNat 0)), .int .u8 (.lit (.ofNat 0)), .int .u8 (.lit (.ofNat 0)), .int .u8 (.lit (.ofNat 0)), .int .u8 (.lit (.ofNat 0)), .int .u8 (.lit (.ofNat 0)), .int .u8 (.lit (.ofNat 0)), .int .u8 (.lit (.ofNat 0)), .int .u8 (.lit (.ofNat 0)), .int .u8 (.lit (.ofNat 0)), .int .u8 (.lit (.ofNat 0)), .int .u8 (.lit (.ofNat 0)), .int .u8 (.lit (.ofNat 0)), .int .u8 (.lit (.ofNat 0)), .int .u8 (.lit (.ofNat 0)), .int .u8 (.lit (.ofNat 0)), .int .u8 (.lit (.ofNat 0)), .int .u8 (.lit (.ofNat 0)), .int .u8 (.lit (.ofNat 0)), .int .u8 (.lit (.ofNat 0)), .int .u8 (.lit (.ofNat 0)), .int .u8 (.lit (.ofNat 0)), .int .u8 (.lit (.ofNat 0)), .int .u8 (.lit (.ofNat 0)), .int .u8 (.lit (.ofNat 0)), .int .u8 (.lit (.ofNat 0)), .int .u8 (.lit (.ofNat 0)), .int .u8 (.lit (.ofNat 0)), .int .u8 (.lit (.ofNat 0)), .int .u8 (.lit (.ofNat 0)), .int .u8 (.lit (.ofNat 0)), .int .u8 (.lit (.ofNat 0)), .int .u8 (.lit (.ofNat 0)), .int .u8 (.lit (.ofNat 0)), .int .u8 (.lit (.ofNat 0)), .int .u8 (.lit (.ofNat 0)), .int .u8 (.lit (.ofNat 0)), .int .u8 (.lit (.ofNat 0)), .int .u8 (.lit (.ofNat 0)), .int .u8 (.lit (.ofNat 0)), .int .u8 (.lit (.ofNat 0)), .int .u8 (.lit (.ofNat 0)), .int .u8 (.lit (.ofNat 0)), .int .u8 (.lit (.ofNat 0)), .int .u8 (.lit (.ofNat 0)), .int .u8 (.lit (.ofNat 0)), .int .u8 (.lit (.ofNat 0)), .int .u8 (.lit (.ofNat 0)), .int .u8 (.lit (.ofNat 0)), .int .u8 (.lit (.ofNat 0)), .int .u8 (.lit (.ofNat 0)), .int .u8 (.lit (.ofNat 0)), .int .u8 (.lit (.ofNat 0)), .int .u8 (.lit (.ofNat 0)), .int .u8 (.lit (.ofNat 0)), .int .u8 (.lit (.ofNat 0)), .int .u8 (.lit (.ofNat 0)), .int .u64 (.lit (.ofNat 0)), .int .u64 (.lit (.ofNat 0)), .int .u64 (.lit (.ofNat 0)), .int .u64 (.lit (.ofNat 0)), .nils, .int .u64 (.lit (.ofNat 0)), .bool false, .int .i64 (.lit (.ofNat 0))]), none⟩, 0, 2048⟩,
⟨10, ⟨(some 90), .b (.call 162 [(.t 88), (.t 89)]), none⟩, 768, 0⟩,
⟨11, ⟨(some 91), .b (.append 5 1 1 (.c (.w (.s (.nils)))) (.t 90)), none⟩, 1792, 0⟩,
⟨24, ⟨(some 104), .p (.build [.int .u8 (.lit (.ofNat 0)), .int .u8 (.lit (.ofNat 0)), .int .u8 (.lit (.ofNat 0)), .int .u8 (.lit (.ofNat 0)), .int .u8 (.lit (.ofNat 0)), .int .u8 (.lit (.ofNat 0)), .int .u8 (.lit (.ofNat 0)), .int .u8 (.lit (.ofNat 0)), .int .u8 (.lit (.ofNat 0)), .int .u8 (.lit (.ofNat 0)), .int .u8 (.lit (.ofNat 0)), .int .u8 (.lit (.ofNat 0)), .int .u8 (.lit (.ofNat 0)), .int .u8 (.lit (.ofNat 0)), .int .u8 (.lit (.ofNat 0)), .int .u8 (.lit (.ofNat 0)), .int .u8 (.lit (.ofNat 0)), .int .u8 (.lit (.ofNat 0)), .int .u8 (.lit (.ofNat 0)), .int .u8 (.lit (.ofNat 0)), .int .u8 (.lit (.ofNat 0)), .int .u8 (.lit (.ofNat 0)), .int .u8 (.lit (.ofNat 0)), .int .u8 (.lit (.ofNat 0)), .int .u8 (.lit (.ofNat 0)), .int .u8 (.lit (.ofNat 0)), .int .u8 (.lit (.ofNat 0)), .int .u8 (.lit (.ofNat 0)), .int .u8 (.lit (.ofNat 0)), .int .u8 (.lit (.ofNat 0)), .int .u8 (.lit (.ofNat 0)), .int .u8 (.lit (.ofNat 0)), .int .u8 (.lit (.ofNat 0)), .int .u8 (.lit (.ofNat 0)), .int .u8 (.lit (.ofNat 0)), .int .u8 (.lit (.ofNat 0)), .int .u8 (.lit (.ofNat 0)), .int .u8 (.lit (.ofNat 0)), .int .u8 (.lit (.ofNat 0)), .int .u8 (.lit (.ofNat 0)), .int .u8 (.lit (.ofNat 0)), .int .u8 (.lit (.ofNat 0)), .int .u8 (.lit (.ofNat 0)), .int .u8 (.lit (.ofNat 0)), .int .u8 (.lit (.ofNat 0)), .int .u8 (.lit (.ofNat 0)), .int .u8 (.lit (.ofNat 0)), .int .u8 (.lit (.ofNat 0)), .int .u8 (.lit (.ofNat 0)), .int .u8 (.lit (.ofNat 0)), .int .u8 (.lit (.ofNat 0)), .int .u8 (.lit (.ofNat 0)), .int .u8 (.lit (.ofNat 0)), .int .u8 (.lit (.ofNat 0)), .int .u8 (.lit (.ofNat 0)), .int .u8 (.lit (.ofNat 0)), .int .u8 (.lit (.ofNat 0)), .int .u8 (.lit (.ofNat 0)), .int .u8 (.lit (.ofNat 0)), .int .u8 (.lit (.ofNat 0)), .int .u64 (.lit (.ofNat 0)), .int .u64 (.lit (.ofNat 0)), .int .u64 (.lit (.ofNat 0)), .int .u64 (.lit (.ofNat 0)), .nils, .int .u64 (.lit (.ofNat 0)), .bool false, .int .i64 (.lit (.ofNat 0))] [(0, 20, (.t 84)), (20, 20, (.t 85)), (40, 20, (.t 86)), (60, 4, (.t 87)), (64, 1, (.t 91)), (65, 1, (.t 92)), (66, 1, (.t 97)), (67, 1, (.t 103))]), none⟩, 16777215, 0⟩,
⟨26, ⟨none, .b (.store 68 (.t 12) (.t 104)), none⟩, 67108863, 0⟩]) (.seq (.reg [
⟨(some 105), .p (.mv (.t 10)), none⟩,
⟨(some 106), .b (.call 68 [(.t 105)]), none⟩,
⟨(some 13), .m (.alloc 132 [.int .i64 (.lit (.ofNat 0)), .nils, .int .u64 (.lit (.ofNat 0)), .int .u8 (.lit (.ofNat 0)), .int .u8 (.lit (.ofNat 0)), .int .u8 (.lit (.ofNat 0)), .int .u8 (.lit (.ofNat 0)), .int .u8 (.lit (.ofNat 0)), .int .u8 (.lit (.ofNat 0)), .int .u8 (.lit (.ofNat 0)), .int .u8 (.lit (.ofNat 0)), .int .u8 (.lit (.ofNat 0)), .int .u8 (.lit (.ofNat 0)), .int .u8 (.lit (.ofNat 0)), .int .u8 (.lit (.ofNat 0)), .int .u8 (.lit (.ofNat 0)), .int .u8 (.lit (.ofNat 0)), .int .u8 (.lit (.ofNat 0)), .int .u8 (.lit (.ofNat 0)), .int .u8 (.lit (.ofNat 0)), .int .u8 (.lit (.ofNat 0)), .int .u8 (.lit (.ofNat 0)), .int .u8 (.lit (.ofNat 0))]), none⟩,
⟨none, .b (.store 23 (.t 13) (.t 106)), none⟩]) (.seq (.seq (.reg [
⟨(some 107), .p (.mv (.t 0)), none⟩,
⟨(some 108), .p (.nilCheck (.t 107)), none⟩,
⟨(some 109), .p (.faddr 1 (.t 108)), none⟩,
⟨(some 110), .p (.faddr 67 (.t 109)), none⟩,
⟨(some 111), .r (.load none (.t 110)), none⟩,
⟨(some 112), .b (.cmp 2 .int (.t 111) (.c (.w (.s (.int .i64 (.lit (.ofNat 1024))))))), none⟩]) (.cond (.t 112) (.reg [
⟨(some 113), .p (.mv (.t 0)), none⟩,
⟨(some 114), .p (.mv (.t 1)), none⟩,
⟨(some 115), .r (.load (some 68) (.t 12)), none⟩,
⟨(some 116), .b (.call 218 [(.t 113), (.t 114), (.t 115)]), none⟩,
⟨none, .b (.store 23 (.t 13) (.t 116)), none⟩]) (.skip))) (.seq (.draw [
⟨0, ⟨(some 117), .p (.mv (.t 0)), none⟩, 0, 0⟩,
⟨1, ⟨(some 118), .p (.nilCheck (.t 117)), none⟩, 1, 0⟩,
⟨2, ⟨(some 119), .p (.faddr 1 (.t 118)), none⟩, 3, 0⟩,
⟨3, ⟨(some 120), .p (.faddr 65 (.t 119)), none⟩, 7, 0⟩,
⟨4, ⟨(some 121), .r (.load none (.t 120)), none⟩, 15, 0⟩,
⟨5, ⟨(some 122), .p (.faddr 2 (.t 13)), none⟩, 0, 0⟩,
⟨6, ⟨(some 123), .r (.load none (.t 122)), none⟩, 32, 0⟩,
⟨7, ⟨(some 124), .p (.ar 0 (.t 121) (.t 123)), none⟩, 127, 0⟩,
⟨8, ⟨(some 125), .p (.nilCheck (.t 117)), none⟩, 255, 0⟩,
⟨9, ⟨(some 126), .p (.faddr 1 (.t 125)), none⟩, 511, 0⟩,
⟨10, ⟨(some 127), .p (.faddr 65 (.t 126)), none⟩, 1023, 0⟩,
⟨11, ⟨none, .b (.store 1 (.t 127) (.t 124)), none⟩, 2047, 0⟩]) (.seq (.reg [
⟨(some 128), .p (.mv (.t 0)), none⟩,
⟨(some 129), .p (.faddr 1 (.t 13)), none⟩,
⟨(some 130), .r (.load none (.t 129)), none⟩,
⟨(some 131), .p (.nilCheck (.t 128)), none⟩,
⟨(some 132), .p (.faddr 72 (.t 131)), none⟩,
⟨none, .b (.store 1 (.t 132) (.t 130)), none⟩]) (.seq (.draw [
⟨0, ⟨(some 133), .p (.mv (.t 0)), none⟩, 0, 0⟩,
⟨1, ⟨(some 134), .r (.load (some 8) (.t 8)), none⟩, 0, 0⟩,
⟨3, ⟨(some 136), .p (.faddr 1 (.t 13)), none⟩, 0, 0⟩,
⟨4, ⟨(some 137), .r (.load none (.t 136)), none⟩, 8, 0⟩,
⟨2, ⟨(some 135), .b (.call 162 [(.t 133), (.t 134)]), none⟩, 3, 0⟩,
⟨5, ⟨(some 138), .b (.copy 1 (.t 135) (.t 137)), none⟩, 31, 0⟩]) (.reg [
⟨(some 139), .p (.mv (.t 0)), none⟩,
⟨(some 140), .p (.faddr 0 (.t 13)), none⟩,
⟨(some 141), .r (.load none (.t 140)), none⟩,
⟨(some 142), .b (.cmp 0 .int (.t 141) (.c (.w (.s (.int .i64 (.lit (.ofNat 0))))))), none⟩,
⟨(some 143), .b (.call 153 [(.t 142)]), none⟩,
⟨(some 144), .b (.call 125 [(.t 139), (.t 143)]), none⟩])))))))))))))))))))⟩
theorem fo179 : ∃ func code hint, FnOk Go.Proofs.Tryz.prog TT 179 fa179 func code hint := ⟨Go.Proofs.Tryz.f179, bodyOf Go.Proofs.Tryz.f179, hintL [(12, [(0, 0), (1, 0), (2, 0), (3, 0), (4, 0), (5, 0), (6, 0), (7, 0), (8, 0), (9, 0), (10, 0), (11, 0), (12, 0), (13, 0), (14, 0), (15, 0), (16, 0), (17, 0), (18, 0)]), (17, [(0, 0), (1, 0), (2, 0), (3, 0), (4, 0), (5, 0), (6, 0), (7, 0), (8, 0), (9, 0), (12, 0), (13, 0), (14, 0), (15, 0), (16, 0), (17, 0), (18, 0), (19, 0), (20, 0), (21, 0), (22, 0), (23, 0), (25, 2048), (10, 0), (11, 0), (24, 0), (26, 0)]), (21, [(0, 0), (1, 0), (2, 0), (3, 0), (4, 0), (5, 0), (6, 0), (7, 0), (8, 0), (9, 0), (10, 0), (11, 0)]), (23, [(0, 0), (1, 0), (3, 0), (4, 0), (2, 0), (5, 0)])], ⟨Go.Proofs.Tryz.func179, Go.Proofs.Tryz.call179, by kernel_rfl, by kernel_rfl, by kernel_rfl, by kernel_rfl⟩⟩
/- quarry/word.Bits -/
def fa182 : AFunc := ⟨19, [.tmp 2], .seq (.reg [
⟨(some 1), .m (.box 24 (.t 0)), none⟩,
⟨(some 2), .p (.mv (.c (.w (.s (.int .i64 (.lit (.ofNat 0))))))), none⟩]) (.seq (.seq (.reg [
⟨(some 3), .p (.mv (.c (.w (.s (.int .i64 (.lit (.ofNat 3))))))), none⟩]) (.block 0 (.loop (.seq (.seq (.reg [
⟨(some 4), .p (.mv (.t 3)), none⟩,
⟨(some 5), .b (.cmp 5 .int (.t 4) (.c (.w (.s (.int .i64 (.lit (.ofNat 0))))))), none⟩]) (.cond (.t 5) (.skip) (.exit 0))) (.seq (.block 1 (.seq (.reg [
⟨(some 8), .p (.mv (.t 3)), none⟩,
⟨(some 9), .p (.iaddrA 4 1 (.t 1) (.t 8)), none⟩,
⟨(some 10), .r (.load none (.t 9)), none⟩,
⟨(some 11), .b (.cmp 1 .int (.t 10) (.c (.w (.s (.int .u64 (.lit (.ofNat 0))))))), none⟩]) (.cond (.t 11) (.seq (.reg [
⟨(some 12), .p (.mv (.t 3)), none⟩,
⟨(some 13), .p (.ar 2 (.c (.w (.s (.int .i64 (.lit (.ofNat 64)))))) (.t 12)), none⟩,
⟨(some 14), .p (.mv (.t 3)), none⟩,
⟨(some 15), .p (.iaddrA 4 1 (.t 1) (.t 14)), none⟩,
⟨(some 16), .r (.load none (.t 15)), none⟩,
⟨(some 17), .b (.call 224 [(.t 16)]), none⟩,
⟨(some 18), .p (.ar 0 (.t 13) (.t 17)), none⟩,
⟨(some 2), .p (.mv (.t 18)), none⟩]) (.ret)) (.skip)))) (.reg [
⟨(some 6), .p (.mv (.t 3)), none⟩,
⟨(some 7), .p (.ar 1 (.t 6) (.c (.w (.s (.int .i64 (.lit (.ofNat 1))))))), none⟩,
⟨(some 3), .p (.mv (.t 7)), none⟩])))))) (.seq (.reg [
⟨(some 2), .p (.mv (.c (.w (.s (.int .i64 (.lit (.ofNat 0))))))), none⟩]) (.ret)))⟩
theorem fo182 : ∃ func code hint, FnOk Go.Proofs.Tryz.prog TT 182 fa182 func code hint := ⟨Go.Proofs.Tryz.f182, bodyOf Go.Proofs.Tryz.f182, hintL [], ⟨Go.Proofs.Tryz.func182, Go.Proofs.Tryz.call182, by kernel_rfl, by kernel_rfl, by kernel_rfl, by kernel_rfl⟩⟩
/- quarry/pre.Price -/
def fa183 : AFunc := ⟨86, [.tmp 6, .tmp 7], .seq (.reg [
⟨(some 6), .p (.mv (.c (.w (.s (.int .u64 (.lit (.ofNat 0))))))), none⟩,
⟨(some 7), .p (.mv (.c (.w (.s (.int .i64 (.lit (.ofNat 0))))))), none⟩]) (.seq (.seq (.reg [
⟨(some 12), .p (.mv (.t 1)), none⟩,
⟨(some 13), .b (.cmp 2 .int (.t 12) (.c (.w (.s (.int .i64 (.lit (.ofNat 1))))))), none⟩,
⟨(some 14), .p (.mv (.t 13)), none⟩,
⟨(some 15), .p (.mv (.t 1)), some (14, false)⟩,
⟨(some 16), .b (.cmp 4 .int (.t 15) (.c (.w (.s (.int .i64 (.lit (.ofNat 10))))))), some (14, false)⟩,
⟨(some 17), .p (.pick (.t 14) (.c (.w (.s (.bool true)))) (.t 16)), none⟩,
⟨(some 18), .p (.mv (.t 17)), none⟩,
⟨(some 19), .p (.mv (.t 0)), some (18, false)⟩,
⟨(some 20), .p (.mv (.t 1)), some (18, false)⟩,
⟨(some 21), .p (.conv .u8 (.t 20)), some (18, false)⟩,
⟨(some 22), .p (.build (lrep (.int .u8 (.lit (.ofNat 0))) 20) [(19, 1, (.t 21))]), some (18, false)⟩,
⟨(some 23), .b (.call 84 [(.t 19), (.t 22)]), some (18, false)⟩,
⟨(some 24), .p (.mv (.t 1)), some (18, false)⟩,
⟨(some 25), .b (.cmp 1 .int (.t 23) (.t 24)), some (18, false)⟩,
⟨(some 26), .p (.pick (.t 18) (.c (.w (.s (.bool true)))) (.t 25)), none⟩]) (.cond (.t 26) (.seq (.reg [
⟨(some 6), .p (.mv (.c (.w (.s (.int .u64 (.lit (.ofNat 0))))))), none⟩,
⟨(some 7), .p (.mv (.c (.w (.s (.int .i64 (.lit (.ofNat 1))))))), none⟩]) (.ret)) (.skip))) (.seq (.reg [
⟨(some 27), .p (.mv (.t 2)), none⟩,
⟨(some 28), .p (.len (.t 27)), none⟩,
⟨(some 29), .p (.ar 0 (.t 28) (.c (.w (.s (.int .i64 (.lit (.ofNat 32))))))), none⟩,
⟨(some 30), .p (.ar 1 (.t 29) (.c (.w (.s (.int .i64 (.lit (.ofNat 1))))))), none⟩,
⟨(some 31), .p (.dv (.t 30) (.c (.w (.s (.int .i64 (.lit (.ofNat 32))))))), none⟩,
⟨(some 8), .p (.mv (.t 31)), none⟩]) (.seq (.reg [
⟨(some 32), .p (.mv (.t 0)), none⟩,
⟨(some 33), .b (.cmp 5 .int (.t 32) (.c (.w (.s (.int .i64 (.lit (.ofNat 7))))))), none⟩,
⟨(some 9), .m (.alloc 4 [.bool false]), none⟩,
⟨none, .b (.store 1 (.t 9) (.t 33)), none⟩]) (.seq (.reg [
⟨(some 34), .p (.mkfunc 225 [(.t 9)]), none⟩,
⟨(some 10), .p (.mv (.t 34)), none⟩]) (.seq (.reg [
⟨(some 11), .p (.mv (.c (.w (.s (.int .u64 (.lit (.ofNat 0))))))), none⟩]) (.seq (.seq (.reg [
⟨(some 35), .p (.mv (.t 1)), none⟩]) (.block 0 (.seq (.reg [
⟨(some 37), .b (.cmp 0 .int (.t 35) (.c (.w (.s (.int .i64 (.lit (.ofNat 1))))))), none⟩,
⟨(some 36), .p (.mv (.t 37)), none⟩]) (.cond (.t 36) (.reg [
⟨(some 11), .p (.mv (.c (.w (.s (.int .u64 (.lit (.ofNat 3000))))))), none⟩]) (.seq (.reg [
⟨(some 39), .b (.cmp 0 .int (.t 35) (.c (.w (.s (.int .i64 (.lit (.ofNat 2))))))), none⟩,
⟨(some 38), .p (.mv (.t 39)), none⟩]) (.cond (.t 38) (.reg [
⟨(some 40), .p (.mv (.t 8)), none⟩,
⟨(some 41), .b (.call 226 [(.c (.w (.s (.int .u64 (.lit (.ofNat 60)))))), (.c (.w (.s (.int .u64 (.lit (.ofNat 12)))))), (.t 40)]), none⟩,
⟨(some 11), .p (.mv (.t 41)), none⟩]) (.seq (.reg [
⟨(some 43), .b (.cmp 0 .int (.t 35) (.c (.w (.s (.int .i64 (.lit (.ofNat 3))))))), none⟩,
⟨(some 42), .p (.mv (.t 43)), none⟩]) (.cond (.t 42) (.reg [
⟨(some 44), .p (.mv (.t 8)), none⟩,
⟨(some 45), .b (.call 226 [(.c (.w (.s (.int .u64 (.lit (.ofNat 600)))))), (.c (.w (.s (.int .u64 (.lit (.ofNat 120)))))), (.t 44)]), none⟩,
⟨(some 11), .p (.mv (.t 45)), none⟩]) (.seq (.reg [
⟨(some 47), .b (.cmp 0 .int (.t 35) (.c (.w (.s (.int .i64 (.lit (.ofNat 4))))))), none⟩,
⟨(some 46), .p (.mv (.t 47)), none⟩]) (.cond (.t 46) (.reg [
⟨(some 48), .p (.mv (.t 8)), none⟩,
⟨(some 49), .b (.call 226 [(.c (.w (.s (.int .u64 (.lit (.ofNat 15)))))), (.c (.w (.s (.int .u64 (.lit (.ofNat 3)))))), (.t 48)]), none⟩,
⟨(some 11), .p (.mv (.t 49)), none⟩]) (.seq (.reg [
⟨(some 51), .b (.cmp 0 .int (.t 35) (.c (.w (.s (.int .i64 (.lit (.ofNat 5))))))), none⟩,
⟨(some 50), .p (.mv (.t 51)), none⟩]) (.cond (.t 50) (.reg [
⟨(some 52), .p (.mv (.t 2)), none⟩,
⟨(some 53), .b (.call 227 [(.t 52)]), none⟩,
⟨(some 54), .p (.mv (.t 0)), none⟩,
⟨(some 55), .b (.cmp 5 .int (.t 54) (.c (.w (.s (.int .i64 (.lit (.ofNat 9))))))), none⟩,
⟨(some 56), .b (.call 228 [(.t 53), (.t 55)]), none⟩,
⟨(some 11), .p (.mv (.t 56)), none⟩]) (.seq (.reg [
⟨(some 58), .b (.cmp 0 .int (.t 35) (.c (.w (.s (.int .i64 (.lit (.ofNat 6))))))), none⟩,
⟨(some 57), .p (.mv (.t 58)), none⟩]) (.cond (.t 57) (.reg [
⟨(some 59), .p (.mv (.t 10)), none⟩,
⟨(some 60), .b (.callv (.t 59) [(.c (.w (.s (.int .u64 (.lit (.ofNat 150)))))), (.c (.w (.s (.int .u64 (.lit (.ofNat 500))))))]), none⟩,
⟨(some 11), .p (.mv (.t 60)), none⟩]) (.seq (.reg [
⟨(some 62), .b (.cmp 0 .int (.t 35) (.c (.w (.s (.int .i64 (.lit (.ofNat 7))))))), none⟩,
⟨(some 61), .p (.mv (.t 62)), none⟩]) (.cond (.t 61) (.reg [
⟨(some 63), .p (.mv (.t 10)), none⟩,
⟨(some 64), .b (.callv (.t 63) [(.c (.w (.s (.int .u64 (.lit (.ofNat 6000)))))), (.c (.w (.s (.int .u64 (.lit (.ofNat 40000))))))]), none⟩,
⟨(some 11), .p (.mv (.t 64)), none⟩]) (.seq (.reg [
⟨(some 66), .b (.cmp 0 .int (.t 35) (.c (.w (.s (.int .i64 (.lit (.ofNat 8))))))), none⟩,
⟨(some 65), .p (.mv (.t 66)), none⟩]) (.cond (.t 65) (.reg [
⟨(some 67), .p (.mv (.t 10)), none⟩,
⟨(some 68), .b (.callv (.t 67) [(.c (.w (.s (.int .u64 (.lit (.ofNat 45000)))))), (.c (.w (.s (.int .u64 (.lit (.ofNat 100000))))))]), none⟩,
⟨(some 69), .p (.mv (.t 10)), none⟩,
⟨(some 70), .b (.callv (.t 69) [(.c (.w (.s (.int .u64 (.lit (.ofNat 34000)))))), (.c (.w (.s (.int .u64 (.lit (.ofNat 80000))))))]), none⟩,
⟨(some 71), .p (.mv (.t 2)), none⟩,
⟨(some 72), .p (.len (.t 71)), none⟩,
⟨(some 73), .p (.dv (.t 72) (.c (.w (.s (.int .i64 (.lit (.ofNat 192))))))), none⟩,
⟨(some 74), .b (.call 226 [(.t 68), (.t 70), (.t 73)]), none⟩,
⟨(some 11), .p (.mv (.t 74)), none⟩]) (.seq (.reg [
⟨(some 76), .b (.cmp 0 .int (.t 35) (.c (.w (.s (.int .i64 (.lit (.ofNat 9))))))), none⟩,
⟨(some 75), .p (.mv (.t 76)), none⟩]) (.cond (.t 75) (.seq (.reg [
⟨(some 77), .p (.mv (.t 2)), none⟩,
⟨(some 78), .p (.len (.t 77)), none⟩,
⟨(some 79), .b (.cmp 0 .int (.t 78) (.c (.w (.s (.int .i64 (.lit (.ofNat 213))))))), none⟩]) (.cond (.t 79) (.reg [
⟨(some 80), .p (.mv (.t 2)), none⟩,
⟨(some 81), .p (.slice 1 (.t 80) none (some (.c (.w (.s (.int .i64 (.lit (.ofNat 4)))))))), none⟩,
⟨(some 82), .b (.call 229 [(.t 81)]), none⟩,
⟨(some 11), .p (.mv (.t 82)), none⟩]) (.skip))) (.seq (.reg [
⟨(some 84), .b (.cmp 0 .int (.t 35) (.c (.w (.s (.int .i64 (.lit (.ofNat 10))))))), none⟩,
⟨(some 83), .p (.mv (.t 84)), none⟩]) (.cond (.t 83) (.reg [
⟨(some 11), .p (.mv (.c (.w (.s (.int .u64 (.lit (.ofNat 50000))))))), none⟩]) (.skip))))))))))))))))))))))) (.seq (.reg [
⟨(some 85), .p (.mv (.t 11)), none⟩,
⟨(some 6), .p (.mv (.t 85)), none⟩,
⟨(some 7), .p (.mv (.c (.w (.s (.int .i64 (.lit (.ofNat 0))))))), none⟩]) (.ret))))))))⟩
theorem fo183 : ∃ func code hint, FnOk Go.Proofs.Tryz.prog TT 183 fa183 func code hint := ⟨Go.Proofs.Tryz.f183, bodyOf Go.Proofs.Tryz.f183, hintL [], ⟨Go.Proofs.Tryz.func183, Go.Proofs.Tryz.call183, by kernel_rfl, by kernel_rfl, by kernel_rfl, by kernel_rfl⟩⟩
/- quarry/pre.copied -/
def fa187 : AFunc := ⟨6, [.tmp 2, .tmp 3], .seq (.reg [
⟨(some 2), .p (.mv (.c (.w (.s (.nils))))), none⟩,
⟨(some 3), .p (.mv (.c (.w (.s (.bool false))))), none⟩]) (.seq (.reg [
⟨(some 4), .p (.mv (.t 0)), none⟩,
⟨(some 5), .b (.call 236 [(.t 4)]), none⟩,
⟨(some 2), .p (.mv (.t 5)), none⟩,
⟨(some 3), .p (.mv (.c (.w (.s (.bool true))))), none⟩]) (.ret))⟩
theorem fo187 : ∃ func code hint, FnOk Go.Proofs.Tryz.prog TT 187 fa187 func code hint := ⟨Go.Proofs.Tryz.f187, bodyOf Go.Proofs.Tryz.f187, hintL [], ⟨Go.Proofs.Tryz.func187, Go.Proofs.Tryz.call187, by kernel_rfl, by kernel_rfl, by kernel_rfl, by kernel_rfl⟩⟩
/- quarry/word.Wide -/
def fa194 : AFunc := ⟨72, [.cell 4 (some 4), .cell 5 (some 4)], .seq (.reg [
⟨(some 2), .m (.box 24 (.t 0)), none⟩,
⟨(some 3), .m (.box 24 (.t 1)), none⟩,
⟨(some 4), .m (.alloc 24 [.int .u64 (.lit (.ofNat 0)), .int .u64 (.lit (.ofNat 0)), .int .u64 (.lit (.ofNat 0)), .int .u64 (.lit (.ofNat 0))]), none⟩,
⟨(some 5), .m (.alloc 24 [.int .u64 (.lit (.ofNat 0)), .int .u64 (.lit (.ofNat 0)), .int .u64 (.lit (.ofNat 0)), .int .u64 (.lit (.ofNat 0))]), none⟩]) (.seq (.reg [
⟨(some 6), .m (.alloc 312 [.int .u64 (.lit (.ofNat 0)), .int .u64 (.lit (.ofNat 0)), .int .u64 (.lit (.ofNat 0)), .int .u64 (.lit (.ofNat 0)), .int .u64 (.lit (.ofNat 0)), .int .u64 (.lit (.ofNat 0)), .int .u64 (.lit (.ofNat 0)), .int .u64 (.lit (.ofNat 0))]), none⟩]) (.seq (.seq (.reg [
⟨(some 15), .r (.load (some 4) (.t 2)), none⟩,
⟨(some 16), .p (.mv (.c (.w (.s (.int .i64 (.lit (.ofNat 0))))))), none⟩]) (.block 0 (.loop (.seq (.reg [
⟨(some 17), .b (.cmp 2 .int (.t 16) (.c (.w (.s (.int .i64 (.lit (.ofNat 4))))))), none⟩]) (.seq (.cond (.t 17) (.skip) (.exit 0)) (.seq (.block 1 (.seq (.reg [
⟨(some 18), .p (.mv (.t 16)), none⟩,
⟨(some 19), .p (.index none 4 1 (.t 15) (.t 16)), none⟩,
⟨(some 7), .p (.mv (.t 18)), none⟩,
⟨(some 8), .p (.mv (.t 19)), none⟩]) (.seq (.reg [
⟨(some 9), .p (.mv (.c (.w (.s (.int .u64 (.lit (.ofNat 0))))))), none⟩]) (.seq (.seq (.reg [
⟨(some 20), .r (.load (some 4) (.t 3)), none⟩,
⟨(some 21), .p (.mv (.c (.w (.s (.int .i64 (.lit (.ofNat 0))))))), none⟩]) (.block 2 (.loop (.seq (.reg [
⟨(some 22), .b (.cmp 2 .int (.t 21) (.c (.w (.s (.int .i64 (.lit (.ofNat 4))))))), none⟩]) (.seq (.cond (.t 22) (.skip) (.exit 2)) (.seq (.block 3 (.seq (.reg [
⟨(some 23), .p (.mv (.t 21)), none⟩,
⟨(some 24), .p (.index none 4 1 (.t 20) (.t 21)), none⟩,
⟨(some 10), .p (.mv (.t 23)), none⟩,
⟨(some 11), .p (.mv (.t 24)), none⟩]) (.seq (.reg [
⟨(some 26), .p (.mv (.t 8)), none⟩,
⟨(some 27), .p (.mv (.t 11)), none⟩,
⟨(some 28), .b (.call 255 [(.t 26), (.t 27)]), none⟩,
⟨(some 25), .p (.mv (.t 28)), none⟩,
⟨(some 29), .p (.ext (.t 25) 0), none⟩,
⟨(some 30), .p (.ext (.t 25) 1), none⟩,
⟨(some 12), .p (.mv (.t 29)), none⟩,
⟨(some 13), .p (.mv (.t 30)), none⟩]) (.seq (.reg [
⟨(some 14), .p (.mv (.c (.w (.s (.int .u64 (.lit (.ofNat 0))))))), none⟩]) (.seq (.reg [
⟨(some 32), .p (.mv (.t 13)), none⟩,
⟨(some 33), .p (.mv (.t 7)), none⟩,
⟨(some 34), .p (.mv (.t 10)), none⟩,
⟨(some 35), .p (.ar 0 (.t 33) (.t 34)), none⟩,
⟨(some 36), .p (.iaddrA 8 1 (.t 6) (.t 35)), none⟩,
⟨(some 37), .r (.load none (.t 36)), none⟩,
⟨(some 38), .b (.call 134 [(.t 32), (.t 37), (.c (.w (.s (.int .u64 (.lit (.ofNat 0))))))]), none⟩,
⟨(some 31), .p (.mv (.t 38)), none⟩,
⟨(some 39), .p (.ext (.t 31) 0), none⟩,
⟨(some 40), .p (.ext (.t 31) 1), none⟩,
⟨(some 13), .p (.mv (.t 39)), none⟩,
⟨(some 14), .p (.mv (.t 40)), none⟩]) (.seq (.reg [
⟨(some 41), .p (.mv (.t 12)), none⟩,
⟨(some 42), .p (.mv (.t 14)), none⟩,
⟨(some 43), .p (.ar 0 (.t 41) (.t 42)), none⟩,
⟨(some 12), .p (.mv (.t 43)), none⟩]) (.seq (.reg [
⟨(some 45), .p (.mv (.t 13)), none⟩,
⟨(some 46), .p (.mv (.t 9)), none⟩,
⟨(some 47), .b (.call 134 [(.t 45), (.t 46), (.c (.w (.s (.int .u64 (.lit (.ofNat 0))))))]), none⟩,
⟨(some 44), .p (.mv (.t 47)), none⟩,
⟨(some 48), .p (.ext (.t 44) 0), none⟩,
⟨(some 49), .p (.ext (.t 44) 1), none⟩,
⟨(some 13), .p (.mv (.t 48)), none⟩,
⟨(some 14), .p (.mv (.t 49)), none⟩]) (.reg [
⟨(some 50), .p (.mv (.t 7)), none⟩,
⟨(some 51), .p (.mv (.t 10)), none⟩,
⟨(some 52), .p (.ar 0 (.t 50) (.t 51)), none⟩,
⟨(some 53), .p (.mv (.t 13)), none⟩,
⟨(some 54), .p (.mv (.t 12)), none⟩,
⟨(some 55), .p (.mv (.t 14)), none⟩,
⟨(some 56), .p (.ar 0 (.t 54) (.t 55)), none⟩,
⟨(some 57), .p (.iaddrA 8 1 (.t 6) (.t 52)), none⟩,
⟨none, .b (.store 1 (.t 57) (.t 53)), none⟩,
⟨(some 9), .p (.mv (.t 56)), none⟩])))))))) (.reg [
⟨(some 58), .p (.ar 0 (.t 21) (.c (.w (.s (.int .i64 (.lit (.ofNat 1))))))), none⟩,
⟨(some 21), .p (.mv (.t 58)), none⟩]))))))) (.reg [
⟨(some 59), .p (.mv (.t 7)), none⟩,
⟨(some 60), .p (.ar 0 (.t 59) (.c (.w (.s (.int .i64 (.lit (.ofNat 4))))))), none⟩,
⟨(some 61), .p (.mv (.t 9)), none⟩,
⟨(some 62), .p (.iaddrA 8 1 (.t 6) (.t 60)), none⟩,
⟨none, .b (.store 1 (.t 62) (.t 61)), none⟩]))))) (.reg [
⟨(some 63), .p (.ar 0 (.t 16) (.c (.w (.s (.int .i64 (.lit (.ofNat 1))))))), none⟩,
⟨(some 16), .p (.mv (.t 63)), none⟩]))))))) (.seq (.draw [
⟨0, ⟨(some 64), .p (.aslice 4 1 (.t 5) none none), none⟩, 0, 0⟩,
⟨1, ⟨(some 65), .p (.aslice 8 1 (.t 6) none (some (.c (.w (.s (.int .i64 (.lit (.ofNat 4)))))))), none⟩, 0, 0⟩,
⟨2, ⟨(some 66), .b (.copy 1 (.t 64) (.t 65)), none⟩, 3, 0⟩]) (.seq (.draw [
⟨0, ⟨(some 67), .p (.aslice 4 1 (.t 4) none none), none⟩, 0, 0⟩,
⟨1, ⟨(some 68), .p (.aslice 8 1 (.t 6) (some (.c (.w (.s (.int .i64 (.lit (.ofNat 4))))))) none), none⟩, 0, 0⟩,
⟨2, ⟨(some 69), .b (.copy 1 (.t 67) (.t 68)), none⟩, 3, 0⟩]) (.seq (.reg [
⟨(some 70), .r (.load (some 4) (.t 4)), none⟩,
⟨(some 71), .r (.load (some 4) (.t 5)), none⟩,
⟨none, .b (.store 4 (.t 4) (.t 70)), none⟩,
⟨none, .b (.store 4 (.t 5) (.t 71)), none⟩]) (.ret))))))⟩
theorem fo194 : ∃ func code hint, FnOk Go.Proofs.Tryz.prog TT 194 fa194 func code hint := ⟨Go.Proofs.Tryz.f194, bodyOf Go.Proofs.Tryz.f194, hintL [(18, [(0, 0), (1, 0), (2, 0)]), (19, [(0, 0), (1, 0), (2, 0)])], ⟨Go.Proofs.Tryz.func194, Go.Proofs.Tryz.call194, by kernel_rfl, by kernel_rfl, by kernel_rfl, by kernel_rfl⟩⟩
/- quarry/gas.counted -/
def fa200 : AFunc := ⟨17, [.tmp 2, .tmp 3], .seq (.reg [
⟨(some 1), .m (.box 24 (.t 0)), none⟩,
⟨(some 2), .p (.mv (.c (.w (.s (.int .u64 (.lit (.ofNat 0))))))), none⟩,
⟨(some 3), .p (.mv (.c (.w (.s (.bool false))))), none⟩]) (.seq (.reg [
⟨(some 7), .r (.load (some 4) (.t 1)), none⟩,
⟨(some 8), .b (.call 43 [(.t 7)]), none⟩,
⟨(some 6), .p (.mv (.t 8)), none⟩,
⟨(some 9), .p (.ext (.t 6) 0), none⟩,
⟨(some 10), .p (.ext (.t 6) 1), none⟩,
⟨(some 4), .p (.mv (.t 9)), none⟩,
⟨(some 5), .p (.mv (.t 10)), none⟩]) (.seq (.reg [
⟨(some 11), .p (.mv (.t 4)), none⟩,
⟨(some 12), .p (.mv (.t 5)), none⟩,
⟨(some 13), .p (.mv (.t 12)), none⟩,
⟨(some 14), .p (.mv (.t 4)), some (13, true)⟩,
⟨(some 15), .b (.cmp 3 .int (.t 14) (.c (.w (.s (.int .u64 (.lit (.ofNat 2199023255552))))))), some (13, true)⟩,
⟨(some 16), .p (.pick (.t 13) (.t 15) (.c (.w (.s (.bool false))))), none⟩,
⟨(some 2), .p (.mv (.t 11)), none⟩,
⟨(some 3), .p (.mv (.t 16)), none⟩]) (.ret)))⟩
theorem fo200 : ∃ func code hint, FnOk Go.Proofs.Tryz.prog TT 200 fa200 func code hint := ⟨Go.Proofs.Tryz.f200, bodyOf Go.Proofs.Tryz.f200, hintL [], ⟨Go.Proofs.Tryz.func200, Go.Proofs.Tryz.call200, by kernel_rfl, by kernel_rfl, by kernel_rfl, by kernel_rfl⟩⟩
/- quarry/gas.words -/
def fa201 : AFunc := ⟨10, [.tmp 2], .seq (.reg [
⟨(some 2), .p (.mv (.c (.w (.s (.int .u64 (.lit (.ofNat 0))))))), none⟩]) (.seq (.reg [
⟨(some 3), .p (.mv (.t 0)), none⟩,
⟨(some 4), .p (.dv (.t 3) (.c (.w (.s (.int .u64 (.lit (.ofNat 32))))))), none⟩,
⟨(some 5), .p (.mv (.t 0)), none⟩,
⟨(some 6), .p (.md (.t 5) (.c (.w (.s (.int .u64 (.lit (.ofNat 32))))))), none⟩,
⟨(some 7), .p (.ar 0 (.t 6) (.c (.w (.s (.int .u64 (.lit (.ofNat 31))))))), none⟩,
⟨(some 8), .p (.dv (.t 7) (.c (.w (.s (.int .u64 (.lit (.ofNat 32))))))), none⟩,
⟨(some 9), .p (.ar 0 (.t 4) (.t 8)), none⟩,
⟨(some 2), .p (.mv (.t 9)), none⟩]) (.ret))⟩
theorem fo201 : ∃ func code hint, FnOk Go.Proofs.Tryz.prog TT 201 fa201 func code hint := ⟨Go.Proofs.Tryz.f201, bodyOf Go.Proofs.Tryz.f201, hintL [], ⟨Go.Proofs.Tryz.func201, Go.Proofs.Tryz.call201, by kernel_rfl, by kernel_rfl, by kernel_rfl, by kernel_rfl⟩⟩
end
end Go.Sy
