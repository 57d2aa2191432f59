/- The table of functions. -/
import Derived.Test.YtnfoaablgldjcaaGreatGFn0
import Derived.Test.YtnfoaablgldjcaaGreatGFn1
import Derived.Test.YtnfoaablgldjcaaGreatGFn2
set_option linter.unusedVariables false
set_option maxRecDepth 100000
set_option maxHeartbeats 0
namespace Go.Sy
noncomputable section
def FT : Tree AFunc2 := (.node (.node (.node (.node (.node (.node (.node (.node (.node .leaf (some fb255) .leaf) none .leaf) (some fb63) (.node .leaf (some fb191) .leaf)) (some fb31) (.node (.node .leaf (some fb159) .leaf) (some fb95) .leaf)) (some fb15) (.node .leaf (some fb47) (.node (.node .leaf (some fb175) .leaf) (some fb111) .leaf))) none (.node (.node (.node (.node (.node .leaf (some fb263) .leaf) none .leaf) (some fb71) (.node .leaf (some fb199) .leaf)) (some fb39) (.node (.node .leaf (some fb167) .leaf) none .leaf)) (some fb23) (.node (.node .leaf (some fb87) (.node .leaf (some fb215) .leaf)) (some fb55) (.node .leaf (some fb119) .leaf)))) (some fb3) (.node (.node (.node (.node (.node .leaf (some fb131) .leaf) (some fb67) .leaf) (some fb35) (.node (.node .leaf (some fb163) .leaf) (some fb99) .leaf)) (some fb19) (.node (.node .leaf (some fb83) .leaf) (some fb51) .leaf)) (some fb11) (.node (.node (.node .leaf none (.node .leaf (some fb203) .leaf)) (some fb43) .leaf) (some fb27) .leaf))) none (.node (.node (.node (.node (.node (.node (.node .leaf (some fb257) .leaf) none .leaf) none .leaf) (some fb33) (.node (.node .leaf (some fb161) .leaf) none .leaf)) (some fb17) (.node (.node (.node .leaf (some fb145) .leaf) (some fb81) .leaf) none (.node .leaf (some fb113) .leaf))) (some fb9) (.node (.node (.node .leaf none (.node .leaf (some fb201) .leaf)) (some fb41) (.node .leaf (some fb105) .leaf)) (some fb25) (.node (.node (.node .leaf (some fb153) .leaf) none .leaf) (some fb57) .leaf))) none (.node (.node (.node (.node .leaf (some fb69) (.node .leaf (some fb197) .leaf)) (some fb37) .leaf) (some fb21) (.node (.node (.node .leaf (some fb149) .leaf) (some fb85) (.node .leaf (some fb213) .leaf)) none .leaf)) (some fb13) (.node (.node (.node .leaf none (.node .leaf (some fb205) .leaf)) none (.node .leaf (some fb109) .leaf)) none (.node (.node .leaf (some fb93) .leaf) (some fb61) (.node .leaf none (.node .leaf (some fb253) .leaf))))))) none (.node (.node (.node (.node (.node (.node (.node .leaf (some fb128) .leaf) (some fb64) (.node .leaf (some fb192) .leaf)) (some fb32) (.node (.node .leaf (some fb160) .leaf) none (.node .leaf (some fb224) .leaf))) (some fb16) (.node (.node .leaf (some fb80) .leaf) none (.node (.node .leaf (some fb176) .leaf) (some fb112) .leaf))) (some fb8) (.node (.node (.node .leaf none (.node .leaf (some fb200) .leaf)) none (.node .leaf (some fb104) .leaf)) (some fb24) (.node (.node .leaf (some fb88) (.node .leaf (some fb216) .leaf)) (some fb56) (.node (.node .leaf (some fb184) .leaf) (some fb120) .leaf)))) (some fb4) (.node (.node (.node (.node (.node .leaf (some fb132) .leaf) (some fb68) .leaf) (some fb36) (.node .leaf (some fb100) .leaf)) (some fb20) (.node (.node .leaf (some fb84) .leaf) none (.node (.node .leaf (some fb180) .leaf) (some fb116) .leaf))) (some fb12) (.node (.node .leaf (some fb44) .leaf) (some fb28) (.node (.node (.node .leaf (some fb156) .leaf) (some fb92) .leaf) (some fb60) .leaf)))) none (.node (.node (.node (.node (.node (.node .leaf (some fb130) .leaf) (some fb66) .leaf) (some fb34) (.node (.node .leaf (some fb162) .leaf) (some fb98) .leaf)) (some fb18) (.node (.node (.node .leaf (some fb146) .leaf) (some fb82) .leaf) none (.node .leaf (some fb114) .leaf))) (some fb10) (.node (.node (.node .leaf (some fb74) (.node .leaf (some fb202) .leaf)) (some fb42) (.node .leaf none (.node .leaf (some fb234) .leaf))) (some fb26) (.node (.node .leaf (some fb90) .leaf) (some fb58) (.node .leaf (some fb122) .leaf)))) (some fb6) (.node (.node (.node .leaf (some fb38) .leaf) (some fb22) (.node (.node .leaf (some fb86) (.node .leaf (some fb214) .leaf)) none (.node .leaf (some fb118) .leaf))) (some fb14) (.node (.node .leaf (some fb46) .leaf) none (.node (.node (.node .leaf (some fb158) .leaf) (some fb94) .leaf) none (.node .leaf none (.node .leaf (some fb254) .leaf))))))))
theorem fOk : F2Ok Go.Proofs.Tryz.prog TT FT := f2Ok_of (Tree.allNode (Tree.allNode (Tree.allNode (Tree.allNode (Tree.allNode (Tree.allNode (Tree.allNode (Tree.allNode (Tree.allNode Tree.allLeaf (allS fp255) Tree.allLeaf) allN Tree.allLeaf) (allS fp63) (Tree.allNode Tree.allLeaf (allS fp191) Tree.allLeaf)) (allS fp31) (Tree.allNode (Tree.allNode Tree.allLeaf (allS fp159) Tree.allLeaf) (allS fp95) Tree.allLeaf)) (allS fp15) (Tree.allNode Tree.allLeaf (allS fp47) (Tree.allNode (Tree.allNode Tree.allLeaf (allS fp175) Tree.allLeaf) (allS fp111) Tree.allLeaf))) allN (Tree.allNode (Tree.allNode (Tree.allNode (Tree.allNode (Tree.allNode Tree.allLeaf (allS fp263) Tree.allLeaf) allN Tree.allLeaf) (allS fp71) (Tree.allNode Tree.allLeaf (allS fp199) Tree.allLeaf)) (allS fp39) (Tree.allNode (Tree.allNode Tree.allLeaf (allS fp167) Tree.allLeaf) allN Tree.allLeaf)) (allS fp23) (Tree.allNode (Tree.allNode Tree.allLeaf (allS fp87) (Tree.allNode Tree.allLeaf (allS fp215) Tree.allLeaf)) (allS fp55) (Tree.allNode Tree.allLeaf (allS fp119) Tree.allLeaf)))) (allS fp3) (Tree.allNode (Tree.allNode (Tree.allNode (Tree.allNode (Tree.allNode Tree.allLeaf (allS fp131) Tree.allLeaf) (allS fp67) Tree.allLeaf) (allS fp35) (Tree.allNode (Tree.allNode Tree.allLeaf (allS fp163) Tree.allLeaf) (allS fp99) Tree.allLeaf)) (allS fp19) (Tree.allNode (Tree.allNode Tree.allLeaf (allS fp83) Tree.allLeaf) (allS fp51) Tree.allLeaf)) (allS fp11) (Tree.allNode (Tree.allNode (Tree.allNode Tree.allLeaf allN (Tree.allNode Tree.allLeaf (allS fp203) Tree.allLeaf)) (allS fp43) Tree.allLeaf) (allS fp27) Tree.allLeaf))) allN (Tree.allNode (Tree.allNode (Tree.allNode (Tree.allNode (Tree.allNode (Tree.allNode (Tree.allNode Tree.allLeaf (allS fp257) Tree.allLeaf) allN Tree.allLeaf) allN Tree.allLeaf) (allS fp33) (Tree.allNode (Tree.allNode Tree.allLeaf (allS fp161) Tree.allLeaf) allN Tree.allLeaf)) (allS fp17) (Tree.allNode (Tree.allNode (Tree.allNode Tree.allLeaf (allS fp145) Tree.allLeaf) (allS fp81) Tree.allLeaf) allN (Tree.allNode Tree.allLeaf (allS fp113) Tree.allLeaf))) (allS fp9) (Tree.allNode (Tree.allNode (Tree.allNode Tree.allLeaf allN (Tree.allNode Tree.allLeaf (allS fp201) Tree.allLeaf)) (allS fp41) (Tree.allNode Tree.allLeaf (allS fp105) Tree.allLeaf)) (allS fp25) (Tree.allNode (Tree.allNode (Tree.allNode Tree.allLeaf (allS fp153) Tree.allLeaf) allN Tree.allLeaf) (allS fp57) Tree.allLeaf))) allN (Tree.allNode (Tree.allNode (Tree.allNode (Tree.allNode Tree.allLeaf (allS fp69) (Tree.allNode Tree.allLeaf (allS fp197) Tree.allLeaf)) (allS fp37) Tree.allLeaf) (allS fp21) (Tree.allNode (Tree.allNode (Tree.allNode Tree.allLeaf (allS fp149) Tree.allLeaf) (allS fp85) (Tree.allNode Tree.allLeaf (allS fp213) Tree.allLeaf)) allN Tree.allLeaf)) (allS fp13) (Tree.allNode (Tree.allNode (Tree.allNode Tree.allLeaf allN (Tree.allNode Tree.allLeaf (allS fp205) Tree.allLeaf)) allN (Tree.allNode Tree.allLeaf (allS fp109) Tree.allLeaf)) allN (Tree.allNode (Tree.allNode Tree.allLeaf (allS fp93) Tree.allLeaf) (allS fp61) (Tree.allNode Tree.allLeaf allN (Tree.allNode Tree.allLeaf (allS fp253) Tree.allLeaf))))))) allN (Tree.allNode (Tree.allNode (Tree.allNode (Tree.allNode (Tree.allNode (Tree.allNode (Tree.allNode Tree.allLeaf (allS fp128) Tree.allLeaf) (allS fp64) (Tree.allNode Tree.allLeaf (allS fp192) Tree.allLeaf)) (allS fp32) (Tree.allNode (Tree.allNode Tree.allLeaf (allS fp160) Tree.allLeaf) allN (Tree.allNode Tree.allLeaf (allS fp224) Tree.allLeaf))) (allS fp16) (Tree.allNode (Tree.allNode Tree.allLeaf (allS fp80) Tree.allLeaf) allN (Tree.allNode (Tree.allNode Tree.allLeaf (allS fp176) Tree.allLeaf) (allS fp112) Tree.allLeaf))) (allS fp8) (Tree.allNode (Tree.allNode (Tree.allNode Tree.allLeaf allN (Tree.allNode Tree.allLeaf (allS fp200) Tree.allLeaf)) allN (Tree.allNode Tree.allLeaf (allS fp104) Tree.allLeaf)) (allS fp24) (Tree.allNode (Tree.allNode Tree.allLeaf (allS fp88) (Tree.allNode Tree.allLeaf (allS fp216) Tree.allLeaf)) (allS fp56) (Tree.allNode (Tree.allNode Tree.allLeaf (allS fp184) Tree.allLeaf) (allS fp120) Tree.allLeaf)))) (allS fp4) (Tree.allNode (Tree.allNode (Tree.allNode (Tree.allNode (Tree.allNode Tree.allLeaf (allS fp132) Tree.allLeaf) (allS fp68) Tree.allLeaf) (allS fp36) (Tree.allNode Tree.allLeaf (allS fp100) Tree.allLeaf)) (allS fp20) (Tree.allNode (Tree.allNode Tree.allLeaf (allS fp84) Tree.allLeaf) allN (Tree.allNode (Tree.allNode Tree.allLeaf (allS fp180) Tree.allLeaf) (allS fp116) Tree.allLeaf))) (allS fp12) (Tree.allNode (Tree.allNode Tree.allLeaf (allS fp44) Tree.allLeaf) (allS fp28) (Tree.allNode (Tree.allNode (Tree.allNode Tree.allLeaf (allS fp156) Tree.allLeaf) (allS fp92) Tree.allLeaf) (allS fp60) Tree.allLeaf)))) allN (Tree.allNode (Tree.allNode (Tree.allNode (Tree.allNode (Tree.allNode (Tree.allNode Tree.allLeaf (allS fp130) Tree.allLeaf) (allS fp66) Tree.allLeaf) (allS fp34) (Tree.allNode (Tree.allNode Tree.allLeaf (allS fp162) Tree.allLeaf) (allS fp98) Tree.allLeaf)) (allS fp18) (Tree.allNode (Tree.allNode (Tree.allNode Tree.allLeaf (allS fp146) Tree.allLeaf) (allS fp82) Tree.allLeaf) allN (Tree.allNode Tree.allLeaf (allS fp114) Tree.allLeaf))) (allS fp10) (Tree.allNode (Tree.allNode (Tree.allNode Tree.allLeaf (allS fp74) (Tree.allNode Tree.allLeaf (allS fp202) Tree.allLeaf)) (allS fp42) (Tree.allNode Tree.allLeaf allN (Tree.allNode Tree.allLeaf (allS fp234) Tree.allLeaf))) (allS fp26) (Tree.allNode (Tree.allNode Tree.allLeaf (allS fp90) Tree.allLeaf) (allS fp58) (Tree.allNode Tree.allLeaf (allS fp122) Tree.allLeaf)))) (allS fp6) (Tree.allNode (Tree.allNode (Tree.allNode Tree.allLeaf (allS fp38) Tree.allLeaf) (allS fp22) (Tree.allNode (Tree.allNode Tree.allLeaf (allS fp86) (Tree.allNode Tree.allLeaf (allS fp214) Tree.allLeaf)) allN (Tree.allNode Tree.allLeaf (allS fp118) Tree.allLeaf))) (allS fp14) (Tree.allNode (Tree.allNode Tree.allLeaf (allS fp46) Tree.allLeaf) allN (Tree.allNode (Tree.allNode (Tree.allNode Tree.allLeaf (allS fp158) Tree.allLeaf) (allS fp94) Tree.allLeaf) allN (Tree.allNode Tree.allLeaf allN (Tree.allNode Tree.allLeaf (allS fp254) Tree.allLeaf))))))))
def da73 : ADef := ⟨48, [.cell 6 (some 23)], .reg [
⟨(some 4), .m (.box 129 (.t 1)), none⟩,
⟨(some 6), .m (.alloc 131 [.int .i64 (.lit (.ofNat 0)), .nils, .int .u64 (.lit (.ofNat 0)), .int .u8 (.lit (.ofNat 0)), .int .u8 (.lit (.ofNat 0)), .int .u8 (.lit (.ofNat 0)), .int .u8 (.lit (.ofNat 0)), .int .u8 (.lit (.ofNat 0)), .int .u8 (.lit (.ofNat 0)), .int .u8 (.lit (.ofNat 0)), .int .u8 (.lit (.ofNat 0)), .int .u8 (.lit (.ofNat 0)), .int .u8 (.lit (.ofNat 0)), .int .u8 (.lit (.ofNat 0)), .int .u8 (.lit (.ofNat 0)), .int .u8 (.lit (.ofNat 0)), .int .u8 (.lit (.ofNat 0)), .int .u8 (.lit (.ofNat 0)), .int .u8 (.lit (.ofNat 0)), .int .u8 (.lit (.ofNat 0)), .int .u8 (.lit (.ofNat 0)), .int .u8 (.lit (.ofNat 0)), .int .u8 (.lit (.ofNat 0))]), none⟩], 8, 97, [(.t 6)], .seq (.reg [
⟨(some 9), .p (.mv (.t 0)), none⟩,
⟨(some 10), .r (.load (some 68) (.t 4)), none⟩,
⟨(some 11), .p (.mv (.t 2)), none⟩,
⟨(some 12), .p (.build [.nilp, .int .u8 (.lit (.ofNat 0)), .int .u8 (.lit (.ofNat 0)), .int .u8 (.lit (.ofNat 0)), .int .u8 (.lit (.ofNat 0)), .int .u8 (.lit (.ofNat 0)), .int .u8 (.lit (.ofNat 0)), .int .u8 (.lit (.ofNat 0)), .int .u8 (.lit (.ofNat 0)), .int .u8 (.lit (.ofNat 0)), .int .u8 (.lit (.ofNat 0)), .int .u8 (.lit (.ofNat 0)), .int .u8 (.lit (.ofNat 0)), .int .u8 (.lit (.ofNat 0)), .int .u8 (.lit (.ofNat 0)), .int .u8 (.lit (.ofNat 0)), .int .u8 (.lit (.ofNat 0)), .int .u8 (.lit (.ofNat 0)), .int .u8 (.lit (.ofNat 0)), .int .u8 (.lit (.ofNat 0)), .int .u8 (.lit (.ofNat 0)), .int .u8 (.lit (.ofNat 0)), .int .u8 (.lit (.ofNat 0)), .int .u8 (.lit (.ofNat 0)), .int .u8 (.lit (.ofNat 0)), .int .u8 (.lit (.ofNat 0)), .int .u8 (.lit (.ofNat 0)), .int .u8 (.lit (.ofNat 0)), .int .u8 (.lit (.ofNat 0)), .int .u8 (.lit (.ofNat 0)), .int .u8 (.lit (.ofNat 0)), .int .u8 (.lit (.ofNat 0)), .int .u8 (.lit (.ofNat 0)), .int .u8 (.lit (.ofNat 0)), .int .u8 (.lit (.ofNat 0)), .int .u8 (.lit (.ofNat 0)), .int .u8 (.lit (.ofNat 0)), .int .u8 (.lit (.ofNat 0)), .int .u8 (.lit (.ofNat 0)), .int .u8 (.lit (.ofNat 0)), .int .u8 (.lit (.ofNat 0)), .int .u8 (.lit (.ofNat 0)), .int .u8 (.lit (.ofNat 0)), .int .u8 (.lit (.ofNat 0)), .int .u8 (.lit (.ofNat 0)), .int .u8 (.lit (.ofNat 0)), .int .u8 (.lit (.ofNat 0)), .int .u8 (.lit (.ofNat 0)), .int .u8 (.lit (.ofNat 0)), .int .u8 (.lit (.ofNat 0)), .int .u8 (.lit (.ofNat 0)), .int .u8 (.lit (.ofNat 0)), .int .u8 (.lit (.ofNat 0)), .int .u8 (.lit (.ofNat 0)), .int .u8 (.lit (.ofNat 0)), .int .u8 (.lit (.ofNat 0)), .int .u8 (.lit (.ofNat 0)), .int .u8 (.lit (.ofNat 0)), .int .u8 (.lit (.ofNat 0)), .int .u8 (.lit (.ofNat 0)), .int .u8 (.lit (.ofNat 0)), .int .u64 (.lit (.ofNat 0)), .int .u64 (.lit (.ofNat 0)), .int .u64 (.lit (.ofNat 0)), .int .u64 (.lit (.ofNat 0)), .nils, .int .u64 (.lit (.ofNat 0)), .bool false, .int .i64 (.lit (.ofNat 0)), .nils, .nils, .nils, .nils, .int .i64 (.lit (.ofNat 0)), .nilp, .nilm] [(0, 1, (.t 9)), (1, 68, (.t 10)), (69, 1, (.t 11))]), none⟩,
⟨(some 13), .m (.box 192 (.t 12)), none⟩,
⟨(some 7), .p (.mv (.t 13)), none⟩]) (.seq (.block 0 (.loop (.seq (.seq (.reg [
⟨(some 14), .p (.mv (.t 7)), none⟩,
⟨(some 15), .p (.nilCheck (.t 14)), none⟩,
⟨(some 16), .p (.faddr 74 (.t 15)), none⟩,
⟨(some 17), .r (.load none (.t 16)), none⟩,
⟨(some 18), .b (.cmp 0 .ptr (.t 17) (.c (.w (.s (.nilp))))), none⟩]) (.cond (.t 18) (.skip) (.exit 0))) (.block 1 (.seq (.seq (.reg [
⟨(some 19), .p (.mv (.t 7)), none⟩,
⟨(some 20), .p (.nilCheck (.t 19)), none⟩,
⟨(some 21), .p (.faddr 73 (.t 20)), none⟩,
⟨(some 22), .r (.load none (.t 21)), none⟩,
⟨(some 23), .p (.mv (.t 2)), none⟩,
⟨(some 24), .p (.len (.t 23)), none⟩,
⟨(some 25), .b (.cmp 5 .int (.t 22) (.t 24)), none⟩]) (.cond (.t 25) (.seq (.reg [
⟨(some 26), .p (.mv (.t 7)), none⟩,
⟨(some 27), .p (.nilCheck (.t 26)), none⟩,
⟨(some 28), .p (.faddr 1 (.t 27)), none⟩,
⟨(some 29), .p (.faddr 65 (.t 28)), none⟩,
⟨(some 30), .r (.load none (.t 29)), none⟩,
⟨(some 31), .p (.build [.int .i64 (.lit (.ofNat 0)), .nils, .int .u64 (.lit (.ofNat 0)), .int .u8 (.lit (.ofNat 0)), .int .u8 (.lit (.ofNat 0)), .int .u8 (.lit (.ofNat 0)), .int .u8 (.lit (.ofNat 0)), .int .u8 (.lit (.ofNat 0)), .int .u8 (.lit (.ofNat 0)), .int .u8 (.lit (.ofNat 0)), .int .u8 (.lit (.ofNat 0)), .int .u8 (.lit (.ofNat 0)), .int .u8 (.lit (.ofNat 0)), .int .u8 (.lit (.ofNat 0)), .int .u8 (.lit (.ofNat 0)), .int .u8 (.lit (.ofNat 0)), .int .u8 (.lit (.ofNat 0)), .int .u8 (.lit (.ofNat 0)), .int .u8 (.lit (.ofNat 0)), .int .u8 (.lit (.ofNat 0)), .int .u8 (.lit (.ofNat 0)), .int .u8 (.lit (.ofNat 0)), .int .u8 (.lit (.ofNat 0))] [(2, 1, (.t 30))]), none⟩,
⟨none, .b (.store 23 (.t 6) (.t 31)), none⟩]) (.ret)) (.skip))) (.reg [
⟨(some 32), .p (.mv (.t 7)), none⟩,
⟨(some 33), .p (.mv (.t 2)), none⟩,
⟨(some 34), .p (.mv (.t 7)), none⟩,
⟨(some 35), .p (.nilCheck (.t 34)), none⟩,
⟨(some 36), .p (.faddr 73 (.t 35)), none⟩,
⟨(some 37), .r (.load none (.t 36)), none⟩,
⟨(some 38), .p (.iaddrS 1 (.t 33) (.t 37)), none⟩,
⟨(some 39), .r (.load none (.t 38)), none⟩,
⟨(some 40), .p (.conv .i64 (.t 39)), none⟩,
⟨(some 41), .b (.call 98 [(.t 32), (.t 40)]), none⟩])))))) (.seq (.reg [
⟨(some 42), .p (.mv (.t 7)), none⟩,
⟨(some 43), .p (.nilCheck (.t 42)), none⟩,
⟨(some 44), .p (.faddr 74 (.t 43)), none⟩,
⟨(some 45), .r (.load none (.t 44)), none⟩,
⟨(some 46), .p (.nilCheck (.t 45)), none⟩,
⟨(some 47), .r (.load (some 23) (.t 46)), none⟩,
⟨none, .b (.store 23 (.t 6) (.t 47)), none⟩]) (.ret))), 16, 4, [⟨(some 1), .p (.mv (.t 4)), none⟩], .seq (.reg [
⟨(some 5), .p (.mv (.t 1)), none⟩,
⟨(some 6), .b (.cmp 1 .iface (.t 5) (.c (.w (.s (.niliface))))), none⟩]) (.cond (.t 6) (.seq (.seq (.reg [
⟨(some 8), .p (.mv (.t 1)), none⟩,
⟨(some 9), .p (.tassert 185 (.agg []) (.t 8)), none⟩,
⟨(some 7), .p (.mv (.t 9)), none⟩,
⟨(some 10), .p (.ext (.t 7) 0), none⟩,
⟨(some 11), .p (.ext (.t 7) 1), none⟩,
⟨(some 2), .m (.alloc 185 []), none⟩,
⟨none, .b (.store 0 (.t 2) (.t 10)), none⟩,
⟨(some 3), .p (.mv (.t 11)), none⟩]) (.seq (.reg [
⟨(some 12), .p (.mv (.t 3)), none⟩,
⟨(some 13), .p (.not (.t 12)), none⟩]) (.cond (.t 13) (.reg [
⟨(some 14), .p (.mv (.t 1)), none⟩,
⟨none, .b (.panic (.t 14)), none⟩]) (.skip)))) (.reg [
⟨(some 15), .b (.call 68 []), none⟩,
⟨none, .b (.store 23 (.t 0) (.t 15)), none⟩])) (.skip))⟩
def db73 : C2 := .seq (.reg [
oP w9 (pMv g0),
oR w10 (rLoad (some 68) g4),
oP w11 (pMv g2),
oP w12 (pBuild [.nilp, .int .u8 (.lit (.ofNat 0)), .int .u8 (.lit (.ofNat 0)), .int .u8 (.lit (.ofNat 0)), .int .u8 (.lit (.ofNat 0)), .int .u8 (.lit (.ofNat 0)), .int .u8 (.lit (.ofNat 0)), .int .u8 (.lit (.ofNat 0)), .int .u8 (.lit (.ofNat 0)), .int .u8 (.lit (.ofNat 0)), .int .u8 (.lit (.ofNat 0)), .int .u8 (.lit (.ofNat 0)), .int .u8 (.lit (.ofNat 0)), .int .u8 (.lit (.ofNat 0)), .int .u8 (.lit (.ofNat 0)), .int .u8 (.lit (.ofNat 0)), .int .u8 (.lit (.ofNat 0)), .int .u8 (.lit (.ofNat 0)), .int .u8 (.lit (.ofNat 0)), .int .u8 (.lit (.ofNat 0)), .int .u8 (.lit (.ofNat 0)), .int .u8 (.lit (.ofNat 0)), .int .u8 (.lit (.ofNat 0)), .int .u8 (.lit (.ofNat 0)), .int .u8 (.lit (.ofNat 0)), .int .u8 (.lit (.ofNat 0)), .int .u8 (.lit (.ofNat 0)), .int .u8 (.lit (.ofNat 0)), .int .u8 (.lit (.ofNat 0)), .int .u8 (.lit (.ofNat 0)), .int .u8 (.lit (.ofNat 0)), .int .u8 (.lit (.ofNat 0)), .int .u8 (.lit (.ofNat 0)), .int .u8 (.lit (.ofNat 0)), .int .u8 (.lit (.ofNat 0)), .int .u8 (.lit (.ofNat 0)), .int .u8 (.lit (.ofNat 0)), .int .u8 (.lit (.ofNat 0)), .int .u8 (.lit (.ofNat 0)), .int .u8 (.lit (.ofNat 0)), .int .u8 (.lit (.ofNat 0)), .int .u8 (.lit (.ofNat 0)), .int .u8 (.lit (.ofNat 0)), .int .u8 (.lit (.ofNat 0)), .int .u8 (.lit (.ofNat 0)), .int .u8 (.lit (.ofNat 0)), .int .u8 (.lit (.ofNat 0)), .int .u8 (.lit (.ofNat 0)), .int .u8 (.lit (.ofNat 0)), .int .u8 (.lit (.ofNat 0)), .int .u8 (.lit (.ofNat 0)), .int .u8 (.lit (.ofNat 0)), .int .u8 (.lit (.ofNat 0)), .int .u8 (.lit (.ofNat 0)), .int .u8 (.lit (.ofNat 0)), .int .u8 (.lit (.ofNat 0)), .int .u8 (.lit (.ofNat 0)), .int .u8 (.lit (.ofNat 0)), .int .u8 (.lit (.ofNat 0)), .int .u8 (.lit (.ofNat 0)), .int .u8 (.lit (.ofNat 0)), .int .u64 (.lit (.ofNat 0)), .int .u64 (.lit (.ofNat 0)), .int .u64 (.lit (.ofNat 0)), .int .u64 (.lit (.ofNat 0)), .nils, .int .u64 (.lit (.ofNat 0)), .bool false, .int .i64 (.lit (.ofNat 0)), .nils, .nils, .nils, .nils, .int .i64 (.lit (.ofNat 0)), .nilp, .nilm] [(0, 1, g9), (1, 68, g10), (69, 1, g11)]),
oBox w13 192 g12,
oP w7 (pMv g13)]) (.seq (.block 0 (.loop (.seq (.seq (.reg [
oP w14 (pMv g7),
oP w15 (pGen fun _ t => opNil t (.t 14)),
oP w16 (pFaddr 74 g15),
oR w17 (rLoad none g16),
oK w18 (b2 (fun x y s K => cmpA 0 .ptr x y s fun b s => K (vBool b) s) g17 (gC (.w (.s (.nilp)))))]) (.cond g18 (.skip) (.exit 0))) (.block 1 (.seq (.seq (.reg [
oP w19 (pMv g7),
oP w20 (pGen fun _ t => opNil t (.t 19)),
oP w21 (pFaddr 73 g20),
oR w22 (rLoad none g21),
oP w23 (pMv g2),
oP w24 (pGen fun _ t => opLen t (.t 23)),
oK w25 (bCmp 5 gLe cGe false g22 g24)]) (.cond g25 (.seq (.reg [
oP w26 (pMv g7),
oP w27 (pGen fun _ t => opNil t (.t 26)),
oP w28 (pFaddr 1 g27),
oP w29 (pFaddr 65 g28),
oR w30 (rLoad none g29),
oP w31 (pBuild [.int .i64 (.lit (.ofNat 0)), .nils, .int .u64 (.lit (.ofNat 0)), .int .u8 (.lit (.ofNat 0)), .int .u8 (.lit (.ofNat 0)), .int .u8 (.lit (.ofNat 0)), .int .u8 (.lit (.ofNat 0)), .int .u8 (.lit (.ofNat 0)), .int .u8 (.lit (.ofNat 0)), .int .u8 (.lit (.ofNat 0)), .int .u8 (.lit (.ofNat 0)), .int .u8 (.lit (.ofNat 0)), .int .u8 (.lit (.ofNat 0)), .int .u8 (.lit (.ofNat 0)), .int .u8 (.lit (.ofNat 0)), .int .u8 (.lit (.ofNat 0)), .int .u8 (.lit (.ofNat 0)), .int .u8 (.lit (.ofNat 0)), .int .u8 (.lit (.ofNat 0)), .int .u8 (.lit (.ofNat 0)), .int .u8 (.lit (.ofNat 0)), .int .u8 (.lit (.ofNat 0)), .int .u8 (.lit (.ofNat 0))] [(2, 1, g30)]),
oK wZ (bSt 23 g6 g31)]) (.ret)) (.skip))) (.reg [
oP w32 (pMv g7),
oP w33 (pMv g2),
oP w34 (pMv g7),
oP w35 (pGen fun _ t => opNil t (.t 34)),
oP w36 (pFaddr 73 g35),
oR w37 (rLoad none g36),
oP w38 (pIaddrS 1 g33 g37),
oR w39 (rLoad none g38),
oP w40 (pConv .i64 g39),
oCall w41 98 [g32, g40]])))))) (.seq (.reg [
oP w42 (pMv g7),
oP w43 (pGen fun _ t => opNil t (.t 42)),
oP w44 (pFaddr 74 g43),
oR w45 (rLoad none g44),
oP w46 (pGen fun _ t => opNil t (.t 45)),
oR w47 (rLoad (some 23) g46),
oK wZ (bSt 23 g6 g47)]) (.ret)))
theorem de73 : db73 = den da73.body := by kernel_rfl
theorem do73 : DefOk Go.Proofs.Tryz.prog TT 73 da73 Go.Proofs.Tryz.f73 Go.Proofs.Tryz.f97 (seqL (bodyOf Go.Proofs.Tryz.f73)) (seqR (seqR (bodyOf Go.Proofs.Tryz.f73))) (seqR (bodyOf Go.Proofs.Tryz.f97)) (regId (seqL (seqR (bodyOf Go.Proofs.Tryz.f73)))) (regId (seqL (bodyOf Go.Proofs.Tryz.f97))) (operAt (seqL (seqR (bodyOf Go.Proofs.Tryz.f73))) 0) (operAt (seqL (seqR (bodyOf Go.Proofs.Tryz.f73))) 1) (operAt (seqL (bodyOf Go.Proofs.Tryz.f97)) 0) (callOf (operAt (seqL (seqR (bodyOf Go.Proofs.Tryz.f73))) 1).op) (callOf (operAt (seqL (bodyOf Go.Proofs.Tryz.f97)) 0).op) (regOps (seqL (bodyOf Go.Proofs.Tryz.f97))) (operTail (seqL (bodyOf Go.Proofs.Tryz.f97))) (hintL []) (hintL []) := { at_ := Go.Proofs.Tryz.func73, call := Go.Proofs.Tryz.call73, cat := Go.Proofs.Tryz.func97, ccall := Go.Proofs.Tryz.call97, body := by kernel_rfl, ntmps := by kernel_rfl, compA := by kernel_rfl, compB := by kernel_rfl, mk1 := by kernel_rfl, dst1 := by kernel_rfl, lt1 := by kernel_rfl, g1 := by kernel_rfl, op2 := by kernel_rfl, cal2 := by kernel_rfl, arg2 := by kernel_rfl, dst2 := by kernel_rfl, g2 := by kernel_rfl, res := by kernel_rfl, cbody := by kernel_rfl, cntmps := by kernel_rfl, copl := by kernel_rfl, opr := by kernel_rfl, calr := by kernel_rfl, argr := by kernel_rfl, dstr := by kernel_rfl, ltr := by kernel_rfl, gr := by kernel_rfl, compR := by kernel_rfl, compC' := by kernel_rfl, cres := by kernel_rfl }
def XT0 : Tree CallY := (.node (.node .leaf none (.node (.node (.node (.node (.node (.node .leaf (some (fun _ => xAdd)) .leaf) none .leaf) none .leaf) none .leaf) none (.node (.node (.node .leaf (some (fun call => runD2 call da73 db73)) .leaf) none .leaf) none .leaf)) none .leaf)) none (.node (.node (.node .leaf (some (xVia fa8 convFork)) .leaf) none (.node (.node .leaf (some (xN fa20)) .leaf) none (.node (.node .leaf none (.node .leaf (some (fun _ => xSub)) .leaf)) none .leaf))) none (.node (.node .leaf none (.node .leaf (some (xEnum fa26)) .leaf)) none .leaf)))
theorem xOk0 (hm : Go.Proofs.Tryz.prog.follows .mixedOrders = true) : XOk Go.Proofs.Tryz.prog XT0 := xOk_of (Tree.allNode (Tree.allNode Tree.allLeaf allN (Tree.allNode (Tree.allNode (Tree.allNode (Tree.allNode (Tree.allNode (Tree.allNode Tree.allLeaf (allS (fun _ _ => xAdd_ok (fun args w => run_callFunc_extern Go.Proofs.Tryz.func129 (by kernel_rfl) (by kernel_rfl) (by kernel_rfl) (by kernel_rfl) args w))) Tree.allLeaf) allN Tree.allLeaf) allN Tree.allLeaf) allN Tree.allLeaf) allN (Tree.allNode (Tree.allNode (Tree.allNode Tree.allLeaf (allS (fun call hcall => x2_ok (runD2_eq call da73 de73) (xD_ok tOk hm do73 call hcall))) Tree.allLeaf) allN Tree.allLeaf) allN Tree.allLeaf)) allN Tree.allLeaf)) allN (Tree.allNode (Tree.allNode (Tree.allNode Tree.allLeaf (allS (via_ok tOk hm fo8 convFork_ok)) Tree.allLeaf) allN (Tree.allNode (Tree.allNode Tree.allLeaf (allS (xN_ok tOk hm fo20)) Tree.allLeaf) allN (Tree.allNode (Tree.allNode Tree.allLeaf allN (Tree.allNode Tree.allLeaf (allS (fun _ _ => xSub_ok (fun args w => run_callFunc_extern Go.Proofs.Tryz.func108 (by kernel_rfl) (by kernel_rfl) (by kernel_rfl) (by kernel_rfl) args w))) Tree.allLeaf)) allN Tree.allLeaf))) allN (Tree.allNode (Tree.allNode Tree.allLeaf allN (Tree.allNode Tree.allLeaf (allS (xEnum_ok tOk hm fo26)) Tree.allLeaf)) allN Tree.allLeaf)))
theorem hOk0 (hm : Go.Proofs.Tryz.prog.follows .mixedOrders = true) (n : Nat) : CallOk Go.Proofs.Tryz.prog (callA2 FT XT0 n) := callA2_ok tOk hm fOk (xOk0 hm) n
end
end Go.Sy
