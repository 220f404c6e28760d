/- Parts of the proof of the law TopEnded: characters, lines and the maker of a Stomach: B2. Conditions: none. -/
import Derived.Test.YtmmgkehhckhdcaaGreatDoorB1
import Derived.Test.YtmmgkehhckhdcaaGreatDoorA4

set_option linter.unusedVariables false
set_option linter.unusedSimpArgs false

namespace Go.Proofs.Gn
open Go Go.Proofs Go.Abs
set_option maxRecDepth 1000000
noncomputable section
open Gt



def nwob0 : AObj := .cells (.lst [.int .u64 1, .int .u64 10, .int .u64 100, .int .u64 1000, .int .u64 10000, .int .u64 100000, .int .u64 1000000, .int .u64 10000000, .int .u64 100000000, .int .u64 1000000000, .int .u64 10000000000, .int .u64 100000000000, .int .u64 1000000000000, .int .u64 10000000000000, .int .u64 100000000000000, .int .u64 1000000000000000, .int .u64 10000000000000000, .int .u64 100000000000000000, .int .u64 1000000000000000000, .int .u64 10000000000000000000]) 20 3 1 true false none

def nwob3 : AObj := .cells (.lst [it 0, it 0, it 0, it 0, it 0, it 0, it 0, it 0, it 0, it 0, it 0, it 0, it 0, it 0, it 0, it 0, it 0, it 0, it 0, it 0, it 0, it 0, it 0, it 0, it 0, it 0, it 0, .slice none 0 0]) 28 359 28 true true none

def nwob4 : AObj := .cells (.lst [.slice none 0 0, it (-65536000), .slice none 0 0, .slice none 0 0, .bool false, it 0, it 0, it 0, by8 0, it 0, it 0, it 0, it 0, it 0, it 0, it 1, .slice none 0 0, it 0]) 18 86 18 true true none

def nwob7 : AObj := .cells (bigP P 121 1 ([(0, .map (some 1))] ++ ints 8961 7 [9, 8, 12, 12, 12, 12, 12, 12, 12, 10, 12, 7, 13, 5, 12, 12, 12, 12, 12, 12, 12, 12, 12, 12, 12, 12, 12, 12, 12, 12, 12, 12, 10, 12, 12, 6, 3, 14, 4, 12, 12, 12, 12, 12, 12, 12, 12, 12, 12, 12, 12, 12, 12, 12, 12, 12, 12, 12, 12, 12, 12, 12, 12, 12, 12, 11, 11, 11, 11, 11, 11, 11, 11, 11, 11, 11, 11, 11, 11, 11, 11, 11, 11, 11, 11, 11, 11, 11, 11, 11, 11, 12] ++ ints 9612 7 [12, 7, 8, 12, 11, 11, 11, 11, 11, 11, 11, 11, 11, 11, 11, 11, 11, 11, 11, 11, 11, 11, 11, 11, 11, 11, 11, 11, 11, 11, 1, 12, 2, 13, 15, 12, 12, 12, 12, 12, 12, 12, 12, 12, 12, 12, 12, 12, 12, 12, 12, 12, 12, 12, 12, 12, 12, 12, 12, 12, 12, 12, 12, 12, 12, 12, 12, 12, 12, 12, 12, 12, 12, 12, 12, 12, 12, 12, 12, 12, 12, 12, 12, 12, 12, 12, 12, 12, 12, 12, 12, 12, 12, 12, 12, 12, 12, 12, 12, 12, 12, 12, 12, 12, 12, 12, 12, 12, 12, 12, 12, 12, 12, 12, 12, 12, 12, 12, 12, 12, 12, 12, 12, 12, 12, 12, 12, 12, 12, 12, 12, 12, 12, 12, 12, 12, 12, 12, 12, 12, 12, 12, 12, 12, 12, 12, 12, 12, 12, 12, 12, 12, 12, 12, 12, 12, 12, 12, 12, 12, 12, 12, 12])) 10755 121 10755 true true none

def nwob8 : AObj := .map [pr 0x657870616e646166746572, pr 0x6e6f657870616e64, pr 0x63736e616d65, pr 0x737472696e67, pr 0x6e756d626572, pr 0x726f6d616e6e756d6572616c, pr 0x746865, pr 0x696e707574, pr 0x656e64696e707574, pr 0x6966, pr 0x6966636174, pr 0x696678, pr 0x69666e756d, pr 0x696664696d, pr 0x69666f6464, pr 0x696674727565, pr 0x696666616c7365, pr 0x696663617365, pr 0x656c7365, pr 0x6f72, pr 0x6669, pr 0x72656c6178, pr 0x656e6463736e616d65, pr 0x636f756e74, pr 0x64696d656e, pr 0x736b6970, pr 0x746f6b73, pr 0x706172] 28

def nwob14 : AObj := .map [(vs 0x676c6f62616c, .func (.func 46) ⟨[]⟩ ⟨[]⟩), (vs 0x6c6f6e67, .func (.func 46) ⟨[]⟩ ⟨[]⟩), (vs 0x646566, .func (.func 47) ⟨[]⟩ ⟨[]⟩), (vs 0x67646566, .func (.func 47) ⟨[]⟩ ⟨[]⟩), (vs 0x65646566, .func (.func 47) ⟨[]⟩ ⟨[]⟩), (vs 0x78646566, .func (.func 47) ⟨[]⟩ ⟨[]⟩), (vs 0x6c6574, .func (.func 47) ⟨[]⟩ ⟨[]⟩), (vs 0x63686172646566, .func (.func 47) ⟨[]⟩ ⟨[]⟩), (vs 0x636f756e74646566, .func (.func 47) ⟨[]⟩ ⟨[]⟩), (vs 0x64696d656e646566, .func (.func 47) ⟨[]⟩ ⟨[]⟩), (vs 0x736b6970646566, .func (.func 47) ⟨[]⟩ ⟨[]⟩), (vs 0x746f6b73646566, .func (.func 47) ⟨[]⟩ ⟨[]⟩), (vs 0x616476616e6365, .func (.func 47) ⟨[]⟩ ⟨[]⟩), (vs 0x6d756c7469706c79, .func (.func 47) ⟨[]⟩ ⟨[]⟩), (vs 0x646976696465, .func (.func 47) ⟨[]⟩ ⟨[]⟩), (vs 0x636174636f6465, .func (.func 47) ⟨[]⟩ ⟨[]⟩), (vs 0x666f6e74, .func (.func 47) ⟨[]⟩ ⟨[]⟩), (vs 0x74657874666f6e74, .func (.func 47) ⟨[]⟩ ⟨[]⟩), (vs 0x736372697074666f6e74, .func (.func 47) ⟨[]⟩ ⟨[]⟩), (vs 0x736372697074736372697074666f6e74, .func (.func 47) ⟨[]⟩ ⟨[]⟩), (vs 0x736574626f78, .func (.func 47) ⟨[]⟩ ⟨[]⟩), (vs 0x626567696e67726f7570, .func (.func 48) ⟨[]⟩ ⟨[]⟩), (vs 0x656e6467726f7570, .func (.func 49) ⟨[]⟩ ⟨[]⟩), (vs 0x616674657267726f7570, .func (.func 50) ⟨[]⟩ ⟨[]⟩), (vs 0x626f78, .func (.func 51) ⟨[]⟩ ⟨[]⟩), (vs 0x636f7079, .func (.func 51) ⟨[]⟩ ⟨[]⟩), (vs 0x7673706c6974, .func (.func 51) ⟨[]⟩ ⟨[]⟩), (vs 0x68626f78, .func (.func 51) ⟨[]⟩ ⟨[]⟩), (vs 0x76626f78, .func (.func 51) ⟨[]⟩ ⟨[]⟩), (vs 0x76746f70, .func (.func 51) ⟨[]⟩ ⟨[]⟩), (vs 0x6d6f76656c656674, .func (.func 52) ⟨[]⟩ ⟨[]⟩), (vs 0x6d6f76657269676874, .func (.func 52) ⟨[]⟩ ⟨[]⟩), (vs 0x7261697365, .func (.func 52) ⟨[]⟩ ⟨[]⟩), (vs 0x6c6f776572, .func (.func 52) ⟨[]⟩ ⟨[]⟩), (vs 0x736869706f7574, .func (.func 53) ⟨[]⟩ ⟨[]⟩), (vs 0x756e68626f78, .func (.func 54) ⟨[]⟩ ⟨[]⟩), (vs 0x756e68636f7079, .func (.func 54) ⟨[]⟩ ⟨[]⟩), (vs 0x756e76626f78, .func (.func 54) ⟨[]⟩ ⟨[]⟩), (vs 0x756e76636f7079, .func (.func 54) ⟨[]⟩ ⟨[]⟩), (vs 0x68736b6970, .func (.func 55) ⟨[]⟩ ⟨[]⟩), (vs 0x6866696c, .func (.func 55) ⟨[]⟩ ⟨[]⟩), (vs 0x6866696c6c, .func (.func 55) ⟨[]⟩ ⟨[]⟩), (vs 0x687373, .func (.func 55) ⟨[]⟩ ⟨[]⟩), (vs 0x6866696c6e6567, .func (.func 55) ⟨[]⟩ ⟨[]⟩), (vs 0x76736b6970, .func (.func 55) ⟨[]⟩ ⟨[]⟩), (vs 0x7666696c, .func (.func 55) ⟨[]⟩ ⟨[]⟩), (vs 0x7666696c6c, .func (.func 55) ⟨[]⟩ ⟨[]⟩), (vs 0x767373, .func (.func 55) ⟨[]⟩ ⟨[]⟩), (vs 0x7666696c6e6567, .func (.func 55) ⟨[]⟩ ⟨[]⟩), (vs 0x6b65726e, .func (.func 56) ⟨[]⟩ ⟨[]⟩), (vs 0x70656e616c7479, .func (.func 57) ⟨[]⟩ ⟨[]⟩), (vs 0x6872756c65, .func (.func 58) ⟨[]⟩ ⟨[]⟩), (vs 0x7672756c65, .func (.func 58) ⟨[]⟩ ⟨[]⟩), (vs 0x756e736b6970, .func (.func 59) ⟨[]⟩ ⟨[]⟩), (vs 0x756e6b65726e, .func (.func 59) ⟨[]⟩ ⟨[]⟩), (vs 0x756e70656e616c7479, .func (.func 59) ⟨[]⟩ ⟨[]⟩), (vs 0x6d61726b, .func (.func 60) ⟨[]⟩ ⟨[]⟩), (vs 0x7370656369616c, .func (.func 60) ⟨[]⟩ ⟨[]⟩), (vs 0x6d657373616765, .func (.func 60) ⟨[]⟩ ⟨[]⟩), (vs 0x7061747465726e73, .func (.func 60) ⟨[]⟩ ⟨[]⟩), (vs 0x68797068656e6174696f6e, .func (.func 60) ⟨[]⟩ ⟨[]⟩), (vs 0x696e73657274, .func (.func 61) ⟨[]⟩ ⟨[]⟩), (vs 0x7661646a757374, .func (.func 61) ⟨[]⟩ ⟨[]⟩), (vs 0x64697363726574696f6e617279, .func (.func 62) ⟨[]⟩ ⟨[]⟩), (vs 0x2d, .func (.func 62) ⟨[]⟩ ⟨[]⟩), (vs 0x63686172, .func (.func 63) ⟨[]⟩ ⟨[]⟩), (vs 0x20, .func (.func 64) ⟨[]⟩ ⟨[]⟩), (vs 0x696e64656e74, .func (.func 65) ⟨[]⟩ ⟨[]⟩), (vs 0x6e6f696e64656e74, .func (.func 65) ⟨[]⟩ ⟨[]⟩), (vs 0x706172, .func (.func 66) ⟨[]⟩ ⟨[]⟩), (vs 0x656e64, .func (.func 67) ⟨[]⟩ ⟨[]⟩), (vs 0x6d61746863686172, .func (.func 68) ⟨[]⟩ ⟨[]⟩), (vs 0x6d6174686f7264, .func (.func 68) ⟨[]⟩ ⟨[]⟩), (vs 0x6d6174686f70, .func (.func 68) ⟨[]⟩ ⟨[]⟩), (vs 0x6d61746862696e, .func (.func 68) ⟨[]⟩ ⟨[]⟩), (vs 0x6d61746872656c, .func (.func 68) ⟨[]⟩ ⟨[]⟩), (vs 0x6d6174686f70656e, .func (.func 68) ⟨[]⟩ ⟨[]⟩), (vs 0x6d617468636c6f7365, .func (.func 68) ⟨[]⟩ ⟨[]⟩), (vs 0x6d61746870756e6374, .func (.func 68) ⟨[]⟩ ⟨[]⟩), (vs 0x6d617468696e6e6572, .func (.func 68) ⟨[]⟩ ⟨[]⟩), (vs 0x6f7665726c696e65, .func (.func 68) ⟨[]⟩ ⟨[]⟩), (vs 0x756e6465726c696e65, .func (.func 68) ⟨[]⟩ ⟨[]⟩), (vs 0x7261646963616c, .func (.func 68) ⟨[]⟩ ⟨[]⟩), (vs 0x6f766572, .func (.func 68) ⟨[]⟩ ⟨[]⟩), (vs 0x61746f70, .func (.func 68) ⟨[]⟩ ⟨[]⟩), (vs 0x6c656674, .func (.func 68) ⟨[]⟩ ⟨[]⟩), (vs 0x7269676874, .func (.func 68) ⟨[]⟩ ⟨[]⟩), (vs 0x646973706c61797374796c65, .func (.func 68) ⟨[]⟩ ⟨[]⟩), (vs 0x746578747374796c65, .func (.func 68) ⟨[]⟩ ⟨[]⟩), (vs 0x7363726970747374796c65, .func (.func 68) ⟨[]⟩ ⟨[]⟩), (vs 0x7363726970747363726970747374796c65, .func (.func 68) ⟨[]⟩ ⟨[]⟩), (vs 0x6d736b6970, .func (.func 68) ⟨[]⟩ ⟨[]⟩), (vs 0x6d6b65726e, .func (.func 68) ⟨[]⟩ ⟨[]⟩)] 93

def nwob15 : AObj := .mapIter 10 93 [(vs 0x676c6f62616c, .func (.func 46) ⟨[]⟩ ⟨[]⟩), (vs 0x6c6f6e67, .func (.func 46) ⟨[]⟩ ⟨[]⟩), (vs 0x646566, .func (.func 47) ⟨[]⟩ ⟨[]⟩), (vs 0x67646566, .func (.func 47) ⟨[]⟩ ⟨[]⟩), (vs 0x65646566, .func (.func 47) ⟨[]⟩ ⟨[]⟩), (vs 0x78646566, .func (.func 47) ⟨[]⟩ ⟨[]⟩), (vs 0x6c6574, .func (.func 47) ⟨[]⟩ ⟨[]⟩), (vs 0x63686172646566, .func (.func 47) ⟨[]⟩ ⟨[]⟩), (vs 0x636f756e74646566, .func (.func 47) ⟨[]⟩ ⟨[]⟩), (vs 0x64696d656e646566, .func (.func 47) ⟨[]⟩ ⟨[]⟩), (vs 0x736b6970646566, .func (.func 47) ⟨[]⟩ ⟨[]⟩), (vs 0x746f6b73646566, .func (.func 47) ⟨[]⟩ ⟨[]⟩), (vs 0x616476616e6365, .func (.func 47) ⟨[]⟩ ⟨[]⟩), (vs 0x6d756c7469706c79, .func (.func 47) ⟨[]⟩ ⟨[]⟩), (vs 0x646976696465, .func (.func 47) ⟨[]⟩ ⟨[]⟩), (vs 0x636174636f6465, .func (.func 47) ⟨[]⟩ ⟨[]⟩), (vs 0x666f6e74, .func (.func 47) ⟨[]⟩ ⟨[]⟩), (vs 0x74657874666f6e74, .func (.func 47) ⟨[]⟩ ⟨[]⟩), (vs 0x736372697074666f6e74, .func (.func 47) ⟨[]⟩ ⟨[]⟩), (vs 0x736372697074736372697074666f6e74, .func (.func 47) ⟨[]⟩ ⟨[]⟩), (vs 0x736574626f78, .func (.func 47) ⟨[]⟩ ⟨[]⟩), (vs 0x626567696e67726f7570, .func (.func 48) ⟨[]⟩ ⟨[]⟩), (vs 0x656e6467726f7570, .func (.func 49) ⟨[]⟩ ⟨[]⟩), (vs 0x616674657267726f7570, .func (.func 50) ⟨[]⟩ ⟨[]⟩), (vs 0x626f78, .func (.func 51) ⟨[]⟩ ⟨[]⟩), (vs 0x636f7079, .func (.func 51) ⟨[]⟩ ⟨[]⟩), (vs 0x7673706c6974, .func (.func 51) ⟨[]⟩ ⟨[]⟩), (vs 0x68626f78, .func (.func 51) ⟨[]⟩ ⟨[]⟩), (vs 0x76626f78, .func (.func 51) ⟨[]⟩ ⟨[]⟩), (vs 0x76746f70, .func (.func 51) ⟨[]⟩ ⟨[]⟩), (vs 0x6d6f76656c656674, .func (.func 52) ⟨[]⟩ ⟨[]⟩), (vs 0x6d6f76657269676874, .func (.func 52) ⟨[]⟩ ⟨[]⟩), (vs 0x7261697365, .func (.func 52) ⟨[]⟩ ⟨[]⟩), (vs 0x6c6f776572, .func (.func 52) ⟨[]⟩ ⟨[]⟩), (vs 0x736869706f7574, .func (.func 53) ⟨[]⟩ ⟨[]⟩), (vs 0x756e68626f78, .func (.func 54) ⟨[]⟩ ⟨[]⟩), (vs 0x756e68636f7079, .func (.func 54) ⟨[]⟩ ⟨[]⟩), (vs 0x756e76626f78, .func (.func 54) ⟨[]⟩ ⟨[]⟩), (vs 0x756e76636f7079, .func (.func 54) ⟨[]⟩ ⟨[]⟩), (vs 0x68736b6970, .func (.func 55) ⟨[]⟩ ⟨[]⟩), (vs 0x6866696c, .func (.func 55) ⟨[]⟩ ⟨[]⟩), (vs 0x6866696c6c, .func (.func 55) ⟨[]⟩ ⟨[]⟩), (vs 0x687373, .func (.func 55) ⟨[]⟩ ⟨[]⟩), (vs 0x6866696c6e6567, .func (.func 55) ⟨[]⟩ ⟨[]⟩), (vs 0x76736b6970, .func (.func 55) ⟨[]⟩ ⟨[]⟩), (vs 0x7666696c, .func (.func 55) ⟨[]⟩ ⟨[]⟩), (vs 0x7666696c6c, .func (.func 55) ⟨[]⟩ ⟨[]⟩), (vs 0x767373, .func (.func 55) ⟨[]⟩ ⟨[]⟩), (vs 0x7666696c6e6567, .func (.func 55) ⟨[]⟩ ⟨[]⟩), (vs 0x6b65726e, .func (.func 56) ⟨[]⟩ ⟨[]⟩), (vs 0x70656e616c7479, .func (.func 57) ⟨[]⟩ ⟨[]⟩), (vs 0x6872756c65, .func (.func 58) ⟨[]⟩ ⟨[]⟩), (vs 0x7672756c65, .func (.func 58) ⟨[]⟩ ⟨[]⟩), (vs 0x756e736b6970, .func (.func 59) ⟨[]⟩ ⟨[]⟩), (vs 0x756e6b65726e, .func (.func 59) ⟨[]⟩ ⟨[]⟩), (vs 0x756e70656e616c7479, .func (.func 59) ⟨[]⟩ ⟨[]⟩), (vs 0x6d61726b, .func (.func 60) ⟨[]⟩ ⟨[]⟩), (vs 0x7370656369616c, .func (.func 60) ⟨[]⟩ ⟨[]⟩), (vs 0x6d657373616765, .func (.func 60) ⟨[]⟩ ⟨[]⟩), (vs 0x7061747465726e73, .func (.func 60) ⟨[]⟩ ⟨[]⟩), (vs 0x68797068656e6174696f6e, .func (.func 60) ⟨[]⟩ ⟨[]⟩), (vs 0x696e73657274, .func (.func 61) ⟨[]⟩ ⟨[]⟩), (vs 0x7661646a757374, .func (.func 61) ⟨[]⟩ ⟨[]⟩), (vs 0x64697363726574696f6e617279, .func (.func 62) ⟨[]⟩ ⟨[]⟩), (vs 0x2d, .func (.func 62) ⟨[]⟩ ⟨[]⟩), (vs 0x63686172, .func (.func 63) ⟨[]⟩ ⟨[]⟩), (vs 0x20, .func (.func 64) ⟨[]⟩ ⟨[]⟩), (vs 0x696e64656e74, .func (.func 65) ⟨[]⟩ ⟨[]⟩), (vs 0x6e6f696e64656e74, .func (.func 65) ⟨[]⟩ ⟨[]⟩), (vs 0x706172, .func (.func 66) ⟨[]⟩ ⟨[]⟩), (vs 0x656e64, .func (.func 67) ⟨[]⟩ ⟨[]⟩), (vs 0x6d61746863686172, .func (.func 68) ⟨[]⟩ ⟨[]⟩), (vs 0x6d6174686f7264, .func (.func 68) ⟨[]⟩ ⟨[]⟩), (vs 0x6d6174686f70, .func (.func 68) ⟨[]⟩ ⟨[]⟩), (vs 0x6d61746862696e, .func (.func 68) ⟨[]⟩ ⟨[]⟩), (vs 0x6d61746872656c, .func (.func 68) ⟨[]⟩ ⟨[]⟩), (vs 0x6d6174686f70656e, .func (.func 68) ⟨[]⟩ ⟨[]⟩), (vs 0x6d617468636c6f7365, .func (.func 68) ⟨[]⟩ ⟨[]⟩), (vs 0x6d61746870756e6374, .func (.func 68) ⟨[]⟩ ⟨[]⟩), (vs 0x6d617468696e6e6572, .func (.func 68) ⟨[]⟩ ⟨[]⟩), (vs 0x6f7665726c696e65, .func (.func 68) ⟨[]⟩ ⟨[]⟩), (vs 0x756e6465726c696e65, .func (.func 68) ⟨[]⟩ ⟨[]⟩), (vs 0x7261646963616c, .func (.func 68) ⟨[]⟩ ⟨[]⟩), (vs 0x6f766572, .func (.func 68) ⟨[]⟩ ⟨[]⟩), (vs 0x61746f70, .func (.func 68) ⟨[]⟩ ⟨[]⟩), (vs 0x6c656674, .func (.func 68) ⟨[]⟩ ⟨[]⟩), (vs 0x7269676874, .func (.func 68) ⟨[]⟩ ⟨[]⟩), (vs 0x646973706c61797374796c65, .func (.func 68) ⟨[]⟩ ⟨[]⟩), (vs 0x746578747374796c65, .func (.func 68) ⟨[]⟩ ⟨[]⟩), (vs 0x7363726970747374796c65, .func (.func 68) ⟨[]⟩ ⟨[]⟩), (vs 0x7363726970747363726970747374796c65, .func (.func 68) ⟨[]⟩ ⟨[]⟩), (vs 0x6d736b6970, .func (.func 68) ⟨[]⟩ ⟨[]⟩), (vs 0x6d6b65726e, .func (.func 68) ⟨[]⟩ ⟨[]⟩)] none

def nxob16 : AObj := .map [pr 0x657870616e646166746572, pr 0x6e6f657870616e64, pr 0x63736e616d65, pr 0x737472696e67, pr 0x6e756d626572, pr 0x726f6d616e6e756d6572616c, pr 0x746865, pr 0x696e707574, pr 0x656e64696e707574, pr 0x6966, pr 0x6966636174, pr 0x696678, pr 0x69666e756d, pr 0x696664696d, pr 0x69666f6464, pr 0x696674727565, pr 0x696666616c7365, pr 0x696663617365, pr 0x656c7365, pr 0x6f72, pr 0x6669, pr 0x72656c6178, pr 0x656e6463736e616d65, pr 0x636f756e74, pr 0x64696d656e, pr 0x736b6970, pr 0x746f6b73, pr 0x706172, pr 0x676c6f62616c, pr 0x6c6f6e67, pr 0x646566, pr 0x67646566, pr 0x65646566, pr 0x78646566, pr 0x6c6574, pr 0x63686172646566, pr 0x636f756e74646566, pr 0x64696d656e646566, pr 0x736b6970646566, pr 0x746f6b73646566, pr 0x616476616e6365, pr 0x6d756c7469706c79, pr 0x646976696465, pr 0x636174636f6465, pr 0x666f6e74, pr 0x74657874666f6e74, pr 0x736372697074666f6e74, pr 0x736372697074736372697074666f6e74, pr 0x736574626f78, pr 0x626567696e67726f7570, pr 0x656e6467726f7570, pr 0x616674657267726f7570, pr 0x626f78, pr 0x636f7079, pr 0x7673706c6974, pr 0x68626f78, pr 0x76626f78, pr 0x76746f70, pr 0x6d6f76656c656674, pr 0x6d6f76657269676874, pr 0x7261697365, pr 0x6c6f776572, pr 0x736869706f7574, pr 0x756e68626f78, pr 0x756e68636f7079, pr 0x756e76626f78, pr 0x756e76636f7079, pr 0x68736b6970, pr 0x6866696c, pr 0x6866696c6c, pr 0x687373, pr 0x6866696c6e6567, pr 0x76736b6970, pr 0x7666696c, pr 0x7666696c6c, pr 0x767373, pr 0x7666696c6e6567, pr 0x6b65726e, pr 0x70656e616c7479, pr 0x6872756c65, pr 0x7672756c65, pr 0x756e736b6970, pr 0x756e6b65726e, pr 0x756e70656e616c7479, pr 0x6d61726b, pr 0x7370656369616c, pr 0x6d657373616765, pr 0x7061747465726e73, pr 0x68797068656e6174696f6e, pr 0x696e73657274, pr 0x7661646a757374, pr 0x64697363726574696f6e617279, pr 0x2d, pr 0x63686172, pr 0x20, pr 0x696e64656e74, pr 0x6e6f696e64656e74, pr 0x656e64, pr 0x6d61746863686172, pr 0x6d6174686f7264, pr 0x6d6174686f70, pr 0x6d61746862696e, pr 0x6d61746872656c, pr 0x6d6174686f70656e, pr 0x6d617468636c6f7365, pr 0x6d61746870756e6374, pr 0x6d617468696e6e6572, pr 0x6f7665726c696e65, pr 0x756e6465726c696e65, pr 0x7261646963616c, pr 0x6f766572, pr 0x61746f70, pr 0x6c656674, pr 0x7269676874, pr 0x646973706c61797374796c65, pr 0x746578747374796c65, pr 0x7363726970747374796c65, pr 0x7363726970747363726970747374796c65, pr 0x6d736b6970, pr 0x6d6b65726e] 121

def LH (st : Int) (left es : List (Value × Value)) (ver : Nat) : AM :=
  ⟨⟨11, 132, slotsL [(8, pt 2 0), (13, pt 7 0), (94, pt 11 0)], [.seqR (opsAt P 11 [1, 1, 1, 1, 1, 1, 1, 1, 1, 1, 1, 0, 1, 0, 0, 0]) [0, 1], .code (bodyAt P 11 [1, 1, 1, 1, 1, 1, 1, 1, 1, 1, 1, 0, 1, 0, 0, 1]), .inLoop (bodyAt P 11 [1, 1, 1, 1, 1, 1, 1, 1, 1, 1, 1, 0, 1, 0, 0]), .inBlock 6, .code (bodyAt P 11 [1, 1, 1, 1, 1, 1, 1, 1, 1, 1, 1, 1])], [], false, .normal, none⟩,
  [],
  heapL [nwob0,
   .map es ver,
   nwob7,
   .cells (.lst [.slice none 0 0, it 0, .bool true]) 3 201 3 true true none,
   .cells (.lst [pt 2 0, .slice none 0 0, it st, .slice none 0 0, pt 3 0, .slice none 0 0, it 0, it 0]) 8 134 8 true true none,
   nwob3,
   .cells (.lst [sl 5 0 1 1, it 0, .slice none 0 0]) 3 141 3 true true none,
   .cells (bigP P 72 1 ([(0, pt 2 0)] ++ [(1, pt 4 0)] ++ [(2, pt 6 0)] ++ [(261, sl 9 0 1 1)])) 269 72 269 true true none,
   nwob4,
   .cells (.lst [pt 8 0]) 1 74 1 true true none,
   nwob14,
   .mapIter 10 93 left none]⟩

def LE (st : Int) (es : List (Value × Value)) (ver : Nat) : AM :=
  ⟨⟨11, 132, slotsL [(8, pt 2 0), (13, pt 7 0), (95, .tuple ⟨[.bool false]⟩)], [.seqR (opsAt P 11 [1, 1, 1, 1, 1, 1, 1, 1, 1, 1, 1, 0, 1, 0, 0, 0]) [1], .code (bodyAt P 11 [1, 1, 1, 1, 1, 1, 1, 1, 1, 1, 1, 0, 1, 0, 0, 1]), .inLoop (bodyAt P 11 [1, 1, 1, 1, 1, 1, 1, 1, 1, 1, 1, 0, 1, 0, 0]), .inBlock 6, .code (bodyAt P 11 [1, 1, 1, 1, 1, 1, 1, 1, 1, 1, 1, 1])], [], false, .normal, none⟩,
  [],
  heapL [nwob0,
   .map es ver,
   nwob7,
   .cells (.lst [.slice none 0 0, it 0, .bool true]) 3 201 3 true true none,
   .cells (.lst [pt 2 0, .slice none 0 0, it st, .slice none 0 0, pt 3 0, .slice none 0 0, it 0, it 0]) 8 134 8 true true none,
   nwob3,
   .cells (.lst [sl 5 0 1 1, it 0, .slice none 0 0]) 3 141 3 true true none,
   .cells (bigP P 72 1 ([(0, pt 2 0)] ++ [(1, pt 4 0)] ++ [(2, pt 6 0)] ++ [(261, sl 9 0 1 1)])) 269 72 269 true true none,
   nwob4,
   .cells (.lst [pt 8 0]) 1 74 1 true true none]⟩

theorem beqB_refl : ∀ l : List UInt8, beqBytes l l = true
  | [] => rfl
  | a :: l => by simp only [beqBytes, Nat.beq_refl, cond_true]; exact beqB_refl l

/-- A primitive's meaning. -/
def prim (l : List UInt8) : Value := ag [it 1, it 0, it 0, it 0, .string ⟨⟨l⟩⟩]

theorem sameT_prim (l l' : List UInt8) : sameT P 20 98 (prim l) (prim l') = match beqBytes l l' with | true => some true | false => some false := by
  kernel_rfl

def zeroM : Value := ag [it 0, it 0, it 0, it 0, .string ⟨⟨[]⟩⟩]

/-- Behind the step to an entry. -/
def B1 (st : Int) (c : UInt8) (l : List UInt8) (v : Value) (rest es : List (Value × Value)) (ver : Nat) : AM :=
  fin1 P (LH st [] es ver) (.tuple ⟨[.bool true, .string ⟨⟨c :: l⟩⟩, v]⟩) ((LH st [] es ver).heap.setObj 11 (.mapIter 10 93 rest (some (.string ⟨⟨c :: l⟩⟩, v))))

def B2 (st : Int) (c : UInt8) (l : List UInt8) (v : Value) (rest es : List (Value × Value)) (ver : Nat) : AM := run1 P 94 (B1 st c l v rest es ver)

variable {st : Int} {c : UInt8} {l : List UInt8} {v : Value} {rest es : List (Value × Value)} {ver : Nat}
theorem b12 (K : ProgOk P) {Q : AM → Prop} (h : Goes P (B2 st c l v rest es ver) Q) : Goes P (B1 st c l v rest es ver) Q :=
  Goes.go K 94 (by kernel_rfl) h

theorem ab_prim : abin P .eql 98 (prim (c :: l)) (prim (c :: l)) = some (.bool true) := by
  have h : sameT P 20 98 (.agg ⟨[it 1, it 0, it 0, it 0, .string ⟨⟨c :: l⟩⟩]⟩) (.agg ⟨[it 1, it 0, it 0, it 0, .string ⟨⟨c :: l⟩⟩]⟩) = some true :=
    (sameT_prim (c :: l) (c :: l)).trans (by rw [beqB_refl])
  simp only [abin, prim, ag, h]

theorem ab_len (a : Int) (h : a ≠ 2000) : abin P .eql 3 (it a) (it 2000) = some (.bool false) := by
  have h1 : abin P .eql 3 (it a) (it 2000) = some (.bool (decide (a = 2000))) := by kernel_rfl
  rw [h1, decide_eq_false h]

def B3 (st : Int) (c : UInt8) (l : List UInt8) (v : Value) (rest es : List (Value × Value)) (ver : Nat) : AM := run1 P 21 (fin1 P (B2 st c l v rest es ver) (.bool true) (B2 st c l v rest es ver).heap)
def B4 (st : Int) (c : UInt8) (l : List UInt8) (v : Value) (rest es : List (Value × Value)) (ver : Nat) : AM := run1 P 20 (fin1 P (B3 st c l v rest es ver) zeroM (B3 st c l v rest es ver).heap)
def B5 (st : Int) (c : UInt8) (l : List UInt8) (v : Value) (rest es : List (Value × Value)) (ver : Nat) : AM := run1 P 52 (fin1 P (B4 st c l v rest es ver) (.bool false) (B4 st c l v rest es ver).heap)
def B6h (st : Int) (c : UInt8) (l : List UInt8) (v : Value) (rest es : List (Value × Value)) (ver : Nat) : AHeap := (B5 st c l v rest es ver).heap.setObj 1 (.map (es ++ [(.string ⟨⟨c :: l⟩⟩, prim (c :: l))]) (Nat.succ ver))
def B6 (st : Int) (c : UInt8) (l : List UInt8) (v : Value) (rest es : List (Value × Value)) (ver : Nat) : AM := run1 P 15 (fin1 P (B5 st c l v rest es ver) undef (B6h st c l v rest es ver))

theorem b23 (K : ProgOk P) {Q : AM → Prop} (h : Goes P (B3 st c l v rest es ver) Q) : Goes P (B2 st c l v rest es ver) Q :=
  Goes.opV K (.bool true) (B2 st c l v rest es ver).heap (opS_bin (b := .eql) (t := 98) (ty := 98) (x := .tmp 19) (y := .tmp 20) (v := prim (c :: l)) (w := prim (c :: l)) (by kernel_rfl) (by kernel_rfl) (by kernel_rfl) ab_prim) (by kernel_rfl) (Goes.go K 21 (by kernel_rfl) h)

theorem b34 (K : ProgOk P) {Q : AM → Prop} (hf : findE (.string ⟨⟨c :: l⟩⟩) es = some none) (h : Goes P (B4 st c l v rest es ver) Q) : Goes P (B3 st c l v rest es ver) Q :=
  Goes.opV K zeroM (B3 st c l v rest es ver).heap (opS_lookup (t := 116) (kt := 9) (et := 98) (x := .tmp 26) (ix := .tmp 27) (ok := false) (r := 1) (ver := ver) (es := es) (k := .string ⟨⟨c :: l⟩⟩) (z := zeroM) (by kernel_rfl) (by kernel_rfl) (by kernel_rfl) (by kernel_rfl) (by kernel_rfl) (by kernel_rfl) hf (by kernel_rfl)) (by kernel_rfl) (Goes.go K 20 (by kernel_rfl) h)

theorem b45 (K : ProgOk P) {Q : AM → Prop} (hl : Int.ofNat es.length ≠ 2000) (h : Goes P (B5 st c l v rest es ver) Q) : Goes P (B4 st c l v rest es ver) Q :=
  Goes.opV K (.bool false) (B4 st c l v rest es ver).heap (opS_bin (b := .eql) (t := 3) (ty := 3) (x := .tmp 42) (y := .const (it 2000)) (v := it (Int.ofNat es.length)) (w := it 2000) (by kernel_rfl) (by kernel_rfl) (by kernel_rfl) (ab_len _ hl)) (by kernel_rfl) (Goes.go K 52 (by kernel_rfl) h)

theorem b56 (K : ProgOk P) {Q : AM → Prop} (hp : putE (.string ⟨⟨c :: l⟩⟩) (prim (c :: l)) es = some (es ++ [(.string ⟨⟨c :: l⟩⟩, prim (c :: l))])) (h : Goes P (B6 st c l v rest es ver) Q) : Goes P (B5 st c l v rest es ver) Q :=
  Goes.opK K (B6h st c l v rest es ver) (opS_mapUpdate (t := 116) (kt := 9) (et := 98) (m := .tmp 17) (k := .tmp 18) (x := .tmp 19) (r := 1) (ver := ver) (es := es) (kv := .string ⟨⟨c :: l⟩⟩) (v := prim (c :: l)) (by kernel_rfl) (by kernel_rfl) (by kernel_rfl) (by kernel_rfl) (by kernel_rfl) (by kernel_rfl) (by kernel_rfl) hp) (by kernel_rfl) (Goes.go K 15 (by kernel_rfl) h)

theorem b6a : (B6 st c l v rest es ver).heap.objs.get 1 = some (.map (es ++ [(.string ⟨⟨c :: l⟩⟩, prim (c :: l))]) (Nat.succ ver)) := by kernel_rfl
theorem b6b : (B6 st c l v rest es ver).heap.objs.get 11 = some (.mapIter 10 93 rest (some (.string ⟨⟨c :: l⟩⟩, v))) := by kernel_rfl

theorem plain_prim (l : List UInt8) (σ : Nat → Option Nat) : renV σ (prim l) = some (prim l) := rfl

theorem b6 (K : ProgOk P) {Q : AM → Prop} (he : PlainEs es) (hr : PlainEs rest) (h : Goes P (LH st rest (es ++ [(.string ⟨⟨c :: l⟩⟩, prim (c :: l))]) (Nat.succ ver)) Q) : Goes P (B6 st c l v rest es ver) Q :=
  Goes.small (keep := [(0, false), (1, true), (2, false), (3, false), (4, false), (5, false), (6, false), (7, false), (8, false), (9, false), (10, false), (11, true)]) (top := [8, 13, 94]) (slots := []) (by kernel_rfl)
    (fun id o hm ho => by
      simp at hm
      rcases hm with rfl | rfl
      · rw [b6a] at ho
        cases ho
        intro p hp
        rcases List.mem_append.1 hp with hp | hp
        · exact he p hp
        · rw [List.mem_singleton] at hp; subst hp; exact plain_prim _
      · rw [b6b] at ho
        cases ho
        exact hr) h

/-! ## The entry that is there already -/

def C4 (st : Int) (c : UInt8) (l : List UInt8) (v : Value) (rest es : List (Value × Value)) (ver : Nat) : AM := run1 P 73 (fin1 P (B3 st c l v rest es ver) (prim (c :: l)) (B3 st c l v rest es ver).heap)
def C5h (st : Int) (c : UInt8) (l : List UInt8) (v : Value) (rest es : List (Value × Value)) (ver : Nat) : AHeap := (C4 st c l v rest es ver).heap.setObj 1 (.map es (Nat.succ ver))
def C5 (st : Int) (c : UInt8) (l : List UInt8) (v : Value) (rest es : List (Value × Value)) (ver : Nat) : AM := run1 P 15 (fin1 P (C4 st c l v rest es ver) undef (C5h st c l v rest es ver))

theorem c34 (K : ProgOk P) {Q : AM → Prop} (hf : findE (.string ⟨⟨c :: l⟩⟩) es = some (some (prim (c :: l)))) (h : Goes P (C4 st c l v rest es ver) Q) : Goes P (B3 st c l v rest es ver) Q :=
  Goes.opV K (prim (c :: l)) (B3 st c l v rest es ver).heap (opS_lookup_some (t := 116) (kt := 9) (et := 98) (x := .tmp 26) (ix := .tmp 27) (ok := false) (r := 1) (ver := ver) (es := es) (k := .string ⟨⟨c :: l⟩⟩) (v := prim (c :: l)) (by kernel_rfl) (by kernel_rfl) (by kernel_rfl) (by kernel_rfl) (by kernel_rfl) (by kernel_rfl) hf) (by kernel_rfl) (Goes.go K 73 (by kernel_rfl) h)

theorem c45 (K : ProgOk P) {Q : AM → Prop} (hp : putE (.string ⟨⟨c :: l⟩⟩) (prim (c :: l)) es = some es) (h : Goes P (C5 st c l v rest es ver) Q) : Goes P (C4 st c l v rest es ver) Q :=
  Goes.opK K (C5h st c l v rest es ver) (opS_mapUpdate (t := 116) (kt := 9) (et := 98) (m := .tmp 17) (k := .tmp 18) (x := .tmp 19) (r := 1) (ver := ver) (es := es) (kv := .string ⟨⟨c :: l⟩⟩) (v := prim (c :: l)) (by kernel_rfl) (by kernel_rfl) (by kernel_rfl) (by kernel_rfl) (by kernel_rfl) (by kernel_rfl) (by kernel_rfl) hp) (by kernel_rfl) (Goes.go K 15 (by kernel_rfl) h)

theorem c5a : (C5 st c l v rest es ver).heap.objs.get 1 = some (.map es (Nat.succ ver)) := by kernel_rfl
theorem c5b : (C5 st c l v rest es ver).heap.objs.get 11 = some (.mapIter 10 93 rest (some (.string ⟨⟨c :: l⟩⟩, v))) := by kernel_rfl

theorem c5 {Q : AM → Prop} (he : PlainEs es) (hr : PlainEs rest) (h : Goes P (LH st rest es (Nat.succ ver)) Q) : Goes P (C5 st c l v rest es ver) Q :=
  Goes.small (keep := [(0, false), (1, true), (2, false), (3, false), (4, false), (5, false), (6, false), (7, false), (8, false), (9, false), (10, false), (11, true)]) (top := [8, 13, 94]) (slots := []) (by kernel_rfl)
    (fun id o hm ho => by
      simp at hm
      rcases hm with rfl | rfl
      · rw [c5a] at ho
        cases ho
        exact he
      · rw [c5b] at ho
        cases ho
        exact hr) h

/-! ## The end of the walk -/

def E1 (st : Int) (es : List (Value × Value)) (ver : Nat) : AM := fin1 P (LH st [] es ver) (.tuple ⟨[.bool false]⟩) (LH st [] es ver).heap

theorem e1a : (E1 st es ver).heap.objs.get 1 = some (.map es ver) := by kernel_rfl

theorem e1 {Q : AM → Prop} (he : PlainEs es) (h : Goes P (LE st es ver) Q) : Goes P (E1 st es ver) Q :=
  Goes.small (keep := [(0, false), (1, true), (2, false), (3, false), (4, false), (5, false), (6, false), (7, false), (8, false), (9, false)]) (top := [8, 13, 95]) (slots := []) (by kernel_rfl)
    (fun id o hm ho => by
      simp at hm
      subst hm
      rw [e1a] at ho
      cases ho
      exact he) h

/-! ## The walk -/

def primV : Value → Value
  | .string ⟨⟨l⟩⟩ => prim l
  | v => v

def dup (E0 : List (Value × Value)) (k : Value) : Bool := match findE k E0 with | some (some _) => true | _ => false

def newE (E0 : List (Value × Value)) (p : Value × Value) : Option (Value × Value) := bif dup E0 p.1 then none else some (p.1, primV p.1)

theorem findE_app {k v : Value} : ∀ {E x : List (Value × Value)}, findE k E = some (some v) → findE k (E ++ x) = some (some v)
  | [], x, h => by simp [findE] at h
  | (k', v') :: l, x, h => by
    simp only [findE, List.cons_append] at h ⊢
    split at h
    · exact h
    · exact findE_app h
    · cases h

theorem putE_app {k v v0 : Value} : ∀ {E E' x : List (Value × Value)}, findE k E = some (some v0) → putE k v E = some E' → putE k v (E ++ x) = some (E' ++ x)
  | [], E', x, h, hp => by simp [findE] at h
  | (k', v') :: l, E', x, h, hp => by
    simp only [findE] at h
    simp only [putE, List.cons_append] at hp ⊢
    split at h
    · rename_i hk
      simp only [hk, Option.some.injEq] at hp ⊢
      subst hp; rfl
    · rename_i hk
      simp only [hk] at hp ⊢
      split at hp
      · rename_i l2 hl
        simp only [Option.some.injEq] at hp; subst hp
        rw [putE_app h hl]; rfl
      · cases hp
    · cases h

/-- What is known of an entry that the walk will come to. -/
structure EntryOk (E0 : List (Value × Value)) (p : Value × Value) : Prop where
  key : ∃ c l, p.1 = .string ⟨⟨c :: l⟩⟩
  old : dup E0 p.1 = true → findE p.1 E0 = some (some (primV p.1)) ∧ putE p.1 (primV p.1) E0 = some E0
  new : dup E0 p.1 = false → ∀ e ∈ E0, keyEq p.1 e.1 = some false

theorem atH : atNextB (LH st rest es ver) = some (.tmp 94) := by kernel_rfl
theorem evH : evS (LH st rest es ver) (.tmp 94) = some (.pointer (some ⟨11, 0, none⟩)) := by kernel_rfl
theorem ob11 : (LH st rest es ver).heap.obj 11 = some (.mapIter 10 93 rest none) := by kernel_rfl
theorem ob10' : (LH st rest es ver).heap.obj 10 = some nwob14 := by kernel_rfl
theorem ob10 : ∃ L, (LH st rest es ver).heap.obj 10 = some (.map L 93) := ⟨_, ob10'⟩
theorem finE : finS P (LH st [] es ver) (.tuple ⟨[.bool false]⟩) (LH st [] es ver).heap = some (E1 st es ver) := fin1_eq (by kernel_rfl)
theorem finB {left : List (Value × Value)} : finS P (LH st left es ver) (.tuple ⟨[.bool true, .string ⟨⟨c :: l⟩⟩, v]⟩) ((LH st left es ver).heap.setObj 11 (.mapIter 10 93 rest (some (.string ⟨⟨c :: l⟩⟩, v)))) = some (B1 st c l v rest es ver) := by
  kernel_rfl
end
end Go.Proofs.Gn

