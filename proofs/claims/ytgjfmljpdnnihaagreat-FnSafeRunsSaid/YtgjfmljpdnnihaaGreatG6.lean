/-
  Functions of the program as plain functions of contents, and that the code computes them. Nothing here is a claim.
-/
import Derived.Test.YtgjfmljpdnnihaaGreatVZ
import Derived.Test.YtgjfmljpdnnihaaGreatRows
import Derived.Test.YtgjfmljpdnnihaaGreatG1
import Derived.Test.YtgjfmljpdnnihaaGreatG2
import Derived.Test.YtgjfmljpdnnihaaGreatG3
import Derived.Test.YtgjfmljpdnnihaaGreatG4
import Derived.Test.YtgjfmljpdnnihaaGreatG5
namespace Go.Proofs.YtgjfmljpdnnihaaGreat
set_option linter.defProp false
open Go.RowKit Go.Proofs.Tryz
set_option linter.unusedVariables false
set_option maxRecDepth 100000
def TM(E:aa Int):aj (Bool):=(SK E).bind λI=>bif I then some true else (MQ E).bind λD=>(M5 D.1 D.2.1 D.2.2).bind λO=>(Eh O.1 300).bind λC=>(sx C).bind λT=>bif T then (MC C).bind λU=>bif U then (ME C).bind λY=>bif Y then (M7 C).bind λZ=>bif Z then some (C.now >= 300)else some false else some false else some false else some false
def aoJ:jh:=gS [(false,(.sl .u8))] [(false,.bool,0)] (λx=>TM x.1)
def aoK:enters Tryz.prog 4/\iL Tryz.prog 4 aoJ:=kp 44 [akl,acv,anL,anO,an5,aoG,xy,aoI] func4
end Go.Proofs.YtgjfmljpdnnihaaGreat
