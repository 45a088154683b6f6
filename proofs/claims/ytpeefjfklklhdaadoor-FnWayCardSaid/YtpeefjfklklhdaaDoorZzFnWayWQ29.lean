/- Of a text of ours what this claim needs. -/
import Derived.Test.YtpeefjfklklhdaaDoorZzFnWayWQ0
import Derived.Test.YtpeefjfklklhdaaDoorZzFnWayWQ2
import Derived.Test.YtpeefjfklklhdaaDoorZzFnWayWQ3
import Derived.Test.YtpeefjfklklhdaaDoorZzFnWayWQ8
import Derived.Test.YtpeefjfklklhdaaDoorZzFnWayWQ4
import Derived.Test.YtpeefjfklklhdaaDoorZzFnWayWHSplit
import Derived.Test.YtpeefjfklklhdaaDoorZzFnWayWQ24
import Derived.Test.YtpeefjfklklhdaaDoorZzFnWayWQ1
import Derived.Test.YtpeefjfklklhdaaDoorZzFnWayWQ5
import Derived.Test.YtpeefjfklklhdaaDoorZzFnWayWQ22
import Derived.Test.YtpeefjfklklhdaaDoorZzFnWayWQ16
namespace Go.Proofs.YtpeefjfklklhdaaDoor.Q
open Go.RowKit Go.Proofs.YtpeefjfklklhdaaDoorW.PrintWords Go.Proofs.YtpeefjfklklhdaaDoorW.PrintLast Go.Proofs.YtpeefjfklklhdaaDoorW.PrintMore
attribute [local go_sem] max2_int min2_int max_two min_two max_three min_three max_four min_four
set_option linter.unusedVariables false
set_option linter.unusedSimpArgs false
def spec_l20Confs.f (k:Nat) (s0_0:List Int) (s0_1:Int):Option ((List (S56)) × Int):=(some (([bz0,bz11]:List ByteArray):List ByteArray)).bind fun y314=>((some (([(⟨bz1,bz1⟩:S69),(⟨bz10,bz2⟩:S69),(⟨bz5,bz2⟩:S69)]:List (S69)):List (S69))).bind fun y317=>((some (([bz1]:List ByteArray):List ByteArray)).bind fun y321=>((some (([(⟨bz9,bz0⟩:S69),(⟨bz2,bz2⟩:S69)]:List (S69)):List (S69))).bind fun y324=>((some (([bz2,bz8]:List ByteArray):List ByteArray)).bind fun y328=>((some (([(⟨bz0,bz0⟩:S69),(⟨bz1,bz1⟩:S69),(⟨bz6,bz7⟩:S69),(⟨bz4,bz1⟩:S69)]:List (S69)):List (S69))).bind fun y331=>((spec_l20Rd_pick.f k s0_0 s0_1 5).bind fun bt335=>(if bt335.1=0 then (some ((([(⟨bz0,y314,y317⟩:S56),(⟨bz1,y321,(([(⟨bz4,bz0⟩:S69),(⟨bz0,bz0⟩:S69)]:List (S69)))⟩:S56),(⟨bz2,y328,y331⟩:S56)]:List (S56))),bt335.2)) else (if bt335.1=1 then (some ((([(⟨bz0,y314,y317⟩:S56),(⟨bz1,y321,y324⟩:S56)]:List (S56))),bt335.2)) else (if bt335.1=2 then (if 2≤(y317.length:Int) then (if y324.length < 4398046511104 then (some ((([(⟨bz0,y314,(y317.take (2:Int).toNat)⟩:S56),(⟨bz1,y321,(y324++[(⟨bz5,bz2⟩:S69)])⟩:S56),(⟨bz2,y328,y331⟩:S56)]:List (S56))),bt335.2)) else (none)) else (none)) else (some ((([(⟨bz0,y314,y317⟩:S56),(⟨bz1,y321,y324⟩:S56),(⟨bz2,y328,y331⟩:S56)]:List (S56))),bt335.2)))))))))))
end Go.Proofs.YtpeefjfklklhdaaDoor.Q
