-- written by wip/tools/xprint.py (a program of this project) out of the translation
import Derived.Test.YtlfoojgbiafffaaGreatDoorXFnExactReadBulletinx0
import Derived.Test.YtlfoojgbiafffaaGreatDoorStrsE
namespace Go.Proofs.YtlfoojgbiafffaaGreatDoor.XFnExactReadBulletin
open Go.RowKit Go.Proofs.YtlfoojgbiafffaaGreatDoorW.PrintWords Go.Proofs.YtlfoojgbiafffaaGreatDoorW.PrintLast Go.Proofs.YtlfoojgbiafffaaGreatDoorW.PrintMore
open Go.Proofs.YtlfoojgbiafffaaGreatDoor.Strs
attribute [local go_sem] max2_int min2_int max_two min_two max_three min_three max_four min_four   -- for this text's walks alone
set_option linter.unusedVariables false
set_option linter.unusedSimpArgs false

end Go.Proofs.YtlfoojgbiafffaaGreatDoor.XFnExactReadBulletin
