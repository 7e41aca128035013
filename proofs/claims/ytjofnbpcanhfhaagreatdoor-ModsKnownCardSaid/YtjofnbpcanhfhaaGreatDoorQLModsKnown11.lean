/- The texts Wb0. -/
import Derived.Test.YtjofnbpcanhfhaaGreatDoorQLModsKnown10
namespace Go.Proofs.YtjofnbpcanhfhaaGreatDoor
open Go.Sx
set_option linter.unusedSimpArgs false
set_option linter.unusedVariables false
set_option maxRecDepth 1000000
theorem b1000:bigRun 1000 512=true:=by decide+kernel
theorem b1512:bigRun 1512 512=true:=by decide+kernel
theorem b2024:bigRun 2024 512=true:=by decide+kernel
theorem b2536:bigRun 2536 512=true:=by decide+kernel
theorem b3048:bigRun 3048 512=true:=by decide+kernel
theorem b3560:bigRun 3560 512=true:=by decide+kernel
theorem b4072:bigRun 4072 512=true:=by decide+kernel
theorem b4584:bigRun 4584 512=true:=by decide+kernel
theorem b5096:bigRun 5096 512=true:=by decide+kernel
theorem b5608:bigRun 5608 512=true:=by decide+kernel
theorem b6120:bigRun 6120 512=true:=by decide+kernel
theorem b6632:bigRun 6632 512=true:=by decide+kernel
theorem b7144:bigRun 7144 512=true:=by decide+kernel
theorem b7656:bigRun 7656 512=true:=by decide+kernel
theorem b8168:bigRun 8168 512=true:=by decide+kernel
theorem b8680:bigRun 8680 512=true:=by decide+kernel
theorem b9192:bigRun 9192 512=true:=by decide+kernel
theorem b9704:bigRun 9704 512=true:=by decide+kernel
theorem b10216:bigRun 10216 512=true:=by decide+kernel
theorem b10728:bigRun 10728 512=true:=by decide+kernel
theorem b11240:bigRun 11240 512=true:=by decide+kernel
theorem b11752:bigRun 11752 512=true:=by decide+kernel
theorem b12264:bigRun 12264 512=true:=by decide+kernel
theorem b12776:bigRun 12776 512=true:=by decide+kernel
theorem b13288:bigRun 13288 512=true:=by decide+kernel
theorem b13800:bigRun 13800 512=true:=by decide+kernel
theorem b14312:bigRun 14312 512=true:=by decide+kernel
theorem b14824:bigRun 14824 512=true:=by decide+kernel
theorem b15336:bigRun 15336 512=true:=by decide+kernel
theorem b15848:bigRun 15848 512=true:=by decide+kernel
theorem b16360:bigRun 16360 512=true:=by decide+kernel
theorem b16872:bigRun 16872 512=true:=by decide+kernel
theorem b17384:bigRun 17384 512=true:=by decide+kernel
theorem b17896:bigRun 17896 512=true:=by decide+kernel
theorem b18408:bigRun 18408 512=true:=by decide+kernel
theorem b18920:bigRun 18920 512=true:=by decide+kernel
theorem b19432:bigRun 19432 512=true:=by decide+kernel
theorem b19944:bigRun 19944 512=true:=by decide+kernel
theorem b20456:bigRun 20456 512=true:=by decide+kernel
theorem b20968:bigRun 20968 512=true:=by decide+kernel
theorem b21480:bigRun 21480 512=true:=by decide+kernel
theorem b21992:bigRun 21992 512=true:=by decide+kernel
theorem b22504:bigRun 22504 512=true:=by decide+kernel
theorem b23016:bigRun 23016 512=true:=by decide+kernel
theorem b23528:bigRun 23528 512=true:=by decide+kernel
theorem b24040:bigRun 24040 512=true:=by decide+kernel
theorem b24552:bigRun 24552 512=true:=by decide+kernel
theorem b25064:bigRun 25064 512=true:=by decide+kernel
theorem b25576:bigRun 25576 512=true:=by decide+kernel
theorem b26088:bigRun 26088 512=true:=by decide+kernel
theorem b26600:bigRun 26600 512=true:=by decide+kernel
theorem b27112:bigRun 27112 512=true:=by decide+kernel
theorem b27624:bigRun 27624 512=true:=by decide+kernel
theorem b28136:bigRun 28136 512=true:=by decide+kernel
theorem b28648:bigRun 28648 512=true:=by decide+kernel
theorem b29160:bigRun 29160 512=true:=by decide+kernel
theorem b29672:bigRun 29672 512=true:=by decide+kernel
theorem b30184:bigRun 30184 512=true:=by decide+kernel
theorem b30696:bigRun 30696 512=true:=by decide+kernel
theorem b31208:bigRun 31208 512=true:=by decide+kernel
theorem b31720:bigRun 31720 512=true:=by decide+kernel
theorem b32232:bigRun 32232 512=true:=by decide+kernel
theorem b32744:bigRun 32744 512=true:=by decide+kernel
theorem b33256:bigRun 33256 512=true:=by decide+kernel
theorem bigs0:BigC 1000 33768:=(bigs_cons b1000 (bigs_cons b1512 (bigs_cons b2024 (bigs_cons b2536 (bigs_cons b3048 (bigs_cons b3560 (bigs_cons b4072 (bigs_cons b4584 (bigs_cons b5096 (bigs_cons b5608 (bigs_cons b6120 (bigs_cons b6632 (bigs_cons b7144 (bigs_cons b7656 (bigs_cons b8168 (bigs_cons b8680 (bigs_cons b9192 (bigs_cons b9704 (bigs_cons b10216 (bigs_cons b10728 (bigs_cons b11240 (bigs_cons b11752 (bigs_cons b12264 (bigs_cons b12776 (bigs_cons b13288 (bigs_cons b13800 (bigs_cons b14312 (bigs_cons b14824 (bigs_cons b15336 (bigs_cons b15848 (bigs_cons b16360 (bigs_cons b16872 (bigs_cons b17384 (bigs_cons b17896 (bigs_cons b18408 (bigs_cons b18920 (bigs_cons b19432 (bigs_cons b19944 (bigs_cons b20456 (bigs_cons b20968 (bigs_cons b21480 (bigs_cons b21992 (bigs_cons b22504 (bigs_cons b23016 (bigs_cons b23528 (bigs_cons b24040 (bigs_cons b24552 (bigs_cons b25064 (bigs_cons b25576 (bigs_cons b26088 (bigs_cons b26600 (bigs_cons b27112 (bigs_cons b27624 (bigs_cons b28136 (bigs_cons b28648 (bigs_cons b29160 (bigs_cons b29672 (bigs_cons b30184 (bigs_cons b30696 (bigs_cons b31208 (bigs_cons b31720 (bigs_cons b32232 (bigs_cons b32744 (bigs_cons b33256 bigs_nil))))))))))))))))))))))))))))))))))))))))))))))))))))))))))))))))
end Go.Proofs.YtjofnbpcanhfhaaGreatDoor
