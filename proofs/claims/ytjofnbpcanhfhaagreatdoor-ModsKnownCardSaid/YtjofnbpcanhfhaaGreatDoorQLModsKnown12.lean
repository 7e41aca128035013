/- The texts Wb1. -/
import Derived.Test.YtjofnbpcanhfhaaGreatDoorQLModsKnown11
namespace Go.Proofs.YtjofnbpcanhfhaaGreatDoor
open Go.Sx
set_option linter.unusedSimpArgs false
set_option linter.unusedVariables false
set_option maxRecDepth 1000000
theorem b33768:bigRun 33768 512=true:=by decide+kernel
theorem b34280:bigRun 34280 512=true:=by decide+kernel
theorem b34792:bigRun 34792 512=true:=by decide+kernel
theorem b35304:bigRun 35304 512=true:=by decide+kernel
theorem b35816:bigRun 35816 512=true:=by decide+kernel
theorem b36328:bigRun 36328 512=true:=by decide+kernel
theorem b36840:bigRun 36840 512=true:=by decide+kernel
theorem b37352:bigRun 37352 512=true:=by decide+kernel
theorem b37864:bigRun 37864 512=true:=by decide+kernel
theorem b38376:bigRun 38376 512=true:=by decide+kernel
theorem b38888:bigRun 38888 512=true:=by decide+kernel
theorem b39400:bigRun 39400 512=true:=by decide+kernel
theorem b39912:bigRun 39912 512=true:=by decide+kernel
theorem b40424:bigRun 40424 512=true:=by decide+kernel
theorem b40936:bigRun 40936 512=true:=by decide+kernel
theorem b41448:bigRun 41448 512=true:=by decide+kernel
theorem b41960:bigRun 41960 512=true:=by decide+kernel
theorem b42472:bigRun 42472 512=true:=by decide+kernel
theorem b42984:bigRun 42984 512=true:=by decide+kernel
theorem b43496:bigRun 43496 512=true:=by decide+kernel
theorem b44008:bigRun 44008 512=true:=by decide+kernel
theorem b44520:bigRun 44520 512=true:=by decide+kernel
theorem b45032:bigRun 45032 512=true:=by decide+kernel
theorem b45544:bigRun 45544 512=true:=by decide+kernel
theorem b46056:bigRun 46056 512=true:=by decide+kernel
theorem b46568:bigRun 46568 512=true:=by decide+kernel
theorem b47080:bigRun 47080 512=true:=by decide+kernel
theorem b47592:bigRun 47592 512=true:=by decide+kernel
theorem b48104:bigRun 48104 512=true:=by decide+kernel
theorem b48616:bigRun 48616 512=true:=by decide+kernel
theorem b49128:bigRun 49128 512=true:=by decide+kernel
theorem b49640:bigRun 49640 512=true:=by decide+kernel
theorem b50152:bigRun 50152 512=true:=by decide+kernel
theorem b50664:bigRun 50664 512=true:=by decide+kernel
theorem b51176:bigRun 51176 512=true:=by decide+kernel
theorem b51688:bigRun 51688 512=true:=by decide+kernel
theorem b52200:bigRun 52200 512=true:=by decide+kernel
theorem b52712:bigRun 52712 512=true:=by decide+kernel
theorem b53224:bigRun 53224 512=true:=by decide+kernel
theorem b53736:bigRun 53736 512=true:=by decide+kernel
theorem b54248:bigRun 54248 512=true:=by decide+kernel
theorem b54760:bigRun 54760 512=true:=by decide+kernel
theorem b55272:bigRun 55272 512=true:=by decide+kernel
theorem b55784:bigRun 55784 512=true:=by decide+kernel
theorem b56296:bigRun 56296 512=true:=by decide+kernel
theorem b56808:bigRun 56808 512=true:=by decide+kernel
theorem b57320:bigRun 57320 512=true:=by decide+kernel
theorem b57832:bigRun 57832 512=true:=by decide+kernel
theorem b58344:bigRun 58344 512=true:=by decide+kernel
theorem b58856:bigRun 58856 512=true:=by decide+kernel
theorem b59368:bigRun 59368 512=true:=by decide+kernel
theorem b59880:bigRun 59880 512=true:=by decide+kernel
theorem b60392:bigRun 60392 512=true:=by decide+kernel
theorem b60904:bigRun 60904 512=true:=by decide+kernel
theorem b61416:bigRun 61416 512=true:=by decide+kernel
theorem b61928:bigRun 61928 512=true:=by decide+kernel
theorem b62440:bigRun 62440 512=true:=by decide+kernel
theorem b62952:bigRun 62952 512=true:=by decide+kernel
theorem b63464:bigRun 63464 512=true:=by decide+kernel
theorem b63976:bigRun 63976 512=true:=by decide+kernel
theorem b64488:bigRun 64488 512=true:=by decide+kernel
theorem b65000:bigRun 65000 512=true:=by decide+kernel
theorem b65512:bigRun 65512 512=true:=by decide+kernel
theorem bigs1:BigC 33768 66024:=(bigs_cons b33768 (bigs_cons b34280 (bigs_cons b34792 (bigs_cons b35304 (bigs_cons b35816 (bigs_cons b36328 (bigs_cons b36840 (bigs_cons b37352 (bigs_cons b37864 (bigs_cons b38376 (bigs_cons b38888 (bigs_cons b39400 (bigs_cons b39912 (bigs_cons b40424 (bigs_cons b40936 (bigs_cons b41448 (bigs_cons b41960 (bigs_cons b42472 (bigs_cons b42984 (bigs_cons b43496 (bigs_cons b44008 (bigs_cons b44520 (bigs_cons b45032 (bigs_cons b45544 (bigs_cons b46056 (bigs_cons b46568 (bigs_cons b47080 (bigs_cons b47592 (bigs_cons b48104 (bigs_cons b48616 (bigs_cons b49128 (bigs_cons b49640 (bigs_cons b50152 (bigs_cons b50664 (bigs_cons b51176 (bigs_cons b51688 (bigs_cons b52200 (bigs_cons b52712 (bigs_cons b53224 (bigs_cons b53736 (bigs_cons b54248 (bigs_cons b54760 (bigs_cons b55272 (bigs_cons b55784 (bigs_cons b56296 (bigs_cons b56808 (bigs_cons b57320 (bigs_cons b57832 (bigs_cons b58344 (bigs_cons b58856 (bigs_cons b59368 (bigs_cons b59880 (bigs_cons b60392 (bigs_cons b60904 (bigs_cons b61416 (bigs_cons b61928 (bigs_cons b62440 (bigs_cons b62952 (bigs_cons b63464 (bigs_cons b63976 (bigs_cons b64488 (bigs_cons b65000 (bigs_cons b65512 bigs_nil)))))))))))))))))))))))))))))))))))))))))))))))))))))))))))))))
end Go.Proofs.YtjofnbpcanhfhaaGreatDoor
