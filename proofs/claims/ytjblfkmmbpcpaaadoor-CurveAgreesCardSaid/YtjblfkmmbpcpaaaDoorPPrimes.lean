/-
  PLAIN (own work), NUMBERS: the orders' primes.
-/
import Derived.Test.YtjblfkmmbpcpaaaDoorPNum
namespace Go.Proofs.YtjblfkmmbpcpaaaDoor.Num
set_option linter.unusedSimpArgs false
set_option linter.unusedVariables false
set_option linter.unusedSectionVars false
theorem pr2551 : PrimeN 2551 := trial_prime (m := 51) (by decide) (by decide +kernel) (by decide +kernel)
theorem pr1224481 : PrimeN 1224481 := pock1 (a := 2) (f := 22) pr2551 (by decide +kernel) (by decide +kernel) (by decide +kernel) (by decide +kernel) (by decide +kernel) (by decide +kernel)
theorem pr531581 : PrimeN 531581 := trial_prime (m := 730) (by decide) (by decide +kernel) (by decide +kernel)
theorem pr1257559732178653 : PrimeN 1257559732178653 := pock2 (a := 2) (f := 52) pr1224481 pr531581 (by decide +kernel) (by decide +kernel) (by decide +kernel) (by decide +kernel) (by decide +kernel) (by decide +kernel) (by decide +kernel) (by decide +kernel) (by decide +kernel)
theorem pr4434155615661930479 : PrimeN 4434155615661930479 := pock1 (a := 2) (f := 62) pr1257559732178653 (by decide +kernel) (by decide +kernel) (by decide +kernel) (by decide +kernel) (by decide +kernel) (by decide +kernel)
theorem pr172054593956031949258510691 : PrimeN 172054593956031949258510691 := pock1 (a := 2) (f := 88) pr4434155615661930479 (by decide +kernel) (by decide +kernel) (by decide +kernel) (by decide +kernel) (by decide +kernel) (by decide +kernel)
theorem pr19757330305831588566944191468367130476339 : PrimeN 19757330305831588566944191468367130476339 := pock1 (a := 2) (f := 134) pr172054593956031949258510691 (by decide +kernel) (by decide +kernel) (by decide +kernel) (by decide +kernel) (by decide +kernel) (by decide +kernel)
theorem pr276602624281642239937218680557139826668747 : PrimeN 276602624281642239937218680557139826668747 := pock1 (a := 2) (f := 138) pr19757330305831588566944191468367130476339 (by decide +kernel) (by decide +kernel) (by decide +kernel) (by decide +kernel) (by decide +kernel) (by decide +kernel)
theorem pr7237005577332262213973186563042994240857116359379907606001950938285454250989 : PrimeN 7237005577332262213973186563042994240857116359379907606001950938285454250989 := pock1 (a := 2) (f := 254) pr276602624281642239937218680557139826668747 (by decide +kernel) (by decide +kernel) (by decide +kernel) (by decide +kernel) (by decide +kernel) (by decide +kernel)
theorem pr28859 : PrimeN 28859 := trial_prime (m := 170) (by decide) (by decide +kernel) (by decide +kernel)
theorem pr2281 : PrimeN 2281 := trial_prime (m := 48) (by decide) (by decide +kernel) (by decide +kernel)
theorem pr8053 : PrimeN 8053 := trial_prime (m := 90) (by decide) (by decide +kernel) (by decide +kernel)
theorem pr3911 : PrimeN 3911 := trial_prime (m := 63) (by decide) (by decide +kernel) (by decide +kernel)
theorem pr5171003929967 : PrimeN 5171003929967 := pock2 (a := 2) (f := 44) pr28859 pr2281 (by decide +kernel) (by decide +kernel) (by decide +kernel) (by decide +kernel) (by decide +kernel) (by decide +kernel) (by decide +kernel) (by decide +kernel) (by decide +kernel)
theorem pr1013266244677 : PrimeN 1013266244677 := pock2 (a := 2) (f := 40) pr8053 pr3911 (by decide +kernel) (by decide +kernel) (by decide +kernel) (by decide +kernel) (by decide +kernel) (by decide +kernel) (by decide +kernel) (by decide +kernel) (by decide +kernel)
theorem pr22561162540501040539 : PrimeN 22561162540501040539 := pock1 (a := 2) (f := 66) pr5171003929967 (by decide +kernel) (by decide +kernel) (by decide +kernel) (by decide +kernel) (by decide +kernel) (by decide +kernel)
theorem pr203852586375664218368381551393371968928013 : PrimeN 203852586375664218368381551393371968928013 := pock2 (a := 2) (f := 138) pr22561162540501040539 pr1013266244677 (by decide +kernel) (by decide +kernel) (by decide +kernel) (by decide +kernel) (by decide +kernel) (by decide +kernel) (by decide +kernel) (by decide +kernel) (by decide +kernel)
theorem pr104719073621178708975837602950775180438320278101 : PrimeN 104719073621178708975837602950775180438320278101 := pock1 (a := 2) (f := 158) pr203852586375664218368381551393371968928013 (by decide +kernel) (by decide +kernel) (by decide +kernel) (by decide +kernel) (by decide +kernel) (by decide +kernel)
theorem pr27413359092552162435694767700453926735143482401279781 : PrimeN 27413359092552162435694767700453926735143482401279781 := pock1 (a := 2) (f := 176) pr104719073621178708975837602950775180438320278101 (by decide +kernel) (by decide +kernel) (by decide +kernel) (by decide +kernel) (by decide +kernel) (by decide +kernel)
theorem pr14474011154664524427946373126085988481603263447650325797860494125407373907997 : PrimeN 14474011154664524427946373126085988481603263447650325797860494125407373907997 := pock1 (a := 2) (f := 254) pr27413359092552162435694767700453926735143482401279781 (by decide +kernel) (by decide +kernel) (by decide +kernel) (by decide +kernel) (by decide +kernel) (by decide +kernel)
def ell : Nat := 2 ^ 252 + 27742317777372353535851937790883648493
def ell2 : Nat := 2 ^ 253 - 55484635554744707071703875581767296995
theorem prime_ell : PrimeN ell := pr7237005577332262213973186563042994240857116359379907606001950938285454250989
theorem prime_ell2 : PrimeN ell2 := pr14474011154664524427946373126085988481603263447650325797860494125407373907997
end Go.Proofs.YtjblfkmmbpcpaaaDoor.Num
