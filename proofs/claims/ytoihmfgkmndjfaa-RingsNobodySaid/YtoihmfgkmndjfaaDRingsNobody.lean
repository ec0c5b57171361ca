import Derived.Test.YtoihmfgkmndjfaaVcG1
import Derived.Test.YtoihmfgkmndjfaaDL07
namespace Go.Proofs.YtoihmfgkmndjfaaV
set_option linter.unusedVariables false
def L07_RingsNobody_J1 : Option Bool :=
  Option.bind (L07_alive) fun r1 =>
  some r1
def L07_RingsNobody_C1 (a0 : Int) (k1 : Int → Option Bool) : Option Bool :=
  k1 a0
def L07_RingsNobody_C2 (x1 : Int) (k2 : Int → Option Bool) : Option Bool :=
  k2 x1
def L07_RingsNobody_C3 (x2 : Int) (k3 : Int → Option Bool) : Option Bool :=
  k3 x2
def L07_RingsNobody_C4 (x3 : Int) (k4 : Int → Option Bool) : Option Bool :=
  k4 x3
def L07_RingsNobody_C5 (x4 : Int) (k5 : Int → Option Bool) : Option Bool :=
  k5 x4
def L07_RingsNobody_C6 (x5 : Int) (k6 : Int → Option Bool) : Option Bool :=
  k6 x5
def L07_RingsNobody_C7 (x6 : Int) (k7 : Int → Option Bool) : Option Bool :=
  k7 x6
def L07_RingsNobody_C8 (x7 : Int) (k8 : Int → Option Bool) : Option Bool :=
  k8 x7
def L07_RingsNobody_C9 (x8 : Int) (k9 : Int → Option Bool) : Option Bool :=
  k9 x8
def L07_RingsNobody_C10 (x9 : Int) (k10 : Int → Option Bool) : Option Bool :=
  k10 x9
def L07_RingsNobody_C11 (x10 : Int) (k11 : Int → Option Bool) : Option Bool :=
  k11 x10
def L07_RingsNobody_C12 (x11 : Int) (k12 : Int → Option Bool) : Option Bool :=
  k12 x11
def L07_RingsNobody_C13 (x12 : Int) (k13 : Int → Option Bool) : Option Bool :=
  k13 x12
def L07_RingsNobody_C14 (x13 : Int) (k14 : Int → Option Bool) : Option Bool :=
  k14 x13
def L07_RingsNobody_R14 (x14 : Int) : Option Bool :=
  L07_RingsNobody_J1
def L07_RingsNobody_R13 (x13 : Int) : Option Bool :=
  cutv 14 (L07_RingsNobody_C14 x13) L07_RingsNobody_R14
def L07_RingsNobody_R12 (x12 : Int) : Option Bool :=
  cutv 13 (L07_RingsNobody_C13 x12) L07_RingsNobody_R13
def L07_RingsNobody_R11 (x11 : Int) : Option Bool :=
  cutv 12 (L07_RingsNobody_C12 x11) L07_RingsNobody_R12
def L07_RingsNobody_R10 (x10 : Int) : Option Bool :=
  cutv 11 (L07_RingsNobody_C11 x10) L07_RingsNobody_R11
def L07_RingsNobody_R9 (x9 : Int) : Option Bool :=
  cutv 10 (L07_RingsNobody_C10 x9) L07_RingsNobody_R10
def L07_RingsNobody_R8 (x8 : Int) : Option Bool :=
  cutv 9 (L07_RingsNobody_C9 x8) L07_RingsNobody_R9
def L07_RingsNobody_R7 (x7 : Int) : Option Bool :=
  cutv 8 (L07_RingsNobody_C8 x7) L07_RingsNobody_R8
def L07_RingsNobody_R6 (x6 : Int) : Option Bool :=
  cutv 7 (L07_RingsNobody_C7 x6) L07_RingsNobody_R7
def L07_RingsNobody_R5 (x5 : Int) : Option Bool :=
  cutv 6 (L07_RingsNobody_C6 x5) L07_RingsNobody_R6
def L07_RingsNobody_R4 (x4 : Int) : Option Bool :=
  cutv 5 (L07_RingsNobody_C5 x4) L07_RingsNobody_R5
def L07_RingsNobody_R3 (x3 : Int) : Option Bool :=
  cutv 4 (L07_RingsNobody_C4 x3) L07_RingsNobody_R4
def L07_RingsNobody_R2 (x2 : Int) : Option Bool :=
  cutv 3 (L07_RingsNobody_C3 x2) L07_RingsNobody_R3
def L07_RingsNobody_R1 (x1 : Int) : Option Bool :=
  cutv 2 (L07_RingsNobody_C2 x1) L07_RingsNobody_R2
def L07_RingsNobody (a0 : Int) : Option Bool :=
  cutv 1 (L07_RingsNobody_C1 a0) L07_RingsNobody_R1
end Go.Proofs.YtoihmfgkmndjfaaV
