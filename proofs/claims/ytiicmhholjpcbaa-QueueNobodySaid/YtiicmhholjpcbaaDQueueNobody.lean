import Derived.Test.YtiicmhholjpcbaaVcG1
import Derived.Test.YtiicmhholjpcbaaDL03
namespace Go.Proofs.YtiicmhholjpcbaaV
set_option linter.unusedVariables false
def L03_QueueNobody_J1 : Option Bool :=
  Option.bind (L03_alive) fun r1 =>
  some r1
def L03_QueueNobody_C1 (a0 : Int) (a1 : Int) (k1 : (Int × Int) → Option Bool) : Option Bool :=
  k1 (a0, a1)
def L03_QueueNobody_C2 (x1 : Int × Int) (k2 : (Int × Int) → Option Bool) : Option Bool :=
  k2 (x1.1, x1.2)
def L03_QueueNobody_C3 (x2 : Int × Int) (k3 : (Int × Int) → Option Bool) : Option Bool :=
  k3 (x2.1, x2.2)
def L03_QueueNobody_C4 (x3 : Int × Int) (k4 : (Int × Int) → Option Bool) : Option Bool :=
  k4 (x3.1, x3.2)
def L03_QueueNobody_C5 (x4 : Int × Int) (k5 : (Int × Int) → Option Bool) : Option Bool :=
  k5 (x4.1, x4.2)
def L03_QueueNobody_C6 (x5 : Int × Int) (k6 : (Int × Int) → Option Bool) : Option Bool :=
  k6 (x5.1, x5.2)
def L03_QueueNobody_C7 (x6 : Int × Int) (k7 : (Int × Int) → Option Bool) : Option Bool :=
  k7 (x6.1, x6.2)
def L03_QueueNobody_C8 (x7 : Int × Int) (k8 : (Int × Int) → Option Bool) : Option Bool :=
  k8 (x7.1, x7.2)
def L03_QueueNobody_C9 (x8 : Int × Int) (k9 : (Int × Int) → Option Bool) : Option Bool :=
  k9 (x8.1, x8.2)
def L03_QueueNobody_C10 (x9 : Int × Int) (k10 : (Int × Int) → Option Bool) : Option Bool :=
  k10 (x9.1, x9.2)
def L03_QueueNobody_C11 (x10 : Int × Int) (k11 : (Int × Int) → Option Bool) : Option Bool :=
  k11 (x10.1, x10.2)
def L03_QueueNobody_C12 (x11 : Int × Int) (k12 : (Int × Int) → Option Bool) : Option Bool :=
  k12 (x11.1, x11.2)
def L03_QueueNobody_C13 (x12 : Int × Int) (k13 : (Int × Int) → Option Bool) : Option Bool :=
  k13 (x12.1, x12.2)
def L03_QueueNobody_C14 (x13 : Int × Int) (k14 : (Int × Int) → Option Bool) : Option Bool :=
  k14 (x13.1, x13.2)
def L03_QueueNobody_R14 (x14 : Int × Int) : Option Bool :=
  L03_QueueNobody_J1
def L03_QueueNobody_R13 (x13 : Int × Int) : Option Bool :=
  cutv 14 (L03_QueueNobody_C14 x13) L03_QueueNobody_R14
def L03_QueueNobody_R12 (x12 : Int × Int) : Option Bool :=
  cutv 13 (L03_QueueNobody_C13 x12) L03_QueueNobody_R13
def L03_QueueNobody_R11 (x11 : Int × Int) : Option Bool :=
  cutv 12 (L03_QueueNobody_C12 x11) L03_QueueNobody_R12
def L03_QueueNobody_R10 (x10 : Int × Int) : Option Bool :=
  cutv 11 (L03_QueueNobody_C11 x10) L03_QueueNobody_R11
def L03_QueueNobody_R9 (x9 : Int × Int) : Option Bool :=
  cutv 10 (L03_QueueNobody_C10 x9) L03_QueueNobody_R10
def L03_QueueNobody_R8 (x8 : Int × Int) : Option Bool :=
  cutv 9 (L03_QueueNobody_C9 x8) L03_QueueNobody_R9
def L03_QueueNobody_R7 (x7 : Int × Int) : Option Bool :=
  cutv 8 (L03_QueueNobody_C8 x7) L03_QueueNobody_R8
def L03_QueueNobody_R6 (x6 : Int × Int) : Option Bool :=
  cutv 7 (L03_QueueNobody_C7 x6) L03_QueueNobody_R7
def L03_QueueNobody_R5 (x5 : Int × Int) : Option Bool :=
  cutv 6 (L03_QueueNobody_C6 x5) L03_QueueNobody_R6
def L03_QueueNobody_R4 (x4 : Int × Int) : Option Bool :=
  cutv 5 (L03_QueueNobody_C5 x4) L03_QueueNobody_R5
def L03_QueueNobody_R3 (x3 : Int × Int) : Option Bool :=
  cutv 4 (L03_QueueNobody_C4 x3) L03_QueueNobody_R4
def L03_QueueNobody_R2 (x2 : Int × Int) : Option Bool :=
  cutv 3 (L03_QueueNobody_C3 x2) L03_QueueNobody_R3
def L03_QueueNobody_R1 (x1 : Int × Int) : Option Bool :=
  cutv 2 (L03_QueueNobody_C2 x1) L03_QueueNobody_R2
def L03_QueueNobody (a0 : Int) (a1 : Int) : Option Bool :=
  cutv 1 (L03_QueueNobody_C1 a0 a1) L03_QueueNobody_R1
end Go.Proofs.YtiicmhholjpcbaaV
