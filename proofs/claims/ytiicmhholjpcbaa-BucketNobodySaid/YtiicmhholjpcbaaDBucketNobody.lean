import Derived.Test.YtiicmhholjpcbaaVcMt
import Derived.Test.YtiicmhholjpcbaaDL24
namespace Go.Proofs.YtiicmhholjpcbaaV
set_option linter.unusedVariables false
def L24_BucketNobody_J1 : Option Bool :=
  Option.bind (L24_alive) fun r1 =>
  some r1
def L24_BucketNobody_C1 (a0 : Int) (a1 : Int) (k1 : (Int × Int) → Option Bool) : Option Bool :=
  k1 (a0, a1)
def L24_BucketNobody_J2 (k2 : (Int × Int) → Option Bool) (x1 : Int × Int) : Option Bool :=
  k2 (x1.1, x1.2)
def L24_BucketNobody_L1 (k2 : (Int × Int) → Option Bool) (x1 : Int × Int) (k3 : Unit → Option Bool) (x3 : Unit) : Option Bool :=
  L24_BucketNobody_J2 k2 x1
def L24_BucketNobody_C2 (x1 : Int × Int) (k2 : (Int × Int) → Option Bool) : Option Bool :=
  loop (L24_BucketNobody_L1 k2 x1) ()
def L24_BucketNobody_C3 (x2 : Int × Int) (k4 : (Int × Int) → Option Bool) : Option Bool :=
  k4 (x2.1, x2.2)
def L24_BucketNobody_C4 (x4 : Int × Int) (k5 : (Int × Int) → Option Bool) : Option Bool :=
  k5 (x4.1, x4.2)
def L24_BucketNobody_C5 (x5 : Int × Int) (k6 : (Int × Int) → Option Bool) : Option Bool :=
  k6 (x5.1, x5.2)
def L24_BucketNobody_C6 (x6 : Int × Int) (k7 : (Int × Int) → Option Bool) : Option Bool :=
  k7 (x6.1, x6.2)
def L24_BucketNobody_J3 (k8 : (Int × Int) → Option Bool) (x7 : Int × Int) : Option Bool :=
  k8 (x7.1, x7.2)
def L24_BucketNobody_L2 (k8 : (Int × Int) → Option Bool) (x7 : Int × Int) (k9 : Unit → Option Bool) (x9 : Unit) : Option Bool :=
  L24_BucketNobody_J3 k8 x7
def L24_BucketNobody_C7 (x7 : Int × Int) (k8 : (Int × Int) → Option Bool) : Option Bool :=
  loop (L24_BucketNobody_L2 k8 x7) ()
def L24_BucketNobody_C8 (x8 : Int × Int) (k10 : (Int × Int) → Option Bool) : Option Bool :=
  k10 (x8.1, x8.2)
def L24_BucketNobody_C9 (x10 : Int × Int) (k11 : (Int × Int) → Option Bool) : Option Bool :=
  k11 (x10.1, x10.2)
def L24_BucketNobody_C10 (x11 : Int × Int) (k12 : (Int × Int) → Option Bool) : Option Bool :=
  k12 (x11.1, x11.2)
def L24_BucketNobody_R10 (x12 : Int × Int) : Option Bool :=
  L24_BucketNobody_J1
def L24_BucketNobody_R9 (x11 : Int × Int) : Option Bool :=
  cutv 10 (L24_BucketNobody_C10 x11) L24_BucketNobody_R10
def L24_BucketNobody_R8 (x10 : Int × Int) : Option Bool :=
  cutv 9 (L24_BucketNobody_C9 x10) L24_BucketNobody_R9
def L24_BucketNobody_R7 (x8 : Int × Int) : Option Bool :=
  cutv 8 (L24_BucketNobody_C8 x8) L24_BucketNobody_R8
def L24_BucketNobody_R6 (x7 : Int × Int) : Option Bool :=
  cutv 7 (L24_BucketNobody_C7 x7) L24_BucketNobody_R7
def L24_BucketNobody_R5 (x6 : Int × Int) : Option Bool :=
  cutv 6 (L24_BucketNobody_C6 x6) L24_BucketNobody_R6
def L24_BucketNobody_R4 (x5 : Int × Int) : Option Bool :=
  cutv 5 (L24_BucketNobody_C5 x5) L24_BucketNobody_R5
def L24_BucketNobody_R3 (x4 : Int × Int) : Option Bool :=
  cutv 4 (L24_BucketNobody_C4 x4) L24_BucketNobody_R4
def L24_BucketNobody_R2 (x2 : Int × Int) : Option Bool :=
  cutv 3 (L24_BucketNobody_C3 x2) L24_BucketNobody_R3
def L24_BucketNobody_R1 (x1 : Int × Int) : Option Bool :=
  cutv 2 (L24_BucketNobody_C2 x1) L24_BucketNobody_R2
def L24_BucketNobody (a0 : Int) (a1 : Int) : Option Bool :=
  cutv 1 (L24_BucketNobody_C1 a0 a1) L24_BucketNobody_R1
end Go.Proofs.YtiicmhholjpcbaaV
