import Derived.Test.YtdddmgbbjifkdaaVcG1
import Derived.Test.YtdddmgbbjifkdaaDR20
import Derived.Test.YtdddmgbbjifkdaaDphase
namespace Go.Proofs.YtdddmgbbjifkdaaV
set_option linter.unusedVariables false
def L20_alive : Option Bool :=
  Option.bind (phase_Next 4 5) fun r1 =>
  Option.bind (phase_Next 5 5) fun r2 =>
  Option.bind (phase_Goes 3 5 9) fun r3 =>
  bif decide (r1.1 = 5) then
    bif decide (r1.2.1 = 0) then
      bif decide (r2.2.1 = 14) then
        bif decide (r3.1 = 5) then
          bif decide (r3.2.1 = 2) then
            Option.bind (phase_Fine 5 5) fun r4 =>
            bif r4 then
              Option.bind (phase_Fine 6 5) fun r5 =>
              bif !r5 then
                Option.bind (phase_Left 3 5) fun r6 =>
                some (decide (r6 = 2))
              else
                some false
            else
              some false
          else
            some false
        else
          some false
      else
        some false
    else
      some false
  else
    some false
def L20_PhaseTells (a0 : Int) (a1 : Int) : Option Bool :=
  Option.bind (phase_Next a0 a1) fun r1 =>
  Option.bind (R20_Next a0 a1) fun r2 =>
  Option.bind (phase_Fine a0 a1) fun r3 =>
  Option.bind (R20_Fine a0 a1) fun r4 =>
  bif r3 == r4 then
    bif decide (r1.1 = r2.1) then
      bif decide (r1.2.1 = r2.2.1) then
        Option.bind (phase_Left a0 a1) fun r5 =>
        Option.bind (R20_Left a0 a1) fun r6 =>
        bif decide (r5 = r6) then
          Option.bind (L20_alive) fun r7 =>
          some r7
        else
          some false
      else
        some false
    else
      some false
  else
    some false
def L20_PhaseGoes (a0 : Int) (a1 : Int) (a2 : Int) : Option Bool :=
  Option.bind (phase_Goes a0 a1 a2) fun r1 =>
  Option.bind (R20_Goes a0 a1 a2) fun r2 =>
  bif decide (r1.1 = r2.1) then
    bif decide (r1.2.1 = r2.2.1) then
      Option.bind (L20_alive) fun r3 =>
      some r3
    else
      some false
  else
    some false
def L20_PhaseStops_J1 (a1 : Int) (p1 : Int) (p2 : Int) : Option Bool :=
  bif decide (p2 = (min p1 (min (IntKind.i64.wrap (a1)) (300 : Int)))) then
    Option.bind (L20_alive) fun r1 =>
    some r1
  else
    some false
def L20_PhaseStops_L1 (p4 : Int) (p3 : Int) (a1 : Int) (k1 : (Int × Int) → Option Bool) (x1 : Int × Int) : Option Bool :=
  bif decide (x1.2 < p4) then
    Option.bind (phase_Next x1.1 p3) fun r2 =>
    bif !((decide (r2.2.1 = 0)) == (decide (x1.2 < p3))) then
      some false
    else
      bif decide (r2.2.1 = 0) then
        bif !decide (r2.1 = (IntKind.i64.wrap (x1.1 + 1))) then
          some false
        else
          Option.bind (phase_Left r2.1 p3) fun r3 =>
          Option.bind (phase_Left x1.1 p3) fun r4 =>
          bif !decide (r3 = (IntKind.i64.wrap (r4 - 1))) then
            some false
          else
            bif !decide (r2.2.1 = 0) then
              bif !decide (r2.2.1 = 14) then
                some false
              else
                bif decide (r2.2.1 = 0) then
                  k1 (r2.1, IntKind.i64.wrap (x1.2 + 1))
                else
                  k1 (x1.1, IntKind.i64.wrap (x1.2 + 1))
            else
              bif decide (r2.2.1 = 0) then
                k1 (r2.1, IntKind.i64.wrap (x1.2 + 1))
              else
                k1 (x1.1, IntKind.i64.wrap (x1.2 + 1))
      else
        bif !decide (r2.2.1 = 0) then
          bif !decide (r2.2.1 = 14) then
            some false
          else
            bif decide (r2.2.1 = 0) then
              k1 (r2.1, IntKind.i64.wrap (x1.2 + 1))
            else
              k1 (x1.1, IntKind.i64.wrap (x1.2 + 1))
        else
          bif decide (r2.2.1 = 0) then
            k1 (r2.1, IntKind.i64.wrap (x1.2 + 1))
          else
            k1 (x1.1, IntKind.i64.wrap (x1.2 + 1))
  else
    L20_PhaseStops_J1 a1 p3 x1.1
def L20_PhaseStops (a0 : Int) (a1 : Int) : Option Bool :=
  loop (L20_PhaseStops_L1 (min (IntKind.i64.wrap (a1)) (300 : Int)) (max (1 : Int) (IntKind.i64.wrap (a0))) a1) (0, 0)
end Go.Proofs.YtdddmgbbjifkdaaV
