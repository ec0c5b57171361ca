import Derived.Test.YtejedlpnejjnbaaSVcMt
import Derived.Test.YtejedlpnejjnbaaSDR02
import Derived.Test.YtejedlpnejjnbaaSDR31
import Derived.Test.YtejedlpnejjnbaaSDproc
namespace Go.Proofs.YtejedlpnejjnbaaSV
set_option linter.unusedVariables false
def L31_Small_J1 (a0 : List (Int × Bool × Int × (Int × Bool × (List Int) × (List Int) × Int × (List Int) × Unit) × Int × Int × Int × (List (Int × Int × Int × Int × Int × Unit)) × Unit)) : Option Bool :=
  some (decide ((a0.length : Int) ≤ 20))
def L31_Small_L1 (p1 : Int) (a0 : List (Int × Bool × Int × (Int × Bool × (List Int) × (List Int) × Int × (List Int) × Unit) × Int × Int × Int × (List (Int × Int × Int × Int × Int × Unit)) × Unit)) (k1 : Int → Option Bool) (x1 : Int) : Option Bool :=
  bif decide (x1 < p1) then
    chk (0 ≤ x1 ∧ x1 < (a0.length : Int)) <|
    bif decide (((a0.getD x1.toNat (0, false, 0, (0, false, (List.replicate 8 0), (List.replicate 16 0), 0, (List.replicate 8 0), ()), 0, 0, 0, [], ())).2.2.2.2.2.2.2.1.length : Int) > 8) then
      some false
    else
      k1 (IntKind.i64.wrap (x1 + 1))
  else
    L31_Small_J1 a0
def L31_Small (a0 : List (Int × Bool × Int × (Int × Bool × (List Int) × (List Int) × Int × (List Int) × Unit) × Int × Int × Int × (List (Int × Int × Int × Int × Int × Unit)) × Unit)) : Option Bool :=
  loop (L31_Small_L1 (a0.length : Int) a0) 0
def L31_alive : Option Bool :=
  Option.bind (proc_New) fun r1 =>
  Option.bind (proc_Spawn r1 1 7) fun r2 =>
  Option.bind (proc_Spawn r2.1 2 8) fun r3 =>
  Option.bind (proc_End r3.1 0 5) fun r4 =>
  Option.bind (proc_Reap r4.1 r2.2.1) fun r5 =>
  Option.bind (proc_Spawn r5.1 1 9) fun r6 =>
  Option.bind (proc_Find r6.1 r2.2.1) fun r7 =>
  Option.bind (proc_Find r6.1 r3.2.1) fun r8 =>
  Option.bind (proc_Reap r6.1 r3.2.1) fun r9 =>
  bif decide (r2.2.1 = 4096) then
    bif decide (r2.2.2.1 = 0) then
      bif decide (r3.2.1 = 4097) then
        bif decide (r3.2.2.1 = 0) then
          bif decide (r4.2.1 = 0) then
            bif decide (r5.2.1 = 5) then
              bif decide (r5.2.2.1 = 0) then
                bif decide (r6.2.1 = 8192) then
                  bif decide (r6.2.2.1 = 0) then
                    bif decide (r7.2.1 = 9) then
                      bif decide (r8.1 = 1) then
                        bif decide (r8.2.1 = 0) then
                          bif decide (r9.2.2.1 = 13) then
                            Option.bind (proc_In r4.1 3) fun r10 =>
                            Option.bind (R02_Same r10 [0]) fun r11 =>
                            bif r11 then
                              Option.bind (proc_Handles r4.1) fun r12 =>
                              Option.bind (R02_Same r12 [4097]) fun r13 =>
                              bif r13 then
                                Option.bind (proc_Handle r6.1 0) fun r14 =>
                                bif decide (r14 = 8192) then
                                  Option.bind (proc_Fine r6.1) fun r15 =>
                                  bif r15 then
                                    chk (0 ≤ (0 : Int) ∧ (0 : Int) < (r6.1.length : Int)) <|
                                    chk (0 ≤ (0 : Int) ∧ (0 : Int) < (8 : Int)) <|
                                    letv (decide (((r6.1.getD (0 : Int).toNat (0, false, 0, (0, false, (List.replicate 8 0), (List.replicate 16 0), 0, (List.replicate 8 0), ()), 0, 0, 0, [], ())).2.2.2.1.2.2.1.getD (0 : Int).toNat 0) = 9)) fun v1 =>
                                    some v1
                                  else
                                    some false
                                else
                                  some false
                              else
                                some false
                            else
                              some false
                          else
                            some false
                        else
                          some false
                      else
                        some false
                    else
                      some false
                  else
                    some false
                else
                  some false
              else
                some false
            else
              some false
          else
            some false
        else
          some false
      else
        some false
    else
      some false
  else
    some false
def L31_To_J1 (p1 : List (Int × Bool × Int × (Int × Bool × (List Int) × (List Int) × Int × (List Int) × Unit) × Int × Int × Int × (List (Int × Int × Int × Int × Int × Unit)) × Unit)) : Option (List (Int × Bool × Int × (Int × Bool × (List Int) × (List Int) × Int × (List Int) × Unit) × Int × Int × Int × (List (Int × Int × Int × Int × Int × Unit)) × Unit)) :=
  some p1
def L31_To_L1 (p2 : Int) (a0 : List (Int × Bool × Int × (Int × Bool × (List Int) × (List Int) × Int × (List Int) × Unit) × Int × Int × Int × (List (Int × Int × Int × Int × Int × Unit)) × Unit)) (k1 : (Int × (List (Int × Bool × Int × (Int × Bool × (List Int) × (List Int) × Int × (List Int) × Unit) × Int × Int × Int × (List (Int × Int × Int × Int × Int × Unit)) × Unit))) → Option (List (Int × Bool × Int × (Int × Bool × (List Int) × (List Int) × Int × (List Int) × Unit) × Int × Int × Int × (List (Int × Int × Int × Int × Int × Unit)) × Unit))) (x1 : Int × (List (Int × Bool × Int × (Int × Bool × (List Int) × (List Int) × Int × (List Int) × Unit) × Int × Int × Int × (List (Int × Int × Int × Int × Int × Unit)) × Unit))) : Option (List (Int × Bool × Int × (Int × Bool × (List Int) × (List Int) × Int × (List Int) × Unit) × Int × Int × Int × (List (Int × Int × Int × Int × Int × Unit)) × Unit)) :=
  bif decide (x1.1 < p2) then
    chk (0 ≤ x1.1 ∧ x1.1 < (a0.length : Int)) <|
    letv ([(a0.getD x1.1.toNat (0, false, 0, (0, false, (List.replicate 8 0), (List.replicate 16 0), 0, (List.replicate 8 0), ()), 0, 0, 0, [], ()))]) fun l1 =>
    chk (x1.2.length + l1.length ≤ 4294967296) <|
    k1 (IntKind.i64.wrap (x1.1 + 1), x1.2 ++ l1)
  else
    L31_To_J1 x1.2
def L31_To (a0 : List (Int × Bool × Int × (Int × Bool × (List Int) × (List Int) × Int × (List Int) × Unit) × Int × Int × Int × (List (Int × Int × Int × Int × Int × Unit)) × Unit)) : Option (List (Int × Bool × Int × (Int × Bool × (List Int) × (List Int) × Int × (List Int) × Unit) × Int × Int × Int × (List (Int × Int × Int × Int × Int × Unit)) × Unit)) :=
  loop (L31_To_L1 (a0.length : Int) a0) (0, [])
def L31_From_J1 (p1 : List (Int × Bool × Int × (Int × Bool × (List Int) × (List Int) × Int × (List Int) × Unit) × Int × Int × Int × (List (Int × Int × Int × Int × Int × Unit)) × Unit)) : Option (List (Int × Bool × Int × (Int × Bool × (List Int) × (List Int) × Int × (List Int) × Unit) × Int × Int × Int × (List (Int × Int × Int × Int × Int × Unit)) × Unit)) :=
  some p1
def L31_From_L1 (p2 : Int) (a0 : List (Int × Bool × Int × (Int × Bool × (List Int) × (List Int) × Int × (List Int) × Unit) × Int × Int × Int × (List (Int × Int × Int × Int × Int × Unit)) × Unit)) (k1 : (Int × (List (Int × Bool × Int × (Int × Bool × (List Int) × (List Int) × Int × (List Int) × Unit) × Int × Int × Int × (List (Int × Int × Int × Int × Int × Unit)) × Unit))) → Option (List (Int × Bool × Int × (Int × Bool × (List Int) × (List Int) × Int × (List Int) × Unit) × Int × Int × Int × (List (Int × Int × Int × Int × Int × Unit)) × Unit))) (x1 : Int × (List (Int × Bool × Int × (Int × Bool × (List Int) × (List Int) × Int × (List Int) × Unit) × Int × Int × Int × (List (Int × Int × Int × Int × Int × Unit)) × Unit))) : Option (List (Int × Bool × Int × (Int × Bool × (List Int) × (List Int) × Int × (List Int) × Unit) × Int × Int × Int × (List (Int × Int × Int × Int × Int × Unit)) × Unit)) :=
  bif decide (x1.1 < p2) then
    chk (0 ≤ x1.1 ∧ x1.1 < (a0.length : Int)) <|
    letv ([(a0.getD x1.1.toNat (0, false, 0, (0, false, (List.replicate 8 0), (List.replicate 16 0), 0, (List.replicate 8 0), ()), 0, 0, 0, [], ()))]) fun l1 =>
    chk (x1.2.length + l1.length ≤ 4294967296) <|
    k1 (IntKind.i64.wrap (x1.1 + 1), x1.2 ++ l1)
  else
    L31_From_J1 x1.2
def L31_From (a0 : List (Int × Bool × Int × (Int × Bool × (List Int) × (List Int) × Int × (List Int) × Unit) × Int × Int × Int × (List (Int × Int × Int × Int × Int × Unit)) × Unit)) : Option (List (Int × Bool × Int × (Int × Bool × (List Int) × (List Int) × Int × (List Int) × Unit) × Int × Int × Int × (List (Int × Int × Int × Int × Int × Unit)) × Unit)) :=
  loop (L31_From_L1 (a0.length : Int) a0) (0, [])
end Go.Proofs.YtejedlpnejjnbaaSV
