/- The same evaluator once more, by recursors alone: what whnf makes of it is, sign by sign, what the kernel makes of it. -/
import Derived.Test.YtejedlpnejjnbaaVcY
set_option linter.unusedVariables false
set_option linter.unusedSimpArgs false
namespace Go.Proofs.YtejedlpnejjnbaaV

/-! ### Operations in their order -/
def opsStep (E : Env) (all : List Oper) (o : Oper) (ih : St → (St → Prop) → Prop) (s : St) (K : St → Prop) : Prop :=
  match o.guard with
  | none => vc1 E o s fun s' => ih s' K
  | some (g, want) => match guardSlot all g with
    | some c => match lk s.fr c with
      | .bool t => br t
        (putF E.nt (some c) s (.bool true) fun s => cond want (vc1 E o s fun s' => ih s' K) (putF E.nt o.dst s .und fun s' => ih s' K))
        (putF E.nt (some c) s (.bool false) fun s => cond want (putF E.nt o.dst s .und fun s' => ih s' K) (vc1 E o s fun s' => ih s' K))
      | .und => putF E.nt o.dst s .und fun s' => ih s' K
      | _ => False
    | none => False
def opsNil (s : St) (K : St → Prop) : Prop := K s
noncomputable def vcOpsR (E : Env) (all : List Oper) (l : List Oper) : St → (St → Prop) → Prop :=
  List.rec (motive := fun _ => St → (St → Prop) → Prop) opsNil (fun o _ ih => opsStep E all o ih) l
theorem vcOpsR_eq (E : Env) (all : List Oper) : ∀ (l : List Oper), vcOpsR E all l = vcOps E all l
  | [] => rfl
  | o :: rest => by
    show opsStep E all o (vcOpsR E all rest) = _
    rw [vcOpsR_eq E all rest]
    rfl

/-! ### Regions that draw -/
def ordNil (_ : Bool) (_ : List Nat) (s : St) (K : St → Prop) : Prop := K s
def ordOne (E : Env) (all : List Oper) (md : Md) (i : Nat) (ih : Bool → List Nat → St → (St → Prop) → Prop) (f : Bool) (G : List Nat) (s : St) (K : St → Prop) : Prop :=
  match all[idxO i]? with
    | none => False
    | some o => match o.guard with
      | none => vcD E md f (isBar i) (isLone i) o s fun s' => ih (f && pureO o) G s' K
      | some (g, want) => match guardSlot all g with
        | some c => match lk s.fr c with
          | .bool t => br t
            (putF E.nt (some c) s (.bool true) fun s => cond want (vcD E md f (isBar i) (isLone i) o s fun s' => ih (f && pureO o) G s' K) (putF E.nt o.dst s .und fun s' => ih (f && pureO o) G s' K))
            (putF E.nt (some c) s (.bool false) fun s => cond want (putF E.nt o.dst s .und fun s' => ih (f && pureO o) G s' K) (vcD E md f (isBar i) (isLone i) o s fun s' => ih (f && pureO o) G s' K))
          | .und => putF E.nt o.dst s .und fun s' => ih (f && pureO o) G s' K
          | _ => False
        | none => False
def ordAlt (ih : List Nat → St → (St → Prop) → Prop) (_ : Bool) (G : List Nat) (s : St) (K : St → Prop) : Prop := ih G s K
def altNil (_ : List Nat) (_ : St) (_ : St → Prop) : Prop := True
def altCons (E : Env) (all : List Oper) (md : Md) (i : Nat) (l : Alts) (ih : Bool → List Nat → St → (St → Prop) → Prop) (il : List Nat → St → (St → Prop) → Prop) (G : List Nat) (s : St) (K : St → Prop) : Prop :=
  conj2 l (match all[i]? with
    | some o => cond md.c (vcW E all o s fun s' => ih false G s' K) (vcSG E all md G o s fun G' s' => ih false G' s' K)
    | none => False) (il G s K)
noncomputable def vcOrdR (E : Env) (all : List Oper) (md : Md) (r : Ord) : Bool → List Nat → St → (St → Prop) → Prop :=
  Ord.rec (motive_1 := fun _ => Bool → List Nat → St → (St → Prop) → Prop) (motive_2 := fun _ => List Nat → St → (St → Prop) → Prop) ordNil (fun i _ ih => ordOne E all md i ih) (fun _ il => ordAlt il) altNil (fun i _ l ih il => altCons E all md i l ih il) r
noncomputable def vcAltsR (E : Env) (all : List Oper) (md : Md) (l : Alts) : List Nat → St → (St → Prop) → Prop :=
  Alts.rec (motive_1 := fun _ => Bool → List Nat → St → (St → Prop) → Prop) (motive_2 := fun _ => List Nat → St → (St → Prop) → Prop) ordNil (fun i _ ih => ordOne E all md i ih) (fun _ il => ordAlt il) altNil (fun i _ l ih il => altCons E all md i l ih il) l
mutual
theorem vcOrdR_eq (E : Env) (all : List Oper) (md : Md) : ∀ (r : Ord), vcOrdR E all md r = vcOrd E all md r
  | .nil => by funext f G s K; rfl
  | .one i r => by
    funext f G s K
    show ordOne E all md i (vcOrdR E all md r) f G s K = _
    rw [vcOrdR_eq E all md r]; rfl
  | .alt l => by
    funext f G s K
    show vcAltsR E all md l G s K = _
    rw [vcAltsR_eq E all md l]; rfl
theorem vcAltsR_eq (E : Env) (all : List Oper) (md : Md) : ∀ (l : Alts), vcAltsR E all md l = vcAlts E all md l
  | .nil => by funext G s K; rfl
  | .cons i r l => by
    funext G s K
    show altCons E all md i l (vcOrdR E all md r) (vcAltsR E all md l) G s K = _
    rw [vcOrdR_eq E all md r, vcAltsR_eq E all md l]; rfl
end
noncomputable def vcDrawR (E : Env) (id : Nat) (l : List Oper) (s : St) (K : St → Prop) : Prop :=
  match lkR E.ords id with
  | some ord => drawOk l ord = true ∧ match mdOf E id with
    | ⟨b, ids, F, c⟩ => cond (idsOk F s.hp ids) (cutP c (fun J => vcOrdR E l ⟨b, ids, F, c⟩ ord true [] s (pruneK E id J)) K) False
  | none => False
theorem vcDrawR_eq (E : Env) (id : Nat) (l : List Oper) (s : St) (K : St → Prop) : vcDrawR E id l s K = vcDraw E id l s K := by
  unfold vcDrawR vcDraw
  simp only [vcOrdR_eq]
  rfl

/-! ### Loops, round by round -/
def unrS (f : St → (Exit → St → Prop) → Prop) (ih : St → (Exit → St → Prop) → Prop) (s : St) (K : Exit → St → Prop) : Prop := f s (seqK ih K)
def unr0 (_ : St) (_ : Exit → St → Prop) : Prop := False
noncomputable def unrR (f : St → (Exit → St → Prop) → Prop) (n : Nat) : St → (Exit → St → Prop) → Prop :=
  Nat.rec (motive := fun _ => St → (Exit → St → Prop) → Prop) unr0 (fun _ ih => unrS f ih) n
theorem unrR_eq (f : St → (Exit → St → Prop) → Prop) : ∀ n, unrR f n = unr f n
  | 0 => rfl
  | n + 1 => by
    funext s K
    show f s (seqK (unrR f n) K) = _
    rw [unrR_eq f n]; rfl

/-! ### Code -/
abbrev Vc : Type := St → (Exit → St → Prop) → Prop
def skipV (s : St) (K : Exit → St → Prop) : Prop := K .normal s
noncomputable def regV (E : Env) (id : Nat) (ops : Array Oper) (dr : Bool) (s : St) (K : Exit → St → Prop) : Prop := match ops with
  | ⟨l⟩ => cond dr (vcDrawR E.noY id l s (K .normal)) (cutP (cutQ E id) (fun J => vcOpsR E l l s (pruneK E id J)) (K .normal))
def seqV (a b : Vc) (s : St) (K : Exit → St → Prop) : Prop := a s (seqK b K)
def condV (E : Env) (c : Operand) (a b : Vc) (s : St) (K : Exit → St → Prop) : Prop := match opn s.fr c with
  | .bool t => br t
    (putF E.nt (slotOf c) s (.bool true) fun s => a s K)
    (putF E.nt (slotOf c) s (.bool false) fun s => b s K)
  | _ => False
def blkV (E : Env) (id : Nat) (c : Vc) (s : St) (K : Exit → St → Prop) : Prop := blkP (cutQ E (7000000 + id)) E id c s K
def lpK (E : Env) (M : Msk) (J : St → Prop) (K : Exit → St → Prop) (e : Exit) (s'' : St) : Prop := match e with
  | .normal => maskK E M s'' J
  | e => K e s''
/-- A loop; an evaluation stops here. -/
def loopI (E : Env) (c : Vc) (s : St) (K : Exit → St → Prop) : Prop :=
  (∃ (I : St → Prop) (μ : St → Nat) (M : Msk), maskK E M s I ∧ ∀ s', I s' → c s' (lpK E M (fun s3 => I s3 ∧ μ s3 < μ s') K)) ∨ ∃ n, unrR c n s K
theorem loopI_eq (E : Env) (c : Vc) (s : St) (K : Exit → St → Prop) : loopI E c s K = ((∃ (I : St → Prop) (μ : St → Nat) (M : Msk), maskK E M s I ∧ ∀ s', I s' → c s' fun e s'' => match e with
    | .normal => maskK E M s'' fun s3 => I s3 ∧ μ s3 < μ s'
    | e => K e s'') ∨ ∃ n, unr c n s K) := by
  unfold loopI
  simp only [unrR_eq]; rfl
theorem loopI_mk {E : Env} {c : Vc} {s : St} {K : Exit → St → Prop} (h : ∃ (I : St → Prop) (μ : St → Nat) (M : Msk), maskK E M s I ∧ ∀ s', I s' → c s' (lpK E M (fun s3 => I s3 ∧ μ s3 < μ s') K)) : loopI E c s K := .inl h
theorem loopI_unr {E : Env} {c : Vc} {s : St} {K : Exit → St → Prop} (n : Nat) (h : unrR c n s K) : loopI E c s K := .inr ⟨n, h⟩
attribute [irreducible] loopI
def rangeV (E : Env) (g : Operand) (ps : Array Tmp) (asg body : Code) (va vb : Vc) (s : St) (K : Exit → St → Prop) : Prop := match s with
    | ⟨fr, hp, ks⟩ => (match opn fr g, E.yl with
      | .fn (.func gf) [] cs, none => (match lkI E.its gf with
        | some I => cond (okVs cs && roundOk asg && roundOk body) (∀ l : Nat, forceN E.off fun o => forceN ((o + 999) * 1024) fun o => I l (bodyY E ps.toList fr va vb) o hp (.fn (.yield l) [] [] :: cs) fun hp' ks' _ => afterY fr ks K hp' ks') False
        | none => False)
      | _, _ => False)
def exitV (i : Nat) (s : St) (K : Exit → St → Prop) : Prop := K (.exit i) s
def retV (s : St) (K : Exit → St → Prop) : Prop := K .ret s
def gotoV (l : Nat) (s : St) (K : Exit → St → Prop) : Prop := K (.goto l) s
def noV (_ : St) (_ : Exit → St → Prop) : Prop := False
noncomputable def vcR (E : Env) (c : Code) : Vc :=
  Code.rec (motive := fun _ => Vc) skipV (fun id ops dr => regV E id ops dr) (fun _ _ a b => seqV a b) (fun c _ _ a b => condV E c a b) (fun id _ c => blkV E id c) (fun _ c => loopI E c)
    (fun g ps asg body va vb => rangeV E g ps asg body va vb) exitV (fun c _ => vc E (.scope c)) (fun _ => skipV) gotoV retV (fun _ => noV) c
theorem vcR_eq (E : Env) : ∀ (c : Code), vcR E c = vc E c
  | .skip => rfl
  | .region id ⟨l⟩ dr => by
    funext s K
    show cond dr (vcDrawR E.noY id l s (K .normal)) (cutP (cutQ E id) (fun J => vcOpsR E l l s (pruneK E id J)) (K .normal)) = _
    rw [vcDrawR_eq, vcOpsR_eq]; rfl
  | .seq a b => by
    show seqV (vcR E a) (vcR E b) = _
    rw [vcR_eq E a, vcR_eq E b]; rfl
  | .cond c a b => by
    show condV E c (vcR E a) (vcR E b) = _
    rw [vcR_eq E a, vcR_eq E b]; rfl
  | .block id c => by
    show blkV E id (vcR E c) = _
    rw [vcR_eq E c]; rfl
  | .loop c => by
    funext s K
    show loopI E (vcR E c) s K = _
    rw [vcR_eq E c, loopI_eq]; rfl
  | .rangeFunc g ps asg body => by
    show rangeV E g ps asg body (vcR E asg) (vcR E body) = _
    rw [vcR_eq E asg, vcR_eq E body]; rfl
  | .exit i => rfl
  | .scope c => rfl
  | .label l => rfl
  | .goto l => rfl
  | .ret => rfl
  | .refuse w => rfl

/-! ### Functions -/
noncomputable def procR (E : Env) (nt : Nat) (rs : List ResultVar) (c : Code) : Proc := fun off hp vs k =>
  cond (Nat.ble vs.length nt) (vcR (E.for off nt) c ⟨initF 0 vs, hp, some ([], 0)⟩ (retK E rs k)) False
theorem procR_eq (E : Env) (nt : Nat) (rs : List ResultVar) (c : Code) : procR E nt rs c = procOf E nt rs c := by
  funext off hp vs k
  unfold procR procOf
  rw [vcR_eq]
noncomputable def itR (E : Env) (nt : Nat) (rs : List ResultVar) (c : Code) : Nat → (List Nat → Proc) → Proc := fun l Y => procR (E.yld l Y) nt rs c
theorem itR_eq (E : Env) (nt : Nat) (rs : List ResultVar) (c : Code) : itR E nt rs c = itOf E nt rs c := by
  funext l Y
  unfold itR itOf
  rw [procR_eq]
/-- Behind a function of data. -/
def finK (E : Env) (rs : List ResultVar) (ts : List Nat) (r : AV) (e : Exit) (s : St) : Prop :=
  cond (isRet e) (resP E rs s fun v => forceD (canR E.tt ts (norm s.hp v)) fun v => v = r) False
noncomputable def fnR (E : Env) (nt : Nat) (rs : List ResultVar) (ts : List Nat) (c : Code) (vs : List AV) (r : AV) : Prop :=
  cond (Nat.ble vs.length nt) (vcR (E.noY.for 0 nt) c ⟨initF 0 vs, [], none⟩ (finK E rs ts r)) False
theorem fnR_eq (E : Env) (nt : Nat) (rs : List ResultVar) (ts : List Nat) (c : Code) (vs : List AV) (r : AV) : fnR E nt rs ts c vs r = fnVC E nt rs ts c vs r := by
  unfold fnR fnVC
  rw [vcR_eq]
  have : finK E rs ts r = fun e s => match e with
    | .normal | .ret => resP E rs s fun v => forceD (canR E.tt ts (norm s.hp v)) fun v => v = r
    | _ => False := by
    funext e s
    cases e <;> rfl
  rw [this]
  rfl
end Go.Proofs.YtejedlpnejjnbaaV
