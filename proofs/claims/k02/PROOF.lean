import PyProof.Rows.All
import Wide.All
import OpenK.AllK
import Wide.FinOn
import KE.KStateDown
import Lean
import HandS.ForMost
import HandS.TupAny
import HandS.TupMul
import HandS.IsInst
import HandS.Walk
import HandS.Style
import HandS.ClsMeth
import HandS.Defaults
import HandS.Evl
import HandS.Exc
import HandS.ExcOwn
import HandS.ExcIs
import HandS.TryMany
import HandS.TryOnly
import HandS.OwnEq
import HandS.WordsExc
import HandS.CallSlots
import HandS.ExcInit
import HandS.ExcField
import HandS.HeadHook1
import HandS.More
import HandS.Head0
import HandS.Head1
import HandS.Head2
import HandS.HeadEnd
import HandS.HeadHook2
import HandS.HeadHook3
import PySem.Challenge.RW_reelcode_k02_failures_are_apart
set_option Elab.async false
set_option linter.all false
set_option maxRecDepth 100000
set_option maxHeartbeats 0
section
namespace U
open PySem PySem.Spec PyProof.Rows L2

theorem peOf {X : Cx} {e : Expr} {t t' : TE} (h : PE X e t) (m : ∀ σ H Q, t' σ H Q → t σ H Q) : PE X e t' := ⟨fun pins s σ H Q I q => h.run pins s σ H Q I (m σ H Q q)⟩
theorem ptOf {X : Cx} {e : Expr} {t t' : TT} (h : PT X e t) (m : ∀ σ H Q, t' σ H Q → t σ H Q) : PT X e t' := ⟨fun pins s σ H Q I q => h.run pins s σ H Q I (m σ H Q q)⟩
theorem psOf {X : Cx} {e : Stmt} {t t' : TS} (h : PS X e t) (m : ∀ D σ H, t' D σ H → t D σ H) : PS X e t' := ⟨fun pins s σ H D I q => h.run pins s σ H D I (m D σ H q)⟩
theorem poOf {X : Cx} {e : Option Expr} {t t' : TO} (h : PO X e t) (m : ∀ σ H Q, t' σ H Q → t σ H Q) : PO X e t' := ⟨fun pins s σ H Q I q => h.run pins s σ H Q I (m σ H Q q)⟩
theorem opOf {X : Cx} {f : Value → Value → Sem Value} {r r' : R2} (h : OpR X f r) (m : ∀ x y H Q, r' x y H Q → r x y H Q) : OpR X f r' := fun pins s σ H x y v u Q I rx ry q => h pins s σ H x y v u Q I rx ry (m x y H Q q)
theorem ixOf {X : Cx} {r r' : R2} (h : IxR X r) (m : ∀ x y H Q, r' x y H Q → r x y H Q) : IxR X r' := fun value slice pins s σ H x y v u Q I rx ry q hs => h value slice pins s σ H x y v u Q I rx ry (m x y H Q q) hs
theorem crOf {X : Cx} {f : Value} {r r' : List V → Hp → VK → Prop} (h : CallR X f r) (m : ∀ xs H Q, r' xs H Q → r xs H Q) : CallR X f r' := fun pins s σ H xs us Q I rx q => h pins s σ H xs us Q I rx (m xs H Q q)
theorem mtOf {X : Cx} {id : String} {r r' : V → List V → Hp → VK → Prop} (h : MtR X id r) (m : ∀ x xs H Q, r' x xs H Q → r x xs H Q) : MtR X id r' := by
  intro pins s
  intro σ H x xs v us Q I rx rs q
  exact h pins s σ H x xs v us Q I rx rs (m x xs H Q q)
theorem slOf {X : Cx} {r r' : V → Option Int → Option Int → Hp → VK → Prop} (h : SlR X r) (m : ∀ x l u H Q, r' x l u H Q → r x l u H Q) : SlR X r' := by
  intro pins s σ H x v vl vu lo hi sl Q I rx hs pl pu q
  exact h pins s σ H x v vl vu lo hi sl Q I rx hs pl pu (m x lo hi H Q q)

def seqAt (H : Hp) (p : Addr) : Option (List V) := match H p with
  | some (.lst xs) => some xs
  | some (.tup xs) => some xs
  | some (.frz _ (.lst xs)) => some xs
  | some (.frz _ (.tup xs)) => some xs
  | _ => none
theorem seqAt_cases {K : PySem.W.Frag} {H : Hp} {p : Addr} {xs : List V} (h : seqAt H p = some xs) : SqL K H p xs ∨ SqT K H p xs := by
  unfold seqAt at h
  split at h
  · rename_i ys e; cases h; exact .inl (.inl (.inl e))
  · rename_i ys e; cases h; exact .inr (.inl (.inl e))
  · rename_i o ys e; cases h; exact .inl (.inl (.inr ⟨o, e⟩))
  · rename_i o ys e; cases h; exact .inr (.inl (.inr ⟨o, e⟩))
  · cases h
theorem seqAt_lst {H : Hp} {p : Addr} {xs : List V} (h : H p = some (.lst xs)) : seqAt H p = some xs := by unfold seqAt; rw [h]
theorem seqAt_tup {H : Hp} {p : Addr} {xs : List V} (h : H p = some (.tup xs)) : seqAt H p = some xs := by unfold seqAt; rw [h]

inductive Ty where
  | non | bl | int | str | lst | tup | dict
  deriving DecidableEq
def Ty.name : Ty → String
  | .non => "NoneType" | .bl => "bool" | .int => "int" | .str => "str" | .lst => "list" | .tup => "tuple" | .dict => "dict"
def Ty.isa : Ty → Ty → Bool
  | .non, .non => true | .bl, .bl => true | .int, .int => true | .str, .str => true | .lst, .lst => true | .tup, .tup => true | .dict, .dict => true
  | .bl, .int => true
  | _, _ => false
theorem isa_tab : (Ty.non.isa .non = true) ∧ (Ty.non.isa .bl = false) ∧ (Ty.non.isa .int = false) ∧ (Ty.non.isa .str = false) ∧ (Ty.non.isa .lst = false) ∧ (Ty.non.isa .tup = false) ∧ (Ty.non.isa .dict = false) ∧ (Ty.bl.isa .non = false) ∧ (Ty.bl.isa .bl = true) ∧ (Ty.bl.isa .int = true) ∧ (Ty.bl.isa .str = false) ∧ (Ty.bl.isa .lst = false) ∧ (Ty.bl.isa .tup = false) ∧ (Ty.bl.isa .dict = false) ∧ (Ty.int.isa .non = false) ∧ (Ty.int.isa .bl = false) ∧ (Ty.int.isa .int = true) ∧ (Ty.int.isa .str = false) ∧ (Ty.int.isa .lst = false) ∧ (Ty.int.isa .tup = false) ∧ (Ty.int.isa .dict = false) ∧ (Ty.str.isa .non = false) ∧ (Ty.str.isa .bl = false) ∧ (Ty.str.isa .int = false) ∧ (Ty.str.isa .str = true) ∧ (Ty.str.isa .lst = false) ∧ (Ty.str.isa .tup = false) ∧ (Ty.str.isa .dict = false) ∧ (Ty.lst.isa .non = false) ∧ (Ty.lst.isa .bl = false) ∧ (Ty.lst.isa .int = false) ∧ (Ty.lst.isa .str = false) ∧ (Ty.lst.isa .lst = true) ∧ (Ty.lst.isa .tup = false) ∧ (Ty.lst.isa .dict = false) ∧ (Ty.tup.isa .non = false) ∧ (Ty.tup.isa .bl = false) ∧ (Ty.tup.isa .int = false) ∧ (Ty.tup.isa .str = false) ∧ (Ty.tup.isa .lst = false) ∧ (Ty.tup.isa .tup = true) ∧ (Ty.tup.isa .dict = false) ∧ (Ty.dict.isa .non = false) ∧ (Ty.dict.isa .bl = false) ∧ (Ty.dict.isa .int = false) ∧ (Ty.dict.isa .str = false) ∧ (Ty.dict.isa .lst = false) ∧ (Ty.dict.isa .tup = false) ∧ (Ty.dict.isa .dict = true) := by decide
theorem Ty.kit {K : PySem.W.Frag} (a c : Ty) (h : c ≠ .non) : PySem.W.kitOne K (.type a.name) (.type c.name) = some (a.isa c) := by
  cases c with
  | non => exact absurd rfl h
  | _ => cases a <;> exact kit_ty (by decide +kernel)
def tyV (H : Hp) : V → Option Ty
  | .non => some .non
  | .bl _ => some .bl
  | .int _ => some .int
  | .str _ => some .str
  | .ref p => match H p with
    | some (.lst _) => some .lst
    | some (.tup _) => some .tup
    | some (.dK _) => some .dict
    | some (.dT _) => some .dict
    | _ => none
  | _ => none
theorem tyV_ok {K : PySem.W.Frag} {H : Hp} {x : V} {t : Ty} (h : tyV H x = some t) : TyX K H x (.type t.name) := by
  unfold tyV at h
  split at h
  · cases h; exact .base .non
  · cases h; exact .base (.bl _)
  · cases h; exact .base (.int _)
  · cases h; exact .base (.str _)
  · split at h
    · rename_i e; cases h; exact .base (.lst e)
    · rename_i e; cases h; exact .base (.tup e)
    · rename_i e; cases h; exact .base (.dK e)
    · rename_i e; cases h; exact .base (.dT e)
    · cases h
  · cases h

section
variable {X : Cx} {a b e : Expr} {ta tb te : TE} {pos : Pos}
def uVar (i : Nat) : TE := fun σ H Q => match σ[i]? with
  | some (some v) => Q v H
  | _ => False
theorem pe_uVar (i : Nat) {x : Str} {pos : Pos} (hN : X.N[i]? = some x := by rfl) (hv : Vis X.env.scope x := by first | exact Or.inl rfl | exact Or.inr (Or.inl rfl) | exact Or.inr (Or.inr rfl)) (hd : (x == ("__debug__" : Str)) = false := by decide)
    (hcd : (x == ("__classdict__" : Str)) = false := by decide) : PE X (.Name x pos) (uVar i) :=
  peOf (pe_var hN hv hd hcd) fun σ H Q q => by
    unfold uVar at q
    split at q
    · rename_i v e; exact ⟨v, e, q⟩
    · exact q.elim

def rAddU : R2 := fun x y H Q => match x, y with
  | .int i, .int j => Q (.int (i + j)) H
  | .str i, .str j => i.length + j.length ≤ sizeLine ∧ Q (.str (i ++ j)) H
  | .ref p, .ref q => match H p, H q with
    | some (.lst xs), some (.lst ys) => xs.length + ys.length ≤ sizeLine ∧ ∀ r, H r = none → Q (.ref r) (upd H r (.lst (xs ++ ys)))
    | some (.tup xs), some (.tup ys) => xs.length + ys.length ≤ sizeLine ∧ (xs = [] → Q (.ref q) H) ∧ (xs ≠ [] → ys = [] → Q (.ref p) H) ∧ (xs ≠ [] → ys ≠ [] → ∀ r, H r = none → Q (.ref r) (upd H r (.tup (xs ++ ys))))
    | _, _ => False
  | _, _ => False
theorem op_addU : OpR X (binaryOp .Add) rAddU := by
  refine opOf (op_add.or (op_add_str.or (op_cat.or op_catA))) fun x y H Q q => ?_
  unfold rAddU at q
  split at q
  · exact .inl ⟨_, _, rfl, rfl, q⟩
  · exact .inr (.inl ⟨_, _, rfl, rfl, q.1, q.2⟩)
  · split at q
    · rename_i h1 h2; exact .inr (.inr (.inl ⟨_, _, _, _, rfl, rfl, h1, h2, q.1, q.2⟩))
    · rename_i h1 h2; exact .inr (.inr (.inr ⟨_, _, _, _, rfl, rfl, .of h1, .of h2, q⟩))
    · exact q.elim
  · exact q.elim
def rInt (g : Int → Int → V) : R2 := fun x y H Q => match x, y with
  | .int i, .int j => Q (g i j) H
  | _, _ => False
def rIntC (C : Int → Int → Prop) (g : Int → Int → V) : R2 := fun x y H Q => match x, y with
  | .int i, .int j => C i j ∧ Q (g i j) H
  | _, _ => False
theorem rInt_of {g : Int → Int → V} {x y : V} {H : Hp} {Q : VK} (q : rInt g x y H Q) : rI0 g x y H Q := by
  unfold rInt at q
  split at q
  · exact ⟨_, _, rfl, rfl, q⟩
  · exact q.elim
theorem rIntC_of {C : Int → Int → Prop} {g : Int → Int → V} {x y : V} {H : Hp} {Q : VK} (q : rIntC C g x y H Q) : rI C g x y H Q := by
  unfold rIntC at q
  split at q
  · exact ⟨_, _, rfl, rfl, q.1, q.2⟩
  · exact q.elim
def rAddI : R2 := rInt fun i j => .int (i + j)
theorem op_addI : OpR X (binaryOp .Add) rAddI := opOf op_add fun _ _ _ _ => rInt_of
def rAddS : R2 := fun x y H Q => match x, y with
  | .str i, .str j => i.length + j.length ≤ sizeLine ∧ Q (.str (i ++ j)) H
  | _, _ => False
theorem op_addS : OpR X (binaryOp .Add) rAddS := opOf op_addU fun x y H Q q => by
  unfold rAddS at q
  split at q
  · exact q
  · exact q.elim
def rAddL : R2 := fun x y H Q => match x, y with
  | .ref p, .ref q => match H p, H q with
    | some (.lst xs), some (.lst ys) => xs.length + ys.length ≤ sizeLine ∧ ∀ r, H r = none → Q (.ref r) (upd H r (.lst (xs ++ ys)))
    | _, _ => False
  | _, _ => False
theorem op_addL : OpR X (binaryOp .Add) rAddL := opOf op_addU fun x y H Q q => by
  unfold rAddL at q
  split at q
  · split at q
    · rename_i h1 h2
      unfold rAddU
      simp only [h1, h2]
      exact q
    · exact q.elim
  · exact q.elim
def rAddT : R2 := fun x y H Q => match x, y with
  | .ref p, .ref q => match H p, H q with
    | some (.tup xs), some (.tup ys) => xs.length + ys.length ≤ sizeLine ∧ (xs = [] → Q (.ref q) H) ∧ (xs ≠ [] → ys = [] → Q (.ref p) H) ∧ (xs ≠ [] → ys ≠ [] → ∀ r, H r = none → Q (.ref r) (upd H r (.tup (xs ++ ys))))
    | _, _ => False
  | _, _ => False
theorem op_addT : OpR X (binaryOp .Add) rAddT := opOf op_addU fun x y H Q q => by
  unfold rAddT at q
  split at q
  · split at q
    · rename_i h1 h2
      unfold rAddU
      simp only [h1, h2]
      exact q
    · exact q.elim
  · exact q.elim
def rSubU : R2 := rInt fun i j => .int (i - j)
def rMulI : R2 := rIntC CMul fun i j => .int (i * j)
def rDivU : R2 := rIntC CDiv fun i j => .int (i / j)
def rModU : R2 := rIntC (fun _ j => 0 < j) fun i j => .int (i % j)
def rPowU : R2 := rIntC CPow fun i j => .int (i ^ j.toNat)
theorem op_subU : OpR X (binaryOp .Sub) rSubU := opOf op_sub fun _ _ _ _ => rInt_of
theorem op_mulI : OpR X (binaryOp .Mult) rMulI := opOf op_mul fun _ _ _ _ => rIntC_of
theorem op_divU : OpR X (binaryOp .FloorDiv) rDivU := opOf op_fdiv fun _ _ _ _ => rIntC_of
theorem op_modU : OpR X (binaryOp .Mod) rModU := opOf op_mod fun _ _ _ _ => rIntC_of
theorem op_powU : OpR X (binaryOp .Pow) rPowU := opOf op_pow fun _ _ _ _ => rIntC_of
def rLtU : R2 := rInt fun i j => .bl (decide (i < j))
def rLeU : R2 := rInt fun i j => .bl (decide (i ≤ j))
def rGtU : R2 := rInt fun i j => .bl (decide (j < i))
def rGeU : R2 := rInt fun i j => .bl (decide (j ≤ i))
theorem op_ltU : OpR X (compareOp .Lt) rLtU := opOf op_lt fun _ _ _ _ => rInt_of
theorem op_leU : OpR X (compareOp .LtE) rLeU := opOf op_le fun _ _ _ _ => rInt_of
theorem op_gtU : OpR X (compareOp .Gt) rGtU := opOf op_gt fun _ _ _ _ => rInt_of
theorem op_geU : OpR X (compareOp .GtE) rGeU := opOf op_ge fun _ _ _ _ => rInt_of
def rEqS : R2 := fun x y H Q => scal x y = true ∧ Q (.bl (decide (x = y))) H
def rNeS : R2 := fun x y H Q => scal x y = true ∧ Q (.bl (!decide (x = y))) H
theorem op_eqS : OpR X (compareOp .Eq) rEqS := op_eq
theorem op_neS : OpR X (compareOp .NotEq) rNeS := op_ne
def rIsNU : R2 := fun x y H Q => y = .non ∧ Q (.bl (decide (x = .non))) H
def rNotNU : R2 := fun x y H Q => y = .non ∧ Q (.bl (!decide (x = .non))) H
theorem op_isNU : OpR X (compareOp .Is) rIsNU := op_isN
theorem op_notNU : OpR X (compareOp .IsNot) rNotNU := op_notN
def rInU (neg : Bool) : R2 := fun x y H Q => match y with
  | .str z => ∃ c, x = .str ⟨#[c]⟩ ∧ Q (.bl (xor neg (decide (c ∈ z.cps.toList)))) H
  | .ref p => match seqAt H p with
    | some xs => flatV x = true ∧ xs.all flatV = true ∧ Q (.bl (xor neg (inV x xs))) H
    | none => False
  | _ => False
theorem op_inU : OpR X (compareOp .In) (rInU false) := by
  refine opOf (op_in_sign.or op_in_seq) fun x y H Q q => ?_
  unfold rInU at q
  split at q
  · obtain ⟨c, rfl, q⟩ := q
    exact .inl ⟨c, _, rfl, rfl, by simpa using q⟩
  · split at q
    · rename_i e
      refine .inr ⟨_, _, rfl, seqAt_cases e, q.1, q.2.1, ?_⟩
      simpa using q.2.2
    · exact q.elim
  · exact q.elim
theorem op_notInU : OpR X (compareOp .NotIn) (rInU true) := by
  refine opOf (op_notIn_sign.or op_notIn_seq) fun x y H Q q => ?_
  unfold rInU at q
  split at q
  · obtain ⟨c, rfl, q⟩ := q
    exact .inl ⟨c, _, rfl, rfl, by simpa using q⟩
  · split at q
    · rename_i e
      refine .inr ⟨_, _, rfl, seqAt_cases e, q.1, q.2.1, ?_⟩
      simpa using q.2.2
    · exact q.elim
  · exact q.elim
def rInG (p : Addr) (xs : List V) (neg : Bool) : R2 := fun x y H Q => y = .ref p ∧ flatV x = true ∧ Q (.bl (xor neg (inV x xs))) H
theorem op_inG {p : Addr} {xs : List V} (hx : ∀ H, SqT X.K H p xs) (hf : xs.all flatV = true) : OpR X (compareOp .In) (rInG p xs false) :=
  opOf op_in_seq fun x y H Q q => ⟨p, xs, q.1, .inr (hx H), q.2.1, hf, by simpa using q.2.2⟩
theorem op_notInG {p : Addr} {xs : List V} (hx : ∀ H, SqT X.K H p xs) (hf : xs.all flatV = true) : OpR X (compareOp .NotIn) (rInG p xs true) :=
  opOf op_notIn_seq fun x y H Q q => ⟨p, xs, q.1, .inr (hx H), q.2.1, hf, by simpa using q.2.2⟩
def rIxU : R2 := fun x y H Q => match x, y with
  | .str z, .int i => z.length ≤ sizeLine ∧ ∃ c, atI z.cps.toList i = some c ∧ Q (.str ⟨#[c]⟩) H
  | .ref p, .int i => match seqAt H p with
    | some xs => ∃ v, atI xs i = some v ∧ Q v H
    | none => False
  | _, _ => False
theorem ix_U : IxR X rIxU := ixOf ix_seq fun x y H Q q => by
  unfold rIxU at q
  split at q
  · obtain ⟨h, c, h2, q⟩ := q
    exact .inr (.inr ⟨_, _, c, rfl, rfl, h, h2, q⟩)
  · split at q
    · rename_i e
      obtain ⟨v, h2, q⟩ := q
      rcases seqAt_cases (K := X.K) e with h | h
      · exact .inl ⟨_, _, _, v, rfl, rfl, h, h2, q⟩
      · exact .inr (.inl ⟨_, _, _, v, rfl, rfl, h, h2, q⟩)
    · exact q.elim
  · exact q.elim
def rSetU : V → V → V → Hp → (Hp → Prop) → Prop := fun o i v H Q => match o, i with
  | .ref p, .int k => match H p with
    | some (.lst xs) => ∃ j, ixN xs.length k = some j ∧ Q (upd H p (.lst (xs.set j v)))
    | _ => False
  | _, _ => False
theorem set_U : PSet X rSetU := by
  intro pins s σ H o i v uo ui uv Q I r1 r2 r3 q
  refine set_list pins s σ H o i v uo ui uv Q I r1 r2 r3 ?_
  unfold rSetU at q
  split at q
  · split at q
    · rename_i e
      obtain ⟨j, h, q⟩ := q
      exact ⟨_, _, _, j, rfl, rfl, e, h, q⟩
    · exact q.elim
  · exact q.elim
def uPart (t : TE) : TO := fun σ H Q => t σ H fun x H1 => ∃ i, x = .int i ∧ Q (some i) H1
theorem po_uPart (h : PE X e te) : PO X (some e) (uPart te) := po_some h
def wholeT (n : Nat) (lo hi : Option Int) : Prop := HT.sIx n 0 lo = 0 ∧ HT.sIx n n hi = n
def rSlU : V → Option Int → Option Int → Hp → VK → Prop := fun x lo hi H Q => match x with
  | .str z => z.length ≤ sizeLine ∧ Q (.str (cutS z lo hi)) H
  | .ref p => match H p with
    | some (.lst xs) => ∀ q, H q = none → Q (.ref q) (upd H q (.lst (cutV xs lo hi)))
    | some (.tup xs) => (wholeT xs.length lo hi → Q (.ref p) H) ∧ (¬ wholeT xs.length lo hi → ∀ q, H q = none → Q (.ref q) (upd H q (.tup (cutV xs lo hi))))
    | _ => False
  | _ => False
theorem slOr {r r' : V → Option Int → Option Int → Hp → VK → Prop} (h : SlR X r) (h' : SlR X r') : SlR X (fun x lo hi H Q => r x lo hi H Q ∨ r' x lo hi H Q) := h.or h'
theorem sl_U : SlR X rSlU := slOf (slOr sl_str (slOr sl_list sl_tupA)) fun x lo hi H Q q => by
  unfold rSlU at q
  split at q
  · exact .inl ⟨_, rfl, q.1, q.2⟩
  · split at q
    · rename_i e; exact .inr (.inl ⟨_, _, rfl, .of e, q⟩)
    · rename_i e; exact .inr (.inr ⟨_, _, rfl, .of e, q.1, q.2⟩)
    · exact q.elim
  · exact q.elim
def rLenU : List V → Hp → VK → Prop := fun xs H Q => match xs with
  | [.str z] => z.length ≤ sizeLine ∧ Q (.int z.length) H
  | [.ref p] => match seqAt H p with
    | some ys => Q (.int ys.length) H
    | none => match H p with
      | some (.dK kvs) => Q (.int kvs.length) H
      | _ => False
  | _ => False
theorem lenV_dict {pins : List (Addr × Obj)} {s : Shared} {σ : L2.St} {H : Hp} {p : Addr} {kvs : List (Key × V)} {u : Value} {Q : VK} (I : Inv X pins σ H s) (r : RelV (.ref p) u) (h : H p = some (.dK kvs)) (q : Q (.int kvs.length) H) :
    wpAny (model X.prog X.w) X.A (call (.builtin "len") [u]) (EP X pins σ Q) X.xe s := call_lenD pins s σ H [.ref p] [u] Q I (.cons r .nil) ⟨p, kvs, rfl, h, q⟩
theorem call_lenU : CallR X (.builtin "len") rLenU := by
  intro pins s σ H xs us Q I r q
  unfold rLenU at q
  split at q
  · exact call_len_str pins s σ H _ us Q I r ⟨_, rfl, q.1, q.2⟩
  · rename_i p
    split at q
    · rename_i e; exact call_len_seq pins s σ H _ us Q I r ⟨p, _, rfl, seqAt_cases e, q⟩
    · split at q
      · rename_i e
        obtain ⟨u, rfl, r1⟩ := vals1 r
        exact lenV_dict I r1 e q
      · exact q.elim
  · exact q.elim
def strsOf : List V → Option (List Str)
  | [] => some []
  | .str x :: r => (strsOf r).map (x :: ·)
  | _ => none
theorem strsOf_eq : ∀ {xs : List V} {ys : List Str}, strsOf xs = some ys → xs = ys.map V.str
  | [], _, h => by cases h; rfl
  | .str x :: r, ys, h => by
    unfold strsOf at h
    cases e : strsOf r with
    | none => rw [e] at h; cases h
    | some zs =>
      rw [e] at h
      cases h
      rw [strsOf_eq e]
      rfl
  | .non :: _, _, h => by cases h
  | .bl _ :: _, _, h => by cases h
  | .int _ :: _, _, h => by cases h
  | .byt _ :: _, _, h => by cases h
  | .flt _ :: _, _, h => by cases h
  | .ref _ :: _, _, h => by cases h
  | .ty _ :: _, _, h => by cases h
def blsOf : List V → Option (List Bool)
  | [] => some []
  | .bl x :: r => (blsOf r).map (x :: ·)
  | _ => none
theorem blsOf_eq : ∀ {xs : List V} {ys : List Bool}, blsOf xs = some ys → xs = ys.map V.bl
  | [], _, h => by cases h; rfl
  | .bl x :: r, ys, h => by
    unfold blsOf at h
    cases e : blsOf r with
    | none => rw [e] at h; cases h
    | some zs =>
      rw [e] at h
      cases h
      rw [blsOf_eq e]
      rfl
  | .non :: _, _, h => by cases h
  | .str _ :: _, _, h => by cases h
  | .int _ :: _, _, h => by cases h
  | .byt _ :: _, _, h => by cases h
  | .flt _ :: _, _, h => by cases h
  | .ref _ :: _, _, h => by cases h
  | .ty _ :: _, _, h => by cases h
def rAllU : List V → Hp → VK → Prop := fun xs H Q => ∃ (p : Addr) (bs : List Bool), xs = [.ref p] ∧ H p = some (.lst (bs.map V.bl)) ∧ Q (.bl (bs.all id)) H
def rAnyU : List V → Hp → VK → Prop := fun xs H Q => ∃ (p : Addr) (bs : List Bool), xs = [.ref p] ∧ H p = some (.lst (bs.map V.bl)) ∧ Q (.bl (bs.any id)) H
theorem call_allU (hc : X.calm = true) : CallR X (.builtin "all") rAllU := crOf (cr_all hc) fun xs H Q ⟨p, bs, e, h, q⟩ => ⟨p, bs, e, .of h, q⟩
theorem call_anyU (hc : X.calm = true) : CallR X (.builtin "any") rAnyU := crOf (cr_any hc) fun xs H Q ⟨p, bs, e, h, q⟩ => ⟨p, bs, e, .of h, q⟩
theorem pe_uCon {C : Addr} {c f : Str} {v : V} {p2 : Pos} (hg : Gl X c) (hm : X.mg c = some (.ref C)) (hk : ClX.CRead X.K C (.type "type") ∧ ∃ u, ClX.CVal X.K C (.type "type") f v u) (hd : (c == ("__debug__" : Str)) = false := by decide)
    (hb : attributeBase (.Name c p2) f X.env (eval (.Name c p2) X.env) = eval (.Name c p2) X.env := by rfl) : PE X (.Attribute (.Name c p2) f pos) (tC v) := by
  obtain ⟨hr, u, hv⟩ := hk
  exact peOf (ClX.pe_cval (pe_glob (v := .ref C) hg hm rfl hd) hb) fun σ H Q q => ⟨C, _, v, u, rfl, hr, hv, q⟩
def rListU : List V → Hp → VK → Prop := fun xs H Q => match xs with
  | [.ref p] => match seqAt H p with
    | some ys => ∀ l, H l = none → Q (.ref l) (upd H l (.lst ys))
    | none => False
  | _ => False
theorem call_listU : CallR X (.type "list") rListU := crOf call_list_of fun xs H Q q => by
  unfold rListU at q
  split at q
  · split at q
    · rename_i e; exact ⟨_, _, rfl, seqAt_cases e, q⟩
    · exact q.elim
  · exact q.elim
def rListK (K : PySem.W.Frag) : List V → Hp → VK → Prop := fun xs H Q => ∃ p ys, xs = [.ref p] ∧ (SqL K H p ys ∨ SqT K H p ys) ∧ ∀ l, H l = none → Q (.ref l) (upd H l (.lst ys))
def rTupleU : List V → Hp → VK → Prop := fun xs H Q => match xs with
  | [.ref p] => match H p with
    | some (.lst ys) => ∀ l, H l = none → Q (.ref l) (upd H l (.tup ys))
    | some (.tup ys) => Q (.ref p) H
    | _ => False
  | _ => False
theorem call_tupleU : CallR X (.type "tuple") rTupleU := crOf call_tuple_of fun xs H Q q => by
  unfold rTupleU at q
  split at q
  · split at q
    · rename_i e; exact ⟨_, _, rfl, .inl ⟨.of e, q⟩⟩
    · rename_i e; exact ⟨_, _, rfl, .inr ⟨.of e, q⟩⟩
    · exact q.elim
  · exact q.elim
def rIntCall : List V → Hp → VK → Prop := fun xs H Q => match xs with
  | [.int i] => Q (.int i) H
  | [.bl k] => Q (.int (if k then 1 else 0)) H
  | _ => False
theorem call_intU : CallR X (.type "int") rIntCall := crOf call_int1 fun xs H Q q => by
  unfold rIntCall at q
  split at q
  · exact .inl ⟨_, rfl, q⟩
  · exact .inr ⟨_, rfl, q⟩
  · exact q.elim
def rIsi (c : Ty) : List V → Hp → VK → Prop := fun xs H Q => ∃ x, xs = [x, .ty c.name] ∧ match tyV H x with
  | some t => Q (.bl (t.isa c)) H
  | none => False
theorem call_isiU {c : Ty} (hc : c ≠ .non) : CallR X (.builtin "isinstance") (rIsi c) := crOf call_isi fun xs H Q q => by
  obtain ⟨x, rfl, q⟩ := q
  split at q
  · rename_i t e
    exact ⟨x, _, _, _, _, rfl, .ty _, tyV_ok e, Ty.kit t c hc, q⟩
  · exact q.elim
def rTruU : V → Hp → (Bool → Hp → Prop) → Prop := fun x H Q => match x with
  | .non => Q false H
  | .bl b => Q b H
  | .int i => Q (i != 0) H
  | .str y => y.length ≤ sizeLine ∧ Q ((y.length : Int) != 0) H
  | .ref p => match seqAt H p with
    | some xs => Q (!xs.isEmpty) H
    | none => match H p with
      | some (.dK kvs) => Q (!kvs.isEmpty) H
      | _ => False
  | _ => False
def rJoinU : V → List V → Hp → VK → Prop := fun x xs H Q => ∃ (a : Str) (p : Addr) (ys : List Str), x = .str a ∧ xs = [.ref p] ∧ H p = some (.lst (ys.map V.str)) ∧ (ys.map (·.length)).sum + ys.length * a.length ≤ 16777216 ∧ Q (.str (Txt.join a ys)) H
theorem mt_joinU : MtR X "str.join" rJoinU := mtOf mt_join fun x xs H Q ⟨a, p, ys, e1, e2, h, hz, q⟩ => ⟨a, p, ys, e1, e2, .inl (.of h), hz, q⟩
def uTru (t : TE) : TT := fun σ H Q => t σ H fun x H1 => rTruU x H1 Q
theorem rTruU_ok {K : PySem.W.Frag} {x : V} {H : Hp} {Q : Bool → Hp → Prop} (q : rTruU x H Q) : ∃ k, TruV K x H k ∧ Q k H := by
  unfold rTruU at q
  split at q
  · exact ⟨_, rfl, q⟩
  · exact ⟨_, rfl, q⟩
  · exact ⟨_, rfl, q⟩
  · exact ⟨_, ⟨q.1, rfl⟩, q.2⟩
  · split at q
    · rename_i e
      rcases seqAt_cases (K := K) e with h | h
      · exact ⟨_, .inl ⟨_, h, rfl⟩, q⟩
      · exact ⟨_, .inr (.inl ⟨_, h, rfl⟩), q⟩
    · split at q
      · rename_i e; exact ⟨_, .inr (.inr ⟨_, e, rfl⟩), q⟩
      · exact q.elim
  · exact q.elim
theorem pt_uTru (ha : PE X a ta) (he : ∀ whole, isTrue a X.env whole = (do let v ← whole; standAt a.pos; holding [v] (truthy v)) := by intro _; rfl) : PT X a (uTru ta) := by
  refine ⟨fun pins s σ H Q I h => ?_⟩
  exact isTrue_plain (thn (ha.run pins s σ H _ I h) fun v s1 ⟨x, H1, I1, r1, q1⟩ => tru_ok pins s1 σ H1 x v Q I1 r1 (rTruU_ok q1)) (he _)

def itU (K : PySem.W.Frag) (x : V) (H : Hp) (R : It → Hp → Prop) : Prop := match x with
  | .str z => R (Its z) H
  | .ref a => ((∃ xs, SqL K H a xs) ∧ R (Itl K a) H) ∨ ((∃ xs, SqT K H a xs) ∧ R (Itt K a) H)
  | _ => False
def iU (K : PySem.W.Frag) (te : TE) : TI := fun σ H R => te σ H fun x H1 => itU K x H1 R
theorem pi_U {tg : Expr} (he : PE X e te) : PI X tg e (iU X.K te) := by
  refine ⟨fun pins s σ H R I h => ?_⟩
  refine thn (he.run pins s σ H _ I h) fun v s1 ⟨x, H1, I1, r1, q1⟩ => ?_
  have q1 : itU X.K x H1 R := q1
  cases x with
  | str z =>
    have q1 : R (Its z) H1 := q1
    obtain ⟨t, rfl⟩ := r1
    cases ha : z.cps.all (· < 128)
    · exact wpAny_pyIter_wide ha (pi_one (tk := s1.toks) I1 _ (turn_str _ z t "str_iterator" (.inr rfl)) ⟨_, Heap.get?_push_size _ rfl, rfl, rfl⟩ q1)
    · exact wpAny_pyIter_ascii ha (pi_one (tk := s1.toks) I1 _ (turn_str _ z t "str_ascii_iterator" (.inl rfl)) ⟨_, Heap.get?_push_size _ rfl, rfl, rfl⟩ q1)
  | ref a =>
    cases r1
    rcases q1 with ⟨⟨xs, hq⟩, q⟩ | ⟨⟨xs, hq⟩, q⟩
    · obtain ⟨its, rv, p, hz⟩ := I1.list hq
      refine wpAny_pyIter_list p.isList ?_
      refine ⟨s1.heap.objs.size, [s1.heap.objs.size], _, _, H1, rfl, I1.kept (t' := s1.toks) fun b o e => Heap.get?_push_of_some _ e, turn_list a _, ⟨_, Heap.get?_push_size _ rfl, rfl, rfl⟩, fun b hb => ?_, q⟩
      have e : b = s1.heap.objs.size := by simpa using hb
      subst e
      exact I1.fpOk (Nat.le_refl _) (I1.hok.fresh (Nat.le_refl _))
    · obtain ⟨its, rv, p, hz⟩ := I1.tuple hq
      refine wpAny_pyIter_tuple (show s1.heap.IsTuple a its.toArray from p) ?_
      refine ⟨s1.heap.objs.size, [s1.heap.objs.size], _, _, H1, rfl, I1.kept (t' := s1.toks) fun b o e => Heap.get?_push_of_some _ e, turn_tuple a _, ⟨_, Heap.get?_push_size _ rfl, rfl, rfl⟩, fun b hb => ?_, q⟩
      have e : b = s1.heap.objs.size := by simpa using hb
      subst e
      exact I1.fpOk (Nat.le_refl _) (I1.hok.fresh (Nat.le_refl _))
  | _ => exact (show False from q1).elim
def loopJ (J : It) (g : TG) (tb : TS) (D : Ends) (σ : L2.St) (H1 : Hp) : Prop := ∃ W : Nat → Nat → L2.St → Hp → Prop, (∃ m, W 0 m σ H1) ∧ ∀ i m σ H, W i m σ H →
  (J.stop i H ∧ D.nx σ H) ∨ (J.go i H ∧ ∃ N : L2.St → Hp → Prop, (∀ σ' H', N σ' H' → ∃ m', m' < m ∧ W (i + 1) m' σ' H') ∧ ∀ x H', J.yld i H x H' → g x σ H' fun σ2 H2 => tb { D with nx := N, ct := N, bk := D.nx } σ2 H2)
def compJ (J : It) (g : TG) (tt : TT) (te : TE) (vs : List Nat) (σ : L2.St) (H1 : Hp) (Q : VK) : Prop := ∀ D, H1 D = none → ∃ W : Nat → Nat → Hp → Prop, (∃ m, W 0 m (upd H1 D (.lst []))) ∧ ∀ i m H, W i m H →
  (J.stop i H ∧ Q (.ref D) H) ∨ (J.go i H ∧ ∃ Nx : Hp → Prop, (∀ H', Nx H' → ∃ m', m' < m ∧ W (i + 1) m' H') ∧ ∀ x H', J.yld i H x H' → g x (wipe σ vs) H' fun σ2 H2 => wipe σ2 vs = wipe σ vs ∧ tt σ2 H2 fun b H3 =>
    if b = true then te σ2 H3 fun y H4 => ∃ acc, H4 D = some (.lst acc) ∧ acc.length < sizeLine ∧ Nx (upd H4 D (.lst (acc ++ [y]))) else Nx H3)
def loopU (K : PySem.W.Frag) (x : V) (g : TG) (tb : TS) (D : Ends) (σ : L2.St) (H : Hp) : Prop := itU K x H fun J H1 => loopJ J g tb D σ H1
def compU (K : PySem.W.Frag) (x : V) (g : TG) (tt : TT) (te : TE) (vs : List Nat) (σ : L2.St) (H : Hp) (Q : VK) : Prop := itU K x H fun J H1 => compJ J g tt te vs σ H1 Q
theorem for_U {K : PySem.W.Frag} {g : TG} {tb : TS} {D : Ends} {σ : L2.St} {H : Hp} : tFor (iU K te) g tb D σ H = te σ H fun x H1 => loopU K x g tb D σ H1 := rfl
theorem lc_U {K : PySem.W.Frag} {g : TG} {tt : TT} {tel : TE} {vs : List Nat} {σ : L2.St} {H : Hp} {Q : VK} : tLc (iU K te) g tt tel vs σ H Q = te σ H fun x H1 => compU K x g tt tel vs σ H1 Q := rfl
def rngOk (i j : Int) : Prop := -(2 ^ 62) ≤ i ∧ i < 2 ^ 62 ∧ -(2 ^ 62) ≤ j ∧ j < 2 ^ 62
theorem for_R1 {ta : TA} {g : TG} {tb : TS} {D : Ends} {σ : L2.St} {H : Hp} : tFor (iRng1 ta) g tb D σ H = ta σ H fun vs H1 => ∃ j : Int, vs = [.int j] ∧ -(2 ^ 62) ≤ j ∧ j < 2 ^ 62 ∧ loopJ (Itr 0 j.toNat) g tb D σ H1 := rfl
theorem for_R2 {ta : TA} {g : TG} {tb : TS} {D : Ends} {σ : L2.St} {H : Hp} : tFor (iRng2 ta) g tb D σ H = ta σ H fun vs H1 => ∃ i j : Int, vs = [.int i, .int j] ∧ rngOk i j ∧ loopJ (Itr i (j - i).toNat) g tb D σ H1 := rfl
theorem lc_R1 {ta : TA} {g : TG} {tt : TT} {tel : TE} {vs : List Nat} {σ : L2.St} {H : Hp} {Q : VK} : tLc (iRng1 ta) g tt tel vs σ H Q = ta σ H fun us H1 => ∃ j : Int, us = [.int j] ∧ -(2 ^ 62) ≤ j ∧ j < 2 ^ 62 ∧ compJ (Itr 0 j.toNat) g tt tel vs σ H1 Q := rfl
theorem lc_R2 {ta : TA} {g : TG} {tt : TT} {tel : TE} {vs : List Nat} {σ : L2.St} {H : Hp} {Q : VK} : tLc (iRng2 ta) g tt tel vs σ H Q = ta σ H fun us H1 => ∃ i j : Int, us = [.int i, .int j] ∧ rngOk i j ∧ compJ (Itr i (j - i).toNat) g tt tel vs σ H1 Q := rfl
end
section
variable {K : PySem.W.Frag} {g : TG} {tb : TS} {D : Ends} {σ : L2.St} {H : Hp} {tt : TT} {tel : TE} {vs : List Nat} {Q : VK}
theorem loop_str {z : Str} (Pv : Nat → L2.St → Hp → Prop) (h0 : Pv 0 σ H) (hs : ∀ i c σ H, z.cps[i]? = some c → Pv i σ H → g (.str ⟨#[c]⟩) σ H fun σ2 H2 => tb { D with nx := Pv (i + 1), ct := Pv (i + 1), bk := D.nx } σ2 H2) (hd : ∀ σ H, Pv z.cps.size σ H → D.nx σ H) :
    loopU K (.str z) g tb D σ H :=
  for_it (walk_str (z := z)) Pv h0 (fun _ _ _ _ _ => trivial) (fun i x σ H H' _ p y => by
    obtain ⟨rfl, c, hc, rfl⟩ := y
    exact hs i c σ H' hc p) hd
theorem loop_seq {a : Addr} {xs : List V} (hx : seqAt H a = some xs) (Pv : Nat → L2.St → Hp → Prop) (h0 : Pv 0 σ H) (hG : ∀ i σ H', i ≤ xs.length → Pv i σ H' → H' a = H a)
    (hs : ∀ i x σ H, xs[i]? = some x → Pv i σ H → g x σ H fun σ2 H2 => tb { D with nx := Pv (i + 1), ct := Pv (i + 1), bk := D.nx } σ2 H2) (hd : ∀ σ H, Pv xs.length σ H → D.nx σ H) : loopU K (.ref a) g tb D σ H := by
  have key : ∀ H', H' a = H a → seqAt H' a = some xs := fun H' e => by
    unfold seqAt at hx ⊢
    rw [e]
    exact hx
  rcases seqAt_cases (K := K) hx with h | h
  · refine .inl ⟨⟨xs, h⟩, for_it (walk_list (xs := xs)) Pv h0 (fun i σ' H' hi p => ?_) (fun i x σ H H' _ p y => ?_) hd⟩
    · have e := hG i σ' H' hi p
      rcases h with h | h
      · exact .inl (h.imp (fun z => e.trans z) fun ⟨o, z⟩ => ⟨o, e.trans z⟩)
      · exact .inr h
    · obtain ⟨rfl, hx⟩ := y
      exact hs i x σ H' hx p
  · refine .inr ⟨⟨xs, h⟩, for_it (walk_tup (xs := xs)) Pv h0 (fun i σ' H' hi p => ?_) (fun i x σ H H' _ p y => ?_) hd⟩
    · have e := hG i σ' H' hi p
      rcases h with h | h
      · exact .inl (h.imp (fun z => e.trans z) fun ⟨o, z⟩ => ⟨o, e.trans z⟩)
      · exact .inr h
    · obtain ⟨rfl, hx⟩ := y
      exact hs i x σ H' hx p
theorem loop_rng {lo : Int} {n : Nat} (Pv : Nat → L2.St → Hp → Prop) (h0 : Pv 0 σ H) (hs : ∀ i σ H, i < n → Pv i σ H → g (.int (lo + (i : Int))) σ H fun σ2 H2 => tb { D with nx := Pv (i + 1), ct := Pv (i + 1), bk := D.nx } σ2 H2) (hd : ∀ σ H, Pv n σ H → D.nx σ H) :
    loopJ (Itr lo n) g tb D σ H :=
  for_it (walk_range (lo := lo) (n := n)) Pv h0 (fun _ _ _ _ _ => trivial) (fun i x σ H H' hi p y => by
    obtain ⟨rfl, rfl⟩ := y
    exact hs i σ H' hi p) hd
theorem comp_rng {lo : Int} {n : Nat} (Pv : Addr → Nat → List V → Hp → Prop) (h0 : ∀ D, H D = none → Pv D 0 [] (upd H D (.lst [])))
    (hs : ∀ D i acc H (Nx : Hp → Prop), i < n → Pv D i acc H → (∀ acc H, Pv D (i + 1) acc H → Nx H) → g (.int (lo + (i : Int))) (wipe σ vs) H fun σ2 H2 => wipe σ2 vs = wipe σ vs ∧ tt σ2 H2 fun b H3 =>
      if b = true then tel σ2 H3 fun y H4 => ∃ acc, H4 D = some (.lst acc) ∧ acc.length < sizeLine ∧ Nx (upd H4 D (.lst (acc ++ [y]))) else Nx H3)
    (hd : ∀ D acc H', H D = none → Pv D n acc H' → Q (.ref D) H') : compJ (Itr lo n) g tt tel vs σ H Q := fun D hDn =>
  lc_it (walk_range (lo := lo) (n := n)) (fun i H => ∃ acc, Pv D i acc H) ⟨[], h0 D hDn⟩ (fun _ _ _ _ => trivial) (fun i x H H' hi ⟨acc, p⟩ y => by
    obtain ⟨rfl, rfl⟩ := y
    exact hs D i acc H' _ hi p fun acc H p => ⟨acc, p⟩) (fun H' ⟨acc, p⟩ => hd D acc H' hDn p)
theorem comp_str {z : Str} (Pv : Addr → Nat → List V → Hp → Prop) (h0 : ∀ D, H D = none → Pv D 0 [] (upd H D (.lst [])))
    (hs : ∀ D i c acc H (Nx : Hp → Prop), z.cps[i]? = some c → Pv D i acc H → (∀ acc H, Pv D (i + 1) acc H → Nx H) → g (.str ⟨#[c]⟩) (wipe σ vs) H fun σ2 H2 => wipe σ2 vs = wipe σ vs ∧ tt σ2 H2 fun b H3 =>
      if b = true then tel σ2 H3 fun y H4 => ∃ acc, H4 D = some (.lst acc) ∧ acc.length < sizeLine ∧ Nx (upd H4 D (.lst (acc ++ [y]))) else Nx H3)
    (hd : ∀ D acc H', H D = none → Pv D z.cps.size acc H' → Q (.ref D) H') : compU K (.str z) g tt tel vs σ H Q := fun D hDn =>
  lc_it (walk_str (z := z)) (fun i H => ∃ acc, Pv D i acc H) ⟨[], h0 D hDn⟩ (fun _ _ _ _ => trivial) (fun i x H H' hi ⟨acc, p⟩ y => by
    obtain ⟨rfl, c, hc, rfl⟩ := y
    exact hs D i c acc H' _ hc p fun acc H p => ⟨acc, p⟩) (fun H' ⟨acc, p⟩ => hd D acc H' hDn p)
theorem comp_seq {a : Addr} {xs : List V} (hx : seqAt H a = some xs) (Pv : Addr → Nat → List V → Hp → Prop) (h0 : ∀ D, H D = none → Pv D 0 [] (upd H D (.lst []))) (hG : ∀ D i acc H', H D = none → i ≤ xs.length → Pv D i acc H' → H' a = H a)
    (hs : ∀ D i x acc H (Nx : Hp → Prop), xs[i]? = some x → Pv D i acc H → (∀ acc H, Pv D (i + 1) acc H → Nx H) → g x (wipe σ vs) H fun σ2 H2 => wipe σ2 vs = wipe σ vs ∧ tt σ2 H2 fun b H3 =>
      if b = true then tel σ2 H3 fun y H4 => ∃ acc, H4 D = some (.lst acc) ∧ acc.length < sizeLine ∧ Nx (upd H4 D (.lst (acc ++ [y]))) else Nx H3)
    (hd : ∀ D acc H', H D = none → Pv D xs.length acc H' → Q (.ref D) H') : compU K (.ref a) g tt tel vs σ H Q := by
  rcases seqAt_cases (K := K) hx with h | h
  · refine .inl ⟨⟨xs, h⟩, fun D hDn => lc_it (walk_list (xs := xs)) (fun i H => ∃ acc, Pv D i acc H) ⟨[], h0 D hDn⟩ (fun i H' hi ⟨acc, p⟩ => ?_) (fun i x H H' _ ⟨acc, p⟩ y => ?_) (fun H' ⟨acc, p⟩ => hd D acc H' hDn p)⟩
    · have e := hG D i acc H' hDn hi p
      rcases h with h | h
      · exact .inl (h.imp (fun z => e.trans z) fun ⟨o, z⟩ => ⟨o, e.trans z⟩)
      · exact .inr h
    · obtain ⟨rfl, hx⟩ := y
      exact hs D i x acc H' _ hx p fun acc H p => ⟨acc, p⟩
  · refine .inr ⟨⟨xs, h⟩, fun D hDn => lc_it (walk_tup (xs := xs)) (fun i H => ∃ acc, Pv D i acc H) ⟨[], h0 D hDn⟩ (fun i H' hi ⟨acc, p⟩ => ?_) (fun i x H H' _ ⟨acc, p⟩ y => ?_) (fun H' ⟨acc, p⟩ => hd D acc H' hDn p)⟩
    · have e := hG D i acc H' hDn hi p
      rcases h with h | h
      · exact .inl (h.imp (fun z => e.trans z) fun ⟨o, z⟩ => ⟨o, e.trans z⟩)
      · exact .inr h
    · obtain ⟨rfl, hx⟩ := y
      exact hs D i x acc H' _ hx p fun acc H p => ⟨acc, p⟩
end

structure New (H : Hp) (p : Addr) (o : HO) (H' : Hp) : Prop where
  fr : H p = none
  eq : H' = upd H p o
theorem New.at {H H' : Hp} {p : Addr} {o : HO} (n : New H p o H') : H' p = some o := by rw [n.eq]; exact upd_same
theorem New.ne {H H' : Hp} {p b : Addr} {o u : HO} (n : New H p o H') (e : H b = some u) : b ≠ p := fun z => by
  rw [z, n.fr] at e
  cases e
theorem New.off {H H' : Hp} {p b : Addr} {o : HO} (n : New H p o H') (h : b ≠ p) : H' b = H b := by rw [n.eq]; exact upd_ne h
theorem New.old {H H' : Hp} {p b : Addr} {o u : HO} (n : New H p o H') (e : H b = some u) : H' b = some u := by rw [n.off (n.ne e)]; exact e
theorem New.same {H H' : Hp} {p : Addr} {o : HO} (n : New H p o H') : L2.Same H H' := fun _ _ e => n.old e
theorem New.seq {H H' : Hp} {p b : Addr} {o : HO} {xs : List V} (n : New H p o H') (e : seqAt H b = some xs) : seqAt H' b = some xs := by
  have h : b ≠ p := fun z => by
    unfold seqAt at e
    rw [z, n.fr] at e
    cases e
  unfold seqAt at e ⊢
  rw [n.off h]
  exact e
theorem New.by {H : Hp} {p : Addr} {o : HO} {P : Hp → Prop} (hp : H p = none) (q : ∀ H', New H p o H' → P H') : P (upd H p o) := q _ ⟨hp, rfl⟩
theorem forall_new {H : Hp} {o : HO} {Q : VK} : (∀ r, H r = none → Q (.ref r) (upd H r o)) = (∀ r H', New H r o H' → Q (.ref r) H') :=
  propext ⟨fun h r H' n => by rw [n.eq]; exact h r n.fr, fun h r hr => h r _ ⟨hr, rfl⟩⟩
def tTupN (t : TA) : TE := fun σ H Q => t σ H fun xs H1 => xs.length ≤ sizeLine ∧ ∀ p H2, New H1 p (.tup xs) H2 → Q (.ref p) H2
def tLstN (t : TA) : TE := fun σ H Q => t σ H fun xs H1 => xs.length ≤ sizeLine ∧ ∀ p H2, New H1 p (.lst xs) H2 → Q (.ref p) H2
theorem tTup_eq : tTup = tTupN := by
  funext t σ H Q
  unfold tTup tTupN
  simp only [forall_new]
theorem tLst_eq : tLst = tLstN := by
  funext t σ H Q
  unfold tLst tLstN
  simp only [forall_new]
def rAddLN : R2 := fun x y H Q => match x, y with
  | .ref p, .ref q => match H p, H q with
    | some (.lst xs), some (.lst ys) => xs.length + ys.length ≤ sizeLine ∧ ∀ r H', New H r (.lst (xs ++ ys)) H' → Q (.ref r) H'
    | _, _ => False
  | _, _ => False
theorem rAddL_eq : rAddL = rAddLN := by
  funext x y H Q
  unfold rAddL rAddLN
  simp only [forall_new]
def rAddTN : R2 := fun x y H Q => match x, y with
  | .ref p, .ref q => match H p, H q with
    | some (.tup xs), some (.tup ys) => xs.length + ys.length ≤ sizeLine ∧ (xs = [] → Q (.ref q) H) ∧ (xs ≠ [] → ys = [] → Q (.ref p) H) ∧ (xs ≠ [] → ys ≠ [] → ∀ r H', New H r (.tup (xs ++ ys)) H' → Q (.ref r) H')
    | _, _ => False
  | _, _ => False
theorem rAddT_eq : rAddT = rAddTN := by
  funext x y H Q
  unfold rAddT rAddTN
  simp only [forall_new]
def rSlN : V → Option Int → Option Int → Hp → VK → Prop := fun x lo hi H Q => match x with
  | .str z => z.length ≤ sizeLine ∧ Q (.str (cutS z lo hi)) H
  | .ref p => match H p with
    | some (.lst xs) => ∀ q H', New H q (.lst (cutV xs lo hi)) H' → Q (.ref q) H'
    | some (.tup xs) => (wholeT xs.length lo hi → Q (.ref p) H) ∧ (¬ wholeT xs.length lo hi → ∀ q H', New H q (.tup (cutV xs lo hi)) H' → Q (.ref q) H')
    | _ => False
  | _ => False
theorem rSl_eq : rSlU = rSlN := by
  funext x lo hi H Q
  unfold rSlU rSlN
  simp only [forall_new]
def rListN : List V → Hp → VK → Prop := fun xs H Q => match xs with
  | [.ref p] => match seqAt H p with
    | some ys => ∀ l H', New H l (.lst ys) H' → Q (.ref l) H'
    | none => False
  | _ => False
theorem rList_eq : rListU = rListN := by
  funext xs H Q
  unfold rListU rListN
  simp only [forall_new]
def rTupleN : List V → Hp → VK → Prop := fun xs H Q => match xs with
  | [.ref p] => match H p with
    | some (.lst ys) => ∀ l H', New H l (.tup ys) H' → Q (.ref l) H'
    | some (.tup ys) => Q (.ref p) H
    | _ => False
  | _ => False
theorem rTuple_eq : rTupleU = rTupleN := by
  funext xs H Q
  unfold rTupleU rTupleN
  simp only [forall_new]

structure Callee (P : Program) (w : World) (K : PySem.W.Frag) (mg : Str → Option Value) (base : Heap) (CX : CXT) (k : Nat) (x : Str) (ps : List Str) (dvs : List V) (sp : Sp) : Prop where
  ex : ∃ (f : Addr) (fd : FuncData) (ds : List Value), mg x = some (.ref f) ∧ FnOk P w K mg base CX k f fd ps sp ∧ PySem.W.keepIn K (.ref f) = true ∧ Binds K fd ps ds ∧ Vals dvs ds
section
variable {X : Cx} {e : Expr} {es : List Expr} {ta : TA} {x : Str} {p pos : Pos} {k : Nat} {ps : List Str} {sp : Sp} {dvs : List V}
def uCall (sp : Sp) (dvs : List V) (E : XK) (t : TA) : TE := fun σ H Q => t σ H fun vs H1 => sp (vs ++ dvs) H1 Q E
theorem pe_cal (c : Callee X.prog X.w X.K X.mg X.base CX0 k x ps dvs sp) (hr : Room k X.A) (ha : PA X (e :: es) ta) (hg : Gl X x := by rfl) (hd : (x == ("__debug__" : Str)) = false := by decide)
    (he : starEach (e :: es) X.env = (false, eval e X.env) :: starEach es X.env := by rfl) (hpl : (backTo pos (starEach es X.env)).any (·.1) = false := by rfl) :
    PE X (.Call (.Name x p) (e :: es) [] pos) (uCall sp dvs E0 ta) := by
  obtain ⟨f, fd, ds, hm, F, kp, b, v⟩ := c.ex
  exact pe_call F hr hg hm kp b v pass0 ha hd he hpl
end
end U
end

section
namespace U
open PySem PySem.Spec PyProof.Rows L2
class Kp (α : Type) where
  val : α
section
variable {α : Type}
def OK (o : Option α) [k : Kp (α → Prop)] : Prop := match o with
  | some x => k.val x
  | none => False
theorem OK_some {x : α} {k : α → Prop} : @OK α (some x) ⟨k⟩ = k x := rfl
theorem OK.by {o : Option α} {k : α → Prop} {x : α} (h : o = some x) (q : k x) : @OK α o ⟨k⟩ := by rw [h]; exact q
end
def Br (c : Prop) [a : Kp Prop] [b : Kp Prop] : Prop := (c → a.val) ∧ (¬ c → b.val)
theorem Br_true {a b : Prop} : @Br True ⟨a⟩ ⟨b⟩ = a := propext ⟨fun h => h.1 trivial, fun h => ⟨fun _ => h, fun z => absurd trivial z⟩⟩
theorem Br_false {a b : Prop} : @Br False ⟨a⟩ ⟨b⟩ = b := propext ⟨fun h => h.2 id, fun h => ⟨fun z => z.elim, fun _ => h⟩⟩
theorem Br_not {c a b : Prop} : @Br (¬ c) ⟨a⟩ ⟨b⟩ = @Br c ⟨b⟩ ⟨a⟩ := propext ⟨fun h => ⟨fun k => h.2 (not_not_intro k), h.1⟩, fun h => ⟨h.2, fun k => h.1 (Classical.byContradiction k)⟩⟩
theorem Br.by {c a b : Prop} (h : c → a) (k : ¬ c → b) : @Br c ⟨a⟩ ⟨b⟩ := ⟨h, k⟩
theorem Br.yes {c a b : Prop} (h : c) (k : a) : @Br c ⟨a⟩ ⟨b⟩ := ⟨fun _ => k, fun z => absurd h z⟩
theorem Br.no {c a b : Prop} (h : ¬ c) (k : b) : @Br c ⟨a⟩ ⟨b⟩ := ⟨fun z => absurd z h, fun _ => k⟩
theorem ite_Br {b : Bool} {p q : Prop} : (if b = true then p else q) = @Br (b = true) ⟨p⟩ ⟨q⟩ := by
  cases b
  · exact propext ⟨fun h => ⟨fun z => (nomatch z), fun _ => h⟩, fun h => h.2 fun z => (nomatch z)⟩
  · exact propext ⟨fun h => ⟨fun _ => h, fun z => absurd rfl z⟩, fun h => h.1 rfl⟩
def Cd (c : Prop) [p : Kp Prop] : Prop := c ∧ p.val
theorem Cd_true {p : Prop} : @Cd True ⟨p⟩ = p := propext ⟨fun h => h.2, fun h => ⟨trivial, h⟩⟩
theorem Cd.by {c p : Prop} (h : c) (k : p) : @Cd c ⟨p⟩ := ⟨h, k⟩
def Al (H : Hp) (o : HO) [Q : Kp VK] : Prop := ∀ p H', New H p o H' → Q.val (.ref p) H'
theorem Al.by {H : Hp} {o : HO} {Q : VK} (h : ∀ p H', New H p o H' → Q (.ref p) H') : @Al H o ⟨Q⟩ := h
structure Mod (H : Hp) (p : Addr) (o : HO) (H' : Hp) : Prop where
  eq : H' = upd H p o
theorem Mod.at {H H' : Hp} {p : Addr} {o : HO} (n : Mod H p o H') : H' p = some o := by rw [n.eq]; exact upd_same
theorem Mod.off {H H' : Hp} {p b : Addr} {o : HO} (n : Mod H p o H') (h : b ≠ p) : H' b = H b := by rw [n.eq]; exact upd_ne h
theorem Mod.old {H H' : Hp} {p b : Addr} {o u : HO} (n : Mod H p o H') (h : b ≠ p) (e : H b = some u) : H' b = some u := by rw [n.off h]; exact e
def Md (H : Hp) (p : Addr) (o : HO) [R : Kp (Hp → Prop)] : Prop := ∀ H', Mod H p o H' → R.val H'
theorem Md.by {H : Hp} {p : Addr} {o : HO} {R : Hp → Prop} (h : ∀ H', Mod H p o H' → R H') : @Md H p o ⟨R⟩ := h
theorem Md_eq {H : Hp} {p : Addr} {o : HO} {R : Hp → Prop} : R (upd H p o) = @Md H p o ⟨R⟩ := propext ⟨fun h H' n => by rw [n.eq]; exact h, fun h => h _ ⟨rfl⟩⟩
def Call (sp : Sp) (vs : List V) (H : Hp) [Q : Kp VK] [E : Kp XK] : Prop := sp vs H Q.val E.val
theorem Call.by {sp : Sp} {vs : List V} {H : Hp} {Q : VK} {E : XK} (h : sp vs H Q E) : @Call sp vs H ⟨Q⟩ ⟨E⟩ := h
def kB (Q : Bool → Hp → Prop) : VK := fun x H => match x with
  | .bl b => Q b H
  | _ => False
def aB (x : V) (H : Hp) [Q : Kp (Bool → Hp → Prop)] : Prop := kB Q.val x H
theorem kB_a {Q : Bool → Hp → Prop} {x : V} {H : Hp} : kB Q x H = @aB x H ⟨Q⟩ := rfl
theorem aB_bl {Q : Bool → Hp → Prop} {b : Bool} {H : Hp} : @aB (.bl b) H ⟨Q⟩ = Q b H := rfl
theorem kB_eq {Q : Bool → Hp → Prop} {x : V} {H : Hp} : (∃ k, x = .bl k ∧ Q k H) = kB Q x H := by
  cases x <;> simp [kB]
def kI (R : Int → Hp → Prop) : VK := fun x H => match x with
  | .int i => R i H
  | _ => False
def aI (x : V) (H : Hp) [Q : Kp (Int → Hp → Prop)] : Prop := kI Q.val x H
theorem kI_a {Q : Int → Hp → Prop} {x : V} {H : Hp} : kI Q x H = @aI x H ⟨Q⟩ := rfl
theorem aI_int {Q : Int → Hp → Prop} {i : Int} {H : Hp} : @aI (.int i) H ⟨Q⟩ = Q i H := rfl
theorem kI_eq {R : Int → Hp → Prop} {x : V} {H : Hp} : (∃ k, x = .int k ∧ R k H) = kI R x H := by
  cases x <;> simp [kI]
def aR (r : R2) (x y : V) (H : Hp) [Q : Kp VK] : Prop := r x y H Q.val
def aC (r : List V → Hp → VK → Prop) (vs : List V) (H : Hp) [Q : Kp VK] : Prop := r vs H Q.val
def aU (r : V → Hp → VK → Prop) (x : V) (H : Hp) [Q : Kp VK] : Prop := r x H Q.val
def aT (x : V) (H : Hp) [R : Kp (Bool → Hp → Prop)] : Prop := rTruU x H R.val
def aS (r : V → Option Int → Option Int → Hp → VK → Prop) (x : V) (l u : Option Int) (H : Hp) [Q : Kp VK] : Prop := r x l u H Q.val
def aG (s : V → V → V → Hp → (Hp → Prop) → Prop) (o i v : V) (H : Hp) [R : Kp (Hp → Prop)] : Prop := s o i v H R.val
def LoopJ (J : It) (σ : L2.St) (H : Hp) [g : Kp TG] [tb : Kp TS] [D : Kp Ends] : Prop := loopJ J g.val tb.val D.val σ H
def LoopU (K : PySem.W.Frag) (x : V) (σ : L2.St) (H : Hp) [g : Kp TG] [tb : Kp TS] [D : Kp Ends] : Prop := loopU K x g.val tb.val D.val σ H
def CompJ (J : It) (us : List Nat) (σ : L2.St) (H : Hp) [g : Kp TG] [tt : Kp TT] [te : Kp TE] [Q : Kp VK] : Prop := compJ J g.val tt.val te.val us σ H Q.val
def CompU (K : PySem.W.Frag) (x : V) (us : List Nat) (σ : L2.St) (H : Hp) [g : Kp TG] [tt : Kp TT] [te : Kp TE] [Q : Kp VK] : Prop := compU K x g.val tt.val te.val us σ H Q.val
def a1 (vs : List V) [R : Kp (Int → Prop)] : Prop := match vs with
  | [.int i] => R.val i
  | _ => False
def a2 (vs : List V) [R : Kp (Int → Int → Prop)] : Prop := match vs with
  | [.int i, .int j] => R.val i j
  | _ => False
theorem a1_int {R : Int → Prop} {i : Int} : @a1 [.int i] ⟨R⟩ = R i := rfl
theorem a2_int {R : Int → Int → Prop} {i j : Int} : @a2 [.int i, .int j] ⟨R⟩ = R i j := rfl

section
variable {t u : TS} {D : Ends} {σ : L2.St} {H : Hp} {Q : VK} {c d : TT} {R : Bool → Hp → Prop} {ta tb tc te : TE} {ts tr : TA} {x y v : V} {vs : List V} {i j : Int} {n : Nat} {p q : Addr} {K : PySem.W.Frag}
theorem r_seq : tSeq t u D σ H = t { D with nx := u D } σ H := rfl
theorem r_ifS : tIfS c t u D σ H = c σ H fun b H1 => @Br (b = true) ⟨t D σ H1⟩ ⟨u D σ H1⟩ := by
  show (c σ H fun b H1 => if b = true then t D σ H1 else u D σ H1) = _
  congr 1
  funext b H1
  exact ite_Br
theorem r_or : tOr c d σ H R = c σ H fun b H1 => @Br (b = true) ⟨R true H1⟩ ⟨d σ H1 R⟩ := by
  show (c σ H fun b H1 => if b = true then R true H1 else d σ H1 R) = _
  congr 1
  funext b H1
  exact ite_Br
theorem r_and : tAnd c d σ H R = c σ H fun b H1 => @Br (b = true) ⟨d σ H1 R⟩ ⟨R false H1⟩ := by
  show (c σ H fun b H1 => if b = true then d σ H1 R else R false H1) = _
  congr 1
  funext b H1
  exact ite_Br
theorem r_not : tNot c σ H R = c σ H fun b H1 => R (!b) H1 := rfl
theorem r_next : tNext D σ H = D.nx σ H := rfl
theorem r_ret : tRet te D σ H = te σ H D.rt := rfl
theorem r_retN : tRetN D σ H = D.rt .non H := rfl
theorem r_brk : tBreak D σ H = D.bk σ H := rfl
theorem r_cnt : tCont D σ H = D.ct σ H := rfl
theorem r_drop : tDrop te D σ H = te σ H fun _ H1 => D.nx σ H1 := rfl
theorem r_asg {g : TG} : tAsg te g D σ H = te σ H fun x H1 => g x σ H1 D.nx := rfl
theorem r_test : tTest te σ H R = te σ H (kB R) := by
  show (te σ H fun x H' => ∃ k, x = .bl k ∧ R k H') = _
  congr 1
  funext x H'
  exact kB_eq
theorem r_yes : tYes σ H R = R true H := rfl
theorem r_c : tC v σ H Q = Q v H := rfl
theorem r_nil {Q : List V → Hp → Prop} : tNil σ H Q = Q [] H := rfl
theorem r_cons {Q : List V → Hp → Prop} : tCons te tr σ H Q = te σ H fun x H1 => tr σ H1 fun xs H2 => Q (x :: xs) H2 := rfl
theorem r_var0 {σ : L2.St} : uVar 0 (some v :: σ) H Q = Q v H := rfl
theorem r_varS {o : Option V} : uVar (n + 1) (o :: σ) H Q = uVar n σ H Q := rfl
theorem r_name0 {o : Option V} {R : L2.St → Hp → Prop} : gName 0 v (o :: σ) H R = R (some v :: σ) H := rfl
theorem r_nameS {o : Option V} {R : L2.St → Hp → Prop} : gName (n + 1) v (o :: σ) H R = gName n v σ H fun σ' H' => R (o :: σ') H' := rfl
theorem r_op {r : R2} : tOp r ta tb σ H Q = ta σ H fun x H1 => tb σ H1 fun y H2 => @aR r x y H2 ⟨Q⟩ := rfl
theorem r_un {r : V → Hp → VK → Prop} : tUn r ta σ H Q = ta σ H fun x H1 => @aU r x H1 ⟨Q⟩ := rfl
theorem r_rU {g : Int → V} : @aU (rU g) (.int i) H ⟨Q⟩ = Q (g i) H := propext ⟨fun ⟨_, e, q⟩ => by cases e; exact q, fun q => ⟨_, rfl, q⟩⟩
theorem r_chain {r r' : R2} : tChain r r' ta tb tc σ H Q = ta σ H fun x H1 => tb σ H1 fun y H2 => @aR r x y H2 ⟨kB fun k H3 => @Br (k = true) ⟨tc σ H3 fun w' H4 => @aR r' y w' H4 ⟨Q⟩⟩ ⟨Q (.bl false) H3⟩⟩ := by
  show (ta σ H fun x H1 => tb σ H1 fun y H2 => r x y H2 fun z H3 => ∃ k, z = .bl k ∧ (if k = true then tc σ H3 fun w' H4 => r' y w' H4 Q else Q (.bl false) H3)) = _
  congr 1
  funext x H1
  congr 1
  funext y H2
  have e : (fun z H3 => ∃ k, z = .bl k ∧ (if k = true then tc σ H3 fun w' H4 => r' y w' H4 Q else Q (.bl false) H3)) = kB fun k H3 => @Br (k = true) ⟨tc σ H3 fun w' H4 => r' y w' H4 Q⟩ ⟨Q (.bl false) H3⟩ := by
    funext z H3
    rw [← kB_eq]
    simp only [ite_Br]
  rw [e]
  rfl
theorem r_andV : tAndV ta tb σ H Q = ta σ H (kB fun c H1 => @Br (c = true) ⟨tb σ H1 Q⟩ ⟨Q (.bl false) H1⟩) := by
  show (ta σ H fun x H1 => ∃ c, x = .bl c ∧ if c = true then tb σ H1 Q else Q (.bl false) H1) = _
  congr 1
  funext z H3
  rw [← kB_eq]
  simp only [ite_Br]
theorem r_orV : tOrV ta tb σ H Q = ta σ H (kB fun c H1 => @Br (c = true) ⟨Q (.bl true) H1⟩ ⟨tb σ H1 Q⟩) := by
  show (ta σ H fun x H1 => ∃ c, x = .bl c ∧ if c = true then Q (.bl true) H1 else tb σ H1 Q) = _
  congr 1
  funext z H3
  rw [← kB_eq]
  simp only [ite_Br]
theorem r_notV : tNotV ta σ H Q = ta σ H (kB fun c H1 => Q (.bl (!c)) H1) := by
  show (ta σ H fun x H1 => ∃ c, x = .bl c ∧ Q (.bl (!c)) H1) = _
  congr 1
  funext z H3
  rw [← kB_eq]
theorem r_call {sp : Sp} {E : XK} : uCall sp [] E ts σ H Q = ts σ H fun vs H1 => @Call sp vs H1 ⟨Q⟩ ⟨E⟩ := by
  unfold uCall Call
  simp only [List.append_nil]
theorem r_cb {r : List V → Hp → VK → Prop} : tCB r ts σ H Q = ts σ H fun vs H1 => @aC r vs H1 ⟨Q⟩ := rfl
theorem r_tup : tTup ts σ H Q = ts σ H fun xs H1 => @Cd (xs.length ≤ sizeLine) ⟨@Al H1 (.tup xs) ⟨Q⟩⟩ := by
  rw [tTup_eq]; rfl
theorem r_lst : tLst ts σ H Q = ts σ H fun xs H1 => @Cd (xs.length ≤ sizeLine) ⟨@Al H1 (.lst xs) ⟨Q⟩⟩ := by
  rw [tLst_eq]; rfl
theorem r_sl {r : V → Option Int → Option Int → Hp → VK → Prop} {tl th : TO} : tSl r te tl th σ H Q = te σ H fun x H1 => tl σ H1 fun l H2 => th σ H2 fun u H3 => @aS r x l u H3 ⟨Q⟩ := rfl
theorem r_noPart {Q : Option Int → Hp → Prop} : tNoPart σ H Q = Q none H := rfl
theorem r_part {Q : Option Int → Hp → Prop} : uPart te σ H Q = te σ H (kI fun i H1 => Q (some i) H1) := by
  show (te σ H fun x H1 => ∃ i, x = .int i ∧ Q (some i) H1) = _
  congr 1
  funext z H3
  exact kI_eq
theorem r_gsub {to ti : TE} {s : TSet} {R : L2.St → Hp → Prop} : gSub to ti s v σ H R = to σ H fun o H1 => ti σ H1 fun i H2 => @aG s o i v H2 ⟨fun H3 => R σ H3⟩ := rfl
theorem r_addI : @aR rAddI (.int i) (.int j) H ⟨Q⟩ = Q (.int (i + j)) H := rfl
theorem r_addS {a b : Str} : @aR rAddS (.str a) (.str b) H ⟨Q⟩ = @Cd (a.length + b.length ≤ sizeLine) ⟨Q (.str (a ++ b)) H⟩ := rfl
theorem r_addUI : @aR rAddU (.int i) (.int j) H ⟨Q⟩ = Q (.int (i + j)) H := rfl
theorem r_addUS {a b : Str} : @aR rAddU (.str a) (.str b) H ⟨Q⟩ = @Cd (a.length + b.length ≤ sizeLine) ⟨Q (.str (a ++ b)) H⟩ := rfl
def lstO : Option HO → Option (List V)
  | some (.lst xs) => some xs
  | _ => none
def tupO : Option HO → Option (List V)
  | some (.tup xs) => some xs
  | _ => none
theorem lstO_lst {xs : List V} : lstO (some (.lst xs)) = some xs := rfl
theorem tupO_tup {xs : List V} : tupO (some (.tup xs)) = some xs := rfl
theorem r_addL : @aR rAddL (.ref p) (.ref q) H ⟨Q⟩ = @OK _ (lstO (H p)) ⟨fun xs => @OK _ (lstO (H q)) ⟨fun ys => @Cd (xs.length + ys.length ≤ sizeLine) ⟨@Al H (.lst (xs ++ ys)) ⟨Q⟩⟩⟩⟩ := by
  unfold aR
  rw [rAddL_eq]
  show (match H p, H q with
    | some (.lst xs), some (.lst ys) => xs.length + ys.length ≤ sizeLine ∧ ∀ r H', New H r (.lst (xs ++ ys)) H' → Q (.ref r) H'
    | _, _ => False) = _
  generalize H p = a
  generalize H q = b
  rcases a with _ | a
  · rfl
  · cases a <;> try rfl
    rcases b with _ | b
    · rfl
    · cases b <;> rfl
def AlT (H : Hp) (p q : Addr) (xs ys : List V) [Q : Kp VK] : Prop := (xs = [] → Q.val (.ref q) H) ∧ (xs ≠ [] → ys = [] → Q.val (.ref p) H) ∧ (xs ≠ [] → ys ≠ [] → @Al H (.tup (xs ++ ys)) Q)
theorem AlT_cc {x y : V} {xs ys : List V} : @AlT H p q (x :: xs) (y :: ys) ⟨Q⟩ = @Al H (.tup (x :: xs ++ y :: ys)) ⟨Q⟩ := by
  unfold AlT
  exact propext ⟨fun h => h.2.2 (by simp) (by simp), fun h => ⟨fun z => (nomatch z), fun _ z => (nomatch z), fun _ _ => h⟩⟩
theorem AlT_nil {ys : List V} : @AlT H p q [] ys ⟨Q⟩ = Q (.ref q) H := by
  unfold AlT
  exact propext ⟨fun h => h.1 rfl, fun h => ⟨fun _ => h, fun z => absurd rfl z, fun z => absurd rfl z⟩⟩
theorem AlT_cnil {x : V} {xs : List V} : @AlT H p q (x :: xs) [] ⟨Q⟩ = Q (.ref p) H := by
  unfold AlT
  exact propext ⟨fun h => h.2.1 (by simp) rfl, fun h => ⟨fun z => (nomatch z), fun _ _ => h, fun _ z => absurd rfl z⟩⟩
theorem AlT.by {xs ys : List V} (h : xs = [] → Q (.ref q) H) (k : ys = [] → Q (.ref p) H) (l : xs ≠ [] → ys ≠ [] → @Al H (.tup (xs ++ ys)) ⟨Q⟩) : @AlT H p q xs ys ⟨Q⟩ := ⟨h, fun _ => k, l⟩
theorem r_addT : @aR rAddT (.ref p) (.ref q) H ⟨Q⟩ = @OK _ (tupO (H p)) ⟨fun xs => @OK _ (tupO (H q)) ⟨fun ys => @Cd (xs.length + ys.length ≤ sizeLine) ⟨@AlT H p q xs ys ⟨Q⟩⟩⟩⟩ := by
  unfold aR
  rw [rAddT_eq]
  show (match H p, H q with
    | some (.tup xs), some (.tup ys) => xs.length + ys.length ≤ sizeLine ∧ (xs = [] → Q (.ref q) H) ∧ (xs ≠ [] → ys = [] → Q (.ref p) H) ∧ (xs ≠ [] → ys ≠ [] → ∀ r H', New H r (.tup (xs ++ ys)) H' → Q (.ref r) H')
    | _, _ => False) = _
  generalize H p = a
  generalize H q = b
  rcases a with _ | a
  · rfl
  · cases a <;> try rfl
    rcases b with _ | b
    · rfl
    · cases b <;> rfl
theorem r_sub : @aR rSubU (.int i) (.int j) H ⟨Q⟩ = Q (.int (i - j)) H := rfl
theorem r_mul : @aR rMulI (.int i) (.int j) H ⟨Q⟩ = @Cd (CMul i j) ⟨Q (.int (i * j)) H⟩ := rfl
theorem r_div : @aR rDivU (.int i) (.int j) H ⟨Q⟩ = @Cd (0 < j ∧ j < 1073741824) ⟨Q (.int (i / j)) H⟩ := rfl
theorem r_mod : @aR rModU (.int i) (.int j) H ⟨Q⟩ = @Cd (0 < j) ⟨Q (.int (i % j)) H⟩ := rfl
theorem r_pow : @aR rPowU (.int i) (.int j) H ⟨Q⟩ = @Cd (CPow i j) ⟨Q (.int (i ^ j.toNat)) H⟩ := rfl
theorem r_lt : @aR rLtU (.int i) (.int j) H ⟨Q⟩ = Q (.bl (decide (i < j))) H := rfl
theorem r_le : @aR rLeU (.int i) (.int j) H ⟨Q⟩ = Q (.bl (decide (i ≤ j))) H := rfl
theorem r_gt : @aR rGtU (.int i) (.int j) H ⟨Q⟩ = Q (.bl (decide (j < i))) H := rfl
theorem r_ge : @aR rGeU (.int i) (.int j) H ⟨Q⟩ = Q (.bl (decide (j ≤ i))) H := rfl
theorem r_eq : @aR rEqS x y H ⟨Q⟩ = @Cd (scal x y = true) ⟨Q (.bl (decide (x = y))) H⟩ := rfl
theorem r_ne : @aR rNeS x y H ⟨Q⟩ = @Cd (scal x y = true) ⟨Q (.bl (!decide (x = y))) H⟩ := rfl
theorem r_isN : @aR rIsNU x .non H ⟨Q⟩ = Q (.bl (decide (x = .non))) H := propext ⟨fun h => h.2, fun h => ⟨rfl, h⟩⟩
theorem r_notN : @aR rNotNU x .non H ⟨Q⟩ = Q (.bl (!decide (x = .non))) H := propext ⟨fun h => h.2, fun h => ⟨rfl, h⟩⟩
theorem r_inS {c : Nat} {z : Str} : @aR (rInU false) (.str ⟨#[c]⟩) (.str z) H ⟨Q⟩ = Q (.bl (decide (c ∈ z.cps.toList))) H := propext ⟨fun ⟨d, e, q⟩ => by cases e; simpa using q, fun q => ⟨c, rfl, by simpa using q⟩⟩
theorem r_ninS {c : Nat} {z : Str} : @aR (rInU true) (.str ⟨#[c]⟩) (.str z) H ⟨Q⟩ = Q (.bl (!decide (c ∈ z.cps.toList))) H := propext ⟨fun ⟨d, e, q⟩ => by cases e; simpa using q, fun q => ⟨c, rfl, by simpa using q⟩⟩
def seqO : Option HO → Option (List V)
  | some (.lst xs) => some xs
  | some (.tup xs) => some xs
  | some (.frz _ (.lst xs)) => some xs
  | some (.frz _ (.tup xs)) => some xs
  | _ => none
theorem seqO_eq : seqAt H p = seqO (H p) := rfl
theorem seqO_lst {xs : List V} : seqO (some (.lst xs)) = some xs := rfl
theorem seqO_tup {xs : List V} : seqO (some (.tup xs)) = some xs := rfl
theorem r_in : @aR (rInU false) x (.ref p) H ⟨Q⟩ = @OK _ (seqAt H p) ⟨fun xs => @Cd (flatV x = true ∧ xs.all flatV = true) ⟨Q (.bl (inV x xs)) H⟩⟩ := by
  show (match seqAt H p with
    | some xs => flatV x = true ∧ xs.all flatV = true ∧ Q (.bl (xor false (inV x xs))) H
    | none => False) = _
  generalize seqAt H p = a
  rcases a with _ | a
  · rfl
  · exact propext ⟨fun h => ⟨⟨h.1, h.2.1⟩, by simpa using h.2.2⟩, fun h => ⟨h.1.1, h.1.2, by simpa using h.2⟩⟩
theorem r_nin : @aR (rInU true) x (.ref p) H ⟨Q⟩ = @OK _ (seqAt H p) ⟨fun xs => @Cd (flatV x = true ∧ xs.all flatV = true) ⟨Q (.bl (!inV x xs)) H⟩⟩ := by
  show (match seqAt H p with
    | some xs => flatV x = true ∧ xs.all flatV = true ∧ Q (.bl (xor true (inV x xs))) H
    | none => False) = _
  generalize seqAt H p = a
  rcases a with _ | a
  · rfl
  · exact propext ⟨fun h => ⟨⟨h.1, h.2.1⟩, by simpa using h.2.2⟩, fun h => ⟨h.1.1, h.1.2, by simpa using h.2⟩⟩
theorem r_inG {xs : List V} : @aR (rInG p xs false) x (.ref p) H ⟨Q⟩ = @Cd (flatV x = true) ⟨Q (.bl (inV x xs)) H⟩ := propext ⟨fun h => ⟨h.2.1, by simpa using h.2.2⟩, fun h => ⟨rfl, h.1, by simpa using h.2⟩⟩
theorem r_ninG {xs : List V} : @aR (rInG p xs true) x (.ref p) H ⟨Q⟩ = @Cd (flatV x = true) ⟨Q (.bl (!inV x xs)) H⟩ := propext ⟨fun h => ⟨h.2.1, by simpa using h.2.2⟩, fun h => ⟨rfl, h.1, by simpa using h.2⟩⟩
theorem r_ixS {z : Str} : @aR rIxU (.str z) (.int i) H ⟨Q⟩ = @Cd (z.length ≤ sizeLine) ⟨@OK _ (atI z.cps.toList i) ⟨fun c => Q (.str ⟨#[c]⟩) H⟩⟩ := by
  show (z.length ≤ sizeLine ∧ ∃ c, atI z.cps.toList i = some c ∧ Q (.str ⟨#[c]⟩) H) = _
  unfold Cd
  congr 1
  generalize atI z.cps.toList i = a
  rcases a with _ | a
  · exact propext ⟨fun ⟨_, e, _⟩ => (nomatch e), fun h => False.elim h⟩
  · exact propext ⟨fun ⟨_, e, q⟩ => by cases e; exact q, fun h => ⟨_, rfl, h⟩⟩
theorem r_ix : @aR rIxU (.ref p) (.int i) H ⟨Q⟩ = @OK _ (seqAt H p) ⟨fun xs => @OK _ (atI xs i) ⟨fun v => Q v H⟩⟩ := by
  show (match seqAt H p with
    | some xs => ∃ v, atI xs i = some v ∧ Q v H
    | none => False) = _
  generalize seqAt H p = a
  rcases a with _ | a
  · rfl
  · show (∃ v, atI a i = some v ∧ Q v H) = @OK _ (atI a i) ⟨fun v => Q v H⟩
    generalize atI a i = b
    rcases b with _ | b
    · exact propext ⟨fun ⟨_, e, _⟩ => (nomatch e), fun h => False.elim h⟩
    · exact propext ⟨fun ⟨_, e, q⟩ => by cases e; exact q, fun h => ⟨_, rfl, h⟩⟩
theorem r_set {R : Hp → Prop} : @aG rSetU (.ref p) (.int i) v H ⟨R⟩ = @OK _ (lstO (H p)) ⟨fun xs => @OK _ (ixN xs.length i) ⟨fun j => @Md H p (.lst (xs.set j v)) ⟨R⟩⟩⟩ := by
  show (match H p with
    | some (.lst xs) => ∃ j, ixN xs.length i = some j ∧ R (upd H p (.lst (xs.set j v)))
    | _ => False) = _
  generalize H p = a
  rcases a with _ | a
  · rfl
  · cases a <;> try rfl
    rename_i xs
    show (∃ j, ixN xs.length i = some j ∧ R (upd H p (.lst (xs.set j v)))) = @OK _ (ixN xs.length i) ⟨fun j => @Md H p (.lst (xs.set j v)) ⟨R⟩⟩
    generalize ixN xs.length i = b
    rcases b with _ | b
    · exact propext ⟨fun ⟨_, e, _⟩ => (nomatch e), fun h => False.elim h⟩
    · exact propext ⟨fun ⟨_, e, q⟩ => by cases e; exact Eq.mp Md_eq q, fun h => ⟨_, rfl, Eq.mpr Md_eq h⟩⟩
theorem r_slS {z : Str} {lo hi : Option Int} : @aS rSlU (.str z) lo hi H ⟨Q⟩ = @Cd (z.length ≤ sizeLine) ⟨Q (.str (cutS z lo hi)) H⟩ := rfl
def AlS (H : Hp) (p : Addr) (o : Option HO) (lo hi : Option Int) [Q : Kp VK] : Prop := match o with
  | some (.lst xs) => @Al H (.lst (cutV xs lo hi)) Q
  | some (.tup xs) => (wholeT xs.length lo hi → Q.val (.ref p) H) ∧ (¬ wholeT xs.length lo hi → @Al H (.tup (cutV xs lo hi)) Q)
  | _ => False
theorem AlS_lst {xs : List V} {lo hi : Option Int} : @AlS H p (some (.lst xs)) lo hi ⟨Q⟩ = @Al H (.lst (cutV xs lo hi)) ⟨Q⟩ := rfl
theorem AlS_tup {xs : List V} {lo hi : Option Int} : @AlS H p (some (.tup xs)) lo hi ⟨Q⟩ = @Br (wholeT xs.length lo hi) ⟨Q (.ref p) H⟩ ⟨@Al H (.tup (cutV xs lo hi)) ⟨Q⟩⟩ := rfl
theorem r_slR {lo hi : Option Int} : @aS rSlU (.ref p) lo hi H ⟨Q⟩ = @AlS H p (H p) lo hi ⟨Q⟩ := by unfold aS; rw [rSl_eq]; rfl
theorem cutV_mem {xs : List V} {lo hi : Option Int} {x : V} (h : x ∈ cutV xs lo hi) : x ∈ xs := List.mem_of_mem_drop (List.mem_of_mem_take h)
def lenO : Option HO → Option Nat
  | some (.lst xs) => some xs.length
  | some (.tup xs) => some xs.length
  | some (.frz _ (.lst xs)) => some xs.length
  | some (.frz _ (.tup xs)) => some xs.length
  | some (.dK kvs) => some kvs.length
  | _ => none
theorem lenO_lst {xs : List V} : lenO (some (.lst xs)) = some xs.length := rfl
theorem lenO_tup {xs : List V} : lenO (some (.tup xs)) = some xs.length := rfl
theorem lenO_dK {xs : List (Key × V)} : lenO (some (.dK xs)) = some xs.length := rfl
theorem r_lenS {z : Str} : @aC rLenU [.str z] H ⟨Q⟩ = @Cd (z.length ≤ sizeLine) ⟨Q (.int z.length) H⟩ := rfl
theorem r_lenR : @aC rLenU [.ref p] H ⟨Q⟩ = @OK _ (lenO (H p)) ⟨fun n => Q (.int n) H⟩ := by
  show (match seqAt H p with
    | some ys => Q (.int ys.length) H
    | none => match H p with
      | some (.dK kvs) => Q (.int kvs.length) H
      | _ => False) = _
  unfold seqAt
  generalize H p = a
  rcases a with _ | a
  · rfl
  · cases a <;> try rfl
    rename_i o a
    cases a <;> rfl
theorem r_listU : @aC rListU [.ref p] H ⟨Q⟩ = @OK _ (seqAt H p) ⟨fun ys => @Al H (.lst ys) ⟨Q⟩⟩ := by
  unfold aC
  rw [rList_eq]
  show (match seqAt H p with
    | some ys => ∀ l H', New H l (.lst ys) H' → Q (.ref l) H'
    | none => False) = _
  generalize seqAt H p = a
  rcases a with _ | a <;> rfl
def AlC (H : Hp) (p : Addr) (o : Option HO) [Q : Kp VK] : Prop := match o with
  | some (.lst ys) => @Al H (.tup ys) Q
  | some (.tup ys) => Q.val (.ref p) H
  | _ => False
theorem AlC_lst {ys : List V} : @AlC H p (some (.lst ys)) ⟨Q⟩ = @Al H (.tup ys) ⟨Q⟩ := rfl
theorem AlC_tup {ys : List V} : @AlC H p (some (.tup ys)) ⟨Q⟩ = Q (.ref p) H := rfl
theorem r_tupleU : @aC rTupleU [.ref p] H ⟨Q⟩ = @AlC H p (H p) ⟨Q⟩ := by unfold aC; rw [rTuple_eq]; rfl
theorem r_int : @aC rIntCall [.int i] H ⟨Q⟩ = Q (.int i) H := rfl
theorem r_intB {b : Bool} : @aC rIntCall [.bl b] H ⟨Q⟩ = Q (.int (if b then 1 else 0)) H := rfl
def tyO : Option HO → Option Ty
  | some (.lst _) => some .lst
  | some (.tup _) => some .tup
  | some (.dK _) => some .dict
  | some (.dT _) => some .dict
  | _ => none
theorem e_tyR : tyV H (.ref p) = tyO (H p) := by
  show (match H p with
    | some (.lst _) => some Ty.lst
    | some (.tup _) => some .tup
    | some (.dK _) => some .dict
    | some (.dT _) => some .dict
    | _ => none) = _
  generalize H p = a
  rcases a with _ | a
  · rfl
  · cases a <;> rfl
theorem tyO_t : (∀ xs, tyO (some (.lst xs)) = some .lst) ∧ (∀ xs, tyO (some (.tup xs)) = some .tup) ∧ (∀ xs, tyO (some (.dK xs)) = some .dict) ∧ (∀ xs, tyO (some (.dT xs)) = some .dict) := ⟨fun _ => rfl, fun _ => rfl, fun _ => rfl, fun _ => rfl⟩
theorem e_ty : tyV H .non = some .non ∧ (∀ b, tyV H (.bl b) = some .bl) ∧ (∀ i, tyV H (.int i) = some .int) ∧ (∀ z, tyV H (.str z) = some .str) := ⟨rfl, fun _ => rfl, fun _ => rfl, fun _ => rfl⟩
theorem r_isi {c : Ty} {s : String} : @aC (rIsi c) [x, .ty s] H ⟨Q⟩ = @Cd (s = c.name) ⟨@OK _ (tyV H x) ⟨fun t => Q (.bl (t.isa c)) H⟩⟩ := by
  have k : ∀ o : Option Ty, (match o with | some t => Q (.bl (t.isa c)) H | none => False) = @OK _ o ⟨fun t => Q (.bl (t.isa c)) H⟩ := fun o => by cases o <;> rfl
  unfold aC rIsi Cd
  rw [← k]
  exact propext ⟨fun ⟨x', e, h⟩ => by cases e; exact ⟨rfl, h⟩, fun ⟨e, h⟩ => by subst e; exact ⟨x, rfl, h⟩⟩
theorem e_tyn : Ty.name .non = "NoneType" ∧ Ty.name .bl = "bool" ∧ Ty.name .int = "int" ∧ Ty.name .str = "str" ∧ Ty.name .lst = "list" ∧ Ty.name .tup = "tuple" ∧ Ty.name .dict = "dict" := ⟨rfl, rfl, rfl, rfl, rfl, rfl, rfl⟩
theorem r_tru : uTru te σ H R = te σ H fun x H1 => @aT x H1 ⟨R⟩ := rfl
def truO : Option HO → Option Bool
  | some (.lst xs) => some (!xs.isEmpty)
  | some (.tup xs) => some (!xs.isEmpty)
  | some (.frz _ (.lst xs)) => some (!xs.isEmpty)
  | some (.frz _ (.tup xs)) => some (!xs.isEmpty)
  | some (.dK kvs) => some (!kvs.isEmpty)
  | _ => none
theorem truO_lst {xs : List V} : truO (some (.lst xs)) = some (!xs.isEmpty) := rfl
theorem truO_tup {xs : List V} : truO (some (.tup xs)) = some (!xs.isEmpty) := rfl
theorem truO_dK {xs : List (Key × V)} : truO (some (.dK xs)) = some (!xs.isEmpty) := rfl
theorem r_truN : @aT .non H ⟨R⟩ = R false H := rfl
theorem r_truB {b : Bool} : @aT (.bl b) H ⟨R⟩ = R b H := rfl
theorem r_truI : @aT (.int i) H ⟨R⟩ = R (!decide (i = 0)) H := by
  show R (i != 0) H = _
  congr 1
theorem r_truS {z : Str} : @aT (.str z) H ⟨R⟩ = @Cd (z.length ≤ sizeLine) ⟨R (!decide (z.length = 0)) H⟩ := by
  show (z.length ≤ sizeLine ∧ R ((z.length : Int) != 0) H) = _
  unfold Cd
  congr 2
  by_cases h : z.length = 0
  · rw [h]; rfl
  · rw [decide_eq_false h]
    exact bne_iff_ne.mpr (by omega)
theorem r_truR : @aT (.ref p) H ⟨R⟩ = @OK _ (truO (H p)) ⟨fun b => R b H⟩ := by
  show (match seqAt H p with
    | some xs => R (!xs.isEmpty) H
    | none => match H p with
      | some (.dK kvs) => R (!kvs.isEmpty) H
      | _ => False) = _
  unfold seqAt
  generalize H p = a
  rcases a with _ | a
  · rfl
  · cases a <;> try rfl
    rename_i o a
    cases a <;> rfl
def aL (H : Hp) (x : V) [P : Kp Prop] : Prop := match x with
  | .ref p => @OK _ (lstO (H p)) ⟨fun _ => P.val⟩
  | _ => False
theorem aL_ref {P : Prop} : @aL H (.ref p) ⟨P⟩ = @OK _ (lstO (H p)) ⟨fun _ => P⟩ := rfl
def rApp : V → List V → Hp → VK → Prop := fun x vs H Q => match x, vs with
  | .ref l, [y] => @OK _ (lstO (H l)) ⟨fun xs => @Cd (xs.length < sizeLine) ⟨@Md H l (.lst (xs ++ [y])) ⟨fun H' => Q .non H'⟩⟩⟩
  | _, _ => False
def aM (r : V → List V → Hp → VK → Prop) (x : V) (vs : List V) (H : Hp) [Q : Kp VK] : Prop := r x vs H Q.val
theorem k1_eq {R : Int → Prop} : (∃ j : Int, vs = [.int j] ∧ R j) = @a1 vs ⟨R⟩ := by
  unfold a1
  split
  · rename_i i; exact propext ⟨fun ⟨_, e, q⟩ => by cases e; exact q, fun q => ⟨i, rfl, q⟩⟩
  · rename_i h; exact propext ⟨fun ⟨j, e, _⟩ => h j e, fun q => q.elim⟩
theorem k2_eq {R : Int → Int → Prop} : (∃ i j : Int, vs = [.int i, .int j] ∧ R i j) = @a2 vs ⟨R⟩ := by
  unfold a2
  split
  · rename_i i j; exact propext ⟨fun ⟨_, _, e, q⟩ => by cases e; exact q, fun q => ⟨i, j, rfl, q⟩⟩
  · rename_i h; exact propext ⟨fun ⟨i, j, e, _⟩ => h i j e, fun q => q.elim⟩
theorem r_for1 {g : TG} {tb : TS} : tFor (iRng1 ts) g tb D σ H = ts σ H fun vs H1 => @a1 vs ⟨fun j => @Cd (-4611686018427387904 ≤ j ∧ j < 4611686018427387904) ⟨@LoopJ (Itr 0 j.toNat) σ H1 ⟨g⟩ ⟨tb⟩ ⟨D⟩⟩⟩ := by
  rw [for_R1]
  congr 1
  funext vs H1
  rw [← k1_eq]
  exact propext ⟨fun ⟨j, e, a, b, c⟩ => ⟨j, e, ⟨a, b⟩, c⟩, fun ⟨j, e, ⟨a, b⟩, c⟩ => ⟨j, e, a, b, c⟩⟩
theorem r_for2 {g : TG} {tb : TS} : tFor (iRng2 ts) g tb D σ H = ts σ H fun vs H1 => @a2 vs ⟨fun i j => @Cd (rngOk i j) ⟨@LoopJ (Itr i (j - i).toNat) σ H1 ⟨g⟩ ⟨tb⟩ ⟨D⟩⟩⟩ := by
  rw [for_R2]
  congr 1
  funext vs H1
  rw [← k2_eq]
  exact propext ⟨fun ⟨i, j, e, a, b⟩ => ⟨i, j, e, a, b⟩, fun ⟨i, j, e, a, b⟩ => ⟨i, j, e, a, b⟩⟩
theorem r_for {g : TG} {tb : TS} : tFor (iU K te) g tb D σ H = te σ H fun x H1 => @LoopU K x σ H1 ⟨g⟩ ⟨tb⟩ ⟨D⟩ := rfl
theorem r_lc {g : TG} {tt : TT} {tel : TE} {us : List Nat} : tLc (iU K te) g tt tel us σ H Q = te σ H fun x H1 => @CompU K x us σ H1 ⟨g⟩ ⟨tt⟩ ⟨tel⟩ ⟨Q⟩ := rfl
theorem r_lc1 {g : TG} {tt : TT} {tel : TE} {us : List Nat} : tLc (iRng1 ts) g tt tel us σ H Q = ts σ H fun vs H1 => @a1 vs ⟨fun j => @Cd (-4611686018427387904 ≤ j ∧ j < 4611686018427387904) ⟨@CompJ (Itr 0 j.toNat) us σ H1 ⟨g⟩ ⟨tt⟩ ⟨tel⟩ ⟨Q⟩⟩⟩ := by
  rw [lc_R1]
  congr 1
  funext vs H1
  rw [← k1_eq]
  exact propext ⟨fun ⟨j, e, a, b, c⟩ => ⟨j, e, ⟨a, b⟩, c⟩, fun ⟨j, e, ⟨a, b⟩, c⟩ => ⟨j, e, a, b, c⟩⟩
theorem r_lc2 {g : TG} {tt : TT} {tel : TE} {us : List Nat} : tLc (iRng2 ts) g tt tel us σ H Q = ts σ H fun vs H1 => @a2 vs ⟨fun i j => @Cd (rngOk i j) ⟨@CompJ (Itr i (j - i).toNat) us σ H1 ⟨g⟩ ⟨tt⟩ ⟨tel⟩ ⟨Q⟩⟩⟩ := by
  rw [lc_R2]
  congr 1
  funext vs H1
  rw [← k2_eq]
  exact propext ⟨fun ⟨i, j, e, a, b⟩ => ⟨i, j, e, a, b⟩, fun ⟨i, j, e, a, b⟩ => ⟨i, j, e, a, b⟩⟩
end
theorem eqV_t : (∀ a b : Int, eqV (.int a) (.int b) = decide (b = a)) ∧ (∀ a b : Str, eqV (.str a) (.str b) = decide (b = a)) := by
  refine ⟨fun a b => ?_, fun a b => ?_⟩
  · show (a == b) = _
    by_cases h : b = a
    · subst h; rw [decide_eq_true rfl]; exact beq_self_eq_true _
    · rw [decide_eq_false h]; exact beq_eq_false_iff_ne.mpr fun e => h e.symm
  · show (a == b) = _
    by_cases h : b = a
    · subst h; rw [decide_eq_true rfl]; exact beq_self_eq_true _
    · rw [decide_eq_false h]; exact beq_eq_false_iff_ne.mpr fun e => h e.symm
theorem inV_cons {x y : V} {xs : List V} : inV x (y :: xs) = (eqV y x || inV x xs) := rfl
theorem inV_nil {x : V} : inV x [] = false := rfl
theorem szl : sizeLine = 16777216 := rfl
theorem cmul_l {i j : Int} : CMul i j = ((-18446744073709551616 < i ∧ i < 18446744073709551616) ∨ (-18446744073709551616 < j ∧ j < 18446744073709551616)) := rfl
theorem cpow_l {i j : Int} : CPow i j = (0 ≤ j ∧ j ≤ 1000000 ∧ i.natAbs < 18446744073709551616) := rfl
end U
end

section
namespace U
open PySem PySem.Spec PyProof.Rows L2
section
variable {X : Cx} {C : Addr} {bmB : List Value} {B newId initId : String} {x : Str} {p pos : Pos}
theorem pmk_own0 (F : ExcBaseFacts B newId initId bmB) (q : PySem.W.excIn X.K C bmB newId = true) (gC : X.mg x = some (.ref C)) (kC : PySem.W.keepIn X.K (.ref C) = true) (r : Raises X (.ref C)) (hg : Gl X x := by rfl) (hdb : (x == ("__debug__" : Str)) = false := by decide) :
    PMk X (.Call (.Name x p) [] [] pos) (fun _ H Q => Q (.ref C) none H) := by
  intro pins s σ H Q J h
  refine wpAny_Call_Name_kw (ld_glob J hg gC ?_ hdb)
  refine PySem.W.callWith_K0 J.kIn kC ?_
  show wpAny _ _ (call (.ref C) []) _ _ _
  obtain ⟨o1, o2, o3, o4, o5, o6, o7, o8, o9, o10, o11, o12, o13, o14, o15, o16, o17, hC, hN, hni, T⟩ := exc_obj J.kIn q
  exact wpAny_call_exc_subT F T hC hN hni (fun h' b made => mk_of J made r h (J.hok.gone made.new)) (Nat.zero_le _)
end
structure ErrC (K : PySem.W.Frag) (C : Addr) : Prop where
  q : PySem.W.excIn K C He.veBase "ValueError.__new__" = true
  k : PySem.W.keepIn K (.ref C) = true
  s : PySem.W.subIn K (.ref C) (.type "BaseException") = some true
  t : PySem.W.typeIn K (.ref C) = some (.type "type")
def uRaise0 (W : WX) (C : Addr) : TS := fun _ σ H => W (.ref C) none σ H
theorem ps_raise0 {X : Cx} {W : WX} {x : Str} {C : Addr} {p pos pos2 : Pos} (T : ErrC X.K C) (gC : X.mg x = some (.ref C)) (tk : Takes X W) (hc : X.calm = true := by rfl) (hg : Gl X x := by rfl) (hdb : (x == ("__debug__" : Str)) = false := by decide) :
    PS X (.Raise (some (.Call (.Name x p) [] [] pos)) none pos2) (uRaise0 W C) :=
  ps_raise hc tk (pmk_own0 PySem.F.excBase_ValueError T.q gC T.k (raises_own T.s T.t) hg hdb)

def uCallX (sp : Sp) (W : WX) (t : TA) : TE := fun σ H Q => t σ H fun vs H1 => sp vs H1 Q (WE W σ)
structure CalX (P : Program) (w : World) (K : PySem.W.Frag) (mg : Str → Option Value) (base : Heap) (k : Nat) (x : Str) (sp : Sp) : Prop where
  ex : ∃ f : Addr, mg x = some (.ref f) ∧ PySem.W.keepIn K (.ref f) = true ∧ ∀ {X : Cx} {pins : List (Addr × Obj)} {σ : L2.St} {H : Hp} {s : Shared} {us : List Value} {vs : List V} {Q : VK} {E : XK},
    X.prog = P → X.w = w → X.K = K → X.mg = mg → X.base = base → Room k X.A → PassesAt (L2.CX P w) X σ E → Inv X pins σ H s → Vals vs us → sp vs H Q E → wpAny (model X.prog X.w) X.A (call (.ref f) us) (EP X pins σ Q) X.xe s
section
variable {P : Program} {w : World} {K : PySem.W.Frag} {mg : Str → Option Value} {base : Heap} {k : Nat} {x : Str} {f C : Addr} {fd : FuncData} {ps : List Str} {sp spI : Sp}
theorem CalX.mono {k' : Nat} (c : CalX P w K mg base k x sp) (h : k ≤ k') : CalX P w K mg base k' x sp := by
  obtain ⟨f, a, b, r⟩ := c.ex
  exact ⟨f, a, b, fun e1 e2 e3 e4 e5 hr => r e1 e2 e3 e4 e5 (hr.mono h)⟩
theorem CalX.def_ (F : FnOk P w K mg base (L2.CX P w) k f fd ps sp) (hm : mg x = some (.ref f)) (hk : PySem.W.keepIn K (.ref f) = true) (hb : Binds K fd ps []) : CalX P w K mg base k x sp :=
  ⟨f, hm, hk, fun {X pins σ H s us vs Q E} e1 e2 e3 e4 e5 hr hx I r h => by
    subst e1 e2 e3 e4 e5
    exact run_fnS (E := fun _ => E) F hr hb hx I r h⟩
theorem CalX.make (M : Mk K C f) (F : FnOk P w K mg base (L2.CX P w) k f fd ps spI) (hm : mg x = some (.ref C)) (hb : Binds K fd ps [])
    (hI : ∀ vs H Q E, sp vs H Q E → ∀ o dx, H o = none → H dx = none → dx ≠ o → spI (.ref o :: vs) (upd (upd H dx (.own o)) o (.ins C dx [])) (fun v H2 => v = .non ∧ Q (.ref o) H2) E) : CalX P w K mg base (k + 1) x sp :=
  ⟨C, hm, M.kp, fun {X pins σ H s us vs Q E} e1 e2 e3 e4 e5 hr hx I r h => by
    subst e1 e2 e3 e4 e5
    have here := hI _ _ _ _ h (s.heap.objs.size + 1) s.heap.objs.size (I.hok.fresh (Nat.le_succ _)) (I.hok.fresh (Nat.le_refl _)) (Nat.ne_of_lt (Nat.lt_succ_self _))
    have J := Inv.made (C := C) I
    have rr : Vals (V.ref (s.heap.objs.size + 1) :: vs) (Value.ref (s.heap.objs.size + 1) :: us) := .cons rfl r
    have ll : (Value.ref (s.heap.objs.size + 1) :: us ++ []).length = ps.length := by
      rw [List.append_nil, ← F.len _ _ _ _ here]
      exact rr.length.symm
    have bb := hb _ (Value.ref (s.heap.objs.size + 1) :: us) J.kIn ll
    rw [List.append_nil] at bb
    refine wpAny_call (make_map (f := f) I.kIn M.makes M.init (beq_iff_eq.mp M.fn) (codeAny_mono (F.run _ X.stack _ _ ⟨Value.ref (s.heap.objs.size + 1) :: us, []⟩ (Value.ref (s.heap.objs.size + 1) :: us) _ _ E (hr.make C us [])
      (J.env0.make C us []) bb rr here) fun res s' got => ?_))
    cases res with
    | error e => exact hx pins _ _ e s' J got
    | ok fl =>
      cases fl with
      | ret u =>
        obtain ⟨v, H9, J9, rv, ev, q9⟩ := J.after got
        subst ev
        exact ⟨rv, ⟨V.ref (s.heap.objs.size + 1), H9, J9, rfl, q9⟩⟩
      | next => exact False.elim got
      | brk => exact False.elim got
      | cont => exact False.elim got⟩
end
section
variable {X : Cx} {k : Nat} {x : Str} {sp : Sp} {W : WX} {p pos : Pos} {e : Expr} {es : List Expr} {ta : TA}
theorem pe_calX (c : CalX X.prog X.w X.K X.mg X.base k x sp) (hr : Room k X.A) (tk : Takes X W) (ha : PA X (e :: es) ta) (hg : Gl X x := by rfl) (hdb : (x == ("__debug__" : Str)) = false := by decide)
    (he : starEach (e :: es) X.env = (false, eval e X.env) :: starEach es X.env := by rfl) (hpl : (backTo pos (starEach es X.env)).any (·.1) = false := by rfl) : PE X (.Call (.Name x p) (e :: es) [] pos) (uCallX sp W ta) := by
  obtain ⟨f, hm, hk, run⟩ := c.ex
  refine ⟨fun pins s σ H Q J h => wpAny_Call_Name_kw (ld_glob J hg hm ?_ hdb)⟩
  exact PySem.W.callWith_K (h₀ := X.base) J.ok.mod.kin hk (thn (ha.run pos pins s σ H _ J h) fun us s1 ⟨vs, H1, J1, r, q⟩ => ⟨J1.kIn, run rfl rfl rfl rfl rfl hr (passAt tk σ) J1 r q⟩) he hpl
theorem pe_calX0 (c : CalX X.prog X.w X.K X.mg X.base k x sp) (hr : Room k X.A) (tk : Takes X W) (hg : Gl X x := by rfl) (hdb : (x == ("__debug__" : Str)) = false := by decide) : PE X (.Call (.Name x p) [] [] pos) (uCallX sp W tNil) := by
  obtain ⟨f, hm, hk, run⟩ := c.ex
  refine ⟨fun pins s σ H Q J h => wpAny_Call_Name_kw (ld_glob J hg hm ?_ hdb)⟩
  exact PySem.W.callWith_K0 J.kIn hk (run rfl rfl rfl rfl rfl hr (passAt tk σ) J .nil h)
theorem pe_cal0 {ps : List Str} {dvs : List V} (c : Callee X.prog X.w X.K X.mg X.base CX0 k x ps dvs sp) (hr : Room k X.A) (hg : Gl X x := by rfl) (hd : (x == ("__debug__" : Str)) = false := by decide) : PE X (.Call (.Name x p) [] [] pos) (uCall sp dvs E0 tNil) := by
  obtain ⟨f, fd, ds, hm, F, kp, b, v⟩ := c.ex
  exact pe_call0 F hr hg hm kp b v pass0 hd
end

structure SMet (K : PySem.W.Frag) (C : Addr) (m : Str) (p g : Addr) : Prop where
  rd : ClX.CRead K C (.type "type")
  at_ : PySem.W.findCls K (.ref C) (.type "type") m = some (.get (.builtin "staticmethod.__get__") (.ref p) .none (.ref C))
  rc : ∃ rest, PySem.W.recIn K p "staticmethod" = some (.ref g :: rest)
  kp : PySem.W.keepIn K (.ref g) = true
section
variable {X : Cx} {k : Nat} {c m : Str} {C g : Addr} {sp : Sp} {W : WX} {p apos pos : Pos} {e : Expr} {es : List Expr} {ta : TA} {fd : FuncData} {ps : List Str} {pl : Sem Bool}
theorem getmethsm {pins : List (Addr × Obj)} {σ : L2.St} {H : Hp} {s : Shared} {q : Addr} {A : Around} {E : Value → Shared → Prop} {Q : Value × List Value → Shared → Prop} (J : Inv X pins σ H s) (S : SMet X.K C m q g) (h : ∀ s', Inv X pins σ H s' → Q (.ref g, []) s') :
    wpAny (model X.prog X.w) A (getMethod (.ref C) m pl) Q E s := by
  obtain ⟨rest, hp⟩ := S.rc
  refine PySem.W.method_cls J.kIn S.rd.ga (PySem.W.cls_bind J.kIn S.rd.rd S.at_ ?_)
  exact wpAny_call (PySem.W.sm_get (s := { s with toks := s.toks + 1 }) J.kIn hp (PySem.W.handed_on rfl (h _ (J.tok _))))
theorem pe_smeth0 (S : ∃ q, SMet X.K C m q g) (gC : X.mg c = some (.ref C)) (F : FnOk X.prog X.w X.K X.mg X.base CX0 k g fd ps sp) (hr : Room k X.A) (hb : Binds X.K fd ps []) (hg : Gl X c := by rfl) (hd : (c == ("__debug__" : Str)) = false := by decide)
    (ht : eval (.Call (.Attribute (.Name c p) m apos) [] [] pos) X.env = (do
      let ov ← eval (.Name c p) X.env
      standAt apos.atName
      let (f, first) ← holding [ov] (getMethod ov m pl)
      callWith pos f first (backTo pos (starEach [] X.env)) (backToKw pos (keywordEach [] X.env))) := by rfl) : PE X (.Call (.Attribute (.Name c p) m apos) [] [] pos) (uCall sp [] E0 tNil) := by
  obtain ⟨q, S⟩ := S
  refine ⟨fun pins s σ H Q J h => PySem.W.methodCall_KW (pl := pl) (ld_glob J hg gC ?_ hd) ht⟩
  refine getmethsm J S fun s2 J2 => ?_
  exact PySem.W.callWith_K0 (first := []) J2.kIn S.kp (run_fn (us := []) F hr hb .nil pass0 J2 .nil h)
theorem pe_smeth (S : ∃ q, SMet X.K C m q g) (gC : X.mg c = some (.ref C)) (F : FnOk X.prog X.w X.K X.mg X.base CX0 k g fd ps sp) (hr : Room k X.A) (hb : Binds X.K fd ps []) (ha : PA X (e :: es) ta) (hg : Gl X c := by rfl) (hd : (c == ("__debug__" : Str)) = false := by decide)
    (he : starEach (e :: es) X.env = (false, eval e X.env) :: starEach es X.env := by rfl) (hpl : (backTo pos (starEach es X.env)).any (·.1) = false := by rfl)
    (ht : eval (.Call (.Attribute (.Name c p) m apos) (e :: es) [] pos) X.env = (do
      let ov ← eval (.Name c p) X.env
      standAt apos.atName
      let (f, first) ← holding [ov] (getMethod ov m pl)
      callWith pos f first (backTo pos (starEach (e :: es) X.env)) (backToKw pos (keywordEach [] X.env))) := by rfl) : PE X (.Call (.Attribute (.Name c p) m apos) (e :: es) [] pos) (uCall sp [] E0 ta) := by
  obtain ⟨q, S⟩ := S
  refine ⟨fun pins s σ H Q J h => PySem.W.methodCall_KW (pl := pl) (ld_glob J hg gC ?_ hd) ht⟩
  refine getmethsm J S fun s2 J2 => ?_
  exact PySem.W.callWith_K (h₀ := X.base) (first := []) J2.ok.mod.kin S.kp (thn (ha.run pos pins s2 σ H _ J2 h) fun us s1 ⟨vs, H1, J1, r, q⟩ => ⟨J1.kIn, run_fn F hr hb .nil pass0 J1 r q⟩) he hpl
end

def insO (C : Addr) : Option HO → Option (List (Str × V))
  | some (.ins D _ fs) => if D = C then some fs else none
  | _ => none
theorem insO_ins {C dx : Addr} {fs : List (Str × V)} : insO C (some (.ins C dx fs)) = some fs := by
  show (if C = C then some fs else none) = _
  rw [if_pos rfl]
theorem insO_at {C : Addr} {o : Option HO} {fs : List (Str × V)} (h : insO C o = some fs) : ∃ dx, o = some (.ins C dx fs) := by
  unfold insO at h
  split at h
  · rename_i D dx gs
    by_cases e : D = C
    · rw [if_pos e] at h
      cases h
      exact ⟨dx, by rw [e]⟩
    · rw [if_neg e] at h
      cases h
  · cases h
def rFld (C : Addr) (f : Str) : V → Hp → VK → Prop := fun x H Q => match x with
  | .ref a => @OK _ (insO C (H a)) ⟨fun fs => @OK _ (fs.lookup f) ⟨fun v => Q v H⟩⟩
  | _ => False
theorem r_fld {C a : Addr} {f : Str} {H : Hp} {Q : VK} : @aU (rFld C f) (.ref a) H ⟨Q⟩ = @OK _ (insO C (H a)) ⟨fun fs => @OK _ (fs.lookup f) ⟨fun v => Q v H⟩⟩ := rfl
theorem OK.out {α : Type} {o : Option α} {k : α → Prop} (h : @OK α o ⟨k⟩) : ∃ x, o = some x ∧ k x := by
  cases o with
  | none => exact False.elim h
  | some x => exact ⟨x, rfl, h⟩
def uSetF (C : Addr) (f : Str) (ta tv : TE) : TS := fun D σ H => tv σ H fun y H1 => ta σ H1 fun x H2 => match x with
  | .ref a => (match H2 a with
    | some (.ins E dx fs) => E = C ∧ fs.length < 1000 ∧ D.nx σ (upd H2 a (.ins C dx (putF f y fs)))
    | _ => False)
  | _ => False
def insD (C : Addr) : Option HO → Option (Addr × List (Str × V))
  | some (.ins D dx fs) => if D = C then some (dx, fs) else none
  | _ => none
theorem insD_ins {C dx : Addr} {fs : List (Str × V)} : insD C (some (.ins C dx fs)) = some (dx, fs) := by
  show (if C = C then some (dx, fs) else none) = _
  rw [if_pos rfl]
def aSF (C : Addr) (f : Str) (x y : V) (H : Hp) [R : Kp (Hp → Prop)] : Prop := match x with
  | .ref a => (match H a with
    | some (.ins E dx fs) => E = C ∧ fs.length < 1000 ∧ R.val (upd H a (.ins C dx (putF f y fs)))
    | _ => False)
  | _ => False
theorem r_setF {C : Addr} {f : Str} {ta tv : TE} {D : Ends} {σ : L2.St} {H : Hp} : uSetF C f ta tv D σ H = tv σ H fun y H1 => ta σ H1 fun x H2 => @aSF C f x y H2 ⟨fun H3 => D.nx σ H3⟩ := rfl
theorem aSF_ref {C a : Addr} {f : Str} {y : V} {H : Hp} {R : Hp → Prop} : @aSF C f (.ref a) y H ⟨R⟩ = @OK _ (insD C (H a)) ⟨fun z => @Cd (z.2.length < 1000) ⟨@Md H a (.ins C z.1 (putF f y z.2)) ⟨R⟩⟩⟩ := by
  show (match H a with
    | some (.ins E dx fs) => E = C ∧ fs.length < 1000 ∧ R (upd H a (.ins C dx (putF f y fs)))
    | _ => False) = _
  generalize H a = o
  rcases o with _ | o
  · rfl
  · cases o <;> try rfl
    rename_i E dx fs
    show (E = C ∧ fs.length < 1000 ∧ R (upd H a (.ins C dx (putF f y fs)))) = @OK _ (if E = C then some (dx, fs) else none) ⟨fun z => @Cd (z.2.length < 1000) ⟨@Md H a (.ins C z.1 (putF f y z.2)) ⟨R⟩⟩⟩
    by_cases e : E = C
    · rw [if_pos e]
      subst e
      exact propext ⟨fun h => ⟨h.2.1, Eq.mp Md_eq h.2.2⟩, fun h => ⟨rfl, h.1, Eq.mpr Md_eq h.2⟩⟩
    · rw [if_neg e]
      exact propext ⟨fun h => absurd h.1 e, fun h => False.elim h⟩
section
variable {X : Cx} {C : Addr} {f : Str} {e value : Expr} {ta tv : TE} {pos pos2 : Pos}
theorem pe_uFld (c : Cls X.K C) (n : NoAttr X.K C f) (he : PE X e ta) (hb : attributeBase e f X.env (eval e X.env) = eval e X.env := by rfl) : PE X (.Attribute e f pos) (tUn (rFld C f) ta) := by
  refine ⟨fun pins s σ H Q J h => attr_of hb (thn (he.run pins s σ H _ J h) fun u s1 ⟨x, H1, J1, rx, q⟩ => ?_)⟩
  cases x with
  | ref a =>
    obtain rfl : u = Value.ref a := rx
    obtain ⟨fs, h1, q⟩ := OK.out q
    obtain ⟨dx, ea⟩ := insO_at h1
    obtain ⟨v, h2, q⟩ := OK.out q
    exact getattr_ok J1 ea c n h2 fun u2 s2 J2 r2 => ⟨v, H1, J2, r2, q⟩
  | _ => exact False.elim q
theorem ps_uSetF (c : Cls X.K C) (n : NoAttr X.K C f) (ha : PE X e ta) (hv : PE X value tv) (hs : swapsWith value (some (.Attribute e f pos2)) pos.line X.env = pure false := by rfl) : PS X (.Assign [.Attribute e f pos2] value pos) (uSetF C f ta tv) := by
  have m := ps_fld (f := f) (pos := pos) (pos' := pos2) ha hv hs
  refine ⟨fun pins s σ H D J h => plainObj_wpAny_Assign_Attribute (thn (hv.run pins s σ H _ J h) fun u s1 ⟨y, H1, J1, ry, q⟩ => thn (ha.run pins s1 σ H1 _ J1 q) fun ov s2 ⟨x, H2, J2, rx, q2⟩ => ?_) hs⟩
  cases x with
  | ref a =>
    obtain rfl : ov = Value.ref a := rx
    have q2 : (match H2 a with
      | some (.ins E dx fs) => E = C ∧ fs.length < 1000 ∧ D.nx σ (upd H2 a (.ins C dx (putF f y fs)))
      | _ => False) := q2
    split at q2
    · rename_i E dx fs ea
      obtain ⟨rfl, l, q2⟩ := q2
      exact setattr_ok J2 ea c n l ry fun s3 J3 => ⟨σ, _, J3, q2⟩
    · exact False.elim q2
  | _ => exact False.elim q2
end
structure InsT (K : PySem.W.Frag) (D : Addr) : Prop where
  c : Cls K D
  ha : PySem.W.findIn K (.ref D) "__class__" = some (some (.builtin "object.__class__"))
  hn : PySem.W.specialIn K (.builtin "object.__class__") "__get__" = some (some (.builtin "getset_descriptor.__get__"))
  ht : PySem.W.takesIn K (.builtin "object.__class__") = some true
  hm : PySem.W.mroIn K D (.type "object") = some true
structure IsO (K : PySem.W.Frag) (C : Addr) (M : Addr → Option Bool) : Prop where
  base : ∀ t : Ty, PySem.W.kitOne K (.type t.name) (.ref C) = some false
  own : ∀ D b, M D = some b → InsT K D ∧ PySem.W.kitOne K (.ref D) (.ref C) = some b
def isO (M : Addr → Option Bool) (H : Hp) (x : V) : Option Bool := match x with
  | .ref p => (match H p with
    | some (.ins D _ _) => M D
    | _ => (tyV H x).map fun _ => false)
  | _ => (tyV H x).map fun _ => false
def rIsO (C : Addr) (M : Addr → Option Bool) : List V → Hp → VK → Prop := fun xs H Q => match xs with
  | [x, .ref D] => D = C ∧ @OK _ (isO M H x) ⟨fun b => Q (.bl b) H⟩
  | _ => False
theorem r_isO {C : Addr} {M : Addr → Option Bool} {x : V} {H : Hp} {Q : VK} : @aC (rIsO C M) [x, .ref C] H ⟨Q⟩ = @OK _ (isO M H x) ⟨fun b => Q (.bl b) H⟩ := propext ⟨fun h => h.2, fun h => ⟨rfl, h⟩⟩
theorem isO_tab {M : Addr → Option Bool} {H : Hp} : isO M H .non = some false ∧ (∀ b, isO M H (.bl b) = some false) ∧ (∀ i, isO M H (.int i) = some false) ∧ (∀ z, isO M H (.str z) = some false) := ⟨rfl, fun _ => rfl, fun _ => rfl, fun _ => rfl⟩
def isR (M : Addr → Option Bool) : Option HO → Option Bool
  | some (.ins D _ _) => M D
  | o => (tyO o).map fun _ => false
theorem isO_ref {M : Addr → Option Bool} {H : Hp} {p : Addr} : isO M H (.ref p) = isR M (H p) := by
  show (match H p with
    | some (.ins D _ _) => M D
    | _ => (tyV H (.ref p)).map fun _ => false) = _
  rw [e_tyR]
  generalize H p = o
  rcases o with _ | o
  · rfl
  · cases o <;> rfl
theorem isR_tab {M : Addr → Option Bool} : (∀ D dx fs, isR M (some (.ins D dx fs)) = M D) ∧ (∀ xs, isR M (some (.lst xs)) = some false) ∧ (∀ xs, isR M (some (.tup xs)) = some false) ∧ (∀ xs, isR M (some (.dK xs)) = some false) := ⟨fun _ _ _ => rfl, fun _ => rfl, fun _ => rfl, fun _ => rfl⟩
theorem call_isO {X : Cx} {C : Addr} {M : Addr → Option Bool} (k : IsO X.K C M) : CallR X (.builtin "isinstance") (rIsO C M) := crOf call_isi fun xs H Q q => by
  unfold rIsO at q
  split at q
  · rename_i x D
    obtain ⟨rfl, q⟩ := q
    obtain ⟨b, e, q⟩ := OK.out q
    have plain : ∀ x : V, (tyV H x).map (fun _ => false) = some b → ∃ t u, TyX X.K H x t ∧ u = Value.ref D ∧ PySem.W.kitOne X.K t u = some b := fun x e => by
      cases ht : tyV H x with
      | none => rw [ht] at e; cases e
      | some t =>
        rw [ht] at e
        cases e
        exact ⟨_, _, tyV_ok ht, rfl, k.base t⟩
    have key : ∃ t u, TyX X.K H x t ∧ u = Value.ref D ∧ PySem.W.kitOne X.K t u = some b := by
      unfold isO at e
      split at e
      · rename_i p
        split at e
        · rename_i F dx fs ef
          obtain ⟨T, hk⟩ := k.own F b e
          exact ⟨_, _, .base (.ins ef T.c T.ha T.hn T.ht T.hm), rfl, hk⟩
        · exact plain _ e
      · exact plain _ e
    obtain ⟨t, u, h1, rfl, h2⟩ := key
    exact ⟨x, _, t, _, b, rfl, .own _, h1, h2, q⟩
  · exact q.elim
def rEqO (C : Addr) (sp : Sp) : R2 := fun x y H Q => match x, y with
  | .ref a, .ref b => @OK _ (insO C (H a)) ⟨fun _ => @OK _ (insO C (H b)) ⟨fun _ => sp [.ref a, .ref b] H (kB fun c H' => Q (.bl c) H') E0⟩⟩
  | _, _ => False
theorem r_eqO {C a b : Addr} {sp : Sp} {H : Hp} {Q : VK} : @aR (rEqO C sp) (.ref a) (.ref b) H ⟨Q⟩ = @OK _ (insO C (H a)) ⟨fun _ => @OK _ (insO C (H b)) ⟨fun _ => @Call sp [.ref a, .ref b] H ⟨kB fun c H' => Q (.bl c) H'⟩ ⟨E0⟩⟩⟩ := rfl
theorem op_eqO {X : Cx} {C g : Addr} {fd : FuncData} {ps : List Str} {k : Nat} {sp : Sp} (F : FnOk X.prog X.w X.K X.mg X.base CX0 k g fd ps sp) (hs : PySem.W.findIn X.K (.ref C) "__eq__" = some (some (.ref g))) (hf : PySem.W.isFn X.K (.ref g) = true) (hb : Binds X.K fd ps []) (hr : Room k X.A) :
    OpR X (compareOp .Eq) (rEqO C sp) := by
  intro pins s σ H x y v u Q J rx ry h
  show wpAny (model X.prog X.w) X.A (richCompare .Eq v u) (EP X pins σ Q) X.xe s
  cases x with
  | ref a =>
    cases y with
    | ref b =>
      obtain rfl : v = Value.ref a := rx
      obtain rfl : u = Value.ref b := ry
      obtain ⟨fs, h1, h⟩ := OK.out h
      obtain ⟨gs, h2, h⟩ := OK.out h
      obtain ⟨dx, ea⟩ := insO_at h1
      obtain ⟨dy, eb⟩ := insO_at h2
      obtain ⟨mA, O1, _⟩ := ins_get J.hok ea
      obtain ⟨mB, O2, _⟩ := ins_get J.hok eb
      obtain ⟨od, L1, _⟩ := O1.look
      obtain ⟨od2, L2', _⟩ := O2.look
      obtain ⟨m, hF⟩ := J.fr
      refine PySem.W.cmp_K (op := .Eq) (tb := .ref C) hr.units0 hF J.ok.mod.kin L1 L2'.type (by simp [PySem.W.notFirst]) hs hf ?_
      refine wpAny_mono (run_fn (us := [.ref a, .ref b]) (vs := [.ref a, .ref b]) F hr hb .nil pass0 J (.cons rfl (.cons rfl .nil)) h) (fun r s2 z => ?_) fun _ _ z => z
      obtain ⟨z, H2, J2, rz, q2⟩ := z
      cases z with
      | bl c =>
        cases rz
        exact ⟨.bl c, H2, J2, rfl, q2⟩
      | _ => exact False.elim q2
    | _ => exact False.elim h
  | _ => exact False.elim h

def sn : V → Bool
  | .str z => PyData.strOk z
  | .non => true
  | _ => false
def pdOf : V → PyData
  | .str z => .str z
  | _ => .none
theorem dp_sn {K : PySem.W.Frag} {H : Hp} : ∀ xs : List V, xs.all sn = true → DpAll K H xs (xs.map pdOf)
  | [], _ => .nil
  | v :: r, h => by
    rw [List.all_cons, Bool.and_eq_true] at h
    refine .cons ?_ (dp_sn r h.2)
    have h1 := h.1
    cases v with
    | str z => exact .str z
    | non => exact .non
    | _ => cases h1
theorem lay_sn : ∀ xs : List V, xs.all sn = true → PyData.canLayAll0 (xs.map pdOf) = true ∧ PyData.depthAll (xs.map pdOf) = 0
  | [], _ => ⟨rfl, rfl⟩
  | v :: r, h => by
    rw [List.all_cons, Bool.and_eq_true] at h
    obtain ⟨a, b⟩ := lay_sn r h.2
    have h1 := h.1
    cases v with
    | str z =>
      refine ⟨?_, ?_⟩
      · show (PyData.strOk z && PyData.canLayAll0 (r.map pdOf)) = true
        rw [a, show PyData.strOk z = true from h1]
        rfl
      · show max 0 (PyData.depthAll (r.map pdOf)) = 0
        rw [b]
        rfl
    | non =>
      refine ⟨?_, ?_⟩
      · show (true && PyData.canLayAll0 (r.map pdOf)) = true
        rw [a]
        rfl
      · show max 0 (PyData.depthAll (r.map pdOf)) = 0
        rw [b]
        rfl
    | _ => cases h1
theorem eqv_sn : ∀ xs ys : List V, xs.all sn = true → ys.all sn = true → PyData.eqvAll (xs.map pdOf) (ys.map pdOf) = decide (xs = ys)
  | [], [], _, _ => rfl
  | [], _ :: _, _, _ => rfl
  | _ :: _, [], _, _ => rfl
  | v :: r, u :: t, h, k => by
    rw [List.all_cons, Bool.and_eq_true] at h k
    have ih := eqv_sn r t h.2 k.2
    have e : PyData.eqvAll ((v :: r).map pdOf) ((u :: t).map pdOf) = (PyData.eqv (pdOf v) (pdOf u) && PyData.eqvAll (r.map pdOf) (t.map pdOf)) := rfl
    have e1 : PyData.eqv (pdOf v) (pdOf u) = decide (v = u) := by
      have h1 := h.1
      have k1 := k.1
      cases v with
      | str z =>
        cases u with
        | str y =>
          show (z == y) = decide (V.str z = V.str y)
          by_cases q : z = y
          · subst q
            rw [decide_eq_true rfl]
            exact beq_self_eq_true _
          · rw [decide_eq_false (fun w => q (V.str.inj w))]
            exact beq_eq_false_iff_ne.mpr q
        | non => rfl
        | _ => cases k1
      | non =>
        cases u with
        | str y => rfl
        | non => rfl
        | _ => cases k1
      | _ => cases h1
    rw [e, e1, ih]
    by_cases q1 : v = u
    · by_cases q2 : r = t
      · rw [q1, q2]
        simp
      · rw [decide_eq_false q2, decide_eq_false fun w => q2 (List.cons.inj w).2, Bool.and_false]
    · rw [decide_eq_false q1, decide_eq_false fun w => q1 (List.cons.inj w).1, Bool.false_and]
def snO : Option HO → Option (Bool × List V)
  | some (.lst xs) => some (false, xs)
  | some (.tup xs) => some (true, xs)
  | _ => none
theorem snO_tab : (∀ xs, snO (some (.lst xs)) = some (false, xs)) ∧ (∀ xs, snO (some (.tup xs)) = some (true, xs)) := ⟨fun _ => rfl, fun _ => rfl⟩
theorem snO_dp {K : PySem.W.Frag} {H : Hp} {p : Addr} {z : Bool × List V} (h : snO (H p) = some z) (a : z.2.all sn = true) : Dp K H (.ref p) (if z.1 = true then .tuple (z.2.map pdOf) else .list (z.2.map pdOf)) ∧ SeqAt.shaped (if z.1 = true then .tuple (z.2.map pdOf) else .list (z.2.map pdOf)) = true := by
  unfold snO at h
  split at h
  · rename_i xs e
    cases h
    obtain ⟨c1, c2⟩ := lay_sn xs a
    refine ⟨.lst (.inl (.inl e)) (dp_sn xs a), ?_⟩
    show (PyData.canLayAll0 (xs.map pdOf) && decide (PyData.depthAll (xs.map pdOf) + 1 ≤ 64)) = true
    rw [c1, c2]
    rfl
  · rename_i xs e
    cases h
    obtain ⟨c1, c2⟩ := lay_sn xs a
    refine ⟨.tup (.inl (.inl e)) (dp_sn xs a), ?_⟩
    show (PyData.canLayAll0 (xs.map pdOf) && decide (PyData.depthAll (xs.map pdOf) + 1 ≤ 64)) = true
    rw [c1, c2]
    rfl
  · cases h
def rEqN (neg : Bool) : R2 := fun x y H Q => match x, y with
  | .ref p, .ref q => @OK _ (snO (H p)) ⟨fun a => @OK _ (snO (H q)) ⟨fun b => @Cd (a.1 = b.1 ∧ a.2.all sn = true ∧ b.2.all sn = true) ⟨Q (.bl (bif neg then !decide (a.2 = b.2) else decide (a.2 = b.2))) H⟩⟩⟩
  | _, _ => False
theorem r_eqN {p q : Addr} {H : Hp} {Q : VK} : @aR (rEqN false) (.ref p) (.ref q) H ⟨Q⟩ = @OK _ (snO (H p)) ⟨fun a => @OK _ (snO (H q)) ⟨fun b => @Cd (a.1 = b.1 ∧ a.2.all sn = true ∧ b.2.all sn = true) ⟨Q (.bl (decide (a.2 = b.2))) H⟩⟩⟩ := rfl
theorem r_neN {p q : Addr} {H : Hp} {Q : VK} : @aR (rEqN true) (.ref p) (.ref q) H ⟨Q⟩ = @OK _ (snO (H p)) ⟨fun a => @OK _ (snO (H q)) ⟨fun b => @Cd (a.1 = b.1 ∧ a.2.all sn = true ∧ b.2.all sn = true) ⟨Q (.bl (!decide (a.2 = b.2))) H⟩⟩⟩ := rfl
theorem eqN_key {K : PySem.W.Frag} {H : Hp} {p q : Addr} {a b : Bool × List V} (h1 : snO (H p) = some a) (h2 : snO (H q) = some b) (c : a.1 = b.1 ∧ a.2.all sn = true ∧ b.2.all sn = true) :
    ∃ d e, Dp K H (.ref p) d ∧ Dp K H (.ref q) e ∧ SeqAt.shaped d = true ∧ SeqAt.shaped e = true ∧ PyData.eqv d e = decide (a.2 = b.2) := by
  obtain ⟨k1, s1⟩ := snO_dp (K := K) h1 c.2.1
  obtain ⟨k2, s2⟩ := snO_dp (K := K) h2 c.2.2
  refine ⟨_, _, k1, k2, s1, s2, ?_⟩
  rw [← c.1, ← eqv_sn _ _ c.2.1 c.2.2]
  cases a.1 <;> rfl
theorem op_eqN {X : Cx} (hu : X.A.units + 64 < cLine) : OpR X (compareOp .Eq) (rEqN false) := opOf (op_eqD hu) fun x y H Q h => by
  cases x with
  | ref p =>
    cases y with
    | ref q =>
      obtain ⟨a, h1, h⟩ := OK.out h
      obtain ⟨b, h2, h⟩ := OK.out h
      obtain ⟨d, e, k1, k2, s1, s2, v⟩ := eqN_key (K := X.K) h1 h2 h.1
      refine ⟨d, e, k1, k2, s1, s2, ?_⟩
      rw [v]
      simpa using h.2
    | _ => exact False.elim h
  | _ => exact False.elim h
theorem op_neN {X : Cx} (hu : X.A.units + 64 < cLine) : OpR X (compareOp .NotEq) (rEqN true) := opOf (op_neD hu) fun x y H Q h => by
  cases x with
  | ref p =>
    cases y with
    | ref q =>
      obtain ⟨a, h1, h⟩ := OK.out h
      obtain ⟨b, h2, h⟩ := OK.out h
      obtain ⟨d, e, k1, k2, s1, s2, v⟩ := eqN_key (K := X.K) h1 h2 h.1
      refine ⟨d, e, k1, k2, s1, s2, ?_⟩
      rw [v]
      simpa using h.2
    | _ => exact False.elim h
  | _ => exact False.elim h
theorem toNat_inj' : ∀ {l m : List Char}, l.map Char.toNat = m.map Char.toNat → l = m
  | [], [], _ => rfl
  | [], _ :: _, h => by cases h
  | _ :: _, [], h => by cases h
  | c :: l, d :: m, h => by
    rw [List.map_cons, List.map_cons, List.cons.injEq] at h
    rw [toNat_inj' h.2, Char.ext (UInt32.toNat_inj.mp h.1)]
theorem ofs_inj' {a b : String} (h : Str.ofString a = Str.ofString b) : a = b := by
  have h1 : TL.tl (Str.ofString a) = TL.tl (Str.ofString b) := by rw [h]
  rw [TL.tl_ofString, TL.tl_ofString] at h1
  exact String.toList_inj.mp (toNat_inj' h1)
theorem lk_tab {a b : String} {v : V} {r : List (Str × V)} : List.lookup (Str.ofString a) ((Str.ofString b, v) :: r) = if a = b then some v else List.lookup (Str.ofString a) r := by
  by_cases e : a = b
  · subst e
    rw [if_pos rfl, List.lookup_cons, beq_self_eq_true]
  · rw [if_neg e, List.lookup_cons, beq_eq_false_iff_ne.mpr fun z => e (ofs_inj' z)]
theorem putF_nil {f : Str} {v : V} : putF f v [] = [(f, v)] := rfl
theorem putF_tab {a b : String} {v w : V} {r : List (Str × V)} : putF (Str.ofString a) v ((Str.ofString b, w) :: r) = if a = b then (Str.ofString b, v) :: r else (Str.ofString b, w) :: putF (Str.ofString a) v r := by
  by_cases e : a = b
  · subst e
    rw [if_pos rfl]
    show (if Str.ofString a = Str.ofString a then _ else _) = _
    rw [if_pos rfl]
  · rw [if_neg e]
    show (if Str.ofString b = Str.ofString a then _ else _) = _
    rw [if_neg fun z => e (ofs_inj' z.symm)]

def gSq (n : Nat) (t : TGs) : TG := fun v σ H Q => match v with
  | .ref a => @OK _ (seqAt H a) ⟨fun xs => xs.length = n ∧ t xs σ H Q⟩
  | _ => False
def aGs (xs : List V) (n : Nat) (t : TGs) (σ : L2.St) (H : Hp) [Q : Kp (L2.St → Hp → Prop)] : Prop := xs.length = n ∧ t xs σ H Q.val
theorem r_gsq {n : Nat} {t : TGs} {a : Addr} {σ : L2.St} {H : Hp} {Q : L2.St → Hp → Prop} : gSq n t (.ref a) σ H Q = @OK _ (seqAt H a) ⟨fun xs => @aGs xs n t σ H ⟨Q⟩⟩ := rfl
theorem aGs_eq {xs : List V} {n : Nat} {t : TGs} {σ : L2.St} {H : Hp} {Q : L2.St → Hp → Prop} : @aGs xs n t σ H ⟨Q⟩ = @Cd (xs.length = n) ⟨t xs σ H Q⟩ := rfl
theorem r_gcons {t : TG} {u : TGs} {v : V} {r : List V} {σ : L2.St} {H : Hp} {Q : L2.St → Hp → Prop} : gCons t u (v :: r) σ H Q = t v σ H fun σ1 H1 => u r σ1 H1 Q := propext ⟨fun ⟨a, b, e, q⟩ => by cases e; exact q, fun q => ⟨v, r, rfl, q⟩⟩
theorem r_gnil {σ : L2.St} {H : Hp} {Q : L2.St → Hp → Prop} : gNil [] σ H Q = Q σ H := propext ⟨fun h => h.2, fun h => ⟨rfl, h⟩⟩
theorem pg_seq {X : Cx} {es : List Expr} {j : Nat} {t : TGs} {n : Nat} {pos : Pos} (hc : X.calm = true) (h : PGs X es t) (hn : (assignEach es X.env).length = n := by rfl) (hst : (assignEach es X.env).findIdx? (·.1) = none := by rfl) : PG X (.Tuple es j pos) (gSq n t) := by
  have a := pg_lst (k := j) (pos := pos) hc h hn hst
  have b := pg_tup (k := j) (pos := pos) hc h hn hst
  refine ⟨fun pins s σ H v u Q I r q => ?_⟩
  cases v with
  | ref p =>
    obtain ⟨xs, e, q⟩ := OK.out q
    rcases seqAt_cases (K := X.K) e with z | z
    · exact a.run pins s σ H _ u Q I r ⟨p, xs, rfl, z, q.1, q.2⟩
    · exact b.run pins s σ H _ u Q I r ⟨p, xs, rfl, z, q.1, q.2⟩
  | _ => exact False.elim q

def uTryAs (K : PySem.W.Frag) (c : Value) (i : Nat) (tb : WX → TS) (ts : Addr → Value → Option Addr → TS) (Wout : WX) : TS := fun D σ H => tb (wAs K c i ts Wout D) D σ H
def uTryMany (K : PySem.W.Frag) (l : List (Value × (Addr → Value → Option Addr → TS))) (tb : WX → TS) (Wout : WX) : TS := fun D σ H => tb (wMany K Wout D l) D σ H
def uTryOnly (K : PySem.W.Frag) (c : Value) (tb : WX → TS) (ts : Addr → Value → Option Addr → TS) (Wout : WX) : TS := fun D σ H => tb (wOnly K c ts Wout D) D σ H
def w0 : WX := fun _ _ _ _ => False
theorem as_yes {K : PySem.W.Frag} {c cls : Value} {i : Nat} {ts : Addr → Value → Option Addr → TS} {Wout : WX} {D : Ends} {d : Option Addr} {σ : L2.St} {H : Hp} (hb : PySem.W.exmOne K cls c = some true)
    (h : ∀ a, H a = none → ts a cls d { nx := fun σ' H' => D.nx (σ'.set i none) H', rt := D.rt, bk := fun σ' H' => D.bk (σ'.set i none) H', ct := fun σ' H' => D.ct (σ'.set i none) H' } (σ.set i (some (.ref a))) H) : WE (wAs K c i ts Wout D) σ cls d H :=
  ⟨true, hb, fun _ => h, fun z => nomatch z⟩
theorem only_yes {K : PySem.W.Frag} {c cls : Value} {ts : Addr → Value → Option Addr → TS} {Wout : WX} {D : Ends} {d : Option Addr} {σ : L2.St} {H : Hp} (hb : PySem.W.exmOne K cls c = some true)
    (h : ∀ a, H a = none → ts a cls d D σ H) : WE (wOnly K c ts Wout D) σ cls d H :=
  ⟨true, hb, fun _ => h, fun z => nomatch z⟩
def rIsS (K : PySem.W.Frag) (a : Addr) (cls : Value) (d : Option Addr) : List V → Hp → VK → Prop := fun xs H Q => d = none ∧ ∃ (D C : Addr) (b : Bool), cls = .ref D ∧ ExcC K D ∧ xs = [.ref a, .ref C] ∧ PySem.W.kitOne K (.ref D) (.ref C) = some b ∧ Q (.bl b) H
theorem call_isS {X : Cx} {a : Addr} {oe : Obj} {cls : Value} {d : Option Addr} {pn : List (Addr × Obj)} (hz : Zc cls d oe) (hf : ∃ vs, oe.data = .fields vs) : CallR (X.suite a ((a, oe) :: pn)) (.builtin "isinstance") (rIsS X.K a cls d) := by
  intro pins s σ H xs us Q I r h
  obtain ⟨rfl, D, C, b, rfl, T, rfl, e, q⟩ := h
  exact call_isE T hz hf pins s σ H _ us Q I r ⟨_, .ref C, b, rfl, fun u z => z, e, q⟩
def aIsS (K : PySem.W.Frag) (a : Addr) (cls : Value) (d : Option Addr) (xs : List V) (H : Hp) [Q : Kp VK] : Prop := rIsS K a cls d xs H Q.val
theorem r_isS {K : PySem.W.Frag} {a C D : Addr} {b : Bool} {H : Hp} {Q : VK} (T : ExcC K D) (e : PySem.W.kitOne K (.ref D) (.ref C) = some b) (q : Q (.bl b) H) : @aC (rIsS K a (.ref D) none) [.ref a, .ref C] H ⟨Q⟩ := ⟨rfl, D, C, b, rfl, T, rfl, e, q⟩
def rIsBU : R2 := fun x y H Q => match x, y with
  | .bl a, .bl b => Q (.bl (decide (a = b))) H
  | _, _ => False
theorem r_isB {a b : Bool} {H : Hp} {Q : VK} : @aR rIsBU (.bl a) (.bl b) H ⟨Q⟩ = Q (.bl (decide (a = b))) H := rfl
theorem op_isBU {X : Cx} : OpR X (compareOp .Is) rIsBU := opOf op_isBl fun x y H Q q => by
  unfold rIsBU at q
  split at q
  · exact ⟨_, _, rfl, rfl, q⟩
  · exact q.elim
theorem lstO_at {o : Option HO} {xs : List V} (h : lstO o = some xs) : o = some (.lst xs) := by
  unfold lstO at h
  split at h
  · cases h; rfl
  · cases h
def isLs : Option HO → Bool
  | some (.lst _) => true
  | _ => false
theorem isLs_lst {xs : List V} : isLs (some (.lst xs)) = true := rfl
theorem tyL {K : PySem.W.Frag} {H : Hp} {p : Addr} (h : isLs (H p) = true) : L2.tyV K "list" (.ref p) H = True := by
  have e : ∃ xs, H p = some (.lst xs) := by
    unfold isLs at h
    split at h
    · rename_i xs e; exact ⟨xs, e⟩
    · cases h
  obtain ⟨xs, e⟩ := e
  exact eq_true (.inl ⟨rfl, xs, .inl (.inl e)⟩)
theorem r_bm1 {K : PySem.W.Frag} {T : String} {r : V → List V → Hp → VK → Prop} {te tv : TE} {σ : L2.St} {H : Hp} {Q : VK} : tBM K T r te (tCons tv tNil) σ H Q = te σ H fun x H1 => @Cd (L2.tyV K T x H1) ⟨tv σ H1 fun v H2 => @aM r x [v] H2 ⟨Q⟩⟩ := rfl
theorem r_bm0 {K : PySem.W.Frag} {T : String} {r : V → List V → Hp → VK → Prop} {te : TE} {σ : L2.St} {H : Hp} {Q : VK} : tBM0 K T r te σ H Q = te σ H fun x H1 => @Cd (L2.tyV K T x H1) ⟨@aM r x [] H1 ⟨Q⟩⟩ := rfl
theorem aM_app {l : Addr} {v : V} {H : Hp} {Q : VK} : @aM rAppend (.ref l) [v] H ⟨Q⟩ = @OK _ (lstO (H l)) ⟨fun xs => @Cd (xs.length < sizeLine) ⟨@Md H l (.lst (xs ++ [v])) ⟨fun H' => Q .non H'⟩⟩⟩ := propext ⟨fun ⟨a, xs, y, e1, e2, e3, e4, q⟩ => by
    cases e1
    cases e2
    refine OK.by (x := xs) (by rw [e3]; rfl) ⟨e4, ?_⟩
    exact fun H' n => by rw [n.eq]; exact q, fun h => by
    obtain ⟨xs, e, h⟩ := OK.out h
    exact ⟨l, xs, v, rfl, rfl, lstO_at e, h.1, h.2 _ ⟨rfl⟩⟩⟩
theorem r_callX {sp : Sp} {W : WX} {t : TA} {σ : L2.St} {H : Hp} {Q : VK} : uCallX sp W t σ H Q = t σ H fun vs H1 => @Call sp vs H1 ⟨Q⟩ ⟨WE W σ⟩ := rfl
def aW (W : WX) (cls : Value) (d : Option Addr) (σ : L2.St) (H : Hp) : Prop := W cls d σ H
theorem r_raise0 {W : WX} {C : Addr} {D : Ends} {σ : L2.St} {H : Hp} : uRaise0 W C D σ H = W (.ref C) none σ H := rfl
def aTry (tb : WX → TS) [W : Kp WX] [D : Kp Ends] (σ : L2.St) (H : Hp) : Prop := tb W.val D.val σ H
theorem r_tryAs {K : PySem.W.Frag} {c : Value} {i : Nat} {tb : WX → TS} {ts : Addr → Value → Option Addr → TS} {Wout : WX} {D : Ends} {σ : L2.St} {H : Hp} : uTryAs K c i tb ts Wout D σ H = tb (wAs K c i ts Wout D) D σ H := rfl
theorem r_tryOnly {K : PySem.W.Frag} {c : Value} {tb : WX → TS} {ts : Addr → Value → Option Addr → TS} {Wout : WX} {D : Ends} {σ : L2.St} {H : Hp} : uTryOnly K c tb ts Wout D σ H = tb (wOnly K c ts Wout D) D σ H := rfl
structure EqC (P : Program) (w : World) (K : PySem.W.Frag) (mg : Str → Option Value) (base : Heap) (k : Nat) (C : Addr) (sp : Sp) : Prop where
  ex : ∃ (g : Addr) (fd : FuncData) (ps : List Str), FnOk P w K mg base CX0 k g fd ps sp ∧ PySem.W.findIn K (.ref C) "__eq__" = some (some (.ref g)) ∧ PySem.W.isFn K (.ref g) = true ∧ Binds K fd ps []
theorem op_eqC {X : Cx} {k : Nat} {C : Addr} {sp : Sp} (c : EqC X.prog X.w X.K X.mg X.base k C sp) (hr : Room k X.A) : OpR X (compareOp .Eq) (rEqO C sp) := by
  obtain ⟨g, fd, ps, F, h1, h2, b⟩ := c.ex
  exact op_eqO F h1 h2 b hr
structure StC (P : Program) (w : World) (K : PySem.W.Frag) (mg : Str → Option Value) (base : Heap) (k : Nat) (C : Addr) (m : Str) (sp : Sp) : Prop where
  ex : ∃ (q g : Addr) (fd : FuncData) (ps : List Str), SMet K C m q g ∧ FnOk P w K mg base CX0 k g fd ps sp ∧ Binds K fd ps []
section
variable {X : Cx} {k : Nat} {c m : Str} {C : Addr} {sp : Sp} {p apos pos : Pos} {e : Expr} {es : List Expr} {ta : TA} {pl : Sem Bool}
theorem pe_st0 (S : StC X.prog X.w X.K X.mg X.base k C m sp) (gC : X.mg c = some (.ref C)) (hr : Room k X.A) (hg : Gl X c := by rfl) (hd : (c == ("__debug__" : Str)) = false := by decide)
    (ht : eval (.Call (.Attribute (.Name c p) m apos) [] [] pos) X.env = (do
      let ov ← eval (.Name c p) X.env
      standAt apos.atName
      let (f, first) ← holding [ov] (getMethod ov m pl)
      callWith pos f first (backTo pos (starEach [] X.env)) (backToKw pos (keywordEach [] X.env))) := by rfl) : PE X (.Call (.Attribute (.Name c p) m apos) [] [] pos) (uCall sp [] E0 tNil) := by
  obtain ⟨q, g, fd, ps, S, F, b⟩ := S.ex
  exact pe_smeth0 ⟨q, S⟩ gC F hr b hg hd ht
theorem pe_st (S : StC X.prog X.w X.K X.mg X.base k C m sp) (gC : X.mg c = some (.ref C)) (hr : Room k X.A) (ha : PA X (e :: es) ta) (hg : Gl X c := by rfl) (hd : (c == ("__debug__" : Str)) = false := by decide)
    (he : starEach (e :: es) X.env = (false, eval e X.env) :: starEach es X.env := by rfl) (hpl : (backTo pos (starEach es X.env)).any (·.1) = false := by rfl)
    (ht : eval (.Call (.Attribute (.Name c p) m apos) (e :: es) [] pos) X.env = (do
      let ov ← eval (.Name c p) X.env
      standAt apos.atName
      let (f, first) ← holding [ov] (getMethod ov m pl)
      callWith pos f first (backTo pos (starEach (e :: es) X.env)) (backToKw pos (keywordEach [] X.env))) := by rfl) : PE X (.Call (.Attribute (.Name c p) m apos) (e :: es) [] pos) (uCall sp [] E0 ta) := by
  obtain ⟨q, g, fd, ps, S, F, b⟩ := S.ex
  exact pe_smeth ⟨q, S⟩ gC F hr b ha hg hd he hpl ht
end
theorem rAll.by {p : Addr} {bs : List Bool} {H : Hp} {Q : VK} (h : H p = some (.lst (bs.map V.bl))) (q : Q (.bl (bs.all id)) H) : @aC rAllU [.ref p] H ⟨Q⟩ := ⟨p, bs, rfl, h, q⟩
theorem rAny.by {p : Addr} {bs : List Bool} {H : Hp} {Q : VK} (h : H p = some (.lst (bs.map V.bl))) (q : Q (.bl (bs.any id)) H) : @aC rAnyU [.ref p] H ⟨Q⟩ := ⟨p, bs, rfl, h, q⟩
theorem withTk {X : Cx} {W : WX} {st : List Stmt} {t : TS} (tk : Takes X W) (h : Takes X W → PSs X st t) : PSs X st t := h tk
end U
end

section
namespace U
open PySem PySem.Spec PyProof.Rows L2
abbrev Cla : Type := Value × Option Nat × (Addr → Value → Option Addr → TS)
def Ends.un (D : Ends) (i : Nat) : Ends := ⟨fun σ H => D.nx (σ.set i none) H, D.rt, fun σ H => D.bk (σ.set i none) H, fun σ H => D.ct (σ.set i none) H⟩
def inSuite (o : Option Nat) (ts : Addr → Value → Option Addr → TS) (a : Addr) (cls : Value) (d : Option Addr) (D : Ends) (σ : L2.St) (H : Hp) : Prop := match o with
  | none => ts a cls d D σ H
  | some i => ts a cls d (Ends.un D i) (σ.set i (some (.ref a))) H
def wCl (K : PySem.W.Frag) (Wout : WX) (D : Ends) : List Cla → WX
  | [] => Wout
  | (c, o, ts) :: r => fun cls d σ H => ∃ b, PySem.W.exmOne K cls c = some b ∧ (b = true → ∀ a, H a = none → inSuite o ts a cls d D σ H) ∧ (b = false → wCl K Wout D r cls d σ H)
inductive ClOk (X : Cx) : List ExceptHandler → List Cla → Prop
  | nil : ClOk X [] []
  | bare {x : Str} {c : Value} {ts : Addr → Value → Option Addr → TS} {b0 : Stmt} {bs : List Stmt} {p q : Pos} {hs : List ExceptHandler} {l : List Cla} (hc : Names X x c)
      (hsu : ∀ (a : Addr) (oe : Obj) (cls : Value) (d : Option Addr) (pn : List (Addr × Obj)), Zc cls d oe → (∃ vs, oe.data = .fields vs) → PSs (X.suite a ((a, oe) :: pn)) (b0 :: bs) (ts a cls d))
      (r : ClOk X hs l) : ClOk X (.ExceptHandler (some (.Name x p)) none (b0 :: bs) q :: hs) ((c, none, ts) :: l)
  | named {x n : Str} {i : Nat} {c : Value} {ts : Addr → Value → Option Addr → TS} {b0 : Stmt} {bs : List Stmt} {p q : Pos} {hs : List ExceptHandler} {l : List Cla} (hN : X.N.Nodup) (hi : X.N[i]? = some n) (hl : X.env.kindOf n = some .local) (hc : Names X x c)
      (hsu : ∀ (a : Addr) (oe : Obj) (cls : Value) (d : Option Addr) (pn : List (Addr × Obj)), Zc cls d oe → (∃ vs, oe.data = .fields vs) → PSs (X.suite a ((a, oe) :: pn)) (b0 :: bs) (ts a cls d))
      (r : ClOk X hs l) : ClOk X (.ExceptHandler (some (.Name x p)) (some n) (b0 :: bs) q :: hs) ((c, some i, ts) :: l)
section
variable {X : Cx} {body : List Stmt} {h0 : ExceptHandler} {hs : List ExceptHandler} {l : List Cla} {pos : Pos} {tb : WX → TS} {Wout : WX}
theorem ps_try_l (est : X.stack = X.env :: X.outer) (efr : X.env.frame = some X.env.locals) (tk : Takes X Wout)
    (hb : ∀ (W : WX) (pn : List (Addr × Obj)) (xe : Value → Shared → Prop), Takes (X.tr pn xe) W → PassesOwn (model X.prog X.w) X.A X.env xe → PSs (X.tr pn xe) body (tb W))
    (hh : ClOk X (h0 :: hs) l) : PS X (.Try body (h0 :: hs) [] [] pos) (fun D σ H => tb (wCl X.K Wout D l) D σ H) := by
  refine ⟨fun pins s σ H D I wish => ?_⟩
  have okI := I.ok
  have frA : X.A.frames = some (X.env :: X.outer) := okI.frames.trans (congrArg some est)
  refine wpAny_Try_except ?_
  refine wpAny_mono ((hb (wCl X.K Wout D l) (X.pn ++ pins) (fun e s1 => wpAny (model X.prog X.w) X.A (noteFrame e X.env) (fun _ s2 => wpAny (model X.prog X.w) X.A (setFlight e none) (fun _ s3 =>
      wpAny (model X.prog X.w) X.A (handleBy e X.env (h0 :: hs)) (SP X pins D) X.xe s3) X.xe s2) X.xe s1) (fun u sx thrown => ?caught) PassesOwn.looking).run [] s σ H D (I.toTry _) wish) (fun f s1 after => ?ended) (fun _ _ z => z)
  case ended =>
    cases f with
    | next => exact after.elim fun σ1 ⟨H1, J1, q1⟩ => wpAny_execs_nil ⟨σ1, H1, J1.ofTry okI, q1⟩
    | brk => exact after.elim fun σ1 ⟨H1, J1, q1⟩ => ⟨σ1, H1, J1.ofTry okI, q1⟩
    | cont => exact after.elim fun σ1 ⟨H1, J1, q1⟩ => ⟨σ1, H1, J1.ofTry okI, q1⟩
    | ret u => exact after.elim fun v1 ⟨σ1, H1, J1, r1, q1⟩ => ⟨v1, σ1, H1, J1.ofTry okI, r1, q1⟩
  case caught =>
    obtain ⟨a, B, sI, ps, σ1, H1, cls, d, rfl, JT, nb, up, sky, free, eos, bare, w⟩ := thrown
    have J := JT.ofTry okI
    rw [show (X.tr (X.pn ++ pins) _).stack = X.env :: X.outer from est] at sky
    show wpAny (model X.prog X.w) X.A (noteFrame (.ref a) X.env) _ _ _
    refine Sky.land Zc.steady frA efr sky fun hp fly upp => ?_
    have JL : Inv X pins σ1 H1 { sx with heap := hp } := J.landed nb fly.1 (up.trans upp) eos bare
    obtain ⟨oe, vs, eAt, eZ, eD⟩ := fly.there
    have far : a ∉ frs (X.env :: X.outer) := fun mem => by
      obtain ⟨_, o', e', no⟩ := fly.2.2.1.mem mem
      cases eAt.symm.trans e'
      exact no _ eD
    have nLoc : a ≠ X.env.locals := fun z => far (List.mem_filterMap.mpr ⟨X.env, List.mem_cons_self, efr.trans (congrArg some z.symm)⟩)
    have nFs : a ∉ X.fs := fun mem => (List.mem_filterMap.mp mem).elim fun e he => far (List.mem_filterMap.mpr ⟨e, List.mem_cons_of_mem _ he.1, he.2⟩)
    have SL := JL.suite eAt eD free nLoc nFs
    suffices each : ∀ {hs' : List ExceptHandler} {l' : List Cla}, ClOk X hs' l' → wCl X.K Wout D l' cls d σ1 H1 → wpAny (model X.prog X.w) X.A (handleBy (.ref a) X.env hs') (SP X pins D) X.xe { sx with heap := hp } from each hh w
    -- the name of a clause, and whether it takes the exception
    have name : ∀ {x : Str} {c : Value} {p : Pos}, Names X x c → ∀ {Q E : Value → Shared → Prop}, Q c { sx with heap := hp } → wpAny (model X.prog X.w) (X.A.mark (some (.ref a))) (eval (.Name x p) X.env) Q E { sx with heap := hp } := fun {x c p} hc {Q E} q => by
      rcases hc with ⟨g1, g2, m | ⟨m, v, n⟩⟩
      · exact ld_glob (X := X.suite a ((a, oe) :: (X.pn ++ pins))) SL g1 m q g2
      · exact ld_blt (X := X.suite a ((a, oe) :: (X.pn ++ pins))) SL g1 m v q n g2
    have kind : PySem.W.Looks (model X.prog X.w) hp (typeOf (.ref a)) cls := fun A Q E s k q => wpAny_typeOf_ref (k _ _ eAt) (by rw [eZ.1]; exact q)
    intro hs' l' ok
    induction ok with
    | nil =>
      intro w0
      refine wpAny_handleBy_nil ?_
      obtain ⟨_, _, _, o2, v2, T, _, _, at2, _, dt2, f1, _⟩ := id fly
      unfold PySem.passOn
      refine wpAny_bind (wpAny_field at2 dt2 f1 ?_)
      rw [if_neg (by simp : ¬ ((Value.ref T == Value.none) = true))]
      have on : wpAny (model X.prog X.w) X.A (setFlight (.ref a) X.env.frame) (fun _ s4 => wpAny (model X.prog X.w) X.A (throw (.ref a) : Sem Flow) (SP X pins D) X.xe s4) X.xe { sx with heap := hp } := by
        rw [efr]
        refine HandSPX.setFlight_upZ fly fun h4 held up4 => wpAny_throw (tk _ _ ⟨a, B, sI, pins, σ1, H1, cls, d, rfl, J, nb, (up.trans upp).trans up4, .inr (.inr ?_), free, eos, bare, w0⟩)
        rw [est]
        exact held
      first | exact wpAny_bind (wpAny_pure (wpAny_bind on)) | exact wpAny_bind on
    | bare hc hsu _ ih =>
      rintro ⟨b, eb, yes, no⟩
      refine wpAny_handleBy_cons (codeAny_handlers_test ?_) (fun q => nomatch q)
      refine name hc ((PySem.W.exm_one (M := model X.prog X.w) JL.kIn kind eb).here ?_)
      cases b with
      | false => exact ih (no rfl)
      | true =>
        refine codeAny_handlers_suite (HandSPX.lands_againZ fly fun h4 fly4 up4 => ?_)
        obtain ⟨o4, v4, at4, z4, dt4⟩ := fly4.there
        have S4 := (J.landed nb fly4.1 ((up.trans upp).trans up4) eos bare : Inv X pins σ1 H1 { sx with heap := h4 }).suite at4 dt4 free nLoc nFs
        refine wpAny_mono ((hsu a o4 cls d (X.pn ++ pins) z4 ⟨_, dt4⟩).run [] _ _ H1 _ S4 (yes rfl a free)) (fun f s6 after => ?_) fun _ _ z => False.elim z
        cases f with
        | next => exact after.elim fun _ ⟨_, S6, q6⟩ => ⟨_, _, S6.unsuite okI, q6⟩
        | brk => exact after.elim fun _ ⟨_, S6, q6⟩ => ⟨_, _, S6.unsuite okI, q6⟩
        | cont => exact after.elim fun _ ⟨_, S6, q6⟩ => ⟨_, _, S6.unsuite okI, q6⟩
        | ret u => exact after.elim fun _ ⟨_, _, S6, r6, q6⟩ => ⟨_, _, _, S6.unsuite okI, r6, q6⟩
    | @named x n i c ts b0 bs p q hs2 l2 hN hi hl hc hsu _ ih =>
      rintro ⟨b, eb, yes, no⟩
      refine wpAny_handleBy_cons (codeAny_handlers_test ?_) (fun q => nomatch q)
      refine name hc ((PySem.W.exm_one (M := model X.prog X.w) JL.kIn kind eb).here ?_)
      cases b with
      | false => exact ih (no rfl)
      | true =>
        refine codeAny_handlers_suite_as (HandSPX.lands_againZ fly fun h4 fly4 up4 => ?_)
        obtain ⟨o4, v4, at4, z4, dt4⟩ := fly4.there
        have S4 := (J.landed nb fly4.1 ((up.trans upp).trans up4) eos bare : Inv X pins σ1 H1 { sx with heap := h4 }).suite at4 dt4 free nLoc nFs
        refine store_ok (X := X.suite a ((a, o4) :: (X.pn ++ pins))) (v := .ref a) S4 hN hi (.inl hl) rfl (fun s5 S5 => ?_) (.inr hl)
        refine wpAny_mono ((hsu a o4 cls d (X.pn ++ pins) z4 ⟨_, dt4⟩).run [] s5 _ H1 _ S5 (yes rfl a free)) (fun f s6 after => ?_) fun _ _ z => False.elim z
        have fin : ∀ {σ6 : L2.St} {H6 : Hp} {R : Shared → Prop}, Inv (X.suite a ((a, o4) :: (X.pn ++ pins))) [] σ6 H6 s6 → (∀ s7, Inv X pins (σ6.set i none) H6 s7 → R s7) →
            wpAny (model X.prog X.w) X.A (do bindName X.env n .none; unbindBehindTheSuite X.env n q) (fun _ s7 => R s7) X.xe s6 := fun S6 hq => gone_ok (S6.unsuite okI) hN hi hl hq
        cases f with
        | next => exact after.elim fun _ ⟨_, S6, q6⟩ => fin S6 fun _ J7 => ⟨_, _, J7, q6⟩
        | brk => exact after.elim fun _ ⟨_, S6, q6⟩ => fin S6 fun _ J7 => ⟨_, _, J7, q6⟩
        | cont => exact after.elim fun _ ⟨_, S6, q6⟩ => fin S6 fun _ J7 => ⟨_, _, J7, q6⟩
        | ret u => exact after.elim fun _ ⟨_, _, S6, r6, q6⟩ => fin S6 fun _ J7 => ⟨_, _, _, J7, r6, q6⟩
end
def uTryL (K : PySem.W.Frag) (l : List Cla) (tb : WX → TS) (Wout : WX) : TS := fun D σ H => tb (wCl K Wout D l) D σ H
theorem r_tryL {K : PySem.W.Frag} {l : List Cla} {tb : WX → TS} {Wout : WX} {D : Ends} {σ : L2.St} {H : Hp} : uTryL K l tb Wout D σ H = tb (wCl K Wout D l) D σ H := rfl
theorem wCl_yes {K : PySem.W.Frag} {Wout : WX} {D : Ends} {c : Value} {o : Option Nat} {ts : Addr → Value → Option Addr → TS} {r : List Cla} {cls : Value} {d : Option Addr} {σ : L2.St} {H : Hp} (e : PySem.W.exmOne K cls c = some true)
    (h : ∀ a, H a = none → inSuite o ts a cls d D σ H) : WE (wCl K Wout D ((c, o, ts) :: r)) σ cls d H := ⟨true, e, fun _ => h, fun z => nomatch z⟩
theorem wCl_no {K : PySem.W.Frag} {Wout : WX} {D : Ends} {c : Value} {o : Option Nat} {ts : Addr → Value → Option Addr → TS} {r : List Cla} {cls : Value} {d : Option Addr} {σ : L2.St} {H : Hp} (e : PySem.W.exmOne K cls c = some false)
    (h : WE (wCl K Wout D r) σ cls d H) : WE (wCl K Wout D ((c, o, ts) :: r)) σ cls d H := ⟨false, e, fun z => (nomatch z), fun _ => h⟩

def XfOk (K : PySem.W.Frag) (C : Addr) (f : Str) : Prop := XfC K C ∧ PySem.W.findIn K (.ref C) f = some none
def uXf (K : PySem.W.Frag) (a : Addr) (cls : Value) (d : Option Addr) (f : Str) (i : Nat) : TE := fun σ H Q => ∃ C dd fs v, cls = .ref C ∧ XfOk K C f ∧ d = some dd ∧ σ[i]? = some (some (.ref a)) ∧ H dd = some (.xd fs) ∧ fs.lookup f = some v ∧ Q v H
theorem pe_uXf {X : Cx} {a : Addr} {oe : Obj} {cls : Value} {d : Option Addr} {pn : List (Addr × Obj)} {e : Expr} {f : Str} {i : Nat} {pos : Pos} (hz : Zc cls d oe) (hf : ∃ vs, oe.data = .fields vs) (he : PE (X.suite a ((a, oe) :: pn)) e (uVar i))
    (hb : attributeBase e f X.env (eval e X.env) = eval e X.env := by rfl) : PE (X.suite a ((a, oe) :: pn)) (.Attribute e f pos) (uXf X.K a cls d f i) := by
  refine ⟨fun pins s σ H Q I h => ?_⟩
  obtain ⟨C, dd, fs, v, e1, ⟨T, hno⟩, e2, e3, e4, e5, q⟩ := h
  refine (pe_xf (X := X) T hno hz hf he hb).run pins s σ H Q I ?_
  show uVar i σ H _
  unfold uVar
  rw [e3]
  exact ⟨rfl, e1, dd, fs, v, e2, e4, e5, q⟩
theorem Xf.by {K : PySem.W.Frag} {a C dd : Addr} {f : Str} {i : Nat} {σ : L2.St} {H : Hp} {Q : VK} {fs : List (Str × V)} {v : V} (k : XfOk K C f) (hs : σ[i]? = some (some (.ref a))) (h : H dd = some (.xd fs)) (hl : fs.lookup f = some v) (q : Q v H) : uXf K a (.ref C) (some dd) f i σ H Q :=
  ⟨C, dd, fs, v, rfl, k, rfl, hs, h, hl, q⟩
def uRaiseO (W : WX) (C : Addr) (sp : Sp) (t : TA) : TS := fun _ σ H => t σ H fun vs H1 => vs.length ≤ 1000 ∧ ∀ a, H1 a = none → sp (.ref a :: vs) (upd H1 a (exo a C none))
  (fun v H2 => v = .non ∧ ∃ (d : Addr) (fs : List (Str × V)), H2 a = some (exo a C (some d)) ∧ H2 d = some (exd d fs) ∧ H1 d = none ∧ W (.ref C) (some d) σ (upd (del H2 a) d (.xd fs))) (fun _ _ _ => False)
structure OxC (P : Program) (w : World) (K : PySem.W.Frag) (mg : Str → Option Value) (base : Heap) (k : Nat) (x : Str) (C : Addr) (sp : Sp) : Prop where
  o : OexC K C
  g : mg x = some (.ref C)
  ex : ∃ (fI : Addr) (fd : FuncData) (ps : List Str), PySem.W.findIn K (.ref C) "__init__" = some (some (.ref fI)) ∧ PySem.W.typeIn K (.ref fI) = some (.type "function") ∧ FnOk P w K mg base CX0 k fI fd ps sp ∧ Binds K fd ps []
theorem ps_raiseO {X : Cx} {W : WX} {x : Str} {C : Addr} {sp : Sp} {k : Nat} {e : Expr} {es : List Expr} {ta : TA} {p pos pos2 : Pos} (T : OxC X.prog X.w X.K X.mg X.base k x C sp) (hr : Room (k + 1) X.A) (tk : Takes X W) (ha : PA X (e :: es) ta) (hc : X.calm = true := by rfl) (hg : Gl X x := by rfl)
    (hdb : (x == ("__debug__" : Str)) = false := by decide) (he : starEach (e :: es) X.env = (false, eval e X.env) :: starEach es X.env := by rfl) (hpl : (backTo pos (starEach es X.env)).any (·.1) = false := by rfl) :
    PS X (.Raise (some (.Call (.Name x p) (e :: es) [] pos)) none pos2) (uRaiseO W C sp ta) := by
  obtain ⟨o, g, fI, fd, ps, iC, tI, F, b⟩ := T
  have m := pmk_oex (X := X) (p := p) o iC tI F hr b .nil pass0 hg g ha hdb he hpl
  refine psOf (ps_raise (pos := pos2) hc tk m) fun D σ H h => ?_
  have e : ∀ vs : List V, vs ++ [] = vs := List.append_nil
  unfold uRaiseO at h
  show ta σ H _
  simp only [e]
  exact h
theorem r_ost {K : PySem.W.Frag} {f : Str} {to te : TE} {D : Ends} {σ : L2.St} {H : Hp} : tOst K f to te D σ H = te σ H fun y H1 => to σ H1 fun x H2 => ∃ a C : Addr, x = .ref a ∧ OexC K C ∧ PySem.W.findIn K (.ref C) f = some none ∧
  ((H2 a = some (exo a C none) ∧ ∀ dx, H2 dx = none → dx ≠ a → D.nx σ (upd (upd H2 dx (exd dx [(f, y)])) a (exo a C (some dx)))) ∨
    ∃ (dx : Addr) (fs : List (Str × V)), H2 a = some (exo a C (some dx)) ∧ H2 dx = some (exd dx fs) ∧ fs.length ≤ 900 ∧ D.nx σ (upd H2 dx (exd dx ((f, y) :: fs)))) := rfl
def spIni1 (K : PySem.W.Frag) (f : Str) : Sp := fun vs H Q _ => ∃ (a C : Addr) (x : V), vs = [.ref a, x] ∧ OexC K C ∧ PySem.W.findIn K (.ref C) f = some none ∧ H a = some (exo a C none) ∧
  ∀ dx H', H dx = none → dx ≠ a → H' a = some (exo a C (some dx)) → H' dx = some (exd dx [(f, x)]) → (∀ b u, b ≠ a → H b = some u → H' b = some u) → (∀ b, b ≠ a → b ≠ dx → H' b = H b) → Q .non H'
def spIni2 (K : PySem.W.Frag) (f g : Str) : Sp := fun vs H Q _ => ∃ (a C : Addr) (x y : V), vs = [.ref a, x, y] ∧ OexC K C ∧ PySem.W.findIn K (.ref C) f = some none ∧ PySem.W.findIn K (.ref C) g = some none ∧ H a = some (exo a C none) ∧
  ∀ dx H', H dx = none → dx ≠ a → H' a = some (exo a C (some dx)) → H' dx = some (exd dx [(g, y), (f, x)]) → (∀ b u, b ≠ a → H b = some u → H' b = some u) → (∀ b, b ≠ a → b ≠ dx → H' b = H b) → Q .non H'
theorem ini1 {K : PySem.W.Frag} {f : Str} (vs : List V) (H : Hp) (Q : VK) (E : XK) (h : spIni1 K f vs H Q E) : tOst K f (uVar 0) (uVar 1) { nx := fun _ H' => Q .non H', rt := Q } (vs.map some) H := by
  obtain ⟨a, C, x, rfl, T, n1, ea, q⟩ := h
  refine ⟨a, C, rfl, T, n1, .inl ⟨ea, fun dx hd ne => ?_⟩⟩
  refine q dx _ hd ne upd_same (by rw [upd_ne ne, upd_same]) (fun b u hb e => ?_) fun b h1 h2 => ?_
  · rw [upd_ne hb, upd_ne (ne_of_none e hd)]
    exact e
  · rw [upd_ne h1, upd_ne h2]
theorem ini2 {K : PySem.W.Frag} {f g : Str} (vs : List V) (H : Hp) (Q : VK) (E : XK) (h : spIni2 K f g vs H Q E) : tSeq (tOst K f (uVar 0) (uVar 1)) (tOst K g (uVar 0) (uVar 2)) { nx := fun _ H' => Q .non H', rt := Q } (vs.map some) H := by
  obtain ⟨a, C, x, y, rfl, T, n1, n2, ea, q⟩ := h
  refine ⟨a, C, rfl, T, n1, .inl ⟨ea, fun dx hd ne => ?_⟩⟩
  have e1 : upd (upd H dx (exd dx [(f, x)])) a (exo a C (some dx)) dx = some (exd dx [(f, x)]) := by rw [upd_ne ne, upd_same]
  refine ⟨a, C, rfl, T, n2, .inr ⟨dx, _, upd_same, e1, show 1 ≤ 900 from Nat.le_of_ble_eq_true rfl, ?_⟩⟩
  refine q dx _ hd ne (by rw [upd_ne ne.symm, upd_same]) upd_same (fun b u hb e => ?_) fun b h1 h2 => ?_
  · rw [upd_ne (ne_of_none e hd), upd_ne hb, upd_ne (ne_of_none e hd)]
    exact e
  · rw [upd_ne h2, upd_ne h1, upd_ne h2]
theorem raise1 {K : PySem.W.Frag} {W : WX} {C : Addr} {f : Str} {x : V} {D : Ends} {σ : L2.St} {H H1 : Hp} {t : TA} (T : OexC K C) (n1 : PySem.W.findIn K (.ref C) f = some none) (h : t σ H = fun Q => Q [x] H1)
    (q : ∀ d H', H1 d = none → H' d = some (.xd [(f, x)]) → L2.Same H1 H' → W (.ref C) (some d) σ H') : uRaiseO W C (spIni1 K f) t D σ H := by
  unfold uRaiseO
  rw [h]
  refine ⟨show 1 ≤ 1000 from Nat.le_of_ble_eq_true rfl, fun a ha => ⟨a, C, x, rfl, T, n1, upd_same, fun dx H' hd ne e1 e2 k _ => ⟨rfl, dx, _, e1, e2, ?_, ?_⟩⟩⟩
  · rw [upd_ne ne] at hd
    exact hd
  · rw [upd_ne ne] at hd
    refine q dx _ hd upd_same fun b u e => ?_
    have nb : b ≠ a := ne_of_none e ha
    rw [upd_ne (ne_of_none e hd), del_ne nb]
    exact k b u nb (by rw [upd_ne nb]; exact e)
theorem raise2 {K : PySem.W.Frag} {W : WX} {C : Addr} {f g : Str} {x y : V} {D : Ends} {σ : L2.St} {H H1 : Hp} {t : TA} (T : OexC K C) (n1 : PySem.W.findIn K (.ref C) f = some none) (n2 : PySem.W.findIn K (.ref C) g = some none) (h : t σ H = fun Q => Q [x, y] H1)
    (q : ∀ d H', H1 d = none → H' d = some (.xd [(g, y), (f, x)]) → L2.Same H1 H' → W (.ref C) (some d) σ H') : uRaiseO W C (spIni2 K f g) t D σ H := by
  unfold uRaiseO
  rw [h]
  refine ⟨show 2 ≤ 1000 from Nat.le_of_ble_eq_true rfl, fun a ha => ⟨a, C, x, y, rfl, T, n1, n2, upd_same, fun dx H' hd ne e1 e2 k _ => ⟨rfl, dx, _, e1, e2, ?_, ?_⟩⟩⟩
  · rw [upd_ne ne] at hd
    exact hd
  · rw [upd_ne ne] at hd
    refine q dx _ hd upd_same fun b u e => ?_
    have nb : b ≠ a := ne_of_none e ha
    rw [upd_ne (ne_of_none e hd), del_ne nb]
    exact k b u nb (by rw [upd_ne nb]; exact e)

def rCd (a : Addr) (kvs : List (Str × V)) : R2 := fun x y H Q => x = .ref a ∧ ∃ z, y = .str z ∧ @OK _ (kvs.lookup z) ⟨fun v => Q v H⟩
theorem lookup_in {z : Str} {v : V} : ∀ {l : List (Str × V)}, l.lookup z = some v → (z, v) ∈ l
  | [], e => nomatch e
  | (y, u) :: r, e => by
    rw [List.lookup_cons] at e
    cases h : z == y with
    | true =>
      rw [h] at e
      cases e
      rw [beq_iff_eq.mp h]
      exact List.mem_cons_self
    | false =>
      rw [h] at e
      exact List.mem_cons_of_mem _ (lookup_in e)
theorem ix_cd {X : Cx} {a : Addr} {kvs : List (Str × V)} (D : ∃ es n, KDict X.K X.w a es n) (hv : ∀ z v, (z, v) ∈ kvs → ∃ u, PySem.W.nsIn X.K a z = some (some u) ∧ RelV v u) : IxR X (rCd a kvs) := ixOf ix_kdict fun x y H Q q => by
  obtain ⟨rfl, z, rfl, q⟩ := q
  obtain ⟨v, e, q⟩ := OK.out q
  obtain ⟨es, n, D⟩ := D
  obtain ⟨u, e1, e2⟩ := hv z v (lookup_in e)
  exact ⟨a, z, v, rfl, rfl, ⟨es, n, u, D.at_, D.lit, e1, e2⟩, q⟩
theorem r_cd {a : Addr} {kvs : List (Str × V)} {z : Str} {H : Hp} {Q : VK} : @aR (rCd a kvs) (.ref a) (.str z) H ⟨Q⟩ = @OK _ (kvs.lookup z) ⟨fun v => Q v H⟩ := propext ⟨fun ⟨_, y, e, q⟩ => by cases e; exact q, fun q => ⟨rfl, z, rfl, q⟩⟩
theorem aM_pop {l : Addr} {H : Hp} {Q : VK} : @aM rPop (.ref l) [] H ⟨Q⟩ = @OK _ (lstO (H l)) ⟨fun xs => @OK _ xs[xs.length - 1]? ⟨fun y => @Md H l (.lst xs.dropLast) ⟨fun H' => Q y H'⟩⟩⟩ := propext ⟨fun ⟨a, xs, y, e1, _, e3, e4, q⟩ => by
    cases e1
    exact OK.by (x := xs) (by rw [e3]; rfl) (OK.by e4 fun H' n => by rw [n.eq]; exact q), fun h => by
    obtain ⟨xs, e, h⟩ := OK.out h
    obtain ⟨y, e2, h⟩ := OK.out h
    exact ⟨l, xs, y, rfl, rfl, lstO_at e, e2, h _ ⟨rfl⟩⟩⟩
theorem aM_popAt {l : Addr} {i : Int} {H : Hp} {Q : VK} : @aM rPopAt (.ref l) [.int i] H ⟨Q⟩ = @OK _ (lstO (H l)) ⟨fun xs => @Cd (-(2 ^ 63) ≤ i ∧ i < 2 ^ 63) ⟨@OK _ (seqIndex? i xs.length) ⟨fun k => @OK _ xs[k]? ⟨fun y => @Md H l (.lst (xs.eraseIdx k)) ⟨fun H' => Q y H'⟩⟩⟩⟩⟩ := propext ⟨fun ⟨a, xs, j, k, y, e1, e2, e3, b1, b2, e4, e5, q⟩ => by
    cases e1
    cases e2
    exact OK.by (x := xs) (by rw [e3]; rfl) ⟨⟨b1, b2⟩, OK.by e4 (OK.by e5 fun H' n => by rw [n.eq]; exact q)⟩, fun h => by
    obtain ⟨xs, e, h⟩ := OK.out h
    obtain ⟨k, e2, h2⟩ := OK.out h.2
    obtain ⟨y, e3, h3⟩ := OK.out h2
    exact ⟨l, xs, i, k, y, rfl, rfl, lstO_at e, h.1.1, h.1.2, e2, e3, h3 _ ⟨rfl⟩⟩⟩
theorem un_nx {D : Ends} {i : Nat} {σ : L2.St} {H : Hp} : (Ends.un D i).nx σ H = D.nx (σ.set i none) H := rfl
theorem in_some {i : Nat} {ts : Addr → Value → Option Addr → TS} {a : Addr} {cls : Value} {d : Option Addr} {D : Ends} {σ : L2.St} {H : Hp} : inSuite (some i) ts a cls d D σ H = ts a cls d (Ends.un D i) (σ.set i (some (.ref a))) H := rfl
theorem in_none {ts : Addr → Value → Option Addr → TS} {a : Addr} {cls : Value} {d : Option Addr} {D : Ends} {σ : L2.St} {H : Hp} : inSuite none ts a cls d D σ H = ts a cls d D σ H := rfl
theorem lk2a {f g : Str} {x y : V} (h : f ≠ g) : List.lookup f [(g, y), (f, x)] = some x := by
  rw [List.lookup_cons, beq_eq_false_iff_ne.mpr h]
  show List.lookup f [(f, x)] = _
  rw [List.lookup_cons, beq_self_eq_true]
theorem lk2b {g : Str} {l : List (Str × V)} {y : V} : List.lookup g ((g, y) :: l) = some y := by rw [List.lookup_cons, beq_self_eq_true]
theorem Xf.snd {K : PySem.W.Frag} {a C dd : Addr} {f g : Str} {i : Nat} {σ : L2.St} {H : Hp} {Q : VK} {x y : V} (k : XfOk K C f) (h : H dd = some (.xd [(g, y), (f, x)])) (hs : σ[i]? = some (some (.ref a))) (n : f ≠ g) (q : Q x H) : uXf K a (.ref C) (some dd) f i σ H Q := Xf.by k hs h (lk2a n) q
theorem Xf.fst {K : PySem.W.Frag} {a C dd : Addr} {g : Str} {i : Nat} {σ : L2.St} {H : Hp} {Q : VK} {y : V} {l : List (Str × V)} (k : XfOk K C g) (h : H dd = some (.xd ((g, y) :: l))) (hs : σ[i]? = some (some (.ref a))) (q : Q y H) : uXf K a (.ref C) (some dd) g i σ H Q := Xf.by k hs h lk2b q
end U
end

section
namespace U
open PySem PySem.Spec PyProof.Rows L2
theorem fo_data {K : PySem.W.Frag} {C : Addr} {o : Obj} {nm : Str} {at_ g : Value} (c : PySem.W.hasDictIn K C = true) (h1 : PySem.W.findIn K (.ref C) nm = some (some at_)) (h2 : PySem.W.specialIn K at_ "__get__" = some (some g)) (h3 : PySem.W.takesIn K at_ = some true) :
    PySem.W.findObj K C (some o) nm = some (.bind g at_) := PySem.W.findObj_data (by obtain ⟨cd, hc, _⟩ := PySem.W.any_some c; rw [hc]; rfl) h1 h2 h3
theorem cls_field {prog : Program} {w : World} {A : Around} {E : Value → Shared → Prop} {s : Shared} {K : PySem.W.Frag} {x D : Addr} {ox dob : Obj} {Q : Option Value → Shared → Prop} (T : ExcC K D) (KI : K.In s.heap) (I : PySem.W.InstAt s.heap x ox D (some dob))
    (done_ : Q (some (.ref D)) { s with toks := s.toks + 1 }) : wpAny (model prog w) A (PySem.getAttr? (.ref x) "__class__") Q E s := by
  have found := fo_data (o := dob) T.hd T.ha T.hn T.ht
  obtain ⟨hp, gg, dr, tk, oS⟩ := s
  have ty := I.type (M := model prog w)
  have isE : PySem.W.Looks (model prog w) hp (isInstance (.ref x) (.type "BaseException")) true := ty.andThen (PySem.W.looks_subIn KI T.hs)
  have noO : (Value.builtin "BaseException.__getattribute__" == Value.builtin "object.__getattribute__") = false := by decide +kernel
  have noH : (onTheHeap (Value.ref D) && Value.builtin "BaseException.__getattribute__" == Value.builtin "object.__getattribute__") = false := noO
  unfold getAttr? getAttrBy? getAttrBy
  refine wpAny_bind (wpAny_mkText (wpAny_bind (wpAny_attempt (wpAny_holding (wpAny_bind (ty.at (wpAny_bind ((PySem.W.looks_findIn KI T.hg).at ?_))))))))
  show wpAny _ _ (if (onTheHeap (Value.ref D) && Value.builtin "BaseException.__getattribute__" == Value.builtin "object.__getattribute__") = true then _ else _) _ _ _
  rw [noH, if_neg Bool.false_ne_true]
  unfold getAttrByItsOwn hookBefore
  refine wpAny_bind ?_
  rw [if_pos (show onTheHeap (.ref D) = true from by rfl)]
  refine (PySem.W.looks_findIn KI T.hk).at (wpAny_bind (wpAny_attempt (wpAny_holding ?_)))
  unfold callGetattribute
  rw [show (false && onTheHeap (Value.builtin "BaseException.__getattribute__")) = false from rfl, if_neg Bool.false_ne_true]
  unfold boundAndCalled
  rw [PySem.F.excAttr_ValueError.ga.bind (Value.ref x)]
  refine wpAny_bind (wpAny_pure ?_)
  show wpAny _ _ (call (.builtin "BaseException.__getattribute__") [.ref x, .str "__class__" tk]) _ _ _
  refine wpAny_call (codeAny_call_builtin PySem.F.excAttr_ValueError.ga.plain PySem.F.entry_bexc_ga
    (@PySem.W.check_slot (model prog w) _ _ ⟨hp, gg, dr, tk + 1, oS⟩ "BaseException.__getattribute__" "BaseException" "__getattribute__" (.ref x) [.str "__class__" tk] [] _ (by decide +kernel) (by decide +kernel) isE (PySem.F.args_bexc_ga (.ref x) (.str "__class__" tk)) ?_))
  unfold Builtin.«object.__getattribute__»
  refine wpAny_bind (wpAny_of_eq (a := ((Value.ref x : Value), [Value.str "__class__" tk])) (by first | rfl | (simp only [slotArgs]; rfl)) (wpAny_bind (wpAny_pure (wpAny_bind (ty.at (wpAny_bind ((PySem.W.looks_find KI I found).at ?_)))))))
  show wpAny _ _ (holding [Value.builtin "object.__class__"] (call (.builtin "getset_descriptor.__get__") [.builtin "object.__class__", .ref x, .ref D]) >>= ret) _ _ _
  refine wpAny_bind (wpAny_holding (wpAny_call (PySem.W.class_get (s := ⟨hp, gg, dr, tk + 1, oS⟩) (ox := ox) (od := some dob) KI I T.hm (wpAny_pure ?_))))
  show wpAny _ _ (handedOut (.ref D)) _ _ _
  rw [PySem.W.handedOut_of (v := Value.ref D) rfl]
  first
    | exact wpAny_pure (wpAny_pure done_)
    | exact wpAny_pure done_
    | exact wpAny_pure (wpAny_bind (wpAny_pure (wpAny_pure done_)))
theorem kit_field {K : PySem.W.Frag} {x D : Addr} {ox dob : Obj} (T : ExcC K D) : PySem.W.KitX K (.ref x) (.ref D) (fun h => PySem.W.InstAt h x ox D (some dob)) where
  ty := fun _ _ _ I => I.type
  it := fun _ _ KI _ => by
    obtain ⟨cd, hc, _⟩ := PySem.W.any_some T.hd
    unfold PySem.W.clsIn at hc
    split at hc
    · rename_i ho
      intro A' Q' E' s' keep q
      unfold isType loadHead
      exact wpAny_bind (wpAny_loadPart (keep _ _ (KI _ _ ho)) (wpAny_pure q))
    · cases hc
  ne := fun h tp dd its n sl KI htp => by
    obtain ⟨cd, hc, _⟩ := PySem.W.any_some T.hd
    refine Bool.eq_false_iff.mpr fun same => ?_
    have e : D = tp := Value.ref.inj (beq_iff_eq.mp same)
    rw [← e] at htp
    unfold PySem.W.clsIn at hc
    split at hc
    · rename_i ho
      have z := (KI _ _ ho).symm.trans htp
      cases z
    · cases hc
  ca := fun KI I k => cls_field T KI I k
def rIsF (K : PySem.W.Frag) (a : Addr) (cls : Value) (d : Option Addr) (c : V) (cv : Value) : List V → Hp → VK → Prop := fun xs H Q => ∃ (D : Addr) (b : Bool), cls = .ref D ∧ ExcC K D ∧ (d = none ∨ ∃ dd fs, d = some dd ∧ H dd = some (.xd fs)) ∧ xs = [.ref a, c] ∧ PySem.W.kitOne K (.ref D) cv = some b ∧ Q (.bl b) H
theorem call_isF {X : Cx} {a : Addr} {oe : Obj} {cls : Value} {d : Option Addr} {pn : List (Addr × Obj)} {c : V} {cv : Value} (hz : Zc cls d oe) (hf : ∃ vs, oe.data = .fields vs) (hc : ∀ u, RelV c u → u = cv) : CallR (X.suite a ((a, oe) :: pn)) (.builtin "isinstance") (rIsF X.K a cls d c cv) := by
  intro pins s σ H xs us Q I r h
  obtain ⟨D, b, rfl, T, hd, rfl, e, q⟩ := h
  rcases hd with rfl | ⟨dd, fs, rfl, hx⟩
  · exact call_isE T hz hf pins s σ H _ us Q I r ⟨c, cv, b, rfl, hc, e, q⟩
  · cases r with
    | cons rx rr => cases rr with
      | cons rt rr =>
        cases rr
        cases rx
        have ec := hc _ rt
        subst ec
        obtain ⟨at1, _⟩ := I.pin (a, oe) (List.mem_append.mpr (.inl List.mem_cons_self))
        obtain ⟨vs, hv⟩ := hf
        have hx2 : ObjOk X.prog X.w H s.heap dd (.xd fs) := I.hok dd _ hx
        obtain ⟨mA, hns, _⟩ := hx2
        obtain ⟨od, ho, _⟩ := lookIn_ns hns
        have J : PySem.W.InstAt s.heap a oe D (some od) := ⟨at1, hz.1, by unfold PySem.W.notCls; rw [hv] <;> rfl, by rw [hz.2]; exact ho⟩
        exact PySem.W.kia_one (kit_field T) I.kIn J e (fun z => nomatch z) fun tk => ⟨.bl b, H, I.kept (t' := tk) fun _ _ z => z, rfl, q⟩
theorem r_isF {K : PySem.W.Frag} {a D : Addr} {d : Option Addr} {c : V} {cv : Value} {b : Bool} {H : Hp} {Q : VK} (T : ExcC K D) (hd : d = none ∨ ∃ dd fs, d = some dd ∧ H dd = some (.xd fs)) (e : PySem.W.kitOne K (.ref D) cv = some b) (q : Q (.bl b) H) : @aC (rIsF K a (.ref D) d c cv) [.ref a, c] H ⟨Q⟩ := ⟨D, b, rfl, T, hd, rfl, e, q⟩
theorem rel_ref {c : Addr} : ∀ u, RelV (.ref c) u → u = .ref c := fun _ z => z
theorem rel_ty {n : String} : ∀ u, RelV (.ty n) u → u = .type n := fun _ z => z
end U
end

section
namespace Hd
open PySem PySem.Spec PyProof.Rows L2 He
def obsU (fa : List Fa) (fn : List DefD) (ex : PySem.W.Frag → Bool) (K : PySem.W.Frag) : AlD := ((fa.all fun f => f.ok K) && (ex K && fn.all fun d => d.ok K), fn.map fun d => fnW K d.at_)
def SaysU (fa : List Fa) (fn : List DefD) (ex : PySem.W.Frag → Bool) (K : PySem.W.Frag) : Prop := obsU fa fn ex K = valD fn
def obsUG (n : Nat) (fa : List Fa) (fn : List DefD) (ex : PySem.W.Frag → Bool) (g : Addr → Option Obj) : AlD := obsU fa fn ex (frG g (asD g n ++ [PySem.cStatics]))
def hookU (n : Nat) (fa : List Fa) (fn : List DefD) (ex : PySem.W.Frag → Bool) : PySem.W.Hook where
  α := AlD
  obs := fun s => obsUG n fa fn ex s.heap.get?
  val := fun _ => valD fn
  says := fun _ h => ∃ K : PySem.W.Frag, K.In h ∧ SaysU fa fn ex K
  of := fun _ _ e => ⟨_, frG_in, e⟩
  keeps := fun _ _ _ ⟨K, hK, c⟩ k => ⟨K, PySem.W.Frag.In.keeps hK k, c⟩
theorem obsUG_eq {n : Nat} {fa : List Fa} {fn : List DefD} {ex : PySem.W.Frag → Bool} {g : Addr → Option Obj} {s : Shared} (h : ∀ a, g a = s.heap.get? a) : obsUG n fa fn ex g = (hookU n fa fn ex).obs s := by
  have e : g = s.heap.get? := funext h
  rw [e] <;> rfl
section
variable {fa : List Fa} {fn : List DefD} {ex : PySem.W.Frag → Bool} {K : PySem.W.Frag}
theorem SaysU.fact (c : SaysU fa fn ex K) (i : Nat) {f : Fa} (h : fa[i]? = some f := by rfl) : f.ok K = true := by
  have c1 := (ba (show ((fa.all fun f => f.ok K) && (ex K && fn.all fun d => d.ok K)) = true from congrArg (fun z : AlD => z.1) c)).1
  exact List.all_eq_true.mp c1 f (List.mem_of_getElem? h)
theorem SaysU.more (c : SaysU fa fn ex K) : ex K = true := (ba (ba (show ((fa.all fun f => f.ok K) && (ex K && fn.all fun d => d.ok K)) = true from congrArg (fun z : AlD => z.1) c)).2).1
theorem SaysU.def_ (c : SaysU fa fn ex K) (i : Nat) {d : DefD} (h : fn[i]? = some d := by rfl) : ∃ fd, FunD K d.name d.qual d.params d.body d.scope (d.dvs K) (d.kws K) (fAd K d.at_) fd := by
  have c2 := (ba (ba (show ((fa.all fun f => f.ok K) && (ex K && fn.all fun d => d.ok K)) = true from congrArg (fun z : AlD => z.1) c)).2).2
  have e : fn.map (fun d => fnW K d.at_) = fn.map DefD.val := congrArg (fun z : AlD => z.2) c
  have e2 : (fn.map fun d => fnW K d.at_)[i]? = (fn.map DefD.val)[i]? := by rw [e]
  rw [List.getElem?_map, List.getElem?_map, h] at e2
  exact DefD.funD (Option.some.inj e2) (List.all_eq_true.mp c2 d (List.mem_of_getElem? h))
end
def ctupB (K : PySem.W.Frag) (x : Str) (vs : List V) : Bool := (Fa.glo x).ok K && tupB K x (vs.map fun v => match v with | .str z => .str z | .int i => .int i | .bl b => .bl b | _ => .non)
theorem ctupB_ok {K : PySem.W.Frag} {x : Str} {vs : List V} (h : ctupB K x vs = true) (hv : (vs.map fun v => (match v with | .str z => .str z | .int i => .int i | .bl b => .bl b | _ => .non : Dv)).map (Dv.v K) = vs) :
    (Fa.glo x).ok K = true ∧ ∀ H, SqT K H (ga K x) vs := by
  obtain ⟨h1, h2⟩ := ba h
  refine ⟨h1, fun H => ?_⟩
  have := tupB_ok h2 H
  rw [hv] at this
  exact this
def cvalB (K : PySem.W.Frag) (c f : Str) (v : V) : Bool := PySem.W.readsIn K (ga K c) (.type "type") && (eqO (PySem.W.specialIn K (.ref (ga K c)) "__getattribute__") (some (some (.builtin "type.__getattribute__"))) && (match PySem.W.findCls K (.ref (ga K c)) (.type "type") f with
  | some (.val u) => relB v u
  | _ => false))
theorem cvalB_ok {K : PySem.W.Frag} {c f : Str} {v : V} (h : cvalB K c f v = true) : ClX.CRead K (ga K c) (.type "type") ∧ ∃ u, ClX.CVal K (ga K c) (.type "type") f v u := by
  obtain ⟨h1, h⟩ := ba h
  obtain ⟨h2, h3⟩ := ba h
  refine ⟨⟨h1, eqO_ok h2⟩, ?_⟩
  split at h3
  · rename_i u e
    exact ⟨u, e, relB_ok h3⟩
  · cases h3
structure DefU where
  ad : PySem.W.Frag → Addr
  nm : Str
  qn : Str
  ps : Arguments
  bd : List Stmt
  sc : Scope
  dfl : List Dv := []
  kwd : List (Str × Dv) := []
def fdAt (K : PySem.W.Frag) (a : Addr) : Option FuncData := (K.lookup a).bind fun o => match o.data with
  | .func g => some g
  | _ => none
def DefU.obs (K : PySem.W.Frag) (d : DefU) : FnW := (fdAt K (d.ad K)).map fun g => (g.name, g.qualname, g.params, g.body, g.scope, g.globals, g.closure, g.builtins)
def DefU.due (d : DefU) : FnW := some (d.nm, d.qn, d.ps, .stmts d.bd, d.sc, mainGlobals, [], builtinsNs)
def DefU.dvs (K : PySem.W.Frag) (d : DefU) : List V := d.dfl.map (Dv.v K)
def DefU.kws (K : PySem.W.Frag) (d : DefU) : List (Str × V) := d.kwd.map fun q => (q.1, q.2.v K)
def DefU.fine (K : PySem.W.Frag) (d : DefU) : Bool := match fdAt K (d.ad K) with
  | some g => PySem.W.keepIn K (.ref (d.ad K)) && (PySem.W.codeIn K g.code d.qn && (dflB K g.defaults (d.dvs K) && kwdB K g.kwdefaults (d.kws K)))
  | none => false
theorem DefU.says {K : PySem.W.Frag} {d : DefU} (e : d.obs K = d.due) (c : d.fine K = true) : ∃ g, FunD K d.nm d.qn d.ps d.bd d.sc (d.dvs K) (d.kws K) (d.ad K) g := by
  cases ea : fdAt K (d.ad K) with
  | none => unfold DefU.fine at c; rw [ea] at c; cases c
  | some g =>
    unfold DefU.fine at c
    unfold DefU.obs DefU.due at e
    rw [ea] at c e
    obtain ⟨b1, c⟩ := ba c
    obtain ⟨b2, c⟩ := ba c
    obtain ⟨b3, b4⟩ := ba c
    unfold fdAt at ea
    cases ek : K.lookup (d.ad K) with
    | none => rw [ek] at ea; cases ea
    | some o =>
      rw [ek] at ea
      rcases o with ⟨w1, w2, w3, w4⟩
      cases w3 <;> first | cases ea | skip
      have e := Option.some.inj e
      simp only [Prod.mk.injEq] at e
      rcases g with ⟨g1, g2, g3, g4, g5, g6, g7, g8, g9, g10, g11, g12, g13, g14, g15⟩
      simp only at e b2 b3 b4
      obtain ⟨u1, u2, u3, u4, u5, u6, u7, u8⟩ := e
      subst u1 u2 u3 u4 u5 u6 u7 u8
      exact ⟨_, ⟨w1, w2, g8, g9, g10, g11, g12, g13, g14, w4, rfl, ek, b2, dflB_ok b3, kwdB_ok b4⟩, b1⟩
abbrev AlV : Type := AlD × List (Option (List (Option (Str × Int))))
def obsV (fa : List Fa) (fn : List DefU) (ts : List Tab) (ex : PySem.W.Frag → Bool) (K : PySem.W.Frag) : AlV := (((fa.all fun f => f.ok K) && (ex K && fn.all fun d => d.fine K), fn.map fun d => d.obs K), ts.map fun t => dicW K (t.1 K))
def dueV (fn : List DefU) (ts : List Tab) (w : World) : AlV := ((true, fn.map DefU.due), ts.map fun t => some (keysIn w.params t.2))
def SaysV (fa : List Fa) (fn : List DefU) (ts : List Tab) (ex : PySem.W.Frag → Bool) (w : World) (K : PySem.W.Frag) : Prop := obsV fa fn ts ex K = dueV fn ts w
def obsVG (n : Nat) (fa : List Fa) (fn : List DefU) (ts : List Tab) (ex : PySem.W.Frag → Bool) (g : Addr → Option Obj) : AlV := obsV fa fn ts ex (frG g (asD g n ++ [PySem.cStatics]))
def hookV (n : Nat) (fa : List Fa) (fn : List DefU) (ts : List Tab) (ex : PySem.W.Frag → Bool) : PySem.W.Hook where
  α := AlV
  obs := fun s => obsVG n fa fn ts ex s.heap.get?
  val := fun w => dueV fn ts w
  says := fun w h => ∃ K : PySem.W.Frag, K.In h ∧ SaysV fa fn ts ex w K
  of := fun _ _ e => ⟨_, frG_in, e⟩
  keeps := fun _ _ _ ⟨K, hK, c⟩ k => ⟨K, PySem.W.Frag.In.keeps hK k, c⟩
theorem obsVG_eq {n : Nat} {fa : List Fa} {fn : List DefU} {ts : List Tab} {ex : PySem.W.Frag → Bool} {g : Addr → Option Obj} {s : Shared} (h : ∀ a, g a = s.heap.get? a) : obsVG n fa fn ts ex g = (hookV n fa fn ts ex).obs s := by
  rw [show g = s.heap.get? from funext h] <;> rfl
section
variable {fa : List Fa} {fn : List DefU} {ts : List Tab} {ex : PySem.W.Frag → Bool} {w : World} {K : PySem.W.Frag}
theorem SaysV.both (c : SaysV fa fn ts ex w K) : (fa.all fun f => f.ok K) = true ∧ ex K = true ∧ (fn.all fun d => d.fine K) = true := by
  have c1 : ((fa.all fun f => f.ok K) && (ex K && fn.all fun d => d.fine K)) = true := congrArg (fun z : AlV => z.1.1) c
  exact ⟨(ba c1).1, ba (ba c1).2⟩
theorem SaysV.fact (c : SaysV fa fn ts ex w K) (i : Nat) {f : Fa} (h : fa[i]? = some f := by rfl) : f.ok K = true := List.all_eq_true.mp c.both.1 f (List.mem_of_getElem? h)
theorem SaysV.more (c : SaysV fa fn ts ex w K) : ex K = true := c.both.2.1
theorem SaysV.def_ (c : SaysV fa fn ts ex w K) (i : Nat) {d : DefU} (h : fn[i]? = some d := by rfl) : ∃ g, FunD K d.nm d.qn d.ps d.bd d.sc (d.dvs K) (d.kws K) (d.ad K) g := by
  have e : fn.map (fun d => d.obs K) = fn.map DefU.due := congrArg (fun z : AlV => z.1.2) c
  have e2 := congrArg (fun l : List FnW => l[i]?) e
  simp only [List.getElem?_map, h, Option.map_some] at e2
  exact DefU.says (Option.some.inj e2) (List.all_eq_true.mp c.both.2.2 d (List.mem_of_getElem? h))
theorem SaysV.tab (c : SaysV fa fn ts ex w K) (i : Nat) {t : Tab} (h : ts[i]? = some t := by rfl) : ∃ es n, KDict K w (t.1 K) es n := by
  have e2 := congrArg (fun z : AlV => z.2[i]?) c
  simp only [obsV, dueV, List.getElem?_map, h, Option.map_some, Option.some.injEq] at e2
  exact dicW_ok e2
end
def tabVB (K : PySem.W.Frag) (a : Addr) (kvs : List (Str × V)) : Bool := kvs.all fun q => match PySem.W.nsIn K a q.1 with
  | some (some u) => relB q.2 u
  | _ => false
theorem tabVB_ok {K : PySem.W.Frag} {a : Addr} {kvs : List (Str × V)} (h : tabVB K a kvs = true) : ∀ z v, (z, v) ∈ kvs → ∃ u, PySem.W.nsIn K a z = some (some u) ∧ RelV v u := fun z v hm => by
  have h1 := List.all_eq_true.mp h _ hm
  split at h1
  · rename_i u e
    exact ⟨u, e, relB_ok h1⟩
  · cases h1
def excCB (K : PySem.W.Frag) (D : Addr) : Bool :=
  eqO (PySem.W.findIn K (.ref D) "__getattribute__") (some (some (.builtin "BaseException.__getattribute__"))) && (eqO (PySem.W.findIn K (.ref D) "__getattr__") (some none) && (decide (PySem.W.subIn K (.ref D) (.type "BaseException") = some true) && (PySem.W.hasDictIn K D &&
  (eqO (PySem.W.findIn K (.ref D) "__class__") (some (some (.builtin "object.__class__"))) && (eqO (PySem.W.specialIn K (.builtin "object.__class__") "__get__") (some (some (.builtin "getset_descriptor.__get__"))) && (decide (PySem.W.takesIn K (.builtin "object.__class__") = some true) &&
  decide (PySem.W.mroIn K D (.type "object") = some true)))))))
theorem excCB_ok {K : PySem.W.Frag} {D : Addr} (h : excCB K D = true) : ExcC K D := by
  obtain ⟨h1, h⟩ := ba h
  obtain ⟨h2, h⟩ := ba h
  obtain ⟨h3, h⟩ := ba h
  obtain ⟨h4, h⟩ := ba h
  obtain ⟨h5, h⟩ := ba h
  obtain ⟨h6, h⟩ := ba h
  obtain ⟨h7, h8⟩ := ba h
  exact ⟨eqO_ok h1, eqO_ok h2, of_decide_eq_true h3, h4, eqO_ok h5, eqO_ok h6, of_decide_eq_true h7, of_decide_eq_true h8⟩
def kitB (K : PySem.W.Frag) (c d : Addr) (b : Bool) : Bool := decide (PySem.W.kitOne K (.ref c) (.ref d) = some b)
theorem kitB_ok {K : PySem.W.Frag} {c d : Addr} {b : Bool} (h : kitB K c d b = true) : PySem.W.kitOne K (.ref c) (.ref d) = some b := of_decide_eq_true h
def exmB (K : PySem.W.Frag) (c d : Addr) (b : Bool) : Bool := decide (PySem.W.exmOne K (.ref c) (.ref d) = some b)
theorem exmB_ok {K : PySem.W.Frag} {c d : Addr} {b : Bool} (h : exmB K c d b = true) : PySem.W.exmOne K (.ref c) (.ref d) = some b := of_decide_eq_true h
def insTB (K : PySem.W.Frag) (D : Addr) : Bool :=
  PySem.W.plainGet K D Str.empty && (PySem.W.hasDictIn K D && (PySem.W.plainOver K D && (eqO (PySem.W.findIn K (.ref D) "__setattr__") (some (some (.builtin "object.__setattr__"))) &&
  (eqO (PySem.W.findIn K (.ref D) "__class__") (some (some (.builtin "object.__class__"))) && (eqO (PySem.W.specialIn K (.builtin "object.__class__") "__get__") (some (some (.builtin "getset_descriptor.__get__"))) && (decide (PySem.W.takesIn K (.builtin "object.__class__") = some true) &&
  decide (PySem.W.mroIn K D (.type "object") = some true)))))))
theorem insTB_ok {K : PySem.W.Frag} {D : Addr} (h : insTB K D = true) : U.InsT K D := by
  obtain ⟨h1, h⟩ := ba h
  obtain ⟨h2, h⟩ := ba h
  obtain ⟨h3, h⟩ := ba h
  obtain ⟨h4, h⟩ := ba h
  obtain ⟨h5, h⟩ := ba h
  obtain ⟨h6, h⟩ := ba h
  obtain ⟨h7, h8⟩ := ba h
  exact ⟨⟨h1, h2, h3, eqO_ok h4⟩, eqO_ok h5, eqO_ok h6, of_decide_eq_true h7, of_decide_eq_true h8⟩
def isoB (K : PySem.W.Frag) (C : Addr) : Bool := ([.non, .bl, .int, .str, .lst, .tup, .dict].all fun t : U.Ty => decide (PySem.W.kitOne K (.type t.name) (.ref C) = some false)) && (insTB K C && kitB K C C true)
theorem isoB_ok {K : PySem.W.Frag} {C : Addr} (h : isoB K C = true) : U.IsO K C (fun D => if D = C then some true else none) := by
  obtain ⟨h1, h⟩ := ba h
  obtain ⟨h2, h3⟩ := ba h
  refine ⟨fun t => of_decide_eq_true (List.all_eq_true.mp h1 t (by cases t <;> decide)), fun D b e => ?_⟩
  by_cases z : D = C
  · subst z
    rw [if_pos rfl] at e
    cases e
    exact ⟨insTB_ok h2, kitB_ok h3⟩
  · rw [if_neg z] at e
    cases e
def smR (K : PySem.W.Frag) (C : Addr) (m : Str) : Addr := match PySem.W.findCls K (.ref C) (.type "type") m with
  | some (.get _ (.ref p) _ _) => p
  | _ => 0
def smG (K : PySem.W.Frag) (C : Addr) (m : Str) : Addr := match PySem.W.recIn K (smR K C m) "staticmethod" with
  | some (.ref g :: _) => g
  | _ => 0
def smB (K : PySem.W.Frag) (C : Addr) (m : Str) : Bool := PySem.W.readsIn K C (.type "type") && (eqO (PySem.W.specialIn K (.ref C) "__getattribute__") (some (some (.builtin "type.__getattribute__"))) &&
  ((match PySem.W.findCls K (.ref C) (.type "type") m with
  | some (.get a b c d) => decide (a = .builtin "staticmethod.__get__" ∧ b = .ref (smR K C m) ∧ c = .none ∧ d = .ref C)
  | _ => false) && ((match PySem.W.recIn K (smR K C m) "staticmethod" with
  | some (x :: _) => decide (x = .ref (smG K C m))
  | _ => false) && PySem.W.keepIn K (.ref (smG K C m)))))
theorem smB_ok {K : PySem.W.Frag} {C : Addr} {m : Str} (h : smB K C m = true) : U.SMet K C m (smR K C m) (smG K C m) := by
  obtain ⟨h1, h⟩ := ba h
  obtain ⟨h2, h⟩ := ba h
  obtain ⟨h3, h⟩ := ba h
  obtain ⟨h4, h5⟩ := ba h
  refine ⟨⟨h1, eqO_ok h2⟩, ?_, ?_, h5⟩
  · split at h3
    · rename_i a b c d e
      obtain ⟨z1, z2, z3, z4⟩ := of_decide_eq_true h3
      rw [e, z1, z2, z3, z4]
    · cases h3
  · split at h4
    · rename_i x r e
      exact ⟨r, by rw [e, of_decide_eq_true h4]⟩
    · cases h4
def oexB (K : PySem.W.Frag) (C : Addr) : Bool := (match K.lookup C with
  | some ob => (match ob.data with
    | .cls cd => (match cd.mro, ob.slots.toList with
      | .ref D :: bm, [_, _, _, _, some (.builtin nw), _] => decide (ob.cls = .type "type") && (decide (D = C) && (decide (nw = "ValueError.__new__") && (!cd.hasDel && (cd.hasDict && PySem.HandSPX.refsVE bm))))
      | _, _ => false)
    | _ => false)
  | none => false) && (eqO (PySem.W.findIn K (.ref C) "__setattr__") (some (some (.builtin "object.__setattr__"))) && (decide (PySem.W.subIn K (.ref C) (.type "BaseException") = some true) && (decide (PySem.W.typeIn K (.ref C) = some (.type "type")) && PySem.W.keepIn K (.ref C))))
theorem oexB_ok {K : PySem.W.Frag} {C : Addr} (h : oexB K C = true) : OexC K C := by
  obtain ⟨h1, h⟩ := ba h
  obtain ⟨h2, h⟩ := ba h
  obtain ⟨h3, h⟩ := ba h
  obtain ⟨h4, h5⟩ := ba h
  refine ⟨?_, eqO_ok h2, of_decide_eq_true h3, of_decide_eq_true h4, h5⟩
  split at h1
  · rename_i ob eo
    split at h1
    · rename_i cd ed
      split at h1
      · rename_i D bm k0 k1 k2 k3 nw k5 em es
        obtain ⟨a1, h1⟩ := ba h1
        obtain ⟨a2, h1⟩ := ba h1
        obtain ⟨a3, h1⟩ := ba h1
        obtain ⟨a4, h1⟩ := ba h1
        obtain ⟨a5, a6⟩ := ba h1
        have a1 := of_decide_eq_true a1
        have a2 := of_decide_eq_true a2
        have a3 := of_decide_eq_true a3
        rcases ob with ⟨oc, od, odt, osl⟩
        rcases cd with ⟨c1, c2, c3, c4, c5, c6, c7, c8, c9, c10, c11⟩
        simp only at a1 ed em es a4 a5
        subst a1 a2 a3 ed em
        have a4 : c11 = false := by simpa using a4
        subst a4 a5
        have e : osl = #[k0, k1, k2, k3, some (.builtin "ValueError.__new__"), k5] := by
          rcases osl with ⟨l⟩
          simp only at es
          rw [es]
        subst e
        exact ⟨_, _, _, _, _, _, _, _, _, _, _, _, _, _, _, eo, a6⟩
      · cases h1
    · cases h1
  · cases h1
def iniA (K : PySem.W.Frag) (C : Addr) : Addr := He.ma K C "__init__"
def oxB (K : PySem.W.Frag) (C B : Addr) : Bool := oexB K C && (eqO (PySem.W.findIn K (.ref C) "__init__") (some (some (.ref (iniA K B)))) && decide (PySem.W.typeIn K (.ref (iniA K B)) = some (.type "function")))
theorem oxB_ok {K : PySem.W.Frag} {C B : Addr} (h : oxB K C B = true) : OexC K C ∧ PySem.W.findIn K (.ref C) "__init__" = some (some (.ref (iniA K B))) ∧ PySem.W.typeIn K (.ref (iniA K B)) = some (.type "function") := by
  obtain ⟨h1, h⟩ := ba h
  obtain ⟨h2, h3⟩ := ba h
  exact ⟨oexB_ok h1, eqO_ok h2, of_decide_eq_true h3⟩
def xfoB (K : PySem.W.Frag) (C : Addr) (f : Str) : Bool := xfB K C && eqO (PySem.W.findIn K (.ref C) f) (some none)
theorem xfoB_ok {K : PySem.W.Frag} {C : Addr} {f : Str} (h : xfoB K C f = true) : U.XfOk K C f := ⟨xfB_ok (ba h).1, eqO_ok (ba h).2⟩
def noB (K : PySem.W.Frag) (C : Addr) (f : Str) : Bool := eqO (PySem.W.findIn K (.ref C) f) (some none)
theorem noB_ok {K : PySem.W.Frag} {C : Addr} {f : Str} (h : noB K C f = true) : PySem.W.findIn K (.ref C) f = some none := eqO_ok h
def ww (w : World) (b : Bool) : World := { w with params := { w.params with followText := fun r => match r == "special-get-raises" with | true => b | false => w.params.followText r } }
theorem wwe (w : World) (b : Bool) (h : w.params.followText "special-get-raises" = b) : ww w b = w := by
  subst h
  obtain ⟨dr, pr⟩ := w
  unfold ww
  congr 1
  cases pr
  simp only
  congr 1
  funext r
  cases e : r == "special-get-raises" with
  | true => rw [beq_iff_eq.mp e]
  | false => rfl
end Hd
end

section
namespace U
open PySem PySem.Spec PyProof.Rows L2
theorem tyV_non {H : Hp} : tyV H .non = some .non := rfl
theorem tyV_bl {H : Hp} {b : Bool} : tyV H (.bl b) = some .bl := rfl
theorem tyV_int {H : Hp} {i : Int} : tyV H (.int i) = some .int := rfl
theorem tyV_str {H : Hp} {z : Str} : tyV H (.str z) = some .str := rfl
theorem tyV_ref {H : Hp} {p : Addr} : tyV H (.ref p) = match H p with
    | some (.lst _) => some .lst
    | some (.tup _) => some .tup
    | some (.dK _) => some .dict
    | some (.dT _) => some .dict
    | _ => none := rfl
theorem tyRef {H : Hp} {p : Addr} (h : (tyV H (.ref p)).isSome = true) : ∃ t, tyV H (.ref p) = some t ∧ t.isa .str = false ∧ t.isa .int = false ∧ t.isa .bl = false := by
  rw [tyV_ref] at h ⊢
  split at h
  · exact ⟨_, rfl, rfl, rfl, rfl⟩
  · exact ⟨_, rfl, rfl, rfl, rfl⟩
  · exact ⟨_, rfl, rfl, rfl, rfl⟩
  · exact ⟨_, rfl, rfl, rfl, rfl⟩
  · cases h
theorem atI_at {xs : List V} {j : Nat} {v : V} (h : xs[j]? = some v) : atI xs (j : Int) = some v := atI_nat h
theorem atI_0 {x : V} {l : List V} : atI (x :: l) 0 = some x := atI_nat (j := 0) rfl
theorem atI_1 {x y : V} {l : List V} : atI (x :: y :: l) 1 = some y := atI_nat (j := 1) rfl
theorem atI_2 {x y z : V} {l : List V} : atI (x :: y :: z :: l) 2 = some z := atI_nat (j := 2) rfl
theorem atI_3 {x y z u : V} {l : List V} : atI (x :: y :: z :: u :: l) 3 = some u := atI_nat (j := 3) rfl
theorem natc : ((0 : Nat) : Int) = 0 ∧ ((1 : Nat) : Int) = 1 ∧ ((2 : Nat) : Int) = 2 ∧ ((3 : Nat) : Int) = 3 ∧ ((4 : Nat) : Int) = 4 ∧ ((5 : Nat) : Int) = 5 ∧ ((6 : Nat) : Int) = 6 ∧ ((7 : Nat) : Int) = 7 ∧ ((8 : Nat) : Int) = 8 ∧ ((9 : Nat) : Int) = 9 ∧ ((10 : Nat) : Int) = 10 ∧ ((11 : Nat) : Int) = 11 ∧ ((12 : Nat) : Int) = 12 ∧ ((13 : Nat) : Int) = 13 ∧ ((14 : Nat) : Int) = 14 ∧ ((15 : Nat) : Int) = 15 ∧ ((16 : Nat) : Int) = 16 ∧ ((17 : Nat) : Int) = 17 ∧ ((18 : Nat) : Int) = 18 ∧ ((19 : Nat) : Int) = 19 ∧ ((20 : Nat) : Int) = 20 ∧ ((21 : Nat) : Int) = 21 ∧ ((22 : Nat) : Int) = 22 ∧ ((23 : Nat) : Int) = 23 ∧ ((24 : Nat) : Int) = 24 ∧ ((25 : Nat) : Int) = 25 ∧ ((26 : Nat) : Int) = 26 ∧ ((27 : Nat) : Int) = 27 ∧ ((28 : Nat) : Int) = 28 ∧ ((29 : Nat) : Int) = 29 ∧ ((30 : Nat) : Int) = 30 := by decide
theorem ixN_lit : ixN 4 0 = some 0 ∧ ixN 4 1 = some 1 ∧ ixN 4 2 = some 2 ∧ ixN 4 3 = some 3 := by decide
theorem inV_int2 : inV (.int 0) [.int 1, .int 2] = false ∧ inV (.int 1) [.int 1, .int 2] = true ∧ inV (.int 2) [.int 1, .int 2] = true := ⟨rfl, rfl, rfl⟩
theorem scal_tab : (∀ a b, scal (.int a) (.int b) = true) ∧ (∀ a b, scal (.str a) (.str b) = true) ∧ (∀ a b, scal (.bl a) (.bl b) = true) ∧ (∀ a b, scal (.int a) (.str b) = true) ∧ (∀ a b, scal (.str a) (.int b) = true) ∧ scal .non .non = true ∧
  (∀ a, scal .non (.str a) = true) ∧ (∀ a, scal .non (.int a) = true) ∧ (∀ a, scal (.str a) .non = true) ∧ (∀ a, scal (.int a) .non = true) ∧ (∀ a b, scal (.str a) (.bl b) = true) ∧ (∀ a b, scal (.bl a) (.str b) = true) := ⟨fun _ _ => rfl, fun _ _ => rfl, fun _ _ => rfl, fun _ _ => rfl, fun _ _ => rfl, rfl, fun _ => rfl, fun _ => rfl, fun _ => rfl, fun _ => rfl, fun _ _ => rfl, fun _ _ => rfl⟩
theorem flat_tab : (∀ a, flatV (.int a) = true) ∧ (∀ a, flatV (.str a) = true) ∧ (∀ a, flatV (.bl a) = true) ∧ flatV .non = true := ⟨fun _ => rfl, fun _ => rfl, fun _ => rfl, rfl⟩
theorem map_toNat_inj : ∀ {l m : List Char}, l.map Char.toNat = m.map Char.toNat → l = m
  | [], [], _ => rfl
  | [], _ :: _, h => by cases h
  | _ :: _, [], h => by cases h
  | c :: l, d :: m, h => by
    rw [List.map_cons, List.map_cons, List.cons.injEq] at h
    rw [map_toNat_inj h.2, Char.ext (UInt32.toNat_inj.mp h.1)]
theorem ofs_inj {a b : String} : (Str.ofString a = Str.ofString b) = (a = b) := propext ⟨fun h => by
    have h1 : TL.tl (Str.ofString a) = TL.tl (Str.ofString b) := by rw [h]
    rw [TL.tl_ofString, TL.tl_ofString] at h1
    exact String.toList_inj.mp (map_toNat_inj h1), fun h => by rw [h]⟩
theorem optEx {α : Type} {a : α} {P : α → Prop} : (∃ v, some a = some v ∧ P v) = P a := by simp
local macro_rules | `(tactic| k_subL) => `(tactic| simp only [tSeq, tIfS, tOr, tAnd, tNot, tB, tCB, tCons, tNil, tC, uVar, tRet, tNext, tTest, tOp, tChain, tAsg, gName, gSub, tDrop, tTup, tLst, tSl, tNoPart, uPart, tUn, rU, tAndV, tOrV, tNotV, uTru, rTruU, uCall, tBM, tBM0,
  rIsi, tyV_non, tyV_bl, tyV_int, tyV_str, Ty.name, isa_tab, rInt, rIntC, rLenU, rLeU, rLtU, rGeU, rGtU, rAddU, rAddI, rAddS, rAddL, rAddT, rSubU, rMulI, rDivU, rModU, rPowU, rEqS, rNeS, rIxU, rInU, rInG, rIntCall, rListU, rTupleU, rIsNU, rNotNU, rSlU, tYes, wipe, rSetU, ixN_lit, rAppend, atI_0, atI_1, atI_2, atI_3, Option.some.injEq, List.length_cons, List.length_nil, Nat.zero_add, Nat.reduceAdd, natc, Int.reduceLE, Int.reduceLT, Int.reduceEq, Int.reduceSub, Int.reduceAdd, Int.reduceNeg, decide_true, decide_false, Bool.false_xor, Bool.true_xor, scal_tab, flat_tab, inV_int2, List.all_cons, List.all_nil, Bool.and_self, Bool.and_true, Bool.true_and, ofs_inj, String.reduceEq, for_U, for_R1, for_R2, lc_U, lc_R1, lc_R2,
  List.cons.injEq, and_true, true_and, and_self, V.ty.injEq, V.bl.injEq, V.int.injEq, V.str.injEq, V.ref.injEq, List.nil_append, List.append_nil, List.cons_append, exists_const,
  List.getElem?_cons_zero, List.getElem?_cons_succ, List.set_cons_zero, List.set_cons_succ, exists_eq_left', exists_eq_left, Bool.not_true, Bool.not_false, if_true, if_false, Bool.false_eq_true, Bool.true_eq_false, reduceCtorEq, exists_and_left, exists_eq_right', *])
local macro_rules | `(tactic| k_clsL) => `(tactic| simp only [seqAt, tyV_ref, tSeq, tIfS, tOr, tAnd, tNot, tB, tCB, tCons, tNil, tC, uVar, tRet, tNext, tTest, tOp, tChain, tAsg, gName, gSub, tDrop, tTup, tLst, tSl, tNoPart, uPart, tUn, rU, tAndV, tOrV, tNotV, uTru, rTruU, uCall, tBM, tBM0,
  rIsi, tyV_non, tyV_bl, tyV_int, tyV_str, Ty.name, isa_tab, rInt, rIntC, rLenU, rLeU, rLtU, rGeU, rGtU, rAddU, rAddI, rAddS, rAddL, rAddT, rSubU, rMulI, rDivU, rModU, rPowU, rEqS, rNeS, rIxU, rInU, rInG, rIntCall, rListU, rTupleU, rIsNU, rNotNU, rSlU, tYes, wipe, rSetU, ixN_lit, rAppend, atI_0, atI_1, atI_2, atI_3, Option.some.injEq, List.length_cons, List.length_nil, Nat.zero_add, Nat.reduceAdd, natc, Int.reduceLE, Int.reduceLT, Int.reduceEq, Int.reduceSub, Int.reduceAdd, Int.reduceNeg, decide_true, decide_false, Bool.false_xor, Bool.true_xor, scal_tab, flat_tab, inV_int2, List.all_cons, List.all_nil, Bool.and_self, Bool.and_true, Bool.true_and, ofs_inj, String.reduceEq, for_U, for_R1, for_R2, lc_U, lc_R1, lc_R2,
  List.cons.injEq, and_true, true_and, and_self, V.ty.injEq, V.bl.injEq, V.int.injEq, V.str.injEq, V.ref.injEq, List.nil_append, List.append_nil, List.cons_append, exists_const,
  List.getElem?_cons_zero, List.getElem?_cons_succ, List.set_cons_zero, List.set_cons_succ, exists_eq_left', exists_eq_left, Bool.not_true, Bool.not_false, if_true, if_false, Bool.false_eq_true, Bool.true_eq_false, reduceCtorEq, exists_and_left, exists_eq_right', *])

local macro_rules | `(tactic| tbr_iter $fs) => `(tactic| simp only [seqAt, tyV_ref, tSeq, tIfS, tOr, tAnd, tNot, tB, tCB, tCons, tNil, tC, uVar, tRet, tNext, tTest, tOp, tChain, tAsg, gName, gSub, tDrop, tTup, tLst, tSl, tNoPart, uPart, tUn, rU, tAndV, tOrV, tNotV, uTru, rTruU, uCall, tBM, tBM0,
  rIsi, tyV_non, tyV_bl, tyV_int, tyV_str, Ty.name, isa_tab, rInt, rIntC, rLenU, rLeU, rLtU, rGeU, rGtU, rAddU, rAddI, rAddS, rAddL, rAddT, rSubU, rMulI, rDivU, rModU, rPowU, rEqS, rNeS, rIxU, rInU, rInG, rIntCall, rListU, rTupleU, rIsNU, rNotNU, rSlU, tYes, wipe, rSetU, ixN_lit, rAppend, atI_0, atI_1, atI_2, atI_3, Option.some.injEq, List.length_cons, List.length_nil, Nat.zero_add, Nat.reduceAdd, natc, Int.reduceLE, Int.reduceLT, Int.reduceEq, Int.reduceSub, Int.reduceAdd, Int.reduceNeg, decide_true, decide_false, Bool.false_xor, Bool.true_xor, scal_tab, flat_tab, inV_int2, List.all_cons, List.all_nil, Bool.and_self, Bool.and_true, Bool.true_and, ofs_inj, String.reduceEq, for_U, for_R1, for_R2, lc_U, lc_R1, lc_R2,
  List.cons.injEq, and_true, true_and, and_self, V.ty.injEq, V.bl.injEq, V.int.injEq, V.str.injEq, V.ref.injEq, List.nil_append, List.append_nil, List.cons_append, exists_const,
  List.getElem?_cons_zero, List.getElem?_cons_succ, List.set_cons_zero, List.set_cons_succ, exists_eq_left', exists_eq_left, Bool.not_true, Bool.not_false, if_true, if_false, Bool.false_eq_true, Bool.true_eq_false, reduceCtorEq, exists_and_left, exists_eq_right', $fs:term])

theorem seq_by {t u : TS} {D : Ends} {σ : L2.St} {H : Hp} (M : L2.St → Hp → Prop) (h1 : ∀ nx : L2.St → Hp → Prop, (∀ σ' H', M σ' H' → nx σ' H') → t { D with nx := nx } σ H) (h2 : ∀ σ' H', M σ' H' → u D σ' H') : tSeq t u D σ H := h1 _ h2
theorem upd_old {H : Hp} {p a : Addr} {o u : HO} (hp : H p = none) (ha : H a = some u) : upd H p o a = some u := by rw [upd_ne (ne_of_none ha hp)]; exact ha
theorem same_new {H H' : Hp} {p : Addr} {o : HO} (k : L2.Same H H') (hp : H' p = none) : L2.Same H (upd H' p o) := fun b u e => upd_old hp (k b u e)

def isMarkS (z : Str) : Bool := decide (1 ≤ z.length) && decide (z.length ≤ 8) && z.cps.toList.all fun c => decide (c ∈ (Str.ofString "abcdefghijklmnopqrstuvwxyz").cps.toList)
def isMarkV : V → Bool
  | .str z => isMarkS z
  | _ => false
def strOk : V → Prop
  | .str z => z.length ≤ sizeLine
  | _ => True
def t_is_mark (K : PySem.W.Frag) : TS :=
  (tSeq (tIfS (tOr (tNot (uTru (tCB (rIsi .str) (tCons (uVar 0) (tCons (tC (.ty "str")) tNil))))) (tNot (tTest (tChain rLeU rLeU (tC (.int 1)) (tCB rLenU (tCons (uVar 0) tNil)) (tC (.int 8)))))) (tRet (tC (.bl false))) tNext)
  (tSeq (tFor (iU K (uVar 0)) (gName 1) (tIfS (tTest (tOp (rInU true) (uVar 1) (tC (.str "abcdefghijklmnopqrstuvwxyz")))) (tRet (tC (.bl false))) tNext))
  (tRet (tC (.bl true)))))
def sp_is_mark (K : PySem.W.Frag) : Sp := fun vs H Q _ => ∃ v, vs = [v] ∧ (tyV H v).isSome = true ∧ strOk v ∧ Q (.bl (isMarkV v)) H
theorem len_is_mark {K : PySem.W.Frag} : ∀ vs H Q E, sp_is_mark K vs H Q E → vs.length = 1 := fun _ _ _ _ ⟨_, e, _⟩ => by rw [e]; rfl
theorem pure_is_mark {K : PySem.W.Frag} (vs : List V) (H : Hp) (Q : VK) (E : XK) (h : sp_is_mark K vs H Q E) : t_is_mark K { nx := fun _ H' => Q .non H', rt := Q } (start ["value", "letter"] vs) H := by
  obtain ⟨v, rfl, ht, hz, q⟩ := h
  unfold t_is_mark
  show tSeq _ _ _ [some v, none] H
  cases v with
  | str z =>
    have hz : z.length ≤ sizeLine := hz
    have q : Q (.bl (isMarkS z)) H := q
    k_subL
    have n1 : ¬ (1 ≤ z.length ∧ z.length ≤ 8) → isMarkS z = false := fun h => by
      unfold isMarkS
      by_cases h1 : 1 ≤ z.length
      · have h2 : ¬ z.length ≤ 8 := fun x => h ⟨h1, x⟩
        simp [h2]
      · simp [h1]
    refine ite2 (fun h1 => ite2 (fun h2 => ?_) fun h2 => ?_) fun h1 => ?_
    · rw [n1 (by simp at h1 h2; omega)] at q
      exact q
    · have h1 : 1 ≤ z.length := by simp at h1; omega
      have h2 : z.length ≤ 8 := by simp at h2; omega
      have e : isMarkS z = z.cps.toList.all fun c => decide (c ∈ (Str.ofString "abcdefghijklmnopqrstuvwxyz").cps.toList) := by
        unfold isMarkS
        rw [decide_eq_true h1, decide_eq_true h2]
        rfl
      rw [e] at q
      refine loop_str (fun i σ H' => H' = H ∧ (∃ y, σ = [some (.str z), y]) ∧ ∀ j c, j < i → z.cps[j]? = some c → c ∈ (Str.ofString "abcdefghijklmnopqrstuvwxyz").cps.toList) ⟨rfl, ⟨_, rfl⟩, fun j c hj => absurd hj (Nat.not_lt_zero _)⟩ (fun i c σ H' hc ⟨e1, ⟨y, e2⟩, p⟩ => ?_) (fun σ H' ⟨e1, ⟨y, e2⟩, p⟩ => ?_)
      · subst e1 e2
        k_subL
        refine ⟨c, rfl, ite2 (fun hn => ?_) fun hn => ⟨⟨_, rfl⟩, fun j c' hj hc' => ?_⟩⟩
        · have : (z.cps.toList.all fun c => decide (c ∈ (Str.ofString "abcdefghijklmnopqrstuvwxyz").cps.toList)) = false := by
            rw [List.all_eq_false]
            exact ⟨c, List.mem_of_getElem? (by simpa using hc), by simpa using hn⟩
          rw [this] at q
          exact q
        · by_cases hj2 : j = i
          · subst hj2
            rw [hc] at hc'
            cases hc'
            simpa using hn
          · exact p j c' (by omega) hc'
      · subst e1 e2
        k_subL
        have : (z.cps.toList.all fun c => decide (c ∈ (Str.ofString "abcdefghijklmnopqrstuvwxyz").cps.toList)) = true := by
          rw [List.all_eq_true]
          intro c hc
          obtain ⟨j, hj⟩ := List.getElem?_of_mem hc
          have hj' : z.cps[j]? = some c := by simpa using hj
          exact decide_eq_true (p j c (by have := (Array.getElem?_eq_some_iff.mp hj').1; exact this) hj')
        rw [this] at q
        exact q
    · rw [n1 (by simp at h1; omega)] at q
      exact q
  | ref p =>
    obtain ⟨t, ht, h1, h2, h3⟩ := tyRef ht
    k_subL
    exact q
  | byt _ => cases ht
  | flt _ => cases ht
  | ty _ => cases ht
  | _ => k_subL; exact q
def t_in_range (K : PySem.W.Frag) : TS :=
  (tRet (tAndV (tCB (rIsi .int) (tCons (uVar 0) (tCons (tC (.ty "int")) tNil))) (tAndV (tNotV (tCB (rIsi .bl) (tCons (uVar 0) (tCons (tC (.ty "bool")) tNil)))) (tChain rLeU rLeU (tC (.int 0)) (uVar 0) (uVar 1)))))
def inRangeV : V → Int → Bool
  | .int i, g => decide (0 ≤ i) && decide (i ≤ g)
  | _, _ => false
def sp_in_range (K : PySem.W.Frag) : Sp := fun vs H Q _ => ∃ (v : V) (g : Int), vs = [v, .int g] ∧ (tyV H v).isSome = true ∧ Q (.bl (inRangeV v g)) H
theorem len_in_range {K : PySem.W.Frag} : ∀ vs H Q E, sp_in_range K vs H Q E → vs.length = 2 := fun _ _ _ _ ⟨_, _, e, _⟩ => by rw [e]; rfl
theorem pure_in_range {K : PySem.W.Frag} (vs : List V) (H : Hp) (Q : VK) (E : XK) (h : sp_in_range K vs H Q E) : t_in_range K { nx := fun _ H' => Q .non H', rt := Q } (start ["value", "greatest"] vs) H := by
  obtain ⟨v, g, rfl, ht, q⟩ := h
  unfold t_in_range
  show tRet _ _ [some v, some (.int g)] H
  cases v with
  | int i =>
    k_subL
    have q : Q (.bl (decide (0 ≤ i) && decide (i ≤ g))) H := q
    refine ite2 (fun h1 => ?_) fun h1 => ?_
    · rw [h1] at q
      exact q
    · rw [Bool.not_eq_true] at h1
      rw [h1] at q
      exact q
  | ref p =>
    obtain ⟨t, ht, h1, h2, h3⟩ := tyRef ht
    k_subL
    exact q
  | byt _ => cases ht
  | flt _ => cases ht
  | ty _ => cases ht
  | _ => k_subL; exact q

def inStrs (w : Str) (l : List Str) : Bool := inV (.str w) (l.map V.str)
def isBasicT : List V → Bool
  | [.str w] => inV (.str w) [.str "drop", .str "emit", .str "same", .str "differ"]
  | [.str w, x] => if inV (.str w) [.str "pick", .str "roll"] then inRangeV x 23 else if inV (.str w) [.str "keep", .str "load"] then inRangeV x 3 else inV (.str w) [.str "push", .str "expect"] && isMarkV x
  | _ => false
def isBasicV (H : Hp) : V → Bool
  | .ref p => match H p with
    | some (.tup xs) => isBasicT xs
    | _ => false
  | _ => false
def okV (H : Hp) (v : V) : Prop := (tyV H v).isSome = true ∧ strOk v
def okT (H : Hp) (v : V) : Prop := okV H v ∧ ∀ p xs, v = .ref p → H p = some (.tup xs) → ∀ x ∈ xs, okV H x
theorem not_str {H : Hp} {x : V} {R : Prop} {F : Ty → Prop} (hx : okV H x) (hs : ∀ w, x ≠ .str w) (r : R) (hF : ∀ t, t.isa .str = false → (F t = R)) : (match tyV H x with | some t => F t | none => False) := by
  cases x with
  | str w => exact absurd rfl (hs w)
  | ref p' =>
    obtain ⟨t, ht, h1, h2, h3⟩ := tyRef hx.1
    rw [ht]
    show F t
    rw [hF t h1]
    exact r
  | non => exact (show F .non from cast (hF .non rfl).symm r)
  | bl _ => exact (show F .bl from cast (hF .bl rfl).symm r)
  | int _ => exact (show F .int from cast (hF .int rfl).symm r)
  | byt _ => cases hx.1
  | flt _ => cases hx.1
  | ty _ => cases hx.1
theorem inV_str2 (w a b : Str) : inV (.str w) [.str a, .str b] = (decide (w = a) || decide (w = b)) := by
  have e : inV (.str w) [.str a, .str b] = (eqV (.str a) (.str w) || (eqV (.str b) (.str w) || false)) := rfl
  rw [e, Bool.or_false]
  have k : ∀ a : Str, eqV (.str a) (.str w) = decide (w = a) := fun a => by
    show (a == w) = _
    by_cases h : w = a
    · subst h
      rw [decide_eq_true rfl]
      exact beq_self_eq_true _
    · rw [decide_eq_false h]
      exact beq_eq_false_iff_ne.mpr fun e => h e.symm
  rw [k, k]
theorem okV_same {H H' : Hp} {v : V} (k : L2.Same H H') (h : okV H v) : okV H' v := by
  refine ⟨?_, h.2⟩
  have h := h.1
  cases v with
  | ref p =>
    rw [tyV_ref] at h ⊢
    split at h
    · rename_i e; rw [k _ _ e]; rfl
    · rename_i e; rw [k _ _ e]; rfl
    · rename_i e; rw [k _ _ e]; rfl
    · rename_i e; rw [k _ _ e]; rfl
    · cases h
  | _ => exact h
def t_is_basic (K : PySem.W.Frag) (a_PLAIN : Addr) (a_DEPTHS : Addr) (a_STORES : Addr) (a_MARKED : Addr) : TS :=
  (tSeq (tIfS (tOr (tNot (uTru (tCB (rIsi .tup) (tCons (uVar 0) (tCons (tC (.ty "tuple")) tNil))))) (tOr (tNot (tTest (tChain rLeU rLeU (tC (.int 1)) (tCB rLenU (tCons (uVar 0) tNil)) (tC (.int 2))))) (tNot (uTru (tCB (rIsi .str) (tCons (tOp rIxU (uVar 0) (tC (.int 0))) (tCons (tC (.ty "str")) tNil))))))) (tRet (tC (.bl false))) tNext)
  (tSeq (tAsg (tOp rIxU (uVar 0) (tC (.int 0))) (gName 1))
  (tSeq (tIfS (tTest (tOp rEqS (tCB rLenU (tCons (uVar 0) tNil)) (tC (.int 1)))) (tRet (tOp (rInG a_PLAIN [.str "drop", .str "emit", .str "same", .str "differ"] false) (uVar 1) (tC (.ref a_PLAIN)))) tNext)
  (tSeq (tIfS (tTest (tOp (rInG a_DEPTHS [.str "pick", .str "roll"] false) (uVar 1) (tC (.ref a_DEPTHS)))) (tRet (uCall (sp_in_range K) [] E0 (tCons (tOp rIxU (uVar 0) (tC (.int 1))) (tCons (tOp rSubU (tC (.int 24)) (tC (.int 1))) tNil)))) tNext)
  (tSeq (tIfS (tTest (tOp (rInG a_STORES [.str "keep", .str "load"] false) (uVar 1) (tC (.ref a_STORES)))) (tRet (uCall (sp_in_range K) [] E0 (tCons (tOp rIxU (uVar 0) (tC (.int 1))) (tCons (tOp rSubU (tC (.int 4)) (tC (.int 1))) tNil)))) tNext)
  (tRet (tAndV (tOp (rInG a_MARKED [.str "push", .str "expect"] false) (uVar 1) (tC (.ref a_MARKED))) (uCall (sp_is_mark K) [] E0 (tCons (tOp rIxU (uVar 0) (tC (.int 1))) tNil)))))))))
def sp_is_basic (K : PySem.W.Frag) : Sp := fun vs H Q _ => ∃ v, vs = [v] ∧ okT H v ∧ Q (.bl (isBasicV H v)) H
theorem len_is_basic {K : PySem.W.Frag} : ∀ vs H Q E, sp_is_basic K vs H Q E → vs.length = 1 := fun _ _ _ _ ⟨_, e, _⟩ => by rw [e]; rfl
theorem pure_is_basic {K : PySem.W.Frag} {a1 a2 a3 a4 : Addr} (vs : List V) (H : Hp) (Q : VK) (E : XK) (h : sp_is_basic K vs H Q E) : t_is_basic K a1 a2 a3 a4 { nx := fun _ H' => Q .non H', rt := Q } (start ["value", "word"] vs) H := by
  obtain ⟨v, rfl, ⟨⟨ht, hz⟩, hi⟩, q⟩ := h
  unfold t_is_basic
  show tSeq _ _ _ [some v, none] H
  cases v with
  | ref p =>
    rw [tyV_ref] at ht
    split at ht
    · rename_i xs e
      have q : Q (.bl false) H := by simpa only [isBasicV, e] using q
      k_clsL
    · rename_i xs e
      have q : Q (.bl (isBasicT xs)) H := by simpa only [isBasicV, e] using q
      have hi := hi p xs rfl e
      clear ht
      have nots : ∀ (x : V) (R : Prop) (F : Ty → Prop), okV H x → (∀ w, x ≠ .str w) → R → (∀ t, t.isa .str = false → (F t = R)) → (match tyV H x with | some t => F t | none => False) := fun x R F hx hs r hF => by
        cases x with
        | str w => exact absurd rfl (hs w)
        | ref p' =>
          obtain ⟨t, ht, h1, h2, h3⟩ := tyRef hx.1
          rw [ht]
          show F t
          rw [hF t h1]
          exact r
        | non => exact (show F .non from cast (hF .non rfl).symm r)
        | bl _ => exact (show F .bl from cast (hF .bl rfl).symm r)
        | int _ => exact (show F .int from cast (hF .int rfl).symm r)
        | byt _ => cases hx.1
        | flt _ => cases hx.1
        | ty _ => cases hx.1
      rcases xs with _ | ⟨x, _ | ⟨y, _ | ⟨z, r⟩⟩⟩
      · k_clsL
        exact q
      · have hx := hi x (by simp)
        k_clsL
        by_cases hs : ∃ w, x = .str w
        · obtain ⟨w, rfl⟩ := hs
          k_clsL
          exact q
        · have hs : ∀ w, x ≠ .str w := fun w e => hs ⟨w, e⟩
          refine nots x _ _ hx hs (show Q (.bl false) H from ?_) fun t h => by rw [h]; rfl
          have e : isBasicT [x] = false := by cases x <;> first | rfl | exact absurd rfl (hs _)
          rw [e] at q
          exact q
      · have hx := hi x (by simp)
        have hy := hi y (by simp)
        k_clsL
        by_cases hs : ∃ w, x = .str w
        · obtain ⟨w, rfl⟩ := hs
          k_clsL
          refine ite2 (fun h => ?_) fun h => ite2 (fun h2 => ?_) fun h2 => ite2 (fun h3 => ?_) fun h3 => ?_
          · refine ⟨_, _, rfl, hy.1, ?_⟩
            simpa only [isBasicT, h, if_true] using q
          · refine ⟨_, _, rfl, hy.1, ?_⟩
            simpa only [isBasicT, h, h2, if_true, if_false, Bool.false_eq_true] using q
          · refine ⟨_, rfl, hy.1, hy.2, ?_⟩
            simpa only [isBasicT, h, h2, h3, if_true, if_false, Bool.true_and, Bool.false_eq_true] using q
          · simpa only [isBasicT, h, h2, h3, if_true, if_false, Bool.false_and, Bool.false_eq_true] using q
        · have hs : ∀ w, x ≠ .str w := fun w e => hs ⟨w, e⟩
          refine nots x _ _ hx hs (show Q (.bl false) H from ?_) fun t h => by rw [h]; rfl
          have e : isBasicT [x, y] = false := by cases x <;> first | rfl | exact absurd rfl (hs _)
          rw [e] at q
          exact q
      · have e1 : isBasicT (x :: y :: z :: r) = false := by cases x <;> rfl
        rw [e1] at q
        have l1 : (1 : Int) ≤ ((r.length + 1 + 1 + 1 : Nat) : Int) := by omega
        have l2 : ¬ ((r.length + 1 + 1 + 1 : Nat) : Int) ≤ 2 := by omega
        k_clsL
    · rename_i xs e
      have q : Q (.bl false) H := by simpa only [isBasicV, e] using q
      k_clsL
    · rename_i xs e
      have q : Q (.bl false) H := by simpa only [isBasicV, e] using q
      k_clsL
    · cases ht
  | byt _ => cases ht
  | flt _ => cases ht
  | ty _ => cases ht
  | _ => k_subL; exact q

def Keep (d : Addr) (H H' : Hp) : Prop := ∀ b, b ≠ d → H b ≠ none → H' b = H b
theorem Keep.refl (d : Addr) (H : Hp) : Keep d H H := fun _ _ _ => rfl
theorem Keep.trans {d : Addr} {H H1 H2 : Hp} (a : Keep d H H1) (b : Keep d H1 H2) : Keep d H H2 := fun c h1 h2 => (b c h1 (by rw [a c h1 h2]; exact h2)).trans (a c h1 h2)
theorem Keep.at {d b : Addr} {H H' : Hp} {o : HO} (a : Keep d H H') (h : b ≠ d) (e : H b = some o) : H' b = some o := (a b h (by rw [e]; exact fun z => nomatch z)).trans e
theorem Keep.upd {d : Addr} {H H' : Hp} {o : HO} (a : Keep d H H') : Keep d H (upd H' d o) := fun b h1 h2 => (upd_ne h1).trans (a b h1 h2)
theorem Keep.new {d p : Addr} {H H' : Hp} {o : HO} (a : Keep d H H') (h : H' p = none) : Keep d H (L2.upd H' p o) := fun b h1 h2 => by
  by_cases e : b = p
  · subst e
    exact absurd (by rw [← a b h1 h2]; exact h) h2
  · rw [upd_ne e]
    exact a b h1 h2
structure Dr where
  d : Addr
  L : Addr
def DrawsOk (H : Hp) (D : Dr) : Prop := ∃ (ns : List Int) (i a b : Int), H D.d = some (.lst [.ref D.L, .int i, .int a, .int b]) ∧ D.L ≠ D.d ∧ H D.L = some (.lst (ns.map V.int)) ∧ 0 ≤ i ∧ 0 ≤ a
theorem DrawsOk.some {H : Hp} {D : Dr} (h : DrawsOk H D) : H D.d ≠ none := by
  obtain ⟨ns, i, a, b, e, _⟩ := h
  rw [e]
  exact fun z => nomatch z
theorem DrawsOk.someL {H : Hp} {D : Dr} (h : DrawsOk H D) : H D.L ≠ none := by
  obtain ⟨ns, i, a, b, _, _, e, _⟩ := h
  rw [e]
  exact fun z => nomatch z
theorem DrawsOk.set {H : Hp} {D : Dr} {p : Addr} {o : HO} (h : DrawsOk H D) (h1 : p ≠ D.d) (h2 : p ≠ D.L) : DrawsOk (upd H p o) D := by
  obtain ⟨ns, i, a, b, e, hL, eL, h0, h3⟩ := h
  exact ⟨ns, i, a, b, by rw [upd_ne h1.symm]; exact e, hL, by rw [upd_ne h2.symm]; exact eL, h0, h3⟩
theorem DrawsOk.ne {H : Hp} {D : Dr} {p : Addr} (h : DrawsOk H D) (hp : H p = none) : p ≠ D.d := fun e => h.some (by rw [← e]; exact hp)
theorem DrawsOk.neL {H : Hp} {D : Dr} {p : Addr} (h : DrawsOk H D) (hp : H p = none) : p ≠ D.L := fun e => h.someL (by rw [← e]; exact hp)
theorem DrawsOk.new {H : Hp} {D : Dr} {p : Addr} {o : HO} (h : DrawsOk H D) (hp : H p = none) : DrawsOk (upd H p o) D := h.set (h.ne hp) (h.neL hp)
theorem New.draws {H H' : Hp} {p : Addr} {o : HO} {D : Dr} (n : New H p o H') (h : DrawsOk H D) : DrawsOk H' D := by rw [n.eq]; exact h.new n.fr
theorem New.keep {H0 H H' : Hp} {p d : Addr} {o : HO} (n : New H p o H') (k : Keep d H0 H) : Keep d H0 H' := by rw [n.eq]; exact k.new n.fr
theorem DrawsOk.other {H : Hp} {D : Dr} {p : Addr} {xs : List V} (h : DrawsOk H D) (e : H p = Option.some (.tup xs)) : p ≠ D.d := fun z => by
  obtain ⟨ns, i, a, b, e2, _⟩ := h
  rw [z, e2] at e
  cases e
theorem DrawsOk.same {H H' : Hp} {D : Dr} (h : DrawsOk H D) (s : L2.Same H H') : DrawsOk H' D := by
  obtain ⟨ns, i, a, b, e, hL, eL, h0, h3⟩ := h
  exact ⟨ns, i, a, b, s _ _ e, hL, s _ _ eL, h0, h3⟩
def t__law_begin (K : PySem.W.Frag) : TS :=
  (tRet (tLst (tCons (tCB (rListK K) (tCons (uVar 0) tNil)) (tCons (tC (.int 0)) (tCons (tC (.int 0)) (tCons (tC (.int 7)) tNil))))))
def sp__law_begin (K : PySem.W.Frag) : Sp := fun vs H Q _ => ∃ (a : Addr) (ns : List Int), vs = [.ref a] ∧ SqL K H a (ns.map V.int) ∧ ∀ (D : Dr) H', H D.d = none → DrawsOk H' D → (∀ b, H b ≠ none → H' b = H b) → Q (.ref D.d) H'
theorem len__law_begin {K : PySem.W.Frag} : ∀ vs H Q E, sp__law_begin K vs H Q E → vs.length = 1 := fun _ _ _ _ ⟨_, _, e, _⟩ => by rw [e]; rfl
theorem pure__law_begin {K : PySem.W.Frag} (vs : List V) (H : Hp) (Q : VK) (E : XK) (h : sp__law_begin K vs H Q E) : t__law_begin K { nx := fun _ H' => Q .non H', rt := Q } (start ["_law_script"] vs) H := by
  obtain ⟨a, ns, rfl, hs, q⟩ := h
  refine ⟨_, _, rfl, .inl hs, fun l hl => ⟨by show 4 ≤ sizeLine; decide, fun p hp => ?_⟩⟩
  have hp2 : p ≠ l := fun e => by rw [e, upd_same] at hp; cases hp
  have hpH : H p = none := by rw [upd_ne hp2] at hp; exact hp
  refine q ⟨p, l⟩ _ hpH ⟨ns, 0, 0, 7, upd_same, hp2.symm, by rw [upd_ne hp2.symm, upd_same], Int.le_refl _, Int.le_refl _⟩ fun b hb => ?_
  rw [upd_ne (fun e => hb (by rw [e]; exact hpH)), upd_ne (fun e => hb (by rw [e]; exact hl))]
def t__law_draw (K : PySem.W.Frag) : TS :=
  (tSeq (tIfS (tTest (tOp rEqS (tOp rIxU (uVar 0) (tC (.int 2))) (tC (.int 0)))) (tIfS (tTest (tOp rLtU (tOp rIxU (uVar 0) (tC (.int 1))) (tCB rLenU (tCons (tOp rIxU (uVar 0) (tC (.int 0))) tNil)))) (tSeq (tAsg (tOp rIxU (tOp rIxU (uVar 0) (tC (.int 0))) (tOp rIxU (uVar 0) (tC (.int 1)))) (gName 2))
  (tSeq (tAsg (tOp rAddI (tOp rIxU (uVar 0) (tC (.int 1))) (tC (.int 1))) (gSub (uVar 0) (tC (.int 1)) rSetU))
  (tIfS (tTest (tOp rGeU (uVar 2) (tOp rPowU (tC (.int 10)) (tC (.int 18))))) (tAsg (uVar 2) (gSub (uVar 0) (tC (.int 2)) rSetU)) (tAsg (tOp rModU (tCB rIntCall (tCons (tOp rAddI (tOp rAddI (tOp rMulI (tOp rIxU (uVar 0) (tC (.int 3))) (tC (.int 48271))) (tOp rMulI (uVar 2) (tC (.int 69621)))) (tC (.int 11))) tNil)) (tC (.int 2147483647))) (gSub (uVar 0) (tC (.int 3)) rSetU))))) (tAsg (tOp rModU (tCB rIntCall (tCons (tOp rAddI (tOp rMulI (tOp rIxU (uVar 0) (tC (.int 3))) (tC (.int 48271))) (tC (.int 7))) tNil)) (tC (.int 2147483647))) (gSub (uVar 0) (tC (.int 3)) rSetU))) tNext)
  (tSeq (tIfS (tTest (tOp rGtU (tOp rIxU (uVar 0) (tC (.int 2))) (tC (.int 0)))) (tSeq (tAsg (tOp rModU (tCB rIntCall (tCons (tOp rIxU (uVar 0) (tC (.int 2))) tNil)) (uVar 1)) (gName 3))
  (tSeq (tAsg (tOp rDivU (tOp rIxU (uVar 0) (tC (.int 2))) (uVar 1)) (gSub (uVar 0) (tC (.int 2)) rSetU))
  (tRet (uVar 3)))) tNext)
  (tRet (tOp rModU (tOp rModU (tCB rIntCall (tCons (tOp rMulI (tOp rIxU (uVar 0) (tC (.int 3))) (tC (.int 16807))) tNil)) (tC (.int 2147483629))) (uVar 1)))))
def sp__law_draw (K : PySem.W.Frag) : Sp := fun vs H Q _ => ∃ (D : Dr) (m : Int), vs = [.ref D.d, .int m] ∧ DrawsOk H D ∧ 0 < m ∧ m < 1073741824 ∧ ∀ r H', 0 ≤ r → r < m → DrawsOk H' D → Keep D.d H H' → Q (.int r) H'
theorem len__law_draw {K : PySem.W.Frag} : ∀ vs H Q E, sp__law_draw K vs H Q E → vs.length = 2 := fun _ _ _ _ ⟨_, _, e, _⟩ => by rw [e]; rfl
theorem pure__law_draw {K : PySem.W.Frag} (vs : List V) (H : Hp) (Q : VK) (E : XK) (h : sp__law_draw K vs H Q E) : t__law_draw K { nx := fun _ H' => Q .non H', rt := Q } (start ["_law_draws", "_law_many", "_law_cell", "_law_found"] vs) H := by
  obtain ⟨⟨d, L⟩, m, rfl, ⟨ns, i, a, b, e, hL, eL, h0, h1⟩, m0, m1, q⟩ := h
  have e : H d = some (.lst [.ref L, .int i, .int a, .int b]) := e
  have eL : H L = some (.lst (ns.map V.int)) := eL
  have hL : L ≠ d := hL
  unfold t__law_draw
  show tSeq _ _ _ [some (.ref d), some (.int m), none, none] H
  have cm : ∀ x : Int, CMul x 48271 := fun x => .inr ⟨by decide, by decide⟩
  have cm2 : ∀ x : Int, CMul x 16807 := fun x => .inr ⟨by decide, by decide⟩
  have cm3 : ∀ x : Int, CMul x 69621 := fun x => .inr ⟨by decide, by decide⟩
  have cd : ∀ x : Int, CDiv x m := fun x => ⟨m0, m1⟩
  have cp : CPow 10 18 := ⟨by decide, by decide, by decide⟩
  have mk : ∀ i a b : Int, 0 ≤ i → 0 ≤ a → DrawsOk (upd H d (.lst [.ref L, .int i, .int a, .int b])) ⟨d, L⟩ := fun i a b x y =>
    ⟨ns, i, a, b, upd_same, hL, by rw [upd_ne hL]; exact eL, x, y⟩
  have fin : ∀ (x i a b : Int), 0 ≤ i → 0 ≤ a → Q (.int (x % m)) (upd H d (.lst [.ref L, .int i, .int a, .int b])) := fun x i a b y z =>
    q _ _ (Int.emod_nonneg _ (by omega)) (Int.emod_lt_of_pos _ m0) (mk i a b y z) (Keep.refl d H).upd
  have fin0 : ∀ (x : Int), Q (.int (x % m)) H := fun x =>
    q _ _ (Int.emod_nonneg _ (by omega)) (Int.emod_lt_of_pos _ m0) ⟨ns, i, a, b, e, hL, eL, h0, h1⟩ (Keep.refl d H)
  have dn : ∀ x : Int, 0 ≤ x → 0 ≤ x / m := fun x h => Int.ediv_nonneg h (by omega)
  have fs := And.intro e (And.intro eL (And.intro (fun H o => (upd_ne hL : upd H d o L = H L)) (And.intro (fun H o => (upd_same : upd H d o d = some o)) (And.intro (fun H o u => (upd_upd : upd (upd H d o) d u = upd H d u)) (And.intro cm (And.intro cm2 (And.intro cm3 (And.intro cd (And.intro cp m0)))))))))
  by_cases hi : i < (ns.length : Int)
  · have hget : atI (ns.map V.int) i = some (.int (ns.getD i.toNat 0)) := by
      have hj : i.toNat < ns.length := by omega
      have e1 : (ns.map V.int)[i.toNat]? = some (.int (ns.getD i.toNat 0)) := by
        rw [List.getElem?_map, List.getElem?_eq_getElem hj, List.getD_eq_getElem?_getD, List.getElem?_eq_getElem hj]
        rfl
      have := atI_nat e1
      rwa [show ((i.toNat : Nat) : Int) = i by omega] at this
    have fs := And.intro hget fs
    tbr_iter fs
    generalize ns.getD i.toNat 0 = c
    have t18 : (0 : Int) ≤ 10 ^ Int.toNat 18 := by decide
    refine ite2 (fun _ => ite2 (fun _ => ite2 (fun hc => ?_) fun hc => ?_) fun _ => ?_) fun _ => ?_
    · have hc := of_decide_eq_true hc
      refine ite2 (fun _ => fin _ _ _ _ (by omega) (dn _ (by omega))) fun _ => fin _ _ _ _ (by omega) (by omega)
    · refine ite2 (fun _ => fin _ _ _ _ (by omega) (dn _ h1)) fun _ => fin _ _ _ _ (by omega) (by omega)
    · refine ite2 (fun _ => fin _ _ _ _ h0 (dn _ h1)) fun _ => fin _ _ _ _ h0 h1
    · refine ite2 (fun _ => fin _ _ _ _ h0 (dn _ h1)) fun _ => fin0 _
  · have hl : decide (i < (((ns.map V.int).length : Nat) : Int)) = false := by
      rw [List.length_map]
      exact decide_eq_false hi
    have fs := And.intro hl fs
    tbr_iter fs
    refine ite2 (fun _ => ?_) fun _ => ?_
    · refine ite2 (fun _ => fin _ _ _ _ h0 (dn _ h1)) fun _ => fin _ _ _ _ h0 h1
    · refine ite2 (fun _ => fin _ _ _ _ h0 (dn _ h1)) fun _ => fin0 _
def spGen (P : V → Hp → Prop) : Sp := fun vs H Q _ => ∃ D : Dr, vs = [.ref D.d] ∧ DrawsOk H D ∧ ∀ v H', P v H' → DrawsOk H' D → Keep D.d H H' → Q v H'
theorem use_draw {K : PySem.W.Frag} {H : Hp} {D : Dr} {m : Int} {Q : VK} {E : XK} (h : DrawsOk H D) (m0 : 0 < m) (m1 : m < 1073741824) (q : ∀ r H', 0 ≤ r → r < m → DrawsOk H' D → Keep D.d H H' → Q (.int r) H') : sp__law_draw K [.ref D.d, .int m] H Q E := ⟨D, m, rfl, h, m0, m1, q⟩
theorem use_gen {P : V → Hp → Prop} {H : Hp} {D : Dr} {Q : VK} {E : XK} (h : DrawsOk H D) (q : ∀ v H', P v H' → DrawsOk H' D → Keep D.d H H' → Q v H') : spGen P [.ref D.d] H Q E := ⟨D, rfl, h, q⟩
def t__law_mark (K : PySem.W.Frag) : TS :=
  (tSeq (tAsg (tLst (tCons (tC (.str "a")) (tCons (tC (.str "b")) (tCons (tC (.str "c")) (tCons (tC (.str "main")) (tCons (tC (.str "push")) (tCons (tC (.str "zz")) (tCons (tC (.str "ab")) (tCons (tC (.str "aaaaaaaa")) tNil))))))))) (gName 1))
  (tSeq (tAsg (uCall (sp__law_draw K) [] E0 (tCons (uVar 0) (tCons (tC (.int 10)) tNil))) (gName 2))
  (tSeq (tIfS (tTest (tOp rLtU (uVar 2) (tC (.int 8)))) (tRet (tOp rIxU (uVar 1) (uVar 2))) tNext)
  (tSeq (tAsg (tC (.str "abcdefghijklmnopqrstuvwxyz")) (gName 3))
  (tSeq (tAsg (tOp rAddI (tC (.int 1)) (uCall (sp__law_draw K) [] E0 (tCons (uVar 0) (tCons (tC (.int 8)) tNil)))) (gName 4))
  (tRet (tBM K "str" rJoinU (tC (.str "")) (tCons (tLc (iRng1 (tCons (uVar 4) tNil)) (gName 5) tYes (tOp rIxU (uVar 3) (uCall (sp__law_draw K) [] E0 (tCons (uVar 0) (tCons (tC (.int 26)) tNil)))) [5]) tNil))))))))
def sp__law_mark (K : PySem.W.Frag) : Sp := spGen fun v _ => ∃ z, v = .str z ∧ isMarkS z = true
theorem len_gen {P : V → Hp → Prop} : ∀ vs H Q E, spGen P vs H Q E → vs.length = 1 := fun _ _ _ _ ⟨_, e, _⟩ => by rw [e]; rfl
theorem pure__law_mark {K : PySem.W.Frag} (vs : List V) (H : Hp) (Q : VK) (E : XK) (h : sp__law_mark K vs H Q E) : t__law_mark K { nx := fun _ H' => Q .non H', rt := Q } (start ["_law_draws", "_law_forms", "_law_at", "_law_letters", "_law_size", "_law_k"] vs) H := by
  obtain ⟨Dw, rfl, hd, q⟩ := h
  unfold t__law_mark
  show tSeq _ _ _ [some (.ref Dw.d), none, none, none, none, none] H
  tbr_iter hd
  refine ⟨by decide, fun f hf => ?_⟩
  have hfd := hd.ne hf
  refine use_draw (hd.new hf) (by decide) (by decide) fun r H1 r0 r1 hd1 k1 => ?_
  have e1 := k1.at hfd upd_same
  have k1 : Keep Dw.d H H1 := ((Keep.refl Dw.d H).new hf).trans k1
  tbr_iter e1
  refine ite2 (fun h8 => ?_) fun _ => ?_
  · have h8 := of_decide_eq_true h8
    obtain ⟨j, rfl⟩ := Int.eq_ofNat_of_zero_le r0
    have hj : j < 8 := by omega
    have key : ∀ j : Nat, j < 8 → ∃ z, ([.str "a", .str "b", .str "c", .str "main", .str "push", .str "zz", .str "ab", .str "aaaaaaaa"] : List V)[j]? = some (.str z) ∧ isMarkS z = true := by
      intro j hj
      match j, hj with
      | 0, _ => exact ⟨_, rfl, by decide +kernel⟩
      | 1, _ => exact ⟨_, rfl, by decide +kernel⟩
      | 2, _ => exact ⟨_, rfl, by decide +kernel⟩
      | 3, _ => exact ⟨_, rfl, by decide +kernel⟩
      | 4, _ => exact ⟨_, rfl, by decide +kernel⟩
      | 5, _ => exact ⟨_, rfl, by decide +kernel⟩
      | 6, _ => exact ⟨_, rfl, by decide +kernel⟩
      | 7, _ => exact ⟨_, rfl, by decide +kernel⟩
      | n + 8, h => exact absurd h (by omega)
    obtain ⟨z, hz, hm⟩ := key j hj
    exact ⟨_, atI_nat hz, q _ _ ⟨z, rfl, hm⟩ hd1 k1⟩
  · refine use_draw hd1 (by decide) (by decide) fun r2 H2 r20 r21 hd2 k2 => ?_
    have k2 := k1.trans k2
    tbr_iter e1
    refine ⟨rfl, by omega, by omega, ?_⟩
    obtain ⟨n, en⟩ := Int.eq_ofNat_of_zero_le (show 0 ≤ 1 + r2 by omega)
    have hn : 1 ≤ n ∧ n ≤ 8 := by omega
    rw [en]
    refine comp_rng (fun D i acc H' => DrawsOk H' Dw ∧ (D ≠ Dw.d ∧ D ≠ Dw.L) ∧ H' D = some (.lst acc) ∧ Keep Dw.d H2 H' ∧ H2 D = none ∧ ∃ cs : List Nat, acc = cs.map (fun c => V.str ⟨#[c]⟩) ∧ cs.length = i ∧ ∀ c ∈ cs, c ∈ (Str.ofString "abcdefghijklmnopqrstuvwxyz").cps.toList)
      (fun D hD => ⟨hd2.new hD, ⟨hd2.ne hD, hd2.neL hD⟩, upd_same, (Keep.refl Dw.d H2).new hD, hD, [], rfl, rfl, fun _ h => absurd h (List.not_mem_nil)⟩) (fun D i acc H3 Nx hi ⟨p1, p2, p3, p4, p5, cs, ec, lc, mc⟩ hN => ?_) (fun D acc H3 hD ⟨p1, p2, p3, p4, p5, cs, ec, lc, mc⟩ => ?_)
    · refine ⟨rfl, ?_⟩
      tbr_iter p3
      refine use_draw p1 (by decide) (by decide) fun r3 H4 r30 r31 hd4 k4 => ?_
      obtain ⟨j, rfl⟩ := Int.eq_ofNat_of_zero_le r30
      have hl : (Str.ofString "abcdefghijklmnopqrstuvwxyz").cps.toList.length = 26 := by decide +kernel
      have hj : j < (Str.ofString "abcdefghijklmnopqrstuvwxyz").cps.toList.length := by rw [hl]; omega
      have e4 := k4.at p2.1 p3
      refine ⟨by decide +kernel, _, atI_nat (List.getElem?_eq_getElem hj), acc, e4, ?_, hN (acc ++ [_]) _ ⟨?_, p2, upd_same, ?_, p5, cs ++ [(Str.ofString "abcdefghijklmnopqrstuvwxyz").cps.toList[j]], ?_, ?_, ?_⟩⟩
      · rw [ec, List.length_map, lc, sizeLine_eq]
        omega
      · exact hd4.set p2.1 p2.2
      · intro b h1 h2
        have : b ≠ D := fun z => h2 (by rw [z]; exact p5)
        rw [upd_ne this]
        exact (p4.trans k4) b h1 h2
      · rw [ec, List.map_append]
        rfl
      · rw [List.length_append, lc]
        rfl
      · intro c hc
        rcases List.mem_append.mp hc with hc | hc
        · exact mc c hc
        · rw [List.mem_singleton.mp hc]
          exact List.getElem_mem hj
    · have ln : cs.length = n := lc
      refine ⟨_, _, cs.map (fun c => ⟨#[c]⟩), rfl, rfl, ?_, ?_, q _ _ ⟨_, rfl, ?_⟩ p1 (k2.trans p4)⟩
      · rw [p3, ec, List.map_map]
        rfl
      · have e0 : ∀ l : List Nat, ((l.map (fun c => (⟨#[c]⟩ : Str))).map (·.length)).sum = l.length := by
          intro l
          induction l with
          | nil => rfl
          | cons c r ih =>
            rw [List.map_cons, List.map_cons, List.sum_cons, ih, List.length_cons]
            show 1 + r.length = r.length + 1
            omega
        rw [e0, show (Str.ofString "").length = 0 from rfl]
        omega
      · have et : ∀ l : List Nat, TL.tl (Txt.join (Str.ofString "") (l.map (fun c => (⟨#[c]⟩ : Str)))) = l := by
          intro l
          rw [TL.join_eq, TL.tl_join, show TL.tl (Str.ofString "") = [] from rfl]
          induction l with
          | nil => rfl
          | cons c r ih =>
            cases r with
            | nil => rfl
            | cons c2 r =>
              show [c] ++ ([] ++ TL.joinL [] (((c2 :: r).map (fun c => (⟨#[c]⟩ : Str))).map TL.tl)) = c :: c2 :: r
              rw [ih]
              rfl
        have e1 := et cs
        have e2 : (Txt.join (Str.ofString "") (cs.map (fun c => (⟨#[c]⟩ : Str)))).length = n := by rw [TL.len_tl, e1, ln]
        have e3 : (Txt.join (Str.ofString "") (cs.map (fun c => (⟨#[c]⟩ : Str)))).cps.toList = cs := e1
        unfold isMarkS
        rw [e2, e3, decide_eq_true hn.1, decide_eq_true hn.2, Bool.and_self, Bool.true_and, List.all_eq_true]
        exact fun c hc => decide_eq_true (mc c hc)
def t__law_basic (K : PySem.W.Frag) : TS :=
  (tSeq (tAsg (tLst (tCons (tC (.str "push")) (tCons (tC (.str "push")) (tCons (tC (.str "push")) (tCons (tC (.str "drop")) (tCons (tC (.str "pick")) (tCons (tC (.str "pick")) (tCons (tC (.str "roll")) (tCons (tC (.str "keep")) (tCons (tC (.str "load")) (tCons (tC (.str "emit")) (tCons (tC (.str "expect")) (tCons (tC (.str "same")) (tCons (tC (.str "differ")) tNil)))))))))))))) (gName 1))
  (tSeq (tAsg (tOp rIxU (uVar 1) (uCall (sp__law_draw K) [] E0 (tCons (uVar 0) (tCons (tC (.int 13)) tNil)))) (gName 2))
  (tSeq (tIfS (tOr (tTest (tOp rEqS (uVar 2) (tC (.str "push")))) (tTest (tOp rEqS (uVar 2) (tC (.str "expect"))))) (tRet (tTup (tCons (uVar 2) (tCons (uCall (sp__law_mark K) [] E0 (tCons (uVar 0) tNil)) tNil)))) tNext)
  (tSeq (tIfS (tOr (tTest (tOp rEqS (uVar 2) (tC (.str "pick")))) (tTest (tOp rEqS (uVar 2) (tC (.str "roll"))))) (tSeq (tIfS (tTest (tOp rEqS (uCall (sp__law_draw K) [] E0 (tCons (uVar 0) (tCons (tC (.int 8)) tNil))) (tC (.int 0)))) (tRet (tTup (tCons (uVar 2) (tCons (uCall (sp__law_draw K) [] E0 (tCons (uVar 0) (tCons (tC (.int 24)) tNil))) tNil)))) tNext)
  (tRet (tTup (tCons (uVar 2) (tCons (uCall (sp__law_draw K) [] E0 (tCons (uVar 0) (tCons (tC (.int 3)) tNil))) tNil))))) tNext)
  (tSeq (tIfS (tOr (tTest (tOp rEqS (uVar 2) (tC (.str "keep")))) (tTest (tOp rEqS (uVar 2) (tC (.str "load"))))) (tRet (tTup (tCons (uVar 2) (tCons (uCall (sp__law_draw K) [] E0 (tCons (uVar 0) (tCons (tC (.int 4)) tNil))) tNil)))) tNext)
  (tRet (tTup (tCons (uVar 2) tNil))))))))
def BasicT (xs : List V) : Prop := (∃ w z, xs = [.str w, .str z] ∧ (w = "push" ∨ w = "expect") ∧ isMarkS z = true) ∨ (∃ w i, xs = [.str w, .int i] ∧ (w = "pick" ∨ w = "roll") ∧ 0 ≤ i ∧ i < 24) ∨ (∃ w i, xs = [.str w, .int i] ∧ (w = "keep" ∨ w = "load") ∧ 0 ≤ i ∧ i < 4) ∨
  ∃ w, xs = [.str w] ∧ (w = "drop" ∨ w = "emit" ∨ w = "same" ∨ w = "differ")
def IsBasic (v : V) (H : Hp) : Prop := ∃ p xs, v = .ref p ∧ H p = some (.tup xs) ∧ BasicT xs
def sp__law_basic (K : PySem.W.Frag) : Sp := spGen IsBasic
theorem pure__law_basic {K : PySem.W.Frag} (vs : List V) (H : Hp) (Q : VK) (E : XK) (h : sp__law_basic K vs H Q E) : t__law_basic K { nx := fun _ H' => Q .non H', rt := Q } (start ["_law_draws", "_law_words", "_law_word"] vs) H := by
  obtain ⟨Dw, rfl, hd, q⟩ := h
  unfold t__law_basic
  show tSeq _ _ _ [some (.ref Dw.d), none, none] H
  tbr_iter hd
  refine ⟨by decide, fun f hf => ?_⟩
  have hfd := hd.ne hf
  refine use_draw (hd.new hf) (by decide) (by decide) fun r H1 r0 r1 hd1 k1 => ?_
  have e1 := k1.at hfd upd_same
  have k1 : Keep Dw.d H H1 := ((Keep.refl Dw.d H).new hf).trans k1
  tbr_iter e1
  obtain ⟨j, rfl⟩ := Int.eq_ofNat_of_zero_le r0
  have hj : j < 13 := by omega
  have use2 : ∀ (w : Str) (x : V) (H2 : Hp), BasicT [.str w, x] → DrawsOk H2 Dw → Keep Dw.d H H2 → 2 ≤ sizeLine ∧ ∀ p, H2 p = none → Q (.ref p) (upd H2 p (.tup [.str w, x])) := fun w x H2 hb h2 k2 =>
    ⟨by decide, fun p hp => q _ _ ⟨p, _, rfl, upd_same, hb⟩ (h2.new hp) (k2.new hp)⟩
  match j, hj with
  | 0, _ =>
    refine ⟨_, atI_nat (j := 0) rfl, ?_⟩
    tbr_iter e1
    refine use_gen hd1 fun v H2 ⟨z, hv, hm⟩ h2 k2 => ?_
    subst hv
    exact use2 _ _ H2 (.inl ⟨_, _, rfl, .inl rfl, hm⟩) h2 (k1.trans k2)
  | 1, _ =>
    refine ⟨_, atI_nat (j := 1) rfl, ?_⟩
    tbr_iter e1
    refine use_gen hd1 fun v H2 ⟨z, hv, hm⟩ h2 k2 => ?_
    subst hv
    exact use2 _ _ H2 (.inl ⟨_, _, rfl, .inl rfl, hm⟩) h2 (k1.trans k2)
  | 2, _ =>
    refine ⟨_, atI_nat (j := 2) rfl, ?_⟩
    tbr_iter e1
    refine use_gen hd1 fun v H2 ⟨z, hv, hm⟩ h2 k2 => ?_
    subst hv
    exact use2 _ _ H2 (.inl ⟨_, _, rfl, .inl rfl, hm⟩) h2 (k1.trans k2)
  | 3, _ =>
    refine ⟨_, atI_nat (j := 3) rfl, ?_⟩
    tbr_iter e1
    exact ⟨by decide, fun p hp => q _ _ ⟨p, _, rfl, upd_same, .inr (.inr (.inr ⟨_, rfl, .inl rfl⟩))⟩ (hd1.new hp) (k1.new hp)⟩
  | 4, _ =>
    refine ⟨_, atI_nat (j := 4) rfl, ?_⟩
    tbr_iter e1
    refine use_draw hd1 (by decide) (by decide) fun r2 H2 _ _ h2 k2 => ?_
    tbr_iter e1
    refine ite2 (fun _ => ?_) fun _ => ?_
    · exact use_draw h2 (by decide) (by decide) fun r3 H3 r30 r31 h3 k3 => use2 _ _ H3 (.inr (.inl ⟨_, _, rfl, .inl rfl, r30, r31⟩)) h3 ((k1.trans k2).trans k3)
    · exact use_draw h2 (by decide) (by decide) fun r3 H3 r30 r31 h3 k3 => use2 _ _ H3 (.inr (.inl ⟨_, _, rfl, .inl rfl, r30, by omega⟩)) h3 ((k1.trans k2).trans k3)
  | 5, _ =>
    refine ⟨_, atI_nat (j := 5) rfl, ?_⟩
    tbr_iter e1
    refine use_draw hd1 (by decide) (by decide) fun r2 H2 _ _ h2 k2 => ?_
    tbr_iter e1
    refine ite2 (fun _ => ?_) fun _ => ?_
    · exact use_draw h2 (by decide) (by decide) fun r3 H3 r30 r31 h3 k3 => use2 _ _ H3 (.inr (.inl ⟨_, _, rfl, .inl rfl, r30, r31⟩)) h3 ((k1.trans k2).trans k3)
    · exact use_draw h2 (by decide) (by decide) fun r3 H3 r30 r31 h3 k3 => use2 _ _ H3 (.inr (.inl ⟨_, _, rfl, .inl rfl, r30, by omega⟩)) h3 ((k1.trans k2).trans k3)
  | 6, _ =>
    refine ⟨_, atI_nat (j := 6) rfl, ?_⟩
    tbr_iter e1
    refine use_draw hd1 (by decide) (by decide) fun r2 H2 _ _ h2 k2 => ?_
    tbr_iter e1
    refine ite2 (fun _ => ?_) fun _ => ?_
    · exact use_draw h2 (by decide) (by decide) fun r3 H3 r30 r31 h3 k3 => use2 _ _ H3 (.inr (.inl ⟨_, _, rfl, .inr rfl, r30, r31⟩)) h3 ((k1.trans k2).trans k3)
    · exact use_draw h2 (by decide) (by decide) fun r3 H3 r30 r31 h3 k3 => use2 _ _ H3 (.inr (.inl ⟨_, _, rfl, .inr rfl, r30, by omega⟩)) h3 ((k1.trans k2).trans k3)
  | 7, _ =>
    refine ⟨_, atI_nat (j := 7) rfl, ?_⟩
    tbr_iter e1
    exact use_draw hd1 (by decide) (by decide) fun r3 H3 r30 r31 h3 k3 => use2 _ _ H3 (.inr (.inr (.inl ⟨_, _, rfl, .inl rfl, r30, r31⟩))) h3 (k1.trans k3)
  | 8, _ =>
    refine ⟨_, atI_nat (j := 8) rfl, ?_⟩
    tbr_iter e1
    exact use_draw hd1 (by decide) (by decide) fun r3 H3 r30 r31 h3 k3 => use2 _ _ H3 (.inr (.inr (.inl ⟨_, _, rfl, .inr rfl, r30, r31⟩))) h3 (k1.trans k3)
  | 9, _ =>
    refine ⟨_, atI_nat (j := 9) rfl, ?_⟩
    tbr_iter e1
    exact ⟨by decide, fun p hp => q _ _ ⟨p, _, rfl, upd_same, .inr (.inr (.inr ⟨_, rfl, .inr (.inl rfl)⟩))⟩ (hd1.new hp) (k1.new hp)⟩
  | 10, _ =>
    refine ⟨_, atI_nat (j := 10) rfl, ?_⟩
    tbr_iter e1
    refine use_gen hd1 fun v H2 ⟨z, hv, hm⟩ h2 k2 => ?_
    subst hv
    exact use2 _ _ H2 (.inl ⟨_, _, rfl, .inr rfl, hm⟩) h2 (k1.trans k2)
  | 11, _ =>
    refine ⟨_, atI_nat (j := 11) rfl, ?_⟩
    tbr_iter e1
    exact ⟨by decide, fun p hp => q _ _ ⟨p, _, rfl, upd_same, .inr (.inr (.inr ⟨_, rfl, .inr (.inr (.inl rfl))⟩))⟩ (hd1.new hp) (k1.new hp)⟩
  | 12, _ =>
    refine ⟨_, atI_nat (j := 12) rfl, ?_⟩
    tbr_iter e1
    exact ⟨by decide, fun p hp => q _ _ ⟨p, _, rfl, upd_same, .inr (.inr (.inr ⟨_, rfl, .inr (.inr (.inr rfl))⟩))⟩ (hd1.new hp) (k1.new hp)⟩
  | n + 13, h => exact absurd h (by omega)
theorem c_draw {K : PySem.W.Frag} {H : Hp} {D : Dr} {m : Int} {Q : VK} {E : XK} (h : DrawsOk H D) (m0 : 0 < m) (m1 : m < 1073741824) (q : ∀ r H', 0 ≤ r → r < m → DrawsOk H' D → Keep D.d H H' → Q (.int r) H') : @Call (sp__law_draw K) [.ref D.d, .int m] H ⟨Q⟩ ⟨E⟩ := ⟨D, m, rfl, h, m0, m1, q⟩
theorem c_gen {P : V → Hp → Prop} {H : Hp} {D : Dr} {Q : VK} {E : XK} (h : DrawsOk H D) (q : ∀ v H', P v H' → DrawsOk H' D → Keep D.d H H' → Q v H') : @Call (spGen P) [.ref D.d] H ⟨Q⟩ ⟨E⟩ := ⟨D, rfl, h, q⟩
end U
end

section
namespace U
open PySem PySem.Spec PyProof.Rows L2
local macro_rules | `(tactic| ktf_call $fs) => `(tactic| simp (config := {maxSteps := 4000000}) only [↓r_fld, ↓r_setF, ↓aSF_ref, ↓r_isO, ↓r_eqO, ↓r_eqN, ↓r_neN, ↓r_gsq, ↓aGs_eq, ↓r_gcons, ↓r_gnil, ↓r_isB, ↓r_bm1, ↓r_bm0, ↓aM_app, ↓r_callX, ↓r_raise0, ↓r_tryAs, ↓r_tryOnly, ↓r_seq, ↓r_ifS, ↓r_or, ↓r_and, ↓r_not, ↓r_next, ↓r_ret, ↓r_retN, ↓r_brk, ↓r_cnt, ↓r_drop, ↓r_asg, ↓r_test, ↓r_yes, ↓r_c, ↓r_nil, ↓r_cons, ↓r_var0, ↓r_varS, ↓r_name0, ↓r_nameS, ↓r_op, ↓r_un, ↓r_rU, ↓r_chain, ↓r_andV, ↓r_orV, ↓r_notV, ↓r_call, ↓r_cb, ↓r_tup, ↓r_lst, ↓r_sl, ↓r_noPart, ↓r_part, ↓r_gsub, ↓kB_a, ↓aB_bl, ↓kI_a, ↓aI_int, ↓OK_some, ↓Br_true, ↓Br_false, ↓Cd_true, ↓r_addI, ↓r_addS, ↓r_addUI, ↓r_addUS, ↓r_addL, ↓AlT_cc, ↓AlT_nil, ↓AlT_cnil, ↓r_addT, ↓r_sub, ↓r_mul, ↓r_div, ↓r_mod, ↓r_pow, ↓r_lt, ↓r_le, ↓r_gt, ↓r_ge, ↓r_eq, ↓r_ne, ↓r_isN, ↓r_notN, ↓r_inS, ↓r_ninS, ↓r_in, ↓r_nin, ↓r_inG, ↓r_ninG, ↓r_ixS, ↓r_ix, ↓r_set, ↓r_slS, ↓AlS_lst, ↓AlS_tup, ↓r_slR, ↓r_lenS, ↓r_lenR, ↓r_listU, ↓AlC_lst, ↓AlC_tup, ↓r_tupleU, ↓r_int, ↓r_intB, ↓r_isi, ↓r_tru, ↓r_truN, ↓r_truB, ↓r_truI, ↓r_truS, ↓r_truR, ↓aL_ref, ↓a1_int, ↓a2_int, ↓r_for1, ↓r_for2, ↓r_for, ↓r_lc, ↓r_lc1, ↓r_lc2,
  OK_some, Br_true, Br_false, Br_not, Cd_true, aB_bl, aI_int, r_rU, r_addI, r_addS, r_sub, r_mul, r_div, r_mod, r_pow, r_lt, r_le, r_gt, r_ge, r_ixS, r_ix, r_set, r_lenS, r_int, r_intB, r_truN, r_truB, r_truI, r_truS, r_truR, AlT_cc, AlT_nil, AlT_cnil, AlS_lst, AlS_tup, AlC_lst, AlC_tup, a1_int, a2_int, lstO_lst, tupO_tup, seqO_eq, seqO_lst, seqO_tup, lenO_lst, lenO_tup, lenO_dK, e_tyR, tyO_t, e_ty, e_tyn, truO_lst, truO_tup, truO_dK, isa_tab, scal_tab, flat_tab, eqV_t, inV_cons, inV_nil, szl, cmul_l, cpow_l, atI_0, atI_1, atI_2, atI_3, ixN_lit, Option.some.injEq, List.length_cons, List.length_nil, List.length_append, List.length_map, Nat.zero_add, Nat.reduceAdd, natc, Int.reduceLE, Int.reduceLT, Int.reduceEq, Int.reduceSub, Int.reduceAdd, Int.reduceNeg, Int.reduceMul, Int.reducePow, Int.reduceToNat, Nat.reduceLeDiff, Nat.reduceLT, Nat.reduceEqDiff, decide_eq_true_eq, decide_eq_false_iff_not, decide_true, decide_false, Bool.not_eq_true', Bool.not_eq_false', Bool.not_true, Bool.not_false, Bool.not_not, Bool.or_eq_true, Bool.and_eq_true, Bool.or_false, Bool.false_or, Bool.or_true, Bool.true_or, Bool.and_true, Bool.true_and, Bool.and_false, Bool.false_and, Bool.and_self, List.all_cons, List.all_nil, ofs_inj, String.reduceEq, List.cons.injEq, and_true, true_and, and_self, or_true, true_or, or_false, false_or, V.ty.injEq, V.bl.injEq, V.int.injEq, V.str.injEq, V.ref.injEq, List.nil_append, List.append_nil, List.cons_append, List.getElem?_cons_zero, List.getElem?_cons_succ, List.set_cons_zero, List.set_cons_succ, exists_eq_left', exists_eq_left, exists_eq, Bool.false_eq_true, Bool.true_eq_false, reduceCtorEq, not_true_eq_false, not_false_eq_true, eq_self, List.isEmpty_cons, List.isEmpty_nil, wipe, insO_ins, insD_ins, isO_tab, isO_ref, isR_tab, snO_tab, lk_tab, putF_nil, putF_tab, isLs_lst, tyL, reduceIte, $fs:term])

abbrev cSt (K : PySem.W.Frag) : Addr := He.ga K "State"
abbrev cBad (K : PySem.W.Frag) : Addr := He.ga K "BadState"
def isRegV (v : V) : Bool := decide (v = .non) || isMarkV v
def StOk (xs rs : List V) : Prop := xs.length ≤ 24 ∧ rs.length = 4 ∧ (∀ v ∈ xs, isMarkV v = true) ∧ ∀ v ∈ rs, isRegV v = true
def IsSt (K : PySem.W.Frag) (H : Hp) (v : V) (xs rs : List V) : Prop := ∃ o dx p q, v = .ref o ∧ H o = some (.ins (cSt K) dx [("stack", .ref p), ("registers", .ref q)]) ∧ H p = some (.tup xs) ∧ H q = some (.tup rs)
theorem IsSt.same {K : PySem.W.Frag} {H H' : Hp} {v : V} {xs rs : List V} (h : IsSt K H v xs rs) (s : L2.Same H H') : IsSt K H' v xs rs := by
  obtain ⟨o, dx, p, q, e, h1, h2, h3⟩ := h
  exact ⟨o, dx, p, q, e, s _ _ h1, s _ _ h2, s _ _ h3⟩
theorem takeAll {α : Type} {P : α → Prop} {xs : List α} {i : Nat} {x : α} (h : ∀ v ∈ xs.take i, P v) (hx : xs[i]? = some x) (px : P x) : ∀ v ∈ xs.take (i + 1), P v := fun v hv => by
  rw [List.take_add_one, hx] at hv
  rcases List.mem_append.mp hv with hv | hv
  · exact h v hv
  · rw [List.mem_singleton.mp hv]
    exact px
theorem AlC.by {H : Hp} {p : Addr} {ys : List V} {Q : VK} (h : H p = some (.lst ys) ∨ H p = some (.tup ys)) (q : ∀ p' H', H' p' = some (.tup ys) → L2.Same H H' → Q (.ref p') H') : @AlC H p (H p) ⟨Q⟩ := by
  rcases h with e | e
  · rw [e, AlC_lst]
    exact Al.by fun p' H' n => q p' H' n.at n.same
  · rw [e, AlC_tup]
    exact q p H e (L2.Same.refl H)
def t_State_init_1 (K : PySem.W.Frag) (a_BadState : Addr) (E : XK) : TS :=
  (tIfS (tNot (uTru (uCall (sp_is_mark K) [] E0 (tCons (uVar 3) tNil)))) (uRaise0 (fun cls d _ H => E cls d H) a_BadState) tNext)
def t_State_init_2 (K : PySem.W.Frag) (a_BadState : Addr) (E : XK) : TS :=
  (tIfS (tAnd (tTest (tOp rNotNU (uVar 3) (tC .non))) (tNot (uTru (uCall (sp_is_mark K) [] E0 (tCons (uVar 3) tNil))))) (uRaise0 (fun cls d _ H => E cls d H) a_BadState) tNext)
def t_State_init (K : PySem.W.Frag) (a_BadState : Addr) (a_State : Addr) (E : XK) : TS :=
  (tSeq (tIfS (tOr (tTest (tOp rGtU (tCB rLenU (tCons (uVar 1) tNil)) (tC (.int 24)))) (tTest (tOp rNeS (tCB rLenU (tCons (uVar 2) tNil)) (tC (.int 4))))) (uRaise0 (fun cls d _ H => E cls d H) a_BadState) tNext)
  (tSeq (tFor (iU K (uVar 1)) (gName 3) (t_State_init_1 K a_BadState E))
  (tSeq (tFor (iU K (uVar 2)) (gName 3) (t_State_init_2 K a_BadState E))
  (tSeq (uSetF a_State "stack" (uVar 0) (tCB rTupleU (tCons (uVar 1) tNil)))
  (uSetF a_State "registers" (uVar 0) (tCB rTupleU (tCons (uVar 2) tNil)))))))
def sp_State_init (K : PySem.W.Frag) : Sp := fun vs H Q E => ∃ (o dx p q : Addr) (xs rs : List V), vs = [.ref o, .ref p, .ref q] ∧ H o = some (.ins (cSt K) dx []) ∧ (H p = some (.lst xs) ∨ H p = some (.tup xs)) ∧ (H q = some (.lst rs) ∨ H q = some (.tup rs)) ∧
  (∀ v ∈ xs, okV H v) ∧ (∀ v ∈ rs, okV H v) ∧ (StOk xs rs → ∀ H', IsSt K H' (.ref o) xs rs → (∀ b u, b ≠ o → H b = some u → H' b = some u) → Q .non H') ∧ (¬ StOk xs rs → E (.ref (cBad K)) none H)
theorem len_State_init {K : PySem.W.Frag} : ∀ vs H Q E, sp_State_init K vs H Q E → vs.length = 3 := fun _ _ _ _ ⟨_, _, _, _, _, _, e, _⟩ => by rw [e]; rfl
theorem pure_State_init {K : PySem.W.Frag} (vs : List V) (H : Hp) (Q : VK) (E : XK) (h : sp_State_init K vs H Q E) : t_State_init K (cBad K) (cSt K) E { nx := fun _ H' => Q .non H', rt := Q } (start ["self", "stack", "registers", "mark"] vs) H := by
  obtain ⟨o, dx, p, q, xs, rs, rfl, eo, ep, eq, kx, kr, good, bad⟩ := h
  have sp : seqO (H p) = some xs := by rcases ep with e | e <;> rw [e] <;> rfl
  have sq : seqO (H q) = some rs := by rcases eq with e | e <;> rw [e] <;> rfl
  have lp : lenO (H p) = some xs.length := by rcases ep with e | e <;> rw [e] <;> rfl
  have lq : lenO (H q) = some rs.length := by rcases eq with e | e <;> rw [e] <;> rfl
  unfold t_State_init
  show tSeq _ _ _ [some (.ref o), some (.ref p), some (.ref q), none] H
  ktf_call (And.intro lp lq)
  refine Br.by (fun h => ?_) fun h => ?_
  · ktf_call lp
    exact bad fun ⟨h1, _⟩ => by omega
  have hx : xs.length ≤ 24 := by omega
  ktf_call lq
  refine Br.by (fun h4 => ?_) fun h => ?_
  rotate_left
  · ktf_call lq
    exact bad fun ⟨_, h2, _⟩ => h (by omega)
  have hr : rs.length = 4 := by omega
  ktf_call lp
  refine loop_seq (xs := xs) sp (fun i σ H' => H' = H ∧ (∃ y, σ = [some (.ref o), some (.ref p), some (.ref q), y]) ∧ ∀ v ∈ xs.take i, isMarkV v = true) ⟨rfl, ⟨_, rfl⟩, fun v hv => by simp at hv⟩ (fun i σ H' _ e => by rw [e.1]) (fun i x σ H' hxi ⟨e1, ⟨y, e2⟩, m⟩ => ?_) (fun σ H' ⟨e1, ⟨y, e2⟩, m⟩ => ?_)
  · replace e1 := e1.symm; subst e1 e2
    have hm : x ∈ xs := List.mem_of_getElem? hxi
    unfold t_State_init_1
    ktf_call sp
    refine Call.by ⟨x, rfl, (kx x hm).1, (kx x hm).2, ?_⟩
    ktf_call sp
    refine Br.by (fun hb => ?_) fun hb => ?_
    · ktf_call sp
      exact bad fun ⟨_, _, h3, _⟩ => by rw [h3 x hm] at hb; cases hb
    · ktf_call sp
      exact ⟨⟨_, rfl⟩, takeAll m hxi (by simpa using hb)⟩
  · replace e1 := e1.symm; subst e1 e2
    rw [List.take_of_length_le (Nat.le_refl _)] at m
    ktf_call sq
    refine loop_seq (xs := rs) sq (fun i σ H' => H' = H ∧ (∃ y, σ = [some (.ref o), some (.ref p), some (.ref q), y]) ∧ ∀ v ∈ rs.take i, isRegV v = true) ⟨rfl, ⟨_, rfl⟩, fun v hv => by simp at hv⟩ (fun i σ H' _ e => by rw [e.1]) (fun i x σ H' hxi ⟨e1, ⟨y, e2⟩, m2⟩ => ?_) (fun σ H' ⟨e1, ⟨y, e2⟩, m2⟩ => ?_)
    · replace e1 := e1.symm; subst e1 e2
      have hm : x ∈ rs := List.mem_of_getElem? hxi
      unfold t_State_init_2
      ktf_call sq
      refine Br.by (fun hn => ?_) fun hn => ?_
      · ktf_call sq
        exact ⟨⟨_, rfl⟩, takeAll m2 hxi (by subst hn; rfl)⟩
      · ktf_call sq
        refine Call.by ⟨x, rfl, (kr x hm).1, (kr x hm).2, ?_⟩
        ktf_call sq
        refine Br.by (fun hb => ?_) fun hb => ?_
        · ktf_call sq
          exact bad fun ⟨_, _, _, h3⟩ => by
            have := h3 x hm
            unfold isRegV at this
            rw [decide_eq_false hn, hb] at this
            cases this
        · ktf_call sq
          exact ⟨⟨_, rfl⟩, takeAll m2 hxi (by
            unfold isRegV
            rw [decide_eq_false hn, show isMarkV x = true by simpa using hb]
            rfl)⟩
    · replace e1 := e1.symm; subst e1 e2
      rw [List.take_of_length_le (Nat.le_refl _)] at m2
      have ok : StOk xs rs := ⟨hx, hr, m, m2⟩
      ktf_call sq
      refine AlC.by ep fun p' H1 e1 s1 => ?_
      ktf_call (s1 _ _ eo)
      refine Md.by fun H2 d2 => ?_
      have np : p' ≠ o := fun z => by rw [z, s1 _ _ eo] at e1; cases e1
      have nq : q ≠ o := fun z => by
        rcases eq with e | e <;> rw [z, eo] at e <;> cases e
      have eq2 : H2 q = some (.lst rs) ∨ H2 q = some (.tup rs) := eq.imp (fun e => d2.old nq (s1 _ _ e)) fun e => d2.old nq (s1 _ _ e)
      ktf_call sq
      refine AlC.by eq2 fun q' H3 e3 s3 => ?_
      ktf_call (s3 _ _ d2.at)
      refine Md.by fun H4 d4 => ?_
      have nq' : q' ≠ o := fun z => by rw [z, s3 _ _ d2.at] at e3; cases e3
      ktf_call sq
      exact good ok _ ⟨o, dx, p', q', rfl, d4.at, d4.old np (s3 _ _ (d2.old np e1)), d4.old nq' e3⟩ fun b u hb e => d4.old hb (s3 _ _ (d2.old hb (s1 _ _ e)))
def sp_State (K : PySem.W.Frag) : Sp := fun vs H Q E => ∃ (p q : Addr) (xs rs : List V), vs = [.ref p, .ref q] ∧ (H p = some (.lst xs) ∨ H p = some (.tup xs)) ∧ (H q = some (.lst rs) ∨ H q = some (.tup rs)) ∧
  (∀ v ∈ xs, okV H v) ∧ (∀ v ∈ rs, okV H v) ∧ (StOk xs rs → ∀ v H', IsSt K H' v xs rs → L2.Same H H' → Q v H') ∧ (¬ StOk xs rs → ∀ H', L2.Same H H' → E (.ref (cBad K)) none H')
theorem new_State {K : PySem.W.Frag} : ∀ vs H Q E, sp_State K vs H Q E → ∀ o dx, H o = none → H dx = none → dx ≠ o → sp_State_init K (.ref o :: vs) (upd (upd H dx (.own o)) o (.ins (cSt K) dx [])) (fun v H2 => v = .non ∧ Q (.ref o) H2) E := by
  intro vs H Q E ⟨p, q, xs, rs, e, ep, eq, kx, kr, good, bad⟩ o dx no nd ne
  subst e
  have n1 : New H dx (.own o) (upd H dx (.own o)) := ⟨nd, rfl⟩
  have s1 : L2.Same H (upd (upd H dx (.own o)) o (.ins (cSt K) dx [])) := fun b u e => by
    rw [upd_ne (ne_of_none e no)]
    exact n1.old e
  refine ⟨o, dx, p, q, xs, rs, rfl, upd_same, ep.imp (s1 _ _) (s1 _ _), eq.imp (s1 _ _) (s1 _ _), fun v hv => okV_same s1 (kx v hv), fun v hv => okV_same s1 (kr v hv), fun ok H' h k => ⟨rfl, good ok _ H' h fun b u e => k b u (ne_of_none e no) (s1 _ _ e)⟩, fun nok => bad nok _ s1⟩
def m1 (A : Addr) : Addr → Option Bool := fun D => if D = A then some true else none
theorem m1_self {A : Addr} : m1 A A = some true := by unfold m1; rw [if_pos rfl]
theorem isMark_sn {v : V} (h : isMarkV v = true) : sn v = true := by
  cases v with
  | str z =>
    have h : isMarkS z = true := h
    unfold isMarkS at h
    rw [Bool.and_eq_true, List.all_eq_true] at h
    show z.cps.all (· < 0x110000) = true
    rw [← Array.all_toList, List.all_eq_true]
    intro c hc
    have := of_decide_eq_true (h.2 c hc)
    have hl : ∀ c ∈ (Str.ofString "abcdefghijklmnopqrstuvwxyz").cps.toList, c < 0x110000 := by decide +kernel
    exact decide_eq_true (hl c this)
  | _ => cases h
theorem isReg_sn {v : V} (h : isRegV v = true) : sn v = true := by
  unfold isRegV at h
  by_cases e : v = .non
  · subst e; rfl
  · rw [decide_eq_false e, Bool.false_or] at h
    exact isMark_sn h
theorem StOk.sn {xs rs : List V} (h : StOk xs rs) : xs.all U.sn = true ∧ rs.all U.sn = true := ⟨List.all_eq_true.mpr fun v hv => isMark_sn (h.2.2.1 v hv), List.all_eq_true.mpr fun v hv => isReg_sn (h.2.2.2 v hv)⟩
def t_State_eq (K : PySem.W.Frag) (a_State : Addr) (m_State : Addr → Option Bool) : TS :=
  (tRet (tAndV (tCB (rIsO a_State m_State) (tCons (uVar 1) (tCons (tC (.ref a_State)) tNil))) (tAndV (tOp (rEqN false) (tUn (rFld a_State "stack") (uVar 0)) (tUn (rFld a_State "stack") (uVar 1))) (tOp (rEqN false) (tUn (rFld a_State "registers") (uVar 0)) (tUn (rFld a_State "registers") (uVar 1))))))
def sp_State_eq (K : PySem.W.Frag) : Sp := fun vs H Q _ => ∃ (a b : V) (xs rs ys ts : List V), vs = [a, b] ∧ IsSt K H a xs rs ∧ IsSt K H b ys ts ∧ StOk xs rs ∧ StOk ys ts ∧ Q (.bl (decide (xs = ys) && decide (rs = ts))) H
theorem len_State_eq {K : PySem.W.Frag} : ∀ vs H Q E, sp_State_eq K vs H Q E → vs.length = 2 := fun _ _ _ _ ⟨_, _, _, _, _, _, e, _⟩ => by rw [e]; rfl
theorem pure_State_eq {K : PySem.W.Frag} (vs : List V) (H : Hp) (Q : VK) (E : XK) (h : sp_State_eq K vs H Q E) : t_State_eq K (cSt K) (m1 (cSt K)) { nx := fun _ H' => Q .non H', rt := Q } (start ["self", "other"] vs) H := by
  obtain ⟨a, b, xs, rs, ys, ts, rfl, ⟨o, dx, p, q, rfl, h1, h2, h3⟩, ⟨o2, dx2, p2, q2, rfl, g1, g2, g3⟩, ok1, ok2, hq⟩ := h
  obtain ⟨n1, n2⟩ := ok1.sn
  obtain ⟨n3, n4⟩ := ok2.sn
  unfold t_State_eq
  show tRet _ _ [some (.ref o), some (.ref o2)] H
  have fs := And.intro h1 (And.intro h2 (And.intro h3 (And.intro g1 (And.intro g2 (And.intro g3 (And.intro n1 (And.intro n2 (And.intro n3 (And.intro n4 (m1_self (A := cSt K)))))))))))
  ktf_call fs
  refine Br.by (fun e => ?_) fun e => ?_
  · ktf_call fs
    rw [decide_eq_true e, Bool.true_and] at hq
    exact hq
  · ktf_call fs
    rw [decide_eq_false e, Bool.false_and] at hq
    exact hq
def t_State_empty (K : PySem.W.Frag) : TS :=
  (tRet (uCallX (sp_State K) w0 (tCons (tTup tNil) (tCons (tTup (tCons (tC .non) (tCons (tC .non) (tCons (tC .non) (tCons (tC .non) tNil))))) tNil))))
def sp_State_empty (K : PySem.W.Frag) : Sp := fun vs H Q _ => vs = [] ∧ ∀ v H', IsSt K H' v [] [.non, .non, .non, .non] → L2.Same H H' → Q v H'
theorem len_State_empty {K : PySem.W.Frag} : ∀ vs H Q E, sp_State_empty K vs H Q E → vs.length = 0 := fun _ _ _ _ ⟨e, _⟩ => by rw [e]; rfl
theorem pure_State_empty {K : PySem.W.Frag} (vs : List V) (H : Hp) (Q : VK) (E : XK) (h : sp_State_empty K vs H Q E) : t_State_empty K { nx := fun _ H' => Q .non H', rt := Q } (start [] vs) H := by
  obtain ⟨rfl, hq⟩ := h
  unfold t_State_empty
  show tRet _ _ [] H
  ktf_call Cd_true
  refine Al.by fun p H1 n1 => ?_
  ktf_call Cd_true
  refine Al.by fun q H2 n2 => ?_
  ktf_call Cd_true
  have ok : StOk [] [.non, .non, .non, .non] := ⟨by decide, rfl, by simp, fun v hv => by simp at hv; subst hv; rfl⟩
  refine Call.by ⟨p, q, _, _, rfl, .inr (n2.old n1.at), .inr n2.at, by simp, fun v hv => ?_, fun _ v H' h s => hq v H' h ((n1.same.trans n2.same).trans s), fun h => absurd ok h⟩
  simp at hv
  subst hv
  exact ⟨rfl, trivial⟩
end U
end

section
namespace U
open PySem PySem.Spec PyProof.Rows L2
def Ob (D : Dr) (v : V) (H : Hp) : Prop := (flatV v = true ∧ strOk v) ∨ ∃ p xs, v = .ref p ∧ p ≠ D.d ∧ (H p = some (.tup xs) ∨ H p = some (.lst xs))
theorem Ob.ok {D : Dr} {H : Hp} {v : V} (h : Ob D v H) : okV H v := by
  rcases h with ⟨h, z⟩ | ⟨p, xs, rfl, _, e⟩
  · cases v <;> first | exact ⟨rfl, z⟩ | cases h
  · refine ⟨?_, trivial⟩
    rw [tyV_ref]
    rcases e with e | e <;> rw [e] <;> rfl
theorem Ob.keep {D : Dr} {H H' : Hp} {v : V} (h : Ob D v H) (k : Keep D.d H H') : Ob D v H' := by
  rcases h with h | ⟨p, xs, rfl, n, e⟩
  · exact .inl h
  · exact .inr ⟨p, xs, rfl, n, e.imp (k.at n) (k.at n)⟩
theorem Ob.lay {D : Dr} {H H' : Hp} {v : V} {p : Addr} {o : HO} (h : Ob D v H) (n : New H p o H') : Ob D v H' := by
  rcases h with h | ⟨p, xs, rfl, ne, e⟩
  · exact .inl h
  · exact .inr ⟨p, xs, rfl, ne, e.imp n.old n.old⟩
theorem Ob.mod {D : Dr} {H H' : Hp} {v : V} {p : Addr} {ys : List V} (h : Ob D v H) (m : Mod H p (.lst ys) H') : Ob D v H' := by
  rcases h with h | ⟨q, xs, rfl, ne, e⟩
  · exact .inl h
  · by_cases z : q = p
    · subst z
      exact .inr ⟨q, ys, rfl, ne, .inr m.at⟩
    · exact .inr ⟨q, xs, rfl, ne, e.imp (m.old z) (m.old z)⟩
theorem Ob.mark {D : Dr} {H : Hp} {z : Str} (h : isMarkS z = true) : Ob D (.str z) H := by
  refine .inl ⟨rfl, ?_⟩
  unfold isMarkS at h
  simp only [Bool.and_eq_true, decide_eq_true_eq] at h
  exact Nat.le_trans h.1.2 (by decide)
structure DrL (Dw : Dr) (H0 : Hp) (D : Addr) (acc : List V) (H : Hp) : Prop where
  dr : DrawsOk H Dw
  n1 : D ≠ Dw.d
  n2 : D ≠ Dw.L
  at_ : H D = some (.lst acc)
  kp : Keep Dw.d H0 H
  fr : H0 D = none
section
variable {Dw : Dr} {H0 H H' : Hp} {D : Addr} {acc acc' : List V}
theorem DrL.new (hd : DrawsOk H0 Dw) (n : New H0 D (.lst acc) H) : DrL Dw H0 D acc H := ⟨n.draws hd, hd.ne n.fr, hd.neL n.fr, n.at, n.keep (Keep.refl _ _), n.fr⟩
theorem DrL.start (hd : DrawsOk H0 Dw) (hD : H0 D = none) : DrL Dw H0 D [] (upd H0 D (.lst [])) := DrL.new hd ⟨hD, rfl⟩
theorem DrL.mod (d : DrL Dw H0 D acc H) (m : Mod H D (.lst acc') H') : DrL Dw H0 D acc' H' := by
  rw [m.eq]
  refine ⟨d.dr.set d.n1 d.n2, d.n1, d.n2, upd_same, fun b h1 h2 => ?_, d.fr⟩
  rw [upd_ne (fun z => h2 (by rw [z]; exact d.fr))]
  exact d.kp b h1 h2
theorem DrL.push (d : DrL Dw H0 D acc H) (v : V) : DrL Dw H0 D (acc ++ [v]) (upd H D (.lst (acc ++ [v]))) := d.mod ⟨rfl⟩
theorem DrL.draw (d : DrL Dw H0 D acc H) (h : DrawsOk H' Dw) (k : Keep Dw.d H H') : DrL Dw H0 D acc H' := ⟨h, d.n1, d.n2, k.at d.n1 d.at_, d.kp.trans k, d.fr⟩
theorem DrL.lay {p : Addr} {o : HO} (d : DrL Dw H0 D acc H) (n : New H p o H') : DrL Dw H0 D acc H' := ⟨n.draws d.dr, d.n1, d.n2, n.old d.at_, n.keep d.kp, d.fr⟩
end
end U
end

section
namespace U
open PySem PySem.Spec PyProof.Rows L2
section
variable {H H' : Hp} {p q b d : Addr} {o u : HO} {xs ys : List V} {Q : VK} {P : Prop}
theorem OKl {k : List V → Prop} (h : H p = some (.lst xs)) (r : k xs) : @OK _ (lstO (H p)) ⟨k⟩ := OK.by (by rw [h]; rfl) r
theorem OKt {k : List V → Prop} (h : H p = some (.tup xs)) (r : k xs) : @OK _ (tupO (H p)) ⟨k⟩ := OK.by (by rw [h]; rfl) r
theorem OKql {k : List V → Prop} (h : H p = some (.lst xs)) (r : k xs) : @OK _ (seqO (H p)) ⟨k⟩ := OK.by (by rw [h]; rfl) r
theorem OKqt {k : List V → Prop} (h : H p = some (.tup xs)) (r : k xs) : @OK _ (seqO (H p)) ⟨k⟩ := OK.by (by rw [h]; rfl) r
theorem OKnl {k : Nat → Prop} (h : H p = some (.lst xs)) (r : k xs.length) : @OK _ (lenO (H p)) ⟨k⟩ := OK.by (by rw [h]; rfl) r
theorem OKnt {k : Nat → Prop} (h : H p = some (.tup xs)) (r : k xs.length) : @OK _ (lenO (H p)) ⟨k⟩ := OK.by (by rw [h]; rfl) r
theorem OKnd {k : Nat → Prop} {kvs : List (Key × V)} (h : H p = some (.dK kvs)) (r : k kvs.length) : @OK _ (lenO (H p)) ⟨k⟩ := OK.by (by rw [h]; rfl) r
theorem OKyl {k : Ty → Prop} (h : H p = some (.lst xs)) (r : k .lst) : @OK _ (tyO (H p)) ⟨k⟩ := OK.by (by rw [h]; rfl) r
theorem OKyt {k : Ty → Prop} (h : H p = some (.tup xs)) (r : k .tup) : @OK _ (tyO (H p)) ⟨k⟩ := OK.by (by rw [h]; rfl) r
theorem OKyd {k : Ty → Prop} {kvs : List (Key × V)} (h : H p = some (.dK kvs)) (r : k .dict) : @OK _ (tyO (H p)) ⟨k⟩ := OK.by (by rw [h]; rfl) r
theorem OKbl {k : Bool → Prop} (h : H p = some (.lst xs)) (r : k (!xs.isEmpty)) : @OK _ (truO (H p)) ⟨k⟩ := OK.by (by rw [h]; rfl) r
theorem OKbt {k : Bool → Prop} (h : H p = some (.tup xs)) (r : k (!xs.isEmpty)) : @OK _ (truO (H p)) ⟨k⟩ := OK.by (by rw [h]; rfl) r
theorem OKbd {k : Bool → Prop} {kvs : List (Key × V)} (h : H p = some (.dK kvs)) (r : k (!kvs.isEmpty)) : @OK _ (truO (H p)) ⟨k⟩ := OK.by (by rw [h]; rfl) r
theorem OKi {C dx : Addr} {fs : List (Str × V)} {k : List (Str × V) → Prop} (h : H p = some (.ins C dx fs)) (r : k fs) : @OK _ (insO C (H p)) ⟨k⟩ := OK.by (by rw [h]; exact insO_ins) r
theorem OKj {C dx : Addr} {fs : List (Str × V)} {k : Addr × List (Str × V) → Prop} (h : H p = some (.ins C dx fs)) (r : k (dx, fs)) : @OK _ (insD C (H p)) ⟨k⟩ := OK.by (by rw [h]; exact insD_ins) r
theorem OKsl {k : Bool × List V → Prop} (h : H p = some (.lst xs)) (r : k (false, xs)) : @OK _ (snO (H p)) ⟨k⟩ := OK.by (by rw [h]; rfl) r
theorem OKst {k : Bool × List V → Prop} (h : H p = some (.tup xs)) (r : k (true, xs)) : @OK _ (snO (H p)) ⟨k⟩ := OK.by (by rw [h]; rfl) r
theorem OKr {C dx : Addr} {fs : List (Str × V)} {M : Addr → Option Bool} {k : Bool → Prop} (h : H p = some (.ins C dx fs)) (r : @OK _ (M C) ⟨k⟩) : @OK _ (isR M (H p)) ⟨k⟩ := by rw [h]; exact r
theorem OKrt {M : Addr → Option Bool} {k : Bool → Prop} (h : H p = some (.tup xs)) (r : k false) : @OK _ (isR M (H p)) ⟨k⟩ := by rw [h]; exact r
theorem OKrl {M : Addr → Option Bool} {k : Bool → Prop} (h : H p = some (.lst xs)) (r : k false) : @OK _ (isR M (H p)) ⟨k⟩ := by rw [h]; exact r
theorem AlS_l {lo hi : Option Int} (h : H p = some (.lst xs)) (r : @Al H (.lst (cutV xs lo hi)) ⟨Q⟩) : @AlS H p (H p) lo hi ⟨Q⟩ := by rw [h]; exact r
theorem AlS_t {lo hi : Option Int} (h : H p = some (.tup xs)) (r : @Br (wholeT xs.length lo hi) ⟨Q (.ref p) H⟩ ⟨@Al H (.tup (cutV xs lo hi)) ⟨Q⟩⟩) : @AlS H p (H p) lo hi ⟨Q⟩ := by rw [h]; exact r
theorem AlC_l (h : H p = some (.lst xs)) (r : @Al H (.tup xs) ⟨Q⟩) : @AlC H p (H p) ⟨Q⟩ := by rw [h]; exact r
theorem AlC_t (h : H p = some (.tup xs)) (r : Q (.ref p) H) : @AlC H p (H p) ⟨Q⟩ := by rw [h]; exact r
theorem CdL {K : PySem.W.Frag} (h : H p = some (.lst xs)) (r : P) : @Cd (L2.tyV K "list" (.ref p) H) ⟨P⟩ := ⟨.inl ⟨rfl, xs, .inl (.inl h)⟩, r⟩
theorem OKa {α : Type} {l : List α} {i : Int} {k : α → Prop} (h0 : 0 ≤ i) (h1 : i < (l.length : Int)) (r : ∀ (j : Nat) v, i = (j : Int) → l[j]? = some v → k v) : @OK _ (atI l i) ⟨k⟩ := by
  obtain ⟨j, rfl⟩ := Int.eq_ofNat_of_zero_le h0
  have hj : j < l.length := by omega
  exact OK.by (x := l[j]) (by unfold atI ixN; rw [if_pos h0, if_pos h1]; show l[j]? = some _; exact List.getElem?_eq_getElem hj) (r j _ rfl (List.getElem?_eq_getElem hj))
theorem OKm {α : Type} {l : List α} {i : Int} {k : α → Prop} (h0 : 0 ≤ i) (h1 : i < (l.length : Int)) (r : ∀ v, v ∈ l → k v) : @OK _ (atI l i) ⟨k⟩ := OKa h0 h1 fun j v _ e => r v (List.mem_of_getElem? e)
theorem OKe {α : Type} {l : List α} {i : Int} {k : α → Prop} (h0 : i < 0) (h1 : -(l.length : Int) ≤ i) (r : ∀ (j : Nat) v, (j : Int) = i + (l.length : Int) → l[j]? = some v → k v) : @OK _ (atI l i) ⟨k⟩ := by
  obtain ⟨j, hj⟩ := Int.eq_ofNat_of_zero_le (show 0 ≤ i + (l.length : Int) by omega)
  have hl : j < l.length := by omega
  exact OK.by (x := l[j]) (by unfold atI ixN; rw [if_neg (by omega), if_pos h1, hj]; show l[j]? = some _; exact List.getElem?_eq_getElem hl) (r j _ hj.symm (List.getElem?_eq_getElem hl))
theorem OKx {n : Nat} {i : Int} {k : Nat → Prop} (h0 : 0 ≤ i) (h1 : i < (n : Int)) (r : ∀ j : Nat, i = (j : Int) → j < n → k j) : @OK _ (ixN n i) ⟨k⟩ := by
  obtain ⟨j, rfl⟩ := Int.eq_ofNat_of_zero_le h0
  exact OK.by (x := j) (by unfold ixN; rw [if_pos h0, if_pos h1]; rfl) (r j rfl (by omega))
theorem OKn {α : Type} {l : List α} {n : Nat} {k : α → Prop} (h : n < l.length) (r : ∀ v, l[n]? = some v → k v) : @OK _ (atI l (n : Int)) ⟨k⟩ :=
  OK.by (x := l[n]) (by unfold atI ixN; rw [if_pos (by omega), if_pos (by omega)]; exact List.getElem?_eq_getElem h) (r _ (List.getElem?_eq_getElem h))
theorem OKl1 {α : Type} {l : List α} {k : α → Prop} (h : 1 ≤ l.length) (r : ∀ v, l[l.length - 1]? = some v → k v) : @OK _ (atI l (-1)) ⟨k⟩ := OKe (by omega) (by omega) fun j v e hv => r v (by rw [show l.length - 1 = j by omega]; exact hv)
theorem OKl2 {α : Type} {l : List α} {k : α → Prop} (h : 2 ≤ l.length) (r : ∀ v, l[l.length - 2]? = some v → k v) : @OK _ (atI l (-2)) ⟨k⟩ := OKe (by omega) (by omega) fun j v e hv => r v (by rw [show l.length - 2 = j by omega]; exact hv)
theorem OKlk {α : Type} {l : List α} {n : Nat} {k : α → Prop} (h : n < l.length) (r : ∀ v, l[l.length - 1 - n]? = some v → k v) : @OK _ (atI l (-1 - (n : Int))) ⟨k⟩ := OKe (by omega) (by omega) fun j v e hv => r v (by rw [show l.length - 1 - n = j by omega]; exact hv)
theorem OKg {α : Type} {l : List α} {n : Nat} {k : α → Prop} (h : n < l.length) (r : ∀ v, l[n]? = some v → k v) : @OK _ l[n]? ⟨k⟩ := OK.by (List.getElem?_eq_getElem h) (r _ (List.getElem?_eq_getElem h))
theorem OKxn {n m : Nat} {k : Nat → Prop} (h : m < n) (r : k m) : @OK _ (ixN n (m : Int)) ⟨k⟩ := OK.by (x := m) (by unfold ixN; rw [if_pos (by omega), if_pos (by omega)]; rfl) r
theorem OKln {α : Type} {l : List α} {n : Nat} {k : α → Prop} (h : n < l.length) (r : ∀ v, l[l.length - 1 - n]? = some v → k v) : @OK _ (atI l ((l.length : Int) - 1 - (n : Int))) ⟨k⟩ := OKa (by omega) (by omega) fun j v e hv => r v (by rw [show l.length - 1 - n = j by omega]; exact hv)
theorem seqIx_of {i : Int} {n m : Nat} (h : m < n) (e : i = (m : Int) ∨ i + (n : Int) = (m : Int) ∧ i < 0) : seqIndex? i n = some m := by
  unfold seqIndex?
  rcases e with rfl | ⟨e, l⟩
  · rw [if_neg (show ¬ (m : Int) < 0 by omega)]
    simp only
    rw [if_pos (by simp; omega)]
    rfl
  · rw [if_pos l]
    simp only
    rw [e, if_pos (by simp; omega)]
    rfl
theorem OKsi {n m : Nat} {k : Nat → Prop} (h : m < n) (r : k (n - 1 - m)) : @OK _ (seqIndex? (-1 - (m : Int)) n) ⟨k⟩ := OK.by (seqIx_of (show n - 1 - m < n by omega) (.inr ⟨by omega, by omega⟩)) r
theorem OKsn {n m : Nat} {i : Int} {k : Nat → Prop} (e : i = (m : Int)) (h : m < n) (r : k m) : @OK _ (seqIndex? i n) ⟨k⟩ := OK.by (seqIx_of h (.inl e)) r
theorem OKsm {n m : Nat} {k : Nat → Prop} (h : m < n) (r : k (n - 1 - m)) : @OK _ (seqIndex? ((n : Int) - 1 - (m : Int)) n) ⟨k⟩ := OK.by (seqIx_of (show n - 1 - m < n by omega) (.inl (by omega))) r
theorem ne_kd {v : HO} (h1 : H b = some u) (h2 : H p = some v) (k : u = v → False) : b ≠ p := fun e => k (by rw [e, h2] at h1; cases h1; rfl)
theorem Mod.lk (n : Mod H p o H') (e : H b = some u) (h : b ≠ p) : H' b = some u := n.old h e
theorem Keep.lk (n : Keep d H H') (e : H b = some u) (h : b ≠ d) : H' b = some u := n.at h e
theorem Same.at (s : L2.Same H H') (h : H b = some u) : H' b = some u := s _ _ h
theorem Same.none (s : L2.Same H H') (h : H' p = none) : H p = none := by
  cases e : H p with
  | none => rfl
  | some u => rw [s _ _ e] at h; cases h
theorem Same.new {H1 : Hp} (s : L2.Same H H1) (n : New H1 p o H') : L2.Same H H' := s.trans n.same
theorem Same.mod {H1 : Hp} (s : L2.Same H H1) (m : Mod H1 p o H') (f : H p = Option.none) : L2.Same H H' := fun c v e => by
  rw [m.off (fun z => by rw [z, f] at e; cases e)]
  exact s _ _ e
theorem Keep.same' (s : L2.Same H H') : Keep d H H' := fun b _ h2 => by
  cases e : H b with
  | none => exact absurd e h2
  | some u => exact s _ _ e
theorem Keep.none (k : Keep d H H') (hd : H d ≠ Option.none) (h : H' p = Option.none) (hp : H' d ≠ Option.none) : H p = Option.none := by
  cases e : H p with
  | none => rfl
  | some u =>
    have : p ≠ d := fun z => hp (by rw [← z]; exact h)
    rw [k.at this e] at h
    cases h
theorem Keep.new' {H1 : Hp} (k : Keep d H H1) (n : New H1 p o H') : Keep d H H' := n.keep k
theorem Keep.mod {H1 : Hp} (k : Keep d H H1) (m : Mod H1 p o H') (f : H p = Option.none) : Keep d H H' := fun b h1 h2 => by
  rw [m.off (fun z => h2 (by rw [z]; exact f))]
  exact k b h1 h2
theorem Keep.modd {H1 : Hp} (k : Keep d H H1) (m : Mod H1 d o H') : Keep d H H' := fun b h1 h2 => by
  rw [m.off h1]
  exact k b h1 h2
theorem Keep.fresh {D : Dr} (k : Keep D.d H H') (d : DrawsOk H D) (d' : DrawsOk H' D) (h : H' p = Option.none) : H p = Option.none := k.none d.some h d'.some
theorem Mod.draws {D : Dr} (m : Mod H p o H') (h : DrawsOk H D) (h1 : p ≠ D.d) (h2 : p ≠ D.L) : DrawsOk H' D := by rw [m.eq]; exact h.set h1 h2
theorem DrawsOk.neN {D : Dr} (hp : H p = Option.none) (h : DrawsOk H D) : p ≠ D.d := h.ne hp
theorem DrawsOk.neLN {D : Dr} (hp : H p = Option.none) (h : DrawsOk H D) : p ≠ D.L := h.neL hp
theorem neN (hp : H p = Option.none) (e : H b = Option.some u) : b ≠ p := ne_of_none e hp
theorem DrawsOk.ne' {D : Dr} (n : New H p o H') (h : DrawsOk H D) : p ≠ D.d := h.ne n.fr
theorem DrawsOk.neL' {D : Dr} (n : New H p o H') (h : DrawsOk H D) : p ≠ D.L := h.neL n.fr
theorem DrawsOk.atd {D : Dr} (h : DrawsOk H D) : ∃ xs, H D.d = Option.some (.lst xs) := by
  obtain ⟨_, _, _, _, e, _⟩ := h
  exact ⟨_, e⟩
theorem DrawsOk.atL {D : Dr} (h : DrawsOk H D) : ∃ xs, H D.L = Option.some (.lst xs) := by
  obtain ⟨_, _, _, _, _, _, e, _⟩ := h
  exact ⟨_, e⟩
def notL : HO → Bool
  | .lst _ => false
  | _ => true
theorem DrawsOk.other' {D : Dr} (h : DrawsOk H D) (e : H p = Option.some u) (k : notL u = true) : p ≠ D.d := fun z => by
  obtain ⟨xs, e'⟩ := h.atd
  rw [z, e'] at e
  cases e
  cases k
theorem DrawsOk.otherL {D : Dr} (h : DrawsOk H D) (e : H p = Option.some u) (k : notL u = true) : p ≠ D.L := fun z => by
  obtain ⟨xs, e'⟩ := h.atL
  rw [z, e'] at e
  cases e
  cases k
def Kl (H H' : Hp) : Prop := ∀ b o, H b = some o → notL o = true → H' b = some o
theorem Kl.refl (H : Hp) : Kl H H := fun _ _ e _ => e
theorem Kl.trans {H1 : Hp} (a : Kl H H1) (b : Kl H1 H') : Kl H H' := fun c o e k => b c o (a c o e k) k
theorem New.kl (n : New H p o H') : Kl H H' := fun _ _ e _ => n.old e
theorem Same.kl (s : L2.Same H H') : Kl H H' := fun _ _ e _ => s _ _ e
theorem Mod.kl (m : Mod H p o H') (e : H p = some (.lst xs)) : Kl H H' := fun b u h k => by
  rw [m.off (fun z => by rw [z, e] at h; cases h; cases k)]
  exact h
theorem Keep.kl {D : Dr} (k : Keep D.d H H') (h : DrawsOk H D) : Kl H H' := fun b u e n => k.at (h.other' e n) e
theorem Kl.at (k : Kl H H') (h : H p = some o) (n : notL o = true) : H' p = some o := k _ _ h n
theorem IsSt.kl {K : PySem.W.Frag} {v : V} {rs : List V} (h : IsSt K H v xs rs) (s : Kl H H') : IsSt K H' v xs rs := by
  obtain ⟨o, dx, p, q, e, h1, h2, h3⟩ := h
  exact ⟨o, dx, p, q, e, s _ _ h1 rfl, s _ _ h2 rfl, s _ _ h3 rfl⟩
end

theorem cutV_from {xs : List V} {k : Nat} : cutV xs (some (k : Int)) none = xs.drop k := by
  unfold cutV
  rw [HT.sIx_nat, HT.sIx_none]
  by_cases h : k ≤ xs.length
  · rw [Nat.min_eq_left h, List.take_of_length_le (by rw [List.length_drop]; omega)]
  · rw [Nat.min_eq_right (by omega), List.drop_of_length_le (Nat.le_refl _), List.drop_of_length_le (by omega), List.take_nil]
theorem cutV_to {xs : List V} {k : Nat} : cutV xs none (some (k : Int)) = xs.take k := by
  unfold cutV
  rw [HT.sIx_nat, HT.sIx_none, List.drop_zero, Nat.sub_zero]
  by_cases h : k ≤ xs.length
  · rw [Nat.min_eq_left h]
  · rw [Nat.min_eq_right (by omega), List.take_of_length_le (Nat.le_refl _), List.take_of_length_le (by omega)]
theorem cutV_btw {xs : List V} {k l : Nat} (h : k ≤ l) (hl : l ≤ xs.length) : cutV xs (some (k : Int)) (some (l : Int)) = (xs.drop k).take (l - k) := by
  unfold cutV
  rw [HT.sIx_nat, HT.sIx_nat, show min k xs.length = k by omega, show min l xs.length = l by omega]
theorem cutV_1 {xs : List V} : cutV xs (some 1) none = xs.drop 1 := cutV_from (k := 1)
theorem cutV_to1 {xs : List V} : cutV xs none (some 1) = xs.take 1 := cutV_to (k := 1)
section
variable {K : PySem.W.Frag} {g : TG} {σ : L2.St} {H : Hp} {te : TE} {us : List Nat} {Q : VK}
theorem seqAt_of {H H' : Hp} {a : Addr} {xs : List V} (hx : seqAt H a = some xs) (s : L2.Same H H') : H' a = H a := by
  unfold seqAt at hx
  cases ha : H a with
  | none => rw [ha] at hx; cases hx
  | some o => exact s _ _ ha
theorem comp_map {a : Addr} {xs : List V} (f : V → V) (hx : seqAt H a = some xs) (hl : xs.length ≤ 16777216)
    (hs : ∀ x H' (R : VK), x ∈ xs → L2.Same H H' → (∀ H4, L2.Same H' H4 → R (f x) H4) → g x (wipe σ us) H' fun σ2 H2 => wipe σ2 us = wipe σ us ∧ te σ2 H2 R)
    (hd : ∀ L H', H L = none → H' L = some (.lst (xs.map f)) → L2.Same H H' → Q (.ref L) H') : @CompU K (.ref a) us σ H ⟨g⟩ ⟨tYes⟩ ⟨te⟩ ⟨Q⟩ := by
  refine comp_seq hx (fun D i acc H' => L2.Same H H' ∧ H D = none ∧ H' D = some (.lst acc) ∧ acc = (xs.take i).map f) (fun D hD => ⟨same_new (L2.Same.refl H) hD, hD, upd_same, rfl⟩) (fun D i acc H' hD _ ⟨s, _⟩ => seqAt_of hx s) (fun D i x acc H' Nx hxi ⟨s, hD, e, ea⟩ hN => ?_) (fun D acc H' hD ⟨s, _, e, ea⟩ => ?_)
  · refine hs x H' (fun y H4 => ∃ acc, H4 D = some (.lst acc) ∧ acc.length < sizeLine ∧ Nx (upd H4 D (.lst (acc ++ [y])))) (List.mem_of_getElem? hxi) s fun H4 s4 => ?_
    have hi : i < xs.length := (List.getElem?_eq_some_iff.mp hxi).1
    refine ⟨acc, s4 _ _ e, ?_, hN (acc ++ [f x]) _ ⟨fun b u eb => ?_, hD, upd_same, ?_⟩⟩
    · rw [ea, List.length_map, List.length_take]
      show _ < 16777216
      omega
    · rw [upd_ne (ne_of_none eb hD)]
      exact s4 _ _ (s _ _ eb)
    · rw [ea, List.take_add_one, hxi, List.map_append]
      rfl
  · exact hd D H' hD (by rw [e, ea, List.take_of_length_le (Nat.le_refl _)]) s
theorem comp_rmap {lo : Int} {n : Nat} (f : Nat → V) (hn : n ≤ 16777216)
    (hs : ∀ i H' (R : VK), i < n → L2.Same H H' → (∀ H4, L2.Same H' H4 → R (f i) H4) → g (.int (lo + (i : Int))) (wipe σ us) H' fun σ2 H2 => wipe σ2 us = wipe σ us ∧ te σ2 H2 R)
    (hd : ∀ L H', H L = none → H' L = some (.lst ((List.range n).map f)) → L2.Same H H' → Q (.ref L) H') : @CompJ (Itr lo n) us σ H ⟨g⟩ ⟨tYes⟩ ⟨te⟩ ⟨Q⟩ := by
  refine comp_rng (fun D i acc H' => L2.Same H H' ∧ H D = none ∧ H' D = some (.lst acc) ∧ acc = (List.range i).map f) (fun D hD => ⟨same_new (L2.Same.refl H) hD, hD, upd_same, rfl⟩) (fun D i acc H' Nx hi ⟨s, hD, e, ea⟩ hN => ?_) (fun D acc H' hD ⟨s, _, e, ea⟩ => ?_)
  · refine hs i H' (fun y H4 => ∃ acc, H4 D = some (.lst acc) ∧ acc.length < sizeLine ∧ Nx (upd H4 D (.lst (acc ++ [y])))) hi s fun H4 s4 => ?_
    refine ⟨acc, s4 _ _ e, ?_, hN (acc ++ [f i]) _ ⟨fun b u eb => ?_, hD, upd_same, ?_⟩⟩
    · rw [ea, List.length_map, List.length_range]
      show _ < 16777216
      omega
    · rw [upd_ne (ne_of_none eb hD)]
      exact s4 _ _ (s _ _ eb)
    · rw [ea, List.range_succ, List.map_append]
      rfl
  · exact hd D H' hD (by rw [e, ea]) s
theorem comp_drawn {D : Dr} {lo : Int} {n : Nat} (P : V → Hp → Prop) (hP : ∀ v H1 H2, Kl H1 H2 → P v H1 → P v H2) (hd : DrawsOk H D) (hn : n ≤ 16777216)
    (hs : ∀ i H' (R : VK), i < n → DrawsOk H' D → Keep D.d H H' → (∀ y H4, P y H4 → DrawsOk H4 D → Keep D.d H' H4 → R y H4) → g (.int (lo + (i : Int))) (wipe σ us) H' fun σ2 H2 => wipe σ2 us = wipe σ us ∧ te σ2 H2 R)
    (q : ∀ L acc H', H L = none → H' L = some (.lst acc) → acc.length = n → (∀ y ∈ acc, P y H') → DrawsOk H' D → Keep D.d H H' → Q (.ref L) H') : @CompJ (Itr lo n) us σ H ⟨g⟩ ⟨tYes⟩ ⟨te⟩ ⟨Q⟩ := by
  refine comp_rng (fun L i acc H' => DrL D H L acc H' ∧ acc.length = i ∧ ∀ y ∈ acc, P y H') (fun L hL => ⟨DrL.start hd hL, rfl, fun v hv => absurd hv (List.not_mem_nil)⟩) (fun L i acc H' Nx hi ⟨p1, p2, p3⟩ hN => ?_) (fun L acc H' hL ⟨p1, p2, p3⟩ => ?_)
  · refine hs i H' (fun y H4 => ∃ acc, H4 L = some (.lst acc) ∧ acc.length < sizeLine ∧ Nx (upd H4 L (.lst (acc ++ [y])))) hi p1.dr p1.kp fun y H4 py d4 k4 => ?_
    have p4 := p1.draw d4 k4
    have kl : Kl H4 (upd H4 L (.lst (acc ++ [y]))) := Mod.kl ⟨rfl⟩ p4.at_
    refine ⟨acc, p4.at_, ?_, hN (acc ++ [y]) _ ⟨p4.push y, by rw [List.length_append, p2]; rfl, fun v hv => ?_⟩⟩
    · rw [p2]
      show _ < 16777216
      omega
    · rcases List.mem_append.mp hv with hv | hv
      · exact hP _ _ _ kl (hP _ _ _ (k4.kl p1.dr) (p3 v hv))
      · rw [List.mem_singleton.mp hv]
        exact hP _ _ _ kl py
  · exact q L acc H' hL p1.at_ p2 p3 p1.dr p1.kp
end

theorem okV_mark {v : V} {H : Hp} (h : isMarkV v = true) : okV H v := by
  cases v with
  | str z =>
    refine ⟨rfl, ?_⟩
    have h : isMarkS z = true := h
    unfold isMarkS at h
    simp only [Bool.and_eq_true, decide_eq_true_eq] at h
    exact Nat.le_trans h.1.2 (by decide)
  | _ => cases h
theorem okV_reg {v : V} {H : Hp} (h : isRegV v = true) : okV H v := by
  unfold isRegV at h
  by_cases e : v = .non
  · subst e; exact ⟨rfl, trivial⟩
  · rw [decide_eq_false e, Bool.false_or] at h
    exact okV_mark h
theorem c_StateL {K : PySem.W.Frag} {p q : Addr} {xs rs : List V} {H : Hp} {Q : VK} {E : XK} (h1 : H p = some (.lst xs)) (h2 : H q = some (.lst rs)) (ok : StOk xs rs)
    (h : ∀ v H', IsSt K H' v xs rs → L2.Same H H' → Q v H') : @Call (sp_State K) [.ref p, .ref q] H ⟨Q⟩ ⟨E⟩ :=
  ⟨p, q, xs, rs, rfl, .inl h1, .inl h2, fun v hv => okV_mark (ok.2.2.1 v hv), fun v hv => okV_reg (ok.2.2.2 v hv), fun _ => h, fun z => absurd ok z⟩
theorem c_StateE {K : PySem.W.Frag} {p q : Addr} {ys ts xs rs : List V} {H : Hp} {Q : VK} {E : XK} (ok : StOk xs rs) (h1 : H p = some (.lst ys)) (e1 : ys = xs) (h2 : H q = some (.lst ts)) (e2 : ts = rs)
    (h : ∀ v H', IsSt K H' v xs rs → L2.Same H H' → Q v H') : @Call (sp_State K) [.ref p, .ref q] H ⟨Q⟩ ⟨E⟩ := c_StateL (e1 ▸ h1) (e2 ▸ h2) ok h
theorem c_eqSt {K : PySem.W.Frag} {a b : V} {H : Hp} {Q : VK} {xs rs ys ts : List V} (h1 : IsSt K H a xs rs) (h2 : IsSt K H b ys ts) (ok1 : StOk xs rs) (ok2 : StOk ys ts) (q : Q (.bl (decide (xs = ys) && decide (rs = ts))) H) : @aR (rEqO (cSt K) (sp_State_eq K)) a b H ⟨Q⟩ := by
  have z : sp_State_eq K [a, b] H (kB fun c H' => Q (.bl c) H') E0 := ⟨a, b, xs, rs, ys, ts, rfl, h1, h2, ok1, ok2, q⟩
  obtain ⟨o, dx, p, q, rfl, e, _⟩ := h1
  obtain ⟨o2, dx2, p2, q2, rfl, e2, _⟩ := h2
  rw [r_eqO]
  exact OKi e (OKi e2 z)
theorem cutSt {xs rs : List V} (ok : StOk xs rs) (k : Nat) : StOk (xs.drop k) rs := ⟨by rw [List.length_drop]; have := ok.1; omega, ok.2.1, fun v hv => ok.2.2.1 v (List.mem_of_mem_drop hv), ok.2.2.2⟩
theorem okV_keep {H H' : Hp} {D : Dr} {v : V} (h : okV H v) (d : DrawsOk H D) (d' : DrawsOk H' D) (k : Keep D.d H H') : okV H' v := by
  refine ⟨?_, h.2⟩
  have h1 := h.1
  cases v with
  | ref p =>
    by_cases e : p = D.d
    · obtain ⟨xs, hx⟩ := d'.atd
      rw [e, tyV_ref, hx]
      rfl
    · have hp : H p ≠ none := fun z => by rw [tyV_ref, z] at h1; cases h1
      rw [tyV_ref, k p e hp, ← tyV_ref]
      exact h1
  | _ => exact h1
theorem all_map {xs : List V} {f : V → Bool} : (xs.map fun v => V.bl (f v)) = (xs.map f).map V.bl := by rw [List.map_map]; rfl
end U
end

section
namespace U
open PySem PySem.Spec PyProof.Rows L2
local macro_rules | `(tactic| tb_start) => `(tactic| first
  | assumption
  | (refine Ne.symm ?_; assumption)
  | ((with_reducible apply New.ne); (focus assumption); (focus tb_rel); done)
  | (refine Ne.symm ?_; (with_reducible apply New.ne); (focus assumption); (focus tb_rel); done)
  | ((with_reducible apply neN); (focus assumption); (focus tb_rel); done)
  | (refine Ne.symm ?_; (with_reducible apply neN); (focus assumption); (focus tb_rel); done)
  | ((with_reducible apply DrawsOk.neN); (focus assumption); (focus kct_strs); done)
  | ((with_reducible apply DrawsOk.neLN); (focus assumption); (focus kct_strs); done)
  | ((with_reducible apply DrawsOk.ne'); (focus assumption); (focus kct_strs); done)
  | ((with_reducible apply DrawsOk.neL'); (focus assumption); (focus kct_strs); done)
  | ((with_reducible apply DrawsOk.other'); (focus assumption); (focus tb_rel); (focus rfl); done)
  | ((with_reducible apply DrawsOk.otherL); (focus assumption); (focus tb_rel); (focus rfl); done)
  | ((with_reducible apply ne_kd); (focus assumption); (focus tb_rel); (focus (intro h; cases h; done)); done))
local macro_rules | `(tactic| tb_rel) => `(tactic| first
  | assumption
  | exact New.at (by assumption)
  | exact Mod.at (by assumption)
  | ((with_reducible apply New.old); (focus assumption); tb_rel)
  | ((with_reducible apply Mod.lk); (focus assumption); (focus tb_rel); focus tb_start)
  | ((with_reducible apply Keep.lk); (focus assumption); (focus tb_rel); focus tb_start)
  | ((with_reducible apply Same.at); (focus assumption); tb_rel))
local macro_rules | `(tactic| kct_strs) => `(tactic| first
  | assumption
  | (refine New.draws (by assumption) ?_; kct_strs)
  | (refine DrawsOk.same ?_ (by assumption); kct_strs)
  | (refine Mod.draws (by assumption) ?_ ?_ ?_; (kct_strs); (focus tb_start); focus tb_start))
local macro_rules | `(tactic| k_updF) => `(tactic| first
  | assumption
  | exact L2.Same.refl _
  | (refine Same.new ?_ (by assumption); k_updF)
  | (refine L2.Same.trans ?_ (by assumption); k_updF)
  | (refine Same.mod ?_ (by assumption) ?_; (k_updF); lcg_sub))
local macro_rules | `(tactic| k_memK) => `(tactic| first
  | assumption
  | exact Keep.refl _ _
  | (refine Keep.new' ?_ (by assumption); k_memK)
  | (refine Keep.trans ?_ (by assumption); k_memK)
  | (refine Keep.trans ?_ (Keep.same' (by assumption)); k_memK)
  | (refine Keep.modd ?_ (by assumption); k_memK)
  | (refine Keep.mod ?_ (by assumption) ?_; (k_memK); lcg_sub))
local macro_rules | `(tactic| lcg_sub) => `(tactic| first
  | assumption
  | exact New.fr (by assumption)
  | (refine Same.none ?_ (New.fr (by assumption)); k_updF)
  | (refine Keep.fresh (D := ?_) ?_ ?_ ?_ (New.fr (by assumption)); rotate_left; (k_memK); (kct_strs); (kct_strs)))
local macro_rules | `(tactic| k_upd) => `(tactic| first
  | assumption
  | exact Kl.refl _
  | (refine Kl.trans ?_ (New.kl (by assumption)); k_upd)
  | (refine Kl.trans ?_ (Same.kl (by assumption)); k_upd)
  | (refine Kl.trans ?_ (Mod.kl (by assumption) (by tb_rel)); k_upd)
  | (refine Kl.trans ?_ (Keep.kl (by assumption) (by kct_strs)); k_upd)
  | (refine Kl.trans ?_ (by assumption); k_upd))
local macro_rules | `(tactic| kst_all1) => `(tactic| first
  | assumption | omega | (with_reducible rfl)
  | (simp only [List.length_append, List.length_map, List.length_set, List.length_take, List.length_drop, List.length_cons, List.length_nil, List.length_replicate]; omega)
  | (refine ⟨?_, ?_⟩ <;> kst_all1)
  | decide)
local macro_rules | `(tactic| k_allIn) => `(tactic| first
  | ((with_reducible apply OKl); (focus tb_rel))
  | ((with_reducible apply OKt); (focus tb_rel))
  | ((with_reducible apply OKql); (focus tb_rel))
  | ((with_reducible apply OKqt); (focus tb_rel))
  | ((with_reducible apply OKnl); (focus tb_rel))
  | ((with_reducible apply OKnt); (focus tb_rel))
  | ((with_reducible apply OKnd); (focus tb_rel))
  | ((with_reducible apply OKyl); (focus tb_rel))
  | ((with_reducible apply OKyt); (focus tb_rel))
  | ((with_reducible apply OKyd); (focus tb_rel))
  | ((with_reducible apply OKbl); (focus tb_rel))
  | ((with_reducible apply OKbt); (focus tb_rel))
  | ((with_reducible apply OKbd); (focus tb_rel))
  | ((with_reducible apply OKi); (focus tb_rel))
  | ((with_reducible apply OKj); (focus tb_rel))
  | ((with_reducible apply OKr); (focus tb_rel))
  | ((with_reducible apply OKrt); (focus tb_rel))
  | ((with_reducible apply OKrl); (focus tb_rel))
  | ((with_reducible apply OKsl); (focus tb_rel))
  | ((with_reducible apply OKst); (focus tb_rel))
  | ((with_reducible apply AlS_l); (focus tb_rel))
  | ((with_reducible apply AlS_t); (focus tb_rel))
  | ((with_reducible apply AlC_l); (focus tb_rel))
  | ((with_reducible apply AlC_t); (focus tb_rel))
  | ((with_reducible apply OKn); (focus kst_all1); intro v h)
  | ((with_reducible apply OKl1); (focus kst_all1); intro v h)
  | ((with_reducible apply OKl2); (focus kst_all1); intro v h)
  | ((with_reducible apply OKlk); (focus kst_all1); intro v h)
  | ((with_reducible apply OKln); (focus kst_all1); intro v h)
  | ((with_reducible apply OKg); (focus kst_all1); intro v h)
  | ((with_reducible apply OKxn); (focus kst_all1))
  | ((with_reducible apply OKsi); (focus kst_all1))
  | ((with_reducible apply OKsm); (focus kst_all1))
  | ((with_reducible refine OKa ?_ ?_ ?_); (focus kst_all1); (focus kst_all1); intro j v e h))
local macro_rules | `(tactic| kfm_turns) => `(tactic| repeat first
  | kpc_turns
  | k_allIn
  | l_intsW
  | ((with_reducible apply CdL); (focus tb_rel))
  | ((with_reducible refine Cd.by ?_ ?_); (focus kst_all1))
  | ((with_reducible refine Br.yes ?_ ?_); (focus (first | assumption | omega)))
  | ((with_reducible refine Br.no ?_ ?_); (focus (first | assumption | omega))))
local macro_rules | `(tactic| kpt_turns) => `(tactic| repeat first
  | kpc_turns
  | k_allIn
  | l_intsW
  | (with_reducible refine Al.by fun p H' n => ?_)
  | (with_reducible refine Md.by fun H' m => ?_)
  | ((with_reducible apply CdL); (focus tb_rel))
  | ((with_reducible refine Cd.by ?_ ?_); (focus kst_all1))
  | ((with_reducible refine Br.yes ?_ ?_); (focus (first | assumption | omega)))
  | ((with_reducible refine Br.no ?_ ?_); (focus (first | assumption | omega))))
local macro_rules | `(tactic| nest_cls) => `(tactic| repeat' first
  | kpc_turns
  | k_allIn
  | l_intsW
  | (with_reducible refine Al.by fun p H' n => ?_)
  | (with_reducible refine Md.by fun H' m => ?_)
  | ((with_reducible apply CdL); (focus tb_rel))
  | ((with_reducible refine Cd.by ?_ ?_); (focus kst_all1))
  | ((with_reducible refine Br.yes ?_ ?_); (focus (first | assumption | omega)))
  | ((with_reducible refine Br.no ?_ ?_); (focus (first | assumption | omega)))
  | (with_reducible refine Br.by (fun h => ?_) fun h => ?_))
local macro_rules | `(tactic| kpc_turns) => `(tactic| simp (config := {maxSteps := 4000000}) only [↓un_nx, ↓in_some, ↓in_none, ↓r_cd, ↓aM_pop, ↓aM_popAt, ↓r_tryL, ↓r_fld, ↓r_setF, ↓aSF_ref, ↓r_isO, ↓r_eqO, ↓r_eqN, ↓r_neN, ↓r_gsq, ↓aGs_eq, ↓r_gcons, ↓r_gnil, ↓r_isB, ↓r_bm1, ↓r_bm0, ↓aM_app, ↓r_callX, ↓r_raise0, ↓r_tryAs, ↓r_tryOnly, ↓r_seq, ↓r_ifS, ↓r_or, ↓r_and, ↓r_not, ↓r_next, ↓r_ret, ↓r_retN, ↓r_brk, ↓r_cnt, ↓r_drop, ↓r_asg, ↓r_test, ↓r_yes, ↓r_c, ↓r_nil, ↓r_cons, ↓r_var0, ↓r_varS, ↓r_name0, ↓r_nameS, ↓r_op, ↓r_un, ↓r_rU, ↓r_chain, ↓r_andV, ↓r_orV, ↓r_notV, ↓r_call, ↓r_cb, ↓r_tup, ↓r_lst, ↓r_sl, ↓r_noPart, ↓r_part, ↓r_gsub, ↓kB_a, ↓aB_bl, ↓kI_a, ↓aI_int, ↓OK_some, ↓Br_true, ↓Br_false, ↓Cd_true, ↓r_addI, ↓r_addS, ↓r_addUI, ↓r_addUS, ↓r_addL, ↓AlT_cc, ↓AlT_nil, ↓AlT_cnil, ↓r_addT, ↓r_sub, ↓r_mul, ↓r_div, ↓r_mod, ↓r_pow, ↓r_lt, ↓r_le, ↓r_gt, ↓r_ge, ↓r_eq, ↓r_ne, ↓r_isN, ↓r_notN, ↓r_inS, ↓r_ninS, ↓r_in, ↓r_nin, ↓r_inG, ↓r_ninG, ↓r_ixS, ↓r_ix, ↓r_set, ↓r_slS, ↓AlS_lst, ↓AlS_tup, ↓r_slR, ↓r_lenS, ↓r_lenR, ↓r_listU, ↓AlC_lst, ↓AlC_tup, ↓r_tupleU, ↓r_int, ↓r_intB, ↓r_isi, ↓r_tru, ↓r_truN, ↓r_truB, ↓r_truI, ↓r_truS, ↓r_truR, ↓aL_ref, ↓a1_int, ↓a2_int, ↓r_for1, ↓r_for2, ↓r_for, ↓r_lc, ↓r_lc1, ↓r_lc2,
  OK_some, Br_true, Br_false, Br_not, Cd_true, aB_bl, aI_int, r_rU, r_addI, r_addS, r_sub, r_mul, r_div, r_mod, r_pow, r_lt, r_le, r_gt, r_ge, r_ixS, r_ix, r_set, r_lenS, r_int, r_intB, r_truN, r_truB, r_truI, r_truS, r_truR, AlT_cc, AlT_nil, AlT_cnil, AlS_lst, AlS_tup, AlC_lst, AlC_tup, a1_int, a2_int, lstO_lst, tupO_tup, seqO_eq, seqO_lst, seqO_tup, lenO_lst, lenO_tup, lenO_dK, e_tyR, tyO_t, e_ty, e_tyn, truO_lst, truO_tup, truO_dK, isa_tab, scal_tab, flat_tab, eqV_t, inV_cons, inV_nil, szl, cmul_l, cpow_l, atI_0, atI_1, atI_2, atI_3, ixN_lit, Option.some.injEq, List.length_cons, List.length_nil, List.length_append, List.length_map, Nat.zero_add, Nat.reduceAdd, natc, Int.reduceLE, Int.reduceLT, Int.reduceEq, Int.reduceSub, Int.reduceAdd, Int.reduceNeg, Int.reduceMul, Int.reducePow, Int.reduceToNat, Nat.reduceLeDiff, Nat.reduceLT, Nat.reduceEqDiff, decide_eq_true_eq, decide_eq_false_iff_not, decide_true, decide_false, Bool.not_eq_true', Bool.not_eq_false', Bool.not_true, Bool.not_false, Bool.not_not, Bool.or_eq_true, Bool.and_eq_true, Bool.or_false, Bool.false_or, Bool.or_true, Bool.true_or, Bool.and_true, Bool.true_and, Bool.and_false, Bool.false_and, Bool.and_self, List.all_cons, List.all_nil, ofs_inj, String.reduceEq, List.cons.injEq, and_true, true_and, and_self, or_true, true_or, or_false, false_or, V.ty.injEq, V.bl.injEq, V.int.injEq, V.str.injEq, V.ref.injEq, List.nil_append, List.append_nil, List.cons_append, List.getElem?_cons_zero, List.getElem?_cons_succ, List.set_cons_zero, List.set_cons_succ, exists_eq_left', exists_eq_left, exists_eq, Bool.false_eq_true, Bool.true_eq_false, reduceCtorEq, not_true_eq_false, not_false_eq_true, eq_self, List.isEmpty_cons, List.isEmpty_nil, wipe, insO_ins, insD_ins, isO_tab, isO_ref, isR_tab, snO_tab, lk_tab, putF_nil, putF_tab, isLs_lst, tyL, m1_self, cutV_1, cutV_to1, Int.zero_add, reduceIte])

inductive Ins where
  | push (z : Str) | drop | pick (k : Nat) | roll (k : Nat) | keep (r : Nat) | load (r : Nat) | emit | expect (z : Str) | same | differ
  deriving DecidableEq
def Ins.enc : Ins → List V
  | .push z => [.str "push", .str z]
  | .drop => [.str "drop"]
  | .pick k => [.str "pick", .int k]
  | .roll k => [.str "roll", .int k]
  | .keep r => [.str "keep", .int r]
  | .load r => [.str "load", .int r]
  | .emit => [.str "emit"]
  | .expect z => [.str "expect", .str z]
  | .same => [.str "same"]
  | .differ => [.str "differ"]
def Ins.ok : Ins → Prop
  | .push z => isMarkS z = true
  | .expect z => isMarkS z = true
  | .pick k => k < 24
  | .roll k => k < 24
  | .keep r => r < 4
  | .load r => r < 4
  | _ => True
theorem basic_ins {xs : List V} (h : BasicT xs) : ∃ i : Ins, i.ok ∧ xs = i.enc := by
  rcases h with ⟨w, z, rfl, rfl | rfl, m⟩ | ⟨w, i, rfl, rfl | rfl, i0, i1⟩ | ⟨w, i, rfl, rfl | rfl, i0, i1⟩ | ⟨w, rfl, h⟩
  · exact ⟨.push z, m, rfl⟩
  · exact ⟨.expect z, m, rfl⟩
  · obtain ⟨k, rfl⟩ := Int.eq_ofNat_of_zero_le i0
    exact ⟨.pick k, (by show k < 24; omega), rfl⟩
  · obtain ⟨k, rfl⟩ := Int.eq_ofNat_of_zero_le i0
    exact ⟨.roll k, (by show k < 24; omega), rfl⟩
  · obtain ⟨k, rfl⟩ := Int.eq_ofNat_of_zero_le i0
    exact ⟨.keep k, (by show k < 4; omega), rfl⟩
  · obtain ⟨k, rfl⟩ := Int.eq_ofNat_of_zero_le i0
    exact ⟨.load k, (by show k < 4; omega), rfl⟩
  · rcases h with rfl | rfl | rfl | rfl
    · exact ⟨.drop, trivial, rfl⟩
    · exact ⟨.emit, trivial, rfl⟩
    · exact ⟨.same, trivial, rfl⟩
    · exact ⟨.differ, trivial, rfl⟩
def Ins.need : Ins → Nat
  | .push _ => 0
  | .load _ => 0
  | .pick k => k + 1
  | .roll k => k + 1
  | .same => 2
  | .differ => 2
  | _ => 1
def t_needed (K : PySem.W.Frag) : TS :=
  (tSeq (tIfS (tOr (tTest (tOp rEqS (tOp rIxU (uVar 0) (tC (.int 0))) (tC (.str "pick")))) (tTest (tOp rEqS (tOp rIxU (uVar 0) (tC (.int 0))) (tC (.str "roll"))))) (tRet (tOp rAddI (tOp rIxU (uVar 0) (tC (.int 1))) (tC (.int 1)))) tNext)
  (tRet (tOp (rCd (He.ga K "NEEDED") [("push", .int 0), ("drop", .int 1), ("keep", .int 1), ("load", .int 0), ("emit", .int 1), ("expect", .int 1), ("same", .int 2), ("differ", .int 2)]) (tC (.ref (He.ga K "NEEDED"))) (tOp rIxU (uVar 0) (tC (.int 0))))))
def sp_needed (K : PySem.W.Frag) : Sp := fun vs H Q _ => ∃ (p : Addr) (i : Ins), vs = [.ref p] ∧ H p = some (.tup i.enc) ∧ Q (.int i.need) H
theorem len_needed {K : PySem.W.Frag} : ∀ vs H Q E, sp_needed K vs H Q E → vs.length = 1 := fun _ _ _ _ ⟨_, _, e, _⟩ => by rw [e]; rfl
theorem pure_needed {K : PySem.W.Frag} (vs : List V) (H : Hp) (Q : VK) (E : XK) (h : sp_needed K vs H Q E) : t_needed K { nx := fun _ H' => Q .non H', rt := Q } (start ["instruction"] vs) H := by
  obtain ⟨p, i, rfl, hp, q⟩ := h
  unfold t_needed
  show tSeq _ _ _ [some (.ref p)] H
  cases i <;> (simp only [Ins.enc, Ins.need] at hp q; kfm_turns; first | exact q)
def failW (xs rs : List V) : Ins → Option String
  | .push _ => if xs.length = 24 then some "overflow" else none
  | .drop => if xs.length < 1 then some "underflow" else none
  | .pick k => if xs.length < k + 1 then some "underflow" else if xs.length = 24 then some "overflow" else none
  | .roll k => if xs.length < k + 1 then some "underflow" else none
  | .keep _ => if xs.length < 1 then some "underflow" else none
  | .load r => if rs[r]? = some .non then some "empty" else if xs.length = 24 then some "overflow" else none
  | .emit => if xs.length < 1 then some "underflow" else none
  | .expect z => if xs.length < 1 then some "underflow" else if xs[xs.length - 1]? = some (.str z) then none else some "unexpected"
  | .same => if xs.length < 2 then some "underflow" else if xs[xs.length - 1]? = xs[xs.length - 2]? then none else some "differs"
  | .differ => if xs.length < 2 then some "underflow" else if xs[xs.length - 1]? = xs[xs.length - 2]? then some "alike" else none
def owV : Option String → V
  | none => .non
  | some w => .str (Str.ofString w)
theorem mark_str {v : V} (h : isMarkV v = true) : ∃ z, v = .str z := by
  cases v <;> first | exact ⟨_, rfl⟩ | cases h
theorem scal_m1 {xs : List V} {j : Nat} {v : V} {z : Str} (ok : ∀ v ∈ xs, isMarkV v = true) (h : xs[j]? = some v) : scal v (.str z) = true := by
  obtain ⟨y, rfl⟩ := mark_str (ok v (List.mem_of_getElem? h))
  rfl
theorem scal_m2 {xs : List V} {j k : Nat} {v u : V} (ok : ∀ v ∈ xs, isMarkV v = true) (h : xs[j]? = some v) (h2 : xs[k]? = some u) : scal v u = true := by
  obtain ⟨y, rfl⟩ := mark_str (ok v (List.mem_of_getElem? h))
  obtain ⟨y, rfl⟩ := mark_str (ok u (List.mem_of_getElem? h2))
  rfl
theorem eraseIdx_le {xs : List V} {k : Nat} : (xs.eraseIdx k).length ≤ xs.length := by
  rw [List.length_eraseIdx]
  split <;> omega
local macro_rules | `(tactic| kst_all1) => `(tactic| first
  | exact Nat.lt_of_le_of_lt eraseIdx_le (by omega)
  | exact scal_m1 (by assumption) (by assumption)
  | exact scal_m2 (by assumption) (by assumption) (by assumption))
local macro_rules | `(tactic| lcg_off) => `(tactic| (simp only [failW, owV]; (repeat first
  | rfl
  | ((rw [if_pos]); (rotate_left); (focus (first | assumption | omega | (simp only [*]; done) | (simp only [*, Option.some.injEq]; done))))
  | ((rw [if_neg]); (rotate_left); (focus (first | assumption | omega | (simp only [*, Option.some.injEq, not_false_eq_true]; done)))))))
theorem c_needed {K : PySem.W.Frag} {p : Addr} {i : Ins} {H : Hp} {Q : VK} {E : XK} (h : H p = some (.tup i.enc)) (q : Q (.int i.need) H) : @Call (sp_needed K) [.ref p] H ⟨Q⟩ ⟨E⟩ := ⟨p, i, rfl, h, q⟩
local macro_rules | `(tactic| l_intsW) => `(tactic| ((with_reducible apply c_needed); (focus assumption); simp only [Ins.need]))
def t_failing (K : PySem.W.Frag) (a_State : Addr) : TS :=
  (tSeq (tAsg (tOp rIxU (uVar 1) (tC (.int 0))) (gName 2))
  (tSeq (tAsg (tUn (rFld a_State "stack") (uVar 0)) (gName 3))
  (tSeq (tIfS (tTest (tOp rLtU (tCB rLenU (tCons (uVar 3) tNil)) (uCall (sp_needed K) [] E0 (tCons (uVar 1) tNil)))) (tRet (tC (.str "underflow"))) tNext)
  (tSeq (tIfS (tAnd (tTest (tOp rEqS (uVar 2) (tC (.str "load")))) (tTest (tOp rIsNU (tOp rIxU (tUn (rFld a_State "registers") (uVar 0)) (tOp rIxU (uVar 1) (tC (.int 1)))) (tC .non)))) (tRet (tC (.str "empty"))) tNext)
  (tSeq (tIfS (tAnd (tTest (tOp (rInU false) (uVar 2) (tTup (tCons (tC (.str "push")) (tCons (tC (.str "pick")) (tCons (tC (.str "load")) tNil)))))) (tTest (tOp rEqS (tCB rLenU (tCons (uVar 3) tNil)) (tC (.int 24))))) (tRet (tC (.str "overflow"))) tNext)
  (tSeq (tIfS (tAnd (tTest (tOp rEqS (uVar 2) (tC (.str "expect")))) (tTest (tOp rNeS (tOp rIxU (uVar 3) (tUn (rU fun i => .int (-i)) (tC (.int 1)))) (tOp rIxU (uVar 1) (tC (.int 1)))))) (tRet (tC (.str "unexpected"))) tNext)
  (tSeq (tIfS (tAnd (tTest (tOp rEqS (uVar 2) (tC (.str "same")))) (tTest (tOp rNeS (tOp rIxU (uVar 3) (tUn (rU fun i => .int (-i)) (tC (.int 1)))) (tOp rIxU (uVar 3) (tUn (rU fun i => .int (-i)) (tC (.int 2))))))) (tRet (tC (.str "differs"))) tNext)
  (tSeq (tIfS (tAnd (tTest (tOp rEqS (uVar 2) (tC (.str "differ")))) (tTest (tOp rEqS (tOp rIxU (uVar 3) (tUn (rU fun i => .int (-i)) (tC (.int 1)))) (tOp rIxU (uVar 3) (tUn (rU fun i => .int (-i)) (tC (.int 2))))))) (tRet (tC (.str "alike"))) tNext)
  (tRet (tC .non))))))))))
def sp_failing (K : PySem.W.Frag) : Sp := fun vs H Q _ => ∃ (v : V) (p : Addr) (xs rs : List V) (i : Ins), vs = [v, .ref p] ∧ IsSt K H v xs rs ∧ StOk xs rs ∧ i.ok ∧ H p = some (.tup i.enc) ∧ ∀ H', L2.Same H H' → Q (owV (failW xs rs i)) H'
theorem len_failing {K : PySem.W.Frag} : ∀ vs H Q E, sp_failing K vs H Q E → vs.length = 2 := fun _ _ _ _ ⟨_, _, _, _, _, e, _⟩ => by rw [e]; rfl
theorem pure_failing {K : PySem.W.Frag} (vs : List V) (H : Hp) (Q : VK) (E : XK) (h : sp_failing K vs H Q E) : t_failing K (cSt K) { nx := fun _ H' => Q .non H', rt := Q } (start ["state", "instruction", "word", "stack"] vs) H := by
  obtain ⟨v, p, xs, rs, i, rfl, ⟨o, dx, p3, p4, rfl, h1, h2, h3⟩, ⟨o1, o2, o3, o4⟩, io, hp, q⟩ := h
  have q : ∀ w H', L2.Same H H' → w = owV (failW xs rs i) → Q w H' := fun w H' s e => by rw [e]; exact q H' s
  unfold t_failing
  show tSeq _ _ _ [some (.ref o), some (.ref p), none, none] H
  have hp1 := hp
  cases i <;> (simp only [Ins.enc, Ins.ok] at hp1 io; nest_cls <;> first | exact q _ _ (by k_updF) (by lcg_off))
theorem c_failing {K : PySem.W.Frag} {p : Addr} {i : Ins} {H : Hp} {Q : VK} {E : XK} {v : V} {xs rs : List V} (h1 : IsSt K H v xs rs) (h2 : StOk xs rs) (h3 : i.ok) (h4 : H p = some (.tup i.enc)) (q : ∀ H', L2.Same H H' → Q (owV (failW xs rs i)) H') : @Call (sp_failing K) [v, .ref p] H ⟨Q⟩ ⟨E⟩ :=
  ⟨v, p, xs, rs, i, rfl, h1, h2, h3, h4, q⟩
def errN (w : String) : String := if w = "underflow" then "Underflow" else if w = "empty" then "EmptyRegister" else if w = "overflow" then "Overflow" else if w = "unexpected" then "Unexpected" else if w = "differs" then "Differs" else "Alike"
def fWords : List String := ["underflow", "empty", "overflow", "unexpected", "differs", "alike"]
abbrev errA (K : PySem.W.Frag) (w : String) : Addr := He.ga K (Str.ofString (errN w))
def Fe (K : PySem.W.Frag) (x : String) : Prop := OexC K (He.ga K (Str.ofString x)) ∧ PySem.W.findIn K (.ref (He.ga K (Str.ofString x))) "step" = some none ∧ PySem.W.findIn K (.ref (He.ga K (Str.ofString x))) "path" = some none
def Fx (K : PySem.W.Frag) : Prop := Fe K "Underflow" ∧ Fe K "EmptyRegister" ∧ Fe K "Overflow" ∧ Fe K "Unexpected" ∧ Fe K "Differs" ∧ Fe K "Alike"
def FeB (K : PySem.W.Frag) (x : String) : Bool := Hd.oexB K (He.ga K (Str.ofString x)) && (Hd.noB K (He.ga K (Str.ofString x)) "step" && Hd.noB K (He.ga K (Str.ofString x)) "path")
theorem FeB_ok {K : PySem.W.Frag} {x : String} (h : FeB K x = true) : Fe K x := by
  obtain ⟨h1, h⟩ := He.ba h
  obtain ⟨h2, h3⟩ := He.ba h
  exact ⟨Hd.oexB_ok h1, Hd.noB_ok h2, Hd.noB_ok h3⟩
def FxB (K : PySem.W.Frag) : Bool := FeB K "Underflow" && (FeB K "EmptyRegister" && (FeB K "Overflow" && (FeB K "Unexpected" && (FeB K "Differs" && FeB K "Alike"))))
theorem FxB_ok {K : PySem.W.Frag} (h : FxB K = true) : Fx K := by
  obtain ⟨h1, h⟩ := He.ba h
  obtain ⟨h2, h⟩ := He.ba h
  obtain ⟨h3, h⟩ := He.ba h
  obtain ⟨h4, h⟩ := He.ba h
  obtain ⟨h5, h6⟩ := He.ba h
  exact ⟨FeB_ok h1, FeB_ok h2, FeB_ok h3, FeB_ok h4, FeB_ok h5, FeB_ok h6⟩
def t_Failure_init (K : PySem.W.Frag) : TS :=
  (tSeq (tOst K "step" (uVar 0) (uVar 1))
  (tOst K "path" (uVar 0) (uVar 2)))
def sp_Failure_init (K : PySem.W.Frag) : Sp := spIni2 K "step" "path"
theorem len_Failure_init {K : PySem.W.Frag} : ∀ vs H Q E, sp_Failure_init K vs H Q E → vs.length = 3 := fun _ _ _ _ ⟨_, _, _, _, e, _⟩ => by rw [e]; rfl
theorem pure_Failure_init {K : PySem.W.Frag} (vs : List V) (H : Hp) (Q : VK) (E : XK) (h : sp_Failure_init K vs H Q E) : t_Failure_init K { nx := fun _ H' => Q .non H', rt := Q } (start ["self", "step", "path"] vs) H := by
  have h2 := h
  obtain ⟨a, C, x, y, rfl, _⟩ := h
  exact ini2 _ H Q E h2
def t_BadInstruction_init (K : PySem.W.Frag) : TS :=
  (tSeq (tOst K "name" (uVar 0) (uVar 1))
  (tOst K "index" (uVar 0) (uVar 2)))
def sp_BadInstruction_init (K : PySem.W.Frag) : Sp := spIni2 K "name" "index"
theorem len_BadInstruction_init {K : PySem.W.Frag} : ∀ vs H Q E, sp_BadInstruction_init K vs H Q E → vs.length = 3 := fun _ _ _ _ ⟨_, _, _, _, e, _⟩ => by rw [e]; rfl
theorem pure_BadInstruction_init {K : PySem.W.Frag} (vs : List V) (H : Hp) (Q : VK) (E : XK) (h : sp_BadInstruction_init K vs H Q E) : t_BadInstruction_init K { nx := fun _ H' => Q .non H', rt := Q } (start ["self", "name", "index"] vs) H := by
  have h2 := h
  obtain ⟨a, C, x, y, rfl, _⟩ := h
  exact ini2 _ H Q E h2
def t_fail (K : PySem.W.Frag) (a_Underflow : Addr) (a_EmptyRegister : Addr) (a_Overflow : Addr) (a_Unexpected : Addr) (a_Differs : Addr) (a_Alike : Addr) (E : XK) : TS :=
  (tSeq (tIfS (tTest (tOp rEqS (uVar 0) (tC (.str "underflow")))) (uRaiseO (fun cls d _ H => E cls d H) a_Underflow (sp_Failure_init K) (tCons (uVar 1) (tCons (uVar 2) tNil))) tNext)
  (tSeq (tIfS (tTest (tOp rEqS (uVar 0) (tC (.str "empty")))) (uRaiseO (fun cls d _ H => E cls d H) a_EmptyRegister (sp_Failure_init K) (tCons (uVar 1) (tCons (uVar 2) tNil))) tNext)
  (tSeq (tIfS (tTest (tOp rEqS (uVar 0) (tC (.str "overflow")))) (uRaiseO (fun cls d _ H => E cls d H) a_Overflow (sp_Failure_init K) (tCons (uVar 1) (tCons (uVar 2) tNil))) tNext)
  (tSeq (tIfS (tTest (tOp rEqS (uVar 0) (tC (.str "unexpected")))) (uRaiseO (fun cls d _ H => E cls d H) a_Unexpected (sp_Failure_init K) (tCons (uVar 1) (tCons (uVar 2) tNil))) tNext)
  (tSeq (tIfS (tTest (tOp rEqS (uVar 0) (tC (.str "differs")))) (uRaiseO (fun cls d _ H => E cls d H) a_Differs (sp_Failure_init K) (tCons (uVar 1) (tCons (uVar 2) tNil))) tNext)
  (uRaiseO (fun cls d _ H => E cls d H) a_Alike (sp_Failure_init K) (tCons (uVar 1) (tCons (uVar 2) tNil))))))))
def sp_fail (K : PySem.W.Frag) : Sp := fun vs H Q E => ∃ (w : String) (s p : V), vs = [.str (Str.ofString w), s, p] ∧ w ∈ fWords ∧ ∀ d H', H d = none → H' d = some (.xd [("path", p), ("step", s)]) → L2.Same H H' → E (.ref (errA K w)) (some d) H'
theorem len_fail {K : PySem.W.Frag} : ∀ vs H Q E, sp_fail K vs H Q E → vs.length = 3 := fun _ _ _ _ ⟨_, _, _, e, _⟩ => by rw [e]; rfl
theorem pure_fail {K : PySem.W.Frag} (fx : Fx K) (vs : List V) (H : Hp) (Q : VK) (E : XK) (h : sp_fail K vs H Q E) : t_fail K (He.ga K "Underflow") (He.ga K "EmptyRegister") (He.ga K "Overflow") (He.ga K "Unexpected") (He.ga K "Differs") (He.ga K "Alike") E { nx := fun _ H' => Q .non H', rt := Q } (start ["word", "step", "path"] vs) H := by
  obtain ⟨w, s, p, rfl, hw, q⟩ := h
  obtain ⟨⟨a1, a2, a3⟩, ⟨b1, b2, b3⟩, ⟨c1, c2, c3⟩, ⟨d1, d2, d3⟩, ⟨e1, e2, e3⟩, ⟨f1, f2, f3⟩⟩ := fx
  unfold t_fail
  show tSeq _ _ _ [some (.str (Str.ofString w)), some s, some p] H
  simp only [fWords, List.mem_cons, List.not_mem_nil, or_false] at hw
  rcases hw with rfl | rfl | rfl | rfl | rfl | rfl
  · kfm_turns
    exact raise2 a1 a2 a3 rfl fun d H' hd e s => q d H' hd e s
  · kfm_turns
    exact raise2 b1 b2 b3 rfl fun d H' hd e s => q d H' hd e s
  · kfm_turns
    exact raise2 c1 c2 c3 rfl fun d H' hd e s => q d H' hd e s
  · kfm_turns
    exact raise2 d1 d2 d3 rfl fun d H' hd e s => q d H' hd e s
  · kfm_turns
    exact raise2 e1 e2 e3 rfl fun d H' hd e s => q d H' hd e s
  · kfm_turns
    exact raise2 f1 f2 f3 rfl fun d H' hd e s => q d H' hd e s
def mvS (xs rs : List V) : Ins → List V
  | .push z => xs ++ [.str z]
  | .load r => xs ++ [(rs[r]?).getD .non]
  | .pick k => xs ++ [(xs[xs.length - 1 - k]?).getD .non]
  | .roll k => xs.eraseIdx (xs.length - 1 - k) ++ [(xs[xs.length - 1 - k]?).getD .non]
  | .keep _ => xs.dropLast
  | .drop => xs.dropLast
  | .emit => xs.dropLast
  | _ => xs
def mvR (xs rs : List V) : Ins → List V
  | .keep r => rs.set r ((xs[xs.length - 1]?).getD .non)
  | _ => rs
def mvO (xs : List V) : Ins → V
  | .emit => (xs[xs.length - 1]?).getD .non
  | _ => .non
theorem getD_mem {xs : List V} {j : Nat} (h : j < xs.length) : ((xs[j]?).getD .non) ∈ xs := by
  rw [List.getElem?_eq_getElem h]
  exact List.getElem_mem h
theorem StOk.move {xs rs : List V} {i : Ins} (ok : StOk xs rs) (io : i.ok) (f : failW xs rs i = none) : StOk (mvS xs rs i) (mvR xs rs i) := by
  obtain ⟨o1, o2, o3, o4⟩ := ok
  have app : ∀ v : V, isMarkV v = true → xs.length ≠ 24 → StOk (xs ++ [v]) rs := fun v hv hl => ⟨by rw [List.length_append]; show xs.length + 1 ≤ 24; omega, o2, fun u hu => by
    rcases List.mem_append.mp hu with hu | hu
    · exact o3 u hu
    · rw [List.mem_singleton.mp hu]; exact hv, o4⟩
  have drp : StOk xs.dropLast rs := ⟨by rw [List.length_dropLast]; omega, o2, fun u hu => o3 u (List.dropLast_subset _ hu), o4⟩
  cases i with
  | push z =>
    simp only [failW] at f
    exact app _ io fun h => by rw [if_pos h] at f; cases f
  | load r =>
    simp only [failW] at f
    have hr : r < rs.length := by rw [o2]; exact io
    refine app _ ?_ fun h => ?_
    · have hm := o4 _ (getD_mem hr)
      by_cases e : rs[r]? = some .non
      · rw [if_pos e] at f; cases f
      · rw [List.getElem?_eq_getElem hr] at e hm ⊢
        unfold isRegV at hm
        have e2 : ¬ (rs[r] = V.non) := fun z => e (congrArg some z)
        simp only [Option.getD_some] at hm ⊢
        rw [decide_eq_false e2, Bool.false_or] at hm
        exact hm
    · split at f
      · cases f
      · first | cases f | (rw [if_pos h] at f; cases f)
  | pick k =>
    simp only [failW] at f
    split at f
    · cases f
    · rename_i h1
      refine app _ (o3 _ (getD_mem (by omega))) fun h => by rw [if_pos h] at f; cases f
  | roll k =>
    simp only [failW] at f
    split at f
    · cases f
    · rename_i h1
      have hj : xs.length - 1 - k < xs.length := by omega
      refine ⟨?_, o2, fun u hu => ?_, o4⟩
      · simp only [mvS]
        rw [List.length_append, List.length_eraseIdx, if_pos hj]
        show xs.length - 1 + 1 ≤ 24
        omega
      · rcases List.mem_append.mp hu with hu | hu
        · exact o3 u (List.eraseIdx_subset hu)
        · rw [List.mem_singleton.mp hu]
          exact o3 _ (getD_mem hj)
  | keep r =>
    simp only [failW] at f
    split at f
    · cases f
    · rename_i h1
      refine ⟨drp.1, by show (rs.set _ _).length = 4; rw [List.length_set]; exact o2, drp.2.2.1, fun u hu => ?_⟩
      rcases List.mem_or_eq_of_mem_set hu with hu | hu
      · exact o4 u hu
      · rw [hu]
        unfold isRegV
        rw [o3 _ (getD_mem (by omega)), Bool.or_true]
  | drop => exact drp
  | emit => exact drp
  | expect z => exact ⟨o1, o2, o3, o4⟩
  | same => exact ⟨o1, o2, o3, o4⟩
  | differ => exact ⟨o1, o2, o3, o4⟩
theorem need_le {xs rs : List V} {i : Ins} (f : failW xs rs i = none) : i.need ≤ xs.length := by
  cases i <;> simp only [failW, Ins.need] at f ⊢ <;> first | omega | (split at f <;> first | omega | (cases f; done))
def t_moved (K : PySem.W.Frag) (a_State : Addr) (E : XK) : TS :=
  (tSeq (tAsg (tOp rIxU (uVar 1) (tC (.int 0))) (gName 2))
  (tSeq (tAsg (tCB rListU (tCons (tUn (rFld a_State "stack") (uVar 0)) tNil)) (gName 3))
  (tSeq (tAsg (tCB rListU (tCons (tUn (rFld a_State "registers") (uVar 0)) tNil)) (gName 4))
  (tSeq (tAsg (tC .non) (gName 5))
  (tSeq (tIfS (tTest (tOp rEqS (uVar 2) (tC (.str "push")))) (tDrop (tBM K "list" rAppend (uVar 3) (tCons (tOp rIxU (uVar 1) (tC (.int 1))) tNil))) (tIfS (tTest (tOp rEqS (uVar 2) (tC (.str "load")))) (tDrop (tBM K "list" rAppend (uVar 3) (tCons (tOp rIxU (uVar 4) (tOp rIxU (uVar 1) (tC (.int 1)))) tNil))) (tIfS (tTest (tOp rEqS (uVar 2) (tC (.str "pick")))) (tDrop (tBM K "list" rAppend (uVar 3) (tCons (tOp rIxU (uVar 3) (tOp rSubU (tUn (rU fun i => .int (-i)) (tC (.int 1))) (tOp rIxU (uVar 1) (tC (.int 1))))) tNil))) (tIfS (tTest (tOp rEqS (uVar 2) (tC (.str "roll")))) (tDrop (tBM K "list" rAppend (uVar 3) (tCons (tBM K "list" rPopAt (uVar 3) (tCons (tOp rSubU (tUn (rU fun i => .int (-i)) (tC (.int 1))) (tOp rIxU (uVar 1) (tC (.int 1)))) tNil)) tNil))) (tIfS (tTest (tOp rEqS (uVar 2) (tC (.str "keep")))) (tAsg (tBM0 K "list" rPop (uVar 3)) (gSub (uVar 4) (tOp rIxU (uVar 1) (tC (.int 1))) rSetU)) (tIfS (tTest (tOp rEqS (uVar 2) (tC (.str "drop")))) (tDrop (tBM0 K "list" rPop (uVar 3))) (tIfS (tTest (tOp rEqS (uVar 2) (tC (.str "emit")))) (tAsg (tBM0 K "list" rPop (uVar 3)) (gName 5)) tNext)))))))
  (tRet (tTup (tCons (uCallX (sp_State K) (fun cls d _ H => E cls d H) (tCons (uVar 3) (tCons (uVar 4) tNil))) (tCons (uVar 5) tNil)))))))))
def sp_moved (K : PySem.W.Frag) : Sp := fun vs H Q _ => ∃ (v : V) (p : Addr) (xs rs : List V) (i : Ins), vs = [v, .ref p] ∧ IsSt K H v xs rs ∧ StOk xs rs ∧ i.ok ∧ H p = some (.tup i.enc) ∧ failW xs rs i = none ∧
  ∀ r st H', H' r = some (.tup [st, mvO xs i]) → IsSt K H' st (mvS xs rs i) (mvR xs rs i) → L2.Same H H' → Q (.ref r) H'
theorem len_moved {K : PySem.W.Frag} : ∀ vs H Q E, sp_moved K vs H Q E → vs.length = 2 := fun _ _ _ _ ⟨_, _, _, _, _, e, _⟩ => by rw [e]; rfl
theorem pure_moved {K : PySem.W.Frag} (vs : List V) (H : Hp) (Q : VK) (E : XK) (h : sp_moved K vs H Q E) : t_moved K (cSt K) E { nx := fun _ H' => Q .non H', rt := Q } (start ["state", "instruction", "word", "stack", "registers", "written"] vs) H := by
  obtain ⟨v, p, xs, rs, i, rfl, ⟨o, dx, p3, p4, rfl, h1, h2, h3⟩, ok, io, hp, f, q⟩ := h
  have okm := ok.move io f
  have nl := need_le f
  obtain ⟨o1, o2, o3, o4⟩ := ok
  unfold t_moved
  show tSeq _ _ _ [some (.ref o), some (.ref p), none, none, none, none] H
  cases i <;> (simp only [Ins.enc, Ins.ok, Ins.need, mvS, mvR, mvO] at hp io nl okm q; kpt_turns; apply c_StateE okm; tb_rel; (focus (first | rfl | (simp only [*, Option.getD_some]; done))); tb_rel; (focus (first | rfl | (simp only [*, Option.getD_some]; done))); intro st H' hst s; kpt_turns; refine q _ st _ ?_ (hst.kl ?_) ?_; (first | (simp only [*, Option.getD_some]; tb_rel) | tb_rel); k_upd; k_updF)
theorem c_moved {K : PySem.W.Frag} {p : Addr} {i : Ins} {H : Hp} {Q : VK} {E : XK} {v : V} {xs rs : List V} (h1 : IsSt K H v xs rs) (h2 : StOk xs rs) (h3 : i.ok) (h4 : H p = some (.tup i.enc)) (f : failW xs rs i = none)
    (q : ∀ r st H', H' r = some (.tup [st, mvO xs i]) → IsSt K H' st (mvS xs rs i) (mvR xs rs i) → L2.Same H H' → Q (.ref r) H') : @Call (sp_moved K) [v, .ref p] H ⟨Q⟩ ⟨E⟩ := ⟨v, p, xs, rs, i, rfl, h1, h2, h3, h4, f, q⟩
theorem basic_enc {H : Hp} {p : Addr} {i : Ins} (io : i.ok) (h : H p = some (.tup i.enc)) : isBasicV H (.ref p) = true ∧ okT H (.ref p) := by
  have item : ∀ x ∈ i.enc, okV H x := by
    intro x hx
    cases i <;> simp only [Ins.enc, Ins.ok, List.mem_cons, List.not_mem_nil, or_false] at hx io <;> rcases hx with rfl | rfl <;> first
      | exact ⟨rfl, trivial⟩
      | exact ⟨rfl, show _ ≤ sizeLine by decide +kernel⟩
      | exact okV_mark (v := .str _) io
  constructor
  · have e : isBasicV H (.ref p) = isBasicT i.enc := by
      show (match H p with | some (.tup xs) => isBasicT xs | _ => false) = _
      rw [h]
    rw [e]
    cases i <;> simp only [Ins.enc, Ins.ok] at io ⊢ <;> first
      | (simp [isBasicT, inV_cons, inV_nil, eqV_t, ofs_inj, inRangeV]; done)
      | (simp [isBasicT, inV_cons, inV_nil, eqV_t, ofs_inj, inRangeV]; omega)
      | (simp [isBasicT, inV_cons, inV_nil, eqV_t, ofs_inj, inRangeV]; exact io)
  · refine ⟨⟨by rw [tyV_ref, h]; rfl, trivial⟩, fun q xs e hq x hx => ?_⟩
    cases e
    rw [h] at hq
    cases hq
    exact item x hx
def Fb (K : PySem.W.Frag) : Prop := OexC K (He.ga K "BadInstruction") ∧ PySem.W.findIn K (.ref (He.ga K "BadInstruction")) "name" = some none ∧ PySem.W.findIn K (.ref (He.ga K "BadInstruction")) "index" = some none
def FbB (K : PySem.W.Frag) : Bool := Hd.oexB K (He.ga K "BadInstruction") && (Hd.noB K (He.ga K "BadInstruction") "name" && Hd.noB K (He.ga K "BadInstruction") "index")
theorem FbB_ok {K : PySem.W.Frag} (h : FbB K = true) : Fb K := by
  obtain ⟨h1, h⟩ := He.ba h
  obtain ⟨h2, h3⟩ := He.ba h
  exact ⟨Hd.oexB_ok h1, Hd.noB_ok h2, Hd.noB_ok h3⟩
theorem owW {xs rs : List V} {i : Ins} {w : String} (h : failW xs rs i = some w) : w ∈ fWords := by
  cases i <;> simp only [failW] at h <;> (repeat' split at h) <;> first | (cases h; done) | (cases h; decide)
def t_execute (K : PySem.W.Frag) (a_BadInstruction : Addr) (E : XK) : TS :=
  (tSeq (tIfS (tNot (uTru (uCall (sp_is_basic K) [] E0 (tCons (uVar 1) tNil)))) (uRaiseO (fun cls d _ H => E cls d H) a_BadInstruction (sp_BadInstruction_init K) (tCons (tC (.str "")) (tCons (tC (.int 0)) tNil))) tNext)
  (tSeq (tAsg (uCall (sp_failing K) [] E0 (tCons (uVar 0) (tCons (uVar 1) tNil))) (gName 2))
  (tSeq (tIfS (tTest (tOp rNotNU (uVar 2) (tC .non))) (tDrop (uCallX (sp_fail K) (fun cls d _ H => E cls d H) (tCons (uVar 2) (tCons (tC (.int 0)) (tCons (tTup tNil) tNil))))) tNext)
  (tRet (uCallX (sp_moved K) (fun cls d _ H => E cls d H) (tCons (uVar 0) (tCons (uVar 1) tNil)))))))
def sp_execute (K : PySem.W.Frag) : Sp := fun vs H Q E => ∃ (v x : V) (xs rs : List V), vs = [v, x] ∧ IsSt K H v xs rs ∧ StOk xs rs ∧ okT H x ∧
  (isBasicV H x = false → ∀ d H', H d = none → H' d = some (.xd [("index", .int 0), ("name", .str "")]) → L2.Same H H' → E (.ref (He.ga K "BadInstruction")) (some d) H') ∧
  (isBasicV H x = true → ∃ (p : Addr) (i : Ins), x = .ref p ∧ i.ok ∧ H p = some (.tup i.enc) ∧
    (failW xs rs i = none → ∀ r st H', H' r = some (.tup [st, mvO xs i]) → IsSt K H' st (mvS xs rs i) (mvR xs rs i) → L2.Same H H' → Q (.ref r) H') ∧
    (∀ w, failW xs rs i = some w → ∀ d t H', H' d = some (.xd [("path", .ref t), ("step", .int 0)]) → H' t = some (.tup []) → L2.Same H H' → E (.ref (errA K w)) (some d) H'))
theorem len_execute {K : PySem.W.Frag} : ∀ vs H Q E, sp_execute K vs H Q E → vs.length = 2 := fun _ _ _ _ ⟨_, _, _, _, e, _⟩ => by rw [e]; rfl
theorem pure_execute {K : PySem.W.Frag} (fb : Fb K) (vs : List V) (H : Hp) (Q : VK) (E : XK) (h : sp_execute K vs H Q E) : t_execute K (He.ga K "BadInstruction") E { nx := fun _ H' => Q .non H', rt := Q } (start ["state", "instruction", "word"] vs) H := by
  obtain ⟨v, x, xs, rs, rfl, st, ok, kx, hno, hyes⟩ := h
  unfold t_execute
  show tSeq _ _ _ [some v, some x, none] H
  kfm_turns
  refine Call.by ⟨x, rfl, kx, ?_⟩
  cases hb : isBasicV H x with
  | false =>
    kfm_turns
    exact raise2 fb.1 fb.2.1 fb.2.2 rfl fun d H' hd e s => hno hb d H' hd e s
  | true =>
    obtain ⟨p, i, rfl, io, hp, hn, hw⟩ := hyes hb
    kfm_turns
    refine c_failing st ok io hp fun H1 s1 => ?_
    cases hf : failW xs rs i with
    | none =>
      rw [show owV none = V.non from rfl]
      kfm_turns
      exact c_moved (st.same s1) ok io (by tb_rel) hf fun r st' H' e1 e2 s2 => hn hf r st' H' e1 e2 (s1.trans s2)
    | some w =>
      rw [show owV (some w) = V.str (Str.ofString w) from rfl]
      kpt_turns
      refine Call.by ⟨w, _, _, rfl, owW hf, fun d H' hd e s => ?_⟩
      exact hw w hf d _ H' e (by tb_rel) (by k_updF)
end U
end

section
namespace U
open PySem PySem.Spec PyProof.Rows L2
local macro_rules | `(tactic| tb_start) => `(tactic| first
  | assumption
  | (refine Ne.symm ?_; assumption)
  | ((with_reducible apply New.ne); (focus assumption); (focus tb_rel); done)
  | (refine Ne.symm ?_; (with_reducible apply New.ne); (focus assumption); (focus tb_rel); done)
  | ((with_reducible apply neN); (focus assumption); (focus tb_rel); done)
  | (refine Ne.symm ?_; (with_reducible apply neN); (focus assumption); (focus tb_rel); done)
  | ((with_reducible apply DrawsOk.neN); (focus assumption); (focus kct_strs); done)
  | ((with_reducible apply DrawsOk.neLN); (focus assumption); (focus kct_strs); done)
  | ((with_reducible apply DrawsOk.ne'); (focus assumption); (focus kct_strs); done)
  | ((with_reducible apply DrawsOk.neL'); (focus assumption); (focus kct_strs); done)
  | ((with_reducible apply DrawsOk.other'); (focus assumption); (focus tb_rel); (focus rfl); done)
  | ((with_reducible apply DrawsOk.otherL); (focus assumption); (focus tb_rel); (focus rfl); done)
  | ((with_reducible apply ne_kd); (focus assumption); (focus tb_rel); (focus (intro h; cases h; done)); done))
local macro_rules | `(tactic| tb_rel) => `(tactic| first
  | assumption
  | exact New.at (by assumption)
  | exact Mod.at (by assumption)
  | ((with_reducible apply New.old); (focus assumption); tb_rel)
  | ((with_reducible apply Mod.lk); (focus assumption); (focus tb_rel); focus tb_start)
  | ((with_reducible apply Keep.lk); (focus assumption); (focus tb_rel); focus tb_start)
  | ((with_reducible apply Same.at); (focus assumption); tb_rel))
local macro_rules | `(tactic| kct_strs) => `(tactic| first
  | assumption
  | (refine New.draws (by assumption) ?_; kct_strs)
  | (refine DrawsOk.same ?_ (by assumption); kct_strs)
  | (refine Mod.draws (by assumption) ?_ ?_ ?_; (kct_strs); (focus tb_start); focus tb_start))
local macro_rules | `(tactic| k_updF) => `(tactic| first
  | assumption
  | exact L2.Same.refl _
  | (refine Same.new ?_ (by assumption); k_updF)
  | (refine L2.Same.trans ?_ (by assumption); k_updF)
  | (refine Same.mod ?_ (by assumption) ?_; (k_updF); lcg_sub))
local macro_rules | `(tactic| k_memK) => `(tactic| first
  | assumption
  | exact Keep.refl _ _
  | (refine Keep.new' ?_ (by assumption); k_memK)
  | (refine Keep.trans ?_ (by assumption); k_memK)
  | (refine Keep.trans ?_ (Keep.same' (by assumption)); k_memK)
  | (refine Keep.modd ?_ (by assumption); k_memK)
  | (refine Keep.mod ?_ (by assumption) ?_; (k_memK); lcg_sub))
local macro_rules | `(tactic| lcg_sub) => `(tactic| first
  | assumption
  | exact New.fr (by assumption)
  | (refine Same.none ?_ (New.fr (by assumption)); k_updF)
  | (refine Keep.fresh (D := ?_) ?_ ?_ ?_ (New.fr (by assumption)); rotate_left; (k_memK); (kct_strs); (kct_strs)))
local macro_rules | `(tactic| k_upd) => `(tactic| first
  | assumption
  | exact Kl.refl _
  | (refine Kl.trans ?_ (New.kl (by assumption)); k_upd)
  | (refine Kl.trans ?_ (Same.kl (by assumption)); k_upd)
  | (refine Kl.trans ?_ (Mod.kl (by assumption) (by tb_rel)); k_upd)
  | (refine Kl.trans ?_ (Keep.kl (by assumption) (by kct_strs)); k_upd)
  | (refine Kl.trans ?_ (by assumption); k_upd))
local macro_rules | `(tactic| kst_all1) => `(tactic| first
  | assumption | omega | (with_reducible rfl)
  | (simp only [List.length_append, List.length_map, List.length_set, List.length_take, List.length_drop, List.length_cons, List.length_nil, List.length_replicate]; omega)
  | (refine ⟨?_, ?_⟩ <;> kst_all1)
  | decide)
local macro_rules | `(tactic| k_allIn) => `(tactic| first
  | ((with_reducible apply OKl); (focus tb_rel))
  | ((with_reducible apply OKt); (focus tb_rel))
  | ((with_reducible apply OKql); (focus tb_rel))
  | ((with_reducible apply OKqt); (focus tb_rel))
  | ((with_reducible apply OKnl); (focus tb_rel))
  | ((with_reducible apply OKnt); (focus tb_rel))
  | ((with_reducible apply OKnd); (focus tb_rel))
  | ((with_reducible apply OKyl); (focus tb_rel))
  | ((with_reducible apply OKyt); (focus tb_rel))
  | ((with_reducible apply OKyd); (focus tb_rel))
  | ((with_reducible apply OKbl); (focus tb_rel))
  | ((with_reducible apply OKbt); (focus tb_rel))
  | ((with_reducible apply OKbd); (focus tb_rel))
  | ((with_reducible apply OKi); (focus tb_rel))
  | ((with_reducible apply OKj); (focus tb_rel))
  | ((with_reducible apply OKr); (focus tb_rel))
  | ((with_reducible apply OKrt); (focus tb_rel))
  | ((with_reducible apply OKrl); (focus tb_rel))
  | ((with_reducible apply OKsl); (focus tb_rel))
  | ((with_reducible apply OKst); (focus tb_rel))
  | ((with_reducible apply AlS_l); (focus tb_rel))
  | ((with_reducible apply AlS_t); (focus tb_rel))
  | ((with_reducible apply AlC_l); (focus tb_rel))
  | ((with_reducible apply AlC_t); (focus tb_rel))
  | ((with_reducible apply OKn); (focus kst_all1); intro v h)
  | ((with_reducible apply OKl1); (focus kst_all1); intro v h)
  | ((with_reducible apply OKl2); (focus kst_all1); intro v h)
  | ((with_reducible apply OKlk); (focus kst_all1); intro v h)
  | ((with_reducible apply OKln); (focus kst_all1); intro v h)
  | ((with_reducible apply OKg); (focus kst_all1); intro v h)
  | ((with_reducible apply OKxn); (focus kst_all1))
  | ((with_reducible apply OKsi); (focus kst_all1))
  | ((with_reducible apply OKsm); (focus kst_all1))
  | ((with_reducible refine OKa ?_ ?_ ?_); (focus kst_all1); (focus kst_all1); intro j v e h))
local macro_rules | `(tactic| kfm_turns) => `(tactic| repeat first
  | kpc_turns
  | k_allIn
  | l_intsW
  | ((with_reducible apply CdL); (focus tb_rel))
  | ((with_reducible refine Cd.by ?_ ?_); (focus kst_all1))
  | ((with_reducible refine Br.yes ?_ ?_); (focus (first | assumption | omega)))
  | ((with_reducible refine Br.no ?_ ?_); (focus (first | assumption | omega))))
local macro_rules | `(tactic| kpt_turns) => `(tactic| repeat first
  | kpc_turns
  | k_allIn
  | l_intsW
  | (with_reducible refine Al.by fun p H' n => ?_)
  | (with_reducible refine Md.by fun H' m => ?_)
  | ((with_reducible apply CdL); (focus tb_rel))
  | ((with_reducible refine Cd.by ?_ ?_); (focus kst_all1))
  | ((with_reducible refine Br.yes ?_ ?_); (focus (first | assumption | omega)))
  | ((with_reducible refine Br.no ?_ ?_); (focus (first | assumption | omega))))
local macro_rules | `(tactic| nest_cls) => `(tactic| repeat' first
  | kpc_turns
  | k_allIn
  | l_intsW
  | (with_reducible refine Al.by fun p H' n => ?_)
  | (with_reducible refine Md.by fun H' m => ?_)
  | ((with_reducible apply CdL); (focus tb_rel))
  | ((with_reducible refine Cd.by ?_ ?_); (focus kst_all1))
  | ((with_reducible refine Br.yes ?_ ?_); (focus (first | assumption | omega)))
  | ((with_reducible refine Br.no ?_ ?_); (focus (first | assumption | omega)))
  | (with_reducible refine Br.by (fun h => ?_) fun h => ?_))
local macro_rules | `(tactic| kpc_turns) => `(tactic| simp (config := {maxSteps := 4000000}) only [↓un_nx, ↓in_some, ↓in_none, ↓r_cd, ↓aM_pop, ↓aM_popAt, ↓r_tryL, ↓r_fld, ↓r_setF, ↓aSF_ref, ↓r_isO, ↓r_eqO, ↓r_eqN, ↓r_neN, ↓r_gsq, ↓aGs_eq, ↓r_gcons, ↓r_gnil, ↓r_isB, ↓r_bm1, ↓r_bm0, ↓aM_app, ↓r_callX, ↓r_raise0, ↓r_tryAs, ↓r_tryOnly, ↓r_seq, ↓r_ifS, ↓r_or, ↓r_and, ↓r_not, ↓r_next, ↓r_ret, ↓r_retN, ↓r_brk, ↓r_cnt, ↓r_drop, ↓r_asg, ↓r_test, ↓r_yes, ↓r_c, ↓r_nil, ↓r_cons, ↓r_var0, ↓r_varS, ↓r_name0, ↓r_nameS, ↓r_op, ↓r_un, ↓r_rU, ↓r_chain, ↓r_andV, ↓r_orV, ↓r_notV, ↓r_call, ↓r_cb, ↓r_tup, ↓r_lst, ↓r_sl, ↓r_noPart, ↓r_part, ↓r_gsub, ↓kB_a, ↓aB_bl, ↓kI_a, ↓aI_int, ↓OK_some, ↓Br_true, ↓Br_false, ↓Cd_true, ↓r_addI, ↓r_addS, ↓r_addUI, ↓r_addUS, ↓r_addL, ↓AlT_cc, ↓AlT_nil, ↓AlT_cnil, ↓r_addT, ↓r_sub, ↓r_mul, ↓r_div, ↓r_mod, ↓r_pow, ↓r_lt, ↓r_le, ↓r_gt, ↓r_ge, ↓r_eq, ↓r_ne, ↓r_isN, ↓r_notN, ↓r_inS, ↓r_ninS, ↓r_in, ↓r_nin, ↓r_inG, ↓r_ninG, ↓r_ixS, ↓r_ix, ↓r_set, ↓r_slS, ↓AlS_lst, ↓AlS_tup, ↓r_slR, ↓r_lenS, ↓r_lenR, ↓r_listU, ↓AlC_lst, ↓AlC_tup, ↓r_tupleU, ↓r_int, ↓r_intB, ↓r_isi, ↓r_tru, ↓r_truN, ↓r_truB, ↓r_truI, ↓r_truS, ↓r_truR, ↓aL_ref, ↓a1_int, ↓a2_int, ↓r_for1, ↓r_for2, ↓r_for, ↓r_lc, ↓r_lc1, ↓r_lc2,
  OK_some, Br_true, Br_false, Br_not, Cd_true, aB_bl, aI_int, r_rU, r_addI, r_addS, r_sub, r_mul, r_div, r_mod, r_pow, r_lt, r_le, r_gt, r_ge, r_ixS, r_ix, r_set, r_lenS, r_int, r_intB, r_truN, r_truB, r_truI, r_truS, r_truR, AlT_cc, AlT_nil, AlT_cnil, AlS_lst, AlS_tup, AlC_lst, AlC_tup, a1_int, a2_int, lstO_lst, tupO_tup, seqO_eq, seqO_lst, seqO_tup, lenO_lst, lenO_tup, lenO_dK, e_tyR, tyO_t, e_ty, e_tyn, truO_lst, truO_tup, truO_dK, isa_tab, scal_tab, flat_tab, eqV_t, inV_cons, inV_nil, szl, cmul_l, cpow_l, atI_0, atI_1, atI_2, atI_3, ixN_lit, Option.some.injEq, List.length_cons, List.length_nil, List.length_append, List.length_map, Nat.zero_add, Nat.reduceAdd, natc, Int.reduceLE, Int.reduceLT, Int.reduceEq, Int.reduceSub, Int.reduceAdd, Int.reduceNeg, Int.reduceMul, Int.reducePow, Int.reduceToNat, Nat.reduceLeDiff, Nat.reduceLT, Nat.reduceEqDiff, decide_eq_true_eq, decide_eq_false_iff_not, decide_true, decide_false, Bool.not_eq_true', Bool.not_eq_false', Bool.not_true, Bool.not_false, Bool.not_not, Bool.or_eq_true, Bool.and_eq_true, Bool.or_false, Bool.false_or, Bool.or_true, Bool.true_or, Bool.and_true, Bool.true_and, Bool.and_false, Bool.false_and, Bool.and_self, List.all_cons, List.all_nil, ofs_inj, String.reduceEq, List.cons.injEq, and_true, true_and, and_self, or_true, true_or, or_false, false_or, V.ty.injEq, V.bl.injEq, V.int.injEq, V.str.injEq, V.ref.injEq, List.nil_append, List.append_nil, List.cons_append, List.getElem?_cons_zero, List.getElem?_cons_succ, List.set_cons_zero, List.set_cons_succ, exists_eq_left', exists_eq_left, exists_eq, Bool.false_eq_true, Bool.true_eq_false, reduceCtorEq, not_true_eq_false, not_false_eq_true, eq_self, List.isEmpty_cons, List.isEmpty_nil, wipe, insO_ins, insD_ins, isO_tab, isO_ref, isR_tab, snO_tab, lk_tab, putF_nil, putF_tab, isLs_lst, tyL, m1_self, cutV_1, cutV_to1, Int.zero_add, reduceIte])

namespace K02
def dueW : Nat → String
  | 0 => "underflow" | 1 => "empty" | 2 => "overflow" | 3 => "unexpected" | 4 => "differs" | _ => "alike"
def strLen : V → Nat
  | .str z => z.length
  | _ => 100
def Short (xs : List V) : Prop := (∀ v, xs[xs.length - 1]? = some v → strLen v ≤ 8) ∧ (2 ≤ xs.length → ∀ v, xs[xs.length - 2]? = some v → strLen v ≤ 8) ∧ (∀ v, xs[0]? = some v → strLen v ≤ 8)
structure Case (xs rs : List V) (i : Ins) (at_ : Nat) : Prop where
  len : xs.length ≤ 24
  txt : ∀ v ∈ xs, ∃ z, v = .str z ∧ z.length ≤ 100
  rl : rs.length = 4
  rg : ∀ v ∈ rs, isRegV v = true
  io : i.ok
  due : Short xs → (∀ v ∈ xs, isMarkV v = true) ∧ failW xs rs i = some (dueW at_)
theorem comp_const {K : PySem.W.Frag} {g : TG} {σ : L2.St} {H : Hp} {te : TE} {us : List Nat} {Q : VK} {lo : Int} {n : Nat} (f : V) (hn : n ≤ 16777216)
    (hs : ∀ i H' (R : VK), i < n → L2.Same H H' → (∀ H4, L2.Same H' H4 → R f H4) → g (.int (lo + (i : Int))) (wipe σ us) H' fun σ2 H2 => wipe σ2 us = wipe σ us ∧ te σ2 H2 R)
    (hd : ∀ L H', H L = none → H' L = some (.lst (List.replicate n f)) → L2.Same H H' → Q (.ref L) H') : @CompJ (Itr lo n) us σ H ⟨g⟩ ⟨tYes⟩ ⟨te⟩ ⟨Q⟩ := by
  refine comp_rng (fun D i acc H' => L2.Same H H' ∧ H D = none ∧ H' D = some (.lst acc) ∧ acc = List.replicate i f) (fun D hD => ⟨same_new (L2.Same.refl H) hD, hD, upd_same, rfl⟩) (fun D i acc H' Nx hi ⟨s, hD, e, ea⟩ hN => ?_) (fun D acc H' hD ⟨s, _, e, ea⟩ => ?_)
  · refine hs i H' (fun y H4 => ∃ acc, H4 D = some (.lst acc) ∧ acc.length < sizeLine ∧ Nx (upd H4 D (.lst (acc ++ [y])))) hi s fun H4 s4 => ?_
    refine ⟨acc, s4 _ _ e, ?_, hN (acc ++ [f]) _ ⟨fun b u eb => ?_, hD, upd_same, ?_⟩⟩
    · rw [ea, List.length_replicate]
      show _ < 16777216
      omega
    · rw [upd_ne (ne_of_none eb hD)]
      exact s4 _ _ (s _ _ eb)
    · rw [ea, List.replicate_succ']
  · exact hd D H' hD (by rw [e, ea]) s
theorem app_cps {a b : Str} : (a ++ b).cps = a.cps ++ b.cps := rfl
theorem app_len {a b : Str} : (a ++ b).length = a.length + b.length := by
  show (a.cps ++ b.cps).size = a.cps.size + b.cps.size
  exact Array.size_append
theorem markx {z : Str} (h : isMarkS z = true) (hl : (z ++ Str.ofString "x").length ≤ 8) : isMarkS (z ++ Str.ofString "x") = true := by
  unfold isMarkS at h ⊢
  simp only [Bool.and_eq_true, decide_eq_true_eq, List.all_eq_true] at h ⊢
  refine ⟨⟨by rw [app_len]; omega, hl⟩, fun c hc => ?_⟩
  rw [app_cps, Array.toList_append] at hc
  rcases List.mem_append.mp hc with hc | hc
  · exact h.2 c hc
  · have e : (Str.ofString "x").cps.toList = [120] := by decide +kernel
    rw [e] at hc
    rw [List.mem_singleton.mp hc]
    decide +kernel
theorem x_neq {z : Str} : z ++ Str.ofString "x" ≠ z := fun e => by
  have := congrArg Str.length e
  rw [app_len] at this
  have h1 : (Str.ofString "x").length = 1 := by decide +kernel
  omega
theorem mark_len {z : Str} (h : isMarkS z = true) : z.length ≤ 8 := by
  unfold isMarkS at h
  simp only [Bool.and_eq_true, decide_eq_true_eq] at h
  exact h.1.2
theorem rep_mark {z : Str} {m : Nat} (h : isMarkS z = true) : ∀ v ∈ List.replicate m (V.str z), isMarkV v = true := fun v hv => by
  rw [List.eq_of_mem_replicate hv]
  exact h
theorem rep_txt {z : Str} {m : Nat} (h : z.length ≤ 100) : ∀ v ∈ List.replicate m (V.str z), ∃ y, v = .str y ∧ y.length ≤ 100 := fun v hv => ⟨z, List.eq_of_mem_replicate hv, h⟩
theorem non4 : ∀ v ∈ ([.non, .non, .non, .non] : List V), isRegV v = true := fun v hv => by
  simp only [List.mem_cons, List.not_mem_nil, or_false, or_self] at hv
  subst hv
  rfl
section
variable {z : Str} (hm : isMarkS z = true)
include hm
theorem cs0p {k : Nat} (hk : k < 24) : Case (List.replicate k (.str z)) [.non, .non, .non, .non] (.pick k) 0 :=
  ⟨by rw [List.length_replicate]; omega, rep_txt (by have := mark_len hm; omega), rfl, non4, hk, fun _ => ⟨rep_mark hm, by simp only [failW]; rw [if_pos (by rw [List.length_replicate]; omega)]; rfl⟩⟩
theorem cs0r {k : Nat} (hk : k < 24) : Case (List.replicate k (.str z)) [.non, .non, .non, .non] (.roll k) 0 :=
  ⟨by rw [List.length_replicate]; omega, rep_txt (by have := mark_len hm; omega), rfl, non4, hk, fun _ => ⟨rep_mark hm, by simp only [failW]; rw [if_pos (by rw [List.length_replicate]; omega)]; rfl⟩⟩
theorem cs1 {k r : Nat} (hk : k ≤ 24) (hr : r < 4) : Case (List.replicate k (.str z)) [.non, .non, .non, .non] (.load r) 1 :=
  ⟨by rw [List.length_replicate]; omega, rep_txt (by have := mark_len hm; omega), rfl, non4, hr, fun _ => ⟨rep_mark hm, by
    have e : ([.non, .non, .non, .non] : List V)[r]? = some .non := by
      match r, hr with
      | 0, _ => rfl
      | 1, _ => rfl
      | 2, _ => rfl
      | 3, _ => rfl
    simp only [failW]
    rw [if_pos e]
    rfl⟩⟩
theorem cs2 {i : Ins} (hi : i = .push z ∨ (∃ k, k < 24 ∧ i = .pick k) ∨ i = .load 2) : Case (List.replicate 24 (.str z)) [.non, .non, .str z, .non] i 2 := by
  have hz := mark_len hm
  refine ⟨by rw [List.length_replicate]; exact Nat.le_refl _, rep_txt (by omega), rfl, fun v hv => ?_, ?_, fun _ => ⟨rep_mark hm, ?_⟩⟩
  · simp only [List.mem_cons, List.not_mem_nil, or_false] at hv
    rcases hv with rfl | rfl | rfl | rfl
    · rfl
    · rfl
    · unfold isRegV
      rw [show isMarkV (.str z) = true from hm, Bool.or_true]
    · rfl
  · rcases hi with rfl | ⟨k, hk, rfl⟩ | rfl
    · exact hm
    · exact hk
    · show 2 < 4
      decide
  · rcases hi with rfl | ⟨k, hk, rfl⟩ | rfl
    · simp only [failW]
      rw [if_pos List.length_replicate]
      rfl
    · simp only [failW]
      rw [if_neg (by rw [List.length_replicate]; omega), if_pos List.length_replicate]
      rfl
    · simp only [failW]
      rw [if_neg (by intro e; cases e), if_pos List.length_replicate]
      rfl
theorem cs3 {m : Nat} (h : m < 23) : Case (List.replicate m (.str z) ++ [V.str (z ++ Str.ofString "x")]) [.non, .non, .non, .non] (.expect z) 3 := by
  have hz := mark_len hm
  have lx : (z ++ Str.ofString "x").length = z.length + 1 := app_len
  have ll : (List.replicate m (V.str z) ++ [V.str (z ++ Str.ofString "x")]).length = m + 1 := by rw [List.length_append, List.length_replicate]; rfl
  have e1 : (List.replicate m (V.str z) ++ [V.str (z ++ Str.ofString "x")])[m]? = some (.str (z ++ Str.ofString "x")) := by
    rw [List.getElem?_append_right (by rw [List.length_replicate]; exact Nat.le_refl _), List.length_replicate, Nat.sub_self]
    rfl
  refine ⟨by omega, fun v hv => ?_, rfl, non4, hm, fun sh => ⟨fun v hv => ?_, ?_⟩⟩
  · rcases List.mem_append.mp hv with hv | hv
    · exact rep_txt (by omega) v hv
    · exact ⟨_, List.mem_singleton.mp hv, by omega⟩
  · rcases List.mem_append.mp hv with hv | hv
    · exact rep_mark hm v hv
    · rw [List.mem_singleton.mp hv]
      exact markx hm (sh.1 (.str (z ++ Str.ofString "x")) (by rw [ll]; exact e1))
  · simp only [failW]
    rw [if_neg (by omega), if_neg (by
      rw [ll, show m + 1 - 1 = m from rfl, e1]
      intro e
      exact x_neq (V.str.inj (Option.some.inj e)))]
    rfl
theorem cs4 {m : Nat} (h : m < 23) : Case (List.replicate m (.str z) ++ [V.str (z ++ Str.ofString "x"), .str z]) [.non, .non, .non, .non] .same 4 := by
  have hz := mark_len hm
  have lx : (z ++ Str.ofString "x").length = z.length + 1 := app_len
  have ll : (List.replicate m (V.str z) ++ [V.str (z ++ Str.ofString "x"), .str z]).length = m + 2 := by rw [List.length_append, List.length_replicate]; rfl
  have e1 : (List.replicate m (V.str z) ++ [V.str (z ++ Str.ofString "x"), .str z])[m]? = some (.str (z ++ Str.ofString "x")) := by
    rw [List.getElem?_append_right (by rw [List.length_replicate]; exact Nat.le_refl _), List.length_replicate, Nat.sub_self]
    rfl
  have e2 : (List.replicate m (V.str z) ++ [V.str (z ++ Str.ofString "x"), .str z])[m + 1]? = some (.str z) := by
    rw [List.getElem?_append_right (by rw [List.length_replicate]; omega), List.length_replicate, show m + 1 - m = 1 by omega]
    rfl
  refine ⟨by omega, fun v hv => ?_, rfl, non4, trivial, fun sh => ⟨fun v hv => ?_, ?_⟩⟩
  · rcases List.mem_append.mp hv with hv | hv
    · exact rep_txt (by omega) v hv
    · simp only [List.mem_cons, List.not_mem_nil, or_false] at hv
      rcases hv with rfl | rfl
      · exact ⟨_, rfl, by omega⟩
      · exact ⟨_, rfl, by omega⟩
  · rcases List.mem_append.mp hv with hv | hv
    · exact rep_mark hm v hv
    · simp only [List.mem_cons, List.not_mem_nil, or_false] at hv
      rcases hv with rfl | rfl
      · exact markx hm (sh.2.1 (by omega) (.str (z ++ Str.ofString "x")) (by rw [ll]; exact e1))
      · exact hm
  · simp only [failW]
    rw [if_neg (by omega), if_neg (by
      rw [ll, show m + 2 - 1 = m + 1 from rfl, show m + 2 - 2 = m from rfl, e1, e2]
      intro e
      exact x_neq (V.str.inj (Option.some.inj e)).symm)]
    rfl
theorem cs5 {m : Nat} (h : m < 23) : Case (List.replicate m (.str (z ++ Str.ofString "x")) ++ [V.str z, .str z]) [.non, .non, .non, .non] .differ 5 := by
  have hz := mark_len hm
  have lx : (z ++ Str.ofString "x").length = z.length + 1 := app_len
  have ll : (List.replicate m (V.str (z ++ Str.ofString "x")) ++ [V.str z, .str z]).length = m + 2 := by rw [List.length_append, List.length_replicate]; rfl
  have e1 : (List.replicate m (V.str (z ++ Str.ofString "x")) ++ [V.str z, .str z])[m]? = some (.str z) := by
    rw [List.getElem?_append_right (by rw [List.length_replicate]; exact Nat.le_refl _), List.length_replicate, Nat.sub_self]
    rfl
  have e2 : (List.replicate m (V.str (z ++ Str.ofString "x")) ++ [V.str z, .str z])[m + 1]? = some (.str z) := by
    rw [List.getElem?_append_right (by rw [List.length_replicate]; omega), List.length_replicate, show m + 1 - m = 1 by omega]
    rfl
  refine ⟨by omega, fun v hv => ?_, rfl, non4, trivial, fun sh => ⟨fun v hv => ?_, ?_⟩⟩
  · rcases List.mem_append.mp hv with hv | hv
    · exact rep_txt (by omega) v hv
    · simp only [List.mem_cons, List.not_mem_nil, or_false, or_self] at hv
      exact ⟨_, hv, by omega⟩
  · rcases List.mem_append.mp hv with hv | hv
    · have hm0 : 0 < m := by
        cases m with
        | zero => cases hv
        | succ k => exact Nat.succ_pos k
      rw [List.eq_of_mem_replicate hv]
      refine markx hm (sh.2.2 (.str (z ++ Str.ofString "x")) ?_)
      rw [List.getElem?_append_left (by rw [List.length_replicate]; exact hm0), List.getElem?_replicate, if_pos hm0]
    · simp only [List.mem_cons, List.not_mem_nil, or_false, or_self] at hv
      rw [hv]
      exact hm
  · simp only [failW]
    rw [if_neg (by omega), if_pos (by rw [ll, show m + 2 - 1 = m + 1 from rfl, show m + 2 - 2 = m from rfl, e1, e2])]
    rfl
end
def t__law_case (K : PySem.W.Frag) : TS :=
  (tSeq (tAsg (uCall (sp__law_mark K) [] E0 (tCons (uVar 0) tNil)) (gName 2))
  (tSeq (tAsg (uCall (sp__law_draw K) [] E0 (tCons (uVar 0) (tCons (tC (.int 23)) tNil))) (gName 3))
  (tSeq (tAsg (tLst (tCons (tC .non) (tCons (tC .non) (tCons (tC .non) (tCons (tC .non) tNil))))) (gName 4))
  (tSeq (tIfS (tTest (tOp rEqS (uVar 1) (tC (.int 0)))) (tSeq (tAsg (uCall (sp__law_draw K) [] E0 (tCons (uVar 0) (tCons (tC (.int 24)) tNil))) (gName 5))
  (tSeq (tAsg (tOp rIxU (tLst (tCons (tC (.str "pick")) (tCons (tC (.str "roll")) tNil))) (uCall (sp__law_draw K) [] E0 (tCons (uVar 0) (tCons (tC (.int 2)) tNil)))) (gName 6))
  (tRet (tLst (tCons (tLc (iRng1 (tCons (uVar 5) tNil)) (gName 8) tYes (uVar 2) [8]) (tCons (uVar 4) (tCons (tTup (tCons (uVar 6) (tCons (uVar 5) tNil))) tNil))))))) tNext)
  (tSeq (tIfS (tTest (tOp rEqS (uVar 1) (tC (.int 1)))) (tRet (tLst (tCons (tLc (iRng1 (tCons (tOp rSubU (tC (.int 24)) (uCall (sp__law_draw K) [] E0 (tCons (uVar 0) (tCons (tC (.int 3)) tNil)))) tNil)) (gName 8) tYes (uVar 2) [8]) (tCons (uVar 4) (tCons (tTup (tCons (tC (.str "load")) (tCons (uCall (sp__law_draw K) [] E0 (tCons (uVar 0) (tCons (tC (.int 4)) tNil))) tNil))) tNil))))) tNext)
  (tSeq (tIfS (tTest (tOp rEqS (uVar 1) (tC (.int 2)))) (tSeq (tAsg (tOp rIxU (tLst (tCons (tTup (tCons (tC (.str "push")) (tCons (uVar 2) tNil))) (tCons (tTup (tCons (tC (.str "pick")) (tCons (uCall (sp__law_draw K) [] E0 (tCons (uVar 0) (tCons (tC (.int 24)) tNil))) tNil))) (tCons (tTup (tCons (tC (.str "load")) (tCons (tC (.int 2)) tNil))) tNil)))) (uCall (sp__law_draw K) [] E0 (tCons (uVar 0) (tCons (tC (.int 3)) tNil)))) (gName 7))
  (tRet (tLst (tCons (tLc (iRng1 (tCons (tC (.int 24)) tNil)) (gName 8) tYes (uVar 2) [8]) (tCons (tLst (tCons (tC .non) (tCons (tC .non) (tCons (uVar 2) (tCons (tC .non) tNil))))) (tCons (uVar 7) tNil)))))) tNext)
  (tSeq (tIfS (tTest (tOp rEqS (uVar 1) (tC (.int 3)))) (tRet (tLst (tCons (tOp rAddL (tLc (iRng1 (tCons (uVar 3) tNil)) (gName 8) tYes (uVar 2) [8]) (tLst (tCons (tOp rAddS (uVar 2) (tC (.str "x"))) tNil))) (tCons (uVar 4) (tCons (tTup (tCons (tC (.str "expect")) (tCons (uVar 2) tNil))) tNil))))) tNext)
  (tSeq (tIfS (tTest (tOp rEqS (uVar 1) (tC (.int 4)))) (tRet (tLst (tCons (tOp rAddL (tLc (iRng1 (tCons (uVar 3) tNil)) (gName 8) tYes (uVar 2) [8]) (tLst (tCons (tOp rAddS (uVar 2) (tC (.str "x"))) (tCons (uVar 2) tNil)))) (tCons (uVar 4) (tCons (tTup (tCons (tC (.str "same")) tNil)) tNil))))) tNext)
  (tRet (tLst (tCons (tOp rAddL (tLc (iRng1 (tCons (uVar 3) tNil)) (gName 8) tYes (tOp rAddS (uVar 2) (tC (.str "x"))) [8]) (tLst (tCons (uVar 2) (tCons (uVar 2) tNil)))) (tCons (uVar 4) (tCons (tTup (tCons (tC (.str "differ")) tNil)) tNil)))))))))))))
def sp__law_case (K : PySem.W.Frag) : Sp := fun vs H Q _ => ∃ (D : Dr) (n : Nat), vs = [.ref D.d, .int n] ∧ n < 6 ∧ DrawsOk H D ∧ ∀ (r a b p : Addr) (xs rs : List V) (i : Ins) H', H' r = some (.lst [.ref a, .ref b, .ref p]) → H' a = some (.lst xs) → H' b = some (.lst rs) → H' p = some (.tup i.enc) → Case xs rs i n → a ≠ D.d → b ≠ D.d → DrawsOk H' D → Q (.ref r) H'
theorem len__law_case {K : PySem.W.Frag} : ∀ vs H Q E, sp__law_case K vs H Q E → vs.length = 2 := fun _ _ _ _ ⟨_, _, e, _⟩ => by rw [e]; rfl
theorem pure__law_case {K : PySem.W.Frag} (vs : List V) (H : Hp) (Q : VK) (E : XK) (h : sp__law_case K vs H Q E) : t__law_case K { nx := fun _ H' => Q .non H', rt := Q } (start ["_law_draws", "_law_at", "_law_one", "_law_many", "_law_empty", "_law_depth", "_law_word", "_law_last", "_law_k"] vs) H := by
  obtain ⟨Dw, n, rfl, hn, hd, q⟩ := h
  unfold t__law_case
  show tSeq _ _ _ [some (.ref Dw.d), some (.int n), none, none, none, none, none, none, none] H
  kfm_turns
  refine c_gen hd fun v H1 ⟨z, hv, hm⟩ d1 k1 => ?_
  subst hv
  kfm_turns
  refine c_draw d1 (by decide) (by decide) fun r H2 r0 r1 d2 k2 => ?_
  obtain ⟨m, rfl⟩ := Int.eq_ofNat_of_zero_le r0
  have hz : z.length ≤ 8 := by
    unfold isMarkS at hm
    simp only [Bool.and_eq_true, decide_eq_true_eq] at hm
    exact hm.1.2
  have hx1 : (Str.ofString "x").length = 1 := by decide +kernel
  kpt_turns
  rename_i pe H3 n3
  refine Br.by (fun h => ?_) fun h => ?_
  · kfm_turns
    refine c_draw (by kct_strs) (by decide) (by decide) fun r H4 r0 r1 d4 k4 => ?_
    obtain ⟨k, rfl⟩ := Int.eq_ofNat_of_zero_le r0
    kpt_turns
    rename_i pl H5 n5
    refine c_draw (by kct_strs) (by decide) (by decide) fun r H6 r0 r1 d6 k6 => ?_
    kfm_turns
    rename_i j w ej hj
    have hw : w = .str "pick" ∨ w = .str "roll" := by
      have := List.mem_of_getElem? hj
      simp only [List.mem_cons, List.not_mem_nil, or_false] at this
      exact this
    refine comp_const (K := K) (lo := 0) (n := k) (.str z) (by omega) (fun i H' R hi s hR => ?_) (fun L H7 nL eL sL => ?_)
    · kfm_turns
      exact hR _ (L2.Same.refl _)
    · kpt_turns
      rename_i pt H8 n8 pr H9 n9
      have hn0 : n = 0 := by omega
      subst hn0
      rcases hw with rfl | rfl
      · skip
        refine q _ L pe pt _ _ (.pick k) _ ?_ ?_ ?_ ?_ (cs0p hm (k := k) (by omega)) ?_ ?_ ?_
        · tb_rel
        · tb_rel
        · tb_rel
        · tb_rel
        · tb_start
        · tb_start
        · kct_strs
      · skip
        refine q _ L pe pt _ _ (.roll k) _ ?_ ?_ ?_ ?_ (cs0r hm (k := k) (by omega)) ?_ ?_ ?_
        · tb_rel
        · tb_rel
        · tb_rel
        · tb_rel
        · tb_start
        · tb_start
        · kct_strs
  · kfm_turns
    refine Br.by (fun h1 => ?_) fun h1 => ?_
    · have hn0 : n = 1 := by omega
      subst hn0
      kfm_turns
      refine c_draw (by kct_strs) (by decide) (by decide) fun r H4 r0 r1 d4 k4 => ?_
      obtain ⟨k, rfl⟩ := Int.eq_ofNat_of_zero_le r0
      kfm_turns
      rw [show (24 - (k : Int)).toNat = 24 - k by omega]
      refine comp_const (K := K) (lo := 0) (n := 24 - k) (.str z) (by omega) (fun i H' R hi s hR => ?_) (fun L H7 nL eL sL => ?_)
      · kfm_turns
        exact hR _ (L2.Same.refl _)
      · kfm_turns
        refine c_draw (by kct_strs) (by decide) (by decide) fun r H8 r0 r1 d8 k8 => ?_
        obtain ⟨k2, rfl⟩ := Int.eq_ofNat_of_zero_le r0
        kpt_turns
        rename_i pt H9 n9 pr H10 n10
        have nLd : L ≠ Dw.d := d4.ne nL
        refine q _ L pe pt _ _ (.load k2) _ ?_ ?_ ?_ ?_ (cs1 hm (k := 24 - k) (r := k2) (by omega) (by omega)) ?_ ?_ ?_
        · tb_rel
        · tb_rel
        · tb_rel
        · tb_rel
        · tb_start
        · tb_start
        · kct_strs
    · kfm_turns
      refine Br.by (fun h2 => ?_) fun h2 => ?_
      · have hn0 : n = 2 := by omega
        subst hn0
        kpt_turns
        refine c_draw (by kct_strs) (by decide) (by decide) fun r H4 r0 r1 d4 k4 => ?_
        obtain ⟨k, rfl⟩ := Int.eq_ofNat_of_zero_le r0
        kpt_turns
        rename_i pu Hu nu p0 H5a n5a p1 H5 n5 p2 H6 n6
        refine c_draw (by kct_strs) (by decide) (by decide) fun r H7 r0 r1 d7 k7 => ?_
        have eu : H7 pu = some (.tup (Ins.push z).enc) := by show _ = some (HO.tup [_, _]); tb_rel
        have e0 : H7 p0 = some (.tup (Ins.pick k).enc) := by show _ = some (HO.tup [_, _]); tb_rel
        have e1 : H7 p1 = some (.tup (Ins.load 2).enc) := by show _ = some (HO.tup [_, _]); tb_rel
        kpt_turns
        rename_i j w ej hj
        have hw : ∃ pt i, w = .ref pt ∧ H7 pt = some (.tup (Ins.enc i)) ∧ (i = .push z ∨ (∃ k, k < 24 ∧ i = .pick k) ∨ i = .load 2) := by
          have := List.mem_of_getElem? hj
          simp only [List.mem_cons, List.not_mem_nil, or_false] at this
          rcases this with rfl | rfl | rfl
          · exact ⟨_, _, rfl, eu, .inl rfl⟩
          · exact ⟨_, _, rfl, e0, .inr (.inl ⟨k, by omega, rfl⟩)⟩
          · exact ⟨_, _, rfl, e1, .inr (.inr rfl)⟩
        obtain ⟨pt, i, rfl, et, hi⟩ := hw
        refine comp_const (K := K) (lo := 0) (n := 24) (.str z) (by omega) (fun i H' R hi s hR => ?_) (fun L H8 nL eL sL => ?_)
        · kfm_turns
          exact hR _ (L2.Same.refl _)
        · kpt_turns
          rename_i pr H9 n9 pq H10 n10
          refine q _ L pr pt _ _ i _ ?_ ?_ ?_ ?_ (cs2 hm hi) ?_ ?_ ?_
          · tb_rel
          · tb_rel
          · tb_rel
          · tb_rel
          · tb_start
          · tb_start
          · kct_strs
      · kfm_turns
        refine Br.by (fun h3 => ?_) fun h3 => ?_
        · have hn0 : n = 3 := by omega
          subst hn0
          kfm_turns
          refine comp_const (K := K) (lo := 0) (n := m) (.str z) (by omega) (fun i H' R hi s hR => ?_) (fun L H7 nL eL sL => ?_)
          · kfm_turns
            exact hR _ (L2.Same.refl _)
          · have nLd : L ≠ Dw.d := (n3.draws d2).ne nL
            kpt_turns
            rename_i pa H8 n8 pb H9 n9 pt H10 n10 pr H11 n11
            refine q _ pb pe pt _ _ (.expect z) _ ?_ ?_ ?_ ?_ (cs3 hm (m := m) (by omega)) ?_ ?_ ?_
            · tb_rel
            · tb_rel
            · tb_rel
            · tb_rel
            · tb_start
            · tb_start
            · kct_strs
        · kfm_turns
          refine Br.by (fun h4 => ?_) fun h4 => ?_
          · have hn0 : n = 4 := by omega
            subst hn0
            kfm_turns
            refine comp_const (K := K) (lo := 0) (n := m) (.str z) (by omega) (fun i H' R hi s hR => ?_) (fun L H7 nL eL sL => ?_)
            · kfm_turns
              exact hR _ (L2.Same.refl _)
            · have nLd : L ≠ Dw.d := (n3.draws d2).ne nL
              kpt_turns
              rename_i pa H8 n8 pb H9 n9 pt H10 n10 pr H11 n11
              refine q _ pb pe pt _ _ .same _ ?_ ?_ ?_ ?_ (cs4 hm (m := m) (by omega)) ?_ ?_ ?_
              · tb_rel
              · tb_rel
              · tb_rel
              · tb_rel
              · tb_start
              · tb_start
              · kct_strs
          · have hn0 : n = 5 := by omega
            subst hn0
            kfm_turns
            refine comp_const (K := K) (lo := 0) (n := m) (.str (z ++ Str.ofString "x")) (by omega) (fun i H' R hi s hR => ?_) (fun L H7 nL eL sL => ?_)
            · kfm_turns
              exact hR _ (L2.Same.refl _)
            · have nLd : L ≠ Dw.d := (n3.draws d2).ne nL
              kpt_turns
              rename_i pa H8 n8 pb H9 n9 pt H10 n10 pr H11 n11
              refine q _ pb pe pt _ _ .differ _ ?_ ?_ ?_ ?_ (cs5 hm (m := m) (by omega)) ?_ ?_ ?_
              · tb_rel
              · tb_rel
              · tb_rel
              · tb_rel
              · tb_start
              · tb_start
              · kct_strs
def t__law_strange (K : PySem.W.Frag) : TS :=
  (tSeq (tAsg (tLst (tCons (tTup (tCons (tC (.str "push")) tNil)) (tCons (tTup (tCons (tC (.str "push")) (tCons (tC (.str "A")) tNil))) (tCons (tTup (tCons (tC (.str "push")) (tCons (tC (.str "")) tNil))) (tCons (tTup (tCons (tC (.str "push")) (tCons (tC (.str "abcdefghi")) tNil))) (tCons (tTup (tCons (tC (.str "push")) (tCons (tC (.int 1)) tNil))) (tCons (tTup (tCons (tC (.str "push")) (tCons (tC .non) tNil))) tNil))))))) (gName 1))
  (tSeq (tAsg (tOp rAddL (uVar 1) (tLst (tCons (tTup (tCons (tC (.str "drop")) (tCons (tC (.int 1)) tNil))) (tCons (tTup tNil) tNil)))) (gName 1))
  (tSeq (tAsg (tOp rAddL (uVar 1) (tLst (tCons (tTup (tCons (tC (.str "pick")) (tCons (tC (.int 24)) tNil))) (tCons (tTup (tCons (tC (.str "pick")) (tCons (tUn (rU fun i => .int (-i)) (tC (.int 1))) tNil))) (tCons (tTup (tCons (tC (.str "pick")) (tCons (tC (.bl true)) tNil))) (tCons (tTup (tCons (tC (.str "roll")) (tCons (tC .non) tNil))) (tCons (tTup (tCons (tC (.str "keep")) (tCons (tC (.int 4)) tNil))) (tCons (tTup (tCons (tC (.str "load")) (tCons (tC (.bl false)) tNil))) (tCons (tLst (tCons (tC (.str "drop")) tNil)) tNil))))))))) (gName 1))
  (tSeq (tAsg (tOp rAddL (uVar 1) (tLst (tCons (tTup (tCons (tC (.str "call")) (tCons (tC (.str "main")) tNil))) (tCons (tTup (tCons (tC (.str "repeat")) (tCons (tC (.str "main")) (tCons (tC (.int 2)) tNil)))) (tCons (tTup (tCons (tC (.str "emit")) (tCons (tC (.str "a")) tNil))) (tCons (tC .non) (tCons (tC (.int 0)) (tCons (tC (.str "drop")) (tCons (tTup (tCons (tC (.str "Drop")) tNil)) (tCons (tTup (tCons (tTup (tCons (tC (.str "drop")) tNil)) tNil)) tNil)))))))))) (gName 1))
  (tSeq (tAsg (tOp rAddL (uVar 1) (tLst (tCons (tTup (tCons (tC (.str "expect")) (tCons (tC (.str "a")) (tCons (tC (.str "b")) tNil)))) (tCons (tTup (tCons (tC (.str "same")) (tCons (tC (.int 2)) tNil))) (tCons (tTup (tCons (tC (.str "pick")) tNil)) (tCons (tTup (tCons (tC (.str "load")) (tCons (tC (.str "0")) tNil))) (tCons (tTup (tCons (tC (.int 1)) tNil)) (tCons (tTup (tCons (tC (.str "keep")) (tCons (tC (.int 0)) (tCons (tC (.int 0)) tNil)))) (tCons (tTup (tCons (tC (.str "push")) (tCons (tC (.str "a b")) tNil))) tNil))))))))) (gName 1))
  (tRet (tOp rIxU (uVar 1) (uCall (sp__law_draw K) [] E0 (tCons (uVar 0) (tCons (tCB rLenU (tCons (uVar 1) tNil)) tNil))))))))))
def Str0 (v : V) (H : Hp) : Prop := okT H v ∧ isBasicV H v = false
def okI (H : Hp) (xs : List V) : Prop := ∀ x ∈ xs, okV H x
theorem okI_nil {H : Hp} : okI H [] := fun _ h => nomatch h
theorem okI_cons {H : Hp} {x : V} {xs : List V} (h : okV H x) (t : okI H xs) : okI H (x :: xs) := fun y hy => by
  rcases List.mem_cons.mp hy with rfl | hy
  · exact h
  · exact t y hy
theorem okV_tup {H : Hp} {p : Addr} {xs : List V} (h : H p = some (.tup xs)) : okV H (.ref p) := ⟨by rw [tyV_ref, h]; rfl, trivial⟩
theorem str_tup {H : Hp} {p : Addr} {xs : List V} (h : H p = some (.tup xs)) (hx : okI H xs) (hb : isBasicT xs = false) : Str0 (.ref p) H := by
  refine ⟨⟨okV_tup h, fun q ys e hq x hm => ?_⟩, ?_⟩
  · cases e
    rw [h] at hq
    cases hq
    exact hx x hm
  · show (match H p with | some (.tup xs) => isBasicT xs | _ => false) = _
    rw [h]
    exact hb
theorem str_lst {H : Hp} {p : Addr} {xs : List V} (h : H p = some (.lst xs)) : Str0 (.ref p) H := by
  refine ⟨⟨⟨by rw [tyV_ref, h]; rfl, trivial⟩, fun q ys e hq x hm => ?_⟩, ?_⟩
  · cases e
    rw [h] at hq
    cases hq
  · show (match H p with | some (.tup xs) => isBasicT xs | _ => false) = _
    rw [h]
theorem str_flat {H : Hp} {v : V} (h : okV H v) (n : ∀ p, v ≠ .ref p) : Str0 v H := ⟨⟨h, fun p xs e _ _ _ => absurd e (n p)⟩, by cases v <;> first | rfl | exact absurd rfl (n _)⟩
def sp__law_strange (K : PySem.W.Frag) : Sp := spGen Str0
theorem pure__law_strange {K : PySem.W.Frag} (vs : List V) (H : Hp) (Q : VK) (E : XK) (h : sp__law_strange K vs H Q E) : t__law_strange K { nx := fun _ H' => Q .non H', rt := Q } (start ["_law_draws", "_law_rows"] vs) H := by
  obtain ⟨Dw, rfl, hd, q⟩ := h
  unfold t__law_strange
  show tSeq _ _ _ [some (.ref Dw.d), none] H
  kpt_turns
  refine c_draw (by kct_strs) (by decide) (by decide) fun r H1 r0 r1 d1 k1 => ?_
  kfm_turns
  rename_i j v ej hj
  have hv := List.mem_of_getElem? hj
  clear hj ej
  simp only [List.mem_cons, List.not_mem_nil, or_false] at hv
  have go : ∀ v, Str0 v H1 → Q v H1 := fun v h => q v H1 h d1 (by k_memK)
  clear q
  rcases hv with rfl | rfl | rfl | rfl | rfl | rfl | rfl | rfl | rfl | rfl | rfl | rfl | rfl | rfl | rfl | rfl | rfl | rfl | rfl | rfl | rfl | rfl | rfl | rfl | rfl | rfl | rfl | rfl | rfl | rfl
  all_goals apply go
  all_goals first
    | (apply str_tup; (focus tb_rel); (repeat' first | exact okI_nil | (refine okI_cons ?_ ?_)); (all_goals first | rfl | (decide +kernel) | exact ⟨rfl, trivial⟩ | exact ⟨rfl, show _ ≤ sizeLine by decide +kernel⟩ | (apply okV_tup; tb_rel)))
    | (apply str_lst; tb_rel)
    | exact str_flat ⟨rfl, trivial⟩ (fun p e => nomatch e)
    | exact str_flat ⟨rfl, show _ ≤ sizeLine by decide +kernel⟩ (fun p e => nomatch e)
end K02
end U
end

section
namespace U
open PySem PySem.Spec PyProof.Rows L2
local macro_rules | `(tactic| tb_start) => `(tactic| first
  | assumption
  | (refine Ne.symm ?_; assumption)
  | ((with_reducible apply New.ne); (focus assumption); (focus tb_rel); done)
  | (refine Ne.symm ?_; (with_reducible apply New.ne); (focus assumption); (focus tb_rel); done)
  | ((with_reducible apply neN); (focus assumption); (focus tb_rel); done)
  | (refine Ne.symm ?_; (with_reducible apply neN); (focus assumption); (focus tb_rel); done)
  | ((with_reducible apply DrawsOk.neN); (focus assumption); (focus kct_strs); done)
  | ((with_reducible apply DrawsOk.neLN); (focus assumption); (focus kct_strs); done)
  | ((with_reducible apply DrawsOk.ne'); (focus assumption); (focus kct_strs); done)
  | ((with_reducible apply DrawsOk.neL'); (focus assumption); (focus kct_strs); done)
  | ((with_reducible apply DrawsOk.other'); (focus assumption); (focus tb_rel); (focus rfl); done)
  | ((with_reducible apply DrawsOk.otherL); (focus assumption); (focus tb_rel); (focus rfl); done)
  | ((with_reducible apply ne_kd); (focus assumption); (focus tb_rel); (focus (intro h; cases h; done)); done))
local macro_rules | `(tactic| tb_rel) => `(tactic| first
  | assumption
  | exact New.at (by assumption)
  | exact Mod.at (by assumption)
  | ((with_reducible apply New.old); (focus assumption); tb_rel)
  | ((with_reducible apply Mod.lk); (focus assumption); (focus tb_rel); focus tb_start)
  | ((with_reducible apply Keep.lk); (focus assumption); (focus tb_rel); focus tb_start)
  | ((with_reducible apply Same.at); (focus assumption); tb_rel))
local macro_rules | `(tactic| kct_strs) => `(tactic| first
  | assumption
  | (refine New.draws (by assumption) ?_; kct_strs)
  | (refine DrawsOk.same ?_ (by assumption); kct_strs)
  | (refine Mod.draws (by assumption) ?_ ?_ ?_; (kct_strs); (focus tb_start); focus tb_start))
local macro_rules | `(tactic| k_updF) => `(tactic| first
  | assumption
  | exact L2.Same.refl _
  | (refine Same.new ?_ (by assumption); k_updF)
  | (refine L2.Same.trans ?_ (by assumption); k_updF)
  | (refine Same.mod ?_ (by assumption) ?_; (k_updF); lcg_sub))
local macro_rules | `(tactic| k_memK) => `(tactic| first
  | assumption
  | exact Keep.refl _ _
  | (refine Keep.new' ?_ (by assumption); k_memK)
  | (refine Keep.trans ?_ (by assumption); k_memK)
  | (refine Keep.trans ?_ (Keep.same' (by assumption)); k_memK)
  | (refine Keep.modd ?_ (by assumption); k_memK)
  | (refine Keep.mod ?_ (by assumption) ?_; (k_memK); lcg_sub))
local macro_rules | `(tactic| lcg_sub) => `(tactic| first
  | assumption
  | exact New.fr (by assumption)
  | (refine Same.none ?_ (New.fr (by assumption)); k_updF)
  | (refine Keep.fresh (D := ?_) ?_ ?_ ?_ (New.fr (by assumption)); rotate_left; (k_memK); (kct_strs); (kct_strs)))
local macro_rules | `(tactic| k_upd) => `(tactic| first
  | assumption
  | exact Kl.refl _
  | (refine Kl.trans ?_ (New.kl (by assumption)); k_upd)
  | (refine Kl.trans ?_ (Same.kl (by assumption)); k_upd)
  | (refine Kl.trans ?_ (Mod.kl (by assumption) (by tb_rel)); k_upd)
  | (refine Kl.trans ?_ (Keep.kl (by assumption) (by kct_strs)); k_upd)
  | (refine Kl.trans ?_ (by assumption); k_upd))
local macro_rules | `(tactic| kst_all1) => `(tactic| first
  | assumption | omega | (with_reducible rfl)
  | (simp only [List.length_append, List.length_map, List.length_set, List.length_take, List.length_drop, List.length_cons, List.length_nil, List.length_replicate]; omega)
  | (refine ⟨?_, ?_⟩ <;> kst_all1)
  | decide)
local macro_rules | `(tactic| k_allIn) => `(tactic| first
  | ((with_reducible apply OKl); (focus tb_rel))
  | ((with_reducible apply OKt); (focus tb_rel))
  | ((with_reducible apply OKql); (focus tb_rel))
  | ((with_reducible apply OKqt); (focus tb_rel))
  | ((with_reducible apply OKnl); (focus tb_rel))
  | ((with_reducible apply OKnt); (focus tb_rel))
  | ((with_reducible apply OKnd); (focus tb_rel))
  | ((with_reducible apply OKyl); (focus tb_rel))
  | ((with_reducible apply OKyt); (focus tb_rel))
  | ((with_reducible apply OKyd); (focus tb_rel))
  | ((with_reducible apply OKbl); (focus tb_rel))
  | ((with_reducible apply OKbt); (focus tb_rel))
  | ((with_reducible apply OKbd); (focus tb_rel))
  | ((with_reducible apply OKi); (focus tb_rel))
  | ((with_reducible apply OKj); (focus tb_rel))
  | ((with_reducible apply OKr); (focus tb_rel))
  | ((with_reducible apply OKrt); (focus tb_rel))
  | ((with_reducible apply OKrl); (focus tb_rel))
  | ((with_reducible apply OKsl); (focus tb_rel))
  | ((with_reducible apply OKst); (focus tb_rel))
  | ((with_reducible apply AlS_l); (focus tb_rel))
  | ((with_reducible apply AlS_t); (focus tb_rel))
  | ((with_reducible apply AlC_l); (focus tb_rel))
  | ((with_reducible apply AlC_t); (focus tb_rel))
  | ((with_reducible apply OKn); (focus kst_all1); intro v h)
  | ((with_reducible apply OKl1); (focus kst_all1); intro v h)
  | ((with_reducible apply OKl2); (focus kst_all1); intro v h)
  | ((with_reducible apply OKlk); (focus kst_all1); intro v h)
  | ((with_reducible apply OKln); (focus kst_all1); intro v h)
  | ((with_reducible apply OKg); (focus kst_all1); intro v h)
  | ((with_reducible apply OKxn); (focus kst_all1))
  | ((with_reducible apply OKsi); (focus kst_all1))
  | ((with_reducible apply OKsm); (focus kst_all1))
  | ((with_reducible refine OKa ?_ ?_ ?_); (focus kst_all1); (focus kst_all1); intro j v e h))
local macro_rules | `(tactic| kfm_turns) => `(tactic| repeat first
  | kpc_turns
  | k_allIn
  | l_intsW
  | ((with_reducible apply CdL); (focus tb_rel))
  | ((with_reducible refine Cd.by ?_ ?_); (focus kst_all1))
  | ((with_reducible refine Br.yes ?_ ?_); (focus (first | assumption | omega)))
  | ((with_reducible refine Br.no ?_ ?_); (focus (first | assumption | omega))))
local macro_rules | `(tactic| kpt_turns) => `(tactic| repeat first
  | kpc_turns
  | k_allIn
  | l_intsW
  | (with_reducible refine Al.by fun p H' n => ?_)
  | (with_reducible refine Md.by fun H' m => ?_)
  | ((with_reducible apply CdL); (focus tb_rel))
  | ((with_reducible refine Cd.by ?_ ?_); (focus kst_all1))
  | ((with_reducible refine Br.yes ?_ ?_); (focus (first | assumption | omega)))
  | ((with_reducible refine Br.no ?_ ?_); (focus (first | assumption | omega))))
local macro_rules | `(tactic| nest_cls) => `(tactic| repeat' first
  | kpc_turns
  | k_allIn
  | l_intsW
  | (with_reducible refine Al.by fun p H' n => ?_)
  | (with_reducible refine Md.by fun H' m => ?_)
  | ((with_reducible apply CdL); (focus tb_rel))
  | ((with_reducible refine Cd.by ?_ ?_); (focus kst_all1))
  | ((with_reducible refine Br.yes ?_ ?_); (focus (first | assumption | omega)))
  | ((with_reducible refine Br.no ?_ ?_); (focus (first | assumption | omega)))
  | (with_reducible refine Br.by (fun h => ?_) fun h => ?_))
local macro_rules | `(tactic| kpc_turns) => `(tactic| simp (config := {maxSteps := 4000000}) only [↓un_nx, ↓in_some, ↓in_none, ↓r_cd, ↓aM_pop, ↓aM_popAt, ↓r_tryL, ↓r_fld, ↓r_setF, ↓aSF_ref, ↓r_isO, ↓r_eqO, ↓r_eqN, ↓r_neN, ↓r_gsq, ↓aGs_eq, ↓r_gcons, ↓r_gnil, ↓r_isB, ↓r_bm1, ↓r_bm0, ↓aM_app, ↓r_callX, ↓r_raise0, ↓r_tryAs, ↓r_tryOnly, ↓r_seq, ↓r_ifS, ↓r_or, ↓r_and, ↓r_not, ↓r_next, ↓r_ret, ↓r_retN, ↓r_brk, ↓r_cnt, ↓r_drop, ↓r_asg, ↓r_test, ↓r_yes, ↓r_c, ↓r_nil, ↓r_cons, ↓r_var0, ↓r_varS, ↓r_name0, ↓r_nameS, ↓r_op, ↓r_un, ↓r_rU, ↓r_chain, ↓r_andV, ↓r_orV, ↓r_notV, ↓r_call, ↓r_cb, ↓r_tup, ↓r_lst, ↓r_sl, ↓r_noPart, ↓r_part, ↓r_gsub, ↓kB_a, ↓aB_bl, ↓kI_a, ↓aI_int, ↓OK_some, ↓Br_true, ↓Br_false, ↓Cd_true, ↓r_addI, ↓r_addS, ↓r_addUI, ↓r_addUS, ↓r_addL, ↓AlT_cc, ↓AlT_nil, ↓AlT_cnil, ↓r_addT, ↓r_sub, ↓r_mul, ↓r_div, ↓r_mod, ↓r_pow, ↓r_lt, ↓r_le, ↓r_gt, ↓r_ge, ↓r_eq, ↓r_ne, ↓r_isN, ↓r_notN, ↓r_inS, ↓r_ninS, ↓r_in, ↓r_nin, ↓r_inG, ↓r_ninG, ↓r_ixS, ↓r_ix, ↓r_set, ↓r_slS, ↓AlS_lst, ↓AlS_tup, ↓r_slR, ↓r_lenS, ↓r_lenR, ↓r_listU, ↓AlC_lst, ↓AlC_tup, ↓r_tupleU, ↓r_int, ↓r_intB, ↓r_isi, ↓r_tru, ↓r_truN, ↓r_truB, ↓r_truI, ↓r_truS, ↓r_truR, ↓aL_ref, ↓a1_int, ↓a2_int, ↓r_for1, ↓r_for2, ↓r_for, ↓r_lc, ↓r_lc1, ↓r_lc2,
  OK_some, Br_true, Br_false, Br_not, Cd_true, aB_bl, aI_int, r_rU, r_addI, r_addS, r_sub, r_mul, r_div, r_mod, r_pow, r_lt, r_le, r_gt, r_ge, r_ixS, r_ix, r_set, r_lenS, r_int, r_intB, r_truN, r_truB, r_truI, r_truS, r_truR, AlT_cc, AlT_nil, AlT_cnil, AlS_lst, AlS_tup, AlC_lst, AlC_tup, a1_int, a2_int, lstO_lst, tupO_tup, seqO_eq, seqO_lst, seqO_tup, lenO_lst, lenO_tup, lenO_dK, e_tyR, tyO_t, e_ty, e_tyn, truO_lst, truO_tup, truO_dK, isa_tab, scal_tab, flat_tab, eqV_t, inV_cons, inV_nil, szl, cmul_l, cpow_l, atI_0, atI_1, atI_2, atI_3, ixN_lit, Option.some.injEq, List.length_cons, List.length_nil, List.length_append, List.length_map, Nat.zero_add, Nat.reduceAdd, natc, Int.reduceLE, Int.reduceLT, Int.reduceEq, Int.reduceSub, Int.reduceAdd, Int.reduceNeg, Int.reduceMul, Int.reducePow, Int.reduceToNat, Nat.reduceLeDiff, Nat.reduceLT, Nat.reduceEqDiff, decide_eq_true_eq, decide_eq_false_iff_not, decide_true, decide_false, Bool.not_eq_true', Bool.not_eq_false', Bool.not_true, Bool.not_false, Bool.not_not, Bool.or_eq_true, Bool.and_eq_true, Bool.or_false, Bool.false_or, Bool.or_true, Bool.true_or, Bool.and_true, Bool.true_and, Bool.and_false, Bool.false_and, Bool.and_self, List.all_cons, List.all_nil, ofs_inj, String.reduceEq, List.cons.injEq, and_true, true_and, and_self, or_true, true_or, or_false, false_or, V.ty.injEq, V.bl.injEq, V.int.injEq, V.str.injEq, V.ref.injEq, List.nil_append, List.append_nil, List.cons_append, List.getElem?_cons_zero, List.getElem?_cons_succ, List.set_cons_zero, List.set_cons_succ, exists_eq_left', exists_eq_left, exists_eq, Bool.false_eq_true, Bool.true_eq_false, reduceCtorEq, not_true_eq_false, not_false_eq_true, eq_self, List.isEmpty_cons, List.isEmpty_nil, wipe, insO_ins, insD_ins, isO_tab, isO_ref, isR_tab, snO_tab, lk_tab, putF_nil, putF_tab, isLs_lst, tyL, m1_self, cutV_1, cutV_to1, Int.zero_add, reduceIte])

namespace K02
def t_law_1 (K : PySem.W.Frag) (a_BadInstruction : Addr) (a_Failure : Addr) (a_ReelError : Addr) : TS :=
  (tSeq (tAsg (tC .non) (gName 8))
  (tSeq (uTryAs K (.ref a_BadInstruction) 7 (fun W => (tDrop (uCallX (sp_execute K) W (tCons (uCallX (sp_State K) W (tCons (uVar 3) (tCons (uVar 4) tNil))) (tCons (uCall (sp__law_strange K) [] E0 (tCons (uVar 1) tNil)) tNil))))) (fun a cls d => (tAsg (tTup (tCons (uXf K a cls d "name" 7) (tCons (uXf K a cls d "index" 7) (tCons (tCB (rIsF K a cls d (.ref a_ReelError) (.ref a_ReelError)) (tCons (uVar 7) (tCons (tC (.ref a_ReelError)) tNil))) (tCons (tCB (rIsF K a cls d (.ref a_Failure) (.ref a_Failure)) (tCons (uVar 7) (tCons (tC (.ref a_Failure)) tNil))) tNil))))) (gName 8))) w0)
  (tRet (tOp (rEqD K) (uVar 8) (tTup (tCons (tC (.str "")) (tCons (tC (.int 0)) (tCons (tC (.bl true)) (tCons (tC (.bl false)) tNil)))))))))
def t_law_2 (K : PySem.W.Frag) (a_BadInstruction : Addr) (a_Failure : Addr) (a_ReelError : Addr) (a_Underflow : Addr) (a_Unexpected : Addr) (a_Overflow : Addr) (a_EmptyRegister : Addr) (a_Alike : Addr) (a_Differs : Addr) : TS :=
  (tSeq (tAsg (tLst tNil) (gName 6))
  (tSeq (uTryAs K (.ref a_ReelError) 7 (fun W => (tDrop (uCallX (sp_execute K) W (tCons (uCallX (sp_State K) W (tCons (uVar 3) (tCons (uVar 4) tNil))) (tCons (uVar 5) tNil))))) (fun a cls d => (tSeq (tAsg (tLst (tCons (tCB (rIsF K a cls d (.ref a_Failure) (.ref a_Failure)) (tCons (uVar 7) (tCons (tC (.ref a_Failure)) tNil))) (tCons (tCB (rIsF K a cls d (.ty "ValueError") (.type "ValueError")) (tCons (uVar 7) (tCons (tC (.ty "ValueError")) tNil))) (tCons (tCB (rIsF K a cls d (.ref a_Underflow) (.ref a_Underflow)) (tCons (uVar 7) (tCons (tC (.ref a_Underflow)) tNil))) tNil)))) (gName 6))
  (tSeq (tAsg (tOp rAddL (uVar 6) (tLst (tCons (tCB (rIsF K a cls d (.ref a_EmptyRegister) (.ref a_EmptyRegister)) (tCons (uVar 7) (tCons (tC (.ref a_EmptyRegister)) tNil))) (tCons (tCB (rIsF K a cls d (.ref a_Overflow) (.ref a_Overflow)) (tCons (uVar 7) (tCons (tC (.ref a_Overflow)) tNil))) (tCons (tCB (rIsF K a cls d (.ref a_Unexpected) (.ref a_Unexpected)) (tCons (uVar 7) (tCons (tC (.ref a_Unexpected)) tNil))) tNil))))) (gName 6))
  (tAsg (tOp rAddL (uVar 6) (tLst (tCons (tCB (rIsF K a cls d (.ref a_Differs) (.ref a_Differs)) (tCons (uVar 7) (tCons (tC (.ref a_Differs)) tNil))) (tCons (tCB (rIsF K a cls d (.ref a_Alike) (.ref a_Alike)) (tCons (uVar 7) (tCons (tC (.ref a_Alike)) tNil))) (tCons (uXf K a cls d "step" 7) (tCons (uXf K a cls d "path" 7) tNil)))))) (gName 6))))) w0)
  (tSeq (tIfS (tTest (tOp (rNeD K) (uVar 6) (tOp rAddL (tOp rAddL (tLst (tCons (tC (.bl true)) (tCons (tC (.bl true)) tNil))) (tLc (iRng1 (tCons (tC (.int 6)) tNil)) (gName 9) tYes (tOp rEqS (uVar 9) (uVar 2)) [9])) (tLst (tCons (tC (.int 0)) (tCons (tTup tNil) tNil)))))) (tRet (tC (.bl false))) tNext)
  (t_law_1 K a_BadInstruction a_Failure a_ReelError))))
def t_law (K : PySem.W.Frag) (a_BadInstruction : Addr) (a_Failure : Addr) (a_ReelError : Addr) (a_Underflow : Addr) (a_Unexpected : Addr) (a_Overflow : Addr) (a_EmptyRegister : Addr) (a_Alike : Addr) (a_Differs : Addr) : TS :=
  (tSeq (tAsg (uCall (sp__law_begin K) [] E0 (tCons (uVar 0) tNil)) (gName 1))
  (tSeq (tAsg (uCall (sp__law_draw K) [] E0 (tCons (uVar 1) (tCons (tC (.int 6)) tNil))) (gName 2))
  (tSeq (tAsg (uCall (sp__law_case K) [] E0 (tCons (uVar 1) (tCons (uVar 2) tNil))) (gSq 3 (gCons (gName 3) (gCons (gName 4) (gCons (gName 5) gNil)))))
  (tSeq (tIfS (tAnd (tTest (tOp rGtU (tCB rLenU (tCons (uVar 3) tNil)) (tC (.int 0)))) (tTest (tOp rGtU (tCB rLenU (tCons (tOp rIxU (uVar 3) (tUn (rU fun i => .int (-i)) (tC (.int 1)))) tNil)) (tC (.int 8))))) (tRet (tC (.bl true))) tNext)
  (tSeq (tIfS (tAnd (tTest (tOp rGtU (tCB rLenU (tCons (uVar 3) tNil)) (tC (.int 1)))) (tTest (tOp rGtU (tCB rLenU (tCons (tOp rIxU (uVar 3) (tUn (rU fun i => .int (-i)) (tC (.int 2)))) tNil)) (tC (.int 8))))) (tRet (tC (.bl true))) tNext)
  (tSeq (tIfS (tAnd (tTest (tOp rGtU (tCB rLenU (tCons (uVar 3) tNil)) (tC (.int 0)))) (tTest (tOp rGtU (tCB rLenU (tCons (tOp rIxU (uVar 3) (tC (.int 0))) tNil)) (tC (.int 8))))) (tRet (tC (.bl true))) tNext)
  (t_law_2 K a_BadInstruction a_Failure a_ReelError a_Underflow a_Unexpected a_Overflow a_EmptyRegister a_Alike a_Differs)))))))
abbrev eA (K : PySem.W.Frag) (x : String) : Addr := He.ga K (Str.ofString x)
def Fk (K : PySem.W.Frag) : Prop := (∀ w ∈ fWords, PySem.W.exmOne K (.ref (errA K w)) (.ref (eA K "ReelError")) = some true ∧ ExcC K (errA K w) ∧ XfOk K (errA K w) "step" ∧ XfOk K (errA K w) "path" ∧ PySem.W.kitOne K (.ref (errA K w)) (.ref (eA K "Failure")) = some true ∧ PySem.W.kitOne K (.ref (errA K w)) (.type "ValueError") = some true ∧
    ∀ u ∈ fWords, PySem.W.kitOne K (.ref (errA K w)) (.ref (errA K u)) = some (decide (w = u))) ∧
  PySem.W.exmOne K (.ref (eA K "BadInstruction")) (.ref (eA K "BadInstruction")) = some true ∧ ExcC K (eA K "BadInstruction") ∧ XfOk K (eA K "BadInstruction") "name" ∧ XfOk K (eA K "BadInstruction") "index" ∧
  PySem.W.kitOne K (.ref (eA K "BadInstruction")) (.ref (eA K "ReelError")) = some true ∧ PySem.W.kitOne K (.ref (eA K "BadInstruction")) (.ref (eA K "Failure")) = some false
def kitT (K : PySem.W.Frag) (c : Addr) (n : String) (b : Bool) : Bool := decide (PySem.W.kitOne K (.ref c) (.type n) = some b)
def FkB (K : PySem.W.Frag) : Bool := (fWords.all fun w => Hd.exmB K (errA K w) (eA K "ReelError") true && (Hd.excCB K (errA K w) && (Hd.xfoB K (errA K w) "step" && (Hd.xfoB K (errA K w) "path" && (Hd.kitB K (errA K w) (eA K "Failure") true && (kitT K (errA K w) "ValueError" true && fWords.all fun u => Hd.kitB K (errA K w) (errA K u) (decide (w = u)))))))) &&
  (Hd.exmB K (eA K "BadInstruction") (eA K "BadInstruction") true && (Hd.excCB K (eA K "BadInstruction") && (Hd.xfoB K (eA K "BadInstruction") "name" && (Hd.xfoB K (eA K "BadInstruction") "index" && (Hd.kitB K (eA K "BadInstruction") (eA K "ReelError") true && Hd.kitB K (eA K "BadInstruction") (eA K "Failure") false)))))
theorem FkB_ok {K : PySem.W.Frag} (h : FkB K = true) : Fk K := by
  obtain ⟨h1, h⟩ := He.ba h
  obtain ⟨g1, h⟩ := He.ba h
  obtain ⟨g2, h⟩ := He.ba h
  obtain ⟨g3, h⟩ := He.ba h
  obtain ⟨g4, h⟩ := He.ba h
  obtain ⟨g5, g6⟩ := He.ba h
  refine ⟨fun w hw => ?_, Hd.exmB_ok g1, Hd.excCB_ok g2, Hd.xfoB_ok g3, Hd.xfoB_ok g4, Hd.kitB_ok g5, Hd.kitB_ok g6⟩
  have h := List.all_eq_true.mp h1 w hw
  obtain ⟨k1, h⟩ := He.ba h
  obtain ⟨k2, h⟩ := He.ba h
  obtain ⟨k3, h⟩ := He.ba h
  obtain ⟨k4, h⟩ := He.ba h
  obtain ⟨k5, h⟩ := He.ba h
  obtain ⟨k6, k7⟩ := He.ba h
  exact ⟨Hd.exmB_ok k1, Hd.excCB_ok k2, Hd.xfoB_ok k3, Hd.xfoB_ok k4, Hd.kitB_ok k5, of_decide_eq_true k6, fun u hu => Hd.kitB_ok (List.all_eq_true.mp k7 u hu)⟩
theorem Fk.is {K : PySem.W.Frag} (fk : Fk K) (w u : String) {x y : String} {b : Bool} (hw : w ∈ fWords := by decide) (hu : u ∈ fWords := by decide) (ex : errN w = x := by rfl) (ey : errN u = y := by rfl) (e : decide (w = u) = b := by decide) : PySem.W.kitOne K (.ref (eA K x)) (.ref (eA K y)) = some b := by
  subst ex ey e
  exact (fk.1 w hw).2.2.2.2.2.2 u hu
theorem r_isFd {K : PySem.W.Frag} {a D dd : Addr} {fs : List (Str × V)} {c : V} {cv : Value} {b : Bool} {H : Hp} {Q : VK} (T : ExcC K D) (e : PySem.W.kitOne K (.ref D) cv = some b) (h : H dd = some (.xd fs)) (q : Q (.bl b) H) : @aC (rIsF K a (.ref D) (some dd) c cv) [.ref a, c] H ⟨Q⟩ := r_isF T (.inr ⟨dd, fs, rfl, h⟩) e q
def told (b0 b1 b2 b3 b4 b5 : Bool) : List PyData := [.bool true, .bool true, .bool b0, .bool b1, .bool b2, .bool b3, .bool b4, .bool b5, .int 0, .tuple []]
theorem dp_told {K : PySem.W.Frag} {H : Hp} {l t : Addr} {b0 b1 b2 b3 b4 b5 : Bool} (h : H l = some (.lst [.bl true, .bl true, .bl b0, .bl b1, .bl b2, .bl b3, .bl b4, .bl b5, .int 0, .ref t])) (ht : H t = some (.tup [])) : Dp K H (.ref l) (.list (told b0 b1 b2 b3 b4 b5)) :=
  .lst (.inl (.inl h)) (.cons (.bl _) (.cons (.bl _) (.cons (.bl _) (.cons (.bl _) (.cons (.bl _) (.cons (.bl _) (.cons (.bl _) (.cons (.bl _) (.cons (.int _) (.cons (.tup (.inl (.inl ht)) .nil) .nil))))))))))
theorem c_neTold {K : PySem.W.Frag} {H : Hp} {l t l2 t2 : Addr} {b0 b1 b2 b3 b4 b5 : Bool} {Q : VK} (h : H l = some (.lst [.bl true, .bl true, .bl b0, .bl b1, .bl b2, .bl b3, .bl b4, .bl b5, .int 0, .ref t])) (ht : H t = some (.tup []))
    (h2 : H l2 = some (.lst [.bl true, .bl true, .bl b0, .bl b1, .bl b2, .bl b3, .bl b4, .bl b5, .int 0, .ref t2])) (ht2 : H t2 = some (.tup [])) (q : Q (.bl false) H) : @aR (rNeD K) (.ref l) (.ref l2) H ⟨Q⟩ :=
  ⟨_, _, dp_told h ht, dp_told h2 ht2, by cases b0 <;> cases b1 <;> cases b2 <;> cases b3 <;> cases b4 <;> cases b5 <;> rfl, by cases b0 <;> cases b1 <;> cases b2 <;> cases b3 <;> cases b4 <;> cases b5 <;> rfl, by
    have e : PyData.eqv (.list (told b0 b1 b2 b3 b4 b5)) (.list (told b0 b1 b2 b3 b4 b5)) = true := by cases b0 <;> cases b1 <;> cases b2 <;> cases b3 <;> cases b4 <;> cases b5 <;> rfl
    rw [e]
    exact q⟩
theorem dp_ref {K : PySem.W.Frag} {H : Hp} {t : Addr} (h : H t = some (.tup [.str "", .int 0, .bl true, .bl false])) : Dp K H (.ref t) (.tuple [.str "", .int 0, .bool true, .bool false]) :=
  .tup (.inl (.inl h)) (.cons (.str _) (.cons (.int _) (.cons (.bl _) (.cons (.bl _) .nil))))
theorem c_eqRef {K : PySem.W.Frag} {H : Hp} {t t2 : Addr} {Q : VK} (h : H t = some (.tup [.str "", .int 0, .bl true, .bl false])) (h2 : H t2 = some (.tup [.str "", .int 0, .bl true, .bl false])) (q : Q (.bl true) H) : @aR (rEqD K) (.ref t) (.ref t2) H ⟨Q⟩ :=
  ⟨_, _, dp_ref h, dp_ref h2, by decide +kernel, by decide +kernel, by
    have e : PyData.eqv (.tuple [.str "", .int 0, .bool true, .bool false]) (.tuple [.str "", .int 0, .bool true, .bool false]) = true := by decide +kernel
    rw [e]
    exact q⟩
def sp_law (K : PySem.W.Frag) : Sp := fun vs H Q _ => ∃ (a : Addr) (ns : List Int), vs = [.ref a] ∧ SqL K H a (ns.map V.int) ∧ ∀ H', Q (.bl true) H'
theorem len_law {K : PySem.W.Frag} : ∀ vs H Q E, sp_law K vs H Q E → vs.length = 1 := fun _ _ _ _ ⟨_, _, e, _⟩ => by rw [e]; rfl
theorem half2 {K : PySem.W.Frag} (fk : Fk K) {H : Hp} {Q : VK} {a p p2 p5 t : Addr} {Dw : Dr} {xs rs : List V} {n : Int} {z : Option V} (hd : DrawsOk H Dw) (ep : H p = some (.lst xs)) (ep2 : H p2 = some (.lst rs)) (ok : StOk xs rs) (q : ∀ H', Q (.bl true) H') :
    t_law_1 K (eA K "BadInstruction") (eA K "Failure") (eA K "ReelError") { nx := fun _ H' => Q .non H', rt := Q } [some (.ref a), some (.ref Dw.d), some (.int n), some (.ref p), some (.ref p2), some (.ref p5), some (.ref t), none, none, z] H := by
  obtain ⟨_, f1, f2, f3, f4, f5, f6⟩ := fk
  unfold t_law_1
  kfm_turns
  refine c_StateL ep ep2 ok fun st H1 hst s1 => ?_
  kfm_turns
  refine c_gen (hd.same s1) fun v H2 ⟨k1, k2⟩ d2 kp => ?_
  have hst2 := hst.kl (kp.kl (hd.same s1))
  kfm_turns
  refine Call.by ⟨st, v, xs, rs, rfl, hst2, ok, k1, fun _ d H3 hd3 ed s3 => ?_, fun z => (by rw [k2] at z; cases z)⟩
  refine as_yes f1 fun e he => ?_
  have nni : (Str.ofString "name") ≠ Str.ofString "index" := by decide +kernel
  kfm_turns
  refine Xf.snd f3 ed rfl nni ?_
  kfm_turns
  refine Xf.fst f4 ed rfl ?_
  kfm_turns
  refine r_isF f2 (.inr ⟨_, _, rfl, ed⟩) f5 ?_
  kfm_turns
  refine r_isF f2 (.inr ⟨_, _, rfl, ed⟩) f6 ?_
  kpt_turns
  apply c_eqRef
  (focus tb_rel); (focus tb_rel)
  exact q _
theorem half1 {K : PySem.W.Frag} (fk : Fk K) {H : Hp} {Q : VK} {a p p2 p5 : Addr} {Dw : Dr} {xs rs : List V} {n : Nat} {i : Ins} (hn : n < 6) (hd : DrawsOk H Dw) (ep : H p = some (.lst xs)) (ep2 : H p2 = some (.lst rs)) (e5 : H p5 = some (.tup i.enc)) (io : i.ok) (ok : StOk xs rs) (hf : failW xs rs i = some (dueW n)) (q : ∀ H', Q (.bl true) H') :
    t_law_2 K (eA K "BadInstruction") (eA K "Failure") (eA K "ReelError") (eA K "Underflow") (eA K "Unexpected") (eA K "Overflow") (eA K "EmptyRegister") (eA K "Alike") (eA K "Differs") { nx := fun _ H' => Q .non H', rt := Q } [some (.ref a), some (.ref Dw.d), some (.int n), some (.ref p), some (.ref p2), some (.ref p5), none, none, none, none] H := by
  have nsp : (Str.ofString "step") ≠ Str.ofString "path" := by decide +kernel
  unfold t_law_2
  kpt_turns
  refine c_StateL ?_ ?_ ok fun st H1 hst s1 => ?_
  · tb_rel
  · tb_rel
  have e5' : H1 p5 = some (.tup i.enc) := by tb_rel
  have ⟨b1, b2⟩ := basic_enc io e5'
  kfm_turns
  refine Call.by ⟨st, .ref p5, xs, rs, rfl, hst, ok, b2, fun z => (by rw [b1] at z; cases z), fun _ => ⟨p5, i, rfl, io, e5', fun z => (by rw [hf] at z; cases z), fun w' hw' d t H6 ed et s6 => ?_⟩⟩
  rw [hf] at hw'
  cases hw'
  have dr6 : DrawsOk H6 Dw := by kct_strs
  have ep6 : H6 p = some (.lst xs) := by tb_rel
  have ep7 : H6 p2 = some (.lst rs) := by tb_rel
  clear hst s1 s6 ep ep2 e5 e5' b1 b2 hd
  match n, hn with
  | 0, _ =>
    obtain ⟨f1, f2, f3, f4, f5, f6, _⟩ := fk.1 "underflow" (by decide)
    refine as_yes f1 fun e he => ?_
    kfm_turns
    refine r_isF f2 (.inr ⟨_, _, rfl, ed⟩) f5 ?_
    kfm_turns
    refine r_isF f2 (.inr ⟨_, _, rfl, ed⟩) f6 ?_
    kpt_turns
    apply r_isFd f2 (fk.is "underflow" "underflow" (x := "Underflow") (y := "Underflow") (b := true)); (focus tb_rel)
    kpt_turns
    apply r_isFd f2 (fk.is "underflow" "empty" (x := "Underflow") (y := "EmptyRegister") (b := false)); (focus tb_rel)
    kpt_turns
    apply r_isFd f2 (fk.is "underflow" "overflow" (x := "Underflow") (y := "Overflow") (b := false)); (focus tb_rel)
    kpt_turns
    apply r_isFd f2 (fk.is "underflow" "unexpected" (x := "Underflow") (y := "Unexpected") (b := false)); (focus tb_rel)
    kpt_turns
    apply r_isFd f2 (fk.is "underflow" "differs" (x := "Underflow") (y := "Differs") (b := false)); (focus tb_rel)
    kpt_turns
    apply r_isFd f2 (fk.is "underflow" "alike" (x := "Underflow") (y := "Alike") (b := false)); (focus tb_rel)
    kpt_turns
    apply Xf.snd f3; (focus tb_rel); (focus rfl); exact nsp
    kfm_turns
    apply Xf.fst f4; (focus tb_rel); (focus rfl)
    kpt_turns
    refine comp_rmap (lo := 0) (n := 6) (fun i => .bl (decide ((i : Int) = 0))) (by omega) (fun i H' R hi s hR => ?_) (fun L H7 nL eL sL => ?_)
    · kfm_turns
      exact hR _ (L2.Same.refl _)
    · have eL : H7 L = some (.lst [.bl true, .bl false, .bl false, .bl false, .bl false, .bl false]) := eL
      kpt_turns
      apply c_neTold
      (focus tb_rel); (focus tb_rel); (focus tb_rel); (focus tb_rel)
      kfm_turns
      refine half2 fk ?_ ?_ ?_ ok q
      · kct_strs
      · tb_rel
      · tb_rel
  | 1, _ =>
    obtain ⟨f1, f2, f3, f4, f5, f6, _⟩ := fk.1 "empty" (by decide)
    refine as_yes f1 fun e he => ?_
    kfm_turns
    refine r_isF f2 (.inr ⟨_, _, rfl, ed⟩) f5 ?_
    kfm_turns
    refine r_isF f2 (.inr ⟨_, _, rfl, ed⟩) f6 ?_
    kpt_turns
    apply r_isFd f2 (fk.is "empty" "underflow" (x := "EmptyRegister") (y := "Underflow") (b := false)); (focus tb_rel)
    kpt_turns
    apply r_isFd f2 (fk.is "empty" "empty" (x := "EmptyRegister") (y := "EmptyRegister") (b := true)); (focus tb_rel)
    kpt_turns
    apply r_isFd f2 (fk.is "empty" "overflow" (x := "EmptyRegister") (y := "Overflow") (b := false)); (focus tb_rel)
    kpt_turns
    apply r_isFd f2 (fk.is "empty" "unexpected" (x := "EmptyRegister") (y := "Unexpected") (b := false)); (focus tb_rel)
    kpt_turns
    apply r_isFd f2 (fk.is "empty" "differs" (x := "EmptyRegister") (y := "Differs") (b := false)); (focus tb_rel)
    kpt_turns
    apply r_isFd f2 (fk.is "empty" "alike" (x := "EmptyRegister") (y := "Alike") (b := false)); (focus tb_rel)
    kpt_turns
    apply Xf.snd f3; (focus tb_rel); (focus rfl); exact nsp
    kfm_turns
    apply Xf.fst f4; (focus tb_rel); (focus rfl)
    kpt_turns
    refine comp_rmap (lo := 0) (n := 6) (fun i => .bl (decide ((i : Int) = 1))) (by omega) (fun i H' R hi s hR => ?_) (fun L H7 nL eL sL => ?_)
    · kfm_turns
      exact hR _ (L2.Same.refl _)
    · have eL : H7 L = some (.lst [.bl false, .bl true, .bl false, .bl false, .bl false, .bl false]) := eL
      kpt_turns
      apply c_neTold
      (focus tb_rel); (focus tb_rel); (focus tb_rel); (focus tb_rel)
      kfm_turns
      refine half2 fk ?_ ?_ ?_ ok q
      · kct_strs
      · tb_rel
      · tb_rel
  | 2, _ =>
    obtain ⟨f1, f2, f3, f4, f5, f6, _⟩ := fk.1 "overflow" (by decide)
    refine as_yes f1 fun e he => ?_
    kfm_turns
    refine r_isF f2 (.inr ⟨_, _, rfl, ed⟩) f5 ?_
    kfm_turns
    refine r_isF f2 (.inr ⟨_, _, rfl, ed⟩) f6 ?_
    kpt_turns
    apply r_isFd f2 (fk.is "overflow" "underflow" (x := "Overflow") (y := "Underflow") (b := false)); (focus tb_rel)
    kpt_turns
    apply r_isFd f2 (fk.is "overflow" "empty" (x := "Overflow") (y := "EmptyRegister") (b := false)); (focus tb_rel)
    kpt_turns
    apply r_isFd f2 (fk.is "overflow" "overflow" (x := "Overflow") (y := "Overflow") (b := true)); (focus tb_rel)
    kpt_turns
    apply r_isFd f2 (fk.is "overflow" "unexpected" (x := "Overflow") (y := "Unexpected") (b := false)); (focus tb_rel)
    kpt_turns
    apply r_isFd f2 (fk.is "overflow" "differs" (x := "Overflow") (y := "Differs") (b := false)); (focus tb_rel)
    kpt_turns
    apply r_isFd f2 (fk.is "overflow" "alike" (x := "Overflow") (y := "Alike") (b := false)); (focus tb_rel)
    kpt_turns
    apply Xf.snd f3; (focus tb_rel); (focus rfl); exact nsp
    kfm_turns
    apply Xf.fst f4; (focus tb_rel); (focus rfl)
    kpt_turns
    refine comp_rmap (lo := 0) (n := 6) (fun i => .bl (decide ((i : Int) = 2))) (by omega) (fun i H' R hi s hR => ?_) (fun L H7 nL eL sL => ?_)
    · kfm_turns
      exact hR _ (L2.Same.refl _)
    · have eL : H7 L = some (.lst [.bl false, .bl false, .bl true, .bl false, .bl false, .bl false]) := eL
      kpt_turns
      apply c_neTold
      (focus tb_rel); (focus tb_rel); (focus tb_rel); (focus tb_rel)
      kfm_turns
      refine half2 fk ?_ ?_ ?_ ok q
      · kct_strs
      · tb_rel
      · tb_rel
  | 3, _ =>
    obtain ⟨f1, f2, f3, f4, f5, f6, _⟩ := fk.1 "unexpected" (by decide)
    refine as_yes f1 fun e he => ?_
    kfm_turns
    refine r_isF f2 (.inr ⟨_, _, rfl, ed⟩) f5 ?_
    kfm_turns
    refine r_isF f2 (.inr ⟨_, _, rfl, ed⟩) f6 ?_
    kpt_turns
    apply r_isFd f2 (fk.is "unexpected" "underflow" (x := "Unexpected") (y := "Underflow") (b := false)); (focus tb_rel)
    kpt_turns
    apply r_isFd f2 (fk.is "unexpected" "empty" (x := "Unexpected") (y := "EmptyRegister") (b := false)); (focus tb_rel)
    kpt_turns
    apply r_isFd f2 (fk.is "unexpected" "overflow" (x := "Unexpected") (y := "Overflow") (b := false)); (focus tb_rel)
    kpt_turns
    apply r_isFd f2 (fk.is "unexpected" "unexpected" (x := "Unexpected") (y := "Unexpected") (b := true)); (focus tb_rel)
    kpt_turns
    apply r_isFd f2 (fk.is "unexpected" "differs" (x := "Unexpected") (y := "Differs") (b := false)); (focus tb_rel)
    kpt_turns
    apply r_isFd f2 (fk.is "unexpected" "alike" (x := "Unexpected") (y := "Alike") (b := false)); (focus tb_rel)
    kpt_turns
    apply Xf.snd f3; (focus tb_rel); (focus rfl); exact nsp
    kfm_turns
    apply Xf.fst f4; (focus tb_rel); (focus rfl)
    kpt_turns
    refine comp_rmap (lo := 0) (n := 6) (fun i => .bl (decide ((i : Int) = 3))) (by omega) (fun i H' R hi s hR => ?_) (fun L H7 nL eL sL => ?_)
    · kfm_turns
      exact hR _ (L2.Same.refl _)
    · have eL : H7 L = some (.lst [.bl false, .bl false, .bl false, .bl true, .bl false, .bl false]) := eL
      kpt_turns
      apply c_neTold
      (focus tb_rel); (focus tb_rel); (focus tb_rel); (focus tb_rel)
      kfm_turns
      refine half2 fk ?_ ?_ ?_ ok q
      · kct_strs
      · tb_rel
      · tb_rel
  | 4, _ =>
    obtain ⟨f1, f2, f3, f4, f5, f6, _⟩ := fk.1 "differs" (by decide)
    refine as_yes f1 fun e he => ?_
    kfm_turns
    refine r_isF f2 (.inr ⟨_, _, rfl, ed⟩) f5 ?_
    kfm_turns
    refine r_isF f2 (.inr ⟨_, _, rfl, ed⟩) f6 ?_
    kpt_turns
    apply r_isFd f2 (fk.is "differs" "underflow" (x := "Differs") (y := "Underflow") (b := false)); (focus tb_rel)
    kpt_turns
    apply r_isFd f2 (fk.is "differs" "empty" (x := "Differs") (y := "EmptyRegister") (b := false)); (focus tb_rel)
    kpt_turns
    apply r_isFd f2 (fk.is "differs" "overflow" (x := "Differs") (y := "Overflow") (b := false)); (focus tb_rel)
    kpt_turns
    apply r_isFd f2 (fk.is "differs" "unexpected" (x := "Differs") (y := "Unexpected") (b := false)); (focus tb_rel)
    kpt_turns
    apply r_isFd f2 (fk.is "differs" "differs" (x := "Differs") (y := "Differs") (b := true)); (focus tb_rel)
    kpt_turns
    apply r_isFd f2 (fk.is "differs" "alike" (x := "Differs") (y := "Alike") (b := false)); (focus tb_rel)
    kpt_turns
    apply Xf.snd f3; (focus tb_rel); (focus rfl); exact nsp
    kfm_turns
    apply Xf.fst f4; (focus tb_rel); (focus rfl)
    kpt_turns
    refine comp_rmap (lo := 0) (n := 6) (fun i => .bl (decide ((i : Int) = 4))) (by omega) (fun i H' R hi s hR => ?_) (fun L H7 nL eL sL => ?_)
    · kfm_turns
      exact hR _ (L2.Same.refl _)
    · have eL : H7 L = some (.lst [.bl false, .bl false, .bl false, .bl false, .bl true, .bl false]) := eL
      kpt_turns
      apply c_neTold
      (focus tb_rel); (focus tb_rel); (focus tb_rel); (focus tb_rel)
      kfm_turns
      refine half2 fk ?_ ?_ ?_ ok q
      · kct_strs
      · tb_rel
      · tb_rel
  | 5, _ =>
    obtain ⟨f1, f2, f3, f4, f5, f6, _⟩ := fk.1 "alike" (by decide)
    refine as_yes f1 fun e he => ?_
    kfm_turns
    refine r_isF f2 (.inr ⟨_, _, rfl, ed⟩) f5 ?_
    kfm_turns
    refine r_isF f2 (.inr ⟨_, _, rfl, ed⟩) f6 ?_
    kpt_turns
    apply r_isFd f2 (fk.is "alike" "underflow" (x := "Alike") (y := "Underflow") (b := false)); (focus tb_rel)
    kpt_turns
    apply r_isFd f2 (fk.is "alike" "empty" (x := "Alike") (y := "EmptyRegister") (b := false)); (focus tb_rel)
    kpt_turns
    apply r_isFd f2 (fk.is "alike" "overflow" (x := "Alike") (y := "Overflow") (b := false)); (focus tb_rel)
    kpt_turns
    apply r_isFd f2 (fk.is "alike" "unexpected" (x := "Alike") (y := "Unexpected") (b := false)); (focus tb_rel)
    kpt_turns
    apply r_isFd f2 (fk.is "alike" "differs" (x := "Alike") (y := "Differs") (b := false)); (focus tb_rel)
    kpt_turns
    apply r_isFd f2 (fk.is "alike" "alike" (x := "Alike") (y := "Alike") (b := true)); (focus tb_rel)
    kpt_turns
    apply Xf.snd f3; (focus tb_rel); (focus rfl); exact nsp
    kfm_turns
    apply Xf.fst f4; (focus tb_rel); (focus rfl)
    kpt_turns
    refine comp_rmap (lo := 0) (n := 6) (fun i => .bl (decide ((i : Int) = 5))) (by omega) (fun i H' R hi s hR => ?_) (fun L H7 nL eL sL => ?_)
    · kfm_turns
      exact hR _ (L2.Same.refl _)
    · have eL : H7 L = some (.lst [.bl false, .bl false, .bl false, .bl false, .bl false, .bl true]) := eL
      kpt_turns
      apply c_neTold
      (focus tb_rel); (focus tb_rel); (focus tb_rel); (focus tb_rel)
      kfm_turns
      refine half2 fk ?_ ?_ ?_ ok q
      · kct_strs
      · tb_rel
      · tb_rel
theorem pure_law {K : PySem.W.Frag} (fk : Fk K) (vs : List V) (H : Hp) (Q : VK) (E : XK) (h : sp_law K vs H Q E) : t_law K (He.ga K "BadInstruction") (He.ga K "Failure") (He.ga K "ReelError") (He.ga K "Underflow") (He.ga K "Unexpected") (He.ga K "Overflow") (He.ga K "EmptyRegister") (He.ga K "Alike") (He.ga K "Differs") { nx := fun _ H' => Q .non H', rt := Q } (start ["_law_script", "_law_draws", "_law_at", "_law_stack", "_law_registers", "_law_one", "_law_told", "e", "_law_refused", "_law_k"] vs) H := by
  obtain ⟨a, ns, rfl, hs, q⟩ := h
  unfold t_law
  show tSeq _ _ _ [some (.ref a), none, none, none, none, none, none, none, none, none] H
  kfm_turns
  refine Call.by ⟨a, ns, rfl, hs, fun Dw H1 _ d1 _ => ?_⟩
  kfm_turns
  refine c_draw d1 (by decide) (by decide) fun r H2 r0 r1 d2 k2 => ?_
  obtain ⟨n, rfl⟩ := Int.eq_ofNat_of_zero_le r0
  kfm_turns
  refine Call.by ⟨Dw, n, rfl, by omega, d2, fun r p p2 p5 xs rs i H3 er ep ep2 e5 cs np np2 d3 => ?_⟩
  have main : Short xs → t_law_2 K (eA K "BadInstruction") (eA K "Failure") (eA K "ReelError") (eA K "Underflow") (eA K "Unexpected") (eA K "Overflow") (eA K "EmptyRegister") (eA K "Alike") (eA K "Differs") { nx := fun _ H' => Q .non H', rt := Q } [some (.ref a), some (.ref Dw.d), some (.int n), some (.ref p), some (.ref p2), some (.ref p5), none, none, none, none] H3 := fun sh =>
    half1 fk (by omega) d3 ep ep2 e5 cs.io ⟨cs.len, cs.rl, (cs.due sh).1, cs.rg⟩ (cs.due sh).2 q
  have len := cs.len
  have txt : ∀ j v, xs[j]? = some v → ∃ z, v = V.str z ∧ z.length ≤ 100 := fun j v h => cs.txt v (List.mem_of_getElem? h)
  clear e5 cs d3 d2 d1 k2 hs fk
  by_cases h0 : xs.length = 0
  · have e : xs = [] := List.length_eq_zero_iff.mp h0
    kfm_turns
    exact main ⟨fun v h => (by rw [e] at h; cases h), fun h => (by omega), fun v h => (by rw [e] at h; cases h)⟩
  obtain ⟨v1, e1⟩ : ∃ v, xs[xs.length - 1]? = some v := ⟨_, List.getElem?_eq_getElem (by omega)⟩
  obtain ⟨v0, e0⟩ : ∃ v, xs[0]? = some v := ⟨_, List.getElem?_eq_getElem (by omega)⟩
  obtain ⟨z1, rfl, l1⟩ := txt _ _ e1
  obtain ⟨z0, rfl, l0⟩ := txt _ _ e0
  by_cases h1 : xs.length = 1
  · kfm_turns
    rename_i v h
    cases e1.symm.trans h
    kfm_turns
    refine Br.by (fun _ => ?_) fun c1 => ?_
    · kfm_turns
      exact q _
    kfm_turns
    rename_i j v e h
    obtain rfl : j = 0 := by omega
    cases e0.symm.trans h
    kfm_turns
    refine Br.by (fun _ => ?_) fun c0 => ?_
    · kfm_turns
      exact q _
    kfm_turns
    exact main ⟨fun v h => (by cases e1.symm.trans h; show z1.length ≤ 8; omega), fun h => (by omega), fun v h => (by cases e0.symm.trans h; show z0.length ≤ 8; omega)⟩
  · obtain ⟨v2, e2⟩ : ∃ v, xs[xs.length - 2]? = some v := ⟨_, List.getElem?_eq_getElem (by omega)⟩
    obtain ⟨z2, rfl, l2⟩ := txt _ _ e2
    kfm_turns
    rename_i v h
    cases e1.symm.trans h
    kfm_turns
    refine Br.by (fun _ => ?_) fun c1 => ?_
    · kfm_turns
      exact q _
    kfm_turns
    rename_i v h
    cases e2.symm.trans h
    kfm_turns
    refine Br.by (fun _ => ?_) fun c2 => ?_
    · kfm_turns
      exact q _
    kfm_turns
    rename_i j v e h
    obtain rfl : j = 0 := by omega
    cases e0.symm.trans h
    kfm_turns
    refine Br.by (fun _ => ?_) fun c0 => ?_
    · kfm_turns
      exact q _
    kfm_turns
    exact main ⟨fun v h => (by cases e1.symm.trans h; show z1.length ≤ 8; omega), fun _ v h => (by cases e2.symm.trans h; show z2.length ≤ 8; omega), fun v h => (by cases e0.symm.trans h; show z0.length ≤ 8; omega)⟩
end K02
end U
end

section
namespace U
open PySem PySem.Spec PyProof.Rows L2
namespace K02
def top (i : Nat) : Stmt := PySem.Challenge.pw_reelcode_k02_failures_are_apart.main.body.getD i (.Pass ⟨0, 0, 0, 0⟩)
abbrev s_in_range : Stmt := top 20
abbrev N_in_range : List Str := ["value", "greatest"]
theorem sc_in_range : FnScope N_in_range ["value", "greatest"] (defScope s_in_range) := ⟨rfl, rfl, rfl, by decide +kernel, rfl, by decide +kernel, by decide +kernel⟩
abbrev s_is_mark : Stmt := top 13
abbrev N_is_mark : List Str := ["value", "letter"]
theorem sc_is_mark : FnScope N_is_mark ["value"] (defScope s_is_mark) := ⟨rfl, rfl, rfl, by decide +kernel, rfl, by decide +kernel, by decide +kernel⟩
abbrev s_is_basic : Stmt := top 21
abbrev N_is_basic : List Str := ["value", "word"]
theorem sc_is_basic : FnScope N_is_basic ["value"] (defScope s_is_basic) := ⟨rfl, rfl, rfl, by decide +kernel, rfl, by decide +kernel, by decide +kernel⟩
abbrev s_BadInstruction_init : Stmt := inClass (top 10) 0
abbrev N_BadInstruction_init : List Str := ["self", "name", "index"]
theorem sc_BadInstruction_init : FnScope N_BadInstruction_init ["self", "name", "index"] (defScope s_BadInstruction_init) := ⟨rfl, rfl, rfl, by decide +kernel, rfl, by decide +kernel, by decide +kernel⟩
abbrev s_needed : Stmt := top 24
abbrev N_needed : List Str := ["instruction"]
theorem sc_needed : FnScope N_needed ["instruction"] (defScope s_needed) := ⟨rfl, rfl, rfl, by decide +kernel, rfl, by decide +kernel, by decide +kernel⟩
abbrev s_failing : Stmt := top 25
abbrev N_failing : List Str := ["state", "instruction", "word", "stack"]
theorem sc_failing : FnScope N_failing ["state", "instruction"] (defScope s_failing) := ⟨rfl, rfl, rfl, by decide +kernel, rfl, by decide +kernel, by decide +kernel⟩
abbrev s_Failure_init : Stmt := inClass (top 2) 0
abbrev N_Failure_init : List Str := ["self", "step", "path"]
theorem sc_Failure_init : FnScope N_Failure_init ["self", "step", "path"] (defScope s_Failure_init) := ⟨rfl, rfl, rfl, by decide +kernel, rfl, by decide +kernel, by decide +kernel⟩
abbrev s_fail : Stmt := top 26
abbrev N_fail : List Str := ["word", "step", "path"]
theorem sc_fail : FnScope N_fail ["word", "step", "path"] (defScope s_fail) := ⟨rfl, rfl, rfl, by decide +kernel, rfl, by decide +kernel, by decide +kernel⟩
abbrev s_State_init : Stmt := inClass (top 14) 2
abbrev N_State_init : List Str := ["self", "stack", "registers", "mark"]
theorem sc_State_init : FnScope N_State_init ["self", "stack", "registers"] (defScope s_State_init) := ⟨rfl, rfl, rfl, by decide +kernel, rfl, by decide +kernel, by decide +kernel⟩
abbrev s_moved : Stmt := top 27
abbrev N_moved : List Str := ["state", "instruction", "word", "stack", "registers", "written"]
theorem sc_moved : FnScope N_moved ["state", "instruction"] (defScope s_moved) := ⟨rfl, rfl, rfl, by decide +kernel, rfl, by decide +kernel, by decide +kernel⟩
abbrev s_execute : Stmt := top 28
abbrev N_execute : List Str := ["state", "instruction", "word"]
theorem sc_execute : FnScope N_execute ["state", "instruction"] (defScope s_execute) := ⟨rfl, rfl, rfl, by decide +kernel, rfl, by decide +kernel, by decide +kernel⟩
abbrev s__law_draw : Stmt := top 31
abbrev N__law_draw : List Str := ["_law_draws", "_law_many", "_law_cell", "_law_found"]
theorem sc__law_draw : FnScope N__law_draw ["_law_draws", "_law_many"] (defScope s__law_draw) := ⟨rfl, rfl, rfl, by decide +kernel, rfl, by decide +kernel, by decide +kernel⟩
abbrev s__law_strange : Stmt := top 34
abbrev N__law_strange : List Str := ["_law_draws", "_law_rows"]
theorem sc__law_strange : FnScope N__law_strange ["_law_draws"] (defScope s__law_strange) := ⟨rfl, rfl, rfl, by decide +kernel, rfl, by decide +kernel, by decide +kernel⟩
abbrev s__law_begin : Stmt := top 30
abbrev N__law_begin : List Str := ["_law_script"]
theorem sc__law_begin : FnScope N__law_begin ["_law_script"] (defScope s__law_begin) := ⟨rfl, rfl, rfl, by decide +kernel, rfl, by decide +kernel, by decide +kernel⟩
abbrev s__law_mark : Stmt := top 32
abbrev N__law_mark : List Str := ["_law_draws", "_law_forms", "_law_at", "_law_letters", "_law_size", "_law_k"]
theorem sc__law_mark : FnScope N__law_mark ["_law_draws"] (defScope s__law_mark) := ⟨rfl, rfl, rfl, by decide +kernel, rfl, by decide +kernel, by decide +kernel⟩
abbrev s__law_case : Stmt := top 33
abbrev N__law_case : List Str := ["_law_draws", "_law_at", "_law_one", "_law_many", "_law_empty", "_law_depth", "_law_word", "_law_last", "_law_k"]
theorem sc__law_case : FnScope N__law_case ["_law_draws", "_law_at"] (defScope s__law_case) := ⟨rfl, rfl, rfl, by decide +kernel, rfl, by decide +kernel, by decide +kernel⟩
abbrev s_law : Stmt := top 35
abbrev N_law : List Str := ["_law_script", "_law_draws", "_law_at", "_law_stack", "_law_registers", "_law_one", "_law_told", "e", "_law_refused", "_law_k"]
theorem sc_law : FnScope N_law ["_law_script"] (defScope s_law) := ⟨rfl, rfl, rfl, by decide +kernel, rfl, by decide +kernel, by decide +kernel⟩
section
variable {P : Program} {w : World} {K : PySem.W.Frag} {mg : Str → Option Value} {base : Heap} {f : Addr} {fd : FuncData}
theorem ok_in_range (F : FunD K "in_range" "in_range" (defArgs s_in_range) (defBody s_in_range) (defScope s_in_range) [] [] f fd) (z_isinstance : mg "isinstance" = none) (z_int : mg "int" = none) (z_bool : mg "bool" = none) : FnOk P w K mg base CX0 1 f fd ["value", "greatest"] (sp_in_range K) := by
  have nd := sc_in_range.nd
  refine F.ok sc_in_range (fun vs H Q E h => ?_) (fun cdv A outer s H vs Q E hr h => ⟨t_in_range K, PSs.nox ?_, pure_in_range vs H Q E h⟩)
  · first | exact len_in_range vs H Q E h | exact len_gen vs H Q E h | (obtain ⟨_, _, rfl, _⟩ := h; rfl)
  · exact (pss_one (ps_ret (pe_and (pe_callB (call_isiU (c := .int) (by decide)) (by rfl) z_isinstance boot_isinstance (pa_cons (pe_uVar 0) (pa_cons (pe_bltn (v := .ty "int") (by rfl) z_int (by decide +kernel) rfl) pa_nil))) (pe_and (pe_not (pe_callB (call_isiU (c := .bl) (by decide)) (by rfl) z_isinstance boot_isinstance (pa_cons (pe_uVar 0) (pa_cons (pe_bltn (v := .ty "bool") (by rfl) z_bool (by decide +kernel) rfl) pa_nil)))) (pe_one (pe_chain op_leU op_leU pe_int (pe_uVar 0) (pe_uVar 1)))))))
theorem bd_in_range (F : FunD K "in_range" "in_range" (defArgs s_in_range) (defBody s_in_range) (defScope s_in_range) [] [] f fd) : Binds K fd ["value", "greatest"] [] := (F.bindsN fun _ _ _ _ _ _ us hl => match us, hl with | [_, _], _ => rfl)
theorem cal_in_range (F : FunD K "in_range" "in_range" (defArgs s_in_range) (defBody s_in_range) (defScope s_in_range) [] [] f fd) (hm : mg "in_range" = some (.ref f)) (k : FnOk P w K mg base CX0 1 f fd ["value", "greatest"] (sp_in_range K)) : Callee P w K mg base CX0 1 "in_range" ["value", "greatest"] [] (sp_in_range K) :=
  ⟨f, fd, [], hm, k, F.kp, bd_in_range F, .nil⟩
theorem ok_is_mark (F : FunD K "is_mark" "is_mark" (defArgs s_is_mark) (defBody s_is_mark) (defScope s_is_mark) [] [] f fd) (z_isinstance : mg "isinstance" = none) (z_str : mg "str" = none) (z_len : mg "len" = none) (hc_LETTERS : ∃ t, mg "LETTERS" = some (.str "abcdefghijklmnopqrstuvwxyz" t)) : FnOk P w K mg base CX0 1 f fd ["value"] (sp_is_mark K) := by
  have nd := sc_is_mark.nd
  obtain ⟨_, hc_LETTERS⟩ := hc_LETTERS
  refine F.ok sc_is_mark (fun vs H Q E h => ?_) (fun cdv A outer s H vs Q E hr h => ⟨t_is_mark K, PSs.nox ?_, pure_is_mark vs H Q E h⟩)
  · first | exact len_is_mark vs H Q E h | exact len_gen vs H Q E h | (obtain ⟨_, _, rfl, _⟩ := h; rfl)
  · exact (pss_cons (ps_if (PW.pt (pw_or (pt_not (pt_uTru (pe_callB (call_isiU (c := .str) (by decide)) (by rfl) z_isinstance boot_isinstance (pa_cons (pe_uVar 0) (pa_cons (pe_bltn (v := .ty "str") (by rfl) z_str (by decide +kernel) rfl) pa_nil))))) (pw_or1 (pt_not (pt_chain op_leU op_leU pe_int (pe_callB call_lenU (by rfl) z_len (by decide +kernel) (pa_cons (pe_uVar 0) pa_nil)) pe_int))))) (pss_one (ps_ret pe_bl)) pss_nil) (pss_cons (ps_for PassesOwn.never rfl (pi_U (pe_uVar 0)) (pg_name (i := 1) nd rfl (Or.inl rfl)) (pss_one (ps_if (pt_cmpR (op_notInU) (pe_uVar 1) (pe_glob (by rfl) hc_LETTERS ⟨_, rfl⟩) rfl) (pss_one (ps_ret pe_bl)) pss_nil))) (pss_one (ps_ret pe_bl))))
theorem bd_is_mark (F : FunD K "is_mark" "is_mark" (defArgs s_is_mark) (defBody s_is_mark) (defScope s_is_mark) [] [] f fd) : Binds K fd ["value"] [] := (F.bindsN fun _ _ _ _ _ _ us hl => match us, hl with | [_], _ => rfl)
theorem cal_is_mark (F : FunD K "is_mark" "is_mark" (defArgs s_is_mark) (defBody s_is_mark) (defScope s_is_mark) [] [] f fd) (hm : mg "is_mark" = some (.ref f)) (k : FnOk P w K mg base CX0 1 f fd ["value"] (sp_is_mark K)) : Callee P w K mg base CX0 1 "is_mark" ["value"] [] (sp_is_mark K) :=
  ⟨f, fd, [], hm, k, F.kp, bd_is_mark F, .nil⟩
theorem ok_is_basic (F : FunD K "is_basic" "is_basic" (defArgs s_is_basic) (defBody s_is_basic) (defScope s_is_basic) [] [] f fd) (z_isinstance : mg "isinstance" = none) (z_tuple : mg "tuple" = none) (z_len : mg "len" = none) (z_str : mg "str" = none) {a_PLAIN : Addr} (hm_PLAIN : mg "PLAIN" = some (.ref a_PLAIN)) (hx_PLAIN : ∀ H, SqT K H a_PLAIN [.str "drop", .str "emit", .str "same", .str "differ"]) {a_DEPTHS : Addr} (hm_DEPTHS : mg "DEPTHS" = some (.ref a_DEPTHS)) (hx_DEPTHS : ∀ H, SqT K H a_DEPTHS [.str "pick", .str "roll"]) (hm_State : mg "State" = some (.ref (He.ga K "State"))) (hk_State_HEIGHT : ClX.CRead K (He.ga K "State") (.type "type") ∧ ∃ u, ClX.CVal K (He.ga K "State") (.type "type") "HEIGHT" (.int 24) u) {a_STORES : Addr} (hm_STORES : mg "STORES" = some (.ref a_STORES)) (hx_STORES : ∀ H, SqT K H a_STORES [.str "keep", .str "load"]) (hk_State_REGISTERS : ClX.CRead K (He.ga K "State") (.type "type") ∧ ∃ u, ClX.CVal K (He.ga K "State") (.type "type") "REGISTERS" (.int 4) u) {a_MARKED : Addr} (hm_MARKED : mg "MARKED" = some (.ref a_MARKED)) (hx_MARKED : ∀ H, SqT K H a_MARKED [.str "push", .str "expect"]) (c_in_range : Callee P w K mg base CX0 1 "in_range" ["value", "greatest"] [] (sp_in_range K)) (c_is_mark : Callee P w K mg base CX0 1 "is_mark" ["value"] [] (sp_is_mark K)) : FnOk P w K mg base CX0 2 f fd ["value"] (sp_is_basic K) := by
  have nd := sc_is_basic.nd
  have hf_PLAIN : [V.str "drop", V.str "emit", V.str "same", V.str "differ"].all flatV = true := rfl
  have hf_DEPTHS : [V.str "pick", V.str "roll"].all flatV = true := rfl
  have hf_STORES : [V.str "keep", V.str "load"].all flatV = true := rfl
  have hf_MARKED : [V.str "push", V.str "expect"].all flatV = true := rfl
  refine F.ok sc_is_basic (fun vs H Q E h => ?_) (fun cdv A outer s H vs Q E hr h => ⟨t_is_basic K a_PLAIN a_DEPTHS a_STORES a_MARKED, PSs.nox ?_, pure_is_basic vs H Q E h⟩)
  · first | exact len_is_basic vs H Q E h | exact len_gen vs H Q E h | (obtain ⟨_, _, rfl, _⟩ := h; rfl)
  · exact (pss_cons (ps_if (PW.pt (pw_or (pt_not (pt_uTru (pe_callB (call_isiU (c := .tup) (by decide)) (by rfl) z_isinstance boot_isinstance (pa_cons (pe_uVar 0) (pa_cons (pe_bltn (v := .ty "tuple") (by rfl) z_tuple (by decide +kernel) rfl) pa_nil))))) (pw_or (pt_not (pt_chain op_leU op_leU pe_int (pe_callB call_lenU (by rfl) z_len (by decide +kernel) (pa_cons (pe_uVar 0) pa_nil)) pe_int)) (pw_or1 (pt_not (pt_uTru (pe_callB (call_isiU (c := .str) (by decide)) (by rfl) z_isinstance boot_isinstance (pa_cons (pe_ix ix_U (pe_uVar 0) pe_int (fun _ _ => rfl)) (pa_cons (pe_bltn (v := .ty "str") (by rfl) z_str (by decide +kernel) rfl) pa_nil))))))))) (pss_one (ps_ret pe_bl)) pss_nil) (pss_cons (ps_set (i := 1) nd rfl (Or.inl rfl) (pe_ix ix_U (pe_uVar 0) pe_int (fun _ _ => rfl))) (pss_cons (ps_if (pt_cmpR (op_eqS) (pe_callB call_lenU (by rfl) z_len (by decide +kernel) (pa_cons (pe_uVar 0) pa_nil)) pe_int (nomark _)) (pss_one (ps_ret (pe_cmpR (op_inG hx_PLAIN hf_PLAIN) (pe_uVar 1) (pe_glob (v := .ref a_PLAIN) (by rfl) hm_PLAIN rfl) rfl))) pss_nil) (pss_cons (ps_if (pt_cmpR (op_inG hx_DEPTHS hf_DEPTHS) (pe_uVar 1) (pe_glob (v := .ref a_DEPTHS) (by rfl) hm_DEPTHS rfl) rfl) (pss_one (ps_ret (pe_cal c_in_range (hr.mono (by decide)) (pa_cons (pe_ix ix_U (pe_uVar 0) pe_int (fun _ _ => rfl)) (pa_cons (pe_op op_subU (pe_uCon (by rfl) hm_State hk_State_HEIGHT) pe_int) pa_nil))))) pss_nil) (pss_cons (ps_if (pt_cmpR (op_inG hx_STORES hf_STORES) (pe_uVar 1) (pe_glob (v := .ref a_STORES) (by rfl) hm_STORES rfl) rfl) (pss_one (ps_ret (pe_cal c_in_range (hr.mono (by decide)) (pa_cons (pe_ix ix_U (pe_uVar 0) pe_int (fun _ _ => rfl)) (pa_cons (pe_op op_subU (pe_uCon (by rfl) hm_State hk_State_REGISTERS) pe_int) pa_nil))))) pss_nil) (pss_one (ps_ret (pe_and (pe_cmpR (op_inG hx_MARKED hf_MARKED) (pe_uVar 1) (pe_glob (v := .ref a_MARKED) (by rfl) hm_MARKED rfl) rfl) (pe_one (pe_cal c_is_mark (hr.mono (by decide)) (pa_cons (pe_ix ix_U (pe_uVar 0) pe_int (fun _ _ => rfl)) pa_nil)))))))))))
theorem bd_is_basic (F : FunD K "is_basic" "is_basic" (defArgs s_is_basic) (defBody s_is_basic) (defScope s_is_basic) [] [] f fd) : Binds K fd ["value"] [] := (F.bindsN fun _ _ _ _ _ _ us hl => match us, hl with | [_], _ => rfl)
theorem cal_is_basic (F : FunD K "is_basic" "is_basic" (defArgs s_is_basic) (defBody s_is_basic) (defScope s_is_basic) [] [] f fd) (hm : mg "is_basic" = some (.ref f)) (k : FnOk P w K mg base CX0 2 f fd ["value"] (sp_is_basic K)) : Callee P w K mg base CX0 2 "is_basic" ["value"] [] (sp_is_basic K) :=
  ⟨f, fd, [], hm, k, F.kp, bd_is_basic F, .nil⟩
theorem ok_BadInstruction_init (F : FunD K "__init__" "BadInstruction.__init__" (defArgs s_BadInstruction_init) (defBody s_BadInstruction_init) (defScope s_BadInstruction_init) [] [] f fd)  : FnOk P w K mg base CX0 1 f fd ["self", "name", "index"] (sp_BadInstruction_init K) := by
  have nd := sc_BadInstruction_init.nd
  refine F.ok sc_BadInstruction_init (fun vs H Q E h => ?_) (fun cdv A outer s H vs Q E hr h => ⟨t_BadInstruction_init K, PSs.nox ?_, pure_BadInstruction_init vs H Q E h⟩)
  · first | exact len_BadInstruction_init vs H Q E h | exact len_gen vs H Q E h | (obtain ⟨_, _, rfl, _⟩ := h; rfl)
  · exact (pss_cons (ps_ost (pe_uVar 0) (pe_uVar 1)) (pss_one (ps_ost (pe_uVar 0) (pe_uVar 2))))
theorem bd_BadInstruction_init (F : FunD K "__init__" "BadInstruction.__init__" (defArgs s_BadInstruction_init) (defBody s_BadInstruction_init) (defScope s_BadInstruction_init) [] [] f fd) : Binds K fd ["self", "name", "index"] [] := (F.bindsN fun _ _ _ _ _ _ us hl => match us, hl with | [_, _, _], _ => rfl)
theorem ok_needed (F : FunD K "needed" "needed" (defArgs s_needed) (defBody s_needed) (defScope s_needed) [] [] f fd) (hm_NEEDED : mg "NEEDED" = some (.ref (He.ga K "NEEDED"))) (hd_NEEDED : ∃ es n, KDict K w (He.ga K "NEEDED") es n) (hv_NEEDED : ∀ z v, (z, v) ∈ ([("push", .int 0), ("drop", .int 1), ("keep", .int 1), ("load", .int 0), ("emit", .int 1), ("expect", .int 1), ("same", .int 2), ("differ", .int 2)] : List (Str × V)) → ∃ u, PySem.W.nsIn K (He.ga K "NEEDED") z = some (some u) ∧ RelV v u) : FnOk P w K mg base CX0 1 f fd ["instruction"] (sp_needed K) := by
  have nd := sc_needed.nd
  refine F.ok sc_needed (fun vs H Q E h => ?_) (fun cdv A outer s H vs Q E hr h => ⟨t_needed K, PSs.nox ?_, pure_needed vs H Q E h⟩)
  · first | exact len_needed vs H Q E h | exact len_gen vs H Q E h | (obtain ⟨_, _, rfl, _⟩ := h; rfl)
  · exact (pss_cons (ps_if (PW.pt (pw_or (pt_cmpR (op_eqS) (pe_ix ix_U (pe_uVar 0) pe_int (fun _ _ => rfl)) pe_str (nomark _)) (pw_or1 (pt_cmpR (op_eqS) (pe_ix ix_U (pe_uVar 0) pe_int (fun _ _ => rfl)) pe_str (nomark _))))) (pss_one (ps_ret (pe_op op_addI (pe_ix ix_U (pe_uVar 0) pe_int (fun _ _ => rfl)) pe_int))) pss_nil) (pss_one (ps_ret (pe_ix (ix_cd hd_NEEDED hv_NEEDED) (pe_glob (v := .ref (He.ga K "NEEDED")) (by rfl) hm_NEEDED rfl) (pe_ix ix_U (pe_uVar 0) pe_int (fun _ _ => rfl)) (fun _ _ => rfl)))))
theorem bd_needed (F : FunD K "needed" "needed" (defArgs s_needed) (defBody s_needed) (defScope s_needed) [] [] f fd) : Binds K fd ["instruction"] [] := (F.bindsN fun _ _ _ _ _ _ us hl => match us, hl with | [_], _ => rfl)
theorem cal_needed (F : FunD K "needed" "needed" (defArgs s_needed) (defBody s_needed) (defScope s_needed) [] [] f fd) (hm : mg "needed" = some (.ref f)) (k : FnOk P w K mg base CX0 1 f fd ["instruction"] (sp_needed K)) : Callee P w K mg base CX0 1 "needed" ["instruction"] [] (sp_needed K) :=
  ⟨f, fd, [], hm, k, F.kp, bd_needed F, .nil⟩
theorem ok_failing (F : FunD K "failing" "failing" (defArgs s_failing) (defBody s_failing) (defScope s_failing) [] [] f fd) (cl_State : Cls K (He.ga K "State")) (na_State_stack : NoAttr K (He.ga K "State") "stack") (z_len : mg "len" = none) (na_State_registers : NoAttr K (He.ga K "State") "registers") (hm_State : mg "State" = some (.ref (He.ga K "State"))) (hk_State_HEIGHT : ClX.CRead K (He.ga K "State") (.type "type") ∧ ∃ u, ClX.CVal K (He.ga K "State") (.type "type") "HEIGHT" (.int 24) u) (c_needed : Callee P w K mg base CX0 1 "needed" ["instruction"] [] (sp_needed K)) : FnOk P w K mg base CX0 2 f fd ["state", "instruction"] (sp_failing K) := by
  have nd := sc_failing.nd
  refine F.ok sc_failing (fun vs H Q E h => ?_) (fun cdv A outer s H vs Q E hr h => ⟨t_failing K (He.ga K "State"), PSs.nox ?_, pure_failing vs H Q E h⟩)
  · first | exact len_failing vs H Q E h | exact len_gen vs H Q E h | (obtain ⟨_, _, rfl, _⟩ := h; rfl)
  · exact (pss_cons (ps_set (i := 2) nd rfl (Or.inl rfl) (pe_ix ix_U (pe_uVar 1) pe_int (fun _ _ => rfl))) (pss_cons (ps_set (i := 3) nd rfl (Or.inl rfl) (pe_uFld cl_State na_State_stack (pe_uVar 0))) (pss_cons (ps_if (pt_cmpR (op_ltU) (pe_callB call_lenU (by rfl) z_len (by decide +kernel) (pa_cons (pe_uVar 3) pa_nil)) (pe_cal c_needed (hr.mono (by decide)) (pa_cons (pe_uVar 1) pa_nil)) (nomark _)) (pss_one (ps_ret pe_str)) pss_nil) (pss_cons (ps_if (PW.pt (pw_and (pt_cmpR (op_eqS) (pe_uVar 2) pe_str (nomark _)) (pw_and1 (pt_cmpR (op_isNU) (pe_ix ix_U (pe_uFld cl_State na_State_registers (pe_uVar 0)) (pe_ix ix_U (pe_uVar 1) pe_int (fun _ _ => rfl)) (fun _ _ => rfl)) pe_non (nomark _))))) (pss_one (ps_ret pe_str)) pss_nil) (pss_cons (ps_if (PW.pt (pw_and (pt_cmpR (op_inU) (pe_uVar 2) (pe_tup (pa_cons pe_str (pa_cons pe_str (pa_cons pe_str pa_nil)))) rfl) (pw_and1 (pt_cmpR (op_eqS) (pe_callB call_lenU (by rfl) z_len (by decide +kernel) (pa_cons (pe_uVar 3) pa_nil)) (pe_uCon (by rfl) hm_State hk_State_HEIGHT) (nomark _))))) (pss_one (ps_ret pe_str)) pss_nil) (pss_cons (ps_if (PW.pt (pw_and (pt_cmpR (op_eqS) (pe_uVar 2) pe_str (nomark _)) (pw_and1 (pt_cmpR (op_neS) (pe_ix ix_U (pe_uVar 3) (pe_un un_neg pe_int) (fun _ _ => rfl)) (pe_ix ix_U (pe_uVar 1) pe_int (fun _ _ => rfl)) (nomark _))))) (pss_one (ps_ret pe_str)) pss_nil) (pss_cons (ps_if (PW.pt (pw_and (pt_cmpR (op_eqS) (pe_uVar 2) pe_str (nomark _)) (pw_and1 (pt_cmpR (op_neS) (pe_ix ix_U (pe_uVar 3) (pe_un un_neg pe_int) (fun _ _ => rfl)) (pe_ix ix_U (pe_uVar 3) (pe_un un_neg pe_int) (fun _ _ => rfl)) (nomark _))))) (pss_one (ps_ret pe_str)) pss_nil) (pss_cons (ps_if (PW.pt (pw_and (pt_cmpR (op_eqS) (pe_uVar 2) pe_str (nomark _)) (pw_and1 (pt_cmpR (op_eqS) (pe_ix ix_U (pe_uVar 3) (pe_un un_neg pe_int) (fun _ _ => rfl)) (pe_ix ix_U (pe_uVar 3) (pe_un un_neg pe_int) (fun _ _ => rfl)) (nomark _))))) (pss_one (ps_ret pe_str)) pss_nil) (pss_one (ps_ret pe_non))))))))))
theorem bd_failing (F : FunD K "failing" "failing" (defArgs s_failing) (defBody s_failing) (defScope s_failing) [] [] f fd) : Binds K fd ["state", "instruction"] [] := (F.bindsN fun _ _ _ _ _ _ us hl => match us, hl with | [_, _], _ => rfl)
theorem cal_failing (F : FunD K "failing" "failing" (defArgs s_failing) (defBody s_failing) (defScope s_failing) [] [] f fd) (hm : mg "failing" = some (.ref f)) (k : FnOk P w K mg base CX0 2 f fd ["state", "instruction"] (sp_failing K)) : Callee P w K mg base CX0 2 "failing" ["state", "instruction"] [] (sp_failing K) :=
  ⟨f, fd, [], hm, k, F.kp, bd_failing F, .nil⟩
theorem ok_Failure_init (F : FunD K "__init__" "Failure.__init__" (defArgs s_Failure_init) (defBody s_Failure_init) (defScope s_Failure_init) [] [] f fd)  : FnOk P w K mg base CX0 1 f fd ["self", "step", "path"] (sp_Failure_init K) := by
  have nd := sc_Failure_init.nd
  refine F.ok sc_Failure_init (fun vs H Q E h => ?_) (fun cdv A outer s H vs Q E hr h => ⟨t_Failure_init K, PSs.nox ?_, pure_Failure_init vs H Q E h⟩)
  · first | exact len_Failure_init vs H Q E h | exact len_gen vs H Q E h | (obtain ⟨_, _, rfl, _⟩ := h; rfl)
  · exact (pss_cons (ps_ost (pe_uVar 0) (pe_uVar 1)) (pss_one (ps_ost (pe_uVar 0) (pe_uVar 2))))
theorem bd_Failure_init (F : FunD K "__init__" "Failure.__init__" (defArgs s_Failure_init) (defBody s_Failure_init) (defScope s_Failure_init) [] [] f fd) : Binds K fd ["self", "step", "path"] [] := (F.bindsN fun _ _ _ _ _ _ us hl => match us, hl with | [_, _, _], _ => rfl)
theorem ok_fail (F : FunD K "fail" "fail" (defArgs s_fail) (defBody s_fail) (defScope s_fail) [] [] f fd) (ox_Underflow : OxC P w K mg base 1 "Underflow" (He.ga K "Underflow") (sp_Failure_init K)) (hm_Underflow : mg "Underflow" = some (.ref (He.ga K "Underflow"))) (ox_EmptyRegister : OxC P w K mg base 1 "EmptyRegister" (He.ga K "EmptyRegister") (sp_Failure_init K)) (hm_EmptyRegister : mg "EmptyRegister" = some (.ref (He.ga K "EmptyRegister"))) (ox_Overflow : OxC P w K mg base 1 "Overflow" (He.ga K "Overflow") (sp_Failure_init K)) (hm_Overflow : mg "Overflow" = some (.ref (He.ga K "Overflow"))) (ox_Unexpected : OxC P w K mg base 1 "Unexpected" (He.ga K "Unexpected") (sp_Failure_init K)) (hm_Unexpected : mg "Unexpected" = some (.ref (He.ga K "Unexpected"))) (ox_Differs : OxC P w K mg base 1 "Differs" (He.ga K "Differs") (sp_Failure_init K)) (hm_Differs : mg "Differs" = some (.ref (He.ga K "Differs"))) (ox_Alike : OxC P w K mg base 1 "Alike" (He.ga K "Alike") (sp_Failure_init K)) (hm_Alike : mg "Alike" = some (.ref (He.ga K "Alike"))) (fx : Fx K) : FnOk P w K mg base (L2.CX P w) 3 f fd ["word", "step", "path"] (sp_fail K) := by
  have nd := sc_fail.nd
  refine F.ok sc_fail (fun vs H Q E h => ?_) (fun cdv A outer s H vs Q E hr h => ⟨t_fail K (He.ga K "Underflow") (He.ga K "EmptyRegister") (He.ga K "Overflow") (He.ga K "Unexpected") (He.ga K "Differs") (He.ga K "Alike") E, ?_, pure_fail fx vs H Q E h⟩)
  · first | exact len_fail vs H Q E h | exact len_gen vs H Q E h | (obtain ⟨_, _, rfl, _⟩ := h; rfl)
  · refine withTk (takes_of rfl rfl rfl rfl) fun tk => ?_
    exact (pss_cons (ps_if (pt_cmpR (op_eqS) (pe_uVar 0) pe_str (nomark _)) (pss_one (ps_raiseO ox_Underflow (hr.mono (by decide)) tk (pa_cons (pe_uVar 1) (pa_cons (pe_uVar 2) pa_nil)))) pss_nil) (pss_cons (ps_if (pt_cmpR (op_eqS) (pe_uVar 0) pe_str (nomark _)) (pss_one (ps_raiseO ox_EmptyRegister (hr.mono (by decide)) tk (pa_cons (pe_uVar 1) (pa_cons (pe_uVar 2) pa_nil)))) pss_nil) (pss_cons (ps_if (pt_cmpR (op_eqS) (pe_uVar 0) pe_str (nomark _)) (pss_one (ps_raiseO ox_Overflow (hr.mono (by decide)) tk (pa_cons (pe_uVar 1) (pa_cons (pe_uVar 2) pa_nil)))) pss_nil) (pss_cons (ps_if (pt_cmpR (op_eqS) (pe_uVar 0) pe_str (nomark _)) (pss_one (ps_raiseO ox_Unexpected (hr.mono (by decide)) tk (pa_cons (pe_uVar 1) (pa_cons (pe_uVar 2) pa_nil)))) pss_nil) (pss_cons (ps_if (pt_cmpR (op_eqS) (pe_uVar 0) pe_str (nomark _)) (pss_one (ps_raiseO ox_Differs (hr.mono (by decide)) tk (pa_cons (pe_uVar 1) (pa_cons (pe_uVar 2) pa_nil)))) pss_nil) (pss_one (ps_raiseO ox_Alike (hr.mono (by decide)) tk (pa_cons (pe_uVar 1) (pa_cons (pe_uVar 2) pa_nil)))))))))
theorem bd_fail (F : FunD K "fail" "fail" (defArgs s_fail) (defBody s_fail) (defScope s_fail) [] [] f fd) : Binds K fd ["word", "step", "path"] [] := (F.bindsN fun _ _ _ _ _ _ us hl => match us, hl with | [_, _, _], _ => rfl)
theorem ok_State_init (F : FunD K "__init__" "State.__init__" (defArgs s_State_init) (defBody s_State_init) (defScope s_State_init) [] [] f fd) (z_len : mg "len" = none) (hm_State : mg "State" = some (.ref (He.ga K "State"))) (hk_State_HEIGHT : ClX.CRead K (He.ga K "State") (.type "type") ∧ ∃ u, ClX.CVal K (He.ga K "State") (.type "type") "HEIGHT" (.int 24) u) (hk_State_REGISTERS : ClX.CRead K (He.ga K "State") (.type "type") ∧ ∃ u, ClX.CVal K (He.ga K "State") (.type "type") "REGISTERS" (.int 4) u) (hm_BadState : mg "BadState" = some (.ref (He.ga K "BadState"))) (er_BadState : ErrC K (He.ga K "BadState")) (cl_State : Cls K (He.ga K "State")) (na_State_stack : NoAttr K (He.ga K "State") "stack") (z_tuple : mg "tuple" = none) (na_State_registers : NoAttr K (He.ga K "State") "registers") (c_is_mark : Callee P w K mg base CX0 1 "is_mark" ["value"] [] (sp_is_mark K)) : FnOk P w K mg base (L2.CX P w) 2 f fd ["self", "stack", "registers"] (sp_State_init K) := by
  have nd := sc_State_init.nd
  refine F.ok sc_State_init (fun vs H Q E h => ?_) (fun cdv A outer s H vs Q E hr h => ⟨t_State_init K (He.ga K "BadState") (He.ga K "State") E, ?_, pure_State_init vs H Q E h⟩)
  · first | exact len_State_init vs H Q E h | exact len_gen vs H Q E h | (obtain ⟨_, _, rfl, _⟩ := h; rfl)
  · refine withTk (takes_of rfl rfl rfl rfl) fun tk => ?_
    exact (pss_cons (ps_if (PW.pt (pw_or (pt_cmpR (op_gtU) (pe_callB call_lenU (by rfl) z_len (by decide +kernel) (pa_cons (pe_uVar 1) pa_nil)) (pe_uCon (by rfl) hm_State hk_State_HEIGHT) (nomark _)) (pw_or1 (pt_cmpR (op_neS) (pe_callB call_lenU (by rfl) z_len (by decide +kernel) (pa_cons (pe_uVar 2) pa_nil)) (pe_uCon (by rfl) hm_State hk_State_REGISTERS) (nomark _))))) (pss_one (ps_raise0 er_BadState hm_BadState tk)) pss_nil) (pss_cons (ps_for (passes_of rfl) rfl (pi_U (pe_uVar 1)) (pg_name (i := 3) nd rfl (Or.inl rfl)) (pss_one (ps_if (pt_not (pt_uTru (pe_cal c_is_mark (hr.mono (by decide)) (pa_cons (pe_uVar 3) pa_nil)))) (pss_one (ps_raise0 er_BadState hm_BadState tk)) pss_nil))) (pss_cons (ps_for (passes_of rfl) rfl (pi_U (pe_uVar 2)) (pg_name (i := 3) nd rfl (Or.inl rfl)) (pss_one (ps_if (PW.pt (pw_and (pt_cmpR (op_notNU) (pe_uVar 3) pe_non (nomark _)) (pw_and1 (pt_not (pt_uTru (pe_cal c_is_mark (hr.mono (by decide)) (pa_cons (pe_uVar 3) pa_nil))))))) (pss_one (ps_raise0 er_BadState hm_BadState tk)) pss_nil))) (pss_cons (ps_uSetF cl_State na_State_stack (pe_uVar 0) (pe_callTy call_tupleU (by rfl) z_tuple (by decide +kernel) (pa_cons (pe_uVar 1) pa_nil))) (pss_one (ps_uSetF cl_State na_State_registers (pe_uVar 0) (pe_callTy call_tupleU (by rfl) z_tuple (by decide +kernel) (pa_cons (pe_uVar 2) pa_nil))))))))
theorem bd_State_init (F : FunD K "__init__" "State.__init__" (defArgs s_State_init) (defBody s_State_init) (defScope s_State_init) [] [] f fd) : Binds K fd ["self", "stack", "registers"] [] := (F.bindsN fun _ _ _ _ _ _ us hl => match us, hl with | [_, _, _], _ => rfl)
theorem ok_moved (F : FunD K "moved" "moved" (defArgs s_moved) (defBody s_moved) (defScope s_moved) [] [] f fd) (z_list : mg "list" = none) (cl_State : Cls K (He.ga K "State")) (na_State_stack : NoAttr K (He.ga K "State") "stack") (na_State_registers : NoAttr K (He.ga K "State") "registers") (c_State : CalX P w K mg base 3 "State" (sp_State K)) : FnOk P w K mg base (L2.CX P w) 4 f fd ["state", "instruction"] (sp_moved K) := by
  have nd := sc_moved.nd
  refine F.ok sc_moved (fun vs H Q E h => ?_) (fun cdv A outer s H vs Q E hr h => ⟨t_moved K (He.ga K "State") E, ?_, pure_moved vs H Q E h⟩)
  · first | exact len_moved vs H Q E h | exact len_gen vs H Q E h | (obtain ⟨_, _, rfl, _⟩ := h; rfl)
  · refine withTk (takes_of rfl rfl rfl rfl) fun tk => ?_
    exact (pss_cons (ps_set (i := 2) nd rfl (Or.inl rfl) (pe_ix ix_U (pe_uVar 1) pe_int (fun _ _ => rfl))) (pss_cons (ps_set (i := 3) nd rfl (Or.inl rfl) (pe_callTy call_listU (by rfl) z_list (by decide +kernel) (pa_cons (pe_uFld cl_State na_State_stack (pe_uVar 0)) pa_nil))) (pss_cons (ps_set (i := 4) nd rfl (Or.inl rfl) (pe_callTy call_listU (by rfl) z_list (by decide +kernel) (pa_cons (pe_uFld cl_State na_State_registers (pe_uVar 0)) pa_nil))) (pss_cons (ps_set (i := 5) nd rfl (Or.inl rfl) pe_non) (pss_cons (ps_if (pt_cmpR (op_eqS) (pe_uVar 2) pe_str (nomark _)) (pss_one (ps_expr (pe_bm PySem.F.plainAttrs_list PySem.F.slot_list_append PySem.F.type_list_append mt_append (pe_uVar 3) (pa_cons (pe_ix ix_U (pe_uVar 1) pe_int (fun _ _ => rfl)) pa_nil)))) (pss_one (ps_if (pt_cmpR (op_eqS) (pe_uVar 2) pe_str (nomark _)) (pss_one (ps_expr (pe_bm PySem.F.plainAttrs_list PySem.F.slot_list_append PySem.F.type_list_append mt_append (pe_uVar 3) (pa_cons (pe_ix ix_U (pe_uVar 4) (pe_ix ix_U (pe_uVar 1) pe_int (fun _ _ => rfl)) (fun _ _ => rfl)) pa_nil)))) (pss_one (ps_if (pt_cmpR (op_eqS) (pe_uVar 2) pe_str (nomark _)) (pss_one (ps_expr (pe_bm PySem.F.plainAttrs_list PySem.F.slot_list_append PySem.F.type_list_append mt_append (pe_uVar 3) (pa_cons (pe_ix ix_U (pe_uVar 3) (pe_op op_subU (pe_un un_neg pe_int) (pe_ix ix_U (pe_uVar 1) pe_int (fun _ _ => rfl))) (fun _ _ => rfl)) pa_nil)))) (pss_one (ps_if (pt_cmpR (op_eqS) (pe_uVar 2) pe_str (nomark _)) (pss_one (ps_expr (pe_bm PySem.F.plainAttrs_list PySem.F.slot_list_append PySem.F.type_list_append mt_append (pe_uVar 3) (pa_cons (pe_bm PySem.F.plainAttrs_list PySem.F.slot_list_pop PySem.F.type_list_pop mt_popAt (pe_uVar 3) (pa_cons (pe_op op_subU (pe_un un_neg pe_int) (pe_ix ix_U (pe_uVar 1) pe_int (fun _ _ => rfl))) pa_nil)) pa_nil)))) (pss_one (ps_if (pt_cmpR (op_eqS) (pe_uVar 2) pe_str (nomark _)) (pss_one (ps_asg (pe_bm0 PySem.F.plainAttrs_list PySem.F.slot_list_pop PySem.F.type_list_pop mt_pop (pe_uVar 3)) (pg_sub (pe_uVar 4) (pe_ix ix_U (pe_uVar 1) pe_int (fun _ _ => rfl)) set_U))) (pss_one (ps_if (pt_cmpR (op_eqS) (pe_uVar 2) pe_str (nomark _)) (pss_one (ps_expr (pe_bm0 PySem.F.plainAttrs_list PySem.F.slot_list_pop PySem.F.type_list_pop mt_pop (pe_uVar 3)))) (pss_one (ps_if (pt_cmpR (op_eqS) (pe_uVar 2) pe_str (nomark _)) (pss_one (ps_set (i := 5) nd rfl (Or.inl rfl) (pe_bm0 PySem.F.plainAttrs_list PySem.F.slot_list_pop PySem.F.type_list_pop mt_pop (pe_uVar 3)))) pss_nil))))))))))))) (pss_one (ps_ret (pe_tup (pa_cons (pe_calX c_State (hr.mono (by decide)) tk (pa_cons (pe_uVar 3) (pa_cons (pe_uVar 4) pa_nil))) (pa_cons (pe_uVar 5) pa_nil))))))))))
theorem bd_moved (F : FunD K "moved" "moved" (defArgs s_moved) (defBody s_moved) (defScope s_moved) [] [] f fd) : Binds K fd ["state", "instruction"] [] := (F.bindsN fun _ _ _ _ _ _ us hl => match us, hl with | [_, _], _ => rfl)
theorem ok_execute (F : FunD K "execute" "execute" (defArgs s_execute) (defBody s_execute) (defScope s_execute) [] [] f fd) (ox_BadInstruction : OxC P w K mg base 1 "BadInstruction" (He.ga K "BadInstruction") (sp_BadInstruction_init K)) (hm_BadInstruction : mg "BadInstruction" = some (.ref (He.ga K "BadInstruction"))) (c_is_basic : Callee P w K mg base CX0 2 "is_basic" ["value"] [] (sp_is_basic K)) (c_failing : Callee P w K mg base CX0 2 "failing" ["state", "instruction"] [] (sp_failing K)) (c_fail : CalX P w K mg base 3 "fail" (sp_fail K)) (c_moved : CalX P w K mg base 4 "moved" (sp_moved K)) (fb : Fb K) : FnOk P w K mg base (L2.CX P w) 5 f fd ["state", "instruction"] (sp_execute K) := by
  have nd := sc_execute.nd
  refine F.ok sc_execute (fun vs H Q E h => ?_) (fun cdv A outer s H vs Q E hr h => ⟨t_execute K (He.ga K "BadInstruction") E, ?_, pure_execute fb vs H Q E h⟩)
  · first | exact len_execute vs H Q E h | exact len_gen vs H Q E h | (obtain ⟨_, _, rfl, _⟩ := h; rfl)
  · refine withTk (takes_of rfl rfl rfl rfl) fun tk => ?_
    exact (pss_cons (ps_if (pt_not (pt_uTru (pe_cal c_is_basic (hr.mono (by decide)) (pa_cons (pe_uVar 1) pa_nil)))) (pss_one (ps_raiseO ox_BadInstruction (hr.mono (by decide)) tk (pa_cons pe_str (pa_cons pe_int pa_nil)))) pss_nil) (pss_cons (ps_set (i := 2) nd rfl (Or.inl rfl) (pe_cal c_failing (hr.mono (by decide)) (pa_cons (pe_uVar 0) (pa_cons (pe_uVar 1) pa_nil)))) (pss_cons (ps_if (pt_cmpR (op_notNU) (pe_uVar 2) pe_non (nomark _)) (pss_one (ps_expr (pe_calX c_fail (hr.mono (by decide)) tk (pa_cons (pe_uVar 2) (pa_cons pe_int (pa_cons (pe_tup pa_nil) pa_nil)))))) pss_nil) (pss_one (ps_ret (pe_calX c_moved (hr.mono (by decide)) tk (pa_cons (pe_uVar 0) (pa_cons (pe_uVar 1) pa_nil))))))))
theorem bd_execute (F : FunD K "execute" "execute" (defArgs s_execute) (defBody s_execute) (defScope s_execute) [] [] f fd) : Binds K fd ["state", "instruction"] [] := (F.bindsN fun _ _ _ _ _ _ us hl => match us, hl with | [_, _], _ => rfl)
theorem ok__law_draw (F : FunD K "_law_draw" "_law_draw" (defArgs s__law_draw) (defBody s__law_draw) (defScope s__law_draw) [] [] f fd) (z_len : mg "len" = none) (z_int : mg "int" = none) : FnOk P w K mg base CX0 1 f fd ["_law_draws", "_law_many"] (sp__law_draw K) := by
  have nd := sc__law_draw.nd
  refine F.ok sc__law_draw (fun vs H Q E h => ?_) (fun cdv A outer s H vs Q E hr h => ⟨t__law_draw K, PSs.nox ?_, pure__law_draw vs H Q E h⟩)
  · first | exact len__law_draw vs H Q E h | exact len_gen vs H Q E h | (obtain ⟨_, _, rfl, _⟩ := h; rfl)
  · exact (pss_cons (ps_if (pt_cmpR (op_eqS) (pe_ix ix_U (pe_uVar 0) pe_int (fun _ _ => rfl)) pe_int (nomark _)) (pss_one (ps_if (pt_cmpR (op_ltU) (pe_ix ix_U (pe_uVar 0) pe_int (fun _ _ => rfl)) (pe_callB call_lenU (by rfl) z_len (by decide +kernel) (pa_cons (pe_ix ix_U (pe_uVar 0) pe_int (fun _ _ => rfl)) pa_nil)) (nomark _)) (pss_cons (ps_set (i := 2) nd rfl (Or.inl rfl) (pe_ix ix_U (pe_ix ix_U (pe_uVar 0) pe_int (fun _ _ => rfl)) (pe_ix ix_U (pe_uVar 0) pe_int (fun _ _ => rfl)) (fun _ _ => rfl))) (pss_cons (ps_asg (pe_op op_addI (pe_ix ix_U (pe_uVar 0) pe_int (fun _ _ => rfl)) pe_int) (pg_sub (pe_uVar 0) pe_int set_U)) (pss_one (ps_if (pt_cmpR (op_geU) (pe_uVar 2) (pe_op op_powU pe_int pe_int) (nomark _)) (pss_one (ps_asg (pe_uVar 2) (pg_sub (pe_uVar 0) pe_int set_U))) (pss_one (ps_asg (pe_op op_modU (pe_callTy call_intU (by rfl) z_int (by decide +kernel) (pa_cons (pe_op op_addI (pe_op op_addI (pe_op op_mulI (pe_ix ix_U (pe_uVar 0) pe_int (fun _ _ => rfl)) pe_int) (pe_op op_mulI (pe_uVar 2) pe_int)) pe_int) pa_nil)) pe_int) (pg_sub (pe_uVar 0) pe_int set_U))))))) (pss_one (ps_asg (pe_op op_modU (pe_callTy call_intU (by rfl) z_int (by decide +kernel) (pa_cons (pe_op op_addI (pe_op op_mulI (pe_ix ix_U (pe_uVar 0) pe_int (fun _ _ => rfl)) pe_int) pe_int) pa_nil)) pe_int) (pg_sub (pe_uVar 0) pe_int set_U))))) pss_nil) (pss_cons (ps_if (pt_cmpR (op_gtU) (pe_ix ix_U (pe_uVar 0) pe_int (fun _ _ => rfl)) pe_int (nomark _)) (pss_cons (ps_set (i := 3) nd rfl (Or.inl rfl) (pe_op op_modU (pe_callTy call_intU (by rfl) z_int (by decide +kernel) (pa_cons (pe_ix ix_U (pe_uVar 0) pe_int (fun _ _ => rfl)) pa_nil)) (pe_uVar 1))) (pss_cons (ps_asg (pe_op op_divU (pe_ix ix_U (pe_uVar 0) pe_int (fun _ _ => rfl)) (pe_uVar 1)) (pg_sub (pe_uVar 0) pe_int set_U)) (pss_one (ps_ret (pe_uVar 3))))) pss_nil) (pss_one (ps_ret (pe_op op_modU (pe_op op_modU (pe_callTy call_intU (by rfl) z_int (by decide +kernel) (pa_cons (pe_op op_mulI (pe_ix ix_U (pe_uVar 0) pe_int (fun _ _ => rfl)) pe_int) pa_nil)) pe_int) (pe_uVar 1))))))
theorem bd__law_draw (F : FunD K "_law_draw" "_law_draw" (defArgs s__law_draw) (defBody s__law_draw) (defScope s__law_draw) [] [] f fd) : Binds K fd ["_law_draws", "_law_many"] [] := (F.bindsN fun _ _ _ _ _ _ us hl => match us, hl with | [_, _], _ => rfl)
theorem cal__law_draw (F : FunD K "_law_draw" "_law_draw" (defArgs s__law_draw) (defBody s__law_draw) (defScope s__law_draw) [] [] f fd) (hm : mg "_law_draw" = some (.ref f)) (k : FnOk P w K mg base CX0 1 f fd ["_law_draws", "_law_many"] (sp__law_draw K)) : Callee P w K mg base CX0 1 "_law_draw" ["_law_draws", "_law_many"] [] (sp__law_draw K) :=
  ⟨f, fd, [], hm, k, F.kp, bd__law_draw F, .nil⟩
theorem ok__law_strange (F : FunD K "_law_strange" "_law_strange" (defArgs s__law_strange) (defBody s__law_strange) (defScope s__law_strange) [] [] f fd) (z_len : mg "len" = none) (c__law_draw : Callee P w K mg base CX0 1 "_law_draw" ["_law_draws", "_law_many"] [] (sp__law_draw K)) : FnOk P w K mg base CX0 2 f fd ["_law_draws"] (sp__law_strange K) := by
  have nd := sc__law_strange.nd
  refine F.ok sc__law_strange (fun vs H Q E h => ?_) (fun cdv A outer s H vs Q E hr h => ⟨t__law_strange K, PSs.nox ?_, pure__law_strange vs H Q E h⟩)
  · first | exact len__law_strange vs H Q E h | exact len_gen vs H Q E h | (obtain ⟨_, _, rfl, _⟩ := h; rfl)
  · exact (pss_cons (ps_set (i := 1) nd rfl (Or.inl rfl) (pe_lst (pa_cons (pe_tup (pa_cons pe_str pa_nil)) (pa_cons (pe_tup (pa_cons pe_str (pa_cons pe_str pa_nil))) (pa_cons (pe_tup (pa_cons pe_str (pa_cons pe_str pa_nil))) (pa_cons (pe_tup (pa_cons pe_str (pa_cons pe_str pa_nil))) (pa_cons (pe_tup (pa_cons pe_str (pa_cons pe_int pa_nil))) (pa_cons (pe_tup (pa_cons pe_str (pa_cons pe_non pa_nil))) pa_nil)))))))) (pss_cons (ps_set (i := 1) nd rfl (Or.inl rfl) (pe_op op_addL (pe_uVar 1) (pe_lst (pa_cons (pe_tup (pa_cons pe_str (pa_cons pe_int pa_nil))) (pa_cons (pe_tup pa_nil) pa_nil))))) (pss_cons (ps_set (i := 1) nd rfl (Or.inl rfl) (pe_op op_addL (pe_uVar 1) (pe_lst (pa_cons (pe_tup (pa_cons pe_str (pa_cons pe_int pa_nil))) (pa_cons (pe_tup (pa_cons pe_str (pa_cons (pe_un un_neg pe_int) pa_nil))) (pa_cons (pe_tup (pa_cons pe_str (pa_cons pe_bl pa_nil))) (pa_cons (pe_tup (pa_cons pe_str (pa_cons pe_non pa_nil))) (pa_cons (pe_tup (pa_cons pe_str (pa_cons pe_int pa_nil))) (pa_cons (pe_tup (pa_cons pe_str (pa_cons pe_bl pa_nil))) (pa_cons (pe_lst (pa_cons pe_str pa_nil)) pa_nil)))))))))) (pss_cons (ps_set (i := 1) nd rfl (Or.inl rfl) (pe_op op_addL (pe_uVar 1) (pe_lst (pa_cons (pe_tup (pa_cons pe_str (pa_cons pe_str pa_nil))) (pa_cons (pe_tup (pa_cons pe_str (pa_cons pe_str (pa_cons pe_int pa_nil)))) (pa_cons (pe_tup (pa_cons pe_str (pa_cons pe_str pa_nil))) (pa_cons pe_non (pa_cons pe_int (pa_cons pe_str (pa_cons (pe_tup (pa_cons pe_str pa_nil)) (pa_cons (pe_tup (pa_cons (pe_tup (pa_cons pe_str pa_nil)) pa_nil)) pa_nil))))))))))) (pss_cons (ps_set (i := 1) nd rfl (Or.inl rfl) (pe_op op_addL (pe_uVar 1) (pe_lst (pa_cons (pe_tup (pa_cons pe_str (pa_cons pe_str (pa_cons pe_str pa_nil)))) (pa_cons (pe_tup (pa_cons pe_str (pa_cons pe_int pa_nil))) (pa_cons (pe_tup (pa_cons pe_str pa_nil)) (pa_cons (pe_tup (pa_cons pe_str (pa_cons pe_str pa_nil))) (pa_cons (pe_tup (pa_cons pe_int pa_nil)) (pa_cons (pe_tup (pa_cons pe_str (pa_cons pe_int (pa_cons pe_int pa_nil)))) (pa_cons (pe_tup (pa_cons pe_str (pa_cons pe_str pa_nil))) pa_nil)))))))))) (pss_one (ps_ret (pe_ix ix_U (pe_uVar 1) (pe_cal c__law_draw (hr.mono (by decide)) (pa_cons (pe_uVar 0) (pa_cons (pe_callB call_lenU (by rfl) z_len (by decide +kernel) (pa_cons (pe_uVar 1) pa_nil)) pa_nil))) (fun _ _ => rfl)))))))))
theorem bd__law_strange (F : FunD K "_law_strange" "_law_strange" (defArgs s__law_strange) (defBody s__law_strange) (defScope s__law_strange) [] [] f fd) : Binds K fd ["_law_draws"] [] := (F.bindsN fun _ _ _ _ _ _ us hl => match us, hl with | [_], _ => rfl)
theorem cal__law_strange (F : FunD K "_law_strange" "_law_strange" (defArgs s__law_strange) (defBody s__law_strange) (defScope s__law_strange) [] [] f fd) (hm : mg "_law_strange" = some (.ref f)) (k : FnOk P w K mg base CX0 2 f fd ["_law_draws"] (sp__law_strange K)) : Callee P w K mg base CX0 2 "_law_strange" ["_law_draws"] [] (sp__law_strange K) :=
  ⟨f, fd, [], hm, k, F.kp, bd__law_strange F, .nil⟩
theorem ok__law_begin (F : FunD K "_law_begin" "_law_begin" (defArgs s__law_begin) (defBody s__law_begin) (defScope s__law_begin) [] [] f fd) (z_list : mg "list" = none) : FnOk P w K mg base CX0 1 f fd ["_law_script"] (sp__law_begin K) := by
  have nd := sc__law_begin.nd
  refine F.ok sc__law_begin (fun vs H Q E h => ?_) (fun cdv A outer s H vs Q E hr h => ⟨t__law_begin K, PSs.nox ?_, pure__law_begin vs H Q E h⟩)
  · first | exact len__law_begin vs H Q E h | exact len_gen vs H Q E h | (obtain ⟨_, _, rfl, _⟩ := h; rfl)
  · exact (pss_one (ps_ret (pe_lst (pa_cons (pe_callTy call_list_of (by rfl) z_list (by decide +kernel) (pa_cons (pe_uVar 0) pa_nil)) (pa_cons pe_int (pa_cons pe_int (pa_cons pe_int pa_nil)))))))
theorem bd__law_begin (F : FunD K "_law_begin" "_law_begin" (defArgs s__law_begin) (defBody s__law_begin) (defScope s__law_begin) [] [] f fd) : Binds K fd ["_law_script"] [] := (F.bindsN fun _ _ _ _ _ _ us hl => match us, hl with | [_], _ => rfl)
theorem cal__law_begin (F : FunD K "_law_begin" "_law_begin" (defArgs s__law_begin) (defBody s__law_begin) (defScope s__law_begin) [] [] f fd) (hm : mg "_law_begin" = some (.ref f)) (k : FnOk P w K mg base CX0 1 f fd ["_law_script"] (sp__law_begin K)) : Callee P w K mg base CX0 1 "_law_begin" ["_law_script"] [] (sp__law_begin K) :=
  ⟨f, fd, [], hm, k, F.kp, bd__law_begin F, .nil⟩
theorem ok__law_mark (F : FunD K "_law_mark" "_law_mark" (defArgs s__law_mark) (defBody s__law_mark) (defScope s__law_mark) [] [] f fd) (z_range : mg "range" = none) (c__law_draw : Callee P w K mg base CX0 1 "_law_draw" ["_law_draws", "_law_many"] [] (sp__law_draw K)) : FnOk P w K mg base CX0 2 f fd ["_law_draws"] (sp__law_mark K) := by
  have nd := sc__law_mark.nd
  refine F.ok sc__law_mark (fun vs H Q E h => ?_) (fun cdv A outer s H vs Q E hr h => ⟨t__law_mark K, PSs.nox ?_, pure__law_mark vs H Q E h⟩)
  · first | exact len__law_mark vs H Q E h | exact len_gen vs H Q E h | (obtain ⟨_, _, rfl, _⟩ := h; rfl)
  · exact (pss_cons (ps_set (i := 1) nd rfl (Or.inl rfl) (pe_lst (pa_cons pe_str (pa_cons pe_str (pa_cons pe_str (pa_cons pe_str (pa_cons pe_str (pa_cons pe_str (pa_cons pe_str (pa_cons pe_str pa_nil)))))))))) (pss_cons (ps_set (i := 2) nd rfl (Or.inl rfl) (pe_cal c__law_draw (hr.mono (by decide)) (pa_cons (pe_uVar 0) (pa_cons pe_int pa_nil)))) (pss_cons (ps_if (pt_cmpR (op_ltU) (pe_uVar 2) pe_int (nomark _)) (pss_one (ps_ret (pe_ix ix_U (pe_uVar 1) (pe_uVar 2) (fun _ _ => rfl)))) pss_nil) (pss_cons (ps_set (i := 3) nd rfl (Or.inr rfl) pe_str) (pss_cons (ps_set (i := 4) nd rfl (Or.inl rfl) (pe_op op_addI pe_int (pe_cal c__law_draw (hr.mono (by decide)) (pa_cons (pe_uVar 0) (pa_cons pe_int pa_nil))))) (pss_one (ps_ret (pe_bm PySem.F.plainAttrs_str PySem.F.slot_str_join PySem.F.type_str_join mt_joinU pe_str (pa_cons (pe_lc (own := [("_law_k", 5)]) (g := (gName 5)) (tt := tYes) rfl nd (pi_range1 (by rfl) z_range (pa_cons (pe_uVar 4) pa_nil)) (blkOk_by (N := N__law_mark) (sc := defScope s__law_mark) (by decide +kernel)) (fun _ _ _ _ _ => (pg_name (i := 5) nd rfl (Or.inl rfl))) (fun _ _ _ _ _ => pts_nil) (fun _ _ _ _ _ => (pe_ix ix_U (pe_uVar 3) (pe_cal c__law_draw (hr.mono (by decide)) (pa_cons (pe_uVar 0) (pa_cons pe_int pa_nil))) (fun _ _ => rfl)))) pa_nil)))))))))
theorem bd__law_mark (F : FunD K "_law_mark" "_law_mark" (defArgs s__law_mark) (defBody s__law_mark) (defScope s__law_mark) [] [] f fd) : Binds K fd ["_law_draws"] [] := (F.bindsN fun _ _ _ _ _ _ us hl => match us, hl with | [_], _ => rfl)
theorem cal__law_mark (F : FunD K "_law_mark" "_law_mark" (defArgs s__law_mark) (defBody s__law_mark) (defScope s__law_mark) [] [] f fd) (hm : mg "_law_mark" = some (.ref f)) (k : FnOk P w K mg base CX0 2 f fd ["_law_draws"] (sp__law_mark K)) : Callee P w K mg base CX0 2 "_law_mark" ["_law_draws"] [] (sp__law_mark K) :=
  ⟨f, fd, [], hm, k, F.kp, bd__law_mark F, .nil⟩
theorem ok__law_case (F : FunD K "_law_case" "_law_case" (defArgs s__law_case) (defBody s__law_case) (defScope s__law_case) [] [] f fd) (z_range : mg "range" = none) (c__law_mark : Callee P w K mg base CX0 2 "_law_mark" ["_law_draws"] [] (sp__law_mark K)) (c__law_draw : Callee P w K mg base CX0 1 "_law_draw" ["_law_draws", "_law_many"] [] (sp__law_draw K)) : FnOk P w K mg base CX0 3 f fd ["_law_draws", "_law_at"] (sp__law_case K) := by
  have nd := sc__law_case.nd
  refine F.ok sc__law_case (fun vs H Q E h => ?_) (fun cdv A outer s H vs Q E hr h => ⟨t__law_case K, PSs.nox ?_, pure__law_case vs H Q E h⟩)
  · first | exact len__law_case vs H Q E h | exact len_gen vs H Q E h | (obtain ⟨_, _, rfl, _⟩ := h; rfl)
  · exact (pss_cons (ps_set (i := 2) nd rfl (Or.inr rfl) (pe_cal c__law_mark (hr.mono (by decide)) (pa_cons (pe_uVar 0) pa_nil))) (pss_cons (ps_set (i := 3) nd rfl (Or.inl rfl) (pe_cal c__law_draw (hr.mono (by decide)) (pa_cons (pe_uVar 0) (pa_cons pe_int pa_nil)))) (pss_cons (ps_set (i := 4) nd rfl (Or.inl rfl) (pe_lst (pa_cons pe_non (pa_cons pe_non (pa_cons pe_non (pa_cons pe_non pa_nil)))))) (pss_cons (ps_if (pt_cmpR (op_eqS) (pe_uVar 1) pe_int (nomark _)) (pss_cons (ps_set (i := 5) nd rfl (Or.inl rfl) (pe_cal c__law_draw (hr.mono (by decide)) (pa_cons (pe_uVar 0) (pa_cons pe_int pa_nil)))) (pss_cons (ps_set (i := 6) nd rfl (Or.inl rfl) (pe_ix ix_U (pe_lst (pa_cons pe_str (pa_cons pe_str pa_nil))) (pe_cal c__law_draw (hr.mono (by decide)) (pa_cons (pe_uVar 0) (pa_cons pe_int pa_nil))) (fun _ _ => rfl))) (pss_one (ps_ret (pe_lst (pa_cons (pe_lc (own := [("_law_k", 8)]) (g := (gName 8)) (tt := tYes) rfl nd (pi_range1 (by rfl) z_range (pa_cons (pe_uVar 5) pa_nil)) (blkOk_by (N := N__law_case) (sc := defScope s__law_case) (by decide +kernel)) (fun _ _ _ _ _ => (pg_name (i := 8) nd rfl (Or.inl rfl))) (fun _ _ _ _ _ => pts_nil) (fun _ _ _ _ _ => (pe_uVar 2))) (pa_cons (pe_uVar 4) (pa_cons (pe_tup (pa_cons (pe_uVar 6) (pa_cons (pe_uVar 5) pa_nil))) pa_nil)))))))) pss_nil) (pss_cons (ps_if (pt_cmpR (op_eqS) (pe_uVar 1) pe_int (nomark _)) (pss_one (ps_ret (pe_lst (pa_cons (pe_lc (own := [("_law_k", 8)]) (g := (gName 8)) (tt := tYes) rfl nd (pi_range1 (by rfl) z_range (pa_cons (pe_op op_subU pe_int (pe_cal c__law_draw (hr.mono (by decide)) (pa_cons (pe_uVar 0) (pa_cons pe_int pa_nil)))) pa_nil)) (blkOk_by (N := N__law_case) (sc := defScope s__law_case) (by decide +kernel)) (fun _ _ _ _ _ => (pg_name (i := 8) nd rfl (Or.inl rfl))) (fun _ _ _ _ _ => pts_nil) (fun _ _ _ _ _ => (pe_uVar 2))) (pa_cons (pe_uVar 4) (pa_cons (pe_tup (pa_cons pe_str (pa_cons (pe_cal c__law_draw (hr.mono (by decide)) (pa_cons (pe_uVar 0) (pa_cons pe_int pa_nil))) pa_nil))) pa_nil)))))) pss_nil) (pss_cons (ps_if (pt_cmpR (op_eqS) (pe_uVar 1) pe_int (nomark _)) (pss_cons (ps_set (i := 7) nd rfl (Or.inl rfl) (pe_ix ix_U (pe_lst (pa_cons (pe_tup (pa_cons pe_str (pa_cons (pe_uVar 2) pa_nil))) (pa_cons (pe_tup (pa_cons pe_str (pa_cons (pe_cal c__law_draw (hr.mono (by decide)) (pa_cons (pe_uVar 0) (pa_cons pe_int pa_nil))) pa_nil))) (pa_cons (pe_tup (pa_cons pe_str (pa_cons pe_int pa_nil))) pa_nil)))) (pe_cal c__law_draw (hr.mono (by decide)) (pa_cons (pe_uVar 0) (pa_cons pe_int pa_nil))) (fun _ _ => rfl))) (pss_one (ps_ret (pe_lst (pa_cons (pe_lc (own := [("_law_k", 8)]) (g := (gName 8)) (tt := tYes) rfl nd (pi_range1 (by rfl) z_range (pa_cons pe_int pa_nil)) (blkOk_by (N := N__law_case) (sc := defScope s__law_case) (by decide +kernel)) (fun _ _ _ _ _ => (pg_name (i := 8) nd rfl (Or.inl rfl))) (fun _ _ _ _ _ => pts_nil) (fun _ _ _ _ _ => (pe_uVar 2))) (pa_cons (pe_lst (pa_cons pe_non (pa_cons pe_non (pa_cons (pe_uVar 2) (pa_cons pe_non pa_nil))))) (pa_cons (pe_uVar 7) pa_nil))))))) pss_nil) (pss_cons (ps_if (pt_cmpR (op_eqS) (pe_uVar 1) pe_int (nomark _)) (pss_one (ps_ret (pe_lst (pa_cons (pe_op op_addL (pe_lc (own := [("_law_k", 8)]) (g := (gName 8)) (tt := tYes) rfl nd (pi_range1 (by rfl) z_range (pa_cons (pe_uVar 3) pa_nil)) (blkOk_by (N := N__law_case) (sc := defScope s__law_case) (by decide +kernel)) (fun _ _ _ _ _ => (pg_name (i := 8) nd rfl (Or.inl rfl))) (fun _ _ _ _ _ => pts_nil) (fun _ _ _ _ _ => (pe_uVar 2))) (pe_lst (pa_cons (pe_op op_addS (pe_uVar 2) pe_str) pa_nil))) (pa_cons (pe_uVar 4) (pa_cons (pe_tup (pa_cons pe_str (pa_cons (pe_uVar 2) pa_nil))) pa_nil)))))) pss_nil) (pss_cons (ps_if (pt_cmpR (op_eqS) (pe_uVar 1) pe_int (nomark _)) (pss_one (ps_ret (pe_lst (pa_cons (pe_op op_addL (pe_lc (own := [("_law_k", 8)]) (g := (gName 8)) (tt := tYes) rfl nd (pi_range1 (by rfl) z_range (pa_cons (pe_uVar 3) pa_nil)) (blkOk_by (N := N__law_case) (sc := defScope s__law_case) (by decide +kernel)) (fun _ _ _ _ _ => (pg_name (i := 8) nd rfl (Or.inl rfl))) (fun _ _ _ _ _ => pts_nil) (fun _ _ _ _ _ => (pe_uVar 2))) (pe_lst (pa_cons (pe_op op_addS (pe_uVar 2) pe_str) (pa_cons (pe_uVar 2) pa_nil)))) (pa_cons (pe_uVar 4) (pa_cons (pe_tup (pa_cons pe_str pa_nil)) pa_nil)))))) pss_nil) (pss_one (ps_ret (pe_lst (pa_cons (pe_op op_addL (pe_lc (own := [("_law_k", 8)]) (g := (gName 8)) (tt := tYes) rfl nd (pi_range1 (by rfl) z_range (pa_cons (pe_uVar 3) pa_nil)) (blkOk_by (N := N__law_case) (sc := defScope s__law_case) (by decide +kernel)) (fun _ _ _ _ _ => (pg_name (i := 8) nd rfl (Or.inl rfl))) (fun _ _ _ _ _ => pts_nil) (fun _ _ _ _ _ => (pe_op op_addS (pe_uVar 2) pe_str))) (pe_lst (pa_cons (pe_uVar 2) (pa_cons (pe_uVar 2) pa_nil)))) (pa_cons (pe_uVar 4) (pa_cons (pe_tup (pa_cons pe_str pa_nil)) pa_nil))))))))))))))
theorem bd__law_case (F : FunD K "_law_case" "_law_case" (defArgs s__law_case) (defBody s__law_case) (defScope s__law_case) [] [] f fd) : Binds K fd ["_law_draws", "_law_at"] [] := (F.bindsN fun _ _ _ _ _ _ us hl => match us, hl with | [_, _], _ => rfl)
theorem cal__law_case (F : FunD K "_law_case" "_law_case" (defArgs s__law_case) (defBody s__law_case) (defScope s__law_case) [] [] f fd) (hm : mg "_law_case" = some (.ref f)) (k : FnOk P w K mg base CX0 3 f fd ["_law_draws", "_law_at"] (sp__law_case K)) : Callee P w K mg base CX0 3 "_law_case" ["_law_draws", "_law_at"] [] (sp__law_case K) :=
  ⟨f, fd, [], hm, k, F.kp, bd__law_case F, .nil⟩
theorem ok_law (F : FunD K "law" "law" (defArgs s_law) (defBody s_law) (defScope s_law) [] [] f fd) (hm_BadInstruction : mg "BadInstruction" = some (.ref (He.ga K "BadInstruction"))) (c_State : CalX P w K mg base 3 "State" (sp_State K)) (z_isinstance : mg "isinstance" = none) (hm_Failure : mg "Failure" = some (.ref (He.ga K "Failure"))) (hm_ReelError : mg "ReelError" = some (.ref (He.ga K "ReelError"))) (hm_Underflow : mg "Underflow" = some (.ref (He.ga K "Underflow"))) (z_ValueError : mg "ValueError" = none) (hm_Unexpected : mg "Unexpected" = some (.ref (He.ga K "Unexpected"))) (hm_Overflow : mg "Overflow" = some (.ref (He.ga K "Overflow"))) (hm_EmptyRegister : mg "EmptyRegister" = some (.ref (He.ga K "EmptyRegister"))) (hm_Alike : mg "Alike" = some (.ref (He.ga K "Alike"))) (hm_Differs : mg "Differs" = some (.ref (He.ga K "Differs"))) (z_range : mg "range" = none) (z_len : mg "len" = none) (c_execute : CalX P w K mg base 5 "execute" (sp_execute K)) (c__law_strange : Callee P w K mg base CX0 2 "_law_strange" ["_law_draws"] [] (sp__law_strange K)) (c__law_begin : Callee P w K mg base CX0 1 "_law_begin" ["_law_script"] [] (sp__law_begin K)) (c__law_draw : Callee P w K mg base CX0 1 "_law_draw" ["_law_draws", "_law_many"] [] (sp__law_draw K)) (c__law_case : Callee P w K mg base CX0 3 "_law_case" ["_law_draws", "_law_at"] [] (sp__law_case K)) (fk : Fk K) : FnOk P w K mg base CX0 6 f fd ["_law_script"] (sp_law K) := by
  have nd := sc_law.nd
  refine F.ok sc_law (fun vs H Q E h => ?_) (fun cdv A outer s H vs Q E hr h => ⟨t_law K (He.ga K "BadInstruction") (He.ga K "Failure") (He.ga K "ReelError") (He.ga K "Underflow") (He.ga K "Unexpected") (He.ga K "Overflow") (He.ga K "EmptyRegister") (He.ga K "Alike") (He.ga K "Differs"), PSs.nox ?_, pure_law fk vs H Q E h⟩)
  · first | exact len_law vs H Q E h | exact len_gen vs H Q E h | (obtain ⟨_, _, rfl, _⟩ := h; rfl)
  · exact (pss_cons (ps_set (i := 1) nd rfl (Or.inl rfl) (pe_cal c__law_begin (hr.mono (by decide)) (pa_cons (pe_uVar 0) pa_nil))) (pss_cons (ps_set (i := 2) nd rfl (Or.inr rfl) (pe_cal c__law_draw (hr.mono (by decide)) (pa_cons (pe_uVar 1) (pa_cons pe_int pa_nil)))) (pss_cons (ps_asg (pe_cal c__law_case (hr.mono (by decide)) (pa_cons (pe_uVar 1) (pa_cons (pe_uVar 2) pa_nil))) (pg_seq rfl (pgs_cons (pg_name (i := 3) nd rfl (Or.inl rfl)) (pgs_cons (pg_name (i := 4) nd rfl (Or.inl rfl)) (pgs_cons (pg_name (i := 5) nd rfl (Or.inl rfl)) pgs_nil))))) (pss_cons (ps_if (PW.pt (pw_and (pt_cmpR (op_gtU) (pe_callB call_lenU (by rfl) z_len (by decide +kernel) (pa_cons (pe_uVar 3) pa_nil)) pe_int (nomark _)) (pw_and1 (pt_cmpR (op_gtU) (pe_callB call_lenU (by rfl) z_len (by decide +kernel) (pa_cons (pe_ix ix_U (pe_uVar 3) (pe_un un_neg pe_int) (fun _ _ => rfl)) pa_nil)) pe_int (nomark _))))) (pss_one (ps_ret pe_bl)) pss_nil) (pss_cons (ps_if (PW.pt (pw_and (pt_cmpR (op_gtU) (pe_callB call_lenU (by rfl) z_len (by decide +kernel) (pa_cons (pe_uVar 3) pa_nil)) pe_int (nomark _)) (pw_and1 (pt_cmpR (op_gtU) (pe_callB call_lenU (by rfl) z_len (by decide +kernel) (pa_cons (pe_ix ix_U (pe_uVar 3) (pe_un un_neg pe_int) (fun _ _ => rfl)) pa_nil)) pe_int (nomark _))))) (pss_one (ps_ret pe_bl)) pss_nil) (pss_cons (ps_if (PW.pt (pw_and (pt_cmpR (op_gtU) (pe_callB call_lenU (by rfl) z_len (by decide +kernel) (pa_cons (pe_uVar 3) pa_nil)) pe_int (nomark _)) (pw_and1 (pt_cmpR (op_gtU) (pe_callB call_lenU (by rfl) z_len (by decide +kernel) (pa_cons (pe_ix ix_U (pe_uVar 3) pe_int (fun _ _ => rfl)) pa_nil)) pe_int (nomark _))))) (pss_one (ps_ret pe_bl)) pss_nil) (pss_cons (ps_set (i := 6) nd rfl (Or.inl rfl) (pe_lst pa_nil)) (pss_cons (ps_try_as (i := 7) (tb := fun W => (tDrop (uCallX (sp_execute K) W (tCons (uCallX (sp_State K) W (tCons (uVar 3) (tCons (uVar 4) tNil))) (tCons (uVar 5) tNil))))) (ts := fun a cls d => (tSeq (tAsg (tLst (tCons (tCB (rIsF K a cls d (.ref (He.ga K "Failure")) (.ref (He.ga K "Failure"))) (tCons (uVar 7) (tCons (tC (.ref (He.ga K "Failure"))) tNil))) (tCons (tCB (rIsF K a cls d (.ty "ValueError") (.type "ValueError")) (tCons (uVar 7) (tCons (tC (.ty "ValueError")) tNil))) (tCons (tCB (rIsF K a cls d (.ref (He.ga K "Underflow")) (.ref (He.ga K "Underflow"))) (tCons (uVar 7) (tCons (tC (.ref (He.ga K "Underflow"))) tNil))) tNil)))) (gName 6))
  (tSeq (tAsg (tOp rAddL (uVar 6) (tLst (tCons (tCB (rIsF K a cls d (.ref (He.ga K "EmptyRegister")) (.ref (He.ga K "EmptyRegister"))) (tCons (uVar 7) (tCons (tC (.ref (He.ga K "EmptyRegister"))) tNil))) (tCons (tCB (rIsF K a cls d (.ref (He.ga K "Overflow")) (.ref (He.ga K "Overflow"))) (tCons (uVar 7) (tCons (tC (.ref (He.ga K "Overflow"))) tNil))) (tCons (tCB (rIsF K a cls d (.ref (He.ga K "Unexpected")) (.ref (He.ga K "Unexpected"))) (tCons (uVar 7) (tCons (tC (.ref (He.ga K "Unexpected"))) tNil))) tNil))))) (gName 6))
  (tAsg (tOp rAddL (uVar 6) (tLst (tCons (tCB (rIsF K a cls d (.ref (He.ga K "Differs")) (.ref (He.ga K "Differs"))) (tCons (uVar 7) (tCons (tC (.ref (He.ga K "Differs"))) tNil))) (tCons (tCB (rIsF K a cls d (.ref (He.ga K "Alike")) (.ref (He.ga K "Alike"))) (tCons (uVar 7) (tCons (tC (.ref (He.ga K "Alike"))) tNil))) (tCons (uXf K a cls d "step" 7) (tCons (uXf K a cls d "path" 7) tNil)))))) (gName 6))))) rfl rfl nd rfl rfl ⟨by rfl, by decide, .inl hm_ReelError⟩ takes0 (fun W pn xe tkb ownb => (pss_one (ps_expr (pe_calX c_execute (hr.mono (by decide)) tkb (pa_cons (pe_calX c_State (hr.mono (by decide)) tkb (pa_cons (pe_uVar 3) (pa_cons (pe_uVar 4) pa_nil))) (pa_cons (pe_uVar 5) pa_nil)))))) (fun a oe cls d pn hz hf => (pss_cons (ps_set (i := 6) nd rfl (Or.inl rfl) (pe_lst (pa_cons (pe_callB (call_isF (c := .ref (He.ga K "Failure")) hz hf rel_ref) (by rfl) z_isinstance boot_isinstance (pa_cons (pe_uVar 7) (pa_cons (pe_glob (v := .ref (He.ga K "Failure")) (by rfl) hm_Failure rfl) pa_nil))) (pa_cons (pe_callB (call_isF (c := .ty "ValueError") hz hf rel_ty) (by rfl) z_isinstance boot_isinstance (pa_cons (pe_uVar 7) (pa_cons (pe_bltn (v := .ty "ValueError") (by rfl) z_ValueError (by decide +kernel) rfl) pa_nil))) (pa_cons (pe_callB (call_isF (c := .ref (He.ga K "Underflow")) hz hf rel_ref) (by rfl) z_isinstance boot_isinstance (pa_cons (pe_uVar 7) (pa_cons (pe_glob (v := .ref (He.ga K "Underflow")) (by rfl) hm_Underflow rfl) pa_nil))) pa_nil))))) (pss_cons (ps_set (i := 6) nd rfl (Or.inl rfl) (pe_op op_addL (pe_uVar 6) (pe_lst (pa_cons (pe_callB (call_isF (c := .ref (He.ga K "EmptyRegister")) hz hf rel_ref) (by rfl) z_isinstance boot_isinstance (pa_cons (pe_uVar 7) (pa_cons (pe_glob (v := .ref (He.ga K "EmptyRegister")) (by rfl) hm_EmptyRegister rfl) pa_nil))) (pa_cons (pe_callB (call_isF (c := .ref (He.ga K "Overflow")) hz hf rel_ref) (by rfl) z_isinstance boot_isinstance (pa_cons (pe_uVar 7) (pa_cons (pe_glob (v := .ref (He.ga K "Overflow")) (by rfl) hm_Overflow rfl) pa_nil))) (pa_cons (pe_callB (call_isF (c := .ref (He.ga K "Unexpected")) hz hf rel_ref) (by rfl) z_isinstance boot_isinstance (pa_cons (pe_uVar 7) (pa_cons (pe_glob (v := .ref (He.ga K "Unexpected")) (by rfl) hm_Unexpected rfl) pa_nil))) pa_nil)))))) (pss_one (ps_set (i := 6) nd rfl (Or.inl rfl) (pe_op op_addL (pe_uVar 6) (pe_lst (pa_cons (pe_callB (call_isF (c := .ref (He.ga K "Differs")) hz hf rel_ref) (by rfl) z_isinstance boot_isinstance (pa_cons (pe_uVar 7) (pa_cons (pe_glob (v := .ref (He.ga K "Differs")) (by rfl) hm_Differs rfl) pa_nil))) (pa_cons (pe_callB (call_isF (c := .ref (He.ga K "Alike")) hz hf rel_ref) (by rfl) z_isinstance boot_isinstance (pa_cons (pe_uVar 7) (pa_cons (pe_glob (v := .ref (He.ga K "Alike")) (by rfl) hm_Alike rfl) pa_nil))) (pa_cons (pe_uXf (f := "step") hz hf (pe_uVar 7)) (pa_cons (pe_uXf (f := "path") hz hf (pe_uVar 7)) pa_nil)))))))))))) (pss_cons (ps_if (pt_cmpR (op_neD hr.units) (pe_uVar 6) (pe_op op_addL (pe_op op_addL (pe_lst (pa_cons pe_bl (pa_cons pe_bl pa_nil))) (pe_lc (own := [("_law_k", 9)]) (g := (gName 9)) (tt := tYes) rfl nd (pi_range1 (by rfl) z_range (pa_cons pe_int pa_nil)) (blkOk_by (N := N_law) (sc := defScope s_law) (by decide +kernel)) (fun _ _ _ _ _ => (pg_name (i := 9) nd rfl (Or.inl rfl))) (fun _ _ _ _ _ => pts_nil) (fun _ _ _ _ _ => (pe_cmpR (op_eqS) (pe_uVar 9) (pe_uVar 2) (nomark _))))) (pe_lst (pa_cons pe_int (pa_cons (pe_tup pa_nil) pa_nil)))) (nomark _)) (pss_one (ps_ret pe_bl)) pss_nil) (pss_cons (ps_set (i := 8) nd rfl (Or.inl rfl) pe_non) (pss_cons (ps_try_as (i := 7) (tb := fun W => (tDrop (uCallX (sp_execute K) W (tCons (uCallX (sp_State K) W (tCons (uVar 3) (tCons (uVar 4) tNil))) (tCons (uCall (sp__law_strange K) [] E0 (tCons (uVar 1) tNil)) tNil))))) (ts := fun a cls d => (tAsg (tTup (tCons (uXf K a cls d "name" 7) (tCons (uXf K a cls d "index" 7) (tCons (tCB (rIsF K a cls d (.ref (He.ga K "ReelError")) (.ref (He.ga K "ReelError"))) (tCons (uVar 7) (tCons (tC (.ref (He.ga K "ReelError"))) tNil))) (tCons (tCB (rIsF K a cls d (.ref (He.ga K "Failure")) (.ref (He.ga K "Failure"))) (tCons (uVar 7) (tCons (tC (.ref (He.ga K "Failure"))) tNil))) tNil))))) (gName 8))) rfl rfl nd rfl rfl ⟨by rfl, by decide, .inl hm_BadInstruction⟩ takes0 (fun W pn xe tkb ownb => (pss_one (ps_expr (pe_calX c_execute (hr.mono (by decide)) tkb (pa_cons (pe_calX c_State (hr.mono (by decide)) tkb (pa_cons (pe_uVar 3) (pa_cons (pe_uVar 4) pa_nil))) (pa_cons (pe_cal c__law_strange (hr.mono (by decide)) (pa_cons (pe_uVar 1) pa_nil)) pa_nil)))))) (fun a oe cls d pn hz hf => (pss_one (ps_set (i := 8) nd rfl (Or.inl rfl) (pe_tup (pa_cons (pe_uXf (f := "name") hz hf (pe_uVar 7)) (pa_cons (pe_uXf (f := "index") hz hf (pe_uVar 7)) (pa_cons (pe_callB (call_isF (c := .ref (He.ga K "ReelError")) hz hf rel_ref) (by rfl) z_isinstance boot_isinstance (pa_cons (pe_uVar 7) (pa_cons (pe_glob (v := .ref (He.ga K "ReelError")) (by rfl) hm_ReelError rfl) pa_nil))) (pa_cons (pe_callB (call_isF (c := .ref (He.ga K "Failure")) hz hf rel_ref) (by rfl) z_isinstance boot_isinstance (pa_cons (pe_uVar 7) (pa_cons (pe_glob (v := .ref (He.ga K "Failure")) (by rfl) hm_Failure rfl) pa_nil))) pa_nil))))))))) (pss_one (ps_ret (pe_cmpR (op_eqD hr.units) (pe_uVar 8) (pe_tup (pa_cons pe_str (pa_cons pe_int (pa_cons pe_bl (pa_cons pe_bl pa_nil))))) (nomark _)))))))))))))))
theorem bd_law (F : FunD K "law" "law" (defArgs s_law) (defBody s_law) (defScope s_law) [] [] f fd) : Binds K fd ["_law_script"] [] := (F.bindsN fun _ _ _ _ _ _ us hl => match us, hl with | [_], _ => rfl)
theorem cal_law (F : FunD K "law" "law" (defArgs s_law) (defBody s_law) (defScope s_law) [] [] f fd) (hm : mg "law" = some (.ref f)) (k : FnOk P w K mg base CX0 6 f fd ["_law_script"] (sp_law K)) : Callee P w K mg base CX0 6 "law" ["_law_script"] [] (sp_law K) :=
  ⟨f, fd, [], hm, k, F.kp, bd_law F, .nil⟩
end
def d_in_range : Hd.DefU := ⟨fun K => He.ga K "in_range", "in_range", "in_range", defArgs s_in_range, defBody s_in_range, defScope s_in_range, [], []⟩
def d_is_mark : Hd.DefU := ⟨fun K => He.ga K "is_mark", "is_mark", "is_mark", defArgs s_is_mark, defBody s_is_mark, defScope s_is_mark, [], []⟩
def d_is_basic : Hd.DefU := ⟨fun K => He.ga K "is_basic", "is_basic", "is_basic", defArgs s_is_basic, defBody s_is_basic, defScope s_is_basic, [], []⟩
def d_BadInstruction_init : Hd.DefU := ⟨fun K => Hd.iniA K (He.ga K "BadInstruction"), "__init__", "BadInstruction.__init__", defArgs s_BadInstruction_init, defBody s_BadInstruction_init, defScope s_BadInstruction_init, [], []⟩
def d_needed : Hd.DefU := ⟨fun K => He.ga K "needed", "needed", "needed", defArgs s_needed, defBody s_needed, defScope s_needed, [], []⟩
def d_failing : Hd.DefU := ⟨fun K => He.ga K "failing", "failing", "failing", defArgs s_failing, defBody s_failing, defScope s_failing, [], []⟩
def d_Failure_init : Hd.DefU := ⟨fun K => Hd.iniA K (He.ga K "Failure"), "__init__", "Failure.__init__", defArgs s_Failure_init, defBody s_Failure_init, defScope s_Failure_init, [], []⟩
def d_fail : Hd.DefU := ⟨fun K => He.ga K "fail", "fail", "fail", defArgs s_fail, defBody s_fail, defScope s_fail, [], []⟩
def d_State_init : Hd.DefU := ⟨fun K => He.ma K (He.ga K "State") "__init__", "__init__", "State.__init__", defArgs s_State_init, defBody s_State_init, defScope s_State_init, [], []⟩
def d_moved : Hd.DefU := ⟨fun K => He.ga K "moved", "moved", "moved", defArgs s_moved, defBody s_moved, defScope s_moved, [], []⟩
def d_execute : Hd.DefU := ⟨fun K => He.ga K "execute", "execute", "execute", defArgs s_execute, defBody s_execute, defScope s_execute, [], []⟩
def d__law_draw : Hd.DefU := ⟨fun K => He.ga K "_law_draw", "_law_draw", "_law_draw", defArgs s__law_draw, defBody s__law_draw, defScope s__law_draw, [], []⟩
def d__law_strange : Hd.DefU := ⟨fun K => He.ga K "_law_strange", "_law_strange", "_law_strange", defArgs s__law_strange, defBody s__law_strange, defScope s__law_strange, [], []⟩
def d__law_begin : Hd.DefU := ⟨fun K => He.ga K "_law_begin", "_law_begin", "_law_begin", defArgs s__law_begin, defBody s__law_begin, defScope s__law_begin, [], []⟩
def d__law_mark : Hd.DefU := ⟨fun K => He.ga K "_law_mark", "_law_mark", "_law_mark", defArgs s__law_mark, defBody s__law_mark, defScope s__law_mark, [], []⟩
def d__law_case : Hd.DefU := ⟨fun K => He.ga K "_law_case", "_law_case", "_law_case", defArgs s__law_case, defBody s__law_case, defScope s__law_case, [], []⟩
def d_law : Hd.DefU := ⟨fun K => He.ga K "law", "law", "law", defArgs s_law, defBody s_law, defScope s_law, [], []⟩
def fn : List Hd.DefU := [d_in_range, d_is_mark, d_is_basic, d_BadInstruction_init, d_needed, d_failing, d_Failure_init, d_fail, d_State_init, d_moved, d_execute, d__law_draw, d__law_strange, d__law_begin, d__law_mark, d__law_case, d_law]
def fa : List He.Fa := [.glo "in_range", .glo "is_mark", .glo "is_basic", .glo "needed", .glo "failing", .glo "fail", .glo "moved", .glo "execute", .glo "_law_draw", .glo "_law_strange", .glo "_law_begin", .glo "_law_mark", .glo "_law_case", .glo "law", .free "isinstance", .free "int", .free "bool", .free "str", .free "len", .free "tuple", .free "list", .free "range", .free "ValueError", .str "LETTERS" "abcdefghijklmnopqrstuvwxyz", .glo "State", .glo "NEEDED", .glo "Underflow", .glo "EmptyRegister", .glo "Overflow", .glo "Unexpected", .glo "Differs", .glo "Alike", .glo "BadState", .glo "BadInstruction", .glo "Failure", .glo "ReelError", .exc "BadState", .cls "State", .noat "State" "stack", .noat "State" "registers", .mkr "State"]
def ts : List He.Tab := [(fun K => (He.ga K "NEEDED"), ["push", "drop", "keep", "load", "emit", "expect", "same", "differ"])]
def ex (K : PySem.W.Frag) : Bool := (Hd.ctupB K "PLAIN" [.str "drop", .str "emit", .str "same", .str "differ"] && (Hd.ctupB K "DEPTHS" [.str "pick", .str "roll"] && (Hd.ctupB K "STORES" [.str "keep", .str "load"] && (Hd.ctupB K "MARKED" [.str "push", .str "expect"] && (Hd.cvalB K "State" "HEIGHT" (.int 24) && (Hd.cvalB K "State" "REGISTERS" (.int 4) && (Hd.oxB K (He.ga K "Underflow") (He.ga K "Failure") && (Hd.oxB K (He.ga K "EmptyRegister") (He.ga K "Failure") && (Hd.oxB K (He.ga K "Overflow") (He.ga K "Failure") && (Hd.oxB K (He.ga K "Unexpected") (He.ga K "Failure") && (Hd.oxB K (He.ga K "Differs") (He.ga K "Failure") && (Hd.oxB K (He.ga K "Alike") (He.ga K "Failure") && (Hd.oxB K (He.ga K "BadInstruction") (He.ga K "BadInstruction") && (Hd.tabVB K (He.ga K "NEEDED") [("push", .int 0), ("drop", .int 1), ("keep", .int 1), ("load", .int 0), ("emit", .int 1), ("expect", .int 1), ("same", .int 2), ("differ", .int 2)] && (FxB K && (FbB K && (FkB K && true)))))))))))))))))
abbrev R : PySem.W.OpenRow := PySem.W.OpenLaw.row PySem.Challenge.rw_reelcode_k02_failures_are_apart
abbrev hk : PySem.W.Hook := Hd.hookV 6 fa fn ts ex
def ob (s : PySem.W.SharedT) : Hd.AlV := Hd.obsVG 6 fa fn ts ex (HandSHeadRun.getT s)
theorem ob_eq (s : PySem.W.SharedT) : ob s = hk.obs s.abs := Hd.obsVG_eq (HandSHeadRun.getT_eq s)
theorem run_true (w : World) : HandSHeadRun.RunEq R (PySem.W.view R.prog [35]) hk ob 12000 ["ReelError", "Failure", "Underflow", "EmptyRegister", "Overflow", "Unexpected", "Differs", "Alike", "BadState", "BadInstruction", "LETTERS", "is_mark", "State", "PLAIN", "DEPTHS", "STORES", "MARKED", "in_range", "is_basic", "NEEDED", "needed", "failing", "fail", "moved", "execute", "_law_begin", "_law_draw", "_law_mark", "_law_case", "_law_strange"] (Hd.ww w true) := by
  intro os
  kernel_rfl
theorem run_false (w : World) : HandSHeadRun.RunEq R (PySem.W.view R.prog [35]) hk ob 12000 ["ReelError", "Failure", "Underflow", "EmptyRegister", "Overflow", "Unexpected", "Differs", "Alike", "BadState", "BadInstruction", "LETTERS", "is_mark", "State", "PLAIN", "DEPTHS", "STORES", "MARKED", "in_range", "is_basic", "NEEDED", "needed", "failing", "fail", "moved", "execute", "_law_begin", "_law_draw", "_law_mark", "_law_case", "_law_strange"] (Hd.ww w false) := by
  intro os
  kernel_rfl
theorem run (w : World) : HandSHeadRun.RunEq R (PySem.W.view R.prog [35]) hk ob 12000 ["ReelError", "Failure", "Underflow", "EmptyRegister", "Overflow", "Unexpected", "Differs", "Alike", "BadState", "BadInstruction", "LETTERS", "is_mark", "State", "PLAIN", "DEPTHS", "STORES", "MARKED", "in_range", "is_basic", "NEEDED", "needed", "failing", "fail", "moved", "execute", "_law_begin", "_law_draw", "_law_mark", "_law_case", "_law_strange"] w := by
  cases hb : w.params.followText "special-get-raises" with
  | true =>
    have := run_true w
    rw [Hd.wwe w true hb] at this
    exact this
  | false =>
    have := run_false w
    rw [Hd.wwe w false hb] at this
    exact this
theorem facts {P : Program} {w : World} {K : PySem.W.Frag} {h : Heap} {mg : Str → Option Value} {f : Addr} (X : K.In h) (G : h.Ns mainGlobals mg) (hfa : mg ("law" : Str) = some (.ref f)) (c : Hd.SaysV fa fn ts ex w K) :
    ∃ fd : FuncData, (∀ (s : Shared) (v : Value), BindsTo s fd ⟨[v], []⟩ [("_law_script", v)]) ∧ ∀ base : Heap, K.In base → base.Ns mainGlobals mg → FnOk P w K mg base CX0 6 f fd ["_law_script"] (sp_law K) := by
  obtain ⟨fd_in_range, F_in_range⟩ := c.def_ 0 (d := d_in_range) rfl
  obtain ⟨fd_is_mark, F_is_mark⟩ := c.def_ 1 (d := d_is_mark) rfl
  obtain ⟨fd_is_basic, F_is_basic⟩ := c.def_ 2 (d := d_is_basic) rfl
  obtain ⟨fd_BadInstruction_init, F_BadInstruction_init⟩ := c.def_ 3 (d := d_BadInstruction_init) rfl
  obtain ⟨fd_needed, F_needed⟩ := c.def_ 4 (d := d_needed) rfl
  obtain ⟨fd_failing, F_failing⟩ := c.def_ 5 (d := d_failing) rfl
  obtain ⟨fd_Failure_init, F_Failure_init⟩ := c.def_ 6 (d := d_Failure_init) rfl
  obtain ⟨fd_fail, F_fail⟩ := c.def_ 7 (d := d_fail) rfl
  obtain ⟨fd_State_init, F_State_init⟩ := c.def_ 8 (d := d_State_init) rfl
  obtain ⟨fd_moved, F_moved⟩ := c.def_ 9 (d := d_moved) rfl
  obtain ⟨fd_execute, F_execute⟩ := c.def_ 10 (d := d_execute) rfl
  obtain ⟨fd__law_draw, F__law_draw⟩ := c.def_ 11 (d := d__law_draw) rfl
  obtain ⟨fd__law_strange, F__law_strange⟩ := c.def_ 12 (d := d__law_strange) rfl
  obtain ⟨fd__law_begin, F__law_begin⟩ := c.def_ 13 (d := d__law_begin) rfl
  obtain ⟨fd__law_mark, F__law_mark⟩ := c.def_ 14 (d := d__law_mark) rfl
  obtain ⟨fd__law_case, F__law_case⟩ := c.def_ 15 (d := d__law_case) rfl
  obtain ⟨fd_law, F_law⟩ := c.def_ 16 (d := d_law) rfl
  have g_in_range := He.glo_ok X G (c.fact 0 (f := .glo "in_range") rfl)
  have g_is_mark := He.glo_ok X G (c.fact 1 (f := .glo "is_mark") rfl)
  have g_is_basic := He.glo_ok X G (c.fact 2 (f := .glo "is_basic") rfl)
  have g_needed := He.glo_ok X G (c.fact 3 (f := .glo "needed") rfl)
  have g_failing := He.glo_ok X G (c.fact 4 (f := .glo "failing") rfl)
  have g_fail := He.glo_ok X G (c.fact 5 (f := .glo "fail") rfl)
  have g_moved := He.glo_ok X G (c.fact 6 (f := .glo "moved") rfl)
  have g_execute := He.glo_ok X G (c.fact 7 (f := .glo "execute") rfl)
  have g__law_draw := He.glo_ok X G (c.fact 8 (f := .glo "_law_draw") rfl)
  have g__law_strange := He.glo_ok X G (c.fact 9 (f := .glo "_law_strange") rfl)
  have g__law_begin := He.glo_ok X G (c.fact 10 (f := .glo "_law_begin") rfl)
  have g__law_mark := He.glo_ok X G (c.fact 11 (f := .glo "_law_mark") rfl)
  have g__law_case := He.glo_ok X G (c.fact 12 (f := .glo "_law_case") rfl)
  have g_law := He.glo_ok X G (c.fact 13 (f := .glo "law") rfl)
  have z_isinstance := He.free_ok X G (c.fact 14 (f := .free "isinstance") rfl)
  have z_int := He.free_ok X G (c.fact 15 (f := .free "int") rfl)
  have z_bool := He.free_ok X G (c.fact 16 (f := .free "bool") rfl)
  have z_str := He.free_ok X G (c.fact 17 (f := .free "str") rfl)
  have z_len := He.free_ok X G (c.fact 18 (f := .free "len") rfl)
  have z_tuple := He.free_ok X G (c.fact 19 (f := .free "tuple") rfl)
  have z_list := He.free_ok X G (c.fact 20 (f := .free "list") rfl)
  have z_range := He.free_ok X G (c.fact 21 (f := .free "range") rfl)
  have z_ValueError := He.free_ok X G (c.fact 22 (f := .free "ValueError") rfl)
  have hc_LETTERS := He.str_ok X G (c.fact 23 (f := .str "LETTERS" "abcdefghijklmnopqrstuvwxyz") rfl)
  have hm_State := He.glo_ok X G (c.fact 24 (f := .glo "State") rfl)
  have hm_NEEDED := He.glo_ok X G (c.fact 25 (f := .glo "NEEDED") rfl)
  have hm_Underflow := He.glo_ok X G (c.fact 26 (f := .glo "Underflow") rfl)
  have hm_EmptyRegister := He.glo_ok X G (c.fact 27 (f := .glo "EmptyRegister") rfl)
  have hm_Overflow := He.glo_ok X G (c.fact 28 (f := .glo "Overflow") rfl)
  have hm_Unexpected := He.glo_ok X G (c.fact 29 (f := .glo "Unexpected") rfl)
  have hm_Differs := He.glo_ok X G (c.fact 30 (f := .glo "Differs") rfl)
  have hm_Alike := He.glo_ok X G (c.fact 31 (f := .glo "Alike") rfl)
  have hm_BadState := He.glo_ok X G (c.fact 32 (f := .glo "BadState") rfl)
  have hm_BadInstruction := He.glo_ok X G (c.fact 33 (f := .glo "BadInstruction") rfl)
  have hm_Failure := He.glo_ok X G (c.fact 34 (f := .glo "Failure") rfl)
  have hm_ReelError := He.glo_ok X G (c.fact 35 (f := .glo "ReelError") rfl)
  obtain ⟨x1, x2, x3, x4⟩ := He.exc_ok (c.fact 36 (f := .exc "BadState") rfl)
  have er_BadState : ErrC K (He.ga K "BadState") := ⟨x1, x2, x3, x4⟩
  have cl_State := He.cls_ok (c.fact 37 (f := .cls "State") rfl)
  have na_State_stack := He.noat_ok (c.fact 38 (f := .noat "State" "stack") rfl)
  have na_State_registers := He.noat_ok (c.fact 39 (f := .noat "State" "registers") rfl)
  have mk_State := He.mkr_ok (c.fact 40 (f := .mkr "State") rfl)
  have m := c.more
  unfold ex at m
  obtain ⟨m1, m⟩ := He.ba m
  obtain ⟨m2, hx_PLAIN⟩ := Hd.ctupB_ok m1 rfl
  have hm_PLAIN := He.glo_ok X G m2
  obtain ⟨m1, m⟩ := He.ba m
  obtain ⟨m2, hx_DEPTHS⟩ := Hd.ctupB_ok m1 rfl
  have hm_DEPTHS := He.glo_ok X G m2
  obtain ⟨m1, m⟩ := He.ba m
  obtain ⟨m2, hx_STORES⟩ := Hd.ctupB_ok m1 rfl
  have hm_STORES := He.glo_ok X G m2
  obtain ⟨m1, m⟩ := He.ba m
  obtain ⟨m2, hx_MARKED⟩ := Hd.ctupB_ok m1 rfl
  have hm_MARKED := He.glo_ok X G m2
  obtain ⟨m1, m⟩ := He.ba m
  have hk_State_HEIGHT := Hd.cvalB_ok m1
  obtain ⟨m1, m⟩ := He.ba m
  have hk_State_REGISTERS := Hd.cvalB_ok m1
  obtain ⟨m1, m⟩ := He.ba m
  have oe_Underflow := Hd.oxB_ok m1
  obtain ⟨m1, m⟩ := He.ba m
  have oe_EmptyRegister := Hd.oxB_ok m1
  obtain ⟨m1, m⟩ := He.ba m
  have oe_Overflow := Hd.oxB_ok m1
  obtain ⟨m1, m⟩ := He.ba m
  have oe_Unexpected := Hd.oxB_ok m1
  obtain ⟨m1, m⟩ := He.ba m
  have oe_Differs := Hd.oxB_ok m1
  obtain ⟨m1, m⟩ := He.ba m
  have oe_Alike := Hd.oxB_ok m1
  obtain ⟨m1, m⟩ := He.ba m
  have oe_BadInstruction := Hd.oxB_ok m1
  obtain ⟨m1, m⟩ := He.ba m
  have hv_NEEDED := Hd.tabVB_ok m1
  have hd_NEEDED := c.tab 0 (t := (fun K => (He.ga K "NEEDED"), ["push", "drop", "keep", "load", "emit", "expect", "same", "differ"])) rfl
  obtain ⟨m1, m⟩ := He.ba m
  have fx := FxB_ok m1
  obtain ⟨m1, m⟩ := He.ba m
  have fb := FbB_ok m1
  obtain ⟨m1, m⟩ := He.ba m
  have fk := FkB_ok m1
  have e := hfa.symm.trans g_law
  cases e
  have b := FunD.bindsA (ps := ["_law_script"]) F_law fun _ _ _ _ _ _ us hl => match us, hl with | [_], _ => rfl
  refine ⟨fd_law, fun s v => b s [v] rfl, fun base _ _ => ?_⟩
  have k_in_range := ok_in_range (P := P) (w := w) (mg := mg) (base := base) F_in_range z_isinstance z_int z_bool
  have c_in_range := cal_in_range F_in_range g_in_range k_in_range
  have k_is_mark := ok_is_mark (P := P) (w := w) (mg := mg) (base := base) F_is_mark z_isinstance z_str z_len hc_LETTERS
  have c_is_mark := cal_is_mark F_is_mark g_is_mark k_is_mark
  have k_is_basic := ok_is_basic (P := P) (w := w) (mg := mg) (base := base) F_is_basic z_isinstance z_tuple z_len z_str hm_PLAIN hx_PLAIN hm_DEPTHS hx_DEPTHS hm_State hk_State_HEIGHT hm_STORES hx_STORES hk_State_REGISTERS hm_MARKED hx_MARKED c_in_range c_is_mark
  have c_is_basic := cal_is_basic F_is_basic g_is_basic k_is_basic
  have k_BadInstruction_init := ok_BadInstruction_init (P := P) (w := w) (mg := mg) (base := base) F_BadInstruction_init 
  have ox_BadInstruction : OxC P w K mg base 1 "BadInstruction" (He.ga K "BadInstruction") (sp_BadInstruction_init K) := ⟨oe_BadInstruction.1, hm_BadInstruction, _, _, _, oe_BadInstruction.2.1, oe_BadInstruction.2.2, k_BadInstruction_init, bd_BadInstruction_init F_BadInstruction_init⟩
  have k_needed := ok_needed (P := P) (w := w) (mg := mg) (base := base) F_needed hm_NEEDED hd_NEEDED hv_NEEDED
  have c_needed := cal_needed F_needed g_needed k_needed
  have k_failing := ok_failing (P := P) (w := w) (mg := mg) (base := base) F_failing cl_State na_State_stack z_len na_State_registers hm_State hk_State_HEIGHT c_needed
  have c_failing := cal_failing F_failing g_failing k_failing
  have k_Failure_init := ok_Failure_init (P := P) (w := w) (mg := mg) (base := base) F_Failure_init 
  have ox_Underflow : OxC P w K mg base 1 "Underflow" (He.ga K "Underflow") (sp_Failure_init K) := ⟨oe_Underflow.1, hm_Underflow, _, _, _, oe_Underflow.2.1, oe_Underflow.2.2, k_Failure_init, bd_Failure_init F_Failure_init⟩
  have ox_EmptyRegister : OxC P w K mg base 1 "EmptyRegister" (He.ga K "EmptyRegister") (sp_Failure_init K) := ⟨oe_EmptyRegister.1, hm_EmptyRegister, _, _, _, oe_EmptyRegister.2.1, oe_EmptyRegister.2.2, k_Failure_init, bd_Failure_init F_Failure_init⟩
  have ox_Overflow : OxC P w K mg base 1 "Overflow" (He.ga K "Overflow") (sp_Failure_init K) := ⟨oe_Overflow.1, hm_Overflow, _, _, _, oe_Overflow.2.1, oe_Overflow.2.2, k_Failure_init, bd_Failure_init F_Failure_init⟩
  have ox_Unexpected : OxC P w K mg base 1 "Unexpected" (He.ga K "Unexpected") (sp_Failure_init K) := ⟨oe_Unexpected.1, hm_Unexpected, _, _, _, oe_Unexpected.2.1, oe_Unexpected.2.2, k_Failure_init, bd_Failure_init F_Failure_init⟩
  have ox_Differs : OxC P w K mg base 1 "Differs" (He.ga K "Differs") (sp_Failure_init K) := ⟨oe_Differs.1, hm_Differs, _, _, _, oe_Differs.2.1, oe_Differs.2.2, k_Failure_init, bd_Failure_init F_Failure_init⟩
  have ox_Alike : OxC P w K mg base 1 "Alike" (He.ga K "Alike") (sp_Failure_init K) := ⟨oe_Alike.1, hm_Alike, _, _, _, oe_Alike.2.1, oe_Alike.2.2, k_Failure_init, bd_Failure_init F_Failure_init⟩
  have k_fail := ok_fail (P := P) (w := w) (mg := mg) (base := base) F_fail ox_Underflow hm_Underflow ox_EmptyRegister hm_EmptyRegister ox_Overflow hm_Overflow ox_Unexpected hm_Unexpected ox_Differs hm_Differs ox_Alike hm_Alike fx
  have c_fail := CalX.def_ (x := "fail") k_fail g_fail F_fail.kp (bd_fail F_fail)
  have k_State_init := ok_State_init (P := P) (w := w) (mg := mg) (base := base) F_State_init z_len hm_State hk_State_HEIGHT hk_State_REGISTERS hm_BadState er_BadState cl_State na_State_stack z_tuple na_State_registers c_is_mark
  have c_State : CalX P w K mg base 3 "State" (sp_State K) := CalX.make mk_State k_State_init hm_State (bd_State_init F_State_init) new_State
  have k_moved := ok_moved (P := P) (w := w) (mg := mg) (base := base) F_moved z_list cl_State na_State_stack na_State_registers c_State
  have c_moved := CalX.def_ (x := "moved") k_moved g_moved F_moved.kp (bd_moved F_moved)
  have k_execute := ok_execute (P := P) (w := w) (mg := mg) (base := base) F_execute ox_BadInstruction hm_BadInstruction c_is_basic c_failing c_fail c_moved fb
  have c_execute := CalX.def_ (x := "execute") k_execute g_execute F_execute.kp (bd_execute F_execute)
  have k__law_draw := ok__law_draw (P := P) (w := w) (mg := mg) (base := base) F__law_draw z_len z_int
  have c__law_draw := cal__law_draw F__law_draw g__law_draw k__law_draw
  have k__law_strange := ok__law_strange (P := P) (w := w) (mg := mg) (base := base) F__law_strange z_len c__law_draw
  have c__law_strange := cal__law_strange F__law_strange g__law_strange k__law_strange
  have k__law_begin := ok__law_begin (P := P) (w := w) (mg := mg) (base := base) F__law_begin z_list
  have c__law_begin := cal__law_begin F__law_begin g__law_begin k__law_begin
  have k__law_mark := ok__law_mark (P := P) (w := w) (mg := mg) (base := base) F__law_mark z_range c__law_draw
  have c__law_mark := cal__law_mark F__law_mark g__law_mark k__law_mark
  have k__law_case := ok__law_case (P := P) (w := w) (mg := mg) (base := base) F__law_case z_range c__law_mark c__law_draw
  have c__law_case := cal__law_case F__law_case g__law_case k__law_case
  have k_law := ok_law (P := P) (w := w) (mg := mg) (base := base) F_law hm_BadInstruction c_State z_isinstance hm_Failure hm_ReelError hm_Underflow z_ValueError hm_Unexpected hm_Overflow hm_EmptyRegister hm_Alike hm_Differs z_range z_len c_execute c__law_strange c__law_begin c__law_draw c__law_case fk
  exact k_law
end K02
end U
open PySem PySem.W PySem.Calls PyProof.Rows
theorem PySem.Challenge.cw_reelcode_k02_failures_are_apart_holds : PySem.Challenge.rw_reelcode_k02_failures_are_apart.Holds := by
  w_on; o_law
  refine HandSHeadRun.head_any (r := OpenLaw.row PySem.Challenge.rw_reelcode_k02_failures_are_apart) (q := view (OpenLaw.row PySem.Challenge.rw_reelcode_k02_failures_are_apart).prog [35]) (H := U.K02.hk) (ob := U.K02.ob) (M := 12000) (loose := ["ReelError", "Failure", "Underflow", "EmptyRegister", "Overflow", "Unexpected", "Differs", "Alike", "BadState", "BadInstruction", "LETTERS", "is_mark", "State", "PLAIN", "DEPTHS", "STORES", "MARKED", "in_range", "is_basic", "NEEDED", "needed", "failing", "fail", "moved", "execute", "_law_begin", "_law_draw", "_law_mark", "_law_case", "_law_strange"]) (d := HandSHeadRun.topDef (OpenLaw.row PySem.Challenge.rw_reelcode_k02_failures_are_apart).prog 35) (kwd := []) U.K02.ob_eq
    (by kernel_rfl) (fun s => by kernel_rfl) U.K02.run (by kernel_rfl) (by kernel_rfl) (by kernel_rfl) (by rfl) (by first | assumption | decide +kernel) (by decide +kernel) ⟨rfl, rfl, rfl, rfl, rfl, by decide +kernel⟩ ?hw ?hc
  case hw => w_witness2
  case hc =>
    refine L2.walk_ofE (l := PySem.Challenge.rw_reelcode_k02_failures_are_apart) (n := 63) (k := 6) (x := "_law_script") (CX := L2.CX0) rfl (by decide) (by kernel_rfl) ⟨rfl, by decide, by decide⟩ ?F (fun _ _ _ _ z => z)
    intro w mg fa h Y G hmg0
    obtain ⟨K, KX, c⟩ := Y
    have hmg : mg ("law" : PySem.Str) = some (.ref fa) := by
      have e : (HandSHeadRun.topDef (OpenLaw.row PySem.Challenge.rw_reelcode_k02_failures_are_apart).prog 35).name = ("law" : PySem.Str) := by kernel_rfl
      rw [← e]
      exact hmg0
    obtain ⟨fd, hb, hF⟩ := U.K02.facts (P := (PySem.Challenge.rw_reelcode_k02_failures_are_apart).prog) (w := w) KX G hmg c
    exact ⟨K, fd, U.K02.sp_law K, KX, hb, fun H a ns hl hz hS => ⟨a, ns, rfl, hS, fun _ => rfl⟩, hF⟩
end
