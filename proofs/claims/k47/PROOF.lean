import PyProof.Rows.All
import Wide.All
import OpenK.AllK
import Wide.FinOn
import KE.KStateDown
import Lean
import HandS.ForMost
import HandS.TupAny
import HandS.TupMul
import HandS.IsInst
import HandS.Walk
import HandS.Style
import HandS.ClsMeth
import HandS.Defaults
import HandS.Evl
import HandS.Head0
import HandS.Head1
import HandS.Head2
import HandS.HeadEnd
import HandS.HeadHook1
import HandS.HeadHook2
import PySem.Challenge.RW_reelcode_k47_which_values_are_instructio
set_option Elab.async false
set_option linter.all false
set_option maxRecDepth 100000
set_option maxHeartbeats 0
section
namespace U
open PySem PySem.Spec PyProof.Rows L2

theorem peOf {X : Cx} {e : Expr} {t t' : TE} (h : PE X e t) (m : ∀ σ H Q, t' σ H Q → t σ H Q) : PE X e t' := ⟨fun pins s σ H Q I q => h.run pins s σ H Q I (m σ H Q q)⟩
theorem ptOf {X : Cx} {e : Expr} {t t' : TT} (h : PT X e t) (m : ∀ σ H Q, t' σ H Q → t σ H Q) : PT X e t' := ⟨fun pins s σ H Q I q => h.run pins s σ H Q I (m σ H Q q)⟩
theorem psOf {X : Cx} {e : Stmt} {t t' : TS} (h : PS X e t) (m : ∀ D σ H, t' D σ H → t D σ H) : PS X e t' := ⟨fun pins s σ H D I q => h.run pins s σ H D I (m D σ H q)⟩
theorem poOf {X : Cx} {e : Option Expr} {t t' : TO} (h : PO X e t) (m : ∀ σ H Q, t' σ H Q → t σ H Q) : PO X e t' := ⟨fun pins s σ H Q I q => h.run pins s σ H Q I (m σ H Q q)⟩
theorem opOf {X : Cx} {f : Value → Value → Sem Value} {r r' : R2} (h : OpR X f r) (m : ∀ x y H Q, r' x y H Q → r x y H Q) : OpR X f r' := fun pins s σ H x y v u Q I rx ry q => h pins s σ H x y v u Q I rx ry (m x y H Q q)
theorem ixOf {X : Cx} {r r' : R2} (h : IxR X r) (m : ∀ x y H Q, r' x y H Q → r x y H Q) : IxR X r' := fun value slice pins s σ H x y v u Q I rx ry q hs => h value slice pins s σ H x y v u Q I rx ry (m x y H Q q) hs
theorem crOf {X : Cx} {f : Value} {r r' : List V → Hp → VK → Prop} (h : CallR X f r) (m : ∀ xs H Q, r' xs H Q → r xs H Q) : CallR X f r' := fun pins s σ H xs us Q I rx q => h pins s σ H xs us Q I rx (m xs H Q q)
theorem mtOf {X : Cx} {id : String} {r r' : V → List V → Hp → VK → Prop} (h : MtR X id r) (m : ∀ x xs H Q, r' x xs H Q → r x xs H Q) : MtR X id r' := by
  intro pins s
  intro σ H x xs v us Q I rx rs q
  exact h pins s σ H x xs v us Q I rx rs (m x xs H Q q)
theorem slOf {X : Cx} {r r' : V → Option Int → Option Int → Hp → VK → Prop} (h : SlR X r) (m : ∀ x l u H Q, r' x l u H Q → r x l u H Q) : SlR X r' := by
  intro pins s σ H x v vl vu lo hi sl Q I rx hs pl pu q
  exact h pins s σ H x v vl vu lo hi sl Q I rx hs pl pu (m x lo hi H Q q)

def seqAt (H : Hp) (p : Addr) : Option (List V) := match H p with
  | some (.lst xs) => some xs
  | some (.tup xs) => some xs
  | some (.frz _ (.lst xs)) => some xs
  | some (.frz _ (.tup xs)) => some xs
  | _ => none
theorem seqAt_cases {K : PySem.W.Frag} {H : Hp} {p : Addr} {xs : List V} (h : seqAt H p = some xs) : SqL K H p xs ∨ SqT K H p xs := by
  unfold seqAt at h
  split at h
  · rename_i ys e; cases h; exact .inl (.inl (.inl e))
  · rename_i ys e; cases h; exact .inr (.inl (.inl e))
  · rename_i o ys e; cases h; exact .inl (.inl (.inr ⟨o, e⟩))
  · rename_i o ys e; cases h; exact .inr (.inl (.inr ⟨o, e⟩))
  · cases h
theorem seqAt_lst {H : Hp} {p : Addr} {xs : List V} (h : H p = some (.lst xs)) : seqAt H p = some xs := by unfold seqAt; rw [h]
theorem seqAt_tup {H : Hp} {p : Addr} {xs : List V} (h : H p = some (.tup xs)) : seqAt H p = some xs := by unfold seqAt; rw [h]

inductive Ty where
  | non | bl | int | str | lst | tup | dict
  deriving DecidableEq
def Ty.name : Ty → String
  | .non => "NoneType" | .bl => "bool" | .int => "int" | .str => "str" | .lst => "list" | .tup => "tuple" | .dict => "dict"
def Ty.isa : Ty → Ty → Bool
  | .non, .non => true | .bl, .bl => true | .int, .int => true | .str, .str => true | .lst, .lst => true | .tup, .tup => true | .dict, .dict => true
  | .bl, .int => true
  | _, _ => false
theorem isa_tab : (Ty.non.isa .non = true) ∧ (Ty.non.isa .bl = false) ∧ (Ty.non.isa .int = false) ∧ (Ty.non.isa .str = false) ∧ (Ty.non.isa .lst = false) ∧ (Ty.non.isa .tup = false) ∧ (Ty.non.isa .dict = false) ∧ (Ty.bl.isa .non = false) ∧ (Ty.bl.isa .bl = true) ∧ (Ty.bl.isa .int = true) ∧ (Ty.bl.isa .str = false) ∧ (Ty.bl.isa .lst = false) ∧ (Ty.bl.isa .tup = false) ∧ (Ty.bl.isa .dict = false) ∧ (Ty.int.isa .non = false) ∧ (Ty.int.isa .bl = false) ∧ (Ty.int.isa .int = true) ∧ (Ty.int.isa .str = false) ∧ (Ty.int.isa .lst = false) ∧ (Ty.int.isa .tup = false) ∧ (Ty.int.isa .dict = false) ∧ (Ty.str.isa .non = false) ∧ (Ty.str.isa .bl = false) ∧ (Ty.str.isa .int = false) ∧ (Ty.str.isa .str = true) ∧ (Ty.str.isa .lst = false) ∧ (Ty.str.isa .tup = false) ∧ (Ty.str.isa .dict = false) ∧ (Ty.lst.isa .non = false) ∧ (Ty.lst.isa .bl = false) ∧ (Ty.lst.isa .int = false) ∧ (Ty.lst.isa .str = false) ∧ (Ty.lst.isa .lst = true) ∧ (Ty.lst.isa .tup = false) ∧ (Ty.lst.isa .dict = false) ∧ (Ty.tup.isa .non = false) ∧ (Ty.tup.isa .bl = false) ∧ (Ty.tup.isa .int = false) ∧ (Ty.tup.isa .str = false) ∧ (Ty.tup.isa .lst = false) ∧ (Ty.tup.isa .tup = true) ∧ (Ty.tup.isa .dict = false) ∧ (Ty.dict.isa .non = false) ∧ (Ty.dict.isa .bl = false) ∧ (Ty.dict.isa .int = false) ∧ (Ty.dict.isa .str = false) ∧ (Ty.dict.isa .lst = false) ∧ (Ty.dict.isa .tup = false) ∧ (Ty.dict.isa .dict = true) := by decide
theorem Ty.kit {K : PySem.W.Frag} (a c : Ty) (h : c ≠ .non) : PySem.W.kitOne K (.type a.name) (.type c.name) = some (a.isa c) := by
  cases c with
  | non => exact absurd rfl h
  | _ => cases a <;> exact kit_ty (by decide +kernel)
def tyV (H : Hp) : V → Option Ty
  | .non => some .non
  | .bl _ => some .bl
  | .int _ => some .int
  | .str _ => some .str
  | .ref p => match H p with
    | some (.lst _) => some .lst
    | some (.tup _) => some .tup
    | some (.dK _) => some .dict
    | some (.dT _) => some .dict
    | _ => none
  | _ => none
theorem tyV_ok {K : PySem.W.Frag} {H : Hp} {x : V} {t : Ty} (h : tyV H x = some t) : TyX K H x (.type t.name) := by
  unfold tyV at h
  split at h
  · cases h; exact .base .non
  · cases h; exact .base (.bl _)
  · cases h; exact .base (.int _)
  · cases h; exact .base (.str _)
  · split at h
    · rename_i e; cases h; exact .base (.lst e)
    · rename_i e; cases h; exact .base (.tup e)
    · rename_i e; cases h; exact .base (.dK e)
    · rename_i e; cases h; exact .base (.dT e)
    · cases h
  · cases h

section
variable {X : Cx} {a b e : Expr} {ta tb te : TE} {pos : Pos}
def uVar (i : Nat) : TE := fun σ H Q => match σ[i]? with
  | some (some v) => Q v H
  | _ => False
theorem pe_uVar (i : Nat) {x : Str} {pos : Pos} (hN : X.N[i]? = some x := by rfl) (hv : Vis X.env.scope x := by first | exact Or.inl rfl | exact Or.inr (Or.inl rfl) | exact Or.inr (Or.inr rfl)) (hd : (x == ("__debug__" : Str)) = false := by decide)
    (hcd : (x == ("__classdict__" : Str)) = false := by decide) : PE X (.Name x pos) (uVar i) :=
  peOf (pe_var hN hv hd hcd) fun σ H Q q => by
    unfold uVar at q
    split at q
    · rename_i v e; exact ⟨v, e, q⟩
    · exact q.elim

def rAddU : R2 := fun x y H Q => match x, y with
  | .int i, .int j => Q (.int (i + j)) H
  | .str i, .str j => i.length + j.length ≤ sizeLine ∧ Q (.str (i ++ j)) H
  | .ref p, .ref q => match H p, H q with
    | some (.lst xs), some (.lst ys) => xs.length + ys.length ≤ sizeLine ∧ ∀ r, H r = none → Q (.ref r) (upd H r (.lst (xs ++ ys)))
    | some (.tup xs), some (.tup ys) => xs.length + ys.length ≤ sizeLine ∧ (xs = [] → Q (.ref q) H) ∧ (xs ≠ [] → ys = [] → Q (.ref p) H) ∧ (xs ≠ [] → ys ≠ [] → ∀ r, H r = none → Q (.ref r) (upd H r (.tup (xs ++ ys))))
    | _, _ => False
  | _, _ => False
theorem op_addU : OpR X (binaryOp .Add) rAddU := by
  refine opOf (op_add.or (op_add_str.or (op_cat.or op_catA))) fun x y H Q q => ?_
  unfold rAddU at q
  split at q
  · exact .inl ⟨_, _, rfl, rfl, q⟩
  · exact .inr (.inl ⟨_, _, rfl, rfl, q.1, q.2⟩)
  · split at q
    · rename_i h1 h2; exact .inr (.inr (.inl ⟨_, _, _, _, rfl, rfl, h1, h2, q.1, q.2⟩))
    · rename_i h1 h2; exact .inr (.inr (.inr ⟨_, _, _, _, rfl, rfl, .of h1, .of h2, q⟩))
    · exact q.elim
  · exact q.elim
def rInt (g : Int → Int → V) : R2 := fun x y H Q => match x, y with
  | .int i, .int j => Q (g i j) H
  | _, _ => False
def rIntC (C : Int → Int → Prop) (g : Int → Int → V) : R2 := fun x y H Q => match x, y with
  | .int i, .int j => C i j ∧ Q (g i j) H
  | _, _ => False
theorem rInt_of {g : Int → Int → V} {x y : V} {H : Hp} {Q : VK} (q : rInt g x y H Q) : rI0 g x y H Q := by
  unfold rInt at q
  split at q
  · exact ⟨_, _, rfl, rfl, q⟩
  · exact q.elim
theorem rIntC_of {C : Int → Int → Prop} {g : Int → Int → V} {x y : V} {H : Hp} {Q : VK} (q : rIntC C g x y H Q) : rI C g x y H Q := by
  unfold rIntC at q
  split at q
  · exact ⟨_, _, rfl, rfl, q.1, q.2⟩
  · exact q.elim
def rAddI : R2 := rInt fun i j => .int (i + j)
theorem op_addI : OpR X (binaryOp .Add) rAddI := opOf op_add fun _ _ _ _ => rInt_of
def rAddS : R2 := fun x y H Q => match x, y with
  | .str i, .str j => i.length + j.length ≤ sizeLine ∧ Q (.str (i ++ j)) H
  | _, _ => False
theorem op_addS : OpR X (binaryOp .Add) rAddS := opOf op_addU fun x y H Q q => by
  unfold rAddS at q
  split at q
  · exact q
  · exact q.elim
def rAddL : R2 := fun x y H Q => match x, y with
  | .ref p, .ref q => match H p, H q with
    | some (.lst xs), some (.lst ys) => xs.length + ys.length ≤ sizeLine ∧ ∀ r, H r = none → Q (.ref r) (upd H r (.lst (xs ++ ys)))
    | _, _ => False
  | _, _ => False
theorem op_addL : OpR X (binaryOp .Add) rAddL := opOf op_addU fun x y H Q q => by
  unfold rAddL at q
  split at q
  · split at q
    · rename_i h1 h2
      unfold rAddU
      simp only [h1, h2]
      exact q
    · exact q.elim
  · exact q.elim
def rAddT : R2 := fun x y H Q => match x, y with
  | .ref p, .ref q => match H p, H q with
    | some (.tup xs), some (.tup ys) => xs.length + ys.length ≤ sizeLine ∧ (xs = [] → Q (.ref q) H) ∧ (xs ≠ [] → ys = [] → Q (.ref p) H) ∧ (xs ≠ [] → ys ≠ [] → ∀ r, H r = none → Q (.ref r) (upd H r (.tup (xs ++ ys))))
    | _, _ => False
  | _, _ => False
theorem op_addT : OpR X (binaryOp .Add) rAddT := opOf op_addU fun x y H Q q => by
  unfold rAddT at q
  split at q
  · split at q
    · rename_i h1 h2
      unfold rAddU
      simp only [h1, h2]
      exact q
    · exact q.elim
  · exact q.elim
def rSubU : R2 := rInt fun i j => .int (i - j)
def rMulI : R2 := rIntC CMul fun i j => .int (i * j)
def rDivU : R2 := rIntC CDiv fun i j => .int (i / j)
def rModU : R2 := rIntC (fun _ j => 0 < j) fun i j => .int (i % j)
def rPowU : R2 := rIntC CPow fun i j => .int (i ^ j.toNat)
theorem op_subU : OpR X (binaryOp .Sub) rSubU := opOf op_sub fun _ _ _ _ => rInt_of
theorem op_mulI : OpR X (binaryOp .Mult) rMulI := opOf op_mul fun _ _ _ _ => rIntC_of
theorem op_divU : OpR X (binaryOp .FloorDiv) rDivU := opOf op_fdiv fun _ _ _ _ => rIntC_of
theorem op_modU : OpR X (binaryOp .Mod) rModU := opOf op_mod fun _ _ _ _ => rIntC_of
theorem op_powU : OpR X (binaryOp .Pow) rPowU := opOf op_pow fun _ _ _ _ => rIntC_of
def rLtU : R2 := rInt fun i j => .bl (decide (i < j))
def rLeU : R2 := rInt fun i j => .bl (decide (i ≤ j))
def rGtU : R2 := rInt fun i j => .bl (decide (j < i))
def rGeU : R2 := rInt fun i j => .bl (decide (j ≤ i))
theorem op_ltU : OpR X (compareOp .Lt) rLtU := opOf op_lt fun _ _ _ _ => rInt_of
theorem op_leU : OpR X (compareOp .LtE) rLeU := opOf op_le fun _ _ _ _ => rInt_of
theorem op_gtU : OpR X (compareOp .Gt) rGtU := opOf op_gt fun _ _ _ _ => rInt_of
theorem op_geU : OpR X (compareOp .GtE) rGeU := opOf op_ge fun _ _ _ _ => rInt_of
def rEqS : R2 := fun x y H Q => scal x y = true ∧ Q (.bl (decide (x = y))) H
def rNeS : R2 := fun x y H Q => scal x y = true ∧ Q (.bl (!decide (x = y))) H
theorem op_eqS : OpR X (compareOp .Eq) rEqS := op_eq
theorem op_neS : OpR X (compareOp .NotEq) rNeS := op_ne
def rIsNU : R2 := fun x y H Q => y = .non ∧ Q (.bl (decide (x = .non))) H
def rNotNU : R2 := fun x y H Q => y = .non ∧ Q (.bl (!decide (x = .non))) H
theorem op_isNU : OpR X (compareOp .Is) rIsNU := op_isN
theorem op_notNU : OpR X (compareOp .IsNot) rNotNU := op_notN
def rInU (neg : Bool) : R2 := fun x y H Q => match y with
  | .str z => ∃ c, x = .str ⟨#[c]⟩ ∧ Q (.bl (xor neg (decide (c ∈ z.cps.toList)))) H
  | .ref p => match seqAt H p with
    | some xs => flatV x = true ∧ xs.all flatV = true ∧ Q (.bl (xor neg (inV x xs))) H
    | none => False
  | _ => False
theorem op_inU : OpR X (compareOp .In) (rInU false) := by
  refine opOf (op_in_sign.or op_in_seq) fun x y H Q q => ?_
  unfold rInU at q
  split at q
  · obtain ⟨c, rfl, q⟩ := q
    exact .inl ⟨c, _, rfl, rfl, by simpa using q⟩
  · split at q
    · rename_i e
      refine .inr ⟨_, _, rfl, seqAt_cases e, q.1, q.2.1, ?_⟩
      simpa using q.2.2
    · exact q.elim
  · exact q.elim
theorem op_notInU : OpR X (compareOp .NotIn) (rInU true) := by
  refine opOf (op_notIn_sign.or op_notIn_seq) fun x y H Q q => ?_
  unfold rInU at q
  split at q
  · obtain ⟨c, rfl, q⟩ := q
    exact .inl ⟨c, _, rfl, rfl, by simpa using q⟩
  · split at q
    · rename_i e
      refine .inr ⟨_, _, rfl, seqAt_cases e, q.1, q.2.1, ?_⟩
      simpa using q.2.2
    · exact q.elim
  · exact q.elim
def rInG (p : Addr) (xs : List V) (neg : Bool) : R2 := fun x y H Q => y = .ref p ∧ flatV x = true ∧ Q (.bl (xor neg (inV x xs))) H
theorem op_inG {p : Addr} {xs : List V} (hx : ∀ H, SqT X.K H p xs) (hf : xs.all flatV = true) : OpR X (compareOp .In) (rInG p xs false) :=
  opOf op_in_seq fun x y H Q q => ⟨p, xs, q.1, .inr (hx H), q.2.1, hf, by simpa using q.2.2⟩
theorem op_notInG {p : Addr} {xs : List V} (hx : ∀ H, SqT X.K H p xs) (hf : xs.all flatV = true) : OpR X (compareOp .NotIn) (rInG p xs true) :=
  opOf op_notIn_seq fun x y H Q q => ⟨p, xs, q.1, .inr (hx H), q.2.1, hf, by simpa using q.2.2⟩
def rIxU : R2 := fun x y H Q => match x, y with
  | .str z, .int i => z.length ≤ sizeLine ∧ ∃ c, atI z.cps.toList i = some c ∧ Q (.str ⟨#[c]⟩) H
  | .ref p, .int i => match seqAt H p with
    | some xs => ∃ v, atI xs i = some v ∧ Q v H
    | none => False
  | _, _ => False
theorem ix_U : IxR X rIxU := ixOf ix_seq fun x y H Q q => by
  unfold rIxU at q
  split at q
  · obtain ⟨h, c, h2, q⟩ := q
    exact .inr (.inr ⟨_, _, c, rfl, rfl, h, h2, q⟩)
  · split at q
    · rename_i e
      obtain ⟨v, h2, q⟩ := q
      rcases seqAt_cases (K := X.K) e with h | h
      · exact .inl ⟨_, _, _, v, rfl, rfl, h, h2, q⟩
      · exact .inr (.inl ⟨_, _, _, v, rfl, rfl, h, h2, q⟩)
    · exact q.elim
  · exact q.elim
def rSetU : V → V → V → Hp → (Hp → Prop) → Prop := fun o i v H Q => match o, i with
  | .ref p, .int k => match H p with
    | some (.lst xs) => ∃ j, ixN xs.length k = some j ∧ Q (upd H p (.lst (xs.set j v)))
    | _ => False
  | _, _ => False
theorem set_U : PSet X rSetU := by
  intro pins s σ H o i v uo ui uv Q I r1 r2 r3 q
  refine set_list pins s σ H o i v uo ui uv Q I r1 r2 r3 ?_
  unfold rSetU at q
  split at q
  · split at q
    · rename_i e
      obtain ⟨j, h, q⟩ := q
      exact ⟨_, _, _, j, rfl, rfl, e, h, q⟩
    · exact q.elim
  · exact q.elim
def uPart (t : TE) : TO := fun σ H Q => t σ H fun x H1 => ∃ i, x = .int i ∧ Q (some i) H1
theorem po_uPart (h : PE X e te) : PO X (some e) (uPart te) := po_some h
def wholeT (n : Nat) (lo hi : Option Int) : Prop := HT.sIx n 0 lo = 0 ∧ HT.sIx n n hi = n
def rSlU : V → Option Int → Option Int → Hp → VK → Prop := fun x lo hi H Q => match x with
  | .str z => z.length ≤ sizeLine ∧ Q (.str (cutS z lo hi)) H
  | .ref p => match H p with
    | some (.lst xs) => ∀ q, H q = none → Q (.ref q) (upd H q (.lst (cutV xs lo hi)))
    | some (.tup xs) => (wholeT xs.length lo hi → Q (.ref p) H) ∧ (¬ wholeT xs.length lo hi → ∀ q, H q = none → Q (.ref q) (upd H q (.tup (cutV xs lo hi))))
    | _ => False
  | _ => False
theorem slOr {r r' : V → Option Int → Option Int → Hp → VK → Prop} (h : SlR X r) (h' : SlR X r') : SlR X (fun x lo hi H Q => r x lo hi H Q ∨ r' x lo hi H Q) := h.or h'
theorem sl_U : SlR X rSlU := slOf (slOr sl_str (slOr sl_list sl_tupA)) fun x lo hi H Q q => by
  unfold rSlU at q
  split at q
  · exact .inl ⟨_, rfl, q.1, q.2⟩
  · split at q
    · rename_i e; exact .inr (.inl ⟨_, _, rfl, .of e, q⟩)
    · rename_i e; exact .inr (.inr ⟨_, _, rfl, .of e, q.1, q.2⟩)
    · exact q.elim
  · exact q.elim
def rLenU : List V → Hp → VK → Prop := fun xs H Q => match xs with
  | [.str z] => z.length ≤ sizeLine ∧ Q (.int z.length) H
  | [.ref p] => match seqAt H p with
    | some ys => Q (.int ys.length) H
    | none => match H p with
      | some (.dK kvs) => Q (.int kvs.length) H
      | _ => False
  | _ => False
theorem lenV_dict {pins : List (Addr × Obj)} {s : Shared} {σ : L2.St} {H : Hp} {p : Addr} {kvs : List (Key × V)} {u : Value} {Q : VK} (I : Inv X pins σ H s) (r : RelV (.ref p) u) (h : H p = some (.dK kvs)) (q : Q (.int kvs.length) H) :
    wpAny (model X.prog X.w) X.A (call (.builtin "len") [u]) (EP X pins σ Q) X.xe s := call_lenD pins s σ H [.ref p] [u] Q I (.cons r .nil) ⟨p, kvs, rfl, h, q⟩
theorem call_lenU : CallR X (.builtin "len") rLenU := by
  intro pins s σ H xs us Q I r q
  unfold rLenU at q
  split at q
  · exact call_len_str pins s σ H _ us Q I r ⟨_, rfl, q.1, q.2⟩
  · rename_i p
    split at q
    · rename_i e; exact call_len_seq pins s σ H _ us Q I r ⟨p, _, rfl, seqAt_cases e, q⟩
    · split at q
      · rename_i e
        obtain ⟨u, rfl, r1⟩ := vals1 r
        exact lenV_dict I r1 e q
      · exact q.elim
  · exact q.elim
def strsOf : List V → Option (List Str)
  | [] => some []
  | .str x :: r => (strsOf r).map (x :: ·)
  | _ => none
theorem strsOf_eq : ∀ {xs : List V} {ys : List Str}, strsOf xs = some ys → xs = ys.map V.str
  | [], _, h => by cases h; rfl
  | .str x :: r, ys, h => by
    unfold strsOf at h
    cases e : strsOf r with
    | none => rw [e] at h; cases h
    | some zs =>
      rw [e] at h
      cases h
      rw [strsOf_eq e]
      rfl
  | .non :: _, _, h => by cases h
  | .bl _ :: _, _, h => by cases h
  | .int _ :: _, _, h => by cases h
  | .byt _ :: _, _, h => by cases h
  | .flt _ :: _, _, h => by cases h
  | .ref _ :: _, _, h => by cases h
  | .ty _ :: _, _, h => by cases h
def blsOf : List V → Option (List Bool)
  | [] => some []
  | .bl x :: r => (blsOf r).map (x :: ·)
  | _ => none
theorem blsOf_eq : ∀ {xs : List V} {ys : List Bool}, blsOf xs = some ys → xs = ys.map V.bl
  | [], _, h => by cases h; rfl
  | .bl x :: r, ys, h => by
    unfold blsOf at h
    cases e : blsOf r with
    | none => rw [e] at h; cases h
    | some zs =>
      rw [e] at h
      cases h
      rw [blsOf_eq e]
      rfl
  | .non :: _, _, h => by cases h
  | .str _ :: _, _, h => by cases h
  | .int _ :: _, _, h => by cases h
  | .byt _ :: _, _, h => by cases h
  | .flt _ :: _, _, h => by cases h
  | .ref _ :: _, _, h => by cases h
  | .ty _ :: _, _, h => by cases h
def rAllU : List V → Hp → VK → Prop := fun xs H Q => ∃ (p : Addr) (bs : List Bool), xs = [.ref p] ∧ H p = some (.lst (bs.map V.bl)) ∧ Q (.bl (bs.all id)) H
def rAnyU : List V → Hp → VK → Prop := fun xs H Q => ∃ (p : Addr) (bs : List Bool), xs = [.ref p] ∧ H p = some (.lst (bs.map V.bl)) ∧ Q (.bl (bs.any id)) H
theorem call_allU (hc : X.calm = true) : CallR X (.builtin "all") rAllU := crOf (cr_all hc) fun xs H Q ⟨p, bs, e, h, q⟩ => ⟨p, bs, e, .of h, q⟩
theorem call_anyU (hc : X.calm = true) : CallR X (.builtin "any") rAnyU := crOf (cr_any hc) fun xs H Q ⟨p, bs, e, h, q⟩ => ⟨p, bs, e, .of h, q⟩
theorem pe_uCon {C : Addr} {c f : Str} {v : V} {p2 : Pos} (hg : Gl X c) (hm : X.mg c = some (.ref C)) (hk : ClX.CRead X.K C (.type "type") ∧ ∃ u, ClX.CVal X.K C (.type "type") f v u) (hd : (c == ("__debug__" : Str)) = false := by decide)
    (hb : attributeBase (.Name c p2) f X.env (eval (.Name c p2) X.env) = eval (.Name c p2) X.env := by rfl) : PE X (.Attribute (.Name c p2) f pos) (tC v) := by
  obtain ⟨hr, u, hv⟩ := hk
  exact peOf (ClX.pe_cval (pe_glob (v := .ref C) hg hm rfl hd) hb) fun σ H Q q => ⟨C, _, v, u, rfl, hr, hv, q⟩
def rListU : List V → Hp → VK → Prop := fun xs H Q => match xs with
  | [.ref p] => match seqAt H p with
    | some ys => ∀ l, H l = none → Q (.ref l) (upd H l (.lst ys))
    | none => False
  | _ => False
theorem call_listU : CallR X (.type "list") rListU := crOf call_list_of fun xs H Q q => by
  unfold rListU at q
  split at q
  · split at q
    · rename_i e; exact ⟨_, _, rfl, seqAt_cases e, q⟩
    · exact q.elim
  · exact q.elim
def rListK (K : PySem.W.Frag) : List V → Hp → VK → Prop := fun xs H Q => ∃ p ys, xs = [.ref p] ∧ (SqL K H p ys ∨ SqT K H p ys) ∧ ∀ l, H l = none → Q (.ref l) (upd H l (.lst ys))
def rTupleU : List V → Hp → VK → Prop := fun xs H Q => match xs with
  | [.ref p] => match H p with
    | some (.lst ys) => ∀ l, H l = none → Q (.ref l) (upd H l (.tup ys))
    | some (.tup ys) => Q (.ref p) H
    | _ => False
  | _ => False
theorem call_tupleU : CallR X (.type "tuple") rTupleU := crOf call_tuple_of fun xs H Q q => by
  unfold rTupleU at q
  split at q
  · split at q
    · rename_i e; exact ⟨_, _, rfl, .inl ⟨.of e, q⟩⟩
    · rename_i e; exact ⟨_, _, rfl, .inr ⟨.of e, q⟩⟩
    · exact q.elim
  · exact q.elim
def rIntCall : List V → Hp → VK → Prop := fun xs H Q => match xs with
  | [.int i] => Q (.int i) H
  | [.bl k] => Q (.int (if k then 1 else 0)) H
  | _ => False
theorem call_intU : CallR X (.type "int") rIntCall := crOf call_int1 fun xs H Q q => by
  unfold rIntCall at q
  split at q
  · exact .inl ⟨_, rfl, q⟩
  · exact .inr ⟨_, rfl, q⟩
  · exact q.elim
def rIsi (c : Ty) : List V → Hp → VK → Prop := fun xs H Q => ∃ x, xs = [x, .ty c.name] ∧ match tyV H x with
  | some t => Q (.bl (t.isa c)) H
  | none => False
theorem call_isiU {c : Ty} (hc : c ≠ .non) : CallR X (.builtin "isinstance") (rIsi c) := crOf call_isi fun xs H Q q => by
  obtain ⟨x, rfl, q⟩ := q
  split at q
  · rename_i t e
    exact ⟨x, _, _, _, _, rfl, .ty _, tyV_ok e, Ty.kit t c hc, q⟩
  · exact q.elim
def rTruU : V → Hp → (Bool → Hp → Prop) → Prop := fun x H Q => match x with
  | .non => Q false H
  | .bl b => Q b H
  | .int i => Q (i != 0) H
  | .str y => y.length ≤ sizeLine ∧ Q ((y.length : Int) != 0) H
  | .ref p => match seqAt H p with
    | some xs => Q (!xs.isEmpty) H
    | none => match H p with
      | some (.dK kvs) => Q (!kvs.isEmpty) H
      | _ => False
  | _ => False
def rJoinU : V → List V → Hp → VK → Prop := fun x xs H Q => ∃ (a : Str) (p : Addr) (ys : List Str), x = .str a ∧ xs = [.ref p] ∧ H p = some (.lst (ys.map V.str)) ∧ (ys.map (·.length)).sum + ys.length * a.length ≤ 16777216 ∧ Q (.str (Txt.join a ys)) H
theorem mt_joinU : MtR X "str.join" rJoinU := mtOf mt_join fun x xs H Q ⟨a, p, ys, e1, e2, h, hz, q⟩ => ⟨a, p, ys, e1, e2, .inl (.of h), hz, q⟩
def uTru (t : TE) : TT := fun σ H Q => t σ H fun x H1 => rTruU x H1 Q
theorem rTruU_ok {K : PySem.W.Frag} {x : V} {H : Hp} {Q : Bool → Hp → Prop} (q : rTruU x H Q) : ∃ k, TruV K x H k ∧ Q k H := by
  unfold rTruU at q
  split at q
  · exact ⟨_, rfl, q⟩
  · exact ⟨_, rfl, q⟩
  · exact ⟨_, rfl, q⟩
  · exact ⟨_, ⟨q.1, rfl⟩, q.2⟩
  · split at q
    · rename_i e
      rcases seqAt_cases (K := K) e with h | h
      · exact ⟨_, .inl ⟨_, h, rfl⟩, q⟩
      · exact ⟨_, .inr (.inl ⟨_, h, rfl⟩), q⟩
    · split at q
      · rename_i e; exact ⟨_, .inr (.inr ⟨_, e, rfl⟩), q⟩
      · exact q.elim
  · exact q.elim
theorem pt_uTru (ha : PE X a ta) (he : ∀ whole, isTrue a X.env whole = (do let v ← whole; standAt a.pos; holding [v] (truthy v)) := by intro _; rfl) : PT X a (uTru ta) := by
  refine ⟨fun pins s σ H Q I h => ?_⟩
  exact isTrue_plain (thn (ha.run pins s σ H _ I h) fun v s1 ⟨x, H1, I1, r1, q1⟩ => tru_ok pins s1 σ H1 x v Q I1 r1 (rTruU_ok q1)) (he _)

def itU (K : PySem.W.Frag) (x : V) (H : Hp) (R : It → Hp → Prop) : Prop := match x with
  | .str z => R (Its z) H
  | .ref a => ((∃ xs, SqL K H a xs) ∧ R (Itl K a) H) ∨ ((∃ xs, SqT K H a xs) ∧ R (Itt K a) H)
  | _ => False
def iU (K : PySem.W.Frag) (te : TE) : TI := fun σ H R => te σ H fun x H1 => itU K x H1 R
theorem pi_U {tg : Expr} (he : PE X e te) : PI X tg e (iU X.K te) := by
  refine ⟨fun pins s σ H R I h => ?_⟩
  refine thn (he.run pins s σ H _ I h) fun v s1 ⟨x, H1, I1, r1, q1⟩ => ?_
  have q1 : itU X.K x H1 R := q1
  cases x with
  | str z =>
    have q1 : R (Its z) H1 := q1
    obtain ⟨t, rfl⟩ := r1
    cases ha : z.cps.all (· < 128)
    · exact wpAny_pyIter_wide ha (pi_one (tk := s1.toks) I1 _ (turn_str _ z t "str_iterator" (.inr rfl)) ⟨_, Heap.get?_push_size _ rfl, rfl, rfl⟩ q1)
    · exact wpAny_pyIter_ascii ha (pi_one (tk := s1.toks) I1 _ (turn_str _ z t "str_ascii_iterator" (.inl rfl)) ⟨_, Heap.get?_push_size _ rfl, rfl, rfl⟩ q1)
  | ref a =>
    cases r1
    rcases q1 with ⟨⟨xs, hq⟩, q⟩ | ⟨⟨xs, hq⟩, q⟩
    · obtain ⟨its, rv, p, hz⟩ := I1.list hq
      refine wpAny_pyIter_list p.isList ?_
      refine ⟨s1.heap.objs.size, [s1.heap.objs.size], _, _, H1, rfl, I1.kept (t' := s1.toks) fun b o e => Heap.get?_push_of_some _ e, turn_list a _, ⟨_, Heap.get?_push_size _ rfl, rfl, rfl⟩, fun b hb => ?_, q⟩
      have e : b = s1.heap.objs.size := by simpa using hb
      subst e
      exact I1.fpOk (Nat.le_refl _) (I1.hok.fresh (Nat.le_refl _))
    · obtain ⟨its, rv, p, hz⟩ := I1.tuple hq
      refine wpAny_pyIter_tuple (show s1.heap.IsTuple a its.toArray from p) ?_
      refine ⟨s1.heap.objs.size, [s1.heap.objs.size], _, _, H1, rfl, I1.kept (t' := s1.toks) fun b o e => Heap.get?_push_of_some _ e, turn_tuple a _, ⟨_, Heap.get?_push_size _ rfl, rfl, rfl⟩, fun b hb => ?_, q⟩
      have e : b = s1.heap.objs.size := by simpa using hb
      subst e
      exact I1.fpOk (Nat.le_refl _) (I1.hok.fresh (Nat.le_refl _))
  | _ => exact (show False from q1).elim
def loopJ (J : It) (g : TG) (tb : TS) (D : Ends) (σ : L2.St) (H1 : Hp) : Prop := ∃ W : Nat → Nat → L2.St → Hp → Prop, (∃ m, W 0 m σ H1) ∧ ∀ i m σ H, W i m σ H →
  (J.stop i H ∧ D.nx σ H) ∨ (J.go i H ∧ ∃ N : L2.St → Hp → Prop, (∀ σ' H', N σ' H' → ∃ m', m' < m ∧ W (i + 1) m' σ' H') ∧ ∀ x H', J.yld i H x H' → g x σ H' fun σ2 H2 => tb { D with nx := N, ct := N, bk := D.nx } σ2 H2)
def compJ (J : It) (g : TG) (tt : TT) (te : TE) (vs : List Nat) (σ : L2.St) (H1 : Hp) (Q : VK) : Prop := ∀ D, H1 D = none → ∃ W : Nat → Nat → Hp → Prop, (∃ m, W 0 m (upd H1 D (.lst []))) ∧ ∀ i m H, W i m H →
  (J.stop i H ∧ Q (.ref D) H) ∨ (J.go i H ∧ ∃ Nx : Hp → Prop, (∀ H', Nx H' → ∃ m', m' < m ∧ W (i + 1) m' H') ∧ ∀ x H', J.yld i H x H' → g x (wipe σ vs) H' fun σ2 H2 => wipe σ2 vs = wipe σ vs ∧ tt σ2 H2 fun b H3 =>
    if b = true then te σ2 H3 fun y H4 => ∃ acc, H4 D = some (.lst acc) ∧ acc.length < sizeLine ∧ Nx (upd H4 D (.lst (acc ++ [y]))) else Nx H3)
def loopU (K : PySem.W.Frag) (x : V) (g : TG) (tb : TS) (D : Ends) (σ : L2.St) (H : Hp) : Prop := itU K x H fun J H1 => loopJ J g tb D σ H1
def compU (K : PySem.W.Frag) (x : V) (g : TG) (tt : TT) (te : TE) (vs : List Nat) (σ : L2.St) (H : Hp) (Q : VK) : Prop := itU K x H fun J H1 => compJ J g tt te vs σ H1 Q
theorem for_U {K : PySem.W.Frag} {g : TG} {tb : TS} {D : Ends} {σ : L2.St} {H : Hp} : tFor (iU K te) g tb D σ H = te σ H fun x H1 => loopU K x g tb D σ H1 := rfl
theorem lc_U {K : PySem.W.Frag} {g : TG} {tt : TT} {tel : TE} {vs : List Nat} {σ : L2.St} {H : Hp} {Q : VK} : tLc (iU K te) g tt tel vs σ H Q = te σ H fun x H1 => compU K x g tt tel vs σ H1 Q := rfl
def rngOk (i j : Int) : Prop := -(2 ^ 62) ≤ i ∧ i < 2 ^ 62 ∧ -(2 ^ 62) ≤ j ∧ j < 2 ^ 62
theorem for_R1 {ta : TA} {g : TG} {tb : TS} {D : Ends} {σ : L2.St} {H : Hp} : tFor (iRng1 ta) g tb D σ H = ta σ H fun vs H1 => ∃ j : Int, vs = [.int j] ∧ -(2 ^ 62) ≤ j ∧ j < 2 ^ 62 ∧ loopJ (Itr 0 j.toNat) g tb D σ H1 := rfl
theorem for_R2 {ta : TA} {g : TG} {tb : TS} {D : Ends} {σ : L2.St} {H : Hp} : tFor (iRng2 ta) g tb D σ H = ta σ H fun vs H1 => ∃ i j : Int, vs = [.int i, .int j] ∧ rngOk i j ∧ loopJ (Itr i (j - i).toNat) g tb D σ H1 := rfl
theorem lc_R1 {ta : TA} {g : TG} {tt : TT} {tel : TE} {vs : List Nat} {σ : L2.St} {H : Hp} {Q : VK} : tLc (iRng1 ta) g tt tel vs σ H Q = ta σ H fun us H1 => ∃ j : Int, us = [.int j] ∧ -(2 ^ 62) ≤ j ∧ j < 2 ^ 62 ∧ compJ (Itr 0 j.toNat) g tt tel vs σ H1 Q := rfl
theorem lc_R2 {ta : TA} {g : TG} {tt : TT} {tel : TE} {vs : List Nat} {σ : L2.St} {H : Hp} {Q : VK} : tLc (iRng2 ta) g tt tel vs σ H Q = ta σ H fun us H1 => ∃ i j : Int, us = [.int i, .int j] ∧ rngOk i j ∧ compJ (Itr i (j - i).toNat) g tt tel vs σ H1 Q := rfl
end
section
variable {K : PySem.W.Frag} {g : TG} {tb : TS} {D : Ends} {σ : L2.St} {H : Hp} {tt : TT} {tel : TE} {vs : List Nat} {Q : VK}
theorem loop_str {z : Str} (Pv : Nat → L2.St → Hp → Prop) (h0 : Pv 0 σ H) (hs : ∀ i c σ H, z.cps[i]? = some c → Pv i σ H → g (.str ⟨#[c]⟩) σ H fun σ2 H2 => tb { D with nx := Pv (i + 1), ct := Pv (i + 1), bk := D.nx } σ2 H2) (hd : ∀ σ H, Pv z.cps.size σ H → D.nx σ H) :
    loopU K (.str z) g tb D σ H :=
  for_it (walk_str (z := z)) Pv h0 (fun _ _ _ _ _ => trivial) (fun i x σ H H' _ p y => by
    obtain ⟨rfl, c, hc, rfl⟩ := y
    exact hs i c σ H' hc p) hd
theorem loop_seq {a : Addr} {xs : List V} (hx : seqAt H a = some xs) (Pv : Nat → L2.St → Hp → Prop) (h0 : Pv 0 σ H) (hG : ∀ i σ H', i ≤ xs.length → Pv i σ H' → H' a = H a)
    (hs : ∀ i x σ H, xs[i]? = some x → Pv i σ H → g x σ H fun σ2 H2 => tb { D with nx := Pv (i + 1), ct := Pv (i + 1), bk := D.nx } σ2 H2) (hd : ∀ σ H, Pv xs.length σ H → D.nx σ H) : loopU K (.ref a) g tb D σ H := by
  have key : ∀ H', H' a = H a → seqAt H' a = some xs := fun H' e => by
    unfold seqAt at hx ⊢
    rw [e]
    exact hx
  rcases seqAt_cases (K := K) hx with h | h
  · refine .inl ⟨⟨xs, h⟩, for_it (walk_list (xs := xs)) Pv h0 (fun i σ' H' hi p => ?_) (fun i x σ H H' _ p y => ?_) hd⟩
    · have e := hG i σ' H' hi p
      rcases h with h | h
      · exact .inl (h.imp (fun z => e.trans z) fun ⟨o, z⟩ => ⟨o, e.trans z⟩)
      · exact .inr h
    · obtain ⟨rfl, hx⟩ := y
      exact hs i x σ H' hx p
  · refine .inr ⟨⟨xs, h⟩, for_it (walk_tup (xs := xs)) Pv h0 (fun i σ' H' hi p => ?_) (fun i x σ H H' _ p y => ?_) hd⟩
    · have e := hG i σ' H' hi p
      rcases h with h | h
      · exact .inl (h.imp (fun z => e.trans z) fun ⟨o, z⟩ => ⟨o, e.trans z⟩)
      · exact .inr h
    · obtain ⟨rfl, hx⟩ := y
      exact hs i x σ H' hx p
theorem loop_rng {lo : Int} {n : Nat} (Pv : Nat → L2.St → Hp → Prop) (h0 : Pv 0 σ H) (hs : ∀ i σ H, i < n → Pv i σ H → g (.int (lo + (i : Int))) σ H fun σ2 H2 => tb { D with nx := Pv (i + 1), ct := Pv (i + 1), bk := D.nx } σ2 H2) (hd : ∀ σ H, Pv n σ H → D.nx σ H) :
    loopJ (Itr lo n) g tb D σ H :=
  for_it (walk_range (lo := lo) (n := n)) Pv h0 (fun _ _ _ _ _ => trivial) (fun i x σ H H' hi p y => by
    obtain ⟨rfl, rfl⟩ := y
    exact hs i σ H' hi p) hd
theorem comp_rng {lo : Int} {n : Nat} (Pv : Addr → Nat → List V → Hp → Prop) (h0 : ∀ D, H D = none → Pv D 0 [] (upd H D (.lst [])))
    (hs : ∀ D i acc H (Nx : Hp → Prop), i < n → Pv D i acc H → (∀ acc H, Pv D (i + 1) acc H → Nx H) → g (.int (lo + (i : Int))) (wipe σ vs) H fun σ2 H2 => wipe σ2 vs = wipe σ vs ∧ tt σ2 H2 fun b H3 =>
      if b = true then tel σ2 H3 fun y H4 => ∃ acc, H4 D = some (.lst acc) ∧ acc.length < sizeLine ∧ Nx (upd H4 D (.lst (acc ++ [y]))) else Nx H3)
    (hd : ∀ D acc H', H D = none → Pv D n acc H' → Q (.ref D) H') : compJ (Itr lo n) g tt tel vs σ H Q := fun D hDn =>
  lc_it (walk_range (lo := lo) (n := n)) (fun i H => ∃ acc, Pv D i acc H) ⟨[], h0 D hDn⟩ (fun _ _ _ _ => trivial) (fun i x H H' hi ⟨acc, p⟩ y => by
    obtain ⟨rfl, rfl⟩ := y
    exact hs D i acc H' _ hi p fun acc H p => ⟨acc, p⟩) (fun H' ⟨acc, p⟩ => hd D acc H' hDn p)
theorem comp_str {z : Str} (Pv : Addr → Nat → List V → Hp → Prop) (h0 : ∀ D, H D = none → Pv D 0 [] (upd H D (.lst [])))
    (hs : ∀ D i c acc H (Nx : Hp → Prop), z.cps[i]? = some c → Pv D i acc H → (∀ acc H, Pv D (i + 1) acc H → Nx H) → g (.str ⟨#[c]⟩) (wipe σ vs) H fun σ2 H2 => wipe σ2 vs = wipe σ vs ∧ tt σ2 H2 fun b H3 =>
      if b = true then tel σ2 H3 fun y H4 => ∃ acc, H4 D = some (.lst acc) ∧ acc.length < sizeLine ∧ Nx (upd H4 D (.lst (acc ++ [y]))) else Nx H3)
    (hd : ∀ D acc H', H D = none → Pv D z.cps.size acc H' → Q (.ref D) H') : compU K (.str z) g tt tel vs σ H Q := fun D hDn =>
  lc_it (walk_str (z := z)) (fun i H => ∃ acc, Pv D i acc H) ⟨[], h0 D hDn⟩ (fun _ _ _ _ => trivial) (fun i x H H' hi ⟨acc, p⟩ y => by
    obtain ⟨rfl, c, hc, rfl⟩ := y
    exact hs D i c acc H' _ hc p fun acc H p => ⟨acc, p⟩) (fun H' ⟨acc, p⟩ => hd D acc H' hDn p)
theorem comp_seq {a : Addr} {xs : List V} (hx : seqAt H a = some xs) (Pv : Addr → Nat → List V → Hp → Prop) (h0 : ∀ D, H D = none → Pv D 0 [] (upd H D (.lst []))) (hG : ∀ D i acc H', H D = none → i ≤ xs.length → Pv D i acc H' → H' a = H a)
    (hs : ∀ D i x acc H (Nx : Hp → Prop), xs[i]? = some x → Pv D i acc H → (∀ acc H, Pv D (i + 1) acc H → Nx H) → g x (wipe σ vs) H fun σ2 H2 => wipe σ2 vs = wipe σ vs ∧ tt σ2 H2 fun b H3 =>
      if b = true then tel σ2 H3 fun y H4 => ∃ acc, H4 D = some (.lst acc) ∧ acc.length < sizeLine ∧ Nx (upd H4 D (.lst (acc ++ [y]))) else Nx H3)
    (hd : ∀ D acc H', H D = none → Pv D xs.length acc H' → Q (.ref D) H') : compU K (.ref a) g tt tel vs σ H Q := by
  rcases seqAt_cases (K := K) hx with h | h
  · refine .inl ⟨⟨xs, h⟩, fun D hDn => lc_it (walk_list (xs := xs)) (fun i H => ∃ acc, Pv D i acc H) ⟨[], h0 D hDn⟩ (fun i H' hi ⟨acc, p⟩ => ?_) (fun i x H H' _ ⟨acc, p⟩ y => ?_) (fun H' ⟨acc, p⟩ => hd D acc H' hDn p)⟩
    · have e := hG D i acc H' hDn hi p
      rcases h with h | h
      · exact .inl (h.imp (fun z => e.trans z) fun ⟨o, z⟩ => ⟨o, e.trans z⟩)
      · exact .inr h
    · obtain ⟨rfl, hx⟩ := y
      exact hs D i x acc H' _ hx p fun acc H p => ⟨acc, p⟩
  · refine .inr ⟨⟨xs, h⟩, fun D hDn => lc_it (walk_tup (xs := xs)) (fun i H => ∃ acc, Pv D i acc H) ⟨[], h0 D hDn⟩ (fun i H' hi ⟨acc, p⟩ => ?_) (fun i x H H' _ ⟨acc, p⟩ y => ?_) (fun H' ⟨acc, p⟩ => hd D acc H' hDn p)⟩
    · have e := hG D i acc H' hDn hi p
      rcases h with h | h
      · exact .inl (h.imp (fun z => e.trans z) fun ⟨o, z⟩ => ⟨o, e.trans z⟩)
      · exact .inr h
    · obtain ⟨rfl, hx⟩ := y
      exact hs D i x acc H' _ hx p fun acc H p => ⟨acc, p⟩
end

structure New (H : Hp) (p : Addr) (o : HO) (H' : Hp) : Prop where
  fr : H p = none
  eq : H' = upd H p o
theorem New.at {H H' : Hp} {p : Addr} {o : HO} (n : New H p o H') : H' p = some o := by rw [n.eq]; exact upd_same
theorem New.ne {H H' : Hp} {p b : Addr} {o u : HO} (n : New H p o H') (e : H b = some u) : b ≠ p := fun z => by
  rw [z, n.fr] at e
  cases e
theorem New.off {H H' : Hp} {p b : Addr} {o : HO} (n : New H p o H') (h : b ≠ p) : H' b = H b := by rw [n.eq]; exact upd_ne h
theorem New.old {H H' : Hp} {p b : Addr} {o u : HO} (n : New H p o H') (e : H b = some u) : H' b = some u := by rw [n.off (n.ne e)]; exact e
theorem New.same {H H' : Hp} {p : Addr} {o : HO} (n : New H p o H') : L2.Same H H' := fun _ _ e => n.old e
theorem New.seq {H H' : Hp} {p b : Addr} {o : HO} {xs : List V} (n : New H p o H') (e : seqAt H b = some xs) : seqAt H' b = some xs := by
  have h : b ≠ p := fun z => by
    unfold seqAt at e
    rw [z, n.fr] at e
    cases e
  unfold seqAt at e ⊢
  rw [n.off h]
  exact e
theorem New.by {H : Hp} {p : Addr} {o : HO} {P : Hp → Prop} (hp : H p = none) (q : ∀ H', New H p o H' → P H') : P (upd H p o) := q _ ⟨hp, rfl⟩
theorem forall_new {H : Hp} {o : HO} {Q : VK} : (∀ r, H r = none → Q (.ref r) (upd H r o)) = (∀ r H', New H r o H' → Q (.ref r) H') :=
  propext ⟨fun h r H' n => by rw [n.eq]; exact h r n.fr, fun h r hr => h r _ ⟨hr, rfl⟩⟩
def tTupN (t : TA) : TE := fun σ H Q => t σ H fun xs H1 => xs.length ≤ sizeLine ∧ ∀ p H2, New H1 p (.tup xs) H2 → Q (.ref p) H2
def tLstN (t : TA) : TE := fun σ H Q => t σ H fun xs H1 => xs.length ≤ sizeLine ∧ ∀ p H2, New H1 p (.lst xs) H2 → Q (.ref p) H2
theorem tTup_eq : tTup = tTupN := by
  funext t σ H Q
  unfold tTup tTupN
  simp only [forall_new]
theorem tLst_eq : tLst = tLstN := by
  funext t σ H Q
  unfold tLst tLstN
  simp only [forall_new]
def rAddLN : R2 := fun x y H Q => match x, y with
  | .ref p, .ref q => match H p, H q with
    | some (.lst xs), some (.lst ys) => xs.length + ys.length ≤ sizeLine ∧ ∀ r H', New H r (.lst (xs ++ ys)) H' → Q (.ref r) H'
    | _, _ => False
  | _, _ => False
theorem rAddL_eq : rAddL = rAddLN := by
  funext x y H Q
  unfold rAddL rAddLN
  simp only [forall_new]
def rAddTN : R2 := fun x y H Q => match x, y with
  | .ref p, .ref q => match H p, H q with
    | some (.tup xs), some (.tup ys) => xs.length + ys.length ≤ sizeLine ∧ (xs = [] → Q (.ref q) H) ∧ (xs ≠ [] → ys = [] → Q (.ref p) H) ∧ (xs ≠ [] → ys ≠ [] → ∀ r H', New H r (.tup (xs ++ ys)) H' → Q (.ref r) H')
    | _, _ => False
  | _, _ => False
theorem rAddT_eq : rAddT = rAddTN := by
  funext x y H Q
  unfold rAddT rAddTN
  simp only [forall_new]
def rSlN : V → Option Int → Option Int → Hp → VK → Prop := fun x lo hi H Q => match x with
  | .str z => z.length ≤ sizeLine ∧ Q (.str (cutS z lo hi)) H
  | .ref p => match H p with
    | some (.lst xs) => ∀ q H', New H q (.lst (cutV xs lo hi)) H' → Q (.ref q) H'
    | some (.tup xs) => (wholeT xs.length lo hi → Q (.ref p) H) ∧ (¬ wholeT xs.length lo hi → ∀ q H', New H q (.tup (cutV xs lo hi)) H' → Q (.ref q) H')
    | _ => False
  | _ => False
theorem rSl_eq : rSlU = rSlN := by
  funext x lo hi H Q
  unfold rSlU rSlN
  simp only [forall_new]
def rListN : List V → Hp → VK → Prop := fun xs H Q => match xs with
  | [.ref p] => match seqAt H p with
    | some ys => ∀ l H', New H l (.lst ys) H' → Q (.ref l) H'
    | none => False
  | _ => False
theorem rList_eq : rListU = rListN := by
  funext xs H Q
  unfold rListU rListN
  simp only [forall_new]
def rTupleN : List V → Hp → VK → Prop := fun xs H Q => match xs with
  | [.ref p] => match H p with
    | some (.lst ys) => ∀ l H', New H l (.tup ys) H' → Q (.ref l) H'
    | some (.tup ys) => Q (.ref p) H
    | _ => False
  | _ => False
theorem rTuple_eq : rTupleU = rTupleN := by
  funext xs H Q
  unfold rTupleU rTupleN
  simp only [forall_new]

structure Callee (P : Program) (w : World) (K : PySem.W.Frag) (mg : Str → Option Value) (base : Heap) (CX : CXT) (k : Nat) (x : Str) (ps : List Str) (dvs : List V) (sp : Sp) : Prop where
  ex : ∃ (f : Addr) (fd : FuncData) (ds : List Value), mg x = some (.ref f) ∧ FnOk P w K mg base CX k f fd ps sp ∧ PySem.W.keepIn K (.ref f) = true ∧ Binds K fd ps ds ∧ Vals dvs ds
section
variable {X : Cx} {e : Expr} {es : List Expr} {ta : TA} {x : Str} {p pos : Pos} {k : Nat} {ps : List Str} {sp : Sp} {dvs : List V}
def uCall (sp : Sp) (dvs : List V) (E : XK) (t : TA) : TE := fun σ H Q => t σ H fun vs H1 => sp (vs ++ dvs) H1 Q E
theorem pe_cal (c : Callee X.prog X.w X.K X.mg X.base CX0 k x ps dvs sp) (hr : Room k X.A) (ha : PA X (e :: es) ta) (hg : Gl X x := by rfl) (hd : (x == ("__debug__" : Str)) = false := by decide)
    (he : starEach (e :: es) X.env = (false, eval e X.env) :: starEach es X.env := by rfl) (hpl : (backTo pos (starEach es X.env)).any (·.1) = false := by rfl) :
    PE X (.Call (.Name x p) (e :: es) [] pos) (uCall sp dvs E0 ta) := by
  obtain ⟨f, fd, ds, hm, F, kp, b, v⟩ := c.ex
  exact pe_call F hr hg hm kp b v pass0 ha hd he hpl
end
end U
end

section
namespace U
open PySem PySem.Spec PyProof.Rows L2
class Kp (α : Type) where
  val : α
section
variable {α : Type}
def OK (o : Option α) [k : Kp (α → Prop)] : Prop := match o with
  | some x => k.val x
  | none => False
theorem OK_some {x : α} {k : α → Prop} : @OK α (some x) ⟨k⟩ = k x := rfl
theorem OK.by {o : Option α} {k : α → Prop} {x : α} (h : o = some x) (q : k x) : @OK α o ⟨k⟩ := by rw [h]; exact q
end
def Br (c : Prop) [a : Kp Prop] [b : Kp Prop] : Prop := (c → a.val) ∧ (¬ c → b.val)
theorem Br_true {a b : Prop} : @Br True ⟨a⟩ ⟨b⟩ = a := propext ⟨fun h => h.1 trivial, fun h => ⟨fun _ => h, fun z => absurd trivial z⟩⟩
theorem Br_false {a b : Prop} : @Br False ⟨a⟩ ⟨b⟩ = b := propext ⟨fun h => h.2 id, fun h => ⟨fun z => z.elim, fun _ => h⟩⟩
theorem Br_not {c a b : Prop} : @Br (¬ c) ⟨a⟩ ⟨b⟩ = @Br c ⟨b⟩ ⟨a⟩ := propext ⟨fun h => ⟨fun k => h.2 (not_not_intro k), h.1⟩, fun h => ⟨h.2, fun k => h.1 (Classical.byContradiction k)⟩⟩
theorem Br.by {c a b : Prop} (h : c → a) (k : ¬ c → b) : @Br c ⟨a⟩ ⟨b⟩ := ⟨h, k⟩
theorem Br.yes {c a b : Prop} (h : c) (k : a) : @Br c ⟨a⟩ ⟨b⟩ := ⟨fun _ => k, fun z => absurd h z⟩
theorem Br.no {c a b : Prop} (h : ¬ c) (k : b) : @Br c ⟨a⟩ ⟨b⟩ := ⟨fun z => absurd z h, fun _ => k⟩
theorem ite_Br {b : Bool} {p q : Prop} : (if b = true then p else q) = @Br (b = true) ⟨p⟩ ⟨q⟩ := by
  cases b
  · exact propext ⟨fun h => ⟨fun z => (nomatch z), fun _ => h⟩, fun h => h.2 fun z => (nomatch z)⟩
  · exact propext ⟨fun h => ⟨fun _ => h, fun z => absurd rfl z⟩, fun h => h.1 rfl⟩
def Cd (c : Prop) [p : Kp Prop] : Prop := c ∧ p.val
theorem Cd_true {p : Prop} : @Cd True ⟨p⟩ = p := propext ⟨fun h => h.2, fun h => ⟨trivial, h⟩⟩
theorem Cd.by {c p : Prop} (h : c) (k : p) : @Cd c ⟨p⟩ := ⟨h, k⟩
def Al (H : Hp) (o : HO) [Q : Kp VK] : Prop := ∀ p H', New H p o H' → Q.val (.ref p) H'
theorem Al.by {H : Hp} {o : HO} {Q : VK} (h : ∀ p H', New H p o H' → Q (.ref p) H') : @Al H o ⟨Q⟩ := h
structure Mod (H : Hp) (p : Addr) (o : HO) (H' : Hp) : Prop where
  eq : H' = upd H p o
theorem Mod.at {H H' : Hp} {p : Addr} {o : HO} (n : Mod H p o H') : H' p = some o := by rw [n.eq]; exact upd_same
theorem Mod.off {H H' : Hp} {p b : Addr} {o : HO} (n : Mod H p o H') (h : b ≠ p) : H' b = H b := by rw [n.eq]; exact upd_ne h
theorem Mod.old {H H' : Hp} {p b : Addr} {o u : HO} (n : Mod H p o H') (h : b ≠ p) (e : H b = some u) : H' b = some u := by rw [n.off h]; exact e
def Md (H : Hp) (p : Addr) (o : HO) [R : Kp (Hp → Prop)] : Prop := ∀ H', Mod H p o H' → R.val H'
theorem Md.by {H : Hp} {p : Addr} {o : HO} {R : Hp → Prop} (h : ∀ H', Mod H p o H' → R H') : @Md H p o ⟨R⟩ := h
theorem Md_eq {H : Hp} {p : Addr} {o : HO} {R : Hp → Prop} : R (upd H p o) = @Md H p o ⟨R⟩ := propext ⟨fun h H' n => by rw [n.eq]; exact h, fun h => h _ ⟨rfl⟩⟩
def Call (sp : Sp) (vs : List V) (H : Hp) [Q : Kp VK] [E : Kp XK] : Prop := sp vs H Q.val E.val
theorem Call.by {sp : Sp} {vs : List V} {H : Hp} {Q : VK} {E : XK} (h : sp vs H Q E) : @Call sp vs H ⟨Q⟩ ⟨E⟩ := h
def kB (Q : Bool → Hp → Prop) : VK := fun x H => match x with
  | .bl b => Q b H
  | _ => False
def aB (x : V) (H : Hp) [Q : Kp (Bool → Hp → Prop)] : Prop := kB Q.val x H
theorem kB_a {Q : Bool → Hp → Prop} {x : V} {H : Hp} : kB Q x H = @aB x H ⟨Q⟩ := rfl
theorem aB_bl {Q : Bool → Hp → Prop} {b : Bool} {H : Hp} : @aB (.bl b) H ⟨Q⟩ = Q b H := rfl
theorem kB_eq {Q : Bool → Hp → Prop} {x : V} {H : Hp} : (∃ k, x = .bl k ∧ Q k H) = kB Q x H := by
  cases x <;> simp [kB]
def kI (R : Int → Hp → Prop) : VK := fun x H => match x with
  | .int i => R i H
  | _ => False
def aI (x : V) (H : Hp) [Q : Kp (Int → Hp → Prop)] : Prop := kI Q.val x H
theorem kI_a {Q : Int → Hp → Prop} {x : V} {H : Hp} : kI Q x H = @aI x H ⟨Q⟩ := rfl
theorem aI_int {Q : Int → Hp → Prop} {i : Int} {H : Hp} : @aI (.int i) H ⟨Q⟩ = Q i H := rfl
theorem kI_eq {R : Int → Hp → Prop} {x : V} {H : Hp} : (∃ k, x = .int k ∧ R k H) = kI R x H := by
  cases x <;> simp [kI]
def aR (r : R2) (x y : V) (H : Hp) [Q : Kp VK] : Prop := r x y H Q.val
def aC (r : List V → Hp → VK → Prop) (vs : List V) (H : Hp) [Q : Kp VK] : Prop := r vs H Q.val
def aU (r : V → Hp → VK → Prop) (x : V) (H : Hp) [Q : Kp VK] : Prop := r x H Q.val
def aT (x : V) (H : Hp) [R : Kp (Bool → Hp → Prop)] : Prop := rTruU x H R.val
def aS (r : V → Option Int → Option Int → Hp → VK → Prop) (x : V) (l u : Option Int) (H : Hp) [Q : Kp VK] : Prop := r x l u H Q.val
def aG (s : V → V → V → Hp → (Hp → Prop) → Prop) (o i v : V) (H : Hp) [R : Kp (Hp → Prop)] : Prop := s o i v H R.val
def LoopJ (J : It) (σ : L2.St) (H : Hp) [g : Kp TG] [tb : Kp TS] [D : Kp Ends] : Prop := loopJ J g.val tb.val D.val σ H
def LoopU (K : PySem.W.Frag) (x : V) (σ : L2.St) (H : Hp) [g : Kp TG] [tb : Kp TS] [D : Kp Ends] : Prop := loopU K x g.val tb.val D.val σ H
def CompJ (J : It) (us : List Nat) (σ : L2.St) (H : Hp) [g : Kp TG] [tt : Kp TT] [te : Kp TE] [Q : Kp VK] : Prop := compJ J g.val tt.val te.val us σ H Q.val
def CompU (K : PySem.W.Frag) (x : V) (us : List Nat) (σ : L2.St) (H : Hp) [g : Kp TG] [tt : Kp TT] [te : Kp TE] [Q : Kp VK] : Prop := compU K x g.val tt.val te.val us σ H Q.val
def a1 (vs : List V) [R : Kp (Int → Prop)] : Prop := match vs with
  | [.int i] => R.val i
  | _ => False
def a2 (vs : List V) [R : Kp (Int → Int → Prop)] : Prop := match vs with
  | [.int i, .int j] => R.val i j
  | _ => False
theorem a1_int {R : Int → Prop} {i : Int} : @a1 [.int i] ⟨R⟩ = R i := rfl
theorem a2_int {R : Int → Int → Prop} {i j : Int} : @a2 [.int i, .int j] ⟨R⟩ = R i j := rfl

section
variable {t u : TS} {D : Ends} {σ : L2.St} {H : Hp} {Q : VK} {c d : TT} {R : Bool → Hp → Prop} {ta tb tc te : TE} {ts tr : TA} {x y v : V} {vs : List V} {i j : Int} {n : Nat} {p q : Addr} {K : PySem.W.Frag}
theorem r_seq : tSeq t u D σ H = t { D with nx := u D } σ H := rfl
theorem r_ifS : tIfS c t u D σ H = c σ H fun b H1 => @Br (b = true) ⟨t D σ H1⟩ ⟨u D σ H1⟩ := by
  show (c σ H fun b H1 => if b = true then t D σ H1 else u D σ H1) = _
  congr 1
  funext b H1
  exact ite_Br
theorem r_or : tOr c d σ H R = c σ H fun b H1 => @Br (b = true) ⟨R true H1⟩ ⟨d σ H1 R⟩ := by
  show (c σ H fun b H1 => if b = true then R true H1 else d σ H1 R) = _
  congr 1
  funext b H1
  exact ite_Br
theorem r_and : tAnd c d σ H R = c σ H fun b H1 => @Br (b = true) ⟨d σ H1 R⟩ ⟨R false H1⟩ := by
  show (c σ H fun b H1 => if b = true then d σ H1 R else R false H1) = _
  congr 1
  funext b H1
  exact ite_Br
theorem r_not : tNot c σ H R = c σ H fun b H1 => R (!b) H1 := rfl
theorem r_next : tNext D σ H = D.nx σ H := rfl
theorem r_ret : tRet te D σ H = te σ H D.rt := rfl
theorem r_retN : tRetN D σ H = D.rt .non H := rfl
theorem r_brk : tBreak D σ H = D.bk σ H := rfl
theorem r_cnt : tCont D σ H = D.ct σ H := rfl
theorem r_drop : tDrop te D σ H = te σ H fun _ H1 => D.nx σ H1 := rfl
theorem r_asg {g : TG} : tAsg te g D σ H = te σ H fun x H1 => g x σ H1 D.nx := rfl
theorem r_test : tTest te σ H R = te σ H (kB R) := by
  show (te σ H fun x H' => ∃ k, x = .bl k ∧ R k H') = _
  congr 1
  funext x H'
  exact kB_eq
theorem r_yes : tYes σ H R = R true H := rfl
theorem r_c : tC v σ H Q = Q v H := rfl
theorem r_nil {Q : List V → Hp → Prop} : tNil σ H Q = Q [] H := rfl
theorem r_cons {Q : List V → Hp → Prop} : tCons te tr σ H Q = te σ H fun x H1 => tr σ H1 fun xs H2 => Q (x :: xs) H2 := rfl
theorem r_var0 {σ : L2.St} : uVar 0 (some v :: σ) H Q = Q v H := rfl
theorem r_varS {o : Option V} : uVar (n + 1) (o :: σ) H Q = uVar n σ H Q := rfl
theorem r_name0 {o : Option V} {R : L2.St → Hp → Prop} : gName 0 v (o :: σ) H R = R (some v :: σ) H := rfl
theorem r_nameS {o : Option V} {R : L2.St → Hp → Prop} : gName (n + 1) v (o :: σ) H R = gName n v σ H fun σ' H' => R (o :: σ') H' := rfl
theorem r_op {r : R2} : tOp r ta tb σ H Q = ta σ H fun x H1 => tb σ H1 fun y H2 => @aR r x y H2 ⟨Q⟩ := rfl
theorem r_un {r : V → Hp → VK → Prop} : tUn r ta σ H Q = ta σ H fun x H1 => @aU r x H1 ⟨Q⟩ := rfl
theorem r_rU {g : Int → V} : @aU (rU g) (.int i) H ⟨Q⟩ = Q (g i) H := propext ⟨fun ⟨_, e, q⟩ => by cases e; exact q, fun q => ⟨_, rfl, q⟩⟩
theorem r_chain {r r' : R2} : tChain r r' ta tb tc σ H Q = ta σ H fun x H1 => tb σ H1 fun y H2 => @aR r x y H2 ⟨kB fun k H3 => @Br (k = true) ⟨tc σ H3 fun w' H4 => @aR r' y w' H4 ⟨Q⟩⟩ ⟨Q (.bl false) H3⟩⟩ := by
  show (ta σ H fun x H1 => tb σ H1 fun y H2 => r x y H2 fun z H3 => ∃ k, z = .bl k ∧ (if k = true then tc σ H3 fun w' H4 => r' y w' H4 Q else Q (.bl false) H3)) = _
  congr 1
  funext x H1
  congr 1
  funext y H2
  have e : (fun z H3 => ∃ k, z = .bl k ∧ (if k = true then tc σ H3 fun w' H4 => r' y w' H4 Q else Q (.bl false) H3)) = kB fun k H3 => @Br (k = true) ⟨tc σ H3 fun w' H4 => r' y w' H4 Q⟩ ⟨Q (.bl false) H3⟩ := by
    funext z H3
    rw [← kB_eq]
    simp only [ite_Br]
  rw [e]
  rfl
theorem r_andV : tAndV ta tb σ H Q = ta σ H (kB fun c H1 => @Br (c = true) ⟨tb σ H1 Q⟩ ⟨Q (.bl false) H1⟩) := by
  show (ta σ H fun x H1 => ∃ c, x = .bl c ∧ if c = true then tb σ H1 Q else Q (.bl false) H1) = _
  congr 1
  funext z H3
  rw [← kB_eq]
  simp only [ite_Br]
theorem r_orV : tOrV ta tb σ H Q = ta σ H (kB fun c H1 => @Br (c = true) ⟨Q (.bl true) H1⟩ ⟨tb σ H1 Q⟩) := by
  show (ta σ H fun x H1 => ∃ c, x = .bl c ∧ if c = true then Q (.bl true) H1 else tb σ H1 Q) = _
  congr 1
  funext z H3
  rw [← kB_eq]
  simp only [ite_Br]
theorem r_notV : tNotV ta σ H Q = ta σ H (kB fun c H1 => Q (.bl (!c)) H1) := by
  show (ta σ H fun x H1 => ∃ c, x = .bl c ∧ Q (.bl (!c)) H1) = _
  congr 1
  funext z H3
  rw [← kB_eq]
theorem r_call {sp : Sp} {E : XK} : uCall sp [] E ts σ H Q = ts σ H fun vs H1 => @Call sp vs H1 ⟨Q⟩ ⟨E⟩ := by
  unfold uCall Call
  simp only [List.append_nil]
theorem r_cb {r : List V → Hp → VK → Prop} : tCB r ts σ H Q = ts σ H fun vs H1 => @aC r vs H1 ⟨Q⟩ := rfl
theorem r_tup : tTup ts σ H Q = ts σ H fun xs H1 => @Cd (xs.length ≤ sizeLine) ⟨@Al H1 (.tup xs) ⟨Q⟩⟩ := by
  rw [tTup_eq]; rfl
theorem r_lst : tLst ts σ H Q = ts σ H fun xs H1 => @Cd (xs.length ≤ sizeLine) ⟨@Al H1 (.lst xs) ⟨Q⟩⟩ := by
  rw [tLst_eq]; rfl
theorem r_sl {r : V → Option Int → Option Int → Hp → VK → Prop} {tl th : TO} : tSl r te tl th σ H Q = te σ H fun x H1 => tl σ H1 fun l H2 => th σ H2 fun u H3 => @aS r x l u H3 ⟨Q⟩ := rfl
theorem r_noPart {Q : Option Int → Hp → Prop} : tNoPart σ H Q = Q none H := rfl
theorem r_part {Q : Option Int → Hp → Prop} : uPart te σ H Q = te σ H (kI fun i H1 => Q (some i) H1) := by
  show (te σ H fun x H1 => ∃ i, x = .int i ∧ Q (some i) H1) = _
  congr 1
  funext z H3
  exact kI_eq
theorem r_gsub {to ti : TE} {s : TSet} {R : L2.St → Hp → Prop} : gSub to ti s v σ H R = to σ H fun o H1 => ti σ H1 fun i H2 => @aG s o i v H2 ⟨fun H3 => R σ H3⟩ := rfl
theorem r_addI : @aR rAddI (.int i) (.int j) H ⟨Q⟩ = Q (.int (i + j)) H := rfl
theorem r_addS {a b : Str} : @aR rAddS (.str a) (.str b) H ⟨Q⟩ = @Cd (a.length + b.length ≤ sizeLine) ⟨Q (.str (a ++ b)) H⟩ := rfl
theorem r_addUI : @aR rAddU (.int i) (.int j) H ⟨Q⟩ = Q (.int (i + j)) H := rfl
theorem r_addUS {a b : Str} : @aR rAddU (.str a) (.str b) H ⟨Q⟩ = @Cd (a.length + b.length ≤ sizeLine) ⟨Q (.str (a ++ b)) H⟩ := rfl
def lstO : Option HO → Option (List V)
  | some (.lst xs) => some xs
  | _ => none
def tupO : Option HO → Option (List V)
  | some (.tup xs) => some xs
  | _ => none
theorem lstO_lst {xs : List V} : lstO (some (.lst xs)) = some xs := rfl
theorem tupO_tup {xs : List V} : tupO (some (.tup xs)) = some xs := rfl
theorem r_addL : @aR rAddL (.ref p) (.ref q) H ⟨Q⟩ = @OK _ (lstO (H p)) ⟨fun xs => @OK _ (lstO (H q)) ⟨fun ys => @Cd (xs.length + ys.length ≤ sizeLine) ⟨@Al H (.lst (xs ++ ys)) ⟨Q⟩⟩⟩⟩ := by
  unfold aR
  rw [rAddL_eq]
  show (match H p, H q with
    | some (.lst xs), some (.lst ys) => xs.length + ys.length ≤ sizeLine ∧ ∀ r H', New H r (.lst (xs ++ ys)) H' → Q (.ref r) H'
    | _, _ => False) = _
  generalize H p = a
  generalize H q = b
  rcases a with _ | a
  · rfl
  · cases a <;> try rfl
    rcases b with _ | b
    · rfl
    · cases b <;> rfl
def AlT (H : Hp) (p q : Addr) (xs ys : List V) [Q : Kp VK] : Prop := (xs = [] → Q.val (.ref q) H) ∧ (xs ≠ [] → ys = [] → Q.val (.ref p) H) ∧ (xs ≠ [] → ys ≠ [] → @Al H (.tup (xs ++ ys)) Q)
theorem AlT_cc {x y : V} {xs ys : List V} : @AlT H p q (x :: xs) (y :: ys) ⟨Q⟩ = @Al H (.tup (x :: xs ++ y :: ys)) ⟨Q⟩ := by
  unfold AlT
  exact propext ⟨fun h => h.2.2 (by simp) (by simp), fun h => ⟨fun z => (nomatch z), fun _ z => (nomatch z), fun _ _ => h⟩⟩
theorem AlT_nil {ys : List V} : @AlT H p q [] ys ⟨Q⟩ = Q (.ref q) H := by
  unfold AlT
  exact propext ⟨fun h => h.1 rfl, fun h => ⟨fun _ => h, fun z => absurd rfl z, fun z => absurd rfl z⟩⟩
theorem AlT_cnil {x : V} {xs : List V} : @AlT H p q (x :: xs) [] ⟨Q⟩ = Q (.ref p) H := by
  unfold AlT
  exact propext ⟨fun h => h.2.1 (by simp) rfl, fun h => ⟨fun z => (nomatch z), fun _ _ => h, fun _ z => absurd rfl z⟩⟩
theorem AlT.by {xs ys : List V} (h : xs = [] → Q (.ref q) H) (k : ys = [] → Q (.ref p) H) (l : xs ≠ [] → ys ≠ [] → @Al H (.tup (xs ++ ys)) ⟨Q⟩) : @AlT H p q xs ys ⟨Q⟩ := ⟨h, fun _ => k, l⟩
theorem r_addT : @aR rAddT (.ref p) (.ref q) H ⟨Q⟩ = @OK _ (tupO (H p)) ⟨fun xs => @OK _ (tupO (H q)) ⟨fun ys => @Cd (xs.length + ys.length ≤ sizeLine) ⟨@AlT H p q xs ys ⟨Q⟩⟩⟩⟩ := by
  unfold aR
  rw [rAddT_eq]
  show (match H p, H q with
    | some (.tup xs), some (.tup ys) => xs.length + ys.length ≤ sizeLine ∧ (xs = [] → Q (.ref q) H) ∧ (xs ≠ [] → ys = [] → Q (.ref p) H) ∧ (xs ≠ [] → ys ≠ [] → ∀ r H', New H r (.tup (xs ++ ys)) H' → Q (.ref r) H')
    | _, _ => False) = _
  generalize H p = a
  generalize H q = b
  rcases a with _ | a
  · rfl
  · cases a <;> try rfl
    rcases b with _ | b
    · rfl
    · cases b <;> rfl
theorem r_sub : @aR rSubU (.int i) (.int j) H ⟨Q⟩ = Q (.int (i - j)) H := rfl
theorem r_mul : @aR rMulI (.int i) (.int j) H ⟨Q⟩ = @Cd (CMul i j) ⟨Q (.int (i * j)) H⟩ := rfl
theorem r_div : @aR rDivU (.int i) (.int j) H ⟨Q⟩ = @Cd (0 < j ∧ j < 1073741824) ⟨Q (.int (i / j)) H⟩ := rfl
theorem r_mod : @aR rModU (.int i) (.int j) H ⟨Q⟩ = @Cd (0 < j) ⟨Q (.int (i % j)) H⟩ := rfl
theorem r_pow : @aR rPowU (.int i) (.int j) H ⟨Q⟩ = @Cd (CPow i j) ⟨Q (.int (i ^ j.toNat)) H⟩ := rfl
theorem r_lt : @aR rLtU (.int i) (.int j) H ⟨Q⟩ = Q (.bl (decide (i < j))) H := rfl
theorem r_le : @aR rLeU (.int i) (.int j) H ⟨Q⟩ = Q (.bl (decide (i ≤ j))) H := rfl
theorem r_gt : @aR rGtU (.int i) (.int j) H ⟨Q⟩ = Q (.bl (decide (j < i))) H := rfl
theorem r_ge : @aR rGeU (.int i) (.int j) H ⟨Q⟩ = Q (.bl (decide (j ≤ i))) H := rfl
theorem r_eq : @aR rEqS x y H ⟨Q⟩ = @Cd (scal x y = true) ⟨Q (.bl (decide (x = y))) H⟩ := rfl
theorem r_ne : @aR rNeS x y H ⟨Q⟩ = @Cd (scal x y = true) ⟨Q (.bl (!decide (x = y))) H⟩ := rfl
theorem r_isN : @aR rIsNU x .non H ⟨Q⟩ = Q (.bl (decide (x = .non))) H := propext ⟨fun h => h.2, fun h => ⟨rfl, h⟩⟩
theorem r_notN : @aR rNotNU x .non H ⟨Q⟩ = Q (.bl (!decide (x = .non))) H := propext ⟨fun h => h.2, fun h => ⟨rfl, h⟩⟩
theorem r_inS {c : Nat} {z : Str} : @aR (rInU false) (.str ⟨#[c]⟩) (.str z) H ⟨Q⟩ = Q (.bl (decide (c ∈ z.cps.toList))) H := propext ⟨fun ⟨d, e, q⟩ => by cases e; simpa using q, fun q => ⟨c, rfl, by simpa using q⟩⟩
theorem r_ninS {c : Nat} {z : Str} : @aR (rInU true) (.str ⟨#[c]⟩) (.str z) H ⟨Q⟩ = Q (.bl (!decide (c ∈ z.cps.toList))) H := propext ⟨fun ⟨d, e, q⟩ => by cases e; simpa using q, fun q => ⟨c, rfl, by simpa using q⟩⟩
def seqO : Option HO → Option (List V)
  | some (.lst xs) => some xs
  | some (.tup xs) => some xs
  | some (.frz _ (.lst xs)) => some xs
  | some (.frz _ (.tup xs)) => some xs
  | _ => none
theorem seqO_eq : seqAt H p = seqO (H p) := rfl
theorem seqO_lst {xs : List V} : seqO (some (.lst xs)) = some xs := rfl
theorem seqO_tup {xs : List V} : seqO (some (.tup xs)) = some xs := rfl
theorem r_in : @aR (rInU false) x (.ref p) H ⟨Q⟩ = @OK _ (seqAt H p) ⟨fun xs => @Cd (flatV x = true ∧ xs.all flatV = true) ⟨Q (.bl (inV x xs)) H⟩⟩ := by
  show (match seqAt H p with
    | some xs => flatV x = true ∧ xs.all flatV = true ∧ Q (.bl (xor false (inV x xs))) H
    | none => False) = _
  generalize seqAt H p = a
  rcases a with _ | a
  · rfl
  · exact propext ⟨fun h => ⟨⟨h.1, h.2.1⟩, by simpa using h.2.2⟩, fun h => ⟨h.1.1, h.1.2, by simpa using h.2⟩⟩
theorem r_nin : @aR (rInU true) x (.ref p) H ⟨Q⟩ = @OK _ (seqAt H p) ⟨fun xs => @Cd (flatV x = true ∧ xs.all flatV = true) ⟨Q (.bl (!inV x xs)) H⟩⟩ := by
  show (match seqAt H p with
    | some xs => flatV x = true ∧ xs.all flatV = true ∧ Q (.bl (xor true (inV x xs))) H
    | none => False) = _
  generalize seqAt H p = a
  rcases a with _ | a
  · rfl
  · exact propext ⟨fun h => ⟨⟨h.1, h.2.1⟩, by simpa using h.2.2⟩, fun h => ⟨h.1.1, h.1.2, by simpa using h.2⟩⟩
theorem r_inG {xs : List V} : @aR (rInG p xs false) x (.ref p) H ⟨Q⟩ = @Cd (flatV x = true) ⟨Q (.bl (inV x xs)) H⟩ := propext ⟨fun h => ⟨h.2.1, by simpa using h.2.2⟩, fun h => ⟨rfl, h.1, by simpa using h.2⟩⟩
theorem r_ninG {xs : List V} : @aR (rInG p xs true) x (.ref p) H ⟨Q⟩ = @Cd (flatV x = true) ⟨Q (.bl (!inV x xs)) H⟩ := propext ⟨fun h => ⟨h.2.1, by simpa using h.2.2⟩, fun h => ⟨rfl, h.1, by simpa using h.2⟩⟩
theorem r_ixS {z : Str} : @aR rIxU (.str z) (.int i) H ⟨Q⟩ = @Cd (z.length ≤ sizeLine) ⟨@OK _ (atI z.cps.toList i) ⟨fun c => Q (.str ⟨#[c]⟩) H⟩⟩ := by
  show (z.length ≤ sizeLine ∧ ∃ c, atI z.cps.toList i = some c ∧ Q (.str ⟨#[c]⟩) H) = _
  unfold Cd
  congr 1
  generalize atI z.cps.toList i = a
  rcases a with _ | a
  · exact propext ⟨fun ⟨_, e, _⟩ => (nomatch e), fun h => False.elim h⟩
  · exact propext ⟨fun ⟨_, e, q⟩ => by cases e; exact q, fun h => ⟨_, rfl, h⟩⟩
theorem r_ix : @aR rIxU (.ref p) (.int i) H ⟨Q⟩ = @OK _ (seqAt H p) ⟨fun xs => @OK _ (atI xs i) ⟨fun v => Q v H⟩⟩ := by
  show (match seqAt H p with
    | some xs => ∃ v, atI xs i = some v ∧ Q v H
    | none => False) = _
  generalize seqAt H p = a
  rcases a with _ | a
  · rfl
  · show (∃ v, atI a i = some v ∧ Q v H) = @OK _ (atI a i) ⟨fun v => Q v H⟩
    generalize atI a i = b
    rcases b with _ | b
    · exact propext ⟨fun ⟨_, e, _⟩ => (nomatch e), fun h => False.elim h⟩
    · exact propext ⟨fun ⟨_, e, q⟩ => by cases e; exact q, fun h => ⟨_, rfl, h⟩⟩
theorem r_set {R : Hp → Prop} : @aG rSetU (.ref p) (.int i) v H ⟨R⟩ = @OK _ (lstO (H p)) ⟨fun xs => @OK _ (ixN xs.length i) ⟨fun j => @Md H p (.lst (xs.set j v)) ⟨R⟩⟩⟩ := by
  show (match H p with
    | some (.lst xs) => ∃ j, ixN xs.length i = some j ∧ R (upd H p (.lst (xs.set j v)))
    | _ => False) = _
  generalize H p = a
  rcases a with _ | a
  · rfl
  · cases a <;> try rfl
    rename_i xs
    show (∃ j, ixN xs.length i = some j ∧ R (upd H p (.lst (xs.set j v)))) = @OK _ (ixN xs.length i) ⟨fun j => @Md H p (.lst (xs.set j v)) ⟨R⟩⟩
    generalize ixN xs.length i = b
    rcases b with _ | b
    · exact propext ⟨fun ⟨_, e, _⟩ => (nomatch e), fun h => False.elim h⟩
    · exact propext ⟨fun ⟨_, e, q⟩ => by cases e; exact Eq.mp Md_eq q, fun h => ⟨_, rfl, Eq.mpr Md_eq h⟩⟩
theorem r_slS {z : Str} {lo hi : Option Int} : @aS rSlU (.str z) lo hi H ⟨Q⟩ = @Cd (z.length ≤ sizeLine) ⟨Q (.str (cutS z lo hi)) H⟩ := rfl
def AlS (H : Hp) (p : Addr) (o : Option HO) (lo hi : Option Int) [Q : Kp VK] : Prop := match o with
  | some (.lst xs) => @Al H (.lst (cutV xs lo hi)) Q
  | some (.tup xs) => (wholeT xs.length lo hi → Q.val (.ref p) H) ∧ (¬ wholeT xs.length lo hi → @Al H (.tup (cutV xs lo hi)) Q)
  | _ => False
theorem AlS_lst {xs : List V} {lo hi : Option Int} : @AlS H p (some (.lst xs)) lo hi ⟨Q⟩ = @Al H (.lst (cutV xs lo hi)) ⟨Q⟩ := rfl
theorem AlS_tup {xs : List V} {lo hi : Option Int} : @AlS H p (some (.tup xs)) lo hi ⟨Q⟩ = @Br (wholeT xs.length lo hi) ⟨Q (.ref p) H⟩ ⟨@Al H (.tup (cutV xs lo hi)) ⟨Q⟩⟩ := rfl
theorem r_slR {lo hi : Option Int} : @aS rSlU (.ref p) lo hi H ⟨Q⟩ = @AlS H p (H p) lo hi ⟨Q⟩ := by unfold aS; rw [rSl_eq]; rfl
theorem cutV_mem {xs : List V} {lo hi : Option Int} {x : V} (h : x ∈ cutV xs lo hi) : x ∈ xs := List.mem_of_mem_drop (List.mem_of_mem_take h)
def lenO : Option HO → Option Nat
  | some (.lst xs) => some xs.length
  | some (.tup xs) => some xs.length
  | some (.frz _ (.lst xs)) => some xs.length
  | some (.frz _ (.tup xs)) => some xs.length
  | some (.dK kvs) => some kvs.length
  | _ => none
theorem lenO_lst {xs : List V} : lenO (some (.lst xs)) = some xs.length := rfl
theorem lenO_tup {xs : List V} : lenO (some (.tup xs)) = some xs.length := rfl
theorem lenO_dK {xs : List (Key × V)} : lenO (some (.dK xs)) = some xs.length := rfl
theorem r_lenS {z : Str} : @aC rLenU [.str z] H ⟨Q⟩ = @Cd (z.length ≤ sizeLine) ⟨Q (.int z.length) H⟩ := rfl
theorem r_lenR : @aC rLenU [.ref p] H ⟨Q⟩ = @OK _ (lenO (H p)) ⟨fun n => Q (.int n) H⟩ := by
  show (match seqAt H p with
    | some ys => Q (.int ys.length) H
    | none => match H p with
      | some (.dK kvs) => Q (.int kvs.length) H
      | _ => False) = _
  unfold seqAt
  generalize H p = a
  rcases a with _ | a
  · rfl
  · cases a <;> try rfl
    rename_i o a
    cases a <;> rfl
theorem r_listU : @aC rListU [.ref p] H ⟨Q⟩ = @OK _ (seqAt H p) ⟨fun ys => @Al H (.lst ys) ⟨Q⟩⟩ := by
  unfold aC
  rw [rList_eq]
  show (match seqAt H p with
    | some ys => ∀ l H', New H l (.lst ys) H' → Q (.ref l) H'
    | none => False) = _
  generalize seqAt H p = a
  rcases a with _ | a <;> rfl
def AlC (H : Hp) (p : Addr) (o : Option HO) [Q : Kp VK] : Prop := match o with
  | some (.lst ys) => @Al H (.tup ys) Q
  | some (.tup ys) => Q.val (.ref p) H
  | _ => False
theorem AlC_lst {ys : List V} : @AlC H p (some (.lst ys)) ⟨Q⟩ = @Al H (.tup ys) ⟨Q⟩ := rfl
theorem AlC_tup {ys : List V} : @AlC H p (some (.tup ys)) ⟨Q⟩ = Q (.ref p) H := rfl
theorem r_tupleU : @aC rTupleU [.ref p] H ⟨Q⟩ = @AlC H p (H p) ⟨Q⟩ := by unfold aC; rw [rTuple_eq]; rfl
theorem r_int : @aC rIntCall [.int i] H ⟨Q⟩ = Q (.int i) H := rfl
theorem r_intB {b : Bool} : @aC rIntCall [.bl b] H ⟨Q⟩ = Q (.int (if b then 1 else 0)) H := rfl
def tyO : Option HO → Option Ty
  | some (.lst _) => some .lst
  | some (.tup _) => some .tup
  | some (.dK _) => some .dict
  | some (.dT _) => some .dict
  | _ => none
theorem e_tyR : tyV H (.ref p) = tyO (H p) := by
  show (match H p with
    | some (.lst _) => some Ty.lst
    | some (.tup _) => some .tup
    | some (.dK _) => some .dict
    | some (.dT _) => some .dict
    | _ => none) = _
  generalize H p = a
  rcases a with _ | a
  · rfl
  · cases a <;> rfl
theorem tyO_t : (∀ xs, tyO (some (.lst xs)) = some .lst) ∧ (∀ xs, tyO (some (.tup xs)) = some .tup) ∧ (∀ xs, tyO (some (.dK xs)) = some .dict) ∧ (∀ xs, tyO (some (.dT xs)) = some .dict) := ⟨fun _ => rfl, fun _ => rfl, fun _ => rfl, fun _ => rfl⟩
theorem e_ty : tyV H .non = some .non ∧ (∀ b, tyV H (.bl b) = some .bl) ∧ (∀ i, tyV H (.int i) = some .int) ∧ (∀ z, tyV H (.str z) = some .str) := ⟨rfl, fun _ => rfl, fun _ => rfl, fun _ => rfl⟩
theorem r_isi {c : Ty} {s : String} : @aC (rIsi c) [x, .ty s] H ⟨Q⟩ = @Cd (s = c.name) ⟨@OK _ (tyV H x) ⟨fun t => Q (.bl (t.isa c)) H⟩⟩ := by
  have k : ∀ o : Option Ty, (match o with | some t => Q (.bl (t.isa c)) H | none => False) = @OK _ o ⟨fun t => Q (.bl (t.isa c)) H⟩ := fun o => by cases o <;> rfl
  unfold aC rIsi Cd
  rw [← k]
  exact propext ⟨fun ⟨x', e, h⟩ => by cases e; exact ⟨rfl, h⟩, fun ⟨e, h⟩ => by subst e; exact ⟨x, rfl, h⟩⟩
theorem e_tyn : Ty.name .non = "NoneType" ∧ Ty.name .bl = "bool" ∧ Ty.name .int = "int" ∧ Ty.name .str = "str" ∧ Ty.name .lst = "list" ∧ Ty.name .tup = "tuple" ∧ Ty.name .dict = "dict" := ⟨rfl, rfl, rfl, rfl, rfl, rfl, rfl⟩
theorem r_tru : uTru te σ H R = te σ H fun x H1 => @aT x H1 ⟨R⟩ := rfl
def truO : Option HO → Option Bool
  | some (.lst xs) => some (!xs.isEmpty)
  | some (.tup xs) => some (!xs.isEmpty)
  | some (.frz _ (.lst xs)) => some (!xs.isEmpty)
  | some (.frz _ (.tup xs)) => some (!xs.isEmpty)
  | some (.dK kvs) => some (!kvs.isEmpty)
  | _ => none
theorem truO_lst {xs : List V} : truO (some (.lst xs)) = some (!xs.isEmpty) := rfl
theorem truO_tup {xs : List V} : truO (some (.tup xs)) = some (!xs.isEmpty) := rfl
theorem truO_dK {xs : List (Key × V)} : truO (some (.dK xs)) = some (!xs.isEmpty) := rfl
theorem r_truN : @aT .non H ⟨R⟩ = R false H := rfl
theorem r_truB {b : Bool} : @aT (.bl b) H ⟨R⟩ = R b H := rfl
theorem r_truI : @aT (.int i) H ⟨R⟩ = R (!decide (i = 0)) H := by
  show R (i != 0) H = _
  congr 1
theorem r_truS {z : Str} : @aT (.str z) H ⟨R⟩ = @Cd (z.length ≤ sizeLine) ⟨R (!decide (z.length = 0)) H⟩ := by
  show (z.length ≤ sizeLine ∧ R ((z.length : Int) != 0) H) = _
  unfold Cd
  congr 2
  by_cases h : z.length = 0
  · rw [h]; rfl
  · rw [decide_eq_false h]
    exact bne_iff_ne.mpr (by omega)
theorem r_truR : @aT (.ref p) H ⟨R⟩ = @OK _ (truO (H p)) ⟨fun b => R b H⟩ := by
  show (match seqAt H p with
    | some xs => R (!xs.isEmpty) H
    | none => match H p with
      | some (.dK kvs) => R (!kvs.isEmpty) H
      | _ => False) = _
  unfold seqAt
  generalize H p = a
  rcases a with _ | a
  · rfl
  · cases a <;> try rfl
    rename_i o a
    cases a <;> rfl
def aL (H : Hp) (x : V) [P : Kp Prop] : Prop := match x with
  | .ref p => @OK _ (lstO (H p)) ⟨fun _ => P.val⟩
  | _ => False
theorem aL_ref {P : Prop} : @aL H (.ref p) ⟨P⟩ = @OK _ (lstO (H p)) ⟨fun _ => P⟩ := rfl
def rApp : V → List V → Hp → VK → Prop := fun x vs H Q => match x, vs with
  | .ref l, [y] => @OK _ (lstO (H l)) ⟨fun xs => @Cd (xs.length < sizeLine) ⟨@Md H l (.lst (xs ++ [y])) ⟨fun H' => Q .non H'⟩⟩⟩
  | _, _ => False
def aM (r : V → List V → Hp → VK → Prop) (x : V) (vs : List V) (H : Hp) [Q : Kp VK] : Prop := r x vs H Q.val
theorem k1_eq {R : Int → Prop} : (∃ j : Int, vs = [.int j] ∧ R j) = @a1 vs ⟨R⟩ := by
  unfold a1
  split
  · rename_i i; exact propext ⟨fun ⟨_, e, q⟩ => by cases e; exact q, fun q => ⟨i, rfl, q⟩⟩
  · rename_i h; exact propext ⟨fun ⟨j, e, _⟩ => h j e, fun q => q.elim⟩
theorem k2_eq {R : Int → Int → Prop} : (∃ i j : Int, vs = [.int i, .int j] ∧ R i j) = @a2 vs ⟨R⟩ := by
  unfold a2
  split
  · rename_i i j; exact propext ⟨fun ⟨_, _, e, q⟩ => by cases e; exact q, fun q => ⟨i, j, rfl, q⟩⟩
  · rename_i h; exact propext ⟨fun ⟨i, j, e, _⟩ => h i j e, fun q => q.elim⟩
theorem r_for1 {g : TG} {tb : TS} : tFor (iRng1 ts) g tb D σ H = ts σ H fun vs H1 => @a1 vs ⟨fun j => @Cd (-4611686018427387904 ≤ j ∧ j < 4611686018427387904) ⟨@LoopJ (Itr 0 j.toNat) σ H1 ⟨g⟩ ⟨tb⟩ ⟨D⟩⟩⟩ := by
  rw [for_R1]
  congr 1
  funext vs H1
  rw [← k1_eq]
  exact propext ⟨fun ⟨j, e, a, b, c⟩ => ⟨j, e, ⟨a, b⟩, c⟩, fun ⟨j, e, ⟨a, b⟩, c⟩ => ⟨j, e, a, b, c⟩⟩
theorem r_for2 {g : TG} {tb : TS} : tFor (iRng2 ts) g tb D σ H = ts σ H fun vs H1 => @a2 vs ⟨fun i j => @Cd (rngOk i j) ⟨@LoopJ (Itr i (j - i).toNat) σ H1 ⟨g⟩ ⟨tb⟩ ⟨D⟩⟩⟩ := by
  rw [for_R2]
  congr 1
  funext vs H1
  rw [← k2_eq]
  exact propext ⟨fun ⟨i, j, e, a, b⟩ => ⟨i, j, e, a, b⟩, fun ⟨i, j, e, a, b⟩ => ⟨i, j, e, a, b⟩⟩
theorem r_for {g : TG} {tb : TS} : tFor (iU K te) g tb D σ H = te σ H fun x H1 => @LoopU K x σ H1 ⟨g⟩ ⟨tb⟩ ⟨D⟩ := rfl
theorem r_lc {g : TG} {tt : TT} {tel : TE} {us : List Nat} : tLc (iU K te) g tt tel us σ H Q = te σ H fun x H1 => @CompU K x us σ H1 ⟨g⟩ ⟨tt⟩ ⟨tel⟩ ⟨Q⟩ := rfl
theorem r_lc1 {g : TG} {tt : TT} {tel : TE} {us : List Nat} : tLc (iRng1 ts) g tt tel us σ H Q = ts σ H fun vs H1 => @a1 vs ⟨fun j => @Cd (-4611686018427387904 ≤ j ∧ j < 4611686018427387904) ⟨@CompJ (Itr 0 j.toNat) us σ H1 ⟨g⟩ ⟨tt⟩ ⟨tel⟩ ⟨Q⟩⟩⟩ := by
  rw [lc_R1]
  congr 1
  funext vs H1
  rw [← k1_eq]
  exact propext ⟨fun ⟨j, e, a, b, c⟩ => ⟨j, e, ⟨a, b⟩, c⟩, fun ⟨j, e, ⟨a, b⟩, c⟩ => ⟨j, e, a, b, c⟩⟩
theorem r_lc2 {g : TG} {tt : TT} {tel : TE} {us : List Nat} : tLc (iRng2 ts) g tt tel us σ H Q = ts σ H fun vs H1 => @a2 vs ⟨fun i j => @Cd (rngOk i j) ⟨@CompJ (Itr i (j - i).toNat) us σ H1 ⟨g⟩ ⟨tt⟩ ⟨tel⟩ ⟨Q⟩⟩⟩ := by
  rw [lc_R2]
  congr 1
  funext vs H1
  rw [← k2_eq]
  exact propext ⟨fun ⟨i, j, e, a, b⟩ => ⟨i, j, e, a, b⟩, fun ⟨i, j, e, a, b⟩ => ⟨i, j, e, a, b⟩⟩
end
theorem eqV_t : (∀ a b : Int, eqV (.int a) (.int b) = decide (b = a)) ∧ (∀ a b : Str, eqV (.str a) (.str b) = decide (b = a)) := by
  refine ⟨fun a b => ?_, fun a b => ?_⟩
  · show (a == b) = _
    by_cases h : b = a
    · subst h; rw [decide_eq_true rfl]; exact beq_self_eq_true _
    · rw [decide_eq_false h]; exact beq_eq_false_iff_ne.mpr fun e => h e.symm
  · show (a == b) = _
    by_cases h : b = a
    · subst h; rw [decide_eq_true rfl]; exact beq_self_eq_true _
    · rw [decide_eq_false h]; exact beq_eq_false_iff_ne.mpr fun e => h e.symm
theorem inV_cons {x y : V} {xs : List V} : inV x (y :: xs) = (eqV y x || inV x xs) := rfl
theorem inV_nil {x : V} : inV x [] = false := rfl
theorem szl : sizeLine = 16777216 := rfl
theorem cmul_l {i j : Int} : CMul i j = ((-18446744073709551616 < i ∧ i < 18446744073709551616) ∨ (-18446744073709551616 < j ∧ j < 18446744073709551616)) := rfl
theorem cpow_l {i j : Int} : CPow i j = (0 ≤ j ∧ j ≤ 1000000 ∧ i.natAbs < 18446744073709551616) := rfl
end U
end

section
namespace Hd
open PySem PySem.Spec PyProof.Rows L2 He
def obsU (fa : List Fa) (fn : List DefD) (ex : PySem.W.Frag → Bool) (K : PySem.W.Frag) : AlD := ((fa.all fun f => f.ok K) && (ex K && fn.all fun d => d.ok K), fn.map fun d => fnW K d.at_)
def SaysU (fa : List Fa) (fn : List DefD) (ex : PySem.W.Frag → Bool) (K : PySem.W.Frag) : Prop := obsU fa fn ex K = valD fn
def obsUG (n : Nat) (fa : List Fa) (fn : List DefD) (ex : PySem.W.Frag → Bool) (g : Addr → Option Obj) : AlD := obsU fa fn ex (frG g (asD g n ++ [PySem.cStatics]))
def hookU (n : Nat) (fa : List Fa) (fn : List DefD) (ex : PySem.W.Frag → Bool) : PySem.W.Hook where
  α := AlD
  obs := fun s => obsUG n fa fn ex s.heap.get?
  val := fun _ => valD fn
  says := fun _ h => ∃ K : PySem.W.Frag, K.In h ∧ SaysU fa fn ex K
  of := fun _ _ e => ⟨_, frG_in, e⟩
  keeps := fun _ _ _ ⟨K, hK, c⟩ k => ⟨K, PySem.W.Frag.In.keeps hK k, c⟩
theorem obsUG_eq {n : Nat} {fa : List Fa} {fn : List DefD} {ex : PySem.W.Frag → Bool} {g : Addr → Option Obj} {s : Shared} (h : ∀ a, g a = s.heap.get? a) : obsUG n fa fn ex g = (hookU n fa fn ex).obs s := by
  have e : g = s.heap.get? := funext h
  rw [e] <;> rfl
section
variable {fa : List Fa} {fn : List DefD} {ex : PySem.W.Frag → Bool} {K : PySem.W.Frag}
theorem SaysU.fact (c : SaysU fa fn ex K) (i : Nat) {f : Fa} (h : fa[i]? = some f := by rfl) : f.ok K = true := by
  have c1 := (ba (show ((fa.all fun f => f.ok K) && (ex K && fn.all fun d => d.ok K)) = true from congrArg (fun z : AlD => z.1) c)).1
  exact List.all_eq_true.mp c1 f (List.mem_of_getElem? h)
theorem SaysU.more (c : SaysU fa fn ex K) : ex K = true := (ba (ba (show ((fa.all fun f => f.ok K) && (ex K && fn.all fun d => d.ok K)) = true from congrArg (fun z : AlD => z.1) c)).2).1
theorem SaysU.def_ (c : SaysU fa fn ex K) (i : Nat) {d : DefD} (h : fn[i]? = some d := by rfl) : ∃ fd, FunD K d.name d.qual d.params d.body d.scope (d.dvs K) (d.kws K) (fAd K d.at_) fd := by
  have c2 := (ba (ba (show ((fa.all fun f => f.ok K) && (ex K && fn.all fun d => d.ok K)) = true from congrArg (fun z : AlD => z.1) c)).2).2
  have e : fn.map (fun d => fnW K d.at_) = fn.map DefD.val := congrArg (fun z : AlD => z.2) c
  have e2 : (fn.map fun d => fnW K d.at_)[i]? = (fn.map DefD.val)[i]? := by rw [e]
  rw [List.getElem?_map, List.getElem?_map, h] at e2
  exact DefD.funD (Option.some.inj e2) (List.all_eq_true.mp c2 d (List.mem_of_getElem? h))
end
def ctupB (K : PySem.W.Frag) (x : Str) (vs : List V) : Bool := (Fa.glo x).ok K && tupB K x (vs.map fun v => match v with | .str z => .str z | .int i => .int i | .bl b => .bl b | _ => .non)
theorem ctupB_ok {K : PySem.W.Frag} {x : Str} {vs : List V} (h : ctupB K x vs = true) (hv : (vs.map fun v => (match v with | .str z => .str z | .int i => .int i | .bl b => .bl b | _ => .non : Dv)).map (Dv.v K) = vs) :
    (Fa.glo x).ok K = true ∧ ∀ H, SqT K H (ga K x) vs := by
  obtain ⟨h1, h2⟩ := ba h
  refine ⟨h1, fun H => ?_⟩
  have := tupB_ok h2 H
  rw [hv] at this
  exact this
def cvalB (K : PySem.W.Frag) (c f : Str) (v : V) : Bool := PySem.W.readsIn K (ga K c) (.type "type") && (eqO (PySem.W.specialIn K (.ref (ga K c)) "__getattribute__") (some (some (.builtin "type.__getattribute__"))) && (match PySem.W.findCls K (.ref (ga K c)) (.type "type") f with
  | some (.val u) => relB v u
  | _ => false))
theorem cvalB_ok {K : PySem.W.Frag} {c f : Str} {v : V} (h : cvalB K c f v = true) : ClX.CRead K (ga K c) (.type "type") ∧ ∃ u, ClX.CVal K (ga K c) (.type "type") f v u := by
  obtain ⟨h1, h⟩ := ba h
  obtain ⟨h2, h3⟩ := ba h
  refine ⟨⟨h1, eqO_ok h2⟩, ?_⟩
  split at h3
  · rename_i u e
    exact ⟨u, e, relB_ok h3⟩
  · cases h3
end Hd
end

section
namespace U
open PySem PySem.Spec PyProof.Rows L2
theorem tyV_non {H : Hp} : tyV H .non = some .non := rfl
theorem tyV_bl {H : Hp} {b : Bool} : tyV H (.bl b) = some .bl := rfl
theorem tyV_int {H : Hp} {i : Int} : tyV H (.int i) = some .int := rfl
theorem tyV_str {H : Hp} {z : Str} : tyV H (.str z) = some .str := rfl
theorem tyV_ref {H : Hp} {p : Addr} : tyV H (.ref p) = match H p with
    | some (.lst _) => some .lst
    | some (.tup _) => some .tup
    | some (.dK _) => some .dict
    | some (.dT _) => some .dict
    | _ => none := rfl
theorem tyRef {H : Hp} {p : Addr} (h : (tyV H (.ref p)).isSome = true) : ∃ t, tyV H (.ref p) = some t ∧ t.isa .str = false ∧ t.isa .int = false ∧ t.isa .bl = false := by
  rw [tyV_ref] at h ⊢
  split at h
  · exact ⟨_, rfl, rfl, rfl, rfl⟩
  · exact ⟨_, rfl, rfl, rfl, rfl⟩
  · exact ⟨_, rfl, rfl, rfl, rfl⟩
  · exact ⟨_, rfl, rfl, rfl, rfl⟩
  · cases h
theorem atI_at {xs : List V} {j : Nat} {v : V} (h : xs[j]? = some v) : atI xs (j : Int) = some v := atI_nat h
theorem atI_0 {x : V} {l : List V} : atI (x :: l) 0 = some x := atI_nat (j := 0) rfl
theorem atI_1 {x y : V} {l : List V} : atI (x :: y :: l) 1 = some y := atI_nat (j := 1) rfl
theorem atI_2 {x y z : V} {l : List V} : atI (x :: y :: z :: l) 2 = some z := atI_nat (j := 2) rfl
theorem atI_3 {x y z u : V} {l : List V} : atI (x :: y :: z :: u :: l) 3 = some u := atI_nat (j := 3) rfl
theorem natc : ((0 : Nat) : Int) = 0 ∧ ((1 : Nat) : Int) = 1 ∧ ((2 : Nat) : Int) = 2 ∧ ((3 : Nat) : Int) = 3 ∧ ((4 : Nat) : Int) = 4 ∧ ((5 : Nat) : Int) = 5 ∧ ((6 : Nat) : Int) = 6 ∧ ((7 : Nat) : Int) = 7 ∧ ((8 : Nat) : Int) = 8 ∧ ((9 : Nat) : Int) = 9 ∧ ((10 : Nat) : Int) = 10 ∧ ((11 : Nat) : Int) = 11 ∧ ((12 : Nat) : Int) = 12 ∧ ((13 : Nat) : Int) = 13 ∧ ((14 : Nat) : Int) = 14 ∧ ((15 : Nat) : Int) = 15 ∧ ((16 : Nat) : Int) = 16 ∧ ((17 : Nat) : Int) = 17 ∧ ((18 : Nat) : Int) = 18 ∧ ((19 : Nat) : Int) = 19 ∧ ((20 : Nat) : Int) = 20 ∧ ((21 : Nat) : Int) = 21 ∧ ((22 : Nat) : Int) = 22 ∧ ((23 : Nat) : Int) = 23 ∧ ((24 : Nat) : Int) = 24 ∧ ((25 : Nat) : Int) = 25 ∧ ((26 : Nat) : Int) = 26 ∧ ((27 : Nat) : Int) = 27 ∧ ((28 : Nat) : Int) = 28 ∧ ((29 : Nat) : Int) = 29 ∧ ((30 : Nat) : Int) = 30 := by decide
theorem ixN_lit : ixN 4 0 = some 0 ∧ ixN 4 1 = some 1 ∧ ixN 4 2 = some 2 ∧ ixN 4 3 = some 3 := by decide
theorem inV_int2 : inV (.int 0) [.int 1, .int 2] = false ∧ inV (.int 1) [.int 1, .int 2] = true ∧ inV (.int 2) [.int 1, .int 2] = true := ⟨rfl, rfl, rfl⟩
theorem scal_tab : (∀ a b, scal (.int a) (.int b) = true) ∧ (∀ a b, scal (.str a) (.str b) = true) ∧ (∀ a b, scal (.bl a) (.bl b) = true) ∧ (∀ a b, scal (.int a) (.str b) = true) ∧ (∀ a b, scal (.str a) (.int b) = true) ∧ scal .non .non = true ∧
  (∀ a, scal .non (.str a) = true) ∧ (∀ a, scal .non (.int a) = true) ∧ (∀ a, scal (.str a) .non = true) ∧ (∀ a, scal (.int a) .non = true) ∧ (∀ a b, scal (.str a) (.bl b) = true) ∧ (∀ a b, scal (.bl a) (.str b) = true) := ⟨fun _ _ => rfl, fun _ _ => rfl, fun _ _ => rfl, fun _ _ => rfl, fun _ _ => rfl, rfl, fun _ => rfl, fun _ => rfl, fun _ => rfl, fun _ => rfl, fun _ _ => rfl, fun _ _ => rfl⟩
theorem flat_tab : (∀ a, flatV (.int a) = true) ∧ (∀ a, flatV (.str a) = true) ∧ (∀ a, flatV (.bl a) = true) ∧ flatV .non = true := ⟨fun _ => rfl, fun _ => rfl, fun _ => rfl, rfl⟩
theorem map_toNat_inj : ∀ {l m : List Char}, l.map Char.toNat = m.map Char.toNat → l = m
  | [], [], _ => rfl
  | [], _ :: _, h => by cases h
  | _ :: _, [], h => by cases h
  | c :: l, d :: m, h => by
    rw [List.map_cons, List.map_cons, List.cons.injEq] at h
    rw [map_toNat_inj h.2, Char.ext (UInt32.toNat_inj.mp h.1)]
theorem ofs_inj {a b : String} : (Str.ofString a = Str.ofString b) = (a = b) := propext ⟨fun h => by
    have h1 : TL.tl (Str.ofString a) = TL.tl (Str.ofString b) := by rw [h]
    rw [TL.tl_ofString, TL.tl_ofString] at h1
    exact String.toList_inj.mp (map_toNat_inj h1), fun h => by rw [h]⟩
theorem optEx {α : Type} {a : α} {P : α → Prop} : (∃ v, some a = some v ∧ P v) = P a := by simp
local macro_rules | `(tactic| k_subL) => `(tactic| simp only [tSeq, tIfS, tOr, tAnd, tNot, tB, tCB, tCons, tNil, tC, uVar, tRet, tNext, tTest, tOp, tChain, tAsg, gName, gSub, tDrop, tTup, tLst, tSl, tNoPart, uPart, tUn, rU, tAndV, tOrV, tNotV, uTru, rTruU, uCall, tBM, tBM0,
  rIsi, tyV_non, tyV_bl, tyV_int, tyV_str, Ty.name, isa_tab, rInt, rIntC, rLenU, rLeU, rLtU, rGeU, rGtU, rAddU, rAddI, rAddS, rAddL, rAddT, rSubU, rMulI, rDivU, rModU, rPowU, rEqS, rNeS, rIxU, rInU, rInG, rIntCall, rListU, rTupleU, rIsNU, rNotNU, rSlU, tYes, wipe, rSetU, ixN_lit, rAppend, atI_0, atI_1, atI_2, atI_3, Option.some.injEq, List.length_cons, List.length_nil, Nat.zero_add, Nat.reduceAdd, natc, Int.reduceLE, Int.reduceLT, Int.reduceEq, Int.reduceSub, Int.reduceAdd, Int.reduceNeg, decide_true, decide_false, Bool.false_xor, Bool.true_xor, scal_tab, flat_tab, inV_int2, List.all_cons, List.all_nil, Bool.and_self, Bool.and_true, Bool.true_and, ofs_inj, String.reduceEq, for_U, for_R1, for_R2, lc_U, lc_R1, lc_R2,
  List.cons.injEq, and_true, true_and, and_self, V.ty.injEq, V.bl.injEq, V.int.injEq, V.str.injEq, V.ref.injEq, List.nil_append, List.append_nil, List.cons_append, exists_const,
  List.getElem?_cons_zero, List.getElem?_cons_succ, List.set_cons_zero, List.set_cons_succ, exists_eq_left', exists_eq_left, Bool.not_true, Bool.not_false, if_true, if_false, Bool.false_eq_true, Bool.true_eq_false, reduceCtorEq, exists_and_left, exists_eq_right', *])
local macro_rules | `(tactic| k_clsL) => `(tactic| simp only [seqAt, tyV_ref, tSeq, tIfS, tOr, tAnd, tNot, tB, tCB, tCons, tNil, tC, uVar, tRet, tNext, tTest, tOp, tChain, tAsg, gName, gSub, tDrop, tTup, tLst, tSl, tNoPart, uPart, tUn, rU, tAndV, tOrV, tNotV, uTru, rTruU, uCall, tBM, tBM0,
  rIsi, tyV_non, tyV_bl, tyV_int, tyV_str, Ty.name, isa_tab, rInt, rIntC, rLenU, rLeU, rLtU, rGeU, rGtU, rAddU, rAddI, rAddS, rAddL, rAddT, rSubU, rMulI, rDivU, rModU, rPowU, rEqS, rNeS, rIxU, rInU, rInG, rIntCall, rListU, rTupleU, rIsNU, rNotNU, rSlU, tYes, wipe, rSetU, ixN_lit, rAppend, atI_0, atI_1, atI_2, atI_3, Option.some.injEq, List.length_cons, List.length_nil, Nat.zero_add, Nat.reduceAdd, natc, Int.reduceLE, Int.reduceLT, Int.reduceEq, Int.reduceSub, Int.reduceAdd, Int.reduceNeg, decide_true, decide_false, Bool.false_xor, Bool.true_xor, scal_tab, flat_tab, inV_int2, List.all_cons, List.all_nil, Bool.and_self, Bool.and_true, Bool.true_and, ofs_inj, String.reduceEq, for_U, for_R1, for_R2, lc_U, lc_R1, lc_R2,
  List.cons.injEq, and_true, true_and, and_self, V.ty.injEq, V.bl.injEq, V.int.injEq, V.str.injEq, V.ref.injEq, List.nil_append, List.append_nil, List.cons_append, exists_const,
  List.getElem?_cons_zero, List.getElem?_cons_succ, List.set_cons_zero, List.set_cons_succ, exists_eq_left', exists_eq_left, Bool.not_true, Bool.not_false, if_true, if_false, Bool.false_eq_true, Bool.true_eq_false, reduceCtorEq, exists_and_left, exists_eq_right', *])

local macro_rules | `(tactic| tbr_iter $fs) => `(tactic| simp only [seqAt, tyV_ref, tSeq, tIfS, tOr, tAnd, tNot, tB, tCB, tCons, tNil, tC, uVar, tRet, tNext, tTest, tOp, tChain, tAsg, gName, gSub, tDrop, tTup, tLst, tSl, tNoPart, uPart, tUn, rU, tAndV, tOrV, tNotV, uTru, rTruU, uCall, tBM, tBM0,
  rIsi, tyV_non, tyV_bl, tyV_int, tyV_str, Ty.name, isa_tab, rInt, rIntC, rLenU, rLeU, rLtU, rGeU, rGtU, rAddU, rAddI, rAddS, rAddL, rAddT, rSubU, rMulI, rDivU, rModU, rPowU, rEqS, rNeS, rIxU, rInU, rInG, rIntCall, rListU, rTupleU, rIsNU, rNotNU, rSlU, tYes, wipe, rSetU, ixN_lit, rAppend, atI_0, atI_1, atI_2, atI_3, Option.some.injEq, List.length_cons, List.length_nil, Nat.zero_add, Nat.reduceAdd, natc, Int.reduceLE, Int.reduceLT, Int.reduceEq, Int.reduceSub, Int.reduceAdd, Int.reduceNeg, decide_true, decide_false, Bool.false_xor, Bool.true_xor, scal_tab, flat_tab, inV_int2, List.all_cons, List.all_nil, Bool.and_self, Bool.and_true, Bool.true_and, ofs_inj, String.reduceEq, for_U, for_R1, for_R2, lc_U, lc_R1, lc_R2,
  List.cons.injEq, and_true, true_and, and_self, V.ty.injEq, V.bl.injEq, V.int.injEq, V.str.injEq, V.ref.injEq, List.nil_append, List.append_nil, List.cons_append, exists_const,
  List.getElem?_cons_zero, List.getElem?_cons_succ, List.set_cons_zero, List.set_cons_succ, exists_eq_left', exists_eq_left, Bool.not_true, Bool.not_false, if_true, if_false, Bool.false_eq_true, Bool.true_eq_false, reduceCtorEq, exists_and_left, exists_eq_right', $fs:term])

theorem seq_by {t u : TS} {D : Ends} {σ : L2.St} {H : Hp} (M : L2.St → Hp → Prop) (h1 : ∀ nx : L2.St → Hp → Prop, (∀ σ' H', M σ' H' → nx σ' H') → t { D with nx := nx } σ H) (h2 : ∀ σ' H', M σ' H' → u D σ' H') : tSeq t u D σ H := h1 _ h2
theorem upd_old {H : Hp} {p a : Addr} {o u : HO} (hp : H p = none) (ha : H a = some u) : upd H p o a = some u := by rw [upd_ne (ne_of_none ha hp)]; exact ha
theorem same_new {H H' : Hp} {p : Addr} {o : HO} (k : L2.Same H H') (hp : H' p = none) : L2.Same H (upd H' p o) := fun b u e => upd_old hp (k b u e)

def isMarkS (z : Str) : Bool := decide (1 ≤ z.length) && decide (z.length ≤ 8) && z.cps.toList.all fun c => decide (c ∈ (Str.ofString "abcdefghijklmnopqrstuvwxyz").cps.toList)
def isMarkV : V → Bool
  | .str z => isMarkS z
  | _ => false
def strOk : V → Prop
  | .str z => z.length ≤ sizeLine
  | _ => True
def t_is_mark (K : PySem.W.Frag) : TS :=
  (tSeq (tIfS (tOr (tNot (uTru (tCB (rIsi .str) (tCons (uVar 0) (tCons (tC (.ty "str")) tNil))))) (tNot (tTest (tChain rLeU rLeU (tC (.int 1)) (tCB rLenU (tCons (uVar 0) tNil)) (tC (.int 8)))))) (tRet (tC (.bl false))) tNext)
  (tSeq (tFor (iU K (uVar 0)) (gName 1) (tIfS (tTest (tOp (rInU true) (uVar 1) (tC (.str "abcdefghijklmnopqrstuvwxyz")))) (tRet (tC (.bl false))) tNext))
  (tRet (tC (.bl true)))))
def sp_is_mark (K : PySem.W.Frag) : Sp := fun vs H Q _ => ∃ v, vs = [v] ∧ (tyV H v).isSome = true ∧ strOk v ∧ Q (.bl (isMarkV v)) H
theorem len_is_mark {K : PySem.W.Frag} : ∀ vs H Q E, sp_is_mark K vs H Q E → vs.length = 1 := fun _ _ _ _ ⟨_, e, _⟩ => by rw [e]; rfl
theorem pure_is_mark {K : PySem.W.Frag} (vs : List V) (H : Hp) (Q : VK) (E : XK) (h : sp_is_mark K vs H Q E) : t_is_mark K { nx := fun _ H' => Q .non H', rt := Q } (start ["value", "letter"] vs) H := by
  obtain ⟨v, rfl, ht, hz, q⟩ := h
  unfold t_is_mark
  show tSeq _ _ _ [some v, none] H
  cases v with
  | str z =>
    have hz : z.length ≤ sizeLine := hz
    have q : Q (.bl (isMarkS z)) H := q
    k_subL
    have n1 : ¬ (1 ≤ z.length ∧ z.length ≤ 8) → isMarkS z = false := fun h => by
      unfold isMarkS
      by_cases h1 : 1 ≤ z.length
      · have h2 : ¬ z.length ≤ 8 := fun x => h ⟨h1, x⟩
        simp [h2]
      · simp [h1]
    refine ite2 (fun h1 => ite2 (fun h2 => ?_) fun h2 => ?_) fun h1 => ?_
    · rw [n1 (by simp at h1 h2; omega)] at q
      exact q
    · have h1 : 1 ≤ z.length := by simp at h1; omega
      have h2 : z.length ≤ 8 := by simp at h2; omega
      have e : isMarkS z = z.cps.toList.all fun c => decide (c ∈ (Str.ofString "abcdefghijklmnopqrstuvwxyz").cps.toList) := by
        unfold isMarkS
        rw [decide_eq_true h1, decide_eq_true h2]
        rfl
      rw [e] at q
      refine loop_str (fun i σ H' => H' = H ∧ (∃ y, σ = [some (.str z), y]) ∧ ∀ j c, j < i → z.cps[j]? = some c → c ∈ (Str.ofString "abcdefghijklmnopqrstuvwxyz").cps.toList) ⟨rfl, ⟨_, rfl⟩, fun j c hj => absurd hj (Nat.not_lt_zero _)⟩ (fun i c σ H' hc ⟨e1, ⟨y, e2⟩, p⟩ => ?_) (fun σ H' ⟨e1, ⟨y, e2⟩, p⟩ => ?_)
      · subst e1 e2
        k_subL
        refine ⟨c, rfl, ite2 (fun hn => ?_) fun hn => ⟨⟨_, rfl⟩, fun j c' hj hc' => ?_⟩⟩
        · have : (z.cps.toList.all fun c => decide (c ∈ (Str.ofString "abcdefghijklmnopqrstuvwxyz").cps.toList)) = false := by
            rw [List.all_eq_false]
            exact ⟨c, List.mem_of_getElem? (by simpa using hc), by simpa using hn⟩
          rw [this] at q
          exact q
        · by_cases hj2 : j = i
          · subst hj2
            rw [hc] at hc'
            cases hc'
            simpa using hn
          · exact p j c' (by omega) hc'
      · subst e1 e2
        k_subL
        have : (z.cps.toList.all fun c => decide (c ∈ (Str.ofString "abcdefghijklmnopqrstuvwxyz").cps.toList)) = true := by
          rw [List.all_eq_true]
          intro c hc
          obtain ⟨j, hj⟩ := List.getElem?_of_mem hc
          have hj' : z.cps[j]? = some c := by simpa using hj
          exact decide_eq_true (p j c (by have := (Array.getElem?_eq_some_iff.mp hj').1; exact this) hj')
        rw [this] at q
        exact q
    · rw [n1 (by simp at h1; omega)] at q
      exact q
  | ref p =>
    obtain ⟨t, ht, h1, h2, h3⟩ := tyRef ht
    k_subL
    exact q
  | byt _ => cases ht
  | flt _ => cases ht
  | ty _ => cases ht
  | _ => k_subL; exact q
def t_in_range (K : PySem.W.Frag) : TS :=
  (tRet (tAndV (tCB (rIsi .int) (tCons (uVar 0) (tCons (tC (.ty "int")) tNil))) (tAndV (tNotV (tCB (rIsi .bl) (tCons (uVar 0) (tCons (tC (.ty "bool")) tNil)))) (tChain rLeU rLeU (tC (.int 0)) (uVar 0) (uVar 1)))))
def inRangeV : V → Int → Bool
  | .int i, g => decide (0 ≤ i) && decide (i ≤ g)
  | _, _ => false
def sp_in_range (K : PySem.W.Frag) : Sp := fun vs H Q _ => ∃ (v : V) (g : Int), vs = [v, .int g] ∧ (tyV H v).isSome = true ∧ Q (.bl (inRangeV v g)) H
theorem len_in_range {K : PySem.W.Frag} : ∀ vs H Q E, sp_in_range K vs H Q E → vs.length = 2 := fun _ _ _ _ ⟨_, _, e, _⟩ => by rw [e]; rfl
theorem pure_in_range {K : PySem.W.Frag} (vs : List V) (H : Hp) (Q : VK) (E : XK) (h : sp_in_range K vs H Q E) : t_in_range K { nx := fun _ H' => Q .non H', rt := Q } (start ["value", "greatest"] vs) H := by
  obtain ⟨v, g, rfl, ht, q⟩ := h
  unfold t_in_range
  show tRet _ _ [some v, some (.int g)] H
  cases v with
  | int i =>
    k_subL
    have q : Q (.bl (decide (0 ≤ i) && decide (i ≤ g))) H := q
    refine ite2 (fun h1 => ?_) fun h1 => ?_
    · rw [h1] at q
      exact q
    · rw [Bool.not_eq_true] at h1
      rw [h1] at q
      exact q
  | ref p =>
    obtain ⟨t, ht, h1, h2, h3⟩ := tyRef ht
    k_subL
    exact q
  | byt _ => cases ht
  | flt _ => cases ht
  | ty _ => cases ht
  | _ => k_subL; exact q

def inStrs (w : Str) (l : List Str) : Bool := inV (.str w) (l.map V.str)
def isBasicT : List V → Bool
  | [.str w] => inV (.str w) [.str "drop", .str "emit", .str "same", .str "differ"]
  | [.str w, x] => if inV (.str w) [.str "pick", .str "roll"] then inRangeV x 23 else if inV (.str w) [.str "keep", .str "load"] then inRangeV x 3 else inV (.str w) [.str "push", .str "expect"] && isMarkV x
  | _ => false
def isBasicV (H : Hp) : V → Bool
  | .ref p => match H p with
    | some (.tup xs) => isBasicT xs
    | _ => false
  | _ => false
def okV (H : Hp) (v : V) : Prop := (tyV H v).isSome = true ∧ strOk v
def okT (H : Hp) (v : V) : Prop := okV H v ∧ ∀ p xs, v = .ref p → H p = some (.tup xs) → ∀ x ∈ xs, okV H x
theorem not_str {H : Hp} {x : V} {R : Prop} {F : Ty → Prop} (hx : okV H x) (hs : ∀ w, x ≠ .str w) (r : R) (hF : ∀ t, t.isa .str = false → (F t = R)) : (match tyV H x with | some t => F t | none => False) := by
  cases x with
  | str w => exact absurd rfl (hs w)
  | ref p' =>
    obtain ⟨t, ht, h1, h2, h3⟩ := tyRef hx.1
    rw [ht]
    show F t
    rw [hF t h1]
    exact r
  | non => exact (show F .non from cast (hF .non rfl).symm r)
  | bl _ => exact (show F .bl from cast (hF .bl rfl).symm r)
  | int _ => exact (show F .int from cast (hF .int rfl).symm r)
  | byt _ => cases hx.1
  | flt _ => cases hx.1
  | ty _ => cases hx.1
theorem inV_str2 (w a b : Str) : inV (.str w) [.str a, .str b] = (decide (w = a) || decide (w = b)) := by
  have e : inV (.str w) [.str a, .str b] = (eqV (.str a) (.str w) || (eqV (.str b) (.str w) || false)) := rfl
  rw [e, Bool.or_false]
  have k : ∀ a : Str, eqV (.str a) (.str w) = decide (w = a) := fun a => by
    show (a == w) = _
    by_cases h : w = a
    · subst h
      rw [decide_eq_true rfl]
      exact beq_self_eq_true _
    · rw [decide_eq_false h]
      exact beq_eq_false_iff_ne.mpr fun e => h e.symm
  rw [k, k]
theorem okV_same {H H' : Hp} {v : V} (k : L2.Same H H') (h : okV H v) : okV H' v := by
  refine ⟨?_, h.2⟩
  have h := h.1
  cases v with
  | ref p =>
    rw [tyV_ref] at h ⊢
    split at h
    · rename_i e; rw [k _ _ e]; rfl
    · rename_i e; rw [k _ _ e]; rfl
    · rename_i e; rw [k _ _ e]; rfl
    · rename_i e; rw [k _ _ e]; rfl
    · cases h
  | _ => exact h
def t_is_basic (K : PySem.W.Frag) (a_PLAIN : Addr) (a_DEPTHS : Addr) (a_STORES : Addr) (a_MARKED : Addr) : TS :=
  (tSeq (tIfS (tOr (tNot (uTru (tCB (rIsi .tup) (tCons (uVar 0) (tCons (tC (.ty "tuple")) tNil))))) (tOr (tNot (tTest (tChain rLeU rLeU (tC (.int 1)) (tCB rLenU (tCons (uVar 0) tNil)) (tC (.int 2))))) (tNot (uTru (tCB (rIsi .str) (tCons (tOp rIxU (uVar 0) (tC (.int 0))) (tCons (tC (.ty "str")) tNil))))))) (tRet (tC (.bl false))) tNext)
  (tSeq (tAsg (tOp rIxU (uVar 0) (tC (.int 0))) (gName 1))
  (tSeq (tIfS (tTest (tOp rEqS (tCB rLenU (tCons (uVar 0) tNil)) (tC (.int 1)))) (tRet (tOp (rInG a_PLAIN [.str "drop", .str "emit", .str "same", .str "differ"] false) (uVar 1) (tC (.ref a_PLAIN)))) tNext)
  (tSeq (tIfS (tTest (tOp (rInG a_DEPTHS [.str "pick", .str "roll"] false) (uVar 1) (tC (.ref a_DEPTHS)))) (tRet (uCall (sp_in_range K) [] E0 (tCons (tOp rIxU (uVar 0) (tC (.int 1))) (tCons (tOp rSubU (tC (.int 24)) (tC (.int 1))) tNil)))) tNext)
  (tSeq (tIfS (tTest (tOp (rInG a_STORES [.str "keep", .str "load"] false) (uVar 1) (tC (.ref a_STORES)))) (tRet (uCall (sp_in_range K) [] E0 (tCons (tOp rIxU (uVar 0) (tC (.int 1))) (tCons (tOp rSubU (tC (.int 4)) (tC (.int 1))) tNil)))) tNext)
  (tRet (tAndV (tOp (rInG a_MARKED [.str "push", .str "expect"] false) (uVar 1) (tC (.ref a_MARKED))) (uCall (sp_is_mark K) [] E0 (tCons (tOp rIxU (uVar 0) (tC (.int 1))) tNil)))))))))
def sp_is_basic (K : PySem.W.Frag) : Sp := fun vs H Q _ => ∃ v, vs = [v] ∧ okT H v ∧ Q (.bl (isBasicV H v)) H
theorem len_is_basic {K : PySem.W.Frag} : ∀ vs H Q E, sp_is_basic K vs H Q E → vs.length = 1 := fun _ _ _ _ ⟨_, e, _⟩ => by rw [e]; rfl
theorem pure_is_basic {K : PySem.W.Frag} {a1 a2 a3 a4 : Addr} (vs : List V) (H : Hp) (Q : VK) (E : XK) (h : sp_is_basic K vs H Q E) : t_is_basic K a1 a2 a3 a4 { nx := fun _ H' => Q .non H', rt := Q } (start ["value", "word"] vs) H := by
  obtain ⟨v, rfl, ⟨⟨ht, hz⟩, hi⟩, q⟩ := h
  unfold t_is_basic
  show tSeq _ _ _ [some v, none] H
  cases v with
  | ref p =>
    rw [tyV_ref] at ht
    split at ht
    · rename_i xs e
      have q : Q (.bl false) H := by simpa only [isBasicV, e] using q
      k_clsL
    · rename_i xs e
      have q : Q (.bl (isBasicT xs)) H := by simpa only [isBasicV, e] using q
      have hi := hi p xs rfl e
      clear ht
      have nots : ∀ (x : V) (R : Prop) (F : Ty → Prop), okV H x → (∀ w, x ≠ .str w) → R → (∀ t, t.isa .str = false → (F t = R)) → (match tyV H x with | some t => F t | none => False) := fun x R F hx hs r hF => by
        cases x with
        | str w => exact absurd rfl (hs w)
        | ref p' =>
          obtain ⟨t, ht, h1, h2, h3⟩ := tyRef hx.1
          rw [ht]
          show F t
          rw [hF t h1]
          exact r
        | non => exact (show F .non from cast (hF .non rfl).symm r)
        | bl _ => exact (show F .bl from cast (hF .bl rfl).symm r)
        | int _ => exact (show F .int from cast (hF .int rfl).symm r)
        | byt _ => cases hx.1
        | flt _ => cases hx.1
        | ty _ => cases hx.1
      rcases xs with _ | ⟨x, _ | ⟨y, _ | ⟨z, r⟩⟩⟩
      · k_clsL
        exact q
      · have hx := hi x (by simp)
        k_clsL
        by_cases hs : ∃ w, x = .str w
        · obtain ⟨w, rfl⟩ := hs
          k_clsL
          exact q
        · have hs : ∀ w, x ≠ .str w := fun w e => hs ⟨w, e⟩
          refine nots x _ _ hx hs (show Q (.bl false) H from ?_) fun t h => by rw [h]; rfl
          have e : isBasicT [x] = false := by cases x <;> first | rfl | exact absurd rfl (hs _)
          rw [e] at q
          exact q
      · have hx := hi x (by simp)
        have hy := hi y (by simp)
        k_clsL
        by_cases hs : ∃ w, x = .str w
        · obtain ⟨w, rfl⟩ := hs
          k_clsL
          refine ite2 (fun h => ?_) fun h => ite2 (fun h2 => ?_) fun h2 => ite2 (fun h3 => ?_) fun h3 => ?_
          · refine ⟨_, _, rfl, hy.1, ?_⟩
            simpa only [isBasicT, h, if_true] using q
          · refine ⟨_, _, rfl, hy.1, ?_⟩
            simpa only [isBasicT, h, h2, if_true, if_false, Bool.false_eq_true] using q
          · refine ⟨_, rfl, hy.1, hy.2, ?_⟩
            simpa only [isBasicT, h, h2, h3, if_true, if_false, Bool.true_and, Bool.false_eq_true] using q
          · simpa only [isBasicT, h, h2, h3, if_true, if_false, Bool.false_and, Bool.false_eq_true] using q
        · have hs : ∀ w, x ≠ .str w := fun w e => hs ⟨w, e⟩
          refine nots x _ _ hx hs (show Q (.bl false) H from ?_) fun t h => by rw [h]; rfl
          have e : isBasicT [x, y] = false := by cases x <;> first | rfl | exact absurd rfl (hs _)
          rw [e] at q
          exact q
      · have e1 : isBasicT (x :: y :: z :: r) = false := by cases x <;> rfl
        rw [e1] at q
        have l1 : (1 : Int) ≤ ((r.length + 1 + 1 + 1 : Nat) : Int) := by omega
        have l2 : ¬ ((r.length + 1 + 1 + 1 : Nat) : Int) ≤ 2 := by omega
        k_clsL
    · rename_i xs e
      have q : Q (.bl false) H := by simpa only [isBasicV, e] using q
      k_clsL
    · rename_i xs e
      have q : Q (.bl false) H := by simpa only [isBasicV, e] using q
      k_clsL
    · cases ht
  | byt _ => cases ht
  | flt _ => cases ht
  | ty _ => cases ht
  | _ => k_subL; exact q

def Keep (d : Addr) (H H' : Hp) : Prop := ∀ b, b ≠ d → H b ≠ none → H' b = H b
theorem Keep.refl (d : Addr) (H : Hp) : Keep d H H := fun _ _ _ => rfl
theorem Keep.trans {d : Addr} {H H1 H2 : Hp} (a : Keep d H H1) (b : Keep d H1 H2) : Keep d H H2 := fun c h1 h2 => (b c h1 (by rw [a c h1 h2]; exact h2)).trans (a c h1 h2)
theorem Keep.at {d b : Addr} {H H' : Hp} {o : HO} (a : Keep d H H') (h : b ≠ d) (e : H b = some o) : H' b = some o := (a b h (by rw [e]; exact fun z => nomatch z)).trans e
theorem Keep.upd {d : Addr} {H H' : Hp} {o : HO} (a : Keep d H H') : Keep d H (upd H' d o) := fun b h1 h2 => (upd_ne h1).trans (a b h1 h2)
theorem Keep.new {d p : Addr} {H H' : Hp} {o : HO} (a : Keep d H H') (h : H' p = none) : Keep d H (L2.upd H' p o) := fun b h1 h2 => by
  by_cases e : b = p
  · subst e
    exact absurd (by rw [← a b h1 h2]; exact h) h2
  · rw [upd_ne e]
    exact a b h1 h2
structure Dr where
  d : Addr
  L : Addr
def DrawsOk (H : Hp) (D : Dr) : Prop := ∃ (ns : List Int) (i a b : Int), H D.d = some (.lst [.ref D.L, .int i, .int a, .int b]) ∧ D.L ≠ D.d ∧ H D.L = some (.lst (ns.map V.int)) ∧ 0 ≤ i ∧ 0 ≤ a
theorem DrawsOk.some {H : Hp} {D : Dr} (h : DrawsOk H D) : H D.d ≠ none := by
  obtain ⟨ns, i, a, b, e, _⟩ := h
  rw [e]
  exact fun z => nomatch z
theorem DrawsOk.someL {H : Hp} {D : Dr} (h : DrawsOk H D) : H D.L ≠ none := by
  obtain ⟨ns, i, a, b, _, _, e, _⟩ := h
  rw [e]
  exact fun z => nomatch z
theorem DrawsOk.set {H : Hp} {D : Dr} {p : Addr} {o : HO} (h : DrawsOk H D) (h1 : p ≠ D.d) (h2 : p ≠ D.L) : DrawsOk (upd H p o) D := by
  obtain ⟨ns, i, a, b, e, hL, eL, h0, h3⟩ := h
  exact ⟨ns, i, a, b, by rw [upd_ne h1.symm]; exact e, hL, by rw [upd_ne h2.symm]; exact eL, h0, h3⟩
theorem DrawsOk.ne {H : Hp} {D : Dr} {p : Addr} (h : DrawsOk H D) (hp : H p = none) : p ≠ D.d := fun e => h.some (by rw [← e]; exact hp)
theorem DrawsOk.neL {H : Hp} {D : Dr} {p : Addr} (h : DrawsOk H D) (hp : H p = none) : p ≠ D.L := fun e => h.someL (by rw [← e]; exact hp)
theorem DrawsOk.new {H : Hp} {D : Dr} {p : Addr} {o : HO} (h : DrawsOk H D) (hp : H p = none) : DrawsOk (upd H p o) D := h.set (h.ne hp) (h.neL hp)
theorem New.draws {H H' : Hp} {p : Addr} {o : HO} {D : Dr} (n : New H p o H') (h : DrawsOk H D) : DrawsOk H' D := by rw [n.eq]; exact h.new n.fr
theorem New.keep {H0 H H' : Hp} {p d : Addr} {o : HO} (n : New H p o H') (k : Keep d H0 H) : Keep d H0 H' := by rw [n.eq]; exact k.new n.fr
theorem DrawsOk.other {H : Hp} {D : Dr} {p : Addr} {xs : List V} (h : DrawsOk H D) (e : H p = Option.some (.tup xs)) : p ≠ D.d := fun z => by
  obtain ⟨ns, i, a, b, e2, _⟩ := h
  rw [z, e2] at e
  cases e
theorem DrawsOk.same {H H' : Hp} {D : Dr} (h : DrawsOk H D) (s : L2.Same H H') : DrawsOk H' D := by
  obtain ⟨ns, i, a, b, e, hL, eL, h0, h3⟩ := h
  exact ⟨ns, i, a, b, s _ _ e, hL, s _ _ eL, h0, h3⟩
def t__law_begin (K : PySem.W.Frag) : TS :=
  (tRet (tLst (tCons (tCB (rListK K) (tCons (uVar 0) tNil)) (tCons (tC (.int 0)) (tCons (tC (.int 0)) (tCons (tC (.int 7)) tNil))))))
def sp__law_begin (K : PySem.W.Frag) : Sp := fun vs H Q _ => ∃ (a : Addr) (ns : List Int), vs = [.ref a] ∧ SqL K H a (ns.map V.int) ∧ ∀ (D : Dr) H', H D.d = none → DrawsOk H' D → (∀ b, H b ≠ none → H' b = H b) → Q (.ref D.d) H'
theorem len__law_begin {K : PySem.W.Frag} : ∀ vs H Q E, sp__law_begin K vs H Q E → vs.length = 1 := fun _ _ _ _ ⟨_, _, e, _⟩ => by rw [e]; rfl
theorem pure__law_begin {K : PySem.W.Frag} (vs : List V) (H : Hp) (Q : VK) (E : XK) (h : sp__law_begin K vs H Q E) : t__law_begin K { nx := fun _ H' => Q .non H', rt := Q } (start ["_law_script"] vs) H := by
  obtain ⟨a, ns, rfl, hs, q⟩ := h
  refine ⟨_, _, rfl, .inl hs, fun l hl => ⟨by show 4 ≤ sizeLine; decide, fun p hp => ?_⟩⟩
  have hp2 : p ≠ l := fun e => by rw [e, upd_same] at hp; cases hp
  have hpH : H p = none := by rw [upd_ne hp2] at hp; exact hp
  refine q ⟨p, l⟩ _ hpH ⟨ns, 0, 0, 7, upd_same, hp2.symm, by rw [upd_ne hp2.symm, upd_same], Int.le_refl _, Int.le_refl _⟩ fun b hb => ?_
  rw [upd_ne (fun e => hb (by rw [e]; exact hpH)), upd_ne (fun e => hb (by rw [e]; exact hl))]
def t__law_draw (K : PySem.W.Frag) : TS :=
  (tSeq (tIfS (tTest (tOp rEqS (tOp rIxU (uVar 0) (tC (.int 2))) (tC (.int 0)))) (tIfS (tTest (tOp rLtU (tOp rIxU (uVar 0) (tC (.int 1))) (tCB rLenU (tCons (tOp rIxU (uVar 0) (tC (.int 0))) tNil)))) (tSeq (tAsg (tOp rIxU (tOp rIxU (uVar 0) (tC (.int 0))) (tOp rIxU (uVar 0) (tC (.int 1)))) (gName 2))
  (tSeq (tAsg (tOp rAddI (tOp rIxU (uVar 0) (tC (.int 1))) (tC (.int 1))) (gSub (uVar 0) (tC (.int 1)) rSetU))
  (tIfS (tTest (tOp rGeU (uVar 2) (tOp rPowU (tC (.int 10)) (tC (.int 18))))) (tAsg (uVar 2) (gSub (uVar 0) (tC (.int 2)) rSetU)) (tAsg (tOp rModU (tCB rIntCall (tCons (tOp rAddI (tOp rAddI (tOp rMulI (tOp rIxU (uVar 0) (tC (.int 3))) (tC (.int 48271))) (tOp rMulI (uVar 2) (tC (.int 69621)))) (tC (.int 11))) tNil)) (tC (.int 2147483647))) (gSub (uVar 0) (tC (.int 3)) rSetU))))) (tAsg (tOp rModU (tCB rIntCall (tCons (tOp rAddI (tOp rMulI (tOp rIxU (uVar 0) (tC (.int 3))) (tC (.int 48271))) (tC (.int 7))) tNil)) (tC (.int 2147483647))) (gSub (uVar 0) (tC (.int 3)) rSetU))) tNext)
  (tSeq (tIfS (tTest (tOp rGtU (tOp rIxU (uVar 0) (tC (.int 2))) (tC (.int 0)))) (tSeq (tAsg (tOp rModU (tCB rIntCall (tCons (tOp rIxU (uVar 0) (tC (.int 2))) tNil)) (uVar 1)) (gName 3))
  (tSeq (tAsg (tOp rDivU (tOp rIxU (uVar 0) (tC (.int 2))) (uVar 1)) (gSub (uVar 0) (tC (.int 2)) rSetU))
  (tRet (uVar 3)))) tNext)
  (tRet (tOp rModU (tOp rModU (tCB rIntCall (tCons (tOp rMulI (tOp rIxU (uVar 0) (tC (.int 3))) (tC (.int 16807))) tNil)) (tC (.int 2147483629))) (uVar 1)))))
def sp__law_draw (K : PySem.W.Frag) : Sp := fun vs H Q _ => ∃ (D : Dr) (m : Int), vs = [.ref D.d, .int m] ∧ DrawsOk H D ∧ 0 < m ∧ m < 1073741824 ∧ ∀ r H', 0 ≤ r → r < m → DrawsOk H' D → Keep D.d H H' → Q (.int r) H'
theorem len__law_draw {K : PySem.W.Frag} : ∀ vs H Q E, sp__law_draw K vs H Q E → vs.length = 2 := fun _ _ _ _ ⟨_, _, e, _⟩ => by rw [e]; rfl
theorem pure__law_draw {K : PySem.W.Frag} (vs : List V) (H : Hp) (Q : VK) (E : XK) (h : sp__law_draw K vs H Q E) : t__law_draw K { nx := fun _ H' => Q .non H', rt := Q } (start ["_law_draws", "_law_many", "_law_cell", "_law_found"] vs) H := by
  obtain ⟨⟨d, L⟩, m, rfl, ⟨ns, i, a, b, e, hL, eL, h0, h1⟩, m0, m1, q⟩ := h
  have e : H d = some (.lst [.ref L, .int i, .int a, .int b]) := e
  have eL : H L = some (.lst (ns.map V.int)) := eL
  have hL : L ≠ d := hL
  unfold t__law_draw
  show tSeq _ _ _ [some (.ref d), some (.int m), none, none] H
  have cm : ∀ x : Int, CMul x 48271 := fun x => .inr ⟨by decide, by decide⟩
  have cm2 : ∀ x : Int, CMul x 16807 := fun x => .inr ⟨by decide, by decide⟩
  have cm3 : ∀ x : Int, CMul x 69621 := fun x => .inr ⟨by decide, by decide⟩
  have cd : ∀ x : Int, CDiv x m := fun x => ⟨m0, m1⟩
  have cp : CPow 10 18 := ⟨by decide, by decide, by decide⟩
  have mk : ∀ i a b : Int, 0 ≤ i → 0 ≤ a → DrawsOk (upd H d (.lst [.ref L, .int i, .int a, .int b])) ⟨d, L⟩ := fun i a b x y =>
    ⟨ns, i, a, b, upd_same, hL, by rw [upd_ne hL]; exact eL, x, y⟩
  have fin : ∀ (x i a b : Int), 0 ≤ i → 0 ≤ a → Q (.int (x % m)) (upd H d (.lst [.ref L, .int i, .int a, .int b])) := fun x i a b y z =>
    q _ _ (Int.emod_nonneg _ (by omega)) (Int.emod_lt_of_pos _ m0) (mk i a b y z) (Keep.refl d H).upd
  have fin0 : ∀ (x : Int), Q (.int (x % m)) H := fun x =>
    q _ _ (Int.emod_nonneg _ (by omega)) (Int.emod_lt_of_pos _ m0) ⟨ns, i, a, b, e, hL, eL, h0, h1⟩ (Keep.refl d H)
  have dn : ∀ x : Int, 0 ≤ x → 0 ≤ x / m := fun x h => Int.ediv_nonneg h (by omega)
  have fs := And.intro e (And.intro eL (And.intro (fun H o => (upd_ne hL : upd H d o L = H L)) (And.intro (fun H o => (upd_same : upd H d o d = some o)) (And.intro (fun H o u => (upd_upd : upd (upd H d o) d u = upd H d u)) (And.intro cm (And.intro cm2 (And.intro cm3 (And.intro cd (And.intro cp m0)))))))))
  by_cases hi : i < (ns.length : Int)
  · have hget : atI (ns.map V.int) i = some (.int (ns.getD i.toNat 0)) := by
      have hj : i.toNat < ns.length := by omega
      have e1 : (ns.map V.int)[i.toNat]? = some (.int (ns.getD i.toNat 0)) := by
        rw [List.getElem?_map, List.getElem?_eq_getElem hj, List.getD_eq_getElem?_getD, List.getElem?_eq_getElem hj]
        rfl
      have := atI_nat e1
      rwa [show ((i.toNat : Nat) : Int) = i by omega] at this
    have fs := And.intro hget fs
    tbr_iter fs
    generalize ns.getD i.toNat 0 = c
    have t18 : (0 : Int) ≤ 10 ^ Int.toNat 18 := by decide
    refine ite2 (fun _ => ite2 (fun _ => ite2 (fun hc => ?_) fun hc => ?_) fun _ => ?_) fun _ => ?_
    · have hc := of_decide_eq_true hc
      refine ite2 (fun _ => fin _ _ _ _ (by omega) (dn _ (by omega))) fun _ => fin _ _ _ _ (by omega) (by omega)
    · refine ite2 (fun _ => fin _ _ _ _ (by omega) (dn _ h1)) fun _ => fin _ _ _ _ (by omega) (by omega)
    · refine ite2 (fun _ => fin _ _ _ _ h0 (dn _ h1)) fun _ => fin _ _ _ _ h0 h1
    · refine ite2 (fun _ => fin _ _ _ _ h0 (dn _ h1)) fun _ => fin0 _
  · have hl : decide (i < (((ns.map V.int).length : Nat) : Int)) = false := by
      rw [List.length_map]
      exact decide_eq_false hi
    have fs := And.intro hl fs
    tbr_iter fs
    refine ite2 (fun _ => ?_) fun _ => ?_
    · refine ite2 (fun _ => fin _ _ _ _ h0 (dn _ h1)) fun _ => fin _ _ _ _ h0 h1
    · refine ite2 (fun _ => fin _ _ _ _ h0 (dn _ h1)) fun _ => fin0 _
def spGen (P : V → Hp → Prop) : Sp := fun vs H Q _ => ∃ D : Dr, vs = [.ref D.d] ∧ DrawsOk H D ∧ ∀ v H', P v H' → DrawsOk H' D → Keep D.d H H' → Q v H'
theorem use_draw {K : PySem.W.Frag} {H : Hp} {D : Dr} {m : Int} {Q : VK} {E : XK} (h : DrawsOk H D) (m0 : 0 < m) (m1 : m < 1073741824) (q : ∀ r H', 0 ≤ r → r < m → DrawsOk H' D → Keep D.d H H' → Q (.int r) H') : sp__law_draw K [.ref D.d, .int m] H Q E := ⟨D, m, rfl, h, m0, m1, q⟩
theorem use_gen {P : V → Hp → Prop} {H : Hp} {D : Dr} {Q : VK} {E : XK} (h : DrawsOk H D) (q : ∀ v H', P v H' → DrawsOk H' D → Keep D.d H H' → Q v H') : spGen P [.ref D.d] H Q E := ⟨D, rfl, h, q⟩
def t__law_mark (K : PySem.W.Frag) : TS :=
  (tSeq (tAsg (tLst (tCons (tC (.str "a")) (tCons (tC (.str "b")) (tCons (tC (.str "c")) (tCons (tC (.str "main")) (tCons (tC (.str "push")) (tCons (tC (.str "zz")) (tCons (tC (.str "ab")) (tCons (tC (.str "aaaaaaaa")) tNil))))))))) (gName 1))
  (tSeq (tAsg (uCall (sp__law_draw K) [] E0 (tCons (uVar 0) (tCons (tC (.int 10)) tNil))) (gName 2))
  (tSeq (tIfS (tTest (tOp rLtU (uVar 2) (tC (.int 8)))) (tRet (tOp rIxU (uVar 1) (uVar 2))) tNext)
  (tSeq (tAsg (tC (.str "abcdefghijklmnopqrstuvwxyz")) (gName 3))
  (tSeq (tAsg (tOp rAddI (tC (.int 1)) (uCall (sp__law_draw K) [] E0 (tCons (uVar 0) (tCons (tC (.int 8)) tNil)))) (gName 4))
  (tRet (tBM K "str" rJoinU (tC (.str "")) (tCons (tLc (iRng1 (tCons (uVar 4) tNil)) (gName 5) tYes (tOp rIxU (uVar 3) (uCall (sp__law_draw K) [] E0 (tCons (uVar 0) (tCons (tC (.int 26)) tNil)))) [5]) tNil))))))))
def sp__law_mark (K : PySem.W.Frag) : Sp := spGen fun v _ => ∃ z, v = .str z ∧ isMarkS z = true
theorem len_gen {P : V → Hp → Prop} : ∀ vs H Q E, spGen P vs H Q E → vs.length = 1 := fun _ _ _ _ ⟨_, e, _⟩ => by rw [e]; rfl
theorem pure__law_mark {K : PySem.W.Frag} (vs : List V) (H : Hp) (Q : VK) (E : XK) (h : sp__law_mark K vs H Q E) : t__law_mark K { nx := fun _ H' => Q .non H', rt := Q } (start ["_law_draws", "_law_forms", "_law_at", "_law_letters", "_law_size", "_law_k"] vs) H := by
  obtain ⟨Dw, rfl, hd, q⟩ := h
  unfold t__law_mark
  show tSeq _ _ _ [some (.ref Dw.d), none, none, none, none, none] H
  tbr_iter hd
  refine ⟨by decide, fun f hf => ?_⟩
  have hfd := hd.ne hf
  refine use_draw (hd.new hf) (by decide) (by decide) fun r H1 r0 r1 hd1 k1 => ?_
  have e1 := k1.at hfd upd_same
  have k1 : Keep Dw.d H H1 := ((Keep.refl Dw.d H).new hf).trans k1
  tbr_iter e1
  refine ite2 (fun h8 => ?_) fun _ => ?_
  · have h8 := of_decide_eq_true h8
    obtain ⟨j, rfl⟩ := Int.eq_ofNat_of_zero_le r0
    have hj : j < 8 := by omega
    have key : ∀ j : Nat, j < 8 → ∃ z, ([.str "a", .str "b", .str "c", .str "main", .str "push", .str "zz", .str "ab", .str "aaaaaaaa"] : List V)[j]? = some (.str z) ∧ isMarkS z = true := by
      intro j hj
      match j, hj with
      | 0, _ => exact ⟨_, rfl, by decide +kernel⟩
      | 1, _ => exact ⟨_, rfl, by decide +kernel⟩
      | 2, _ => exact ⟨_, rfl, by decide +kernel⟩
      | 3, _ => exact ⟨_, rfl, by decide +kernel⟩
      | 4, _ => exact ⟨_, rfl, by decide +kernel⟩
      | 5, _ => exact ⟨_, rfl, by decide +kernel⟩
      | 6, _ => exact ⟨_, rfl, by decide +kernel⟩
      | 7, _ => exact ⟨_, rfl, by decide +kernel⟩
      | n + 8, h => exact absurd h (by omega)
    obtain ⟨z, hz, hm⟩ := key j hj
    exact ⟨_, atI_nat hz, q _ _ ⟨z, rfl, hm⟩ hd1 k1⟩
  · refine use_draw hd1 (by decide) (by decide) fun r2 H2 r20 r21 hd2 k2 => ?_
    have k2 := k1.trans k2
    tbr_iter e1
    refine ⟨rfl, by omega, by omega, ?_⟩
    obtain ⟨n, en⟩ := Int.eq_ofNat_of_zero_le (show 0 ≤ 1 + r2 by omega)
    have hn : 1 ≤ n ∧ n ≤ 8 := by omega
    rw [en]
    refine comp_rng (fun D i acc H' => DrawsOk H' Dw ∧ (D ≠ Dw.d ∧ D ≠ Dw.L) ∧ H' D = some (.lst acc) ∧ Keep Dw.d H2 H' ∧ H2 D = none ∧ ∃ cs : List Nat, acc = cs.map (fun c => V.str ⟨#[c]⟩) ∧ cs.length = i ∧ ∀ c ∈ cs, c ∈ (Str.ofString "abcdefghijklmnopqrstuvwxyz").cps.toList)
      (fun D hD => ⟨hd2.new hD, ⟨hd2.ne hD, hd2.neL hD⟩, upd_same, (Keep.refl Dw.d H2).new hD, hD, [], rfl, rfl, fun _ h => absurd h (List.not_mem_nil)⟩) (fun D i acc H3 Nx hi ⟨p1, p2, p3, p4, p5, cs, ec, lc, mc⟩ hN => ?_) (fun D acc H3 hD ⟨p1, p2, p3, p4, p5, cs, ec, lc, mc⟩ => ?_)
    · refine ⟨rfl, ?_⟩
      tbr_iter p3
      refine use_draw p1 (by decide) (by decide) fun r3 H4 r30 r31 hd4 k4 => ?_
      obtain ⟨j, rfl⟩ := Int.eq_ofNat_of_zero_le r30
      have hl : (Str.ofString "abcdefghijklmnopqrstuvwxyz").cps.toList.length = 26 := by decide +kernel
      have hj : j < (Str.ofString "abcdefghijklmnopqrstuvwxyz").cps.toList.length := by rw [hl]; omega
      have e4 := k4.at p2.1 p3
      refine ⟨by decide +kernel, _, atI_nat (List.getElem?_eq_getElem hj), acc, e4, ?_, hN (acc ++ [_]) _ ⟨?_, p2, upd_same, ?_, p5, cs ++ [(Str.ofString "abcdefghijklmnopqrstuvwxyz").cps.toList[j]], ?_, ?_, ?_⟩⟩
      · rw [ec, List.length_map, lc, sizeLine_eq]
        omega
      · exact hd4.set p2.1 p2.2
      · intro b h1 h2
        have : b ≠ D := fun z => h2 (by rw [z]; exact p5)
        rw [upd_ne this]
        exact (p4.trans k4) b h1 h2
      · rw [ec, List.map_append]
        rfl
      · rw [List.length_append, lc]
        rfl
      · intro c hc
        rcases List.mem_append.mp hc with hc | hc
        · exact mc c hc
        · rw [List.mem_singleton.mp hc]
          exact List.getElem_mem hj
    · have ln : cs.length = n := lc
      refine ⟨_, _, cs.map (fun c => ⟨#[c]⟩), rfl, rfl, ?_, ?_, q _ _ ⟨_, rfl, ?_⟩ p1 (k2.trans p4)⟩
      · rw [p3, ec, List.map_map]
        rfl
      · have e0 : ∀ l : List Nat, ((l.map (fun c => (⟨#[c]⟩ : Str))).map (·.length)).sum = l.length := by
          intro l
          induction l with
          | nil => rfl
          | cons c r ih =>
            rw [List.map_cons, List.map_cons, List.sum_cons, ih, List.length_cons]
            show 1 + r.length = r.length + 1
            omega
        rw [e0, show (Str.ofString "").length = 0 from rfl]
        omega
      · have et : ∀ l : List Nat, TL.tl (Txt.join (Str.ofString "") (l.map (fun c => (⟨#[c]⟩ : Str)))) = l := by
          intro l
          rw [TL.join_eq, TL.tl_join, show TL.tl (Str.ofString "") = [] from rfl]
          induction l with
          | nil => rfl
          | cons c r ih =>
            cases r with
            | nil => rfl
            | cons c2 r =>
              show [c] ++ ([] ++ TL.joinL [] (((c2 :: r).map (fun c => (⟨#[c]⟩ : Str))).map TL.tl)) = c :: c2 :: r
              rw [ih]
              rfl
        have e1 := et cs
        have e2 : (Txt.join (Str.ofString "") (cs.map (fun c => (⟨#[c]⟩ : Str)))).length = n := by rw [TL.len_tl, e1, ln]
        have e3 : (Txt.join (Str.ofString "") (cs.map (fun c => (⟨#[c]⟩ : Str)))).cps.toList = cs := e1
        unfold isMarkS
        rw [e2, e3, decide_eq_true hn.1, decide_eq_true hn.2, Bool.and_self, Bool.true_and, List.all_eq_true]
        exact fun c hc => decide_eq_true (mc c hc)
def t__law_basic (K : PySem.W.Frag) : TS :=
  (tSeq (tAsg (tLst (tCons (tC (.str "push")) (tCons (tC (.str "push")) (tCons (tC (.str "push")) (tCons (tC (.str "drop")) (tCons (tC (.str "pick")) (tCons (tC (.str "pick")) (tCons (tC (.str "roll")) (tCons (tC (.str "keep")) (tCons (tC (.str "load")) (tCons (tC (.str "emit")) (tCons (tC (.str "expect")) (tCons (tC (.str "same")) (tCons (tC (.str "differ")) tNil)))))))))))))) (gName 1))
  (tSeq (tAsg (tOp rIxU (uVar 1) (uCall (sp__law_draw K) [] E0 (tCons (uVar 0) (tCons (tC (.int 13)) tNil)))) (gName 2))
  (tSeq (tIfS (tOr (tTest (tOp rEqS (uVar 2) (tC (.str "push")))) (tTest (tOp rEqS (uVar 2) (tC (.str "expect"))))) (tRet (tTup (tCons (uVar 2) (tCons (uCall (sp__law_mark K) [] E0 (tCons (uVar 0) tNil)) tNil)))) tNext)
  (tSeq (tIfS (tOr (tTest (tOp rEqS (uVar 2) (tC (.str "pick")))) (tTest (tOp rEqS (uVar 2) (tC (.str "roll"))))) (tSeq (tIfS (tTest (tOp rEqS (uCall (sp__law_draw K) [] E0 (tCons (uVar 0) (tCons (tC (.int 8)) tNil))) (tC (.int 0)))) (tRet (tTup (tCons (uVar 2) (tCons (uCall (sp__law_draw K) [] E0 (tCons (uVar 0) (tCons (tC (.int 24)) tNil))) tNil)))) tNext)
  (tRet (tTup (tCons (uVar 2) (tCons (uCall (sp__law_draw K) [] E0 (tCons (uVar 0) (tCons (tC (.int 3)) tNil))) tNil))))) tNext)
  (tSeq (tIfS (tOr (tTest (tOp rEqS (uVar 2) (tC (.str "keep")))) (tTest (tOp rEqS (uVar 2) (tC (.str "load"))))) (tRet (tTup (tCons (uVar 2) (tCons (uCall (sp__law_draw K) [] E0 (tCons (uVar 0) (tCons (tC (.int 4)) tNil))) tNil)))) tNext)
  (tRet (tTup (tCons (uVar 2) tNil))))))))
def BasicT (xs : List V) : Prop := (∃ w z, xs = [.str w, .str z] ∧ (w = "push" ∨ w = "expect") ∧ isMarkS z = true) ∨ (∃ w i, xs = [.str w, .int i] ∧ (w = "pick" ∨ w = "roll") ∧ 0 ≤ i ∧ i < 24) ∨ (∃ w i, xs = [.str w, .int i] ∧ (w = "keep" ∨ w = "load") ∧ 0 ≤ i ∧ i < 4) ∨
  ∃ w, xs = [.str w] ∧ (w = "drop" ∨ w = "emit" ∨ w = "same" ∨ w = "differ")
def IsBasic (v : V) (H : Hp) : Prop := ∃ p xs, v = .ref p ∧ H p = some (.tup xs) ∧ BasicT xs
def sp__law_basic (K : PySem.W.Frag) : Sp := spGen IsBasic
theorem pure__law_basic {K : PySem.W.Frag} (vs : List V) (H : Hp) (Q : VK) (E : XK) (h : sp__law_basic K vs H Q E) : t__law_basic K { nx := fun _ H' => Q .non H', rt := Q } (start ["_law_draws", "_law_words", "_law_word"] vs) H := by
  obtain ⟨Dw, rfl, hd, q⟩ := h
  unfold t__law_basic
  show tSeq _ _ _ [some (.ref Dw.d), none, none] H
  tbr_iter hd
  refine ⟨by decide, fun f hf => ?_⟩
  have hfd := hd.ne hf
  refine use_draw (hd.new hf) (by decide) (by decide) fun r H1 r0 r1 hd1 k1 => ?_
  have e1 := k1.at hfd upd_same
  have k1 : Keep Dw.d H H1 := ((Keep.refl Dw.d H).new hf).trans k1
  tbr_iter e1
  obtain ⟨j, rfl⟩ := Int.eq_ofNat_of_zero_le r0
  have hj : j < 13 := by omega
  have use2 : ∀ (w : Str) (x : V) (H2 : Hp), BasicT [.str w, x] → DrawsOk H2 Dw → Keep Dw.d H H2 → 2 ≤ sizeLine ∧ ∀ p, H2 p = none → Q (.ref p) (upd H2 p (.tup [.str w, x])) := fun w x H2 hb h2 k2 =>
    ⟨by decide, fun p hp => q _ _ ⟨p, _, rfl, upd_same, hb⟩ (h2.new hp) (k2.new hp)⟩
  match j, hj with
  | 0, _ =>
    refine ⟨_, atI_nat (j := 0) rfl, ?_⟩
    tbr_iter e1
    refine use_gen hd1 fun v H2 ⟨z, hv, hm⟩ h2 k2 => ?_
    subst hv
    exact use2 _ _ H2 (.inl ⟨_, _, rfl, .inl rfl, hm⟩) h2 (k1.trans k2)
  | 1, _ =>
    refine ⟨_, atI_nat (j := 1) rfl, ?_⟩
    tbr_iter e1
    refine use_gen hd1 fun v H2 ⟨z, hv, hm⟩ h2 k2 => ?_
    subst hv
    exact use2 _ _ H2 (.inl ⟨_, _, rfl, .inl rfl, hm⟩) h2 (k1.trans k2)
  | 2, _ =>
    refine ⟨_, atI_nat (j := 2) rfl, ?_⟩
    tbr_iter e1
    refine use_gen hd1 fun v H2 ⟨z, hv, hm⟩ h2 k2 => ?_
    subst hv
    exact use2 _ _ H2 (.inl ⟨_, _, rfl, .inl rfl, hm⟩) h2 (k1.trans k2)
  | 3, _ =>
    refine ⟨_, atI_nat (j := 3) rfl, ?_⟩
    tbr_iter e1
    exact ⟨by decide, fun p hp => q _ _ ⟨p, _, rfl, upd_same, .inr (.inr (.inr ⟨_, rfl, .inl rfl⟩))⟩ (hd1.new hp) (k1.new hp)⟩
  | 4, _ =>
    refine ⟨_, atI_nat (j := 4) rfl, ?_⟩
    tbr_iter e1
    refine use_draw hd1 (by decide) (by decide) fun r2 H2 _ _ h2 k2 => ?_
    tbr_iter e1
    refine ite2 (fun _ => ?_) fun _ => ?_
    · exact use_draw h2 (by decide) (by decide) fun r3 H3 r30 r31 h3 k3 => use2 _ _ H3 (.inr (.inl ⟨_, _, rfl, .inl rfl, r30, r31⟩)) h3 ((k1.trans k2).trans k3)
    · exact use_draw h2 (by decide) (by decide) fun r3 H3 r30 r31 h3 k3 => use2 _ _ H3 (.inr (.inl ⟨_, _, rfl, .inl rfl, r30, by omega⟩)) h3 ((k1.trans k2).trans k3)
  | 5, _ =>
    refine ⟨_, atI_nat (j := 5) rfl, ?_⟩
    tbr_iter e1
    refine use_draw hd1 (by decide) (by decide) fun r2 H2 _ _ h2 k2 => ?_
    tbr_iter e1
    refine ite2 (fun _ => ?_) fun _ => ?_
    · exact use_draw h2 (by decide) (by decide) fun r3 H3 r30 r31 h3 k3 => use2 _ _ H3 (.inr (.inl ⟨_, _, rfl, .inl rfl, r30, r31⟩)) h3 ((k1.trans k2).trans k3)
    · exact use_draw h2 (by decide) (by decide) fun r3 H3 r30 r31 h3 k3 => use2 _ _ H3 (.inr (.inl ⟨_, _, rfl, .inl rfl, r30, by omega⟩)) h3 ((k1.trans k2).trans k3)
  | 6, _ =>
    refine ⟨_, atI_nat (j := 6) rfl, ?_⟩
    tbr_iter e1
    refine use_draw hd1 (by decide) (by decide) fun r2 H2 _ _ h2 k2 => ?_
    tbr_iter e1
    refine ite2 (fun _ => ?_) fun _ => ?_
    · exact use_draw h2 (by decide) (by decide) fun r3 H3 r30 r31 h3 k3 => use2 _ _ H3 (.inr (.inl ⟨_, _, rfl, .inr rfl, r30, r31⟩)) h3 ((k1.trans k2).trans k3)
    · exact use_draw h2 (by decide) (by decide) fun r3 H3 r30 r31 h3 k3 => use2 _ _ H3 (.inr (.inl ⟨_, _, rfl, .inr rfl, r30, by omega⟩)) h3 ((k1.trans k2).trans k3)
  | 7, _ =>
    refine ⟨_, atI_nat (j := 7) rfl, ?_⟩
    tbr_iter e1
    exact use_draw hd1 (by decide) (by decide) fun r3 H3 r30 r31 h3 k3 => use2 _ _ H3 (.inr (.inr (.inl ⟨_, _, rfl, .inl rfl, r30, r31⟩))) h3 (k1.trans k3)
  | 8, _ =>
    refine ⟨_, atI_nat (j := 8) rfl, ?_⟩
    tbr_iter e1
    exact use_draw hd1 (by decide) (by decide) fun r3 H3 r30 r31 h3 k3 => use2 _ _ H3 (.inr (.inr (.inl ⟨_, _, rfl, .inr rfl, r30, r31⟩))) h3 (k1.trans k3)
  | 9, _ =>
    refine ⟨_, atI_nat (j := 9) rfl, ?_⟩
    tbr_iter e1
    exact ⟨by decide, fun p hp => q _ _ ⟨p, _, rfl, upd_same, .inr (.inr (.inr ⟨_, rfl, .inr (.inl rfl)⟩))⟩ (hd1.new hp) (k1.new hp)⟩
  | 10, _ =>
    refine ⟨_, atI_nat (j := 10) rfl, ?_⟩
    tbr_iter e1
    refine use_gen hd1 fun v H2 ⟨z, hv, hm⟩ h2 k2 => ?_
    subst hv
    exact use2 _ _ H2 (.inl ⟨_, _, rfl, .inr rfl, hm⟩) h2 (k1.trans k2)
  | 11, _ =>
    refine ⟨_, atI_nat (j := 11) rfl, ?_⟩
    tbr_iter e1
    exact ⟨by decide, fun p hp => q _ _ ⟨p, _, rfl, upd_same, .inr (.inr (.inr ⟨_, rfl, .inr (.inr (.inl rfl))⟩))⟩ (hd1.new hp) (k1.new hp)⟩
  | 12, _ =>
    refine ⟨_, atI_nat (j := 12) rfl, ?_⟩
    tbr_iter e1
    exact ⟨by decide, fun p hp => q _ _ ⟨p, _, rfl, upd_same, .inr (.inr (.inr ⟨_, rfl, .inr (.inr (.inr rfl))⟩))⟩ (hd1.new hp) (k1.new hp)⟩
  | n + 13, h => exact absurd h (by omega)
theorem c_draw {K : PySem.W.Frag} {H : Hp} {D : Dr} {m : Int} {Q : VK} {E : XK} (h : DrawsOk H D) (m0 : 0 < m) (m1 : m < 1073741824) (q : ∀ r H', 0 ≤ r → r < m → DrawsOk H' D → Keep D.d H H' → Q (.int r) H') : @Call (sp__law_draw K) [.ref D.d, .int m] H ⟨Q⟩ ⟨E⟩ := ⟨D, m, rfl, h, m0, m1, q⟩
theorem c_gen {P : V → Hp → Prop} {H : Hp} {D : Dr} {Q : VK} {E : XK} (h : DrawsOk H D) (q : ∀ v H', P v H' → DrawsOk H' D → Keep D.d H H' → Q v H') : @Call (spGen P) [.ref D.d] H ⟨Q⟩ ⟨E⟩ := ⟨D, rfl, h, q⟩
end U
end

section
namespace U
open PySem PySem.Spec PyProof.Rows L2
local macro_rules | `(tactic| tbr_iter $fs) => `(tactic| simp only [seqAt, tyV_ref, tSeq, tIfS, tOr, tAnd, tNot, tB, tCB, tCons, tNil, tC, uVar, tRet, tNext, tTest, tOp, tChain, tAsg, gName, gSub, tDrop, tTup_eq, tTupN, tLst_eq, tLstN, tSl, tNoPart, uPart, tUn, rU, tAndV, tOrV, tNotV, uTru, rTruU, uCall, tBM, tBM0,
  rIsi, tyV_non, tyV_bl, tyV_int, tyV_str, Ty.name, isa_tab, rInt, rIntC, rLenU, rLeU, rLtU, rGeU, rGtU, rAddU, rAddI, rAddS, rAddL_eq, rAddLN, rAddT_eq, rAddTN, rSubU, rMulI, rDivU, rModU, rPowU, rEqS, rNeS, rIxU, rInU, rInG, rIntCall, rList_eq, rListN, rTuple_eq, rTupleN, rIsNU, rNotNU, rSl_eq, rSlN, tYes, wipe, rSetU, ixN_lit, rAppend, atI_0, atI_1, atI_2, atI_3, Option.some.injEq, List.length_cons, List.length_nil, Nat.zero_add, Nat.reduceAdd, natc, Int.reduceLE, Int.reduceLT, Int.reduceEq, Int.reduceSub, Int.reduceAdd, Int.reduceNeg, decide_true, decide_false, Bool.false_xor, Bool.true_xor, scal_tab, flat_tab, inV_int2, List.all_cons, List.all_nil, Bool.and_self, Bool.and_true, Bool.true_and, ofs_inj, String.reduceEq, for_U, for_R1, for_R2, lc_U, lc_R1, lc_R2,
  List.cons.injEq, and_true, true_and, and_self, V.ty.injEq, V.bl.injEq, V.int.injEq, V.str.injEq, V.ref.injEq, List.nil_append, List.append_nil, List.cons_append, exists_const,
  List.getElem?_cons_zero, List.getElem?_cons_succ, List.set_cons_zero, List.set_cons_succ, exists_eq_left', exists_eq_left, Bool.not_true, Bool.not_false, if_true, if_false, Bool.false_eq_true, Bool.true_eq_false, reduceCtorEq, exists_and_left, exists_eq_right', ne_eq, not_false_eq_true, not_true_eq_false, forall_const, false_implies, true_implies, implies_true, List.isEmpty_cons, List.isEmpty_nil, $fs:term])


local macro_rules | `(tactic| ktf_call $fs) => `(tactic| simp (config := {maxSteps := 4000000}) only [↓r_seq, ↓r_ifS, ↓r_or, ↓r_and, ↓r_not, ↓r_next, ↓r_ret, ↓r_retN, ↓r_brk, ↓r_cnt, ↓r_drop, ↓r_asg, ↓r_test, ↓r_yes, ↓r_c, ↓r_nil, ↓r_cons, ↓r_var0, ↓r_varS, ↓r_name0, ↓r_nameS, ↓r_op, ↓r_un, ↓r_rU, ↓r_chain, ↓r_andV, ↓r_orV, ↓r_notV, ↓r_call, ↓r_cb, ↓r_tup, ↓r_lst, ↓r_sl, ↓r_noPart, ↓r_part, ↓r_gsub, ↓kB_a, ↓aB_bl, ↓kI_a, ↓aI_int, ↓OK_some, ↓Br_true, ↓Br_false, ↓Cd_true, ↓r_addI, ↓r_addS, ↓r_addUI, ↓r_addUS, ↓r_addL, ↓AlT_cc, ↓AlT_nil, ↓AlT_cnil, ↓r_addT, ↓r_sub, ↓r_mul, ↓r_div, ↓r_mod, ↓r_pow, ↓r_lt, ↓r_le, ↓r_gt, ↓r_ge, ↓r_eq, ↓r_ne, ↓r_isN, ↓r_notN, ↓r_inS, ↓r_ninS, ↓r_in, ↓r_nin, ↓r_inG, ↓r_ninG, ↓r_ixS, ↓r_ix, ↓r_set, ↓r_slS, ↓AlS_lst, ↓AlS_tup, ↓r_slR, ↓r_lenS, ↓r_lenR, ↓r_listU, ↓AlC_lst, ↓AlC_tup, ↓r_tupleU, ↓r_int, ↓r_intB, ↓r_isi, ↓r_tru, ↓r_truN, ↓r_truB, ↓r_truI, ↓r_truS, ↓r_truR, ↓aL_ref, ↓a1_int, ↓a2_int, ↓r_for1, ↓r_for2, ↓r_for, ↓r_lc, ↓r_lc1, ↓r_lc2,
  OK_some, Br_true, Br_false, Br_not, Cd_true, aB_bl, aI_int, r_rU, r_addI, r_addS, r_sub, r_mul, r_div, r_mod, r_pow, r_lt, r_le, r_gt, r_ge, r_ixS, r_ix, r_set, r_lenS, r_int, r_intB, r_truN, r_truB, r_truI, r_truS, r_truR, AlT_cc, AlT_nil, AlT_cnil, AlS_lst, AlS_tup, AlC_lst, AlC_tup, a1_int, a2_int, lstO_lst, tupO_tup, seqO_eq, seqO_lst, seqO_tup, lenO_lst, lenO_tup, lenO_dK, e_tyR, tyO_t, e_ty, e_tyn, truO_lst, truO_tup, truO_dK, isa_tab, scal_tab, flat_tab, eqV_t, inV_cons, inV_nil, szl, cmul_l, cpow_l, atI_0, atI_1, atI_2, atI_3, ixN_lit, Option.some.injEq, List.length_cons, List.length_nil, List.length_append, List.length_map, Nat.zero_add, Nat.reduceAdd, natc, Int.reduceLE, Int.reduceLT, Int.reduceEq, Int.reduceSub, Int.reduceAdd, Int.reduceNeg, Int.reduceMul, Int.reducePow, Int.reduceToNat, Nat.reduceLeDiff, Nat.reduceEqDiff, decide_eq_true_eq, decide_eq_false_iff_not, decide_true, decide_false, Bool.not_eq_true', Bool.not_eq_false', Bool.not_true, Bool.not_false, Bool.not_not, Bool.or_eq_true, Bool.and_eq_true, Bool.or_false, Bool.false_or, Bool.or_true, Bool.true_or, Bool.and_true, Bool.true_and, Bool.and_false, Bool.false_and, Bool.and_self, List.all_cons, List.all_nil, ofs_inj, String.reduceEq, List.cons.injEq, and_true, true_and, and_self, or_true, true_or, or_false, false_or, V.ty.injEq, V.bl.injEq, V.int.injEq, V.str.injEq, V.ref.injEq, List.nil_append, List.append_nil, List.cons_append, List.getElem?_cons_zero, List.getElem?_cons_succ, List.set_cons_zero, List.set_cons_succ, exists_eq_left', exists_eq_left, exists_eq, Bool.false_eq_true, Bool.true_eq_false, reduceCtorEq, not_true_eq_false, not_false_eq_true, eq_self, List.isEmpty_cons, List.isEmpty_nil, wipe, $fs:term])

namespace K47
def t__law_good (K : PySem.W.Frag) : TS :=
  (tSeq (tIfS (tOr (tNot (uTru (tCB (rIsi .tup) (tCons (uVar 0) (tCons (tC (.ty "tuple")) tNil))))) (tOr (tTest (tOp (rInU true) (tCB rLenU (tCons (uVar 0) tNil)) (tTup (tCons (tC (.int 1)) (tCons (tC (.int 2)) tNil))))) (tNot (uTru (tCB (rIsi .str) (tCons (tOp rIxU (uVar 0) (tC (.int 0))) (tCons (tC (.ty "str")) tNil))))))) (tRet (tC (.bl false))) tNext)
  (tSeq (tIfS (tTest (tOp rEqS (tCB rLenU (tCons (uVar 0) tNil)) (tC (.int 1)))) (tRet (tOp (rInU false) (tOp rIxU (uVar 0) (tC (.int 0))) (tTup (tCons (tC (.str "drop")) (tCons (tC (.str "emit")) (tCons (tC (.str "same")) (tCons (tC (.str "differ")) tNil))))))) tNext)
  (tSeq (tAsg (tOp rIxU (uVar 0) (tC (.int 1))) (gName 1))
  (tSeq (tIfS (tTest (tOp (rInU false) (tOp rIxU (uVar 0) (tC (.int 0))) (tTup (tCons (tC (.str "push")) (tCons (tC (.str "expect")) tNil))))) (tSeq (tIfS (tOr (tNot (uTru (tCB (rIsi .str) (tCons (uVar 1) (tCons (tC (.ty "str")) tNil))))) (tNot (tTest (tChain rLeU rLeU (tC (.int 1)) (tCB rLenU (tCons (uVar 1) tNil)) (tC (.int 8)))))) (tRet (tC (.bl false))) tNext)
  (tRet (tCB rAllU (tCons (tLc (iU K (uVar 1)) (gName 2) tYes (tOp (rInU false) (uVar 2) (tC (.str "abcdefghijklmnopqrstuvwxyz"))) [2]) tNil)))) tNext)
  (tSeq (tIfS (tOr (tNot (uTru (tCB (rIsi .int) (tCons (uVar 1) (tCons (tC (.ty "int")) tNil))))) (uTru (tCB (rIsi .bl) (tCons (uVar 1) (tCons (tC (.ty "bool")) tNil))))) (tRet (tC (.bl false))) tNext)
  (tSeq (tIfS (tTest (tOp (rInU false) (tOp rIxU (uVar 0) (tC (.int 0))) (tTup (tCons (tC (.str "pick")) (tCons (tC (.str "roll")) tNil))))) (tRet (tChain rLeU rLeU (tC (.int 0)) (uVar 1) (tC (.int 23)))) tNext)
  (tRet (tAndV (tOp (rInU false) (tOp rIxU (uVar 0) (tC (.int 0))) (tTup (tCons (tC (.str "keep")) (tCons (tC (.str "load")) tNil)))) (tChain rLeU rLeU (tC (.int 0)) (uVar 1) (tC (.int 3)))))))))))
def sp__law_good (K : PySem.W.Frag) : Sp := fun vs H Q _ => ∃ v, vs = [v] ∧ okT H v ∧ ∀ H', L2.Same H H' → Q (.bl (isBasicV H v)) H'
theorem len__law_good {K : PySem.W.Frag} : ∀ vs H Q E, sp__law_good K vs H Q E → vs.length = 1 := fun _ _ _ _ ⟨_, e, _⟩ => by rw [e]; rfl
theorem pure__law_good {K : PySem.W.Frag} (vs : List V) (H : Hp) (Q : VK) (E : XK) (h : sp__law_good K vs H Q E) : t__law_good K { nx := fun _ H' => Q .non H', rt := Q } (start ["_law_one", "_law_item_here", "_law_letter"] vs) H := by
  obtain ⟨v, rfl, ⟨⟨ht, hz⟩, hi⟩, q⟩ := h
  unfold t__law_good
  show tSeq _ _ _ [some v, none, none] H
  cases v with
  | ref p =>
    rw [tyV_ref] at ht
    split at ht
    · rename_i xs e
      have q : Q (.bl false) H := by simpa only [isBasicV, e] using q H (L2.Same.refl H)
      tbr_iter (And.intro e q)
    · rename_i xs e
      have q : ∀ H', L2.Same H H' → Q (.bl (isBasicT xs)) H' := by simpa only [isBasicV, e] using q
      have hi := hi p xs rfl e
      clear ht
      have fs := And.intro e (fun (H : Hp) p o => (upd_same : upd H p o p = some o))
      tbr_iter fs
      refine ⟨by decide, fun a H1 n1 => ?_⟩
      have ea := n1.old e
      have s1 := n1.same
      have hi1 : ∀ x ∈ xs, okV H1 x := fun x hx => okV_same s1 (hi x hx)
      have fs := And.intro n1.at (And.intro ea fs)
      rcases xs with _ | ⟨x, _ | ⟨y, _ | ⟨z, r⟩⟩⟩
      · tbr_iter fs
        exact q _ s1
      · have hx := hi1 x (by simp)
        tbr_iter fs
        by_cases hs : ∃ w, x = .str w
        · obtain ⟨w, rfl⟩ := hs
          tbr_iter fs
          refine ⟨by decide, fun p H2 n2 => ?_⟩
          tbr_iter n2.at
          exact q _ (s1.trans n2.same)
        · have hs : ∀ w, x ≠ .str w := fun w e => hs ⟨w, e⟩
          have e : isBasicT [x] = false := by cases x <;> first | rfl | exact absurd rfl (hs _)
          rw [e] at q
          exact not_str hx hs (q _ s1) fun t h => by rw [h]; rfl
      · have hx := hi1 x (by simp)
        have hy := hi1 y (by simp)
        tbr_iter fs
        by_cases hs : ∃ w, x = .str w
        · obtain ⟨w, rfl⟩ := hs
          tbr_iter fs
          have q2 : ∀ H', L2.Same H H' → Q (.bl (if inV (.str w) [.str "pick", .str "roll"] then inRangeV y 23 else if inV (.str w) [.str "keep", .str "load"] then inRangeV y 3 else inV (.str w) [.str "push", .str "expect"] && isMarkV y)) H' := q
          simp only [inV_str2] at q2
          refine ⟨by decide, fun p1 H2 n2 => ?_⟩
          have s2 := s1.trans n2.same
          have ey := n2.old ea
          have hy2 : okV H2 y := okV_same n2.same hy
          tbr_iter (And.intro n2.at ey)
          simp only [inV_str2]
          have d : ∀ a b : String, (Str.ofString a = Str.ofString b) = (a = b) := fun a b => ofs_inj
          have qA : (w = "push" ∨ w = "expect") → ∀ H', L2.Same H H' → Q (.bl (isMarkV y)) H' := fun h H' s => by
            have q := q2 H' s
            rcases h with rfl | rfl <;> simpa only [d, String.reduceEq, decide_true, decide_false, Bool.or_false, Bool.or_true, Bool.true_and, if_false, Bool.false_eq_true] using q
          have qB : (w = "pick" ∨ w = "roll") → ∀ H', L2.Same H H' → Q (.bl (inRangeV y 23)) H' := fun h H' s => by
            have q := q2 H' s
            rcases h with rfl | rfl <;> simpa only [d, String.reduceEq, decide_true, decide_false, Bool.or_false, Bool.or_true, if_true] using q
          have qC : (w = "keep" ∨ w = "load") → ∀ H', L2.Same H H' → Q (.bl (inRangeV y 3)) H' := fun h H' s => by
            have q := q2 H' s
            rcases h with rfl | rfl <;> simpa only [d, String.reduceEq, decide_true, decide_false, Bool.or_false, Bool.or_true, if_true, if_false, Bool.false_eq_true] using q
          have qN : ¬ (w = "push" ∨ w = "expect") → (∀ i, y ≠ .int i) → ∀ H', L2.Same H H' → Q (.bl false) H' := fun h hy H' s => by
            have q := q2 H' s
            have e : ∀ g, inRangeV y g = false := fun g => by cases y <;> first | rfl | exact absurd rfl (hy _)
            rw [show (decide (w = Str.ofString "push") || decide (w = Str.ofString "expect")) = false by simpa using h] at q
            simpa only [e, Bool.false_and, ite_self] using q
          have qZ : ¬ (w = "push" ∨ w = "expect") → ¬ (w = "pick" ∨ w = "roll") → ¬ (w = "keep" ∨ w = "load") → ∀ H', L2.Same H H' → Q (.bl false) H' := fun h h2 h3 H' s => by
            have q := q2 H' s
            rw [show (decide (w = Str.ofString "push") || decide (w = Str.ofString "expect")) = false by simpa using h, show (decide (w = Str.ofString "pick") || decide (w = Str.ofString "roll")) = false by simpa using h2,
              show (decide (w = Str.ofString "keep") || decide (w = Str.ofString "load")) = false by simpa using h3] at q
            exact q
          have or2 : ∀ {a b : Str}, (decide (w = a) || decide (w = b)) = true → w = a ∨ w = b := fun h => by simpa using h
          have or3 : ∀ {a b : Str}, ¬ (decide (w = a) || decide (w = b)) = true → ¬ (w = a ∨ w = b) := fun h => by simpa using h
          refine ite2 (fun hA => ?_) fun hA => ?_
          · have qA := qA (or2 hA)
            by_cases hys : ∃ z, y = .str z
            · obtain ⟨z, rfl⟩ := hys
              have hz : z.length ≤ sizeLine := hy.2
              have n1 : ¬ (1 ≤ z.length ∧ z.length ≤ 8) → isMarkS z = false := fun h => by
                unfold isMarkS
                by_cases h1 : 1 ≤ z.length
                · have h2 : ¬ z.length ≤ 8 := fun x => h ⟨h1, x⟩
                  simp [h2]
                · simp [h1]
              have qA : ∀ H', L2.Same H H' → Q (.bl (isMarkS z)) H' := qA
              tbr_iter hz
              refine ite2 (fun h1 => ite2 (fun h2 => ?_) fun h2 => ?_) fun h1 => ?_
              · rw [n1 (by simp at h1 h2; omega)] at qA
                exact qA _ s2
              · have h1 : 1 ≤ z.length := by simp at h1; omega
                have h2 : z.length ≤ 8 := by simp at h2; omega
                refine comp_str (fun D i acc H' => L2.Same H H' ∧ H' D = some (.lst acc) ∧ H2 D = none ∧ acc = (z.cps.toList.take i).map fun c => V.bl (decide (c ∈ (Str.ofString "abcdefghijklmnopqrstuvwxyz").cps.toList))) (fun D hD => ⟨same_new s2 hD, upd_same, hD, rfl⟩) (fun D i c acc H' Nx hc ⟨p1, p2, p0, p3⟩ hN => ?_) (fun D acc H' hD ⟨p1, p2, p0, p3⟩ => ?_)
                · tbr_iter p2
                  refine ⟨c, rfl, acc, rfl, ?_, hN (acc ++ [_]) _ ⟨fun b u e => ?_, upd_same, p0, ?_⟩⟩
                  · rw [p3, List.length_map, List.length_take, sizeLine_eq]
                    have : z.cps.toList.length = z.length := rfl
                    omega
                  · have nb : b ≠ D := fun z => by
                      have := s2 _ _ e
                      rw [z, p0] at this
                      cases this
                    rw [upd_ne nb]
                    exact p1 _ _ e
                  · rw [p3, List.take_add_one, show z.cps.toList[i]? = some c by simpa using hc]
                    simp
                · have ez : z.cps.toList.take z.cps.size = z.cps.toList := List.take_of_length_le (Nat.le_of_eq rfl)
                  refine ⟨D, z.cps.toList.map fun c => decide (c ∈ (Str.ofString "abcdefghijklmnopqrstuvwxyz").cps.toList), rfl, by rw [p2, p3, ez, List.map_map]; rfl, ?_⟩
                  have qA := qA _ p1
                  unfold isMarkS at qA
                  rw [decide_eq_true h1, decide_eq_true h2, Bool.and_self, Bool.true_and] at qA
                  rw [List.all_map]
                  exact qA
              · rw [n1 (by simp at h1; omega)] at qA
                exact qA _ s2
            · have hys : ∀ w, y ≠ .str w := fun w e => hys ⟨w, e⟩
              have em : isMarkV y = false := by cases y <;> first | rfl | exact absurd rfl (hys _)
              rw [em] at qA
              exact not_str hy2 hys (qA _ s2) fun t h => by rw [h]; rfl
          · have nA := or3 hA
            by_cases hyi : ∃ i, y = .int i
            · obtain ⟨i, rfl⟩ := hyi
              have qB : (w = "pick" ∨ w = "roll") → ∀ H', L2.Same H H' → Q (.bl (decide (0 ≤ i) && decide (i ≤ 23))) H' := qB
              have qC : (w = "keep" ∨ w = "load") → ∀ H', L2.Same H H' → Q (.bl (decide (0 ≤ i) && decide (i ≤ 3))) H' := qC
              have qZ := qZ nA
              clear q2 qA qN
              tbr_iter ey
              refine ⟨by decide, fun p2 H3 n3 => ?_⟩
              have s3 := s2.trans n3.same
              have ea2 := n3.old ey
              tbr_iter n3.at
              have mid : ∀ (H' : Hp) (g : Int), (∀ b, b = (decide (0 ≤ i) && decide (i ≤ g)) → Q (.bl b) H') → if decide (0 ≤ i) = true then Q (.bl (decide (i ≤ g))) H' else Q (.bl false) H' := fun H' g h =>
                ite2 (fun h1 => h _ (by rw [h1]; rfl)) fun h1 => h _ (by rw [Bool.not_eq_true _ |>.mp h1]; rfl)
              refine ite2 (fun hB => ?_) fun hB => ?_
              · rw [inV_str2] at hB
                exact mid _ 23 fun b e => by rw [e]; exact qB (or2 hB) _ s3
              · rw [inV_str2] at hB
                tbr_iter ea2
                refine ⟨by decide, fun p3 H4 n4 => ?_⟩
                have s4 := s3.trans n4.same
                tbr_iter n4.at
                refine ite2 (fun hC => ?_) fun hC => ?_
                · rw [inV_str2] at hC
                  exact mid _ 3 fun b e => by rw [e]; exact qC (or2 hC) _ s4
                · rw [inV_str2] at hC
                  exact qZ (or3 hB) (or3 hC) _ s4
            · have hyi : ∀ i, y ≠ .int i := fun i e => hyi ⟨i, e⟩
              have qN := qN nA hyi
              have q1 := qN _ s2
              have ht : ∃ t, tyV H2 y = some t ∧ (t.isa .int = false ∨ t = .bl) := by
                cases y with
                | int i => exact absurd rfl (hyi i)
                | ref p' =>
                  obtain ⟨t, ht, h1, h2, h3⟩ := tyRef hy2.1
                  exact ⟨t, ht, .inl h2⟩
                | byt _ => cases hy2.1
                | flt _ => cases hy2.1
                | ty _ => cases hy2.1
                | bl _ => exact ⟨_, rfl, .inr rfl⟩
                | non => exact ⟨_, rfl, .inl rfl⟩
                | str _ => exact ⟨_, rfl, .inl rfl⟩
              obtain ⟨t, ht, h1⟩ := ht
              rw [ht]
              rcases h1 with h1 | rfl
              · tbr_iter h1
                exact q1
              · tbr_iter isa_tab
                exact q1
        · have hs : ∀ w, x ≠ .str w := fun w e => hs ⟨w, e⟩
          have e : isBasicT [x, y] = false := by cases x <;> first | rfl | exact absurd rfl (hs _)
          rw [e] at q
          exact not_str hx hs (q _ s1) fun t h => by rw [h]; rfl
      · have e1 : isBasicT (x :: y :: z :: r) = false := by cases x <;> rfl
        rw [e1] at q
        tbr_iter fs
        have e2 : inV (.int ((r.length + 1 + 1 + 1 : Nat) : Int)) [.int 1, .int 2] = false := by
          simp only [inV, List.any_cons, List.any_nil, Bool.or_false, Bool.or_eq_false_iff]
          constructor <;> (show (_ == _) = false; rw [beq_eq_false_iff_ne]; omega)
        rw [e2]
        exact q _ s1
    · rename_i xs e
      have q : Q (.bl false) H := by simpa only [isBasicV, e] using q H (L2.Same.refl H)
      tbr_iter (And.intro e q)
    · rename_i xs e
      have q : Q (.bl false) H := by simpa only [isBasicV, e] using q H (L2.Same.refl H)
      tbr_iter (And.intro e q)
    · cases ht
  | byt _ => cases ht
  | flt _ => cases ht
  | ty _ => cases ht
  | _ => tbr_iter isa_tab; exact q H (L2.Same.refl H)
def It (v : V) (H : Hp) : Prop := (flatV v = true ∧ okV H v) ∨ ∃ p xs, v = .ref p ∧ H p = some (.tup xs)
theorem flat_ok {H : Hp} {v : V} (h : flatV v = true) (z : strOk v) : It v H := .inl ⟨h, by cases v <;> first | exact ⟨rfl, z⟩ | cases h⟩
theorem It.ok {H : Hp} {v : V} (h : It v H) : okV H v := by
  rcases h with h | ⟨p, xs, rfl, e⟩
  · exact h.2
  · exact ⟨by rw [tyV_ref, e]; rfl, trivial⟩
theorem It.keep {H H' : Hp} {v : V} {D : Dr} (h : It v H) (hd : DrawsOk H D) (k : Keep D.d H H') : It v H' := by
  rcases h with h | ⟨p, xs, rfl, e⟩
  · refine .inl ⟨h.1, ?_⟩
    have h := h.1
    have h2 : okV H v := by rename_i h0; exact h0.2
    cases v <;> first | exact ⟨rfl, h2.2⟩ | cases h
  · refine .inr ⟨p, xs, rfl, k.at (fun z => ?_) e⟩
    obtain ⟨ns, i, a, b, e2, _⟩ := hd
    rw [z, e2] at e
    cases e
def t__law_item (K : PySem.W.Frag) : TS :=
  (tSeq (tAsg (tLst (tCons (tC (.str "a")) (tCons (tC (.str "abcdefgh")) (tCons (tC (.str "abcdefghi")) (tCons (tC (.str "")) (tCons (tC (.str "A")) (tCons (tC (.str "a b")) (tCons (tC (.str "a1")) (tCons (tC (.str "push")) tNil))))))))) (gName 1))
  (tSeq (tAsg (tOp rAddL (uVar 1) (tLst (tCons (tC (.int 0)) (tCons (tC (.int 3)) (tCons (tC (.int 4)) (tCons (tC (.int 23)) (tCons (tC (.int 24)) (tCons (tUn (rU fun i => .int (-i)) (tC (.int 1))) (tCons (tOp rPowU (tC (.int 10)) (tC (.int 30))) (tCons (tC (.bl true)) (tCons (tC (.bl false)) (tCons (tC .non) (tCons (tTup (tCons (tC (.str "a")) tNil)) tNil))))))))))))) (gName 1))
  (tRet (tOp rIxU (uVar 1) (uCall (sp__law_draw K) [] E0 (tCons (uVar 0) (tCons (tCB rLenU (tCons (uVar 1) tNil)) tNil)))))))
def sp__law_item (K : PySem.W.Frag) : Sp := spGen It
theorem pure__law_item {K : PySem.W.Frag} (vs : List V) (H : Hp) (Q : VK) (E : XK) (h : sp__law_item K vs H Q E) : t__law_item K { nx := fun _ H' => Q .non H', rt := Q } (start ["_law_draws", "_law_rows"] vs) H := by
  obtain ⟨Dw, rfl, hd, q⟩ := h
  unfold t__law_item
  show tSeq _ _ _ [some (.ref Dw.d), none] H
  have cp : CPow 10 30 := ⟨by decide, by decide, by decide⟩
  tbr_iter hd
  refine ⟨by decide, fun f H1 n1 => ?_⟩
  have fs := And.intro cp n1.at
  tbr_iter fs
  refine ⟨by decide, fun t H2 n2 => ⟨by decide, fun g H3 n3 => ?_⟩⟩
  have fs := And.intro (n3.old (n2.old n1.at)) (And.intro n3.at fs)
  tbr_iter fs
  refine ⟨by decide, fun r H4 n4 => ?_⟩
  have fs := n4.at
  tbr_iter fs
  have d3 := n3.draws (n2.draws (n1.draws hd))
  refine use_draw (n4.draws d3) (by decide) (by decide) fun i H5 i0 i1 h5 k5 => ?_
  have kk := (n4.keep (n3.keep (n2.keep (n1.keep (Keep.refl Dw.d H))))).trans k5
  have et := k5.at ((n1.draws hd).ne n2.fr) (n4.old (n3.old n2.at))
  tbr_iter (k5.at (d3.ne n4.fr) n4.at)
  obtain ⟨j, rfl⟩ := Int.eq_ofNat_of_zero_le i0
  have hj : j < 19 := by omega
  have key : ∀ j : Nat, j < 19 → ∃ v, ([.str "a", .str "abcdefgh", .str "abcdefghi", .str "", .str "A", .str "a b", .str "a1", .str "push", .int 0, .int 3, .int 4, .int 23, .int 24, .int (-1), .int (10 ^ Int.toNat 30), .bl true, .bl false, .non, .ref t] : List V)[j]? = some v ∧ It v H5 := by
    intro j hj
    match j, hj with
    | 18, _ => exact ⟨_, rfl, .inr ⟨_, _, rfl, et⟩⟩
    | 0, _ => exact ⟨_, rfl, flat_ok rfl (show _ ≤ sizeLine by decide +kernel)⟩
    | 1, _ => exact ⟨_, rfl, flat_ok rfl (show _ ≤ sizeLine by decide +kernel)⟩
    | 2, _ => exact ⟨_, rfl, flat_ok rfl (show _ ≤ sizeLine by decide +kernel)⟩
    | 3, _ => exact ⟨_, rfl, flat_ok rfl (show _ ≤ sizeLine by decide +kernel)⟩
    | 4, _ => exact ⟨_, rfl, flat_ok rfl (show _ ≤ sizeLine by decide +kernel)⟩
    | 5, _ => exact ⟨_, rfl, flat_ok rfl (show _ ≤ sizeLine by decide +kernel)⟩
    | 6, _ => exact ⟨_, rfl, flat_ok rfl (show _ ≤ sizeLine by decide +kernel)⟩
    | 7, _ => exact ⟨_, rfl, flat_ok rfl (show _ ≤ sizeLine by decide +kernel)⟩
    | 8, _ => exact ⟨_, rfl, flat_ok rfl trivial⟩
    | 9, _ => exact ⟨_, rfl, flat_ok rfl trivial⟩
    | 10, _ => exact ⟨_, rfl, flat_ok rfl trivial⟩
    | 11, _ => exact ⟨_, rfl, flat_ok rfl trivial⟩
    | 12, _ => exact ⟨_, rfl, flat_ok rfl trivial⟩
    | 13, _ => exact ⟨_, rfl, flat_ok rfl trivial⟩
    | 14, _ => exact ⟨_, rfl, flat_ok rfl trivial⟩
    | 15, _ => exact ⟨_, rfl, flat_ok rfl trivial⟩
    | 16, _ => exact ⟨_, rfl, flat_ok rfl trivial⟩
    | 17, _ => exact ⟨_, rfl, flat_ok rfl trivial⟩
    | n + 19, h => exact absurd h (by omega)
  obtain ⟨v, hv, hi⟩ := key j hj
  exact ⟨v, atI_nat hv, q _ _ hi h5 kk⟩
def t_law_1 (K : PySem.W.Frag) : TS :=
  (tSeq (tAsg (uCall (sp_is_basic K) [] E0 (tCons (uVar 5) tNil)) (gName 7))
  (tIfS (tOr (tNot (uTru (tCB (rIsi .bl) (tCons (uVar 7) (tCons (tC (.ty "bool")) tNil))))) (tTest (tOp rNeS (uVar 7) (uCall (sp__law_good K) [] E0 (tCons (uVar 5) tNil))))) (tRet (tC (.bl false))) tNext))
def t_law_2 (K : PySem.W.Frag) : TS :=
  (tSeq (tIfS (tTest (tOp rEqS (uVar 6) (tC (.int 1)))) (tAsg (tTup (tCons (uVar 4) tNil)) (gName 5)) tNext)
  (tSeq (tIfS (tOr (tTest (tOp rEqS (uVar 6) (tC (.int 2)))) (tTest (tOp rEqS (uVar 6) (tC (.int 3))))) (tAsg (tTup (tCons (uVar 4) (tCons (uCall (sp__law_item K) [] E0 (tCons (uVar 1) tNil)) tNil))) (gName 5)) tNext)
  (tSeq (tIfS (tTest (tOp rEqS (uVar 6) (tC (.int 4)))) (tAsg (tTup (tCons (uVar 4) (tCons (uCall (sp__law_item K) [] E0 (tCons (uVar 1) tNil)) (tCons (uCall (sp__law_item K) [] E0 (tCons (uVar 1) tNil)) tNil)))) (gName 5)) tNext)
  (tSeq (tIfS (tTest (tOp rEqS (uVar 6) (tC (.int 5)))) (tAsg (tOp rAddT (uVar 5) (tTup (tCons (uCall (sp__law_item K) [] E0 (tCons (uVar 1) tNil)) tNil))) (gName 5)) tNext)
  (tSeq (tIfS (tTest (tOp rEqS (uVar 6) (tC (.int 6)))) (tAsg (tOp rIxU (tLst (tCons (tCB rListU (tCons (uVar 5) tNil)) (tCons (tSl rSlU (uVar 5) tNoPart (uPart (tUn (rU fun i => .int (-i)) (tC (.int 1))))) (tCons (tC .non) (tCons (uVar 4) (tCons (tC (.int 5)) (tCons (tTup tNil) (tCons (tTup (tCons (uVar 5) tNil)) (tCons (tC (.bl true)) tNil))))))))) (uCall (sp__law_draw K) [] E0 (tCons (uVar 1) (tCons (tC (.int 8)) tNil)))) (gName 5)) tNext)
  (tSeq (tIfS (tTest (tOp rEqS (uVar 6) (tC (.int 7)))) (tAsg (tOp rAddT (tTup (tCons (uCall (sp__law_item K) [] E0 (tCons (uVar 1) tNil)) tNil)) (tSl rSlU (uVar 5) (uPart (tC (.int 1))) tNoPart)) (gName 5)) tNext)
  (t_law_1 K)))))))
def t_law_3 (K : PySem.W.Frag) : TS :=
  (tSeq (tAsg (tOp rIxU (uVar 2) (uCall (sp__law_draw K) [] E0 (tCons (uVar 1) (tCons (tCB rLenU (tCons (uVar 2) tNil)) tNil)))) (gName 4))
  (tSeq (tAsg (uCall (sp__law_basic K) [] E0 (tCons (uVar 1) tNil)) (gName 5))
  (tSeq (tAsg (uCall (sp__law_draw K) [] E0 (tCons (uVar 1) (tCons (tC (.int 8)) tNil))) (gName 6))
  (t_law_2 K))))
def t_law (K : PySem.W.Frag) : TS :=
  (tSeq (tAsg (uCall (sp__law_begin K) [] E0 (tCons (uVar 0) tNil)) (gName 1))
  (tSeq (tAsg (tLst (tCons (tC (.str "push")) (tCons (tC (.str "drop")) (tCons (tC (.str "pick")) (tCons (tC (.str "roll")) (tCons (tC (.str "keep")) (tCons (tC (.str "load")) (tCons (tC (.str "emit")) (tCons (tC (.str "expect")) (tCons (tC (.str "same")) (tCons (tC (.str "differ")) tNil))))))))))) (gName 2))
  (tSeq (tAsg (tOp rAddL (uVar 2) (tLst (tCons (tC (.str "call")) (tCons (tC (.str "repeat")) (tCons (tC (.str "Push")) (tCons (tC (.str "")) (tCons (tC (.str "jump")) tNil))))))) (gName 2))
  (tSeq (tFor (iRng1 (tCons (tC (.int 6)) tNil)) (gName 3) (t_law_3 K))
  (tRet (tC (.bl true)))))))
theorem It.new {H H' : Hp} {v : V} {p : Addr} {o : HO} (h : It v H) (n : New H p o H') : It v H' := by
  rcases h with h | ⟨p, xs, rfl, e⟩
  · exact flat_ok h.1 h.2.2
  · exact .inr ⟨p, xs, rfl, n.old e⟩
theorem okT_tup {H : Hp} {p : Addr} {xs : List V} (e : H p = some (.tup xs)) (h : ∀ x ∈ xs, okV H x) : okT H (.ref p) :=
  ⟨⟨by rw [tyV_ref, e]; rfl, trivial⟩, fun p' ys e1 e2 => by cases e1; rw [e] at e2; cases e2; exact h⟩
theorem okT_flat {H : Hp} {v : V} (h : flatV v = true) (z : strOk v) : okT H v := ⟨(flat_ok (H := H) h z).ok, fun p xs e => by subst e; cases h⟩
theorem BasicT.split {xs : List V} {H : Hp} (h : BasicT xs) : ∃ w r, xs = .str w :: r ∧ (∀ x ∈ xs, flatV x = true ∧ strOk x) := by
  have sh : ∀ w : Str, strOk (.str w) ↔ w.length ≤ sizeLine := fun _ => Iff.rfl
  rcases h with ⟨w, z, rfl, h1, h2⟩ | ⟨w, i, rfl, h1, _⟩ | ⟨w, i, rfl, h1, _⟩ | ⟨w, rfl, h1⟩
  · refine ⟨_, _, rfl, fun x hx => ?_⟩
    simp only [List.mem_cons, List.not_mem_nil, or_false] at hx
    rcases hx with rfl | rfl
    · refine ⟨rfl, ?_⟩
      rcases h1 with rfl | rfl <;> (show _ ≤ sizeLine; decide +kernel)
    · refine ⟨rfl, ?_⟩
      have : z.length ≤ 8 := by
        unfold isMarkS at h2
        simp only [Bool.and_eq_true, decide_eq_true_eq] at h2
        exact h2.1.2
      exact Nat.le_trans this (by decide)
  · refine ⟨_, _, rfl, fun x hx => ?_⟩
    simp only [List.mem_cons, List.not_mem_nil, or_false] at hx
    rcases hx with rfl | rfl
    · refine ⟨rfl, ?_⟩
      rcases h1 with rfl | rfl <;> (show _ ≤ sizeLine; decide +kernel)
    · exact ⟨rfl, trivial⟩
  · refine ⟨_, _, rfl, fun x hx => ?_⟩
    simp only [List.mem_cons, List.not_mem_nil, or_false] at hx
    rcases hx with rfl | rfl
    · refine ⟨rfl, ?_⟩
      rcases h1 with rfl | rfl <;> (show _ ≤ sizeLine; decide +kernel)
    · exact ⟨rfl, trivial⟩
  · refine ⟨_, _, rfl, fun x hx => ?_⟩
    simp only [List.mem_cons, List.not_mem_nil, or_false] at hx
    subst hx
    refine ⟨rfl, ?_⟩
    rcases h1 with rfl | rfl | rfl | rfl <;> (show _ ≤ sizeLine; decide +kernel)
def sp_law (K : PySem.W.Frag) : Sp := fun vs H Q _ => ∃ (a : Addr) (ns : List Int), vs = [.ref a] ∧ SqL K H a (ns.map V.int) ∧ ∀ H', Q (.bl true) H'
theorem pure_law {K : PySem.W.Frag} (vs : List V) (H : Hp) (Q : VK) (E : XK) (h : sp_law K vs H Q E) : t_law K { nx := fun _ H' => Q .non H', rt := Q } (start ["_law_script", "_law_draws", "_law_words", "_law_k", "_law_word", "_law_value", "_law_way", "_law_told"] vs) H := by
  obtain ⟨a, ns, rfl, hs, q⟩ := h
  unfold t_law
  show tSeq _ _ _ [some (.ref a), none, none, none, none, none, none, none] H
  ktf_call hs
  refine Call.by ⟨a, ns, rfl, hs, fun Dw H1 _ d1 _ => ?_⟩
  ktf_call hs
  refine Al.by fun p H2 n2 => ?_
  ktf_call n2.at
  refine Al.by fun p3 H3 n3 => ?_
  ktf_call (And.intro (n3.old n2.at) n3.at)
  refine Al.by fun p4 H4 n4 => ?_
  have h4 := n4.draws (n3.draws (n2.draws d1))
  have np : p4 ≠ Dw.d := (n3.draws (n2.draws d1)).ne n4.fr
  have ew := n4.at
  ktf_call ew
  refine loop_rng (fun i σ H' => (∃ y3 y4 y5 y6 y7, σ = [some (.ref a), some (.ref Dw.d), some (.ref p4), y3, y4, y5, y6, y7]) ∧ DrawsOk H' Dw ∧ H' p4 = some (.lst [.str "push", .str "drop", .str "pick", .str "roll", .str "keep", .str "load", .str "emit", .str "expect", .str "same", .str "differ", .str "call", .str "repeat", .str "Push", .str "", .str "jump"]))
    ⟨⟨_, _, _, _, _, rfl⟩, h4, ew⟩ (fun i σ H5 hi ⟨⟨y3, y4, y5, y6, y7, e⟩, h5, e5⟩ => ?_) (fun σ H5 ⟨⟨y3, y4, y5, y6, y7, e⟩, h5, e5⟩ => ?_)
  · subst e
    unfold t_law_3
    clear ew n4 n3 n2 d1 h4 hs hi
    ktf_call e5
    refine c_draw h5 (by decide) (by decide) fun r H6 r0 r1 h6 k6 => ?_
    have e6 := k6.at np e5
    clear e5 h5 k6
    ktf_call e6
    obtain ⟨j, rfl⟩ := Int.eq_ofNat_of_zero_le r0
    have key : ∃ w : Str, ([.str "push", .str "drop", .str "pick", .str "roll", .str "keep", .str "load", .str "emit", .str "expect", .str "same", .str "differ", .str "call", .str "repeat", .str "Push", .str "", .str "jump"] : List V)[j]? = some (.str w) ∧ w.length ≤ sizeLine := by
      have hj : j < 15 := by omega
      match j, hj with
      | 0, _ => exact ⟨_, rfl, by decide +kernel⟩
      | 1, _ => exact ⟨_, rfl, by decide +kernel⟩
      | 2, _ => exact ⟨_, rfl, by decide +kernel⟩
      | 3, _ => exact ⟨_, rfl, by decide +kernel⟩
      | 4, _ => exact ⟨_, rfl, by decide +kernel⟩
      | 5, _ => exact ⟨_, rfl, by decide +kernel⟩
      | 6, _ => exact ⟨_, rfl, by decide +kernel⟩
      | 7, _ => exact ⟨_, rfl, by decide +kernel⟩
      | 8, _ => exact ⟨_, rfl, by decide +kernel⟩
      | 9, _ => exact ⟨_, rfl, by decide +kernel⟩
      | 10, _ => exact ⟨_, rfl, by decide +kernel⟩
      | 11, _ => exact ⟨_, rfl, by decide +kernel⟩
      | 12, _ => exact ⟨_, rfl, by decide +kernel⟩
      | 13, _ => exact ⟨_, rfl, by decide +kernel⟩
      | 14, _ => exact ⟨_, rfl, by decide +kernel⟩
      | n + 15, h => exact absurd h (by omega)
    obtain ⟨w, ew, hw⟩ := key
    refine OK.by (atI_nat ew) ?_
    ktf_call e6
    refine c_gen h6 fun v H7 hb h7 k7 => ?_
    obtain ⟨b, xs, rfl, eb, hbt⟩ := hb
    have e7 := k7.at np e6
    ktf_call e7
    refine c_draw h7 (by decide) (by decide) fun r H8 r0 r1 h8 k8 => ?_
    have e8 := k8.at np e7
    have eb8 := k8.at (h7.other eb) eb
    obtain ⟨w2, r2, ex, hx⟩ := BasicT.split (H := H8) hbt
    clear e7 e6 k7 k8 h7 h6 eb
    obtain ⟨m, rfl⟩ := Int.eq_ofNat_of_zero_le r0
    have hm : m < 8 := by omega
    have okw : ∀ H, okV H (.str w) := fun H => ⟨rfl, hw⟩
    have okx : ∀ H x, x ∈ xs → okV H x := fun H x h => (flat_ok (hx x h).1 (hx x h).2).ok
    have ki : ∀ {H9 v}, It v H9 → okV H9 v := fun h => h.ok
    have tail : ∀ (v : V) H9, okT H9 v → DrawsOk H9 Dw → Keep Dw.d H8 H9 → t_law_1 K
        { nx := fun σ H' => (∃ y3 y4 y5 y6 y7, σ = [some (.ref a), some (.ref Dw.d), some (.ref p4), y3, y4, y5, y6, y7]) ∧ DrawsOk H' Dw ∧ H' p4 = some (.lst [.str "push", .str "drop", .str "pick", .str "roll", .str "keep", .str "load", .str "emit", .str "expect", .str "same", .str "differ", .str "call", .str "repeat", .str "Push", .str "", .str "jump"]),
          ct := fun σ H' => (∃ y3 y4 y5 y6 y7, σ = [some (.ref a), some (.ref Dw.d), some (.ref p4), y3, y4, y5, y6, y7]) ∧ DrawsOk H' Dw ∧ H' p4 = some (.lst [.str "push", .str "drop", .str "pick", .str "roll", .str "keep", .str "load", .str "emit", .str "expect", .str "same", .str "differ", .str "call", .str "repeat", .str "Push", .str "", .str "jump"]),
          bk := tRet (tC (V.bl true)) { nx := fun x H' => Q V.non H', rt := Q }, rt := Q }
        [some (.ref a), some (.ref Dw.d), some (.ref p4), some (.int (0 + (i : Int))), some (.str w), some v, some (.int (m : Int)), y7] H9 := fun v H9 ok h9 k9 => by
      unfold t_law_1
      ktf_call e8
      refine Call.by ⟨v, rfl, ok, ?_⟩
      ktf_call e8
      refine Call.by ⟨v, rfl, ok, fun H10 s => ?_⟩
      ktf_call e8
      exact ⟨⟨_, _, _, _, _, rfl, rfl, rfl, rfl, rfl⟩, h9.same s, s _ _ (k9.at np e8)⟩
    show t_law_2 K _ [some (.ref a), some (.ref Dw.d), some (.ref p4), some (.int (0 + (i : Int))), some (.str w), some (.ref b), some (.int (m : Int)), y7] H8
    have kr := Keep.refl Dw.d H8
    unfold t_law_2
    subst ex
    match m, hm with
    | 0, _ =>
      ktf_call e8
      exact tail _ _ (okT_tup eb8 (okx _)) h8 kr
    | 1, _ =>
      ktf_call e8
      refine Al.by fun q1 H9 n9 => ?_
      ktf_call e8
      exact tail _ _ (okT_tup n9.at (by simpa using okw _)) (n9.draws h8) (n9.keep kr)
    | 2, _ =>
      ktf_call e8
      refine c_gen h8 fun v1 H9 i9 h9 k9 => ?_
      ktf_call e8
      refine Al.by fun q1 H10 n10 => ?_
      ktf_call e8
      exact tail _ _ (okT_tup n10.at (by simpa using ⟨okw _, (i9.new n10).ok⟩)) (n10.draws h9) (n10.keep k9)
    | 3, _ =>
      ktf_call e8
      refine c_gen h8 fun v1 H9 i9 h9 k9 => ?_
      ktf_call e8
      refine Al.by fun q1 H10 n10 => ?_
      ktf_call e8
      exact tail _ _ (okT_tup n10.at (by simpa using ⟨okw _, (i9.new n10).ok⟩)) (n10.draws h9) (n10.keep k9)
    | 4, _ =>
      ktf_call e8
      refine c_gen h8 fun v1 H9 i9 h9 k9 => ?_
      ktf_call e8
      refine c_gen h9 fun v2 H10 i10 h10 k10 => ?_
      ktf_call e8
      refine Al.by fun q1 H11 n11 => ?_
      ktf_call e8
      exact tail _ _ (okT_tup n11.at (by simpa using ⟨okw _, ((i9.keep h9 k10).new n11).ok, (i10.new n11).ok⟩)) (n11.draws h10) (n11.keep (k9.trans k10))
    | 5, _ =>
      ktf_call e8
      refine c_gen h8 fun v1 H9 i9 h9 k9 => ?_
      ktf_call e8
      refine Al.by fun q1 H10 n10 => ?_
      have lx : (V.str w2 :: r2).length + 1 ≤ sizeLine := by
        rcases hbt with ⟨_, _, e, _⟩ | ⟨_, _, e, _⟩ | ⟨_, _, e, _⟩ | ⟨_, e, _⟩ <;> cases e <;> simp [szl]
      have eb10 := n10.old (k9.at (h8.other eb8) eb8)
      ktf_call (And.intro eb10 n10.at)
      refine Cd.by (by simpa [szl] using lx) ?_
      ktf_call e8
      refine Al.by fun q2 H11 n11 => ?_
      ktf_call e8
      exact tail _ _ (okT_tup n11.at (by
        intro x hx
        rw [← List.cons_append, List.mem_append] at hx
        rcases hx with hx | hx
        · exact okx _ _ hx
        · rw [List.mem_singleton.mp hx]
          exact ((i9.new n10).new n11).ok)) (n11.draws (n10.draws h9)) (n11.keep (n10.keep k9))
    | 6, _ =>
      ktf_call eb8
      refine Al.by fun q1 H9 n9 => ?_
      have eb9 := n9.old eb8
      ktf_call eb9
      refine Br.by (fun _ => ?_) fun _ => ?_
      · ktf_call e8
        refine Al.by fun a1 A1 m1 => ?_
        ktf_call e8
        refine Al.by fun a2 A2 m2 => ?_
        ktf_call e8
        refine Al.by fun a3 A3 m3 => ?_
        ktf_call e8
        have dA2 := m2.draws (m1.draws (n9.draws h8))
        refine c_draw (m3.draws dA2) (by decide) (by decide) fun r A4 r0 r1 dA4 kA4 => ?_
        have KA := (m3.keep (m2.keep (m1.keep (n9.keep kr)))).trans kA4
        have e3 := kA4.at (dA2.ne m3.fr) m3.at
        have ds := (n9.draws h8)
        have eL := kA4.at (h8.ne n9.fr) (m3.old (m2.old (m1.old n9.at)))
        have eS := kA4.at (ds.other eb9) (m3.old (m2.old (m1.old eb9)))
        have eB := kA4.at (h8.other eb8) (m3.old (m2.old (m1.old eb9)))
        have eE := kA4.at (ds.ne m1.fr) (m3.old (m2.old m1.at))
        have eV := kA4.at ((m1.draws ds).ne m2.fr) (m3.old m2.at)
        ktf_call e3
        obtain ⟨j, rfl⟩ := Int.eq_ofNat_of_zero_le r0
        have hj : j < 8 := by omega
        match j, hj with
        | 0, _ =>
          refine OK.by (atI_nat (j := 0) rfl) ?_
          ktf_call e8
          exact tail _ _ ⟨⟨by rw [tyV_ref, eL]; rfl, trivial⟩, fun p' ys z1 z2 => by cases z1; rw [eL] at z2; cases z2⟩ dA4 KA
        | 1, _ =>
          refine OK.by (atI_nat (j := 1) rfl) ?_
          ktf_call e8
          exact tail _ _ (okT_tup eS (fun x hx => okx _ _ ( hx))) dA4 KA
        | 2, _ =>
          refine OK.by (atI_nat (j := 2) rfl) ?_
          ktf_call e8
          exact tail _ _ (okT_flat rfl trivial) dA4 KA
        | 3, _ =>
          refine OK.by (atI_nat (j := 3) rfl) ?_
          ktf_call e8
          exact tail _ _ (okT_flat rfl hw) dA4 KA
        | 4, _ =>
          refine OK.by (atI_nat (j := 4) rfl) ?_
          ktf_call e8
          exact tail _ _ (okT_flat rfl trivial) dA4 KA
        | 5, _ =>
          refine OK.by (atI_nat (j := 5) rfl) ?_
          ktf_call e8
          exact tail _ _ (okT_tup eE (fun x hx => absurd hx (by simp))) dA4 KA
        | 6, _ =>
          refine OK.by (atI_nat (j := 6) rfl) ?_
          ktf_call e8
          exact tail _ _ (okT_tup eV (by
            intro x hx
            rw [List.mem_singleton.mp hx]
            exact It.ok (.inr ⟨b, _, rfl, eB⟩))) dA4 KA
        | 7, _ =>
          refine OK.by (atI_nat (j := 7) rfl) ?_
          ktf_call e8
          exact tail _ _ (okT_flat rfl trivial) dA4 KA
        | n + 8, h => exact absurd h (by omega)
      · refine Al.by fun sa S1 ns1 => ?_
        ktf_call e8
        refine Al.by fun a1 A1 m1 => ?_
        ktf_call e8
        refine Al.by fun a2 A2 m2 => ?_
        ktf_call e8
        refine Al.by fun a3 A3 m3 => ?_
        ktf_call e8
        have dA2 := m2.draws (m1.draws (ns1.draws (n9.draws h8)))
        refine c_draw (m3.draws dA2) (by decide) (by decide) fun r A4 r0 r1 dA4 kA4 => ?_
        have KA := (m3.keep (m2.keep (m1.keep (ns1.keep (n9.keep kr))))).trans kA4
        have e3 := kA4.at (dA2.ne m3.fr) m3.at
        have ds := (ns1.draws (n9.draws h8))
        have eL := kA4.at (h8.ne n9.fr) (m3.old (m2.old (m1.old (ns1.old n9.at))))
        have eS := kA4.at (ds.other ns1.at) (m3.old (m2.old (m1.old ns1.at)))
        have eB := kA4.at (h8.other eb8) (m3.old (m2.old (m1.old (ns1.old eb9))))
        have eE := kA4.at (ds.ne m1.fr) (m3.old (m2.old m1.at))
        have eV := kA4.at ((m1.draws ds).ne m2.fr) (m3.old m2.at)
        ktf_call e3
        obtain ⟨j, rfl⟩ := Int.eq_ofNat_of_zero_le r0
        have hj : j < 8 := by omega
        match j, hj with
        | 0, _ =>
          refine OK.by (atI_nat (j := 0) rfl) ?_
          ktf_call e8
          exact tail _ _ ⟨⟨by rw [tyV_ref, eL]; rfl, trivial⟩, fun p' ys z1 z2 => by cases z1; rw [eL] at z2; cases z2⟩ dA4 KA
        | 1, _ =>
          refine OK.by (atI_nat (j := 1) rfl) ?_
          ktf_call e8
          exact tail _ _ (okT_tup eS (fun x hx => okx _ _ (cutV_mem hx))) dA4 KA
        | 2, _ =>
          refine OK.by (atI_nat (j := 2) rfl) ?_
          ktf_call e8
          exact tail _ _ (okT_flat rfl trivial) dA4 KA
        | 3, _ =>
          refine OK.by (atI_nat (j := 3) rfl) ?_
          ktf_call e8
          exact tail _ _ (okT_flat rfl hw) dA4 KA
        | 4, _ =>
          refine OK.by (atI_nat (j := 4) rfl) ?_
          ktf_call e8
          exact tail _ _ (okT_flat rfl trivial) dA4 KA
        | 5, _ =>
          refine OK.by (atI_nat (j := 5) rfl) ?_
          ktf_call e8
          exact tail _ _ (okT_tup eE (fun x hx => absurd hx (by simp))) dA4 KA
        | 6, _ =>
          refine OK.by (atI_nat (j := 6) rfl) ?_
          ktf_call e8
          exact tail _ _ (okT_tup eV (by
            intro x hx
            rw [List.mem_singleton.mp hx]
            exact It.ok (.inr ⟨b, _, rfl, eB⟩))) dA4 KA
        | 7, _ =>
          refine OK.by (atI_nat (j := 7) rfl) ?_
          ktf_call e8
          exact tail _ _ (okT_flat rfl trivial) dA4 KA
        | n + 8, h => exact absurd h (by omega)
    | 7, _ =>
      ktf_call eb8
      refine c_gen h8 fun v1 H9 i9 h9 k9 => ?_
      ktf_call e8
      refine Al.by fun q1 H10 n10 => ?_
      have eb10 := n10.old (k9.at (h8.other eb8) eb8)
      have hl : (V.str w2 :: r2).length ≤ 2 := by
        rcases hbt with ⟨_, _, e, _⟩ | ⟨_, _, e, _⟩ | ⟨_, _, e, _⟩ | ⟨_, e, _⟩ <;> cases e <;> simp
      ktf_call (And.intro eb10 n10.at)
      have ok1 : okV H10 v1 := (i9.new n10).ok
      refine Br.by (fun _ => ?_) fun _ => ?_
      · ktf_call (And.intro eb10 n10.at)
        refine Cd.by (by have : r2.length + 1 ≤ 2 := hl; omega) ?_
        ktf_call e8
        refine Al.by fun q2 H11 n11 => ?_
        ktf_call e8
        exact tail _ _ (okT_tup n11.at (by
          intro x hx
          rcases List.mem_cons.mp hx with rfl | hx
          · exact ((i9.new n10).new n11).ok
          · exact okx _ _ hx)) (n11.draws (n10.draws h9)) (n11.keep (n10.keep k9))
      · refine Al.by fun q2 H11 n11 => ?_
        have hl2 := cutV_length (V.str w2 :: r2) (some 1) none
        ktf_call (And.intro (n11.old n10.at) n11.at)
        refine Cd.by (by omega) ?_
        refine AlT.by (fun h => nomatch h) (fun _ => ?_) fun _ _ => ?_
        · ktf_call e8
          exact tail _ _ (okT_tup (n11.old n10.at) (by simpa using ((i9.new n10).new n11).ok)) (n11.draws (n10.draws h9)) (n11.keep (n10.keep k9))
        · refine Al.by fun q3 H12 n12 => ?_
          ktf_call e8
          exact tail _ _ (okT_tup n12.at (by
            intro x hx
            rcases List.mem_cons.mp hx with rfl | hx
            · exact (((i9.new n10).new n11).new n12).ok
            · exact okx _ _ (cutV_mem hx))) (n12.draws (n11.draws (n10.draws h9))) (n12.keep (n11.keep (n10.keep k9)))
    | n + 8, h => exact absurd h (by omega)
  · subst e
    ktf_call e5
    exact q _
end K47
end U
end

section
namespace U
open PySem PySem.Spec PyProof.Rows L2
namespace K47
def top (i : Nat) : Stmt := PySem.Challenge.pw_reelcode_k47_which_values_are_instructio.main.body.getD i (.Pass ⟨0, 0, 0, 0⟩)
abbrev s__law_begin : Stmt := top 16
abbrev N__law_begin : List Str := ["_law_script"]
theorem sc__law_begin : FnScope N__law_begin ["_law_script"] (defScope s__law_begin) := ⟨rfl, rfl, rfl, by decide +kernel, rfl, by decide +kernel, by decide +kernel⟩
abbrev s_in_range : Stmt := top 13
abbrev N_in_range : List Str := ["value", "greatest"]
theorem sc_in_range : FnScope N_in_range ["value", "greatest"] (defScope s_in_range) := ⟨rfl, rfl, rfl, by decide +kernel, rfl, by decide +kernel, by decide +kernel⟩
abbrev s_is_mark : Stmt := top 6
abbrev N_is_mark : List Str := ["value", "letter"]
theorem sc_is_mark : FnScope N_is_mark ["value"] (defScope s_is_mark) := ⟨rfl, rfl, rfl, by decide +kernel, rfl, by decide +kernel, by decide +kernel⟩
abbrev s_is_basic : Stmt := top 14
abbrev N_is_basic : List Str := ["value", "word"]
theorem sc_is_basic : FnScope N_is_basic ["value"] (defScope s_is_basic) := ⟨rfl, rfl, rfl, by decide +kernel, rfl, by decide +kernel, by decide +kernel⟩
abbrev s__law_good : Stmt := top 20
abbrev N__law_good : List Str := ["_law_one", "_law_item_here", "_law_letter"]
theorem sc__law_good : FnScope N__law_good ["_law_one"] (defScope s__law_good) := ⟨rfl, rfl, rfl, by decide +kernel, rfl, by decide +kernel, by decide +kernel⟩
abbrev s__law_draw : Stmt := top 17
abbrev N__law_draw : List Str := ["_law_draws", "_law_many", "_law_cell", "_law_found"]
theorem sc__law_draw : FnScope N__law_draw ["_law_draws", "_law_many"] (defScope s__law_draw) := ⟨rfl, rfl, rfl, by decide +kernel, rfl, by decide +kernel, by decide +kernel⟩
abbrev s__law_item : Stmt := top 21
abbrev N__law_item : List Str := ["_law_draws", "_law_rows"]
theorem sc__law_item : FnScope N__law_item ["_law_draws"] (defScope s__law_item) := ⟨rfl, rfl, rfl, by decide +kernel, rfl, by decide +kernel, by decide +kernel⟩
abbrev s__law_mark : Stmt := top 18
abbrev N__law_mark : List Str := ["_law_draws", "_law_forms", "_law_at", "_law_letters", "_law_size", "_law_k"]
theorem sc__law_mark : FnScope N__law_mark ["_law_draws"] (defScope s__law_mark) := ⟨rfl, rfl, rfl, by decide +kernel, rfl, by decide +kernel, by decide +kernel⟩
abbrev s__law_basic : Stmt := top 19
abbrev N__law_basic : List Str := ["_law_draws", "_law_words", "_law_word"]
theorem sc__law_basic : FnScope N__law_basic ["_law_draws"] (defScope s__law_basic) := ⟨rfl, rfl, rfl, by decide +kernel, rfl, by decide +kernel, by decide +kernel⟩
abbrev s_law : Stmt := top 22
abbrev N_law : List Str := ["_law_script", "_law_draws", "_law_words", "_law_k", "_law_word", "_law_value", "_law_way", "_law_told"]
theorem sc_law : FnScope N_law ["_law_script"] (defScope s_law) := ⟨rfl, rfl, rfl, by decide +kernel, rfl, by decide +kernel, by decide +kernel⟩
section
variable {P : Program} {w : World} {K : PySem.W.Frag} {mg : Str → Option Value} {base : Heap} {f : Addr} {fd : FuncData}
theorem ok__law_begin (F : FunD K "_law_begin" "_law_begin" (defArgs s__law_begin) (defBody s__law_begin) (defScope s__law_begin) [] [] f fd) (z_list : mg "list" = none) : FnOk P w K mg base CX0 1 f fd ["_law_script"] (sp__law_begin K) := by
  have nd := sc__law_begin.nd
  refine F.ok sc__law_begin (fun vs H Q E h => ?_) (fun cdv A outer s H vs Q E hr h => ⟨t__law_begin K, PSs.nox ?_, pure__law_begin vs H Q E h⟩)
  · first | exact len__law_begin vs H Q E h | exact len_gen vs H Q E h | (obtain ⟨_, _, rfl, _⟩ := h; rfl)
  · exact (pss_one (ps_ret (pe_lst (pa_cons (pe_callTy call_list_of (by rfl) z_list (by decide +kernel) (pa_cons (pe_uVar 0) pa_nil)) (pa_cons pe_int (pa_cons pe_int (pa_cons pe_int pa_nil)))))))
theorem cal__law_begin (F : FunD K "_law_begin" "_law_begin" (defArgs s__law_begin) (defBody s__law_begin) (defScope s__law_begin) [] [] f fd) (hm : mg "_law_begin" = some (.ref f)) (k : FnOk P w K mg base CX0 1 f fd ["_law_script"] (sp__law_begin K)) : Callee P w K mg base CX0 1 "_law_begin" ["_law_script"] [] (sp__law_begin K) :=
  ⟨f, fd, [], hm, k, F.kp, F.bindsN fun _ _ _ _ _ _ us hl => match us, hl with | [_], _ => rfl, .nil⟩
theorem ok_in_range (F : FunD K "in_range" "in_range" (defArgs s_in_range) (defBody s_in_range) (defScope s_in_range) [] [] f fd) (z_isinstance : mg "isinstance" = none) (z_int : mg "int" = none) (z_bool : mg "bool" = none) : FnOk P w K mg base CX0 1 f fd ["value", "greatest"] (sp_in_range K) := by
  have nd := sc_in_range.nd
  refine F.ok sc_in_range (fun vs H Q E h => ?_) (fun cdv A outer s H vs Q E hr h => ⟨t_in_range K, PSs.nox ?_, pure_in_range vs H Q E h⟩)
  · first | exact len_in_range vs H Q E h | exact len_gen vs H Q E h | (obtain ⟨_, _, rfl, _⟩ := h; rfl)
  · exact (pss_one (ps_ret (pe_and (pe_callB (call_isiU (c := .int) (by decide)) (by rfl) z_isinstance boot_isinstance (pa_cons (pe_uVar 0) (pa_cons (pe_bltn (v := .ty "int") (by rfl) z_int (by decide +kernel) rfl) pa_nil))) (pe_and (pe_not (pe_callB (call_isiU (c := .bl) (by decide)) (by rfl) z_isinstance boot_isinstance (pa_cons (pe_uVar 0) (pa_cons (pe_bltn (v := .ty "bool") (by rfl) z_bool (by decide +kernel) rfl) pa_nil)))) (pe_one (pe_chain op_leU op_leU pe_int (pe_uVar 0) (pe_uVar 1)))))))
theorem cal_in_range (F : FunD K "in_range" "in_range" (defArgs s_in_range) (defBody s_in_range) (defScope s_in_range) [] [] f fd) (hm : mg "in_range" = some (.ref f)) (k : FnOk P w K mg base CX0 1 f fd ["value", "greatest"] (sp_in_range K)) : Callee P w K mg base CX0 1 "in_range" ["value", "greatest"] [] (sp_in_range K) :=
  ⟨f, fd, [], hm, k, F.kp, F.bindsN fun _ _ _ _ _ _ us hl => match us, hl with | [_, _], _ => rfl, .nil⟩
theorem ok_is_mark (F : FunD K "is_mark" "is_mark" (defArgs s_is_mark) (defBody s_is_mark) (defScope s_is_mark) [] [] f fd) (z_isinstance : mg "isinstance" = none) (z_str : mg "str" = none) (z_len : mg "len" = none) (hc_LETTERS : ∃ t, mg "LETTERS" = some (.str "abcdefghijklmnopqrstuvwxyz" t)) : FnOk P w K mg base CX0 1 f fd ["value"] (sp_is_mark K) := by
  have nd := sc_is_mark.nd
  obtain ⟨_, hc_LETTERS⟩ := hc_LETTERS
  refine F.ok sc_is_mark (fun vs H Q E h => ?_) (fun cdv A outer s H vs Q E hr h => ⟨t_is_mark K, PSs.nox ?_, pure_is_mark vs H Q E h⟩)
  · first | exact len_is_mark vs H Q E h | exact len_gen vs H Q E h | (obtain ⟨_, _, rfl, _⟩ := h; rfl)
  · exact (pss_cons (ps_if (PW.pt (pw_or (pt_not (pt_uTru (pe_callB (call_isiU (c := .str) (by decide)) (by rfl) z_isinstance boot_isinstance (pa_cons (pe_uVar 0) (pa_cons (pe_bltn (v := .ty "str") (by rfl) z_str (by decide +kernel) rfl) pa_nil))))) (pw_or1 (pt_not (pt_chain op_leU op_leU pe_int (pe_callB call_lenU (by rfl) z_len (by decide +kernel) (pa_cons (pe_uVar 0) pa_nil)) pe_int))))) (pss_one (ps_ret pe_bl)) pss_nil) (pss_cons (ps_for PassesOwn.never rfl (pi_U (pe_uVar 0)) (pg_name (i := 1) nd rfl (Or.inl rfl)) (pss_one (ps_if (pt_cmpR (op_notInU) (pe_uVar 1) (pe_glob (by rfl) hc_LETTERS ⟨_, rfl⟩) rfl) (pss_one (ps_ret pe_bl)) pss_nil))) (pss_one (ps_ret pe_bl))))
theorem cal_is_mark (F : FunD K "is_mark" "is_mark" (defArgs s_is_mark) (defBody s_is_mark) (defScope s_is_mark) [] [] f fd) (hm : mg "is_mark" = some (.ref f)) (k : FnOk P w K mg base CX0 1 f fd ["value"] (sp_is_mark K)) : Callee P w K mg base CX0 1 "is_mark" ["value"] [] (sp_is_mark K) :=
  ⟨f, fd, [], hm, k, F.kp, F.bindsN fun _ _ _ _ _ _ us hl => match us, hl with | [_], _ => rfl, .nil⟩
theorem ok_is_basic (F : FunD K "is_basic" "is_basic" (defArgs s_is_basic) (defBody s_is_basic) (defScope s_is_basic) [] [] f fd) (z_isinstance : mg "isinstance" = none) (z_tuple : mg "tuple" = none) (z_len : mg "len" = none) (z_str : mg "str" = none) {a_PLAIN : Addr} (hm_PLAIN : mg "PLAIN" = some (.ref a_PLAIN)) (hx_PLAIN : ∀ H, SqT K H a_PLAIN [.str "drop", .str "emit", .str "same", .str "differ"]) {a_DEPTHS : Addr} (hm_DEPTHS : mg "DEPTHS" = some (.ref a_DEPTHS)) (hx_DEPTHS : ∀ H, SqT K H a_DEPTHS [.str "pick", .str "roll"]) {a_State : Addr} (hm_State : mg "State" = some (.ref a_State)) (hk_State_HEIGHT : ClX.CRead K a_State (.type "type") ∧ ∃ u, ClX.CVal K a_State (.type "type") "HEIGHT" (.int 24) u) {a_STORES : Addr} (hm_STORES : mg "STORES" = some (.ref a_STORES)) (hx_STORES : ∀ H, SqT K H a_STORES [.str "keep", .str "load"]) (hk_State_REGISTERS : ClX.CRead K a_State (.type "type") ∧ ∃ u, ClX.CVal K a_State (.type "type") "REGISTERS" (.int 4) u) {a_MARKED : Addr} (hm_MARKED : mg "MARKED" = some (.ref a_MARKED)) (hx_MARKED : ∀ H, SqT K H a_MARKED [.str "push", .str "expect"]) (c_in_range : Callee P w K mg base CX0 1 "in_range" ["value", "greatest"] [] (sp_in_range K)) (c_is_mark : Callee P w K mg base CX0 1 "is_mark" ["value"] [] (sp_is_mark K)) : FnOk P w K mg base CX0 2 f fd ["value"] (sp_is_basic K) := by
  have nd := sc_is_basic.nd
  have hf_PLAIN : [V.str "drop", V.str "emit", V.str "same", V.str "differ"].all flatV = true := rfl
  have hf_DEPTHS : [V.str "pick", V.str "roll"].all flatV = true := rfl
  have hf_STORES : [V.str "keep", V.str "load"].all flatV = true := rfl
  have hf_MARKED : [V.str "push", V.str "expect"].all flatV = true := rfl
  refine F.ok sc_is_basic (fun vs H Q E h => ?_) (fun cdv A outer s H vs Q E hr h => ⟨t_is_basic K a_PLAIN a_DEPTHS a_STORES a_MARKED, PSs.nox ?_, pure_is_basic vs H Q E h⟩)
  · first | exact len_is_basic vs H Q E h | exact len_gen vs H Q E h | (obtain ⟨_, _, rfl, _⟩ := h; rfl)
  · exact (pss_cons (ps_if (PW.pt (pw_or (pt_not (pt_uTru (pe_callB (call_isiU (c := .tup) (by decide)) (by rfl) z_isinstance boot_isinstance (pa_cons (pe_uVar 0) (pa_cons (pe_bltn (v := .ty "tuple") (by rfl) z_tuple (by decide +kernel) rfl) pa_nil))))) (pw_or (pt_not (pt_chain op_leU op_leU pe_int (pe_callB call_lenU (by rfl) z_len (by decide +kernel) (pa_cons (pe_uVar 0) pa_nil)) pe_int)) (pw_or1 (pt_not (pt_uTru (pe_callB (call_isiU (c := .str) (by decide)) (by rfl) z_isinstance boot_isinstance (pa_cons (pe_ix ix_U (pe_uVar 0) pe_int (fun _ _ => rfl)) (pa_cons (pe_bltn (v := .ty "str") (by rfl) z_str (by decide +kernel) rfl) pa_nil))))))))) (pss_one (ps_ret pe_bl)) pss_nil) (pss_cons (ps_set (i := 1) nd rfl (Or.inl rfl) (pe_ix ix_U (pe_uVar 0) pe_int (fun _ _ => rfl))) (pss_cons (ps_if (pt_cmpR (op_eqS) (pe_callB call_lenU (by rfl) z_len (by decide +kernel) (pa_cons (pe_uVar 0) pa_nil)) pe_int (nomark _)) (pss_one (ps_ret (pe_cmpR (op_inG hx_PLAIN hf_PLAIN) (pe_uVar 1) (pe_glob (v := .ref a_PLAIN) (by rfl) hm_PLAIN rfl) rfl))) pss_nil) (pss_cons (ps_if (pt_cmpR (op_inG hx_DEPTHS hf_DEPTHS) (pe_uVar 1) (pe_glob (v := .ref a_DEPTHS) (by rfl) hm_DEPTHS rfl) rfl) (pss_one (ps_ret (pe_cal c_in_range (hr.mono (by decide)) (pa_cons (pe_ix ix_U (pe_uVar 0) pe_int (fun _ _ => rfl)) (pa_cons (pe_op op_subU (pe_uCon (by rfl) hm_State hk_State_HEIGHT) pe_int) pa_nil))))) pss_nil) (pss_cons (ps_if (pt_cmpR (op_inG hx_STORES hf_STORES) (pe_uVar 1) (pe_glob (v := .ref a_STORES) (by rfl) hm_STORES rfl) rfl) (pss_one (ps_ret (pe_cal c_in_range (hr.mono (by decide)) (pa_cons (pe_ix ix_U (pe_uVar 0) pe_int (fun _ _ => rfl)) (pa_cons (pe_op op_subU (pe_uCon (by rfl) hm_State hk_State_REGISTERS) pe_int) pa_nil))))) pss_nil) (pss_one (ps_ret (pe_and (pe_cmpR (op_inG hx_MARKED hf_MARKED) (pe_uVar 1) (pe_glob (v := .ref a_MARKED) (by rfl) hm_MARKED rfl) rfl) (pe_one (pe_cal c_is_mark (hr.mono (by decide)) (pa_cons (pe_ix ix_U (pe_uVar 0) pe_int (fun _ _ => rfl)) pa_nil)))))))))))
theorem cal_is_basic (F : FunD K "is_basic" "is_basic" (defArgs s_is_basic) (defBody s_is_basic) (defScope s_is_basic) [] [] f fd) (hm : mg "is_basic" = some (.ref f)) (k : FnOk P w K mg base CX0 2 f fd ["value"] (sp_is_basic K)) : Callee P w K mg base CX0 2 "is_basic" ["value"] [] (sp_is_basic K) :=
  ⟨f, fd, [], hm, k, F.kp, F.bindsN fun _ _ _ _ _ _ us hl => match us, hl with | [_], _ => rfl, .nil⟩
theorem ok__law_good (F : FunD K "_law_good" "_law_good" (defArgs s__law_good) (defBody s__law_good) (defScope s__law_good) [] [] f fd) (z_isinstance : mg "isinstance" = none) (z_tuple : mg "tuple" = none) (z_len : mg "len" = none) (z_str : mg "str" = none) (z_all : mg "all" = none) (z_int : mg "int" = none) (z_bool : mg "bool" = none) : FnOk P w K mg base CX0 1 f fd ["_law_one"] (sp__law_good K) := by
  have nd := sc__law_good.nd
  refine F.ok sc__law_good (fun vs H Q E h => ?_) (fun cdv A outer s H vs Q E hr h => ⟨t__law_good K, PSs.nox ?_, pure__law_good vs H Q E h⟩)
  · first | exact len__law_good vs H Q E h | exact len_gen vs H Q E h | (obtain ⟨_, _, rfl, _⟩ := h; rfl)
  · exact (pss_cons (ps_if (PW.pt (pw_or (pt_not (pt_uTru (pe_callB (call_isiU (c := .tup) (by decide)) (by rfl) z_isinstance boot_isinstance (pa_cons (pe_uVar 0) (pa_cons (pe_bltn (v := .ty "tuple") (by rfl) z_tuple (by decide +kernel) rfl) pa_nil))))) (pw_or (pt_cmpR (op_notInU) (pe_callB call_lenU (by rfl) z_len (by decide +kernel) (pa_cons (pe_uVar 0) pa_nil)) (pe_tup (pa_cons pe_int (pa_cons pe_int pa_nil))) rfl) (pw_or1 (pt_not (pt_uTru (pe_callB (call_isiU (c := .str) (by decide)) (by rfl) z_isinstance boot_isinstance (pa_cons (pe_ix ix_U (pe_uVar 0) pe_int (fun _ _ => rfl)) (pa_cons (pe_bltn (v := .ty "str") (by rfl) z_str (by decide +kernel) rfl) pa_nil))))))))) (pss_one (ps_ret pe_bl)) pss_nil) (pss_cons (ps_if (pt_cmpR (op_eqS) (pe_callB call_lenU (by rfl) z_len (by decide +kernel) (pa_cons (pe_uVar 0) pa_nil)) pe_int (nomark _)) (pss_one (ps_ret (pe_cmpR (op_inU) (pe_ix ix_U (pe_uVar 0) pe_int (fun _ _ => rfl)) (pe_tup (pa_cons pe_str (pa_cons pe_str (pa_cons pe_str (pa_cons pe_str pa_nil))))) rfl))) pss_nil) (pss_cons (ps_set (i := 1) nd rfl (Or.inl rfl) (pe_ix ix_U (pe_uVar 0) pe_int (fun _ _ => rfl))) (pss_cons (ps_if (pt_cmpR (op_inU) (pe_ix ix_U (pe_uVar 0) pe_int (fun _ _ => rfl)) (pe_tup (pa_cons pe_str (pa_cons pe_str pa_nil))) rfl) (pss_cons (ps_if (PW.pt (pw_or (pt_not (pt_uTru (pe_callB (call_isiU (c := .str) (by decide)) (by rfl) z_isinstance boot_isinstance (pa_cons (pe_uVar 1) (pa_cons (pe_bltn (v := .ty "str") (by rfl) z_str (by decide +kernel) rfl) pa_nil))))) (pw_or1 (pt_not (pt_chain op_leU op_leU pe_int (pe_callB call_lenU (by rfl) z_len (by decide +kernel) (pa_cons (pe_uVar 1) pa_nil)) pe_int))))) (pss_one (ps_ret pe_bl)) pss_nil) (pss_one (ps_ret (pe_callB (call_allU rfl) (by rfl) z_all (by decide +kernel) (pa_cons (pe_lc (own := [("_law_letter", 2)]) (g := (gName 2)) (tt := tYes) rfl nd (pi_U (pe_uVar 1)) (blkOk_by (N := N__law_good) (sc := defScope s__law_good) (by decide +kernel)) (fun _ _ _ _ _ => (pg_name (i := 2) nd rfl (Or.inl rfl))) (fun _ _ _ _ _ => pts_nil) (fun _ _ _ _ _ => (pe_cmpR (op_inU) (pe_uVar 2) pe_str rfl))) pa_nil))))) pss_nil) (pss_cons (ps_if (PW.pt (pw_or (pt_not (pt_uTru (pe_callB (call_isiU (c := .int) (by decide)) (by rfl) z_isinstance boot_isinstance (pa_cons (pe_uVar 1) (pa_cons (pe_bltn (v := .ty "int") (by rfl) z_int (by decide +kernel) rfl) pa_nil))))) (pw_or1 (pt_uTru (pe_callB (call_isiU (c := .bl) (by decide)) (by rfl) z_isinstance boot_isinstance (pa_cons (pe_uVar 1) (pa_cons (pe_bltn (v := .ty "bool") (by rfl) z_bool (by decide +kernel) rfl) pa_nil))))))) (pss_one (ps_ret pe_bl)) pss_nil) (pss_cons (ps_if (pt_cmpR (op_inU) (pe_ix ix_U (pe_uVar 0) pe_int (fun _ _ => rfl)) (pe_tup (pa_cons pe_str (pa_cons pe_str pa_nil))) rfl) (pss_one (ps_ret (pe_chain op_leU op_leU pe_int (pe_uVar 1) pe_int))) pss_nil) (pss_one (ps_ret (pe_and (pe_cmpR (op_inU) (pe_ix ix_U (pe_uVar 0) pe_int (fun _ _ => rfl)) (pe_tup (pa_cons pe_str (pa_cons pe_str pa_nil))) rfl) (pe_one (pe_chain op_leU op_leU pe_int (pe_uVar 1) pe_int)))))))))))
theorem cal__law_good (F : FunD K "_law_good" "_law_good" (defArgs s__law_good) (defBody s__law_good) (defScope s__law_good) [] [] f fd) (hm : mg "_law_good" = some (.ref f)) (k : FnOk P w K mg base CX0 1 f fd ["_law_one"] (sp__law_good K)) : Callee P w K mg base CX0 1 "_law_good" ["_law_one"] [] (sp__law_good K) :=
  ⟨f, fd, [], hm, k, F.kp, F.bindsN fun _ _ _ _ _ _ us hl => match us, hl with | [_], _ => rfl, .nil⟩
theorem ok__law_draw (F : FunD K "_law_draw" "_law_draw" (defArgs s__law_draw) (defBody s__law_draw) (defScope s__law_draw) [] [] f fd) (z_len : mg "len" = none) (z_int : mg "int" = none) : FnOk P w K mg base CX0 1 f fd ["_law_draws", "_law_many"] (sp__law_draw K) := by
  have nd := sc__law_draw.nd
  refine F.ok sc__law_draw (fun vs H Q E h => ?_) (fun cdv A outer s H vs Q E hr h => ⟨t__law_draw K, PSs.nox ?_, pure__law_draw vs H Q E h⟩)
  · first | exact len__law_draw vs H Q E h | exact len_gen vs H Q E h | (obtain ⟨_, _, rfl, _⟩ := h; rfl)
  · exact (pss_cons (ps_if (pt_cmpR (op_eqS) (pe_ix ix_U (pe_uVar 0) pe_int (fun _ _ => rfl)) pe_int (nomark _)) (pss_one (ps_if (pt_cmpR (op_ltU) (pe_ix ix_U (pe_uVar 0) pe_int (fun _ _ => rfl)) (pe_callB call_lenU (by rfl) z_len (by decide +kernel) (pa_cons (pe_ix ix_U (pe_uVar 0) pe_int (fun _ _ => rfl)) pa_nil)) (nomark _)) (pss_cons (ps_set (i := 2) nd rfl (Or.inl rfl) (pe_ix ix_U (pe_ix ix_U (pe_uVar 0) pe_int (fun _ _ => rfl)) (pe_ix ix_U (pe_uVar 0) pe_int (fun _ _ => rfl)) (fun _ _ => rfl))) (pss_cons (ps_asg (pe_op op_addI (pe_ix ix_U (pe_uVar 0) pe_int (fun _ _ => rfl)) pe_int) (pg_sub (pe_uVar 0) pe_int set_U)) (pss_one (ps_if (pt_cmpR (op_geU) (pe_uVar 2) (pe_op op_powU pe_int pe_int) (nomark _)) (pss_one (ps_asg (pe_uVar 2) (pg_sub (pe_uVar 0) pe_int set_U))) (pss_one (ps_asg (pe_op op_modU (pe_callTy call_intU (by rfl) z_int (by decide +kernel) (pa_cons (pe_op op_addI (pe_op op_addI (pe_op op_mulI (pe_ix ix_U (pe_uVar 0) pe_int (fun _ _ => rfl)) pe_int) (pe_op op_mulI (pe_uVar 2) pe_int)) pe_int) pa_nil)) pe_int) (pg_sub (pe_uVar 0) pe_int set_U))))))) (pss_one (ps_asg (pe_op op_modU (pe_callTy call_intU (by rfl) z_int (by decide +kernel) (pa_cons (pe_op op_addI (pe_op op_mulI (pe_ix ix_U (pe_uVar 0) pe_int (fun _ _ => rfl)) pe_int) pe_int) pa_nil)) pe_int) (pg_sub (pe_uVar 0) pe_int set_U))))) pss_nil) (pss_cons (ps_if (pt_cmpR (op_gtU) (pe_ix ix_U (pe_uVar 0) pe_int (fun _ _ => rfl)) pe_int (nomark _)) (pss_cons (ps_set (i := 3) nd rfl (Or.inl rfl) (pe_op op_modU (pe_callTy call_intU (by rfl) z_int (by decide +kernel) (pa_cons (pe_ix ix_U (pe_uVar 0) pe_int (fun _ _ => rfl)) pa_nil)) (pe_uVar 1))) (pss_cons (ps_asg (pe_op op_divU (pe_ix ix_U (pe_uVar 0) pe_int (fun _ _ => rfl)) (pe_uVar 1)) (pg_sub (pe_uVar 0) pe_int set_U)) (pss_one (ps_ret (pe_uVar 3))))) pss_nil) (pss_one (ps_ret (pe_op op_modU (pe_op op_modU (pe_callTy call_intU (by rfl) z_int (by decide +kernel) (pa_cons (pe_op op_mulI (pe_ix ix_U (pe_uVar 0) pe_int (fun _ _ => rfl)) pe_int) pa_nil)) pe_int) (pe_uVar 1))))))
theorem cal__law_draw (F : FunD K "_law_draw" "_law_draw" (defArgs s__law_draw) (defBody s__law_draw) (defScope s__law_draw) [] [] f fd) (hm : mg "_law_draw" = some (.ref f)) (k : FnOk P w K mg base CX0 1 f fd ["_law_draws", "_law_many"] (sp__law_draw K)) : Callee P w K mg base CX0 1 "_law_draw" ["_law_draws", "_law_many"] [] (sp__law_draw K) :=
  ⟨f, fd, [], hm, k, F.kp, F.bindsN fun _ _ _ _ _ _ us hl => match us, hl with | [_, _], _ => rfl, .nil⟩
theorem ok__law_item (F : FunD K "_law_item" "_law_item" (defArgs s__law_item) (defBody s__law_item) (defScope s__law_item) [] [] f fd) (z_len : mg "len" = none) (c__law_draw : Callee P w K mg base CX0 1 "_law_draw" ["_law_draws", "_law_many"] [] (sp__law_draw K)) : FnOk P w K mg base CX0 2 f fd ["_law_draws"] (sp__law_item K) := by
  have nd := sc__law_item.nd
  refine F.ok sc__law_item (fun vs H Q E h => ?_) (fun cdv A outer s H vs Q E hr h => ⟨t__law_item K, PSs.nox ?_, pure__law_item vs H Q E h⟩)
  · first | exact len__law_item vs H Q E h | exact len_gen vs H Q E h | (obtain ⟨_, _, rfl, _⟩ := h; rfl)
  · exact (pss_cons (ps_set (i := 1) nd rfl (Or.inl rfl) (pe_lst (pa_cons pe_str (pa_cons pe_str (pa_cons pe_str (pa_cons pe_str (pa_cons pe_str (pa_cons pe_str (pa_cons pe_str (pa_cons pe_str pa_nil)))))))))) (pss_cons (ps_set (i := 1) nd rfl (Or.inl rfl) (pe_op op_addL (pe_uVar 1) (pe_lst (pa_cons pe_int (pa_cons pe_int (pa_cons pe_int (pa_cons pe_int (pa_cons pe_int (pa_cons (pe_un un_neg pe_int) (pa_cons (pe_op op_powU pe_int pe_int) (pa_cons pe_bl (pa_cons pe_bl (pa_cons pe_non (pa_cons (pe_tup (pa_cons pe_str pa_nil)) pa_nil)))))))))))))) (pss_one (ps_ret (pe_ix ix_U (pe_uVar 1) (pe_cal c__law_draw (hr.mono (by decide)) (pa_cons (pe_uVar 0) (pa_cons (pe_callB call_lenU (by rfl) z_len (by decide +kernel) (pa_cons (pe_uVar 1) pa_nil)) pa_nil))) (fun _ _ => rfl))))))
theorem cal__law_item (F : FunD K "_law_item" "_law_item" (defArgs s__law_item) (defBody s__law_item) (defScope s__law_item) [] [] f fd) (hm : mg "_law_item" = some (.ref f)) (k : FnOk P w K mg base CX0 2 f fd ["_law_draws"] (sp__law_item K)) : Callee P w K mg base CX0 2 "_law_item" ["_law_draws"] [] (sp__law_item K) :=
  ⟨f, fd, [], hm, k, F.kp, F.bindsN fun _ _ _ _ _ _ us hl => match us, hl with | [_], _ => rfl, .nil⟩
theorem ok__law_mark (F : FunD K "_law_mark" "_law_mark" (defArgs s__law_mark) (defBody s__law_mark) (defScope s__law_mark) [] [] f fd) (z_range : mg "range" = none) (c__law_draw : Callee P w K mg base CX0 1 "_law_draw" ["_law_draws", "_law_many"] [] (sp__law_draw K)) : FnOk P w K mg base CX0 2 f fd ["_law_draws"] (sp__law_mark K) := by
  have nd := sc__law_mark.nd
  refine F.ok sc__law_mark (fun vs H Q E h => ?_) (fun cdv A outer s H vs Q E hr h => ⟨t__law_mark K, PSs.nox ?_, pure__law_mark vs H Q E h⟩)
  · first | exact len__law_mark vs H Q E h | exact len_gen vs H Q E h | (obtain ⟨_, _, rfl, _⟩ := h; rfl)
  · exact (pss_cons (ps_set (i := 1) nd rfl (Or.inl rfl) (pe_lst (pa_cons pe_str (pa_cons pe_str (pa_cons pe_str (pa_cons pe_str (pa_cons pe_str (pa_cons pe_str (pa_cons pe_str (pa_cons pe_str pa_nil)))))))))) (pss_cons (ps_set (i := 2) nd rfl (Or.inl rfl) (pe_cal c__law_draw (hr.mono (by decide)) (pa_cons (pe_uVar 0) (pa_cons pe_int pa_nil)))) (pss_cons (ps_if (pt_cmpR (op_ltU) (pe_uVar 2) pe_int (nomark _)) (pss_one (ps_ret (pe_ix ix_U (pe_uVar 1) (pe_uVar 2) (fun _ _ => rfl)))) pss_nil) (pss_cons (ps_set (i := 3) nd rfl (Or.inr rfl) pe_str) (pss_cons (ps_set (i := 4) nd rfl (Or.inl rfl) (pe_op op_addI pe_int (pe_cal c__law_draw (hr.mono (by decide)) (pa_cons (pe_uVar 0) (pa_cons pe_int pa_nil))))) (pss_one (ps_ret (pe_bm PySem.F.plainAttrs_str PySem.F.slot_str_join PySem.F.type_str_join mt_joinU pe_str (pa_cons (pe_lc (own := [("_law_k", 5)]) (g := (gName 5)) (tt := tYes) rfl nd (pi_range1 (by rfl) z_range (pa_cons (pe_uVar 4) pa_nil)) (blkOk_by (N := N__law_mark) (sc := defScope s__law_mark) (by decide +kernel)) (fun _ _ _ _ _ => (pg_name (i := 5) nd rfl (Or.inl rfl))) (fun _ _ _ _ _ => pts_nil) (fun _ _ _ _ _ => (pe_ix ix_U (pe_uVar 3) (pe_cal c__law_draw (hr.mono (by decide)) (pa_cons (pe_uVar 0) (pa_cons pe_int pa_nil))) (fun _ _ => rfl)))) pa_nil)))))))))
theorem cal__law_mark (F : FunD K "_law_mark" "_law_mark" (defArgs s__law_mark) (defBody s__law_mark) (defScope s__law_mark) [] [] f fd) (hm : mg "_law_mark" = some (.ref f)) (k : FnOk P w K mg base CX0 2 f fd ["_law_draws"] (sp__law_mark K)) : Callee P w K mg base CX0 2 "_law_mark" ["_law_draws"] [] (sp__law_mark K) :=
  ⟨f, fd, [], hm, k, F.kp, F.bindsN fun _ _ _ _ _ _ us hl => match us, hl with | [_], _ => rfl, .nil⟩
theorem ok__law_basic (F : FunD K "_law_basic" "_law_basic" (defArgs s__law_basic) (defBody s__law_basic) (defScope s__law_basic) [] [] f fd) (c__law_draw : Callee P w K mg base CX0 1 "_law_draw" ["_law_draws", "_law_many"] [] (sp__law_draw K)) (c__law_mark : Callee P w K mg base CX0 2 "_law_mark" ["_law_draws"] [] (sp__law_mark K)) : FnOk P w K mg base CX0 3 f fd ["_law_draws"] (sp__law_basic K) := by
  have nd := sc__law_basic.nd
  refine F.ok sc__law_basic (fun vs H Q E h => ?_) (fun cdv A outer s H vs Q E hr h => ⟨t__law_basic K, PSs.nox ?_, pure__law_basic vs H Q E h⟩)
  · first | exact len__law_basic vs H Q E h | exact len_gen vs H Q E h | (obtain ⟨_, _, rfl, _⟩ := h; rfl)
  · exact (pss_cons (ps_set (i := 1) nd rfl (Or.inl rfl) (pe_lst (pa_cons pe_str (pa_cons pe_str (pa_cons pe_str (pa_cons pe_str (pa_cons pe_str (pa_cons pe_str (pa_cons pe_str (pa_cons pe_str (pa_cons pe_str (pa_cons pe_str (pa_cons pe_str (pa_cons pe_str (pa_cons pe_str pa_nil))))))))))))))) (pss_cons (ps_set (i := 2) nd rfl (Or.inl rfl) (pe_ix ix_U (pe_uVar 1) (pe_cal c__law_draw (hr.mono (by decide)) (pa_cons (pe_uVar 0) (pa_cons pe_int pa_nil))) (fun _ _ => rfl))) (pss_cons (ps_if (PW.pt (pw_or (pt_cmpR (op_eqS) (pe_uVar 2) pe_str (nomark _)) (pw_or1 (pt_cmpR (op_eqS) (pe_uVar 2) pe_str (nomark _))))) (pss_one (ps_ret (pe_tup (pa_cons (pe_uVar 2) (pa_cons (pe_cal c__law_mark (hr.mono (by decide)) (pa_cons (pe_uVar 0) pa_nil)) pa_nil))))) pss_nil) (pss_cons (ps_if (PW.pt (pw_or (pt_cmpR (op_eqS) (pe_uVar 2) pe_str (nomark _)) (pw_or1 (pt_cmpR (op_eqS) (pe_uVar 2) pe_str (nomark _))))) (pss_cons (ps_if (pt_cmpR (op_eqS) (pe_cal c__law_draw (hr.mono (by decide)) (pa_cons (pe_uVar 0) (pa_cons pe_int pa_nil))) pe_int (nomark _)) (pss_one (ps_ret (pe_tup (pa_cons (pe_uVar 2) (pa_cons (pe_cal c__law_draw (hr.mono (by decide)) (pa_cons (pe_uVar 0) (pa_cons pe_int pa_nil))) pa_nil))))) pss_nil) (pss_one (ps_ret (pe_tup (pa_cons (pe_uVar 2) (pa_cons (pe_cal c__law_draw (hr.mono (by decide)) (pa_cons (pe_uVar 0) (pa_cons pe_int pa_nil))) pa_nil)))))) pss_nil) (pss_cons (ps_if (PW.pt (pw_or (pt_cmpR (op_eqS) (pe_uVar 2) pe_str (nomark _)) (pw_or1 (pt_cmpR (op_eqS) (pe_uVar 2) pe_str (nomark _))))) (pss_one (ps_ret (pe_tup (pa_cons (pe_uVar 2) (pa_cons (pe_cal c__law_draw (hr.mono (by decide)) (pa_cons (pe_uVar 0) (pa_cons pe_int pa_nil))) pa_nil))))) pss_nil) (pss_one (ps_ret (pe_tup (pa_cons (pe_uVar 2) pa_nil)))))))))
theorem cal__law_basic (F : FunD K "_law_basic" "_law_basic" (defArgs s__law_basic) (defBody s__law_basic) (defScope s__law_basic) [] [] f fd) (hm : mg "_law_basic" = some (.ref f)) (k : FnOk P w K mg base CX0 3 f fd ["_law_draws"] (sp__law_basic K)) : Callee P w K mg base CX0 3 "_law_basic" ["_law_draws"] [] (sp__law_basic K) :=
  ⟨f, fd, [], hm, k, F.kp, F.bindsN fun _ _ _ _ _ _ us hl => match us, hl with | [_], _ => rfl, .nil⟩
theorem ok_law (F : FunD K "law" "law" (defArgs s_law) (defBody s_law) (defScope s_law) [] [] f fd) (z_range : mg "range" = none) (z_isinstance : mg "isinstance" = none) (z_bool : mg "bool" = none) (z_list : mg "list" = none) (z_len : mg "len" = none) (c__law_begin : Callee P w K mg base CX0 1 "_law_begin" ["_law_script"] [] (sp__law_begin K)) (c_is_basic : Callee P w K mg base CX0 2 "is_basic" ["value"] [] (sp_is_basic K)) (c__law_good : Callee P w K mg base CX0 1 "_law_good" ["_law_one"] [] (sp__law_good K)) (c__law_item : Callee P w K mg base CX0 2 "_law_item" ["_law_draws"] [] (sp__law_item K)) (c__law_draw : Callee P w K mg base CX0 1 "_law_draw" ["_law_draws", "_law_many"] [] (sp__law_draw K)) (c__law_basic : Callee P w K mg base CX0 3 "_law_basic" ["_law_draws"] [] (sp__law_basic K)) : FnOk P w K mg base CX0 4 f fd ["_law_script"] (sp_law K) := by
  have nd := sc_law.nd
  refine F.ok sc_law (fun vs H Q E h => ?_) (fun cdv A outer s H vs Q E hr h => ⟨t_law K, PSs.nox ?_, pure_law vs H Q E h⟩)
  · first | exact len_law vs H Q E h | exact len_gen vs H Q E h | (obtain ⟨_, _, rfl, _⟩ := h; rfl)
  · exact (pss_cons (ps_set (i := 1) nd rfl (Or.inl rfl) (pe_cal c__law_begin (hr.mono (by decide)) (pa_cons (pe_uVar 0) pa_nil))) (pss_cons (ps_set (i := 2) nd rfl (Or.inl rfl) (pe_lst (pa_cons pe_str (pa_cons pe_str (pa_cons pe_str (pa_cons pe_str (pa_cons pe_str (pa_cons pe_str (pa_cons pe_str (pa_cons pe_str (pa_cons pe_str (pa_cons pe_str pa_nil)))))))))))) (pss_cons (ps_set (i := 2) nd rfl (Or.inl rfl) (pe_op op_addL (pe_uVar 2) (pe_lst (pa_cons pe_str (pa_cons pe_str (pa_cons pe_str (pa_cons pe_str (pa_cons pe_str pa_nil)))))))) (pss_cons (ps_for PassesOwn.never rfl (pi_range1 (by rfl) z_range (pa_cons pe_int pa_nil)) (pg_name (i := 3) nd rfl (Or.inl rfl)) (pss_cons (ps_set (i := 4) nd rfl (Or.inl rfl) (pe_ix ix_U (pe_uVar 2) (pe_cal c__law_draw (hr.mono (by decide)) (pa_cons (pe_uVar 1) (pa_cons (pe_callB call_lenU (by rfl) z_len (by decide +kernel) (pa_cons (pe_uVar 2) pa_nil)) pa_nil))) (fun _ _ => rfl))) (pss_cons (ps_set (i := 5) nd rfl (Or.inl rfl) (pe_cal c__law_basic (hr.mono (by decide)) (pa_cons (pe_uVar 1) pa_nil))) (pss_cons (ps_set (i := 6) nd rfl (Or.inl rfl) (pe_cal c__law_draw (hr.mono (by decide)) (pa_cons (pe_uVar 1) (pa_cons pe_int pa_nil)))) (pss_cons (ps_if (pt_cmpR (op_eqS) (pe_uVar 6) pe_int (nomark _)) (pss_one (ps_set (i := 5) nd rfl (Or.inl rfl) (pe_tup (pa_cons (pe_uVar 4) pa_nil)))) pss_nil) (pss_cons (ps_if (PW.pt (pw_or (pt_cmpR (op_eqS) (pe_uVar 6) pe_int (nomark _)) (pw_or1 (pt_cmpR (op_eqS) (pe_uVar 6) pe_int (nomark _))))) (pss_one (ps_set (i := 5) nd rfl (Or.inl rfl) (pe_tup (pa_cons (pe_uVar 4) (pa_cons (pe_cal c__law_item (hr.mono (by decide)) (pa_cons (pe_uVar 1) pa_nil)) pa_nil))))) pss_nil) (pss_cons (ps_if (pt_cmpR (op_eqS) (pe_uVar 6) pe_int (nomark _)) (pss_one (ps_set (i := 5) nd rfl (Or.inl rfl) (pe_tup (pa_cons (pe_uVar 4) (pa_cons (pe_cal c__law_item (hr.mono (by decide)) (pa_cons (pe_uVar 1) pa_nil)) (pa_cons (pe_cal c__law_item (hr.mono (by decide)) (pa_cons (pe_uVar 1) pa_nil)) pa_nil)))))) pss_nil) (pss_cons (ps_if (pt_cmpR (op_eqS) (pe_uVar 6) pe_int (nomark _)) (pss_one (ps_set (i := 5) nd rfl (Or.inl rfl) (pe_op op_addT (pe_uVar 5) (pe_tup (pa_cons (pe_cal c__law_item (hr.mono (by decide)) (pa_cons (pe_uVar 1) pa_nil)) pa_nil))))) pss_nil) (pss_cons (ps_if (pt_cmpR (op_eqS) (pe_uVar 6) pe_int (nomark _)) (pss_one (ps_set (i := 5) nd rfl (Or.inl rfl) (pe_ix ix_U (pe_lst (pa_cons (pe_callTy call_listU (by rfl) z_list (by decide +kernel) (pa_cons (pe_uVar 5) pa_nil)) (pa_cons (pe_slice sl_U (pe_uVar 5) po_none (po_uPart (pe_un un_neg pe_int))) (pa_cons pe_non (pa_cons (pe_uVar 4) (pa_cons pe_int (pa_cons (pe_tup pa_nil) (pa_cons (pe_tup (pa_cons (pe_uVar 5) pa_nil)) (pa_cons pe_bl pa_nil))))))))) (pe_cal c__law_draw (hr.mono (by decide)) (pa_cons (pe_uVar 1) (pa_cons pe_int pa_nil))) (fun _ _ => rfl)))) pss_nil) (pss_cons (ps_if (pt_cmpR (op_eqS) (pe_uVar 6) pe_int (nomark _)) (pss_one (ps_set (i := 5) nd rfl (Or.inl rfl) (pe_op op_addT (pe_tup (pa_cons (pe_cal c__law_item (hr.mono (by decide)) (pa_cons (pe_uVar 1) pa_nil)) pa_nil)) (pe_slice sl_U (pe_uVar 5) (po_uPart pe_int) po_none)))) pss_nil) (pss_cons (ps_set (i := 7) nd rfl (Or.inl rfl) (pe_cal c_is_basic (hr.mono (by decide)) (pa_cons (pe_uVar 5) pa_nil))) (pss_one (ps_if (PW.pt (pw_or (pt_not (pt_uTru (pe_callB (call_isiU (c := .bl) (by decide)) (by rfl) z_isinstance boot_isinstance (pa_cons (pe_uVar 7) (pa_cons (pe_bltn (v := .ty "bool") (by rfl) z_bool (by decide +kernel) rfl) pa_nil))))) (pw_or1 (pt_cmpR (op_neS) (pe_uVar 7) (pe_cal c__law_good (hr.mono (by decide)) (pa_cons (pe_uVar 5) pa_nil)) (nomark _))))) (pss_one (ps_ret pe_bl)) pss_nil))))))))))))) (pss_one (ps_ret pe_bl))))))
theorem cal_law (F : FunD K "law" "law" (defArgs s_law) (defBody s_law) (defScope s_law) [] [] f fd) (hm : mg "law" = some (.ref f)) (k : FnOk P w K mg base CX0 4 f fd ["_law_script"] (sp_law K)) : Callee P w K mg base CX0 4 "law" ["_law_script"] [] (sp_law K) :=
  ⟨f, fd, [], hm, k, F.kp, F.bindsN fun _ _ _ _ _ _ us hl => match us, hl with | [_], _ => rfl, .nil⟩
end
def dd (x : Str) (i : Nat) : He.DefD := ⟨(x, none), x, x, defArgs (top i), defBody (top i), defScope (top i), [], []⟩
def fn : List He.DefD := [dd "_law_begin" 16, dd "in_range" 13, dd "is_mark" 6, dd "is_basic" 14, dd "_law_good" 20, dd "_law_draw" 17, dd "_law_item" 21, dd "_law_mark" 18, dd "_law_basic" 19, dd "law" 22]
def fa : List He.Fa := [.glo "_law_begin", .glo "in_range", .glo "is_mark", .glo "is_basic", .glo "_law_good", .glo "_law_draw", .glo "_law_item", .glo "_law_mark", .glo "_law_basic", .glo "law", .free "list", .free "isinstance", .free "int", .free "bool", .free "str", .free "len", .free "tuple", .free "all", .free "range", .str "LETTERS" "abcdefghijklmnopqrstuvwxyz", .glo "State"]
def ex (K : PySem.W.Frag) : Bool := (Hd.ctupB K "PLAIN" [.str "drop", .str "emit", .str "same", .str "differ"] && (Hd.ctupB K "DEPTHS" [.str "pick", .str "roll"] && (Hd.ctupB K "STORES" [.str "keep", .str "load"] && (Hd.ctupB K "MARKED" [.str "push", .str "expect"] && (Hd.cvalB K "State" "HEIGHT" (.int 24) && (Hd.cvalB K "State" "REGISTERS" (.int 4) && true))))))
abbrev R : PySem.W.OpenRow := PySem.W.OpenLaw.row PySem.Challenge.rw_reelcode_k47_which_values_are_instructio
abbrev hk : PySem.W.Hook := Hd.hookU 4 fa fn ex
def ob (s : PySem.W.SharedT) : He.AlD := Hd.obsUG 4 fa fn ex (HandSHeadRun.getT s)
theorem ob_eq (s : PySem.W.SharedT) : ob s = hk.obs s.abs := Hd.obsUG_eq (HandSHeadRun.getT_eq s)
theorem run (w : World) : HandSHeadRun.RunEq R (PySem.W.view R.prog [22]) hk ob 3000 ["_wall", "ReelError", "BadState", "LETTERS", "is_mark", "State", "PLAIN", "DEPTHS", "STORES", "MARKED", "in_range", "is_basic", "_law_begin", "_law_draw", "_law_mark", "_law_basic", "_law_good", "_law_item"] w := by
  intro os
  kernel_rfl
theorem facts {P : Program} {w : World} {K : PySem.W.Frag} {h : Heap} {mg : Str → Option Value} {f : Addr} (X : K.In h) (G : h.Ns mainGlobals mg) (hfa : mg ("law" : Str) = some (.ref f)) (c : Hd.SaysU fa fn ex K) :
    ∃ fd : FuncData, (∀ (s : Shared) (v : Value), BindsTo s fd ⟨[v], []⟩ [("_law_script", v)]) ∧ ∀ base : Heap, K.In base → base.Ns mainGlobals mg → FnOk P w K mg base CX0 4 f fd ["_law_script"] (sp_law K) := by
  obtain ⟨fd__law_begin, F__law_begin⟩ := c.def_ 0 (d := dd "_law_begin" 16) rfl
  have g__law_begin := He.glo_ok X G (c.fact 0 (f := .glo "_law_begin") rfl)
  obtain ⟨fd_in_range, F_in_range⟩ := c.def_ 1 (d := dd "in_range" 13) rfl
  have g_in_range := He.glo_ok X G (c.fact 1 (f := .glo "in_range") rfl)
  obtain ⟨fd_is_mark, F_is_mark⟩ := c.def_ 2 (d := dd "is_mark" 6) rfl
  have g_is_mark := He.glo_ok X G (c.fact 2 (f := .glo "is_mark") rfl)
  obtain ⟨fd_is_basic, F_is_basic⟩ := c.def_ 3 (d := dd "is_basic" 14) rfl
  have g_is_basic := He.glo_ok X G (c.fact 3 (f := .glo "is_basic") rfl)
  obtain ⟨fd__law_good, F__law_good⟩ := c.def_ 4 (d := dd "_law_good" 20) rfl
  have g__law_good := He.glo_ok X G (c.fact 4 (f := .glo "_law_good") rfl)
  obtain ⟨fd__law_draw, F__law_draw⟩ := c.def_ 5 (d := dd "_law_draw" 17) rfl
  have g__law_draw := He.glo_ok X G (c.fact 5 (f := .glo "_law_draw") rfl)
  obtain ⟨fd__law_item, F__law_item⟩ := c.def_ 6 (d := dd "_law_item" 21) rfl
  have g__law_item := He.glo_ok X G (c.fact 6 (f := .glo "_law_item") rfl)
  obtain ⟨fd__law_mark, F__law_mark⟩ := c.def_ 7 (d := dd "_law_mark" 18) rfl
  have g__law_mark := He.glo_ok X G (c.fact 7 (f := .glo "_law_mark") rfl)
  obtain ⟨fd__law_basic, F__law_basic⟩ := c.def_ 8 (d := dd "_law_basic" 19) rfl
  have g__law_basic := He.glo_ok X G (c.fact 8 (f := .glo "_law_basic") rfl)
  obtain ⟨fd_law, F_law⟩ := c.def_ 9 (d := dd "law" 22) rfl
  have g_law := He.glo_ok X G (c.fact 9 (f := .glo "law") rfl)
  have z_list := He.free_ok X G (c.fact 10 (f := .free "list") rfl)
  have z_isinstance := He.free_ok X G (c.fact 11 (f := .free "isinstance") rfl)
  have z_int := He.free_ok X G (c.fact 12 (f := .free "int") rfl)
  have z_bool := He.free_ok X G (c.fact 13 (f := .free "bool") rfl)
  have z_str := He.free_ok X G (c.fact 14 (f := .free "str") rfl)
  have z_len := He.free_ok X G (c.fact 15 (f := .free "len") rfl)
  have z_tuple := He.free_ok X G (c.fact 16 (f := .free "tuple") rfl)
  have z_all := He.free_ok X G (c.fact 17 (f := .free "all") rfl)
  have z_range := He.free_ok X G (c.fact 18 (f := .free "range") rfl)
  have hc_LETTERS := He.str_ok X G (c.fact 19 (f := .str "LETTERS" "abcdefghijklmnopqrstuvwxyz") rfl)
  have hm_State := He.glo_ok X G (c.fact 20 (f := .glo "State") rfl)
  have m := c.more
  unfold ex at m
  obtain ⟨m1, m⟩ := He.ba m
  obtain ⟨m2, hx_PLAIN⟩ := Hd.ctupB_ok m1 rfl
  have hm_PLAIN := He.glo_ok X G m2
  obtain ⟨m1, m⟩ := He.ba m
  obtain ⟨m2, hx_DEPTHS⟩ := Hd.ctupB_ok m1 rfl
  have hm_DEPTHS := He.glo_ok X G m2
  obtain ⟨m1, m⟩ := He.ba m
  obtain ⟨m2, hx_STORES⟩ := Hd.ctupB_ok m1 rfl
  have hm_STORES := He.glo_ok X G m2
  obtain ⟨m1, m⟩ := He.ba m
  obtain ⟨m2, hx_MARKED⟩ := Hd.ctupB_ok m1 rfl
  have hm_MARKED := He.glo_ok X G m2
  obtain ⟨m1, m⟩ := He.ba m
  have hk_State_HEIGHT := Hd.cvalB_ok m1
  obtain ⟨m1, m⟩ := He.ba m
  have hk_State_REGISTERS := Hd.cvalB_ok m1
  have e := hfa.symm.trans g_law
  cases e
  have b := FunD.bindsA (ps := ["_law_script"]) F_law fun _ _ _ _ _ _ us hl => match us, hl with | [_], _ => rfl
  refine ⟨fd_law, fun s v => b s [v] rfl, fun base _ _ => ?_⟩
  have k__law_begin := ok__law_begin (P := P) (w := w) (mg := mg) (base := base) F__law_begin z_list
  have c__law_begin := cal__law_begin F__law_begin g__law_begin k__law_begin
  have k_in_range := ok_in_range (P := P) (w := w) (mg := mg) (base := base) F_in_range z_isinstance z_int z_bool
  have c_in_range := cal_in_range F_in_range g_in_range k_in_range
  have k_is_mark := ok_is_mark (P := P) (w := w) (mg := mg) (base := base) F_is_mark z_isinstance z_str z_len hc_LETTERS
  have c_is_mark := cal_is_mark F_is_mark g_is_mark k_is_mark
  have k_is_basic := ok_is_basic (P := P) (w := w) (mg := mg) (base := base) F_is_basic z_isinstance z_tuple z_len z_str hm_PLAIN hx_PLAIN hm_DEPTHS hx_DEPTHS hm_State hk_State_HEIGHT hm_STORES hx_STORES hk_State_REGISTERS hm_MARKED hx_MARKED c_in_range c_is_mark
  have c_is_basic := cal_is_basic F_is_basic g_is_basic k_is_basic
  have k__law_good := ok__law_good (P := P) (w := w) (mg := mg) (base := base) F__law_good z_isinstance z_tuple z_len z_str z_all z_int z_bool
  have c__law_good := cal__law_good F__law_good g__law_good k__law_good
  have k__law_draw := ok__law_draw (P := P) (w := w) (mg := mg) (base := base) F__law_draw z_len z_int
  have c__law_draw := cal__law_draw F__law_draw g__law_draw k__law_draw
  have k__law_item := ok__law_item (P := P) (w := w) (mg := mg) (base := base) F__law_item z_len c__law_draw
  have c__law_item := cal__law_item F__law_item g__law_item k__law_item
  have k__law_mark := ok__law_mark (P := P) (w := w) (mg := mg) (base := base) F__law_mark z_range c__law_draw
  have c__law_mark := cal__law_mark F__law_mark g__law_mark k__law_mark
  have k__law_basic := ok__law_basic (P := P) (w := w) (mg := mg) (base := base) F__law_basic c__law_draw c__law_mark
  have c__law_basic := cal__law_basic F__law_basic g__law_basic k__law_basic
  have k_law := ok_law (P := P) (w := w) (mg := mg) (base := base) F_law z_range z_isinstance z_bool z_list z_len c__law_begin c_is_basic c__law_good c__law_item c__law_draw c__law_basic
  exact k_law
end K47
end U
open PySem PySem.W PySem.Calls PyProof.Rows
theorem PySem.Challenge.cw_reelcode_k47_which_values_are_instructio_holds : PySem.Challenge.rw_reelcode_k47_which_values_are_instructio.Holds := by
  w_on; o_law
  refine HandSHeadRun.head_any (r := OpenLaw.row PySem.Challenge.rw_reelcode_k47_which_values_are_instructio) (q := view (OpenLaw.row PySem.Challenge.rw_reelcode_k47_which_values_are_instructio).prog [22]) (H := U.K47.hk) (ob := U.K47.ob) (M := 3000) (loose := ["_wall", "ReelError", "BadState", "LETTERS", "is_mark", "State", "PLAIN", "DEPTHS", "STORES", "MARKED", "in_range", "is_basic", "_law_begin", "_law_draw", "_law_mark", "_law_basic", "_law_good", "_law_item"]) (d := HandSHeadRun.topDef (OpenLaw.row PySem.Challenge.rw_reelcode_k47_which_values_are_instructio).prog 22) (kwd := []) U.K47.ob_eq
    (by kernel_rfl) (fun s => by kernel_rfl) U.K47.run (by kernel_rfl) (by kernel_rfl) (by kernel_rfl) (by rfl) (by first | assumption | decide +kernel) (by decide +kernel) ⟨rfl, rfl, rfl, rfl, rfl, by decide +kernel⟩ ?hw ?hc
  case hw => w_witness2
  case hc =>
    refine L2.walk_ofE (l := PySem.Challenge.rw_reelcode_k47_which_values_are_instructio) (n := 63) (k := 4) (x := "_law_script") (CX := L2.CX0) rfl (by decide) (by kernel_rfl) ⟨rfl, by decide, by decide⟩ ?F (fun _ _ _ _ z => z)
    intro w mg fa h Y G hmg0
    obtain ⟨K, KX, c⟩ := Y
    have hmg : mg ("law" : PySem.Str) = some (.ref fa) := by
      have e : (HandSHeadRun.topDef (OpenLaw.row PySem.Challenge.rw_reelcode_k47_which_values_are_instructio).prog 22).name = ("law" : PySem.Str) := by kernel_rfl
      rw [← e]
      exact hmg0
    obtain ⟨fd, hb, hF⟩ := U.K47.facts (P := (PySem.Challenge.rw_reelcode_k47_which_values_are_instructio).prog) (w := w) KX G hmg c
    exact ⟨K, fd, U.K47.sp_law K, KX, hb, fun H a ns hl hz hS => ⟨a, ns, rfl, hS, fun _ => rfl⟩, hF⟩
end
