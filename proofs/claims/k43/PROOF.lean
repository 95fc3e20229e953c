import PyProof.Rows.All
import Wide.All
import OpenK.AllK
import Wide.FinOn
import KE.KStateDown
import Lean
import HandS.ForMost
import HandS.TupAny
import HandS.TupMul
import HandS.IsInst
import HandS.Walk
import HandS.Style
import HandS.ClsMeth
import HandS.Defaults
import HandS.Evl
import HandS.Exc
import HandS.ExcOwn
import HandS.ExcIs
import HandS.TryMany
import HandS.TryOnly
import HandS.OwnEq
import HandS.WordsExc
import HandS.CallSlots
import HandS.ExcInit
import HandS.ExcField
import HandS.HeadHook1
import HandS.More
import HandS.Text
import HandS.StrMore
import HandS.WideBits
import HandS.Iter
import HandS.Head0
import HandS.Head1
import HandS.Head2
import HandS.HeadEnd
import HandS.HeadHook2
import HandS.HeadHook3
import PySem.Challenge.RW_reelcode_k43_tables_refused
set_option Elab.async false
set_option linter.all false
set_option maxRecDepth 100000
set_option maxHeartbeats 0
section
namespace U
open PySem PySem.Spec PyProof.Rows L2

theorem peOf {X : Cx} {e : Expr} {t t' : TE} (h : PE X e t) (m : ∀ σ H Q, t' σ H Q → t σ H Q) : PE X e t' := ⟨fun pins s σ H Q I q => h.run pins s σ H Q I (m σ H Q q)⟩
theorem ptOf {X : Cx} {e : Expr} {t t' : TT} (h : PT X e t) (m : ∀ σ H Q, t' σ H Q → t σ H Q) : PT X e t' := ⟨fun pins s σ H Q I q => h.run pins s σ H Q I (m σ H Q q)⟩
theorem psOf {X : Cx} {e : Stmt} {t t' : TS} (h : PS X e t) (m : ∀ D σ H, t' D σ H → t D σ H) : PS X e t' := ⟨fun pins s σ H D I q => h.run pins s σ H D I (m D σ H q)⟩
theorem poOf {X : Cx} {e : Option Expr} {t t' : TO} (h : PO X e t) (m : ∀ σ H Q, t' σ H Q → t σ H Q) : PO X e t' := ⟨fun pins s σ H Q I q => h.run pins s σ H Q I (m σ H Q q)⟩
theorem opOf {X : Cx} {f : Value → Value → Sem Value} {r r' : R2} (h : OpR X f r) (m : ∀ x y H Q, r' x y H Q → r x y H Q) : OpR X f r' := fun pins s σ H x y v u Q I rx ry q => h pins s σ H x y v u Q I rx ry (m x y H Q q)
theorem ixOf {X : Cx} {r r' : R2} (h : IxR X r) (m : ∀ x y H Q, r' x y H Q → r x y H Q) : IxR X r' := fun value slice pins s σ H x y v u Q I rx ry q hs => h value slice pins s σ H x y v u Q I rx ry (m x y H Q q) hs
theorem crOf {X : Cx} {f : Value} {r r' : List V → Hp → VK → Prop} (h : CallR X f r) (m : ∀ xs H Q, r' xs H Q → r xs H Q) : CallR X f r' := fun pins s σ H xs us Q I rx q => h pins s σ H xs us Q I rx (m xs H Q q)
theorem mtOf {X : Cx} {id : String} {r r' : V → List V → Hp → VK → Prop} (h : MtR X id r) (m : ∀ x xs H Q, r' x xs H Q → r x xs H Q) : MtR X id r' := by
  intro pins s
  intro σ H x xs v us Q I rx rs q
  exact h pins s σ H x xs v us Q I rx rs (m x xs H Q q)
theorem slOf {X : Cx} {r r' : V → Option Int → Option Int → Hp → VK → Prop} (h : SlR X r) (m : ∀ x l u H Q, r' x l u H Q → r x l u H Q) : SlR X r' := by
  intro pins s σ H x v vl vu lo hi sl Q I rx hs pl pu q
  exact h pins s σ H x v vl vu lo hi sl Q I rx hs pl pu (m x lo hi H Q q)

def seqAt (H : Hp) (p : Addr) : Option (List V) := match H p with
  | some (.lst xs) => some xs
  | some (.tup xs) => some xs
  | some (.frz _ (.lst xs)) => some xs
  | some (.frz _ (.tup xs)) => some xs
  | _ => none
theorem seqAt_cases {K : PySem.W.Frag} {H : Hp} {p : Addr} {xs : List V} (h : seqAt H p = some xs) : SqL K H p xs ∨ SqT K H p xs := by
  unfold seqAt at h
  split at h
  · rename_i ys e; cases h; exact .inl (.inl (.inl e))
  · rename_i ys e; cases h; exact .inr (.inl (.inl e))
  · rename_i o ys e; cases h; exact .inl (.inl (.inr ⟨o, e⟩))
  · rename_i o ys e; cases h; exact .inr (.inl (.inr ⟨o, e⟩))
  · cases h
theorem seqAt_lst {H : Hp} {p : Addr} {xs : List V} (h : H p = some (.lst xs)) : seqAt H p = some xs := by unfold seqAt; rw [h]
theorem seqAt_tup {H : Hp} {p : Addr} {xs : List V} (h : H p = some (.tup xs)) : seqAt H p = some xs := by unfold seqAt; rw [h]

inductive Ty where
  | non | bl | int | str | lst | tup | dict
  deriving DecidableEq
def Ty.name : Ty → String
  | .non => "NoneType" | .bl => "bool" | .int => "int" | .str => "str" | .lst => "list" | .tup => "tuple" | .dict => "dict"
def Ty.isa : Ty → Ty → Bool
  | .non, .non => true | .bl, .bl => true | .int, .int => true | .str, .str => true | .lst, .lst => true | .tup, .tup => true | .dict, .dict => true
  | .bl, .int => true
  | _, _ => false
theorem isa_tab : (Ty.non.isa .non = true) ∧ (Ty.non.isa .bl = false) ∧ (Ty.non.isa .int = false) ∧ (Ty.non.isa .str = false) ∧ (Ty.non.isa .lst = false) ∧ (Ty.non.isa .tup = false) ∧ (Ty.non.isa .dict = false) ∧ (Ty.bl.isa .non = false) ∧ (Ty.bl.isa .bl = true) ∧ (Ty.bl.isa .int = true) ∧ (Ty.bl.isa .str = false) ∧ (Ty.bl.isa .lst = false) ∧ (Ty.bl.isa .tup = false) ∧ (Ty.bl.isa .dict = false) ∧ (Ty.int.isa .non = false) ∧ (Ty.int.isa .bl = false) ∧ (Ty.int.isa .int = true) ∧ (Ty.int.isa .str = false) ∧ (Ty.int.isa .lst = false) ∧ (Ty.int.isa .tup = false) ∧ (Ty.int.isa .dict = false) ∧ (Ty.str.isa .non = false) ∧ (Ty.str.isa .bl = false) ∧ (Ty.str.isa .int = false) ∧ (Ty.str.isa .str = true) ∧ (Ty.str.isa .lst = false) ∧ (Ty.str.isa .tup = false) ∧ (Ty.str.isa .dict = false) ∧ (Ty.lst.isa .non = false) ∧ (Ty.lst.isa .bl = false) ∧ (Ty.lst.isa .int = false) ∧ (Ty.lst.isa .str = false) ∧ (Ty.lst.isa .lst = true) ∧ (Ty.lst.isa .tup = false) ∧ (Ty.lst.isa .dict = false) ∧ (Ty.tup.isa .non = false) ∧ (Ty.tup.isa .bl = false) ∧ (Ty.tup.isa .int = false) ∧ (Ty.tup.isa .str = false) ∧ (Ty.tup.isa .lst = false) ∧ (Ty.tup.isa .tup = true) ∧ (Ty.tup.isa .dict = false) ∧ (Ty.dict.isa .non = false) ∧ (Ty.dict.isa .bl = false) ∧ (Ty.dict.isa .int = false) ∧ (Ty.dict.isa .str = false) ∧ (Ty.dict.isa .lst = false) ∧ (Ty.dict.isa .tup = false) ∧ (Ty.dict.isa .dict = true) := by decide
theorem Ty.kit {K : PySem.W.Frag} (a c : Ty) (h : c ≠ .non) : PySem.W.kitOne K (.type a.name) (.type c.name) = some (a.isa c) := by
  cases c with
  | non => exact absurd rfl h
  | _ => cases a <;> exact kit_ty (by decide +kernel)
def tyV (H : Hp) : V → Option Ty
  | .non => some .non
  | .bl _ => some .bl
  | .int _ => some .int
  | .str _ => some .str
  | .ref p => match H p with
    | some (.lst _) => some .lst
    | some (.tup _) => some .tup
    | some (.dK _) => some .dict
    | some (.dT _) => some .dict
    | _ => none
  | _ => none
theorem tyV_ok {K : PySem.W.Frag} {H : Hp} {x : V} {t : Ty} (h : tyV H x = some t) : TyX K H x (.type t.name) := by
  unfold tyV at h
  split at h
  · cases h; exact .base .non
  · cases h; exact .base (.bl _)
  · cases h; exact .base (.int _)
  · cases h; exact .base (.str _)
  · split at h
    · rename_i e; cases h; exact .base (.lst e)
    · rename_i e; cases h; exact .base (.tup e)
    · rename_i e; cases h; exact .base (.dK e)
    · rename_i e; cases h; exact .base (.dT e)
    · cases h
  · cases h

section
variable {X : Cx} {a b e : Expr} {ta tb te : TE} {pos : Pos}
def uVar (i : Nat) : TE := fun σ H Q => match σ[i]? with
  | some (some v) => Q v H
  | _ => False
theorem pe_uVar (i : Nat) {x : Str} {pos : Pos} (hN : X.N[i]? = some x := by rfl) (hv : Vis X.env.scope x := by first | exact Or.inl rfl | exact Or.inr (Or.inl rfl) | exact Or.inr (Or.inr rfl)) (hd : (x == ("__debug__" : Str)) = false := by decide)
    (hcd : (x == ("__classdict__" : Str)) = false := by decide) : PE X (.Name x pos) (uVar i) :=
  peOf (pe_var hN hv hd hcd) fun σ H Q q => by
    unfold uVar at q
    split at q
    · rename_i v e; exact ⟨v, e, q⟩
    · exact q.elim

def rAddU : R2 := fun x y H Q => match x, y with
  | .int i, .int j => Q (.int (i + j)) H
  | .str i, .str j => i.length + j.length ≤ sizeLine ∧ Q (.str (i ++ j)) H
  | .ref p, .ref q => match H p, H q with
    | some (.lst xs), some (.lst ys) => xs.length + ys.length ≤ sizeLine ∧ ∀ r, H r = none → Q (.ref r) (upd H r (.lst (xs ++ ys)))
    | some (.tup xs), some (.tup ys) => xs.length + ys.length ≤ sizeLine ∧ (xs = [] → Q (.ref q) H) ∧ (xs ≠ [] → ys = [] → Q (.ref p) H) ∧ (xs ≠ [] → ys ≠ [] → ∀ r, H r = none → Q (.ref r) (upd H r (.tup (xs ++ ys))))
    | _, _ => False
  | _, _ => False
theorem op_addU : OpR X (binaryOp .Add) rAddU := by
  refine opOf (op_add.or (op_add_str.or (op_cat.or op_catA))) fun x y H Q q => ?_
  unfold rAddU at q
  split at q
  · exact .inl ⟨_, _, rfl, rfl, q⟩
  · exact .inr (.inl ⟨_, _, rfl, rfl, q.1, q.2⟩)
  · split at q
    · rename_i h1 h2; exact .inr (.inr (.inl ⟨_, _, _, _, rfl, rfl, h1, h2, q.1, q.2⟩))
    · rename_i h1 h2; exact .inr (.inr (.inr ⟨_, _, _, _, rfl, rfl, .of h1, .of h2, q⟩))
    · exact q.elim
  · exact q.elim
def rInt (g : Int → Int → V) : R2 := fun x y H Q => match x, y with
  | .int i, .int j => Q (g i j) H
  | _, _ => False
def rIntC (C : Int → Int → Prop) (g : Int → Int → V) : R2 := fun x y H Q => match x, y with
  | .int i, .int j => C i j ∧ Q (g i j) H
  | _, _ => False
theorem rInt_of {g : Int → Int → V} {x y : V} {H : Hp} {Q : VK} (q : rInt g x y H Q) : rI0 g x y H Q := by
  unfold rInt at q
  split at q
  · exact ⟨_, _, rfl, rfl, q⟩
  · exact q.elim
theorem rIntC_of {C : Int → Int → Prop} {g : Int → Int → V} {x y : V} {H : Hp} {Q : VK} (q : rIntC C g x y H Q) : rI C g x y H Q := by
  unfold rIntC at q
  split at q
  · exact ⟨_, _, rfl, rfl, q.1, q.2⟩
  · exact q.elim
def rAddI : R2 := rInt fun i j => .int (i + j)
theorem op_addI : OpR X (binaryOp .Add) rAddI := opOf op_add fun _ _ _ _ => rInt_of
def rAddS : R2 := fun x y H Q => match x, y with
  | .str i, .str j => i.length + j.length ≤ sizeLine ∧ Q (.str (i ++ j)) H
  | _, _ => False
theorem op_addS : OpR X (binaryOp .Add) rAddS := opOf op_addU fun x y H Q q => by
  unfold rAddS at q
  split at q
  · exact q
  · exact q.elim
def rAddL : R2 := fun x y H Q => match x, y with
  | .ref p, .ref q => match H p, H q with
    | some (.lst xs), some (.lst ys) => xs.length + ys.length ≤ sizeLine ∧ ∀ r, H r = none → Q (.ref r) (upd H r (.lst (xs ++ ys)))
    | _, _ => False
  | _, _ => False
theorem op_addL : OpR X (binaryOp .Add) rAddL := opOf op_addU fun x y H Q q => by
  unfold rAddL at q
  split at q
  · split at q
    · rename_i h1 h2
      unfold rAddU
      simp only [h1, h2]
      exact q
    · exact q.elim
  · exact q.elim
def rAddT : R2 := fun x y H Q => match x, y with
  | .ref p, .ref q => match H p, H q with
    | some (.tup xs), some (.tup ys) => xs.length + ys.length ≤ sizeLine ∧ (xs = [] → Q (.ref q) H) ∧ (xs ≠ [] → ys = [] → Q (.ref p) H) ∧ (xs ≠ [] → ys ≠ [] → ∀ r, H r = none → Q (.ref r) (upd H r (.tup (xs ++ ys))))
    | _, _ => False
  | _, _ => False
theorem op_addT : OpR X (binaryOp .Add) rAddT := opOf op_addU fun x y H Q q => by
  unfold rAddT at q
  split at q
  · split at q
    · rename_i h1 h2
      unfold rAddU
      simp only [h1, h2]
      exact q
    · exact q.elim
  · exact q.elim
def rSubU : R2 := rInt fun i j => .int (i - j)
def rMulI : R2 := rIntC CMul fun i j => .int (i * j)
def rDivU : R2 := rIntC CDiv fun i j => .int (i / j)
def rModU : R2 := rIntC (fun _ j => 0 < j) fun i j => .int (i % j)
def rPowU : R2 := rIntC CPow fun i j => .int (i ^ j.toNat)
theorem op_subU : OpR X (binaryOp .Sub) rSubU := opOf op_sub fun _ _ _ _ => rInt_of
theorem op_mulI : OpR X (binaryOp .Mult) rMulI := opOf op_mul fun _ _ _ _ => rIntC_of
theorem op_divU : OpR X (binaryOp .FloorDiv) rDivU := opOf op_fdiv fun _ _ _ _ => rIntC_of
theorem op_modU : OpR X (binaryOp .Mod) rModU := opOf op_mod fun _ _ _ _ => rIntC_of
theorem op_powU : OpR X (binaryOp .Pow) rPowU := opOf op_pow fun _ _ _ _ => rIntC_of
def rLtU : R2 := rInt fun i j => .bl (decide (i < j))
def rLeU : R2 := rInt fun i j => .bl (decide (i ≤ j))
def rGtU : R2 := rInt fun i j => .bl (decide (j < i))
def rGeU : R2 := rInt fun i j => .bl (decide (j ≤ i))
theorem op_ltU : OpR X (compareOp .Lt) rLtU := opOf op_lt fun _ _ _ _ => rInt_of
theorem op_leU : OpR X (compareOp .LtE) rLeU := opOf op_le fun _ _ _ _ => rInt_of
theorem op_gtU : OpR X (compareOp .Gt) rGtU := opOf op_gt fun _ _ _ _ => rInt_of
theorem op_geU : OpR X (compareOp .GtE) rGeU := opOf op_ge fun _ _ _ _ => rInt_of
def rEqS : R2 := fun x y H Q => scal x y = true ∧ Q (.bl (decide (x = y))) H
def rNeS : R2 := fun x y H Q => scal x y = true ∧ Q (.bl (!decide (x = y))) H
theorem op_eqS : OpR X (compareOp .Eq) rEqS := op_eq
theorem op_neS : OpR X (compareOp .NotEq) rNeS := op_ne
def rIsNU : R2 := fun x y H Q => y = .non ∧ Q (.bl (decide (x = .non))) H
def rNotNU : R2 := fun x y H Q => y = .non ∧ Q (.bl (!decide (x = .non))) H
theorem op_isNU : OpR X (compareOp .Is) rIsNU := op_isN
theorem op_notNU : OpR X (compareOp .IsNot) rNotNU := op_notN
def rInU (neg : Bool) : R2 := fun x y H Q => match y with
  | .str z => ∃ c, x = .str ⟨#[c]⟩ ∧ Q (.bl (xor neg (decide (c ∈ z.cps.toList)))) H
  | .ref p => match seqAt H p with
    | some xs => flatV x = true ∧ xs.all flatV = true ∧ Q (.bl (xor neg (inV x xs))) H
    | none => False
  | _ => False
theorem op_inU : OpR X (compareOp .In) (rInU false) := by
  refine opOf (op_in_sign.or op_in_seq) fun x y H Q q => ?_
  unfold rInU at q
  split at q
  · obtain ⟨c, rfl, q⟩ := q
    exact .inl ⟨c, _, rfl, rfl, by simpa using q⟩
  · split at q
    · rename_i e
      refine .inr ⟨_, _, rfl, seqAt_cases e, q.1, q.2.1, ?_⟩
      simpa using q.2.2
    · exact q.elim
  · exact q.elim
theorem op_notInU : OpR X (compareOp .NotIn) (rInU true) := by
  refine opOf (op_notIn_sign.or op_notIn_seq) fun x y H Q q => ?_
  unfold rInU at q
  split at q
  · obtain ⟨c, rfl, q⟩ := q
    exact .inl ⟨c, _, rfl, rfl, by simpa using q⟩
  · split at q
    · rename_i e
      refine .inr ⟨_, _, rfl, seqAt_cases e, q.1, q.2.1, ?_⟩
      simpa using q.2.2
    · exact q.elim
  · exact q.elim
def rInG (p : Addr) (xs : List V) (neg : Bool) : R2 := fun x y H Q => y = .ref p ∧ flatV x = true ∧ Q (.bl (xor neg (inV x xs))) H
theorem op_inG {p : Addr} {xs : List V} (hx : ∀ H, SqT X.K H p xs) (hf : xs.all flatV = true) : OpR X (compareOp .In) (rInG p xs false) :=
  opOf op_in_seq fun x y H Q q => ⟨p, xs, q.1, .inr (hx H), q.2.1, hf, by simpa using q.2.2⟩
theorem op_notInG {p : Addr} {xs : List V} (hx : ∀ H, SqT X.K H p xs) (hf : xs.all flatV = true) : OpR X (compareOp .NotIn) (rInG p xs true) :=
  opOf op_notIn_seq fun x y H Q q => ⟨p, xs, q.1, .inr (hx H), q.2.1, hf, by simpa using q.2.2⟩
def rIxU : R2 := fun x y H Q => match x, y with
  | .str z, .int i => z.length ≤ sizeLine ∧ ∃ c, atI z.cps.toList i = some c ∧ Q (.str ⟨#[c]⟩) H
  | .ref p, .int i => match seqAt H p with
    | some xs => ∃ v, atI xs i = some v ∧ Q v H
    | none => False
  | _, _ => False
theorem ix_U : IxR X rIxU := ixOf ix_seq fun x y H Q q => by
  unfold rIxU at q
  split at q
  · obtain ⟨h, c, h2, q⟩ := q
    exact .inr (.inr ⟨_, _, c, rfl, rfl, h, h2, q⟩)
  · split at q
    · rename_i e
      obtain ⟨v, h2, q⟩ := q
      rcases seqAt_cases (K := X.K) e with h | h
      · exact .inl ⟨_, _, _, v, rfl, rfl, h, h2, q⟩
      · exact .inr (.inl ⟨_, _, _, v, rfl, rfl, h, h2, q⟩)
    · exact q.elim
  · exact q.elim
def rSetU : V → V → V → Hp → (Hp → Prop) → Prop := fun o i v H Q => match o, i with
  | .ref p, .int k => match H p with
    | some (.lst xs) => ∃ j, ixN xs.length k = some j ∧ Q (upd H p (.lst (xs.set j v)))
    | _ => False
  | _, _ => False
theorem set_U : PSet X rSetU := by
  intro pins s σ H o i v uo ui uv Q I r1 r2 r3 q
  refine set_list pins s σ H o i v uo ui uv Q I r1 r2 r3 ?_
  unfold rSetU at q
  split at q
  · split at q
    · rename_i e
      obtain ⟨j, h, q⟩ := q
      exact ⟨_, _, _, j, rfl, rfl, e, h, q⟩
    · exact q.elim
  · exact q.elim
def uPart (t : TE) : TO := fun σ H Q => t σ H fun x H1 => ∃ i, x = .int i ∧ Q (some i) H1
theorem po_uPart (h : PE X e te) : PO X (some e) (uPart te) := po_some h
def wholeT (n : Nat) (lo hi : Option Int) : Prop := HT.sIx n 0 lo = 0 ∧ HT.sIx n n hi = n
def rSlU : V → Option Int → Option Int → Hp → VK → Prop := fun x lo hi H Q => match x with
  | .str z => z.length ≤ sizeLine ∧ Q (.str (cutS z lo hi)) H
  | .ref p => match H p with
    | some (.lst xs) => ∀ q, H q = none → Q (.ref q) (upd H q (.lst (cutV xs lo hi)))
    | some (.tup xs) => (wholeT xs.length lo hi → Q (.ref p) H) ∧ (¬ wholeT xs.length lo hi → ∀ q, H q = none → Q (.ref q) (upd H q (.tup (cutV xs lo hi))))
    | _ => False
  | _ => False
theorem slOr {r r' : V → Option Int → Option Int → Hp → VK → Prop} (h : SlR X r) (h' : SlR X r') : SlR X (fun x lo hi H Q => r x lo hi H Q ∨ r' x lo hi H Q) := h.or h'
theorem sl_U : SlR X rSlU := slOf (slOr sl_str (slOr sl_list sl_tupA)) fun x lo hi H Q q => by
  unfold rSlU at q
  split at q
  · exact .inl ⟨_, rfl, q.1, q.2⟩
  · split at q
    · rename_i e; exact .inr (.inl ⟨_, _, rfl, .of e, q⟩)
    · rename_i e; exact .inr (.inr ⟨_, _, rfl, .of e, q.1, q.2⟩)
    · exact q.elim
  · exact q.elim
def rLenU : List V → Hp → VK → Prop := fun xs H Q => match xs with
  | [.str z] => z.length ≤ sizeLine ∧ Q (.int z.length) H
  | [.ref p] => match seqAt H p with
    | some ys => Q (.int ys.length) H
    | none => match H p with
      | some (.dK kvs) => Q (.int kvs.length) H
      | _ => False
  | _ => False
theorem lenV_dict {pins : List (Addr × Obj)} {s : Shared} {σ : L2.St} {H : Hp} {p : Addr} {kvs : List (Key × V)} {u : Value} {Q : VK} (I : Inv X pins σ H s) (r : RelV (.ref p) u) (h : H p = some (.dK kvs)) (q : Q (.int kvs.length) H) :
    wpAny (model X.prog X.w) X.A (call (.builtin "len") [u]) (EP X pins σ Q) X.xe s := call_lenD pins s σ H [.ref p] [u] Q I (.cons r .nil) ⟨p, kvs, rfl, h, q⟩
theorem call_lenU : CallR X (.builtin "len") rLenU := by
  intro pins s σ H xs us Q I r q
  unfold rLenU at q
  split at q
  · exact call_len_str pins s σ H _ us Q I r ⟨_, rfl, q.1, q.2⟩
  · rename_i p
    split at q
    · rename_i e; exact call_len_seq pins s σ H _ us Q I r ⟨p, _, rfl, seqAt_cases e, q⟩
    · split at q
      · rename_i e
        obtain ⟨u, rfl, r1⟩ := vals1 r
        exact lenV_dict I r1 e q
      · exact q.elim
  · exact q.elim
def strsOf : List V → Option (List Str)
  | [] => some []
  | .str x :: r => (strsOf r).map (x :: ·)
  | _ => none
theorem strsOf_eq : ∀ {xs : List V} {ys : List Str}, strsOf xs = some ys → xs = ys.map V.str
  | [], _, h => by cases h; rfl
  | .str x :: r, ys, h => by
    unfold strsOf at h
    cases e : strsOf r with
    | none => rw [e] at h; cases h
    | some zs =>
      rw [e] at h
      cases h
      rw [strsOf_eq e]
      rfl
  | .non :: _, _, h => by cases h
  | .bl _ :: _, _, h => by cases h
  | .int _ :: _, _, h => by cases h
  | .byt _ :: _, _, h => by cases h
  | .flt _ :: _, _, h => by cases h
  | .ref _ :: _, _, h => by cases h
  | .ty _ :: _, _, h => by cases h
def blsOf : List V → Option (List Bool)
  | [] => some []
  | .bl x :: r => (blsOf r).map (x :: ·)
  | _ => none
theorem blsOf_eq : ∀ {xs : List V} {ys : List Bool}, blsOf xs = some ys → xs = ys.map V.bl
  | [], _, h => by cases h; rfl
  | .bl x :: r, ys, h => by
    unfold blsOf at h
    cases e : blsOf r with
    | none => rw [e] at h; cases h
    | some zs =>
      rw [e] at h
      cases h
      rw [blsOf_eq e]
      rfl
  | .non :: _, _, h => by cases h
  | .str _ :: _, _, h => by cases h
  | .int _ :: _, _, h => by cases h
  | .byt _ :: _, _, h => by cases h
  | .flt _ :: _, _, h => by cases h
  | .ref _ :: _, _, h => by cases h
  | .ty _ :: _, _, h => by cases h
def rAllU : List V → Hp → VK → Prop := fun xs H Q => ∃ (p : Addr) (bs : List Bool), xs = [.ref p] ∧ H p = some (.lst (bs.map V.bl)) ∧ Q (.bl (bs.all id)) H
def rAnyU : List V → Hp → VK → Prop := fun xs H Q => ∃ (p : Addr) (bs : List Bool), xs = [.ref p] ∧ H p = some (.lst (bs.map V.bl)) ∧ Q (.bl (bs.any id)) H
theorem call_allU (hc : X.calm = true) : CallR X (.builtin "all") rAllU := crOf (cr_all hc) fun xs H Q ⟨p, bs, e, h, q⟩ => ⟨p, bs, e, .of h, q⟩
theorem call_anyU (hc : X.calm = true) : CallR X (.builtin "any") rAnyU := crOf (cr_any hc) fun xs H Q ⟨p, bs, e, h, q⟩ => ⟨p, bs, e, .of h, q⟩
theorem pe_uCon {C : Addr} {c f : Str} {v : V} {p2 : Pos} (hg : Gl X c) (hm : X.mg c = some (.ref C)) (hk : ClX.CRead X.K C (.type "type") ∧ ∃ u, ClX.CVal X.K C (.type "type") f v u) (hd : (c == ("__debug__" : Str)) = false := by decide)
    (hb : attributeBase (.Name c p2) f X.env (eval (.Name c p2) X.env) = eval (.Name c p2) X.env := by rfl) : PE X (.Attribute (.Name c p2) f pos) (tC v) := by
  obtain ⟨hr, u, hv⟩ := hk
  exact peOf (ClX.pe_cval (pe_glob (v := .ref C) hg hm rfl hd) hb) fun σ H Q q => ⟨C, _, v, u, rfl, hr, hv, q⟩
def rListU : List V → Hp → VK → Prop := fun xs H Q => match xs with
  | [.ref p] => match seqAt H p with
    | some ys => ∀ l, H l = none → Q (.ref l) (upd H l (.lst ys))
    | none => False
  | _ => False
theorem call_listU : CallR X (.type "list") rListU := crOf call_list_of fun xs H Q q => by
  unfold rListU at q
  split at q
  · split at q
    · rename_i e; exact ⟨_, _, rfl, seqAt_cases e, q⟩
    · exact q.elim
  · exact q.elim
def rListK (K : PySem.W.Frag) : List V → Hp → VK → Prop := fun xs H Q => ∃ p ys, xs = [.ref p] ∧ (SqL K H p ys ∨ SqT K H p ys) ∧ ∀ l, H l = none → Q (.ref l) (upd H l (.lst ys))
def rTupleU : List V → Hp → VK → Prop := fun xs H Q => match xs with
  | [.ref p] => match H p with
    | some (.lst ys) => ∀ l, H l = none → Q (.ref l) (upd H l (.tup ys))
    | some (.tup ys) => Q (.ref p) H
    | _ => False
  | _ => False
theorem call_tupleU : CallR X (.type "tuple") rTupleU := crOf call_tuple_of fun xs H Q q => by
  unfold rTupleU at q
  split at q
  · split at q
    · rename_i e; exact ⟨_, _, rfl, .inl ⟨.of e, q⟩⟩
    · rename_i e; exact ⟨_, _, rfl, .inr ⟨.of e, q⟩⟩
    · exact q.elim
  · exact q.elim
def rIntCall : List V → Hp → VK → Prop := fun xs H Q => match xs with
  | [.int i] => Q (.int i) H
  | [.bl k] => Q (.int (if k then 1 else 0)) H
  | _ => False
theorem call_intU : CallR X (.type "int") rIntCall := crOf call_int1 fun xs H Q q => by
  unfold rIntCall at q
  split at q
  · exact .inl ⟨_, rfl, q⟩
  · exact .inr ⟨_, rfl, q⟩
  · exact q.elim
def rIsi (c : Ty) : List V → Hp → VK → Prop := fun xs H Q => ∃ x, xs = [x, .ty c.name] ∧ match tyV H x with
  | some t => Q (.bl (t.isa c)) H
  | none => False
theorem call_isiU {c : Ty} (hc : c ≠ .non) : CallR X (.builtin "isinstance") (rIsi c) := crOf call_isi fun xs H Q q => by
  obtain ⟨x, rfl, q⟩ := q
  split at q
  · rename_i t e
    exact ⟨x, _, _, _, _, rfl, .ty _, tyV_ok e, Ty.kit t c hc, q⟩
  · exact q.elim
def rTruU : V → Hp → (Bool → Hp → Prop) → Prop := fun x H Q => match x with
  | .non => Q false H
  | .bl b => Q b H
  | .int i => Q (i != 0) H
  | .str y => y.length ≤ sizeLine ∧ Q ((y.length : Int) != 0) H
  | .ref p => match seqAt H p with
    | some xs => Q (!xs.isEmpty) H
    | none => match H p with
      | some (.dK kvs) => Q (!kvs.isEmpty) H
      | _ => False
  | _ => False
def rJoinU : V → List V → Hp → VK → Prop := fun x xs H Q => ∃ (a : Str) (p : Addr) (ys : List Str), x = .str a ∧ xs = [.ref p] ∧ H p = some (.lst (ys.map V.str)) ∧ (ys.map (·.length)).sum + ys.length * a.length ≤ 16777216 ∧ Q (.str (Txt.join a ys)) H
theorem mt_joinU : MtR X "str.join" rJoinU := mtOf mt_join fun x xs H Q ⟨a, p, ys, e1, e2, h, hz, q⟩ => ⟨a, p, ys, e1, e2, .inl (.of h), hz, q⟩
def uTru (t : TE) : TT := fun σ H Q => t σ H fun x H1 => rTruU x H1 Q
theorem rTruU_ok {K : PySem.W.Frag} {x : V} {H : Hp} {Q : Bool → Hp → Prop} (q : rTruU x H Q) : ∃ k, TruV K x H k ∧ Q k H := by
  unfold rTruU at q
  split at q
  · exact ⟨_, rfl, q⟩
  · exact ⟨_, rfl, q⟩
  · exact ⟨_, rfl, q⟩
  · exact ⟨_, ⟨q.1, rfl⟩, q.2⟩
  · split at q
    · rename_i e
      rcases seqAt_cases (K := K) e with h | h
      · exact ⟨_, .inl ⟨_, h, rfl⟩, q⟩
      · exact ⟨_, .inr (.inl ⟨_, h, rfl⟩), q⟩
    · split at q
      · rename_i e; exact ⟨_, .inr (.inr ⟨_, e, rfl⟩), q⟩
      · exact q.elim
  · exact q.elim
theorem pt_uTru (ha : PE X a ta) (he : ∀ whole, isTrue a X.env whole = (do let v ← whole; standAt a.pos; holding [v] (truthy v)) := by intro _; rfl) : PT X a (uTru ta) := by
  refine ⟨fun pins s σ H Q I h => ?_⟩
  exact isTrue_plain (thn (ha.run pins s σ H _ I h) fun v s1 ⟨x, H1, I1, r1, q1⟩ => tru_ok pins s1 σ H1 x v Q I1 r1 (rTruU_ok q1)) (he _)

def itU (K : PySem.W.Frag) (x : V) (H : Hp) (R : It → Hp → Prop) : Prop := match x with
  | .str z => R (Its z) H
  | .ref a => ((∃ xs, SqL K H a xs) ∧ R (Itl K a) H) ∨ ((∃ xs, SqT K H a xs) ∧ R (Itt K a) H)
  | _ => False
def iU (K : PySem.W.Frag) (te : TE) : TI := fun σ H R => te σ H fun x H1 => itU K x H1 R
theorem pi_U {tg : Expr} (he : PE X e te) : PI X tg e (iU X.K te) := by
  refine ⟨fun pins s σ H R I h => ?_⟩
  refine thn (he.run pins s σ H _ I h) fun v s1 ⟨x, H1, I1, r1, q1⟩ => ?_
  have q1 : itU X.K x H1 R := q1
  cases x with
  | str z =>
    have q1 : R (Its z) H1 := q1
    obtain ⟨t, rfl⟩ := r1
    cases ha : z.cps.all (· < 128)
    · exact wpAny_pyIter_wide ha (pi_one (tk := s1.toks) I1 _ (turn_str _ z t "str_iterator" (.inr rfl)) ⟨_, Heap.get?_push_size _ rfl, rfl, rfl⟩ q1)
    · exact wpAny_pyIter_ascii ha (pi_one (tk := s1.toks) I1 _ (turn_str _ z t "str_ascii_iterator" (.inl rfl)) ⟨_, Heap.get?_push_size _ rfl, rfl, rfl⟩ q1)
  | ref a =>
    cases r1
    rcases q1 with ⟨⟨xs, hq⟩, q⟩ | ⟨⟨xs, hq⟩, q⟩
    · obtain ⟨its, rv, p, hz⟩ := I1.list hq
      refine wpAny_pyIter_list p.isList ?_
      refine ⟨s1.heap.objs.size, [s1.heap.objs.size], _, _, H1, rfl, I1.kept (t' := s1.toks) fun b o e => Heap.get?_push_of_some _ e, turn_list a _, ⟨_, Heap.get?_push_size _ rfl, rfl, rfl⟩, fun b hb => ?_, q⟩
      have e : b = s1.heap.objs.size := by simpa using hb
      subst e
      exact I1.fpOk (Nat.le_refl _) (I1.hok.fresh (Nat.le_refl _))
    · obtain ⟨its, rv, p, hz⟩ := I1.tuple hq
      refine wpAny_pyIter_tuple (show s1.heap.IsTuple a its.toArray from p) ?_
      refine ⟨s1.heap.objs.size, [s1.heap.objs.size], _, _, H1, rfl, I1.kept (t' := s1.toks) fun b o e => Heap.get?_push_of_some _ e, turn_tuple a _, ⟨_, Heap.get?_push_size _ rfl, rfl, rfl⟩, fun b hb => ?_, q⟩
      have e : b = s1.heap.objs.size := by simpa using hb
      subst e
      exact I1.fpOk (Nat.le_refl _) (I1.hok.fresh (Nat.le_refl _))
  | _ => exact (show False from q1).elim
def loopJ (J : It) (g : TG) (tb : TS) (D : Ends) (σ : L2.St) (H1 : Hp) : Prop := ∃ W : Nat → Nat → L2.St → Hp → Prop, (∃ m, W 0 m σ H1) ∧ ∀ i m σ H, W i m σ H →
  (J.stop i H ∧ D.nx σ H) ∨ (J.go i H ∧ ∃ N : L2.St → Hp → Prop, (∀ σ' H', N σ' H' → ∃ m', m' < m ∧ W (i + 1) m' σ' H') ∧ ∀ x H', J.yld i H x H' → g x σ H' fun σ2 H2 => tb { D with nx := N, ct := N, bk := D.nx } σ2 H2)
def compJ (J : It) (g : TG) (tt : TT) (te : TE) (vs : List Nat) (σ : L2.St) (H1 : Hp) (Q : VK) : Prop := ∀ D, H1 D = none → ∃ W : Nat → Nat → Hp → Prop, (∃ m, W 0 m (upd H1 D (.lst []))) ∧ ∀ i m H, W i m H →
  (J.stop i H ∧ Q (.ref D) H) ∨ (J.go i H ∧ ∃ Nx : Hp → Prop, (∀ H', Nx H' → ∃ m', m' < m ∧ W (i + 1) m' H') ∧ ∀ x H', J.yld i H x H' → g x (wipe σ vs) H' fun σ2 H2 => wipe σ2 vs = wipe σ vs ∧ tt σ2 H2 fun b H3 =>
    if b = true then te σ2 H3 fun y H4 => ∃ acc, H4 D = some (.lst acc) ∧ acc.length < sizeLine ∧ Nx (upd H4 D (.lst (acc ++ [y]))) else Nx H3)
def loopU (K : PySem.W.Frag) (x : V) (g : TG) (tb : TS) (D : Ends) (σ : L2.St) (H : Hp) : Prop := itU K x H fun J H1 => loopJ J g tb D σ H1
def compU (K : PySem.W.Frag) (x : V) (g : TG) (tt : TT) (te : TE) (vs : List Nat) (σ : L2.St) (H : Hp) (Q : VK) : Prop := itU K x H fun J H1 => compJ J g tt te vs σ H1 Q
theorem for_U {K : PySem.W.Frag} {g : TG} {tb : TS} {D : Ends} {σ : L2.St} {H : Hp} : tFor (iU K te) g tb D σ H = te σ H fun x H1 => loopU K x g tb D σ H1 := rfl
theorem lc_U {K : PySem.W.Frag} {g : TG} {tt : TT} {tel : TE} {vs : List Nat} {σ : L2.St} {H : Hp} {Q : VK} : tLc (iU K te) g tt tel vs σ H Q = te σ H fun x H1 => compU K x g tt tel vs σ H1 Q := rfl
def rngOk (i j : Int) : Prop := -(2 ^ 62) ≤ i ∧ i < 2 ^ 62 ∧ -(2 ^ 62) ≤ j ∧ j < 2 ^ 62
theorem for_R1 {ta : TA} {g : TG} {tb : TS} {D : Ends} {σ : L2.St} {H : Hp} : tFor (iRng1 ta) g tb D σ H = ta σ H fun vs H1 => ∃ j : Int, vs = [.int j] ∧ -(2 ^ 62) ≤ j ∧ j < 2 ^ 62 ∧ loopJ (Itr 0 j.toNat) g tb D σ H1 := rfl
theorem for_R2 {ta : TA} {g : TG} {tb : TS} {D : Ends} {σ : L2.St} {H : Hp} : tFor (iRng2 ta) g tb D σ H = ta σ H fun vs H1 => ∃ i j : Int, vs = [.int i, .int j] ∧ rngOk i j ∧ loopJ (Itr i (j - i).toNat) g tb D σ H1 := rfl
theorem lc_R1 {ta : TA} {g : TG} {tt : TT} {tel : TE} {vs : List Nat} {σ : L2.St} {H : Hp} {Q : VK} : tLc (iRng1 ta) g tt tel vs σ H Q = ta σ H fun us H1 => ∃ j : Int, us = [.int j] ∧ -(2 ^ 62) ≤ j ∧ j < 2 ^ 62 ∧ compJ (Itr 0 j.toNat) g tt tel vs σ H1 Q := rfl
theorem lc_R2 {ta : TA} {g : TG} {tt : TT} {tel : TE} {vs : List Nat} {σ : L2.St} {H : Hp} {Q : VK} : tLc (iRng2 ta) g tt tel vs σ H Q = ta σ H fun us H1 => ∃ i j : Int, us = [.int i, .int j] ∧ rngOk i j ∧ compJ (Itr i (j - i).toNat) g tt tel vs σ H1 Q := rfl
end
section
variable {K : PySem.W.Frag} {g : TG} {tb : TS} {D : Ends} {σ : L2.St} {H : Hp} {tt : TT} {tel : TE} {vs : List Nat} {Q : VK}
theorem loop_str {z : Str} (Pv : Nat → L2.St → Hp → Prop) (h0 : Pv 0 σ H) (hs : ∀ i c σ H, z.cps[i]? = some c → Pv i σ H → g (.str ⟨#[c]⟩) σ H fun σ2 H2 => tb { D with nx := Pv (i + 1), ct := Pv (i + 1), bk := D.nx } σ2 H2) (hd : ∀ σ H, Pv z.cps.size σ H → D.nx σ H) :
    loopU K (.str z) g tb D σ H :=
  for_it (walk_str (z := z)) Pv h0 (fun _ _ _ _ _ => trivial) (fun i x σ H H' _ p y => by
    obtain ⟨rfl, c, hc, rfl⟩ := y
    exact hs i c σ H' hc p) hd
theorem loop_seq {a : Addr} {xs : List V} (hx : seqAt H a = some xs) (Pv : Nat → L2.St → Hp → Prop) (h0 : Pv 0 σ H) (hG : ∀ i σ H', i ≤ xs.length → Pv i σ H' → H' a = H a)
    (hs : ∀ i x σ H, xs[i]? = some x → Pv i σ H → g x σ H fun σ2 H2 => tb { D with nx := Pv (i + 1), ct := Pv (i + 1), bk := D.nx } σ2 H2) (hd : ∀ σ H, Pv xs.length σ H → D.nx σ H) : loopU K (.ref a) g tb D σ H := by
  have key : ∀ H', H' a = H a → seqAt H' a = some xs := fun H' e => by
    unfold seqAt at hx ⊢
    rw [e]
    exact hx
  rcases seqAt_cases (K := K) hx with h | h
  · refine .inl ⟨⟨xs, h⟩, for_it (walk_list (xs := xs)) Pv h0 (fun i σ' H' hi p => ?_) (fun i x σ H H' _ p y => ?_) hd⟩
    · have e := hG i σ' H' hi p
      rcases h with h | h
      · exact .inl (h.imp (fun z => e.trans z) fun ⟨o, z⟩ => ⟨o, e.trans z⟩)
      · exact .inr h
    · obtain ⟨rfl, hx⟩ := y
      exact hs i x σ H' hx p
  · refine .inr ⟨⟨xs, h⟩, for_it (walk_tup (xs := xs)) Pv h0 (fun i σ' H' hi p => ?_) (fun i x σ H H' _ p y => ?_) hd⟩
    · have e := hG i σ' H' hi p
      rcases h with h | h
      · exact .inl (h.imp (fun z => e.trans z) fun ⟨o, z⟩ => ⟨o, e.trans z⟩)
      · exact .inr h
    · obtain ⟨rfl, hx⟩ := y
      exact hs i x σ H' hx p
theorem loop_rng {lo : Int} {n : Nat} (Pv : Nat → L2.St → Hp → Prop) (h0 : Pv 0 σ H) (hs : ∀ i σ H, i < n → Pv i σ H → g (.int (lo + (i : Int))) σ H fun σ2 H2 => tb { D with nx := Pv (i + 1), ct := Pv (i + 1), bk := D.nx } σ2 H2) (hd : ∀ σ H, Pv n σ H → D.nx σ H) :
    loopJ (Itr lo n) g tb D σ H :=
  for_it (walk_range (lo := lo) (n := n)) Pv h0 (fun _ _ _ _ _ => trivial) (fun i x σ H H' hi p y => by
    obtain ⟨rfl, rfl⟩ := y
    exact hs i σ H' hi p) hd
theorem comp_rng {lo : Int} {n : Nat} (Pv : Addr → Nat → List V → Hp → Prop) (h0 : ∀ D, H D = none → Pv D 0 [] (upd H D (.lst [])))
    (hs : ∀ D i acc H (Nx : Hp → Prop), i < n → Pv D i acc H → (∀ acc H, Pv D (i + 1) acc H → Nx H) → g (.int (lo + (i : Int))) (wipe σ vs) H fun σ2 H2 => wipe σ2 vs = wipe σ vs ∧ tt σ2 H2 fun b H3 =>
      if b = true then tel σ2 H3 fun y H4 => ∃ acc, H4 D = some (.lst acc) ∧ acc.length < sizeLine ∧ Nx (upd H4 D (.lst (acc ++ [y]))) else Nx H3)
    (hd : ∀ D acc H', H D = none → Pv D n acc H' → Q (.ref D) H') : compJ (Itr lo n) g tt tel vs σ H Q := fun D hDn =>
  lc_it (walk_range (lo := lo) (n := n)) (fun i H => ∃ acc, Pv D i acc H) ⟨[], h0 D hDn⟩ (fun _ _ _ _ => trivial) (fun i x H H' hi ⟨acc, p⟩ y => by
    obtain ⟨rfl, rfl⟩ := y
    exact hs D i acc H' _ hi p fun acc H p => ⟨acc, p⟩) (fun H' ⟨acc, p⟩ => hd D acc H' hDn p)
theorem comp_str {z : Str} (Pv : Addr → Nat → List V → Hp → Prop) (h0 : ∀ D, H D = none → Pv D 0 [] (upd H D (.lst [])))
    (hs : ∀ D i c acc H (Nx : Hp → Prop), z.cps[i]? = some c → Pv D i acc H → (∀ acc H, Pv D (i + 1) acc H → Nx H) → g (.str ⟨#[c]⟩) (wipe σ vs) H fun σ2 H2 => wipe σ2 vs = wipe σ vs ∧ tt σ2 H2 fun b H3 =>
      if b = true then tel σ2 H3 fun y H4 => ∃ acc, H4 D = some (.lst acc) ∧ acc.length < sizeLine ∧ Nx (upd H4 D (.lst (acc ++ [y]))) else Nx H3)
    (hd : ∀ D acc H', H D = none → Pv D z.cps.size acc H' → Q (.ref D) H') : compU K (.str z) g tt tel vs σ H Q := fun D hDn =>
  lc_it (walk_str (z := z)) (fun i H => ∃ acc, Pv D i acc H) ⟨[], h0 D hDn⟩ (fun _ _ _ _ => trivial) (fun i x H H' hi ⟨acc, p⟩ y => by
    obtain ⟨rfl, c, hc, rfl⟩ := y
    exact hs D i c acc H' _ hc p fun acc H p => ⟨acc, p⟩) (fun H' ⟨acc, p⟩ => hd D acc H' hDn p)
theorem comp_seq {a : Addr} {xs : List V} (hx : seqAt H a = some xs) (Pv : Addr → Nat → List V → Hp → Prop) (h0 : ∀ D, H D = none → Pv D 0 [] (upd H D (.lst []))) (hG : ∀ D i acc H', H D = none → i ≤ xs.length → Pv D i acc H' → H' a = H a)
    (hs : ∀ D i x acc H (Nx : Hp → Prop), xs[i]? = some x → Pv D i acc H → (∀ acc H, Pv D (i + 1) acc H → Nx H) → g x (wipe σ vs) H fun σ2 H2 => wipe σ2 vs = wipe σ vs ∧ tt σ2 H2 fun b H3 =>
      if b = true then tel σ2 H3 fun y H4 => ∃ acc, H4 D = some (.lst acc) ∧ acc.length < sizeLine ∧ Nx (upd H4 D (.lst (acc ++ [y]))) else Nx H3)
    (hd : ∀ D acc H', H D = none → Pv D xs.length acc H' → Q (.ref D) H') : compU K (.ref a) g tt tel vs σ H Q := by
  rcases seqAt_cases (K := K) hx with h | h
  · refine .inl ⟨⟨xs, h⟩, fun D hDn => lc_it (walk_list (xs := xs)) (fun i H => ∃ acc, Pv D i acc H) ⟨[], h0 D hDn⟩ (fun i H' hi ⟨acc, p⟩ => ?_) (fun i x H H' _ ⟨acc, p⟩ y => ?_) (fun H' ⟨acc, p⟩ => hd D acc H' hDn p)⟩
    · have e := hG D i acc H' hDn hi p
      rcases h with h | h
      · exact .inl (h.imp (fun z => e.trans z) fun ⟨o, z⟩ => ⟨o, e.trans z⟩)
      · exact .inr h
    · obtain ⟨rfl, hx⟩ := y
      exact hs D i x acc H' _ hx p fun acc H p => ⟨acc, p⟩
  · refine .inr ⟨⟨xs, h⟩, fun D hDn => lc_it (walk_tup (xs := xs)) (fun i H => ∃ acc, Pv D i acc H) ⟨[], h0 D hDn⟩ (fun i H' hi ⟨acc, p⟩ => ?_) (fun i x H H' _ ⟨acc, p⟩ y => ?_) (fun H' ⟨acc, p⟩ => hd D acc H' hDn p)⟩
    · have e := hG D i acc H' hDn hi p
      rcases h with h | h
      · exact .inl (h.imp (fun z => e.trans z) fun ⟨o, z⟩ => ⟨o, e.trans z⟩)
      · exact .inr h
    · obtain ⟨rfl, hx⟩ := y
      exact hs D i x acc H' _ hx p fun acc H p => ⟨acc, p⟩
end

structure New (H : Hp) (p : Addr) (o : HO) (H' : Hp) : Prop where
  fr : H p = none
  eq : H' = upd H p o
theorem New.at {H H' : Hp} {p : Addr} {o : HO} (n : New H p o H') : H' p = some o := by rw [n.eq]; exact upd_same
theorem New.ne {H H' : Hp} {p b : Addr} {o u : HO} (n : New H p o H') (e : H b = some u) : b ≠ p := fun z => by
  rw [z, n.fr] at e
  cases e
theorem New.off {H H' : Hp} {p b : Addr} {o : HO} (n : New H p o H') (h : b ≠ p) : H' b = H b := by rw [n.eq]; exact upd_ne h
theorem New.old {H H' : Hp} {p b : Addr} {o u : HO} (n : New H p o H') (e : H b = some u) : H' b = some u := by rw [n.off (n.ne e)]; exact e
theorem New.same {H H' : Hp} {p : Addr} {o : HO} (n : New H p o H') : L2.Same H H' := fun _ _ e => n.old e
theorem New.seq {H H' : Hp} {p b : Addr} {o : HO} {xs : List V} (n : New H p o H') (e : seqAt H b = some xs) : seqAt H' b = some xs := by
  have h : b ≠ p := fun z => by
    unfold seqAt at e
    rw [z, n.fr] at e
    cases e
  unfold seqAt at e ⊢
  rw [n.off h]
  exact e
theorem New.by {H : Hp} {p : Addr} {o : HO} {P : Hp → Prop} (hp : H p = none) (q : ∀ H', New H p o H' → P H') : P (upd H p o) := q _ ⟨hp, rfl⟩
theorem forall_new {H : Hp} {o : HO} {Q : VK} : (∀ r, H r = none → Q (.ref r) (upd H r o)) = (∀ r H', New H r o H' → Q (.ref r) H') :=
  propext ⟨fun h r H' n => by rw [n.eq]; exact h r n.fr, fun h r hr => h r _ ⟨hr, rfl⟩⟩
def tTupN (t : TA) : TE := fun σ H Q => t σ H fun xs H1 => xs.length ≤ sizeLine ∧ ∀ p H2, New H1 p (.tup xs) H2 → Q (.ref p) H2
def tLstN (t : TA) : TE := fun σ H Q => t σ H fun xs H1 => xs.length ≤ sizeLine ∧ ∀ p H2, New H1 p (.lst xs) H2 → Q (.ref p) H2
theorem tTup_eq : tTup = tTupN := by
  funext t σ H Q
  unfold tTup tTupN
  simp only [forall_new]
theorem tLst_eq : tLst = tLstN := by
  funext t σ H Q
  unfold tLst tLstN
  simp only [forall_new]
def rAddLN : R2 := fun x y H Q => match x, y with
  | .ref p, .ref q => match H p, H q with
    | some (.lst xs), some (.lst ys) => xs.length + ys.length ≤ sizeLine ∧ ∀ r H', New H r (.lst (xs ++ ys)) H' → Q (.ref r) H'
    | _, _ => False
  | _, _ => False
theorem rAddL_eq : rAddL = rAddLN := by
  funext x y H Q
  unfold rAddL rAddLN
  simp only [forall_new]
def rAddTN : R2 := fun x y H Q => match x, y with
  | .ref p, .ref q => match H p, H q with
    | some (.tup xs), some (.tup ys) => xs.length + ys.length ≤ sizeLine ∧ (xs = [] → Q (.ref q) H) ∧ (xs ≠ [] → ys = [] → Q (.ref p) H) ∧ (xs ≠ [] → ys ≠ [] → ∀ r H', New H r (.tup (xs ++ ys)) H' → Q (.ref r) H')
    | _, _ => False
  | _, _ => False
theorem rAddT_eq : rAddT = rAddTN := by
  funext x y H Q
  unfold rAddT rAddTN
  simp only [forall_new]
def rSlN : V → Option Int → Option Int → Hp → VK → Prop := fun x lo hi H Q => match x with
  | .str z => z.length ≤ sizeLine ∧ Q (.str (cutS z lo hi)) H
  | .ref p => match H p with
    | some (.lst xs) => ∀ q H', New H q (.lst (cutV xs lo hi)) H' → Q (.ref q) H'
    | some (.tup xs) => (wholeT xs.length lo hi → Q (.ref p) H) ∧ (¬ wholeT xs.length lo hi → ∀ q H', New H q (.tup (cutV xs lo hi)) H' → Q (.ref q) H')
    | _ => False
  | _ => False
theorem rSl_eq : rSlU = rSlN := by
  funext x lo hi H Q
  unfold rSlU rSlN
  simp only [forall_new]
def rListN : List V → Hp → VK → Prop := fun xs H Q => match xs with
  | [.ref p] => match seqAt H p with
    | some ys => ∀ l H', New H l (.lst ys) H' → Q (.ref l) H'
    | none => False
  | _ => False
theorem rList_eq : rListU = rListN := by
  funext xs H Q
  unfold rListU rListN
  simp only [forall_new]
def rTupleN : List V → Hp → VK → Prop := fun xs H Q => match xs with
  | [.ref p] => match H p with
    | some (.lst ys) => ∀ l H', New H l (.tup ys) H' → Q (.ref l) H'
    | some (.tup ys) => Q (.ref p) H
    | _ => False
  | _ => False
theorem rTuple_eq : rTupleU = rTupleN := by
  funext xs H Q
  unfold rTupleU rTupleN
  simp only [forall_new]

structure Callee (P : Program) (w : World) (K : PySem.W.Frag) (mg : Str → Option Value) (base : Heap) (CX : CXT) (k : Nat) (x : Str) (ps : List Str) (dvs : List V) (sp : Sp) : Prop where
  ex : ∃ (f : Addr) (fd : FuncData) (ds : List Value), mg x = some (.ref f) ∧ FnOk P w K mg base CX k f fd ps sp ∧ PySem.W.keepIn K (.ref f) = true ∧ Binds K fd ps ds ∧ Vals dvs ds
section
variable {X : Cx} {e : Expr} {es : List Expr} {ta : TA} {x : Str} {p pos : Pos} {k : Nat} {ps : List Str} {sp : Sp} {dvs : List V}
def uCall (sp : Sp) (dvs : List V) (E : XK) (t : TA) : TE := fun σ H Q => t σ H fun vs H1 => sp (vs ++ dvs) H1 Q E
theorem pe_cal (c : Callee X.prog X.w X.K X.mg X.base CX0 k x ps dvs sp) (hr : Room k X.A) (ha : PA X (e :: es) ta) (hg : Gl X x := by rfl) (hd : (x == ("__debug__" : Str)) = false := by decide)
    (he : starEach (e :: es) X.env = (false, eval e X.env) :: starEach es X.env := by rfl) (hpl : (backTo pos (starEach es X.env)).any (·.1) = false := by rfl) :
    PE X (.Call (.Name x p) (e :: es) [] pos) (uCall sp dvs E0 ta) := by
  obtain ⟨f, fd, ds, hm, F, kp, b, v⟩ := c.ex
  exact pe_call F hr hg hm kp b v pass0 ha hd he hpl
end
end U
end

section
namespace U
open PySem PySem.Spec PyProof.Rows L2
class Kp (α : Type) where
  val : α
section
variable {α : Type}
def OK (o : Option α) [k : Kp (α → Prop)] : Prop := match o with
  | some x => k.val x
  | none => False
theorem OK_some {x : α} {k : α → Prop} : @OK α (some x) ⟨k⟩ = k x := rfl
theorem OK.by {o : Option α} {k : α → Prop} {x : α} (h : o = some x) (q : k x) : @OK α o ⟨k⟩ := by rw [h]; exact q
end
def Br (c : Prop) [a : Kp Prop] [b : Kp Prop] : Prop := (c → a.val) ∧ (¬ c → b.val)
theorem Br_true {a b : Prop} : @Br True ⟨a⟩ ⟨b⟩ = a := propext ⟨fun h => h.1 trivial, fun h => ⟨fun _ => h, fun z => absurd trivial z⟩⟩
theorem Br_false {a b : Prop} : @Br False ⟨a⟩ ⟨b⟩ = b := propext ⟨fun h => h.2 id, fun h => ⟨fun z => z.elim, fun _ => h⟩⟩
theorem Br_not {c a b : Prop} : @Br (¬ c) ⟨a⟩ ⟨b⟩ = @Br c ⟨b⟩ ⟨a⟩ := propext ⟨fun h => ⟨fun k => h.2 (not_not_intro k), h.1⟩, fun h => ⟨h.2, fun k => h.1 (Classical.byContradiction k)⟩⟩
theorem Br.by {c a b : Prop} (h : c → a) (k : ¬ c → b) : @Br c ⟨a⟩ ⟨b⟩ := ⟨h, k⟩
theorem Br.yes {c a b : Prop} (h : c) (k : a) : @Br c ⟨a⟩ ⟨b⟩ := ⟨fun _ => k, fun z => absurd h z⟩
theorem Br.no {c a b : Prop} (h : ¬ c) (k : b) : @Br c ⟨a⟩ ⟨b⟩ := ⟨fun z => absurd z h, fun _ => k⟩
theorem ite_Br {b : Bool} {p q : Prop} : (if b = true then p else q) = @Br (b = true) ⟨p⟩ ⟨q⟩ := by
  cases b
  · exact propext ⟨fun h => ⟨fun z => (nomatch z), fun _ => h⟩, fun h => h.2 fun z => (nomatch z)⟩
  · exact propext ⟨fun h => ⟨fun _ => h, fun z => absurd rfl z⟩, fun h => h.1 rfl⟩
def Cd (c : Prop) [p : Kp Prop] : Prop := c ∧ p.val
theorem Cd_true {p : Prop} : @Cd True ⟨p⟩ = p := propext ⟨fun h => h.2, fun h => ⟨trivial, h⟩⟩
theorem Cd.by {c p : Prop} (h : c) (k : p) : @Cd c ⟨p⟩ := ⟨h, k⟩
def Al (H : Hp) (o : HO) [Q : Kp VK] : Prop := ∀ p H', New H p o H' → Q.val (.ref p) H'
theorem Al.by {H : Hp} {o : HO} {Q : VK} (h : ∀ p H', New H p o H' → Q (.ref p) H') : @Al H o ⟨Q⟩ := h
structure Mod (H : Hp) (p : Addr) (o : HO) (H' : Hp) : Prop where
  eq : H' = upd H p o
theorem Mod.at {H H' : Hp} {p : Addr} {o : HO} (n : Mod H p o H') : H' p = some o := by rw [n.eq]; exact upd_same
theorem Mod.off {H H' : Hp} {p b : Addr} {o : HO} (n : Mod H p o H') (h : b ≠ p) : H' b = H b := by rw [n.eq]; exact upd_ne h
theorem Mod.old {H H' : Hp} {p b : Addr} {o u : HO} (n : Mod H p o H') (h : b ≠ p) (e : H b = some u) : H' b = some u := by rw [n.off h]; exact e
def Md (H : Hp) (p : Addr) (o : HO) [R : Kp (Hp → Prop)] : Prop := ∀ H', Mod H p o H' → R.val H'
theorem Md.by {H : Hp} {p : Addr} {o : HO} {R : Hp → Prop} (h : ∀ H', Mod H p o H' → R H') : @Md H p o ⟨R⟩ := h
theorem Md_eq {H : Hp} {p : Addr} {o : HO} {R : Hp → Prop} : R (upd H p o) = @Md H p o ⟨R⟩ := propext ⟨fun h H' n => by rw [n.eq]; exact h, fun h => h _ ⟨rfl⟩⟩
def Call (sp : Sp) (vs : List V) (H : Hp) [Q : Kp VK] [E : Kp XK] : Prop := sp vs H Q.val E.val
theorem Call.by {sp : Sp} {vs : List V} {H : Hp} {Q : VK} {E : XK} (h : sp vs H Q E) : @Call sp vs H ⟨Q⟩ ⟨E⟩ := h
def kB (Q : Bool → Hp → Prop) : VK := fun x H => match x with
  | .bl b => Q b H
  | _ => False
def aB (x : V) (H : Hp) [Q : Kp (Bool → Hp → Prop)] : Prop := kB Q.val x H
theorem kB_a {Q : Bool → Hp → Prop} {x : V} {H : Hp} : kB Q x H = @aB x H ⟨Q⟩ := rfl
theorem aB_bl {Q : Bool → Hp → Prop} {b : Bool} {H : Hp} : @aB (.bl b) H ⟨Q⟩ = Q b H := rfl
theorem kB_eq {Q : Bool → Hp → Prop} {x : V} {H : Hp} : (∃ k, x = .bl k ∧ Q k H) = kB Q x H := by
  cases x <;> simp [kB]
def kI (R : Int → Hp → Prop) : VK := fun x H => match x with
  | .int i => R i H
  | _ => False
def aI (x : V) (H : Hp) [Q : Kp (Int → Hp → Prop)] : Prop := kI Q.val x H
theorem kI_a {Q : Int → Hp → Prop} {x : V} {H : Hp} : kI Q x H = @aI x H ⟨Q⟩ := rfl
theorem aI_int {Q : Int → Hp → Prop} {i : Int} {H : Hp} : @aI (.int i) H ⟨Q⟩ = Q i H := rfl
theorem kI_eq {R : Int → Hp → Prop} {x : V} {H : Hp} : (∃ k, x = .int k ∧ R k H) = kI R x H := by
  cases x <;> simp [kI]
def aR (r : R2) (x y : V) (H : Hp) [Q : Kp VK] : Prop := r x y H Q.val
def aC (r : List V → Hp → VK → Prop) (vs : List V) (H : Hp) [Q : Kp VK] : Prop := r vs H Q.val
def aU (r : V → Hp → VK → Prop) (x : V) (H : Hp) [Q : Kp VK] : Prop := r x H Q.val
def aT (x : V) (H : Hp) [R : Kp (Bool → Hp → Prop)] : Prop := rTruU x H R.val
def aS (r : V → Option Int → Option Int → Hp → VK → Prop) (x : V) (l u : Option Int) (H : Hp) [Q : Kp VK] : Prop := r x l u H Q.val
def aG (s : V → V → V → Hp → (Hp → Prop) → Prop) (o i v : V) (H : Hp) [R : Kp (Hp → Prop)] : Prop := s o i v H R.val
def LoopJ (J : It) (σ : L2.St) (H : Hp) [g : Kp TG] [tb : Kp TS] [D : Kp Ends] : Prop := loopJ J g.val tb.val D.val σ H
def LoopU (K : PySem.W.Frag) (x : V) (σ : L2.St) (H : Hp) [g : Kp TG] [tb : Kp TS] [D : Kp Ends] : Prop := loopU K x g.val tb.val D.val σ H
def CompJ (J : It) (us : List Nat) (σ : L2.St) (H : Hp) [g : Kp TG] [tt : Kp TT] [te : Kp TE] [Q : Kp VK] : Prop := compJ J g.val tt.val te.val us σ H Q.val
def CompU (K : PySem.W.Frag) (x : V) (us : List Nat) (σ : L2.St) (H : Hp) [g : Kp TG] [tt : Kp TT] [te : Kp TE] [Q : Kp VK] : Prop := compU K x g.val tt.val te.val us σ H Q.val
def a1 (vs : List V) [R : Kp (Int → Prop)] : Prop := match vs with
  | [.int i] => R.val i
  | _ => False
def a2 (vs : List V) [R : Kp (Int → Int → Prop)] : Prop := match vs with
  | [.int i, .int j] => R.val i j
  | _ => False
theorem a1_int {R : Int → Prop} {i : Int} : @a1 [.int i] ⟨R⟩ = R i := rfl
theorem a2_int {R : Int → Int → Prop} {i j : Int} : @a2 [.int i, .int j] ⟨R⟩ = R i j := rfl

section
variable {t u : TS} {D : Ends} {σ : L2.St} {H : Hp} {Q : VK} {c d : TT} {R : Bool → Hp → Prop} {ta tb tc te : TE} {ts tr : TA} {x y v : V} {vs : List V} {i j : Int} {n : Nat} {p q : Addr} {K : PySem.W.Frag}
theorem r_seq : tSeq t u D σ H = t { D with nx := u D } σ H := rfl
theorem r_ifS : tIfS c t u D σ H = c σ H fun b H1 => @Br (b = true) ⟨t D σ H1⟩ ⟨u D σ H1⟩ := by
  show (c σ H fun b H1 => if b = true then t D σ H1 else u D σ H1) = _
  congr 1
  funext b H1
  exact ite_Br
theorem r_or : tOr c d σ H R = c σ H fun b H1 => @Br (b = true) ⟨R true H1⟩ ⟨d σ H1 R⟩ := by
  show (c σ H fun b H1 => if b = true then R true H1 else d σ H1 R) = _
  congr 1
  funext b H1
  exact ite_Br
theorem r_and : tAnd c d σ H R = c σ H fun b H1 => @Br (b = true) ⟨d σ H1 R⟩ ⟨R false H1⟩ := by
  show (c σ H fun b H1 => if b = true then d σ H1 R else R false H1) = _
  congr 1
  funext b H1
  exact ite_Br
theorem r_not : tNot c σ H R = c σ H fun b H1 => R (!b) H1 := rfl
theorem r_next : tNext D σ H = D.nx σ H := rfl
theorem r_ret : tRet te D σ H = te σ H D.rt := rfl
theorem r_retN : tRetN D σ H = D.rt .non H := rfl
theorem r_brk : tBreak D σ H = D.bk σ H := rfl
theorem r_cnt : tCont D σ H = D.ct σ H := rfl
theorem r_drop : tDrop te D σ H = te σ H fun _ H1 => D.nx σ H1 := rfl
theorem r_asg {g : TG} : tAsg te g D σ H = te σ H fun x H1 => g x σ H1 D.nx := rfl
theorem r_test : tTest te σ H R = te σ H (kB R) := by
  show (te σ H fun x H' => ∃ k, x = .bl k ∧ R k H') = _
  congr 1
  funext x H'
  exact kB_eq
theorem r_yes : tYes σ H R = R true H := rfl
theorem r_c : tC v σ H Q = Q v H := rfl
theorem r_nil {Q : List V → Hp → Prop} : tNil σ H Q = Q [] H := rfl
theorem r_cons {Q : List V → Hp → Prop} : tCons te tr σ H Q = te σ H fun x H1 => tr σ H1 fun xs H2 => Q (x :: xs) H2 := rfl
theorem r_var0 {σ : L2.St} : uVar 0 (some v :: σ) H Q = Q v H := rfl
theorem r_varS {o : Option V} : uVar (n + 1) (o :: σ) H Q = uVar n σ H Q := rfl
theorem r_name0 {o : Option V} {R : L2.St → Hp → Prop} : gName 0 v (o :: σ) H R = R (some v :: σ) H := rfl
theorem r_nameS {o : Option V} {R : L2.St → Hp → Prop} : gName (n + 1) v (o :: σ) H R = gName n v σ H fun σ' H' => R (o :: σ') H' := rfl
theorem r_op {r : R2} : tOp r ta tb σ H Q = ta σ H fun x H1 => tb σ H1 fun y H2 => @aR r x y H2 ⟨Q⟩ := rfl
theorem r_un {r : V → Hp → VK → Prop} : tUn r ta σ H Q = ta σ H fun x H1 => @aU r x H1 ⟨Q⟩ := rfl
theorem r_rU {g : Int → V} : @aU (rU g) (.int i) H ⟨Q⟩ = Q (g i) H := propext ⟨fun ⟨_, e, q⟩ => by cases e; exact q, fun q => ⟨_, rfl, q⟩⟩
theorem r_chain {r r' : R2} : tChain r r' ta tb tc σ H Q = ta σ H fun x H1 => tb σ H1 fun y H2 => @aR r x y H2 ⟨kB fun k H3 => @Br (k = true) ⟨tc σ H3 fun w' H4 => @aR r' y w' H4 ⟨Q⟩⟩ ⟨Q (.bl false) H3⟩⟩ := by
  show (ta σ H fun x H1 => tb σ H1 fun y H2 => r x y H2 fun z H3 => ∃ k, z = .bl k ∧ (if k = true then tc σ H3 fun w' H4 => r' y w' H4 Q else Q (.bl false) H3)) = _
  congr 1
  funext x H1
  congr 1
  funext y H2
  have e : (fun z H3 => ∃ k, z = .bl k ∧ (if k = true then tc σ H3 fun w' H4 => r' y w' H4 Q else Q (.bl false) H3)) = kB fun k H3 => @Br (k = true) ⟨tc σ H3 fun w' H4 => r' y w' H4 Q⟩ ⟨Q (.bl false) H3⟩ := by
    funext z H3
    rw [← kB_eq]
    simp only [ite_Br]
  rw [e]
  rfl
theorem r_andV : tAndV ta tb σ H Q = ta σ H (kB fun c H1 => @Br (c = true) ⟨tb σ H1 Q⟩ ⟨Q (.bl false) H1⟩) := by
  show (ta σ H fun x H1 => ∃ c, x = .bl c ∧ if c = true then tb σ H1 Q else Q (.bl false) H1) = _
  congr 1
  funext z H3
  rw [← kB_eq]
  simp only [ite_Br]
theorem r_orV : tOrV ta tb σ H Q = ta σ H (kB fun c H1 => @Br (c = true) ⟨Q (.bl true) H1⟩ ⟨tb σ H1 Q⟩) := by
  show (ta σ H fun x H1 => ∃ c, x = .bl c ∧ if c = true then Q (.bl true) H1 else tb σ H1 Q) = _
  congr 1
  funext z H3
  rw [← kB_eq]
  simp only [ite_Br]
theorem r_notV : tNotV ta σ H Q = ta σ H (kB fun c H1 => Q (.bl (!c)) H1) := by
  show (ta σ H fun x H1 => ∃ c, x = .bl c ∧ Q (.bl (!c)) H1) = _
  congr 1
  funext z H3
  rw [← kB_eq]
theorem r_call {sp : Sp} {E : XK} : uCall sp [] E ts σ H Q = ts σ H fun vs H1 => @Call sp vs H1 ⟨Q⟩ ⟨E⟩ := by
  unfold uCall Call
  simp only [List.append_nil]
theorem r_cb {r : List V → Hp → VK → Prop} : tCB r ts σ H Q = ts σ H fun vs H1 => @aC r vs H1 ⟨Q⟩ := rfl
theorem r_tup : tTup ts σ H Q = ts σ H fun xs H1 => @Cd (xs.length ≤ sizeLine) ⟨@Al H1 (.tup xs) ⟨Q⟩⟩ := by
  rw [tTup_eq]; rfl
theorem r_lst : tLst ts σ H Q = ts σ H fun xs H1 => @Cd (xs.length ≤ sizeLine) ⟨@Al H1 (.lst xs) ⟨Q⟩⟩ := by
  rw [tLst_eq]; rfl
theorem r_sl {r : V → Option Int → Option Int → Hp → VK → Prop} {tl th : TO} : tSl r te tl th σ H Q = te σ H fun x H1 => tl σ H1 fun l H2 => th σ H2 fun u H3 => @aS r x l u H3 ⟨Q⟩ := rfl
theorem r_noPart {Q : Option Int → Hp → Prop} : tNoPart σ H Q = Q none H := rfl
theorem r_part {Q : Option Int → Hp → Prop} : uPart te σ H Q = te σ H (kI fun i H1 => Q (some i) H1) := by
  show (te σ H fun x H1 => ∃ i, x = .int i ∧ Q (some i) H1) = _
  congr 1
  funext z H3
  exact kI_eq
theorem r_gsub {to ti : TE} {s : TSet} {R : L2.St → Hp → Prop} : gSub to ti s v σ H R = to σ H fun o H1 => ti σ H1 fun i H2 => @aG s o i v H2 ⟨fun H3 => R σ H3⟩ := rfl
theorem r_addI : @aR rAddI (.int i) (.int j) H ⟨Q⟩ = Q (.int (i + j)) H := rfl
theorem r_addS {a b : Str} : @aR rAddS (.str a) (.str b) H ⟨Q⟩ = @Cd (a.length + b.length ≤ sizeLine) ⟨Q (.str (a ++ b)) H⟩ := rfl
theorem r_addUI : @aR rAddU (.int i) (.int j) H ⟨Q⟩ = Q (.int (i + j)) H := rfl
theorem r_addUS {a b : Str} : @aR rAddU (.str a) (.str b) H ⟨Q⟩ = @Cd (a.length + b.length ≤ sizeLine) ⟨Q (.str (a ++ b)) H⟩ := rfl
def lstO : Option HO → Option (List V)
  | some (.lst xs) => some xs
  | _ => none
def tupO : Option HO → Option (List V)
  | some (.tup xs) => some xs
  | _ => none
theorem lstO_lst {xs : List V} : lstO (some (.lst xs)) = some xs := rfl
theorem tupO_tup {xs : List V} : tupO (some (.tup xs)) = some xs := rfl
theorem r_addL : @aR rAddL (.ref p) (.ref q) H ⟨Q⟩ = @OK _ (lstO (H p)) ⟨fun xs => @OK _ (lstO (H q)) ⟨fun ys => @Cd (xs.length + ys.length ≤ sizeLine) ⟨@Al H (.lst (xs ++ ys)) ⟨Q⟩⟩⟩⟩ := by
  unfold aR
  rw [rAddL_eq]
  show (match H p, H q with
    | some (.lst xs), some (.lst ys) => xs.length + ys.length ≤ sizeLine ∧ ∀ r H', New H r (.lst (xs ++ ys)) H' → Q (.ref r) H'
    | _, _ => False) = _
  generalize H p = a
  generalize H q = b
  rcases a with _ | a
  · rfl
  · cases a <;> try rfl
    rcases b with _ | b
    · rfl
    · cases b <;> rfl
def AlT (H : Hp) (p q : Addr) (xs ys : List V) [Q : Kp VK] : Prop := (xs = [] → Q.val (.ref q) H) ∧ (xs ≠ [] → ys = [] → Q.val (.ref p) H) ∧ (xs ≠ [] → ys ≠ [] → @Al H (.tup (xs ++ ys)) Q)
theorem AlT_cc {x y : V} {xs ys : List V} : @AlT H p q (x :: xs) (y :: ys) ⟨Q⟩ = @Al H (.tup (x :: xs ++ y :: ys)) ⟨Q⟩ := by
  unfold AlT
  exact propext ⟨fun h => h.2.2 (by simp) (by simp), fun h => ⟨fun z => (nomatch z), fun _ z => (nomatch z), fun _ _ => h⟩⟩
theorem AlT_nil {ys : List V} : @AlT H p q [] ys ⟨Q⟩ = Q (.ref q) H := by
  unfold AlT
  exact propext ⟨fun h => h.1 rfl, fun h => ⟨fun _ => h, fun z => absurd rfl z, fun z => absurd rfl z⟩⟩
theorem AlT_cnil {x : V} {xs : List V} : @AlT H p q (x :: xs) [] ⟨Q⟩ = Q (.ref p) H := by
  unfold AlT
  exact propext ⟨fun h => h.2.1 (by simp) rfl, fun h => ⟨fun z => (nomatch z), fun _ _ => h, fun _ z => absurd rfl z⟩⟩
theorem AlT.by {xs ys : List V} (h : xs = [] → Q (.ref q) H) (k : ys = [] → Q (.ref p) H) (l : xs ≠ [] → ys ≠ [] → @Al H (.tup (xs ++ ys)) ⟨Q⟩) : @AlT H p q xs ys ⟨Q⟩ := ⟨h, fun _ => k, l⟩
theorem r_addT : @aR rAddT (.ref p) (.ref q) H ⟨Q⟩ = @OK _ (tupO (H p)) ⟨fun xs => @OK _ (tupO (H q)) ⟨fun ys => @Cd (xs.length + ys.length ≤ sizeLine) ⟨@AlT H p q xs ys ⟨Q⟩⟩⟩⟩ := by
  unfold aR
  rw [rAddT_eq]
  show (match H p, H q with
    | some (.tup xs), some (.tup ys) => xs.length + ys.length ≤ sizeLine ∧ (xs = [] → Q (.ref q) H) ∧ (xs ≠ [] → ys = [] → Q (.ref p) H) ∧ (xs ≠ [] → ys ≠ [] → ∀ r H', New H r (.tup (xs ++ ys)) H' → Q (.ref r) H')
    | _, _ => False) = _
  generalize H p = a
  generalize H q = b
  rcases a with _ | a
  · rfl
  · cases a <;> try rfl
    rcases b with _ | b
    · rfl
    · cases b <;> rfl
theorem r_sub : @aR rSubU (.int i) (.int j) H ⟨Q⟩ = Q (.int (i - j)) H := rfl
theorem r_mul : @aR rMulI (.int i) (.int j) H ⟨Q⟩ = @Cd (CMul i j) ⟨Q (.int (i * j)) H⟩ := rfl
theorem r_div : @aR rDivU (.int i) (.int j) H ⟨Q⟩ = @Cd (0 < j ∧ j < 1073741824) ⟨Q (.int (i / j)) H⟩ := rfl
theorem r_mod : @aR rModU (.int i) (.int j) H ⟨Q⟩ = @Cd (0 < j) ⟨Q (.int (i % j)) H⟩ := rfl
theorem r_pow : @aR rPowU (.int i) (.int j) H ⟨Q⟩ = @Cd (CPow i j) ⟨Q (.int (i ^ j.toNat)) H⟩ := rfl
theorem r_lt : @aR rLtU (.int i) (.int j) H ⟨Q⟩ = Q (.bl (decide (i < j))) H := rfl
theorem r_le : @aR rLeU (.int i) (.int j) H ⟨Q⟩ = Q (.bl (decide (i ≤ j))) H := rfl
theorem r_gt : @aR rGtU (.int i) (.int j) H ⟨Q⟩ = Q (.bl (decide (j < i))) H := rfl
theorem r_ge : @aR rGeU (.int i) (.int j) H ⟨Q⟩ = Q (.bl (decide (j ≤ i))) H := rfl
theorem r_eq : @aR rEqS x y H ⟨Q⟩ = @Cd (scal x y = true) ⟨Q (.bl (decide (x = y))) H⟩ := rfl
theorem r_ne : @aR rNeS x y H ⟨Q⟩ = @Cd (scal x y = true) ⟨Q (.bl (!decide (x = y))) H⟩ := rfl
theorem r_isN : @aR rIsNU x .non H ⟨Q⟩ = Q (.bl (decide (x = .non))) H := propext ⟨fun h => h.2, fun h => ⟨rfl, h⟩⟩
theorem r_notN : @aR rNotNU x .non H ⟨Q⟩ = Q (.bl (!decide (x = .non))) H := propext ⟨fun h => h.2, fun h => ⟨rfl, h⟩⟩
theorem r_inS {c : Nat} {z : Str} : @aR (rInU false) (.str ⟨#[c]⟩) (.str z) H ⟨Q⟩ = Q (.bl (decide (c ∈ z.cps.toList))) H := propext ⟨fun ⟨d, e, q⟩ => by cases e; simpa using q, fun q => ⟨c, rfl, by simpa using q⟩⟩
theorem r_ninS {c : Nat} {z : Str} : @aR (rInU true) (.str ⟨#[c]⟩) (.str z) H ⟨Q⟩ = Q (.bl (!decide (c ∈ z.cps.toList))) H := propext ⟨fun ⟨d, e, q⟩ => by cases e; simpa using q, fun q => ⟨c, rfl, by simpa using q⟩⟩
def seqO : Option HO → Option (List V)
  | some (.lst xs) => some xs
  | some (.tup xs) => some xs
  | some (.frz _ (.lst xs)) => some xs
  | some (.frz _ (.tup xs)) => some xs
  | _ => none
theorem seqO_eq : seqAt H p = seqO (H p) := rfl
theorem seqO_lst {xs : List V} : seqO (some (.lst xs)) = some xs := rfl
theorem seqO_tup {xs : List V} : seqO (some (.tup xs)) = some xs := rfl
theorem r_in : @aR (rInU false) x (.ref p) H ⟨Q⟩ = @OK _ (seqAt H p) ⟨fun xs => @Cd (flatV x = true ∧ xs.all flatV = true) ⟨Q (.bl (inV x xs)) H⟩⟩ := by
  show (match seqAt H p with
    | some xs => flatV x = true ∧ xs.all flatV = true ∧ Q (.bl (xor false (inV x xs))) H
    | none => False) = _
  generalize seqAt H p = a
  rcases a with _ | a
  · rfl
  · exact propext ⟨fun h => ⟨⟨h.1, h.2.1⟩, by simpa using h.2.2⟩, fun h => ⟨h.1.1, h.1.2, by simpa using h.2⟩⟩
theorem r_nin : @aR (rInU true) x (.ref p) H ⟨Q⟩ = @OK _ (seqAt H p) ⟨fun xs => @Cd (flatV x = true ∧ xs.all flatV = true) ⟨Q (.bl (!inV x xs)) H⟩⟩ := by
  show (match seqAt H p with
    | some xs => flatV x = true ∧ xs.all flatV = true ∧ Q (.bl (xor true (inV x xs))) H
    | none => False) = _
  generalize seqAt H p = a
  rcases a with _ | a
  · rfl
  · exact propext ⟨fun h => ⟨⟨h.1, h.2.1⟩, by simpa using h.2.2⟩, fun h => ⟨h.1.1, h.1.2, by simpa using h.2⟩⟩
theorem r_inG {xs : List V} : @aR (rInG p xs false) x (.ref p) H ⟨Q⟩ = @Cd (flatV x = true) ⟨Q (.bl (inV x xs)) H⟩ := propext ⟨fun h => ⟨h.2.1, by simpa using h.2.2⟩, fun h => ⟨rfl, h.1, by simpa using h.2⟩⟩
theorem r_ninG {xs : List V} : @aR (rInG p xs true) x (.ref p) H ⟨Q⟩ = @Cd (flatV x = true) ⟨Q (.bl (!inV x xs)) H⟩ := propext ⟨fun h => ⟨h.2.1, by simpa using h.2.2⟩, fun h => ⟨rfl, h.1, by simpa using h.2⟩⟩
theorem r_ixS {z : Str} : @aR rIxU (.str z) (.int i) H ⟨Q⟩ = @Cd (z.length ≤ sizeLine) ⟨@OK _ (atI z.cps.toList i) ⟨fun c => Q (.str ⟨#[c]⟩) H⟩⟩ := by
  show (z.length ≤ sizeLine ∧ ∃ c, atI z.cps.toList i = some c ∧ Q (.str ⟨#[c]⟩) H) = _
  unfold Cd
  congr 1
  generalize atI z.cps.toList i = a
  rcases a with _ | a
  · exact propext ⟨fun ⟨_, e, _⟩ => (nomatch e), fun h => False.elim h⟩
  · exact propext ⟨fun ⟨_, e, q⟩ => by cases e; exact q, fun h => ⟨_, rfl, h⟩⟩
theorem r_ix : @aR rIxU (.ref p) (.int i) H ⟨Q⟩ = @OK _ (seqAt H p) ⟨fun xs => @OK _ (atI xs i) ⟨fun v => Q v H⟩⟩ := by
  show (match seqAt H p with
    | some xs => ∃ v, atI xs i = some v ∧ Q v H
    | none => False) = _
  generalize seqAt H p = a
  rcases a with _ | a
  · rfl
  · show (∃ v, atI a i = some v ∧ Q v H) = @OK _ (atI a i) ⟨fun v => Q v H⟩
    generalize atI a i = b
    rcases b with _ | b
    · exact propext ⟨fun ⟨_, e, _⟩ => (nomatch e), fun h => False.elim h⟩
    · exact propext ⟨fun ⟨_, e, q⟩ => by cases e; exact q, fun h => ⟨_, rfl, h⟩⟩
theorem r_set {R : Hp → Prop} : @aG rSetU (.ref p) (.int i) v H ⟨R⟩ = @OK _ (lstO (H p)) ⟨fun xs => @OK _ (ixN xs.length i) ⟨fun j => @Md H p (.lst (xs.set j v)) ⟨R⟩⟩⟩ := by
  show (match H p with
    | some (.lst xs) => ∃ j, ixN xs.length i = some j ∧ R (upd H p (.lst (xs.set j v)))
    | _ => False) = _
  generalize H p = a
  rcases a with _ | a
  · rfl
  · cases a <;> try rfl
    rename_i xs
    show (∃ j, ixN xs.length i = some j ∧ R (upd H p (.lst (xs.set j v)))) = @OK _ (ixN xs.length i) ⟨fun j => @Md H p (.lst (xs.set j v)) ⟨R⟩⟩
    generalize ixN xs.length i = b
    rcases b with _ | b
    · exact propext ⟨fun ⟨_, e, _⟩ => (nomatch e), fun h => False.elim h⟩
    · exact propext ⟨fun ⟨_, e, q⟩ => by cases e; exact Eq.mp Md_eq q, fun h => ⟨_, rfl, Eq.mpr Md_eq h⟩⟩
theorem r_slS {z : Str} {lo hi : Option Int} : @aS rSlU (.str z) lo hi H ⟨Q⟩ = @Cd (z.length ≤ sizeLine) ⟨Q (.str (cutS z lo hi)) H⟩ := rfl
def AlS (H : Hp) (p : Addr) (o : Option HO) (lo hi : Option Int) [Q : Kp VK] : Prop := match o with
  | some (.lst xs) => @Al H (.lst (cutV xs lo hi)) Q
  | some (.tup xs) => (wholeT xs.length lo hi → Q.val (.ref p) H) ∧ (¬ wholeT xs.length lo hi → @Al H (.tup (cutV xs lo hi)) Q)
  | _ => False
theorem AlS_lst {xs : List V} {lo hi : Option Int} : @AlS H p (some (.lst xs)) lo hi ⟨Q⟩ = @Al H (.lst (cutV xs lo hi)) ⟨Q⟩ := rfl
theorem AlS_tup {xs : List V} {lo hi : Option Int} : @AlS H p (some (.tup xs)) lo hi ⟨Q⟩ = @Br (wholeT xs.length lo hi) ⟨Q (.ref p) H⟩ ⟨@Al H (.tup (cutV xs lo hi)) ⟨Q⟩⟩ := rfl
theorem r_slR {lo hi : Option Int} : @aS rSlU (.ref p) lo hi H ⟨Q⟩ = @AlS H p (H p) lo hi ⟨Q⟩ := by unfold aS; rw [rSl_eq]; rfl
theorem cutV_mem {xs : List V} {lo hi : Option Int} {x : V} (h : x ∈ cutV xs lo hi) : x ∈ xs := List.mem_of_mem_drop (List.mem_of_mem_take h)
def lenO : Option HO → Option Nat
  | some (.lst xs) => some xs.length
  | some (.tup xs) => some xs.length
  | some (.frz _ (.lst xs)) => some xs.length
  | some (.frz _ (.tup xs)) => some xs.length
  | some (.dK kvs) => some kvs.length
  | _ => none
theorem lenO_lst {xs : List V} : lenO (some (.lst xs)) = some xs.length := rfl
theorem lenO_tup {xs : List V} : lenO (some (.tup xs)) = some xs.length := rfl
theorem lenO_dK {xs : List (Key × V)} : lenO (some (.dK xs)) = some xs.length := rfl
theorem r_lenS {z : Str} : @aC rLenU [.str z] H ⟨Q⟩ = @Cd (z.length ≤ sizeLine) ⟨Q (.int z.length) H⟩ := rfl
theorem r_lenR : @aC rLenU [.ref p] H ⟨Q⟩ = @OK _ (lenO (H p)) ⟨fun n => Q (.int n) H⟩ := by
  show (match seqAt H p with
    | some ys => Q (.int ys.length) H
    | none => match H p with
      | some (.dK kvs) => Q (.int kvs.length) H
      | _ => False) = _
  unfold seqAt
  generalize H p = a
  rcases a with _ | a
  · rfl
  · cases a <;> try rfl
    rename_i o a
    cases a <;> rfl
theorem r_listU : @aC rListU [.ref p] H ⟨Q⟩ = @OK _ (seqAt H p) ⟨fun ys => @Al H (.lst ys) ⟨Q⟩⟩ := by
  unfold aC
  rw [rList_eq]
  show (match seqAt H p with
    | some ys => ∀ l H', New H l (.lst ys) H' → Q (.ref l) H'
    | none => False) = _
  generalize seqAt H p = a
  rcases a with _ | a <;> rfl
def AlC (H : Hp) (p : Addr) (o : Option HO) [Q : Kp VK] : Prop := match o with
  | some (.lst ys) => @Al H (.tup ys) Q
  | some (.tup ys) => Q.val (.ref p) H
  | _ => False
theorem AlC_lst {ys : List V} : @AlC H p (some (.lst ys)) ⟨Q⟩ = @Al H (.tup ys) ⟨Q⟩ := rfl
theorem AlC_tup {ys : List V} : @AlC H p (some (.tup ys)) ⟨Q⟩ = Q (.ref p) H := rfl
theorem r_tupleU : @aC rTupleU [.ref p] H ⟨Q⟩ = @AlC H p (H p) ⟨Q⟩ := by unfold aC; rw [rTuple_eq]; rfl
theorem r_int : @aC rIntCall [.int i] H ⟨Q⟩ = Q (.int i) H := rfl
theorem r_intB {b : Bool} : @aC rIntCall [.bl b] H ⟨Q⟩ = Q (.int (if b then 1 else 0)) H := rfl
def tyO : Option HO → Option Ty
  | some (.lst _) => some .lst
  | some (.tup _) => some .tup
  | some (.dK _) => some .dict
  | some (.dT _) => some .dict
  | _ => none
theorem e_tyR : tyV H (.ref p) = tyO (H p) := by
  show (match H p with
    | some (.lst _) => some Ty.lst
    | some (.tup _) => some .tup
    | some (.dK _) => some .dict
    | some (.dT _) => some .dict
    | _ => none) = _
  generalize H p = a
  rcases a with _ | a
  · rfl
  · cases a <;> rfl
theorem tyO_t : (∀ xs, tyO (some (.lst xs)) = some .lst) ∧ (∀ xs, tyO (some (.tup xs)) = some .tup) ∧ (∀ xs, tyO (some (.dK xs)) = some .dict) ∧ (∀ xs, tyO (some (.dT xs)) = some .dict) := ⟨fun _ => rfl, fun _ => rfl, fun _ => rfl, fun _ => rfl⟩
theorem e_ty : tyV H .non = some .non ∧ (∀ b, tyV H (.bl b) = some .bl) ∧ (∀ i, tyV H (.int i) = some .int) ∧ (∀ z, tyV H (.str z) = some .str) := ⟨rfl, fun _ => rfl, fun _ => rfl, fun _ => rfl⟩
theorem r_isi {c : Ty} {s : String} : @aC (rIsi c) [x, .ty s] H ⟨Q⟩ = @Cd (s = c.name) ⟨@OK _ (tyV H x) ⟨fun t => Q (.bl (t.isa c)) H⟩⟩ := by
  have k : ∀ o : Option Ty, (match o with | some t => Q (.bl (t.isa c)) H | none => False) = @OK _ o ⟨fun t => Q (.bl (t.isa c)) H⟩ := fun o => by cases o <;> rfl
  unfold aC rIsi Cd
  rw [← k]
  exact propext ⟨fun ⟨x', e, h⟩ => by cases e; exact ⟨rfl, h⟩, fun ⟨e, h⟩ => by subst e; exact ⟨x, rfl, h⟩⟩
theorem e_tyn : Ty.name .non = "NoneType" ∧ Ty.name .bl = "bool" ∧ Ty.name .int = "int" ∧ Ty.name .str = "str" ∧ Ty.name .lst = "list" ∧ Ty.name .tup = "tuple" ∧ Ty.name .dict = "dict" := ⟨rfl, rfl, rfl, rfl, rfl, rfl, rfl⟩
theorem r_tru : uTru te σ H R = te σ H fun x H1 => @aT x H1 ⟨R⟩ := rfl
def truO : Option HO → Option Bool
  | some (.lst xs) => some (!xs.isEmpty)
  | some (.tup xs) => some (!xs.isEmpty)
  | some (.frz _ (.lst xs)) => some (!xs.isEmpty)
  | some (.frz _ (.tup xs)) => some (!xs.isEmpty)
  | some (.dK kvs) => some (!kvs.isEmpty)
  | _ => none
theorem truO_lst {xs : List V} : truO (some (.lst xs)) = some (!xs.isEmpty) := rfl
theorem truO_tup {xs : List V} : truO (some (.tup xs)) = some (!xs.isEmpty) := rfl
theorem truO_dK {xs : List (Key × V)} : truO (some (.dK xs)) = some (!xs.isEmpty) := rfl
theorem r_truN : @aT .non H ⟨R⟩ = R false H := rfl
theorem r_truB {b : Bool} : @aT (.bl b) H ⟨R⟩ = R b H := rfl
theorem r_truI : @aT (.int i) H ⟨R⟩ = R (!decide (i = 0)) H := by
  show R (i != 0) H = _
  congr 1
theorem r_truS {z : Str} : @aT (.str z) H ⟨R⟩ = @Cd (z.length ≤ sizeLine) ⟨R (!decide (z.length = 0)) H⟩ := by
  show (z.length ≤ sizeLine ∧ R ((z.length : Int) != 0) H) = _
  unfold Cd
  congr 2
  by_cases h : z.length = 0
  · rw [h]; rfl
  · rw [decide_eq_false h]
    exact bne_iff_ne.mpr (by omega)
theorem r_truR : @aT (.ref p) H ⟨R⟩ = @OK _ (truO (H p)) ⟨fun b => R b H⟩ := by
  show (match seqAt H p with
    | some xs => R (!xs.isEmpty) H
    | none => match H p with
      | some (.dK kvs) => R (!kvs.isEmpty) H
      | _ => False) = _
  unfold seqAt
  generalize H p = a
  rcases a with _ | a
  · rfl
  · cases a <;> try rfl
    rename_i o a
    cases a <;> rfl
def aL (H : Hp) (x : V) [P : Kp Prop] : Prop := match x with
  | .ref p => @OK _ (lstO (H p)) ⟨fun _ => P.val⟩
  | _ => False
theorem aL_ref {P : Prop} : @aL H (.ref p) ⟨P⟩ = @OK _ (lstO (H p)) ⟨fun _ => P⟩ := rfl
def rApp : V → List V → Hp → VK → Prop := fun x vs H Q => match x, vs with
  | .ref l, [y] => @OK _ (lstO (H l)) ⟨fun xs => @Cd (xs.length < sizeLine) ⟨@Md H l (.lst (xs ++ [y])) ⟨fun H' => Q .non H'⟩⟩⟩
  | _, _ => False
def aM (r : V → List V → Hp → VK → Prop) (x : V) (vs : List V) (H : Hp) [Q : Kp VK] : Prop := r x vs H Q.val
theorem k1_eq {R : Int → Prop} : (∃ j : Int, vs = [.int j] ∧ R j) = @a1 vs ⟨R⟩ := by
  unfold a1
  split
  · rename_i i; exact propext ⟨fun ⟨_, e, q⟩ => by cases e; exact q, fun q => ⟨i, rfl, q⟩⟩
  · rename_i h; exact propext ⟨fun ⟨j, e, _⟩ => h j e, fun q => q.elim⟩
theorem k2_eq {R : Int → Int → Prop} : (∃ i j : Int, vs = [.int i, .int j] ∧ R i j) = @a2 vs ⟨R⟩ := by
  unfold a2
  split
  · rename_i i j; exact propext ⟨fun ⟨_, _, e, q⟩ => by cases e; exact q, fun q => ⟨i, j, rfl, q⟩⟩
  · rename_i h; exact propext ⟨fun ⟨i, j, e, _⟩ => h i j e, fun q => q.elim⟩
theorem r_for1 {g : TG} {tb : TS} : tFor (iRng1 ts) g tb D σ H = ts σ H fun vs H1 => @a1 vs ⟨fun j => @Cd (-4611686018427387904 ≤ j ∧ j < 4611686018427387904) ⟨@LoopJ (Itr 0 j.toNat) σ H1 ⟨g⟩ ⟨tb⟩ ⟨D⟩⟩⟩ := by
  rw [for_R1]
  congr 1
  funext vs H1
  rw [← k1_eq]
  exact propext ⟨fun ⟨j, e, a, b, c⟩ => ⟨j, e, ⟨a, b⟩, c⟩, fun ⟨j, e, ⟨a, b⟩, c⟩ => ⟨j, e, a, b, c⟩⟩
theorem r_for2 {g : TG} {tb : TS} : tFor (iRng2 ts) g tb D σ H = ts σ H fun vs H1 => @a2 vs ⟨fun i j => @Cd (rngOk i j) ⟨@LoopJ (Itr i (j - i).toNat) σ H1 ⟨g⟩ ⟨tb⟩ ⟨D⟩⟩⟩ := by
  rw [for_R2]
  congr 1
  funext vs H1
  rw [← k2_eq]
  exact propext ⟨fun ⟨i, j, e, a, b⟩ => ⟨i, j, e, a, b⟩, fun ⟨i, j, e, a, b⟩ => ⟨i, j, e, a, b⟩⟩
theorem r_for {g : TG} {tb : TS} : tFor (iU K te) g tb D σ H = te σ H fun x H1 => @LoopU K x σ H1 ⟨g⟩ ⟨tb⟩ ⟨D⟩ := rfl
theorem r_lc {g : TG} {tt : TT} {tel : TE} {us : List Nat} : tLc (iU K te) g tt tel us σ H Q = te σ H fun x H1 => @CompU K x us σ H1 ⟨g⟩ ⟨tt⟩ ⟨tel⟩ ⟨Q⟩ := rfl
theorem r_lc1 {g : TG} {tt : TT} {tel : TE} {us : List Nat} : tLc (iRng1 ts) g tt tel us σ H Q = ts σ H fun vs H1 => @a1 vs ⟨fun j => @Cd (-4611686018427387904 ≤ j ∧ j < 4611686018427387904) ⟨@CompJ (Itr 0 j.toNat) us σ H1 ⟨g⟩ ⟨tt⟩ ⟨tel⟩ ⟨Q⟩⟩⟩ := by
  rw [lc_R1]
  congr 1
  funext vs H1
  rw [← k1_eq]
  exact propext ⟨fun ⟨j, e, a, b, c⟩ => ⟨j, e, ⟨a, b⟩, c⟩, fun ⟨j, e, ⟨a, b⟩, c⟩ => ⟨j, e, a, b, c⟩⟩
theorem r_lc2 {g : TG} {tt : TT} {tel : TE} {us : List Nat} : tLc (iRng2 ts) g tt tel us σ H Q = ts σ H fun vs H1 => @a2 vs ⟨fun i j => @Cd (rngOk i j) ⟨@CompJ (Itr i (j - i).toNat) us σ H1 ⟨g⟩ ⟨tt⟩ ⟨tel⟩ ⟨Q⟩⟩⟩ := by
  rw [lc_R2]
  congr 1
  funext vs H1
  rw [← k2_eq]
  exact propext ⟨fun ⟨i, j, e, a, b⟩ => ⟨i, j, e, a, b⟩, fun ⟨i, j, e, a, b⟩ => ⟨i, j, e, a, b⟩⟩
end
theorem eqV_t : (∀ a b : Int, eqV (.int a) (.int b) = decide (b = a)) ∧ (∀ a b : Str, eqV (.str a) (.str b) = decide (b = a)) := by
  refine ⟨fun a b => ?_, fun a b => ?_⟩
  · show (a == b) = _
    by_cases h : b = a
    · subst h; rw [decide_eq_true rfl]; exact beq_self_eq_true _
    · rw [decide_eq_false h]; exact beq_eq_false_iff_ne.mpr fun e => h e.symm
  · show (a == b) = _
    by_cases h : b = a
    · subst h; rw [decide_eq_true rfl]; exact beq_self_eq_true _
    · rw [decide_eq_false h]; exact beq_eq_false_iff_ne.mpr fun e => h e.symm
theorem inV_cons {x y : V} {xs : List V} : inV x (y :: xs) = (eqV y x || inV x xs) := rfl
theorem inV_nil {x : V} : inV x [] = false := rfl
theorem szl : sizeLine = 16777216 := rfl
theorem cmul_l {i j : Int} : CMul i j = ((-18446744073709551616 < i ∧ i < 18446744073709551616) ∨ (-18446744073709551616 < j ∧ j < 18446744073709551616)) := rfl
theorem cpow_l {i j : Int} : CPow i j = (0 ≤ j ∧ j ≤ 1000000 ∧ i.natAbs < 18446744073709551616) := rfl
end U
end

section
namespace U
open PySem PySem.Spec PyProof.Rows L2
section
variable {X : Cx} {C : Addr} {bmB : List Value} {B newId initId : String} {x : Str} {p pos : Pos}
theorem pmk_own0 (F : ExcBaseFacts B newId initId bmB) (q : PySem.W.excIn X.K C bmB newId = true) (gC : X.mg x = some (.ref C)) (kC : PySem.W.keepIn X.K (.ref C) = true) (r : Raises X (.ref C)) (hg : Gl X x := by rfl) (hdb : (x == ("__debug__" : Str)) = false := by decide) :
    PMk X (.Call (.Name x p) [] [] pos) (fun _ H Q => Q (.ref C) none H) := by
  intro pins s σ H Q J h
  refine wpAny_Call_Name_kw (ld_glob J hg gC ?_ hdb)
  refine PySem.W.callWith_K0 J.kIn kC ?_
  show wpAny _ _ (call (.ref C) []) _ _ _
  obtain ⟨o1, o2, o3, o4, o5, o6, o7, o8, o9, o10, o11, o12, o13, o14, o15, o16, o17, hC, hN, hni, T⟩ := exc_obj J.kIn q
  exact wpAny_call_exc_subT F T hC hN hni (fun h' b made => mk_of J made r h (J.hok.gone made.new)) (Nat.zero_le _)
end
structure ErrC (K : PySem.W.Frag) (C : Addr) : Prop where
  q : PySem.W.excIn K C He.veBase "ValueError.__new__" = true
  k : PySem.W.keepIn K (.ref C) = true
  s : PySem.W.subIn K (.ref C) (.type "BaseException") = some true
  t : PySem.W.typeIn K (.ref C) = some (.type "type")
def uRaise0 (W : WX) (C : Addr) : TS := fun _ σ H => W (.ref C) none σ H
theorem ps_raise0 {X : Cx} {W : WX} {x : Str} {C : Addr} {p pos pos2 : Pos} (T : ErrC X.K C) (gC : X.mg x = some (.ref C)) (tk : Takes X W) (hc : X.calm = true := by rfl) (hg : Gl X x := by rfl) (hdb : (x == ("__debug__" : Str)) = false := by decide) :
    PS X (.Raise (some (.Call (.Name x p) [] [] pos)) none pos2) (uRaise0 W C) :=
  ps_raise hc tk (pmk_own0 PySem.F.excBase_ValueError T.q gC T.k (raises_own T.s T.t) hg hdb)

def uCallX (sp : Sp) (W : WX) (t : TA) : TE := fun σ H Q => t σ H fun vs H1 => sp vs H1 Q (WE W σ)
structure CalX (P : Program) (w : World) (K : PySem.W.Frag) (mg : Str → Option Value) (base : Heap) (k : Nat) (x : Str) (sp : Sp) : Prop where
  ex : ∃ f : Addr, mg x = some (.ref f) ∧ PySem.W.keepIn K (.ref f) = true ∧ ∀ {X : Cx} {pins : List (Addr × Obj)} {σ : L2.St} {H : Hp} {s : Shared} {us : List Value} {vs : List V} {Q : VK} {E : XK},
    X.prog = P → X.w = w → X.K = K → X.mg = mg → X.base = base → Room k X.A → PassesAt (L2.CX P w) X σ E → Inv X pins σ H s → Vals vs us → sp vs H Q E → wpAny (model X.prog X.w) X.A (call (.ref f) us) (EP X pins σ Q) X.xe s
section
variable {P : Program} {w : World} {K : PySem.W.Frag} {mg : Str → Option Value} {base : Heap} {k : Nat} {x : Str} {f C : Addr} {fd : FuncData} {ps : List Str} {sp spI : Sp}
theorem CalX.mono {k' : Nat} (c : CalX P w K mg base k x sp) (h : k ≤ k') : CalX P w K mg base k' x sp := by
  obtain ⟨f, a, b, r⟩ := c.ex
  exact ⟨f, a, b, fun e1 e2 e3 e4 e5 hr => r e1 e2 e3 e4 e5 (hr.mono h)⟩
theorem CalX.def_ (F : FnOk P w K mg base (L2.CX P w) k f fd ps sp) (hm : mg x = some (.ref f)) (hk : PySem.W.keepIn K (.ref f) = true) (hb : Binds K fd ps []) : CalX P w K mg base k x sp :=
  ⟨f, hm, hk, fun {X pins σ H s us vs Q E} e1 e2 e3 e4 e5 hr hx I r h => by
    subst e1 e2 e3 e4 e5
    exact run_fnS (E := fun _ => E) F hr hb hx I r h⟩
theorem CalX.make (M : Mk K C f) (F : FnOk P w K mg base (L2.CX P w) k f fd ps spI) (hm : mg x = some (.ref C)) (hb : Binds K fd ps [])
    (hI : ∀ vs H Q E, sp vs H Q E → ∀ o dx, H o = none → H dx = none → dx ≠ o → spI (.ref o :: vs) (upd (upd H dx (.own o)) o (.ins C dx [])) (fun v H2 => v = .non ∧ Q (.ref o) H2) E) : CalX P w K mg base (k + 1) x sp :=
  ⟨C, hm, M.kp, fun {X pins σ H s us vs Q E} e1 e2 e3 e4 e5 hr hx I r h => by
    subst e1 e2 e3 e4 e5
    have here := hI _ _ _ _ h (s.heap.objs.size + 1) s.heap.objs.size (I.hok.fresh (Nat.le_succ _)) (I.hok.fresh (Nat.le_refl _)) (Nat.ne_of_lt (Nat.lt_succ_self _))
    have J := Inv.made (C := C) I
    have rr : Vals (V.ref (s.heap.objs.size + 1) :: vs) (Value.ref (s.heap.objs.size + 1) :: us) := .cons rfl r
    have ll : (Value.ref (s.heap.objs.size + 1) :: us ++ []).length = ps.length := by
      rw [List.append_nil, ← F.len _ _ _ _ here]
      exact rr.length.symm
    have bb := hb _ (Value.ref (s.heap.objs.size + 1) :: us) J.kIn ll
    rw [List.append_nil] at bb
    refine wpAny_call (make_map (f := f) I.kIn M.makes M.init (beq_iff_eq.mp M.fn) (codeAny_mono (F.run _ X.stack _ _ ⟨Value.ref (s.heap.objs.size + 1) :: us, []⟩ (Value.ref (s.heap.objs.size + 1) :: us) _ _ E (hr.make C us [])
      (J.env0.make C us []) bb rr here) fun res s' got => ?_))
    cases res with
    | error e => exact hx pins _ _ e s' J got
    | ok fl =>
      cases fl with
      | ret u =>
        obtain ⟨v, H9, J9, rv, ev, q9⟩ := J.after got
        subst ev
        exact ⟨rv, ⟨V.ref (s.heap.objs.size + 1), H9, J9, rfl, q9⟩⟩
      | next => exact False.elim got
      | brk => exact False.elim got
      | cont => exact False.elim got⟩
end
section
variable {X : Cx} {k : Nat} {x : Str} {sp : Sp} {W : WX} {p pos : Pos} {e : Expr} {es : List Expr} {ta : TA}
theorem pe_calX (c : CalX X.prog X.w X.K X.mg X.base k x sp) (hr : Room k X.A) (tk : Takes X W) (ha : PA X (e :: es) ta) (hg : Gl X x := by rfl) (hdb : (x == ("__debug__" : Str)) = false := by decide)
    (he : starEach (e :: es) X.env = (false, eval e X.env) :: starEach es X.env := by rfl) (hpl : (backTo pos (starEach es X.env)).any (·.1) = false := by rfl) : PE X (.Call (.Name x p) (e :: es) [] pos) (uCallX sp W ta) := by
  obtain ⟨f, hm, hk, run⟩ := c.ex
  refine ⟨fun pins s σ H Q J h => wpAny_Call_Name_kw (ld_glob J hg hm ?_ hdb)⟩
  exact PySem.W.callWith_K (h₀ := X.base) J.ok.mod.kin hk (thn (ha.run pos pins s σ H _ J h) fun us s1 ⟨vs, H1, J1, r, q⟩ => ⟨J1.kIn, run rfl rfl rfl rfl rfl hr (passAt tk σ) J1 r q⟩) he hpl
theorem pe_calX0 (c : CalX X.prog X.w X.K X.mg X.base k x sp) (hr : Room k X.A) (tk : Takes X W) (hg : Gl X x := by rfl) (hdb : (x == ("__debug__" : Str)) = false := by decide) : PE X (.Call (.Name x p) [] [] pos) (uCallX sp W tNil) := by
  obtain ⟨f, hm, hk, run⟩ := c.ex
  refine ⟨fun pins s σ H Q J h => wpAny_Call_Name_kw (ld_glob J hg hm ?_ hdb)⟩
  exact PySem.W.callWith_K0 J.kIn hk (run rfl rfl rfl rfl rfl hr (passAt tk σ) J .nil h)
theorem pe_cal0 {ps : List Str} {dvs : List V} (c : Callee X.prog X.w X.K X.mg X.base CX0 k x ps dvs sp) (hr : Room k X.A) (hg : Gl X x := by rfl) (hd : (x == ("__debug__" : Str)) = false := by decide) : PE X (.Call (.Name x p) [] [] pos) (uCall sp dvs E0 tNil) := by
  obtain ⟨f, fd, ds, hm, F, kp, b, v⟩ := c.ex
  exact pe_call0 F hr hg hm kp b v pass0 hd
end

structure SMet (K : PySem.W.Frag) (C : Addr) (m : Str) (p g : Addr) : Prop where
  rd : ClX.CRead K C (.type "type")
  at_ : PySem.W.findCls K (.ref C) (.type "type") m = some (.get (.builtin "staticmethod.__get__") (.ref p) .none (.ref C))
  rc : ∃ rest, PySem.W.recIn K p "staticmethod" = some (.ref g :: rest)
  kp : PySem.W.keepIn K (.ref g) = true
section
variable {X : Cx} {k : Nat} {c m : Str} {C g : Addr} {sp : Sp} {W : WX} {p apos pos : Pos} {e : Expr} {es : List Expr} {ta : TA} {fd : FuncData} {ps : List Str} {pl : Sem Bool}
theorem getmethsm {pins : List (Addr × Obj)} {σ : L2.St} {H : Hp} {s : Shared} {q : Addr} {A : Around} {E : Value → Shared → Prop} {Q : Value × List Value → Shared → Prop} (J : Inv X pins σ H s) (S : SMet X.K C m q g) (h : ∀ s', Inv X pins σ H s' → Q (.ref g, []) s') :
    wpAny (model X.prog X.w) A (getMethod (.ref C) m pl) Q E s := by
  obtain ⟨rest, hp⟩ := S.rc
  refine PySem.W.method_cls J.kIn S.rd.ga (PySem.W.cls_bind J.kIn S.rd.rd S.at_ ?_)
  exact wpAny_call (PySem.W.sm_get (s := { s with toks := s.toks + 1 }) J.kIn hp (PySem.W.handed_on rfl (h _ (J.tok _))))
theorem pe_smeth0 (S : ∃ q, SMet X.K C m q g) (gC : X.mg c = some (.ref C)) (F : FnOk X.prog X.w X.K X.mg X.base CX0 k g fd ps sp) (hr : Room k X.A) (hb : Binds X.K fd ps []) (hg : Gl X c := by rfl) (hd : (c == ("__debug__" : Str)) = false := by decide)
    (ht : eval (.Call (.Attribute (.Name c p) m apos) [] [] pos) X.env = (do
      let ov ← eval (.Name c p) X.env
      standAt apos.atName
      let (f, first) ← holding [ov] (getMethod ov m pl)
      callWith pos f first (backTo pos (starEach [] X.env)) (backToKw pos (keywordEach [] X.env))) := by rfl) : PE X (.Call (.Attribute (.Name c p) m apos) [] [] pos) (uCall sp [] E0 tNil) := by
  obtain ⟨q, S⟩ := S
  refine ⟨fun pins s σ H Q J h => PySem.W.methodCall_KW (pl := pl) (ld_glob J hg gC ?_ hd) ht⟩
  refine getmethsm J S fun s2 J2 => ?_
  exact PySem.W.callWith_K0 (first := []) J2.kIn S.kp (run_fn (us := []) F hr hb .nil pass0 J2 .nil h)
theorem pe_smeth (S : ∃ q, SMet X.K C m q g) (gC : X.mg c = some (.ref C)) (F : FnOk X.prog X.w X.K X.mg X.base CX0 k g fd ps sp) (hr : Room k X.A) (hb : Binds X.K fd ps []) (ha : PA X (e :: es) ta) (hg : Gl X c := by rfl) (hd : (c == ("__debug__" : Str)) = false := by decide)
    (he : starEach (e :: es) X.env = (false, eval e X.env) :: starEach es X.env := by rfl) (hpl : (backTo pos (starEach es X.env)).any (·.1) = false := by rfl)
    (ht : eval (.Call (.Attribute (.Name c p) m apos) (e :: es) [] pos) X.env = (do
      let ov ← eval (.Name c p) X.env
      standAt apos.atName
      let (f, first) ← holding [ov] (getMethod ov m pl)
      callWith pos f first (backTo pos (starEach (e :: es) X.env)) (backToKw pos (keywordEach [] X.env))) := by rfl) : PE X (.Call (.Attribute (.Name c p) m apos) (e :: es) [] pos) (uCall sp [] E0 ta) := by
  obtain ⟨q, S⟩ := S
  refine ⟨fun pins s σ H Q J h => PySem.W.methodCall_KW (pl := pl) (ld_glob J hg gC ?_ hd) ht⟩
  refine getmethsm J S fun s2 J2 => ?_
  exact PySem.W.callWith_K (h₀ := X.base) (first := []) J2.ok.mod.kin S.kp (thn (ha.run pos pins s2 σ H _ J2 h) fun us s1 ⟨vs, H1, J1, r, q⟩ => ⟨J1.kIn, run_fn F hr hb .nil pass0 J1 r q⟩) he hpl
end

def insO (C : Addr) : Option HO → Option (List (Str × V))
  | some (.ins D _ fs) => if D = C then some fs else none
  | _ => none
theorem insO_ins {C dx : Addr} {fs : List (Str × V)} : insO C (some (.ins C dx fs)) = some fs := by
  show (if C = C then some fs else none) = _
  rw [if_pos rfl]
theorem insO_at {C : Addr} {o : Option HO} {fs : List (Str × V)} (h : insO C o = some fs) : ∃ dx, o = some (.ins C dx fs) := by
  unfold insO at h
  split at h
  · rename_i D dx gs
    by_cases e : D = C
    · rw [if_pos e] at h
      cases h
      exact ⟨dx, by rw [e]⟩
    · rw [if_neg e] at h
      cases h
  · cases h
def rFld (C : Addr) (f : Str) : V → Hp → VK → Prop := fun x H Q => match x with
  | .ref a => @OK _ (insO C (H a)) ⟨fun fs => @OK _ (fs.lookup f) ⟨fun v => Q v H⟩⟩
  | _ => False
theorem r_fld {C a : Addr} {f : Str} {H : Hp} {Q : VK} : @aU (rFld C f) (.ref a) H ⟨Q⟩ = @OK _ (insO C (H a)) ⟨fun fs => @OK _ (fs.lookup f) ⟨fun v => Q v H⟩⟩ := rfl
theorem OK.out {α : Type} {o : Option α} {k : α → Prop} (h : @OK α o ⟨k⟩) : ∃ x, o = some x ∧ k x := by
  cases o with
  | none => exact False.elim h
  | some x => exact ⟨x, rfl, h⟩
def uSetF (C : Addr) (f : Str) (ta tv : TE) : TS := fun D σ H => tv σ H fun y H1 => ta σ H1 fun x H2 => match x with
  | .ref a => (match H2 a with
    | some (.ins E dx fs) => E = C ∧ fs.length < 1000 ∧ D.nx σ (upd H2 a (.ins C dx (putF f y fs)))
    | _ => False)
  | _ => False
def insD (C : Addr) : Option HO → Option (Addr × List (Str × V))
  | some (.ins D dx fs) => if D = C then some (dx, fs) else none
  | _ => none
theorem insD_ins {C dx : Addr} {fs : List (Str × V)} : insD C (some (.ins C dx fs)) = some (dx, fs) := by
  show (if C = C then some (dx, fs) else none) = _
  rw [if_pos rfl]
def aSF (C : Addr) (f : Str) (x y : V) (H : Hp) [R : Kp (Hp → Prop)] : Prop := match x with
  | .ref a => (match H a with
    | some (.ins E dx fs) => E = C ∧ fs.length < 1000 ∧ R.val (upd H a (.ins C dx (putF f y fs)))
    | _ => False)
  | _ => False
theorem r_setF {C : Addr} {f : Str} {ta tv : TE} {D : Ends} {σ : L2.St} {H : Hp} : uSetF C f ta tv D σ H = tv σ H fun y H1 => ta σ H1 fun x H2 => @aSF C f x y H2 ⟨fun H3 => D.nx σ H3⟩ := rfl
theorem aSF_ref {C a : Addr} {f : Str} {y : V} {H : Hp} {R : Hp → Prop} : @aSF C f (.ref a) y H ⟨R⟩ = @OK _ (insD C (H a)) ⟨fun z => @Cd (z.2.length < 1000) ⟨@Md H a (.ins C z.1 (putF f y z.2)) ⟨R⟩⟩⟩ := by
  show (match H a with
    | some (.ins E dx fs) => E = C ∧ fs.length < 1000 ∧ R (upd H a (.ins C dx (putF f y fs)))
    | _ => False) = _
  generalize H a = o
  rcases o with _ | o
  · rfl
  · cases o <;> try rfl
    rename_i E dx fs
    show (E = C ∧ fs.length < 1000 ∧ R (upd H a (.ins C dx (putF f y fs)))) = @OK _ (if E = C then some (dx, fs) else none) ⟨fun z => @Cd (z.2.length < 1000) ⟨@Md H a (.ins C z.1 (putF f y z.2)) ⟨R⟩⟩⟩
    by_cases e : E = C
    · rw [if_pos e]
      subst e
      exact propext ⟨fun h => ⟨h.2.1, Eq.mp Md_eq h.2.2⟩, fun h => ⟨rfl, h.1, Eq.mpr Md_eq h.2⟩⟩
    · rw [if_neg e]
      exact propext ⟨fun h => absurd h.1 e, fun h => False.elim h⟩
section
variable {X : Cx} {C : Addr} {f : Str} {e value : Expr} {ta tv : TE} {pos pos2 : Pos}
theorem pe_uFld (c : Cls X.K C) (n : NoAttr X.K C f) (he : PE X e ta) (hb : attributeBase e f X.env (eval e X.env) = eval e X.env := by rfl) : PE X (.Attribute e f pos) (tUn (rFld C f) ta) := by
  refine ⟨fun pins s σ H Q J h => attr_of hb (thn (he.run pins s σ H _ J h) fun u s1 ⟨x, H1, J1, rx, q⟩ => ?_)⟩
  cases x with
  | ref a =>
    obtain rfl : u = Value.ref a := rx
    obtain ⟨fs, h1, q⟩ := OK.out q
    obtain ⟨dx, ea⟩ := insO_at h1
    obtain ⟨v, h2, q⟩ := OK.out q
    exact getattr_ok J1 ea c n h2 fun u2 s2 J2 r2 => ⟨v, H1, J2, r2, q⟩
  | _ => exact False.elim q
theorem ps_uSetF (c : Cls X.K C) (n : NoAttr X.K C f) (ha : PE X e ta) (hv : PE X value tv) (hs : swapsWith value (some (.Attribute e f pos2)) pos.line X.env = pure false := by rfl) : PS X (.Assign [.Attribute e f pos2] value pos) (uSetF C f ta tv) := by
  have m := ps_fld (f := f) (pos := pos) (pos' := pos2) ha hv hs
  refine ⟨fun pins s σ H D J h => plainObj_wpAny_Assign_Attribute (thn (hv.run pins s σ H _ J h) fun u s1 ⟨y, H1, J1, ry, q⟩ => thn (ha.run pins s1 σ H1 _ J1 q) fun ov s2 ⟨x, H2, J2, rx, q2⟩ => ?_) hs⟩
  cases x with
  | ref a =>
    obtain rfl : ov = Value.ref a := rx
    have q2 : (match H2 a with
      | some (.ins E dx fs) => E = C ∧ fs.length < 1000 ∧ D.nx σ (upd H2 a (.ins C dx (putF f y fs)))
      | _ => False) := q2
    split at q2
    · rename_i E dx fs ea
      obtain ⟨rfl, l, q2⟩ := q2
      exact setattr_ok J2 ea c n l ry fun s3 J3 => ⟨σ, _, J3, q2⟩
    · exact False.elim q2
  | _ => exact False.elim q2
end
structure InsT (K : PySem.W.Frag) (D : Addr) : Prop where
  c : Cls K D
  ha : PySem.W.findIn K (.ref D) "__class__" = some (some (.builtin "object.__class__"))
  hn : PySem.W.specialIn K (.builtin "object.__class__") "__get__" = some (some (.builtin "getset_descriptor.__get__"))
  ht : PySem.W.takesIn K (.builtin "object.__class__") = some true
  hm : PySem.W.mroIn K D (.type "object") = some true
structure IsO (K : PySem.W.Frag) (C : Addr) (M : Addr → Option Bool) : Prop where
  base : ∀ t : Ty, PySem.W.kitOne K (.type t.name) (.ref C) = some false
  own : ∀ D b, M D = some b → InsT K D ∧ PySem.W.kitOne K (.ref D) (.ref C) = some b
def isO (M : Addr → Option Bool) (H : Hp) (x : V) : Option Bool := match x with
  | .ref p => (match H p with
    | some (.ins D _ _) => M D
    | _ => (tyV H x).map fun _ => false)
  | _ => (tyV H x).map fun _ => false
def rIsO (C : Addr) (M : Addr → Option Bool) : List V → Hp → VK → Prop := fun xs H Q => match xs with
  | [x, .ref D] => D = C ∧ @OK _ (isO M H x) ⟨fun b => Q (.bl b) H⟩
  | _ => False
theorem r_isO {C : Addr} {M : Addr → Option Bool} {x : V} {H : Hp} {Q : VK} : @aC (rIsO C M) [x, .ref C] H ⟨Q⟩ = @OK _ (isO M H x) ⟨fun b => Q (.bl b) H⟩ := propext ⟨fun h => h.2, fun h => ⟨rfl, h⟩⟩
theorem isO_tab {M : Addr → Option Bool} {H : Hp} : isO M H .non = some false ∧ (∀ b, isO M H (.bl b) = some false) ∧ (∀ i, isO M H (.int i) = some false) ∧ (∀ z, isO M H (.str z) = some false) := ⟨rfl, fun _ => rfl, fun _ => rfl, fun _ => rfl⟩
def isR (M : Addr → Option Bool) : Option HO → Option Bool
  | some (.ins D _ _) => M D
  | o => (tyO o).map fun _ => false
theorem isO_ref {M : Addr → Option Bool} {H : Hp} {p : Addr} : isO M H (.ref p) = isR M (H p) := by
  show (match H p with
    | some (.ins D _ _) => M D
    | _ => (tyV H (.ref p)).map fun _ => false) = _
  rw [e_tyR]
  generalize H p = o
  rcases o with _ | o
  · rfl
  · cases o <;> rfl
theorem isR_tab {M : Addr → Option Bool} : (∀ D dx fs, isR M (some (.ins D dx fs)) = M D) ∧ (∀ xs, isR M (some (.lst xs)) = some false) ∧ (∀ xs, isR M (some (.tup xs)) = some false) ∧ (∀ xs, isR M (some (.dK xs)) = some false) := ⟨fun _ _ _ => rfl, fun _ => rfl, fun _ => rfl, fun _ => rfl⟩
theorem call_isO {X : Cx} {C : Addr} {M : Addr → Option Bool} (k : IsO X.K C M) : CallR X (.builtin "isinstance") (rIsO C M) := crOf call_isi fun xs H Q q => by
  unfold rIsO at q
  split at q
  · rename_i x D
    obtain ⟨rfl, q⟩ := q
    obtain ⟨b, e, q⟩ := OK.out q
    have plain : ∀ x : V, (tyV H x).map (fun _ => false) = some b → ∃ t u, TyX X.K H x t ∧ u = Value.ref D ∧ PySem.W.kitOne X.K t u = some b := fun x e => by
      cases ht : tyV H x with
      | none => rw [ht] at e; cases e
      | some t =>
        rw [ht] at e
        cases e
        exact ⟨_, _, tyV_ok ht, rfl, k.base t⟩
    have key : ∃ t u, TyX X.K H x t ∧ u = Value.ref D ∧ PySem.W.kitOne X.K t u = some b := by
      unfold isO at e
      split at e
      · rename_i p
        split at e
        · rename_i F dx fs ef
          obtain ⟨T, hk⟩ := k.own F b e
          exact ⟨_, _, .base (.ins ef T.c T.ha T.hn T.ht T.hm), rfl, hk⟩
        · exact plain _ e
      · exact plain _ e
    obtain ⟨t, u, h1, rfl, h2⟩ := key
    exact ⟨x, _, t, _, b, rfl, .own _, h1, h2, q⟩
  · exact q.elim
def rEqO (C : Addr) (sp : Sp) : R2 := fun x y H Q => match x, y with
  | .ref a, .ref b => @OK _ (insO C (H a)) ⟨fun _ => @OK _ (insO C (H b)) ⟨fun _ => sp [.ref a, .ref b] H (kB fun c H' => Q (.bl c) H') E0⟩⟩
  | _, _ => False
theorem r_eqO {C a b : Addr} {sp : Sp} {H : Hp} {Q : VK} : @aR (rEqO C sp) (.ref a) (.ref b) H ⟨Q⟩ = @OK _ (insO C (H a)) ⟨fun _ => @OK _ (insO C (H b)) ⟨fun _ => @Call sp [.ref a, .ref b] H ⟨kB fun c H' => Q (.bl c) H'⟩ ⟨E0⟩⟩⟩ := rfl
theorem op_eqO {X : Cx} {C g : Addr} {fd : FuncData} {ps : List Str} {k : Nat} {sp : Sp} (F : FnOk X.prog X.w X.K X.mg X.base CX0 k g fd ps sp) (hs : PySem.W.findIn X.K (.ref C) "__eq__" = some (some (.ref g))) (hf : PySem.W.isFn X.K (.ref g) = true) (hb : Binds X.K fd ps []) (hr : Room k X.A) :
    OpR X (compareOp .Eq) (rEqO C sp) := by
  intro pins s σ H x y v u Q J rx ry h
  show wpAny (model X.prog X.w) X.A (richCompare .Eq v u) (EP X pins σ Q) X.xe s
  cases x with
  | ref a =>
    cases y with
    | ref b =>
      obtain rfl : v = Value.ref a := rx
      obtain rfl : u = Value.ref b := ry
      obtain ⟨fs, h1, h⟩ := OK.out h
      obtain ⟨gs, h2, h⟩ := OK.out h
      obtain ⟨dx, ea⟩ := insO_at h1
      obtain ⟨dy, eb⟩ := insO_at h2
      obtain ⟨mA, O1, _⟩ := ins_get J.hok ea
      obtain ⟨mB, O2, _⟩ := ins_get J.hok eb
      obtain ⟨od, L1, _⟩ := O1.look
      obtain ⟨od2, L2', _⟩ := O2.look
      obtain ⟨m, hF⟩ := J.fr
      refine PySem.W.cmp_K (op := .Eq) (tb := .ref C) hr.units0 hF J.ok.mod.kin L1 L2'.type (by simp [PySem.W.notFirst]) hs hf ?_
      refine wpAny_mono (run_fn (us := [.ref a, .ref b]) (vs := [.ref a, .ref b]) F hr hb .nil pass0 J (.cons rfl (.cons rfl .nil)) h) (fun r s2 z => ?_) fun _ _ z => z
      obtain ⟨z, H2, J2, rz, q2⟩ := z
      cases z with
      | bl c =>
        cases rz
        exact ⟨.bl c, H2, J2, rfl, q2⟩
      | _ => exact False.elim q2
    | _ => exact False.elim h
  | _ => exact False.elim h

def sn : V → Bool
  | .str z => PyData.strOk z
  | .non => true
  | _ => false
def pdOf : V → PyData
  | .str z => .str z
  | _ => .none
theorem dp_sn {K : PySem.W.Frag} {H : Hp} : ∀ xs : List V, xs.all sn = true → DpAll K H xs (xs.map pdOf)
  | [], _ => .nil
  | v :: r, h => by
    rw [List.all_cons, Bool.and_eq_true] at h
    refine .cons ?_ (dp_sn r h.2)
    have h1 := h.1
    cases v with
    | str z => exact .str z
    | non => exact .non
    | _ => cases h1
theorem lay_sn : ∀ xs : List V, xs.all sn = true → PyData.canLayAll0 (xs.map pdOf) = true ∧ PyData.depthAll (xs.map pdOf) = 0
  | [], _ => ⟨rfl, rfl⟩
  | v :: r, h => by
    rw [List.all_cons, Bool.and_eq_true] at h
    obtain ⟨a, b⟩ := lay_sn r h.2
    have h1 := h.1
    cases v with
    | str z =>
      refine ⟨?_, ?_⟩
      · show (PyData.strOk z && PyData.canLayAll0 (r.map pdOf)) = true
        rw [a, show PyData.strOk z = true from h1]
        rfl
      · show max 0 (PyData.depthAll (r.map pdOf)) = 0
        rw [b]
        rfl
    | non =>
      refine ⟨?_, ?_⟩
      · show (true && PyData.canLayAll0 (r.map pdOf)) = true
        rw [a]
        rfl
      · show max 0 (PyData.depthAll (r.map pdOf)) = 0
        rw [b]
        rfl
    | _ => cases h1
theorem eqv_sn : ∀ xs ys : List V, xs.all sn = true → ys.all sn = true → PyData.eqvAll (xs.map pdOf) (ys.map pdOf) = decide (xs = ys)
  | [], [], _, _ => rfl
  | [], _ :: _, _, _ => rfl
  | _ :: _, [], _, _ => rfl
  | v :: r, u :: t, h, k => by
    rw [List.all_cons, Bool.and_eq_true] at h k
    have ih := eqv_sn r t h.2 k.2
    have e : PyData.eqvAll ((v :: r).map pdOf) ((u :: t).map pdOf) = (PyData.eqv (pdOf v) (pdOf u) && PyData.eqvAll (r.map pdOf) (t.map pdOf)) := rfl
    have e1 : PyData.eqv (pdOf v) (pdOf u) = decide (v = u) := by
      have h1 := h.1
      have k1 := k.1
      cases v with
      | str z =>
        cases u with
        | str y =>
          show (z == y) = decide (V.str z = V.str y)
          by_cases q : z = y
          · subst q
            rw [decide_eq_true rfl]
            exact beq_self_eq_true _
          · rw [decide_eq_false (fun w => q (V.str.inj w))]
            exact beq_eq_false_iff_ne.mpr q
        | non => rfl
        | _ => cases k1
      | non =>
        cases u with
        | str y => rfl
        | non => rfl
        | _ => cases k1
      | _ => cases h1
    rw [e, e1, ih]
    by_cases q1 : v = u
    · by_cases q2 : r = t
      · rw [q1, q2]
        simp
      · rw [decide_eq_false q2, decide_eq_false fun w => q2 (List.cons.inj w).2, Bool.and_false]
    · rw [decide_eq_false q1, decide_eq_false fun w => q1 (List.cons.inj w).1, Bool.false_and]
def snO : Option HO → Option (Bool × List V)
  | some (.lst xs) => some (false, xs)
  | some (.tup xs) => some (true, xs)
  | _ => none
theorem snO_tab : (∀ xs, snO (some (.lst xs)) = some (false, xs)) ∧ (∀ xs, snO (some (.tup xs)) = some (true, xs)) := ⟨fun _ => rfl, fun _ => rfl⟩
theorem snO_dp {K : PySem.W.Frag} {H : Hp} {p : Addr} {z : Bool × List V} (h : snO (H p) = some z) (a : z.2.all sn = true) : Dp K H (.ref p) (if z.1 = true then .tuple (z.2.map pdOf) else .list (z.2.map pdOf)) ∧ SeqAt.shaped (if z.1 = true then .tuple (z.2.map pdOf) else .list (z.2.map pdOf)) = true := by
  unfold snO at h
  split at h
  · rename_i xs e
    cases h
    obtain ⟨c1, c2⟩ := lay_sn xs a
    refine ⟨.lst (.inl (.inl e)) (dp_sn xs a), ?_⟩
    show (PyData.canLayAll0 (xs.map pdOf) && decide (PyData.depthAll (xs.map pdOf) + 1 ≤ 64)) = true
    rw [c1, c2]
    rfl
  · rename_i xs e
    cases h
    obtain ⟨c1, c2⟩ := lay_sn xs a
    refine ⟨.tup (.inl (.inl e)) (dp_sn xs a), ?_⟩
    show (PyData.canLayAll0 (xs.map pdOf) && decide (PyData.depthAll (xs.map pdOf) + 1 ≤ 64)) = true
    rw [c1, c2]
    rfl
  · cases h
def rEqN (neg : Bool) : R2 := fun x y H Q => match x, y with
  | .ref p, .ref q => @OK _ (snO (H p)) ⟨fun a => @OK _ (snO (H q)) ⟨fun b => @Cd (a.1 = b.1 ∧ a.2.all sn = true ∧ b.2.all sn = true) ⟨Q (.bl (bif neg then !decide (a.2 = b.2) else decide (a.2 = b.2))) H⟩⟩⟩
  | _, _ => False
theorem r_eqN {p q : Addr} {H : Hp} {Q : VK} : @aR (rEqN false) (.ref p) (.ref q) H ⟨Q⟩ = @OK _ (snO (H p)) ⟨fun a => @OK _ (snO (H q)) ⟨fun b => @Cd (a.1 = b.1 ∧ a.2.all sn = true ∧ b.2.all sn = true) ⟨Q (.bl (decide (a.2 = b.2))) H⟩⟩⟩ := rfl
theorem r_neN {p q : Addr} {H : Hp} {Q : VK} : @aR (rEqN true) (.ref p) (.ref q) H ⟨Q⟩ = @OK _ (snO (H p)) ⟨fun a => @OK _ (snO (H q)) ⟨fun b => @Cd (a.1 = b.1 ∧ a.2.all sn = true ∧ b.2.all sn = true) ⟨Q (.bl (!decide (a.2 = b.2))) H⟩⟩⟩ := rfl
theorem eqN_key {K : PySem.W.Frag} {H : Hp} {p q : Addr} {a b : Bool × List V} (h1 : snO (H p) = some a) (h2 : snO (H q) = some b) (c : a.1 = b.1 ∧ a.2.all sn = true ∧ b.2.all sn = true) :
    ∃ d e, Dp K H (.ref p) d ∧ Dp K H (.ref q) e ∧ SeqAt.shaped d = true ∧ SeqAt.shaped e = true ∧ PyData.eqv d e = decide (a.2 = b.2) := by
  obtain ⟨k1, s1⟩ := snO_dp (K := K) h1 c.2.1
  obtain ⟨k2, s2⟩ := snO_dp (K := K) h2 c.2.2
  refine ⟨_, _, k1, k2, s1, s2, ?_⟩
  rw [← c.1, ← eqv_sn _ _ c.2.1 c.2.2]
  cases a.1 <;> rfl
theorem op_eqN {X : Cx} (hu : X.A.units + 64 < cLine) : OpR X (compareOp .Eq) (rEqN false) := opOf (op_eqD hu) fun x y H Q h => by
  cases x with
  | ref p =>
    cases y with
    | ref q =>
      obtain ⟨a, h1, h⟩ := OK.out h
      obtain ⟨b, h2, h⟩ := OK.out h
      obtain ⟨d, e, k1, k2, s1, s2, v⟩ := eqN_key (K := X.K) h1 h2 h.1
      refine ⟨d, e, k1, k2, s1, s2, ?_⟩
      rw [v]
      simpa using h.2
    | _ => exact False.elim h
  | _ => exact False.elim h
theorem op_neN {X : Cx} (hu : X.A.units + 64 < cLine) : OpR X (compareOp .NotEq) (rEqN true) := opOf (op_neD hu) fun x y H Q h => by
  cases x with
  | ref p =>
    cases y with
    | ref q =>
      obtain ⟨a, h1, h⟩ := OK.out h
      obtain ⟨b, h2, h⟩ := OK.out h
      obtain ⟨d, e, k1, k2, s1, s2, v⟩ := eqN_key (K := X.K) h1 h2 h.1
      refine ⟨d, e, k1, k2, s1, s2, ?_⟩
      rw [v]
      simpa using h.2
    | _ => exact False.elim h
  | _ => exact False.elim h
theorem toNat_inj' : ∀ {l m : List Char}, l.map Char.toNat = m.map Char.toNat → l = m
  | [], [], _ => rfl
  | [], _ :: _, h => by cases h
  | _ :: _, [], h => by cases h
  | c :: l, d :: m, h => by
    rw [List.map_cons, List.map_cons, List.cons.injEq] at h
    rw [toNat_inj' h.2, Char.ext (UInt32.toNat_inj.mp h.1)]
theorem ofs_inj' {a b : String} (h : Str.ofString a = Str.ofString b) : a = b := by
  have h1 : TL.tl (Str.ofString a) = TL.tl (Str.ofString b) := by rw [h]
  rw [TL.tl_ofString, TL.tl_ofString] at h1
  exact String.toList_inj.mp (toNat_inj' h1)
theorem lk_tab {a b : String} {v : V} {r : List (Str × V)} : List.lookup (Str.ofString a) ((Str.ofString b, v) :: r) = if a = b then some v else List.lookup (Str.ofString a) r := by
  by_cases e : a = b
  · subst e
    rw [if_pos rfl, List.lookup_cons, beq_self_eq_true]
  · rw [if_neg e, List.lookup_cons, beq_eq_false_iff_ne.mpr fun z => e (ofs_inj' z)]
theorem putF_nil {f : Str} {v : V} : putF f v [] = [(f, v)] := rfl
theorem putF_tab {a b : String} {v w : V} {r : List (Str × V)} : putF (Str.ofString a) v ((Str.ofString b, w) :: r) = if a = b then (Str.ofString b, v) :: r else (Str.ofString b, w) :: putF (Str.ofString a) v r := by
  by_cases e : a = b
  · subst e
    rw [if_pos rfl]
    show (if Str.ofString a = Str.ofString a then _ else _) = _
    rw [if_pos rfl]
  · rw [if_neg e]
    show (if Str.ofString b = Str.ofString a then _ else _) = _
    rw [if_neg fun z => e (ofs_inj' z.symm)]

def gSq (n : Nat) (t : TGs) : TG := fun v σ H Q => match v with
  | .ref a => @OK _ (seqAt H a) ⟨fun xs => xs.length = n ∧ t xs σ H Q⟩
  | _ => False
def aGs (xs : List V) (n : Nat) (t : TGs) (σ : L2.St) (H : Hp) [Q : Kp (L2.St → Hp → Prop)] : Prop := xs.length = n ∧ t xs σ H Q.val
theorem r_gsq {n : Nat} {t : TGs} {a : Addr} {σ : L2.St} {H : Hp} {Q : L2.St → Hp → Prop} : gSq n t (.ref a) σ H Q = @OK _ (seqAt H a) ⟨fun xs => @aGs xs n t σ H ⟨Q⟩⟩ := rfl
theorem aGs_eq {xs : List V} {n : Nat} {t : TGs} {σ : L2.St} {H : Hp} {Q : L2.St → Hp → Prop} : @aGs xs n t σ H ⟨Q⟩ = @Cd (xs.length = n) ⟨t xs σ H Q⟩ := rfl
theorem r_gcons {t : TG} {u : TGs} {v : V} {r : List V} {σ : L2.St} {H : Hp} {Q : L2.St → Hp → Prop} : gCons t u (v :: r) σ H Q = t v σ H fun σ1 H1 => u r σ1 H1 Q := propext ⟨fun ⟨a, b, e, q⟩ => by cases e; exact q, fun q => ⟨v, r, rfl, q⟩⟩
theorem r_gnil {σ : L2.St} {H : Hp} {Q : L2.St → Hp → Prop} : gNil [] σ H Q = Q σ H := propext ⟨fun h => h.2, fun h => ⟨rfl, h⟩⟩
theorem pg_seq {X : Cx} {es : List Expr} {j : Nat} {t : TGs} {n : Nat} {pos : Pos} (hc : X.calm = true) (h : PGs X es t) (hn : (assignEach es X.env).length = n := by rfl) (hst : (assignEach es X.env).findIdx? (·.1) = none := by rfl) : PG X (.Tuple es j pos) (gSq n t) := by
  have a := pg_lst (k := j) (pos := pos) hc h hn hst
  have b := pg_tup (k := j) (pos := pos) hc h hn hst
  refine ⟨fun pins s σ H v u Q I r q => ?_⟩
  cases v with
  | ref p =>
    obtain ⟨xs, e, q⟩ := OK.out q
    rcases seqAt_cases (K := X.K) e with z | z
    · exact a.run pins s σ H _ u Q I r ⟨p, xs, rfl, z, q.1, q.2⟩
    · exact b.run pins s σ H _ u Q I r ⟨p, xs, rfl, z, q.1, q.2⟩
  | _ => exact False.elim q

def uTryAs (K : PySem.W.Frag) (c : Value) (i : Nat) (tb : WX → TS) (ts : Addr → Value → Option Addr → TS) (Wout : WX) : TS := fun D σ H => tb (wAs K c i ts Wout D) D σ H
def uTryMany (K : PySem.W.Frag) (l : List (Value × (Addr → Value → Option Addr → TS))) (tb : WX → TS) (Wout : WX) : TS := fun D σ H => tb (wMany K Wout D l) D σ H
def uTryOnly (K : PySem.W.Frag) (c : Value) (tb : WX → TS) (ts : Addr → Value → Option Addr → TS) (Wout : WX) : TS := fun D σ H => tb (wOnly K c ts Wout D) D σ H
def w0 : WX := fun _ _ _ _ => False
theorem as_yes {K : PySem.W.Frag} {c cls : Value} {i : Nat} {ts : Addr → Value → Option Addr → TS} {Wout : WX} {D : Ends} {d : Option Addr} {σ : L2.St} {H : Hp} (hb : PySem.W.exmOne K cls c = some true)
    (h : ∀ a, H a = none → ts a cls d { nx := fun σ' H' => D.nx (σ'.set i none) H', rt := D.rt, bk := fun σ' H' => D.bk (σ'.set i none) H', ct := fun σ' H' => D.ct (σ'.set i none) H' } (σ.set i (some (.ref a))) H) : WE (wAs K c i ts Wout D) σ cls d H :=
  ⟨true, hb, fun _ => h, fun z => nomatch z⟩
theorem only_yes {K : PySem.W.Frag} {c cls : Value} {ts : Addr → Value → Option Addr → TS} {Wout : WX} {D : Ends} {d : Option Addr} {σ : L2.St} {H : Hp} (hb : PySem.W.exmOne K cls c = some true)
    (h : ∀ a, H a = none → ts a cls d D σ H) : WE (wOnly K c ts Wout D) σ cls d H :=
  ⟨true, hb, fun _ => h, fun z => nomatch z⟩
def rIsS (K : PySem.W.Frag) (a : Addr) (cls : Value) (d : Option Addr) : List V → Hp → VK → Prop := fun xs H Q => d = none ∧ ∃ (D C : Addr) (b : Bool), cls = .ref D ∧ ExcC K D ∧ xs = [.ref a, .ref C] ∧ PySem.W.kitOne K (.ref D) (.ref C) = some b ∧ Q (.bl b) H
theorem call_isS {X : Cx} {a : Addr} {oe : Obj} {cls : Value} {d : Option Addr} {pn : List (Addr × Obj)} (hz : Zc cls d oe) (hf : ∃ vs, oe.data = .fields vs) : CallR (X.suite a ((a, oe) :: pn)) (.builtin "isinstance") (rIsS X.K a cls d) := by
  intro pins s σ H xs us Q I r h
  obtain ⟨rfl, D, C, b, rfl, T, rfl, e, q⟩ := h
  exact call_isE T hz hf pins s σ H _ us Q I r ⟨_, .ref C, b, rfl, fun u z => z, e, q⟩
def aIsS (K : PySem.W.Frag) (a : Addr) (cls : Value) (d : Option Addr) (xs : List V) (H : Hp) [Q : Kp VK] : Prop := rIsS K a cls d xs H Q.val
theorem r_isS {K : PySem.W.Frag} {a C D : Addr} {b : Bool} {H : Hp} {Q : VK} (T : ExcC K D) (e : PySem.W.kitOne K (.ref D) (.ref C) = some b) (q : Q (.bl b) H) : @aC (rIsS K a (.ref D) none) [.ref a, .ref C] H ⟨Q⟩ := ⟨rfl, D, C, b, rfl, T, rfl, e, q⟩
def rIsBU : R2 := fun x y H Q => match x, y with
  | .bl a, .bl b => Q (.bl (decide (a = b))) H
  | _, _ => False
theorem r_isB {a b : Bool} {H : Hp} {Q : VK} : @aR rIsBU (.bl a) (.bl b) H ⟨Q⟩ = Q (.bl (decide (a = b))) H := rfl
theorem op_isBU {X : Cx} : OpR X (compareOp .Is) rIsBU := opOf op_isBl fun x y H Q q => by
  unfold rIsBU at q
  split at q
  · exact ⟨_, _, rfl, rfl, q⟩
  · exact q.elim
theorem lstO_at {o : Option HO} {xs : List V} (h : lstO o = some xs) : o = some (.lst xs) := by
  unfold lstO at h
  split at h
  · cases h; rfl
  · cases h
def isLs : Option HO → Bool
  | some (.lst _) => true
  | _ => false
theorem isLs_lst {xs : List V} : isLs (some (.lst xs)) = true := rfl
theorem tyL {K : PySem.W.Frag} {H : Hp} {p : Addr} (h : isLs (H p) = true) : L2.tyV K "list" (.ref p) H = True := by
  have e : ∃ xs, H p = some (.lst xs) := by
    unfold isLs at h
    split at h
    · rename_i xs e; exact ⟨xs, e⟩
    · cases h
  obtain ⟨xs, e⟩ := e
  exact eq_true (.inl ⟨rfl, xs, .inl (.inl e)⟩)
theorem r_bm1 {K : PySem.W.Frag} {T : String} {r : V → List V → Hp → VK → Prop} {te tv : TE} {σ : L2.St} {H : Hp} {Q : VK} : tBM K T r te (tCons tv tNil) σ H Q = te σ H fun x H1 => @Cd (L2.tyV K T x H1) ⟨tv σ H1 fun v H2 => @aM r x [v] H2 ⟨Q⟩⟩ := rfl
theorem r_bm0 {K : PySem.W.Frag} {T : String} {r : V → List V → Hp → VK → Prop} {te : TE} {σ : L2.St} {H : Hp} {Q : VK} : tBM0 K T r te σ H Q = te σ H fun x H1 => @Cd (L2.tyV K T x H1) ⟨@aM r x [] H1 ⟨Q⟩⟩ := rfl
theorem aM_app {l : Addr} {v : V} {H : Hp} {Q : VK} : @aM rAppend (.ref l) [v] H ⟨Q⟩ = @OK _ (lstO (H l)) ⟨fun xs => @Cd (xs.length < sizeLine) ⟨@Md H l (.lst (xs ++ [v])) ⟨fun H' => Q .non H'⟩⟩⟩ := propext ⟨fun ⟨a, xs, y, e1, e2, e3, e4, q⟩ => by
    cases e1
    cases e2
    refine OK.by (x := xs) (by rw [e3]; rfl) ⟨e4, ?_⟩
    exact fun H' n => by rw [n.eq]; exact q, fun h => by
    obtain ⟨xs, e, h⟩ := OK.out h
    exact ⟨l, xs, v, rfl, rfl, lstO_at e, h.1, h.2 _ ⟨rfl⟩⟩⟩
theorem r_callX {sp : Sp} {W : WX} {t : TA} {σ : L2.St} {H : Hp} {Q : VK} : uCallX sp W t σ H Q = t σ H fun vs H1 => @Call sp vs H1 ⟨Q⟩ ⟨WE W σ⟩ := rfl
def aW (W : WX) (cls : Value) (d : Option Addr) (σ : L2.St) (H : Hp) : Prop := W cls d σ H
theorem r_raise0 {W : WX} {C : Addr} {D : Ends} {σ : L2.St} {H : Hp} : uRaise0 W C D σ H = W (.ref C) none σ H := rfl
def aTry (tb : WX → TS) [W : Kp WX] [D : Kp Ends] (σ : L2.St) (H : Hp) : Prop := tb W.val D.val σ H
theorem r_tryAs {K : PySem.W.Frag} {c : Value} {i : Nat} {tb : WX → TS} {ts : Addr → Value → Option Addr → TS} {Wout : WX} {D : Ends} {σ : L2.St} {H : Hp} : uTryAs K c i tb ts Wout D σ H = tb (wAs K c i ts Wout D) D σ H := rfl
theorem r_tryOnly {K : PySem.W.Frag} {c : Value} {tb : WX → TS} {ts : Addr → Value → Option Addr → TS} {Wout : WX} {D : Ends} {σ : L2.St} {H : Hp} : uTryOnly K c tb ts Wout D σ H = tb (wOnly K c ts Wout D) D σ H := rfl
structure EqC (P : Program) (w : World) (K : PySem.W.Frag) (mg : Str → Option Value) (base : Heap) (k : Nat) (C : Addr) (sp : Sp) : Prop where
  ex : ∃ (g : Addr) (fd : FuncData) (ps : List Str), FnOk P w K mg base CX0 k g fd ps sp ∧ PySem.W.findIn K (.ref C) "__eq__" = some (some (.ref g)) ∧ PySem.W.isFn K (.ref g) = true ∧ Binds K fd ps []
theorem op_eqC {X : Cx} {k : Nat} {C : Addr} {sp : Sp} (c : EqC X.prog X.w X.K X.mg X.base k C sp) (hr : Room k X.A) : OpR X (compareOp .Eq) (rEqO C sp) := by
  obtain ⟨g, fd, ps, F, h1, h2, b⟩ := c.ex
  exact op_eqO F h1 h2 b hr
structure StC (P : Program) (w : World) (K : PySem.W.Frag) (mg : Str → Option Value) (base : Heap) (k : Nat) (C : Addr) (m : Str) (sp : Sp) : Prop where
  ex : ∃ (q g : Addr) (fd : FuncData) (ps : List Str), SMet K C m q g ∧ FnOk P w K mg base CX0 k g fd ps sp ∧ Binds K fd ps []
section
variable {X : Cx} {k : Nat} {c m : Str} {C : Addr} {sp : Sp} {p apos pos : Pos} {e : Expr} {es : List Expr} {ta : TA} {pl : Sem Bool}
theorem pe_st0 (S : StC X.prog X.w X.K X.mg X.base k C m sp) (gC : X.mg c = some (.ref C)) (hr : Room k X.A) (hg : Gl X c := by rfl) (hd : (c == ("__debug__" : Str)) = false := by decide)
    (ht : eval (.Call (.Attribute (.Name c p) m apos) [] [] pos) X.env = (do
      let ov ← eval (.Name c p) X.env
      standAt apos.atName
      let (f, first) ← holding [ov] (getMethod ov m pl)
      callWith pos f first (backTo pos (starEach [] X.env)) (backToKw pos (keywordEach [] X.env))) := by rfl) : PE X (.Call (.Attribute (.Name c p) m apos) [] [] pos) (uCall sp [] E0 tNil) := by
  obtain ⟨q, g, fd, ps, S, F, b⟩ := S.ex
  exact pe_smeth0 ⟨q, S⟩ gC F hr b hg hd ht
theorem pe_st (S : StC X.prog X.w X.K X.mg X.base k C m sp) (gC : X.mg c = some (.ref C)) (hr : Room k X.A) (ha : PA X (e :: es) ta) (hg : Gl X c := by rfl) (hd : (c == ("__debug__" : Str)) = false := by decide)
    (he : starEach (e :: es) X.env = (false, eval e X.env) :: starEach es X.env := by rfl) (hpl : (backTo pos (starEach es X.env)).any (·.1) = false := by rfl)
    (ht : eval (.Call (.Attribute (.Name c p) m apos) (e :: es) [] pos) X.env = (do
      let ov ← eval (.Name c p) X.env
      standAt apos.atName
      let (f, first) ← holding [ov] (getMethod ov m pl)
      callWith pos f first (backTo pos (starEach (e :: es) X.env)) (backToKw pos (keywordEach [] X.env))) := by rfl) : PE X (.Call (.Attribute (.Name c p) m apos) (e :: es) [] pos) (uCall sp [] E0 ta) := by
  obtain ⟨q, g, fd, ps, S, F, b⟩ := S.ex
  exact pe_smeth ⟨q, S⟩ gC F hr b ha hg hd he hpl ht
end
theorem rAll.by {p : Addr} {bs : List Bool} {H : Hp} {Q : VK} (h : H p = some (.lst (bs.map V.bl))) (q : Q (.bl (bs.all id)) H) : @aC rAllU [.ref p] H ⟨Q⟩ := ⟨p, bs, rfl, h, q⟩
theorem rAny.by {p : Addr} {bs : List Bool} {H : Hp} {Q : VK} (h : H p = some (.lst (bs.map V.bl))) (q : Q (.bl (bs.any id)) H) : @aC rAnyU [.ref p] H ⟨Q⟩ := ⟨p, bs, rfl, h, q⟩
theorem withTk {X : Cx} {W : WX} {st : List Stmt} {t : TS} (tk : Takes X W) (h : Takes X W → PSs X st t) : PSs X st t := h tk
end U
end

section
namespace U
open PySem PySem.Spec PyProof.Rows L2
abbrev Cla : Type := Value × Option Nat × (Addr → Value → Option Addr → TS)
def Ends.un (D : Ends) (i : Nat) : Ends := ⟨fun σ H => D.nx (σ.set i none) H, D.rt, fun σ H => D.bk (σ.set i none) H, fun σ H => D.ct (σ.set i none) H⟩
def inSuite (o : Option Nat) (ts : Addr → Value → Option Addr → TS) (a : Addr) (cls : Value) (d : Option Addr) (D : Ends) (σ : L2.St) (H : Hp) : Prop := match o with
  | none => ts a cls d D σ H
  | some i => ts a cls d (Ends.un D i) (σ.set i (some (.ref a))) H
def wCl (K : PySem.W.Frag) (Wout : WX) (D : Ends) : List Cla → WX
  | [] => Wout
  | (c, o, ts) :: r => fun cls d σ H => ∃ b, PySem.W.exmOne K cls c = some b ∧ (b = true → ∀ a, H a = none → inSuite o ts a cls d D σ H) ∧ (b = false → wCl K Wout D r cls d σ H)
inductive ClOk (X : Cx) : List ExceptHandler → List Cla → Prop
  | nil : ClOk X [] []
  | bare {x : Str} {c : Value} {ts : Addr → Value → Option Addr → TS} {b0 : Stmt} {bs : List Stmt} {p q : Pos} {hs : List ExceptHandler} {l : List Cla} (hc : Names X x c)
      (hsu : ∀ (a : Addr) (oe : Obj) (cls : Value) (d : Option Addr) (pn : List (Addr × Obj)), Zc cls d oe → (∃ vs, oe.data = .fields vs) → PSs (X.suite a ((a, oe) :: pn)) (b0 :: bs) (ts a cls d))
      (r : ClOk X hs l) : ClOk X (.ExceptHandler (some (.Name x p)) none (b0 :: bs) q :: hs) ((c, none, ts) :: l)
  | named {x n : Str} {i : Nat} {c : Value} {ts : Addr → Value → Option Addr → TS} {b0 : Stmt} {bs : List Stmt} {p q : Pos} {hs : List ExceptHandler} {l : List Cla} (hN : X.N.Nodup) (hi : X.N[i]? = some n) (hl : X.env.kindOf n = some .local) (hc : Names X x c)
      (hsu : ∀ (a : Addr) (oe : Obj) (cls : Value) (d : Option Addr) (pn : List (Addr × Obj)), Zc cls d oe → (∃ vs, oe.data = .fields vs) → PSs (X.suite a ((a, oe) :: pn)) (b0 :: bs) (ts a cls d))
      (r : ClOk X hs l) : ClOk X (.ExceptHandler (some (.Name x p)) (some n) (b0 :: bs) q :: hs) ((c, some i, ts) :: l)
section
variable {X : Cx} {body : List Stmt} {h0 : ExceptHandler} {hs : List ExceptHandler} {l : List Cla} {pos : Pos} {tb : WX → TS} {Wout : WX}
theorem ps_try_l (est : X.stack = X.env :: X.outer) (efr : X.env.frame = some X.env.locals) (tk : Takes X Wout)
    (hb : ∀ (W : WX) (pn : List (Addr × Obj)) (xe : Value → Shared → Prop), Takes (X.tr pn xe) W → PassesOwn (model X.prog X.w) X.A X.env xe → PSs (X.tr pn xe) body (tb W))
    (hh : ClOk X (h0 :: hs) l) : PS X (.Try body (h0 :: hs) [] [] pos) (fun D σ H => tb (wCl X.K Wout D l) D σ H) := by
  refine ⟨fun pins s σ H D I wish => ?_⟩
  have okI := I.ok
  have frA : X.A.frames = some (X.env :: X.outer) := okI.frames.trans (congrArg some est)
  refine wpAny_Try_except ?_
  refine wpAny_mono ((hb (wCl X.K Wout D l) (X.pn ++ pins) (fun e s1 => wpAny (model X.prog X.w) X.A (noteFrame e X.env) (fun _ s2 => wpAny (model X.prog X.w) X.A (setFlight e none) (fun _ s3 =>
      wpAny (model X.prog X.w) X.A (handleBy e X.env (h0 :: hs)) (SP X pins D) X.xe s3) X.xe s2) X.xe s1) (fun u sx thrown => ?caught) PassesOwn.looking).run [] s σ H D (I.toTry _) wish) (fun f s1 after => ?ended) (fun _ _ z => z)
  case ended =>
    cases f with
    | next => exact after.elim fun σ1 ⟨H1, J1, q1⟩ => wpAny_execs_nil ⟨σ1, H1, J1.ofTry okI, q1⟩
    | brk => exact after.elim fun σ1 ⟨H1, J1, q1⟩ => ⟨σ1, H1, J1.ofTry okI, q1⟩
    | cont => exact after.elim fun σ1 ⟨H1, J1, q1⟩ => ⟨σ1, H1, J1.ofTry okI, q1⟩
    | ret u => exact after.elim fun v1 ⟨σ1, H1, J1, r1, q1⟩ => ⟨v1, σ1, H1, J1.ofTry okI, r1, q1⟩
  case caught =>
    obtain ⟨a, B, sI, ps, σ1, H1, cls, d, rfl, JT, nb, up, sky, free, eos, bare, w⟩ := thrown
    have J := JT.ofTry okI
    rw [show (X.tr (X.pn ++ pins) _).stack = X.env :: X.outer from est] at sky
    show wpAny (model X.prog X.w) X.A (noteFrame (.ref a) X.env) _ _ _
    refine Sky.land Zc.steady frA efr sky fun hp fly upp => ?_
    have JL : Inv X pins σ1 H1 { sx with heap := hp } := J.landed nb fly.1 (up.trans upp) eos bare
    obtain ⟨oe, vs, eAt, eZ, eD⟩ := fly.there
    have far : a ∉ frs (X.env :: X.outer) := fun mem => by
      obtain ⟨_, o', e', no⟩ := fly.2.2.1.mem mem
      cases eAt.symm.trans e'
      exact no _ eD
    have nLoc : a ≠ X.env.locals := fun z => far (List.mem_filterMap.mpr ⟨X.env, List.mem_cons_self, efr.trans (congrArg some z.symm)⟩)
    have nFs : a ∉ X.fs := fun mem => (List.mem_filterMap.mp mem).elim fun e he => far (List.mem_filterMap.mpr ⟨e, List.mem_cons_of_mem _ he.1, he.2⟩)
    have SL := JL.suite eAt eD free nLoc nFs
    suffices each : ∀ {hs' : List ExceptHandler} {l' : List Cla}, ClOk X hs' l' → wCl X.K Wout D l' cls d σ1 H1 → wpAny (model X.prog X.w) X.A (handleBy (.ref a) X.env hs') (SP X pins D) X.xe { sx with heap := hp } from each hh w
    -- the name of a clause, and whether it takes the exception
    have name : ∀ {x : Str} {c : Value} {p : Pos}, Names X x c → ∀ {Q E : Value → Shared → Prop}, Q c { sx with heap := hp } → wpAny (model X.prog X.w) (X.A.mark (some (.ref a))) (eval (.Name x p) X.env) Q E { sx with heap := hp } := fun {x c p} hc {Q E} q => by
      rcases hc with ⟨g1, g2, m | ⟨m, v, n⟩⟩
      · exact ld_glob (X := X.suite a ((a, oe) :: (X.pn ++ pins))) SL g1 m q g2
      · exact ld_blt (X := X.suite a ((a, oe) :: (X.pn ++ pins))) SL g1 m v q n g2
    have kind : PySem.W.Looks (model X.prog X.w) hp (typeOf (.ref a)) cls := fun A Q E s k q => wpAny_typeOf_ref (k _ _ eAt) (by rw [eZ.1]; exact q)
    intro hs' l' ok
    induction ok with
    | nil =>
      intro w0
      refine wpAny_handleBy_nil ?_
      obtain ⟨_, _, _, o2, v2, T, _, _, at2, _, dt2, f1, _⟩ := id fly
      unfold PySem.passOn
      refine wpAny_bind (wpAny_field at2 dt2 f1 ?_)
      rw [if_neg (by simp : ¬ ((Value.ref T == Value.none) = true))]
      have on : wpAny (model X.prog X.w) X.A (setFlight (.ref a) X.env.frame) (fun _ s4 => wpAny (model X.prog X.w) X.A (throw (.ref a) : Sem Flow) (SP X pins D) X.xe s4) X.xe { sx with heap := hp } := by
        rw [efr]
        refine HandSPX.setFlight_upZ fly fun h4 held up4 => wpAny_throw (tk _ _ ⟨a, B, sI, pins, σ1, H1, cls, d, rfl, J, nb, (up.trans upp).trans up4, .inr (.inr ?_), free, eos, bare, w0⟩)
        rw [est]
        exact held
      first | exact wpAny_bind (wpAny_pure (wpAny_bind on)) | exact wpAny_bind on
    | bare hc hsu _ ih =>
      rintro ⟨b, eb, yes, no⟩
      refine wpAny_handleBy_cons (codeAny_handlers_test ?_) (fun q => nomatch q)
      refine name hc ((PySem.W.exm_one (M := model X.prog X.w) JL.kIn kind eb).here ?_)
      cases b with
      | false => exact ih (no rfl)
      | true =>
        refine codeAny_handlers_suite (HandSPX.lands_againZ fly fun h4 fly4 up4 => ?_)
        obtain ⟨o4, v4, at4, z4, dt4⟩ := fly4.there
        have S4 := (J.landed nb fly4.1 ((up.trans upp).trans up4) eos bare : Inv X pins σ1 H1 { sx with heap := h4 }).suite at4 dt4 free nLoc nFs
        refine wpAny_mono ((hsu a o4 cls d (X.pn ++ pins) z4 ⟨_, dt4⟩).run [] _ _ H1 _ S4 (yes rfl a free)) (fun f s6 after => ?_) fun _ _ z => False.elim z
        cases f with
        | next => exact after.elim fun _ ⟨_, S6, q6⟩ => ⟨_, _, S6.unsuite okI, q6⟩
        | brk => exact after.elim fun _ ⟨_, S6, q6⟩ => ⟨_, _, S6.unsuite okI, q6⟩
        | cont => exact after.elim fun _ ⟨_, S6, q6⟩ => ⟨_, _, S6.unsuite okI, q6⟩
        | ret u => exact after.elim fun _ ⟨_, _, S6, r6, q6⟩ => ⟨_, _, _, S6.unsuite okI, r6, q6⟩
    | @named x n i c ts b0 bs p q hs2 l2 hN hi hl hc hsu _ ih =>
      rintro ⟨b, eb, yes, no⟩
      refine wpAny_handleBy_cons (codeAny_handlers_test ?_) (fun q => nomatch q)
      refine name hc ((PySem.W.exm_one (M := model X.prog X.w) JL.kIn kind eb).here ?_)
      cases b with
      | false => exact ih (no rfl)
      | true =>
        refine codeAny_handlers_suite_as (HandSPX.lands_againZ fly fun h4 fly4 up4 => ?_)
        obtain ⟨o4, v4, at4, z4, dt4⟩ := fly4.there
        have S4 := (J.landed nb fly4.1 ((up.trans upp).trans up4) eos bare : Inv X pins σ1 H1 { sx with heap := h4 }).suite at4 dt4 free nLoc nFs
        refine store_ok (X := X.suite a ((a, o4) :: (X.pn ++ pins))) (v := .ref a) S4 hN hi (.inl hl) rfl (fun s5 S5 => ?_) (.inr hl)
        refine wpAny_mono ((hsu a o4 cls d (X.pn ++ pins) z4 ⟨_, dt4⟩).run [] s5 _ H1 _ S5 (yes rfl a free)) (fun f s6 after => ?_) fun _ _ z => False.elim z
        have fin : ∀ {σ6 : L2.St} {H6 : Hp} {R : Shared → Prop}, Inv (X.suite a ((a, o4) :: (X.pn ++ pins))) [] σ6 H6 s6 → (∀ s7, Inv X pins (σ6.set i none) H6 s7 → R s7) →
            wpAny (model X.prog X.w) X.A (do bindName X.env n .none; unbindBehindTheSuite X.env n q) (fun _ s7 => R s7) X.xe s6 := fun S6 hq => gone_ok (S6.unsuite okI) hN hi hl hq
        cases f with
        | next => exact after.elim fun _ ⟨_, S6, q6⟩ => fin S6 fun _ J7 => ⟨_, _, J7, q6⟩
        | brk => exact after.elim fun _ ⟨_, S6, q6⟩ => fin S6 fun _ J7 => ⟨_, _, J7, q6⟩
        | cont => exact after.elim fun _ ⟨_, S6, q6⟩ => fin S6 fun _ J7 => ⟨_, _, J7, q6⟩
        | ret u => exact after.elim fun _ ⟨_, _, S6, r6, q6⟩ => fin S6 fun _ J7 => ⟨_, _, _, J7, r6, q6⟩
end
def uTryL (K : PySem.W.Frag) (l : List Cla) (tb : WX → TS) (Wout : WX) : TS := fun D σ H => tb (wCl K Wout D l) D σ H
theorem r_tryL {K : PySem.W.Frag} {l : List Cla} {tb : WX → TS} {Wout : WX} {D : Ends} {σ : L2.St} {H : Hp} : uTryL K l tb Wout D σ H = tb (wCl K Wout D l) D σ H := rfl
theorem wCl_yes {K : PySem.W.Frag} {Wout : WX} {D : Ends} {c : Value} {o : Option Nat} {ts : Addr → Value → Option Addr → TS} {r : List Cla} {cls : Value} {d : Option Addr} {σ : L2.St} {H : Hp} (e : PySem.W.exmOne K cls c = some true)
    (h : ∀ a, H a = none → inSuite o ts a cls d D σ H) : WE (wCl K Wout D ((c, o, ts) :: r)) σ cls d H := ⟨true, e, fun _ => h, fun z => nomatch z⟩
theorem wCl_no {K : PySem.W.Frag} {Wout : WX} {D : Ends} {c : Value} {o : Option Nat} {ts : Addr → Value → Option Addr → TS} {r : List Cla} {cls : Value} {d : Option Addr} {σ : L2.St} {H : Hp} (e : PySem.W.exmOne K cls c = some false)
    (h : WE (wCl K Wout D r) σ cls d H) : WE (wCl K Wout D ((c, o, ts) :: r)) σ cls d H := ⟨false, e, fun z => (nomatch z), fun _ => h⟩

def XfOk (K : PySem.W.Frag) (C : Addr) (f : Str) : Prop := XfC K C ∧ PySem.W.findIn K (.ref C) f = some none
def uXf (K : PySem.W.Frag) (a : Addr) (cls : Value) (d : Option Addr) (f : Str) (i : Nat) : TE := fun σ H Q => ∃ C dd fs v, cls = .ref C ∧ XfOk K C f ∧ d = some dd ∧ σ[i]? = some (some (.ref a)) ∧ H dd = some (.xd fs) ∧ fs.lookup f = some v ∧ Q v H
theorem pe_uXf {X : Cx} {a : Addr} {oe : Obj} {cls : Value} {d : Option Addr} {pn : List (Addr × Obj)} {e : Expr} {f : Str} {i : Nat} {pos : Pos} (hz : Zc cls d oe) (hf : ∃ vs, oe.data = .fields vs) (he : PE (X.suite a ((a, oe) :: pn)) e (uVar i))
    (hb : attributeBase e f X.env (eval e X.env) = eval e X.env := by rfl) : PE (X.suite a ((a, oe) :: pn)) (.Attribute e f pos) (uXf X.K a cls d f i) := by
  refine ⟨fun pins s σ H Q I h => ?_⟩
  obtain ⟨C, dd, fs, v, e1, ⟨T, hno⟩, e2, e3, e4, e5, q⟩ := h
  refine (pe_xf (X := X) T hno hz hf he hb).run pins s σ H Q I ?_
  show uVar i σ H _
  unfold uVar
  rw [e3]
  exact ⟨rfl, e1, dd, fs, v, e2, e4, e5, q⟩
theorem Xf.by {K : PySem.W.Frag} {a C dd : Addr} {f : Str} {i : Nat} {σ : L2.St} {H : Hp} {Q : VK} {fs : List (Str × V)} {v : V} (k : XfOk K C f) (hs : σ[i]? = some (some (.ref a))) (h : H dd = some (.xd fs)) (hl : fs.lookup f = some v) (q : Q v H) : uXf K a (.ref C) (some dd) f i σ H Q :=
  ⟨C, dd, fs, v, rfl, k, rfl, hs, h, hl, q⟩
def uRaiseO (W : WX) (C : Addr) (sp : Sp) (t : TA) : TS := fun _ σ H => t σ H fun vs H1 => vs.length ≤ 1000 ∧ ∀ a, H1 a = none → sp (.ref a :: vs) (upd H1 a (exo a C none))
  (fun v H2 => v = .non ∧ ∃ (d : Addr) (fs : List (Str × V)), H2 a = some (exo a C (some d)) ∧ H2 d = some (exd d fs) ∧ H1 d = none ∧ W (.ref C) (some d) σ (upd (del H2 a) d (.xd fs))) (fun _ _ _ => False)
structure OxC (P : Program) (w : World) (K : PySem.W.Frag) (mg : Str → Option Value) (base : Heap) (k : Nat) (x : Str) (C : Addr) (sp : Sp) : Prop where
  o : OexC K C
  g : mg x = some (.ref C)
  ex : ∃ (fI : Addr) (fd : FuncData) (ps : List Str), PySem.W.findIn K (.ref C) "__init__" = some (some (.ref fI)) ∧ PySem.W.typeIn K (.ref fI) = some (.type "function") ∧ FnOk P w K mg base CX0 k fI fd ps sp ∧ Binds K fd ps []
theorem ps_raiseO {X : Cx} {W : WX} {x : Str} {C : Addr} {sp : Sp} {k : Nat} {e : Expr} {es : List Expr} {ta : TA} {p pos pos2 : Pos} (T : OxC X.prog X.w X.K X.mg X.base k x C sp) (hr : Room (k + 1) X.A) (tk : Takes X W) (ha : PA X (e :: es) ta) (hc : X.calm = true := by rfl) (hg : Gl X x := by rfl)
    (hdb : (x == ("__debug__" : Str)) = false := by decide) (he : starEach (e :: es) X.env = (false, eval e X.env) :: starEach es X.env := by rfl) (hpl : (backTo pos (starEach es X.env)).any (·.1) = false := by rfl) :
    PS X (.Raise (some (.Call (.Name x p) (e :: es) [] pos)) none pos2) (uRaiseO W C sp ta) := by
  obtain ⟨o, g, fI, fd, ps, iC, tI, F, b⟩ := T
  have m := pmk_oex (X := X) (p := p) o iC tI F hr b .nil pass0 hg g ha hdb he hpl
  refine psOf (ps_raise (pos := pos2) hc tk m) fun D σ H h => ?_
  have e : ∀ vs : List V, vs ++ [] = vs := List.append_nil
  unfold uRaiseO at h
  show ta σ H _
  simp only [e]
  exact h
theorem r_ost {K : PySem.W.Frag} {f : Str} {to te : TE} {D : Ends} {σ : L2.St} {H : Hp} : tOst K f to te D σ H = te σ H fun y H1 => to σ H1 fun x H2 => ∃ a C : Addr, x = .ref a ∧ OexC K C ∧ PySem.W.findIn K (.ref C) f = some none ∧
  ((H2 a = some (exo a C none) ∧ ∀ dx, H2 dx = none → dx ≠ a → D.nx σ (upd (upd H2 dx (exd dx [(f, y)])) a (exo a C (some dx)))) ∨
    ∃ (dx : Addr) (fs : List (Str × V)), H2 a = some (exo a C (some dx)) ∧ H2 dx = some (exd dx fs) ∧ fs.length ≤ 900 ∧ D.nx σ (upd H2 dx (exd dx ((f, y) :: fs)))) := rfl
def spIni1 (K : PySem.W.Frag) (f : Str) : Sp := fun vs H Q _ => ∃ (a C : Addr) (x : V), vs = [.ref a, x] ∧ OexC K C ∧ PySem.W.findIn K (.ref C) f = some none ∧ H a = some (exo a C none) ∧
  ∀ dx H', H dx = none → dx ≠ a → H' a = some (exo a C (some dx)) → H' dx = some (exd dx [(f, x)]) → (∀ b u, b ≠ a → H b = some u → H' b = some u) → (∀ b, b ≠ a → b ≠ dx → H' b = H b) → Q .non H'
def spIni2 (K : PySem.W.Frag) (f g : Str) : Sp := fun vs H Q _ => ∃ (a C : Addr) (x y : V), vs = [.ref a, x, y] ∧ OexC K C ∧ PySem.W.findIn K (.ref C) f = some none ∧ PySem.W.findIn K (.ref C) g = some none ∧ H a = some (exo a C none) ∧
  ∀ dx H', H dx = none → dx ≠ a → H' a = some (exo a C (some dx)) → H' dx = some (exd dx [(g, y), (f, x)]) → (∀ b u, b ≠ a → H b = some u → H' b = some u) → (∀ b, b ≠ a → b ≠ dx → H' b = H b) → Q .non H'
theorem ini1 {K : PySem.W.Frag} {f : Str} (vs : List V) (H : Hp) (Q : VK) (E : XK) (h : spIni1 K f vs H Q E) : tOst K f (uVar 0) (uVar 1) { nx := fun _ H' => Q .non H', rt := Q } (vs.map some) H := by
  obtain ⟨a, C, x, rfl, T, n1, ea, q⟩ := h
  refine ⟨a, C, rfl, T, n1, .inl ⟨ea, fun dx hd ne => ?_⟩⟩
  refine q dx _ hd ne upd_same (by rw [upd_ne ne, upd_same]) (fun b u hb e => ?_) fun b h1 h2 => ?_
  · rw [upd_ne hb, upd_ne (ne_of_none e hd)]
    exact e
  · rw [upd_ne h1, upd_ne h2]
theorem ini2 {K : PySem.W.Frag} {f g : Str} (vs : List V) (H : Hp) (Q : VK) (E : XK) (h : spIni2 K f g vs H Q E) : tSeq (tOst K f (uVar 0) (uVar 1)) (tOst K g (uVar 0) (uVar 2)) { nx := fun _ H' => Q .non H', rt := Q } (vs.map some) H := by
  obtain ⟨a, C, x, y, rfl, T, n1, n2, ea, q⟩ := h
  refine ⟨a, C, rfl, T, n1, .inl ⟨ea, fun dx hd ne => ?_⟩⟩
  have e1 : upd (upd H dx (exd dx [(f, x)])) a (exo a C (some dx)) dx = some (exd dx [(f, x)]) := by rw [upd_ne ne, upd_same]
  refine ⟨a, C, rfl, T, n2, .inr ⟨dx, _, upd_same, e1, show 1 ≤ 900 from Nat.le_of_ble_eq_true rfl, ?_⟩⟩
  refine q dx _ hd ne (by rw [upd_ne ne.symm, upd_same]) upd_same (fun b u hb e => ?_) fun b h1 h2 => ?_
  · rw [upd_ne (ne_of_none e hd), upd_ne hb, upd_ne (ne_of_none e hd)]
    exact e
  · rw [upd_ne h2, upd_ne h1, upd_ne h2]
theorem raise1 {K : PySem.W.Frag} {W : WX} {C : Addr} {f : Str} {x : V} {D : Ends} {σ : L2.St} {H H1 : Hp} {t : TA} (T : OexC K C) (n1 : PySem.W.findIn K (.ref C) f = some none) (h : t σ H = fun Q => Q [x] H1)
    (q : ∀ d H', H1 d = none → H' d = some (.xd [(f, x)]) → L2.Same H1 H' → W (.ref C) (some d) σ H') : uRaiseO W C (spIni1 K f) t D σ H := by
  unfold uRaiseO
  rw [h]
  refine ⟨show 1 ≤ 1000 from Nat.le_of_ble_eq_true rfl, fun a ha => ⟨a, C, x, rfl, T, n1, upd_same, fun dx H' hd ne e1 e2 k _ => ⟨rfl, dx, _, e1, e2, ?_, ?_⟩⟩⟩
  · rw [upd_ne ne] at hd
    exact hd
  · rw [upd_ne ne] at hd
    refine q dx _ hd upd_same fun b u e => ?_
    have nb : b ≠ a := ne_of_none e ha
    rw [upd_ne (ne_of_none e hd), del_ne nb]
    exact k b u nb (by rw [upd_ne nb]; exact e)
theorem raise2 {K : PySem.W.Frag} {W : WX} {C : Addr} {f g : Str} {x y : V} {D : Ends} {σ : L2.St} {H H1 : Hp} {t : TA} (T : OexC K C) (n1 : PySem.W.findIn K (.ref C) f = some none) (n2 : PySem.W.findIn K (.ref C) g = some none) (h : t σ H = fun Q => Q [x, y] H1)
    (q : ∀ d H', H1 d = none → H' d = some (.xd [(g, y), (f, x)]) → L2.Same H1 H' → W (.ref C) (some d) σ H') : uRaiseO W C (spIni2 K f g) t D σ H := by
  unfold uRaiseO
  rw [h]
  refine ⟨show 2 ≤ 1000 from Nat.le_of_ble_eq_true rfl, fun a ha => ⟨a, C, x, y, rfl, T, n1, n2, upd_same, fun dx H' hd ne e1 e2 k _ => ⟨rfl, dx, _, e1, e2, ?_, ?_⟩⟩⟩
  · rw [upd_ne ne] at hd
    exact hd
  · rw [upd_ne ne] at hd
    refine q dx _ hd upd_same fun b u e => ?_
    have nb : b ≠ a := ne_of_none e ha
    rw [upd_ne (ne_of_none e hd), del_ne nb]
    exact k b u nb (by rw [upd_ne nb]; exact e)

def rCd (a : Addr) (kvs : List (Str × V)) : R2 := fun x y H Q => x = .ref a ∧ ∃ z, y = .str z ∧ @OK _ (kvs.lookup z) ⟨fun v => Q v H⟩
theorem lookup_in {z : Str} {v : V} : ∀ {l : List (Str × V)}, l.lookup z = some v → (z, v) ∈ l
  | [], e => nomatch e
  | (y, u) :: r, e => by
    rw [List.lookup_cons] at e
    cases h : z == y with
    | true =>
      rw [h] at e
      cases e
      rw [beq_iff_eq.mp h]
      exact List.mem_cons_self
    | false =>
      rw [h] at e
      exact List.mem_cons_of_mem _ (lookup_in e)
theorem ix_cd {X : Cx} {a : Addr} {kvs : List (Str × V)} (D : ∃ es n, KDict X.K X.w a es n) (hv : ∀ z v, (z, v) ∈ kvs → ∃ u, PySem.W.nsIn X.K a z = some (some u) ∧ RelV v u) : IxR X (rCd a kvs) := ixOf ix_kdict fun x y H Q q => by
  obtain ⟨rfl, z, rfl, q⟩ := q
  obtain ⟨v, e, q⟩ := OK.out q
  obtain ⟨es, n, D⟩ := D
  obtain ⟨u, e1, e2⟩ := hv z v (lookup_in e)
  exact ⟨a, z, v, rfl, rfl, ⟨es, n, u, D.at_, D.lit, e1, e2⟩, q⟩
theorem r_cd {a : Addr} {kvs : List (Str × V)} {z : Str} {H : Hp} {Q : VK} : @aR (rCd a kvs) (.ref a) (.str z) H ⟨Q⟩ = @OK _ (kvs.lookup z) ⟨fun v => Q v H⟩ := propext ⟨fun ⟨_, y, e, q⟩ => by cases e; exact q, fun q => ⟨rfl, z, rfl, q⟩⟩
theorem aM_pop {l : Addr} {H : Hp} {Q : VK} : @aM rPop (.ref l) [] H ⟨Q⟩ = @OK _ (lstO (H l)) ⟨fun xs => @OK _ xs[xs.length - 1]? ⟨fun y => @Md H l (.lst xs.dropLast) ⟨fun H' => Q y H'⟩⟩⟩ := propext ⟨fun ⟨a, xs, y, e1, _, e3, e4, q⟩ => by
    cases e1
    exact OK.by (x := xs) (by rw [e3]; rfl) (OK.by e4 fun H' n => by rw [n.eq]; exact q), fun h => by
    obtain ⟨xs, e, h⟩ := OK.out h
    obtain ⟨y, e2, h⟩ := OK.out h
    exact ⟨l, xs, y, rfl, rfl, lstO_at e, e2, h _ ⟨rfl⟩⟩⟩
theorem aM_popAt {l : Addr} {i : Int} {H : Hp} {Q : VK} : @aM rPopAt (.ref l) [.int i] H ⟨Q⟩ = @OK _ (lstO (H l)) ⟨fun xs => @Cd (-(2 ^ 63) ≤ i ∧ i < 2 ^ 63) ⟨@OK _ (seqIndex? i xs.length) ⟨fun k => @OK _ xs[k]? ⟨fun y => @Md H l (.lst (xs.eraseIdx k)) ⟨fun H' => Q y H'⟩⟩⟩⟩⟩ := propext ⟨fun ⟨a, xs, j, k, y, e1, e2, e3, b1, b2, e4, e5, q⟩ => by
    cases e1
    cases e2
    exact OK.by (x := xs) (by rw [e3]; rfl) ⟨⟨b1, b2⟩, OK.by e4 (OK.by e5 fun H' n => by rw [n.eq]; exact q)⟩, fun h => by
    obtain ⟨xs, e, h⟩ := OK.out h
    obtain ⟨k, e2, h2⟩ := OK.out h.2
    obtain ⟨y, e3, h3⟩ := OK.out h2
    exact ⟨l, xs, i, k, y, rfl, rfl, lstO_at e, h.1.1, h.1.2, e2, e3, h3 _ ⟨rfl⟩⟩⟩
theorem un_nx {D : Ends} {i : Nat} {σ : L2.St} {H : Hp} : (Ends.un D i).nx σ H = D.nx (σ.set i none) H := rfl
theorem in_some {i : Nat} {ts : Addr → Value → Option Addr → TS} {a : Addr} {cls : Value} {d : Option Addr} {D : Ends} {σ : L2.St} {H : Hp} : inSuite (some i) ts a cls d D σ H = ts a cls d (Ends.un D i) (σ.set i (some (.ref a))) H := rfl
theorem in_none {ts : Addr → Value → Option Addr → TS} {a : Addr} {cls : Value} {d : Option Addr} {D : Ends} {σ : L2.St} {H : Hp} : inSuite none ts a cls d D σ H = ts a cls d D σ H := rfl
theorem lk2a {f g : Str} {x y : V} (h : f ≠ g) : List.lookup f [(g, y), (f, x)] = some x := by
  rw [List.lookup_cons, beq_eq_false_iff_ne.mpr h]
  show List.lookup f [(f, x)] = _
  rw [List.lookup_cons, beq_self_eq_true]
theorem lk2b {g : Str} {l : List (Str × V)} {y : V} : List.lookup g ((g, y) :: l) = some y := by rw [List.lookup_cons, beq_self_eq_true]
theorem Xf.snd {K : PySem.W.Frag} {a C dd : Addr} {f g : Str} {i : Nat} {σ : L2.St} {H : Hp} {Q : VK} {x y : V} (k : XfOk K C f) (h : H dd = some (.xd [(g, y), (f, x)])) (hs : σ[i]? = some (some (.ref a))) (n : f ≠ g) (q : Q x H) : uXf K a (.ref C) (some dd) f i σ H Q := Xf.by k hs h (lk2a n) q
theorem Xf.fst {K : PySem.W.Frag} {a C dd : Addr} {g : Str} {i : Nat} {σ : L2.St} {H : Hp} {Q : VK} {y : V} {l : List (Str × V)} (k : XfOk K C g) (h : H dd = some (.xd ((g, y) :: l))) (hs : σ[i]? = some (some (.ref a))) (q : Q y H) : uXf K a (.ref C) (some dd) g i σ H Q := Xf.by k hs h lk2b q
end U
end

section
namespace U
open PySem PySem.Spec PyProof.Rows L2
theorem fo_data {K : PySem.W.Frag} {C : Addr} {o : Obj} {nm : Str} {at_ g : Value} (c : PySem.W.hasDictIn K C = true) (h1 : PySem.W.findIn K (.ref C) nm = some (some at_)) (h2 : PySem.W.specialIn K at_ "__get__" = some (some g)) (h3 : PySem.W.takesIn K at_ = some true) :
    PySem.W.findObj K C (some o) nm = some (.bind g at_) := PySem.W.findObj_data (by obtain ⟨cd, hc, _⟩ := PySem.W.any_some c; rw [hc]; rfl) h1 h2 h3
theorem cls_field {prog : Program} {w : World} {A : Around} {E : Value → Shared → Prop} {s : Shared} {K : PySem.W.Frag} {x D : Addr} {ox dob : Obj} {Q : Option Value → Shared → Prop} (T : ExcC K D) (KI : K.In s.heap) (I : PySem.W.InstAt s.heap x ox D (some dob))
    (done_ : Q (some (.ref D)) { s with toks := s.toks + 1 }) : wpAny (model prog w) A (PySem.getAttr? (.ref x) "__class__") Q E s := by
  have found := fo_data (o := dob) T.hd T.ha T.hn T.ht
  obtain ⟨hp, gg, dr, tk, oS⟩ := s
  have ty := I.type (M := model prog w)
  have isE : PySem.W.Looks (model prog w) hp (isInstance (.ref x) (.type "BaseException")) true := ty.andThen (PySem.W.looks_subIn KI T.hs)
  have noO : (Value.builtin "BaseException.__getattribute__" == Value.builtin "object.__getattribute__") = false := by decide +kernel
  have noH : (onTheHeap (Value.ref D) && Value.builtin "BaseException.__getattribute__" == Value.builtin "object.__getattribute__") = false := noO
  unfold getAttr? getAttrBy? getAttrBy
  refine wpAny_bind (wpAny_mkText (wpAny_bind (wpAny_attempt (wpAny_holding (wpAny_bind (ty.at (wpAny_bind ((PySem.W.looks_findIn KI T.hg).at ?_))))))))
  show wpAny _ _ (if (onTheHeap (Value.ref D) && Value.builtin "BaseException.__getattribute__" == Value.builtin "object.__getattribute__") = true then _ else _) _ _ _
  rw [noH, if_neg Bool.false_ne_true]
  unfold getAttrByItsOwn hookBefore
  refine wpAny_bind ?_
  rw [if_pos (show onTheHeap (.ref D) = true from by rfl)]
  refine (PySem.W.looks_findIn KI T.hk).at (wpAny_bind (wpAny_attempt (wpAny_holding ?_)))
  unfold callGetattribute
  rw [show (false && onTheHeap (Value.builtin "BaseException.__getattribute__")) = false from rfl, if_neg Bool.false_ne_true]
  unfold boundAndCalled
  rw [PySem.F.excAttr_ValueError.ga.bind (Value.ref x)]
  refine wpAny_bind (wpAny_pure ?_)
  show wpAny _ _ (call (.builtin "BaseException.__getattribute__") [.ref x, .str "__class__" tk]) _ _ _
  refine wpAny_call (codeAny_call_builtin PySem.F.excAttr_ValueError.ga.plain PySem.F.entry_bexc_ga
    (@PySem.W.check_slot (model prog w) _ _ ⟨hp, gg, dr, tk + 1, oS⟩ "BaseException.__getattribute__" "BaseException" "__getattribute__" (.ref x) [.str "__class__" tk] [] _ (by decide +kernel) (by decide +kernel) isE (PySem.F.args_bexc_ga (.ref x) (.str "__class__" tk)) ?_))
  unfold Builtin.«object.__getattribute__»
  refine wpAny_bind (wpAny_of_eq (a := ((Value.ref x : Value), [Value.str "__class__" tk])) (by first | rfl | (simp only [slotArgs]; rfl)) (wpAny_bind (wpAny_pure (wpAny_bind (ty.at (wpAny_bind ((PySem.W.looks_find KI I found).at ?_)))))))
  show wpAny _ _ (holding [Value.builtin "object.__class__"] (call (.builtin "getset_descriptor.__get__") [.builtin "object.__class__", .ref x, .ref D]) >>= ret) _ _ _
  refine wpAny_bind (wpAny_holding (wpAny_call (PySem.W.class_get (s := ⟨hp, gg, dr, tk + 1, oS⟩) (ox := ox) (od := some dob) KI I T.hm (wpAny_pure ?_))))
  show wpAny _ _ (handedOut (.ref D)) _ _ _
  rw [PySem.W.handedOut_of (v := Value.ref D) rfl]
  first
    | exact wpAny_pure (wpAny_pure done_)
    | exact wpAny_pure done_
    | exact wpAny_pure (wpAny_bind (wpAny_pure (wpAny_pure done_)))
theorem kit_field {K : PySem.W.Frag} {x D : Addr} {ox dob : Obj} (T : ExcC K D) : PySem.W.KitX K (.ref x) (.ref D) (fun h => PySem.W.InstAt h x ox D (some dob)) where
  ty := fun _ _ _ I => I.type
  it := fun _ _ KI _ => by
    obtain ⟨cd, hc, _⟩ := PySem.W.any_some T.hd
    unfold PySem.W.clsIn at hc
    split at hc
    · rename_i ho
      intro A' Q' E' s' keep q
      unfold isType loadHead
      exact wpAny_bind (wpAny_loadPart (keep _ _ (KI _ _ ho)) (wpAny_pure q))
    · cases hc
  ne := fun h tp dd its n sl KI htp => by
    obtain ⟨cd, hc, _⟩ := PySem.W.any_some T.hd
    refine Bool.eq_false_iff.mpr fun same => ?_
    have e : D = tp := Value.ref.inj (beq_iff_eq.mp same)
    rw [← e] at htp
    unfold PySem.W.clsIn at hc
    split at hc
    · rename_i ho
      have z := (KI _ _ ho).symm.trans htp
      cases z
    · cases hc
  ca := fun KI I k => cls_field T KI I k
def rIsF (K : PySem.W.Frag) (a : Addr) (cls : Value) (d : Option Addr) (c : V) (cv : Value) : List V → Hp → VK → Prop := fun xs H Q => ∃ (D : Addr) (b : Bool), cls = .ref D ∧ ExcC K D ∧ (d = none ∨ ∃ dd fs, d = some dd ∧ H dd = some (.xd fs)) ∧ xs = [.ref a, c] ∧ PySem.W.kitOne K (.ref D) cv = some b ∧ Q (.bl b) H
theorem call_isF {X : Cx} {a : Addr} {oe : Obj} {cls : Value} {d : Option Addr} {pn : List (Addr × Obj)} {c : V} {cv : Value} (hz : Zc cls d oe) (hf : ∃ vs, oe.data = .fields vs) (hc : ∀ u, RelV c u → u = cv) : CallR (X.suite a ((a, oe) :: pn)) (.builtin "isinstance") (rIsF X.K a cls d c cv) := by
  intro pins s σ H xs us Q I r h
  obtain ⟨D, b, rfl, T, hd, rfl, e, q⟩ := h
  rcases hd with rfl | ⟨dd, fs, rfl, hx⟩
  · exact call_isE T hz hf pins s σ H _ us Q I r ⟨c, cv, b, rfl, hc, e, q⟩
  · cases r with
    | cons rx rr => cases rr with
      | cons rt rr =>
        cases rr
        cases rx
        have ec := hc _ rt
        subst ec
        obtain ⟨at1, _⟩ := I.pin (a, oe) (List.mem_append.mpr (.inl List.mem_cons_self))
        obtain ⟨vs, hv⟩ := hf
        have hx2 : ObjOk X.prog X.w H s.heap dd (.xd fs) := I.hok dd _ hx
        obtain ⟨mA, hns, _⟩ := hx2
        obtain ⟨od, ho, _⟩ := lookIn_ns hns
        have J : PySem.W.InstAt s.heap a oe D (some od) := ⟨at1, hz.1, by unfold PySem.W.notCls; rw [hv] <;> rfl, by rw [hz.2]; exact ho⟩
        exact PySem.W.kia_one (kit_field T) I.kIn J e (fun z => nomatch z) fun tk => ⟨.bl b, H, I.kept (t' := tk) fun _ _ z => z, rfl, q⟩
theorem r_isF {K : PySem.W.Frag} {a D : Addr} {d : Option Addr} {c : V} {cv : Value} {b : Bool} {H : Hp} {Q : VK} (T : ExcC K D) (hd : d = none ∨ ∃ dd fs, d = some dd ∧ H dd = some (.xd fs)) (e : PySem.W.kitOne K (.ref D) cv = some b) (q : Q (.bl b) H) : @aC (rIsF K a (.ref D) d c cv) [.ref a, c] H ⟨Q⟩ := ⟨D, b, rfl, T, hd, rfl, e, q⟩
theorem rel_ref {c : Addr} : ∀ u, RelV (.ref c) u → u = .ref c := fun _ z => z
theorem rel_ty {n : String} : ∀ u, RelV (.ty n) u → u = .type n := fun _ z => z
end U
end

section
namespace U
open PySem PySem.Spec PyProof.Rows L2
section
variable {X : Cx} {H : Hp} {Q : VK} {i j : Int} {a : Str}
def rDivm : List V → Hp → VK → Prop := fun xs H Q => match xs with
  | [.int i, .int j] => @Cd (CDivP i j) ⟨@Al H (.tup [.int (i / j), .int (i % j)]) ⟨Q⟩⟩
  | _ => False
theorem call_divmodU : CallR X (.builtin "divmod") rDivm := crOf call_divmodW fun xs H Q q => by
  unfold rDivm at q
  split at q
  · exact ⟨_, _, rfl, q.1, fun p hp => q.2 p _ ⟨hp, rfl⟩⟩
  · exact q.elim
theorem r_divm : @aC rDivm [.int i, .int j] H ⟨Q⟩ = @Cd (CDivP i j) ⟨@Al H (.tup [.int (i / j), .int (i % j)]) ⟨Q⟩⟩ := rfl
def rAbsU : List V → Hp → VK → Prop := fun xs H Q => match xs with
  | [.int i] => Q (.int (if i < 0 then -i else i)) H
  | _ => False
theorem call_absU : CallR X (.builtin "abs") rAbsU := crOf call_abs fun xs H Q q => by
  unfold rAbsU at q
  split at q
  · exact ⟨_, rfl, q⟩
  · exact q.elim
theorem r_abs : @aC rAbsU [.int i] H ⟨Q⟩ = Q (.int (if i < 0 then -i else i)) H := rfl
def rMinU : List V → Hp → VK → Prop := fun xs H Q => match xs with
  | [.int i, .int j] => Q (.int (if j < i then j else i)) H
  | _ => False
theorem call_minU (hc : X.calm = true) : CallR X (.builtin "min") rMinU := crOf (call_min2 hc) fun xs H Q q => by
  unfold rMinU at q
  split at q
  · exact ⟨_, _, rfl, q⟩
  · exact q.elim
def rMaxU : List V → Hp → VK → Prop := fun xs H Q => match xs with
  | [.int i, .int j] => Q (.int (if j > i then j else i)) H
  | _ => False
theorem call_maxU (hc : X.calm = true) : CallR X (.builtin "max") rMaxU := crOf (call_max2 hc) fun xs H Q q => by
  unfold rMaxU at q
  split at q
  · exact ⟨_, _, rfl, q⟩
  · exact q.elim
theorem r_min : @aC rMinU [.int i, .int j] H ⟨Q⟩ = Q (.int (if j < i then j else i)) H := rfl
theorem r_max : @aC rMaxU [.int i, .int j] H ⟨Q⟩ = Q (.int (if j > i then j else i)) H := rfl
def rStrI : List V → Hp → VK → Prop := fun xs H Q => match xs with
  | [.int i] => @Cd (i.natAbs.log2 < 1920) ⟨Q (.str (toString i)) H⟩
  | _ => False
theorem call_strI : CallR X (.type "str") rStrI := crOf call_str_int fun xs H Q q => by
  unfold rStrI at q
  split at q
  · exact ⟨_, rfl, q.1, q.2⟩
  · exact q.elim
theorem r_strI : @aC rStrI [.int i] H ⟨Q⟩ = @Cd (i.natAbs.log2 < 1920) ⟨Q (.str (toString i)) H⟩ := rfl
def rIntT : List V → Hp → VK → Prop := fun xs H Q => match xs with
  | [.str a] => @Cd (a.length ≤ 640) ⟨@OK _ (PySem.intText? a) ⟨fun n => Q (.int n) H⟩⟩
  | _ => False
theorem call_intT : CallR X (.type "int") rIntT := crOf call_int_str fun xs H Q q => by
  unfold rIntT at q
  split at q
  · obtain ⟨n, e, q2⟩ := OK.out q.2
    exact ⟨_, n, rfl, e, q.1, q2⟩
  · exact q.elim
theorem r_intT : @aC rIntT [.str a] H ⟨Q⟩ = @Cd (a.length ≤ 640) ⟨@OK _ (PySem.intText? a) ⟨fun n => Q (.int n) H⟩⟩ := rfl
def rZf : V → List V → Hp → VK → Prop := fun x xs H Q => match x, xs with
  | .str a, [.int i] => @Cd (PadOk i = true) ⟨Q (.str (Txt.zfill a i)) H⟩
  | _, _ => False
theorem mt_zfU : MtR X "str.zfill" rZf := mtOf mt_zfill fun x xs H Q q => by
  unfold rZf at q
  split at q
  · exact ⟨_, _, rfl, rfl, q.1, q.2⟩
  · exact q.elim
theorem aM_zf : @aM rZf (.str a) [.int i] H ⟨Q⟩ = @Cd (PadOk i = true) ⟨Q (.str (Txt.zfill a i)) H⟩ := rfl
def rLs : V → List V → Hp → VK → Prop := fun x xs H Q => match x, xs with
  | .str a, [.str b] => @Cd (a.length ≤ sizeLine) ⟨Q (.str (Txt.lstripChars a b)) H⟩
  | _, _ => False
def rRs : V → List V → Hp → VK → Prop := fun x xs H Q => match x, xs with
  | .str a, [.str b] => @Cd (a.length ≤ sizeLine) ⟨Q (.str (Txt.rstripChars a b)) H⟩
  | _, _ => False
def rSpl : V → List V → Hp → VK → Prop := fun x xs H Q => match x, xs with
  | .str a, [.str b] => @Cd ((b.length == 0) = false ∧ a.length + 2 ≤ sizeLine) ⟨@Al H (.lst ((Txt.split a b).map V.str)) ⟨Q⟩⟩
  | _, _ => False
theorem mt_lsU : MtR X "str.lstrip" rLs := mtOf mt_lstripChars fun x xs H Q q => by
  unfold rLs at q
  split at q
  · exact ⟨_, _, rfl, rfl, q.1, q.2⟩
  · exact q.elim
theorem mt_rsU : MtR X "str.rstrip" rRs := mtOf mt_rstripChars fun x xs H Q q => by
  unfold rRs at q
  split at q
  · exact ⟨_, _, rfl, rfl, q.1, q.2⟩
  · exact q.elim
theorem mt_splU : MtR X "str.split" rSpl := mtOf mt_split fun x xs H Q q => by
  unfold rSpl at q
  split at q
  · exact ⟨_, _, rfl, rfl, q.1.1, q.1.2, fun p hp => q.2 p _ ⟨hp, rfl⟩⟩
  · exact q.elim
theorem aM_ls {b : Str} : @aM rLs (.str a) [.str b] H ⟨Q⟩ = @Cd (a.length ≤ sizeLine) ⟨Q (.str (Txt.lstripChars a b)) H⟩ := rfl
theorem aM_rs {b : Str} : @aM rRs (.str a) [.str b] H ⟨Q⟩ = @Cd (a.length ≤ sizeLine) ⟨Q (.str (Txt.rstripChars a b)) H⟩ := rfl
theorem aM_spl {b : Str} : @aM rSpl (.str a) [.str b] H ⟨Q⟩ = @Cd ((b.length == 0) = false ∧ a.length + 2 ≤ sizeLine) ⟨@Al H (.lst ((Txt.split a b).map V.str)) ⟨Q⟩⟩ := rfl
theorem tyS {K : PySem.W.Frag} {z : Str} : L2.tyV K "str" (.str z) H = True := eq_true (by first | trivial | exact .inl rfl | exact ⟨z, rfl⟩ | rfl)
def rMulX : R2 := rIntC CMulX fun i j => .int (i * j)
theorem op_mulXU : OpR X (binaryOp .Mult) rMulX := opOf op_mulX fun _ _ _ _ => rIntC_of
theorem r_mulX : @aR rMulX (.int i) (.int j) H ⟨Q⟩ = @Cd (CMulX i j) ⟨Q (.int (i * j)) H⟩ := rfl
def uRev (te : TE) : TE := fun σ H Q => te σ H fun x H1 => match x with
  | .ref a => @OK _ (lstO (H1 a)) ⟨fun xs => @Al H1 (.lst xs.reverse) ⟨Q⟩⟩
  | _ => False
theorem pe_weak {e : Expr} {te : TE} (he : PE X e te) : PE X e (fun σ H Q => ∃ Q0 : VK, te σ H Q0 ∧ ∀ v H', Q0 v H' → Q v H') :=
  ⟨fun pins s σ H Q I ⟨Q0, h, m⟩ => wpAny_mono (he.run pins s σ H Q0 I h) (fun _ _ ⟨x, H', J, r, q⟩ => ⟨x, H', J, r, m _ _ q⟩) fun _ _ z => z⟩
theorem pe_uRev {e : Expr} {te : TE} {k : Nat} {p1 p2 p3 pos : Pos} (he : PE X e te) : PE X (.Subscript e (.Slice none none (some (.UnaryOp .USub (.Constant (.int 1) k p1) p2)) p3) pos) (uRev te) :=
  peOf (pe_revL (pe_weak he)) fun σ H Q q => ⟨_, q, fun v H' h => by
    cases v with
    | ref a =>
      obtain ⟨xs, e, h⟩ := OK.out h
      exact ⟨a, xs, rfl, .inl (.inl (lstO_at e)), fun p hp => h p _ ⟨hp, rfl⟩⟩
    | _ => exact False.elim h⟩
theorem r_rev {te : TE} {σ : L2.St} : uRev te σ H Q = te σ H fun x H1 => @aU (fun x H1 Q => match x with
  | .ref a => @OK _ (lstO (H1 a)) ⟨fun xs => @Al H1 (.lst xs.reverse) ⟨Q⟩⟩
  | _ => False) x H1 ⟨Q⟩ := rfl
theorem r_revR {p : Addr} : @aU (fun x H1 Q => match x with
  | .ref a => @OK _ (lstO (H1 a)) ⟨fun xs => @Al H1 (.lst xs.reverse) ⟨Q⟩⟩
  | _ => False) (.ref p) H ⟨Q⟩ = @OK _ (lstO (H p)) ⟨fun xs => @Al H (.lst xs.reverse) ⟨Q⟩⟩ := rfl
theorem while_inv {c : TT} {tb : TS} {D : Ends} {σ : L2.St} (Pv : L2.St → Hp → Prop) (μ : L2.St → Hp → Nat) (h0 : Pv σ H)
    (hs : ∀ σ H (R : Bool → Hp → Prop), Pv σ H → (∀ H1, tb { D with nx := fun σ' H' => Pv σ' H' ∧ μ σ' H' < μ σ H, ct := fun σ' H' => Pv σ' H' ∧ μ σ' H' < μ σ H, bk := D.nx } σ H1 → R true H1) → (∀ H1, D.nx σ H1 → R false H1) → c σ H R) : tWhile c tb D σ H := by
  refine ⟨fun m σ H => m = μ σ H ∧ Pv σ H, ⟨_, rfl, h0⟩, ?_⟩
  rintro m σ H ⟨rfl, p⟩
  refine hs σ H _ p (fun H1 h => ?_) fun H1 h => ?_
  · exact ⟨_, fun σ' H' q => ⟨_, q.2, rfl, q.1⟩, h⟩
  · exact h
theorem r_for3 {g : TG} {tb : TS} {ts : TA} {D : Ends} {σ : L2.St} : tFor (iRng3 ts) g tb D σ H = ts σ H fun vs H1 => ∃ (i j c : Int) (n : Nat), vs = [.int i, .int j, .int c] ∧ RgC i j c n ∧ loopJ (Itc i c n) g tb D σ H1 := rfl
end
end U
end

section
namespace Hd
open PySem PySem.Spec PyProof.Rows L2 He
def obsU (fa : List Fa) (fn : List DefD) (ex : PySem.W.Frag → Bool) (K : PySem.W.Frag) : AlD := ((fa.all fun f => f.ok K) && (ex K && fn.all fun d => d.ok K), fn.map fun d => fnW K d.at_)
def SaysU (fa : List Fa) (fn : List DefD) (ex : PySem.W.Frag → Bool) (K : PySem.W.Frag) : Prop := obsU fa fn ex K = valD fn
def obsUG (n : Nat) (fa : List Fa) (fn : List DefD) (ex : PySem.W.Frag → Bool) (g : Addr → Option Obj) : AlD := obsU fa fn ex (frG g (asD g n ++ [PySem.cStatics]))
def hookU (n : Nat) (fa : List Fa) (fn : List DefD) (ex : PySem.W.Frag → Bool) : PySem.W.Hook where
  α := AlD
  obs := fun s => obsUG n fa fn ex s.heap.get?
  val := fun _ => valD fn
  says := fun _ h => ∃ K : PySem.W.Frag, K.In h ∧ SaysU fa fn ex K
  of := fun _ _ e => ⟨_, frG_in, e⟩
  keeps := fun _ _ _ ⟨K, hK, c⟩ k => ⟨K, PySem.W.Frag.In.keeps hK k, c⟩
theorem obsUG_eq {n : Nat} {fa : List Fa} {fn : List DefD} {ex : PySem.W.Frag → Bool} {g : Addr → Option Obj} {s : Shared} (h : ∀ a, g a = s.heap.get? a) : obsUG n fa fn ex g = (hookU n fa fn ex).obs s := by
  have e : g = s.heap.get? := funext h
  rw [e] <;> rfl
section
variable {fa : List Fa} {fn : List DefD} {ex : PySem.W.Frag → Bool} {K : PySem.W.Frag}
theorem SaysU.fact (c : SaysU fa fn ex K) (i : Nat) {f : Fa} (h : fa[i]? = some f := by rfl) : f.ok K = true := by
  have c1 := (ba (show ((fa.all fun f => f.ok K) && (ex K && fn.all fun d => d.ok K)) = true from congrArg (fun z : AlD => z.1) c)).1
  exact List.all_eq_true.mp c1 f (List.mem_of_getElem? h)
theorem SaysU.more (c : SaysU fa fn ex K) : ex K = true := (ba (ba (show ((fa.all fun f => f.ok K) && (ex K && fn.all fun d => d.ok K)) = true from congrArg (fun z : AlD => z.1) c)).2).1
theorem SaysU.def_ (c : SaysU fa fn ex K) (i : Nat) {d : DefD} (h : fn[i]? = some d := by rfl) : ∃ fd, FunD K d.name d.qual d.params d.body d.scope (d.dvs K) (d.kws K) (fAd K d.at_) fd := by
  have c2 := (ba (ba (show ((fa.all fun f => f.ok K) && (ex K && fn.all fun d => d.ok K)) = true from congrArg (fun z : AlD => z.1) c)).2).2
  have e : fn.map (fun d => fnW K d.at_) = fn.map DefD.val := congrArg (fun z : AlD => z.2) c
  have e2 : (fn.map fun d => fnW K d.at_)[i]? = (fn.map DefD.val)[i]? := by rw [e]
  rw [List.getElem?_map, List.getElem?_map, h] at e2
  exact DefD.funD (Option.some.inj e2) (List.all_eq_true.mp c2 d (List.mem_of_getElem? h))
end
def ctupB (K : PySem.W.Frag) (x : Str) (vs : List V) : Bool := (Fa.glo x).ok K && tupB K x (vs.map fun v => match v with | .str z => .str z | .int i => .int i | .bl b => .bl b | _ => .non)
theorem ctupB_ok {K : PySem.W.Frag} {x : Str} {vs : List V} (h : ctupB K x vs = true) (hv : (vs.map fun v => (match v with | .str z => .str z | .int i => .int i | .bl b => .bl b | _ => .non : Dv)).map (Dv.v K) = vs) :
    (Fa.glo x).ok K = true ∧ ∀ H, SqT K H (ga K x) vs := by
  obtain ⟨h1, h2⟩ := ba h
  refine ⟨h1, fun H => ?_⟩
  have := tupB_ok h2 H
  rw [hv] at this
  exact this
def cvalB (K : PySem.W.Frag) (c f : Str) (v : V) : Bool := PySem.W.readsIn K (ga K c) (.type "type") && (eqO (PySem.W.specialIn K (.ref (ga K c)) "__getattribute__") (some (some (.builtin "type.__getattribute__"))) && (match PySem.W.findCls K (.ref (ga K c)) (.type "type") f with
  | some (.val u) => relB v u
  | _ => false))
theorem cvalB_ok {K : PySem.W.Frag} {c f : Str} {v : V} (h : cvalB K c f v = true) : ClX.CRead K (ga K c) (.type "type") ∧ ∃ u, ClX.CVal K (ga K c) (.type "type") f v u := by
  obtain ⟨h1, h⟩ := ba h
  obtain ⟨h2, h3⟩ := ba h
  refine ⟨⟨h1, eqO_ok h2⟩, ?_⟩
  split at h3
  · rename_i u e
    exact ⟨u, e, relB_ok h3⟩
  · cases h3
structure DefU where
  ad : PySem.W.Frag → Addr
  nm : Str
  qn : Str
  ps : Arguments
  bd : List Stmt
  sc : Scope
  dfl : List Dv := []
  kwd : List (Str × Dv) := []
def fdAt (K : PySem.W.Frag) (a : Addr) : Option FuncData := (K.lookup a).bind fun o => match o.data with
  | .func g => some g
  | _ => none
def DefU.obs (K : PySem.W.Frag) (d : DefU) : FnW := (fdAt K (d.ad K)).map fun g => (g.name, g.qualname, g.params, g.body, g.scope, g.globals, g.closure, g.builtins)
def DefU.due (d : DefU) : FnW := some (d.nm, d.qn, d.ps, .stmts d.bd, d.sc, mainGlobals, [], builtinsNs)
def DefU.dvs (K : PySem.W.Frag) (d : DefU) : List V := d.dfl.map (Dv.v K)
def DefU.kws (K : PySem.W.Frag) (d : DefU) : List (Str × V) := d.kwd.map fun q => (q.1, q.2.v K)
def DefU.fine (K : PySem.W.Frag) (d : DefU) : Bool := match fdAt K (d.ad K) with
  | some g => PySem.W.keepIn K (.ref (d.ad K)) && (PySem.W.codeIn K g.code d.qn && (dflB K g.defaults (d.dvs K) && kwdB K g.kwdefaults (d.kws K)))
  | none => false
theorem DefU.says {K : PySem.W.Frag} {d : DefU} (e : d.obs K = d.due) (c : d.fine K = true) : ∃ g, FunD K d.nm d.qn d.ps d.bd d.sc (d.dvs K) (d.kws K) (d.ad K) g := by
  cases ea : fdAt K (d.ad K) with
  | none => unfold DefU.fine at c; rw [ea] at c; cases c
  | some g =>
    unfold DefU.fine at c
    unfold DefU.obs DefU.due at e
    rw [ea] at c e
    obtain ⟨b1, c⟩ := ba c
    obtain ⟨b2, c⟩ := ba c
    obtain ⟨b3, b4⟩ := ba c
    unfold fdAt at ea
    cases ek : K.lookup (d.ad K) with
    | none => rw [ek] at ea; cases ea
    | some o =>
      rw [ek] at ea
      rcases o with ⟨w1, w2, w3, w4⟩
      cases w3 <;> first | cases ea | skip
      have e := Option.some.inj e
      simp only [Prod.mk.injEq] at e
      rcases g with ⟨g1, g2, g3, g4, g5, g6, g7, g8, g9, g10, g11, g12, g13, g14, g15⟩
      simp only at e b2 b3 b4
      obtain ⟨u1, u2, u3, u4, u5, u6, u7, u8⟩ := e
      subst u1 u2 u3 u4 u5 u6 u7 u8
      exact ⟨_, ⟨w1, w2, g8, g9, g10, g11, g12, g13, g14, w4, rfl, ek, b2, dflB_ok b3, kwdB_ok b4⟩, b1⟩
abbrev AlV : Type := AlD × List (Option (List (Option (Str × Int))))
def obsV (fa : List Fa) (fn : List DefU) (ts : List Tab) (ex : PySem.W.Frag → Bool) (K : PySem.W.Frag) : AlV := (((fa.all fun f => f.ok K) && (ex K && fn.all fun d => d.fine K), fn.map fun d => d.obs K), ts.map fun t => dicW K (t.1 K))
def dueV (fn : List DefU) (ts : List Tab) (w : World) : AlV := ((true, fn.map DefU.due), ts.map fun t => some (keysIn w.params t.2))
def SaysV (fa : List Fa) (fn : List DefU) (ts : List Tab) (ex : PySem.W.Frag → Bool) (w : World) (K : PySem.W.Frag) : Prop := obsV fa fn ts ex K = dueV fn ts w
def obsVG (n : Nat) (fa : List Fa) (fn : List DefU) (ts : List Tab) (ex : PySem.W.Frag → Bool) (g : Addr → Option Obj) : AlV := obsV fa fn ts ex (frG g (asD g n ++ [PySem.cStatics]))
def hookV (n : Nat) (fa : List Fa) (fn : List DefU) (ts : List Tab) (ex : PySem.W.Frag → Bool) : PySem.W.Hook where
  α := AlV
  obs := fun s => obsVG n fa fn ts ex s.heap.get?
  val := fun w => dueV fn ts w
  says := fun w h => ∃ K : PySem.W.Frag, K.In h ∧ SaysV fa fn ts ex w K
  of := fun _ _ e => ⟨_, frG_in, e⟩
  keeps := fun _ _ _ ⟨K, hK, c⟩ k => ⟨K, PySem.W.Frag.In.keeps hK k, c⟩
theorem obsVG_eq {n : Nat} {fa : List Fa} {fn : List DefU} {ts : List Tab} {ex : PySem.W.Frag → Bool} {g : Addr → Option Obj} {s : Shared} (h : ∀ a, g a = s.heap.get? a) : obsVG n fa fn ts ex g = (hookV n fa fn ts ex).obs s := by
  rw [show g = s.heap.get? from funext h] <;> rfl
section
variable {fa : List Fa} {fn : List DefU} {ts : List Tab} {ex : PySem.W.Frag → Bool} {w : World} {K : PySem.W.Frag}
theorem SaysV.both (c : SaysV fa fn ts ex w K) : (fa.all fun f => f.ok K) = true ∧ ex K = true ∧ (fn.all fun d => d.fine K) = true := by
  have c1 : ((fa.all fun f => f.ok K) && (ex K && fn.all fun d => d.fine K)) = true := congrArg (fun z : AlV => z.1.1) c
  exact ⟨(ba c1).1, ba (ba c1).2⟩
theorem SaysV.fact (c : SaysV fa fn ts ex w K) (i : Nat) {f : Fa} (h : fa[i]? = some f := by rfl) : f.ok K = true := List.all_eq_true.mp c.both.1 f (List.mem_of_getElem? h)
theorem SaysV.more (c : SaysV fa fn ts ex w K) : ex K = true := c.both.2.1
theorem SaysV.def_ (c : SaysV fa fn ts ex w K) (i : Nat) {d : DefU} (h : fn[i]? = some d := by rfl) : ∃ g, FunD K d.nm d.qn d.ps d.bd d.sc (d.dvs K) (d.kws K) (d.ad K) g := by
  have e : fn.map (fun d => d.obs K) = fn.map DefU.due := congrArg (fun z : AlV => z.1.2) c
  have e2 := congrArg (fun l : List FnW => l[i]?) e
  simp only [List.getElem?_map, h, Option.map_some] at e2
  exact DefU.says (Option.some.inj e2) (List.all_eq_true.mp c.both.2.2 d (List.mem_of_getElem? h))
theorem SaysV.tab (c : SaysV fa fn ts ex w K) (i : Nat) {t : Tab} (h : ts[i]? = some t := by rfl) : ∃ es n, KDict K w (t.1 K) es n := by
  have e2 := congrArg (fun z : AlV => z.2[i]?) c
  simp only [obsV, dueV, List.getElem?_map, h, Option.map_some, Option.some.injEq] at e2
  exact dicW_ok e2
end
def tabVB (K : PySem.W.Frag) (a : Addr) (kvs : List (Str × V)) : Bool := kvs.all fun q => match PySem.W.nsIn K a q.1 with
  | some (some u) => relB q.2 u
  | _ => false
theorem tabVB_ok {K : PySem.W.Frag} {a : Addr} {kvs : List (Str × V)} (h : tabVB K a kvs = true) : ∀ z v, (z, v) ∈ kvs → ∃ u, PySem.W.nsIn K a z = some (some u) ∧ RelV v u := fun z v hm => by
  have h1 := List.all_eq_true.mp h _ hm
  split at h1
  · rename_i u e
    exact ⟨u, e, relB_ok h1⟩
  · cases h1
def excCB (K : PySem.W.Frag) (D : Addr) : Bool :=
  eqO (PySem.W.findIn K (.ref D) "__getattribute__") (some (some (.builtin "BaseException.__getattribute__"))) && (eqO (PySem.W.findIn K (.ref D) "__getattr__") (some none) && (decide (PySem.W.subIn K (.ref D) (.type "BaseException") = some true) && (PySem.W.hasDictIn K D &&
  (eqO (PySem.W.findIn K (.ref D) "__class__") (some (some (.builtin "object.__class__"))) && (eqO (PySem.W.specialIn K (.builtin "object.__class__") "__get__") (some (some (.builtin "getset_descriptor.__get__"))) && (decide (PySem.W.takesIn K (.builtin "object.__class__") = some true) &&
  decide (PySem.W.mroIn K D (.type "object") = some true)))))))
theorem excCB_ok {K : PySem.W.Frag} {D : Addr} (h : excCB K D = true) : ExcC K D := by
  obtain ⟨h1, h⟩ := ba h
  obtain ⟨h2, h⟩ := ba h
  obtain ⟨h3, h⟩ := ba h
  obtain ⟨h4, h⟩ := ba h
  obtain ⟨h5, h⟩ := ba h
  obtain ⟨h6, h⟩ := ba h
  obtain ⟨h7, h8⟩ := ba h
  exact ⟨eqO_ok h1, eqO_ok h2, of_decide_eq_true h3, h4, eqO_ok h5, eqO_ok h6, of_decide_eq_true h7, of_decide_eq_true h8⟩
def kitB (K : PySem.W.Frag) (c d : Addr) (b : Bool) : Bool := decide (PySem.W.kitOne K (.ref c) (.ref d) = some b)
theorem kitB_ok {K : PySem.W.Frag} {c d : Addr} {b : Bool} (h : kitB K c d b = true) : PySem.W.kitOne K (.ref c) (.ref d) = some b := of_decide_eq_true h
def exmB (K : PySem.W.Frag) (c d : Addr) (b : Bool) : Bool := decide (PySem.W.exmOne K (.ref c) (.ref d) = some b)
theorem exmB_ok {K : PySem.W.Frag} {c d : Addr} {b : Bool} (h : exmB K c d b = true) : PySem.W.exmOne K (.ref c) (.ref d) = some b := of_decide_eq_true h
def insTB (K : PySem.W.Frag) (D : Addr) : Bool :=
  PySem.W.plainGet K D Str.empty && (PySem.W.hasDictIn K D && (PySem.W.plainOver K D && (eqO (PySem.W.findIn K (.ref D) "__setattr__") (some (some (.builtin "object.__setattr__"))) &&
  (eqO (PySem.W.findIn K (.ref D) "__class__") (some (some (.builtin "object.__class__"))) && (eqO (PySem.W.specialIn K (.builtin "object.__class__") "__get__") (some (some (.builtin "getset_descriptor.__get__"))) && (decide (PySem.W.takesIn K (.builtin "object.__class__") = some true) &&
  decide (PySem.W.mroIn K D (.type "object") = some true)))))))
theorem insTB_ok {K : PySem.W.Frag} {D : Addr} (h : insTB K D = true) : U.InsT K D := by
  obtain ⟨h1, h⟩ := ba h
  obtain ⟨h2, h⟩ := ba h
  obtain ⟨h3, h⟩ := ba h
  obtain ⟨h4, h⟩ := ba h
  obtain ⟨h5, h⟩ := ba h
  obtain ⟨h6, h⟩ := ba h
  obtain ⟨h7, h8⟩ := ba h
  exact ⟨⟨h1, h2, h3, eqO_ok h4⟩, eqO_ok h5, eqO_ok h6, of_decide_eq_true h7, of_decide_eq_true h8⟩
def isoB (K : PySem.W.Frag) (C : Addr) : Bool := ([.non, .bl, .int, .str, .lst, .tup, .dict].all fun t : U.Ty => decide (PySem.W.kitOne K (.type t.name) (.ref C) = some false)) && (insTB K C && kitB K C C true)
theorem isoB_ok {K : PySem.W.Frag} {C : Addr} (h : isoB K C = true) : U.IsO K C (fun D => if D = C then some true else none) := by
  obtain ⟨h1, h⟩ := ba h
  obtain ⟨h2, h3⟩ := ba h
  refine ⟨fun t => of_decide_eq_true (List.all_eq_true.mp h1 t (by cases t <;> decide)), fun D b e => ?_⟩
  by_cases z : D = C
  · subst z
    rw [if_pos rfl] at e
    cases e
    exact ⟨insTB_ok h2, kitB_ok h3⟩
  · rw [if_neg z] at e
    cases e
def smR (K : PySem.W.Frag) (C : Addr) (m : Str) : Addr := match PySem.W.findCls K (.ref C) (.type "type") m with
  | some (.get _ (.ref p) _ _) => p
  | _ => 0
def smG (K : PySem.W.Frag) (C : Addr) (m : Str) : Addr := match PySem.W.recIn K (smR K C m) "staticmethod" with
  | some (.ref g :: _) => g
  | _ => 0
def smB (K : PySem.W.Frag) (C : Addr) (m : Str) : Bool := PySem.W.readsIn K C (.type "type") && (eqO (PySem.W.specialIn K (.ref C) "__getattribute__") (some (some (.builtin "type.__getattribute__"))) &&
  ((match PySem.W.findCls K (.ref C) (.type "type") m with
  | some (.get a b c d) => decide (a = .builtin "staticmethod.__get__" ∧ b = .ref (smR K C m) ∧ c = .none ∧ d = .ref C)
  | _ => false) && ((match PySem.W.recIn K (smR K C m) "staticmethod" with
  | some (x :: _) => decide (x = .ref (smG K C m))
  | _ => false) && PySem.W.keepIn K (.ref (smG K C m)))))
theorem smB_ok {K : PySem.W.Frag} {C : Addr} {m : Str} (h : smB K C m = true) : U.SMet K C m (smR K C m) (smG K C m) := by
  obtain ⟨h1, h⟩ := ba h
  obtain ⟨h2, h⟩ := ba h
  obtain ⟨h3, h⟩ := ba h
  obtain ⟨h4, h5⟩ := ba h
  refine ⟨⟨h1, eqO_ok h2⟩, ?_, ?_, h5⟩
  · split at h3
    · rename_i a b c d e
      obtain ⟨z1, z2, z3, z4⟩ := of_decide_eq_true h3
      rw [e, z1, z2, z3, z4]
    · cases h3
  · split at h4
    · rename_i x r e
      exact ⟨r, by rw [e, of_decide_eq_true h4]⟩
    · cases h4
def oexB (K : PySem.W.Frag) (C : Addr) : Bool := (match K.lookup C with
  | some ob => (match ob.data with
    | .cls cd => (match cd.mro, ob.slots.toList with
      | .ref D :: bm, [_, _, _, _, some (.builtin nw), _] => decide (ob.cls = .type "type") && (decide (D = C) && (decide (nw = "ValueError.__new__") && (!cd.hasDel && (cd.hasDict && PySem.HandSPX.refsVE bm))))
      | _, _ => false)
    | _ => false)
  | none => false) && (eqO (PySem.W.findIn K (.ref C) "__setattr__") (some (some (.builtin "object.__setattr__"))) && (decide (PySem.W.subIn K (.ref C) (.type "BaseException") = some true) && (decide (PySem.W.typeIn K (.ref C) = some (.type "type")) && PySem.W.keepIn K (.ref C))))
theorem oexB_ok {K : PySem.W.Frag} {C : Addr} (h : oexB K C = true) : OexC K C := by
  obtain ⟨h1, h⟩ := ba h
  obtain ⟨h2, h⟩ := ba h
  obtain ⟨h3, h⟩ := ba h
  obtain ⟨h4, h5⟩ := ba h
  refine ⟨?_, eqO_ok h2, of_decide_eq_true h3, of_decide_eq_true h4, h5⟩
  split at h1
  · rename_i ob eo
    split at h1
    · rename_i cd ed
      split at h1
      · rename_i D bm k0 k1 k2 k3 nw k5 em es
        obtain ⟨a1, h1⟩ := ba h1
        obtain ⟨a2, h1⟩ := ba h1
        obtain ⟨a3, h1⟩ := ba h1
        obtain ⟨a4, h1⟩ := ba h1
        obtain ⟨a5, a6⟩ := ba h1
        have a1 := of_decide_eq_true a1
        have a2 := of_decide_eq_true a2
        have a3 := of_decide_eq_true a3
        rcases ob with ⟨oc, od, odt, osl⟩
        rcases cd with ⟨c1, c2, c3, c4, c5, c6, c7, c8, c9, c10, c11⟩
        simp only at a1 ed em es a4 a5
        subst a1 a2 a3 ed em
        have a4 : c11 = false := by simpa using a4
        subst a4 a5
        have e : osl = #[k0, k1, k2, k3, some (.builtin "ValueError.__new__"), k5] := by
          rcases osl with ⟨l⟩
          simp only at es
          rw [es]
        subst e
        exact ⟨_, _, _, _, _, _, _, _, _, _, _, _, _, _, _, eo, a6⟩
      · cases h1
    · cases h1
  · cases h1
def iniA (K : PySem.W.Frag) (C : Addr) : Addr := He.ma K C "__init__"
def oxB (K : PySem.W.Frag) (C B : Addr) : Bool := oexB K C && (eqO (PySem.W.findIn K (.ref C) "__init__") (some (some (.ref (iniA K B)))) && decide (PySem.W.typeIn K (.ref (iniA K B)) = some (.type "function")))
theorem oxB_ok {K : PySem.W.Frag} {C B : Addr} (h : oxB K C B = true) : OexC K C ∧ PySem.W.findIn K (.ref C) "__init__" = some (some (.ref (iniA K B))) ∧ PySem.W.typeIn K (.ref (iniA K B)) = some (.type "function") := by
  obtain ⟨h1, h⟩ := ba h
  obtain ⟨h2, h3⟩ := ba h
  exact ⟨oexB_ok h1, eqO_ok h2, of_decide_eq_true h3⟩
def xfoB (K : PySem.W.Frag) (C : Addr) (f : Str) : Bool := xfB K C && eqO (PySem.W.findIn K (.ref C) f) (some none)
theorem xfoB_ok {K : PySem.W.Frag} {C : Addr} {f : Str} (h : xfoB K C f = true) : U.XfOk K C f := ⟨xfB_ok (ba h).1, eqO_ok (ba h).2⟩
def noB (K : PySem.W.Frag) (C : Addr) (f : Str) : Bool := eqO (PySem.W.findIn K (.ref C) f) (some none)
theorem noB_ok {K : PySem.W.Frag} {C : Addr} {f : Str} (h : noB K C f = true) : PySem.W.findIn K (.ref C) f = some none := eqO_ok h
def ww (w : World) (b : Bool) : World := { w with params := { w.params with followText := fun r => match r == "special-get-raises" with | true => b | false => w.params.followText r } }
theorem wwe (w : World) (b : Bool) (h : w.params.followText "special-get-raises" = b) : ww w b = w := by
  subst h
  obtain ⟨dr, pr⟩ := w
  unfold ww
  congr 1
  cases pr
  simp only
  congr 1
  funext r
  cases e : r == "special-get-raises" with
  | true => rw [beq_iff_eq.mp e]
  | false => rfl
end Hd
end

section
namespace U
open PySem PySem.Spec PyProof.Rows L2
theorem tyV_non {H : Hp} : tyV H .non = some .non := rfl
theorem tyV_bl {H : Hp} {b : Bool} : tyV H (.bl b) = some .bl := rfl
theorem tyV_int {H : Hp} {i : Int} : tyV H (.int i) = some .int := rfl
theorem tyV_str {H : Hp} {z : Str} : tyV H (.str z) = some .str := rfl
theorem tyV_ref {H : Hp} {p : Addr} : tyV H (.ref p) = match H p with
    | some (.lst _) => some .lst
    | some (.tup _) => some .tup
    | some (.dK _) => some .dict
    | some (.dT _) => some .dict
    | _ => none := rfl
theorem tyRef {H : Hp} {p : Addr} (h : (tyV H (.ref p)).isSome = true) : ∃ t, tyV H (.ref p) = some t ∧ t.isa .str = false ∧ t.isa .int = false ∧ t.isa .bl = false := by
  rw [tyV_ref] at h ⊢
  split at h
  · exact ⟨_, rfl, rfl, rfl, rfl⟩
  · exact ⟨_, rfl, rfl, rfl, rfl⟩
  · exact ⟨_, rfl, rfl, rfl, rfl⟩
  · exact ⟨_, rfl, rfl, rfl, rfl⟩
  · cases h
theorem atI_at {xs : List V} {j : Nat} {v : V} (h : xs[j]? = some v) : atI xs (j : Int) = some v := atI_nat h
theorem atI_0 {x : V} {l : List V} : atI (x :: l) 0 = some x := atI_nat (j := 0) rfl
theorem atI_1 {x y : V} {l : List V} : atI (x :: y :: l) 1 = some y := atI_nat (j := 1) rfl
theorem atI_2 {x y z : V} {l : List V} : atI (x :: y :: z :: l) 2 = some z := atI_nat (j := 2) rfl
theorem atI_3 {x y z u : V} {l : List V} : atI (x :: y :: z :: u :: l) 3 = some u := atI_nat (j := 3) rfl
theorem natc : ((0 : Nat) : Int) = 0 ∧ ((1 : Nat) : Int) = 1 ∧ ((2 : Nat) : Int) = 2 ∧ ((3 : Nat) : Int) = 3 ∧ ((4 : Nat) : Int) = 4 ∧ ((5 : Nat) : Int) = 5 ∧ ((6 : Nat) : Int) = 6 ∧ ((7 : Nat) : Int) = 7 ∧ ((8 : Nat) : Int) = 8 ∧ ((9 : Nat) : Int) = 9 ∧ ((10 : Nat) : Int) = 10 ∧ ((11 : Nat) : Int) = 11 ∧ ((12 : Nat) : Int) = 12 ∧ ((13 : Nat) : Int) = 13 ∧ ((14 : Nat) : Int) = 14 ∧ ((15 : Nat) : Int) = 15 ∧ ((16 : Nat) : Int) = 16 ∧ ((17 : Nat) : Int) = 17 ∧ ((18 : Nat) : Int) = 18 ∧ ((19 : Nat) : Int) = 19 ∧ ((20 : Nat) : Int) = 20 ∧ ((21 : Nat) : Int) = 21 ∧ ((22 : Nat) : Int) = 22 ∧ ((23 : Nat) : Int) = 23 ∧ ((24 : Nat) : Int) = 24 ∧ ((25 : Nat) : Int) = 25 ∧ ((26 : Nat) : Int) = 26 ∧ ((27 : Nat) : Int) = 27 ∧ ((28 : Nat) : Int) = 28 ∧ ((29 : Nat) : Int) = 29 ∧ ((30 : Nat) : Int) = 30 := by decide
theorem ixN_lit : ixN 4 0 = some 0 ∧ ixN 4 1 = some 1 ∧ ixN 4 2 = some 2 ∧ ixN 4 3 = some 3 := by decide
theorem inV_int2 : inV (.int 0) [.int 1, .int 2] = false ∧ inV (.int 1) [.int 1, .int 2] = true ∧ inV (.int 2) [.int 1, .int 2] = true := ⟨rfl, rfl, rfl⟩
theorem scal_tab : (∀ a b, scal (.int a) (.int b) = true) ∧ (∀ a b, scal (.str a) (.str b) = true) ∧ (∀ a b, scal (.bl a) (.bl b) = true) ∧ (∀ a b, scal (.int a) (.str b) = true) ∧ (∀ a b, scal (.str a) (.int b) = true) ∧ scal .non .non = true ∧
  (∀ a, scal .non (.str a) = true) ∧ (∀ a, scal .non (.int a) = true) ∧ (∀ a, scal (.str a) .non = true) ∧ (∀ a, scal (.int a) .non = true) ∧ (∀ a b, scal (.str a) (.bl b) = true) ∧ (∀ a b, scal (.bl a) (.str b) = true) := ⟨fun _ _ => rfl, fun _ _ => rfl, fun _ _ => rfl, fun _ _ => rfl, fun _ _ => rfl, rfl, fun _ => rfl, fun _ => rfl, fun _ => rfl, fun _ => rfl, fun _ _ => rfl, fun _ _ => rfl⟩
theorem flat_tab : (∀ a, flatV (.int a) = true) ∧ (∀ a, flatV (.str a) = true) ∧ (∀ a, flatV (.bl a) = true) ∧ flatV .non = true := ⟨fun _ => rfl, fun _ => rfl, fun _ => rfl, rfl⟩
theorem map_toNat_inj : ∀ {l m : List Char}, l.map Char.toNat = m.map Char.toNat → l = m
  | [], [], _ => rfl
  | [], _ :: _, h => by cases h
  | _ :: _, [], h => by cases h
  | c :: l, d :: m, h => by
    rw [List.map_cons, List.map_cons, List.cons.injEq] at h
    rw [map_toNat_inj h.2, Char.ext (UInt32.toNat_inj.mp h.1)]
theorem ofs_inj {a b : String} : (Str.ofString a = Str.ofString b) = (a = b) := propext ⟨fun h => by
    have h1 : TL.tl (Str.ofString a) = TL.tl (Str.ofString b) := by rw [h]
    rw [TL.tl_ofString, TL.tl_ofString] at h1
    exact String.toList_inj.mp (map_toNat_inj h1), fun h => by rw [h]⟩
theorem optEx {α : Type} {a : α} {P : α → Prop} : (∃ v, some a = some v ∧ P v) = P a := by simp
local macro_rules | `(tactic| k_subL) => `(tactic| simp only [tSeq, tIfS, tOr, tAnd, tNot, tB, tCB, tCons, tNil, tC, uVar, tRet, tNext, tTest, tOp, tChain, tAsg, gName, gSub, tDrop, tTup, tLst, tSl, tNoPart, uPart, tUn, rU, tAndV, tOrV, tNotV, uTru, rTruU, uCall, tBM, tBM0,
  rIsi, tyV_non, tyV_bl, tyV_int, tyV_str, Ty.name, isa_tab, rInt, rIntC, rLenU, rLeU, rLtU, rGeU, rGtU, rAddU, rAddI, rAddS, rAddL, rAddT, rSubU, rMulI, rDivU, rModU, rPowU, rEqS, rNeS, rIxU, rInU, rInG, rIntCall, rListU, rTupleU, rIsNU, rNotNU, rSlU, tYes, wipe, rSetU, ixN_lit, rAppend, atI_0, atI_1, atI_2, atI_3, Option.some.injEq, List.length_cons, List.length_nil, Nat.zero_add, Nat.reduceAdd, natc, Int.reduceLE, Int.reduceLT, Int.reduceEq, Int.reduceSub, Int.reduceAdd, Int.reduceNeg, decide_true, decide_false, Bool.false_xor, Bool.true_xor, scal_tab, flat_tab, inV_int2, List.all_cons, List.all_nil, Bool.and_self, Bool.and_true, Bool.true_and, ofs_inj, String.reduceEq, for_U, for_R1, for_R2, lc_U, lc_R1, lc_R2,
  List.cons.injEq, and_true, true_and, and_self, V.ty.injEq, V.bl.injEq, V.int.injEq, V.str.injEq, V.ref.injEq, List.nil_append, List.append_nil, List.cons_append, exists_const,
  List.getElem?_cons_zero, List.getElem?_cons_succ, List.set_cons_zero, List.set_cons_succ, exists_eq_left', exists_eq_left, Bool.not_true, Bool.not_false, if_true, if_false, Bool.false_eq_true, Bool.true_eq_false, reduceCtorEq, exists_and_left, exists_eq_right', *])
local macro_rules | `(tactic| k_clsL) => `(tactic| simp only [seqAt, tyV_ref, tSeq, tIfS, tOr, tAnd, tNot, tB, tCB, tCons, tNil, tC, uVar, tRet, tNext, tTest, tOp, tChain, tAsg, gName, gSub, tDrop, tTup, tLst, tSl, tNoPart, uPart, tUn, rU, tAndV, tOrV, tNotV, uTru, rTruU, uCall, tBM, tBM0,
  rIsi, tyV_non, tyV_bl, tyV_int, tyV_str, Ty.name, isa_tab, rInt, rIntC, rLenU, rLeU, rLtU, rGeU, rGtU, rAddU, rAddI, rAddS, rAddL, rAddT, rSubU, rMulI, rDivU, rModU, rPowU, rEqS, rNeS, rIxU, rInU, rInG, rIntCall, rListU, rTupleU, rIsNU, rNotNU, rSlU, tYes, wipe, rSetU, ixN_lit, rAppend, atI_0, atI_1, atI_2, atI_3, Option.some.injEq, List.length_cons, List.length_nil, Nat.zero_add, Nat.reduceAdd, natc, Int.reduceLE, Int.reduceLT, Int.reduceEq, Int.reduceSub, Int.reduceAdd, Int.reduceNeg, decide_true, decide_false, Bool.false_xor, Bool.true_xor, scal_tab, flat_tab, inV_int2, List.all_cons, List.all_nil, Bool.and_self, Bool.and_true, Bool.true_and, ofs_inj, String.reduceEq, for_U, for_R1, for_R2, lc_U, lc_R1, lc_R2,
  List.cons.injEq, and_true, true_and, and_self, V.ty.injEq, V.bl.injEq, V.int.injEq, V.str.injEq, V.ref.injEq, List.nil_append, List.append_nil, List.cons_append, exists_const,
  List.getElem?_cons_zero, List.getElem?_cons_succ, List.set_cons_zero, List.set_cons_succ, exists_eq_left', exists_eq_left, Bool.not_true, Bool.not_false, if_true, if_false, Bool.false_eq_true, Bool.true_eq_false, reduceCtorEq, exists_and_left, exists_eq_right', *])

local macro_rules | `(tactic| tbr_iter $fs) => `(tactic| simp only [seqAt, tyV_ref, tSeq, tIfS, tOr, tAnd, tNot, tB, tCB, tCons, tNil, tC, uVar, tRet, tNext, tTest, tOp, tChain, tAsg, gName, gSub, tDrop, tTup, tLst, tSl, tNoPart, uPart, tUn, rU, tAndV, tOrV, tNotV, uTru, rTruU, uCall, tBM, tBM0,
  rIsi, tyV_non, tyV_bl, tyV_int, tyV_str, Ty.name, isa_tab, rInt, rIntC, rLenU, rLeU, rLtU, rGeU, rGtU, rAddU, rAddI, rAddS, rAddL, rAddT, rSubU, rMulI, rDivU, rModU, rPowU, rEqS, rNeS, rIxU, rInU, rInG, rIntCall, rListU, rTupleU, rIsNU, rNotNU, rSlU, tYes, wipe, rSetU, ixN_lit, rAppend, atI_0, atI_1, atI_2, atI_3, Option.some.injEq, List.length_cons, List.length_nil, Nat.zero_add, Nat.reduceAdd, natc, Int.reduceLE, Int.reduceLT, Int.reduceEq, Int.reduceSub, Int.reduceAdd, Int.reduceNeg, decide_true, decide_false, Bool.false_xor, Bool.true_xor, scal_tab, flat_tab, inV_int2, List.all_cons, List.all_nil, Bool.and_self, Bool.and_true, Bool.true_and, ofs_inj, String.reduceEq, for_U, for_R1, for_R2, lc_U, lc_R1, lc_R2,
  List.cons.injEq, and_true, true_and, and_self, V.ty.injEq, V.bl.injEq, V.int.injEq, V.str.injEq, V.ref.injEq, List.nil_append, List.append_nil, List.cons_append, exists_const,
  List.getElem?_cons_zero, List.getElem?_cons_succ, List.set_cons_zero, List.set_cons_succ, exists_eq_left', exists_eq_left, Bool.not_true, Bool.not_false, if_true, if_false, Bool.false_eq_true, Bool.true_eq_false, reduceCtorEq, exists_and_left, exists_eq_right', $fs:term])

theorem seq_by {t u : TS} {D : Ends} {σ : L2.St} {H : Hp} (M : L2.St → Hp → Prop) (h1 : ∀ nx : L2.St → Hp → Prop, (∀ σ' H', M σ' H' → nx σ' H') → t { D with nx := nx } σ H) (h2 : ∀ σ' H', M σ' H' → u D σ' H') : tSeq t u D σ H := h1 _ h2
theorem upd_old {H : Hp} {p a : Addr} {o u : HO} (hp : H p = none) (ha : H a = some u) : upd H p o a = some u := by rw [upd_ne (ne_of_none ha hp)]; exact ha
theorem same_new {H H' : Hp} {p : Addr} {o : HO} (k : L2.Same H H') (hp : H' p = none) : L2.Same H (upd H' p o) := fun b u e => upd_old hp (k b u e)

def isMarkS (z : Str) : Bool := decide (1 ≤ z.length) && decide (z.length ≤ 8) && z.cps.toList.all fun c => decide (c ∈ (Str.ofString "abcdefghijklmnopqrstuvwxyz").cps.toList)
def isMarkV : V → Bool
  | .str z => isMarkS z
  | _ => false
def strOk : V → Prop
  | .str z => z.length ≤ sizeLine
  | _ => True
def t_is_mark (K : PySem.W.Frag) : TS :=
  (tSeq (tIfS (tOr (tNot (uTru (tCB (rIsi .str) (tCons (uVar 0) (tCons (tC (.ty "str")) tNil))))) (tNot (tTest (tChain rLeU rLeU (tC (.int 1)) (tCB rLenU (tCons (uVar 0) tNil)) (tC (.int 8)))))) (tRet (tC (.bl false))) tNext)
  (tSeq (tFor (iU K (uVar 0)) (gName 1) (tIfS (tTest (tOp (rInU true) (uVar 1) (tC (.str "abcdefghijklmnopqrstuvwxyz")))) (tRet (tC (.bl false))) tNext))
  (tRet (tC (.bl true)))))
def sp_is_mark (K : PySem.W.Frag) : Sp := fun vs H Q _ => ∃ v, vs = [v] ∧ (tyV H v).isSome = true ∧ strOk v ∧ Q (.bl (isMarkV v)) H
theorem len_is_mark {K : PySem.W.Frag} : ∀ vs H Q E, sp_is_mark K vs H Q E → vs.length = 1 := fun _ _ _ _ ⟨_, e, _⟩ => by rw [e]; rfl
theorem pure_is_mark {K : PySem.W.Frag} (vs : List V) (H : Hp) (Q : VK) (E : XK) (h : sp_is_mark K vs H Q E) : t_is_mark K { nx := fun _ H' => Q .non H', rt := Q } (start ["value", "letter"] vs) H := by
  obtain ⟨v, rfl, ht, hz, q⟩ := h
  unfold t_is_mark
  show tSeq _ _ _ [some v, none] H
  cases v with
  | str z =>
    have hz : z.length ≤ sizeLine := hz
    have q : Q (.bl (isMarkS z)) H := q
    k_subL
    have n1 : ¬ (1 ≤ z.length ∧ z.length ≤ 8) → isMarkS z = false := fun h => by
      unfold isMarkS
      by_cases h1 : 1 ≤ z.length
      · have h2 : ¬ z.length ≤ 8 := fun x => h ⟨h1, x⟩
        simp [h2]
      · simp [h1]
    refine ite2 (fun h1 => ite2 (fun h2 => ?_) fun h2 => ?_) fun h1 => ?_
    · rw [n1 (by simp at h1 h2; omega)] at q
      exact q
    · have h1 : 1 ≤ z.length := by simp at h1; omega
      have h2 : z.length ≤ 8 := by simp at h2; omega
      have e : isMarkS z = z.cps.toList.all fun c => decide (c ∈ (Str.ofString "abcdefghijklmnopqrstuvwxyz").cps.toList) := by
        unfold isMarkS
        rw [decide_eq_true h1, decide_eq_true h2]
        rfl
      rw [e] at q
      refine loop_str (fun i σ H' => H' = H ∧ (∃ y, σ = [some (.str z), y]) ∧ ∀ j c, j < i → z.cps[j]? = some c → c ∈ (Str.ofString "abcdefghijklmnopqrstuvwxyz").cps.toList) ⟨rfl, ⟨_, rfl⟩, fun j c hj => absurd hj (Nat.not_lt_zero _)⟩ (fun i c σ H' hc ⟨e1, ⟨y, e2⟩, p⟩ => ?_) (fun σ H' ⟨e1, ⟨y, e2⟩, p⟩ => ?_)
      · subst e1 e2
        k_subL
        refine ⟨c, rfl, ite2 (fun hn => ?_) fun hn => ⟨⟨_, rfl⟩, fun j c' hj hc' => ?_⟩⟩
        · have : (z.cps.toList.all fun c => decide (c ∈ (Str.ofString "abcdefghijklmnopqrstuvwxyz").cps.toList)) = false := by
            rw [List.all_eq_false]
            exact ⟨c, List.mem_of_getElem? (by simpa using hc), by simpa using hn⟩
          rw [this] at q
          exact q
        · by_cases hj2 : j = i
          · subst hj2
            rw [hc] at hc'
            cases hc'
            simpa using hn
          · exact p j c' (by omega) hc'
      · subst e1 e2
        k_subL
        have : (z.cps.toList.all fun c => decide (c ∈ (Str.ofString "abcdefghijklmnopqrstuvwxyz").cps.toList)) = true := by
          rw [List.all_eq_true]
          intro c hc
          obtain ⟨j, hj⟩ := List.getElem?_of_mem hc
          have hj' : z.cps[j]? = some c := by simpa using hj
          exact decide_eq_true (p j c (by have := (Array.getElem?_eq_some_iff.mp hj').1; exact this) hj')
        rw [this] at q
        exact q
    · rw [n1 (by simp at h1; omega)] at q
      exact q
  | ref p =>
    obtain ⟨t, ht, h1, h2, h3⟩ := tyRef ht
    k_subL
    exact q
  | byt _ => cases ht
  | flt _ => cases ht
  | ty _ => cases ht
  | _ => k_subL; exact q
def t_in_range (K : PySem.W.Frag) : TS :=
  (tRet (tAndV (tCB (rIsi .int) (tCons (uVar 0) (tCons (tC (.ty "int")) tNil))) (tAndV (tNotV (tCB (rIsi .bl) (tCons (uVar 0) (tCons (tC (.ty "bool")) tNil)))) (tChain rLeU rLeU (tC (.int 0)) (uVar 0) (uVar 1)))))
def inRangeV : V → Int → Bool
  | .int i, g => decide (0 ≤ i) && decide (i ≤ g)
  | _, _ => false
def sp_in_range (K : PySem.W.Frag) : Sp := fun vs H Q _ => ∃ (v : V) (g : Int), vs = [v, .int g] ∧ (tyV H v).isSome = true ∧ Q (.bl (inRangeV v g)) H
theorem len_in_range {K : PySem.W.Frag} : ∀ vs H Q E, sp_in_range K vs H Q E → vs.length = 2 := fun _ _ _ _ ⟨_, _, e, _⟩ => by rw [e]; rfl
theorem pure_in_range {K : PySem.W.Frag} (vs : List V) (H : Hp) (Q : VK) (E : XK) (h : sp_in_range K vs H Q E) : t_in_range K { nx := fun _ H' => Q .non H', rt := Q } (start ["value", "greatest"] vs) H := by
  obtain ⟨v, g, rfl, ht, q⟩ := h
  unfold t_in_range
  show tRet _ _ [some v, some (.int g)] H
  cases v with
  | int i =>
    k_subL
    have q : Q (.bl (decide (0 ≤ i) && decide (i ≤ g))) H := q
    refine ite2 (fun h1 => ?_) fun h1 => ?_
    · rw [h1] at q
      exact q
    · rw [Bool.not_eq_true] at h1
      rw [h1] at q
      exact q
  | ref p =>
    obtain ⟨t, ht, h1, h2, h3⟩ := tyRef ht
    k_subL
    exact q
  | byt _ => cases ht
  | flt _ => cases ht
  | ty _ => cases ht
  | _ => k_subL; exact q

def inStrs (w : Str) (l : List Str) : Bool := inV (.str w) (l.map V.str)
def isBasicT : List V → Bool
  | [.str w] => inV (.str w) [.str "drop", .str "emit", .str "same", .str "differ"]
  | [.str w, x] => if inV (.str w) [.str "pick", .str "roll"] then inRangeV x 23 else if inV (.str w) [.str "keep", .str "load"] then inRangeV x 3 else inV (.str w) [.str "push", .str "expect"] && isMarkV x
  | _ => false
def isBasicV (H : Hp) : V → Bool
  | .ref p => match H p with
    | some (.tup xs) => isBasicT xs
    | _ => false
  | _ => false
def okV (H : Hp) (v : V) : Prop := (tyV H v).isSome = true ∧ strOk v
def okT (H : Hp) (v : V) : Prop := okV H v ∧ ∀ p xs, v = .ref p → H p = some (.tup xs) → ∀ x ∈ xs, okV H x
theorem not_str {H : Hp} {x : V} {R : Prop} {F : Ty → Prop} (hx : okV H x) (hs : ∀ w, x ≠ .str w) (r : R) (hF : ∀ t, t.isa .str = false → (F t = R)) : (match tyV H x with | some t => F t | none => False) := by
  cases x with
  | str w => exact absurd rfl (hs w)
  | ref p' =>
    obtain ⟨t, ht, h1, h2, h3⟩ := tyRef hx.1
    rw [ht]
    show F t
    rw [hF t h1]
    exact r
  | non => exact (show F .non from cast (hF .non rfl).symm r)
  | bl _ => exact (show F .bl from cast (hF .bl rfl).symm r)
  | int _ => exact (show F .int from cast (hF .int rfl).symm r)
  | byt _ => cases hx.1
  | flt _ => cases hx.1
  | ty _ => cases hx.1
theorem inV_str2 (w a b : Str) : inV (.str w) [.str a, .str b] = (decide (w = a) || decide (w = b)) := by
  have e : inV (.str w) [.str a, .str b] = (eqV (.str a) (.str w) || (eqV (.str b) (.str w) || false)) := rfl
  rw [e, Bool.or_false]
  have k : ∀ a : Str, eqV (.str a) (.str w) = decide (w = a) := fun a => by
    show (a == w) = _
    by_cases h : w = a
    · subst h
      rw [decide_eq_true rfl]
      exact beq_self_eq_true _
    · rw [decide_eq_false h]
      exact beq_eq_false_iff_ne.mpr fun e => h e.symm
  rw [k, k]
theorem okV_same {H H' : Hp} {v : V} (k : L2.Same H H') (h : okV H v) : okV H' v := by
  refine ⟨?_, h.2⟩
  have h := h.1
  cases v with
  | ref p =>
    rw [tyV_ref] at h ⊢
    split at h
    · rename_i e; rw [k _ _ e]; rfl
    · rename_i e; rw [k _ _ e]; rfl
    · rename_i e; rw [k _ _ e]; rfl
    · rename_i e; rw [k _ _ e]; rfl
    · cases h
  | _ => exact h
def t_is_basic (K : PySem.W.Frag) (a_PLAIN : Addr) (a_DEPTHS : Addr) (a_STORES : Addr) (a_MARKED : Addr) : TS :=
  (tSeq (tIfS (tOr (tNot (uTru (tCB (rIsi .tup) (tCons (uVar 0) (tCons (tC (.ty "tuple")) tNil))))) (tOr (tNot (tTest (tChain rLeU rLeU (tC (.int 1)) (tCB rLenU (tCons (uVar 0) tNil)) (tC (.int 2))))) (tNot (uTru (tCB (rIsi .str) (tCons (tOp rIxU (uVar 0) (tC (.int 0))) (tCons (tC (.ty "str")) tNil))))))) (tRet (tC (.bl false))) tNext)
  (tSeq (tAsg (tOp rIxU (uVar 0) (tC (.int 0))) (gName 1))
  (tSeq (tIfS (tTest (tOp rEqS (tCB rLenU (tCons (uVar 0) tNil)) (tC (.int 1)))) (tRet (tOp (rInG a_PLAIN [.str "drop", .str "emit", .str "same", .str "differ"] false) (uVar 1) (tC (.ref a_PLAIN)))) tNext)
  (tSeq (tIfS (tTest (tOp (rInG a_DEPTHS [.str "pick", .str "roll"] false) (uVar 1) (tC (.ref a_DEPTHS)))) (tRet (uCall (sp_in_range K) [] E0 (tCons (tOp rIxU (uVar 0) (tC (.int 1))) (tCons (tOp rSubU (tC (.int 24)) (tC (.int 1))) tNil)))) tNext)
  (tSeq (tIfS (tTest (tOp (rInG a_STORES [.str "keep", .str "load"] false) (uVar 1) (tC (.ref a_STORES)))) (tRet (uCall (sp_in_range K) [] E0 (tCons (tOp rIxU (uVar 0) (tC (.int 1))) (tCons (tOp rSubU (tC (.int 4)) (tC (.int 1))) tNil)))) tNext)
  (tRet (tAndV (tOp (rInG a_MARKED [.str "push", .str "expect"] false) (uVar 1) (tC (.ref a_MARKED))) (uCall (sp_is_mark K) [] E0 (tCons (tOp rIxU (uVar 0) (tC (.int 1))) tNil)))))))))
def sp_is_basic (K : PySem.W.Frag) : Sp := fun vs H Q _ => ∃ v, vs = [v] ∧ okT H v ∧ Q (.bl (isBasicV H v)) H
theorem len_is_basic {K : PySem.W.Frag} : ∀ vs H Q E, sp_is_basic K vs H Q E → vs.length = 1 := fun _ _ _ _ ⟨_, e, _⟩ => by rw [e]; rfl
theorem pure_is_basic {K : PySem.W.Frag} {a1 a2 a3 a4 : Addr} (vs : List V) (H : Hp) (Q : VK) (E : XK) (h : sp_is_basic K vs H Q E) : t_is_basic K a1 a2 a3 a4 { nx := fun _ H' => Q .non H', rt := Q } (start ["value", "word"] vs) H := by
  obtain ⟨v, rfl, ⟨⟨ht, hz⟩, hi⟩, q⟩ := h
  unfold t_is_basic
  show tSeq _ _ _ [some v, none] H
  cases v with
  | ref p =>
    rw [tyV_ref] at ht
    split at ht
    · rename_i xs e
      have q : Q (.bl false) H := by simpa only [isBasicV, e] using q
      k_clsL
    · rename_i xs e
      have q : Q (.bl (isBasicT xs)) H := by simpa only [isBasicV, e] using q
      have hi := hi p xs rfl e
      clear ht
      have nots : ∀ (x : V) (R : Prop) (F : Ty → Prop), okV H x → (∀ w, x ≠ .str w) → R → (∀ t, t.isa .str = false → (F t = R)) → (match tyV H x with | some t => F t | none => False) := fun x R F hx hs r hF => by
        cases x with
        | str w => exact absurd rfl (hs w)
        | ref p' =>
          obtain ⟨t, ht, h1, h2, h3⟩ := tyRef hx.1
          rw [ht]
          show F t
          rw [hF t h1]
          exact r
        | non => exact (show F .non from cast (hF .non rfl).symm r)
        | bl _ => exact (show F .bl from cast (hF .bl rfl).symm r)
        | int _ => exact (show F .int from cast (hF .int rfl).symm r)
        | byt _ => cases hx.1
        | flt _ => cases hx.1
        | ty _ => cases hx.1
      rcases xs with _ | ⟨x, _ | ⟨y, _ | ⟨z, r⟩⟩⟩
      · k_clsL
        exact q
      · have hx := hi x (by simp)
        k_clsL
        by_cases hs : ∃ w, x = .str w
        · obtain ⟨w, rfl⟩ := hs
          k_clsL
          exact q
        · have hs : ∀ w, x ≠ .str w := fun w e => hs ⟨w, e⟩
          refine nots x _ _ hx hs (show Q (.bl false) H from ?_) fun t h => by rw [h]; rfl
          have e : isBasicT [x] = false := by cases x <;> first | rfl | exact absurd rfl (hs _)
          rw [e] at q
          exact q
      · have hx := hi x (by simp)
        have hy := hi y (by simp)
        k_clsL
        by_cases hs : ∃ w, x = .str w
        · obtain ⟨w, rfl⟩ := hs
          k_clsL
          refine ite2 (fun h => ?_) fun h => ite2 (fun h2 => ?_) fun h2 => ite2 (fun h3 => ?_) fun h3 => ?_
          · refine ⟨_, _, rfl, hy.1, ?_⟩
            simpa only [isBasicT, h, if_true] using q
          · refine ⟨_, _, rfl, hy.1, ?_⟩
            simpa only [isBasicT, h, h2, if_true, if_false, Bool.false_eq_true] using q
          · refine ⟨_, rfl, hy.1, hy.2, ?_⟩
            simpa only [isBasicT, h, h2, h3, if_true, if_false, Bool.true_and, Bool.false_eq_true] using q
          · simpa only [isBasicT, h, h2, h3, if_true, if_false, Bool.false_and, Bool.false_eq_true] using q
        · have hs : ∀ w, x ≠ .str w := fun w e => hs ⟨w, e⟩
          refine nots x _ _ hx hs (show Q (.bl false) H from ?_) fun t h => by rw [h]; rfl
          have e : isBasicT [x, y] = false := by cases x <;> first | rfl | exact absurd rfl (hs _)
          rw [e] at q
          exact q
      · have e1 : isBasicT (x :: y :: z :: r) = false := by cases x <;> rfl
        rw [e1] at q
        have l1 : (1 : Int) ≤ ((r.length + 1 + 1 + 1 : Nat) : Int) := by omega
        have l2 : ¬ ((r.length + 1 + 1 + 1 : Nat) : Int) ≤ 2 := by omega
        k_clsL
    · rename_i xs e
      have q : Q (.bl false) H := by simpa only [isBasicV, e] using q
      k_clsL
    · rename_i xs e
      have q : Q (.bl false) H := by simpa only [isBasicV, e] using q
      k_clsL
    · cases ht
  | byt _ => cases ht
  | flt _ => cases ht
  | ty _ => cases ht
  | _ => k_subL; exact q

def Keep (d : Addr) (H H' : Hp) : Prop := ∀ b, b ≠ d → H b ≠ none → H' b = H b
theorem Keep.refl (d : Addr) (H : Hp) : Keep d H H := fun _ _ _ => rfl
theorem Keep.trans {d : Addr} {H H1 H2 : Hp} (a : Keep d H H1) (b : Keep d H1 H2) : Keep d H H2 := fun c h1 h2 => (b c h1 (by rw [a c h1 h2]; exact h2)).trans (a c h1 h2)
theorem Keep.at {d b : Addr} {H H' : Hp} {o : HO} (a : Keep d H H') (h : b ≠ d) (e : H b = some o) : H' b = some o := (a b h (by rw [e]; exact fun z => nomatch z)).trans e
theorem Keep.upd {d : Addr} {H H' : Hp} {o : HO} (a : Keep d H H') : Keep d H (upd H' d o) := fun b h1 h2 => (upd_ne h1).trans (a b h1 h2)
theorem Keep.new {d p : Addr} {H H' : Hp} {o : HO} (a : Keep d H H') (h : H' p = none) : Keep d H (L2.upd H' p o) := fun b h1 h2 => by
  by_cases e : b = p
  · subst e
    exact absurd (by rw [← a b h1 h2]; exact h) h2
  · rw [upd_ne e]
    exact a b h1 h2
structure Dr where
  d : Addr
  L : Addr
def DrawsOk (H : Hp) (D : Dr) : Prop := ∃ (ns : List Int) (i a b : Int), H D.d = some (.lst [.ref D.L, .int i, .int a, .int b]) ∧ D.L ≠ D.d ∧ H D.L = some (.lst (ns.map V.int)) ∧ 0 ≤ i ∧ 0 ≤ a
theorem DrawsOk.some {H : Hp} {D : Dr} (h : DrawsOk H D) : H D.d ≠ none := by
  obtain ⟨ns, i, a, b, e, _⟩ := h
  rw [e]
  exact fun z => nomatch z
theorem DrawsOk.someL {H : Hp} {D : Dr} (h : DrawsOk H D) : H D.L ≠ none := by
  obtain ⟨ns, i, a, b, _, _, e, _⟩ := h
  rw [e]
  exact fun z => nomatch z
theorem DrawsOk.set {H : Hp} {D : Dr} {p : Addr} {o : HO} (h : DrawsOk H D) (h1 : p ≠ D.d) (h2 : p ≠ D.L) : DrawsOk (upd H p o) D := by
  obtain ⟨ns, i, a, b, e, hL, eL, h0, h3⟩ := h
  exact ⟨ns, i, a, b, by rw [upd_ne h1.symm]; exact e, hL, by rw [upd_ne h2.symm]; exact eL, h0, h3⟩
theorem DrawsOk.ne {H : Hp} {D : Dr} {p : Addr} (h : DrawsOk H D) (hp : H p = none) : p ≠ D.d := fun e => h.some (by rw [← e]; exact hp)
theorem DrawsOk.neL {H : Hp} {D : Dr} {p : Addr} (h : DrawsOk H D) (hp : H p = none) : p ≠ D.L := fun e => h.someL (by rw [← e]; exact hp)
theorem DrawsOk.new {H : Hp} {D : Dr} {p : Addr} {o : HO} (h : DrawsOk H D) (hp : H p = none) : DrawsOk (upd H p o) D := h.set (h.ne hp) (h.neL hp)
theorem New.draws {H H' : Hp} {p : Addr} {o : HO} {D : Dr} (n : New H p o H') (h : DrawsOk H D) : DrawsOk H' D := by rw [n.eq]; exact h.new n.fr
theorem New.keep {H0 H H' : Hp} {p d : Addr} {o : HO} (n : New H p o H') (k : Keep d H0 H) : Keep d H0 H' := by rw [n.eq]; exact k.new n.fr
theorem DrawsOk.other {H : Hp} {D : Dr} {p : Addr} {xs : List V} (h : DrawsOk H D) (e : H p = Option.some (.tup xs)) : p ≠ D.d := fun z => by
  obtain ⟨ns, i, a, b, e2, _⟩ := h
  rw [z, e2] at e
  cases e
theorem DrawsOk.same {H H' : Hp} {D : Dr} (h : DrawsOk H D) (s : L2.Same H H') : DrawsOk H' D := by
  obtain ⟨ns, i, a, b, e, hL, eL, h0, h3⟩ := h
  exact ⟨ns, i, a, b, s _ _ e, hL, s _ _ eL, h0, h3⟩
def t__law_begin (K : PySem.W.Frag) : TS :=
  (tRet (tLst (tCons (tCB (rListK K) (tCons (uVar 0) tNil)) (tCons (tC (.int 0)) (tCons (tC (.int 0)) (tCons (tC (.int 7)) tNil))))))
def sp__law_begin (K : PySem.W.Frag) : Sp := fun vs H Q _ => ∃ (a : Addr) (ns : List Int), vs = [.ref a] ∧ SqL K H a (ns.map V.int) ∧ ∀ (D : Dr) H', H D.d = none → DrawsOk H' D → (∀ b, H b ≠ none → H' b = H b) → Q (.ref D.d) H'
theorem len__law_begin {K : PySem.W.Frag} : ∀ vs H Q E, sp__law_begin K vs H Q E → vs.length = 1 := fun _ _ _ _ ⟨_, _, e, _⟩ => by rw [e]; rfl
theorem pure__law_begin {K : PySem.W.Frag} (vs : List V) (H : Hp) (Q : VK) (E : XK) (h : sp__law_begin K vs H Q E) : t__law_begin K { nx := fun _ H' => Q .non H', rt := Q } (start ["_law_script"] vs) H := by
  obtain ⟨a, ns, rfl, hs, q⟩ := h
  refine ⟨_, _, rfl, .inl hs, fun l hl => ⟨by show 4 ≤ sizeLine; decide, fun p hp => ?_⟩⟩
  have hp2 : p ≠ l := fun e => by rw [e, upd_same] at hp; cases hp
  have hpH : H p = none := by rw [upd_ne hp2] at hp; exact hp
  refine q ⟨p, l⟩ _ hpH ⟨ns, 0, 0, 7, upd_same, hp2.symm, by rw [upd_ne hp2.symm, upd_same], Int.le_refl _, Int.le_refl _⟩ fun b hb => ?_
  rw [upd_ne (fun e => hb (by rw [e]; exact hpH)), upd_ne (fun e => hb (by rw [e]; exact hl))]
def t__law_draw (K : PySem.W.Frag) : TS :=
  (tSeq (tIfS (tTest (tOp rEqS (tOp rIxU (uVar 0) (tC (.int 2))) (tC (.int 0)))) (tIfS (tTest (tOp rLtU (tOp rIxU (uVar 0) (tC (.int 1))) (tCB rLenU (tCons (tOp rIxU (uVar 0) (tC (.int 0))) tNil)))) (tSeq (tAsg (tOp rIxU (tOp rIxU (uVar 0) (tC (.int 0))) (tOp rIxU (uVar 0) (tC (.int 1)))) (gName 2))
  (tSeq (tAsg (tOp rAddI (tOp rIxU (uVar 0) (tC (.int 1))) (tC (.int 1))) (gSub (uVar 0) (tC (.int 1)) rSetU))
  (tIfS (tTest (tOp rGeU (uVar 2) (tOp rPowU (tC (.int 10)) (tC (.int 18))))) (tAsg (uVar 2) (gSub (uVar 0) (tC (.int 2)) rSetU)) (tAsg (tOp rModU (tCB rIntCall (tCons (tOp rAddI (tOp rAddI (tOp rMulI (tOp rIxU (uVar 0) (tC (.int 3))) (tC (.int 48271))) (tOp rMulI (uVar 2) (tC (.int 69621)))) (tC (.int 11))) tNil)) (tC (.int 2147483647))) (gSub (uVar 0) (tC (.int 3)) rSetU))))) (tAsg (tOp rModU (tCB rIntCall (tCons (tOp rAddI (tOp rMulI (tOp rIxU (uVar 0) (tC (.int 3))) (tC (.int 48271))) (tC (.int 7))) tNil)) (tC (.int 2147483647))) (gSub (uVar 0) (tC (.int 3)) rSetU))) tNext)
  (tSeq (tIfS (tTest (tOp rGtU (tOp rIxU (uVar 0) (tC (.int 2))) (tC (.int 0)))) (tSeq (tAsg (tOp rModU (tCB rIntCall (tCons (tOp rIxU (uVar 0) (tC (.int 2))) tNil)) (uVar 1)) (gName 3))
  (tSeq (tAsg (tOp rDivU (tOp rIxU (uVar 0) (tC (.int 2))) (uVar 1)) (gSub (uVar 0) (tC (.int 2)) rSetU))
  (tRet (uVar 3)))) tNext)
  (tRet (tOp rModU (tOp rModU (tCB rIntCall (tCons (tOp rMulI (tOp rIxU (uVar 0) (tC (.int 3))) (tC (.int 16807))) tNil)) (tC (.int 2147483629))) (uVar 1)))))
def sp__law_draw (K : PySem.W.Frag) : Sp := fun vs H Q _ => ∃ (D : Dr) (m : Int), vs = [.ref D.d, .int m] ∧ DrawsOk H D ∧ 0 < m ∧ m < 1073741824 ∧ ∀ r H', 0 ≤ r → r < m → DrawsOk H' D → Keep D.d H H' → Q (.int r) H'
theorem len__law_draw {K : PySem.W.Frag} : ∀ vs H Q E, sp__law_draw K vs H Q E → vs.length = 2 := fun _ _ _ _ ⟨_, _, e, _⟩ => by rw [e]; rfl
theorem pure__law_draw {K : PySem.W.Frag} (vs : List V) (H : Hp) (Q : VK) (E : XK) (h : sp__law_draw K vs H Q E) : t__law_draw K { nx := fun _ H' => Q .non H', rt := Q } (start ["_law_draws", "_law_many", "_law_cell", "_law_found"] vs) H := by
  obtain ⟨⟨d, L⟩, m, rfl, ⟨ns, i, a, b, e, hL, eL, h0, h1⟩, m0, m1, q⟩ := h
  have e : H d = some (.lst [.ref L, .int i, .int a, .int b]) := e
  have eL : H L = some (.lst (ns.map V.int)) := eL
  have hL : L ≠ d := hL
  unfold t__law_draw
  show tSeq _ _ _ [some (.ref d), some (.int m), none, none] H
  have cm : ∀ x : Int, CMul x 48271 := fun x => .inr ⟨by decide, by decide⟩
  have cm2 : ∀ x : Int, CMul x 16807 := fun x => .inr ⟨by decide, by decide⟩
  have cm3 : ∀ x : Int, CMul x 69621 := fun x => .inr ⟨by decide, by decide⟩
  have cd : ∀ x : Int, CDiv x m := fun x => ⟨m0, m1⟩
  have cp : CPow 10 18 := ⟨by decide, by decide, by decide⟩
  have mk : ∀ i a b : Int, 0 ≤ i → 0 ≤ a → DrawsOk (upd H d (.lst [.ref L, .int i, .int a, .int b])) ⟨d, L⟩ := fun i a b x y =>
    ⟨ns, i, a, b, upd_same, hL, by rw [upd_ne hL]; exact eL, x, y⟩
  have fin : ∀ (x i a b : Int), 0 ≤ i → 0 ≤ a → Q (.int (x % m)) (upd H d (.lst [.ref L, .int i, .int a, .int b])) := fun x i a b y z =>
    q _ _ (Int.emod_nonneg _ (by omega)) (Int.emod_lt_of_pos _ m0) (mk i a b y z) (Keep.refl d H).upd
  have fin0 : ∀ (x : Int), Q (.int (x % m)) H := fun x =>
    q _ _ (Int.emod_nonneg _ (by omega)) (Int.emod_lt_of_pos _ m0) ⟨ns, i, a, b, e, hL, eL, h0, h1⟩ (Keep.refl d H)
  have dn : ∀ x : Int, 0 ≤ x → 0 ≤ x / m := fun x h => Int.ediv_nonneg h (by omega)
  have fs := And.intro e (And.intro eL (And.intro (fun H o => (upd_ne hL : upd H d o L = H L)) (And.intro (fun H o => (upd_same : upd H d o d = some o)) (And.intro (fun H o u => (upd_upd : upd (upd H d o) d u = upd H d u)) (And.intro cm (And.intro cm2 (And.intro cm3 (And.intro cd (And.intro cp m0)))))))))
  by_cases hi : i < (ns.length : Int)
  · have hget : atI (ns.map V.int) i = some (.int (ns.getD i.toNat 0)) := by
      have hj : i.toNat < ns.length := by omega
      have e1 : (ns.map V.int)[i.toNat]? = some (.int (ns.getD i.toNat 0)) := by
        rw [List.getElem?_map, List.getElem?_eq_getElem hj, List.getD_eq_getElem?_getD, List.getElem?_eq_getElem hj]
        rfl
      have := atI_nat e1
      rwa [show ((i.toNat : Nat) : Int) = i by omega] at this
    have fs := And.intro hget fs
    tbr_iter fs
    generalize ns.getD i.toNat 0 = c
    have t18 : (0 : Int) ≤ 10 ^ Int.toNat 18 := by decide
    refine ite2 (fun _ => ite2 (fun _ => ite2 (fun hc => ?_) fun hc => ?_) fun _ => ?_) fun _ => ?_
    · have hc := of_decide_eq_true hc
      refine ite2 (fun _ => fin _ _ _ _ (by omega) (dn _ (by omega))) fun _ => fin _ _ _ _ (by omega) (by omega)
    · refine ite2 (fun _ => fin _ _ _ _ (by omega) (dn _ h1)) fun _ => fin _ _ _ _ (by omega) (by omega)
    · refine ite2 (fun _ => fin _ _ _ _ h0 (dn _ h1)) fun _ => fin _ _ _ _ h0 h1
    · refine ite2 (fun _ => fin _ _ _ _ h0 (dn _ h1)) fun _ => fin0 _
  · have hl : decide (i < (((ns.map V.int).length : Nat) : Int)) = false := by
      rw [List.length_map]
      exact decide_eq_false hi
    have fs := And.intro hl fs
    tbr_iter fs
    refine ite2 (fun _ => ?_) fun _ => ?_
    · refine ite2 (fun _ => fin _ _ _ _ h0 (dn _ h1)) fun _ => fin _ _ _ _ h0 h1
    · refine ite2 (fun _ => fin _ _ _ _ h0 (dn _ h1)) fun _ => fin0 _
def spGen (P : V → Hp → Prop) : Sp := fun vs H Q _ => ∃ D : Dr, vs = [.ref D.d] ∧ DrawsOk H D ∧ ∀ v H', P v H' → DrawsOk H' D → Keep D.d H H' → Q v H'
theorem use_draw {K : PySem.W.Frag} {H : Hp} {D : Dr} {m : Int} {Q : VK} {E : XK} (h : DrawsOk H D) (m0 : 0 < m) (m1 : m < 1073741824) (q : ∀ r H', 0 ≤ r → r < m → DrawsOk H' D → Keep D.d H H' → Q (.int r) H') : sp__law_draw K [.ref D.d, .int m] H Q E := ⟨D, m, rfl, h, m0, m1, q⟩
theorem use_gen {P : V → Hp → Prop} {H : Hp} {D : Dr} {Q : VK} {E : XK} (h : DrawsOk H D) (q : ∀ v H', P v H' → DrawsOk H' D → Keep D.d H H' → Q v H') : spGen P [.ref D.d] H Q E := ⟨D, rfl, h, q⟩
def t__law_mark (K : PySem.W.Frag) : TS :=
  (tSeq (tAsg (tLst (tCons (tC (.str "a")) (tCons (tC (.str "b")) (tCons (tC (.str "c")) (tCons (tC (.str "main")) (tCons (tC (.str "push")) (tCons (tC (.str "zz")) (tCons (tC (.str "ab")) (tCons (tC (.str "aaaaaaaa")) tNil))))))))) (gName 1))
  (tSeq (tAsg (uCall (sp__law_draw K) [] E0 (tCons (uVar 0) (tCons (tC (.int 10)) tNil))) (gName 2))
  (tSeq (tIfS (tTest (tOp rLtU (uVar 2) (tC (.int 8)))) (tRet (tOp rIxU (uVar 1) (uVar 2))) tNext)
  (tSeq (tAsg (tC (.str "abcdefghijklmnopqrstuvwxyz")) (gName 3))
  (tSeq (tAsg (tOp rAddI (tC (.int 1)) (uCall (sp__law_draw K) [] E0 (tCons (uVar 0) (tCons (tC (.int 8)) tNil)))) (gName 4))
  (tRet (tBM K "str" rJoinU (tC (.str "")) (tCons (tLc (iRng1 (tCons (uVar 4) tNil)) (gName 5) tYes (tOp rIxU (uVar 3) (uCall (sp__law_draw K) [] E0 (tCons (uVar 0) (tCons (tC (.int 26)) tNil)))) [5]) tNil))))))))
def sp__law_mark (K : PySem.W.Frag) : Sp := spGen fun v _ => ∃ z, v = .str z ∧ isMarkS z = true
theorem len_gen {P : V → Hp → Prop} : ∀ vs H Q E, spGen P vs H Q E → vs.length = 1 := fun _ _ _ _ ⟨_, e, _⟩ => by rw [e]; rfl
theorem pure__law_mark {K : PySem.W.Frag} (vs : List V) (H : Hp) (Q : VK) (E : XK) (h : sp__law_mark K vs H Q E) : t__law_mark K { nx := fun _ H' => Q .non H', rt := Q } (start ["_law_draws", "_law_forms", "_law_at", "_law_letters", "_law_size", "_law_k"] vs) H := by
  obtain ⟨Dw, rfl, hd, q⟩ := h
  unfold t__law_mark
  show tSeq _ _ _ [some (.ref Dw.d), none, none, none, none, none] H
  tbr_iter hd
  refine ⟨by decide, fun f hf => ?_⟩
  have hfd := hd.ne hf
  refine use_draw (hd.new hf) (by decide) (by decide) fun r H1 r0 r1 hd1 k1 => ?_
  have e1 := k1.at hfd upd_same
  have k1 : Keep Dw.d H H1 := ((Keep.refl Dw.d H).new hf).trans k1
  tbr_iter e1
  refine ite2 (fun h8 => ?_) fun _ => ?_
  · have h8 := of_decide_eq_true h8
    obtain ⟨j, rfl⟩ := Int.eq_ofNat_of_zero_le r0
    have hj : j < 8 := by omega
    have key : ∀ j : Nat, j < 8 → ∃ z, ([.str "a", .str "b", .str "c", .str "main", .str "push", .str "zz", .str "ab", .str "aaaaaaaa"] : List V)[j]? = some (.str z) ∧ isMarkS z = true := by
      intro j hj
      match j, hj with
      | 0, _ => exact ⟨_, rfl, by decide +kernel⟩
      | 1, _ => exact ⟨_, rfl, by decide +kernel⟩
      | 2, _ => exact ⟨_, rfl, by decide +kernel⟩
      | 3, _ => exact ⟨_, rfl, by decide +kernel⟩
      | 4, _ => exact ⟨_, rfl, by decide +kernel⟩
      | 5, _ => exact ⟨_, rfl, by decide +kernel⟩
      | 6, _ => exact ⟨_, rfl, by decide +kernel⟩
      | 7, _ => exact ⟨_, rfl, by decide +kernel⟩
      | n + 8, h => exact absurd h (by omega)
    obtain ⟨z, hz, hm⟩ := key j hj
    exact ⟨_, atI_nat hz, q _ _ ⟨z, rfl, hm⟩ hd1 k1⟩
  · refine use_draw hd1 (by decide) (by decide) fun r2 H2 r20 r21 hd2 k2 => ?_
    have k2 := k1.trans k2
    tbr_iter e1
    refine ⟨rfl, by omega, by omega, ?_⟩
    obtain ⟨n, en⟩ := Int.eq_ofNat_of_zero_le (show 0 ≤ 1 + r2 by omega)
    have hn : 1 ≤ n ∧ n ≤ 8 := by omega
    rw [en]
    refine comp_rng (fun D i acc H' => DrawsOk H' Dw ∧ (D ≠ Dw.d ∧ D ≠ Dw.L) ∧ H' D = some (.lst acc) ∧ Keep Dw.d H2 H' ∧ H2 D = none ∧ ∃ cs : List Nat, acc = cs.map (fun c => V.str ⟨#[c]⟩) ∧ cs.length = i ∧ ∀ c ∈ cs, c ∈ (Str.ofString "abcdefghijklmnopqrstuvwxyz").cps.toList)
      (fun D hD => ⟨hd2.new hD, ⟨hd2.ne hD, hd2.neL hD⟩, upd_same, (Keep.refl Dw.d H2).new hD, hD, [], rfl, rfl, fun _ h => absurd h (List.not_mem_nil)⟩) (fun D i acc H3 Nx hi ⟨p1, p2, p3, p4, p5, cs, ec, lc, mc⟩ hN => ?_) (fun D acc H3 hD ⟨p1, p2, p3, p4, p5, cs, ec, lc, mc⟩ => ?_)
    · refine ⟨rfl, ?_⟩
      tbr_iter p3
      refine use_draw p1 (by decide) (by decide) fun r3 H4 r30 r31 hd4 k4 => ?_
      obtain ⟨j, rfl⟩ := Int.eq_ofNat_of_zero_le r30
      have hl : (Str.ofString "abcdefghijklmnopqrstuvwxyz").cps.toList.length = 26 := by decide +kernel
      have hj : j < (Str.ofString "abcdefghijklmnopqrstuvwxyz").cps.toList.length := by rw [hl]; omega
      have e4 := k4.at p2.1 p3
      refine ⟨by decide +kernel, _, atI_nat (List.getElem?_eq_getElem hj), acc, e4, ?_, hN (acc ++ [_]) _ ⟨?_, p2, upd_same, ?_, p5, cs ++ [(Str.ofString "abcdefghijklmnopqrstuvwxyz").cps.toList[j]], ?_, ?_, ?_⟩⟩
      · rw [ec, List.length_map, lc, sizeLine_eq]
        omega
      · exact hd4.set p2.1 p2.2
      · intro b h1 h2
        have : b ≠ D := fun z => h2 (by rw [z]; exact p5)
        rw [upd_ne this]
        exact (p4.trans k4) b h1 h2
      · rw [ec, List.map_append]
        rfl
      · rw [List.length_append, lc]
        rfl
      · intro c hc
        rcases List.mem_append.mp hc with hc | hc
        · exact mc c hc
        · rw [List.mem_singleton.mp hc]
          exact List.getElem_mem hj
    · have ln : cs.length = n := lc
      refine ⟨_, _, cs.map (fun c => ⟨#[c]⟩), rfl, rfl, ?_, ?_, q _ _ ⟨_, rfl, ?_⟩ p1 (k2.trans p4)⟩
      · rw [p3, ec, List.map_map]
        rfl
      · have e0 : ∀ l : List Nat, ((l.map (fun c => (⟨#[c]⟩ : Str))).map (·.length)).sum = l.length := by
          intro l
          induction l with
          | nil => rfl
          | cons c r ih =>
            rw [List.map_cons, List.map_cons, List.sum_cons, ih, List.length_cons]
            show 1 + r.length = r.length + 1
            omega
        rw [e0, show (Str.ofString "").length = 0 from rfl]
        omega
      · have et : ∀ l : List Nat, TL.tl (Txt.join (Str.ofString "") (l.map (fun c => (⟨#[c]⟩ : Str)))) = l := by
          intro l
          rw [TL.join_eq, TL.tl_join, show TL.tl (Str.ofString "") = [] from rfl]
          induction l with
          | nil => rfl
          | cons c r ih =>
            cases r with
            | nil => rfl
            | cons c2 r =>
              show [c] ++ ([] ++ TL.joinL [] (((c2 :: r).map (fun c => (⟨#[c]⟩ : Str))).map TL.tl)) = c :: c2 :: r
              rw [ih]
              rfl
        have e1 := et cs
        have e2 : (Txt.join (Str.ofString "") (cs.map (fun c => (⟨#[c]⟩ : Str)))).length = n := by rw [TL.len_tl, e1, ln]
        have e3 : (Txt.join (Str.ofString "") (cs.map (fun c => (⟨#[c]⟩ : Str)))).cps.toList = cs := e1
        unfold isMarkS
        rw [e2, e3, decide_eq_true hn.1, decide_eq_true hn.2, Bool.and_self, Bool.true_and, List.all_eq_true]
        exact fun c hc => decide_eq_true (mc c hc)
def t__law_basic (K : PySem.W.Frag) : TS :=
  (tSeq (tAsg (tLst (tCons (tC (.str "push")) (tCons (tC (.str "push")) (tCons (tC (.str "push")) (tCons (tC (.str "drop")) (tCons (tC (.str "pick")) (tCons (tC (.str "pick")) (tCons (tC (.str "roll")) (tCons (tC (.str "keep")) (tCons (tC (.str "load")) (tCons (tC (.str "emit")) (tCons (tC (.str "expect")) (tCons (tC (.str "same")) (tCons (tC (.str "differ")) tNil)))))))))))))) (gName 1))
  (tSeq (tAsg (tOp rIxU (uVar 1) (uCall (sp__law_draw K) [] E0 (tCons (uVar 0) (tCons (tC (.int 13)) tNil)))) (gName 2))
  (tSeq (tIfS (tOr (tTest (tOp rEqS (uVar 2) (tC (.str "push")))) (tTest (tOp rEqS (uVar 2) (tC (.str "expect"))))) (tRet (tTup (tCons (uVar 2) (tCons (uCall (sp__law_mark K) [] E0 (tCons (uVar 0) tNil)) tNil)))) tNext)
  (tSeq (tIfS (tOr (tTest (tOp rEqS (uVar 2) (tC (.str "pick")))) (tTest (tOp rEqS (uVar 2) (tC (.str "roll"))))) (tSeq (tIfS (tTest (tOp rEqS (uCall (sp__law_draw K) [] E0 (tCons (uVar 0) (tCons (tC (.int 8)) tNil))) (tC (.int 0)))) (tRet (tTup (tCons (uVar 2) (tCons (uCall (sp__law_draw K) [] E0 (tCons (uVar 0) (tCons (tC (.int 24)) tNil))) tNil)))) tNext)
  (tRet (tTup (tCons (uVar 2) (tCons (uCall (sp__law_draw K) [] E0 (tCons (uVar 0) (tCons (tC (.int 3)) tNil))) tNil))))) tNext)
  (tSeq (tIfS (tOr (tTest (tOp rEqS (uVar 2) (tC (.str "keep")))) (tTest (tOp rEqS (uVar 2) (tC (.str "load"))))) (tRet (tTup (tCons (uVar 2) (tCons (uCall (sp__law_draw K) [] E0 (tCons (uVar 0) (tCons (tC (.int 4)) tNil))) tNil)))) tNext)
  (tRet (tTup (tCons (uVar 2) tNil))))))))
def BasicT (xs : List V) : Prop := (∃ w z, xs = [.str w, .str z] ∧ (w = "push" ∨ w = "expect") ∧ isMarkS z = true) ∨ (∃ w i, xs = [.str w, .int i] ∧ (w = "pick" ∨ w = "roll") ∧ 0 ≤ i ∧ i < 24) ∨ (∃ w i, xs = [.str w, .int i] ∧ (w = "keep" ∨ w = "load") ∧ 0 ≤ i ∧ i < 4) ∨
  ∃ w, xs = [.str w] ∧ (w = "drop" ∨ w = "emit" ∨ w = "same" ∨ w = "differ")
def IsBasic (v : V) (H : Hp) : Prop := ∃ p xs, v = .ref p ∧ H p = some (.tup xs) ∧ BasicT xs
def sp__law_basic (K : PySem.W.Frag) : Sp := spGen IsBasic
theorem pure__law_basic {K : PySem.W.Frag} (vs : List V) (H : Hp) (Q : VK) (E : XK) (h : sp__law_basic K vs H Q E) : t__law_basic K { nx := fun _ H' => Q .non H', rt := Q } (start ["_law_draws", "_law_words", "_law_word"] vs) H := by
  obtain ⟨Dw, rfl, hd, q⟩ := h
  unfold t__law_basic
  show tSeq _ _ _ [some (.ref Dw.d), none, none] H
  tbr_iter hd
  refine ⟨by decide, fun f hf => ?_⟩
  have hfd := hd.ne hf
  refine use_draw (hd.new hf) (by decide) (by decide) fun r H1 r0 r1 hd1 k1 => ?_
  have e1 := k1.at hfd upd_same
  have k1 : Keep Dw.d H H1 := ((Keep.refl Dw.d H).new hf).trans k1
  tbr_iter e1
  obtain ⟨j, rfl⟩ := Int.eq_ofNat_of_zero_le r0
  have hj : j < 13 := by omega
  have use2 : ∀ (w : Str) (x : V) (H2 : Hp), BasicT [.str w, x] → DrawsOk H2 Dw → Keep Dw.d H H2 → 2 ≤ sizeLine ∧ ∀ p, H2 p = none → Q (.ref p) (upd H2 p (.tup [.str w, x])) := fun w x H2 hb h2 k2 =>
    ⟨by decide, fun p hp => q _ _ ⟨p, _, rfl, upd_same, hb⟩ (h2.new hp) (k2.new hp)⟩
  match j, hj with
  | 0, _ =>
    refine ⟨_, atI_nat (j := 0) rfl, ?_⟩
    tbr_iter e1
    refine use_gen hd1 fun v H2 ⟨z, hv, hm⟩ h2 k2 => ?_
    subst hv
    exact use2 _ _ H2 (.inl ⟨_, _, rfl, .inl rfl, hm⟩) h2 (k1.trans k2)
  | 1, _ =>
    refine ⟨_, atI_nat (j := 1) rfl, ?_⟩
    tbr_iter e1
    refine use_gen hd1 fun v H2 ⟨z, hv, hm⟩ h2 k2 => ?_
    subst hv
    exact use2 _ _ H2 (.inl ⟨_, _, rfl, .inl rfl, hm⟩) h2 (k1.trans k2)
  | 2, _ =>
    refine ⟨_, atI_nat (j := 2) rfl, ?_⟩
    tbr_iter e1
    refine use_gen hd1 fun v H2 ⟨z, hv, hm⟩ h2 k2 => ?_
    subst hv
    exact use2 _ _ H2 (.inl ⟨_, _, rfl, .inl rfl, hm⟩) h2 (k1.trans k2)
  | 3, _ =>
    refine ⟨_, atI_nat (j := 3) rfl, ?_⟩
    tbr_iter e1
    exact ⟨by decide, fun p hp => q _ _ ⟨p, _, rfl, upd_same, .inr (.inr (.inr ⟨_, rfl, .inl rfl⟩))⟩ (hd1.new hp) (k1.new hp)⟩
  | 4, _ =>
    refine ⟨_, atI_nat (j := 4) rfl, ?_⟩
    tbr_iter e1
    refine use_draw hd1 (by decide) (by decide) fun r2 H2 _ _ h2 k2 => ?_
    tbr_iter e1
    refine ite2 (fun _ => ?_) fun _ => ?_
    · exact use_draw h2 (by decide) (by decide) fun r3 H3 r30 r31 h3 k3 => use2 _ _ H3 (.inr (.inl ⟨_, _, rfl, .inl rfl, r30, r31⟩)) h3 ((k1.trans k2).trans k3)
    · exact use_draw h2 (by decide) (by decide) fun r3 H3 r30 r31 h3 k3 => use2 _ _ H3 (.inr (.inl ⟨_, _, rfl, .inl rfl, r30, by omega⟩)) h3 ((k1.trans k2).trans k3)
  | 5, _ =>
    refine ⟨_, atI_nat (j := 5) rfl, ?_⟩
    tbr_iter e1
    refine use_draw hd1 (by decide) (by decide) fun r2 H2 _ _ h2 k2 => ?_
    tbr_iter e1
    refine ite2 (fun _ => ?_) fun _ => ?_
    · exact use_draw h2 (by decide) (by decide) fun r3 H3 r30 r31 h3 k3 => use2 _ _ H3 (.inr (.inl ⟨_, _, rfl, .inl rfl, r30, r31⟩)) h3 ((k1.trans k2).trans k3)
    · exact use_draw h2 (by decide) (by decide) fun r3 H3 r30 r31 h3 k3 => use2 _ _ H3 (.inr (.inl ⟨_, _, rfl, .inl rfl, r30, by omega⟩)) h3 ((k1.trans k2).trans k3)
  | 6, _ =>
    refine ⟨_, atI_nat (j := 6) rfl, ?_⟩
    tbr_iter e1
    refine use_draw hd1 (by decide) (by decide) fun r2 H2 _ _ h2 k2 => ?_
    tbr_iter e1
    refine ite2 (fun _ => ?_) fun _ => ?_
    · exact use_draw h2 (by decide) (by decide) fun r3 H3 r30 r31 h3 k3 => use2 _ _ H3 (.inr (.inl ⟨_, _, rfl, .inr rfl, r30, r31⟩)) h3 ((k1.trans k2).trans k3)
    · exact use_draw h2 (by decide) (by decide) fun r3 H3 r30 r31 h3 k3 => use2 _ _ H3 (.inr (.inl ⟨_, _, rfl, .inr rfl, r30, by omega⟩)) h3 ((k1.trans k2).trans k3)
  | 7, _ =>
    refine ⟨_, atI_nat (j := 7) rfl, ?_⟩
    tbr_iter e1
    exact use_draw hd1 (by decide) (by decide) fun r3 H3 r30 r31 h3 k3 => use2 _ _ H3 (.inr (.inr (.inl ⟨_, _, rfl, .inl rfl, r30, r31⟩))) h3 (k1.trans k3)
  | 8, _ =>
    refine ⟨_, atI_nat (j := 8) rfl, ?_⟩
    tbr_iter e1
    exact use_draw hd1 (by decide) (by decide) fun r3 H3 r30 r31 h3 k3 => use2 _ _ H3 (.inr (.inr (.inl ⟨_, _, rfl, .inr rfl, r30, r31⟩))) h3 (k1.trans k3)
  | 9, _ =>
    refine ⟨_, atI_nat (j := 9) rfl, ?_⟩
    tbr_iter e1
    exact ⟨by decide, fun p hp => q _ _ ⟨p, _, rfl, upd_same, .inr (.inr (.inr ⟨_, rfl, .inr (.inl rfl)⟩))⟩ (hd1.new hp) (k1.new hp)⟩
  | 10, _ =>
    refine ⟨_, atI_nat (j := 10) rfl, ?_⟩
    tbr_iter e1
    refine use_gen hd1 fun v H2 ⟨z, hv, hm⟩ h2 k2 => ?_
    subst hv
    exact use2 _ _ H2 (.inl ⟨_, _, rfl, .inr rfl, hm⟩) h2 (k1.trans k2)
  | 11, _ =>
    refine ⟨_, atI_nat (j := 11) rfl, ?_⟩
    tbr_iter e1
    exact ⟨by decide, fun p hp => q _ _ ⟨p, _, rfl, upd_same, .inr (.inr (.inr ⟨_, rfl, .inr (.inr (.inl rfl))⟩))⟩ (hd1.new hp) (k1.new hp)⟩
  | 12, _ =>
    refine ⟨_, atI_nat (j := 12) rfl, ?_⟩
    tbr_iter e1
    exact ⟨by decide, fun p hp => q _ _ ⟨p, _, rfl, upd_same, .inr (.inr (.inr ⟨_, rfl, .inr (.inr (.inr rfl))⟩))⟩ (hd1.new hp) (k1.new hp)⟩
  | n + 13, h => exact absurd h (by omega)
theorem c_draw {K : PySem.W.Frag} {H : Hp} {D : Dr} {m : Int} {Q : VK} {E : XK} (h : DrawsOk H D) (m0 : 0 < m) (m1 : m < 1073741824) (q : ∀ r H', 0 ≤ r → r < m → DrawsOk H' D → Keep D.d H H' → Q (.int r) H') : @Call (sp__law_draw K) [.ref D.d, .int m] H ⟨Q⟩ ⟨E⟩ := ⟨D, m, rfl, h, m0, m1, q⟩
theorem c_gen {P : V → Hp → Prop} {H : Hp} {D : Dr} {Q : VK} {E : XK} (h : DrawsOk H D) (q : ∀ v H', P v H' → DrawsOk H' D → Keep D.d H H' → Q v H') : @Call (spGen P) [.ref D.d] H ⟨Q⟩ ⟨E⟩ := ⟨D, rfl, h, q⟩
end U
end

section
namespace U
open PySem PySem.Spec PyProof.Rows L2
local macro_rules | `(tactic| ktf_call $fs) => `(tactic| simp (config := {maxSteps := 4000000}) only [↓r_fld, ↓r_setF, ↓aSF_ref, ↓r_isO, ↓r_eqO, ↓r_eqN, ↓r_neN, ↓r_gsq, ↓aGs_eq, ↓r_gcons, ↓r_gnil, ↓r_isB, ↓r_bm1, ↓r_bm0, ↓aM_app, ↓r_callX, ↓r_raise0, ↓r_tryAs, ↓r_tryOnly, ↓r_seq, ↓r_ifS, ↓r_or, ↓r_and, ↓r_not, ↓r_next, ↓r_ret, ↓r_retN, ↓r_brk, ↓r_cnt, ↓r_drop, ↓r_asg, ↓r_test, ↓r_yes, ↓r_c, ↓r_nil, ↓r_cons, ↓r_var0, ↓r_varS, ↓r_name0, ↓r_nameS, ↓r_op, ↓r_un, ↓r_rU, ↓r_chain, ↓r_andV, ↓r_orV, ↓r_notV, ↓r_call, ↓r_cb, ↓r_tup, ↓r_lst, ↓r_sl, ↓r_noPart, ↓r_part, ↓r_gsub, ↓kB_a, ↓aB_bl, ↓kI_a, ↓aI_int, ↓OK_some, ↓Br_true, ↓Br_false, ↓Cd_true, ↓r_addI, ↓r_addS, ↓r_addUI, ↓r_addUS, ↓r_addL, ↓AlT_cc, ↓AlT_nil, ↓AlT_cnil, ↓r_addT, ↓r_sub, ↓r_mul, ↓r_div, ↓r_mod, ↓r_pow, ↓r_lt, ↓r_le, ↓r_gt, ↓r_ge, ↓r_eq, ↓r_ne, ↓r_isN, ↓r_notN, ↓r_inS, ↓r_ninS, ↓r_in, ↓r_nin, ↓r_inG, ↓r_ninG, ↓r_ixS, ↓r_ix, ↓r_set, ↓r_slS, ↓AlS_lst, ↓AlS_tup, ↓r_slR, ↓r_lenS, ↓r_lenR, ↓r_listU, ↓AlC_lst, ↓AlC_tup, ↓r_tupleU, ↓r_int, ↓r_intB, ↓r_isi, ↓r_tru, ↓r_truN, ↓r_truB, ↓r_truI, ↓r_truS, ↓r_truR, ↓aL_ref, ↓a1_int, ↓a2_int, ↓r_for1, ↓r_for2, ↓r_for, ↓r_lc, ↓r_lc1, ↓r_lc2,
  OK_some, Br_true, Br_false, Br_not, Cd_true, aB_bl, aI_int, r_rU, r_addI, r_addS, r_sub, r_mul, r_div, r_mod, r_pow, r_lt, r_le, r_gt, r_ge, r_ixS, r_ix, r_set, r_lenS, r_int, r_intB, r_truN, r_truB, r_truI, r_truS, r_truR, AlT_cc, AlT_nil, AlT_cnil, AlS_lst, AlS_tup, AlC_lst, AlC_tup, a1_int, a2_int, lstO_lst, tupO_tup, seqO_eq, seqO_lst, seqO_tup, lenO_lst, lenO_tup, lenO_dK, e_tyR, tyO_t, e_ty, e_tyn, truO_lst, truO_tup, truO_dK, isa_tab, scal_tab, flat_tab, eqV_t, inV_cons, inV_nil, szl, cmul_l, cpow_l, atI_0, atI_1, atI_2, atI_3, ixN_lit, Option.some.injEq, List.length_cons, List.length_nil, List.length_append, List.length_map, Nat.zero_add, Nat.reduceAdd, natc, Int.reduceLE, Int.reduceLT, Int.reduceEq, Int.reduceSub, Int.reduceAdd, Int.reduceNeg, Int.reduceMul, Int.reducePow, Int.reduceToNat, Nat.reduceLeDiff, Nat.reduceLT, Nat.reduceEqDiff, decide_eq_true_eq, decide_eq_false_iff_not, decide_true, decide_false, Bool.not_eq_true', Bool.not_eq_false', Bool.not_true, Bool.not_false, Bool.not_not, Bool.or_eq_true, Bool.and_eq_true, Bool.or_false, Bool.false_or, Bool.or_true, Bool.true_or, Bool.and_true, Bool.true_and, Bool.and_false, Bool.false_and, Bool.and_self, List.all_cons, List.all_nil, ofs_inj, String.reduceEq, List.cons.injEq, and_true, true_and, and_self, or_true, true_or, or_false, false_or, V.ty.injEq, V.bl.injEq, V.int.injEq, V.str.injEq, V.ref.injEq, List.nil_append, List.append_nil, List.cons_append, List.getElem?_cons_zero, List.getElem?_cons_succ, List.set_cons_zero, List.set_cons_succ, exists_eq_left', exists_eq_left, exists_eq, Bool.false_eq_true, Bool.true_eq_false, reduceCtorEq, not_true_eq_false, not_false_eq_true, eq_self, List.isEmpty_cons, List.isEmpty_nil, wipe, insO_ins, insD_ins, isO_tab, isO_ref, isR_tab, snO_tab, lk_tab, putF_nil, putF_tab, isLs_lst, tyL, reduceIte, $fs:term])

abbrev cSt (K : PySem.W.Frag) : Addr := He.ga K "State"
abbrev cBad (K : PySem.W.Frag) : Addr := He.ga K "BadState"
def isRegV (v : V) : Bool := decide (v = .non) || isMarkV v
def StOk (xs rs : List V) : Prop := xs.length ≤ 24 ∧ rs.length = 4 ∧ (∀ v ∈ xs, isMarkV v = true) ∧ ∀ v ∈ rs, isRegV v = true
def IsSt (K : PySem.W.Frag) (H : Hp) (v : V) (xs rs : List V) : Prop := ∃ o dx p q, v = .ref o ∧ H o = some (.ins (cSt K) dx [("stack", .ref p), ("registers", .ref q)]) ∧ H p = some (.tup xs) ∧ H q = some (.tup rs)
theorem IsSt.same {K : PySem.W.Frag} {H H' : Hp} {v : V} {xs rs : List V} (h : IsSt K H v xs rs) (s : L2.Same H H') : IsSt K H' v xs rs := by
  obtain ⟨o, dx, p, q, e, h1, h2, h3⟩ := h
  exact ⟨o, dx, p, q, e, s _ _ h1, s _ _ h2, s _ _ h3⟩
theorem takeAll {α : Type} {P : α → Prop} {xs : List α} {i : Nat} {x : α} (h : ∀ v ∈ xs.take i, P v) (hx : xs[i]? = some x) (px : P x) : ∀ v ∈ xs.take (i + 1), P v := fun v hv => by
  rw [List.take_add_one, hx] at hv
  rcases List.mem_append.mp hv with hv | hv
  · exact h v hv
  · rw [List.mem_singleton.mp hv]
    exact px
theorem AlC.by {H : Hp} {p : Addr} {ys : List V} {Q : VK} (h : H p = some (.lst ys) ∨ H p = some (.tup ys)) (q : ∀ p' H', H' p' = some (.tup ys) → L2.Same H H' → Q (.ref p') H') : @AlC H p (H p) ⟨Q⟩ := by
  rcases h with e | e
  · rw [e, AlC_lst]
    exact Al.by fun p' H' n => q p' H' n.at n.same
  · rw [e, AlC_tup]
    exact q p H e (L2.Same.refl H)
def t_State_init_1 (K : PySem.W.Frag) (a_BadState : Addr) (E : XK) : TS :=
  (tIfS (tNot (uTru (uCall (sp_is_mark K) [] E0 (tCons (uVar 3) tNil)))) (uRaise0 (fun cls d _ H => E cls d H) a_BadState) tNext)
def t_State_init_2 (K : PySem.W.Frag) (a_BadState : Addr) (E : XK) : TS :=
  (tIfS (tAnd (tTest (tOp rNotNU (uVar 3) (tC .non))) (tNot (uTru (uCall (sp_is_mark K) [] E0 (tCons (uVar 3) tNil))))) (uRaise0 (fun cls d _ H => E cls d H) a_BadState) tNext)
def t_State_init (K : PySem.W.Frag) (a_BadState : Addr) (a_State : Addr) (E : XK) : TS :=
  (tSeq (tIfS (tOr (tTest (tOp rGtU (tCB rLenU (tCons (uVar 1) tNil)) (tC (.int 24)))) (tTest (tOp rNeS (tCB rLenU (tCons (uVar 2) tNil)) (tC (.int 4))))) (uRaise0 (fun cls d _ H => E cls d H) a_BadState) tNext)
  (tSeq (tFor (iU K (uVar 1)) (gName 3) (t_State_init_1 K a_BadState E))
  (tSeq (tFor (iU K (uVar 2)) (gName 3) (t_State_init_2 K a_BadState E))
  (tSeq (uSetF a_State "stack" (uVar 0) (tCB rTupleU (tCons (uVar 1) tNil)))
  (uSetF a_State "registers" (uVar 0) (tCB rTupleU (tCons (uVar 2) tNil)))))))
def sp_State_init (K : PySem.W.Frag) : Sp := fun vs H Q E => ∃ (o dx p q : Addr) (xs rs : List V), vs = [.ref o, .ref p, .ref q] ∧ H o = some (.ins (cSt K) dx []) ∧ (H p = some (.lst xs) ∨ H p = some (.tup xs)) ∧ (H q = some (.lst rs) ∨ H q = some (.tup rs)) ∧
  (∀ v ∈ xs, okV H v) ∧ (∀ v ∈ rs, okV H v) ∧ (StOk xs rs → ∀ H', IsSt K H' (.ref o) xs rs → (∀ b u, b ≠ o → H b = some u → H' b = some u) → Q .non H') ∧ (¬ StOk xs rs → E (.ref (cBad K)) none H)
theorem len_State_init {K : PySem.W.Frag} : ∀ vs H Q E, sp_State_init K vs H Q E → vs.length = 3 := fun _ _ _ _ ⟨_, _, _, _, _, _, e, _⟩ => by rw [e]; rfl
theorem pure_State_init {K : PySem.W.Frag} (vs : List V) (H : Hp) (Q : VK) (E : XK) (h : sp_State_init K vs H Q E) : t_State_init K (cBad K) (cSt K) E { nx := fun _ H' => Q .non H', rt := Q } (start ["self", "stack", "registers", "mark"] vs) H := by
  obtain ⟨o, dx, p, q, xs, rs, rfl, eo, ep, eq, kx, kr, good, bad⟩ := h
  have sp : seqO (H p) = some xs := by rcases ep with e | e <;> rw [e] <;> rfl
  have sq : seqO (H q) = some rs := by rcases eq with e | e <;> rw [e] <;> rfl
  have lp : lenO (H p) = some xs.length := by rcases ep with e | e <;> rw [e] <;> rfl
  have lq : lenO (H q) = some rs.length := by rcases eq with e | e <;> rw [e] <;> rfl
  unfold t_State_init
  show tSeq _ _ _ [some (.ref o), some (.ref p), some (.ref q), none] H
  ktf_call (And.intro lp lq)
  refine Br.by (fun h => ?_) fun h => ?_
  · ktf_call lp
    exact bad fun ⟨h1, _⟩ => by omega
  have hx : xs.length ≤ 24 := by omega
  ktf_call lq
  refine Br.by (fun h4 => ?_) fun h => ?_
  rotate_left
  · ktf_call lq
    exact bad fun ⟨_, h2, _⟩ => h (by omega)
  have hr : rs.length = 4 := by omega
  ktf_call lp
  refine loop_seq (xs := xs) sp (fun i σ H' => H' = H ∧ (∃ y, σ = [some (.ref o), some (.ref p), some (.ref q), y]) ∧ ∀ v ∈ xs.take i, isMarkV v = true) ⟨rfl, ⟨_, rfl⟩, fun v hv => by simp at hv⟩ (fun i σ H' _ e => by rw [e.1]) (fun i x σ H' hxi ⟨e1, ⟨y, e2⟩, m⟩ => ?_) (fun σ H' ⟨e1, ⟨y, e2⟩, m⟩ => ?_)
  · replace e1 := e1.symm; subst e1 e2
    have hm : x ∈ xs := List.mem_of_getElem? hxi
    unfold t_State_init_1
    ktf_call sp
    refine Call.by ⟨x, rfl, (kx x hm).1, (kx x hm).2, ?_⟩
    ktf_call sp
    refine Br.by (fun hb => ?_) fun hb => ?_
    · ktf_call sp
      exact bad fun ⟨_, _, h3, _⟩ => by rw [h3 x hm] at hb; cases hb
    · ktf_call sp
      exact ⟨⟨_, rfl⟩, takeAll m hxi (by simpa using hb)⟩
  · replace e1 := e1.symm; subst e1 e2
    rw [List.take_of_length_le (Nat.le_refl _)] at m
    ktf_call sq
    refine loop_seq (xs := rs) sq (fun i σ H' => H' = H ∧ (∃ y, σ = [some (.ref o), some (.ref p), some (.ref q), y]) ∧ ∀ v ∈ rs.take i, isRegV v = true) ⟨rfl, ⟨_, rfl⟩, fun v hv => by simp at hv⟩ (fun i σ H' _ e => by rw [e.1]) (fun i x σ H' hxi ⟨e1, ⟨y, e2⟩, m2⟩ => ?_) (fun σ H' ⟨e1, ⟨y, e2⟩, m2⟩ => ?_)
    · replace e1 := e1.symm; subst e1 e2
      have hm : x ∈ rs := List.mem_of_getElem? hxi
      unfold t_State_init_2
      ktf_call sq
      refine Br.by (fun hn => ?_) fun hn => ?_
      · ktf_call sq
        exact ⟨⟨_, rfl⟩, takeAll m2 hxi (by subst hn; rfl)⟩
      · ktf_call sq
        refine Call.by ⟨x, rfl, (kr x hm).1, (kr x hm).2, ?_⟩
        ktf_call sq
        refine Br.by (fun hb => ?_) fun hb => ?_
        · ktf_call sq
          exact bad fun ⟨_, _, _, h3⟩ => by
            have := h3 x hm
            unfold isRegV at this
            rw [decide_eq_false hn, hb] at this
            cases this
        · ktf_call sq
          exact ⟨⟨_, rfl⟩, takeAll m2 hxi (by
            unfold isRegV
            rw [decide_eq_false hn, show isMarkV x = true by simpa using hb]
            rfl)⟩
    · replace e1 := e1.symm; subst e1 e2
      rw [List.take_of_length_le (Nat.le_refl _)] at m2
      have ok : StOk xs rs := ⟨hx, hr, m, m2⟩
      ktf_call sq
      refine AlC.by ep fun p' H1 e1 s1 => ?_
      ktf_call (s1 _ _ eo)
      refine Md.by fun H2 d2 => ?_
      have np : p' ≠ o := fun z => by rw [z, s1 _ _ eo] at e1; cases e1
      have nq : q ≠ o := fun z => by
        rcases eq with e | e <;> rw [z, eo] at e <;> cases e
      have eq2 : H2 q = some (.lst rs) ∨ H2 q = some (.tup rs) := eq.imp (fun e => d2.old nq (s1 _ _ e)) fun e => d2.old nq (s1 _ _ e)
      ktf_call sq
      refine AlC.by eq2 fun q' H3 e3 s3 => ?_
      ktf_call (s3 _ _ d2.at)
      refine Md.by fun H4 d4 => ?_
      have nq' : q' ≠ o := fun z => by rw [z, s3 _ _ d2.at] at e3; cases e3
      ktf_call sq
      exact good ok _ ⟨o, dx, p', q', rfl, d4.at, d4.old np (s3 _ _ (d2.old np e1)), d4.old nq' e3⟩ fun b u hb e => d4.old hb (s3 _ _ (d2.old hb (s1 _ _ e)))
def sp_State (K : PySem.W.Frag) : Sp := fun vs H Q E => ∃ (p q : Addr) (xs rs : List V), vs = [.ref p, .ref q] ∧ (H p = some (.lst xs) ∨ H p = some (.tup xs)) ∧ (H q = some (.lst rs) ∨ H q = some (.tup rs)) ∧
  (∀ v ∈ xs, okV H v) ∧ (∀ v ∈ rs, okV H v) ∧ (StOk xs rs → ∀ v H', IsSt K H' v xs rs → L2.Same H H' → Q v H') ∧ (¬ StOk xs rs → ∀ H', L2.Same H H' → E (.ref (cBad K)) none H')
theorem new_State {K : PySem.W.Frag} : ∀ vs H Q E, sp_State K vs H Q E → ∀ o dx, H o = none → H dx = none → dx ≠ o → sp_State_init K (.ref o :: vs) (upd (upd H dx (.own o)) o (.ins (cSt K) dx [])) (fun v H2 => v = .non ∧ Q (.ref o) H2) E := by
  intro vs H Q E ⟨p, q, xs, rs, e, ep, eq, kx, kr, good, bad⟩ o dx no nd ne
  subst e
  have n1 : New H dx (.own o) (upd H dx (.own o)) := ⟨nd, rfl⟩
  have s1 : L2.Same H (upd (upd H dx (.own o)) o (.ins (cSt K) dx [])) := fun b u e => by
    rw [upd_ne (ne_of_none e no)]
    exact n1.old e
  refine ⟨o, dx, p, q, xs, rs, rfl, upd_same, ep.imp (s1 _ _) (s1 _ _), eq.imp (s1 _ _) (s1 _ _), fun v hv => okV_same s1 (kx v hv), fun v hv => okV_same s1 (kr v hv), fun ok H' h k => ⟨rfl, good ok _ H' h fun b u e => k b u (ne_of_none e no) (s1 _ _ e)⟩, fun nok => bad nok _ s1⟩
def m1 (A : Addr) : Addr → Option Bool := fun D => if D = A then some true else none
theorem m1_self {A : Addr} : m1 A A = some true := by unfold m1; rw [if_pos rfl]
theorem isMark_sn {v : V} (h : isMarkV v = true) : sn v = true := by
  cases v with
  | str z =>
    have h : isMarkS z = true := h
    unfold isMarkS at h
    rw [Bool.and_eq_true, List.all_eq_true] at h
    show z.cps.all (· < 0x110000) = true
    rw [← Array.all_toList, List.all_eq_true]
    intro c hc
    have := of_decide_eq_true (h.2 c hc)
    have hl : ∀ c ∈ (Str.ofString "abcdefghijklmnopqrstuvwxyz").cps.toList, c < 0x110000 := by decide +kernel
    exact decide_eq_true (hl c this)
  | _ => cases h
theorem isReg_sn {v : V} (h : isRegV v = true) : sn v = true := by
  unfold isRegV at h
  by_cases e : v = .non
  · subst e; rfl
  · rw [decide_eq_false e, Bool.false_or] at h
    exact isMark_sn h
theorem StOk.sn {xs rs : List V} (h : StOk xs rs) : xs.all U.sn = true ∧ rs.all U.sn = true := ⟨List.all_eq_true.mpr fun v hv => isMark_sn (h.2.2.1 v hv), List.all_eq_true.mpr fun v hv => isReg_sn (h.2.2.2 v hv)⟩
def t_State_eq (K : PySem.W.Frag) (a_State : Addr) (m_State : Addr → Option Bool) : TS :=
  (tRet (tAndV (tCB (rIsO a_State m_State) (tCons (uVar 1) (tCons (tC (.ref a_State)) tNil))) (tAndV (tOp (rEqN false) (tUn (rFld a_State "stack") (uVar 0)) (tUn (rFld a_State "stack") (uVar 1))) (tOp (rEqN false) (tUn (rFld a_State "registers") (uVar 0)) (tUn (rFld a_State "registers") (uVar 1))))))
def sp_State_eq (K : PySem.W.Frag) : Sp := fun vs H Q _ => ∃ (a b : V) (xs rs ys ts : List V), vs = [a, b] ∧ IsSt K H a xs rs ∧ IsSt K H b ys ts ∧ StOk xs rs ∧ StOk ys ts ∧ Q (.bl (decide (xs = ys) && decide (rs = ts))) H
theorem len_State_eq {K : PySem.W.Frag} : ∀ vs H Q E, sp_State_eq K vs H Q E → vs.length = 2 := fun _ _ _ _ ⟨_, _, _, _, _, _, e, _⟩ => by rw [e]; rfl
theorem pure_State_eq {K : PySem.W.Frag} (vs : List V) (H : Hp) (Q : VK) (E : XK) (h : sp_State_eq K vs H Q E) : t_State_eq K (cSt K) (m1 (cSt K)) { nx := fun _ H' => Q .non H', rt := Q } (start ["self", "other"] vs) H := by
  obtain ⟨a, b, xs, rs, ys, ts, rfl, ⟨o, dx, p, q, rfl, h1, h2, h3⟩, ⟨o2, dx2, p2, q2, rfl, g1, g2, g3⟩, ok1, ok2, hq⟩ := h
  obtain ⟨n1, n2⟩ := ok1.sn
  obtain ⟨n3, n4⟩ := ok2.sn
  unfold t_State_eq
  show tRet _ _ [some (.ref o), some (.ref o2)] H
  have fs := And.intro h1 (And.intro h2 (And.intro h3 (And.intro g1 (And.intro g2 (And.intro g3 (And.intro n1 (And.intro n2 (And.intro n3 (And.intro n4 (m1_self (A := cSt K)))))))))))
  ktf_call fs
  refine Br.by (fun e => ?_) fun e => ?_
  · ktf_call fs
    rw [decide_eq_true e, Bool.true_and] at hq
    exact hq
  · ktf_call fs
    rw [decide_eq_false e, Bool.false_and] at hq
    exact hq
def t_State_empty (K : PySem.W.Frag) : TS :=
  (tRet (uCallX (sp_State K) w0 (tCons (tTup tNil) (tCons (tTup (tCons (tC .non) (tCons (tC .non) (tCons (tC .non) (tCons (tC .non) tNil))))) tNil))))
def sp_State_empty (K : PySem.W.Frag) : Sp := fun vs H Q _ => vs = [] ∧ ∀ v H', IsSt K H' v [] [.non, .non, .non, .non] → L2.Same H H' → Q v H'
theorem len_State_empty {K : PySem.W.Frag} : ∀ vs H Q E, sp_State_empty K vs H Q E → vs.length = 0 := fun _ _ _ _ ⟨e, _⟩ => by rw [e]; rfl
theorem pure_State_empty {K : PySem.W.Frag} (vs : List V) (H : Hp) (Q : VK) (E : XK) (h : sp_State_empty K vs H Q E) : t_State_empty K { nx := fun _ H' => Q .non H', rt := Q } (start [] vs) H := by
  obtain ⟨rfl, hq⟩ := h
  unfold t_State_empty
  show tRet _ _ [] H
  ktf_call Cd_true
  refine Al.by fun p H1 n1 => ?_
  ktf_call Cd_true
  refine Al.by fun q H2 n2 => ?_
  ktf_call Cd_true
  have ok : StOk [] [.non, .non, .non, .non] := ⟨by decide, rfl, by simp, fun v hv => by simp at hv; subst hv; rfl⟩
  refine Call.by ⟨p, q, _, _, rfl, .inr (n2.old n1.at), .inr n2.at, by simp, fun v hv => ?_, fun _ v H' h s => hq v H' h ((n1.same.trans n2.same).trans s), fun h => absurd ok h⟩
  simp at hv
  subst hv
  exact ⟨rfl, trivial⟩
end U
end

section
namespace U
open PySem PySem.Spec PyProof.Rows L2
def Ob (D : Dr) (v : V) (H : Hp) : Prop := (flatV v = true ∧ strOk v) ∨ ∃ p xs, v = .ref p ∧ p ≠ D.d ∧ (H p = some (.tup xs) ∨ H p = some (.lst xs))
theorem Ob.ok {D : Dr} {H : Hp} {v : V} (h : Ob D v H) : okV H v := by
  rcases h with ⟨h, z⟩ | ⟨p, xs, rfl, _, e⟩
  · cases v <;> first | exact ⟨rfl, z⟩ | cases h
  · refine ⟨?_, trivial⟩
    rw [tyV_ref]
    rcases e with e | e <;> rw [e] <;> rfl
theorem Ob.keep {D : Dr} {H H' : Hp} {v : V} (h : Ob D v H) (k : Keep D.d H H') : Ob D v H' := by
  rcases h with h | ⟨p, xs, rfl, n, e⟩
  · exact .inl h
  · exact .inr ⟨p, xs, rfl, n, e.imp (k.at n) (k.at n)⟩
theorem Ob.lay {D : Dr} {H H' : Hp} {v : V} {p : Addr} {o : HO} (h : Ob D v H) (n : New H p o H') : Ob D v H' := by
  rcases h with h | ⟨p, xs, rfl, ne, e⟩
  · exact .inl h
  · exact .inr ⟨p, xs, rfl, ne, e.imp n.old n.old⟩
theorem Ob.mod {D : Dr} {H H' : Hp} {v : V} {p : Addr} {ys : List V} (h : Ob D v H) (m : Mod H p (.lst ys) H') : Ob D v H' := by
  rcases h with h | ⟨q, xs, rfl, ne, e⟩
  · exact .inl h
  · by_cases z : q = p
    · subst z
      exact .inr ⟨q, ys, rfl, ne, .inr m.at⟩
    · exact .inr ⟨q, xs, rfl, ne, e.imp (m.old z) (m.old z)⟩
theorem Ob.mark {D : Dr} {H : Hp} {z : Str} (h : isMarkS z = true) : Ob D (.str z) H := by
  refine .inl ⟨rfl, ?_⟩
  unfold isMarkS at h
  simp only [Bool.and_eq_true, decide_eq_true_eq] at h
  exact Nat.le_trans h.1.2 (by decide)
structure DrL (Dw : Dr) (H0 : Hp) (D : Addr) (acc : List V) (H : Hp) : Prop where
  dr : DrawsOk H Dw
  n1 : D ≠ Dw.d
  n2 : D ≠ Dw.L
  at_ : H D = some (.lst acc)
  kp : Keep Dw.d H0 H
  fr : H0 D = none
section
variable {Dw : Dr} {H0 H H' : Hp} {D : Addr} {acc acc' : List V}
theorem DrL.new (hd : DrawsOk H0 Dw) (n : New H0 D (.lst acc) H) : DrL Dw H0 D acc H := ⟨n.draws hd, hd.ne n.fr, hd.neL n.fr, n.at, n.keep (Keep.refl _ _), n.fr⟩
theorem DrL.start (hd : DrawsOk H0 Dw) (hD : H0 D = none) : DrL Dw H0 D [] (upd H0 D (.lst [])) := DrL.new hd ⟨hD, rfl⟩
theorem DrL.mod (d : DrL Dw H0 D acc H) (m : Mod H D (.lst acc') H') : DrL Dw H0 D acc' H' := by
  rw [m.eq]
  refine ⟨d.dr.set d.n1 d.n2, d.n1, d.n2, upd_same, fun b h1 h2 => ?_, d.fr⟩
  rw [upd_ne (fun z => h2 (by rw [z]; exact d.fr))]
  exact d.kp b h1 h2
theorem DrL.push (d : DrL Dw H0 D acc H) (v : V) : DrL Dw H0 D (acc ++ [v]) (upd H D (.lst (acc ++ [v]))) := d.mod ⟨rfl⟩
theorem DrL.draw (d : DrL Dw H0 D acc H) (h : DrawsOk H' Dw) (k : Keep Dw.d H H') : DrL Dw H0 D acc H' := ⟨h, d.n1, d.n2, k.at d.n1 d.at_, d.kp.trans k, d.fr⟩
theorem DrL.lay {p : Addr} {o : HO} (d : DrL Dw H0 D acc H) (n : New H p o H') : DrL Dw H0 D acc H' := ⟨n.draws d.dr, d.n1, d.n2, n.old d.at_, n.keep d.kp, d.fr⟩
end
end U
end

section
namespace U
open PySem PySem.Spec PyProof.Rows L2
section
variable {H H' : Hp} {p q b d : Addr} {o u : HO} {xs ys : List V} {Q : VK} {P : Prop}
theorem OKl {k : List V → Prop} (h : H p = some (.lst xs)) (r : k xs) : @OK _ (lstO (H p)) ⟨k⟩ := OK.by (by rw [h]; rfl) r
theorem OKt {k : List V → Prop} (h : H p = some (.tup xs)) (r : k xs) : @OK _ (tupO (H p)) ⟨k⟩ := OK.by (by rw [h]; rfl) r
theorem OKql {k : List V → Prop} (h : H p = some (.lst xs)) (r : k xs) : @OK _ (seqO (H p)) ⟨k⟩ := OK.by (by rw [h]; rfl) r
theorem OKqt {k : List V → Prop} (h : H p = some (.tup xs)) (r : k xs) : @OK _ (seqO (H p)) ⟨k⟩ := OK.by (by rw [h]; rfl) r
theorem OKnl {k : Nat → Prop} (h : H p = some (.lst xs)) (r : k xs.length) : @OK _ (lenO (H p)) ⟨k⟩ := OK.by (by rw [h]; rfl) r
theorem OKnt {k : Nat → Prop} (h : H p = some (.tup xs)) (r : k xs.length) : @OK _ (lenO (H p)) ⟨k⟩ := OK.by (by rw [h]; rfl) r
theorem OKnd {k : Nat → Prop} {kvs : List (Key × V)} (h : H p = some (.dK kvs)) (r : k kvs.length) : @OK _ (lenO (H p)) ⟨k⟩ := OK.by (by rw [h]; rfl) r
theorem OKyl {k : Ty → Prop} (h : H p = some (.lst xs)) (r : k .lst) : @OK _ (tyO (H p)) ⟨k⟩ := OK.by (by rw [h]; rfl) r
theorem OKyt {k : Ty → Prop} (h : H p = some (.tup xs)) (r : k .tup) : @OK _ (tyO (H p)) ⟨k⟩ := OK.by (by rw [h]; rfl) r
theorem OKyd {k : Ty → Prop} {kvs : List (Key × V)} (h : H p = some (.dK kvs)) (r : k .dict) : @OK _ (tyO (H p)) ⟨k⟩ := OK.by (by rw [h]; rfl) r
theorem OKbl {k : Bool → Prop} (h : H p = some (.lst xs)) (r : k (!xs.isEmpty)) : @OK _ (truO (H p)) ⟨k⟩ := OK.by (by rw [h]; rfl) r
theorem OKbt {k : Bool → Prop} (h : H p = some (.tup xs)) (r : k (!xs.isEmpty)) : @OK _ (truO (H p)) ⟨k⟩ := OK.by (by rw [h]; rfl) r
theorem OKbd {k : Bool → Prop} {kvs : List (Key × V)} (h : H p = some (.dK kvs)) (r : k (!kvs.isEmpty)) : @OK _ (truO (H p)) ⟨k⟩ := OK.by (by rw [h]; rfl) r
theorem OKi {C dx : Addr} {fs : List (Str × V)} {k : List (Str × V) → Prop} (h : H p = some (.ins C dx fs)) (r : k fs) : @OK _ (insO C (H p)) ⟨k⟩ := OK.by (by rw [h]; exact insO_ins) r
theorem OKj {C dx : Addr} {fs : List (Str × V)} {k : Addr × List (Str × V) → Prop} (h : H p = some (.ins C dx fs)) (r : k (dx, fs)) : @OK _ (insD C (H p)) ⟨k⟩ := OK.by (by rw [h]; exact insD_ins) r
theorem OKsl {k : Bool × List V → Prop} (h : H p = some (.lst xs)) (r : k (false, xs)) : @OK _ (snO (H p)) ⟨k⟩ := OK.by (by rw [h]; rfl) r
theorem OKst {k : Bool × List V → Prop} (h : H p = some (.tup xs)) (r : k (true, xs)) : @OK _ (snO (H p)) ⟨k⟩ := OK.by (by rw [h]; rfl) r
theorem OKr {C dx : Addr} {fs : List (Str × V)} {M : Addr → Option Bool} {k : Bool → Prop} (h : H p = some (.ins C dx fs)) (r : @OK _ (M C) ⟨k⟩) : @OK _ (isR M (H p)) ⟨k⟩ := by rw [h]; exact r
theorem OKrt {M : Addr → Option Bool} {k : Bool → Prop} (h : H p = some (.tup xs)) (r : k false) : @OK _ (isR M (H p)) ⟨k⟩ := by rw [h]; exact r
theorem OKrl {M : Addr → Option Bool} {k : Bool → Prop} (h : H p = some (.lst xs)) (r : k false) : @OK _ (isR M (H p)) ⟨k⟩ := by rw [h]; exact r
theorem AlS_l {lo hi : Option Int} (h : H p = some (.lst xs)) (r : @Al H (.lst (cutV xs lo hi)) ⟨Q⟩) : @AlS H p (H p) lo hi ⟨Q⟩ := by rw [h]; exact r
theorem AlS_t {lo hi : Option Int} (h : H p = some (.tup xs)) (r : @Br (wholeT xs.length lo hi) ⟨Q (.ref p) H⟩ ⟨@Al H (.tup (cutV xs lo hi)) ⟨Q⟩⟩) : @AlS H p (H p) lo hi ⟨Q⟩ := by rw [h]; exact r
theorem AlC_l (h : H p = some (.lst xs)) (r : @Al H (.tup xs) ⟨Q⟩) : @AlC H p (H p) ⟨Q⟩ := by rw [h]; exact r
theorem AlC_t (h : H p = some (.tup xs)) (r : Q (.ref p) H) : @AlC H p (H p) ⟨Q⟩ := by rw [h]; exact r
theorem CdL {K : PySem.W.Frag} (h : H p = some (.lst xs)) (r : P) : @Cd (L2.tyV K "list" (.ref p) H) ⟨P⟩ := ⟨.inl ⟨rfl, xs, .inl (.inl h)⟩, r⟩
theorem OKa {α : Type} {l : List α} {i : Int} {k : α → Prop} (h0 : 0 ≤ i) (h1 : i < (l.length : Int)) (r : ∀ (j : Nat) v, i = (j : Int) → l[j]? = some v → k v) : @OK _ (atI l i) ⟨k⟩ := by
  obtain ⟨j, rfl⟩ := Int.eq_ofNat_of_zero_le h0
  have hj : j < l.length := by omega
  exact OK.by (x := l[j]) (by unfold atI ixN; rw [if_pos h0, if_pos h1]; show l[j]? = some _; exact List.getElem?_eq_getElem hj) (r j _ rfl (List.getElem?_eq_getElem hj))
theorem OKm {α : Type} {l : List α} {i : Int} {k : α → Prop} (h0 : 0 ≤ i) (h1 : i < (l.length : Int)) (r : ∀ v, v ∈ l → k v) : @OK _ (atI l i) ⟨k⟩ := OKa h0 h1 fun j v _ e => r v (List.mem_of_getElem? e)
theorem OKe {α : Type} {l : List α} {i : Int} {k : α → Prop} (h0 : i < 0) (h1 : -(l.length : Int) ≤ i) (r : ∀ (j : Nat) v, (j : Int) = i + (l.length : Int) → l[j]? = some v → k v) : @OK _ (atI l i) ⟨k⟩ := by
  obtain ⟨j, hj⟩ := Int.eq_ofNat_of_zero_le (show 0 ≤ i + (l.length : Int) by omega)
  have hl : j < l.length := by omega
  exact OK.by (x := l[j]) (by unfold atI ixN; rw [if_neg (by omega), if_pos h1, hj]; show l[j]? = some _; exact List.getElem?_eq_getElem hl) (r j _ hj.symm (List.getElem?_eq_getElem hl))
theorem OKx {n : Nat} {i : Int} {k : Nat → Prop} (h0 : 0 ≤ i) (h1 : i < (n : Int)) (r : ∀ j : Nat, i = (j : Int) → j < n → k j) : @OK _ (ixN n i) ⟨k⟩ := by
  obtain ⟨j, rfl⟩ := Int.eq_ofNat_of_zero_le h0
  exact OK.by (x := j) (by unfold ixN; rw [if_pos h0, if_pos h1]; rfl) (r j rfl (by omega))
theorem OKn {α : Type} {l : List α} {n : Nat} {k : α → Prop} (h : n < l.length) (r : ∀ v, l[n]? = some v → k v) : @OK _ (atI l (n : Int)) ⟨k⟩ :=
  OK.by (x := l[n]) (by unfold atI ixN; rw [if_pos (by omega), if_pos (by omega)]; exact List.getElem?_eq_getElem h) (r _ (List.getElem?_eq_getElem h))
theorem OKl1 {α : Type} {l : List α} {k : α → Prop} (h : 1 ≤ l.length) (r : ∀ v, l[l.length - 1]? = some v → k v) : @OK _ (atI l (-1)) ⟨k⟩ := OKe (by omega) (by omega) fun j v e hv => r v (by rw [show l.length - 1 = j by omega]; exact hv)
theorem OKl2 {α : Type} {l : List α} {k : α → Prop} (h : 2 ≤ l.length) (r : ∀ v, l[l.length - 2]? = some v → k v) : @OK _ (atI l (-2)) ⟨k⟩ := OKe (by omega) (by omega) fun j v e hv => r v (by rw [show l.length - 2 = j by omega]; exact hv)
theorem OKlk {α : Type} {l : List α} {n : Nat} {k : α → Prop} (h : n < l.length) (r : ∀ v, l[l.length - 1 - n]? = some v → k v) : @OK _ (atI l (-1 - (n : Int))) ⟨k⟩ := OKe (by omega) (by omega) fun j v e hv => r v (by rw [show l.length - 1 - n = j by omega]; exact hv)
theorem OKg {α : Type} {l : List α} {n : Nat} {k : α → Prop} (h : n < l.length) (r : ∀ v, l[n]? = some v → k v) : @OK _ l[n]? ⟨k⟩ := OK.by (List.getElem?_eq_getElem h) (r _ (List.getElem?_eq_getElem h))
theorem OKxn {n m : Nat} {k : Nat → Prop} (h : m < n) (r : k m) : @OK _ (ixN n (m : Int)) ⟨k⟩ := OK.by (x := m) (by unfold ixN; rw [if_pos (by omega), if_pos (by omega)]; rfl) r
theorem OKln {α : Type} {l : List α} {n : Nat} {k : α → Prop} (h : n < l.length) (r : ∀ v, l[l.length - 1 - n]? = some v → k v) : @OK _ (atI l ((l.length : Int) - 1 - (n : Int))) ⟨k⟩ := OKa (by omega) (by omega) fun j v e hv => r v (by rw [show l.length - 1 - n = j by omega]; exact hv)
theorem seqIx_of {i : Int} {n m : Nat} (h : m < n) (e : i = (m : Int) ∨ i + (n : Int) = (m : Int) ∧ i < 0) : seqIndex? i n = some m := by
  unfold seqIndex?
  rcases e with rfl | ⟨e, l⟩
  · rw [if_neg (show ¬ (m : Int) < 0 by omega)]
    simp only
    rw [if_pos (by simp; omega)]
    rfl
  · rw [if_pos l]
    simp only
    rw [e, if_pos (by simp; omega)]
    rfl
theorem OKsi {n m : Nat} {k : Nat → Prop} (h : m < n) (r : k (n - 1 - m)) : @OK _ (seqIndex? (-1 - (m : Int)) n) ⟨k⟩ := OK.by (seqIx_of (show n - 1 - m < n by omega) (.inr ⟨by omega, by omega⟩)) r
theorem OKsn {n m : Nat} {i : Int} {k : Nat → Prop} (e : i = (m : Int)) (h : m < n) (r : k m) : @OK _ (seqIndex? i n) ⟨k⟩ := OK.by (seqIx_of h (.inl e)) r
theorem OKsm {n m : Nat} {k : Nat → Prop} (h : m < n) (r : k (n - 1 - m)) : @OK _ (seqIndex? ((n : Int) - 1 - (m : Int)) n) ⟨k⟩ := OK.by (seqIx_of (show n - 1 - m < n by omega) (.inl (by omega))) r
theorem ne_kd {v : HO} (h1 : H b = some u) (h2 : H p = some v) (k : u = v → False) : b ≠ p := fun e => k (by rw [e, h2] at h1; cases h1; rfl)
theorem Mod.lk (n : Mod H p o H') (e : H b = some u) (h : b ≠ p) : H' b = some u := n.old h e
theorem Keep.lk (n : Keep d H H') (e : H b = some u) (h : b ≠ d) : H' b = some u := n.at h e
theorem Same.at (s : L2.Same H H') (h : H b = some u) : H' b = some u := s _ _ h
theorem Same.none (s : L2.Same H H') (h : H' p = none) : H p = none := by
  cases e : H p with
  | none => rfl
  | some u => rw [s _ _ e] at h; cases h
theorem Same.new {H1 : Hp} (s : L2.Same H H1) (n : New H1 p o H') : L2.Same H H' := s.trans n.same
theorem Same.mod {H1 : Hp} (s : L2.Same H H1) (m : Mod H1 p o H') (f : H p = Option.none) : L2.Same H H' := fun c v e => by
  rw [m.off (fun z => by rw [z, f] at e; cases e)]
  exact s _ _ e
theorem Keep.same' (s : L2.Same H H') : Keep d H H' := fun b _ h2 => by
  cases e : H b with
  | none => exact absurd e h2
  | some u => exact s _ _ e
theorem Keep.none (k : Keep d H H') (hd : H d ≠ Option.none) (h : H' p = Option.none) (hp : H' d ≠ Option.none) : H p = Option.none := by
  cases e : H p with
  | none => rfl
  | some u =>
    have : p ≠ d := fun z => hp (by rw [← z]; exact h)
    rw [k.at this e] at h
    cases h
theorem Keep.new' {H1 : Hp} (k : Keep d H H1) (n : New H1 p o H') : Keep d H H' := n.keep k
theorem Keep.mod {H1 : Hp} (k : Keep d H H1) (m : Mod H1 p o H') (f : H p = Option.none) : Keep d H H' := fun b h1 h2 => by
  rw [m.off (fun z => h2 (by rw [z]; exact f))]
  exact k b h1 h2
theorem Keep.modd {H1 : Hp} (k : Keep d H H1) (m : Mod H1 d o H') : Keep d H H' := fun b h1 h2 => by
  rw [m.off h1]
  exact k b h1 h2
theorem Keep.fresh {D : Dr} (k : Keep D.d H H') (d : DrawsOk H D) (d' : DrawsOk H' D) (h : H' p = Option.none) : H p = Option.none := k.none d.some h d'.some
theorem Mod.draws {D : Dr} (m : Mod H p o H') (h : DrawsOk H D) (h1 : p ≠ D.d) (h2 : p ≠ D.L) : DrawsOk H' D := by rw [m.eq]; exact h.set h1 h2
theorem DrawsOk.neN {D : Dr} (hp : H p = Option.none) (h : DrawsOk H D) : p ≠ D.d := h.ne hp
theorem DrawsOk.neLN {D : Dr} (hp : H p = Option.none) (h : DrawsOk H D) : p ≠ D.L := h.neL hp
theorem neN (hp : H p = Option.none) (e : H b = Option.some u) : b ≠ p := ne_of_none e hp
theorem DrawsOk.ne' {D : Dr} (n : New H p o H') (h : DrawsOk H D) : p ≠ D.d := h.ne n.fr
theorem DrawsOk.neL' {D : Dr} (n : New H p o H') (h : DrawsOk H D) : p ≠ D.L := h.neL n.fr
theorem DrawsOk.atd {D : Dr} (h : DrawsOk H D) : ∃ xs, H D.d = Option.some (.lst xs) := by
  obtain ⟨_, _, _, _, e, _⟩ := h
  exact ⟨_, e⟩
theorem DrawsOk.atL {D : Dr} (h : DrawsOk H D) : ∃ xs, H D.L = Option.some (.lst xs) := by
  obtain ⟨_, _, _, _, _, _, e, _⟩ := h
  exact ⟨_, e⟩
def notL : HO → Bool
  | .lst _ => false
  | _ => true
theorem DrawsOk.other' {D : Dr} (h : DrawsOk H D) (e : H p = Option.some u) (k : notL u = true) : p ≠ D.d := fun z => by
  obtain ⟨xs, e'⟩ := h.atd
  rw [z, e'] at e
  cases e
  cases k
theorem DrawsOk.otherL {D : Dr} (h : DrawsOk H D) (e : H p = Option.some u) (k : notL u = true) : p ≠ D.L := fun z => by
  obtain ⟨xs, e'⟩ := h.atL
  rw [z, e'] at e
  cases e
  cases k
def Kl (H H' : Hp) : Prop := ∀ b o, H b = some o → notL o = true → H' b = some o
theorem Kl.refl (H : Hp) : Kl H H := fun _ _ e _ => e
theorem Kl.trans {H1 : Hp} (a : Kl H H1) (b : Kl H1 H') : Kl H H' := fun c o e k => b c o (a c o e k) k
theorem New.kl (n : New H p o H') : Kl H H' := fun _ _ e _ => n.old e
theorem Same.kl (s : L2.Same H H') : Kl H H' := fun _ _ e _ => s _ _ e
theorem Mod.kl (m : Mod H p o H') (e : H p = some (.lst xs)) : Kl H H' := fun b u h k => by
  rw [m.off (fun z => by rw [z, e] at h; cases h; cases k)]
  exact h
theorem Keep.kl {D : Dr} (k : Keep D.d H H') (h : DrawsOk H D) : Kl H H' := fun b u e n => k.at (h.other' e n) e
theorem Kl.at (k : Kl H H') (h : H p = some o) (n : notL o = true) : H' p = some o := k _ _ h n
theorem IsSt.kl {K : PySem.W.Frag} {v : V} {rs : List V} (h : IsSt K H v xs rs) (s : Kl H H') : IsSt K H' v xs rs := by
  obtain ⟨o, dx, p, q, e, h1, h2, h3⟩ := h
  exact ⟨o, dx, p, q, e, s _ _ h1 rfl, s _ _ h2 rfl, s _ _ h3 rfl⟩
end

theorem cutV_from {xs : List V} {k : Nat} : cutV xs (some (k : Int)) none = xs.drop k := by
  unfold cutV
  rw [HT.sIx_nat, HT.sIx_none]
  by_cases h : k ≤ xs.length
  · rw [Nat.min_eq_left h, List.take_of_length_le (by rw [List.length_drop]; omega)]
  · rw [Nat.min_eq_right (by omega), List.drop_of_length_le (Nat.le_refl _), List.drop_of_length_le (by omega), List.take_nil]
theorem cutV_to {xs : List V} {k : Nat} : cutV xs none (some (k : Int)) = xs.take k := by
  unfold cutV
  rw [HT.sIx_nat, HT.sIx_none, List.drop_zero, Nat.sub_zero]
  by_cases h : k ≤ xs.length
  · rw [Nat.min_eq_left h]
  · rw [Nat.min_eq_right (by omega), List.take_of_length_le (Nat.le_refl _), List.take_of_length_le (by omega)]
theorem cutV_btw {xs : List V} {k l : Nat} (h : k ≤ l) (hl : l ≤ xs.length) : cutV xs (some (k : Int)) (some (l : Int)) = (xs.drop k).take (l - k) := by
  unfold cutV
  rw [HT.sIx_nat, HT.sIx_nat, show min k xs.length = k by omega, show min l xs.length = l by omega]
theorem cutV_1 {xs : List V} : cutV xs (some 1) none = xs.drop 1 := cutV_from (k := 1)
theorem cutV_to1 {xs : List V} : cutV xs none (some 1) = xs.take 1 := cutV_to (k := 1)
section
variable {K : PySem.W.Frag} {g : TG} {σ : L2.St} {H : Hp} {te : TE} {us : List Nat} {Q : VK}
theorem seqAt_of {H H' : Hp} {a : Addr} {xs : List V} (hx : seqAt H a = some xs) (s : L2.Same H H') : H' a = H a := by
  unfold seqAt at hx
  cases ha : H a with
  | none => rw [ha] at hx; cases hx
  | some o => exact s _ _ ha
theorem comp_map {a : Addr} {xs : List V} (f : V → V) (hx : seqAt H a = some xs) (hl : xs.length ≤ 16777216)
    (hs : ∀ x H' (R : VK), x ∈ xs → L2.Same H H' → (∀ H4, L2.Same H' H4 → R (f x) H4) → g x (wipe σ us) H' fun σ2 H2 => wipe σ2 us = wipe σ us ∧ te σ2 H2 R)
    (hd : ∀ L H', H L = none → H' L = some (.lst (xs.map f)) → L2.Same H H' → Q (.ref L) H') : @CompU K (.ref a) us σ H ⟨g⟩ ⟨tYes⟩ ⟨te⟩ ⟨Q⟩ := by
  refine comp_seq hx (fun D i acc H' => L2.Same H H' ∧ H D = none ∧ H' D = some (.lst acc) ∧ acc = (xs.take i).map f) (fun D hD => ⟨same_new (L2.Same.refl H) hD, hD, upd_same, rfl⟩) (fun D i acc H' hD _ ⟨s, _⟩ => seqAt_of hx s) (fun D i x acc H' Nx hxi ⟨s, hD, e, ea⟩ hN => ?_) (fun D acc H' hD ⟨s, _, e, ea⟩ => ?_)
  · refine hs x H' (fun y H4 => ∃ acc, H4 D = some (.lst acc) ∧ acc.length < sizeLine ∧ Nx (upd H4 D (.lst (acc ++ [y])))) (List.mem_of_getElem? hxi) s fun H4 s4 => ?_
    have hi : i < xs.length := (List.getElem?_eq_some_iff.mp hxi).1
    refine ⟨acc, s4 _ _ e, ?_, hN (acc ++ [f x]) _ ⟨fun b u eb => ?_, hD, upd_same, ?_⟩⟩
    · rw [ea, List.length_map, List.length_take]
      show _ < 16777216
      omega
    · rw [upd_ne (ne_of_none eb hD)]
      exact s4 _ _ (s _ _ eb)
    · rw [ea, List.take_add_one, hxi, List.map_append]
      rfl
  · exact hd D H' hD (by rw [e, ea, List.take_of_length_le (Nat.le_refl _)]) s
theorem comp_rmap {lo : Int} {n : Nat} (f : Nat → V) (hn : n ≤ 16777216)
    (hs : ∀ i H' (R : VK), i < n → L2.Same H H' → (∀ H4, L2.Same H' H4 → R (f i) H4) → g (.int (lo + (i : Int))) (wipe σ us) H' fun σ2 H2 => wipe σ2 us = wipe σ us ∧ te σ2 H2 R)
    (hd : ∀ L H', H L = none → H' L = some (.lst ((List.range n).map f)) → L2.Same H H' → Q (.ref L) H') : @CompJ (Itr lo n) us σ H ⟨g⟩ ⟨tYes⟩ ⟨te⟩ ⟨Q⟩ := by
  refine comp_rng (fun D i acc H' => L2.Same H H' ∧ H D = none ∧ H' D = some (.lst acc) ∧ acc = (List.range i).map f) (fun D hD => ⟨same_new (L2.Same.refl H) hD, hD, upd_same, rfl⟩) (fun D i acc H' Nx hi ⟨s, hD, e, ea⟩ hN => ?_) (fun D acc H' hD ⟨s, _, e, ea⟩ => ?_)
  · refine hs i H' (fun y H4 => ∃ acc, H4 D = some (.lst acc) ∧ acc.length < sizeLine ∧ Nx (upd H4 D (.lst (acc ++ [y])))) hi s fun H4 s4 => ?_
    refine ⟨acc, s4 _ _ e, ?_, hN (acc ++ [f i]) _ ⟨fun b u eb => ?_, hD, upd_same, ?_⟩⟩
    · rw [ea, List.length_map, List.length_range]
      show _ < 16777216
      omega
    · rw [upd_ne (ne_of_none eb hD)]
      exact s4 _ _ (s _ _ eb)
    · rw [ea, List.range_succ, List.map_append]
      rfl
  · exact hd D H' hD (by rw [e, ea]) s
theorem comp_drawn {D : Dr} {lo : Int} {n : Nat} (P : V → Hp → Prop) (hP : ∀ v H1 H2, Kl H1 H2 → P v H1 → P v H2) (hd : DrawsOk H D) (hn : n ≤ 16777216)
    (hs : ∀ i H' (R : VK), i < n → DrawsOk H' D → Keep D.d H H' → (∀ y H4, P y H4 → DrawsOk H4 D → Keep D.d H' H4 → R y H4) → g (.int (lo + (i : Int))) (wipe σ us) H' fun σ2 H2 => wipe σ2 us = wipe σ us ∧ te σ2 H2 R)
    (q : ∀ L acc H', H L = none → H' L = some (.lst acc) → acc.length = n → (∀ y ∈ acc, P y H') → DrawsOk H' D → Keep D.d H H' → Q (.ref L) H') : @CompJ (Itr lo n) us σ H ⟨g⟩ ⟨tYes⟩ ⟨te⟩ ⟨Q⟩ := by
  refine comp_rng (fun L i acc H' => DrL D H L acc H' ∧ acc.length = i ∧ ∀ y ∈ acc, P y H') (fun L hL => ⟨DrL.start hd hL, rfl, fun v hv => absurd hv (List.not_mem_nil)⟩) (fun L i acc H' Nx hi ⟨p1, p2, p3⟩ hN => ?_) (fun L acc H' hL ⟨p1, p2, p3⟩ => ?_)
  · refine hs i H' (fun y H4 => ∃ acc, H4 L = some (.lst acc) ∧ acc.length < sizeLine ∧ Nx (upd H4 L (.lst (acc ++ [y])))) hi p1.dr p1.kp fun y H4 py d4 k4 => ?_
    have p4 := p1.draw d4 k4
    have kl : Kl H4 (upd H4 L (.lst (acc ++ [y]))) := Mod.kl ⟨rfl⟩ p4.at_
    refine ⟨acc, p4.at_, ?_, hN (acc ++ [y]) _ ⟨p4.push y, by rw [List.length_append, p2]; rfl, fun v hv => ?_⟩⟩
    · rw [p2]
      show _ < 16777216
      omega
    · rcases List.mem_append.mp hv with hv | hv
      · exact hP _ _ _ kl (hP _ _ _ (k4.kl p1.dr) (p3 v hv))
      · rw [List.mem_singleton.mp hv]
        exact hP _ _ _ kl py
  · exact q L acc H' hL p1.at_ p2 p3 p1.dr p1.kp
end

theorem okV_mark {v : V} {H : Hp} (h : isMarkV v = true) : okV H v := by
  cases v with
  | str z =>
    refine ⟨rfl, ?_⟩
    have h : isMarkS z = true := h
    unfold isMarkS at h
    simp only [Bool.and_eq_true, decide_eq_true_eq] at h
    exact Nat.le_trans h.1.2 (by decide)
  | _ => cases h
theorem okV_reg {v : V} {H : Hp} (h : isRegV v = true) : okV H v := by
  unfold isRegV at h
  by_cases e : v = .non
  · subst e; exact ⟨rfl, trivial⟩
  · rw [decide_eq_false e, Bool.false_or] at h
    exact okV_mark h
theorem c_StateL {K : PySem.W.Frag} {p q : Addr} {xs rs : List V} {H : Hp} {Q : VK} {E : XK} (h1 : H p = some (.lst xs)) (h2 : H q = some (.lst rs)) (ok : StOk xs rs)
    (h : ∀ v H', IsSt K H' v xs rs → L2.Same H H' → Q v H') : @Call (sp_State K) [.ref p, .ref q] H ⟨Q⟩ ⟨E⟩ :=
  ⟨p, q, xs, rs, rfl, .inl h1, .inl h2, fun v hv => okV_mark (ok.2.2.1 v hv), fun v hv => okV_reg (ok.2.2.2 v hv), fun _ => h, fun z => absurd ok z⟩
theorem c_StateE {K : PySem.W.Frag} {p q : Addr} {ys ts xs rs : List V} {H : Hp} {Q : VK} {E : XK} (ok : StOk xs rs) (h1 : H p = some (.lst ys)) (e1 : ys = xs) (h2 : H q = some (.lst ts)) (e2 : ts = rs)
    (h : ∀ v H', IsSt K H' v xs rs → L2.Same H H' → Q v H') : @Call (sp_State K) [.ref p, .ref q] H ⟨Q⟩ ⟨E⟩ := c_StateL (e1 ▸ h1) (e2 ▸ h2) ok h
theorem c_eqSt {K : PySem.W.Frag} {a b : V} {H : Hp} {Q : VK} {xs rs ys ts : List V} (h1 : IsSt K H a xs rs) (h2 : IsSt K H b ys ts) (ok1 : StOk xs rs) (ok2 : StOk ys ts) (q : Q (.bl (decide (xs = ys) && decide (rs = ts))) H) : @aR (rEqO (cSt K) (sp_State_eq K)) a b H ⟨Q⟩ := by
  have z : sp_State_eq K [a, b] H (kB fun c H' => Q (.bl c) H') E0 := ⟨a, b, xs, rs, ys, ts, rfl, h1, h2, ok1, ok2, q⟩
  obtain ⟨o, dx, p, q, rfl, e, _⟩ := h1
  obtain ⟨o2, dx2, p2, q2, rfl, e2, _⟩ := h2
  rw [r_eqO]
  exact OKi e (OKi e2 z)
theorem cutSt {xs rs : List V} (ok : StOk xs rs) (k : Nat) : StOk (xs.drop k) rs := ⟨by rw [List.length_drop]; have := ok.1; omega, ok.2.1, fun v hv => ok.2.2.1 v (List.mem_of_mem_drop hv), ok.2.2.2⟩
theorem okV_keep {H H' : Hp} {D : Dr} {v : V} (h : okV H v) (d : DrawsOk H D) (d' : DrawsOk H' D) (k : Keep D.d H H') : okV H' v := by
  refine ⟨?_, h.2⟩
  have h1 := h.1
  cases v with
  | ref p =>
    by_cases e : p = D.d
    · obtain ⟨xs, hx⟩ := d'.atd
      rw [e, tyV_ref, hx]
      rfl
    · have hp : H p ≠ none := fun z => by rw [tyV_ref, z] at h1; cases h1
      rw [tyV_ref, k p e hp, ← tyV_ref]
      exact h1
  | _ => exact h1
theorem all_map {xs : List V} {f : V → Bool} : (xs.map fun v => V.bl (f v)) = (xs.map f).map V.bl := by rw [List.map_map]; rfl
end U
end

section
namespace U
open PySem PySem.Spec PyProof.Rows L2 NumText TL
namespace Nm
abbrev isD (c : Nat) : Prop := 48 ≤ c ∧ c ≤ 57
theorem digs_mem {c : Nat} : c ∈ (Str.ofString "0123456789").cps.toList ↔ isD c := by
  have e : (Str.ofString "0123456789").cps.toList = [48, 49, 50, 51, 52, 53, 54, 55, 56, 57] := by decide +kernel
  rw [e]
  simp only [List.mem_cons, List.not_mem_nil, or_false]
  unfold isD
  omega
theorem dv_from (cs : List Nat) : ∀ a : Nat, cs.foldl (fun acc c => acc * 10 + (c - 48)) a = a * 10 ^ cs.length + digitsVal cs := by
  unfold digitsVal
  induction cs with
  | nil => intro a; simp
  | cons c cs ih =>
    intro a
    rw [List.foldl_cons, ih, List.foldl_cons, ih (0 * 10 + (c - 48)), List.length_cons, Nat.pow_succ]
    rw [Nat.add_mul, Nat.add_mul, Nat.mul_assoc, Nat.mul_comm (10 ^ cs.length) 10]
    omega
theorem dv_app (a b : List Nat) : digitsVal (a ++ b) = digitsVal a * 10 ^ b.length + digitsVal b := by
  show (a ++ b).foldl _ 0 = _
  rw [List.foldl_append, dv_from]
  rfl
theorem dv_one {c : Nat} : digitsVal [c] = c - 48 := by
  unfold digitsVal
  simp
theorem dv_snoc (a : List Nat) (c : Nat) : digitsVal (a ++ [c]) = digitsVal a * 10 + (c - 48) := by
  rw [dv_app, dv_one]
  rfl
theorem dv_lt : ∀ {cs : List Nat}, AllDigits cs → digitsVal cs < 10 ^ cs.length := fun {cs} => by
  induction cs with
  | nil => intro _; decide
  | cons c cs ih =>
    intro h
    have e := dv_app [c] cs
    rw [dv_one] at e
    rw [show c :: cs = [c] ++ cs from rfl, e, List.length_append, List.length_singleton, Nat.pow_add, Nat.pow_one]
    have i := ih h.tail
    have hc := h.head
    have : (c - 48) * 10 ^ cs.length ≤ 9 * 10 ^ cs.length := Nat.mul_le_mul_right _ (by omega)
    omega
theorem canon1 : ∀ (n : Nat) {cs : List Nat}, cs.length = n → AllDigits cs → cs ≠ [] → cs[0]? ≠ some 48 → 1 ≤ digitsVal cs ∧ numL (digitsVal cs) = cs := by
  intro n
  induction n with
  | zero => intro cs e _ h; exact absurd (List.length_eq_zero_iff.mp e) h
  | succ n ih =>
    intro cs e ha hn h0
    obtain ⟨xs, c, rfl⟩ : ∃ xs c, cs = xs ++ [c] := ⟨cs.dropLast, cs.getLast hn, (List.dropLast_concat_getLast hn).symm⟩
    have hc : isD c := ha c (by simp)
    rw [List.length_append, List.length_singleton] at e
    rw [dv_snoc]
    by_cases hx : xs = []
    · subst hx
      have hne : c ≠ 48 := fun z => h0 (by rw [z]; rfl)
      rw [show digitsVal [] = 0 from rfl, Nat.zero_mul, Nat.zero_add]
      unfold isD at hc
      refine ⟨by omega, ?_⟩
      rw [numL_lt (by omega)]
      rw [show 48 + (c - 48) = c by omega]
      rfl
    · have ax : AllDigits xs := fun d hd => ha d (List.mem_append_left _ hd)
      have hl : 0 < xs.length := List.length_pos_iff.mpr hx
      obtain ⟨i1, i2⟩ := ih (by omega) ax hx (by rw [List.getElem?_append_left hl] at h0; exact h0)
      unfold isD at hc
      refine ⟨by omega, ?_⟩
      rw [numL_step (by omega), show (digitsVal xs * 10 + (c - 48)) / 10 = digitsVal xs by omega, show 48 + (digitsVal xs * 10 + (c - 48)) % 10 = c by omega, i2]
theorem canon {cs : List Nat} (ha : AllDigits cs) (hn : cs ≠ []) (h : cs = [48] ∨ cs[0]? ≠ some 48) : numL (digitsVal cs) = cs := by
  rcases h with rfl | h
  · decide +kernel
  · exact (canon1 _ rfl ha hn h).2
def padD : Nat → Nat → List Nat
  | 0, _ => []
  | k + 1, r => padD k (r / 10) ++ [48 + r % 10]
theorem padD_len : ∀ k r, (padD k r).length = k
  | 0, _ => rfl
  | k + 1, r => by rw [padD, List.length_append, padD_len k]; rfl
theorem padD_zero : ∀ k, padD k 0 = List.replicate k 48
  | 0 => rfl
  | k + 1 => by rw [padD, Nat.zero_div, padD_zero k, List.replicate_succ']
theorem padD_mod : ∀ k r, padD k (r % 10 ^ k) = padD k r
  | 0, _ => rfl
  | k + 1, r => by
    rw [padD, padD]
    have e1 : r % 10 ^ (k + 1) % 10 = r % 10 := Nat.mod_mod_of_dvd _ ⟨10 ^ k, by rw [Nat.pow_succ, Nat.mul_comm]⟩
    have e2 : r % 10 ^ (k + 1) / 10 = r / 10 % 10 ^ k := by
      rw [Nat.pow_succ, Nat.mul_comm, Nat.mod_mul_right_div_self]
    rw [e1, e2, padD_mod k]
theorem padD_num : ∀ k r, 1 ≤ k → r < 10 ^ k → List.replicate (k - (numL r).length) 48 ++ numL r = padD k r := by
  intro k
  induction k with
  | zero => intro r h; omega
  | succ k ih =>
    intro r _ hr
    by_cases h : r < 10
    · rw [numL_lt h, padD, Nat.div_eq_of_lt h, padD_zero, Nat.mod_eq_of_lt h]
      rfl
    · have hk : 1 ≤ k := by
        rcases Nat.eq_zero_or_pos k with z | z
        · subst z; omega
        · exact z
      have hd : r / 10 < 10 ^ k := by
        rw [Nat.pow_succ] at hr
        omega
      rw [numL_step (by omega), List.length_append, List.length_singleton, Nat.add_sub_add_right, ← List.append_assoc, ih _ hk hd]
      rfl
theorem numL_block : ∀ k n, 10 ^ k ≤ n → numL n = numL (n / 10 ^ k) ++ padD k (n % 10 ^ k) := by
  intro k
  induction k with
  | zero => intro n _; rw [Nat.pow_zero, Nat.div_one, padD, List.append_nil]
  | succ k ih =>
    intro n hn
    have hp : 0 < 10 ^ k := Nat.pow_pos (by decide)
    have h1 : 10 ^ k ≤ n / 10 := by
      rw [Nat.pow_succ] at hn
      exact (Nat.le_div_iff_mul_le (by decide)).mpr hn
    have h10 : 10 ≤ n := by
      rw [Nat.pow_succ] at hn
      have : 1 * 10 ≤ 10 ^ k * 10 := Nat.mul_le_mul_right _ hp
      omega
    rw [numL_step h10, ih _ h1, padD_mod, padD_mod, List.append_assoc, padD, Nat.div_div_eq_div_mul, Nat.pow_succ, Nat.mul_comm 10]
def numT (n : Int) : List Nat := (if n < 0 then [45] else []) ++ numL n.natAbs
def sg (l : List Nat) : Nat := if l[0]? = some 45 then 1 else 0
def bad (l : List Nat) (s k : Nat) : Prop := ∃ c, l[k]? = some c ∧ (¬ isD c ∨ (k = s ∧ c = 48 ∧ s = 1) ∨ (k = s + 1 ∧ l[s]? = some 48))
inductive Wr (l : List Nat) : Option Nat → Prop
  | empty : l.length = sg l → Wr l (some (sg l))
  | at (k : Nat) : l.length ≠ sg l → sg l ≤ k → bad l (sg l) k → (∀ j, sg l ≤ j → j < k → ¬ bad l (sg l) j) → Wr l (some k)
  | fine : l.length ≠ sg l → (∀ j, sg l ≤ j → j < l.length → ¬ bad l (sg l) j) → Wr l none
theorem sg_le {l : List Nat} : sg l ≤ l.length := by
  unfold sg
  split
  · rename_i h
    have : 0 < l.length := by
      rcases Nat.eq_zero_or_pos l.length with z | z
      · rw [List.length_eq_zero_iff.mp z] at h; cases h
      · exact z
    omega
  · omega
theorem bad_lt {l : List Nat} {s k : Nat} (h : bad l s k) : k < l.length := by
  obtain ⟨c, e, _⟩ := h
  exact (List.getElem?_eq_some_iff.mp e).1
theorem Wr.det {l : List Nat} {a b : Option Nat} (h1 : Wr l a) (h2 : Wr l b) : a = b := by
  cases h1 with
  | empty e => cases h2 with
    | empty _ => rfl
    | «at» k n _ _ _ => exact absurd e n
    | fine n _ => exact absurd e n
  | «at» k n hk bk mk => cases h2 with
    | empty e => exact absurd e n
    | «at» j _ hj bj mj =>
      rcases Nat.lt_trichotomy k j with x | x | x
      · exact absurd bk (mj k hk x)
      · rw [x]
      · exact absurd bj (mk j hj x)
    | fine _ f => exact absurd bk (f k hk (bad_lt bk))
  | fine n f => cases h2 with
    | empty e => exact absurd e n
    | «at» k _ hk bk _ => exact absurd bk (f k hk (bad_lt bk))
    | fine _ _ => rfl
theorem Wr.good {l : List Nat} (h : Wr l none) : AllDigits (l.drop (sg l)) ∧ l.drop (sg l) ≠ [] ∧ l = (if sg l = 1 then [45] else []) ++ l.drop (sg l) ∧ numL (digitsVal (l.drop (sg l))) = l.drop (sg l) ∧ (sg l = 1 → 1 ≤ digitsVal (l.drop (sg l))) := by
  cases h with
  | fine n f =>
    have le := sg_le (l := l)
    have hd : AllDigits (l.drop (sg l)) := fun c hc => by
      obtain ⟨i, hi, e⟩ := List.mem_iff_getElem.mp hc
      rw [List.length_drop] at hi
      rw [List.getElem_drop] at e
      have b := f (sg l + i) (by omega) (by omega)
      refine Classical.byContradiction fun hn => b ⟨c, ?_, .inl hn⟩
      rw [List.getElem?_eq_getElem (by omega), e]
    have hn : l.drop (sg l) ≠ [] := fun z => by
      have := congrArg List.length z
      rw [List.length_drop, List.length_nil] at this
      omega
    have h0 : (l.drop (sg l))[0]? = some 48 → l.drop (sg l) = [48] ∧ sg l ≠ 1 := fun z => by
      rw [List.getElem?_drop, Nat.add_zero] at z
      constructor
      · have b := fun h => f (sg l + 1) (by omega) h
        have : l.length = sg l + 1 := Classical.byContradiction fun hl => by
          have hlt : sg l + 1 < l.length := by omega
          exact b hlt ⟨_, List.getElem?_eq_getElem hlt, .inr (.inr ⟨rfl, z⟩)⟩
        have e : (l.drop (sg l)).length = 1 := by rw [List.length_drop]; omega
        obtain ⟨a, ea⟩ := List.length_eq_one_iff.mp e
        rw [ea]
        have z2 : (l.drop (sg l))[0]? = some 48 := by rw [List.getElem?_drop, Nat.add_zero]; exact z
        rw [ea] at z2
        simpa using z2
      · intro s1
        exact f (sg l) (Nat.le_refl _) (by omega) ⟨48, z, .inr (.inl ⟨rfl, rfl, s1⟩)⟩
    refine ⟨hd, hn, ?_, ?_, fun s1 => ?_⟩
    · by_cases s1 : sg l = 1
      · rw [if_pos s1, s1]
        have h1 : l[0]? = some 45 := by
          unfold sg at s1
          split at s1
          · assumption
          · cases s1
        cases l with
        | nil => cases h1
        | cons a l =>
          have : a = 45 := by simpa using h1
          subst this
          rfl
      · have : sg l = 0 := by
          unfold sg at s1 ⊢
          split <;> simp_all
        rw [if_neg s1, this]
        rfl
    · refine canon hd hn ?_
      by_cases z : (l.drop (sg l))[0]? = some 48
      · exact .inl (h0 z).1
      · exact .inr z
    · refine (canon1 _ rfl hd hn fun z => (h0 z).2 s1).1
def val (l : List Nat) : Int := if sg l = 1 then -(digitsVal (l.drop (sg l)) : Int) else (digitsVal (l.drop (sg l)) : Int)
theorem Wr.back {l : List Nat} (h : Wr l none) : numT (val l) = l := by
  obtain ⟨_, _, e, c, p⟩ := h.good
  unfold numT val
  by_cases s1 : sg l = 1
  · have := p s1
    rw [if_pos s1, if_pos (by omega), Int.natAbs_neg, Int.natAbs_natCast, c]
    rw [if_pos s1] at e
    exact e.symm
  · rw [if_neg s1, if_neg (by omega), Int.natAbs_natCast, c]
    rw [if_neg s1] at e
    exact e.symm
theorem numL_head {n : Nat} (h : 10 ≤ n) : (numL n)[0]? ≠ some 48 := by
  induction n using Nat.strongRecOn with
  | _ n ih =>
    rw [numL_step h]
    have hl : 0 < (numL (n / 10)).length := List.length_pos_iff.mpr (numL_ne _)
    rw [List.getElem?_append_left hl]
    by_cases h2 : 10 ≤ n / 10
    · exact ih _ (by omega) h2
    · rw [numL_lt (by omega)]
      intro e
      have : 48 + n / 10 = 48 := by simpa using e
      omega
theorem sg_numT {n : Int} : sg (numT n) = if n < 0 then 1 else 0 := by
  unfold sg numT
  by_cases h : n < 0
  · rw [if_pos h, if_pos h]
    rfl
  · rw [if_neg h, if_neg h, List.nil_append, if_neg]
    intro e
    have hm := List.mem_of_getElem? e
    have := numL_digits _ _ hm
    omega
theorem numT_fine (n : Int) : Wr (numT n) none := by
  have es := sg_numT (n := n)
  have hl : 0 < (numL n.natAbs).length := List.length_pos_iff.mpr (numL_ne _)
  have ed : (numT n).drop (sg (numT n)) = numL n.natAbs := by
    rw [es]
    unfold numT
    by_cases h : n < 0
    · rw [if_pos h, if_pos h]
      rfl
    · rw [if_neg h, if_neg h]
      rfl
  have ll : (numT n).length = sg (numT n) + (numL n.natAbs).length := by
    have := congrArg List.length ed
    rw [List.length_drop] at this
    have := sg_le (l := numT n)
    omega
  have at_ : ∀ i, (numT n)[sg (numT n) + i]? = (numL n.natAbs)[i]? := fun i => by rw [← ed, List.getElem?_drop]
  refine .fine (by omega) fun j hj hj2 ⟨c, e, b⟩ => ?_
  obtain ⟨i, rfl⟩ := Nat.exists_eq_add_of_le hj
  rw [at_] at e
  have hc := numL_digits _ _ (List.mem_of_getElem? e)
  rcases b with b | ⟨b1, b2, b3⟩ | ⟨b1, b2⟩
  · exact b hc
  · have hi : i = 0 := by omega
    subst hi
    rw [es] at b3
    split at b3
    · rename_i hn
      by_cases h10 : 10 ≤ n.natAbs
      · exact numL_head h10 (by rw [e, b2])
      · rw [numL_lt (by omega)] at e
        have : 48 + n.natAbs = c := by simpa using e
        omega
    · cases b3
  · have hi : i = 1 := by omega
    subst hi
    have b2 : (numT n)[sg (numT n) + 0]? = some 48 := b2
    rw [at_] at b2
    by_cases h10 : 10 ≤ n.natAbs
    · exact numL_head h10 b2
    · rw [numL_lt (by omega)] at e
      cases e
theorem val_numT (n : Int) : val (numT n) = n := by
  have es := sg_numT (n := n)
  have ed : (numT n).drop (sg (numT n)) = numL n.natAbs := by
    rw [es]
    unfold numT
    by_cases h : n < 0
    · rw [if_pos h, if_pos h]
      rfl
    · rw [if_neg h, if_neg h]
      rfl
  unfold val
  rw [ed, numL_val, es]
  by_cases h : n < 0
  · rw [if_pos h, if_pos rfl]
    omega
  · rw [if_neg h, if_neg (by decide)]
    omega
theorem cut1 {z : Str} : (cutS z none (some 1) = Str.ofString "-") = (sg (tl z) = 1) := by
  have e1 : tl (cutS z none (some 1)) = (tl z).take 1 := by
    show ((z.cps.toList.drop 0).take (min (Int.toNat 1) z.length - 0)) = _
    rw [List.drop_zero, Nat.sub_zero]
    show (tl z).take (min 1 z.length) = _
    rw [len_tl z, ← List.take_take, List.take_of_length_le (Nat.le_refl _)]
  have e2 : tl (Str.ofString "-") = [45] := by decide +kernel
  have e3 : (cutS z none (some 1) = Str.ofString "-") = ((tl z).take 1 = [45]) := propext ⟨fun h => by
    rw [← e1, h, e2], fun h => ext_tl (by rw [e1, h, e2])⟩
  rw [e3]
  unfold sg
  cases tl z with
  | nil => simp
  | cons a l => simp
theorem joinL_nil : ∀ l : List (List Nat), joinL [] l = l.flatten
  | [] => rfl
  | [p] => by simp [joinL]
  | p :: q :: r => by
    rw [joinL, joinL_nil (q :: r), List.nil_append, List.flatten_cons (l := p)]
theorem join0 (ys : List Str) : tl (Txt.join (Str.ofString "") ys) = (ys.map tl).flatten := by
  have e0 : tl (Str.ofString "") = [] := by decide +kernel
  rw [join_eq, tl_join, e0, joinL_nil]
theorem join0_len (ys : List Str) : (Txt.join (Str.ofString "") ys).length = (ys.map (·.length)).sum := by
  rw [len_tl, join0, List.length_flatten, List.map_map]
  rfl
theorem sg01 (l : List Nat) : sg l = 0 ∨ sg l = 1 := by
  unfold sg
  split <;> simp
end Nm
section
open Nm
theorem r_sgn {z : Str} {H : Hp} {Q : VK} : @aC rIntCall [.bl (decide (V.str (cutS z none (some 1)) = V.str (Str.ofString "-")))] H ⟨Q⟩ = Q (.int ((sg (tl z) : Nat) : Int)) H := by
  rw [r_intB]
  simp only [V.str.injEq, cut1]
  rcases sg01 (tl z) with h | h <;> rw [h] <;> rfl
def a3 (vs : List V) [k : Kp (Int → Int → Int → Prop)] : Prop := match vs with
  | [.int i, .int j, .int c] => k.val i j c
  | _ => False
theorem a3_int {i j c : Int} {k : Int → Int → Int → Prop} : @a3 [.int i, .int j, .int c] ⟨k⟩ = k i j c := rfl
def RgJ (i j c : Int) (k : Nat → Prop) : Prop := ∃ n, RgC i j c n ∧ k n
theorem r_for3u {g : TG} {tb : TS} {ts : TA} {D : Ends} {σ : L2.St} {H : Hp} : tFor (iRng3 ts) g tb D σ H = ts σ H fun vs H1 => @a3 vs ⟨fun i j c => RgJ i j c fun n => @LoopJ (Itc i c n) σ H1 ⟨g⟩ ⟨tb⟩ ⟨D⟩⟩ := by
  rw [r_for3]
  congr 1
  funext vs H1
  refine propext ⟨fun ⟨i, j, c, n, e, r, q⟩ => by rw [e]; exact ⟨n, r, q⟩, fun h => ?_⟩
  unfold a3 at h
  split at h
  · obtain ⟨n, r, q⟩ := h
    exact ⟨_, _, _, n, rfl, r, q⟩
  · exact h.elim
end
end U
end

section
namespace U
open PySem PySem.Spec PyProof.Rows L2
local macro_rules | `(tactic| tb_start) => `(tactic| first
  | assumption
  | (refine Ne.symm ?_; assumption)
  | ((with_reducible apply New.ne); (focus assumption); (focus tb_rel); done)
  | (refine Ne.symm ?_; (with_reducible apply New.ne); (focus assumption); (focus tb_rel); done)
  | ((with_reducible apply neN); (focus assumption); (focus tb_rel); done)
  | (refine Ne.symm ?_; (with_reducible apply neN); (focus assumption); (focus tb_rel); done)
  | ((with_reducible apply DrawsOk.neN); (focus assumption); (focus kct_strs); done)
  | ((with_reducible apply DrawsOk.neLN); (focus assumption); (focus kct_strs); done)
  | ((with_reducible apply DrawsOk.ne'); (focus assumption); (focus kct_strs); done)
  | ((with_reducible apply DrawsOk.neL'); (focus assumption); (focus kct_strs); done)
  | ((with_reducible apply DrawsOk.other'); (focus assumption); (focus tb_rel); (focus rfl); done)
  | ((with_reducible apply DrawsOk.otherL); (focus assumption); (focus tb_rel); (focus rfl); done)
  | ((with_reducible apply ne_kd); (focus assumption); (focus tb_rel); (focus (intro h; cases h; done)); done))
local macro_rules | `(tactic| tb_rel) => `(tactic| first
  | assumption
  | exact New.at (by assumption)
  | exact Mod.at (by assumption)
  | ((with_reducible apply New.old); (focus assumption); tb_rel)
  | ((with_reducible apply Mod.lk); (focus assumption); (focus tb_rel); focus tb_start)
  | ((with_reducible apply Keep.lk); (focus assumption); (focus tb_rel); focus tb_start)
  | ((with_reducible apply Same.at); (focus assumption); tb_rel))
local macro_rules | `(tactic| kct_strs) => `(tactic| first
  | assumption
  | (refine New.draws (by assumption) ?_; kct_strs)
  | (refine DrawsOk.same ?_ (by assumption); kct_strs)
  | (refine Mod.draws (by assumption) ?_ ?_ ?_; (kct_strs); (focus tb_start); focus tb_start))
local macro_rules | `(tactic| k_updF) => `(tactic| first
  | assumption
  | exact L2.Same.refl _
  | (refine Same.new ?_ (by assumption); k_updF)
  | (refine L2.Same.trans ?_ (by assumption); k_updF)
  | (refine Same.mod ?_ (by assumption) ?_; (k_updF); lcg_sub))
local macro_rules | `(tactic| k_memK) => `(tactic| first
  | assumption
  | exact Keep.refl _ _
  | (refine Keep.new' ?_ (by assumption); k_memK)
  | (refine Keep.trans ?_ (by assumption); k_memK)
  | (refine Keep.trans ?_ (Keep.same' (by assumption)); k_memK)
  | (refine Keep.modd ?_ (by assumption); k_memK)
  | (refine Keep.mod ?_ (by assumption) ?_; (k_memK); lcg_sub))
local macro_rules | `(tactic| lcg_sub) => `(tactic| first
  | assumption
  | exact New.fr (by assumption)
  | (refine Same.none ?_ (New.fr (by assumption)); k_updF)
  | (refine Keep.fresh (D := ?_) ?_ ?_ ?_ (New.fr (by assumption)); rotate_left; (k_memK); (kct_strs); (kct_strs)))
local macro_rules | `(tactic| k_upd) => `(tactic| first
  | assumption
  | exact Kl.refl _
  | (refine Kl.trans ?_ (New.kl (by assumption)); k_upd)
  | (refine Kl.trans ?_ (Same.kl (by assumption)); k_upd)
  | (refine Kl.trans ?_ (Mod.kl (by assumption) (by tb_rel)); k_upd)
  | (refine Kl.trans ?_ (Keep.kl (by assumption) (by kct_strs)); k_upd)
  | (refine Kl.trans ?_ (by assumption); k_upd))
local macro_rules | `(tactic| kst_all1) => `(tactic| first
  | assumption | omega | (with_reducible rfl)
  | (simp only [List.length_append, List.length_map, List.length_set, List.length_take, List.length_drop, List.length_cons, List.length_nil, List.length_replicate]; omega)
  | (refine ⟨?_, ?_⟩ <;> kst_all1)
  | decide)
local macro_rules | `(tactic| k_allIn) => `(tactic| first
  | ((with_reducible apply OKl); (focus tb_rel))
  | ((with_reducible apply OKt); (focus tb_rel))
  | ((with_reducible apply OKql); (focus tb_rel))
  | ((with_reducible apply OKqt); (focus tb_rel))
  | ((with_reducible apply OKnl); (focus tb_rel))
  | ((with_reducible apply OKnt); (focus tb_rel))
  | ((with_reducible apply OKnd); (focus tb_rel))
  | ((with_reducible apply OKyl); (focus tb_rel))
  | ((with_reducible apply OKyt); (focus tb_rel))
  | ((with_reducible apply OKyd); (focus tb_rel))
  | ((with_reducible apply OKbl); (focus tb_rel))
  | ((with_reducible apply OKbt); (focus tb_rel))
  | ((with_reducible apply OKbd); (focus tb_rel))
  | ((with_reducible apply OKi); (focus tb_rel))
  | ((with_reducible apply OKj); (focus tb_rel))
  | ((with_reducible apply OKr); (focus tb_rel))
  | ((with_reducible apply OKrt); (focus tb_rel))
  | ((with_reducible apply OKrl); (focus tb_rel))
  | ((with_reducible apply OKsl); (focus tb_rel))
  | ((with_reducible apply OKst); (focus tb_rel))
  | ((with_reducible apply AlS_l); (focus tb_rel))
  | ((with_reducible apply AlS_t); (focus tb_rel))
  | ((with_reducible apply AlC_l); (focus tb_rel))
  | ((with_reducible apply AlC_t); (focus tb_rel))
  | ((with_reducible apply OKn); (focus kst_all1); intro v h)
  | ((with_reducible apply OKl1); (focus kst_all1); intro v h)
  | ((with_reducible apply OKl2); (focus kst_all1); intro v h)
  | ((with_reducible apply OKlk); (focus kst_all1); intro v h)
  | ((with_reducible apply OKln); (focus kst_all1); intro v h)
  | ((with_reducible apply OKg); (focus kst_all1); intro v h)
  | ((with_reducible apply OKxn); (focus kst_all1))
  | ((with_reducible apply OKsi); (focus kst_all1))
  | ((with_reducible apply OKsm); (focus kst_all1))
  | ((with_reducible refine OKa ?_ ?_ ?_); (focus kst_all1); (focus kst_all1); intro j v e h))
local macro_rules | `(tactic| kfm_turns) => `(tactic| repeat first
  | kpc_turns
  | k_allIn
  | l_intsW
  | ((with_reducible apply CdL); (focus tb_rel))
  | ((with_reducible refine Cd.by ?_ ?_); (focus kst_all1))
  | ((with_reducible refine Br.yes ?_ ?_); (focus (first | assumption | omega)))
  | ((with_reducible refine Br.no ?_ ?_); (focus (first | assumption | omega))))
local macro_rules | `(tactic| kpt_turns) => `(tactic| repeat first
  | kpc_turns
  | k_allIn
  | l_intsW
  | (with_reducible refine Al.by fun p H' n => ?_)
  | (with_reducible refine Md.by fun H' m => ?_)
  | ((with_reducible apply CdL); (focus tb_rel))
  | ((with_reducible refine Cd.by ?_ ?_); (focus kst_all1))
  | ((with_reducible refine Br.yes ?_ ?_); (focus (first | assumption | omega)))
  | ((with_reducible refine Br.no ?_ ?_); (focus (first | assumption | omega))))
local macro_rules | `(tactic| nest_cls) => `(tactic| repeat' first
  | kpc_turns
  | k_allIn
  | l_intsW
  | (with_reducible refine Al.by fun p H' n => ?_)
  | (with_reducible refine Md.by fun H' m => ?_)
  | ((with_reducible apply CdL); (focus tb_rel))
  | ((with_reducible refine Cd.by ?_ ?_); (focus kst_all1))
  | ((with_reducible refine Br.yes ?_ ?_); (focus (first | assumption | omega)))
  | ((with_reducible refine Br.no ?_ ?_); (focus (first | assumption | omega)))
  | (with_reducible refine Br.by (fun h => ?_) fun h => ?_))
local macro_rules | `(tactic| kpc_turns) => `(tactic| simp (config := {maxSteps := 4000000}) only [↓r_divm, ↓r_min, ↓r_max, ↓r_abs, ↓r_strI, ↓r_intT, ↓aM_zf, ↓aM_ls, ↓aM_rs, ↓aM_spl, ↓r_mulX, ↓r_rev, ↓r_revR, tyS, ↓un_nx, ↓in_some, ↓in_none, ↓r_cd, ↓aM_pop, ↓aM_popAt, ↓r_tryL, ↓r_fld, ↓r_setF, ↓aSF_ref, ↓r_isO, ↓r_eqO, ↓r_eqN, ↓r_neN, ↓r_gsq, ↓aGs_eq, ↓r_gcons, ↓r_gnil, ↓r_isB, ↓r_bm1, ↓r_bm0, ↓aM_app, ↓r_callX, ↓r_raise0, ↓r_tryAs, ↓r_tryOnly, ↓r_seq, ↓r_ifS, ↓r_or, ↓r_and, ↓r_not, ↓r_next, ↓r_ret, ↓r_retN, ↓r_brk, ↓r_cnt, ↓r_drop, ↓r_asg, ↓r_test, ↓r_yes, ↓r_c, ↓r_nil, ↓r_cons, ↓r_var0, ↓r_varS, ↓r_name0, ↓r_nameS, ↓r_op, ↓r_un, ↓r_rU, ↓r_chain, ↓r_andV, ↓r_orV, ↓r_notV, ↓r_call, ↓r_cb, ↓r_tup, ↓r_lst, ↓r_sl, ↓r_noPart, ↓r_part, ↓r_gsub, ↓kB_a, ↓aB_bl, ↓kI_a, ↓aI_int, ↓OK_some, ↓Br_true, ↓Br_false, ↓Cd_true, ↓r_addI, ↓r_addS, ↓r_addUI, ↓r_addUS, ↓r_addL, ↓AlT_cc, ↓AlT_nil, ↓AlT_cnil, ↓r_addT, ↓r_sub, ↓r_mul, ↓r_div, ↓r_mod, ↓r_pow, ↓r_lt, ↓r_le, ↓r_gt, ↓r_ge, ↓r_eq, ↓r_ne, ↓r_isN, ↓r_notN, ↓r_inS, ↓r_ninS, ↓r_in, ↓r_nin, ↓r_inG, ↓r_ninG, ↓r_ixS, ↓r_ix, ↓r_set, ↓r_slS, ↓AlS_lst, ↓AlS_tup, ↓r_slR, ↓r_lenS, ↓r_lenR, ↓r_listU, ↓AlC_lst, ↓AlC_tup, ↓r_tupleU, ↓r_int, ↓r_isi, ↓r_tru, ↓r_truN, ↓r_truB, ↓r_truI, ↓r_truS, ↓r_truR, ↓aL_ref, ↓a1_int, ↓a2_int, ↓r_for1, ↓r_for2, ↓r_for, ↓r_lc, ↓r_lc1, ↓r_lc2,
  OK_some, Br_true, Br_false, Br_not, Cd_true, aB_bl, aI_int, r_rU, r_addI, r_addS, r_sub, r_mul, r_div, r_mod, r_pow, r_lt, r_le, r_gt, r_ge, r_ixS, r_ix, r_set, r_lenS, r_int, r_truN, r_truB, r_truI, r_truS, r_truR, AlT_cc, AlT_nil, AlT_cnil, AlS_lst, AlS_tup, AlC_lst, AlC_tup, a1_int, a2_int, lstO_lst, tupO_tup, seqO_eq, seqO_lst, seqO_tup, lenO_lst, lenO_tup, lenO_dK, e_tyR, tyO_t, e_ty, e_tyn, truO_lst, truO_tup, truO_dK, isa_tab, scal_tab, flat_tab, eqV_t, inV_cons, inV_nil, szl, cmul_l, cpow_l, atI_0, atI_1, atI_2, atI_3, ixN_lit, Option.some.injEq, List.length_cons, List.length_nil, List.length_append, List.length_map, Nat.zero_add, Nat.reduceAdd, natc, Int.reduceLE, Int.reduceLT, Int.reduceEq, Int.reduceSub, Int.reduceAdd, Int.reduceNeg, Int.reduceMul, Int.reducePow, Int.reduceToNat, Nat.reduceLeDiff, Nat.reduceLT, Nat.reduceEqDiff, decide_eq_true_eq, decide_eq_false_iff_not, decide_true, decide_false, Bool.not_eq_true', Bool.not_eq_false', Bool.not_true, Bool.not_false, Bool.not_not, Bool.or_eq_true, Bool.and_eq_true, Bool.or_false, Bool.false_or, Bool.or_true, Bool.true_or, Bool.and_true, Bool.true_and, Bool.and_false, Bool.false_and, Bool.and_self, List.all_cons, List.all_nil, ofs_inj, String.reduceEq, List.cons.injEq, and_true, true_and, and_self, or_true, true_or, or_false, false_or, V.ty.injEq, V.bl.injEq, V.int.injEq, V.str.injEq, V.ref.injEq, List.nil_append, List.append_nil, List.cons_append, List.getElem?_cons_zero, List.getElem?_cons_succ, List.set_cons_zero, List.set_cons_succ, exists_eq_left', exists_eq_left, exists_eq, Bool.false_eq_true, Bool.true_eq_false, reduceCtorEq, not_true_eq_false, not_false_eq_true, eq_self, List.isEmpty_cons, List.isEmpty_nil, wipe, insO_ins, insD_ins, isO_tab, isO_ref, isR_tab, snO_tab, lk_tab, putF_nil, putF_tab, isLs_lst, tyL, m1_self, cutV_1, cutV_to1, Int.zero_add, ↓r_for3u, ↓a3_int, ↓r_sgn, reduceIte])

namespace Nm
open TL NumText
def Fw (K : PySem.W.Frag) : Prop := OexC K (He.ga K "BadNumber") ∧ PySem.W.findIn K (.ref (He.ga K "BadNumber")) "index" = some none
def FwB (K : PySem.W.Frag) : Bool := Hd.oexB K (He.ga K "BadNumber") && Hd.noB K (He.ga K "BadNumber") "index"
theorem FwB_ok {K : PySem.W.Frag} (h : FwB K = true) : Fw K := by
  obtain ⟨h1, h2⟩ := He.ba h
  exact ⟨Hd.oexB_ok h1, Hd.noB_ok h2⟩
def t_BadNumber_init (K : PySem.W.Frag) : TS :=
  (tOst K "index" (uVar 0) (uVar 1))
def sp_BadNumber_init (K : PySem.W.Frag) : Sp := spIni1 K "index"
theorem len_BadNumber_init {K : PySem.W.Frag} : ∀ vs H Q E, sp_BadNumber_init K vs H Q E → vs.length = 2 := fun _ _ _ _ ⟨_, _, _, e, _⟩ => by rw [e]; rfl
theorem pure_BadNumber_init {K : PySem.W.Frag} (vs : List V) (H : Hp) (Q : VK) (E : XK) (h : sp_BadNumber_init K vs H Q E) : t_BadNumber_init K { nx := fun _ H' => Q .non H', rt := Q } (start ["self", "index"] vs) H := by
  have h2 := h
  obtain ⟨a, C, x, rfl, _⟩ := h
  exact ini1 _ H Q E h2
theorem comp_const {K : PySem.W.Frag} {g : TG} {σ : L2.St} {H : Hp} {te : TE} {us : List Nat} {Q : VK} {lo : Int} {n : Nat} (f : V) (hn : n ≤ 16777216)
    (hs : ∀ i H' (R : VK), i < n → L2.Same H H' → (∀ H4, L2.Same H' H4 → R f H4) → g (.int (lo + (i : Int))) (wipe σ us) H' fun σ2 H2 => wipe σ2 us = wipe σ us ∧ te σ2 H2 R)
    (hd : ∀ L H', H L = none → H' L = some (.lst (List.replicate n f)) → L2.Same H H' → Q (.ref L) H') : @CompJ (Itr lo n) us σ H ⟨g⟩ ⟨tYes⟩ ⟨te⟩ ⟨Q⟩ := by
  refine comp_rng (fun D i acc H' => L2.Same H H' ∧ H D = none ∧ H' D = some (.lst acc) ∧ acc = List.replicate i f) (fun D hD => ⟨same_new (L2.Same.refl H) hD, hD, upd_same, rfl⟩) (fun D i acc H' Nx hi ⟨s, hD, e, ea⟩ hN => ?_) (fun D acc H' hD ⟨s, _, e, ea⟩ => ?_)
  · refine hs i H' (fun y H4 => ∃ acc, H4 D = some (.lst acc) ∧ acc.length < sizeLine ∧ Nx (upd H4 D (.lst (acc ++ [y])))) hi s fun H4 s4 => ?_
    refine ⟨acc, s4 _ _ e, ?_, hN (acc ++ [f]) _ ⟨fun b u eb => ?_, hD, upd_same, ?_⟩⟩
    · rw [ea, List.length_replicate]
      show _ < 16777216
      omega
    · rw [upd_ne (ne_of_none eb hD)]
      exact s4 _ _ (s _ _ eb)
    · rw [ea, List.replicate_succ']
  · exact hd D H' hD (by rw [e, ea]) s
theorem len_tl' {z : Str} : z.length = (tl z).length := len_tl z
theorem cps_tl {z : Str} {i : Nat} : z.cps.toList[i]? = (tl z)[i]? := rfl
def oV : Option Nat → V
  | none => .non
  | some k => .int k
theorem one_chr {c d : Nat} : ((⟨#[c]⟩ : Str) = ⟨#[d]⟩) = (c = d) := propext ⟨fun h => by
  have := congrArg tl h
  simpa [tl] using this, fun h => by rw [h]⟩
theorem is0 {v : Nat} : ((⟨#[v]⟩ : Str) = Str.ofString "0") = (v = 48) := by
  rw [show Str.ofString "0" = ⟨#[48]⟩ by decide +kernel]
  exact one_chr
def t_wrong_place_1 (K : PySem.W.Frag) : TS :=
  (tSeq (tIfS (tTest (tOp (rInU true) (tOp rIxU (uVar 0) (uVar 2)) (tC (.str "0123456789")))) (tRet (uVar 2)) tNext)
  (tSeq (tIfS (tAnd (tTest (tOp rEqS (uVar 2) (uVar 1))) (tAnd (tTest (tOp rEqS (tOp rIxU (uVar 0) (uVar 2)) (tC (.str "0")))) (tTest (tOp rEqS (uVar 1) (tC (.int 1)))))) (tRet (uVar 2)) tNext)
  (tIfS (tAnd (tTest (tOp rEqS (uVar 2) (tOp rAddI (uVar 1) (tC (.int 1))))) (tTest (tOp rEqS (tOp rIxU (uVar 0) (uVar 1)) (tC (.str "0"))))) (tRet (uVar 2)) tNext)))
def t_wrong_place (K : PySem.W.Frag) : TS :=
  (tSeq (tAsg (tCB rIntCall (tCons (tOp rEqS (tSl rSlU (uVar 0) tNoPart (uPart (tC (.int 1)))) (tC (.str "-"))) tNil)) (gName 1))
  (tSeq (tIfS (tTest (tOp rEqS (tCB rLenU (tCons (uVar 0) tNil)) (uVar 1))) (tRet (uVar 1)) tNext)
  (tSeq (tFor (iRng2 (tCons (uVar 1) (tCons (tCB rLenU (tCons (uVar 0) tNil)) tNil))) (gName 2) (t_wrong_place_1 K))
  (tRet (tC .non)))))
def sp_wrong_place (K : PySem.W.Frag) : Sp := fun vs H Q _ => ∃ z : Str, vs = [.str z] ∧ z.length ≤ 1000000 ∧ ∀ o, Wr (tl z) o → Q (oV o) H
theorem len_wrong_place {K : PySem.W.Frag} : ∀ vs H Q E, sp_wrong_place K vs H Q E → vs.length = 1 := fun _ _ _ _ ⟨_, e, _⟩ => by rw [e]; rfl
theorem pure_wrong_place {K : PySem.W.Frag} (vs : List V) (H : Hp) (Q : VK) (E : XK) (h : sp_wrong_place K vs H Q E) : t_wrong_place K { nx := fun _ H' => Q .non H', rt := Q } (start ["text", "start", "index"] vs) H := by
  obtain ⟨z, rfl, hz, q⟩ := h
  have hz2 : z.length ≤ 16777216 := by omega
  have le := sg_le (l := tl z)
  have ll := len_tl z
  have hL : z.cps.toList.length = z.length := rfl
  unfold t_wrong_place
  show tSeq _ _ _ [some (.str z), none, none] H
  kfm_turns
  refine Br.by (fun h1 => ?_) fun h1 => ?_
  · kfm_turns
    exact q (some _) (.empty (by omega))
  · have h1 : (tl z).length ≠ sg (tl z) := by omega
    kfm_turns
    rw [show ((z.length : Int) - (sg (tl z) : Int)).toNat = (tl z).length - sg (tl z) by omega]
    refine loop_rng (fun i σ H' => H' = H ∧ (∃ y, σ = [some (.str z), some (.int (sg (tl z))), y]) ∧ ∀ j, sg (tl z) ≤ j → j < sg (tl z) + i → ¬ bad (tl z) (sg (tl z)) j) ⟨rfl, ⟨_, rfl⟩, fun j _ h => by omega⟩ (fun i σ H' hi ⟨e1, ⟨y, e2⟩, m⟩ => ?_) (fun σ H' ⟨e1, ⟨y, e2⟩, m⟩ => ?_)
    · subst e1 e2
      obtain ⟨k, hk⟩ : ∃ k, k = sg (tl z) + i := ⟨_, rfl⟩
      rw [show ((sg (tl z) : Int) + (i : Int)) = (k : Int) by omega]
      rw [← hk] at m
      have hlt : k < (tl z).length := by omega
      have no : ∀ c, z.cps.toList[k]? = some c → (¬ isD c ∨ (k = sg (tl z) ∧ c = 48 ∧ sg (tl z) = 1) ∨ (k = sg (tl z) + 1 ∧ (tl z)[sg (tl z)]? = some 48)) → Q (.int (k : Int)) H' := fun c ec b => q (some k) (.at k h1 (by omega) ⟨c, ec, b⟩ m)
      have yes : ∀ c, z.cps.toList[k]? = some c → ¬ (¬ isD c ∨ (k = sg (tl z) ∧ c = 48 ∧ sg (tl z) = 1) ∨ (k = sg (tl z) + 1 ∧ (tl z)[sg (tl z)]? = some 48)) → ∀ j, sg (tl z) ≤ j → j < k + 1 → ¬ bad (tl z) (sg (tl z)) j := fun c ec nb j hj hj2 b => by
        by_cases hjk : j = k
        · subst hjk
          obtain ⟨d, ed, b⟩ := b
          rw [show (tl z)[j]? = some c from ec] at ed
          cases ed
          exact nb b
        · exact m j hj (by omega) b
      show gName 2 _ _ _ _
      unfold t_wrong_place_1
      kfm_turns
      rename_i c ec
      simp only [digs_mem]
      refine Br.by (fun h2 => ?_) fun h2 => ?_
      · nest_cls
        · rename_i a v ev z0 s1
          have vc : v = c := Option.some.inj (ev.symm.trans ec)
          rw [is0, vc] at z0
          exact no c ec (.inr (.inl ⟨by omega, z0, by omega⟩))
        · rename_i a v ev z0 s1
          refine ⟨⟨_, rfl⟩, fun j j1 j2 => yes c ec ?_ j j1 (by omega)⟩
          rintro (b | ⟨b1, b2, b3⟩ | ⟨b1, b2⟩)
          · exact b h2
          · omega
          · omega
        · rename_i a v ev z0
          have vc : v = c := Option.some.inj (ev.symm.trans ec)
          rw [is0, vc] at z0
          refine ⟨⟨_, rfl⟩, fun j j1 j2 => yes c ec ?_ j j1 (by omega)⟩
          rintro (b | ⟨b1, b2, b3⟩ | ⟨b1, b2⟩)
          · exact b h2
          · exact z0 b2
          · omega
        · rename_i a b v ev z0
          rw [is0] at z0
          rw [z0] at ev
          exact no c ec (.inr (.inr ⟨by omega, ev⟩))
        · rename_i a b v ev z0
          rw [is0] at z0
          refine ⟨⟨_, rfl⟩, fun j j1 j2 => yes c ec ?_ j j1 (by omega)⟩
          rintro (b | ⟨b1, b2, b3⟩ | ⟨b1, b2⟩)
          · exact b h2
          · omega
          · exact z0 (Option.some.inj (ev.symm.trans b2))
        · rename_i a b
          refine ⟨⟨_, rfl⟩, fun j j1 j2 => yes c ec ?_ j j1 (by omega)⟩
          rintro (b | ⟨b1, b2, b3⟩ | ⟨b1, b2⟩)
          · exact b h2
          · omega
          · omega
      · kfm_turns
        exact no c ec (.inl h2)
    · subst e1 e2
      kfm_turns
      exact q none (.fine h1 fun j hj hl => m j hj (by omega))
theorem loop_rngC {lo c : Int} {n : Nat} {g : TG} {tb : TS} {D : Ends} {σ : L2.St} {H : Hp} (Pv : Nat → L2.St → Hp → Prop) (h0 : Pv 0 σ H) (hs : ∀ i σ H, i < n → Pv i σ H → g (.int (lo + (i : Int) * c)) σ H fun σ2 H2 => tb { D with nx := Pv (i + 1), ct := Pv (i + 1), bk := D.nx } σ2 H2) (hd : ∀ σ H, Pv n σ H → D.nx σ H) :
    loopJ (Itc lo c n) g tb D σ H :=
  for_it (walk_rangeC (lo := lo) (c := c) (n := n)) Pv h0 (fun _ _ _ _ _ => trivial) (fun i x σ H H' hi p y => by
    obtain ⟨rfl, rfl⟩ := y
    exact hs i σ H' hi p) hd
theorem small50 {a b n : Int} (ha : 0 ≤ a) (hb : 0 ≤ b) (hb2 : b < 2 ^ 60) (ha2 : a < 2 ^ 60) (hn : 0 ≤ n) (hn2 : n < 2 ^ 60) (e : Builtin.Range.rangeSize a b 50 = n) : Builtin.Range.small a b 50 = true := by
  unfold Builtin.Range.small
  rw [e]
  simp only [Builtin.Range.rangeFitsLong, Bool.and_eq_true, Bool.or_eq_true, decide_eq_true_eq, beq_iff_eq, if_pos (show ((50 : Int) > 0) by decide)]
  omega
theorem rgc50 {a n : Nat} (h : a + 50 * n < 2 ^ 60) : RgC (a : Int) ((a + 50 * n : Nat) : Int) 50 n := by
  have e : Builtin.Range.rangeSize (a : Int) ((a + 50 * n : Nat) : Int) 50 = (n : Int) := by
    unfold Builtin.Range.rangeSize
    rw [if_pos (by decide)]
    split <;> omega
  exact ⟨by decide, by decide, small50 (by omega) (by omega) (by omega) (by omega) (by omega) (by omega) e, e⟩
theorem cutN {z : Str} {a b : Nat} (h1 : a ≤ b) (h2 : b ≤ z.length) : tl (cutS z (some (a : Int)) (some (b : Int))) = ((tl z).drop a).take (b - a) := by
  have e1 : HT.sIx z.length 0 (some (a : Int)) = a := by
    show (if (a : Int) < 0 then ((a : Int) + (z.length : Int)).toNat else min (a : Int).toNat z.length) = a
    rw [if_neg (by omega), Int.toNat_natCast]
    omega
  have e2 : HT.sIx z.length z.length (some (b : Int)) = b := by
    show (if (b : Int) < 0 then ((b : Int) + (z.length : Int)).toNat else min (b : Int).toNat z.length) = b
    rw [if_neg (by omega), Int.toNat_natCast]
    omega
  show ((z.cps.toList.drop (HT.sIx z.length 0 (some (a : Int)))).take (HT.sIx z.length z.length (some (b : Int)) - HT.sIx z.length 0 (some (a : Int)))) = _
  rw [e1, e2]
theorem cutTo {z : Str} {b : Nat} (h2 : b ≤ z.length) : tl (cutS z none (some (b : Int))) = (tl z).take b := by
  have e2 : HT.sIx z.length z.length (some (b : Int)) = b := by
    show (if (b : Int) < 0 then ((b : Int) + (z.length : Int)).toNat else min (b : Int).toNat z.length) = b
    rw [if_neg (by omega), Int.toNat_natCast]
    omega
  show ((z.cps.toList.drop 0).take (HT.sIx z.length z.length (some (b : Int)) - 0)) = _
  rw [e2]
  rfl
theorem cutFrom {z : Str} {a : Nat} (h2 : a ≤ z.length) : tl (cutS z (some (a : Int)) none) = (tl z).drop a := by
  have e1 : HT.sIx z.length 0 (some (a : Int)) = a := by
    show (if (a : Int) < 0 then ((a : Int) + (z.length : Int)).toNat else min (a : Int).toNat z.length) = a
    rw [if_neg (by omega), Int.toNat_natCast]
    omega
  show ((z.cps.toList.drop (HT.sIx z.length 0 (some (a : Int)))).take (z.length - HT.sIx z.length 0 (some (a : Int)))) = _
  rw [e1]
  exact List.take_of_length_le (by rw [List.length_drop]; exact Nat.le_refl _)
theorem int_part {z : Str} {a b : Nat} (h1 : a < b) (h2 : b ≤ z.length) (h3 : b - a ≤ 640) {s : Nat} (h4 : s ≤ a) (hd : AllDigits ((tl z).drop s)) :
    (cutS z (some (a : Int)) (some (b : Int))).length ≤ 640 ∧ PySem.intText? (cutS z (some (a : Int)) (some (b : Int))) = some ((digitsVal (((tl z).drop a).take (b - a)) : Nat) : Int) := by
  have e := cutN (z := z) (Nat.le_of_lt h1) h2
  have l : (cutS z (some (a : Int)) (some (b : Int))).length = b - a := by
    rw [len_tl, e, List.length_take, List.length_drop]
    have := len_tl z
    omega
  refine ⟨by omega, ?_⟩
  have hd2 : AllDigits (((tl z).drop a).take (b - a)) := fun c hc => by
    refine hd c ?_
    have := List.mem_of_mem_take hc
    rw [show a = s + (a - s) by omega, ← List.drop_drop] at this
    exact List.mem_of_mem_drop this
  have := intText_digits (x := cutS z (some (a : Int)) (some (b : Int))) (by rw [show (cutS z (some (a : Int)) (some (b : Int))).cps.toList = _ from e]; exact hd2)
    (by rw [show (cutS z (some (a : Int)) (some (b : Int))).cps.toList = _ from e]; intro z0; have := congrArg List.length z0; rw [← e, ← len_tl, l] at this; simp at this; omega) (by omega)
  rw [show (cutS z (some (a : Int)) (some (b : Int))).cps.toList = _ from e] at this
  exact this
theorem great_eq : (100000000000000000000000000000000000000000000000000 : Int) = ((10 ^ 50 : Nat) : Int) := by decide +kernel
theorem bits10 (k : Nat) : 10 ^ k ≤ 2 ^ (4 * k) := by
  rw [Nat.pow_mul]
  exact Nat.pow_le_pow_left (by decide) k
theorem mul_great {n k : Nat} (h : n < 10 ^ k) (hk : k ≤ 1000000) : CMulX (n : Int) 100000000000000000000000000000000000000000000000000 :=
  mulx_ok (a := 4 * k) (b := 200) (by rw [Int.natAbs_natCast]; exact Nat.lt_of_lt_of_le h (bits10 k)) (by decide +kernel) (by omega)
def t_number_1 (K : PySem.W.Frag) : TS :=
  (tAsg (tOp rAddI (tOp rMulX (uVar 3) (tC (.int 100000000000000000000000000000000000000000000000000))) (tCB rIntT (tCons (tSl rSlU (uVar 0) (uPart (uVar 5)) (uPart (tOp rAddU (uVar 5) (tC (.int 50))))) tNil))) (gName 3))
def t_number (K : PySem.W.Frag) (a_BadNumber : Addr) (E : XK) : TS :=
  (tSeq (tAsg (uCall (sp_wrong_place K) [] E0 (tCons (uVar 0) tNil)) (gName 1))
  (tSeq (tIfS (tTest (tOp rNotNU (uVar 1) (tC .non))) (uRaiseO (fun cls d _ H => E cls d H) a_BadNumber (sp_BadNumber_init K) (tCons (uVar 1) tNil)) tNext)
  (tSeq (tAsg (tCB rIntCall (tCons (tOp rEqS (tSl rSlU (uVar 0) tNoPart (uPart (tC (.int 1)))) (tC (.str "-"))) tNil)) (gName 2))
  (tSeq (tAsg (tC (.int 0)) (gName 3))
  (tSeq (tAsg (tOp rAddI (uVar 2) (tOp rModU (tOp rSubU (tCB rLenU (tCons (uVar 0) tNil)) (uVar 2)) (tC (.int 50)))) (gName 4))
  (tSeq (tIfS (tTest (tOp rGtU (uVar 4) (uVar 2))) (tAsg (tCB rIntT (tCons (tSl rSlU (uVar 0) (uPart (uVar 2)) (uPart (uVar 4))) tNil)) (gName 3)) tNext)
  (tSeq (tFor (iRng3 (tCons (uVar 4) (tCons (tCB rLenU (tCons (uVar 0) tNil)) (tCons (tC (.int 50)) tNil)))) (gName 5) (t_number_1 K))
  (tSeq (tIfS (tTest (tOp rEqS (uVar 2) (tC (.int 1)))) (tRet (tUn (rU fun i => .int (-i)) (uVar 3))) tNext)
  (tRet (uVar 3))))))))))
theorem loop_num {K : PySem.W.Frag} {z : Str} {s f n T : Nat} {D : Ends} {H : Hp} {v : Option V} {y0 : Option V} (hz : z.length ≤ 100000) (hN : z.length = f + 50 * n) (hs : s ≤ f) (hd : AllDigits ((tl z).drop s)) (hT : T = digitsVal (((tl z).drop s).take (f - s)))
    (q : ∀ y, D.nx [some (.str z), v, some (.int s), some (.int ((digitsVal ((tl z).drop s) : Nat) : Int)), some (.int f), y] H) : loopJ (Itc (f : Int) 50 n) (gName 5) (t_number_1 K) D [some (.str z), v, some (.int s), some (.int T), some (.int f), y0] H := by
  have ll := len_tl z
  have hz2 : z.length ≤ 16777216 := by omega
  have all : ∀ k, ((tl z).drop s).take k = (tl z).drop s ∨ k < (tl z).length - s := fun k => by
    rcases Nat.lt_or_ge k ((tl z).length - s) with x | x
    · exact .inr x
    · exact .inl (List.take_of_length_le (by rw [List.length_drop]; exact x))
  refine loop_rngC (fun i σ H' => H' = H ∧ ∃ y, σ = [some (.str z), v, some (.int s), some (.int ((digitsVal (((tl z).drop s).take (f - s + 50 * i)) : Nat) : Int)), some (.int f), y]) ⟨rfl, _, by rw [Nat.mul_zero, Nat.add_zero, ← hT]⟩ (fun i σ H' hi ⟨e1, y, e2⟩ => ?_) (fun σ H' ⟨e1, y, e2⟩ => ?_)
  · subst e1 e2
    have ei : ((f : Int) + (i : Int) * 50) = ((f + 50 * i : Nat) : Int) := by omega
    rw [ei]
    have e50 : (((f + 50 * i : Nat) : Int) + 50) = ((f + 50 * i + 50 : Nat) : Int) := by omega
    have p := int_part (z := z) (a := f + 50 * i) (b := f + 50 * i + 50) (by omega) (by omega) (by omega) (s := s) (by omega) hd
    have ad : AllDigits (((tl z).drop s).take (f - s + 50 * i)) := fun c hc => hd c (List.mem_of_mem_take hc)
    have bl := dv_lt ad
    rw [List.length_take, List.length_drop] at bl
    have mg := mul_great bl (by omega)
    have st : digitsVal (((tl z).drop s).take (f - s + 50 * (i + 1))) = digitsVal (((tl z).drop s).take (f - s + 50 * i)) * 10 ^ 50 + digitsVal (((tl z).drop (f + 50 * i)).take (f + 50 * i + 50 - (f + 50 * i))) := by
      rw [show f - s + 50 * (i + 1) = (f - s + 50 * i) + 50 by omega, List.take_add, dv_app, List.drop_drop, show s + (f - s + 50 * i) = f + 50 * i by omega, show f + 50 * i + 50 - (f + 50 * i) = 50 by omega]
      congr 2
      rw [List.length_take, List.length_drop]
      congr 1
      omega
    show gName 5 _ _ _ _
    unfold t_number_1
    generalize digitsVal (((tl z).drop s).take (f - s + 50 * i)) = T0 at *
    kfm_turns
    rw [e50]
    refine Cd.by p.1 ?_
    refine OK.by p.2 ?_
    kfm_turns
    exact ⟨_, by rw [st, great_eq, Int.natCast_add, Int.natCast_mul], rfl⟩
  · subst e1 e2
    have e : ((tl z).drop s).take (f - s + 50 * n) = (tl z).drop s := List.take_of_length_le (by rw [List.length_drop]; omega)
    rw [e]
    exact q y
def sp_number (K : PySem.W.Frag) : Sp := fun vs H Q E => ∃ z : Str, vs = [.str z] ∧ z.length ≤ 100000 ∧ (Wr (tl z) none → Q (.int (val (tl z))) H) ∧ ∀ k : Nat, Wr (tl z) (some k) → ∀ d H', H d = none → H' d = some (.xd [("index", .int k)]) → L2.Same H H' → E (.ref (He.ga K "BadNumber")) (some d) H'
theorem len_number {K : PySem.W.Frag} : ∀ vs H Q E, sp_number K vs H Q E → vs.length = 1 := fun _ _ _ _ ⟨_, e, _⟩ => by rw [e]; rfl
theorem pure_number {K : PySem.W.Frag} (fw : Fw K) (vs : List V) (H : Hp) (Q : VK) (E : XK) (h : sp_number K vs H Q E) : t_number K (He.ga K "BadNumber") E { nx := fun _ H' => Q .non H', rt := Q } (start ["text", "index", "start", "total", "first", "at"] vs) H := by
  obtain ⟨z, rfl, hz, q, qe⟩ := h
  have hz2 : z.length ≤ 16777216 := by omega
  have le := sg_le (l := tl z)
  have ll := len_tl z
  unfold t_number
  show tSeq _ _ _ [some (.str z), none, none, none, none, none] H
  kfm_turns
  refine Call.by ⟨z, rfl, by omega, fun o ho => ?_⟩
  cases o with
  | some k =>
    show gName 1 (.int (k : Int)) _ _ _
    kfm_turns
    exact raise1 fw.1 fw.2 rfl fun d H' hd e s => qe k ho d H' hd e s
  | none =>
    have q := q ho
    obtain ⟨hd, hne, _⟩ := ho.good
    have hlt : sg (tl z) < (tl z).length := by
      rcases Nat.lt_or_ge (sg (tl z)) (tl z).length with x | x
      · exact x
      · exact absurd (List.drop_eq_nil_of_le x) hne
    show gName 1 .non _ _ _
    have vq : ∀ (s1 : sg (tl z) = 1), Q (.int (-((digitsVal ((tl z).drop (sg (tl z))) : Nat) : Int))) H := fun s1 => by
      have := q
      unfold val at this
      rw [if_pos s1] at this
      exact this
    have vq2 : ∀ (s1 : ¬ sg (tl z) = 1), Q (.int (((digitsVal ((tl z).drop (sg (tl z))) : Nat) : Int))) H := fun s1 => by
      have := q
      unfold val at this
      rw [if_neg s1] at this
      exact this
    obtain ⟨f, hf⟩ : ∃ f : Nat, f = sg (tl z) + ((tl z).length - sg (tl z)) % 50 := ⟨_, rfl⟩
    obtain ⟨n, hn⟩ : ∃ n : Nat, n = ((tl z).length - sg (tl z)) / 50 := ⟨_, rfl⟩
    have hN : z.length = f + 50 * n := by omega
    have ef : (((sg (tl z) : Nat) : Int) + ((z.length : Int) - ((sg (tl z) : Nat) : Int)) % 50) = (f : Int) := by omega
    generalize hs : sg (tl z) = s at *
    kfm_turns
    rw [hs, ef]
    have rg : RgC (f : Int) (z.length : Int) 50 n := by rw [hN]; exact rgc50 (by omega)
    refine Br.by (fun h1 => ?_) fun h1 => ?_
    · have p := int_part (z := z) (a := s) (b := f) (by omega) (by omega) (by omega) (s := s) (by omega) hd
      kfm_turns
      refine OK.by p.2 ?_
      kfm_turns
      refine ⟨n, rg, loop_num hz hN (by omega) hd rfl fun y => ?_⟩
      kfm_turns
      refine Br.by (fun h2 => ?_) fun h2 => ?_
      · kfm_turns
        exact vq (by omega)
      · kfm_turns
        exact vq2 (by omega)
    · have e0 : f - s = 0 := by omega
      kfm_turns
      refine ⟨n, rg, loop_num (T := 0) hz hN (by omega) hd (by rw [e0]; rfl) fun y => ?_⟩
      kfm_turns
      refine Br.by (fun h2 => ?_) fun h2 => ?_
      · kfm_turns
        exact vq (by omega)
      · kfm_turns
        exact vq2 (by omega)
def lg (σ : L2.St) : Nat := match σ with
  | _ :: some (.int r) :: _ => r.toNat
  | _ => 0
theorem cdiv_great {r : Nat} : CDivP (r : Int) 100000000000000000000000000000000000000000000000000 := by
  refine ⟨by decide, ?_⟩
  unfold Builtin.divisionGoesByPylong
  have e : Nat.log2 (100000000000000000000000000000000000000000000000000 : Int).natAbs / 30 + 1 = 6 := by decide +kernel
  simp only [e]
  rw [if_neg (by decide)]
  rfl
theorem log_low {r : Nat} (h : r < 10 ^ 50) : (r : Int).natAbs.log2 < 1920 := by
  rw [Int.natAbs_natCast]
  rcases Nat.eq_zero_or_pos r with z | z
  · rw [z]; decide
  · have : r.log2 < 200 := (Nat.log2_lt (by omega)).mpr (Nat.lt_of_lt_of_le h (bits10 50))
    omega
theorem tl_zfill {r : Nat} (h : r < 10 ^ 50) : tl (Txt.zfill (Str.ofString (toString (r : Int))) 50) = padD 50 r := by
  have e : tl (Str.ofString (toString (r : Int))) = numL r := tl_num r
  have l : (Str.ofString (toString (r : Int))).length = (numL r).length := by rw [len_tl, e]
  have le : (numL r).length ≤ 50 := numL_len (by decide) h
  rw [← padD_num 50 r (by decide) h]
  unfold Txt.zfill
  split
  · rename_i h1
    have : (numL r).length = 50 := by omega
    rw [e, this]
    rfl
  · have hz : zfilled (Str.ofString (toString (r : Int))) ((50 : Int).toNat - (Str.ofString (toString (r : Int))).length) = Builtin.Str.padded (Str.ofString (toString (r : Int))) ((50 : Int).toNat - (Str.ofString (toString (r : Int))).length) 0 48 := by
      unfold zfilled
      split
      · rename_i h2
        have : (numL r)[0]? = some 43 := by rw [← e]; simpa using h2
        exact absurd (List.mem_of_getElem? this) (numL_free (by decide))
      · rename_i h2
        have : (numL r)[0]? = some 45 := by rw [← e]; simpa using h2
        exact absurd (List.mem_of_getElem? this) (numL_free (by decide))
      · rfl
    rw [hz, l]
    show (Array.replicate _ 48 ++ (Str.ofString (toString (r : Int))).cps ++ Array.replicate 0 48).toList = _
    rw [Array.toList_append, Array.toList_append, Array.toList_replicate, Array.toList_replicate]
    show _ ++ tl (Str.ofString (toString (r : Int))) ++ _ = _
    rw [e, List.replicate_zero, List.append_nil]
    rfl
def t_decimal_1 (K : PySem.W.Frag) : TS :=
  (tSeq (tAsg (tCB rDivm (tCons (uVar 1) (tCons (tC (.int 100000000000000000000000000000000000000000000000000)) tNil))) (gSq 2 (gCons (gName 1) (gCons (gName 3) gNil))))
  (tDrop (tBM K "list" rAppend (uVar 2) (tCons (tBM K "str" rZf (tCB rStrI (tCons (uVar 3) tNil)) (tCons (tC (.int 50)) tNil)) tNil))))
def t_decimal (K : PySem.W.Frag) : TS :=
  (tSeq (tAsg (tCB rAbsU (tCons (uVar 0) tNil)) (gName 1))
  (tSeq (tAsg (tLst tNil) (gName 2))
  (tSeq (tWhile (tTest (tOp rGeU (uVar 1) (tC (.int 100000000000000000000000000000000000000000000000000)))) (t_decimal_1 K))
  (tSeq (tDrop (tBM K "list" rAppend (uVar 2) (tCons (tCB rStrI (tCons (uVar 1) tNil)) tNil)))
  (tSeq (tAsg (tC (.str "")) (gName 4))
  (tSeq (tIfS (tTest (tOp rLtU (uVar 0) (tC (.int 0)))) (tAsg (tC (.str "-")) (gName 4)) tNext)
  (tRet (tOp rAddS (uVar 4) (tBM K "str" rJoinU (tC (.str "")) (tCons (uRev (uVar 2)) tNil))))))))))
def sp_decimal (K : PySem.W.Frag) : Sp := fun vs H Q _ => ∃ n : Int, vs = [.int n] ∧ (numL n.natAbs).length ≤ 100000 ∧ ∀ z H', tl z = numT n → L2.Same H H' → Q (.str z) H'
theorem len_decimal {K : PySem.W.Frag} : ∀ vs H Q E, sp_decimal K vs H Q E → vs.length = 1 := fun _ _ _ _ ⟨_, e, _⟩ => by rw [e]; rfl
theorem pure_decimal {K : PySem.W.Frag} (vs : List V) (H : Hp) (Q : VK) (E : XK) (h : sp_decimal K vs H Q E) : t_decimal K { nx := fun _ H' => Q .non H', rt := Q } (start ["n", "rest", "blocks", "low", "sign"] vs) H := by
  obtain ⟨n, rfl, hn, q⟩ := h
  unfold t_decimal
  show tSeq _ _ _ [some (.int n), none, none, none, none] H
  kfm_turns
  refine Al.by fun p H1 n1 => ?_
  kfm_turns
  rw [show (if n < 0 then -n else n) = ((n.natAbs : Nat) : Int) by omega]
  refine while_inv (fun σ H' => ∃ (r : Nat) (bs : List Str) (y : Option V), σ = [some (.int n), some (.int r), some (.ref p), y, none] ∧ H' p = some (.lst (bs.map V.str)) ∧ L2.Same H H' ∧ numL r ++ (bs.reverse.map tl).flatten = numL n.natAbs ∧ ∀ b ∈ bs, b.length = 50) (fun σ _ => lg σ) ⟨_, [], _, rfl, n1.at, by k_updF, by simp, fun b hb => absurd hb List.not_mem_nil⟩ (fun σ H2 R ⟨r, bs, y, e, ep, sm, ev, el⟩ h1 h2 => ?_)
  subst e
  have hp0 : H p = none := n1.fr
  have lsum : (numL r).length + 50 * bs.length = (numL n.natAbs).length := by
    rw [← ev, List.length_append]
    congr 1
    have : ∀ l : List Str, (∀ b ∈ l, b.length = 50) → ((l.reverse.map tl).flatten).length = 50 * l.length := fun l => by
      induction l with
      | nil => intro _; rfl
      | cons b l ih =>
        intro h
        rw [List.reverse_cons, List.map_append, List.flatten_append, List.length_append, ih fun c hc => h c (List.mem_cons_of_mem _ hc)]
        have := h b List.mem_cons_self
        rw [len_tl] at this
        simp [this]
        omega
    exact (this bs el).symm
  have hr : (100000000000000000000000000000000000000000000000000 ≤ (r : Int)) ↔ 10 ^ 50 ≤ r := by
    rw [great_eq]
    omega
  have cd := cdiv_great (r := r)
  kfm_turns
  by_cases hc : 10 ^ 50 ≤ r
  · rw [decide_eq_true (hr.mpr hc)]
    refine h1 H2 ?_
    clear h1 h2
    unfold t_decimal_1
    have lw : r % 10 ^ 50 < 10 ^ 50 := Nat.mod_lt _ (Nat.pow_pos (by decide))
    have lg1 := log_low lw
    have ed : (r : Int) / 100000000000000000000000000000000000000000000000000 = ((r / 10 ^ 50 : Nat) : Int) := by rw [great_eq]; rfl
    have em : (r : Int) % 100000000000000000000000000000000000000000000000000 = ((r % 10 ^ 50 : Nat) : Int) := by rw [great_eq]; rfl
    kpt_turns
    rename_i q2 H3 nn H4 mm
    refine ⟨⟨r / 10 ^ 50, bs ++ [Txt.zfill (Str.ofString (toString ((r % 10 ^ 50 : Nat) : Int))) 50], _, ⟨ed, rfl⟩, ?_, by k_updF, ?_, ?_⟩, ?_⟩
    · rw [mm.at, em, List.map_append]
      rfl
    · rw [List.reverse_append, List.reverse_singleton, List.singleton_append, List.map_cons, List.flatten_cons, tl_zfill lw, ← List.append_assoc, ← numL_block 50 r hc, ev]
    · intro b hb
      rcases List.mem_append.mp hb with hb | hb
      · exact el b hb
      · rw [List.mem_singleton.mp hb, len_tl, tl_zfill lw, padD_len]
    · rw [ed]
      show ((r / 10 ^ 50 : Nat) : Int).toNat < (r : Int).toNat
      rw [Int.toNat_natCast, Int.toNat_natCast]
      have hp : 0 < 10 ^ 50 := Nat.pow_pos (by decide)
      exact Nat.div_lt_self (by omega) (by decide +kernel)
  · rw [decide_eq_false fun h => hc (hr.mp h)]
    refine h2 H2 ?_
    clear h1 h2
    have lg1 := log_low (Nat.lt_of_not_le hc)
    have jn : ∀ ys : List Str, ys = (bs ++ [Str.ofString (toString (r : Int))]).reverse → tl (Txt.join (Str.ofString "") ys) = numL n.natAbs ∧ (ys.map (·.length)).sum + ys.length * (Str.ofString "").length ≤ 16777216 := fun ys e => by
      have e0 : tl (Str.ofString "") = [] := by decide +kernel
      have e1 : tl (Txt.join (Str.ofString "") ys) = numL n.natAbs := by
        rw [join_eq, tl_join, e0, joinL_nil, e, List.reverse_append, List.reverse_singleton, List.singleton_append, List.map_cons, List.flatten_cons, ← ev]
        congr 1
        exact tl_num r
      refine ⟨e1, ?_⟩
      have e2 : (ys.map (·.length)).sum = (numL n.natAbs).length := by
        rw [← e1, join_eq, tl_join, e0, joinL_nil, List.length_flatten, List.map_map]
        rfl
      rw [e2, len_tl, e0]
      show _ + _ * 0 ≤ _
      omega
    have lm : (Str.ofString "-").length = 1 := by decide +kernel
    have l0 : (Str.ofString "").length = 0 := by decide +kernel
    have tm : tl (Str.ofString "-") = [45] := by decide +kernel
    have t0 : tl (Str.ofString "") = [] := by decide +kernel
    kpt_turns
    rename_i H3 mm
    refine Br.by (fun h3 => ?_) fun h3 => ?_
    · kpt_turns
      rename_i p2 H4 n4
      obtain ⟨j1, j2⟩ := jn _ rfl
      refine ⟨_, _, (bs ++ [Str.ofString (toString (r : Int))]).reverse, rfl, rfl, by rw [n4.at, List.map_reverse, List.map_append]; rfl, j2, ?_⟩
      generalize Txt.join (Str.ofString "") (bs ++ [Str.ofString (toString (r : Int))]).reverse = w at j1
      have jl : w.length = (numL n.natAbs).length := by rw [len_tl, j1]
      kfm_turns
      refine q _ _ ?_ (by k_updF)
      rw [tl_append, j1, tm]
      unfold numT
      rw [if_pos h3]
    · kpt_turns
      rename_i p2 H4 n4
      obtain ⟨j1, j2⟩ := jn _ rfl
      refine ⟨_, _, (bs ++ [Str.ofString (toString (r : Int))]).reverse, rfl, rfl, by rw [n4.at, List.map_reverse, List.map_append]; rfl, j2, ?_⟩
      generalize Txt.join (Str.ofString "") (bs ++ [Str.ofString (toString (r : Int))]).reverse = w at j1
      have jl : w.length = (numL n.natAbs).length := by rw [len_tl, j1]
      kfm_turns
      refine q _ _ ?_ (by k_updF)
      rw [tl_append, j1, t0]
      unfold numT
      rw [if_neg h3]
end Nm
end U
end

section
namespace U
open PySem PySem.Spec PyProof.Rows L2 NumText TL
namespace Tb
theorem strip_len (g : Nat → Bool) (l r : Bool) (x : Str) : (Txt.stripBy g l r x).length ≤ x.length := by
  unfold Txt.stripBy
  split
  · exact Nat.le_refl _
  · unfold stripped
    rw [len_tl, tl_strSub, List.length_take, List.length_drop, len_tl x]
    omega
theorem drop_tw (p : Nat → Bool) : ∀ l : List Nat, l.drop (l.takeWhile p).length = l.dropWhile p
  | [] => rfl
  | c :: l => by
    rw [List.takeWhile_cons, List.dropWhile_cons]
    cases h : p c with
    | true => simpa [h] using drop_tw p l
    | false => simp [h]
theorem lstrip_tl (x y : Str) : tl (Txt.lstripChars x y) = (tl x).dropWhile y.cps.contains := by
  have e1 : stripLo y.cps.contains true x = ((tl x).takeWhile y.cps.contains).length := by
    unfold stripLo
    rw [if_pos rfl]
  have e2 : ∀ k, stripHi y.cps.contains false x k = x.length := fun k => by
    unfold stripHi
    rw [if_neg (by decide)]
  unfold Txt.lstripChars Txt.stripBy
  split
  · rename_i h
    unfold stripSame at h
    rw [e1, Bool.and_eq_true] at h
    have h0 : ((tl x).takeWhile y.cps.contains).length = 0 := by simpa using h.1
    rw [← drop_tw, h0, List.drop_zero]
  · unfold stripped
    rw [e1, e2, tl_strSub_end, drop_tw]
theorem blank_has {c : Nat} : (Str.ofString " ").cps.contains c = decide (c = 32) := by
  rw [show Str.ofString " " = ⟨#[32]⟩ by decide +kernel]
  by_cases h : c = 32
  · rw [decide_eq_true h, h]
    simp
  · rw [decide_eq_false h]
    simp [h]
theorem spl_len (S : List Nat) : ∀ (L acc : List Nat) (k : Nat) (p : List Nat), p ∈ spl S k acc L → p.length ≤ acc.length + L.length
  | [], acc, k, p, h => by
    rw [spl_nil] at h
    rw [List.mem_singleton.mp h]
    omega
  | c :: L, acc, 0, p, h => by
    rw [List.length_cons]
    cases e : pre S (c :: L) with
    | true =>
      rw [spl_hit e] at h
      rcases List.mem_cons.mp h with h | h
      · rw [h]; omega
      · have := spl_len S L [] _ p h
        rw [List.length_nil] at this
        omega
    | false =>
      rw [spl_miss e] at h
      have := spl_len S L _ 0 p h
      rw [List.length_append, List.length_singleton] at this
      omega
  | c :: L, acc, k + 1, p, h => by
    have h : p ∈ spl S k acc L := h
    have := spl_len S L acc k p h
    rw [List.length_cons]
    omega
theorem spl_ne (S : List Nat) : ∀ (L acc : List Nat) (k : Nat), spl S k acc L ≠ []
  | [], acc, k => by rw [spl_nil]; exact List.cons_ne_nil _ _
  | c :: L, acc, 0 => by
    cases e : pre S (c :: L) with
    | true => rw [spl_hit e]; exact List.cons_ne_nil _ _
    | false => rw [spl_miss e]; exact spl_ne S L _ 0
  | c :: L, acc, k + 1 => spl_ne S L acc k
theorem nl_tl : tl (Str.ofString "\n") = [10] := by decide +kernel
theorem nl_kind : (Str.ofString "\n").cps.all (· < 256) = true := by decide +kernel
theorem split_ne (x : Str) : Txt.split x (Str.ofString "\n") ≠ [] := fun h => by
  have := split_spl x (Str.ofString "\n") (by rw [nl_tl]; simp) (kind_ok nl_kind)
  rw [h] at this
  exact spl_ne _ _ _ _ this.symm
theorem split_le {x p : Str} (h : p ∈ Txt.split x (Str.ofString "\n")) : p.length ≤ x.length := by
  have e := split_spl x (Str.ofString "\n") (by rw [nl_tl]; simp) (kind_ok nl_kind)
  have : tl p ∈ (Txt.split x (Str.ofString "\n")).map tl := List.mem_map_of_mem h
  rw [e] at this
  have := spl_len _ _ _ _ _ this
  rw [len_tl, len_tl x]
  simpa using this
theorem split_many (x : Str) : (Txt.split x (Str.ofString "\n")).length ≤ x.length + 1 := by
  have e := split_spl x (Str.ofString "\n") (by rw [nl_tl]; simp) (kind_ok nl_kind)
  have key : ∀ (L acc : List Nat) (k : Nat), (spl [10] k acc L).length ≤ L.length + 1 := by
    intro L
    induction L with
    | nil => intro acc k; rw [spl_nil]; simp
    | cons c L ih =>
      intro acc k
      cases k with
      | zero =>
        cases e : pre [10] (c :: L) with
        | true =>
          have := ih [] 0
          rw [spl_hit e, List.length_cons, List.length_cons]
          exact Nat.succ_le_succ this
        | false =>
          rw [spl_miss e, List.length_cons]
          have := ih (acc ++ [c]) 0
          omega
      | succ k =>
        have := ih acc k
        rw [List.length_cons]
        show (spl [10] k acc L).length ≤ _
        omega
  have := key (tl x) [] 0
  rw [← nl_tl, ← e, List.length_map] at this
  rw [len_tl x]
  exact this
open Nm (isD)
def S2 (l : List Nat) : Option Nat := match l with
  | [a, b] => if isD b ∧ (a = 32 ∨ (isD a ∧ a ≠ 48)) then some (if a = 32 then b - 48 else digitsVal [a, b]) else none
  | _ => none
theorem S2_len {l : List Nat} (h : l.length ≠ 2) : S2 l = none := by
  unfold S2
  split
  · exact absurd rfl h
  · rfl
def pN (z : Str) : Str := Txt.rstripChars (cutS z none (some 8)) (Str.ofString " ")
def pA (z : Str) : Str := cutS z (some 9) (some 11)
def pB (z : Str) : Str := cutS z (some 12) (some 14)
def pY (z : Str) : Str := cutS z (some 15) (some 18)
def pS (z : Str) : Str := cutS z (some 19) none
def blankAt (z : Str) (k : Nat) : Prop := (tl z)[k]? = some 32
structure Good (m : Str → Bool) (z : Str) : Prop where
  len : 20 ≤ z.length
  name : m (pN z) = true
  a : S2 (tl (pA z)) ≠ none
  b : S2 (tl (pB z)) ≠ none
  st : Nm.Wr (tl (pS z)) none
  sg : Nm.sg (tl (pS z)) = 0
  c8 : blankAt z 8
  c11 : blankAt z 11
  c14 : blankAt z 14
  c18 : blankAt z 18
  y : pY z = Str.ofString "yes" ∨ pY z = Str.ofString "no "
def rowL (z : Str) : List V := [.str (pN z), .int (((S2 (tl (pA z))).getD 0 : Nat) : Int), .int (((S2 (tl (pB z))).getD 0 : Nat) : Int), .bl (decide (V.str (pY z) = V.str (Str.ofString "yes"))), .int ((digitsVal (tl (pS z)) : Nat) : Int)]
end Tb
end U
end

section
namespace U
open PySem PySem.Spec PyProof.Rows L2
local macro_rules | `(tactic| tb_start) => `(tactic| first
  | assumption
  | (refine Ne.symm ?_; assumption)
  | ((with_reducible apply New.ne); (focus assumption); (focus tb_rel); done)
  | (refine Ne.symm ?_; (with_reducible apply New.ne); (focus assumption); (focus tb_rel); done)
  | ((with_reducible apply neN); (focus assumption); (focus tb_rel); done)
  | (refine Ne.symm ?_; (with_reducible apply neN); (focus assumption); (focus tb_rel); done)
  | ((with_reducible apply DrawsOk.neN); (focus assumption); (focus kct_strs); done)
  | ((with_reducible apply DrawsOk.neLN); (focus assumption); (focus kct_strs); done)
  | ((with_reducible apply DrawsOk.ne'); (focus assumption); (focus kct_strs); done)
  | ((with_reducible apply DrawsOk.neL'); (focus assumption); (focus kct_strs); done)
  | ((with_reducible apply DrawsOk.other'); (focus assumption); (focus tb_rel); (focus rfl); done)
  | ((with_reducible apply DrawsOk.otherL); (focus assumption); (focus tb_rel); (focus rfl); done)
  | ((with_reducible apply ne_kd); (focus assumption); (focus tb_rel); (focus (intro h; cases h; done)); done))
local macro_rules | `(tactic| tb_rel) => `(tactic| first
  | assumption
  | exact New.at (by assumption)
  | exact Mod.at (by assumption)
  | ((with_reducible apply New.old); (focus assumption); tb_rel)
  | ((with_reducible apply Mod.lk); (focus assumption); (focus tb_rel); focus tb_start)
  | ((with_reducible apply Keep.lk); (focus assumption); (focus tb_rel); focus tb_start)
  | ((with_reducible apply Same.at); (focus assumption); tb_rel))
local macro_rules | `(tactic| kct_strs) => `(tactic| first
  | assumption
  | (refine New.draws (by assumption) ?_; kct_strs)
  | (refine DrawsOk.same ?_ (by assumption); kct_strs)
  | (refine Mod.draws (by assumption) ?_ ?_ ?_; (kct_strs); (focus tb_start); focus tb_start))
local macro_rules | `(tactic| k_updF) => `(tactic| first
  | assumption
  | exact L2.Same.refl _
  | (refine Same.new ?_ (by assumption); k_updF)
  | (refine L2.Same.trans ?_ (by assumption); k_updF)
  | (refine Same.mod ?_ (by assumption) ?_; (k_updF); lcg_sub))
local macro_rules | `(tactic| k_memK) => `(tactic| first
  | assumption
  | exact Keep.refl _ _
  | (refine Keep.new' ?_ (by assumption); k_memK)
  | (refine Keep.trans ?_ (by assumption); k_memK)
  | (refine Keep.trans ?_ (Keep.same' (by assumption)); k_memK)
  | (refine Keep.modd ?_ (by assumption); k_memK)
  | (refine Keep.mod ?_ (by assumption) ?_; (k_memK); lcg_sub))
local macro_rules | `(tactic| lcg_sub) => `(tactic| first
  | assumption
  | exact New.fr (by assumption)
  | (refine Same.none ?_ (New.fr (by assumption)); k_updF)
  | (refine Keep.fresh (D := ?_) ?_ ?_ ?_ (New.fr (by assumption)); rotate_left; (k_memK); (kct_strs); (kct_strs)))
local macro_rules | `(tactic| k_upd) => `(tactic| first
  | assumption
  | exact Kl.refl _
  | (refine Kl.trans ?_ (New.kl (by assumption)); k_upd)
  | (refine Kl.trans ?_ (Same.kl (by assumption)); k_upd)
  | (refine Kl.trans ?_ (Mod.kl (by assumption) (by tb_rel)); k_upd)
  | (refine Kl.trans ?_ (Keep.kl (by assumption) (by kct_strs)); k_upd)
  | (refine Kl.trans ?_ (by assumption); k_upd))
local macro_rules | `(tactic| kst_all1) => `(tactic| first
  | assumption | omega | (with_reducible rfl)
  | (simp only [List.length_append, List.length_map, List.length_set, List.length_take, List.length_drop, List.length_cons, List.length_nil, List.length_replicate]; omega)
  | (refine ⟨?_, ?_⟩ <;> kst_all1)
  | decide)
local macro_rules | `(tactic| k_allIn) => `(tactic| first
  | ((with_reducible apply OKl); (focus tb_rel))
  | ((with_reducible apply OKt); (focus tb_rel))
  | ((with_reducible apply OKql); (focus tb_rel))
  | ((with_reducible apply OKqt); (focus tb_rel))
  | ((with_reducible apply OKnl); (focus tb_rel))
  | ((with_reducible apply OKnt); (focus tb_rel))
  | ((with_reducible apply OKnd); (focus tb_rel))
  | ((with_reducible apply OKyl); (focus tb_rel))
  | ((with_reducible apply OKyt); (focus tb_rel))
  | ((with_reducible apply OKyd); (focus tb_rel))
  | ((with_reducible apply OKbl); (focus tb_rel))
  | ((with_reducible apply OKbt); (focus tb_rel))
  | ((with_reducible apply OKbd); (focus tb_rel))
  | ((with_reducible apply OKi); (focus tb_rel))
  | ((with_reducible apply OKj); (focus tb_rel))
  | ((with_reducible apply OKr); (focus tb_rel))
  | ((with_reducible apply OKrt); (focus tb_rel))
  | ((with_reducible apply OKrl); (focus tb_rel))
  | ((with_reducible apply OKsl); (focus tb_rel))
  | ((with_reducible apply OKst); (focus tb_rel))
  | ((with_reducible apply AlS_l); (focus tb_rel))
  | ((with_reducible apply AlS_t); (focus tb_rel))
  | ((with_reducible apply AlC_l); (focus tb_rel))
  | ((with_reducible apply AlC_t); (focus tb_rel))
  | ((with_reducible apply OKn); (focus kst_all1); intro v h)
  | ((with_reducible apply OKl1); (focus kst_all1); intro v h)
  | ((with_reducible apply OKl2); (focus kst_all1); intro v h)
  | ((with_reducible apply OKlk); (focus kst_all1); intro v h)
  | ((with_reducible apply OKln); (focus kst_all1); intro v h)
  | ((with_reducible apply OKg); (focus kst_all1); intro v h)
  | ((with_reducible apply OKxn); (focus kst_all1))
  | ((with_reducible apply OKsi); (focus kst_all1))
  | ((with_reducible apply OKsm); (focus kst_all1))
  | ((with_reducible refine OKa ?_ ?_ ?_); (focus kst_all1); (focus kst_all1); intro j v e h))
local macro_rules | `(tactic| kfm_turns) => `(tactic| repeat first
  | kpc_turns
  | k_allIn
  | l_intsW
  | ((with_reducible apply CdL); (focus tb_rel))
  | ((with_reducible refine Cd.by ?_ ?_); (focus kst_all1))
  | ((with_reducible refine Br.yes ?_ ?_); (focus (first | assumption | omega)))
  | ((with_reducible refine Br.no ?_ ?_); (focus (first | assumption | omega))))
local macro_rules | `(tactic| kpt_turns) => `(tactic| repeat first
  | kpc_turns
  | k_allIn
  | l_intsW
  | (with_reducible refine Al.by fun p H' n => ?_)
  | (with_reducible refine Md.by fun H' m => ?_)
  | ((with_reducible apply CdL); (focus tb_rel))
  | ((with_reducible refine Cd.by ?_ ?_); (focus kst_all1))
  | ((with_reducible refine Br.yes ?_ ?_); (focus (first | assumption | omega)))
  | ((with_reducible refine Br.no ?_ ?_); (focus (first | assumption | omega))))
local macro_rules | `(tactic| nest_cls) => `(tactic| repeat' first
  | kpc_turns
  | k_allIn
  | l_intsW
  | (with_reducible refine Al.by fun p H' n => ?_)
  | (with_reducible refine Md.by fun H' m => ?_)
  | ((with_reducible apply CdL); (focus tb_rel))
  | ((with_reducible refine Cd.by ?_ ?_); (focus kst_all1))
  | ((with_reducible refine Br.yes ?_ ?_); (focus (first | assumption | omega)))
  | ((with_reducible refine Br.no ?_ ?_); (focus (first | assumption | omega)))
  | (with_reducible refine Br.by (fun h => ?_) fun h => ?_))
local macro_rules | `(tactic| kpc_turns) => `(tactic| simp (config := {maxSteps := 4000000}) only [↓r_divm, ↓r_min, ↓r_max, ↓r_abs, ↓r_strI, ↓r_intT, ↓aM_zf, ↓aM_ls, ↓aM_rs, ↓aM_spl, ↓r_mulX, ↓r_rev, ↓r_revR, tyS, ↓un_nx, ↓in_some, ↓in_none, ↓r_cd, ↓aM_pop, ↓aM_popAt, ↓r_tryL, ↓r_fld, ↓r_setF, ↓aSF_ref, ↓r_isO, ↓r_eqO, ↓r_eqN, ↓r_neN, ↓r_gsq, ↓aGs_eq, ↓r_gcons, ↓r_gnil, ↓r_isB, ↓r_bm1, ↓r_bm0, ↓aM_app, ↓r_callX, ↓r_raise0, ↓r_tryAs, ↓r_tryOnly, ↓r_seq, ↓r_ifS, ↓r_or, ↓r_and, ↓r_not, ↓r_next, ↓r_ret, ↓r_retN, ↓r_brk, ↓r_cnt, ↓r_drop, ↓r_asg, ↓r_test, ↓r_yes, ↓r_c, ↓r_nil, ↓r_cons, ↓r_var0, ↓r_varS, ↓r_name0, ↓r_nameS, ↓r_op, ↓r_un, ↓r_rU, ↓r_chain, ↓r_andV, ↓r_orV, ↓r_notV, ↓r_call, ↓r_cb, ↓r_tup, ↓r_lst, ↓r_sl, ↓r_noPart, ↓r_part, ↓r_gsub, ↓kB_a, ↓aB_bl, ↓kI_a, ↓aI_int, ↓OK_some, ↓Br_true, ↓Br_false, ↓Cd_true, ↓r_addI, ↓r_addS, ↓r_addUI, ↓r_addUS, ↓r_addL, ↓AlT_cc, ↓AlT_nil, ↓AlT_cnil, ↓r_addT, ↓r_sub, ↓r_mul, ↓r_div, ↓r_mod, ↓r_pow, ↓r_lt, ↓r_le, ↓r_gt, ↓r_ge, ↓r_eq, ↓r_ne, ↓r_isN, ↓r_notN, ↓r_inS, ↓r_ninS, ↓r_in, ↓r_nin, ↓r_inG, ↓r_ninG, ↓r_ixS, ↓r_ix, ↓r_set, ↓r_slS, ↓AlS_lst, ↓AlS_tup, ↓r_slR, ↓r_lenS, ↓r_lenR, ↓r_listU, ↓AlC_lst, ↓AlC_tup, ↓r_tupleU, ↓r_int, ↓r_isi, ↓r_tru, ↓r_truN, ↓r_truB, ↓r_truI, ↓r_truS, ↓r_truR, ↓aL_ref, ↓a1_int, ↓a2_int, ↓r_for1, ↓r_for2, ↓r_for, ↓r_lc, ↓r_lc1, ↓r_lc2,
  OK_some, Br_true, Br_false, Br_not, Cd_true, aB_bl, aI_int, r_rU, r_addI, r_addS, r_sub, r_mul, r_div, r_mod, r_pow, r_lt, r_le, r_gt, r_ge, r_ixS, r_ix, r_set, r_lenS, r_int, r_truN, r_truB, r_truI, r_truS, r_truR, AlT_cc, AlT_nil, AlT_cnil, AlS_lst, AlS_tup, AlC_lst, AlC_tup, a1_int, a2_int, lstO_lst, tupO_tup, seqO_eq, seqO_lst, seqO_tup, lenO_lst, lenO_tup, lenO_dK, e_tyR, tyO_t, e_ty, e_tyn, truO_lst, truO_tup, truO_dK, isa_tab, scal_tab, flat_tab, eqV_t, inV_cons, inV_nil, szl, cmul_l, cpow_l, atI_0, atI_1, atI_2, atI_3, ixN_lit, Option.some.injEq, List.length_cons, List.length_nil, List.length_append, List.length_map, Nat.zero_add, Nat.reduceAdd, natc, Int.reduceLE, Int.reduceLT, Int.reduceEq, Int.reduceSub, Int.reduceAdd, Int.reduceNeg, Int.reduceMul, Int.reducePow, Int.reduceToNat, Nat.reduceLeDiff, Nat.reduceLT, Nat.reduceEqDiff, decide_eq_true_eq, decide_eq_false_iff_not, decide_true, decide_false, Bool.not_eq_true', Bool.not_eq_false', Bool.not_true, Bool.not_false, Bool.not_not, Bool.or_eq_true, Bool.and_eq_true, Bool.or_false, Bool.false_or, Bool.or_true, Bool.true_or, Bool.and_true, Bool.true_and, Bool.and_false, Bool.false_and, Bool.and_self, List.all_cons, List.all_nil, ofs_inj, String.reduceEq, List.cons.injEq, and_true, true_and, and_self, or_true, true_or, or_false, false_or, V.ty.injEq, V.bl.injEq, V.int.injEq, V.str.injEq, V.ref.injEq, List.nil_append, List.append_nil, List.cons_append, List.getElem?_cons_zero, List.getElem?_cons_succ, List.set_cons_zero, List.set_cons_succ, exists_eq_left', exists_eq_left, exists_eq, Bool.false_eq_true, Bool.true_eq_false, reduceCtorEq, not_true_eq_false, not_false_eq_true, eq_self, List.isEmpty_cons, List.isEmpty_nil, wipe, insO_ins, insD_ins, isO_tab, isO_ref, isR_tab, snO_tab, lk_tab, putF_nil, putF_tab, isLs_lst, tyL, m1_self, cutV_1, cutV_to1, Int.zero_add, ↓r_for3u, ↓a3_int, ↓r_sgn, reduceIte])

namespace Tb
open TL NumText Nm
def t_integer_of (K : PySem.W.Frag) (E : XK) : TS :=
  (tSeq (tIfS (tTest (tOp rNotNU (uCall (sp_wrong_place K) [] E0 (tCons (uVar 0) tNil)) (tC .non))) (tRet (tC .non)) tNext)
  (tRet (uCallX (sp_number K) (fun cls d _ H => E cls d H) (tCons (uVar 0) tNil))))
def sp_integer_of (K : PySem.W.Frag) : Sp := fun vs H Q _ => ∃ z : Str, vs = [.str z] ∧ z.length ≤ 100000 ∧ (Wr (tl z) none → Q (.int (val (tl z))) H) ∧ (¬ Wr (tl z) none → Q .non H)
theorem len_integer_of {K : PySem.W.Frag} : ∀ vs H Q E, sp_integer_of K vs H Q E → vs.length = 1 := fun _ _ _ _ ⟨_, e, _⟩ => by rw [e]; rfl
theorem pure_integer_of {K : PySem.W.Frag} (vs : List V) (H : Hp) (Q : VK) (E : XK) (h : sp_integer_of K vs H Q E) : t_integer_of K E { nx := fun _ H' => Q .non H', rt := Q } (start ["word"] vs) H := by
  obtain ⟨z, rfl, hz, q1, q2⟩ := h
  unfold t_integer_of
  show tSeq _ _ _ [some (.str z)] H
  kfm_turns
  refine Call.by ⟨z, rfl, by omega, fun o ho => ?_⟩
  cases o with
  | none =>
    unfold oV
    kfm_turns
    exact Call.by ⟨z, rfl, hz, fun _ => q1 ho, fun k hk => absurd (ho.det hk) (by simp)⟩
  | some k =>
    unfold oV
    kfm_turns
    exact q2 fun h => absurd (ho.det h) (by simp)
def t_BadRow_init (K : PySem.W.Frag) : TS :=
  (tOst K "line" (uVar 0) (uVar 1))
def sp_BadRow_init (K : PySem.W.Frag) : Sp := spIni1 K "line"
theorem len_BadRow_init {K : PySem.W.Frag} : ∀ vs H Q E, sp_BadRow_init K vs H Q E → vs.length = 2 := fun _ _ _ _ ⟨_, _, _, e, _⟩ => by rw [e]; rfl
theorem pure_BadRow_init {K : PySem.W.Frag} (vs : List V) (H : Hp) (Q : VK) (E : XK) (h : sp_BadRow_init K vs H Q E) : t_BadRow_init K { nx := fun _ H' => Q .non H', rt := Q } (start ["self", "line"] vs) H := by
  have h2 := h
  obtain ⟨a, C, x, rfl, _⟩ := h
  exact ini1 _ H Q E h2
def Fwr (K : PySem.W.Frag) : Prop := OexC K (He.ga K "BadRow") ∧ PySem.W.findIn K (.ref (He.ga K "BadRow")) "line" = some none
def FwrB (K : PySem.W.Frag) : Bool := Hd.oexB K (He.ga K "BadRow") && Hd.noB K (He.ga K "BadRow") "line"
theorem FwrB_ok {K : PySem.W.Frag} (h : FwrB K = true) : Fwr K := by
  obtain ⟨h1, h2⟩ := He.ba h
  exact ⟨Hd.oexB_ok h1, Hd.noB_ok h2⟩
theorem empt {z : Str} : (z = Str.ofString "") = (tl z = []) := by
  rw [show Str.ofString "" = ⟨#[]⟩ by decide +kernel]
  exact propext ⟨fun h => by cases h; rfl, fun h => by rw [ext_tl (x := z) (y := ⟨#[]⟩) h]⟩
def t_small_of_1 (K : PySem.W.Frag) : TS :=
  (tIfS (tTest (tOp (rInU true) (uVar 2) (tC (.str "0123456789")))) (tRet (tC .non)) tNext)
def t_small_of (K : PySem.W.Frag) : TS :=
  (tSeq (tAsg (tBM K "str" rLs (uVar 0) (tCons (tC (.str " ")) tNil)) (gName 1))
  (tSeq (tIfS (tOr (tTest (tOp rNeS (tCB rLenU (tCons (uVar 0) tNil)) (tC (.int 2)))) (tOr (tTest (tOp rEqS (uVar 1) (tC (.str "")))) (tAnd (tTest (tOp rEqS (tCB rLenU (tCons (uVar 1) tNil)) (tC (.int 2)))) (tTest (tOp rEqS (tOp rIxU (uVar 1) (tC (.int 0))) (tC (.str "0"))))))) (tRet (tC .non)) tNext)
  (tSeq (tFor (iU K (uVar 1)) (gName 2) (t_small_of_1 K))
  (tRet (tCB rIntT (tCons (uVar 1) tNil))))))
theorem loop_dig {K : PySem.W.Frag} {y : Str} {D : Ends} {H : Hp} {v0 v1 v2 : Option V} (q1 : ¬ AllDigits (tl y) → D.rt .non H) (q2 : AllDigits (tl y) → ∀ v, D.nx [v0, v1, v] H) : @LoopU K (.str y) [v0, v1, v2] H ⟨gName 2⟩ ⟨t_small_of_1 K⟩ ⟨D⟩ := by
  have ec : ∀ i : Nat, y.cps[i]? = (tl y)[i]? := fun i => Array.getElem?_toList.symm
  refine loop_str (fun i σ H' => H' = H ∧ (∃ v, σ = [v0, v1, v]) ∧ ∀ j, j < i → ∀ c, (tl y)[j]? = some c → isD c) ⟨rfl, ⟨_, rfl⟩, fun j h => absurd h (by omega)⟩ (fun i c σ H' hc ⟨e1, ⟨v, e2⟩, m⟩ => ?_) (fun σ H' ⟨e1, ⟨v, e2⟩, m⟩ => ?_)
  · subst e1 e2
    rw [ec] at hc
    show gName 2 _ _ _ _
    unfold t_small_of_1
    kfm_turns
    simp only [digs_mem]
    refine Br.by (fun h => ?_) fun h => ?_
    · kfm_turns
      refine ⟨⟨_, rfl⟩, fun j hj d hd => ?_⟩
      rcases Nat.lt_or_eq_of_le (Nat.le_of_lt_succ hj) with h1 | h1
      · exact m j h1 d hd
      · subst h1
        rw [hc] at hd
        cases hd
        exact h
    · kfm_turns
      exact q1 fun a => h (a c (List.mem_of_getElem? hc))
  · subst e1 e2
    refine q2 (fun c hc => ?_) v
    obtain ⟨j, hj, e⟩ := List.mem_iff_getElem.mp hc
    exact m j (by have : y.cps.size = (tl y).length := by simp [tl]
                  omega) c (by rw [List.getElem?_eq_getElem hj, e])
def sp_small_of (K : PySem.W.Frag) : Sp := fun vs H Q _ => ∃ z : Str, vs = [.str z] ∧ z.length ≤ 1000000 ∧ Q (oV (S2 (tl z))) H
theorem len_small_of {K : PySem.W.Frag} : ∀ vs H Q E, sp_small_of K vs H Q E → vs.length = 1 := fun _ _ _ _ ⟨_, e, _⟩ => by rw [e]; rfl
theorem pure_small_of {K : PySem.W.Frag} (vs : List V) (H : Hp) (Q : VK) (E : XK) (h : sp_small_of K vs H Q E) : t_small_of K { nx := fun _ H' => Q .non H', rt := Q } (start ["text", "digits", "digit"] vs) H := by
  obtain ⟨z, rfl, hz, q⟩ := h
  have hz2 : z.length ≤ 16777216 := by omega
  unfold t_small_of
  show tSeq _ _ _ [some (.str z), none, none] H
  kfm_turns
  obtain ⟨y, hy⟩ : ∃ y, y = Txt.lstripChars z (Str.ofString " ") := ⟨_, rfl⟩
  have ty : tl y = (tl z).dropWhile fun c => decide (c = 32) := by
    rw [hy, lstrip_tl]
    congr 1
    funext c
    exact blank_has
  rw [← hy]
  have l2 := len_tl z
  have l3 := len_tl y
  refine Br.by (fun h1 => ?_) fun h1 => ?_
  · obtain ⟨a, b, e⟩ : ∃ a b, tl z = [a, b] := by
      have : (tl z).length = 2 := by omega
      match h : tl z, this with
      | [a, b], _ => exact ⟨a, b, rfl⟩
    rw [e] at q ty
    by_cases ha : a = 32
    · by_cases hb : b = 32
      · have ye : tl y = [] := by rw [ty, ha, hb]; rfl
        kfm_turns
        simp only [empt]
        refine Br.yes ye ?_
        kfm_turns
        have : S2 [a, b] = none := if_neg (by unfold isD; omega)
        rw [this] at q
        exact q
      · have ye : tl y = [b] := by
          rw [ty, ha]
          simp [hb]
        kfm_turns
        simp only [empt]
        refine Br.no (by rw [ye]; simp) ?_
        have l3 : y.length = 1 := by rw [len_tl, ye]; rfl
        kfm_turns
        refine loop_dig (fun h => ?_) fun h v => ?_
        · have : S2 [a, b] = none := if_neg fun z => h (by rw [ye]; intro c hc; rw [List.mem_singleton.mp hc]; exact z.1)
          rw [this] at q
          exact q
        · kfm_turns
          refine OK.by (intText_digits h (by rw [show y.cps.toList = tl y from rfl, ye]; simp) (by omega)) ?_
          have hb2 : isD b := h b (by rw [ye]; simp)
          rw [show y.cps.toList = tl y from rfl, ye, dv_one]
          have : S2 [a, b] = some (b - 48) := by
            show (if _ then some _ else none) = _
            rw [if_pos ⟨hb2, .inl ha⟩, if_pos ha]
          rw [this] at q
          exact q
    · have ye : tl y = [a, b] := by
        rw [ty]
        simp [ha]
      have l3 : y.length = 2 := by rw [len_tl, ye]; rfl
      have l4 : y.cps.toList.length = 2 := l3
      kfm_turns
      simp only [empt]
      refine Br.no (by rw [ye]; simp) ?_
      kfm_turns
      rename_i j c ej hc
      have ej : j = 0 := by omega
      subst ej
      have hc : (tl y)[0]? = some c := hc
      rw [ye] at hc
      cases hc
      simp only [is0]
      refine Br.by (fun h0 => ?_) fun h0 => ?_
      · kfm_turns
        have : S2 [a, b] = none := if_neg (by unfold isD; omega)
        rw [this] at q
        exact q
      · kfm_turns
        refine loop_dig (fun h => ?_) fun h v => ?_
        · have : S2 [a, b] = none := if_neg fun z => h (by
            rw [ye]
            intro c hc
            rcases List.mem_cons.mp hc with hc | hc
            · rw [hc]; exact (z.2.resolve_left ha).1
            · rw [List.mem_singleton.mp hc]; exact z.1)
          rw [this] at q
          exact q
        · kfm_turns
          have e0 : y.cps.toList = tl y := rfl
          refine OK.by (intText_digits h (by rw [e0, ye]; simp) (by omega)) ?_
          have ha2 : isD a := h a (by rw [ye]; simp)
          have hb2 : isD b := h b (by rw [ye]; simp)
          rw [e0, ye]
          have : S2 [a, b] = some (digitsVal [a, b]) := by
            show (if _ then some _ else none) = _
            rw [if_pos ⟨hb2, .inr ⟨ha2, h0⟩⟩, if_neg ha]
          rw [this] at q
          exact q
  · kfm_turns
    rw [S2_len (by omega)] at q
    exact q
theorem cut_len {z : Str} {lo hi : Option Int} : (cutS z lo hi).length ≤ z.length := by
  have : tl (cutS z lo hi) = ((tl z).drop (HT.sIx z.length 0 lo)).take (HT.sIx z.length z.length hi - HT.sIx z.length 0 lo) := rfl
  rw [len_tl, this, List.length_take, List.length_drop, len_tl z]
  omega
theorem isSp {v : Nat} : ((⟨#[v]⟩ : Str) = Str.ofString " ") = (v = 32) := by
  rw [show Str.ofString " " = ⟨#[32]⟩ by decide +kernel]
  exact one_chr
theorem strip8 {z : Str} : (pN z).length ≤ z.length := Nat.le_trans (strip_len _ _ _ _) cut_len
theorem pS_tl {z : Str} : tl (pS z) = (tl z).drop 19 := by
  rcases Nat.lt_or_ge 19 z.length with h | h
  · exact cutFrom (a := 19) (by omega)
  · have l := cut_len (z := z) (lo := some 19) (hi := none)
    have : tl (cutS z (some 19) none) = ((tl z).drop (HT.sIx z.length 0 (some 19))).take (z.length - HT.sIx z.length 0 (some 19)) := rfl
    have e1 : HT.sIx z.length 0 (some (19 : Int)) = z.length := by
      show (if (19 : Int) < 0 then ((19 : Int) + (z.length : Int)).toNat else min (19 : Int).toNat z.length) = _
      rw [if_neg (by decide)]
      show min 19 z.length = _
      omega
    unfold pS
    rw [this, e1, Nat.sub_self, List.take_zero, List.drop_of_length_le (by rw [← len_tl]; omega)]
theorem nblk {z : Str} {n : Nat} {i : Int} {j v : Nat} (g : blankAt z n) (e : i = (j : Int)) (h : z.cps.toList[j]? = some v) (en : i = (n : Int)) (k : ¬ (⟨#[v]⟩ : Str) = Str.ofString " ") : False := by
  have : j = n := by omega
  subst this
  have g : z.cps.toList[j]? = some 32 := g
  rw [h] at g
  cases g
  exact k (by rw [isSp])
theorem blk {z : Str} {n : Nat} {i : Int} {j v : Nat} (e : i = (j : Int)) (h : z.cps.toList[j]? = some v) (en : i = (n : Int)) (k : (⟨#[v]⟩ : Str) = Str.ofString " ") : blankAt z n := by
  have : j = n := by omega
  subst this
  rw [isSp] at k
  rw [k] at h
  exact h
def t_row_of (K : PySem.W.Frag) (E : XK) : TS :=
  (tSeq (tAsg (tBM K "str" rRs (tSl rSlU (uVar 0) tNoPart (uPart (tC (.int 8)))) (tCons (tC (.str " ")) tNil)) (gName 1))
  (tSeq (tAsg (uCall (sp_small_of K) [] E0 (tCons (tSl rSlU (uVar 0) (uPart (tC (.int 9))) (uPart (tC (.int 11)))) tNil)) (gName 2))
  (tSeq (tAsg (uCall (sp_small_of K) [] E0 (tCons (tSl rSlU (uVar 0) (uPart (tC (.int 12))) (uPart (tC (.int 14)))) tNil)) (gName 3))
  (tSeq (tAsg (uCallX (sp_integer_of K) (fun cls d _ H => E cls d H) (tCons (tSl rSlU (uVar 0) (uPart (tC (.int 19))) tNoPart) tNil)) (gName 4))
  (tSeq (tIfS (tOr (tNot (uTru (uCall (sp_is_mark K) [] E0 (tCons (uVar 1) tNil)))) (tOr (tTest (tOp rIsNU (uVar 2) (tC .non))) (tOr (tTest (tOp rIsNU (uVar 3) (tC .non))) (tOr (tTest (tOp rIsNU (uVar 4) (tC .non))) (tTest (tOp rLtU (uVar 4) (tC (.int 0)))))))) (tRet (tC .non)) tNext)
  (tSeq (tIfS (tOr (tTest (tOp rNeS (tOp rIxU (uVar 0) (tC (.int 8))) (tC (.str " ")))) (tOr (tTest (tOp rNeS (tOp rIxU (uVar 0) (tC (.int 11))) (tC (.str " ")))) (tOr (tTest (tOp rNeS (tOp rIxU (uVar 0) (tC (.int 14))) (tC (.str " ")))) (tTest (tOp rNeS (tOp rIxU (uVar 0) (tC (.int 18))) (tC (.str " "))))))) (tRet (tC .non)) tNext)
  (tSeq (tIfS (tTest (tOp rEqS (tSl rSlU (uVar 0) (uPart (tC (.int 15))) (uPart (tC (.int 18)))) (tC (.str "yes")))) (tRet (tTup (tCons (uVar 1) (tCons (uVar 2) (tCons (uVar 3) (tCons (tC (.bl true)) (tCons (uVar 4) tNil))))))) tNext)
  (tSeq (tIfS (tTest (tOp rEqS (tSl rSlU (uVar 0) (uPart (tC (.int 15))) (uPart (tC (.int 18)))) (tC (.str "no ")))) (tRet (tTup (tCons (uVar 1) (tCons (uVar 2) (tCons (uVar 3) (tCons (tC (.bl false)) (tCons (uVar 4) tNil))))))) tNext)
  (tRet (tC .non))))))))))
def sp_row_of (K : PySem.W.Frag) : Sp := fun vs H Q _ => ∃ z : Str, vs = [.str z] ∧ z.length ≤ 100000 ∧ (¬ Good isMarkS z → Q .non H) ∧ (Good isMarkS z → ∀ p H', New H p (.tup (rowL z)) H' → Q (.ref p) H')
theorem len_row_of {K : PySem.W.Frag} : ∀ vs H Q E, sp_row_of K vs H Q E → vs.length = 1 := fun _ _ _ _ ⟨_, e, _⟩ => by rw [e]; rfl
theorem pure_row_of {K : PySem.W.Frag} (vs : List V) (H : Hp) (Q : VK) (E : XK) (h : sp_row_of K vs H Q E) : t_row_of K E { nx := fun _ H' => Q .non H', rt := Q } (start ["line", "name", "needed", "rise", "steps"] vs) H := by
  obtain ⟨z, rfl, hz, q1, q2⟩ := h
  have hz2 : z.length ≤ 16777216 := by omega
  have l8 : (cutS z none (some 8)).length ≤ z.length := cut_len
  have lA : (pA z).length ≤ z.length := cut_len
  have lB : (pB z).length ≤ z.length := cut_len
  have lY : (pY z).length ≤ z.length := cut_len
  have lS : (pS z).length ≤ z.length := cut_len
  have lN := strip8 (z := z)
  unfold t_row_of
  show tSeq _ _ _ [some (.str z), none, none, none, none] H
  kfm_turns
  refine Call.by ⟨pA z, rfl, by omega, ?_⟩
  kfm_turns
  refine Call.by ⟨pB z, rfl, by omega, ?_⟩
  kfm_turns
  refine Call.by ⟨pS z, rfl, by omega, fun hS => ?_, fun hS => ?_⟩
  · kfm_turns
    refine Call.by ⟨_, rfl, rfl, by show (pN z).length ≤ 16777216; omega, ?_⟩
    have nm : isMarkV (.str (Txt.rstripChars (cutS z none (some 8)) (Str.ofString " "))) = isMarkS (pN z) := rfl
    rw [nm]
    cases eA : S2 (tl (pA z)) with
    | none =>
      unfold oV
      nest_cls <;> exact q1 fun g => g.a eA
    | some nA =>
    cases eB : S2 (tl (pB z)) with
    | none =>
      unfold oV
      nest_cls <;> exact q1 fun g => g.b eB
    | some nB =>
    by_cases hv : val (tl (pS z)) < 0
    · unfold oV
      nest_cls <;> exact q1 fun g => absurd hv (by unfold val; rw [if_neg (by rw [g.sg]; decide)]; omega)
    · obtain ⟨g1, g2, g3, g4, g5⟩ := hS.good
      have s0 : sg (tl (pS z)) = 0 := (sg01 _).resolve_right fun h => hv (by unfold val; rw [if_pos h]; have := g5 h; omega)
      have l20 : 20 ≤ z.length := by
        rw [s0, List.drop_zero, pS_tl] at g2
        have := List.length_pos_iff.mpr g2
        rw [List.length_drop, ← len_tl] at this
        omega
      have hL : z.cps.toList.length = z.length := rfl
      unfold oV
      have rl : ∀ b : Bool, b = decide (V.str (pY z) = V.str (Str.ofString "yes")) → HO.tup [V.str (Txt.rstripChars (cutS z none (some 8)) (Str.ofString " ")), V.int nA, V.int nB, V.bl b, V.int (val (tl (pS z)))] = .tup (rowL z) := fun b hb => by
        unfold rowL
        rw [eA, eB, hb]
        unfold val
        rw [s0, if_neg (by decide), List.drop_zero]
        rfl
      have hY : pY z = cutS z (some 15) (some 18) := rfl
      have gd : ¬ isMarkS (pN z) = false → blankAt z 8 → blankAt z 11 → blankAt z 14 → blankAt z 18 → (pY z = Str.ofString "yes" ∨ pY z = Str.ofString "no ") → Good isMarkS z := fun a b c d e f =>
        ⟨l20, by simpa using a, by rw [eA]; simp, by rw [eB]; simp, hS, s0, b, c, d, e, f⟩
      nest_cls
      · exact q1 fun g => absurd g.name (by simp [*])
      · refine q2 (gd (by assumption) (blk (by assumption) (by assumption) rfl (by assumption)) (blk (by assumption) (by assumption) rfl (by assumption)) (blk (by assumption) (by assumption) rfl (by assumption)) (blk (by assumption) (by assumption) rfl (by assumption)) (.inl (by assumption))) _ _ ?_
        rename_i h p H' n
        rw [← rl true (decide_eq_true (congrArg V.str h)).symm]
        assumption
      · refine q2 (gd (by assumption) (blk (by assumption) (by assumption) rfl (by assumption)) (blk (by assumption) (by assumption) rfl (by assumption)) (blk (by assumption) (by assumption) rfl (by assumption)) (blk (by assumption) (by assumption) rfl (by assumption)) (.inr (by assumption))) _ _ ?_
        rename_i h1 h p H' n
        rw [← rl false (decide_eq_false fun e => h1 (V.str.inj e)).symm]
        assumption
      · exact q1 fun g => g.y.elim (by assumption) (by assumption)
      · exact q1 fun g => nblk g.c18 (by assumption) (by assumption) rfl (by assumption)
      · exact q1 fun g => nblk g.c14 (by assumption) (by assumption) rfl (by assumption)
      · exact q1 fun g => nblk g.c11 (by assumption) (by assumption) rfl (by assumption)
      · exact q1 fun g => nblk g.c8 (by assumption) (by assumption) rfl (by assumption)
  · kfm_turns
    refine Call.by ⟨_, rfl, rfl, by show (pN z).length ≤ 16777216; omega, ?_⟩
    nest_cls <;> exact q1 fun g => hS g.st
end Tb
end U
end

section
namespace U
open PySem PySem.Spec PyProof.Rows L2
section
variable {K : PySem.W.Frag} {g : TG} {tb : TS} {D : Ends} {σ : L2.St} {H : Hp} {a : Addr} {xs : List V} {ts : TA}
def EnumU (K : PySem.W.Frag) (vs : List V) (σ : L2.St) (H : Hp) [g : Kp TG] [tb : Kp TS] [D : Kp Ends] : Prop := ∃ a xs, vs = [.ref a] ∧ SqL K H a xs ∧ loopJ (Ite K a) g.val tb.val D.val σ H
theorem r_forE : tFor (iEnum K ts) g tb D σ H = ts σ H fun vs H1 => @EnumU K vs σ H1 ⟨g⟩ ⟨tb⟩ ⟨D⟩ := rfl
theorem loop_enum (hx : H a = some (.lst xs)) (Pv : Nat → L2.St → Hp → Prop) (h0 : Pv 0 σ H) (hG : ∀ i σ H', i ≤ xs.length → Pv i σ H' → H' a = some (.lst xs))
    (hs : ∀ i x σ H' T H1, xs[i]? = some x → Pv i σ H' → New H' T (.tup [.int (i : Int), x]) H1 → g (.ref T) σ H1 fun σ2 H2 => tb { D with nx := Pv (i + 1), ct := Pv (i + 1), bk := D.nx } σ2 H2)
    (hd : ∀ σ H, Pv xs.length σ H → D.nx σ H) : @EnumU K [.ref a] σ H ⟨g⟩ ⟨tb⟩ ⟨D⟩ :=
  ⟨a, xs, rfl, .inl (.inl hx), for_it (walk_enum (K := K) (a := a) (xs := xs)) Pv h0 (fun i σ H' hi p => .inl (.inl (hG i σ H' hi p))) (fun i v σ H' H1 _ p y => by
    obtain ⟨T, x, y, rfl, h1, rfl, h3, h4⟩ := y
    cases h3
    exact hs i y σ H' T _ h4 p ⟨h1, rfl⟩) hd⟩
end
theorem comp_strf {K : PySem.W.Frag} {g : TG} {σ : L2.St} {H : Hp} {te : TE} {us : List Nat} {Q : VK} {z : Str} (f : Nat → V) (hz : z.length ≤ 16777216)
    (hs : ∀ c H' (R : VK), c ∈ z.cps.toList → L2.Same H H' → R (f c) H' → g (.str ⟨#[c]⟩) (wipe σ us) H' fun σ2 H2 => wipe σ2 us = wipe σ us ∧ te σ2 H2 R)
    (hd : ∀ L H', H L = none → H' L = some (.lst (z.cps.toList.map f)) → L2.Same H H' → Q (.ref L) H') : @CompU K (.str z) us σ H ⟨g⟩ ⟨tYes⟩ ⟨te⟩ ⟨Q⟩ := by
  have ec : ∀ i : Nat, z.cps[i]? = z.cps.toList[i]? := fun i => Array.getElem?_toList.symm
  have el : z.cps.size = z.cps.toList.length := rfl
  refine comp_str (fun D i acc H' => L2.Same H H' ∧ H D = none ∧ H' D = some (.lst acc) ∧ acc = (z.cps.toList.take i).map f) (fun D hD => ⟨fun b u e => by rw [upd_ne (ne_of_none e hD)]; exact e, hD, upd_same, rfl⟩) (fun D i c acc H' Nx hc ⟨s, hD, e, ea⟩ hN => ?_) (fun D acc H' hD ⟨s, _, e, ea⟩ => ?_)
  · rw [ec] at hc
    refine hs c H' (fun y H4 => ∃ acc, H4 D = some (.lst acc) ∧ acc.length < sizeLine ∧ Nx (upd H4 D (.lst (acc ++ [y])))) (List.mem_of_getElem? hc) s ?_
    have hi : i < z.cps.toList.length := (List.getElem?_eq_some_iff.mp hc).1
    refine ⟨acc, e, ?_, hN (acc ++ [f c]) _ ⟨fun b u eb => ?_, hD, upd_same, ?_⟩⟩
    · rw [ea, List.length_map, List.length_take]
      show _ < 16777216
      have : z.length = z.cps.toList.length := rfl
      omega
    · rw [upd_ne (ne_of_none eb hD)]
      exact s _ _ eb
    · rw [ea, List.take_add_one, hc, List.map_append]
      rfl
  · exact hd D H' hD (by rw [e, ea, List.take_of_length_le (by omega)]) s
theorem rgcN {c a b n : Nat} (hc : 0 < c) (hc2 : c ≤ 1000) (ha : a < 2 ^ 50) (hb : b < 2 ^ 50) (h : b ≤ a + c * n) (h2 : n = 0 ∨ a + c * (n - 1) < b) : RgC (a : Int) (b : Int) (c : Int) n := by
  have hn : n < 2 ^ 51 := by
    rcases h2 with h2 | h2
    · omega
    · have : 1 * (n - 1) ≤ c * (n - 1) := Nat.mul_le_mul_right _ hc
      omega
  have e : Builtin.Range.rangeSize (a : Int) (b : Int) (c : Int) = (n : Int) := by
    unfold Builtin.Range.rangeSize
    rw [if_pos (by omega)]
    rcases h2 with h2 | h2
    · subst h2
      rw [if_neg (by omega)]
      rfl
    · have hn0 : 0 < n := by
        rcases Nat.eq_zero_or_pos n with z | z
        · subst z
          omega
        · exact z
      have hab : a < b := by
        have := Nat.zero_le (c * (n - 1))
        omega
      rw [if_pos (by omega)]
      have e1 : (b : Int) - (a : Int) - 1 = ((b - a - 1 : Nat) : Int) := by omega
      rw [e1, ← Int.natCast_ediv]
      have : (b - a - 1) / c = n - 1 := by
        refine Nat.div_eq_of_lt_le ?_ ?_
        · rw [Nat.mul_comm]; omega
        · rw [show n - 1 + 1 = n by omega, Nat.mul_comm]; omega
      rw [this]
      omega
  refine ⟨by omega, by omega, ?_, e⟩
  unfold Builtin.Range.small
  rw [e]
  simp only [Builtin.Range.rangeFitsLong, Bool.and_eq_true, Bool.or_eq_true, decide_eq_true_eq, beq_iff_eq, if_pos (show ((c : Int) > 0) by omega)]
  omega
theorem sum_len_le {m : Nat} : ∀ ys : List Str, (∀ y ∈ ys, y.length ≤ m) → (ys.map (·.length)).sum ≤ ys.length * m
  | [], _ => Nat.zero_le _
  | y :: ys, h => by
    have h1 := h y (List.mem_cons_self ..)
    have h2 := sum_len_le ys fun z hz => h z (List.mem_cons_of_mem _ hz)
    rw [List.map_cons, List.sum_cons, List.length_cons, Nat.add_mul, Nat.one_mul]
    omega
theorem sum_len_one : ∀ ys : List Str, (∀ y ∈ ys, y.length = 1) → (ys.map (·.length)).sum = ys.length
  | [], _ => rfl
  | y :: ys, h => by
    have h1 := h y (List.mem_cons_self ..)
    have h2 := sum_len_one ys fun z hz => h z (List.mem_cons_of_mem _ hz)
    rw [List.map_cons, List.sum_cons, List.length_cons, h1, h2]
    omega
theorem joinE.by {L : Addr} {ys : List Str} {H : Hp} {Q : VK} (h : H L = some (.lst (ys.map V.str))) (hs : (ys.map (·.length)).sum ≤ 16000000) (q : ∀ z, z.length = (ys.map (·.length)).sum → TL.tl z = (ys.map TL.tl).flatten → Q (.str z) H) : @aM rJoinU (.str (Str.ofString "")) [.ref L] H ⟨Q⟩ :=
  have lz : (Str.ofString "").length = 0 := by decide +kernel
  ⟨_, _, ys, rfl, rfl, h, by rw [lz]; omega, q _ (Nm.join0_len ys) (Nm.join0 ys)⟩
theorem str_add_len (u w : Str) : (u ++ w).length = u.length + w.length := by rw [TL.len_tl, TL.tl_append, List.length_append, ← TL.len_tl, ← TL.len_tl]
end U
end

section
namespace U
open PySem PySem.Spec PyProof.Rows L2
local macro_rules | `(tactic| tb_start) => `(tactic| first
  | assumption
  | (refine Ne.symm ?_; assumption)
  | ((with_reducible apply New.ne); (focus assumption); (focus tb_rel); done)
  | (refine Ne.symm ?_; (with_reducible apply New.ne); (focus assumption); (focus tb_rel); done)
  | ((with_reducible apply neN); (focus assumption); (focus tb_rel); done)
  | (refine Ne.symm ?_; (with_reducible apply neN); (focus assumption); (focus tb_rel); done)
  | ((with_reducible apply DrawsOk.neN); (focus assumption); (focus kct_strs); done)
  | ((with_reducible apply DrawsOk.neLN); (focus assumption); (focus kct_strs); done)
  | ((with_reducible apply DrawsOk.ne'); (focus assumption); (focus kct_strs); done)
  | ((with_reducible apply DrawsOk.neL'); (focus assumption); (focus kct_strs); done)
  | ((with_reducible apply DrawsOk.other'); (focus assumption); (focus tb_rel); (focus rfl); done)
  | ((with_reducible apply DrawsOk.otherL); (focus assumption); (focus tb_rel); (focus rfl); done)
  | ((with_reducible apply ne_kd); (focus assumption); (focus tb_rel); (focus (intro h; cases h; done)); done))
local macro_rules | `(tactic| tb_rel) => `(tactic| first
  | assumption
  | exact New.at (by assumption)
  | exact Mod.at (by assumption)
  | ((with_reducible apply New.old); (focus assumption); tb_rel)
  | ((with_reducible apply Mod.lk); (focus assumption); (focus tb_rel); focus tb_start)
  | ((with_reducible apply Keep.lk); (focus assumption); (focus tb_rel); focus tb_start)
  | ((with_reducible apply Same.at); (focus assumption); tb_rel))
local macro_rules | `(tactic| kct_strs) => `(tactic| first
  | assumption
  | (refine New.draws (by assumption) ?_; kct_strs)
  | (refine DrawsOk.same ?_ (by assumption); kct_strs)
  | (refine Mod.draws (by assumption) ?_ ?_ ?_; (kct_strs); (focus tb_start); focus tb_start))
local macro_rules | `(tactic| k_updF) => `(tactic| first
  | assumption
  | exact L2.Same.refl _
  | (refine Same.new ?_ (by assumption); k_updF)
  | (refine L2.Same.trans ?_ (by assumption); k_updF)
  | (refine Same.mod ?_ (by assumption) ?_; (k_updF); lcg_sub))
local macro_rules | `(tactic| k_memK) => `(tactic| first
  | assumption
  | exact Keep.refl _ _
  | (refine Keep.new' ?_ (by assumption); k_memK)
  | (refine Keep.trans ?_ (by assumption); k_memK)
  | (refine Keep.trans ?_ (Keep.same' (by assumption)); k_memK)
  | (refine Keep.modd ?_ (by assumption); k_memK)
  | (refine Keep.mod ?_ (by assumption) ?_; (k_memK); lcg_sub))
local macro_rules | `(tactic| lcg_sub) => `(tactic| first
  | assumption
  | exact New.fr (by assumption)
  | (refine Same.none ?_ (New.fr (by assumption)); k_updF)
  | (refine Keep.fresh (D := ?_) ?_ ?_ ?_ (New.fr (by assumption)); rotate_left; (k_memK); (kct_strs); (kct_strs)))
local macro_rules | `(tactic| k_upd) => `(tactic| first
  | assumption
  | exact Kl.refl _
  | (refine Kl.trans ?_ (New.kl (by assumption)); k_upd)
  | (refine Kl.trans ?_ (Same.kl (by assumption)); k_upd)
  | (refine Kl.trans ?_ (Mod.kl (by assumption) (by tb_rel)); k_upd)
  | (refine Kl.trans ?_ (Keep.kl (by assumption) (by kct_strs)); k_upd)
  | (refine Kl.trans ?_ (by assumption); k_upd))
local macro_rules | `(tactic| kst_all1) => `(tactic| first
  | assumption | omega | (with_reducible rfl)
  | (simp only [List.length_append, List.length_map, List.length_set, List.length_take, List.length_drop, List.length_cons, List.length_nil, List.length_replicate]; omega)
  | (refine ⟨?_, ?_⟩ <;> kst_all1)
  | decide)
local macro_rules | `(tactic| k_allIn) => `(tactic| first
  | ((with_reducible apply OKl); (focus tb_rel))
  | ((with_reducible apply OKt); (focus tb_rel))
  | ((with_reducible apply OKql); (focus tb_rel))
  | ((with_reducible apply OKqt); (focus tb_rel))
  | ((with_reducible apply OKnl); (focus tb_rel))
  | ((with_reducible apply OKnt); (focus tb_rel))
  | ((with_reducible apply OKnd); (focus tb_rel))
  | ((with_reducible apply OKyl); (focus tb_rel))
  | ((with_reducible apply OKyt); (focus tb_rel))
  | ((with_reducible apply OKyd); (focus tb_rel))
  | ((with_reducible apply OKbl); (focus tb_rel))
  | ((with_reducible apply OKbt); (focus tb_rel))
  | ((with_reducible apply OKbd); (focus tb_rel))
  | ((with_reducible apply OKi); (focus tb_rel))
  | ((with_reducible apply OKj); (focus tb_rel))
  | ((with_reducible apply OKr); (focus tb_rel))
  | ((with_reducible apply OKrt); (focus tb_rel))
  | ((with_reducible apply OKrl); (focus tb_rel))
  | ((with_reducible apply OKsl); (focus tb_rel))
  | ((with_reducible apply OKst); (focus tb_rel))
  | ((with_reducible apply AlS_l); (focus tb_rel))
  | ((with_reducible apply AlS_t); (focus tb_rel))
  | ((with_reducible apply AlC_l); (focus tb_rel))
  | ((with_reducible apply AlC_t); (focus tb_rel))
  | ((with_reducible apply OKn); (focus kst_all1); intro v h)
  | ((with_reducible apply OKl1); (focus kst_all1); intro v h)
  | ((with_reducible apply OKl2); (focus kst_all1); intro v h)
  | ((with_reducible apply OKlk); (focus kst_all1); intro v h)
  | ((with_reducible apply OKln); (focus kst_all1); intro v h)
  | ((with_reducible apply OKg); (focus kst_all1); intro v h)
  | ((with_reducible apply OKxn); (focus kst_all1))
  | ((with_reducible apply OKsi); (focus kst_all1))
  | ((with_reducible apply OKsm); (focus kst_all1))
  | ((with_reducible refine OKa ?_ ?_ ?_); (focus kst_all1); (focus kst_all1); intro j v e h))
local macro_rules | `(tactic| kfm_turns) => `(tactic| repeat first
  | kpc_turns
  | k_allIn
  | l_intsW
  | ((with_reducible apply CdL); (focus tb_rel))
  | ((with_reducible refine Cd.by ?_ ?_); (focus kst_all1))
  | ((with_reducible refine Br.yes ?_ ?_); (focus (first | assumption | omega)))
  | ((with_reducible refine Br.no ?_ ?_); (focus (first | assumption | omega))))
local macro_rules | `(tactic| kpt_turns) => `(tactic| repeat first
  | kpc_turns
  | k_allIn
  | l_intsW
  | (with_reducible refine Al.by fun p H' n => ?_)
  | (with_reducible refine Md.by fun H' m => ?_)
  | ((with_reducible apply CdL); (focus tb_rel))
  | ((with_reducible refine Cd.by ?_ ?_); (focus kst_all1))
  | ((with_reducible refine Br.yes ?_ ?_); (focus (first | assumption | omega)))
  | ((with_reducible refine Br.no ?_ ?_); (focus (first | assumption | omega))))
local macro_rules | `(tactic| nest_cls) => `(tactic| repeat' first
  | kpc_turns
  | k_allIn
  | l_intsW
  | (with_reducible refine Al.by fun p H' n => ?_)
  | (with_reducible refine Md.by fun H' m => ?_)
  | ((with_reducible apply CdL); (focus tb_rel))
  | ((with_reducible refine Cd.by ?_ ?_); (focus kst_all1))
  | ((with_reducible refine Br.yes ?_ ?_); (focus (first | assumption | omega)))
  | ((with_reducible refine Br.no ?_ ?_); (focus (first | assumption | omega)))
  | (with_reducible refine Br.by (fun h => ?_) fun h => ?_))
local macro_rules | `(tactic| kpc_turns) => `(tactic| simp (config := {maxSteps := 4000000}) only [↓r_divm, ↓r_min, ↓r_max, ↓r_abs, ↓r_strI, ↓r_intT, ↓aM_zf, ↓aM_ls, ↓aM_rs, ↓aM_spl, ↓r_mulX, ↓r_rev, ↓r_revR, tyS, ↓un_nx, ↓in_some, ↓in_none, ↓r_cd, ↓aM_pop, ↓aM_popAt, ↓r_tryL, ↓r_fld, ↓r_setF, ↓aSF_ref, ↓r_isO, ↓r_eqO, ↓r_eqN, ↓r_neN, ↓r_gsq, ↓aGs_eq, ↓r_gcons, ↓r_gnil, ↓r_isB, ↓r_bm1, ↓r_bm0, ↓aM_app, ↓r_callX, ↓r_raise0, ↓r_tryAs, ↓r_tryOnly, ↓r_seq, ↓r_ifS, ↓r_or, ↓r_and, ↓r_not, ↓r_next, ↓r_ret, ↓r_retN, ↓r_brk, ↓r_cnt, ↓r_drop, ↓r_asg, ↓r_test, ↓r_yes, ↓r_c, ↓r_nil, ↓r_cons, ↓r_var0, ↓r_varS, ↓r_name0, ↓r_nameS, ↓r_op, ↓r_un, ↓r_rU, ↓r_chain, ↓r_andV, ↓r_orV, ↓r_notV, ↓r_call, ↓r_cb, ↓r_tup, ↓r_lst, ↓r_sl, ↓r_noPart, ↓r_part, ↓r_gsub, ↓kB_a, ↓aB_bl, ↓kI_a, ↓aI_int, ↓OK_some, ↓Br_true, ↓Br_false, ↓Cd_true, ↓r_addI, ↓r_addS, ↓r_addUI, ↓r_addUS, ↓r_addL, ↓AlT_cc, ↓AlT_nil, ↓AlT_cnil, ↓r_addT, ↓r_sub, ↓r_mul, ↓r_div, ↓r_mod, ↓r_pow, ↓r_lt, ↓r_le, ↓r_gt, ↓r_ge, ↓r_eq, ↓r_ne, ↓r_isN, ↓r_notN, ↓r_inS, ↓r_ninS, ↓r_in, ↓r_nin, ↓r_inG, ↓r_ninG, ↓r_ixS, ↓r_ix, ↓r_set, ↓r_slS, ↓AlS_lst, ↓AlS_tup, ↓r_slR, ↓r_lenS, ↓r_lenR, ↓r_listU, ↓AlC_lst, ↓AlC_tup, ↓r_tupleU, ↓r_int, ↓r_isi, ↓r_tru, ↓r_truN, ↓r_truB, ↓r_truI, ↓r_truS, ↓r_truR, ↓aL_ref, ↓a1_int, ↓a2_int, ↓r_for1, ↓r_for2, ↓r_for, ↓r_lc, ↓r_lc1, ↓r_lc2,
  OK_some, Br_true, Br_false, Br_not, Cd_true, aB_bl, aI_int, r_rU, r_addI, r_addS, r_sub, r_mul, r_div, r_mod, r_pow, r_lt, r_le, r_gt, r_ge, r_ixS, r_ix, r_set, r_lenS, r_int, r_truN, r_truB, r_truI, r_truS, r_truR, AlT_cc, AlT_nil, AlT_cnil, AlS_lst, AlS_tup, AlC_lst, AlC_tup, a1_int, a2_int, lstO_lst, tupO_tup, seqO_eq, seqO_lst, seqO_tup, lenO_lst, lenO_tup, lenO_dK, e_tyR, tyO_t, e_ty, e_tyn, truO_lst, truO_tup, truO_dK, isa_tab, scal_tab, flat_tab, eqV_t, inV_cons, inV_nil, szl, cmul_l, cpow_l, atI_0, atI_1, atI_2, atI_3, ixN_lit, Option.some.injEq, List.length_cons, List.length_nil, List.length_append, List.length_map, Nat.zero_add, Nat.reduceAdd, natc, Int.reduceLE, Int.reduceLT, Int.reduceEq, Int.reduceSub, Int.reduceAdd, Int.reduceNeg, Int.reduceMul, Int.reducePow, Int.reduceToNat, Nat.reduceLeDiff, Nat.reduceLT, Nat.reduceEqDiff, decide_eq_true_eq, decide_eq_false_iff_not, decide_true, decide_false, Bool.not_eq_true', Bool.not_eq_false', Bool.not_true, Bool.not_false, Bool.not_not, Bool.or_eq_true, Bool.and_eq_true, Bool.or_false, Bool.false_or, Bool.or_true, Bool.true_or, Bool.and_true, Bool.true_and, Bool.and_false, Bool.false_and, Bool.and_self, List.all_cons, List.all_nil, ofs_inj, String.reduceEq, List.cons.injEq, and_true, true_and, and_self, or_true, true_or, or_false, false_or, V.ty.injEq, V.bl.injEq, V.int.injEq, V.str.injEq, V.ref.injEq, List.nil_append, List.append_nil, List.cons_append, List.getElem?_cons_zero, List.getElem?_cons_succ, List.set_cons_zero, List.set_cons_succ, exists_eq_left', exists_eq_left, exists_eq, Bool.false_eq_true, Bool.true_eq_false, reduceCtorEq, not_true_eq_false, not_false_eq_true, eq_self, List.isEmpty_cons, List.isEmpty_nil, wipe, insO_ins, insD_ins, isO_tab, isO_ref, isR_tab, snO_tab, lk_tab, putF_nil, putF_tab, isLs_lst, tyL, m1_self, cutV_1, cutV_to1, Int.zero_add, ↓r_for3u, ↓a3_int, ↓r_sgn, ↓r_forE, reduceIte])

namespace Tb
open TL NumText Nm
def badL (m : Str → Bool) (ls : List Str) (i : Nat) : Prop := ∃ z : Str, ls[i]? = some z ∧ ¬ (i = ls.length - 1 ∧ tl z = []) ∧ (i = ls.length - 1 ∨ ¬ Good m z)
def linesOf (z : Str) : List Str := Txt.split z (Str.ofString "\n")
def RowsAt (H : Hp) (ls : List Str) (vs : List V) : Prop := vs.length = ls.length ∧ ∀ (i : Nat) (z : Str), ls[i]? = some z → ∃ p, vs[i]? = some (V.ref p) ∧ H p = some (.tup (rowL z))
def t_read_table_1 (K : PySem.W.Frag) (a_BadRow : Addr) (E : XK) : TS :=
  (tSeq (tAsg (tOp rEqS (uVar 3) (tOp rSubU (tCB rLenU (tCons (uVar 2) tNil)) (tC (.int 1)))) (gName 5))
  (tSeq (tIfS (tAnd (uTru (uVar 5)) (tTest (tOp rEqS (uVar 4) (tC (.str ""))))) (tRet (uVar 1)) tNext)
  (tSeq (tAsg (uCallX (sp_row_of K) (fun cls d _ H => E cls d H) (tCons (uVar 4) tNil)) (gName 6))
  (tSeq (tIfS (tOr (uTru (uVar 5)) (tTest (tOp rIsNU (uVar 6) (tC .non)))) (uRaiseO (fun cls d _ H => E cls d H) a_BadRow (sp_BadRow_init K) (tCons (tOp rAddI (uVar 3) (tC (.int 1))) tNil)) tNext)
  (tDrop (tBM K "list" rAppend (uVar 1) (tCons (uVar 6) tNil)))))))
def t_read_table (K : PySem.W.Frag) (a_BadRow : Addr) (E : XK) : TS :=
  (tSeq (tAsg (tLst tNil) (gName 1))
  (tSeq (tAsg (tBM K "str" rSpl (uVar 0) (tCons (tC (.str "\n")) tNil)) (gName 2))
  (tSeq (tFor (iEnum K (tCons (uVar 2) tNil)) (gSq 2 (gCons (gName 3) (gCons (gName 4) gNil))) (t_read_table_1 K a_BadRow E))
  (tRet (uVar 1)))))
def sp_read_table (K : PySem.W.Frag) : Sp := fun vs H Q E => ∃ z : Str, vs = [.str z] ∧ z.length ≤ 100000 ∧
  (∀ k : Nat, badL isMarkS (linesOf z) k → (∀ i, i < k → ¬ badL isMarkS (linesOf z) i) → ∀ d H', H d = none → H' d = some (.xd [("line", .int ((k : Int) + 1))]) → L2.Same H H' → E (.ref (He.ga K "BadRow")) (some d) H') ∧
  ((∀ i, ¬ badL isMarkS (linesOf z) i) → ∀ p vs H', H' p = some (.lst vs) → RowsAt H' (linesOf z).dropLast vs → L2.Same H H' → Q (.ref p) H')
theorem len_read_table {K : PySem.W.Frag} : ∀ vs H Q E, sp_read_table K vs H Q E → vs.length = 1 := fun _ _ _ _ ⟨_, e, _⟩ => by rw [e]; rfl
theorem pure_read_table {K : PySem.W.Frag} (fwr : Fwr K) (vs : List V) (H : Hp) (Q : VK) (E : XK) (h : sp_read_table K vs H Q E) : t_read_table K (He.ga K "BadRow") E { nx := fun _ H' => Q .non H', rt := Q } (start ["text", "rows", "lines", "at", "line", "last", "row"] vs) H := by
  obtain ⟨z, rfl, hz, q1, q2⟩ := h
  have hz2 : z.length ≤ 16777216 := by omega
  have n1 := split_many z
  have e1 : linesOf z = Txt.split z (Str.ofString "\n") := rfl
  have n2 : (Str.ofString "\n").length = 1 := by decide +kernel
  unfold t_read_table
  show tSeq _ _ _ [some (.str z), none, none, none, none, none, none] H
  kpt_turns
  rename_i p1 H1 m1 p2 H2 m2
  obtain ⟨ls, hls⟩ : ∃ ls, ls = linesOf z := ⟨_, rfl⟩
  have hne : 0 < ls.length := by rw [hls]; exact List.length_pos_iff.mpr (split_ne z)
  have hle : ∀ p, p ∈ ls → p.length ≤ z.length := fun p hp => split_le (by rw [← e1, ← hls]; exact hp)
  rw [← e1, ← hls] at m2
  rw [← hls] at q1 q2
  have hn : ls.length ≤ 1000000 := by rw [hls, e1]; omega
  clear n1 e1
  have np : p2 ≠ p1 := fun e => by rw [e] at m2; have := m2.fr; rw [m1.at] at this; cases this
  refine loop_enum m2.at (fun i σ H' => (∃ y3 y4 y5 y6 acc, σ = [some (.str z), some (.ref p1), some (.ref p2), y3, y4, y5, y6] ∧ H' p1 = some (.lst acc) ∧ acc.length = i ∧ ∀ j w, j < i → ls[j]? = some w → ∃ p, acc[j]? = some (.ref p) ∧ H' p = some (.tup (rowL w))) ∧
      H' p2 = some (.lst (ls.map V.str)) ∧ L2.Same H H' ∧ i < ls.length ∧ ∀ j, j < i → ¬ badL isMarkS ls j)
    ⟨⟨_, _, _, _, _, rfl, m2.old m1.at, rfl, fun j w h => absurd h (by omega)⟩, m2.at, m1.same.trans m2.same, hne, fun j h => absurd h (by omega)⟩ (fun i σ H' hi ⟨_, h, _⟩ => h) (fun i x σ H3 T H4 hx ⟨⟨y3, y4, y5, y6, acc, e, a1, a2, a3⟩, a4, s3, hi, nb⟩ m4 => ?_) fun σ H' h => absurd h.2.2.2.1 (by rw [List.length_map]; omega)
  subst e
  obtain ⟨w, hw, rfl⟩ : ∃ w, ls[i]? = some w ∧ x = .str w := by
    rw [List.getElem?_map] at hx
    cases e : ls[i]? with
    | none => rw [e] at hx; cases hx
    | some w => rw [e] at hx; cases hx; exact ⟨w, rfl, rfl⟩
  have lw := hle w (List.mem_of_getElem? hw)
  have s4 := s3.trans m4.same
  have fr1 : H p1 = none := m1.fr
  show gSq 2 _ _ _ _ _
  unfold t_read_table_1
  kfm_turns
  have raise : ∀ (y5 y6 : Option V) (H5 : Hp), L2.Same H H5 → badL isMarkS ls i → uRaiseO (fun cls d _ H => E cls d H) (He.ga K "BadRow") (sp_BadRow_init K) (tCons (tOp rAddI (uVar 3) (tC (.int 1))) tNil)
      { nx := fun σ H' => False, rt := Q } [some (V.str z), some (V.ref p1), some (V.ref p2), some (V.int i), some (V.str w), y5, y6] H5 := fun y5 y6 H5 s5 b =>
    raise1 fwr.1 fwr.2 rfl fun d H' hd e s => q1 i b nb d H' (Same.none s5 hd) e (s5.trans s)
  by_cases hl : i = ls.length - 1
  · refine Br.yes (by omega) ?_
    kfm_turns
    simp only [empt]
    refine Br.by (fun hw0 => ?_) fun hw0 => ?_
    · kfm_turns
      refine q2 (fun j => ?_) p1 acc _ (m4.old a1) ⟨by rw [List.length_dropLast, a2, hl], fun j z hz => ?_⟩ s4
      · rcases Nat.lt_trichotomy j i with h | h | h
        · exact nb j h
        · subst h
          rintro ⟨z, e, b1, b2⟩
          rw [hw] at e
          cases e
          exact b1 ⟨hl, hw0⟩
        · rintro ⟨z, e, b1, b2⟩
          rw [List.getElem?_eq_none (by omega)] at e
          cases e
      · rw [List.getElem?_dropLast] at hz
        split at hz
        · obtain ⟨p, h1, h2⟩ := a3 j z (by omega) hz
          exact ⟨p, h1, m4.old h2⟩
        · cases hz
        done
    · kfm_turns
      refine Call.by ⟨w, rfl, by omega, fun hg => ?_, fun hg p5 H5 m5 => ?_⟩
      · kfm_turns
        exact raise _ _ _ s4 ⟨w, hw, fun h => hw0 h.2, .inl hl⟩
      · kfm_turns
        exact raise _ _ _ (s4.trans m5.same) ⟨w, hw, fun h => hw0 h.2, .inl hl⟩
  · refine Br.no (by omega) ?_
    kfm_turns
    refine Call.by ⟨w, rfl, by omega, fun hg => ?_, fun hg p5 H5 m5 => ?_⟩
    · kfm_turns
      exact raise _ _ _ s4 ⟨w, hw, fun h => hl h.1, .inr hg⟩
    · kpt_turns
      rename_i H6 m6
      have k4 : Kl H3 H6 := by k_upd
      refine ⟨⟨_, _, _, _, _, ⟨rfl, rfl, rfl, rfl⟩, m6.at, by rw [List.length_append, a2]; rfl, fun j v hj hv => ?_⟩, by tb_rel, by k_updF, by omega, fun j hj => ?_⟩
      · rcases Nat.lt_or_eq_of_le (Nat.le_of_lt_succ hj) with h1 | h1
        · obtain ⟨p, h2, h3⟩ := a3 j v h1 hv
          exact ⟨p, by rw [List.getElem?_append_left (by omega)]; exact h2, k4.at h3 rfl⟩
        · subst h1
          rw [hw] at hv
          cases hv
          exact ⟨p5, by rw [List.getElem?_append_right (by omega), a2, Nat.sub_self]; rfl, by tb_rel⟩
      · rcases Nat.lt_or_eq_of_le (Nat.le_of_lt_succ hj) with h1 | h1
        · exact nb j h1
        · subst h1
          rintro ⟨v, e, b1, b2⟩
          rw [hw] at e
          cases e
          exact b2.elim hl fun h => h hg
end Tb
end U
end

section
namespace U
open PySem PySem.Spec PyProof.Rows L2
local macro_rules | `(tactic| tb_start) => `(tactic| first
  | assumption
  | (refine Ne.symm ?_; assumption)
  | ((with_reducible apply New.ne); (focus assumption); (focus tb_rel); done)
  | (refine Ne.symm ?_; (with_reducible apply New.ne); (focus assumption); (focus tb_rel); done)
  | ((with_reducible apply neN); (focus assumption); (focus tb_rel); done)
  | (refine Ne.symm ?_; (with_reducible apply neN); (focus assumption); (focus tb_rel); done)
  | ((with_reducible apply DrawsOk.neN); (focus assumption); (focus kct_strs); done)
  | ((with_reducible apply DrawsOk.neLN); (focus assumption); (focus kct_strs); done)
  | ((with_reducible apply DrawsOk.ne'); (focus assumption); (focus kct_strs); done)
  | ((with_reducible apply DrawsOk.neL'); (focus assumption); (focus kct_strs); done)
  | ((with_reducible apply DrawsOk.other'); (focus assumption); (focus tb_rel); (focus rfl); done)
  | ((with_reducible apply DrawsOk.otherL); (focus assumption); (focus tb_rel); (focus rfl); done)
  | ((with_reducible apply ne_kd); (focus assumption); (focus tb_rel); (focus (intro h; cases h; done)); done))
local macro_rules | `(tactic| tb_rel) => `(tactic| first
  | assumption
  | exact New.at (by assumption)
  | exact Mod.at (by assumption)
  | ((with_reducible apply New.old); (focus assumption); tb_rel)
  | ((with_reducible apply Mod.lk); (focus assumption); (focus tb_rel); focus tb_start)
  | ((with_reducible apply Keep.lk); (focus assumption); (focus tb_rel); focus tb_start)
  | ((with_reducible apply Same.at); (focus assumption); tb_rel))
local macro_rules | `(tactic| kct_strs) => `(tactic| first
  | assumption
  | (refine New.draws (by assumption) ?_; kct_strs)
  | (refine DrawsOk.same ?_ (by assumption); kct_strs)
  | (refine Mod.draws (by assumption) ?_ ?_ ?_; (kct_strs); (focus tb_start); focus tb_start))
local macro_rules | `(tactic| k_updF) => `(tactic| first
  | assumption
  | exact L2.Same.refl _
  | (refine Same.new ?_ (by assumption); k_updF)
  | (refine L2.Same.trans ?_ (by assumption); k_updF)
  | (refine Same.mod ?_ (by assumption) ?_; (k_updF); lcg_sub))
local macro_rules | `(tactic| k_memK) => `(tactic| first
  | assumption
  | exact Keep.refl _ _
  | (refine Keep.new' ?_ (by assumption); k_memK)
  | (refine Keep.trans ?_ (by assumption); k_memK)
  | (refine Keep.trans ?_ (Keep.same' (by assumption)); k_memK)
  | (refine Keep.modd ?_ (by assumption); k_memK)
  | (refine Keep.mod ?_ (by assumption) ?_; (k_memK); lcg_sub))
local macro_rules | `(tactic| lcg_sub) => `(tactic| first
  | assumption
  | exact New.fr (by assumption)
  | (refine Same.none ?_ (New.fr (by assumption)); k_updF)
  | (refine Keep.fresh (D := ?_) ?_ ?_ ?_ (New.fr (by assumption)); rotate_left; (k_memK); (kct_strs); (kct_strs)))
local macro_rules | `(tactic| k_upd) => `(tactic| first
  | assumption
  | exact Kl.refl _
  | (refine Kl.trans ?_ (New.kl (by assumption)); k_upd)
  | (refine Kl.trans ?_ (Same.kl (by assumption)); k_upd)
  | (refine Kl.trans ?_ (Mod.kl (by assumption) (by tb_rel)); k_upd)
  | (refine Kl.trans ?_ (Keep.kl (by assumption) (by kct_strs)); k_upd)
  | (refine Kl.trans ?_ (by assumption); k_upd))
local macro_rules | `(tactic| kst_all1) => `(tactic| first
  | assumption | omega | (with_reducible rfl)
  | (simp only [List.length_append, List.length_map, List.length_set, List.length_take, List.length_drop, List.length_cons, List.length_nil, List.length_replicate]; omega)
  | (refine ⟨?_, ?_⟩ <;> kst_all1)
  | decide)
local macro_rules | `(tactic| k_allIn) => `(tactic| first
  | ((with_reducible apply OKl); (focus tb_rel))
  | ((with_reducible apply OKt); (focus tb_rel))
  | ((with_reducible apply OKql); (focus tb_rel))
  | ((with_reducible apply OKqt); (focus tb_rel))
  | ((with_reducible apply OKnl); (focus tb_rel))
  | ((with_reducible apply OKnt); (focus tb_rel))
  | ((with_reducible apply OKnd); (focus tb_rel))
  | ((with_reducible apply OKyl); (focus tb_rel))
  | ((with_reducible apply OKyt); (focus tb_rel))
  | ((with_reducible apply OKyd); (focus tb_rel))
  | ((with_reducible apply OKbl); (focus tb_rel))
  | ((with_reducible apply OKbt); (focus tb_rel))
  | ((with_reducible apply OKbd); (focus tb_rel))
  | ((with_reducible apply OKi); (focus tb_rel))
  | ((with_reducible apply OKj); (focus tb_rel))
  | ((with_reducible apply OKr); (focus tb_rel))
  | ((with_reducible apply OKrt); (focus tb_rel))
  | ((with_reducible apply OKrl); (focus tb_rel))
  | ((with_reducible apply OKsl); (focus tb_rel))
  | ((with_reducible apply OKst); (focus tb_rel))
  | ((with_reducible apply AlS_l); (focus tb_rel))
  | ((with_reducible apply AlS_t); (focus tb_rel))
  | ((with_reducible apply AlC_l); (focus tb_rel))
  | ((with_reducible apply AlC_t); (focus tb_rel))
  | ((with_reducible apply OKn); (focus kst_all1); intro v h)
  | ((with_reducible apply OKl1); (focus kst_all1); intro v h)
  | ((with_reducible apply OKl2); (focus kst_all1); intro v h)
  | ((with_reducible apply OKlk); (focus kst_all1); intro v h)
  | ((with_reducible apply OKln); (focus kst_all1); intro v h)
  | ((with_reducible apply OKg); (focus kst_all1); intro v h)
  | ((with_reducible apply OKxn); (focus kst_all1))
  | ((with_reducible apply OKsi); (focus kst_all1))
  | ((with_reducible apply OKsm); (focus kst_all1))
  | ((with_reducible refine OKa ?_ ?_ ?_); (focus kst_all1); (focus kst_all1); intro j v e h))
local macro_rules | `(tactic| kfm_turns) => `(tactic| repeat first
  | kpc_turns
  | k_allIn
  | l_intsW
  | ((with_reducible apply CdL); (focus tb_rel))
  | ((with_reducible refine Cd.by ?_ ?_); (focus kst_all1))
  | ((with_reducible refine Br.yes ?_ ?_); (focus (first | assumption | omega)))
  | ((with_reducible refine Br.no ?_ ?_); (focus (first | assumption | omega))))
local macro_rules | `(tactic| kpt_turns) => `(tactic| repeat first
  | kpc_turns
  | k_allIn
  | l_intsW
  | (with_reducible refine Al.by fun p H' n => ?_)
  | (with_reducible refine Md.by fun H' m => ?_)
  | ((with_reducible apply CdL); (focus tb_rel))
  | ((with_reducible refine Cd.by ?_ ?_); (focus kst_all1))
  | ((with_reducible refine Br.yes ?_ ?_); (focus (first | assumption | omega)))
  | ((with_reducible refine Br.no ?_ ?_); (focus (first | assumption | omega))))
local macro_rules | `(tactic| nest_cls) => `(tactic| repeat' first
  | kpc_turns
  | k_allIn
  | l_intsW
  | (with_reducible refine Al.by fun p H' n => ?_)
  | (with_reducible refine Md.by fun H' m => ?_)
  | ((with_reducible apply CdL); (focus tb_rel))
  | ((with_reducible refine Cd.by ?_ ?_); (focus kst_all1))
  | ((with_reducible refine Br.yes ?_ ?_); (focus (first | assumption | omega)))
  | ((with_reducible refine Br.no ?_ ?_); (focus (first | assumption | omega)))
  | (with_reducible refine Br.by (fun h => ?_) fun h => ?_))
local macro_rules | `(tactic| kpc_turns) => `(tactic| simp (config := {maxSteps := 4000000}) only [↓r_divm, ↓r_min, ↓r_max, ↓r_abs, ↓r_strI, ↓r_intT, ↓aM_zf, ↓aM_ls, ↓aM_rs, ↓aM_spl, ↓r_mulX, ↓r_rev, ↓r_revR, tyS, ↓un_nx, ↓in_some, ↓in_none, ↓r_cd, ↓aM_pop, ↓aM_popAt, ↓r_tryL, ↓r_fld, ↓r_setF, ↓aSF_ref, ↓r_isO, ↓r_eqO, ↓r_eqN, ↓r_neN, ↓r_gsq, ↓aGs_eq, ↓r_gcons, ↓r_gnil, ↓r_isB, ↓r_bm1, ↓r_bm0, ↓aM_app, ↓r_callX, ↓r_raise0, ↓r_tryAs, ↓r_tryOnly, ↓r_seq, ↓r_ifS, ↓r_or, ↓r_and, ↓r_not, ↓r_next, ↓r_ret, ↓r_retN, ↓r_brk, ↓r_cnt, ↓r_drop, ↓r_asg, ↓r_test, ↓r_yes, ↓r_c, ↓r_nil, ↓r_cons, ↓r_var0, ↓r_varS, ↓r_name0, ↓r_nameS, ↓r_op, ↓r_un, ↓r_rU, ↓r_chain, ↓r_andV, ↓r_orV, ↓r_notV, ↓r_call, ↓r_cb, ↓r_tup, ↓r_lst, ↓r_sl, ↓r_noPart, ↓r_part, ↓r_gsub, ↓kB_a, ↓aB_bl, ↓kI_a, ↓aI_int, ↓OK_some, ↓Br_true, ↓Br_false, ↓Cd_true, ↓r_addI, ↓r_addS, ↓r_addUI, ↓r_addUS, ↓r_addL, ↓AlT_cc, ↓AlT_nil, ↓AlT_cnil, ↓r_addT, ↓r_sub, ↓r_mul, ↓r_div, ↓r_mod, ↓r_pow, ↓r_lt, ↓r_le, ↓r_gt, ↓r_ge, ↓r_eq, ↓r_ne, ↓r_isN, ↓r_notN, ↓r_inS, ↓r_ninS, ↓r_in, ↓r_nin, ↓r_inG, ↓r_ninG, ↓r_ixS, ↓r_ix, ↓r_set, ↓r_slS, ↓AlS_lst, ↓AlS_tup, ↓r_slR, ↓r_lenS, ↓r_lenR, ↓r_listU, ↓AlC_lst, ↓AlC_tup, ↓r_tupleU, ↓r_int, ↓r_isi, ↓r_tru, ↓r_truN, ↓r_truB, ↓r_truI, ↓r_truS, ↓r_truR, ↓aL_ref, ↓a1_int, ↓a2_int, ↓r_for1, ↓r_for2, ↓r_for, ↓r_lc, ↓r_lc1, ↓r_lc2,
  OK_some, Br_true, Br_false, Br_not, Cd_true, aB_bl, aI_int, r_rU, r_addI, r_addS, r_sub, r_mul, r_div, r_mod, r_pow, r_lt, r_le, r_gt, r_ge, r_ixS, r_ix, r_set, r_lenS, r_int, r_truN, r_truB, r_truI, r_truS, r_truR, AlT_cc, AlT_nil, AlT_cnil, AlS_lst, AlS_tup, AlC_lst, AlC_tup, a1_int, a2_int, lstO_lst, tupO_tup, seqO_eq, seqO_lst, seqO_tup, lenO_lst, lenO_tup, lenO_dK, e_tyR, tyO_t, e_ty, e_tyn, truO_lst, truO_tup, truO_dK, isa_tab, scal_tab, flat_tab, eqV_t, inV_cons, inV_nil, szl, cmul_l, cpow_l, atI_0, atI_1, atI_2, atI_3, ixN_lit, Option.some.injEq, List.length_cons, List.length_nil, List.length_append, List.length_map, Nat.zero_add, Nat.reduceAdd, natc, Int.reduceLE, Int.reduceLT, Int.reduceEq, Int.reduceSub, Int.reduceAdd, Int.reduceNeg, Int.reduceMul, Int.reducePow, Int.reduceToNat, Nat.reduceLeDiff, Nat.reduceLT, Nat.reduceEqDiff, decide_eq_true_eq, decide_eq_false_iff_not, decide_true, decide_false, Bool.not_eq_true', Bool.not_eq_false', Bool.not_true, Bool.not_false, Bool.not_not, Bool.or_eq_true, Bool.and_eq_true, Bool.or_false, Bool.false_or, Bool.or_true, Bool.true_or, Bool.and_true, Bool.true_and, Bool.and_false, Bool.false_and, Bool.and_self, List.all_cons, List.all_nil, ofs_inj, String.reduceEq, List.cons.injEq, and_true, true_and, and_self, or_true, true_or, or_false, false_or, V.ty.injEq, V.bl.injEq, V.int.injEq, V.str.injEq, V.ref.injEq, List.nil_append, List.append_nil, List.cons_append, List.getElem?_cons_zero, List.getElem?_cons_succ, List.set_cons_zero, List.set_cons_succ, exists_eq_left', exists_eq_left, exists_eq, Bool.false_eq_true, Bool.true_eq_false, reduceCtorEq, not_true_eq_false, not_false_eq_true, eq_self, List.isEmpty_cons, List.isEmpty_nil, wipe, insO_ins, insD_ins, isO_tab, isO_ref, isR_tab, snO_tab, lk_tab, putF_nil, putF_tab, isLs_lst, tyL, m1_self, cutV_1, cutV_to1, Int.zero_add, ↓r_for3u, ↓a3_int, ↓r_sgn, ↓r_forE, reduceIte])

namespace K43
open TL NumText Nm Tb
def t__law_small (K : PySem.W.Frag) : TS :=
  (tSeq (tIfS (tOr (tTest (tOp rNeS (tCB rLenU (tCons (uVar 0) tNil)) (tC (.int 2)))) (tOr (tTest (tOp (rInU true) (tOp rIxU (uVar 0) (tC (.int 1))) (tC (.str "0123456789")))) (tTest (tOp (rInU true) (tOp rIxU (uVar 0) (tC (.int 0))) (tC (.str " 123456789")))))) (tRet (tUn (rU fun i => .int (-i)) (tC (.int 1)))) tNext)
  (tSeq (tIfS (tTest (tOp rEqS (tOp rIxU (uVar 0) (tC (.int 0))) (tC (.str " ")))) (tRet (tCB rIntT (tCons (tOp rIxU (uVar 0) (tC (.int 1))) tNil))) tNext)
  (tRet (tCB rIntT (tCons (uVar 0) tNil)))))
theorem s19 {c : Nat} : c ∈ (Str.ofString " 123456789").cps.toList ↔ (c = 32 ∨ (isD c ∧ c ≠ 48)) := by
  have e : (Str.ofString " 123456789").cps.toList = [32, 49, 50, 51, 52, 53, 54, 55, 56, 57] := by decide +kernel
  rw [e]
  simp only [List.mem_cons, List.not_mem_nil, or_false]
  unfold isD
  omega
def sI (o : Option Nat) : Int := match o with
  | none => -1
  | some k => (k : Int)
def sp__law_small (K : PySem.W.Frag) : Sp := fun vs H Q _ => ∃ z : Str, vs = [.str z] ∧ z.length ≤ 1000000 ∧ Q (.int (sI (S2 (tl z)))) H
theorem len__law_small {K : PySem.W.Frag} : ∀ vs H Q E, sp__law_small K vs H Q E → vs.length = 1 := fun _ _ _ _ ⟨_, e, _⟩ => by rw [e]; rfl
theorem pure__law_small {K : PySem.W.Frag} (vs : List V) (H : Hp) (Q : VK) (E : XK) (h : sp__law_small K vs H Q E) : t__law_small K { nx := fun _ H' => Q .non H', rt := Q } (start ["_law_text"] vs) H := by
  obtain ⟨z, rfl, hz, q⟩ := h
  have hz2 : z.length ≤ 16777216 := by omega
  have hL : z.cps.toList.length = z.length := rfl
  have l2 := len_tl z
  unfold t__law_small
  show tSeq _ _ _ [some (.str z)] H
  kfm_turns
  refine Br.by (fun h1 => ?_) fun h1 => ?_
  · obtain ⟨a, b, e⟩ : ∃ a b, tl z = [a, b] := by
      have : (tl z).length = 2 := by omega
      match h : tl z, this with
      | [a, b], _ => exact ⟨a, b, rfl⟩
    have e' : z.cps.toList = [a, b] := e
    rw [e] at q
    have at0 : ∀ {j v : Nat}, (0 : Int) = (j : Int) → z.cps.toList[j]? = some v → a = v := fun {j v} ej hv => by
      have : j = 0 := by omega
      rw [this, e'] at hv
      exact Option.some.inj hv
    have at1 : ∀ {j v : Nat}, (1 : Int) = (j : Int) → z.cps.toList[j]? = some v → b = v := fun {j v} ej hv => by
      have : j = 1 := by omega
      rw [this, e'] at hv
      exact Option.some.inj hv
    kfm_turns
    rename_i j v ej hv
    obtain rfl := at1 ej hv
    clear ej hv
    simp only [digs_mem]
    refine Br.by (fun hb => ?_) fun hb => ?_
    · kfm_turns
      rename_i j w ej hv
      obtain rfl := at0 ej hv
      clear ej hv
      simp only [s19]
      refine Br.by (fun ha => ?_) fun ha => ?_
      · kfm_turns
        rename_i j w' ej hv
        obtain rfl := at0 ej hv
        clear ej hv
        simp only [isSp]
        have eS : S2 [a, b] = some (if a = 32 then b - 48 else digitsVal [a, b]) := if_pos ⟨hb, ha⟩
        rw [eS] at q
        refine Br.by (fun h3 => ?_) fun h3 => ?_
        · rw [if_pos h3] at q
          kfm_turns
          rename_i j w' ej hv
          obtain rfl := at1 ej hv
          clear ej hv
          refine Cd.by (show 1 ≤ 640 by decide) ?_
          refine OK.by (intText_digits (x := ⟨#[b]⟩) (fun c hc => by have : c = b := by simpa using hc
                                                                     rw [this]; exact hb) (by simp) (show 1 ≤ 4300 by decide)) ?_
          have : digitsVal (⟨#[b]⟩ : Str).cps.toList = b - 48 := dv_one
          rw [this]
          exact q
        · rw [if_neg h3] at q
          kfm_turns
          refine OK.by (intText_digits (x := z) (fun c hc => ?_) (by rw [e']; simp) (by omega)) ?_
          · rw [e'] at hc
            rcases List.mem_cons.mp hc with hc | hc
            · rw [hc]; exact (ha.resolve_left h3).1
            · rw [List.mem_singleton.mp hc]; exact hb
          · rw [e']
            exact q
      · kfm_turns
        have eS : S2 [a, b] = none := if_neg fun z => ha z.2
        rw [eS] at q
        exact q
    · kfm_turns
      have eS : S2 [a, b] = none := if_neg fun z => hb z.1
      rw [eS] at q
      exact q
  · kfm_turns
    rw [S2_len (by omega)] at q
    exact q
def t__law_digits (K : PySem.W.Frag) : TS :=
  (tSeq (tIfS (tOr (tTest (tOp rEqS (tCB rLenU (tCons (uVar 0) tNil)) (tC (.int 0)))) (uTru (tCB rAnyU (tCons (tLc (iU K (uVar 0)) (gName 1) tYes (tOp (rInU true) (uVar 1) (tC (.str "0123456789"))) [1]) tNil)))) (tRet (tC (.bl false))) tNext)
  (tRet (tOrV (tOp rEqS (tCB rLenU (tCons (uVar 0) tNil)) (tC (.int 1))) (tOp rNeS (tOp rIxU (uVar 0) (tC (.int 0))) (tC (.str "0"))))))
def goodD (l : List Nat) : Prop := Wr l none ∧ sg l = 0
def sp__law_digits (K : PySem.W.Frag) : Sp := fun vs H Q _ => ∃ z : Str, vs = [.str z] ∧ z.length ≤ 1000000 ∧ ∀ b H', (b = true ↔ goodD (tl z)) → L2.Same H H' → Q (.bl b) H'
theorem len__law_digits {K : PySem.W.Frag} : ∀ vs H Q E, sp__law_digits K vs H Q E → vs.length = 1 := fun _ _ _ _ ⟨_, e, _⟩ => by rw [e]; rfl
theorem goodD_iff {l : List Nat} : goodD l ↔ AllDigits l ∧ l ≠ [] ∧ (l.length = 1 ∨ l[0]? ≠ some 48) := by
  unfold goodD
  constructor
  · rintro ⟨h, s⟩
    obtain ⟨g1, g2, g3, g4, g5⟩ := h.good
    rw [s, List.drop_zero] at g1 g2 g4
    refine ⟨g1, g2, ?_⟩
    rw [← g4]
    rcases Nat.lt_or_ge (digitsVal l) 10 with h | h
    · rw [numL_lt h]
      exact .inl rfl
    · exact .inr (numL_head h)
  · rintro ⟨a, b, c⟩
    have s : sg l = 0 := by
      unfold sg
      rw [if_neg]
      intro h
      have := a 45 (List.mem_of_getElem? h)
      exact absurd this.1 (by decide)
    refine ⟨.fine (by rw [s]; intro h; exact b (List.length_eq_zero_iff.mp h)) fun k hk hl hb => ?_, s⟩
    rw [s] at hb
    obtain ⟨d, hd, hb⟩ := hb
    rcases hb with hb | ⟨_, _, hb⟩ | ⟨hb, hb2⟩
    · exact hb (a d (List.mem_of_getElem? hd))
    · omega
    · exact c.elim (fun c => by omega) fun c => c hb2
theorem any_nd (l : List Nat) : (l.map fun c => !decide (c ∈ (Str.ofString "0123456789").cps.toList)).any id = true ↔ ¬ AllDigits l := by
  rw [List.any_map, List.any_eq_true]
  constructor
  · rintro ⟨c, hc, h⟩ a
    have := digs_mem.mpr (a c hc)
    change (!decide _) = true at h
    rw [decide_eq_true this] at h
    cases h
  · intro h
    refine Classical.byContradiction fun k => h fun c hc => ?_
    refine Classical.byContradiction fun n => k ⟨c, hc, ?_⟩
    have : ¬ c ∈ (Str.ofString "0123456789").cps.toList := fun m => n (digs_mem.mp m)
    show (!decide _) = true
    rw [decide_eq_false this]
    rfl
theorem pure__law_digits {K : PySem.W.Frag} (vs : List V) (H : Hp) (Q : VK) (E : XK) (h : sp__law_digits K vs H Q E) : t__law_digits K { nx := fun _ H' => Q .non H', rt := Q } (start ["_law_text", "_law_digit"] vs) H := by
  obtain ⟨z, rfl, hz, q⟩ := h
  have hz2 : z.length ≤ 16777216 := by omega
  have hL : z.cps.toList.length = z.length := rfl
  have l2 := len_tl z
  unfold t__law_digits
  show tSeq _ _ _ [some (.str z), none] H
  kfm_turns
  refine Br.by (fun h1 => ?_) fun h1 => ?_
  · kfm_turns
    exact q _ _ ⟨fun h => (nomatch h), fun h => absurd (goodD_iff.mp h).2.1 (fun k => k (List.length_eq_zero_iff.mp (by omega)))⟩ (L2.Same.refl H)
  · kfm_turns
    refine comp_strf (fun c => .bl (!decide (c ∈ (Str.ofString "0123456789").cps.toList))) (by omega) (fun c H' R hc s r => ?_) fun L H' hL hl s => ?_
    · kfm_turns
      exact r
    · kfm_turns
      refine rAny.by (bs := z.cps.toList.map fun c => !decide (c ∈ (Str.ofString "0123456789").cps.toList)) (by rw [hl, List.map_map]; rfl) ?_
      kfm_turns
      refine Br.by (fun h2 => ?_) fun h2 => ?_
      · kfm_turns
        exact q _ _ ⟨fun h => (nomatch h), fun h => absurd (goodD_iff.mp h).1 ((any_nd _).mp h2)⟩ s
      · have h2 : AllDigits (tl z) := Classical.byContradiction fun k => h2 ((any_nd _).mpr k)
        have ne : tl z ≠ [] := fun k => h1 (by have := congrArg List.length k; rw [List.length_nil] at this; omega)
        kfm_turns
        refine Br.by (fun h3 => ?_) fun h3 => ?_
        · kfm_turns
          exact q _ _ ⟨fun _ => goodD_iff.mpr ⟨h2, ne, .inl (by omega)⟩, fun _ => rfl⟩ s
        · kfm_turns
          rename_i j v ej hv
          have : j = 0 := by omega
          subst this
          have e0 : (tl z)[0]? = some v := hv
          refine q _ _ ?_ s
          rw [goodD_iff, e0]
          simp only [V.str.injEq, is0]
          constructor
          · intro k
            exact ⟨h2, ne, .inr (by simpa using k)⟩
          · rintro ⟨_, _, k⟩
            have k := k.resolve_left (by omega)
            simpa using k
def t__law_worth_1 (K : PySem.W.Frag) : TS :=
  (tAsg (tOp rMulX (uVar 1) (tC (.int 10))) (gName 1))
def t__law_worth_2 (K : PySem.W.Frag) : TS :=
  (tSeq (tAsg (tSl rSlU (uVar 0) (uPart (uVar 2)) (uPart (tOp rAddI (uVar 2) (tC (.int 40))))) (gName 3))
  (tSeq (tFor (iU K (uVar 3)) (gName 4) (t__law_worth_1 K))
  (tAsg (tOp rAddI (uVar 1) (tCB rIntT (tCons (uVar 3) tNil))) (gName 1))))
def t__law_worth (K : PySem.W.Frag) : TS :=
  (tSeq (tAsg (tC (.int 0)) (gName 1))
  (tSeq (tFor (iRng3 (tCons (tC (.int 0)) (tCons (tCB rLenU (tCons (uVar 0) tNil)) (tCons (tC (.int 40)) tNil)))) (gName 2) (t__law_worth_2 K))
  (tRet (uVar 1))))
def sp__law_worth (K : PySem.W.Frag) : Sp := fun vs H Q _ => ∃ z : Str, vs = [.str z] ∧ z.length ≤ 100000 ∧ AllDigits (tl z) ∧ Q (.int ((digitsVal (tl z) : Nat) : Int)) H
theorem len__law_worth {K : PySem.W.Frag} : ∀ vs H Q E, sp__law_worth K vs H Q E → vs.length = 1 := fun _ _ _ _ ⟨_, e, _⟩ => by rw [e]; rfl
theorem mul_10 {n k : Nat} (h : n < 10 ^ k) (hk : k ≤ 1000000) : CMulX (n : Int) 10 :=
  mulx_ok (a := 4 * k) (b := 4) (by rw [Int.natAbs_natCast]; exact Nat.lt_of_lt_of_le h (bits10 k)) (by decide) (by omega)
theorem loop_ten {K : PySem.W.Frag} {y : Str} {D : Ends} {H : Hp} {v0 v2 v3 v4 : Option V} {T k : Nat} (hT : T < 10 ^ k) (hk : k + y.length ≤ 1000000) (q : ∀ v, D.nx [v0, some (.int ((T * 10 ^ y.length : Nat) : Int)), v2, v3, v] H) :
    @LoopU K (.str y) [v0, some (.int (T : Int)), v2, v3, v4] H ⟨gName 4⟩ ⟨t__law_worth_1 K⟩ ⟨D⟩ := by
  refine loop_str (fun i σ H' => H' = H ∧ ∃ v, σ = [v0, some (.int ((T * 10 ^ i : Nat) : Int)), v2, v3, v]) ⟨rfl, _, by rw [Nat.pow_zero, Nat.mul_one]⟩ (fun i c σ H' hc ⟨e1, v, e2⟩ => ?_) (fun σ H' ⟨e1, v, e2⟩ => ?_)
  · subst e1 e2
    have hi : i < y.cps.size := (Array.getElem?_eq_some_iff.mp hc).1
    have el : y.cps.size = y.length := rfl
    have b : T * 10 ^ i < 10 ^ (k + i) := by
      rw [Nat.pow_add]
      exact Nat.mul_lt_mul_of_pos_right hT (Nat.pow_pos (by decide))
    have m := mul_10 b (by omega)
    have e : T * 10 ^ (i + 1) = T * 10 ^ i * 10 := by rw [Nat.pow_succ, Nat.mul_assoc]
    show gName 4 _ _ _ _
    unfold t__law_worth_1
    rw [e]
    generalize T * 10 ^ i = A at *
    kfm_turns
    exact ⟨_, ⟨by rw [Int.natCast_mul]; rfl, rfl⟩⟩
  · subst e1 e2
    exact q v
theorem pure__law_worth {K : PySem.W.Frag} (vs : List V) (H : Hp) (Q : VK) (E : XK) (h : sp__law_worth K vs H Q E) : t__law_worth K { nx := fun _ H' => Q .non H', rt := Q } (start ["_law_text", "_law_total", "_law_k", "_law_part", "_law_digit"] vs) H := by
  obtain ⟨z, rfl, hz, hd, q⟩ := h
  have hz2 : z.length ≤ 16777216 := by omega
  have ll := len_tl z
  unfold t__law_worth
  show tSeq _ _ _ [some (.str z), none, none, none, none] H
  kfm_turns
  obtain ⟨n, hn⟩ : ∃ n, n = (z.length + 39) / 40 := ⟨_, rfl⟩
  refine ⟨n, rgcN (c := 40) (a := 0) (b := z.length) (by decide) (by decide) (by decide) (by omega) (by omega) (by omega), ?_⟩
  refine loop_rngC (fun i σ H' => H' = H ∧ ∃ y2 y3 y4, σ = [some (.str z), some (.int ((digitsVal ((tl z).take (40 * i)) : Nat) : Int)), y2, y3, y4]) ⟨rfl, _, _, _, rfl⟩ (fun i σ H' hi ⟨e1, y2, y3, y4, e2⟩ => ?_) (fun σ H' ⟨e1, y2, y3, y4, e2⟩ => ?_)
  · subst e1 e2
    obtain ⟨m, hm⟩ : ∃ m, m = min (40 * i + 40) z.length := ⟨_, rfl⟩
    have a1 : (0 : Int) + (i : Int) * 40 = ((40 * i : Nat) : Int) := by omega
    have a2 : ((40 * i : Nat) : Int) + 40 = ((40 * i + 40 : Nat) : Int) := by omega
    have c1 : tl (cutS z (some ((40 * i : Nat) : Int)) (some ((40 * i + 40 : Nat) : Int))) = ((tl z).drop (40 * i)).take 40 := by
      have : tl (cutS z (some ((40 * i : Nat) : Int)) (some ((40 * i + 40 : Nat) : Int))) = ((tl z).drop (HT.sIx z.length 0 (some ((40 * i : Nat) : Int)))).take (HT.sIx z.length z.length (some ((40 * i + 40 : Nat) : Int)) - HT.sIx z.length 0 (some ((40 * i : Nat) : Int))) := rfl
      rw [this, HT.sIx_nat, HT.sIx_nat, Nat.min_eq_left (show 40 * i ≤ z.length by omega)]
      rcases Nat.lt_or_ge (40 * i + 40) z.length with h | h
      · rw [Nat.min_eq_left (by omega), Nat.add_sub_cancel_left]
      · rw [Nat.min_eq_right h, List.take_of_length_le (by rw [List.length_drop]; omega), List.take_of_length_le (by rw [List.length_drop]; omega)]
    have l1 : (cutS z (some ((40 * i : Nat) : Int)) (some ((40 * i + 40 : Nat) : Int))).length = min 40 (z.length - 40 * i) := by rw [len_tl, c1, List.length_take, List.length_drop, ← ll]
    have st : digitsVal ((tl z).take (40 * (i + 1))) = digitsVal ((tl z).take (40 * i)) * 10 ^ (cutS z (some ((40 * i : Nat) : Int)) (some ((40 * i + 40 : Nat) : Int))).length + digitsVal (tl (cutS z (some ((40 * i : Nat) : Int)) (some ((40 * i + 40 : Nat) : Int)))) := by
      rw [show 40 * (i + 1) = 40 * i + 40 by omega, List.take_add, dv_app, ← c1, ← len_tl]
    have bl := dv_lt (cs := (tl z).take (40 * i)) fun c hc => hd c (List.mem_of_mem_take hc)
    rw [List.length_take, Nat.min_eq_left (by omega)] at bl
    have dp : AllDigits (tl (cutS z (some ((40 * i : Nat) : Int)) (some ((40 * i + 40 : Nat) : Int)))) := fun c hc => by
      rw [c1] at hc
      exact hd c (List.mem_of_mem_drop (List.mem_of_mem_take hc))
    obtain ⟨y, hy⟩ : ∃ y, y = cutS z (some ((40 * i : Nat) : Int)) (some ((40 * i + 40 : Nat) : Int)) := ⟨_, rfl⟩
    rw [← hy] at c1 l1 st dp
    have tT : ((digitsVal ((tl z).take (40 * i)) * 10 ^ y.length : Nat) : Int) + ((digitsVal (tl y) : Nat) : Int) = ((digitsVal ((tl z).take (40 * (i + 1))) : Nat) : Int) := by rw [st, Int.natCast_add]
    show gName 2 _ _ _ _
    unfold t__law_worth_2
    generalize digitsVal ((tl z).take (40 * i)) = T at *
    generalize digitsVal ((tl z).take (40 * (i + 1))) = T2 at *
    rw [a1]
    kfm_turns
    rw [a2]
    rw [← hy]
    refine loop_ten bl (by omega) fun v => ?_
    generalize hP : ((T * 10 ^ y.length : Nat) : Int) = P at *
    kfm_turns
    refine OK.by (intText_digits (x := y) dp (fun e => ?_) (by omega)) ?_
    · have := congrArg List.length e
      rw [List.length_nil] at this
      have : y.length = 0 := this
      omega
    kfm_turns
    exact ⟨_, _, _, tT, rfl, rfl, rfl⟩
  · subst e1 e2
    kfm_turns
    rw [List.take_of_length_le (by omega)]
    exact q
theorem sI_neg {o : Option Nat} : sI o < 0 ↔ o = none := by
  cases o with
  | none => simp [sI]
  | some k => simp [sI]
theorem sI_get {o : Option Nat} (h : o ≠ none) : sI o = ((o.getD 0 : Nat) : Int) := by
  cases o with
  | none => exact absurd rfl h
  | some k => rfl
theorem cutTo8 {z : Str} : tl (cutS z none (some 8)) = (tl z).take 8 := by
  have : tl (cutS z none (some 8)) = ((tl z).drop 0).take (HT.sIx z.length z.length (some ((8 : Nat) : Int)) - 0) := rfl
  rw [this, HT.sIx_nat, List.drop_zero, Nat.sub_zero]
  rcases Nat.lt_or_ge 8 z.length with h | h
  · rw [Nat.min_eq_left (by omega)]
  · rw [Nat.min_eq_right h, List.take_of_length_le (by rw [← len_tl]; exact Nat.le_refl _), List.take_of_length_le (by rw [← len_tl]; exact h)]
def t__law_row (K : PySem.W.Frag) : TS :=
  (tSeq (tIfS (tTest (tOp rLtU (tCB rLenU (tCons (uVar 0) tNil)) (tC (.int 20)))) (tRet (tC .non)) tNext)
  (tSeq (tAsg (tBM K "str" rRs (tSl rSlU (uVar 0) tNoPart (uPart (tC (.int 8)))) (tCons (tC (.str " ")) tNil)) (gName 1))
  (tSeq (tIfS (tOr (tTest (tOp rEqS (tCB rLenU (tCons (uVar 1) tNil)) (tC (.int 0)))) (uTru (tCB rAnyU (tCons (tLc (iU K (uVar 1)) (gName 2) tYes (tOp (rInU true) (uVar 2) (tC (.str "abcdefghijklmnopqrstuvwxyz"))) [2]) tNil)))) (tRet (tC .non)) tNext)
  (tSeq (tIfS (tOr (tTest (tOp rNeS (tOp rIxU (uVar 0) (tC (.int 8))) (tC (.str " ")))) (tOr (tTest (tOp rNeS (tOp rIxU (uVar 0) (tC (.int 11))) (tC (.str " ")))) (tOr (tTest (tOp rNeS (tOp rIxU (uVar 0) (tC (.int 14))) (tC (.str " ")))) (tTest (tOp rNeS (tOp rIxU (uVar 0) (tC (.int 18))) (tC (.str " "))))))) (tRet (tC .non)) tNext)
  (tSeq (tIfS (tOr (tTest (tOp (rInU true) (tSl rSlU (uVar 0) (uPart (tC (.int 15))) (uPart (tC (.int 18)))) (tTup (tCons (tC (.str "yes")) (tCons (tC (.str "no ")) tNil))))) (tOr (tTest (tOp rLtU (uCall (sp__law_small K) [] E0 (tCons (tSl rSlU (uVar 0) (uPart (tC (.int 9))) (uPart (tC (.int 11)))) tNil)) (tC (.int 0)))) (tTest (tOp rLtU (uCall (sp__law_small K) [] E0 (tCons (tSl rSlU (uVar 0) (uPart (tC (.int 12))) (uPart (tC (.int 14)))) tNil)) (tC (.int 0)))))) (tRet (tC .non)) tNext)
  (tSeq (tIfS (tNot (uTru (uCall (sp__law_digits K) [] E0 (tCons (tSl rSlU (uVar 0) (uPart (tC (.int 19))) tNoPart) tNil)))) (tRet (tC .non)) tNext)
  (tRet (tTup (tCons (uVar 1) (tCons (uCall (sp__law_small K) [] E0 (tCons (tSl rSlU (uVar 0) (uPart (tC (.int 9))) (uPart (tC (.int 11)))) tNil)) (tCons (uCall (sp__law_small K) [] E0 (tCons (tSl rSlU (uVar 0) (uPart (tC (.int 12))) (uPart (tC (.int 14)))) tNil)) (tCons (tOp rEqS (tSl rSlU (uVar 0) (uPart (tC (.int 15))) (uPart (tC (.int 18)))) (tC (.str "yes"))) (tCons (uCall (sp__law_worth K) [] E0 (tCons (tSl rSlU (uVar 0) (uPart (tC (.int 19))) tNoPart) tNil)) tNil)))))))))))))
def sp__law_row (K : PySem.W.Frag) : Sp := fun vs H Q _ => ∃ z : Str, vs = [.str z] ∧ z.length ≤ 100000 ∧ ∀ v H', L2.Same H H' → (¬ Good isMarkS z → v = .non) → (Good isMarkS z → ∃ p, v = .ref p ∧ H' p = some (.tup (rowL z))) → Q v H'
theorem len__law_row {K : PySem.W.Frag} : ∀ vs H Q E, sp__law_row K vs H Q E → vs.length = 1 := fun _ _ _ _ ⟨_, e, _⟩ => by rw [e]; rfl
theorem any_nl (z : Str) (h : z.length ≤ 8) (h0 : z.length ≠ 0) : (z.cps.toList.map fun c => !decide (c ∈ (Str.ofString "abcdefghijklmnopqrstuvwxyz").cps.toList)).any id = !isMarkS z := by
  unfold isMarkS
  rw [decide_eq_true (show 1 ≤ z.length by omega), decide_eq_true h, Bool.true_and, Bool.true_and, List.any_map]
  induction z.cps.toList with
  | nil => rfl
  | cons c l ih =>
    rw [List.any_cons, List.all_cons, ih]
    show (!decide _ || _) = _
    rw [Bool.not_and]
theorem pure__law_row {K : PySem.W.Frag} (vs : List V) (H : Hp) (Q : VK) (E : XK) (h : sp__law_row K vs H Q E) : t__law_row K { nx := fun _ H' => Q .non H', rt := Q } (start ["_law_line_here", "_law_name", "_law_letter"] vs) H := by
  obtain ⟨z, rfl, hz, q⟩ := h
  have hz2 : z.length ≤ 16777216 := by omega
  have hL : z.cps.toList.length = z.length := rfl
  have l8 : (cutS z none (some 8)).length ≤ z.length := cut_len
  have lA : (pA z).length ≤ z.length := cut_len
  have lB : (pB z).length ≤ z.length := cut_len
  have lY : (pY z).length ≤ z.length := cut_len
  have lS : (pS z).length ≤ z.length := cut_len
  have lN := strip8 (z := z)
  have lN8 : (pN z).length ≤ 8 := by
    refine Nat.le_trans (strip_len _ _ _ _) ?_
    rw [len_tl, cutTo8, List.length_take]
    omega
  have eN : Txt.rstripChars (cutS z none (some 8)) (Str.ofString " ") = pN z := rfl
  have no : ∀ H', L2.Same H H' → ¬ Good isMarkS z → Q .non H' := fun H' s g => q .non H' s (fun _ => rfl) fun h => absurd h g
  unfold t__law_row
  show tSeq _ _ _ [some (.str z), none, none] H
  kfm_turns
  refine Br.by (fun h1 => ?_) fun h1 => ?_
  · kfm_turns
    exact no H (L2.Same.refl H) fun g => by have := g.len; omega
  · kfm_turns
    rw [eN]
    kfm_turns
    refine Br.by (fun h2 => ?_) fun h2 => ?_
    · kfm_turns
      exact no H (L2.Same.refl H) fun g => by
        have := g.name
        unfold isMarkS at this
        rw [decide_eq_false (show ¬ 1 ≤ (pN z).length by omega)] at this
        cases this
    · kfm_turns
      refine comp_strf (fun c => .bl (!decide (c ∈ (Str.ofString "abcdefghijklmnopqrstuvwxyz").cps.toList))) (by omega) (fun c H' R hc s r => ?_) fun L H' hL hl s => ?_
      · kfm_turns
        exact r
      · kfm_turns
        refine rAny.by (bs := (pN z).cps.toList.map fun c => !decide (c ∈ (Str.ofString "abcdefghijklmnopqrstuvwxyz").cps.toList)) (by rw [hl, List.map_map]; rfl) ?_
        rw [any_nl _ lN8 (by omega)]
        nest_cls
        · exact no _ s fun g => by have := g.name; simp_all
        · rename_i p H2 n hy
          refine no _ (s.trans n.same) fun g => ?_
          rw [Bool.or_eq_false_iff, decide_eq_false_iff_not, decide_eq_false_iff_not] at hy
          exact g.y.elim hy.1 hy.2
        · rename_i p H2 n hy
          have s2 := s.trans n.same
          have hy : pY z = Str.ofString "yes" ∨ pY z = Str.ofString "no " := by
            rw [Bool.not_eq_false, Bool.or_eq_true, decide_eq_true_eq, decide_eq_true_eq] at hy
            exact hy
          refine Call.by ⟨pA z, rfl, by omega, ?_⟩
          kfm_turns
          refine Br.by (fun hA => ?_) fun hA => ?_
          · kfm_turns
            exact no _ s2 fun g => g.a (sI_neg.mp hA)
          kfm_turns
          refine Call.by ⟨pB z, rfl, by omega, ?_⟩
          kfm_turns
          refine Br.by (fun hB => ?_) fun hB => ?_
          · kfm_turns
            exact no _ s2 fun g => g.b (sI_neg.mp hB)
          kfm_turns
          refine Call.by ⟨pS z, rfl, by omega, fun b H3 hb s3 => ?_⟩
          have s4 := s2.trans s3
          kfm_turns
          refine Br.by (fun hc => ?_) fun hc => ?_
          · kfm_turns
            exact no _ s4 fun g => absurd (hb.mpr ⟨g.st, g.sg⟩) (by rw [hc]; decide)
          have hb2 := hb.mp (by simpa using hc)
          have gd : Good isMarkS z := ⟨by omega, by simp_all, fun e => hA (sI_neg.mpr e), fun e => hB (sI_neg.mpr e), hb2.1, hb2.2, blk (by assumption) (by assumption) rfl (by assumption), blk (by assumption) (by assumption) rfl (by assumption), blk (by assumption) (by assumption) rfl (by assumption), blk (by assumption) (by assumption) rfl (by assumption), hy⟩
          have aS : AllDigits (tl (pS z)) := (goodD_iff.mp hb2).1
          kfm_turns
          refine Call.by ⟨pA z, rfl, by omega, ?_⟩
          kfm_turns
          refine Call.by ⟨pB z, rfl, by omega, ?_⟩
          kfm_turns
          refine Call.by ⟨pS z, rfl, by omega, aS, ?_⟩
          kpt_turns
          rename_i p5 H5 n5
          refine q _ _ (s4.trans n5.same) (fun g => absurd gd g) fun _ => ⟨p5, rfl, ?_⟩
          rw [n5.at]
          unfold rowL
          rw [← sI_get fun e => hA (sI_neg.mpr e), ← sI_get fun e => hB (sI_neg.mpr e)]
          simp only [V.str.injEq]
          rfl
        · exact no _ s fun g => nblk g.c18 (by assumption) (by assumption) rfl (by assumption)
        · exact no _ s fun g => nblk g.c14 (by assumption) (by assumption) rfl (by assumption)
        · exact no _ s fun g => nblk g.c11 (by assumption) (by assumption) rfl (by assumption)
        · exact no _ s fun g => nblk g.c8 (by assumption) (by assumption) rfl (by assumption)
end K43
end U
end

section
namespace U
open PySem PySem.Spec PyProof.Rows L2
local macro_rules | `(tactic| tb_start) => `(tactic| first
  | assumption
  | (refine Ne.symm ?_; assumption)
  | ((with_reducible apply New.ne); (focus assumption); (focus tb_rel); done)
  | (refine Ne.symm ?_; (with_reducible apply New.ne); (focus assumption); (focus tb_rel); done)
  | ((with_reducible apply neN); (focus assumption); (focus tb_rel); done)
  | (refine Ne.symm ?_; (with_reducible apply neN); (focus assumption); (focus tb_rel); done)
  | ((with_reducible apply DrawsOk.neN); (focus assumption); (focus kct_strs); done)
  | ((with_reducible apply DrawsOk.neLN); (focus assumption); (focus kct_strs); done)
  | ((with_reducible apply DrawsOk.ne'); (focus assumption); (focus kct_strs); done)
  | ((with_reducible apply DrawsOk.neL'); (focus assumption); (focus kct_strs); done)
  | ((with_reducible apply DrawsOk.other'); (focus assumption); (focus tb_rel); (focus rfl); done)
  | ((with_reducible apply DrawsOk.otherL); (focus assumption); (focus tb_rel); (focus rfl); done)
  | ((with_reducible apply ne_kd); (focus assumption); (focus tb_rel); (focus (intro h; cases h; done)); done))
local macro_rules | `(tactic| tb_rel) => `(tactic| first
  | assumption
  | exact New.at (by assumption)
  | exact Mod.at (by assumption)
  | ((with_reducible apply New.old); (focus assumption); tb_rel)
  | ((with_reducible apply Mod.lk); (focus assumption); (focus tb_rel); focus tb_start)
  | ((with_reducible apply Keep.lk); (focus assumption); (focus tb_rel); focus tb_start)
  | ((with_reducible apply Same.at); (focus assumption); tb_rel))
local macro_rules | `(tactic| kct_strs) => `(tactic| first
  | assumption
  | (refine New.draws (by assumption) ?_; kct_strs)
  | (refine DrawsOk.same ?_ (by assumption); kct_strs)
  | (refine Mod.draws (by assumption) ?_ ?_ ?_; (kct_strs); (focus tb_start); focus tb_start))
local macro_rules | `(tactic| k_updF) => `(tactic| first
  | assumption
  | exact L2.Same.refl _
  | (refine Same.new ?_ (by assumption); k_updF)
  | (refine L2.Same.trans ?_ (by assumption); k_updF)
  | (refine Same.mod ?_ (by assumption) ?_; (k_updF); lcg_sub))
local macro_rules | `(tactic| k_memK) => `(tactic| first
  | assumption
  | exact Keep.refl _ _
  | (refine Keep.new' ?_ (by assumption); k_memK)
  | (refine Keep.trans ?_ (by assumption); k_memK)
  | (refine Keep.trans ?_ (Keep.same' (by assumption)); k_memK)
  | (refine Keep.modd ?_ (by assumption); k_memK)
  | (refine Keep.mod ?_ (by assumption) ?_; (k_memK); lcg_sub))
local macro_rules | `(tactic| lcg_sub) => `(tactic| first
  | assumption
  | exact New.fr (by assumption)
  | (refine Same.none ?_ (New.fr (by assumption)); k_updF)
  | (refine Keep.fresh (D := ?_) ?_ ?_ ?_ (New.fr (by assumption)); rotate_left; (k_memK); (kct_strs); (kct_strs)))
local macro_rules | `(tactic| k_upd) => `(tactic| first
  | assumption
  | exact Kl.refl _
  | (refine Kl.trans ?_ (New.kl (by assumption)); k_upd)
  | (refine Kl.trans ?_ (Same.kl (by assumption)); k_upd)
  | (refine Kl.trans ?_ (Mod.kl (by assumption) (by tb_rel)); k_upd)
  | (refine Kl.trans ?_ (Keep.kl (by assumption) (by kct_strs)); k_upd)
  | (refine Kl.trans ?_ (by assumption); k_upd))
local macro_rules | `(tactic| kst_all1) => `(tactic| first
  | assumption | omega | (with_reducible rfl)
  | (simp only [List.length_append, List.length_map, List.length_set, List.length_take, List.length_drop, List.length_cons, List.length_nil, List.length_replicate]; omega)
  | (refine ⟨?_, ?_⟩ <;> kst_all1)
  | decide)
local macro_rules | `(tactic| k_allIn) => `(tactic| first
  | ((with_reducible apply OKl); (focus tb_rel))
  | ((with_reducible apply OKt); (focus tb_rel))
  | ((with_reducible apply OKql); (focus tb_rel))
  | ((with_reducible apply OKqt); (focus tb_rel))
  | ((with_reducible apply OKnl); (focus tb_rel))
  | ((with_reducible apply OKnt); (focus tb_rel))
  | ((with_reducible apply OKnd); (focus tb_rel))
  | ((with_reducible apply OKyl); (focus tb_rel))
  | ((with_reducible apply OKyt); (focus tb_rel))
  | ((with_reducible apply OKyd); (focus tb_rel))
  | ((with_reducible apply OKbl); (focus tb_rel))
  | ((with_reducible apply OKbt); (focus tb_rel))
  | ((with_reducible apply OKbd); (focus tb_rel))
  | ((with_reducible apply OKi); (focus tb_rel))
  | ((with_reducible apply OKj); (focus tb_rel))
  | ((with_reducible apply OKr); (focus tb_rel))
  | ((with_reducible apply OKrt); (focus tb_rel))
  | ((with_reducible apply OKrl); (focus tb_rel))
  | ((with_reducible apply OKsl); (focus tb_rel))
  | ((with_reducible apply OKst); (focus tb_rel))
  | ((with_reducible apply AlS_l); (focus tb_rel))
  | ((with_reducible apply AlS_t); (focus tb_rel))
  | ((with_reducible apply AlC_l); (focus tb_rel))
  | ((with_reducible apply AlC_t); (focus tb_rel))
  | ((with_reducible apply OKn); (focus kst_all1); intro v h)
  | ((with_reducible apply OKl1); (focus kst_all1); intro v h)
  | ((with_reducible apply OKl2); (focus kst_all1); intro v h)
  | ((with_reducible apply OKlk); (focus kst_all1); intro v h)
  | ((with_reducible apply OKln); (focus kst_all1); intro v h)
  | ((with_reducible apply OKg); (focus kst_all1); intro v h)
  | ((with_reducible apply OKxn); (focus kst_all1))
  | ((with_reducible apply OKsi); (focus kst_all1))
  | ((with_reducible apply OKsm); (focus kst_all1))
  | ((with_reducible refine OKa ?_ ?_ ?_); (focus kst_all1); (focus kst_all1); intro j v e h))
local macro_rules | `(tactic| kfm_turns) => `(tactic| repeat first
  | kpc_turns
  | k_allIn
  | l_intsW
  | ((with_reducible apply CdL); (focus tb_rel))
  | ((with_reducible refine Cd.by ?_ ?_); (focus kst_all1))
  | ((with_reducible refine Br.yes ?_ ?_); (focus (first | assumption | omega)))
  | ((with_reducible refine Br.no ?_ ?_); (focus (first | assumption | omega))))
local macro_rules | `(tactic| kpt_turns) => `(tactic| repeat first
  | kpc_turns
  | k_allIn
  | l_intsW
  | (with_reducible refine Al.by fun p H' n => ?_)
  | (with_reducible refine Md.by fun H' m => ?_)
  | ((with_reducible apply CdL); (focus tb_rel))
  | ((with_reducible refine Cd.by ?_ ?_); (focus kst_all1))
  | ((with_reducible refine Br.yes ?_ ?_); (focus (first | assumption | omega)))
  | ((with_reducible refine Br.no ?_ ?_); (focus (first | assumption | omega))))
local macro_rules | `(tactic| nest_cls) => `(tactic| repeat' first
  | kpc_turns
  | k_allIn
  | l_intsW
  | (with_reducible refine Al.by fun p H' n => ?_)
  | (with_reducible refine Md.by fun H' m => ?_)
  | ((with_reducible apply CdL); (focus tb_rel))
  | ((with_reducible refine Cd.by ?_ ?_); (focus kst_all1))
  | ((with_reducible refine Br.yes ?_ ?_); (focus (first | assumption | omega)))
  | ((with_reducible refine Br.no ?_ ?_); (focus (first | assumption | omega)))
  | (with_reducible refine Br.by (fun h => ?_) fun h => ?_))
local macro_rules | `(tactic| kpc_turns) => `(tactic| simp (config := {maxSteps := 4000000}) only [↓r_divm, ↓r_min, ↓r_max, ↓r_abs, ↓r_strI, ↓r_intT, ↓aM_zf, ↓aM_ls, ↓aM_rs, ↓aM_spl, ↓r_mulX, ↓r_rev, ↓r_revR, tyS, ↓un_nx, ↓in_some, ↓in_none, ↓r_cd, ↓aM_pop, ↓aM_popAt, ↓r_tryL, ↓r_fld, ↓r_setF, ↓aSF_ref, ↓r_isO, ↓r_eqO, ↓r_eqN, ↓r_neN, ↓r_gsq, ↓aGs_eq, ↓r_gcons, ↓r_gnil, ↓r_isB, ↓r_bm1, ↓r_bm0, ↓aM_app, ↓r_callX, ↓r_raise0, ↓r_tryAs, ↓r_tryOnly, ↓r_seq, ↓r_ifS, ↓r_or, ↓r_and, ↓r_not, ↓r_next, ↓r_ret, ↓r_retN, ↓r_brk, ↓r_cnt, ↓r_drop, ↓r_asg, ↓r_test, ↓r_yes, ↓r_c, ↓r_nil, ↓r_cons, ↓r_var0, ↓r_varS, ↓r_name0, ↓r_nameS, ↓r_op, ↓r_un, ↓r_rU, ↓r_chain, ↓r_andV, ↓r_orV, ↓r_notV, ↓r_call, ↓r_cb, ↓r_tup, ↓r_lst, ↓r_sl, ↓r_noPart, ↓r_part, ↓r_gsub, ↓kB_a, ↓aB_bl, ↓kI_a, ↓aI_int, ↓OK_some, ↓Br_true, ↓Br_false, ↓Cd_true, ↓r_addI, ↓r_addS, ↓r_addUI, ↓r_addUS, ↓r_addL, ↓AlT_cc, ↓AlT_nil, ↓AlT_cnil, ↓r_addT, ↓r_sub, ↓r_mul, ↓r_div, ↓r_mod, ↓r_pow, ↓r_lt, ↓r_le, ↓r_gt, ↓r_ge, ↓r_eq, ↓r_ne, ↓r_isN, ↓r_notN, ↓r_inS, ↓r_ninS, ↓r_in, ↓r_nin, ↓r_inG, ↓r_ninG, ↓r_ixS, ↓r_ix, ↓r_set, ↓r_slS, ↓AlS_lst, ↓AlS_tup, ↓r_slR, ↓r_lenS, ↓r_lenR, ↓r_listU, ↓AlC_lst, ↓AlC_tup, ↓r_tupleU, ↓r_int, ↓r_isi, ↓r_tru, ↓r_truN, ↓r_truB, ↓r_truI, ↓r_truS, ↓r_truR, ↓aL_ref, ↓a1_int, ↓a2_int, ↓r_for1, ↓r_for2, ↓r_for, ↓r_lc, ↓r_lc1, ↓r_lc2,
  OK_some, Br_true, Br_false, Br_not, Cd_true, aB_bl, aI_int, r_rU, r_addI, r_addS, r_sub, r_mul, r_div, r_mod, r_pow, r_lt, r_le, r_gt, r_ge, r_ixS, r_ix, r_set, r_lenS, r_int, r_truN, r_truB, r_truI, r_truS, r_truR, AlT_cc, AlT_nil, AlT_cnil, AlS_lst, AlS_tup, AlC_lst, AlC_tup, a1_int, a2_int, lstO_lst, tupO_tup, seqO_eq, seqO_lst, seqO_tup, lenO_lst, lenO_tup, lenO_dK, e_tyR, tyO_t, e_ty, e_tyn, truO_lst, truO_tup, truO_dK, isa_tab, scal_tab, flat_tab, eqV_t, inV_cons, inV_nil, szl, cmul_l, cpow_l, atI_0, atI_1, atI_2, atI_3, ixN_lit, Option.some.injEq, List.length_cons, List.length_nil, List.length_append, List.length_map, Nat.zero_add, Nat.reduceAdd, natc, Int.reduceLE, Int.reduceLT, Int.reduceEq, Int.reduceSub, Int.reduceAdd, Int.reduceNeg, Int.reduceMul, Int.reducePow, Int.reduceToNat, Nat.reduceLeDiff, Nat.reduceLT, Nat.reduceEqDiff, decide_eq_true_eq, decide_eq_false_iff_not, decide_true, decide_false, Bool.not_eq_true', Bool.not_eq_false', Bool.not_true, Bool.not_false, Bool.not_not, Bool.or_eq_true, Bool.and_eq_true, Bool.or_false, Bool.false_or, Bool.or_true, Bool.true_or, Bool.and_true, Bool.true_and, Bool.and_false, Bool.false_and, Bool.and_self, List.all_cons, List.all_nil, ofs_inj, String.reduceEq, List.cons.injEq, and_true, true_and, and_self, or_true, true_or, or_false, false_or, V.ty.injEq, V.bl.injEq, V.int.injEq, V.str.injEq, V.ref.injEq, List.nil_append, List.append_nil, List.cons_append, List.getElem?_cons_zero, List.getElem?_cons_succ, List.set_cons_zero, List.set_cons_succ, exists_eq_left', exists_eq_left, exists_eq, Bool.false_eq_true, Bool.true_eq_false, reduceCtorEq, not_true_eq_false, not_false_eq_true, eq_self, List.isEmpty_cons, List.isEmpty_nil, wipe, insO_ins, insD_ins, isO_tab, isO_ref, isR_tab, snO_tab, lk_tab, putF_nil, putF_tab, isLs_lst, tyL, m1_self, cutV_1, cutV_to1, Int.zero_add, ↓r_for3u, ↓a3_int, ↓r_sgn, ↓r_forE, reduceIte])

namespace K43
open TL NumText Nm Tb
def flatB : V → Bool
  | .bl _ => true
  | .int _ => true
  | .str _ => true
  | _ => false
def Lk (H : Hp) : Nat → V → V → Prop
  | 0, _, _ => False
  | d + 1, v, w => (v = w ∧ flatB v = true) ∨ ∃ p q xs ys, v = .ref p ∧ w = .ref q ∧ xs.length = ys.length ∧ xs.length ≤ 1000000 ∧ ((H p = some (.tup xs) ∧ H q = some (.tup ys)) ∨ (H p = some (.lst xs) ∧ H q = some (.lst ys))) ∧
      ∀ (i : Nat) x y, xs[i]? = some x → ys[i]? = some y → Lk H d x y
def t__law_like_1 (K : PySem.W.Frag) (rc : Sp) : TS :=
  (tIfS (tNot (uTru (uCall rc [] E0 (tCons (tOp rIxU (uVar 0) (uVar 2)) (tCons (tOp rIxU (uVar 1) (uVar 2)) tNil))))) (tRet (tC (.bl false))) tNext)
def t__law_like (K : PySem.W.Frag) (rc : Sp) : TS :=
  (tSeq (tIfS (tTest (tOp rIsNU (uVar 1) (tC .non))) (tRet (tOp rIsNU (uVar 0) (tC .non))) tNext)
  (tSeq (tIfS (uTru (tCB (rIsi .bl) (tCons (uVar 1) (tCons (tC (.ty "bool")) tNil)))) (tRet (tAndV (tCB (rIsi .bl) (tCons (uVar 0) (tCons (tC (.ty "bool")) tNil))) (tOp rEqS (uVar 0) (uVar 1)))) tNext)
  (tSeq (tIfS (uTru (tCB (rIsi .int) (tCons (uVar 1) (tCons (tC (.ty "int")) tNil)))) (tRet (tAndV (tCB (rIsi .int) (tCons (uVar 0) (tCons (tC (.ty "int")) tNil))) (tAndV (tNotV (tCB (rIsi .bl) (tCons (uVar 0) (tCons (tC (.ty "bool")) tNil)))) (tOp rEqS (uVar 0) (uVar 1))))) tNext)
  (tSeq (tIfS (uTru (tCB (rIsi .str) (tCons (uVar 1) (tCons (tC (.ty "str")) tNil)))) (tRet (tAndV (tCB (rIsi .str) (tCons (uVar 0) (tCons (tC (.ty "str")) tNil))) (tOp rEqS (uVar 0) (uVar 1)))) tNext)
  (tSeq (tIfS (uTru (tCB (rIsi .tup) (tCons (uVar 1) (tCons (tC (.ty "tuple")) tNil)))) (tIfS (tOr (tNot (uTru (tCB (rIsi .tup) (tCons (uVar 0) (tCons (tC (.ty "tuple")) tNil))))) (tTest (tOp rNeS (tCB rLenU (tCons (uVar 0) tNil)) (tCB rLenU (tCons (uVar 1) tNil))))) (tRet (tC (.bl false))) tNext) (tIfS (tOr (tNot (uTru (tCB (rIsi .lst) (tCons (uVar 0) (tCons (tC (.ty "list")) tNil))))) (tTest (tOp rNeS (tCB rLenU (tCons (uVar 0) tNil)) (tCB rLenU (tCons (uVar 1) tNil))))) (tRet (tC (.bl false))) tNext))
  (tSeq (tFor (iRng1 (tCons (tCB rLenU (tCons (uVar 1) tNil)) tNil)) (gName 2) (t__law_like_1 K rc))
  (tRet (tC (.bl true)))))))))
def sp__law_likeN (K : PySem.W.Frag) : Nat → Sp
  | 0 => fun _ _ _ _ => False
  | d + 1 => fun vs H Q _ => ∃ v w, vs = [v, w] ∧ Lk H (d + 1) v w ∧ Q (.bl true) H
abbrev sp__law_like (K : PySem.W.Frag) : Sp := sp__law_likeN K 9
theorem len__law_like {K : PySem.W.Frag} {m : Nat} : ∀ vs H Q E, sp__law_likeN K (m + 1) vs H Q E → vs.length = 2 := fun _ _ _ _ ⟨_, _, e, _⟩ => by rw [e]; rfl
theorem loop_like {K : PySem.W.Frag} {m : Nat} {p q : Addr} {xs ys : List V} {H : Hp} {D : Ends} {y : Option V} (hl : xs.length = ys.length) (hp : seqAt H p = some xs) (hq : seqAt H q = some ys) (h : ∀ (i : Nat) x y, xs[i]? = some x → ys[i]? = some y → Lk H m x y)
    (k : ∀ y, D.nx [some (.ref p), some (.ref q), y] H) : @LoopJ (Itr 0 ys.length) [some (.ref p), some (.ref q), y] H ⟨gName 2⟩ ⟨t__law_like_1 K (sp__law_likeN K m)⟩ ⟨D⟩ := by
  refine loop_rng (fun i σ H' => H' = H ∧ ∃ y, σ = [some (.ref p), some (.ref q), y]) ⟨rfl, _, rfl⟩ (fun i σ H' hi ⟨e1, y, e2⟩ => ?_) (fun σ H' ⟨e1, y, e2⟩ => ?_)
  · subst e1 e2
    have hx := List.getElem?_eq_getElem (show i < xs.length by omega)
    have hy := List.getElem?_eq_getElem hi
    have L := h i _ _ hx hy
    show gName 2 _ _ _ _
    unfold t__law_like_1
    have ai : ∀ (zs : List V) (v : V), zs[i]? = some v → atI zs (0 + (i : Int)) = some v := fun zs v e => by
      rw [Int.zero_add]
      have : i < zs.length := (List.getElem?_eq_some_iff.mp e).1
      unfold atI ixN
      rw [if_pos (by omega), if_pos (by omega)]
      exact e
    cases m with
    | zero => exact False.elim L
    | succ m =>
      simp only [r_ifS, r_not, r_tru, r_call, r_cons, r_op, r_nil, r_name0, r_nameS, r_var0, r_varS, r_ix, hp, hq, OK_some, ai _ _ hx, ai _ _ hy]
      refine Call.by ⟨_, _, rfl, L, ?_⟩
      kfm_turns
      exact ⟨_, rfl⟩
  · subst e1 e2
    exact k y
theorem pure__law_like {K : PySem.W.Frag} {m : Nat} (vs : List V) (H : Hp) (Q : VK) (E : XK) (h : sp__law_likeN K (m + 1) vs H Q E) : t__law_like K (sp__law_likeN K m) { nx := fun _ H' => Q .non H', rt := Q } (start ["_law_actual", "_law_due", "_law_k"] vs) H := by
  obtain ⟨v, w, rfl, hL, q⟩ := h
  unfold t__law_like
  show tSeq _ _ _ [some v, some w, none] H
  rcases hL with ⟨rfl, hf⟩ | ⟨p, r, xs, ys, rfl, rfl, hl, hn, hh, hk⟩
  · cases v with
    | bl b => kfm_turns; exact q
    | int b => kfm_turns; exact q
    | str b => kfm_turns; exact q
    | _ => cases hf
  · rcases hh with ⟨h1, h2⟩ | ⟨h1, h2⟩
    · kfm_turns
      exact loop_like hl (seqAt_tup h1) (seqAt_tup h2) hk fun y => by kfm_turns; exact q
    · kfm_turns
      exact loop_like hl (seqAt_lst h1) (seqAt_lst h2) hk fun y => by kfm_turns; exact q
def t__law_line_1 (K : PySem.W.Frag) : TS :=
  (tAsg (tOp rAddS (tOp rAddS (tOp rAddS (uVar 6) (tBM K "str" rJoinU (tC (.str "")) (tCons (tLc (iRng1 (tCons (tOp rSubU (tC (.int 2)) (tCB rLenU (tCons (tCB rStrI (tCons (uVar 7) tNil)) tNil))) tNil)) (gName 8) tYes (tC (.str " ")) [8]) tNil))) (tCB rStrI (tCons (uVar 7) tNil))) (tC (.str " "))) (gName 6))
def t__law_line_2 (K : PySem.W.Frag) : TS :=
  (tSeq (tAsg (tOp rAddS (tOp rAddS (uVar 1) (tBM K "str" rJoinU (tC (.str "")) (tCons (tLc (iRng1 (tCons (tOp rSubU (tC (.int 8)) (tCB rLenU (tCons (uVar 1) tNil))) tNil)) (gName 8) tYes (tC (.str " ")) [8]) tNil))) (tC (.str " "))) (gName 6))
  (tSeq (tFor (iU K (tLst (tCons (uVar 2) (tCons (uVar 3) tNil)))) (gName 7) (t__law_line_1 K))
  (tRet (tOp rAddS (tOp rAddS (tOp rAddS (tOp rAddU (uVar 6) (tOp rIxU (tLst (tCons (tC (.str "yes")) (tCons (tC (.str "no ")) tNil))) (uCall (sp__law_draw K) [] E0 (tCons (uVar 0) (tCons (tC (.int 2)) tNil))))) (tC (.str " "))) (uVar 4)) (tC (.str "\n"))))))
def t__law_line (K : PySem.W.Frag) : TS :=
  (tSeq (tAsg (uCall (sp__law_mark K) [] E0 (tCons (uVar 0) tNil)) (gName 1))
  (tSeq (tAsg (tOp rIxU (tLst (tCons (tC (.int 0)) (tCons (tC (.int 5)) (tCons (tC (.int 9)) (tCons (tC (.int 10)) (tCons (tC (.int 48)) (tCons (tC (.int 99)) tNil))))))) (uCall (sp__law_draw K) [] E0 (tCons (uVar 0) (tCons (tC (.int 6)) tNil)))) (gName 2))
  (tSeq (tAsg (tOp rIxU (tLst (tCons (tC (.int 0)) (tCons (tC (.int 1)) (tCons (tC (.int 9)) (tCons (tC (.int 10)) (tCons (tC (.int 25)) (tCons (tC (.int 99)) tNil))))))) (uCall (sp__law_draw K) [] E0 (tCons (uVar 0) (tCons (tC (.int 6)) tNil)))) (gName 3))
  (tSeq (tAsg (tC (.str "0")) (gName 4))
  (tSeq (tIfS (tTest (tOp rGtU (uCall (sp__law_draw K) [] E0 (tCons (uVar 0) (tCons (tC (.int 4)) tNil))) (tC (.int 0)))) (tSeq (tAsg (tOp rIxU (tLst (tCons (tC (.int 0)) (tCons (tC (.int 1)) (tCons (tC (.int 5)) (tCons (tC (.int 120)) (tCons (tC (.int 4300)) (tCons (tC (.int 6000)) tNil))))))) (uCall (sp__law_draw K) [] E0 (tCons (uVar 0) (tCons (tC (.int 6)) tNil)))) (gName 5))
  (tAsg (tOp rAddS (tOp rIxU (tC (.str "123456789")) (uCall (sp__law_draw K) [] E0 (tCons (uVar 0) (tCons (tC (.int 9)) tNil)))) (tBM K "str" rJoinU (tC (.str "")) (tCons (tLc (iRng1 (tCons (uVar 5) tNil)) (gName 8) tYes (tOp rIxU (tC (.str "0123456789")) (tOp rModU (tCB rIntCall (tCons (tOp rMulI (uVar 8) (tC (.int 7))) tNil)) (tC (.int 10)))) [8]) tNil))) (gName 4))) tNext)
  (t__law_line_2 K))))))
def lineP (v : V) (_ : Hp) : Prop := ∃ z : Str, v = .str z ∧ 1 ≤ z.length ∧ z.length ≤ 6100
def sp__law_line (K : PySem.W.Frag) : Sp := spGen lineP
theorem blanks {K : PySem.W.Frag} {lo : Int} {n : Nat} {σ : L2.St} {H : Hp} {us : List Nat} {g : TG} {Q : VK} (hn : n ≤ 1000) (hg : ∀ (i : Nat) (H' : Hp) (R : VK), i < n → L2.Same H H' → R (.str (Str.ofString " ")) H' → g (.int (lo + (i : Int))) (wipe σ us) H' fun σ2 H2 => wipe σ2 us = wipe σ us ∧ tC (.str (Str.ofString " ")) σ2 H2 R)
    (q : ∀ L H', L2.Same H H' → (∃ ys : List Str, H' L = some (.lst (ys.map V.str)) ∧ (ys.map (·.length)).sum = n) → Q (.ref L) H') : @CompJ (Itr lo n) us σ H ⟨g⟩ ⟨tYes⟩ ⟨tC (.str (Str.ofString " "))⟩ ⟨Q⟩ := by
  refine comp_const (K := K) (lo := lo) (n := n) (.str (Str.ofString " ")) (by omega) (fun i H' R hi s hR => hg i H' R hi s (hR _ (L2.Same.refl _))) fun L H' hL hl s => q L H' s ⟨List.replicate n (Str.ofString " "), by rw [hl, List.map_replicate], ?_⟩
  rw [sum_len_one _ fun y hy => by rw [List.eq_of_mem_replicate hy]; decide +kernel, List.length_replicate]
theorem pure__law_line {K : PySem.W.Frag} (vs : List V) (H : Hp) (Q : VK) (E : XK) (h : sp__law_line K vs H Q E) : t__law_line K { nx := fun _ H' => Q .non H', rt := Q } (start ["_law_draws", "_law_name", "_law_wants", "_law_rise", "_law_steps", "_law_many", "_law_line_here", "_law_value", "_law_k"] vs) H := by
  obtain ⟨Dw, rfl, hd, q⟩ := h
  unfold t__law_line
  show tSeq _ _ _ [some (.ref Dw.d), none, none, none, none, none, none, none, none] H
  kfm_turns
  refine Call.by (use_gen hd fun v H1 ⟨n, en, hn⟩ d1 k1 => ?_)
  subst en
  have ln : 1 ≤ n.length ∧ n.length ≤ 8 := by
    unfold isMarkS at hn
    simp only [Bool.and_eq_true, decide_eq_true_eq] at hn
    exact hn.1
  kpt_turns
  rename_i p2 H2 n2
  refine c_draw (by kct_strs) (by decide) (by decide) fun r H3 r0 r1 d3 k3 => ?_
  kfm_turns
  rename_i j a ej ha
  have ha' : ∃ i : Nat, a = .int i ∧ i < 100 := by
    have := List.mem_of_getElem? ha
    simp only [List.mem_cons, List.not_mem_nil, or_false] at this
    rcases this with rfl | rfl | rfl | rfl | rfl | rfl <;> exact ⟨_, rfl, by decide⟩
  obtain ⟨a, rfl, la⟩ := ha'
  kpt_turns
  rename_i p4 H4 n4
  refine c_draw (by kct_strs) (by decide) (by decide) fun r H5 r0 r1 d5 k5 => ?_
  kfm_turns
  rename_i j b ej hb
  have hb' : ∃ i : Nat, b = .int i ∧ i < 100 := by
    have := List.mem_of_getElem? hb
    simp only [List.mem_cons, List.not_mem_nil, or_false] at this
    rcases this with rfl | rfl | rfl | rfl | rfl | rfl <;> exact ⟨_, rfl, by decide⟩
  obtain ⟨b, rfl, lb⟩ := hb'
  kfm_turns
  refine c_draw (by kct_strs) (by decide) (by decide) fun r H6 r2 r3 d6 k6 => ?_
  have fin : ∀ (s : Str) (y5 : Option V) (H' : Hp), DrawsOk H' Dw → Keep Dw.d H H' → 1 ≤ s.length → s.length ≤ 6010 → t__law_line_2 K { nx := fun x H' => Q V.non H', rt := Q } [some (.ref Dw.d), some (.str n), some (.int a), some (.int b), some (.str s), y5, none, none, none] H' := fun s y5 H7 d7 k7 ls1 ls2 => by
    unfold t__law_line_2
    kfm_turns
    rw [show ((8 : Int) - (n.length : Int)).toNat = 8 - n.length by omega]
    refine blanks (K := K) (by omega) (fun i H' R hi s hR => ?_) fun L H8 s8 ⟨ys, hL, hs⟩ => ?_
    · kfm_turns
      exact hR
    kfm_turns
    refine joinE.by hL (by omega) fun w0 lw0 _ => ?_
    have c1 := str_add_len n w0
    have c2 := str_add_len (n ++ w0) (Str.ofString " ")
    have e1 : (Str.ofString " ").length = 1 := by decide +kernel
    kpt_turns
    generalize n ++ w0 ++ Str.ofString " " = w2 at *
    rename_i p9 H9 n9
    have d9 : DrawsOk H9 Dw := n9.draws (d7.same s8)
    have k9 : Keep Dw.d H H9 := n9.keep (k7.trans (Keep.same' s8))
    refine loop_seq (K := K) (seqAt_lst n9.at) (fun i σ H' => (∃ (w : Str) (y5 y7 y8 : Option V), σ = [some (.ref Dw.d), some (.str n), some (.int a), some (.int b), some (.str s), y5, some (.str w), y7, y8] ∧ w.length ≤ 9 + 10 * i) ∧ L2.Same H9 H') ⟨⟨_, _, _, _, rfl, by omega⟩, L2.Same.refl _⟩ (fun i σ H' hi ⟨_, h⟩ => by rw [h _ _ n9.at, n9.at]) (fun i x σ H' hx ⟨⟨w, y5, y7, y8, e, lw⟩, s9⟩ => ?_) fun σ H' ⟨⟨w, y5, y7, y8, e, lw⟩, s9⟩ => ?_
    · subst e
      have hi : i < 2 := (List.getElem?_eq_some_iff.mp hx).1
      obtain ⟨v, rfl, hv⟩ : ∃ v : Nat, x = .int v ∧ v < 100 := by
        have := List.mem_of_getElem? hx
        simp only [List.mem_cons, List.not_mem_nil, or_false] at this
        rcases this with rfl | rfl
        · exact ⟨_, rfl, la⟩
        · exact ⟨_, rfl, lb⟩
      have lg : (v : Int).natAbs.log2 < 1920 := by
        rw [Int.natAbs_natCast]
        have : v.log2 ≤ v := Nat.log2_le_self v
        omega
      have ls : (Str.ofString (toString (v : Int))).length ≤ 2 := by
        rw [len_tl, tl_num]
        exact numL_len (by decide) hv
      show gName 7 _ _ _ _
      unfold t__law_line_1
      kfm_turns
      refine blanks (K := K) (by omega) (fun i H' R hi s hR => ?_) fun L H8 s8 ⟨ys, hL, hs⟩ => ?_
      · kfm_turns
        exact hR
      kfm_turns
      refine joinE.by hL (by omega) fun w0 lw0 _ => ?_
      have c1 := str_add_len w w0
      have c2 := str_add_len (w ++ w0) (Str.ofString (toString (v : Int)))
      have c3 := str_add_len (w ++ w0 ++ Str.ofString (toString (v : Int))) (Str.ofString " ")
      kfm_turns
      exact ⟨⟨_, _, _, _, ⟨rfl, rfl, rfl, rfl⟩, by omega⟩, s9.trans s8⟩
    · subst e
      have lw : w.length ≤ 29 := lw
      kpt_turns
      rename_i p10 H10 n10
      refine c_draw (n10.draws (d9.same s9)) (by decide) (by decide) fun r H11 r2 r3 d11 k11 => ?_
      kfm_turns
      rename_i j u ej hu
      have hu' : ∃ z : Str, u = .str z ∧ z.length = 3 := by
        have := List.mem_of_getElem? hu
        simp only [List.mem_cons, List.not_mem_nil, or_false] at this
        rcases this with rfl | rfl <;> exact ⟨_, rfl, by decide +kernel⟩
      obtain ⟨u, rfl, lu⟩ := hu'
      have e2 : (Str.ofString "\n").length = 1 := by decide +kernel
      have c3 := str_add_len w u
      have c4 := str_add_len (w ++ u) (Str.ofString " ")
      have c5 := str_add_len (w ++ u ++ Str.ofString " ") s
      have c6 := str_add_len (w ++ u ++ Str.ofString " " ++ s) (Str.ofString "\n")
      kfm_turns
      exact q _ _ ⟨_, rfl, by omega, by omega⟩ d11 ((n10.keep (k9.trans (Keep.same' s9))).trans k11)
  kfm_turns
  refine Br.by (fun h => ?_) fun h => ?_
  · kpt_turns
    rename_i p7 H7 n7
    refine c_draw (by kct_strs) (by decide) (by decide) fun r H8 r4 r5 d8 k8 => ?_
    kfm_turns
    rename_i j m ej hm
    have hm' : ∃ i : Nat, m = .int i ∧ i ≤ 6000 := by
      have := List.mem_of_getElem? hm
      simp only [List.mem_cons, List.not_mem_nil, or_false] at this
      rcases this with rfl | rfl | rfl | rfl | rfl | rfl <;> exact ⟨_, rfl, by decide⟩
    obtain ⟨m, rfl, hm⟩ := hm'
    kfm_turns
    refine c_draw (by kct_strs) (by decide) (by decide) fun r H9 r6 r7 d9 k9 => ?_
    have c9 : (Str.ofString "123456789").length = 9 := by decide +kernel
    have c9' : (Str.ofString "123456789").cps.toList.length = 9 := c9
    kfm_turns
    rename_i j c ej hc
    have c10 : (Str.ofString "0123456789").length = 10 := by decide +kernel
    have c10' : (Str.ofString "0123456789").cps.toList.length = 10 := c10
    refine comp_rng (fun L i acc H' => L2.Same H9 H' ∧ H' L = some (.lst acc) ∧ H9 L = none ∧ ∃ ys : List Str, acc = ys.map V.str ∧ ys.length = i ∧ ∀ y ∈ ys, y.length = 1) (fun L hL => ⟨same_new (L2.Same.refl _) hL, upd_same, hL, [], rfl, rfl, fun y hy => absurd hy (List.not_mem_nil)⟩) (fun L i acc H' Nx hi ⟨s, hL, hL0, ys, e1, e2, e3⟩ hN => ?_) fun L acc H' hL0 ⟨s, hL, _, ys, e1, e2, e3⟩ => ?_
    · kfm_turns
      rename_i j d ej hd
      refine ⟨acc, hL, ?_, hN (acc ++ [_]) _ ⟨fun b u e => ?_, upd_same, hL0, ys ++ [⟨#[d]⟩], by rw [e1, List.map_append]; rfl, by rw [List.length_append, e2]; rfl, fun y hy => ?_⟩⟩
      · rw [e1, List.length_map, e2]; omega
      · rw [upd_ne (ne_of_none e hL0)]
        exact s _ _ e
      · rcases List.mem_append.mp hy with hy | hy
        · exact e3 y hy
        · rw [List.mem_singleton.mp hy]; rfl
    · subst e1
      have lc : (⟨#[c]⟩ : Str).length = 1 := rfl
      have e4 := sum_len_one ys e3
      kfm_turns
      refine joinE.by hL (by omega) fun w0 lw0 _ => ?_
      kfm_turns
      have c1 := str_add_len ⟨#[c]⟩ w0
      kfm_turns
      refine fin _ _ _ (d9.same s) ?_ (by omega) (by omega)
      have k9' : Keep Dw.d H H9 := by k_memK
      exact k9'.trans (Keep.same' s)
  · kfm_turns
    exact fin _ _ _ (by kct_strs) (by k_memK) (by decide +kernel) (by decide +kernel)
end K43
end U
end

section
namespace U
open PySem PySem.Spec PyProof.Rows L2
local macro_rules | `(tactic| tb_start) => `(tactic| first
  | assumption
  | (refine Ne.symm ?_; assumption)
  | ((with_reducible apply New.ne); (focus assumption); (focus tb_rel); done)
  | (refine Ne.symm ?_; (with_reducible apply New.ne); (focus assumption); (focus tb_rel); done)
  | ((with_reducible apply neN); (focus assumption); (focus tb_rel); done)
  | (refine Ne.symm ?_; (with_reducible apply neN); (focus assumption); (focus tb_rel); done)
  | ((with_reducible apply DrawsOk.neN); (focus assumption); (focus kct_strs); done)
  | ((with_reducible apply DrawsOk.neLN); (focus assumption); (focus kct_strs); done)
  | ((with_reducible apply DrawsOk.ne'); (focus assumption); (focus kct_strs); done)
  | ((with_reducible apply DrawsOk.neL'); (focus assumption); (focus kct_strs); done)
  | ((with_reducible apply DrawsOk.other'); (focus assumption); (focus tb_rel); (focus rfl); done)
  | ((with_reducible apply DrawsOk.otherL); (focus assumption); (focus tb_rel); (focus rfl); done)
  | ((with_reducible apply ne_kd); (focus assumption); (focus tb_rel); (focus (intro h; cases h; done)); done))
local macro_rules | `(tactic| tb_rel) => `(tactic| first
  | assumption
  | exact New.at (by assumption)
  | exact Mod.at (by assumption)
  | ((with_reducible apply New.old); (focus assumption); tb_rel)
  | ((with_reducible apply Mod.lk); (focus assumption); (focus tb_rel); focus tb_start)
  | ((with_reducible apply Keep.lk); (focus assumption); (focus tb_rel); focus tb_start)
  | ((with_reducible apply Same.at); (focus assumption); tb_rel))
local macro_rules | `(tactic| kct_strs) => `(tactic| first
  | assumption
  | (refine New.draws (by assumption) ?_; kct_strs)
  | (refine DrawsOk.same ?_ (by assumption); kct_strs)
  | (refine Mod.draws (by assumption) ?_ ?_ ?_; (kct_strs); (focus tb_start); focus tb_start))
local macro_rules | `(tactic| k_updF) => `(tactic| first
  | assumption
  | exact L2.Same.refl _
  | (refine Same.new ?_ (by assumption); k_updF)
  | (refine L2.Same.trans ?_ (by assumption); k_updF)
  | (refine Same.mod ?_ (by assumption) ?_; (k_updF); lcg_sub))
local macro_rules | `(tactic| k_memK) => `(tactic| first
  | assumption
  | exact Keep.refl _ _
  | (refine Keep.new' ?_ (by assumption); k_memK)
  | (refine Keep.trans ?_ (by assumption); k_memK)
  | (refine Keep.trans ?_ (Keep.same' (by assumption)); k_memK)
  | (refine Keep.modd ?_ (by assumption); k_memK)
  | (refine Keep.mod ?_ (by assumption) ?_; (k_memK); lcg_sub))
local macro_rules | `(tactic| lcg_sub) => `(tactic| first
  | assumption
  | exact New.fr (by assumption)
  | (refine Same.none ?_ (New.fr (by assumption)); k_updF)
  | (refine Keep.fresh (D := ?_) ?_ ?_ ?_ (New.fr (by assumption)); rotate_left; (k_memK); (kct_strs); (kct_strs)))
local macro_rules | `(tactic| k_upd) => `(tactic| first
  | assumption
  | exact Kl.refl _
  | (refine Kl.trans ?_ (New.kl (by assumption)); k_upd)
  | (refine Kl.trans ?_ (Same.kl (by assumption)); k_upd)
  | (refine Kl.trans ?_ (Mod.kl (by assumption) (by tb_rel)); k_upd)
  | (refine Kl.trans ?_ (Keep.kl (by assumption) (by kct_strs)); k_upd)
  | (refine Kl.trans ?_ (by assumption); k_upd))
local macro_rules | `(tactic| kst_all1) => `(tactic| first
  | assumption | omega | (with_reducible rfl)
  | (simp only [List.length_append, List.length_map, List.length_set, List.length_take, List.length_drop, List.length_cons, List.length_nil, List.length_replicate]; omega)
  | (refine ⟨?_, ?_⟩ <;> kst_all1)
  | decide)
local macro_rules | `(tactic| k_allIn) => `(tactic| first
  | ((with_reducible apply OKl); (focus tb_rel))
  | ((with_reducible apply OKt); (focus tb_rel))
  | ((with_reducible apply OKql); (focus tb_rel))
  | ((with_reducible apply OKqt); (focus tb_rel))
  | ((with_reducible apply OKnl); (focus tb_rel))
  | ((with_reducible apply OKnt); (focus tb_rel))
  | ((with_reducible apply OKnd); (focus tb_rel))
  | ((with_reducible apply OKyl); (focus tb_rel))
  | ((with_reducible apply OKyt); (focus tb_rel))
  | ((with_reducible apply OKyd); (focus tb_rel))
  | ((with_reducible apply OKbl); (focus tb_rel))
  | ((with_reducible apply OKbt); (focus tb_rel))
  | ((with_reducible apply OKbd); (focus tb_rel))
  | ((with_reducible apply OKi); (focus tb_rel))
  | ((with_reducible apply OKj); (focus tb_rel))
  | ((with_reducible apply OKr); (focus tb_rel))
  | ((with_reducible apply OKrt); (focus tb_rel))
  | ((with_reducible apply OKrl); (focus tb_rel))
  | ((with_reducible apply OKsl); (focus tb_rel))
  | ((with_reducible apply OKst); (focus tb_rel))
  | ((with_reducible apply AlS_l); (focus tb_rel))
  | ((with_reducible apply AlS_t); (focus tb_rel))
  | ((with_reducible apply AlC_l); (focus tb_rel))
  | ((with_reducible apply AlC_t); (focus tb_rel))
  | ((with_reducible apply OKn); (focus kst_all1); intro v h)
  | ((with_reducible apply OKl1); (focus kst_all1); intro v h)
  | ((with_reducible apply OKl2); (focus kst_all1); intro v h)
  | ((with_reducible apply OKlk); (focus kst_all1); intro v h)
  | ((with_reducible apply OKln); (focus kst_all1); intro v h)
  | ((with_reducible apply OKg); (focus kst_all1); intro v h)
  | ((with_reducible apply OKxn); (focus kst_all1))
  | ((with_reducible apply OKsi); (focus kst_all1))
  | ((with_reducible apply OKsm); (focus kst_all1))
  | ((with_reducible refine OKa ?_ ?_ ?_); (focus kst_all1); (focus kst_all1); intro j v e h))
local macro_rules | `(tactic| kfm_turns) => `(tactic| repeat first
  | kpc_turns
  | k_allIn
  | l_intsW
  | ((with_reducible apply CdL); (focus tb_rel))
  | ((with_reducible refine Cd.by ?_ ?_); (focus kst_all1))
  | ((with_reducible refine Br.yes ?_ ?_); (focus (first | assumption | omega)))
  | ((with_reducible refine Br.no ?_ ?_); (focus (first | assumption | omega))))
local macro_rules | `(tactic| kpt_turns) => `(tactic| repeat first
  | kpc_turns
  | k_allIn
  | l_intsW
  | (with_reducible refine Al.by fun p H' n => ?_)
  | (with_reducible refine Md.by fun H' m => ?_)
  | ((with_reducible apply CdL); (focus tb_rel))
  | ((with_reducible refine Cd.by ?_ ?_); (focus kst_all1))
  | ((with_reducible refine Br.yes ?_ ?_); (focus (first | assumption | omega)))
  | ((with_reducible refine Br.no ?_ ?_); (focus (first | assumption | omega))))
local macro_rules | `(tactic| nest_cls) => `(tactic| repeat' first
  | kpc_turns
  | k_allIn
  | l_intsW
  | (with_reducible refine Al.by fun p H' n => ?_)
  | (with_reducible refine Md.by fun H' m => ?_)
  | ((with_reducible apply CdL); (focus tb_rel))
  | ((with_reducible refine Cd.by ?_ ?_); (focus kst_all1))
  | ((with_reducible refine Br.yes ?_ ?_); (focus (first | assumption | omega)))
  | ((with_reducible refine Br.no ?_ ?_); (focus (first | assumption | omega)))
  | (with_reducible refine Br.by (fun h => ?_) fun h => ?_))
local macro_rules | `(tactic| kpc_turns) => `(tactic| simp (config := {maxSteps := 4000000}) only [↓r_divm, ↓r_min, ↓r_max, ↓r_abs, ↓r_strI, ↓r_intT, ↓aM_zf, ↓aM_ls, ↓aM_rs, ↓aM_spl, ↓r_mulX, ↓r_rev, ↓r_revR, tyS, ↓un_nx, ↓in_some, ↓in_none, ↓r_cd, ↓aM_pop, ↓aM_popAt, ↓r_tryL, ↓r_fld, ↓r_setF, ↓aSF_ref, ↓r_isO, ↓r_eqO, ↓r_eqN, ↓r_neN, ↓r_gsq, ↓aGs_eq, ↓r_gcons, ↓r_gnil, ↓r_isB, ↓r_bm1, ↓r_bm0, ↓aM_app, ↓r_callX, ↓r_raise0, ↓r_tryAs, ↓r_tryOnly, ↓r_seq, ↓r_ifS, ↓r_or, ↓r_and, ↓r_not, ↓r_next, ↓r_ret, ↓r_retN, ↓r_brk, ↓r_cnt, ↓r_drop, ↓r_asg, ↓r_test, ↓r_yes, ↓r_c, ↓r_nil, ↓r_cons, ↓r_var0, ↓r_varS, ↓r_name0, ↓r_nameS, ↓r_op, ↓r_un, ↓r_rU, ↓r_chain, ↓r_andV, ↓r_orV, ↓r_notV, ↓r_call, ↓r_cb, ↓r_tup, ↓r_lst, ↓r_sl, ↓r_noPart, ↓r_part, ↓r_gsub, ↓kB_a, ↓aB_bl, ↓kI_a, ↓aI_int, ↓OK_some, ↓Br_true, ↓Br_false, ↓Cd_true, ↓r_addI, ↓r_addS, ↓r_addUI, ↓r_addUS, ↓r_addL, ↓AlT_cc, ↓AlT_nil, ↓AlT_cnil, ↓r_addT, ↓r_sub, ↓r_mul, ↓r_div, ↓r_mod, ↓r_pow, ↓r_lt, ↓r_le, ↓r_gt, ↓r_ge, ↓r_eq, ↓r_ne, ↓r_isN, ↓r_notN, ↓r_inS, ↓r_ninS, ↓r_in, ↓r_nin, ↓r_inG, ↓r_ninG, ↓r_ixS, ↓r_ix, ↓r_set, ↓r_slS, ↓AlS_lst, ↓AlS_tup, ↓r_slR, ↓r_lenS, ↓r_lenR, ↓r_listU, ↓AlC_lst, ↓AlC_tup, ↓r_tupleU, ↓r_int, ↓r_isi, ↓r_tru, ↓r_truN, ↓r_truB, ↓r_truI, ↓r_truS, ↓r_truR, ↓aL_ref, ↓a1_int, ↓a2_int, ↓r_for1, ↓r_for2, ↓r_for, ↓r_lc, ↓r_lc1, ↓r_lc2,
  OK_some, Br_true, Br_false, Br_not, Cd_true, aB_bl, aI_int, r_rU, r_addI, r_addS, r_sub, r_mul, r_div, r_mod, r_pow, r_lt, r_le, r_gt, r_ge, r_ixS, r_ix, r_set, r_lenS, r_int, r_truN, r_truB, r_truI, r_truS, r_truR, AlT_cc, AlT_nil, AlT_cnil, AlS_lst, AlS_tup, AlC_lst, AlC_tup, a1_int, a2_int, lstO_lst, tupO_tup, seqO_eq, seqO_lst, seqO_tup, lenO_lst, lenO_tup, lenO_dK, e_tyR, tyO_t, e_ty, e_tyn, truO_lst, truO_tup, truO_dK, isa_tab, scal_tab, flat_tab, eqV_t, inV_cons, inV_nil, szl, cmul_l, cpow_l, atI_0, atI_1, atI_2, atI_3, ixN_lit, Option.some.injEq, List.length_cons, List.length_nil, List.length_append, List.length_map, Nat.zero_add, Nat.reduceAdd, natc, Int.reduceLE, Int.reduceLT, Int.reduceEq, Int.reduceSub, Int.reduceAdd, Int.reduceNeg, Int.reduceMul, Int.reducePow, Int.reduceToNat, Nat.reduceLeDiff, Nat.reduceLT, Nat.reduceEqDiff, decide_eq_true_eq, decide_eq_false_iff_not, decide_true, decide_false, Bool.not_eq_true', Bool.not_eq_false', Bool.not_true, Bool.not_false, Bool.not_not, Bool.or_eq_true, Bool.and_eq_true, Bool.or_false, Bool.false_or, Bool.or_true, Bool.true_or, Bool.and_true, Bool.true_and, Bool.and_false, Bool.false_and, Bool.and_self, List.all_cons, List.all_nil, ofs_inj, String.reduceEq, List.cons.injEq, and_true, true_and, and_self, or_true, true_or, or_false, false_or, V.ty.injEq, V.bl.injEq, V.int.injEq, V.str.injEq, V.ref.injEq, List.nil_append, List.append_nil, List.cons_append, List.getElem?_cons_zero, List.getElem?_cons_succ, List.set_cons_zero, List.set_cons_succ, exists_eq_left', exists_eq_left, exists_eq, Bool.false_eq_true, Bool.true_eq_false, reduceCtorEq, not_true_eq_false, not_false_eq_true, eq_self, List.isEmpty_cons, List.isEmpty_nil, wipe, insO_ins, insD_ins, isO_tab, isO_ref, isR_tab, snO_tab, lk_tab, putF_nil, putF_tab, isLs_lst, tyL, m1_self, cutV_1, cutV_to1, Int.zero_add, ↓r_for3u, ↓a3_int, ↓r_sgn, ↓r_forE, ↓r_min, reduceIte])

namespace K43
open TL NumText Nm Tb
def t_law_1 (K : PySem.W.Frag) (a_BadRow : Addr) (a_ReelError : Addr) : TS :=
  (tSeq (tAsg (tC (.int 0)) (gName 11))
  (tSeq (tAsg (tC .non) (gName 12))
  (tSeq (uTryAs K (.ref a_BadRow) 13 (fun W => (tAsg (uCallX (sp_read_table K) W (tCons (uVar 3) tNil)) (gName 12))) (fun a cls d => (tAsg (tLst (tCons (uXf K a cls d "line" 13) (tCons (tCB (rIsF K a cls d (.ref a_ReelError) (.ref a_ReelError)) (tCons (uVar 13) (tCons (tC (.ref a_ReelError)) tNil))) tNil))) (gName 11))) w0)
  (tSeq (tIfS (tTest (tOp rGtU (uVar 8) (tC (.int 0)))) (tRet (tOp (rEqD K) (uVar 11) (tLst (tCons (uVar 8) (tCons (tC (.bl true)) tNil))))) tNext)
  (tRet (tAndV (tOp rEqS (uVar 11) (tC (.int 0))) (uCall (sp__law_like K) [] E0 (tCons (uVar 12) (tCons (tSl rSlU (uVar 9) tNoPart (uPart (tUn (rU fun i => .int (-i)) (tC (.int 1))))) tNil)))))))))
def t_law_2 (K : PySem.W.Frag) : TS :=
  (tSeq (tAsg (uCall (sp__law_row K) [] E0 (tCons (tOp rIxU (uVar 7) (uVar 2)) tNil)) (gName 10))
  (tSeq (tIfS (tAnd (tTest (tOp rEqS (uVar 8) (tC (.int 0)))) (tAnd (tOr (tTest (tOp rIsNU (uVar 10) (tC .non))) (tTest (tOp rEqS (uVar 2) (tOp rSubU (tCB rLenU (tCons (uVar 7) tNil)) (tC (.int 1)))))) (tNot (tAnd (tTest (tOp rEqS (uVar 2) (tOp rSubU (tCB rLenU (tCons (uVar 7) tNil)) (tC (.int 1))))) (tTest (tOp rEqS (tOp rIxU (uVar 7) (uVar 2)) (tC (.str "")))))))) (tAsg (tOp rAddI (uVar 2) (tC (.int 1))) (gName 8)) tNext)
  (tDrop (tBM K "list" rAppend (uVar 9) (tCons (uVar 10) tNil)))))
def t_law_3 (K : PySem.W.Frag) (a_BadRow : Addr) (a_ReelError : Addr) : TS :=
  (tSeq (tAsg (tBM K "str" rSpl (uVar 3) (tCons (tC (.str "\n")) tNil)) (gName 7))
  (tSeq (tAsg (tC (.int 0)) (gName 8))
  (tSeq (tAsg (tLst tNil) (gName 9))
  (tSeq (tFor (iRng1 (tCons (tCB rLenU (tCons (uVar 7) tNil)) tNil)) (gName 2) (t_law_2 K))
  (t_law_1 K a_BadRow a_ReelError)))))
def t_law_4 (K : PySem.W.Frag) : TS :=
  (tSeq (tAsg (uCall (sp__law_draw K) [] E0 (tCons (uVar 1) (tCons (tCB rMinU (tCons (tCB rLenU (tCons (uVar 3) tNil)) (tCons (tC (.int 300)) tNil))) tNil))) (gName 4))
  (tSeq (tAsg (tOp rIxU (tLst (tCons (tC (.str " ")) (tCons (tC (.str "0")) (tCons (tC (.str "a")) (tCons (tC (.str "-")) (tCons (tC (.str "\n")) (tCons (tC (.str "yes")) (tCons (tC (.str "no")) (tCons (tC (.str "A")) (tCons (tC (.str "+")) (tCons (tC (.str "7")) tNil))))))))))) (uCall (sp__law_draw K) [] E0 (tCons (uVar 1) (tCons (tC (.int 10)) tNil)))) (gName 5))
  (tSeq (tAsg (uCall (sp__law_draw K) [] E0 (tCons (uVar 1) (tCons (tC (.int 5)) tNil))) (gName 6))
  (tSeq (tIfS (tTest (tOp rEqS (uVar 6) (tC (.int 0)))) (tAsg (tOp rAddU (tOp rAddU (tSl rSlU (uVar 3) tNoPart (uPart (uVar 4))) (uVar 5)) (tSl rSlU (uVar 3) (uPart (uVar 4)) tNoPart)) (gName 3)) tNext)
  (tSeq (tIfS (tTest (tOp rEqS (uVar 6) (tC (.int 1)))) (tAsg (tOp rAddU (tOp rAddU (tSl rSlU (uVar 3) tNoPart (uPart (uVar 4))) (uVar 5)) (tSl rSlU (uVar 3) (uPart (tOp rAddI (uVar 4) (tC (.int 1)))) tNoPart)) (gName 3)) tNext)
  (tSeq (tIfS (tTest (tOp rEqS (uVar 6) (tC (.int 2)))) (tAsg (tOp rAddU (tSl rSlU (uVar 3) tNoPart (uPart (uVar 4))) (tSl rSlU (uVar 3) (uPart (tOp rAddI (uVar 4) (tC (.int 1)))) tNoPart)) (gName 3)) tNext)
  (tSeq (tIfS (tTest (tOp rEqS (uVar 6) (tC (.int 3)))) (tAsg (tSl rSlU (uVar 3) tNoPart (uPart (tUn (rU fun i => .int (-i)) (tC (.int 1))))) (gName 3)) tNext)
  (tSeq (tIfS (tTest (tOp rEqS (uVar 6) (tC (.int 4)))) (tAsg (tOp rAddU (uVar 3) (uVar 5)) (gName 3)) tNext)
  (tIfS (tTest (tOp rEqS (tCB rLenU (tCons (uVar 3) tNil)) (tC (.int 0)))) (tAsg (tC (.str "\n")) (gName 3)) tNext)))))))))
def t_law (K : PySem.W.Frag) (a_BadRow : Addr) (a_ReelError : Addr) : TS :=
  (tSeq (tAsg (uCall (sp__law_begin K) [] E0 (tCons (uVar 0) tNil)) (gName 1))
  (tSeq (tAsg (tBM K "str" rJoinU (tC (.str "")) (tCons (tLc (iRng1 (tCons (tOp rAddI (tC (.int 1)) (uCall (sp__law_draw K) [] E0 (tCons (uVar 1) (tCons (tC (.int 5)) tNil)))) tNil)) (gName 2) tYes (uCall (sp__law_line K) [] E0 (tCons (uVar 1) tNil)) [2]) tNil)) (gName 3))
  (tSeq (tFor (iRng1 (tCons (uCall (sp__law_draw K) [] E0 (tCons (uVar 1) (tCons (tC (.int 3)) tNil))) tNil)) (gName 2) (t_law_4 K))
  (t_law_3 K a_BadRow a_ReelError))))
abbrev eA (K : PySem.W.Frag) (x : String) : Addr := He.ga K (Str.ofString x)
def Fl (K : PySem.W.Frag) : Prop := PySem.W.exmOne K (.ref (eA K "BadRow")) (.ref (eA K "BadRow")) = some true ∧ ExcC K (eA K "BadRow") ∧ XfOk K (eA K "BadRow") "line" ∧ PySem.W.kitOne K (.ref (eA K "BadRow")) (.ref (eA K "ReelError")) = some true
def FlB (K : PySem.W.Frag) : Bool := Hd.exmB K (eA K "BadRow") (eA K "BadRow") true && (Hd.excCB K (eA K "BadRow") && (Hd.xfoB K (eA K "BadRow") "line" && Hd.kitB K (eA K "BadRow") (eA K "ReelError") true))
theorem FlB_ok {K : PySem.W.Frag} (h : FlB K = true) : Fl K := by
  obtain ⟨h1, h⟩ := He.ba h
  obtain ⟨h2, h⟩ := He.ba h
  obtain ⟨h3, h4⟩ := He.ba h
  exact ⟨Hd.exmB_ok h1, Hd.excCB_ok h2, Hd.xfoB_ok h3, Hd.kitB_ok h4⟩
def sp_law (K : PySem.W.Frag) : Sp := fun vs H Q _ => ∃ (a : Addr) (ns : List Int), vs = [.ref a] ∧ SqL K H a (ns.map V.int) ∧ ∀ H', Q (.bl true) H'
theorem len_law {K : PySem.W.Frag} : ∀ vs H Q E, sp_law K vs H Q E → vs.length = 1 := fun _ _ _ _ ⟨_, _, e, _⟩ => by rw [e]; rfl
theorem c_eqTwo {K : PySem.W.Frag} {H : Hp} {t t2 : Addr} {a b : Int} {Q : VK} (h : H t = some (.lst [.int a, .bl true])) (h2 : H t2 = some (.lst [.int b, .bl true])) (e : a = b) (q : Q (.bl true) H) : @aR (rEqD K) (.ref t) (.ref t2) H ⟨Q⟩ := by
  subst e
  have dp : ∀ t, H t = some (.lst [.int a, .bl true]) → Dp K H (.ref t) (.list [.int a, .bool true]) := fun t h => .lst (.inl (.inl h)) (.cons (.int _) (.cons (.bl _) .nil))
  refine ⟨_, _, dp t h, dp t2 h2, ?_, ?_, ?_⟩
  · rfl
  · rfl
  · have e : PyData.eqv (.list [.int a, .bool true]) (.list [.int a, .bool true]) = true := by simp [PyData.eqv, PyData.eqvAll]
    rw [e]
    exact q
theorem cut_m1 {xs : List V} : cutV xs none (some (-1)) = xs.dropLast := by
  unfold cutV
  rw [HT.sIx_none, List.drop_zero, Nat.sub_zero, List.dropLast_eq_take]
  congr 1
  show (if (-1 : Int) < 0 then ((-1 : Int) + (xs.length : Int)).toNat else min (-1 : Int).toNat xs.length) = _
  rw [if_pos (by decide)]
  omega
theorem lk_rows {H : Hp} {p q : Addr} {ls : List Str} {vs acc : List V} (hp : H p = some (.lst vs)) (hq : H q = some (.lst acc.dropLast)) (hr : RowsAt H ls.dropLast vs) (la : acc.length = ls.length) (hn : ls.length ≤ 1000000)
    (ha : ∀ (i : Nat) w v, ls.dropLast[i]? = some w → acc[i]? = some v → ∃ p, v = .ref p ∧ H p = some (.tup (rowL w))) : Lk H 9 (.ref p) (.ref q) := by
  refine .inr ⟨p, q, _, _, rfl, rfl, by rw [hr.1, List.length_dropLast, List.length_dropLast, la], by rw [hr.1, List.length_dropLast]; omega, .inr ⟨hp, hq⟩, fun i x y hx hy => ?_⟩
  have hi : i < ls.dropLast.length := by rw [← hr.1]; exact (List.getElem?_eq_some_iff.mp hx).1
  obtain ⟨w, hw⟩ : ∃ w, ls.dropLast[i]? = some w := ⟨_, List.getElem?_eq_getElem hi⟩
  obtain ⟨p1, h1, h2⟩ := hr.2 i w hw
  rw [hx] at h1
  cases h1
  have hy' : acc[i]? = some y := by
    rw [List.getElem?_dropLast] at hy
    split at hy
    · exact hy
    · cases hy
  obtain ⟨p2, rfl, h3⟩ := ha i w y hw hy'
  refine .inr ⟨p1, p2, _, _, rfl, rfl, rfl, by show 5 ≤ 1000000; decide, .inl ⟨h2, h3⟩, fun j x y hx hy => ?_⟩
  rw [hx] at hy
  cases hy
  refine .inl ⟨rfl, ?_⟩
  have := List.mem_of_getElem? hx
  unfold rowL at this
  simp only [List.mem_cons, List.not_mem_nil, or_false] at this
  rcases this with rfl | rfl | rfl | rfl | rfl <;> rfl
def DueAt (ls : List Str) (i : Nat) (due : Nat) : Prop := (due = 0 ∧ ∀ j, j < i → ¬ badL isMarkS ls j) ∨ (∃ k, k < i ∧ due = k + 1 ∧ badL isMarkS ls k ∧ ∀ j, j < k → ¬ badL isMarkS ls j)
def RowV (H : Hp) (z : Str) (v : V) : Prop := (¬ Good isMarkS z ∧ v = .non) ∨ (Good isMarkS z ∧ ∃ p, v = .ref p ∧ H p = some (.tup (rowL z)))
theorem RowV.kl {H H' : Hp} {z : Str} {v : V} (h : RowV H z v) (k : Kl H H') : RowV H' z v := h.imp id fun ⟨g, p, e, h⟩ => ⟨g, p, e, k.at h rfl⟩
theorem tail1 {K : PySem.W.Frag} (fl : Fl K) {z : Str} {due : Nat} {p9 : Addr} {acc : List V} {H : Hp} {Q : VK} {v0 v1 v2 v4 v5 v6 v7 v10 : Option V} (hz : z.length ≤ 100000) (hd : DueAt (Tb.linesOf z) (Tb.linesOf z).length due) (h9 : H p9 = some (.lst acc)) (la : acc.length = (Tb.linesOf z).length)
    (ha : ∀ (i : Nat) w v, (Tb.linesOf z)[i]? = some w → acc[i]? = some v → RowV H w v) (q : ∀ H', Q (.bl true) H') :
    t_law_1 K (eA K "BadRow") (eA K "ReelError") { nx := fun _ H' => Q .non H', rt := Q } [v0, v1, v2, some (.str z), v4, v5, v6, v7, some (.int due), some (.ref p9), v10, none, none, none] H := by
  obtain ⟨f1, f2, f3, f4⟩ := fl
  unfold t_law_1
  kfm_turns
  refine Call.by ⟨z, rfl, hz, fun k hb hn d H' hd0 ed s => ?_, fun hn p vs H' hp hr s => ?_⟩
  · have : due = k + 1 := by
      rcases hd with ⟨_, h⟩ | ⟨k', h1, h2, h3, h4⟩
      · refine absurd hb (h k ?_)
        obtain ⟨w, hw, _⟩ := hb
        exact (List.getElem?_eq_some_iff.mp hw).1
        done
      · rcases Nat.lt_trichotomy k k' with h | h | h
        · exact absurd hb (h4 k h)
        · rw [h2, h]
        · exact absurd h3 (hn k' h)
    subst this
    refine as_yes f1 fun e he => ?_
    kfm_turns
    refine Xf.fst f3 ed rfl ?_
    kfm_turns
    refine r_isF f2 (.inr ⟨_, _, rfl, ed⟩) f4 ?_
    kpt_turns
    refine c_eqTwo (by tb_rel) (by tb_rel) (by omega) ?_
    kfm_turns
    exact q _
  · have : due = 0 := by
      rcases hd with ⟨h, _⟩ | ⟨k', h1, h2, h3, h4⟩
      · exact h
      · exact absurd h3 (hn k')
    subst this
    kpt_turns
    rename_i p5 H5 n5
    rw [cut_m1] at n5
    have hg : ∀ i w, (Tb.linesOf z).dropLast[i]? = some w → Good isMarkS w := fun i w hw => by
      rw [List.getElem?_dropLast] at hw
      split at hw
      · refine Classical.byContradiction fun g => hn i ⟨w, hw, fun h => by omega, .inr g⟩
      · cases hw
    refine Call.by ⟨_, _, rfl, lk_rows (n5.old hp) n5.at ⟨hr.1, fun i w hw => ?_⟩ la ?_ fun i w v hw hv => ?_, ?_⟩
    · obtain ⟨p1, h1, h2⟩ := hr.2 i w hw
      exact ⟨p1, h1, n5.old h2⟩
    · have := split_many z
      have e : Tb.linesOf z = Txt.split z (Str.ofString "\n") := rfl
      rw [e]
      omega
    · have hw' := hw
      rw [List.getElem?_dropLast] at hw'
      split at hw'
      · rcases ha i w v hw' hv with ⟨g, _⟩ | ⟨_, p1, h1, h2⟩
        · exact absurd (hg i w hw) g
        · exact ⟨p1, h1, n5.old (s _ _ h2)⟩
      · cases hw'
    kfm_turns
    exact q _
theorem tail2 {K : PySem.W.Frag} (fl : Fl K) {z : Str} {H : Hp} {Q : VK} {v0 v1 v2 v4 v5 v6 : Option V} (hz : z.length ≤ 100000) (q : ∀ H', Q (.bl true) H') :
    t_law_3 K (eA K "BadRow") (eA K "ReelError") { nx := fun _ H' => Q .non H', rt := Q } [v0, v1, v2, some (.str z), v4, v5, v6, none, none, none, none, none, none, none] H := by
  have hz2 : z.length ≤ 16777216 := by omega
  have n1 := split_many z
  have e1 : Tb.linesOf z = Txt.split z (Str.ofString "\n") := rfl
  have n2 : (Str.ofString "\n").length = 1 := by decide +kernel
  unfold t_law_3
  kpt_turns
  rename_i p1 H1 m1 p2 H2 m2
  rw [← e1] at m1
  rw [← e1]
  obtain ⟨ls, hls⟩ : ∃ ls, ls = Tb.linesOf z := ⟨_, rfl⟩
  have hle : ∀ p, p ∈ ls → p.length ≤ z.length := fun p hp => split_le (by rw [← e1, ← hls]; exact hp)
  have hn : ls.length ≤ 1000000 := by rw [hls, e1]; omega
  rw [← hls] at m1 ⊢
  have m1' := m2.old m1.at
  refine loop_rng (fun i σ H' => (∃ (y2 y10 : Option V) (acc : List V) (due : Nat), σ = [v0, v1, y2, some (.str z), v4, v5, v6, some (.ref p1), some (.int due), some (.ref p2), y10, none, none, none] ∧ DueAt ls i due ∧ H' p2 = some (.lst acc) ∧ acc.length = i ∧ ∀ (j : Nat) w v, ls[j]? = some w → acc[j]? = some v → RowV H' w v) ∧ H' p1 = some (.lst (ls.map V.str)))
    ⟨⟨_, _, _, 0, rfl, .inl ⟨rfl, fun j h => absurd h (by omega)⟩, m2.at, rfl, fun j w v _ h => by cases h⟩, m1'⟩ (fun i σ H' hi ⟨⟨y2, y10, acc, due, e, hd, h2, la, ha⟩, h1⟩ => ?_) fun σ H' ⟨⟨y2, y10, acc, due, e, hd, h2, la, ha⟩, h1⟩ => ?_
  · subst e
    obtain ⟨w, hw⟩ : ∃ w, ls[i]? = some w := ⟨_, List.getElem?_eq_getElem hi⟩
    have hw' : (ls.map V.str)[i]? = some (.str w) := by rw [List.getElem?_map, hw]; rfl
    have lw := hle w (List.mem_of_getElem? hw)
    have nd : p1 ≠ p2 := fun e => by rw [e] at m1; have := m1.at; rw [m2.fr] at this; cases this
    show gName 2 _ _ _ _
    unfold t_law_2
    rw [Int.zero_add]
    kfm_turns
    rename_i v hv
    obtain rfl := Option.some.inj (hv.symm.trans hw')
    clear hv
    refine Call.by ⟨w, rfl, by omega, fun v H3 s hv0 hv1 => ?_⟩
    have h1' := s _ _ h1
    have h2' := s _ _ h2
    have hr : RowV H3 w v := by
      by_cases g : Good isMarkS w
      · exact .inr ⟨g, hv1 g⟩
      · exact .inl ⟨g, hv0 g⟩
    have gn : v = .non ↔ ¬ Good isMarkS w := by
      rcases hr with ⟨g, h⟩ | ⟨g, p, h, _⟩
      · exact ⟨fun _ => g, fun _ => h⟩
      · exact ⟨fun e => (by rw [h] at e; cases e), fun n => absurd g n⟩
    have inv : ∀ (due' : Nat) (x : Int) H4, x = due' → DueAt ls (i + 1) due' → Mod H3 p2 (.lst (acc ++ [v])) H4 → (∃ (y2 y10 : Option V) (acc : List V) (due : Nat), (some (V.int (i : Int)) = y2 ∧ x = due ∧ some v = y10) ∧ DueAt ls (i + 1) due ∧ H4 p2 = some (.lst acc) ∧ acc.length = i + 1 ∧ ∀ (j : Nat) w v, ls[j]? = some w → acc[j]? = some v → RowV H4 w v) ∧ H4 p1 = some (.lst (ls.map V.str)) := fun due' x H4 ex hd' m4 => by
      have k4 : Kl H3 H4 := Mod.kl m4 h2'
      refine ⟨⟨_, _, _, due', ⟨rfl, ex, rfl⟩, hd', m4.at, by rw [List.length_append, la]; rfl, fun j w' v' hjw hv' => ?_⟩, m4.old nd h1'⟩
      rcases Nat.lt_or_ge j i with hj | hj
      · rw [List.getElem?_append_left (by omega)] at hv'
        exact ((ha j w' v' hjw hv').kl (Same.kl s)).kl k4
      · have hj2 : j < i + 1 := by
          have := (List.getElem?_eq_some_iff.mp hv').1
          rw [List.length_append, la] at this
          exact this
        obtain rfl : j = i := by omega
        rw [hw] at hjw
        cases hjw
        rw [List.getElem?_append_right (by omega), la, Nat.sub_self] at hv'
        cases hv'
        exact hr.kl k4
    have bad_i : badL isMarkS ls i ↔ ¬ (i = ls.length - 1 ∧ w = Str.ofString "") ∧ (i = ls.length - 1 ∨ v = .non) := by
      rw [gn, empt]
      exact ⟨fun ⟨u, e, b⟩ => by rw [hw] at e; cases e; exact b, fun b => ⟨w, hw, b⟩⟩
    have due0 : due = 0 → ∀ j, j < i → ¬ badL isMarkS ls j := fun e => by
      rcases hd with ⟨_, h⟩ | ⟨k, _, h, _⟩
      · exact h
      · omega
    have no : due = 0 → ¬ badL isMarkS ls i → DueAt ls (i + 1) due := fun e b => .inl ⟨e, fun j hj => by
      rcases Nat.lt_or_eq_of_le (Nat.le_of_lt_succ hj) with h1 | h1
      · exact due0 e j h1
      · rw [h1]; exact b⟩
    have yes : due = 0 → badL isMarkS ls i → DueAt ls (i + 1) (i + 1) := fun e b => .inr ⟨i, by omega, rfl, b, due0 e⟩
    have old : due ≠ 0 → DueAt ls (i + 1) due := fun e => by
      rcases hd with ⟨h, _⟩ | ⟨k, h1, h2, h3⟩
      · exact absurd h e
      · exact .inr ⟨k, by omega, h2, h3⟩
    nest_cls
    · rename_i d0 vn il v2 hv
      obtain rfl := Option.some.inj (hv.symm.trans hw')
      clear hv
      nest_cls
      · rename_i w0 H4 m4
        exact inv _ _ _ rfl (no (by omega) fun b => (bad_i.mp b).1 ⟨by omega, w0⟩) m4
      · rename_i w0 H4 m4
        exact inv (i + 1) _ _ (by omega) (yes (by omega) (bad_i.mpr ⟨fun h => w0 h.2, .inr vn⟩)) m4
    · rename_i d0 vn il H4 m4
      exact inv (i + 1) _ _ (by omega) (yes (by omega) (bad_i.mpr ⟨fun h => by omega, .inr vn⟩)) m4
    · rename_i d0 vn il v2 hv
      obtain rfl := Option.some.inj (hv.symm.trans hw')
      clear hv
      nest_cls
      · rename_i w0 H4 m4
        exact inv _ _ _ rfl (no (by omega) fun b => (bad_i.mp b).1 ⟨by omega, w0⟩) m4
      · rename_i w0 H4 m4
        exact inv (i + 1) _ _ (by omega) (yes (by omega) (bad_i.mpr ⟨fun h => w0 h.2, .inl (by omega)⟩)) m4
    · rename_i d0 vn il H4 m4
      exact inv _ _ _ rfl (no (by omega) fun b => (bad_i.mp b).2.elim (fun h => by omega) vn) m4
    · rename_i d0 H4 m4
      exact inv _ _ _ rfl (old (by omega)) m4
  · subst e
    kfm_turns
    rw [hls] at *
    exact tail1 fl hz hd h2 la ha q
theorem pure_law {K : PySem.W.Frag} (fl : Fl K) (vs : List V) (H : Hp) (Q : VK) (E : XK) (h : sp_law K vs H Q E) : t_law K (He.ga K "BadRow") (He.ga K "ReelError") { nx := fun _ H' => Q .non H', rt := Q } (start ["_law_script", "_law_draws", "_law_k", "_law_text", "_law_at", "_law_sign", "_law_way", "_law_lines", "_law_due", "_law_rows", "_law_row_here", "_law_told", "_law_answer", "e"] vs) H := by
  obtain ⟨a, ns, rfl, hs, q⟩ := h
  unfold t_law
  show tSeq _ _ _ [some (.ref a), none, none, none, none, none, none, none, none, none, none, none, none, none] H
  kfm_turns
  refine Call.by ⟨a, ns, rfl, hs, fun Dw H1 _ d1 _ => ?_⟩
  kfm_turns
  refine c_draw d1 (by decide) (by decide) fun r H3 r0 r1 d3 k3 => ?_
  kfm_turns
  refine comp_drawn (D := Dw) lineP (fun v H1 H2 _ h => h) d3 (by omega) (fun i H' R hi d4 k4 hR => ?_) fun L acc H4 hL h4 la hP d4 k4 => ?_
  · kfm_turns
    exact Call.by (use_gen d4 fun v H5 hv d5 k5 => hR v H5 hv d5 k5)
  obtain ⟨ys, rfl, hy⟩ : ∃ ys : List Str, acc = ys.map V.str ∧ ∀ y ∈ ys, 1 ≤ y.length ∧ y.length ≤ 6100 := by
    clear h4 la
    induction acc with
    | nil => exact ⟨[], rfl, fun y hy => absurd hy List.not_mem_nil⟩
    | cons v acc ih =>
      obtain ⟨z, rfl, h1, h2⟩ := hP v (List.mem_cons_self ..)
      obtain ⟨ys, e, h⟩ := ih fun y hy => hP y (List.mem_cons_of_mem _ hy)
      refine ⟨z :: ys, by rw [e]; rfl, fun y hy => ?_⟩
      rcases List.mem_cons.mp hy with rfl | hy
      · exact ⟨h1, h2⟩
      · exact h y hy
  rw [List.length_map] at la
  have s1 := sum_len_le ys fun y h => (hy y h).2
  have s2 : 1 ≤ (ys.map (·.length)).sum := by
    cases ys with
    | nil => simp at la; omega
    | cons y ys =>
      have := (hy y (List.mem_cons_self ..)).1
      rw [List.map_cons, List.sum_cons]
      omega
  have s3 : ys.length * 6100 ≤ 5 * 6100 := Nat.mul_le_mul_right _ (by omega)
  kfm_turns
  refine joinE.by h4 (by omega) fun z0 lz0 _ => ?_
  kfm_turns
  refine c_draw d4 (by decide) (by decide) fun r H5 r2 r3 d5 k5 => ?_
  kfm_turns
  refine loop_rng (fun i σ H' => ∃ (y2 y4 y5 y6 : Option V) (z : Str), σ = [some (.ref a), some (.ref Dw.d), y2, some (.str z), y4, y5, y6, none, none, none, none, none, none, none] ∧ DrawsOk H' Dw ∧ 1 ≤ z.length ∧ z.length ≤ 30500 + 3 * i) ⟨_, _, _, _, z0, rfl, d5, by omega, by omega⟩ (fun i σ H7 hi ⟨y2, y4, y5, y6, z, e, d7, hz1, hz⟩ => ?_) (fun σ H7 ⟨y2, y4, y5, y6, z, e, d7, hz1, hz⟩ => ?_)
  · subst e
    show gName 2 _ _ _ _
    unfold t_law_4
    kfm_turns
    have mn : (if (300 : Int) < (z.length : Int) then (300 : Int) else (z.length : Int)) ≤ 300 ∧ 0 < (if (300 : Int) < (z.length : Int) then (300 : Int) else (z.length : Int)) := by
      split <;> omega
    refine c_draw d7 (by omega) (by omega) fun r H8 r2 r3 d8 k8 => ?_
    kpt_turns
    rename_i p9 H9 n9
    refine c_draw (by kct_strs) (by decide) (by decide) fun r4 H10 r5 r6 d10 k10 => ?_
    kfm_turns
    rename_i j2 v ej2 hj2
    have hv : ∃ x : Str, v = .str x ∧ x.length ≤ 3 := by
      have := List.mem_of_getElem? hj2
      simp only [List.mem_cons, List.not_mem_nil, or_false] at this
      rcases this with rfl | rfl | rfl | rfl | rfl | rfl | rfl | rfl | rfl | rfl <;> exact ⟨_, rfl, by decide +kernel⟩
    obtain ⟨x, rfl, hx⟩ := hv
    clear hj2 ej2
    kfm_turns
    refine c_draw (by kct_strs) (by decide) (by decide) fun r5 H11 r7 r8 d11 k11 => ?_
    obtain ⟨m, rfl⟩ := Int.eq_ofNat_of_zero_le r2
    have hm : m < z.length := by split at r3 <;> omega
    clear mn r3 r2
    have c1 : (cutS z none (some (m : Int))).length = m := by rw [len_tl, cutTo (by omega), List.length_take, ← len_tl]; omega
    have c2 : (cutS z (some (m : Int)) none).length = z.length - m := by rw [len_tl, cutFrom (by omega), List.length_drop, ← len_tl]
    have c3 : (cutS z (some ((m : Int) + 1)) none).length = z.length - (m + 1) := by rw [show (m : Int) + 1 = ((m + 1 : Nat) : Int) by omega, len_tl, cutFrom (by omega), List.length_drop, ← len_tl]
    have c4 := cutS_length z none (some (-1))
    have a1 := str_add_len (cutS z none (some (m : Int))) x
    have a2 := str_add_len (cutS z none (some (m : Int)) ++ x) (cutS z (some (m : Int)) none)
    have a3 := str_add_len (cutS z none (some (m : Int)) ++ x) (cutS z (some ((m : Int) + 1)) none)
    have a4 := str_add_len (cutS z none (some (m : Int))) (cutS z (some ((m : Int) + 1)) none)
    have a5 := str_add_len z x
    have e1 : (Str.ofString "\n").length = 1 := by decide +kernel
    nest_cls <;> exact ⟨_, _, _, _, _, ⟨rfl, rfl, rfl, rfl, rfl⟩, d11, by omega, by omega⟩
  · subst e
    exact tail2 fl (by omega) q
end K43
end U
end

section
namespace U
open PySem PySem.Spec PyProof.Rows L2
namespace K43
open Hd Nm Tb
def top (i : Nat) : Stmt := PySem.Challenge.pw_reelcode_k43_tables_refused.main.body.getD i (.Pass ⟨0, 0, 0, 0⟩)
abbrev s_small_of : Stmt := top 17
abbrev N_small_of : List Str := ["text", "digits", "digit"]
theorem sc_small_of : FnScope N_small_of ["text"] (defScope s_small_of) := ⟨rfl, rfl, rfl, by decide +kernel, rfl, by decide +kernel, by decide +kernel⟩
abbrev s_wrong_place : Stmt := top 11
abbrev N_wrong_place : List Str := ["text", "start", "index"]
theorem sc_wrong_place : FnScope N_wrong_place ["text"] (defScope s_wrong_place) := ⟨rfl, rfl, rfl, by decide +kernel, rfl, by decide +kernel, by decide +kernel⟩
abbrev s_BadNumber_init : Stmt := inClass (top 2) 0
abbrev N_BadNumber_init : List Str := ["self", "index"]
theorem sc_BadNumber_init : FnScope N_BadNumber_init ["self", "index"] (defScope s_BadNumber_init) := ⟨rfl, rfl, rfl, by decide +kernel, rfl, by decide +kernel, by decide +kernel⟩
abbrev s_number : Stmt := top 12
abbrev N_number : List Str := ["text", "index", "start", "total", "first", "at"]
theorem sc_number : FnScope N_number ["text"] (defScope s_number) := ⟨rfl, rfl, rfl, by decide +kernel, rfl, by decide +kernel, by decide +kernel⟩
abbrev s_integer_of : Stmt := top 13
abbrev N_integer_of : List Str := ["word"]
theorem sc_integer_of : FnScope N_integer_of ["word"] (defScope s_integer_of) := ⟨rfl, rfl, rfl, by decide +kernel, rfl, by decide +kernel, by decide +kernel⟩
abbrev s_is_mark : Stmt := top 6
abbrev N_is_mark : List Str := ["value", "letter"]
theorem sc_is_mark : FnScope N_is_mark ["value"] (defScope s_is_mark) := ⟨rfl, rfl, rfl, by decide +kernel, rfl, by decide +kernel, by decide +kernel⟩
abbrev s_row_of : Stmt := top 18
abbrev N_row_of : List Str := ["line", "name", "needed", "rise", "steps"]
theorem sc_row_of : FnScope N_row_of ["line"] (defScope s_row_of) := ⟨rfl, rfl, rfl, by decide +kernel, rfl, by decide +kernel, by decide +kernel⟩
abbrev s_BadRow_init : Stmt := inClass (top 3) 0
abbrev N_BadRow_init : List Str := ["self", "line"]
theorem sc_BadRow_init : FnScope N_BadRow_init ["self", "line"] (defScope s_BadRow_init) := ⟨rfl, rfl, rfl, by decide +kernel, rfl, by decide +kernel, by decide +kernel⟩
abbrev s_read_table : Stmt := top 19
abbrev N_read_table : List Str := ["text", "rows", "lines", "at", "line", "last", "row"]
theorem sc_read_table : FnScope N_read_table ["text"] (defScope s_read_table) := ⟨rfl, rfl, rfl, by decide +kernel, rfl, by decide +kernel, by decide +kernel⟩
abbrev s__law_like : Stmt := top 24
abbrev N__law_like : List Str := ["_law_actual", "_law_due", "_law_k"]
theorem sc__law_like : FnScope N__law_like ["_law_actual", "_law_due"] (defScope s__law_like) := ⟨rfl, rfl, rfl, by decide +kernel, rfl, by decide +kernel, by decide +kernel⟩
abbrev s__law_small : Stmt := top 25
abbrev N__law_small : List Str := ["_law_text"]
theorem sc__law_small : FnScope N__law_small ["_law_text"] (defScope s__law_small) := ⟨rfl, rfl, rfl, by decide +kernel, rfl, by decide +kernel, by decide +kernel⟩
abbrev s__law_digits : Stmt := top 26
abbrev N__law_digits : List Str := ["_law_text", "_law_digit"]
theorem sc__law_digits : FnScope N__law_digits ["_law_text"] (defScope s__law_digits) := ⟨rfl, rfl, rfl, by decide +kernel, rfl, by decide +kernel, by decide +kernel⟩
abbrev s__law_worth : Stmt := top 27
abbrev N__law_worth : List Str := ["_law_text", "_law_total", "_law_k", "_law_part", "_law_digit"]
theorem sc__law_worth : FnScope N__law_worth ["_law_text"] (defScope s__law_worth) := ⟨rfl, rfl, rfl, by decide +kernel, rfl, by decide +kernel, by decide +kernel⟩
abbrev s__law_row : Stmt := top 28
abbrev N__law_row : List Str := ["_law_line_here", "_law_name", "_law_letter"]
theorem sc__law_row : FnScope N__law_row ["_law_line_here"] (defScope s__law_row) := ⟨rfl, rfl, rfl, by decide +kernel, rfl, by decide +kernel, by decide +kernel⟩
abbrev s__law_begin : Stmt := top 21
abbrev N__law_begin : List Str := ["_law_script"]
theorem sc__law_begin : FnScope N__law_begin ["_law_script"] (defScope s__law_begin) := ⟨rfl, rfl, rfl, by decide +kernel, rfl, by decide +kernel, by decide +kernel⟩
abbrev s__law_draw : Stmt := top 22
abbrev N__law_draw : List Str := ["_law_draws", "_law_many", "_law_cell", "_law_found"]
theorem sc__law_draw : FnScope N__law_draw ["_law_draws", "_law_many"] (defScope s__law_draw) := ⟨rfl, rfl, rfl, by decide +kernel, rfl, by decide +kernel, by decide +kernel⟩
abbrev s__law_mark : Stmt := top 23
abbrev N__law_mark : List Str := ["_law_draws", "_law_forms", "_law_at", "_law_letters", "_law_size", "_law_k"]
theorem sc__law_mark : FnScope N__law_mark ["_law_draws"] (defScope s__law_mark) := ⟨rfl, rfl, rfl, by decide +kernel, rfl, by decide +kernel, by decide +kernel⟩
abbrev s__law_line : Stmt := top 29
abbrev N__law_line : List Str := ["_law_draws", "_law_name", "_law_wants", "_law_rise", "_law_steps", "_law_many", "_law_line_here", "_law_value", "_law_k"]
theorem sc__law_line : FnScope N__law_line ["_law_draws"] (defScope s__law_line) := ⟨rfl, rfl, rfl, by decide +kernel, rfl, by decide +kernel, by decide +kernel⟩
abbrev s_law : Stmt := top 30
abbrev N_law : List Str := ["_law_script", "_law_draws", "_law_k", "_law_text", "_law_at", "_law_sign", "_law_way", "_law_lines", "_law_due", "_law_rows", "_law_row_here", "_law_told", "_law_answer", "e"]
theorem sc_law : FnScope N_law ["_law_script"] (defScope s_law) := ⟨rfl, rfl, rfl, by decide +kernel, rfl, by decide +kernel, by decide +kernel⟩
section
variable {P : Program} {w : World} {K : PySem.W.Frag} {mg : Str → Option Value} {base : Heap} {f : Addr} {fd : FuncData}
theorem ok_small_of (F : FunD K "small_of" "small_of" (defArgs s_small_of) (defBody s_small_of) (defScope s_small_of) [] [] f fd) (z_len : mg "len" = none) (hc_FIGURES : ∃ t, mg "FIGURES" = some (.str "0123456789" t)) (z_int : mg "int" = none) : FnOk P w K mg base CX0 1 f fd ["text"] (sp_small_of K) := by
  have nd := sc_small_of.nd
  obtain ⟨_, hc_FIGURES⟩ := hc_FIGURES
  refine F.ok sc_small_of (fun vs H Q E h => ?_) (fun cdv A outer s H vs Q E hr h => ⟨t_small_of K, PSs.nox ?_, pure_small_of vs H Q E h⟩)
  · first | exact len_small_of vs H Q E h | exact len_gen vs H Q E h | (obtain ⟨_, _, rfl, _⟩ := h; rfl)
  · exact (pss_cons (ps_set (i := 1) nd rfl (Or.inl rfl) (pe_bm PySem.F.plainAttrs_str PySem.F.slot_str_lstrip PySem.F.type_str_lstrip mt_lsU (pe_uVar 0) (pa_cons pe_str pa_nil))) (pss_cons (ps_if (PW.pt (pw_or (pt_cmpR (op_neS) (pe_callB call_lenU (by rfl) z_len (by decide +kernel) (pa_cons (pe_uVar 0) pa_nil)) pe_int (nomark _)) (pw_or (pt_cmpR (op_eqS) (pe_uVar 1) pe_str (nomark _)) (pw_or1 (PW.pt (pw_and (pt_cmpR (op_eqS) (pe_callB call_lenU (by rfl) z_len (by decide +kernel) (pa_cons (pe_uVar 1) pa_nil)) pe_int (nomark _)) (pw_and1 (pt_cmpR (op_eqS) (pe_ix ix_U (pe_uVar 1) pe_int (fun _ _ => rfl)) pe_str (nomark _))))))))) (pss_one (ps_ret pe_non)) pss_nil) (pss_cons (ps_for PassesOwn.never rfl (pi_U (pe_uVar 1)) (pg_name (i := 2) nd rfl (Or.inl rfl)) (pss_one (ps_if (pt_cmpR (op_notInU) (pe_uVar 2) (pe_glob (by rfl) hc_FIGURES ⟨_, rfl⟩) rfl) (pss_one (ps_ret pe_non)) pss_nil))) (pss_one (ps_ret (pe_callTy call_intT (by rfl) z_int (by decide +kernel) (pa_cons (pe_uVar 1) pa_nil)))))))
theorem bd_small_of (F : FunD K "small_of" "small_of" (defArgs s_small_of) (defBody s_small_of) (defScope s_small_of) [] [] f fd) : Binds K fd ["text"] [] := (F.bindsN fun _ _ _ _ _ _ us hl => match us, hl with | [_], _ => rfl)
theorem cal_small_of (F : FunD K "small_of" "small_of" (defArgs s_small_of) (defBody s_small_of) (defScope s_small_of) [] [] f fd) (hm : mg "small_of" = some (.ref f)) (k : FnOk P w K mg base CX0 1 f fd ["text"] (sp_small_of K)) : Callee P w K mg base CX0 1 "small_of" ["text"] [] (sp_small_of K) :=
  ⟨f, fd, [], hm, k, F.kp, bd_small_of F, .nil⟩
theorem ok_wrong_place (F : FunD K "wrong_place" "wrong_place" (defArgs s_wrong_place) (defBody s_wrong_place) (defScope s_wrong_place) [] [] f fd) (z_int : mg "int" = none) (z_len : mg "len" = none) (z_range : mg "range" = none) (hc_DIGITS : ∃ t, mg "DIGITS" = some (.str "0123456789" t)) : FnOk P w K mg base CX0 1 f fd ["text"] (sp_wrong_place K) := by
  have nd := sc_wrong_place.nd
  obtain ⟨_, hc_DIGITS⟩ := hc_DIGITS
  refine F.ok sc_wrong_place (fun vs H Q E h => ?_) (fun cdv A outer s H vs Q E hr h => ⟨t_wrong_place K, PSs.nox ?_, pure_wrong_place vs H Q E h⟩)
  · first | exact len_wrong_place vs H Q E h | exact len_gen vs H Q E h | (obtain ⟨_, _, rfl, _⟩ := h; rfl)
  · exact (pss_cons (ps_set (i := 1) nd rfl (Or.inl rfl) (pe_callTy call_intU (by rfl) z_int (by decide +kernel) (pa_cons (pe_cmpR (op_eqS) (pe_slice sl_U (pe_uVar 0) po_none (po_uPart pe_int)) pe_str (nomark _)) pa_nil))) (pss_cons (ps_if (pt_cmpR (op_eqS) (pe_callB call_lenU (by rfl) z_len (by decide +kernel) (pa_cons (pe_uVar 0) pa_nil)) (pe_uVar 1) (nomark _)) (pss_one (ps_ret (pe_uVar 1))) pss_nil) (pss_cons (ps_for PassesOwn.never rfl (pi_range2 (by rfl) z_range (pa_cons (pe_uVar 1) (pa_cons (pe_callB call_lenU (by rfl) z_len (by decide +kernel) (pa_cons (pe_uVar 0) pa_nil)) pa_nil))) (pg_name (i := 2) nd rfl (Or.inl rfl)) (pss_cons (ps_if (pt_cmpR (op_notInU) (pe_ix ix_U (pe_uVar 0) (pe_uVar 2) (fun _ _ => rfl)) (pe_glob (by rfl) hc_DIGITS ⟨_, rfl⟩) rfl) (pss_one (ps_ret (pe_uVar 2))) pss_nil) (pss_cons (ps_if (PW.pt (pw_and (pt_cmpR (op_eqS) (pe_uVar 2) (pe_uVar 1) (nomark _)) (pw_and (pt_cmpR (op_eqS) (pe_ix ix_U (pe_uVar 0) (pe_uVar 2) (fun _ _ => rfl)) pe_str (nomark _)) (pw_and1 (pt_cmpR (op_eqS) (pe_uVar 1) pe_int (nomark _)))))) (pss_one (ps_ret (pe_uVar 2))) pss_nil) (pss_one (ps_if (PW.pt (pw_and (pt_cmpR (op_eqS) (pe_uVar 2) (pe_op op_addI (pe_uVar 1) pe_int) (nomark _)) (pw_and1 (pt_cmpR (op_eqS) (pe_ix ix_U (pe_uVar 0) (pe_uVar 1) (fun _ _ => rfl)) pe_str (nomark _))))) (pss_one (ps_ret (pe_uVar 2))) pss_nil))))) (pss_one (ps_ret pe_non)))))
theorem bd_wrong_place (F : FunD K "wrong_place" "wrong_place" (defArgs s_wrong_place) (defBody s_wrong_place) (defScope s_wrong_place) [] [] f fd) : Binds K fd ["text"] [] := (F.bindsN fun _ _ _ _ _ _ us hl => match us, hl with | [_], _ => rfl)
theorem cal_wrong_place (F : FunD K "wrong_place" "wrong_place" (defArgs s_wrong_place) (defBody s_wrong_place) (defScope s_wrong_place) [] [] f fd) (hm : mg "wrong_place" = some (.ref f)) (k : FnOk P w K mg base CX0 1 f fd ["text"] (sp_wrong_place K)) : Callee P w K mg base CX0 1 "wrong_place" ["text"] [] (sp_wrong_place K) :=
  ⟨f, fd, [], hm, k, F.kp, bd_wrong_place F, .nil⟩
theorem ok_BadNumber_init (F : FunD K "__init__" "BadNumber.__init__" (defArgs s_BadNumber_init) (defBody s_BadNumber_init) (defScope s_BadNumber_init) [] [] f fd)  : FnOk P w K mg base CX0 1 f fd ["self", "index"] (sp_BadNumber_init K) := by
  have nd := sc_BadNumber_init.nd
  refine F.ok sc_BadNumber_init (fun vs H Q E h => ?_) (fun cdv A outer s H vs Q E hr h => ⟨t_BadNumber_init K, PSs.nox ?_, pure_BadNumber_init vs H Q E h⟩)
  · first | exact len_BadNumber_init vs H Q E h | exact len_gen vs H Q E h | (obtain ⟨_, _, rfl, _⟩ := h; rfl)
  · exact (pss_one (ps_ost (pe_uVar 0) (pe_uVar 1)))
theorem bd_BadNumber_init (F : FunD K "__init__" "BadNumber.__init__" (defArgs s_BadNumber_init) (defBody s_BadNumber_init) (defScope s_BadNumber_init) [] [] f fd) : Binds K fd ["self", "index"] [] := (F.bindsN fun _ _ _ _ _ _ us hl => match us, hl with | [_, _], _ => rfl)
theorem ok_number (F : FunD K "number" "number" (defArgs s_number) (defBody s_number) (defScope s_number) [] [] f fd) (ox_BadNumber : OxC P w K mg base 1 "BadNumber" (He.ga K "BadNumber") (sp_BadNumber_init K)) (hm_BadNumber : mg "BadNumber" = some (.ref (He.ga K "BadNumber"))) (z_int : mg "int" = none) (z_len : mg "len" = none) (hc_BLOCK : ∃ t, mg "BLOCK" = some (.int 50 t)) (z_range : mg "range" = none) (hc_GREAT : ∃ t, mg "GREAT" = some (.int 100000000000000000000000000000000000000000000000000 t)) (c_wrong_place : Callee P w K mg base CX0 1 "wrong_place" ["text"] [] (sp_wrong_place K)) (fw : Fw K) : FnOk P w K mg base (L2.CX P w) 3 f fd ["text"] (sp_number K) := by
  have nd := sc_number.nd
  obtain ⟨_, hc_BLOCK⟩ := hc_BLOCK
  obtain ⟨_, hc_GREAT⟩ := hc_GREAT
  refine F.ok sc_number (fun vs H Q E h => ?_) (fun cdv A outer s H vs Q E hr h => ⟨t_number K (He.ga K "BadNumber") E, ?_, pure_number fw vs H Q E h⟩)
  · first | exact len_number vs H Q E h | exact len_gen vs H Q E h | (obtain ⟨_, _, rfl, _⟩ := h; rfl)
  · refine withTk (takes_of rfl rfl rfl rfl) fun tk => ?_
    exact (pss_cons (ps_set (i := 1) nd rfl (Or.inl rfl) (pe_cal c_wrong_place (hr.mono (by decide)) (pa_cons (pe_uVar 0) pa_nil))) (pss_cons (ps_if (pt_cmpR (op_notNU) (pe_uVar 1) pe_non (nomark _)) (pss_one (ps_raiseO ox_BadNumber (hr.mono (by decide)) tk (pa_cons (pe_uVar 1) pa_nil))) pss_nil) (pss_cons (ps_set (i := 2) nd rfl (Or.inl rfl) (pe_callTy call_intU (by rfl) z_int (by decide +kernel) (pa_cons (pe_cmpR (op_eqS) (pe_slice sl_U (pe_uVar 0) po_none (po_uPart pe_int)) pe_str (nomark _)) pa_nil))) (pss_cons (ps_set (i := 3) nd rfl (Or.inl rfl) pe_int) (pss_cons (ps_set (i := 4) nd rfl (Or.inl rfl) (pe_op op_addI (pe_uVar 2) (pe_op op_modU (pe_op op_subU (pe_callB call_lenU (by rfl) z_len (by decide +kernel) (pa_cons (pe_uVar 0) pa_nil)) (pe_uVar 2)) (pe_glob (by rfl) hc_BLOCK ⟨_, rfl⟩)))) (pss_cons (ps_if (pt_cmpR (op_gtU) (pe_uVar 4) (pe_uVar 2) (nomark _)) (pss_one (ps_set (i := 3) nd rfl (Or.inl rfl) (pe_callTy call_intT (by rfl) z_int (by decide +kernel) (pa_cons (pe_slice sl_U (pe_uVar 0) (po_uPart (pe_uVar 2)) (po_uPart (pe_uVar 4))) pa_nil)))) pss_nil) (pss_cons (ps_for (passes_of rfl) rfl (pi_range3 (by rfl) z_range (pa_cons (pe_uVar 4) (pa_cons (pe_callB call_lenU (by rfl) z_len (by decide +kernel) (pa_cons (pe_uVar 0) pa_nil)) (pa_cons (pe_glob (by rfl) hc_BLOCK ⟨_, rfl⟩) pa_nil)))) (pg_name (i := 5) nd rfl (Or.inl rfl)) (pss_one (ps_set (i := 3) nd rfl (Or.inl rfl) (pe_op op_addI (pe_op op_mulXU (pe_uVar 3) (pe_glob (by rfl) hc_GREAT ⟨_, rfl⟩)) (pe_callTy call_intT (by rfl) z_int (by decide +kernel) (pa_cons (pe_slice sl_U (pe_uVar 0) (po_uPart (pe_uVar 5)) (po_uPart (pe_op op_addU (pe_uVar 5) (pe_glob (by rfl) hc_BLOCK ⟨_, rfl⟩)))) pa_nil)))))) (pss_cons (ps_if (pt_cmpR (op_eqS) (pe_uVar 2) pe_int (nomark _)) (pss_one (ps_ret (pe_un un_neg (pe_uVar 3)))) pss_nil) (pss_one (ps_ret (pe_uVar 3)))))))))))
theorem bd_number (F : FunD K "number" "number" (defArgs s_number) (defBody s_number) (defScope s_number) [] [] f fd) : Binds K fd ["text"] [] := (F.bindsN fun _ _ _ _ _ _ us hl => match us, hl with | [_], _ => rfl)
theorem ok_integer_of (F : FunD K "integer_of" "integer_of" (defArgs s_integer_of) (defBody s_integer_of) (defScope s_integer_of) [] [] f fd) (c_wrong_place : Callee P w K mg base CX0 1 "wrong_place" ["text"] [] (sp_wrong_place K)) (c_number : CalX P w K mg base 3 "number" (sp_number K)) : FnOk P w K mg base (L2.CX P w) 4 f fd ["word"] (sp_integer_of K) := by
  have nd := sc_integer_of.nd
  refine F.ok sc_integer_of (fun vs H Q E h => ?_) (fun cdv A outer s H vs Q E hr h => ⟨t_integer_of K E, ?_, pure_integer_of vs H Q E h⟩)
  · first | exact len_integer_of vs H Q E h | exact len_gen vs H Q E h | (obtain ⟨_, _, rfl, _⟩ := h; rfl)
  · refine withTk (takes_of rfl rfl rfl rfl) fun tk => ?_
    exact (pss_cons (ps_if (pt_cmpR (op_notNU) (pe_cal c_wrong_place (hr.mono (by decide)) (pa_cons (pe_uVar 0) pa_nil)) pe_non (nomark _)) (pss_one (ps_ret pe_non)) pss_nil) (pss_one (ps_ret (pe_calX c_number (hr.mono (by decide)) tk (pa_cons (pe_uVar 0) pa_nil)))))
theorem bd_integer_of (F : FunD K "integer_of" "integer_of" (defArgs s_integer_of) (defBody s_integer_of) (defScope s_integer_of) [] [] f fd) : Binds K fd ["word"] [] := (F.bindsN fun _ _ _ _ _ _ us hl => match us, hl with | [_], _ => rfl)
theorem ok_is_mark (F : FunD K "is_mark" "is_mark" (defArgs s_is_mark) (defBody s_is_mark) (defScope s_is_mark) [] [] f fd) (z_isinstance : mg "isinstance" = none) (z_str : mg "str" = none) (z_len : mg "len" = none) (hc_LETTERS : ∃ t, mg "LETTERS" = some (.str "abcdefghijklmnopqrstuvwxyz" t)) : FnOk P w K mg base CX0 1 f fd ["value"] (sp_is_mark K) := by
  have nd := sc_is_mark.nd
  obtain ⟨_, hc_LETTERS⟩ := hc_LETTERS
  refine F.ok sc_is_mark (fun vs H Q E h => ?_) (fun cdv A outer s H vs Q E hr h => ⟨t_is_mark K, PSs.nox ?_, pure_is_mark vs H Q E h⟩)
  · first | exact len_is_mark vs H Q E h | exact len_gen vs H Q E h | (obtain ⟨_, _, rfl, _⟩ := h; rfl)
  · exact (pss_cons (ps_if (PW.pt (pw_or (pt_not (pt_uTru (pe_callB (call_isiU (c := .str) (by decide)) (by rfl) z_isinstance boot_isinstance (pa_cons (pe_uVar 0) (pa_cons (pe_bltn (v := .ty "str") (by rfl) z_str (by decide +kernel) rfl) pa_nil))))) (pw_or1 (pt_not (pt_chain op_leU op_leU pe_int (pe_callB call_lenU (by rfl) z_len (by decide +kernel) (pa_cons (pe_uVar 0) pa_nil)) pe_int))))) (pss_one (ps_ret pe_bl)) pss_nil) (pss_cons (ps_for PassesOwn.never rfl (pi_U (pe_uVar 0)) (pg_name (i := 1) nd rfl (Or.inl rfl)) (pss_one (ps_if (pt_cmpR (op_notInU) (pe_uVar 1) (pe_glob (by rfl) hc_LETTERS ⟨_, rfl⟩) rfl) (pss_one (ps_ret pe_bl)) pss_nil))) (pss_one (ps_ret pe_bl))))
theorem bd_is_mark (F : FunD K "is_mark" "is_mark" (defArgs s_is_mark) (defBody s_is_mark) (defScope s_is_mark) [] [] f fd) : Binds K fd ["value"] [] := (F.bindsN fun _ _ _ _ _ _ us hl => match us, hl with | [_], _ => rfl)
theorem cal_is_mark (F : FunD K "is_mark" "is_mark" (defArgs s_is_mark) (defBody s_is_mark) (defScope s_is_mark) [] [] f fd) (hm : mg "is_mark" = some (.ref f)) (k : FnOk P w K mg base CX0 1 f fd ["value"] (sp_is_mark K)) : Callee P w K mg base CX0 1 "is_mark" ["value"] [] (sp_is_mark K) :=
  ⟨f, fd, [], hm, k, F.kp, bd_is_mark F, .nil⟩
theorem ok_row_of (F : FunD K "row_of" "row_of" (defArgs s_row_of) (defBody s_row_of) (defScope s_row_of) [] [] f fd) (hc_WIDTH : ∃ t, mg "WIDTH" = some (.int 8 t)) (c_small_of : Callee P w K mg base CX0 1 "small_of" ["text"] [] (sp_small_of K)) (c_integer_of : CalX P w K mg base 4 "integer_of" (sp_integer_of K)) (c_is_mark : Callee P w K mg base CX0 1 "is_mark" ["value"] [] (sp_is_mark K)) : FnOk P w K mg base (L2.CX P w) 5 f fd ["line"] (sp_row_of K) := by
  have nd := sc_row_of.nd
  obtain ⟨_, hc_WIDTH⟩ := hc_WIDTH
  refine F.ok sc_row_of (fun vs H Q E h => ?_) (fun cdv A outer s H vs Q E hr h => ⟨t_row_of K E, ?_, pure_row_of vs H Q E h⟩)
  · first | exact len_row_of vs H Q E h | exact len_gen vs H Q E h | (obtain ⟨_, _, rfl, _⟩ := h; rfl)
  · refine withTk (takes_of rfl rfl rfl rfl) fun tk => ?_
    exact (pss_cons (ps_set (i := 1) nd rfl (Or.inl rfl) (pe_bm PySem.F.plainAttrs_str PySem.F.slot_str_rstrip PySem.F.type_str_rstrip mt_rsU (pe_slice sl_U (pe_uVar 0) po_none (po_uPart (pe_glob (by rfl) hc_WIDTH ⟨_, rfl⟩))) (pa_cons pe_str pa_nil))) (pss_cons (ps_set (i := 2) nd rfl (Or.inl rfl) (pe_cal c_small_of (hr.mono (by decide)) (pa_cons (pe_slice sl_U (pe_uVar 0) (po_uPart pe_int) (po_uPart pe_int)) pa_nil))) (pss_cons (ps_set (i := 3) nd rfl (Or.inl rfl) (pe_cal c_small_of (hr.mono (by decide)) (pa_cons (pe_slice sl_U (pe_uVar 0) (po_uPart pe_int) (po_uPart pe_int)) pa_nil))) (pss_cons (ps_set (i := 4) nd rfl (Or.inl rfl) (pe_calX c_integer_of (hr.mono (by decide)) tk (pa_cons (pe_slice sl_U (pe_uVar 0) (po_uPart pe_int) po_none) pa_nil))) (pss_cons (ps_if (PW.pt (pw_or (pt_not (pt_uTru (pe_cal c_is_mark (hr.mono (by decide)) (pa_cons (pe_uVar 1) pa_nil)))) (pw_or (pt_cmpR (op_isNU) (pe_uVar 2) pe_non (nomark _)) (pw_or (pt_cmpR (op_isNU) (pe_uVar 3) pe_non (nomark _)) (pw_or (pt_cmpR (op_isNU) (pe_uVar 4) pe_non (nomark _)) (pw_or1 (pt_cmpR (op_ltU) (pe_uVar 4) pe_int (nomark _)))))))) (pss_one (ps_ret pe_non)) pss_nil) (pss_cons (ps_if (PW.pt (pw_or (pt_cmpR (op_neS) (pe_ix ix_U (pe_uVar 0) pe_int (fun _ _ => rfl)) pe_str (nomark _)) (pw_or (pt_cmpR (op_neS) (pe_ix ix_U (pe_uVar 0) pe_int (fun _ _ => rfl)) pe_str (nomark _)) (pw_or (pt_cmpR (op_neS) (pe_ix ix_U (pe_uVar 0) pe_int (fun _ _ => rfl)) pe_str (nomark _)) (pw_or1 (pt_cmpR (op_neS) (pe_ix ix_U (pe_uVar 0) pe_int (fun _ _ => rfl)) pe_str (nomark _))))))) (pss_one (ps_ret pe_non)) pss_nil) (pss_cons (ps_if (pt_cmpR (op_eqS) (pe_slice sl_U (pe_uVar 0) (po_uPart pe_int) (po_uPart pe_int)) pe_str (nomark _)) (pss_one (ps_ret (pe_tup (pa_cons (pe_uVar 1) (pa_cons (pe_uVar 2) (pa_cons (pe_uVar 3) (pa_cons pe_bl (pa_cons (pe_uVar 4) pa_nil)))))))) pss_nil) (pss_cons (ps_if (pt_cmpR (op_eqS) (pe_slice sl_U (pe_uVar 0) (po_uPart pe_int) (po_uPart pe_int)) pe_str (nomark _)) (pss_one (ps_ret (pe_tup (pa_cons (pe_uVar 1) (pa_cons (pe_uVar 2) (pa_cons (pe_uVar 3) (pa_cons pe_bl (pa_cons (pe_uVar 4) pa_nil)))))))) pss_nil) (pss_one (ps_ret pe_non))))))))))
theorem bd_row_of (F : FunD K "row_of" "row_of" (defArgs s_row_of) (defBody s_row_of) (defScope s_row_of) [] [] f fd) : Binds K fd ["line"] [] := (F.bindsN fun _ _ _ _ _ _ us hl => match us, hl with | [_], _ => rfl)
theorem ok_BadRow_init (F : FunD K "__init__" "BadRow.__init__" (defArgs s_BadRow_init) (defBody s_BadRow_init) (defScope s_BadRow_init) [] [] f fd)  : FnOk P w K mg base CX0 1 f fd ["self", "line"] (sp_BadRow_init K) := by
  have nd := sc_BadRow_init.nd
  refine F.ok sc_BadRow_init (fun vs H Q E h => ?_) (fun cdv A outer s H vs Q E hr h => ⟨t_BadRow_init K, PSs.nox ?_, pure_BadRow_init vs H Q E h⟩)
  · first | exact len_BadRow_init vs H Q E h | exact len_gen vs H Q E h | (obtain ⟨_, _, rfl, _⟩ := h; rfl)
  · exact (pss_one (ps_ost (pe_uVar 0) (pe_uVar 1)))
theorem bd_BadRow_init (F : FunD K "__init__" "BadRow.__init__" (defArgs s_BadRow_init) (defBody s_BadRow_init) (defScope s_BadRow_init) [] [] f fd) : Binds K fd ["self", "line"] [] := (F.bindsN fun _ _ _ _ _ _ us hl => match us, hl with | [_, _], _ => rfl)
theorem ok_read_table (F : FunD K "read_table" "read_table" (defArgs s_read_table) (defBody s_read_table) (defScope s_read_table) [] [] f fd) (z_enumerate : mg "enumerate" = none) (z_len : mg "len" = none) (ox_BadRow : OxC P w K mg base 1 "BadRow" (He.ga K "BadRow") (sp_BadRow_init K)) (hm_BadRow : mg "BadRow" = some (.ref (He.ga K "BadRow"))) (c_row_of : CalX P w K mg base 5 "row_of" (sp_row_of K)) (fwr : Fwr K) : FnOk P w K mg base (L2.CX P w) 6 f fd ["text"] (sp_read_table K) := by
  have nd := sc_read_table.nd
  refine F.ok sc_read_table (fun vs H Q E h => ?_) (fun cdv A outer s H vs Q E hr h => ⟨t_read_table K (He.ga K "BadRow") E, ?_, pure_read_table fwr vs H Q E h⟩)
  · first | exact len_read_table vs H Q E h | exact len_gen vs H Q E h | (obtain ⟨_, _, rfl, _⟩ := h; rfl)
  · refine withTk (takes_of rfl rfl rfl rfl) fun tk => ?_
    exact (pss_cons (ps_set (i := 1) nd rfl (Or.inl rfl) (pe_lst pa_nil)) (pss_cons (ps_set (i := 2) nd rfl (Or.inl rfl) (pe_bm PySem.F.plainAttrs_str PySem.F.slot_str_split PySem.F.type_str_split mt_splU (pe_uVar 0) (pa_cons pe_str pa_nil))) (pss_cons (ps_for (passes_of rfl) rfl (pi_enum (by rfl) z_enumerate (pa_cons (pe_uVar 2) pa_nil)) (pg_seq rfl (pgs_cons (pg_name (i := 3) nd rfl (Or.inl rfl)) (pgs_cons (pg_name (i := 4) nd rfl (Or.inl rfl)) pgs_nil))) (pss_cons (ps_set (i := 5) nd rfl (Or.inl rfl) (pe_cmpR (op_eqS) (pe_uVar 3) (pe_op op_subU (pe_callB call_lenU (by rfl) z_len (by decide +kernel) (pa_cons (pe_uVar 2) pa_nil)) pe_int) (nomark _))) (pss_cons (ps_if (PW.pt (pw_and (pt_uTru (pe_uVar 5)) (pw_and1 (pt_cmpR (op_eqS) (pe_uVar 4) pe_str (nomark _))))) (pss_one (ps_ret (pe_uVar 1))) pss_nil) (pss_cons (ps_set (i := 6) nd rfl (Or.inl rfl) (pe_calX c_row_of (hr.mono (by decide)) tk (pa_cons (pe_uVar 4) pa_nil))) (pss_cons (ps_if (PW.pt (pw_or (pt_uTru (pe_uVar 5)) (pw_or1 (pt_cmpR (op_isNU) (pe_uVar 6) pe_non (nomark _))))) (pss_one (ps_raiseO ox_BadRow (hr.mono (by decide)) tk (pa_cons (pe_op op_addI (pe_uVar 3) pe_int) pa_nil))) pss_nil) (pss_one (ps_expr (pe_bm PySem.F.plainAttrs_list PySem.F.slot_list_append PySem.F.type_list_append mt_append (pe_uVar 1) (pa_cons (pe_uVar 6) pa_nil))))))))) (pss_one (ps_ret (pe_uVar 1))))))
theorem bd_read_table (F : FunD K "read_table" "read_table" (defArgs s_read_table) (defBody s_read_table) (defScope s_read_table) [] [] f fd) : Binds K fd ["text"] [] := (F.bindsN fun _ _ _ _ _ _ us hl => match us, hl with | [_], _ => rfl)
theorem bd__law_like (F : FunD K "_law_like" "_law_like" (defArgs s__law_like) (defBody s__law_like) (defScope s__law_like) [] [] f fd) : Binds K fd ["_law_actual", "_law_due"] [] := (F.bindsN fun _ _ _ _ _ _ us hl => match us, hl with | [_, _], _ => rfl)
theorem ok__law_like_rec (F : FunD K "_law_like" "_law_like" (defArgs s__law_like) (defBody s__law_like) (defScope s__law_like) [] [] f fd) (z_isinstance : mg "isinstance" = none) (z_bool : mg "bool" = none) (z_int : mg "int" = none) (z_str : mg "str" = none) (z_tuple : mg "tuple" = none) (z_len : mg "len" = none) (z_list : mg "list" = none) (z_range : mg "range" = none) {m : Nat} (c__law_like : Callee P w K mg base CX0 (1 + m) "_law_like" ["_law_actual", "_law_due"] [] (sp__law_likeN K m)) : FnOk P w K mg base CX0 (1 + m + 1) f fd ["_law_actual", "_law_due"] (sp__law_likeN K (m + 1)) := by
  have nd := sc__law_like.nd
  refine F.ok sc__law_like (fun vs H Q E h => ?_) (fun cdv A outer s H vs Q E hr h => ⟨t__law_like K (sp__law_likeN K m), PSs.nox ?_, pure__law_like vs H Q E h⟩)
  · exact len__law_like vs H Q E h
  · exact (pss_cons (ps_if (pt_cmpR (op_isNU) (pe_uVar 1) pe_non (nomark _)) (pss_one (ps_ret (pe_cmpR (op_isNU) (pe_uVar 0) pe_non (nomark _)))) pss_nil) (pss_cons (ps_if (pt_uTru (pe_callB (call_isiU (c := .bl) (by decide)) (by rfl) z_isinstance boot_isinstance (pa_cons (pe_uVar 1) (pa_cons (pe_bltn (v := .ty "bool") (by rfl) z_bool (by decide +kernel) rfl) pa_nil)))) (pss_one (ps_ret (pe_and (pe_callB (call_isiU (c := .bl) (by decide)) (by rfl) z_isinstance boot_isinstance (pa_cons (pe_uVar 0) (pa_cons (pe_bltn (v := .ty "bool") (by rfl) z_bool (by decide +kernel) rfl) pa_nil))) (pe_one (pe_cmpR (op_eqS) (pe_uVar 0) (pe_uVar 1) (nomark _)))))) pss_nil) (pss_cons (ps_if (pt_uTru (pe_callB (call_isiU (c := .int) (by decide)) (by rfl) z_isinstance boot_isinstance (pa_cons (pe_uVar 1) (pa_cons (pe_bltn (v := .ty "int") (by rfl) z_int (by decide +kernel) rfl) pa_nil)))) (pss_one (ps_ret (pe_and (pe_callB (call_isiU (c := .int) (by decide)) (by rfl) z_isinstance boot_isinstance (pa_cons (pe_uVar 0) (pa_cons (pe_bltn (v := .ty "int") (by rfl) z_int (by decide +kernel) rfl) pa_nil))) (pe_and (pe_not (pe_callB (call_isiU (c := .bl) (by decide)) (by rfl) z_isinstance boot_isinstance (pa_cons (pe_uVar 0) (pa_cons (pe_bltn (v := .ty "bool") (by rfl) z_bool (by decide +kernel) rfl) pa_nil)))) (pe_one (pe_cmpR (op_eqS) (pe_uVar 0) (pe_uVar 1) (nomark _))))))) pss_nil) (pss_cons (ps_if (pt_uTru (pe_callB (call_isiU (c := .str) (by decide)) (by rfl) z_isinstance boot_isinstance (pa_cons (pe_uVar 1) (pa_cons (pe_bltn (v := .ty "str") (by rfl) z_str (by decide +kernel) rfl) pa_nil)))) (pss_one (ps_ret (pe_and (pe_callB (call_isiU (c := .str) (by decide)) (by rfl) z_isinstance boot_isinstance (pa_cons (pe_uVar 0) (pa_cons (pe_bltn (v := .ty "str") (by rfl) z_str (by decide +kernel) rfl) pa_nil))) (pe_one (pe_cmpR (op_eqS) (pe_uVar 0) (pe_uVar 1) (nomark _)))))) pss_nil) (pss_cons (ps_if (pt_uTru (pe_callB (call_isiU (c := .tup) (by decide)) (by rfl) z_isinstance boot_isinstance (pa_cons (pe_uVar 1) (pa_cons (pe_bltn (v := .ty "tuple") (by rfl) z_tuple (by decide +kernel) rfl) pa_nil)))) (pss_one (ps_if (PW.pt (pw_or (pt_not (pt_uTru (pe_callB (call_isiU (c := .tup) (by decide)) (by rfl) z_isinstance boot_isinstance (pa_cons (pe_uVar 0) (pa_cons (pe_bltn (v := .ty "tuple") (by rfl) z_tuple (by decide +kernel) rfl) pa_nil))))) (pw_or1 (pt_cmpR (op_neS) (pe_callB call_lenU (by rfl) z_len (by decide +kernel) (pa_cons (pe_uVar 0) pa_nil)) (pe_callB call_lenU (by rfl) z_len (by decide +kernel) (pa_cons (pe_uVar 1) pa_nil)) (nomark _))))) (pss_one (ps_ret pe_bl)) pss_nil)) (pss_one (ps_if (PW.pt (pw_or (pt_not (pt_uTru (pe_callB (call_isiU (c := .lst) (by decide)) (by rfl) z_isinstance boot_isinstance (pa_cons (pe_uVar 0) (pa_cons (pe_bltn (v := .ty "list") (by rfl) z_list (by decide +kernel) rfl) pa_nil))))) (pw_or1 (pt_cmpR (op_neS) (pe_callB call_lenU (by rfl) z_len (by decide +kernel) (pa_cons (pe_uVar 0) pa_nil)) (pe_callB call_lenU (by rfl) z_len (by decide +kernel) (pa_cons (pe_uVar 1) pa_nil)) (nomark _))))) (pss_one (ps_ret pe_bl)) pss_nil))) (pss_cons (ps_for PassesOwn.never rfl (pi_range1 (by rfl) z_range (pa_cons (pe_callB call_lenU (by rfl) z_len (by decide +kernel) (pa_cons (pe_uVar 1) pa_nil)) pa_nil)) (pg_name (i := 2) nd rfl (Or.inl rfl)) (pss_one (ps_if (pt_not (pt_uTru (pe_cal c__law_like (hr.mono (by omega)) (pa_cons (pe_ix ix_U (pe_uVar 0) (pe_uVar 2) (fun _ _ => rfl)) (pa_cons (pe_ix ix_U (pe_uVar 1) (pe_uVar 2) (fun _ _ => rfl)) pa_nil))))) (pss_one (ps_ret pe_bl)) pss_nil))) (pss_one (ps_ret pe_bl))))))))
theorem ok__law_like_all (F : FunD K "_law_like" "_law_like" (defArgs s__law_like) (defBody s__law_like) (defScope s__law_like) [] [] f fd) (hm : mg "_law_like" = some (.ref f)) (z_isinstance : mg "isinstance" = none) (z_bool : mg "bool" = none) (z_int : mg "int" = none) (z_str : mg "str" = none) (z_tuple : mg "tuple" = none) (z_len : mg "len" = none) (z_list : mg "list" = none) (z_range : mg "range" = none) : ∀ m : Nat, FnOk P w K mg base CX0 (1 + m) f fd ["_law_actual", "_law_due"] (sp__law_likeN K m)
  | 0 => F.ok sc__law_like (fun vs H Q E h => h.elim) (fun cdv A outer s H vs Q E hr h => h.elim)
  | m + 1 => ok__law_like_rec F z_isinstance z_bool z_int z_str z_tuple z_len z_list z_range ⟨f, fd, [], hm, ok__law_like_all F hm z_isinstance z_bool z_int z_str z_tuple z_len z_list z_range m, F.kp, bd__law_like F, .nil⟩
theorem ok__law_like (F : FunD K "_law_like" "_law_like" (defArgs s__law_like) (defBody s__law_like) (defScope s__law_like) [] [] f fd) (hm : mg "_law_like" = some (.ref f)) (z_isinstance : mg "isinstance" = none) (z_bool : mg "bool" = none) (z_int : mg "int" = none) (z_str : mg "str" = none) (z_tuple : mg "tuple" = none) (z_len : mg "len" = none) (z_list : mg "list" = none) (z_range : mg "range" = none) : FnOk P w K mg base CX0 10 f fd ["_law_actual", "_law_due"] (sp__law_like K) := ok__law_like_all F hm z_isinstance z_bool z_int z_str z_tuple z_len z_list z_range 9
theorem cal__law_like (F : FunD K "_law_like" "_law_like" (defArgs s__law_like) (defBody s__law_like) (defScope s__law_like) [] [] f fd) (hm : mg "_law_like" = some (.ref f)) (k : FnOk P w K mg base CX0 10 f fd ["_law_actual", "_law_due"] (sp__law_like K)) : Callee P w K mg base CX0 10 "_law_like" ["_law_actual", "_law_due"] [] (sp__law_like K) :=
  ⟨f, fd, [], hm, k, F.kp, bd__law_like F, .nil⟩
theorem ok__law_small (F : FunD K "_law_small" "_law_small" (defArgs s__law_small) (defBody s__law_small) (defScope s__law_small) [] [] f fd) (z_len : mg "len" = none) (z_int : mg "int" = none) : FnOk P w K mg base CX0 1 f fd ["_law_text"] (sp__law_small K) := by
  have nd := sc__law_small.nd
  refine F.ok sc__law_small (fun vs H Q E h => ?_) (fun cdv A outer s H vs Q E hr h => ⟨t__law_small K, PSs.nox ?_, pure__law_small vs H Q E h⟩)
  · first | exact len__law_small vs H Q E h | exact len_gen vs H Q E h | (obtain ⟨_, _, rfl, _⟩ := h; rfl)
  · exact (pss_cons (ps_if (PW.pt (pw_or (pt_cmpR (op_neS) (pe_callB call_lenU (by rfl) z_len (by decide +kernel) (pa_cons (pe_uVar 0) pa_nil)) pe_int (nomark _)) (pw_or (pt_cmpR (op_notInU) (pe_ix ix_U (pe_uVar 0) pe_int (fun _ _ => rfl)) pe_str rfl) (pw_or1 (pt_cmpR (op_notInU) (pe_ix ix_U (pe_uVar 0) pe_int (fun _ _ => rfl)) pe_str rfl))))) (pss_one (ps_ret (pe_un un_neg pe_int))) pss_nil) (pss_cons (ps_if (pt_cmpR (op_eqS) (pe_ix ix_U (pe_uVar 0) pe_int (fun _ _ => rfl)) pe_str (nomark _)) (pss_one (ps_ret (pe_callTy call_intT (by rfl) z_int (by decide +kernel) (pa_cons (pe_ix ix_U (pe_uVar 0) pe_int (fun _ _ => rfl)) pa_nil)))) pss_nil) (pss_one (ps_ret (pe_callTy call_intT (by rfl) z_int (by decide +kernel) (pa_cons (pe_uVar 0) pa_nil))))))
theorem bd__law_small (F : FunD K "_law_small" "_law_small" (defArgs s__law_small) (defBody s__law_small) (defScope s__law_small) [] [] f fd) : Binds K fd ["_law_text"] [] := (F.bindsN fun _ _ _ _ _ _ us hl => match us, hl with | [_], _ => rfl)
theorem cal__law_small (F : FunD K "_law_small" "_law_small" (defArgs s__law_small) (defBody s__law_small) (defScope s__law_small) [] [] f fd) (hm : mg "_law_small" = some (.ref f)) (k : FnOk P w K mg base CX0 1 f fd ["_law_text"] (sp__law_small K)) : Callee P w K mg base CX0 1 "_law_small" ["_law_text"] [] (sp__law_small K) :=
  ⟨f, fd, [], hm, k, F.kp, bd__law_small F, .nil⟩
theorem ok__law_digits (F : FunD K "_law_digits" "_law_digits" (defArgs s__law_digits) (defBody s__law_digits) (defScope s__law_digits) [] [] f fd) (z_len : mg "len" = none) (z_any : mg "any" = none) : FnOk P w K mg base CX0 1 f fd ["_law_text"] (sp__law_digits K) := by
  have nd := sc__law_digits.nd
  refine F.ok sc__law_digits (fun vs H Q E h => ?_) (fun cdv A outer s H vs Q E hr h => ⟨t__law_digits K, PSs.nox ?_, pure__law_digits vs H Q E h⟩)
  · first | exact len__law_digits vs H Q E h | exact len_gen vs H Q E h | (obtain ⟨_, _, rfl, _⟩ := h; rfl)
  · exact (pss_cons (ps_if (PW.pt (pw_or (pt_cmpR (op_eqS) (pe_callB call_lenU (by rfl) z_len (by decide +kernel) (pa_cons (pe_uVar 0) pa_nil)) pe_int (nomark _)) (pw_or1 (pt_uTru (pe_callB (call_anyU rfl) (by rfl) z_any (by decide +kernel) (pa_cons (pe_lc (own := [("_law_digit", 1)]) (g := (gName 1)) (tt := tYes) rfl nd (pi_U (pe_uVar 0)) (blkOk_by (N := N__law_digits) (sc := defScope s__law_digits) (by decide +kernel)) (fun _ _ _ _ _ => (pg_name (i := 1) nd rfl (Or.inl rfl))) (fun _ _ _ _ _ => pts_nil) (fun _ _ _ _ _ => (pe_cmpR (op_notInU) (pe_uVar 1) pe_str rfl))) pa_nil)))))) (pss_one (ps_ret pe_bl)) pss_nil) (pss_one (ps_ret (pe_or (pe_cmpR (op_eqS) (pe_callB call_lenU (by rfl) z_len (by decide +kernel) (pa_cons (pe_uVar 0) pa_nil)) pe_int (nomark _)) (pe_one (pe_cmpR (op_neS) (pe_ix ix_U (pe_uVar 0) pe_int (fun _ _ => rfl)) pe_str (nomark _)))))))
theorem bd__law_digits (F : FunD K "_law_digits" "_law_digits" (defArgs s__law_digits) (defBody s__law_digits) (defScope s__law_digits) [] [] f fd) : Binds K fd ["_law_text"] [] := (F.bindsN fun _ _ _ _ _ _ us hl => match us, hl with | [_], _ => rfl)
theorem cal__law_digits (F : FunD K "_law_digits" "_law_digits" (defArgs s__law_digits) (defBody s__law_digits) (defScope s__law_digits) [] [] f fd) (hm : mg "_law_digits" = some (.ref f)) (k : FnOk P w K mg base CX0 1 f fd ["_law_text"] (sp__law_digits K)) : Callee P w K mg base CX0 1 "_law_digits" ["_law_text"] [] (sp__law_digits K) :=
  ⟨f, fd, [], hm, k, F.kp, bd__law_digits F, .nil⟩
theorem ok__law_worth (F : FunD K "_law_worth" "_law_worth" (defArgs s__law_worth) (defBody s__law_worth) (defScope s__law_worth) [] [] f fd) (z_range : mg "range" = none) (z_len : mg "len" = none) (z_int : mg "int" = none) : FnOk P w K mg base CX0 1 f fd ["_law_text"] (sp__law_worth K) := by
  have nd := sc__law_worth.nd
  refine F.ok sc__law_worth (fun vs H Q E h => ?_) (fun cdv A outer s H vs Q E hr h => ⟨t__law_worth K, PSs.nox ?_, pure__law_worth vs H Q E h⟩)
  · first | exact len__law_worth vs H Q E h | exact len_gen vs H Q E h | (obtain ⟨_, _, rfl, _⟩ := h; rfl)
  · exact (pss_cons (ps_set (i := 1) nd rfl (Or.inl rfl) pe_int) (pss_cons (ps_for PassesOwn.never rfl (pi_range3 (by rfl) z_range (pa_cons pe_int (pa_cons (pe_callB call_lenU (by rfl) z_len (by decide +kernel) (pa_cons (pe_uVar 0) pa_nil)) (pa_cons pe_int pa_nil)))) (pg_name (i := 2) nd rfl (Or.inl rfl)) (pss_cons (ps_set (i := 3) nd rfl (Or.inl rfl) (pe_slice sl_U (pe_uVar 0) (po_uPart (pe_uVar 2)) (po_uPart (pe_op op_addI (pe_uVar 2) pe_int)))) (pss_cons (ps_for PassesOwn.never rfl (pi_U (pe_uVar 3)) (pg_name (i := 4) nd rfl (Or.inl rfl)) (pss_one (ps_set (i := 1) nd rfl (Or.inl rfl) (pe_op op_mulXU (pe_uVar 1) pe_int)))) (pss_one (ps_set (i := 1) nd rfl (Or.inl rfl) (pe_op op_addI (pe_uVar 1) (pe_callTy call_intT (by rfl) z_int (by decide +kernel) (pa_cons (pe_uVar 3) pa_nil)))))))) (pss_one (ps_ret (pe_uVar 1)))))
theorem bd__law_worth (F : FunD K "_law_worth" "_law_worth" (defArgs s__law_worth) (defBody s__law_worth) (defScope s__law_worth) [] [] f fd) : Binds K fd ["_law_text"] [] := (F.bindsN fun _ _ _ _ _ _ us hl => match us, hl with | [_], _ => rfl)
theorem cal__law_worth (F : FunD K "_law_worth" "_law_worth" (defArgs s__law_worth) (defBody s__law_worth) (defScope s__law_worth) [] [] f fd) (hm : mg "_law_worth" = some (.ref f)) (k : FnOk P w K mg base CX0 1 f fd ["_law_text"] (sp__law_worth K)) : Callee P w K mg base CX0 1 "_law_worth" ["_law_text"] [] (sp__law_worth K) :=
  ⟨f, fd, [], hm, k, F.kp, bd__law_worth F, .nil⟩
theorem ok__law_row (F : FunD K "_law_row" "_law_row" (defArgs s__law_row) (defBody s__law_row) (defScope s__law_row) [] [] f fd) (z_len : mg "len" = none) (z_any : mg "any" = none) (c__law_small : Callee P w K mg base CX0 1 "_law_small" ["_law_text"] [] (sp__law_small K)) (c__law_digits : Callee P w K mg base CX0 1 "_law_digits" ["_law_text"] [] (sp__law_digits K)) (c__law_worth : Callee P w K mg base CX0 1 "_law_worth" ["_law_text"] [] (sp__law_worth K)) : FnOk P w K mg base CX0 2 f fd ["_law_line_here"] (sp__law_row K) := by
  have nd := sc__law_row.nd
  refine F.ok sc__law_row (fun vs H Q E h => ?_) (fun cdv A outer s H vs Q E hr h => ⟨t__law_row K, PSs.nox ?_, pure__law_row vs H Q E h⟩)
  · first | exact len__law_row vs H Q E h | exact len_gen vs H Q E h | (obtain ⟨_, _, rfl, _⟩ := h; rfl)
  · exact (pss_cons (ps_if (pt_cmpR (op_ltU) (pe_callB call_lenU (by rfl) z_len (by decide +kernel) (pa_cons (pe_uVar 0) pa_nil)) pe_int (nomark _)) (pss_one (ps_ret pe_non)) pss_nil) (pss_cons (ps_set (i := 1) nd rfl (Or.inl rfl) (pe_bm PySem.F.plainAttrs_str PySem.F.slot_str_rstrip PySem.F.type_str_rstrip mt_rsU (pe_slice sl_U (pe_uVar 0) po_none (po_uPart pe_int)) (pa_cons pe_str pa_nil))) (pss_cons (ps_if (PW.pt (pw_or (pt_cmpR (op_eqS) (pe_callB call_lenU (by rfl) z_len (by decide +kernel) (pa_cons (pe_uVar 1) pa_nil)) pe_int (nomark _)) (pw_or1 (pt_uTru (pe_callB (call_anyU rfl) (by rfl) z_any (by decide +kernel) (pa_cons (pe_lc (own := [("_law_letter", 2)]) (g := (gName 2)) (tt := tYes) rfl nd (pi_U (pe_uVar 1)) (blkOk_by (N := N__law_row) (sc := defScope s__law_row) (by decide +kernel)) (fun _ _ _ _ _ => (pg_name (i := 2) nd rfl (Or.inl rfl))) (fun _ _ _ _ _ => pts_nil) (fun _ _ _ _ _ => (pe_cmpR (op_notInU) (pe_uVar 2) pe_str rfl))) pa_nil)))))) (pss_one (ps_ret pe_non)) pss_nil) (pss_cons (ps_if (PW.pt (pw_or (pt_cmpR (op_neS) (pe_ix ix_U (pe_uVar 0) pe_int (fun _ _ => rfl)) pe_str (nomark _)) (pw_or (pt_cmpR (op_neS) (pe_ix ix_U (pe_uVar 0) pe_int (fun _ _ => rfl)) pe_str (nomark _)) (pw_or (pt_cmpR (op_neS) (pe_ix ix_U (pe_uVar 0) pe_int (fun _ _ => rfl)) pe_str (nomark _)) (pw_or1 (pt_cmpR (op_neS) (pe_ix ix_U (pe_uVar 0) pe_int (fun _ _ => rfl)) pe_str (nomark _))))))) (pss_one (ps_ret pe_non)) pss_nil) (pss_cons (ps_if (PW.pt (pw_or (pt_cmpR (op_notInU) (pe_slice sl_U (pe_uVar 0) (po_uPart pe_int) (po_uPart pe_int)) (pe_tup (pa_cons pe_str (pa_cons pe_str pa_nil))) rfl) (pw_or (pt_cmpR (op_ltU) (pe_cal c__law_small (hr.mono (by decide)) (pa_cons (pe_slice sl_U (pe_uVar 0) (po_uPart pe_int) (po_uPart pe_int)) pa_nil)) pe_int (nomark _)) (pw_or1 (pt_cmpR (op_ltU) (pe_cal c__law_small (hr.mono (by decide)) (pa_cons (pe_slice sl_U (pe_uVar 0) (po_uPart pe_int) (po_uPart pe_int)) pa_nil)) pe_int (nomark _)))))) (pss_one (ps_ret pe_non)) pss_nil) (pss_cons (ps_if (pt_not (pt_uTru (pe_cal c__law_digits (hr.mono (by decide)) (pa_cons (pe_slice sl_U (pe_uVar 0) (po_uPart pe_int) po_none) pa_nil)))) (pss_one (ps_ret pe_non)) pss_nil) (pss_one (ps_ret (pe_tup (pa_cons (pe_uVar 1) (pa_cons (pe_cal c__law_small (hr.mono (by decide)) (pa_cons (pe_slice sl_U (pe_uVar 0) (po_uPart pe_int) (po_uPart pe_int)) pa_nil)) (pa_cons (pe_cal c__law_small (hr.mono (by decide)) (pa_cons (pe_slice sl_U (pe_uVar 0) (po_uPart pe_int) (po_uPart pe_int)) pa_nil)) (pa_cons (pe_cmpR (op_eqS) (pe_slice sl_U (pe_uVar 0) (po_uPart pe_int) (po_uPart pe_int)) pe_str (nomark _)) (pa_cons (pe_cal c__law_worth (hr.mono (by decide)) (pa_cons (pe_slice sl_U (pe_uVar 0) (po_uPart pe_int) po_none) pa_nil)) pa_nil))))))))))))))
theorem bd__law_row (F : FunD K "_law_row" "_law_row" (defArgs s__law_row) (defBody s__law_row) (defScope s__law_row) [] [] f fd) : Binds K fd ["_law_line_here"] [] := (F.bindsN fun _ _ _ _ _ _ us hl => match us, hl with | [_], _ => rfl)
theorem cal__law_row (F : FunD K "_law_row" "_law_row" (defArgs s__law_row) (defBody s__law_row) (defScope s__law_row) [] [] f fd) (hm : mg "_law_row" = some (.ref f)) (k : FnOk P w K mg base CX0 2 f fd ["_law_line_here"] (sp__law_row K)) : Callee P w K mg base CX0 2 "_law_row" ["_law_line_here"] [] (sp__law_row K) :=
  ⟨f, fd, [], hm, k, F.kp, bd__law_row F, .nil⟩
theorem ok__law_begin (F : FunD K "_law_begin" "_law_begin" (defArgs s__law_begin) (defBody s__law_begin) (defScope s__law_begin) [] [] f fd) (z_list : mg "list" = none) : FnOk P w K mg base CX0 1 f fd ["_law_script"] (sp__law_begin K) := by
  have nd := sc__law_begin.nd
  refine F.ok sc__law_begin (fun vs H Q E h => ?_) (fun cdv A outer s H vs Q E hr h => ⟨t__law_begin K, PSs.nox ?_, pure__law_begin vs H Q E h⟩)
  · first | exact len__law_begin vs H Q E h | exact len_gen vs H Q E h | (obtain ⟨_, _, rfl, _⟩ := h; rfl)
  · exact (pss_one (ps_ret (pe_lst (pa_cons (pe_callTy call_list_of (by rfl) z_list (by decide +kernel) (pa_cons (pe_uVar 0) pa_nil)) (pa_cons pe_int (pa_cons pe_int (pa_cons pe_int pa_nil)))))))
theorem bd__law_begin (F : FunD K "_law_begin" "_law_begin" (defArgs s__law_begin) (defBody s__law_begin) (defScope s__law_begin) [] [] f fd) : Binds K fd ["_law_script"] [] := (F.bindsN fun _ _ _ _ _ _ us hl => match us, hl with | [_], _ => rfl)
theorem cal__law_begin (F : FunD K "_law_begin" "_law_begin" (defArgs s__law_begin) (defBody s__law_begin) (defScope s__law_begin) [] [] f fd) (hm : mg "_law_begin" = some (.ref f)) (k : FnOk P w K mg base CX0 1 f fd ["_law_script"] (sp__law_begin K)) : Callee P w K mg base CX0 1 "_law_begin" ["_law_script"] [] (sp__law_begin K) :=
  ⟨f, fd, [], hm, k, F.kp, bd__law_begin F, .nil⟩
theorem ok__law_draw (F : FunD K "_law_draw" "_law_draw" (defArgs s__law_draw) (defBody s__law_draw) (defScope s__law_draw) [] [] f fd) (z_len : mg "len" = none) (z_int : mg "int" = none) : FnOk P w K mg base CX0 1 f fd ["_law_draws", "_law_many"] (sp__law_draw K) := by
  have nd := sc__law_draw.nd
  refine F.ok sc__law_draw (fun vs H Q E h => ?_) (fun cdv A outer s H vs Q E hr h => ⟨t__law_draw K, PSs.nox ?_, pure__law_draw vs H Q E h⟩)
  · first | exact len__law_draw vs H Q E h | exact len_gen vs H Q E h | (obtain ⟨_, _, rfl, _⟩ := h; rfl)
  · exact (pss_cons (ps_if (pt_cmpR (op_eqS) (pe_ix ix_U (pe_uVar 0) pe_int (fun _ _ => rfl)) pe_int (nomark _)) (pss_one (ps_if (pt_cmpR (op_ltU) (pe_ix ix_U (pe_uVar 0) pe_int (fun _ _ => rfl)) (pe_callB call_lenU (by rfl) z_len (by decide +kernel) (pa_cons (pe_ix ix_U (pe_uVar 0) pe_int (fun _ _ => rfl)) pa_nil)) (nomark _)) (pss_cons (ps_set (i := 2) nd rfl (Or.inl rfl) (pe_ix ix_U (pe_ix ix_U (pe_uVar 0) pe_int (fun _ _ => rfl)) (pe_ix ix_U (pe_uVar 0) pe_int (fun _ _ => rfl)) (fun _ _ => rfl))) (pss_cons (ps_asg (pe_op op_addI (pe_ix ix_U (pe_uVar 0) pe_int (fun _ _ => rfl)) pe_int) (pg_sub (pe_uVar 0) pe_int set_U)) (pss_one (ps_if (pt_cmpR (op_geU) (pe_uVar 2) (pe_op op_powU pe_int pe_int) (nomark _)) (pss_one (ps_asg (pe_uVar 2) (pg_sub (pe_uVar 0) pe_int set_U))) (pss_one (ps_asg (pe_op op_modU (pe_callTy call_intU (by rfl) z_int (by decide +kernel) (pa_cons (pe_op op_addI (pe_op op_addI (pe_op op_mulI (pe_ix ix_U (pe_uVar 0) pe_int (fun _ _ => rfl)) pe_int) (pe_op op_mulI (pe_uVar 2) pe_int)) pe_int) pa_nil)) pe_int) (pg_sub (pe_uVar 0) pe_int set_U))))))) (pss_one (ps_asg (pe_op op_modU (pe_callTy call_intU (by rfl) z_int (by decide +kernel) (pa_cons (pe_op op_addI (pe_op op_mulI (pe_ix ix_U (pe_uVar 0) pe_int (fun _ _ => rfl)) pe_int) pe_int) pa_nil)) pe_int) (pg_sub (pe_uVar 0) pe_int set_U))))) pss_nil) (pss_cons (ps_if (pt_cmpR (op_gtU) (pe_ix ix_U (pe_uVar 0) pe_int (fun _ _ => rfl)) pe_int (nomark _)) (pss_cons (ps_set (i := 3) nd rfl (Or.inl rfl) (pe_op op_modU (pe_callTy call_intU (by rfl) z_int (by decide +kernel) (pa_cons (pe_ix ix_U (pe_uVar 0) pe_int (fun _ _ => rfl)) pa_nil)) (pe_uVar 1))) (pss_cons (ps_asg (pe_op op_divU (pe_ix ix_U (pe_uVar 0) pe_int (fun _ _ => rfl)) (pe_uVar 1)) (pg_sub (pe_uVar 0) pe_int set_U)) (pss_one (ps_ret (pe_uVar 3))))) pss_nil) (pss_one (ps_ret (pe_op op_modU (pe_op op_modU (pe_callTy call_intU (by rfl) z_int (by decide +kernel) (pa_cons (pe_op op_mulI (pe_ix ix_U (pe_uVar 0) pe_int (fun _ _ => rfl)) pe_int) pa_nil)) pe_int) (pe_uVar 1))))))
theorem bd__law_draw (F : FunD K "_law_draw" "_law_draw" (defArgs s__law_draw) (defBody s__law_draw) (defScope s__law_draw) [] [] f fd) : Binds K fd ["_law_draws", "_law_many"] [] := (F.bindsN fun _ _ _ _ _ _ us hl => match us, hl with | [_, _], _ => rfl)
theorem cal__law_draw (F : FunD K "_law_draw" "_law_draw" (defArgs s__law_draw) (defBody s__law_draw) (defScope s__law_draw) [] [] f fd) (hm : mg "_law_draw" = some (.ref f)) (k : FnOk P w K mg base CX0 1 f fd ["_law_draws", "_law_many"] (sp__law_draw K)) : Callee P w K mg base CX0 1 "_law_draw" ["_law_draws", "_law_many"] [] (sp__law_draw K) :=
  ⟨f, fd, [], hm, k, F.kp, bd__law_draw F, .nil⟩
theorem ok__law_mark (F : FunD K "_law_mark" "_law_mark" (defArgs s__law_mark) (defBody s__law_mark) (defScope s__law_mark) [] [] f fd) (z_range : mg "range" = none) (c__law_draw : Callee P w K mg base CX0 1 "_law_draw" ["_law_draws", "_law_many"] [] (sp__law_draw K)) : FnOk P w K mg base CX0 2 f fd ["_law_draws"] (sp__law_mark K) := by
  have nd := sc__law_mark.nd
  refine F.ok sc__law_mark (fun vs H Q E h => ?_) (fun cdv A outer s H vs Q E hr h => ⟨t__law_mark K, PSs.nox ?_, pure__law_mark vs H Q E h⟩)
  · first | exact len__law_mark vs H Q E h | exact len_gen vs H Q E h | (obtain ⟨_, _, rfl, _⟩ := h; rfl)
  · exact (pss_cons (ps_set (i := 1) nd rfl (Or.inl rfl) (pe_lst (pa_cons pe_str (pa_cons pe_str (pa_cons pe_str (pa_cons pe_str (pa_cons pe_str (pa_cons pe_str (pa_cons pe_str (pa_cons pe_str pa_nil)))))))))) (pss_cons (ps_set (i := 2) nd rfl (Or.inl rfl) (pe_cal c__law_draw (hr.mono (by decide)) (pa_cons (pe_uVar 0) (pa_cons pe_int pa_nil)))) (pss_cons (ps_if (pt_cmpR (op_ltU) (pe_uVar 2) pe_int (nomark _)) (pss_one (ps_ret (pe_ix ix_U (pe_uVar 1) (pe_uVar 2) (fun _ _ => rfl)))) pss_nil) (pss_cons (ps_set (i := 3) nd rfl (Or.inr rfl) pe_str) (pss_cons (ps_set (i := 4) nd rfl (Or.inl rfl) (pe_op op_addI pe_int (pe_cal c__law_draw (hr.mono (by decide)) (pa_cons (pe_uVar 0) (pa_cons pe_int pa_nil))))) (pss_one (ps_ret (pe_bm PySem.F.plainAttrs_str PySem.F.slot_str_join PySem.F.type_str_join mt_joinU pe_str (pa_cons (pe_lc (own := [("_law_k", 5)]) (g := (gName 5)) (tt := tYes) rfl nd (pi_range1 (by rfl) z_range (pa_cons (pe_uVar 4) pa_nil)) (blkOk_by (N := N__law_mark) (sc := defScope s__law_mark) (by decide +kernel)) (fun _ _ _ _ _ => (pg_name (i := 5) nd rfl (Or.inl rfl))) (fun _ _ _ _ _ => pts_nil) (fun _ _ _ _ _ => (pe_ix ix_U (pe_uVar 3) (pe_cal c__law_draw (hr.mono (by decide)) (pa_cons (pe_uVar 0) (pa_cons pe_int pa_nil))) (fun _ _ => rfl)))) pa_nil)))))))))
theorem bd__law_mark (F : FunD K "_law_mark" "_law_mark" (defArgs s__law_mark) (defBody s__law_mark) (defScope s__law_mark) [] [] f fd) : Binds K fd ["_law_draws"] [] := (F.bindsN fun _ _ _ _ _ _ us hl => match us, hl with | [_], _ => rfl)
theorem cal__law_mark (F : FunD K "_law_mark" "_law_mark" (defArgs s__law_mark) (defBody s__law_mark) (defScope s__law_mark) [] [] f fd) (hm : mg "_law_mark" = some (.ref f)) (k : FnOk P w K mg base CX0 2 f fd ["_law_draws"] (sp__law_mark K)) : Callee P w K mg base CX0 2 "_law_mark" ["_law_draws"] [] (sp__law_mark K) :=
  ⟨f, fd, [], hm, k, F.kp, bd__law_mark F, .nil⟩
theorem ok__law_line (F : FunD K "_law_line" "_law_line" (defArgs s__law_line) (defBody s__law_line) (defScope s__law_line) [] [] f fd) (z_range : mg "range" = none) (z_len : mg "len" = none) (z_str : mg "str" = none) (z_int : mg "int" = none) (c__law_draw : Callee P w K mg base CX0 1 "_law_draw" ["_law_draws", "_law_many"] [] (sp__law_draw K)) (c__law_mark : Callee P w K mg base CX0 2 "_law_mark" ["_law_draws"] [] (sp__law_mark K)) : FnOk P w K mg base CX0 3 f fd ["_law_draws"] (sp__law_line K) := by
  have nd := sc__law_line.nd
  refine F.ok sc__law_line (fun vs H Q E h => ?_) (fun cdv A outer s H vs Q E hr h => ⟨t__law_line K, PSs.nox ?_, pure__law_line vs H Q E h⟩)
  · first | exact len__law_line vs H Q E h | exact len_gen vs H Q E h | (obtain ⟨_, _, rfl, _⟩ := h; rfl)
  · exact (pss_cons (ps_set (i := 1) nd rfl (Or.inl rfl) (pe_cal c__law_mark (hr.mono (by decide)) (pa_cons (pe_uVar 0) pa_nil))) (pss_cons (ps_set (i := 2) nd rfl (Or.inl rfl) (pe_ix ix_U (pe_lst (pa_cons pe_int (pa_cons pe_int (pa_cons pe_int (pa_cons pe_int (pa_cons pe_int (pa_cons pe_int pa_nil))))))) (pe_cal c__law_draw (hr.mono (by decide)) (pa_cons (pe_uVar 0) (pa_cons pe_int pa_nil))) (fun _ _ => rfl))) (pss_cons (ps_set (i := 3) nd rfl (Or.inl rfl) (pe_ix ix_U (pe_lst (pa_cons pe_int (pa_cons pe_int (pa_cons pe_int (pa_cons pe_int (pa_cons pe_int (pa_cons pe_int pa_nil))))))) (pe_cal c__law_draw (hr.mono (by decide)) (pa_cons (pe_uVar 0) (pa_cons pe_int pa_nil))) (fun _ _ => rfl))) (pss_cons (ps_set (i := 4) nd rfl (Or.inl rfl) pe_str) (pss_cons (ps_if (pt_cmpR (op_gtU) (pe_cal c__law_draw (hr.mono (by decide)) (pa_cons (pe_uVar 0) (pa_cons pe_int pa_nil))) pe_int (nomark _)) (pss_cons (ps_set (i := 5) nd rfl (Or.inl rfl) (pe_ix ix_U (pe_lst (pa_cons pe_int (pa_cons pe_int (pa_cons pe_int (pa_cons pe_int (pa_cons pe_int (pa_cons pe_int pa_nil))))))) (pe_cal c__law_draw (hr.mono (by decide)) (pa_cons (pe_uVar 0) (pa_cons pe_int pa_nil))) (fun _ _ => rfl))) (pss_one (ps_set (i := 4) nd rfl (Or.inl rfl) (pe_op op_addS (pe_ix ix_U pe_str (pe_cal c__law_draw (hr.mono (by decide)) (pa_cons (pe_uVar 0) (pa_cons pe_int pa_nil))) (fun _ _ => rfl)) (pe_bm PySem.F.plainAttrs_str PySem.F.slot_str_join PySem.F.type_str_join mt_joinU pe_str (pa_cons (pe_lc (own := [("_law_k", 8)]) (g := (gName 8)) (tt := tYes) rfl nd (pi_range1 (by rfl) z_range (pa_cons (pe_uVar 5) pa_nil)) (blkOk_by (N := N__law_line) (sc := defScope s__law_line) (by decide +kernel)) (fun _ _ _ _ _ => (pg_name (i := 8) nd rfl (Or.inl rfl))) (fun _ _ _ _ _ => pts_nil) (fun _ _ _ _ _ => (pe_ix ix_U pe_str (pe_op op_modU (pe_callTy call_intU (by rfl) z_int (by decide +kernel) (pa_cons (pe_op op_mulI (pe_uVar 8) pe_int) pa_nil)) pe_int) (fun _ _ => rfl)))) pa_nil)))))) pss_nil) (pss_cons (ps_set (i := 6) nd rfl (Or.inl rfl) (pe_op op_addS (pe_op op_addS (pe_uVar 1) (pe_bm PySem.F.plainAttrs_str PySem.F.slot_str_join PySem.F.type_str_join mt_joinU pe_str (pa_cons (pe_lc (own := [("_law_k", 8)]) (g := (gName 8)) (tt := tYes) rfl nd (pi_range1 (by rfl) z_range (pa_cons (pe_op op_subU pe_int (pe_callB call_lenU (by rfl) z_len (by decide +kernel) (pa_cons (pe_uVar 1) pa_nil))) pa_nil)) (blkOk_by (N := N__law_line) (sc := defScope s__law_line) (by decide +kernel)) (fun _ _ _ _ _ => (pg_name (i := 8) nd rfl (Or.inl rfl))) (fun _ _ _ _ _ => pts_nil) (fun _ _ _ _ _ => pe_str)) pa_nil))) pe_str)) (pss_cons (ps_for PassesOwn.never rfl (pi_U (pe_lst (pa_cons (pe_uVar 2) (pa_cons (pe_uVar 3) pa_nil)))) (pg_name (i := 7) nd rfl (Or.inl rfl)) (pss_one (ps_set (i := 6) nd rfl (Or.inl rfl) (pe_op op_addS (pe_op op_addS (pe_op op_addS (pe_uVar 6) (pe_bm PySem.F.plainAttrs_str PySem.F.slot_str_join PySem.F.type_str_join mt_joinU pe_str (pa_cons (pe_lc (own := [("_law_k", 8)]) (g := (gName 8)) (tt := tYes) rfl nd (pi_range1 (by rfl) z_range (pa_cons (pe_op op_subU pe_int (pe_callB call_lenU (by rfl) z_len (by decide +kernel) (pa_cons (pe_callTy call_strI (by rfl) z_str (by decide +kernel) (pa_cons (pe_uVar 7) pa_nil)) pa_nil))) pa_nil)) (blkOk_by (N := N__law_line) (sc := defScope s__law_line) (by decide +kernel)) (fun _ _ _ _ _ => (pg_name (i := 8) nd rfl (Or.inl rfl))) (fun _ _ _ _ _ => pts_nil) (fun _ _ _ _ _ => pe_str)) pa_nil))) (pe_callTy call_strI (by rfl) z_str (by decide +kernel) (pa_cons (pe_uVar 7) pa_nil))) pe_str)))) (pss_one (ps_ret (pe_op op_addS (pe_op op_addS (pe_op op_addS (pe_op op_addU (pe_uVar 6) (pe_ix ix_U (pe_lst (pa_cons pe_str (pa_cons pe_str pa_nil))) (pe_cal c__law_draw (hr.mono (by decide)) (pa_cons (pe_uVar 0) (pa_cons pe_int pa_nil))) (fun _ _ => rfl))) pe_str) (pe_uVar 4)) pe_str))))))))))
theorem bd__law_line (F : FunD K "_law_line" "_law_line" (defArgs s__law_line) (defBody s__law_line) (defScope s__law_line) [] [] f fd) : Binds K fd ["_law_draws"] [] := (F.bindsN fun _ _ _ _ _ _ us hl => match us, hl with | [_], _ => rfl)
theorem cal__law_line (F : FunD K "_law_line" "_law_line" (defArgs s__law_line) (defBody s__law_line) (defScope s__law_line) [] [] f fd) (hm : mg "_law_line" = some (.ref f)) (k : FnOk P w K mg base CX0 3 f fd ["_law_draws"] (sp__law_line K)) : Callee P w K mg base CX0 3 "_law_line" ["_law_draws"] [] (sp__law_line K) :=
  ⟨f, fd, [], hm, k, F.kp, bd__law_line F, .nil⟩
theorem ok_law (F : FunD K "law" "law" (defArgs s_law) (defBody s_law) (defScope s_law) [] [] f fd) (hm_BadRow : mg "BadRow" = some (.ref (He.ga K "BadRow"))) (z_isinstance : mg "isinstance" = none) (hm_ReelError : mg "ReelError" = some (.ref (He.ga K "ReelError"))) (z_range : mg "range" = none) (z_len : mg "len" = none) (z_min : mg "min" = none) (c_read_table : CalX P w K mg base 6 "read_table" (sp_read_table K)) (c__law_like : Callee P w K mg base CX0 10 "_law_like" ["_law_actual", "_law_due"] [] (sp__law_like K)) (c__law_row : Callee P w K mg base CX0 2 "_law_row" ["_law_line_here"] [] (sp__law_row K)) (c__law_begin : Callee P w K mg base CX0 1 "_law_begin" ["_law_script"] [] (sp__law_begin K)) (c__law_draw : Callee P w K mg base CX0 1 "_law_draw" ["_law_draws", "_law_many"] [] (sp__law_draw K)) (c__law_line : Callee P w K mg base CX0 3 "_law_line" ["_law_draws"] [] (sp__law_line K)) (fl : Fl K) : FnOk P w K mg base CX0 11 f fd ["_law_script"] (sp_law K) := by
  have nd := sc_law.nd
  refine F.ok sc_law (fun vs H Q E h => ?_) (fun cdv A outer s H vs Q E hr h => ⟨t_law K (He.ga K "BadRow") (He.ga K "ReelError"), PSs.nox ?_, pure_law fl vs H Q E h⟩)
  · first | exact len_law vs H Q E h | exact len_gen vs H Q E h | (obtain ⟨_, _, rfl, _⟩ := h; rfl)
  · exact (pss_cons (ps_set (i := 1) nd rfl (Or.inr rfl) (pe_cal c__law_begin (hr.mono (by decide)) (pa_cons (pe_uVar 0) pa_nil))) (pss_cons (ps_set (i := 3) nd rfl (Or.inl rfl) (pe_bm PySem.F.plainAttrs_str PySem.F.slot_str_join PySem.F.type_str_join mt_joinU pe_str (pa_cons (pe_lc (own := [("_law_k", 2)]) (g := (gName 2)) (tt := tYes) rfl nd (pi_range1 (by rfl) z_range (pa_cons (pe_op op_addI pe_int (pe_cal c__law_draw (hr.mono (by decide)) (pa_cons (pe_uVar 1) (pa_cons pe_int pa_nil)))) pa_nil)) (blkOk_by (N := N_law) (sc := defScope s_law) (by decide +kernel)) (fun _ _ _ _ _ => (pg_name (i := 2) nd rfl (Or.inl rfl))) (fun _ _ _ _ _ => pts_nil) (fun _ _ _ _ _ => (pe_cal c__law_line (hr.mono (by decide)) (pa_cons (pe_uVar 1) pa_nil)))) pa_nil))) (pss_cons (ps_for PassesOwn.never rfl (pi_range1 (by rfl) z_range (pa_cons (pe_cal c__law_draw (hr.mono (by decide)) (pa_cons (pe_uVar 1) (pa_cons pe_int pa_nil))) pa_nil)) (pg_name (i := 2) nd rfl (Or.inl rfl)) (pss_cons (ps_set (i := 4) nd rfl (Or.inl rfl) (pe_cal c__law_draw (hr.mono (by decide)) (pa_cons (pe_uVar 1) (pa_cons (pe_callB (call_minU rfl) (by rfl) z_min (by decide +kernel) (pa_cons (pe_callB call_lenU (by rfl) z_len (by decide +kernel) (pa_cons (pe_uVar 3) pa_nil)) (pa_cons pe_int pa_nil))) pa_nil)))) (pss_cons (ps_set (i := 5) nd rfl (Or.inl rfl) (pe_ix ix_U (pe_lst (pa_cons pe_str (pa_cons pe_str (pa_cons pe_str (pa_cons pe_str (pa_cons pe_str (pa_cons pe_str (pa_cons pe_str (pa_cons pe_str (pa_cons pe_str (pa_cons pe_str pa_nil))))))))))) (pe_cal c__law_draw (hr.mono (by decide)) (pa_cons (pe_uVar 1) (pa_cons pe_int pa_nil))) (fun _ _ => rfl))) (pss_cons (ps_set (i := 6) nd rfl (Or.inl rfl) (pe_cal c__law_draw (hr.mono (by decide)) (pa_cons (pe_uVar 1) (pa_cons pe_int pa_nil)))) (pss_cons (ps_if (pt_cmpR (op_eqS) (pe_uVar 6) pe_int (nomark _)) (pss_one (ps_set (i := 3) nd rfl (Or.inl rfl) (pe_op op_addU (pe_op op_addU (pe_slice sl_U (pe_uVar 3) po_none (po_uPart (pe_uVar 4))) (pe_uVar 5)) (pe_slice sl_U (pe_uVar 3) (po_uPart (pe_uVar 4)) po_none)))) pss_nil) (pss_cons (ps_if (pt_cmpR (op_eqS) (pe_uVar 6) pe_int (nomark _)) (pss_one (ps_set (i := 3) nd rfl (Or.inl rfl) (pe_op op_addU (pe_op op_addU (pe_slice sl_U (pe_uVar 3) po_none (po_uPart (pe_uVar 4))) (pe_uVar 5)) (pe_slice sl_U (pe_uVar 3) (po_uPart (pe_op op_addI (pe_uVar 4) pe_int)) po_none)))) pss_nil) (pss_cons (ps_if (pt_cmpR (op_eqS) (pe_uVar 6) pe_int (nomark _)) (pss_one (ps_set (i := 3) nd rfl (Or.inl rfl) (pe_op op_addU (pe_slice sl_U (pe_uVar 3) po_none (po_uPart (pe_uVar 4))) (pe_slice sl_U (pe_uVar 3) (po_uPart (pe_op op_addI (pe_uVar 4) pe_int)) po_none)))) pss_nil) (pss_cons (ps_if (pt_cmpR (op_eqS) (pe_uVar 6) pe_int (nomark _)) (pss_one (ps_set (i := 3) nd rfl (Or.inl rfl) (pe_slice sl_U (pe_uVar 3) po_none (po_uPart (pe_un un_neg pe_int))))) pss_nil) (pss_cons (ps_if (pt_cmpR (op_eqS) (pe_uVar 6) pe_int (nomark _)) (pss_one (ps_set (i := 3) nd rfl (Or.inl rfl) (pe_op op_addU (pe_uVar 3) (pe_uVar 5)))) pss_nil) (pss_one (ps_if (pt_cmpR (op_eqS) (pe_callB call_lenU (by rfl) z_len (by decide +kernel) (pa_cons (pe_uVar 3) pa_nil)) pe_int (nomark _)) (pss_one (ps_set (i := 3) nd rfl (Or.inl rfl) pe_str)) pss_nil))))))))))) (pss_cons (ps_set (i := 7) nd rfl (Or.inl rfl) (pe_bm PySem.F.plainAttrs_str PySem.F.slot_str_split PySem.F.type_str_split mt_splU (pe_uVar 3) (pa_cons pe_str pa_nil))) (pss_cons (ps_set (i := 8) nd rfl (Or.inl rfl) pe_int) (pss_cons (ps_set (i := 9) nd rfl (Or.inl rfl) (pe_lst pa_nil)) (pss_cons (ps_for PassesOwn.never rfl (pi_range1 (by rfl) z_range (pa_cons (pe_callB call_lenU (by rfl) z_len (by decide +kernel) (pa_cons (pe_uVar 7) pa_nil)) pa_nil)) (pg_name (i := 2) nd rfl (Or.inl rfl)) (pss_cons (ps_set (i := 10) nd rfl (Or.inl rfl) (pe_cal c__law_row (hr.mono (by decide)) (pa_cons (pe_ix ix_U (pe_uVar 7) (pe_uVar 2) (fun _ _ => rfl)) pa_nil))) (pss_cons (ps_if (PW.pt (pw_and (pt_cmpR (op_eqS) (pe_uVar 8) pe_int (nomark _)) (pw_and (PW.pt (pw_or (pt_cmpR (op_isNU) (pe_uVar 10) pe_non (nomark _)) (pw_or1 (pt_cmpR (op_eqS) (pe_uVar 2) (pe_op op_subU (pe_callB call_lenU (by rfl) z_len (by decide +kernel) (pa_cons (pe_uVar 7) pa_nil)) pe_int) (nomark _))))) (pw_and1 (pt_not (PW.pt (pw_and (pt_cmpR (op_eqS) (pe_uVar 2) (pe_op op_subU (pe_callB call_lenU (by rfl) z_len (by decide +kernel) (pa_cons (pe_uVar 7) pa_nil)) pe_int) (nomark _)) (pw_and1 (pt_cmpR (op_eqS) (pe_ix ix_U (pe_uVar 7) (pe_uVar 2) (fun _ _ => rfl)) pe_str (nomark _)))))))))) (pss_one (ps_set (i := 8) nd rfl (Or.inl rfl) (pe_op op_addI (pe_uVar 2) pe_int))) pss_nil) (pss_one (ps_expr (pe_bm PySem.F.plainAttrs_list PySem.F.slot_list_append PySem.F.type_list_append mt_append (pe_uVar 9) (pa_cons (pe_uVar 10) pa_nil))))))) (pss_cons (ps_set (i := 11) nd rfl (Or.inl rfl) pe_int) (pss_cons (ps_set (i := 12) nd rfl (Or.inl rfl) pe_non) (pss_cons (ps_try_as (i := 13) (tb := fun W => (tAsg (uCallX (sp_read_table K) W (tCons (uVar 3) tNil)) (gName 12))) (ts := fun a cls d => (tAsg (tLst (tCons (uXf K a cls d "line" 13) (tCons (tCB (rIsF K a cls d (.ref (He.ga K "ReelError")) (.ref (He.ga K "ReelError"))) (tCons (uVar 13) (tCons (tC (.ref (He.ga K "ReelError"))) tNil))) tNil))) (gName 11))) rfl rfl nd rfl rfl ⟨by rfl, by decide, .inl hm_BadRow⟩ takes0 (fun W pn xe tkb ownb => (pss_one (ps_set (i := 12) nd rfl (Or.inl rfl) (pe_calX c_read_table (hr.mono (by decide)) tkb (pa_cons (pe_uVar 3) pa_nil))))) (fun a oe cls d pn hz hf => (pss_one (ps_set (i := 11) nd rfl (Or.inl rfl) (pe_lst (pa_cons (pe_uXf (f := "line") hz hf (pe_uVar 13)) (pa_cons (pe_callB (call_isF (c := .ref (He.ga K "ReelError")) hz hf rel_ref) (by rfl) z_isinstance boot_isinstance (pa_cons (pe_uVar 13) (pa_cons (pe_glob (v := .ref (He.ga K "ReelError")) (by rfl) hm_ReelError rfl) pa_nil))) pa_nil))))))) (pss_cons (ps_if (pt_cmpR (op_gtU) (pe_uVar 8) pe_int (nomark _)) (pss_one (ps_ret (pe_cmpR (op_eqD hr.units) (pe_uVar 11) (pe_lst (pa_cons (pe_uVar 8) (pa_cons pe_bl pa_nil))) (nomark _)))) pss_nil) (pss_one (ps_ret (pe_and (pe_cmpR (op_eqS) (pe_uVar 11) pe_int (nomark _)) (pe_one (pe_cal c__law_like (hr.mono (by decide)) (pa_cons (pe_uVar 12) (pa_cons (pe_slice sl_U (pe_uVar 9) po_none (po_uPart (pe_un un_neg pe_int))) pa_nil))))))))))))))))))
theorem bd_law (F : FunD K "law" "law" (defArgs s_law) (defBody s_law) (defScope s_law) [] [] f fd) : Binds K fd ["_law_script"] [] := (F.bindsN fun _ _ _ _ _ _ us hl => match us, hl with | [_], _ => rfl)
theorem cal_law (F : FunD K "law" "law" (defArgs s_law) (defBody s_law) (defScope s_law) [] [] f fd) (hm : mg "law" = some (.ref f)) (k : FnOk P w K mg base CX0 11 f fd ["_law_script"] (sp_law K)) : Callee P w K mg base CX0 11 "law" ["_law_script"] [] (sp_law K) :=
  ⟨f, fd, [], hm, k, F.kp, bd_law F, .nil⟩
end
def d_small_of : Hd.DefU := ⟨fun K => He.ga K "small_of", "small_of", "small_of", defArgs s_small_of, defBody s_small_of, defScope s_small_of, [], []⟩
def d_wrong_place : Hd.DefU := ⟨fun K => He.ga K "wrong_place", "wrong_place", "wrong_place", defArgs s_wrong_place, defBody s_wrong_place, defScope s_wrong_place, [], []⟩
def d_BadNumber_init : Hd.DefU := ⟨fun K => Hd.iniA K (He.ga K "BadNumber"), "__init__", "BadNumber.__init__", defArgs s_BadNumber_init, defBody s_BadNumber_init, defScope s_BadNumber_init, [], []⟩
def d_number : Hd.DefU := ⟨fun K => He.ga K "number", "number", "number", defArgs s_number, defBody s_number, defScope s_number, [], []⟩
def d_integer_of : Hd.DefU := ⟨fun K => He.ga K "integer_of", "integer_of", "integer_of", defArgs s_integer_of, defBody s_integer_of, defScope s_integer_of, [], []⟩
def d_is_mark : Hd.DefU := ⟨fun K => He.ga K "is_mark", "is_mark", "is_mark", defArgs s_is_mark, defBody s_is_mark, defScope s_is_mark, [], []⟩
def d_row_of : Hd.DefU := ⟨fun K => He.ga K "row_of", "row_of", "row_of", defArgs s_row_of, defBody s_row_of, defScope s_row_of, [], []⟩
def d_BadRow_init : Hd.DefU := ⟨fun K => Hd.iniA K (He.ga K "BadRow"), "__init__", "BadRow.__init__", defArgs s_BadRow_init, defBody s_BadRow_init, defScope s_BadRow_init, [], []⟩
def d_read_table : Hd.DefU := ⟨fun K => He.ga K "read_table", "read_table", "read_table", defArgs s_read_table, defBody s_read_table, defScope s_read_table, [], []⟩
def d__law_like : Hd.DefU := ⟨fun K => He.ga K "_law_like", "_law_like", "_law_like", defArgs s__law_like, defBody s__law_like, defScope s__law_like, [], []⟩
def d__law_small : Hd.DefU := ⟨fun K => He.ga K "_law_small", "_law_small", "_law_small", defArgs s__law_small, defBody s__law_small, defScope s__law_small, [], []⟩
def d__law_digits : Hd.DefU := ⟨fun K => He.ga K "_law_digits", "_law_digits", "_law_digits", defArgs s__law_digits, defBody s__law_digits, defScope s__law_digits, [], []⟩
def d__law_worth : Hd.DefU := ⟨fun K => He.ga K "_law_worth", "_law_worth", "_law_worth", defArgs s__law_worth, defBody s__law_worth, defScope s__law_worth, [], []⟩
def d__law_row : Hd.DefU := ⟨fun K => He.ga K "_law_row", "_law_row", "_law_row", defArgs s__law_row, defBody s__law_row, defScope s__law_row, [], []⟩
def d__law_begin : Hd.DefU := ⟨fun K => He.ga K "_law_begin", "_law_begin", "_law_begin", defArgs s__law_begin, defBody s__law_begin, defScope s__law_begin, [], []⟩
def d__law_draw : Hd.DefU := ⟨fun K => He.ga K "_law_draw", "_law_draw", "_law_draw", defArgs s__law_draw, defBody s__law_draw, defScope s__law_draw, [], []⟩
def d__law_mark : Hd.DefU := ⟨fun K => He.ga K "_law_mark", "_law_mark", "_law_mark", defArgs s__law_mark, defBody s__law_mark, defScope s__law_mark, [], []⟩
def d__law_line : Hd.DefU := ⟨fun K => He.ga K "_law_line", "_law_line", "_law_line", defArgs s__law_line, defBody s__law_line, defScope s__law_line, [], []⟩
def d_law : Hd.DefU := ⟨fun K => He.ga K "law", "law", "law", defArgs s_law, defBody s_law, defScope s_law, [], []⟩
def fn : List Hd.DefU := [d_small_of, d_wrong_place, d_BadNumber_init, d_number, d_integer_of, d_is_mark, d_row_of, d_BadRow_init, d_read_table, d__law_like, d__law_small, d__law_digits, d__law_worth, d__law_row, d__law_begin, d__law_draw, d__law_mark, d__law_line, d_law]
def fa : List He.Fa := [.glo "small_of", .glo "wrong_place", .glo "number", .glo "integer_of", .glo "is_mark", .glo "row_of", .glo "read_table", .glo "_law_like", .glo "_law_small", .glo "_law_digits", .glo "_law_worth", .glo "_law_row", .glo "_law_begin", .glo "_law_draw", .glo "_law_mark", .glo "_law_line", .glo "law", .free "len", .free "int", .free "range", .free "isinstance", .free "str", .free "enumerate", .free "bool", .free "tuple", .free "list", .free "any", .free "min", .str "FIGURES" "0123456789", .str "DIGITS" "0123456789", .int "BLOCK" 50, .int "GREAT" 100000000000000000000000000000000000000000000000000, .str "LETTERS" "abcdefghijklmnopqrstuvwxyz", .int "WIDTH" 8, .glo "BadNumber", .glo "BadRow", .glo "ReelError"]
def ts : List He.Tab := []
def ex (K : PySem.W.Frag) : Bool := (Hd.oxB K (He.ga K "BadNumber") (He.ga K "BadNumber") && (Hd.oxB K (He.ga K "BadRow") (He.ga K "BadRow") && (FwB K && (FwrB K && (FlB K && true)))))
abbrev R : PySem.W.OpenRow := PySem.W.OpenLaw.row PySem.Challenge.rw_reelcode_k43_tables_refused
abbrev hk : PySem.W.Hook := Hd.hookV 6 fa fn ts ex
def ob (s : PySem.W.SharedT) : Hd.AlV := Hd.obsVG 6 fa fn ts ex (HandSHeadRun.getT s)
theorem ob_eq (s : PySem.W.SharedT) : ob s = hk.obs s.abs := Hd.obsVG_eq (HandSHeadRun.getT_eq s)
theorem run (w : World) : HandSHeadRun.RunEq R (PySem.W.view R.prog [30]) hk ob 12000 ["ReelError", "BadNumber", "BadRow", "LETTERS", "is_mark", "DIGITS", "BLOCK", "GREAT", "wrong_place", "number", "integer_of", "WIDTH", "FIGURES", "small_of", "row_of", "read_table", "_law_begin", "_law_draw", "_law_mark", "_law_like", "_law_small", "_law_digits", "_law_worth", "_law_row", "_law_line"] w := by
  intro os
  kernel_rfl
theorem facts {P : Program} {w : World} {K : PySem.W.Frag} {h : Heap} {mg : Str → Option Value} {f : Addr} (X : K.In h) (G : h.Ns mainGlobals mg) (hfa : mg ("law" : Str) = some (.ref f)) (c : Hd.SaysV fa fn ts ex w K) :
    ∃ fd : FuncData, (∀ (s : Shared) (v : Value), BindsTo s fd ⟨[v], []⟩ [("_law_script", v)]) ∧ ∀ base : Heap, K.In base → base.Ns mainGlobals mg → FnOk P w K mg base CX0 11 f fd ["_law_script"] (sp_law K) := by
  obtain ⟨fd_small_of, F_small_of⟩ := c.def_ 0 (d := d_small_of) rfl
  obtain ⟨fd_wrong_place, F_wrong_place⟩ := c.def_ 1 (d := d_wrong_place) rfl
  obtain ⟨fd_BadNumber_init, F_BadNumber_init⟩ := c.def_ 2 (d := d_BadNumber_init) rfl
  obtain ⟨fd_number, F_number⟩ := c.def_ 3 (d := d_number) rfl
  obtain ⟨fd_integer_of, F_integer_of⟩ := c.def_ 4 (d := d_integer_of) rfl
  obtain ⟨fd_is_mark, F_is_mark⟩ := c.def_ 5 (d := d_is_mark) rfl
  obtain ⟨fd_row_of, F_row_of⟩ := c.def_ 6 (d := d_row_of) rfl
  obtain ⟨fd_BadRow_init, F_BadRow_init⟩ := c.def_ 7 (d := d_BadRow_init) rfl
  obtain ⟨fd_read_table, F_read_table⟩ := c.def_ 8 (d := d_read_table) rfl
  obtain ⟨fd__law_like, F__law_like⟩ := c.def_ 9 (d := d__law_like) rfl
  obtain ⟨fd__law_small, F__law_small⟩ := c.def_ 10 (d := d__law_small) rfl
  obtain ⟨fd__law_digits, F__law_digits⟩ := c.def_ 11 (d := d__law_digits) rfl
  obtain ⟨fd__law_worth, F__law_worth⟩ := c.def_ 12 (d := d__law_worth) rfl
  obtain ⟨fd__law_row, F__law_row⟩ := c.def_ 13 (d := d__law_row) rfl
  obtain ⟨fd__law_begin, F__law_begin⟩ := c.def_ 14 (d := d__law_begin) rfl
  obtain ⟨fd__law_draw, F__law_draw⟩ := c.def_ 15 (d := d__law_draw) rfl
  obtain ⟨fd__law_mark, F__law_mark⟩ := c.def_ 16 (d := d__law_mark) rfl
  obtain ⟨fd__law_line, F__law_line⟩ := c.def_ 17 (d := d__law_line) rfl
  obtain ⟨fd_law, F_law⟩ := c.def_ 18 (d := d_law) rfl
  have g_small_of := He.glo_ok X G (c.fact 0 (f := .glo "small_of") rfl)
  have g_wrong_place := He.glo_ok X G (c.fact 1 (f := .glo "wrong_place") rfl)
  have g_number := He.glo_ok X G (c.fact 2 (f := .glo "number") rfl)
  have g_integer_of := He.glo_ok X G (c.fact 3 (f := .glo "integer_of") rfl)
  have g_is_mark := He.glo_ok X G (c.fact 4 (f := .glo "is_mark") rfl)
  have g_row_of := He.glo_ok X G (c.fact 5 (f := .glo "row_of") rfl)
  have g_read_table := He.glo_ok X G (c.fact 6 (f := .glo "read_table") rfl)
  have g__law_like := He.glo_ok X G (c.fact 7 (f := .glo "_law_like") rfl)
  have g__law_small := He.glo_ok X G (c.fact 8 (f := .glo "_law_small") rfl)
  have g__law_digits := He.glo_ok X G (c.fact 9 (f := .glo "_law_digits") rfl)
  have g__law_worth := He.glo_ok X G (c.fact 10 (f := .glo "_law_worth") rfl)
  have g__law_row := He.glo_ok X G (c.fact 11 (f := .glo "_law_row") rfl)
  have g__law_begin := He.glo_ok X G (c.fact 12 (f := .glo "_law_begin") rfl)
  have g__law_draw := He.glo_ok X G (c.fact 13 (f := .glo "_law_draw") rfl)
  have g__law_mark := He.glo_ok X G (c.fact 14 (f := .glo "_law_mark") rfl)
  have g__law_line := He.glo_ok X G (c.fact 15 (f := .glo "_law_line") rfl)
  have g_law := He.glo_ok X G (c.fact 16 (f := .glo "law") rfl)
  have z_len := He.free_ok X G (c.fact 17 (f := .free "len") rfl)
  have z_int := He.free_ok X G (c.fact 18 (f := .free "int") rfl)
  have z_range := He.free_ok X G (c.fact 19 (f := .free "range") rfl)
  have z_isinstance := He.free_ok X G (c.fact 20 (f := .free "isinstance") rfl)
  have z_str := He.free_ok X G (c.fact 21 (f := .free "str") rfl)
  have z_enumerate := He.free_ok X G (c.fact 22 (f := .free "enumerate") rfl)
  have z_bool := He.free_ok X G (c.fact 23 (f := .free "bool") rfl)
  have z_tuple := He.free_ok X G (c.fact 24 (f := .free "tuple") rfl)
  have z_list := He.free_ok X G (c.fact 25 (f := .free "list") rfl)
  have z_any := He.free_ok X G (c.fact 26 (f := .free "any") rfl)
  have z_min := He.free_ok X G (c.fact 27 (f := .free "min") rfl)
  have hc_FIGURES := He.str_ok X G (c.fact 28 (f := .str "FIGURES" "0123456789") rfl)
  have hc_DIGITS := He.str_ok X G (c.fact 29 (f := .str "DIGITS" "0123456789") rfl)
  have hc_BLOCK := He.int_ok X G (c.fact 30 (f := .int "BLOCK" 50) rfl)
  have hc_GREAT := He.int_ok X G (c.fact 31 (f := .int "GREAT" 100000000000000000000000000000000000000000000000000) rfl)
  have hc_LETTERS := He.str_ok X G (c.fact 32 (f := .str "LETTERS" "abcdefghijklmnopqrstuvwxyz") rfl)
  have hc_WIDTH := He.int_ok X G (c.fact 33 (f := .int "WIDTH" 8) rfl)
  have hm_BadNumber := He.glo_ok X G (c.fact 34 (f := .glo "BadNumber") rfl)
  have hm_BadRow := He.glo_ok X G (c.fact 35 (f := .glo "BadRow") rfl)
  have hm_ReelError := He.glo_ok X G (c.fact 36 (f := .glo "ReelError") rfl)
  have m := c.more
  unfold ex at m
  obtain ⟨m1, m⟩ := He.ba m
  have oe_BadNumber := Hd.oxB_ok m1
  obtain ⟨m1, m⟩ := He.ba m
  have oe_BadRow := Hd.oxB_ok m1
  obtain ⟨m1, m⟩ := He.ba m
  have fw := FwB_ok m1
  obtain ⟨m1, m⟩ := He.ba m
  have fwr := FwrB_ok m1
  obtain ⟨m1, m⟩ := He.ba m
  have fl := FlB_ok m1
  have e := hfa.symm.trans g_law
  cases e
  have b := FunD.bindsA (ps := ["_law_script"]) F_law fun _ _ _ _ _ _ us hl => match us, hl with | [_], _ => rfl
  refine ⟨fd_law, fun s v => b s [v] rfl, fun base _ _ => ?_⟩
  have k_small_of := ok_small_of (P := P) (w := w) (mg := mg) (base := base) F_small_of z_len hc_FIGURES z_int
  have c_small_of := cal_small_of F_small_of g_small_of k_small_of
  have k_wrong_place := ok_wrong_place (P := P) (w := w) (mg := mg) (base := base) F_wrong_place z_int z_len z_range hc_DIGITS
  have c_wrong_place := cal_wrong_place F_wrong_place g_wrong_place k_wrong_place
  have k_BadNumber_init := ok_BadNumber_init (P := P) (w := w) (mg := mg) (base := base) F_BadNumber_init 
  have ox_BadNumber : OxC P w K mg base 1 "BadNumber" (He.ga K "BadNumber") (sp_BadNumber_init K) := ⟨oe_BadNumber.1, hm_BadNumber, _, _, _, oe_BadNumber.2.1, oe_BadNumber.2.2, k_BadNumber_init, bd_BadNumber_init F_BadNumber_init⟩
  have k_number := ok_number (P := P) (w := w) (mg := mg) (base := base) F_number ox_BadNumber hm_BadNumber z_int z_len hc_BLOCK z_range hc_GREAT c_wrong_place fw
  have c_number := CalX.def_ (x := "number") k_number g_number F_number.kp (bd_number F_number)
  have k_integer_of := ok_integer_of (P := P) (w := w) (mg := mg) (base := base) F_integer_of c_wrong_place c_number
  have c_integer_of := CalX.def_ (x := "integer_of") k_integer_of g_integer_of F_integer_of.kp (bd_integer_of F_integer_of)
  have k_is_mark := ok_is_mark (P := P) (w := w) (mg := mg) (base := base) F_is_mark z_isinstance z_str z_len hc_LETTERS
  have c_is_mark := cal_is_mark F_is_mark g_is_mark k_is_mark
  have k_row_of := ok_row_of (P := P) (w := w) (mg := mg) (base := base) F_row_of hc_WIDTH c_small_of c_integer_of c_is_mark
  have c_row_of := CalX.def_ (x := "row_of") k_row_of g_row_of F_row_of.kp (bd_row_of F_row_of)
  have k_BadRow_init := ok_BadRow_init (P := P) (w := w) (mg := mg) (base := base) F_BadRow_init 
  have ox_BadRow : OxC P w K mg base 1 "BadRow" (He.ga K "BadRow") (sp_BadRow_init K) := ⟨oe_BadRow.1, hm_BadRow, _, _, _, oe_BadRow.2.1, oe_BadRow.2.2, k_BadRow_init, bd_BadRow_init F_BadRow_init⟩
  have k_read_table := ok_read_table (P := P) (w := w) (mg := mg) (base := base) F_read_table z_enumerate z_len ox_BadRow hm_BadRow c_row_of fwr
  have c_read_table := CalX.def_ (x := "read_table") k_read_table g_read_table F_read_table.kp (bd_read_table F_read_table)
  have k__law_like := ok__law_like (P := P) (w := w) (mg := mg) (base := base) F__law_like g__law_like z_isinstance z_bool z_int z_str z_tuple z_len z_list z_range
  have c__law_like := cal__law_like F__law_like g__law_like k__law_like
  have k__law_small := ok__law_small (P := P) (w := w) (mg := mg) (base := base) F__law_small z_len z_int
  have c__law_small := cal__law_small F__law_small g__law_small k__law_small
  have k__law_digits := ok__law_digits (P := P) (w := w) (mg := mg) (base := base) F__law_digits z_len z_any
  have c__law_digits := cal__law_digits F__law_digits g__law_digits k__law_digits
  have k__law_worth := ok__law_worth (P := P) (w := w) (mg := mg) (base := base) F__law_worth z_range z_len z_int
  have c__law_worth := cal__law_worth F__law_worth g__law_worth k__law_worth
  have k__law_row := ok__law_row (P := P) (w := w) (mg := mg) (base := base) F__law_row z_len z_any c__law_small c__law_digits c__law_worth
  have c__law_row := cal__law_row F__law_row g__law_row k__law_row
  have k__law_begin := ok__law_begin (P := P) (w := w) (mg := mg) (base := base) F__law_begin z_list
  have c__law_begin := cal__law_begin F__law_begin g__law_begin k__law_begin
  have k__law_draw := ok__law_draw (P := P) (w := w) (mg := mg) (base := base) F__law_draw z_len z_int
  have c__law_draw := cal__law_draw F__law_draw g__law_draw k__law_draw
  have k__law_mark := ok__law_mark (P := P) (w := w) (mg := mg) (base := base) F__law_mark z_range c__law_draw
  have c__law_mark := cal__law_mark F__law_mark g__law_mark k__law_mark
  have k__law_line := ok__law_line (P := P) (w := w) (mg := mg) (base := base) F__law_line z_range z_len z_str z_int c__law_draw c__law_mark
  have c__law_line := cal__law_line F__law_line g__law_line k__law_line
  have k_law := ok_law (P := P) (w := w) (mg := mg) (base := base) F_law hm_BadRow z_isinstance hm_ReelError z_range z_len z_min c_read_table c__law_like c__law_row c__law_begin c__law_draw c__law_line fl
  exact k_law
end K43
end U
open PySem PySem.W PySem.Calls PyProof.Rows
theorem PySem.Challenge.cw_reelcode_k43_tables_refused_holds : PySem.Challenge.rw_reelcode_k43_tables_refused.Holds := by
  w_on; o_law
  refine HandSHeadRun.head_any (r := OpenLaw.row PySem.Challenge.rw_reelcode_k43_tables_refused) (q := view (OpenLaw.row PySem.Challenge.rw_reelcode_k43_tables_refused).prog [30]) (H := U.K43.hk) (ob := U.K43.ob) (M := 12000) (loose := ["ReelError", "BadNumber", "BadRow", "LETTERS", "is_mark", "DIGITS", "BLOCK", "GREAT", "wrong_place", "number", "integer_of", "WIDTH", "FIGURES", "small_of", "row_of", "read_table", "_law_begin", "_law_draw", "_law_mark", "_law_like", "_law_small", "_law_digits", "_law_worth", "_law_row", "_law_line"]) (d := HandSHeadRun.topDef (OpenLaw.row PySem.Challenge.rw_reelcode_k43_tables_refused).prog 30) (kwd := []) U.K43.ob_eq
    (by kernel_rfl) (fun s => by kernel_rfl) U.K43.run (by kernel_rfl) (by kernel_rfl) (by kernel_rfl) (by rfl) (by first | assumption | decide +kernel) (by decide +kernel) ⟨rfl, rfl, rfl, rfl, rfl, by decide +kernel⟩ ?hw ?hc
  case hw => w_witness2
  case hc =>
    refine L2.walk_ofE (l := PySem.Challenge.rw_reelcode_k43_tables_refused) (n := 63) (k := 11) (x := "_law_script") (CX := L2.CX0) rfl (by decide) (by kernel_rfl) ⟨rfl, by decide, by decide⟩ ?F (fun _ _ _ _ z => z)
    intro w mg fa h Y G hmg0
    obtain ⟨K, KX, c⟩ := Y
    have hmg : mg ("law" : PySem.Str) = some (.ref fa) := by
      have e : (HandSHeadRun.topDef (OpenLaw.row PySem.Challenge.rw_reelcode_k43_tables_refused).prog 30).name = ("law" : PySem.Str) := by kernel_rfl
      rw [← e]
      exact hmg0
    obtain ⟨fd, hb, hF⟩ := U.K43.facts (P := (PySem.Challenge.rw_reelcode_k43_tables_refused).prog) (w := w) KX G hmg c
    exact ⟨K, fd, U.K43.sp_law K, KX, hb, fun H a ns hl hz hS => ⟨a, ns, rfl, hS, fun _ => rfl⟩, hF⟩
end
