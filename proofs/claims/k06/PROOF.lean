import PyProof.Rows.All
import Wide.All
import OpenK.AllK
import Wide.FinOn
import KE.KStateDown
import Lean
import HandS.ForMost
import HandS.TupAny
import HandS.TupMul
import HandS.IsInst
import HandS.Walk
import HandS.Style
import HandS.ClsMeth
import HandS.Defaults
import HandS.Evl
import HandS.Exc
import HandS.ExcOwn
import HandS.ExcIs
import HandS.TryMany
import HandS.TryOnly
import HandS.OwnEq
import HandS.WordsExc
import HandS.CallSlots
import HandS.ExcInit
import HandS.ExcField
import HandS.HeadHook1
import HandS.More
import HandS.Text
import HandS.StrMore
import HandS.WideBits
import HandS.Iter
import HandS.Head0
import HandS.Head1
import HandS.Head2
import HandS.HeadEnd
import HandS.HeadHook2
import HandS.HeadHook3
import KE.KDictIter
import KE.GoesMore
import PyProof.EnumMake
import HandS.DictComp
import HandS.Property
import PySem.Challenge.RW_reelcode_k06_rings_are_shown
set_option Elab.async false
set_option linter.all false
set_option maxRecDepth 100000
set_option maxHeartbeats 0
section
namespace U
open PySem PySem.Spec PyProof.Rows L2

theorem peOf {X : Cx} {e : Expr} {t t' : TE} (h : PE X e t) (m : ∀ σ H Q, t' σ H Q → t σ H Q) : PE X e t' := ⟨fun pins s σ H Q I q => h.run pins s σ H Q I (m σ H Q q)⟩
theorem ptOf {X : Cx} {e : Expr} {t t' : TT} (h : PT X e t) (m : ∀ σ H Q, t' σ H Q → t σ H Q) : PT X e t' := ⟨fun pins s σ H Q I q => h.run pins s σ H Q I (m σ H Q q)⟩
theorem psOf {X : Cx} {e : Stmt} {t t' : TS} (h : PS X e t) (m : ∀ D σ H, t' D σ H → t D σ H) : PS X e t' := ⟨fun pins s σ H D I q => h.run pins s σ H D I (m D σ H q)⟩
theorem poOf {X : Cx} {e : Option Expr} {t t' : TO} (h : PO X e t) (m : ∀ σ H Q, t' σ H Q → t σ H Q) : PO X e t' := ⟨fun pins s σ H Q I q => h.run pins s σ H Q I (m σ H Q q)⟩
theorem opOf {X : Cx} {f : Value → Value → Sem Value} {r r' : R2} (h : OpR X f r) (m : ∀ x y H Q, r' x y H Q → r x y H Q) : OpR X f r' := fun pins s σ H x y v u Q I rx ry q => h pins s σ H x y v u Q I rx ry (m x y H Q q)
theorem ixOf {X : Cx} {r r' : R2} (h : IxR X r) (m : ∀ x y H Q, r' x y H Q → r x y H Q) : IxR X r' := fun value slice pins s σ H x y v u Q I rx ry q hs => h value slice pins s σ H x y v u Q I rx ry (m x y H Q q) hs
theorem crOf {X : Cx} {f : Value} {r r' : List V → Hp → VK → Prop} (h : CallR X f r) (m : ∀ xs H Q, r' xs H Q → r xs H Q) : CallR X f r' := fun pins s σ H xs us Q I rx q => h pins s σ H xs us Q I rx (m xs H Q q)
theorem mtOf {X : Cx} {id : String} {r r' : V → List V → Hp → VK → Prop} (h : MtR X id r) (m : ∀ x xs H Q, r' x xs H Q → r x xs H Q) : MtR X id r' := by
  intro pins s
  intro σ H x xs v us Q I rx rs q
  exact h pins s σ H x xs v us Q I rx rs (m x xs H Q q)
theorem slOf {X : Cx} {r r' : V → Option Int → Option Int → Hp → VK → Prop} (h : SlR X r) (m : ∀ x l u H Q, r' x l u H Q → r x l u H Q) : SlR X r' := by
  intro pins s σ H x v vl vu lo hi sl Q I rx hs pl pu q
  exact h pins s σ H x v vl vu lo hi sl Q I rx hs pl pu (m x lo hi H Q q)

def seqAt (H : Hp) (p : Addr) : Option (List V) := match H p with
  | some (.lst xs) => some xs
  | some (.tup xs) => some xs
  | some (.frz _ (.lst xs)) => some xs
  | some (.frz _ (.tup xs)) => some xs
  | _ => none
theorem seqAt_cases {K : PySem.W.Frag} {H : Hp} {p : Addr} {xs : List V} (h : seqAt H p = some xs) : SqL K H p xs ∨ SqT K H p xs := by
  unfold seqAt at h
  split at h
  · rename_i ys e; cases h; exact .inl (.inl (.inl e))
  · rename_i ys e; cases h; exact .inr (.inl (.inl e))
  · rename_i o ys e; cases h; exact .inl (.inl (.inr ⟨o, e⟩))
  · rename_i o ys e; cases h; exact .inr (.inl (.inr ⟨o, e⟩))
  · cases h
theorem seqAt_lst {H : Hp} {p : Addr} {xs : List V} (h : H p = some (.lst xs)) : seqAt H p = some xs := by unfold seqAt; rw [h]
theorem seqAt_tup {H : Hp} {p : Addr} {xs : List V} (h : H p = some (.tup xs)) : seqAt H p = some xs := by unfold seqAt; rw [h]

inductive Ty where
  | non | bl | int | str | lst | tup | dict
  deriving DecidableEq
def Ty.name : Ty → String
  | .non => "NoneType" | .bl => "bool" | .int => "int" | .str => "str" | .lst => "list" | .tup => "tuple" | .dict => "dict"
def Ty.isa : Ty → Ty → Bool
  | .non, .non => true | .bl, .bl => true | .int, .int => true | .str, .str => true | .lst, .lst => true | .tup, .tup => true | .dict, .dict => true
  | .bl, .int => true
  | _, _ => false
theorem isa_tab : (Ty.non.isa .non = true) ∧ (Ty.non.isa .bl = false) ∧ (Ty.non.isa .int = false) ∧ (Ty.non.isa .str = false) ∧ (Ty.non.isa .lst = false) ∧ (Ty.non.isa .tup = false) ∧ (Ty.non.isa .dict = false) ∧ (Ty.bl.isa .non = false) ∧ (Ty.bl.isa .bl = true) ∧ (Ty.bl.isa .int = true) ∧ (Ty.bl.isa .str = false) ∧ (Ty.bl.isa .lst = false) ∧ (Ty.bl.isa .tup = false) ∧ (Ty.bl.isa .dict = false) ∧ (Ty.int.isa .non = false) ∧ (Ty.int.isa .bl = false) ∧ (Ty.int.isa .int = true) ∧ (Ty.int.isa .str = false) ∧ (Ty.int.isa .lst = false) ∧ (Ty.int.isa .tup = false) ∧ (Ty.int.isa .dict = false) ∧ (Ty.str.isa .non = false) ∧ (Ty.str.isa .bl = false) ∧ (Ty.str.isa .int = false) ∧ (Ty.str.isa .str = true) ∧ (Ty.str.isa .lst = false) ∧ (Ty.str.isa .tup = false) ∧ (Ty.str.isa .dict = false) ∧ (Ty.lst.isa .non = false) ∧ (Ty.lst.isa .bl = false) ∧ (Ty.lst.isa .int = false) ∧ (Ty.lst.isa .str = false) ∧ (Ty.lst.isa .lst = true) ∧ (Ty.lst.isa .tup = false) ∧ (Ty.lst.isa .dict = false) ∧ (Ty.tup.isa .non = false) ∧ (Ty.tup.isa .bl = false) ∧ (Ty.tup.isa .int = false) ∧ (Ty.tup.isa .str = false) ∧ (Ty.tup.isa .lst = false) ∧ (Ty.tup.isa .tup = true) ∧ (Ty.tup.isa .dict = false) ∧ (Ty.dict.isa .non = false) ∧ (Ty.dict.isa .bl = false) ∧ (Ty.dict.isa .int = false) ∧ (Ty.dict.isa .str = false) ∧ (Ty.dict.isa .lst = false) ∧ (Ty.dict.isa .tup = false) ∧ (Ty.dict.isa .dict = true) := by decide
theorem Ty.kit {K : PySem.W.Frag} (a c : Ty) (h : c ≠ .non) : PySem.W.kitOne K (.type a.name) (.type c.name) = some (a.isa c) := by
  cases c with
  | non => exact absurd rfl h
  | _ => cases a <;> exact kit_ty (by decide +kernel)
def tyV (H : Hp) : V → Option Ty
  | .non => some .non
  | .bl _ => some .bl
  | .int _ => some .int
  | .str _ => some .str
  | .ref p => match H p with
    | some (.lst _) => some .lst
    | some (.tup _) => some .tup
    | some (.dK _) => some .dict
    | some (.dT _) => some .dict
    | _ => none
  | _ => none
theorem tyV_ok {K : PySem.W.Frag} {H : Hp} {x : V} {t : Ty} (h : tyV H x = some t) : TyX K H x (.type t.name) := by
  unfold tyV at h
  split at h
  · cases h; exact .base .non
  · cases h; exact .base (.bl _)
  · cases h; exact .base (.int _)
  · cases h; exact .base (.str _)
  · split at h
    · rename_i e; cases h; exact .base (.lst e)
    · rename_i e; cases h; exact .base (.tup e)
    · rename_i e; cases h; exact .base (.dK e)
    · rename_i e; cases h; exact .base (.dT e)
    · cases h
  · cases h

section
variable {X : Cx} {a b e : Expr} {ta tb te : TE} {pos : Pos}
def uVar (i : Nat) : TE := fun σ H Q => match σ[i]? with
  | some (some v) => Q v H
  | _ => False
theorem pe_uVar (i : Nat) {x : Str} {pos : Pos} (hN : X.N[i]? = some x := by rfl) (hv : Vis X.env.scope x := by first | exact Or.inl rfl | exact Or.inr (Or.inl rfl) | exact Or.inr (Or.inr rfl)) (hd : (x == ("__debug__" : Str)) = false := by decide)
    (hcd : (x == ("__classdict__" : Str)) = false := by decide) : PE X (.Name x pos) (uVar i) :=
  peOf (pe_var hN hv hd hcd) fun σ H Q q => by
    unfold uVar at q
    split at q
    · rename_i v e; exact ⟨v, e, q⟩
    · exact q.elim

def rAddU : R2 := fun x y H Q => match x, y with
  | .int i, .int j => Q (.int (i + j)) H
  | .str i, .str j => i.length + j.length ≤ sizeLine ∧ Q (.str (i ++ j)) H
  | .ref p, .ref q => match H p, H q with
    | some (.lst xs), some (.lst ys) => xs.length + ys.length ≤ sizeLine ∧ ∀ r, H r = none → Q (.ref r) (upd H r (.lst (xs ++ ys)))
    | some (.tup xs), some (.tup ys) => xs.length + ys.length ≤ sizeLine ∧ (xs = [] → Q (.ref q) H) ∧ (xs ≠ [] → ys = [] → Q (.ref p) H) ∧ (xs ≠ [] → ys ≠ [] → ∀ r, H r = none → Q (.ref r) (upd H r (.tup (xs ++ ys))))
    | _, _ => False
  | _, _ => False
theorem op_addU : OpR X (binaryOp .Add) rAddU := by
  refine opOf (op_add.or (op_add_str.or (op_cat.or op_catA))) fun x y H Q q => ?_
  unfold rAddU at q
  split at q
  · exact .inl ⟨_, _, rfl, rfl, q⟩
  · exact .inr (.inl ⟨_, _, rfl, rfl, q.1, q.2⟩)
  · split at q
    · rename_i h1 h2; exact .inr (.inr (.inl ⟨_, _, _, _, rfl, rfl, h1, h2, q.1, q.2⟩))
    · rename_i h1 h2; exact .inr (.inr (.inr ⟨_, _, _, _, rfl, rfl, .of h1, .of h2, q⟩))
    · exact q.elim
  · exact q.elim
def rInt (g : Int → Int → V) : R2 := fun x y H Q => match x, y with
  | .int i, .int j => Q (g i j) H
  | _, _ => False
def rIntC (C : Int → Int → Prop) (g : Int → Int → V) : R2 := fun x y H Q => match x, y with
  | .int i, .int j => C i j ∧ Q (g i j) H
  | _, _ => False
theorem rInt_of {g : Int → Int → V} {x y : V} {H : Hp} {Q : VK} (q : rInt g x y H Q) : rI0 g x y H Q := by
  unfold rInt at q
  split at q
  · exact ⟨_, _, rfl, rfl, q⟩
  · exact q.elim
theorem rIntC_of {C : Int → Int → Prop} {g : Int → Int → V} {x y : V} {H : Hp} {Q : VK} (q : rIntC C g x y H Q) : rI C g x y H Q := by
  unfold rIntC at q
  split at q
  · exact ⟨_, _, rfl, rfl, q.1, q.2⟩
  · exact q.elim
def rAddI : R2 := rInt fun i j => .int (i + j)
theorem op_addI : OpR X (binaryOp .Add) rAddI := opOf op_add fun _ _ _ _ => rInt_of
def rAddS : R2 := fun x y H Q => match x, y with
  | .str i, .str j => i.length + j.length ≤ sizeLine ∧ Q (.str (i ++ j)) H
  | _, _ => False
theorem op_addS : OpR X (binaryOp .Add) rAddS := opOf op_addU fun x y H Q q => by
  unfold rAddS at q
  split at q
  · exact q
  · exact q.elim
def rAddL : R2 := fun x y H Q => match x, y with
  | .ref p, .ref q => match H p, H q with
    | some (.lst xs), some (.lst ys) => xs.length + ys.length ≤ sizeLine ∧ ∀ r, H r = none → Q (.ref r) (upd H r (.lst (xs ++ ys)))
    | _, _ => False
  | _, _ => False
theorem op_addL : OpR X (binaryOp .Add) rAddL := opOf op_addU fun x y H Q q => by
  unfold rAddL at q
  split at q
  · split at q
    · rename_i h1 h2
      unfold rAddU
      simp only [h1, h2]
      exact q
    · exact q.elim
  · exact q.elim
def rAddT : R2 := fun x y H Q => match x, y with
  | .ref p, .ref q => match H p, H q with
    | some (.tup xs), some (.tup ys) => xs.length + ys.length ≤ sizeLine ∧ (xs = [] → Q (.ref q) H) ∧ (xs ≠ [] → ys = [] → Q (.ref p) H) ∧ (xs ≠ [] → ys ≠ [] → ∀ r, H r = none → Q (.ref r) (upd H r (.tup (xs ++ ys))))
    | _, _ => False
  | _, _ => False
theorem op_addT : OpR X (binaryOp .Add) rAddT := opOf op_addU fun x y H Q q => by
  unfold rAddT at q
  split at q
  · split at q
    · rename_i h1 h2
      unfold rAddU
      simp only [h1, h2]
      exact q
    · exact q.elim
  · exact q.elim
def rSubU : R2 := rInt fun i j => .int (i - j)
def rMulI : R2 := rIntC CMul fun i j => .int (i * j)
def rDivU : R2 := rIntC CDiv fun i j => .int (i / j)
def rModU : R2 := rIntC (fun _ j => 0 < j) fun i j => .int (i % j)
def rPowU : R2 := rIntC CPow fun i j => .int (i ^ j.toNat)
theorem op_subU : OpR X (binaryOp .Sub) rSubU := opOf op_sub fun _ _ _ _ => rInt_of
theorem op_mulI : OpR X (binaryOp .Mult) rMulI := opOf op_mul fun _ _ _ _ => rIntC_of
theorem op_divU : OpR X (binaryOp .FloorDiv) rDivU := opOf op_fdiv fun _ _ _ _ => rIntC_of
theorem op_modU : OpR X (binaryOp .Mod) rModU := opOf op_mod fun _ _ _ _ => rIntC_of
theorem op_powU : OpR X (binaryOp .Pow) rPowU := opOf op_pow fun _ _ _ _ => rIntC_of
def rLtU : R2 := rInt fun i j => .bl (decide (i < j))
def rLeU : R2 := rInt fun i j => .bl (decide (i ≤ j))
def rGtU : R2 := rInt fun i j => .bl (decide (j < i))
def rGeU : R2 := rInt fun i j => .bl (decide (j ≤ i))
theorem op_ltU : OpR X (compareOp .Lt) rLtU := opOf op_lt fun _ _ _ _ => rInt_of
theorem op_leU : OpR X (compareOp .LtE) rLeU := opOf op_le fun _ _ _ _ => rInt_of
theorem op_gtU : OpR X (compareOp .Gt) rGtU := opOf op_gt fun _ _ _ _ => rInt_of
theorem op_geU : OpR X (compareOp .GtE) rGeU := opOf op_ge fun _ _ _ _ => rInt_of
def rEqS : R2 := fun x y H Q => scal x y = true ∧ Q (.bl (decide (x = y))) H
def rNeS : R2 := fun x y H Q => scal x y = true ∧ Q (.bl (!decide (x = y))) H
theorem op_eqS : OpR X (compareOp .Eq) rEqS := op_eq
theorem op_neS : OpR X (compareOp .NotEq) rNeS := op_ne
def rIsNU : R2 := fun x y H Q => y = .non ∧ Q (.bl (decide (x = .non))) H
def rNotNU : R2 := fun x y H Q => y = .non ∧ Q (.bl (!decide (x = .non))) H
theorem op_isNU : OpR X (compareOp .Is) rIsNU := op_isN
theorem op_notNU : OpR X (compareOp .IsNot) rNotNU := op_notN
def rInU (neg : Bool) : R2 := fun x y H Q => match y with
  | .str z => ∃ c, x = .str ⟨#[c]⟩ ∧ Q (.bl (xor neg (decide (c ∈ z.cps.toList)))) H
  | .ref p => match seqAt H p with
    | some xs => flatV x = true ∧ xs.all flatV = true ∧ Q (.bl (xor neg (inV x xs))) H
    | none => False
  | _ => False
theorem op_inU : OpR X (compareOp .In) (rInU false) := by
  refine opOf (op_in_sign.or op_in_seq) fun x y H Q q => ?_
  unfold rInU at q
  split at q
  · obtain ⟨c, rfl, q⟩ := q
    exact .inl ⟨c, _, rfl, rfl, by simpa using q⟩
  · split at q
    · rename_i e
      refine .inr ⟨_, _, rfl, seqAt_cases e, q.1, q.2.1, ?_⟩
      simpa using q.2.2
    · exact q.elim
  · exact q.elim
theorem op_notInU : OpR X (compareOp .NotIn) (rInU true) := by
  refine opOf (op_notIn_sign.or op_notIn_seq) fun x y H Q q => ?_
  unfold rInU at q
  split at q
  · obtain ⟨c, rfl, q⟩ := q
    exact .inl ⟨c, _, rfl, rfl, by simpa using q⟩
  · split at q
    · rename_i e
      refine .inr ⟨_, _, rfl, seqAt_cases e, q.1, q.2.1, ?_⟩
      simpa using q.2.2
    · exact q.elim
  · exact q.elim
def rInG (p : Addr) (xs : List V) (neg : Bool) : R2 := fun x y H Q => y = .ref p ∧ flatV x = true ∧ Q (.bl (xor neg (inV x xs))) H
theorem op_inG {p : Addr} {xs : List V} (hx : ∀ H, SqT X.K H p xs) (hf : xs.all flatV = true) : OpR X (compareOp .In) (rInG p xs false) :=
  opOf op_in_seq fun x y H Q q => ⟨p, xs, q.1, .inr (hx H), q.2.1, hf, by simpa using q.2.2⟩
theorem op_notInG {p : Addr} {xs : List V} (hx : ∀ H, SqT X.K H p xs) (hf : xs.all flatV = true) : OpR X (compareOp .NotIn) (rInG p xs true) :=
  opOf op_notIn_seq fun x y H Q q => ⟨p, xs, q.1, .inr (hx H), q.2.1, hf, by simpa using q.2.2⟩
def rIxU : R2 := fun x y H Q => match x, y with
  | .str z, .int i => z.length ≤ sizeLine ∧ ∃ c, atI z.cps.toList i = some c ∧ Q (.str ⟨#[c]⟩) H
  | .ref p, .int i => match seqAt H p with
    | some xs => ∃ v, atI xs i = some v ∧ Q v H
    | none => False
  | _, _ => False
theorem ix_U : IxR X rIxU := ixOf ix_seq fun x y H Q q => by
  unfold rIxU at q
  split at q
  · obtain ⟨h, c, h2, q⟩ := q
    exact .inr (.inr ⟨_, _, c, rfl, rfl, h, h2, q⟩)
  · split at q
    · rename_i e
      obtain ⟨v, h2, q⟩ := q
      rcases seqAt_cases (K := X.K) e with h | h
      · exact .inl ⟨_, _, _, v, rfl, rfl, h, h2, q⟩
      · exact .inr (.inl ⟨_, _, _, v, rfl, rfl, h, h2, q⟩)
    · exact q.elim
  · exact q.elim
def rSetU : V → V → V → Hp → (Hp → Prop) → Prop := fun o i v H Q => match o, i with
  | .ref p, .int k => match H p with
    | some (.lst xs) => ∃ j, ixN xs.length k = some j ∧ Q (upd H p (.lst (xs.set j v)))
    | _ => False
  | _, _ => False
theorem set_U : PSet X rSetU := by
  intro pins s σ H o i v uo ui uv Q I r1 r2 r3 q
  refine set_list pins s σ H o i v uo ui uv Q I r1 r2 r3 ?_
  unfold rSetU at q
  split at q
  · split at q
    · rename_i e
      obtain ⟨j, h, q⟩ := q
      exact ⟨_, _, _, j, rfl, rfl, e, h, q⟩
    · exact q.elim
  · exact q.elim
def uPart (t : TE) : TO := fun σ H Q => t σ H fun x H1 => ∃ i, x = .int i ∧ Q (some i) H1
theorem po_uPart (h : PE X e te) : PO X (some e) (uPart te) := po_some h
def wholeT (n : Nat) (lo hi : Option Int) : Prop := HT.sIx n 0 lo = 0 ∧ HT.sIx n n hi = n
def rSlU : V → Option Int → Option Int → Hp → VK → Prop := fun x lo hi H Q => match x with
  | .str z => z.length ≤ sizeLine ∧ Q (.str (cutS z lo hi)) H
  | .ref p => match H p with
    | some (.lst xs) => ∀ q, H q = none → Q (.ref q) (upd H q (.lst (cutV xs lo hi)))
    | some (.tup xs) => (wholeT xs.length lo hi → Q (.ref p) H) ∧ (¬ wholeT xs.length lo hi → ∀ q, H q = none → Q (.ref q) (upd H q (.tup (cutV xs lo hi))))
    | _ => False
  | _ => False
theorem slOr {r r' : V → Option Int → Option Int → Hp → VK → Prop} (h : SlR X r) (h' : SlR X r') : SlR X (fun x lo hi H Q => r x lo hi H Q ∨ r' x lo hi H Q) := h.or h'
theorem sl_U : SlR X rSlU := slOf (slOr sl_str (slOr sl_list sl_tupA)) fun x lo hi H Q q => by
  unfold rSlU at q
  split at q
  · exact .inl ⟨_, rfl, q.1, q.2⟩
  · split at q
    · rename_i e; exact .inr (.inl ⟨_, _, rfl, .of e, q⟩)
    · rename_i e; exact .inr (.inr ⟨_, _, rfl, .of e, q.1, q.2⟩)
    · exact q.elim
  · exact q.elim
def rLenU : List V → Hp → VK → Prop := fun xs H Q => match xs with
  | [.str z] => z.length ≤ sizeLine ∧ Q (.int z.length) H
  | [.ref p] => match seqAt H p with
    | some ys => Q (.int ys.length) H
    | none => match H p with
      | some (.dK kvs) => Q (.int kvs.length) H
      | _ => False
  | _ => False
theorem lenV_dict {pins : List (Addr × Obj)} {s : Shared} {σ : L2.St} {H : Hp} {p : Addr} {kvs : List (Key × V)} {u : Value} {Q : VK} (I : Inv X pins σ H s) (r : RelV (.ref p) u) (h : H p = some (.dK kvs)) (q : Q (.int kvs.length) H) :
    wpAny (model X.prog X.w) X.A (call (.builtin "len") [u]) (EP X pins σ Q) X.xe s := call_lenD pins s σ H [.ref p] [u] Q I (.cons r .nil) ⟨p, kvs, rfl, h, q⟩
theorem call_lenU : CallR X (.builtin "len") rLenU := by
  intro pins s σ H xs us Q I r q
  unfold rLenU at q
  split at q
  · exact call_len_str pins s σ H _ us Q I r ⟨_, rfl, q.1, q.2⟩
  · rename_i p
    split at q
    · rename_i e; exact call_len_seq pins s σ H _ us Q I r ⟨p, _, rfl, seqAt_cases e, q⟩
    · split at q
      · rename_i e
        obtain ⟨u, rfl, r1⟩ := vals1 r
        exact lenV_dict I r1 e q
      · exact q.elim
  · exact q.elim
def strsOf : List V → Option (List Str)
  | [] => some []
  | .str x :: r => (strsOf r).map (x :: ·)
  | _ => none
theorem strsOf_eq : ∀ {xs : List V} {ys : List Str}, strsOf xs = some ys → xs = ys.map V.str
  | [], _, h => by cases h; rfl
  | .str x :: r, ys, h => by
    unfold strsOf at h
    cases e : strsOf r with
    | none => rw [e] at h; cases h
    | some zs =>
      rw [e] at h
      cases h
      rw [strsOf_eq e]
      rfl
  | .non :: _, _, h => by cases h
  | .bl _ :: _, _, h => by cases h
  | .int _ :: _, _, h => by cases h
  | .byt _ :: _, _, h => by cases h
  | .flt _ :: _, _, h => by cases h
  | .ref _ :: _, _, h => by cases h
  | .ty _ :: _, _, h => by cases h
def blsOf : List V → Option (List Bool)
  | [] => some []
  | .bl x :: r => (blsOf r).map (x :: ·)
  | _ => none
theorem blsOf_eq : ∀ {xs : List V} {ys : List Bool}, blsOf xs = some ys → xs = ys.map V.bl
  | [], _, h => by cases h; rfl
  | .bl x :: r, ys, h => by
    unfold blsOf at h
    cases e : blsOf r with
    | none => rw [e] at h; cases h
    | some zs =>
      rw [e] at h
      cases h
      rw [blsOf_eq e]
      rfl
  | .non :: _, _, h => by cases h
  | .str _ :: _, _, h => by cases h
  | .int _ :: _, _, h => by cases h
  | .byt _ :: _, _, h => by cases h
  | .flt _ :: _, _, h => by cases h
  | .ref _ :: _, _, h => by cases h
  | .ty _ :: _, _, h => by cases h
def rAllU : List V → Hp → VK → Prop := fun xs H Q => ∃ (p : Addr) (bs : List Bool), xs = [.ref p] ∧ H p = some (.lst (bs.map V.bl)) ∧ Q (.bl (bs.all id)) H
def rAnyU : List V → Hp → VK → Prop := fun xs H Q => ∃ (p : Addr) (bs : List Bool), xs = [.ref p] ∧ H p = some (.lst (bs.map V.bl)) ∧ Q (.bl (bs.any id)) H
theorem call_allU (hc : X.calm = true) : CallR X (.builtin "all") rAllU := crOf (cr_all hc) fun xs H Q ⟨p, bs, e, h, q⟩ => ⟨p, bs, e, .of h, q⟩
theorem call_anyU (hc : X.calm = true) : CallR X (.builtin "any") rAnyU := crOf (cr_any hc) fun xs H Q ⟨p, bs, e, h, q⟩ => ⟨p, bs, e, .of h, q⟩
theorem pe_uCon {C : Addr} {c f : Str} {v : V} {p2 : Pos} (hg : Gl X c) (hm : X.mg c = some (.ref C)) (hk : ClX.CRead X.K C (.type "type") ∧ ∃ u, ClX.CVal X.K C (.type "type") f v u) (hd : (c == ("__debug__" : Str)) = false := by decide)
    (hb : attributeBase (.Name c p2) f X.env (eval (.Name c p2) X.env) = eval (.Name c p2) X.env := by rfl) : PE X (.Attribute (.Name c p2) f pos) (tC v) := by
  obtain ⟨hr, u, hv⟩ := hk
  exact peOf (ClX.pe_cval (pe_glob (v := .ref C) hg hm rfl hd) hb) fun σ H Q q => ⟨C, _, v, u, rfl, hr, hv, q⟩
def rListU : List V → Hp → VK → Prop := fun xs H Q => match xs with
  | [.ref p] => match seqAt H p with
    | some ys => ∀ l, H l = none → Q (.ref l) (upd H l (.lst ys))
    | none => False
  | _ => False
theorem call_listU : CallR X (.type "list") rListU := crOf call_list_of fun xs H Q q => by
  unfold rListU at q
  split at q
  · split at q
    · rename_i e; exact ⟨_, _, rfl, seqAt_cases e, q⟩
    · exact q.elim
  · exact q.elim
def rListK (K : PySem.W.Frag) : List V → Hp → VK → Prop := fun xs H Q => ∃ p ys, xs = [.ref p] ∧ (SqL K H p ys ∨ SqT K H p ys) ∧ ∀ l, H l = none → Q (.ref l) (upd H l (.lst ys))
def rTupleU : List V → Hp → VK → Prop := fun xs H Q => match xs with
  | [.ref p] => match H p with
    | some (.lst ys) => ∀ l, H l = none → Q (.ref l) (upd H l (.tup ys))
    | some (.tup ys) => Q (.ref p) H
    | _ => False
  | _ => False
theorem call_tupleU : CallR X (.type "tuple") rTupleU := crOf call_tuple_of fun xs H Q q => by
  unfold rTupleU at q
  split at q
  · split at q
    · rename_i e; exact ⟨_, _, rfl, .inl ⟨.of e, q⟩⟩
    · rename_i e; exact ⟨_, _, rfl, .inr ⟨.of e, q⟩⟩
    · exact q.elim
  · exact q.elim
def rIntCall : List V → Hp → VK → Prop := fun xs H Q => match xs with
  | [.int i] => Q (.int i) H
  | [.bl k] => Q (.int (if k then 1 else 0)) H
  | _ => False
theorem call_intU : CallR X (.type "int") rIntCall := crOf call_int1 fun xs H Q q => by
  unfold rIntCall at q
  split at q
  · exact .inl ⟨_, rfl, q⟩
  · exact .inr ⟨_, rfl, q⟩
  · exact q.elim
def rIsi (c : Ty) : List V → Hp → VK → Prop := fun xs H Q => ∃ x, xs = [x, .ty c.name] ∧ match tyV H x with
  | some t => Q (.bl (t.isa c)) H
  | none => False
theorem call_isiU {c : Ty} (hc : c ≠ .non) : CallR X (.builtin "isinstance") (rIsi c) := crOf call_isi fun xs H Q q => by
  obtain ⟨x, rfl, q⟩ := q
  split at q
  · rename_i t e
    exact ⟨x, _, _, _, _, rfl, .ty _, tyV_ok e, Ty.kit t c hc, q⟩
  · exact q.elim
def rTruU : V → Hp → (Bool → Hp → Prop) → Prop := fun x H Q => match x with
  | .non => Q false H
  | .bl b => Q b H
  | .int i => Q (i != 0) H
  | .str y => y.length ≤ sizeLine ∧ Q ((y.length : Int) != 0) H
  | .ref p => match seqAt H p with
    | some xs => Q (!xs.isEmpty) H
    | none => match H p with
      | some (.dK kvs) => Q (!kvs.isEmpty) H
      | _ => False
  | _ => False
def rJoinU : V → List V → Hp → VK → Prop := fun x xs H Q => ∃ (a : Str) (p : Addr) (ys : List Str), x = .str a ∧ xs = [.ref p] ∧ H p = some (.lst (ys.map V.str)) ∧ (ys.map (·.length)).sum + ys.length * a.length ≤ 16777216 ∧ Q (.str (Txt.join a ys)) H
theorem mt_joinU : MtR X "str.join" rJoinU := mtOf mt_join fun x xs H Q ⟨a, p, ys, e1, e2, h, hz, q⟩ => ⟨a, p, ys, e1, e2, .inl (.of h), hz, q⟩
def uTru (t : TE) : TT := fun σ H Q => t σ H fun x H1 => rTruU x H1 Q
theorem rTruU_ok {K : PySem.W.Frag} {x : V} {H : Hp} {Q : Bool → Hp → Prop} (q : rTruU x H Q) : ∃ k, TruV K x H k ∧ Q k H := by
  unfold rTruU at q
  split at q
  · exact ⟨_, rfl, q⟩
  · exact ⟨_, rfl, q⟩
  · exact ⟨_, rfl, q⟩
  · exact ⟨_, ⟨q.1, rfl⟩, q.2⟩
  · split at q
    · rename_i e
      rcases seqAt_cases (K := K) e with h | h
      · exact ⟨_, .inl ⟨_, h, rfl⟩, q⟩
      · exact ⟨_, .inr (.inl ⟨_, h, rfl⟩), q⟩
    · split at q
      · rename_i e; exact ⟨_, .inr (.inr ⟨_, e, rfl⟩), q⟩
      · exact q.elim
  · exact q.elim
theorem pt_uTru (ha : PE X a ta) (he : ∀ whole, isTrue a X.env whole = (do let v ← whole; standAt a.pos; holding [v] (truthy v)) := by intro _; rfl) : PT X a (uTru ta) := by
  refine ⟨fun pins s σ H Q I h => ?_⟩
  exact isTrue_plain (thn (ha.run pins s σ H _ I h) fun v s1 ⟨x, H1, I1, r1, q1⟩ => tru_ok pins s1 σ H1 x v Q I1 r1 (rTruU_ok q1)) (he _)

def itU (K : PySem.W.Frag) (x : V) (H : Hp) (R : It → Hp → Prop) : Prop := match x with
  | .str z => R (Its z) H
  | .ref a => ((∃ xs, SqL K H a xs) ∧ R (Itl K a) H) ∨ ((∃ xs, SqT K H a xs) ∧ R (Itt K a) H)
  | _ => False
def iU (K : PySem.W.Frag) (te : TE) : TI := fun σ H R => te σ H fun x H1 => itU K x H1 R
theorem pi_U {tg : Expr} (he : PE X e te) : PI X tg e (iU X.K te) := by
  refine ⟨fun pins s σ H R I h => ?_⟩
  refine thn (he.run pins s σ H _ I h) fun v s1 ⟨x, H1, I1, r1, q1⟩ => ?_
  have q1 : itU X.K x H1 R := q1
  cases x with
  | str z =>
    have q1 : R (Its z) H1 := q1
    obtain ⟨t, rfl⟩ := r1
    cases ha : z.cps.all (· < 128)
    · exact wpAny_pyIter_wide ha (pi_one (tk := s1.toks) I1 _ (turn_str _ z t "str_iterator" (.inr rfl)) ⟨_, Heap.get?_push_size _ rfl, rfl, rfl⟩ q1)
    · exact wpAny_pyIter_ascii ha (pi_one (tk := s1.toks) I1 _ (turn_str _ z t "str_ascii_iterator" (.inl rfl)) ⟨_, Heap.get?_push_size _ rfl, rfl, rfl⟩ q1)
  | ref a =>
    cases r1
    rcases q1 with ⟨⟨xs, hq⟩, q⟩ | ⟨⟨xs, hq⟩, q⟩
    · obtain ⟨its, rv, p, hz⟩ := I1.list hq
      refine wpAny_pyIter_list p.isList ?_
      refine ⟨s1.heap.objs.size, [s1.heap.objs.size], _, _, H1, rfl, I1.kept (t' := s1.toks) fun b o e => Heap.get?_push_of_some _ e, turn_list a _, ⟨_, Heap.get?_push_size _ rfl, rfl, rfl⟩, fun b hb => ?_, q⟩
      have e : b = s1.heap.objs.size := by simpa using hb
      subst e
      exact I1.fpOk (Nat.le_refl _) (I1.hok.fresh (Nat.le_refl _))
    · obtain ⟨its, rv, p, hz⟩ := I1.tuple hq
      refine wpAny_pyIter_tuple (show s1.heap.IsTuple a its.toArray from p) ?_
      refine ⟨s1.heap.objs.size, [s1.heap.objs.size], _, _, H1, rfl, I1.kept (t' := s1.toks) fun b o e => Heap.get?_push_of_some _ e, turn_tuple a _, ⟨_, Heap.get?_push_size _ rfl, rfl, rfl⟩, fun b hb => ?_, q⟩
      have e : b = s1.heap.objs.size := by simpa using hb
      subst e
      exact I1.fpOk (Nat.le_refl _) (I1.hok.fresh (Nat.le_refl _))
  | _ => exact (show False from q1).elim
def loopJ (J : It) (g : TG) (tb : TS) (D : Ends) (σ : L2.St) (H1 : Hp) : Prop := ∃ W : Nat → Nat → L2.St → Hp → Prop, (∃ m, W 0 m σ H1) ∧ ∀ i m σ H, W i m σ H →
  (J.stop i H ∧ D.nx σ H) ∨ (J.go i H ∧ ∃ N : L2.St → Hp → Prop, (∀ σ' H', N σ' H' → ∃ m', m' < m ∧ W (i + 1) m' σ' H') ∧ ∀ x H', J.yld i H x H' → g x σ H' fun σ2 H2 => tb { D with nx := N, ct := N, bk := D.nx } σ2 H2)
def compJ (J : It) (g : TG) (tt : TT) (te : TE) (vs : List Nat) (σ : L2.St) (H1 : Hp) (Q : VK) : Prop := ∀ D, H1 D = none → ∃ W : Nat → Nat → Hp → Prop, (∃ m, W 0 m (upd H1 D (.lst []))) ∧ ∀ i m H, W i m H →
  (J.stop i H ∧ Q (.ref D) H) ∨ (J.go i H ∧ ∃ Nx : Hp → Prop, (∀ H', Nx H' → ∃ m', m' < m ∧ W (i + 1) m' H') ∧ ∀ x H', J.yld i H x H' → g x (wipe σ vs) H' fun σ2 H2 => wipe σ2 vs = wipe σ vs ∧ tt σ2 H2 fun b H3 =>
    if b = true then te σ2 H3 fun y H4 => ∃ acc, H4 D = some (.lst acc) ∧ acc.length < sizeLine ∧ Nx (upd H4 D (.lst (acc ++ [y]))) else Nx H3)
def loopU (K : PySem.W.Frag) (x : V) (g : TG) (tb : TS) (D : Ends) (σ : L2.St) (H : Hp) : Prop := itU K x H fun J H1 => loopJ J g tb D σ H1
def compU (K : PySem.W.Frag) (x : V) (g : TG) (tt : TT) (te : TE) (vs : List Nat) (σ : L2.St) (H : Hp) (Q : VK) : Prop := itU K x H fun J H1 => compJ J g tt te vs σ H1 Q
theorem for_U {K : PySem.W.Frag} {g : TG} {tb : TS} {D : Ends} {σ : L2.St} {H : Hp} : tFor (iU K te) g tb D σ H = te σ H fun x H1 => loopU K x g tb D σ H1 := rfl
theorem lc_U {K : PySem.W.Frag} {g : TG} {tt : TT} {tel : TE} {vs : List Nat} {σ : L2.St} {H : Hp} {Q : VK} : tLc (iU K te) g tt tel vs σ H Q = te σ H fun x H1 => compU K x g tt tel vs σ H1 Q := rfl
def rngOk (i j : Int) : Prop := -(2 ^ 62) ≤ i ∧ i < 2 ^ 62 ∧ -(2 ^ 62) ≤ j ∧ j < 2 ^ 62
theorem for_R1 {ta : TA} {g : TG} {tb : TS} {D : Ends} {σ : L2.St} {H : Hp} : tFor (iRng1 ta) g tb D σ H = ta σ H fun vs H1 => ∃ j : Int, vs = [.int j] ∧ -(2 ^ 62) ≤ j ∧ j < 2 ^ 62 ∧ loopJ (Itr 0 j.toNat) g tb D σ H1 := rfl
theorem for_R2 {ta : TA} {g : TG} {tb : TS} {D : Ends} {σ : L2.St} {H : Hp} : tFor (iRng2 ta) g tb D σ H = ta σ H fun vs H1 => ∃ i j : Int, vs = [.int i, .int j] ∧ rngOk i j ∧ loopJ (Itr i (j - i).toNat) g tb D σ H1 := rfl
theorem lc_R1 {ta : TA} {g : TG} {tt : TT} {tel : TE} {vs : List Nat} {σ : L2.St} {H : Hp} {Q : VK} : tLc (iRng1 ta) g tt tel vs σ H Q = ta σ H fun us H1 => ∃ j : Int, us = [.int j] ∧ -(2 ^ 62) ≤ j ∧ j < 2 ^ 62 ∧ compJ (Itr 0 j.toNat) g tt tel vs σ H1 Q := rfl
theorem lc_R2 {ta : TA} {g : TG} {tt : TT} {tel : TE} {vs : List Nat} {σ : L2.St} {H : Hp} {Q : VK} : tLc (iRng2 ta) g tt tel vs σ H Q = ta σ H fun us H1 => ∃ i j : Int, us = [.int i, .int j] ∧ rngOk i j ∧ compJ (Itr i (j - i).toNat) g tt tel vs σ H1 Q := rfl
end
section
variable {K : PySem.W.Frag} {g : TG} {tb : TS} {D : Ends} {σ : L2.St} {H : Hp} {tt : TT} {tel : TE} {vs : List Nat} {Q : VK}
theorem loop_str {z : Str} (Pv : Nat → L2.St → Hp → Prop) (h0 : Pv 0 σ H) (hs : ∀ i c σ H, z.cps[i]? = some c → Pv i σ H → g (.str ⟨#[c]⟩) σ H fun σ2 H2 => tb { D with nx := Pv (i + 1), ct := Pv (i + 1), bk := D.nx } σ2 H2) (hd : ∀ σ H, Pv z.cps.size σ H → D.nx σ H) :
    loopU K (.str z) g tb D σ H :=
  for_it (walk_str (z := z)) Pv h0 (fun _ _ _ _ _ => trivial) (fun i x σ H H' _ p y => by
    obtain ⟨rfl, c, hc, rfl⟩ := y
    exact hs i c σ H' hc p) hd
theorem loop_seq {a : Addr} {xs : List V} (hx : seqAt H a = some xs) (Pv : Nat → L2.St → Hp → Prop) (h0 : Pv 0 σ H) (hG : ∀ i σ H', i ≤ xs.length → Pv i σ H' → H' a = H a)
    (hs : ∀ i x σ H, xs[i]? = some x → Pv i σ H → g x σ H fun σ2 H2 => tb { D with nx := Pv (i + 1), ct := Pv (i + 1), bk := D.nx } σ2 H2) (hd : ∀ σ H, Pv xs.length σ H → D.nx σ H) : loopU K (.ref a) g tb D σ H := by
  have key : ∀ H', H' a = H a → seqAt H' a = some xs := fun H' e => by
    unfold seqAt at hx ⊢
    rw [e]
    exact hx
  rcases seqAt_cases (K := K) hx with h | h
  · refine .inl ⟨⟨xs, h⟩, for_it (walk_list (xs := xs)) Pv h0 (fun i σ' H' hi p => ?_) (fun i x σ H H' _ p y => ?_) hd⟩
    · have e := hG i σ' H' hi p
      rcases h with h | h
      · exact .inl (h.imp (fun z => e.trans z) fun ⟨o, z⟩ => ⟨o, e.trans z⟩)
      · exact .inr h
    · obtain ⟨rfl, hx⟩ := y
      exact hs i x σ H' hx p
  · refine .inr ⟨⟨xs, h⟩, for_it (walk_tup (xs := xs)) Pv h0 (fun i σ' H' hi p => ?_) (fun i x σ H H' _ p y => ?_) hd⟩
    · have e := hG i σ' H' hi p
      rcases h with h | h
      · exact .inl (h.imp (fun z => e.trans z) fun ⟨o, z⟩ => ⟨o, e.trans z⟩)
      · exact .inr h
    · obtain ⟨rfl, hx⟩ := y
      exact hs i x σ H' hx p
theorem loop_rng {lo : Int} {n : Nat} (Pv : Nat → L2.St → Hp → Prop) (h0 : Pv 0 σ H) (hs : ∀ i σ H, i < n → Pv i σ H → g (.int (lo + (i : Int))) σ H fun σ2 H2 => tb { D with nx := Pv (i + 1), ct := Pv (i + 1), bk := D.nx } σ2 H2) (hd : ∀ σ H, Pv n σ H → D.nx σ H) :
    loopJ (Itr lo n) g tb D σ H :=
  for_it (walk_range (lo := lo) (n := n)) Pv h0 (fun _ _ _ _ _ => trivial) (fun i x σ H H' hi p y => by
    obtain ⟨rfl, rfl⟩ := y
    exact hs i σ H' hi p) hd
theorem comp_rng {lo : Int} {n : Nat} (Pv : Addr → Nat → List V → Hp → Prop) (h0 : ∀ D, H D = none → Pv D 0 [] (upd H D (.lst [])))
    (hs : ∀ D i acc H (Nx : Hp → Prop), i < n → Pv D i acc H → (∀ acc H, Pv D (i + 1) acc H → Nx H) → g (.int (lo + (i : Int))) (wipe σ vs) H fun σ2 H2 => wipe σ2 vs = wipe σ vs ∧ tt σ2 H2 fun b H3 =>
      if b = true then tel σ2 H3 fun y H4 => ∃ acc, H4 D = some (.lst acc) ∧ acc.length < sizeLine ∧ Nx (upd H4 D (.lst (acc ++ [y]))) else Nx H3)
    (hd : ∀ D acc H', H D = none → Pv D n acc H' → Q (.ref D) H') : compJ (Itr lo n) g tt tel vs σ H Q := fun D hDn =>
  lc_it (walk_range (lo := lo) (n := n)) (fun i H => ∃ acc, Pv D i acc H) ⟨[], h0 D hDn⟩ (fun _ _ _ _ => trivial) (fun i x H H' hi ⟨acc, p⟩ y => by
    obtain ⟨rfl, rfl⟩ := y
    exact hs D i acc H' _ hi p fun acc H p => ⟨acc, p⟩) (fun H' ⟨acc, p⟩ => hd D acc H' hDn p)
theorem comp_str {z : Str} (Pv : Addr → Nat → List V → Hp → Prop) (h0 : ∀ D, H D = none → Pv D 0 [] (upd H D (.lst [])))
    (hs : ∀ D i c acc H (Nx : Hp → Prop), z.cps[i]? = some c → Pv D i acc H → (∀ acc H, Pv D (i + 1) acc H → Nx H) → g (.str ⟨#[c]⟩) (wipe σ vs) H fun σ2 H2 => wipe σ2 vs = wipe σ vs ∧ tt σ2 H2 fun b H3 =>
      if b = true then tel σ2 H3 fun y H4 => ∃ acc, H4 D = some (.lst acc) ∧ acc.length < sizeLine ∧ Nx (upd H4 D (.lst (acc ++ [y]))) else Nx H3)
    (hd : ∀ D acc H', H D = none → Pv D z.cps.size acc H' → Q (.ref D) H') : compU K (.str z) g tt tel vs σ H Q := fun D hDn =>
  lc_it (walk_str (z := z)) (fun i H => ∃ acc, Pv D i acc H) ⟨[], h0 D hDn⟩ (fun _ _ _ _ => trivial) (fun i x H H' hi ⟨acc, p⟩ y => by
    obtain ⟨rfl, c, hc, rfl⟩ := y
    exact hs D i c acc H' _ hc p fun acc H p => ⟨acc, p⟩) (fun H' ⟨acc, p⟩ => hd D acc H' hDn p)
theorem comp_seq {a : Addr} {xs : List V} (hx : seqAt H a = some xs) (Pv : Addr → Nat → List V → Hp → Prop) (h0 : ∀ D, H D = none → Pv D 0 [] (upd H D (.lst []))) (hG : ∀ D i acc H', H D = none → i ≤ xs.length → Pv D i acc H' → H' a = H a)
    (hs : ∀ D i x acc H (Nx : Hp → Prop), xs[i]? = some x → Pv D i acc H → (∀ acc H, Pv D (i + 1) acc H → Nx H) → g x (wipe σ vs) H fun σ2 H2 => wipe σ2 vs = wipe σ vs ∧ tt σ2 H2 fun b H3 =>
      if b = true then tel σ2 H3 fun y H4 => ∃ acc, H4 D = some (.lst acc) ∧ acc.length < sizeLine ∧ Nx (upd H4 D (.lst (acc ++ [y]))) else Nx H3)
    (hd : ∀ D acc H', H D = none → Pv D xs.length acc H' → Q (.ref D) H') : compU K (.ref a) g tt tel vs σ H Q := by
  rcases seqAt_cases (K := K) hx with h | h
  · refine .inl ⟨⟨xs, h⟩, fun D hDn => lc_it (walk_list (xs := xs)) (fun i H => ∃ acc, Pv D i acc H) ⟨[], h0 D hDn⟩ (fun i H' hi ⟨acc, p⟩ => ?_) (fun i x H H' _ ⟨acc, p⟩ y => ?_) (fun H' ⟨acc, p⟩ => hd D acc H' hDn p)⟩
    · have e := hG D i acc H' hDn hi p
      rcases h with h | h
      · exact .inl (h.imp (fun z => e.trans z) fun ⟨o, z⟩ => ⟨o, e.trans z⟩)
      · exact .inr h
    · obtain ⟨rfl, hx⟩ := y
      exact hs D i x acc H' _ hx p fun acc H p => ⟨acc, p⟩
  · refine .inr ⟨⟨xs, h⟩, fun D hDn => lc_it (walk_tup (xs := xs)) (fun i H => ∃ acc, Pv D i acc H) ⟨[], h0 D hDn⟩ (fun i H' hi ⟨acc, p⟩ => ?_) (fun i x H H' _ ⟨acc, p⟩ y => ?_) (fun H' ⟨acc, p⟩ => hd D acc H' hDn p)⟩
    · have e := hG D i acc H' hDn hi p
      rcases h with h | h
      · exact .inl (h.imp (fun z => e.trans z) fun ⟨o, z⟩ => ⟨o, e.trans z⟩)
      · exact .inr h
    · obtain ⟨rfl, hx⟩ := y
      exact hs D i x acc H' _ hx p fun acc H p => ⟨acc, p⟩
end

structure New (H : Hp) (p : Addr) (o : HO) (H' : Hp) : Prop where
  fr : H p = none
  eq : H' = upd H p o
theorem New.at {H H' : Hp} {p : Addr} {o : HO} (n : New H p o H') : H' p = some o := by rw [n.eq]; exact upd_same
theorem New.ne {H H' : Hp} {p b : Addr} {o u : HO} (n : New H p o H') (e : H b = some u) : b ≠ p := fun z => by
  rw [z, n.fr] at e
  cases e
theorem New.off {H H' : Hp} {p b : Addr} {o : HO} (n : New H p o H') (h : b ≠ p) : H' b = H b := by rw [n.eq]; exact upd_ne h
theorem New.old {H H' : Hp} {p b : Addr} {o u : HO} (n : New H p o H') (e : H b = some u) : H' b = some u := by rw [n.off (n.ne e)]; exact e
theorem New.same {H H' : Hp} {p : Addr} {o : HO} (n : New H p o H') : L2.Same H H' := fun _ _ e => n.old e
theorem New.seq {H H' : Hp} {p b : Addr} {o : HO} {xs : List V} (n : New H p o H') (e : seqAt H b = some xs) : seqAt H' b = some xs := by
  have h : b ≠ p := fun z => by
    unfold seqAt at e
    rw [z, n.fr] at e
    cases e
  unfold seqAt at e ⊢
  rw [n.off h]
  exact e
theorem New.by {H : Hp} {p : Addr} {o : HO} {P : Hp → Prop} (hp : H p = none) (q : ∀ H', New H p o H' → P H') : P (upd H p o) := q _ ⟨hp, rfl⟩
theorem forall_new {H : Hp} {o : HO} {Q : VK} : (∀ r, H r = none → Q (.ref r) (upd H r o)) = (∀ r H', New H r o H' → Q (.ref r) H') :=
  propext ⟨fun h r H' n => by rw [n.eq]; exact h r n.fr, fun h r hr => h r _ ⟨hr, rfl⟩⟩
def tTupN (t : TA) : TE := fun σ H Q => t σ H fun xs H1 => xs.length ≤ sizeLine ∧ ∀ p H2, New H1 p (.tup xs) H2 → Q (.ref p) H2
def tLstN (t : TA) : TE := fun σ H Q => t σ H fun xs H1 => xs.length ≤ sizeLine ∧ ∀ p H2, New H1 p (.lst xs) H2 → Q (.ref p) H2
theorem tTup_eq : tTup = tTupN := by
  funext t σ H Q
  unfold tTup tTupN
  simp only [forall_new]
theorem tLst_eq : tLst = tLstN := by
  funext t σ H Q
  unfold tLst tLstN
  simp only [forall_new]
def rAddLN : R2 := fun x y H Q => match x, y with
  | .ref p, .ref q => match H p, H q with
    | some (.lst xs), some (.lst ys) => xs.length + ys.length ≤ sizeLine ∧ ∀ r H', New H r (.lst (xs ++ ys)) H' → Q (.ref r) H'
    | _, _ => False
  | _, _ => False
theorem rAddL_eq : rAddL = rAddLN := by
  funext x y H Q
  unfold rAddL rAddLN
  simp only [forall_new]
def rAddTN : R2 := fun x y H Q => match x, y with
  | .ref p, .ref q => match H p, H q with
    | some (.tup xs), some (.tup ys) => xs.length + ys.length ≤ sizeLine ∧ (xs = [] → Q (.ref q) H) ∧ (xs ≠ [] → ys = [] → Q (.ref p) H) ∧ (xs ≠ [] → ys ≠ [] → ∀ r H', New H r (.tup (xs ++ ys)) H' → Q (.ref r) H')
    | _, _ => False
  | _, _ => False
theorem rAddT_eq : rAddT = rAddTN := by
  funext x y H Q
  unfold rAddT rAddTN
  simp only [forall_new]
def rSlN : V → Option Int → Option Int → Hp → VK → Prop := fun x lo hi H Q => match x with
  | .str z => z.length ≤ sizeLine ∧ Q (.str (cutS z lo hi)) H
  | .ref p => match H p with
    | some (.lst xs) => ∀ q H', New H q (.lst (cutV xs lo hi)) H' → Q (.ref q) H'
    | some (.tup xs) => (wholeT xs.length lo hi → Q (.ref p) H) ∧ (¬ wholeT xs.length lo hi → ∀ q H', New H q (.tup (cutV xs lo hi)) H' → Q (.ref q) H')
    | _ => False
  | _ => False
theorem rSl_eq : rSlU = rSlN := by
  funext x lo hi H Q
  unfold rSlU rSlN
  simp only [forall_new]
def rListN : List V → Hp → VK → Prop := fun xs H Q => match xs with
  | [.ref p] => match seqAt H p with
    | some ys => ∀ l H', New H l (.lst ys) H' → Q (.ref l) H'
    | none => False
  | _ => False
theorem rList_eq : rListU = rListN := by
  funext xs H Q
  unfold rListU rListN
  simp only [forall_new]
def rTupleN : List V → Hp → VK → Prop := fun xs H Q => match xs with
  | [.ref p] => match H p with
    | some (.lst ys) => ∀ l H', New H l (.tup ys) H' → Q (.ref l) H'
    | some (.tup ys) => Q (.ref p) H
    | _ => False
  | _ => False
theorem rTuple_eq : rTupleU = rTupleN := by
  funext xs H Q
  unfold rTupleU rTupleN
  simp only [forall_new]

structure Callee (P : Program) (w : World) (K : PySem.W.Frag) (mg : Str → Option Value) (base : Heap) (CX : CXT) (k : Nat) (x : Str) (ps : List Str) (dvs : List V) (sp : Sp) : Prop where
  ex : ∃ (f : Addr) (fd : FuncData) (ds : List Value), mg x = some (.ref f) ∧ FnOk P w K mg base CX k f fd ps sp ∧ PySem.W.keepIn K (.ref f) = true ∧ Binds K fd ps ds ∧ Vals dvs ds
section
variable {X : Cx} {e : Expr} {es : List Expr} {ta : TA} {x : Str} {p pos : Pos} {k : Nat} {ps : List Str} {sp : Sp} {dvs : List V}
def uCall (sp : Sp) (dvs : List V) (E : XK) (t : TA) : TE := fun σ H Q => t σ H fun vs H1 => sp (vs ++ dvs) H1 Q E
theorem pe_cal (c : Callee X.prog X.w X.K X.mg X.base CX0 k x ps dvs sp) (hr : Room k X.A) (ha : PA X (e :: es) ta) (hg : Gl X x := by rfl) (hd : (x == ("__debug__" : Str)) = false := by decide)
    (he : starEach (e :: es) X.env = (false, eval e X.env) :: starEach es X.env := by rfl) (hpl : (backTo pos (starEach es X.env)).any (·.1) = false := by rfl) :
    PE X (.Call (.Name x p) (e :: es) [] pos) (uCall sp dvs E0 ta) := by
  obtain ⟨f, fd, ds, hm, F, kp, b, v⟩ := c.ex
  exact pe_call F hr hg hm kp b v pass0 ha hd he hpl
end
end U
end

section
namespace U
open PySem PySem.Spec PyProof.Rows L2
class Kp (α : Type) where
  val : α
section
variable {α : Type}
def OK (o : Option α) [k : Kp (α → Prop)] : Prop := match o with
  | some x => k.val x
  | none => False
theorem OK_some {x : α} {k : α → Prop} : @OK α (some x) ⟨k⟩ = k x := rfl
theorem OK.by {o : Option α} {k : α → Prop} {x : α} (h : o = some x) (q : k x) : @OK α o ⟨k⟩ := by rw [h]; exact q
end
def Br (c : Prop) [a : Kp Prop] [b : Kp Prop] : Prop := (c → a.val) ∧ (¬ c → b.val)
theorem Br_true {a b : Prop} : @Br True ⟨a⟩ ⟨b⟩ = a := propext ⟨fun h => h.1 trivial, fun h => ⟨fun _ => h, fun z => absurd trivial z⟩⟩
theorem Br_false {a b : Prop} : @Br False ⟨a⟩ ⟨b⟩ = b := propext ⟨fun h => h.2 id, fun h => ⟨fun z => z.elim, fun _ => h⟩⟩
theorem Br_not {c a b : Prop} : @Br (¬ c) ⟨a⟩ ⟨b⟩ = @Br c ⟨b⟩ ⟨a⟩ := propext ⟨fun h => ⟨fun k => h.2 (not_not_intro k), h.1⟩, fun h => ⟨h.2, fun k => h.1 (Classical.byContradiction k)⟩⟩
theorem Br.by {c a b : Prop} (h : c → a) (k : ¬ c → b) : @Br c ⟨a⟩ ⟨b⟩ := ⟨h, k⟩
theorem Br.yes {c a b : Prop} (h : c) (k : a) : @Br c ⟨a⟩ ⟨b⟩ := ⟨fun _ => k, fun z => absurd h z⟩
theorem Br.no {c a b : Prop} (h : ¬ c) (k : b) : @Br c ⟨a⟩ ⟨b⟩ := ⟨fun z => absurd z h, fun _ => k⟩
theorem ite_Br {b : Bool} {p q : Prop} : (if b = true then p else q) = @Br (b = true) ⟨p⟩ ⟨q⟩ := by
  cases b
  · exact propext ⟨fun h => ⟨fun z => (nomatch z), fun _ => h⟩, fun h => h.2 fun z => (nomatch z)⟩
  · exact propext ⟨fun h => ⟨fun _ => h, fun z => absurd rfl z⟩, fun h => h.1 rfl⟩
def Cd (c : Prop) [p : Kp Prop] : Prop := c ∧ p.val
theorem Cd_true {p : Prop} : @Cd True ⟨p⟩ = p := propext ⟨fun h => h.2, fun h => ⟨trivial, h⟩⟩
theorem Cd.by {c p : Prop} (h : c) (k : p) : @Cd c ⟨p⟩ := ⟨h, k⟩
def Al (H : Hp) (o : HO) [Q : Kp VK] : Prop := ∀ p H', New H p o H' → Q.val (.ref p) H'
theorem Al.by {H : Hp} {o : HO} {Q : VK} (h : ∀ p H', New H p o H' → Q (.ref p) H') : @Al H o ⟨Q⟩ := h
structure Mod (H : Hp) (p : Addr) (o : HO) (H' : Hp) : Prop where
  eq : H' = upd H p o
theorem Mod.at {H H' : Hp} {p : Addr} {o : HO} (n : Mod H p o H') : H' p = some o := by rw [n.eq]; exact upd_same
theorem Mod.off {H H' : Hp} {p b : Addr} {o : HO} (n : Mod H p o H') (h : b ≠ p) : H' b = H b := by rw [n.eq]; exact upd_ne h
theorem Mod.old {H H' : Hp} {p b : Addr} {o u : HO} (n : Mod H p o H') (h : b ≠ p) (e : H b = some u) : H' b = some u := by rw [n.off h]; exact e
def Md (H : Hp) (p : Addr) (o : HO) [R : Kp (Hp → Prop)] : Prop := ∀ H', Mod H p o H' → R.val H'
theorem Md.by {H : Hp} {p : Addr} {o : HO} {R : Hp → Prop} (h : ∀ H', Mod H p o H' → R H') : @Md H p o ⟨R⟩ := h
theorem Md_eq {H : Hp} {p : Addr} {o : HO} {R : Hp → Prop} : R (upd H p o) = @Md H p o ⟨R⟩ := propext ⟨fun h H' n => by rw [n.eq]; exact h, fun h => h _ ⟨rfl⟩⟩
def Call (sp : Sp) (vs : List V) (H : Hp) [Q : Kp VK] [E : Kp XK] : Prop := sp vs H Q.val E.val
theorem Call.by {sp : Sp} {vs : List V} {H : Hp} {Q : VK} {E : XK} (h : sp vs H Q E) : @Call sp vs H ⟨Q⟩ ⟨E⟩ := h
def kB (Q : Bool → Hp → Prop) : VK := fun x H => match x with
  | .bl b => Q b H
  | _ => False
def aB (x : V) (H : Hp) [Q : Kp (Bool → Hp → Prop)] : Prop := kB Q.val x H
theorem kB_a {Q : Bool → Hp → Prop} {x : V} {H : Hp} : kB Q x H = @aB x H ⟨Q⟩ := rfl
theorem aB_bl {Q : Bool → Hp → Prop} {b : Bool} {H : Hp} : @aB (.bl b) H ⟨Q⟩ = Q b H := rfl
theorem kB_eq {Q : Bool → Hp → Prop} {x : V} {H : Hp} : (∃ k, x = .bl k ∧ Q k H) = kB Q x H := by
  cases x <;> simp [kB]
def kI (R : Int → Hp → Prop) : VK := fun x H => match x with
  | .int i => R i H
  | _ => False
def aI (x : V) (H : Hp) [Q : Kp (Int → Hp → Prop)] : Prop := kI Q.val x H
theorem kI_a {Q : Int → Hp → Prop} {x : V} {H : Hp} : kI Q x H = @aI x H ⟨Q⟩ := rfl
theorem aI_int {Q : Int → Hp → Prop} {i : Int} {H : Hp} : @aI (.int i) H ⟨Q⟩ = Q i H := rfl
theorem kI_eq {R : Int → Hp → Prop} {x : V} {H : Hp} : (∃ k, x = .int k ∧ R k H) = kI R x H := by
  cases x <;> simp [kI]
def aR (r : R2) (x y : V) (H : Hp) [Q : Kp VK] : Prop := r x y H Q.val
def aC (r : List V → Hp → VK → Prop) (vs : List V) (H : Hp) [Q : Kp VK] : Prop := r vs H Q.val
def aU (r : V → Hp → VK → Prop) (x : V) (H : Hp) [Q : Kp VK] : Prop := r x H Q.val
def aT (x : V) (H : Hp) [R : Kp (Bool → Hp → Prop)] : Prop := rTruU x H R.val
def aS (r : V → Option Int → Option Int → Hp → VK → Prop) (x : V) (l u : Option Int) (H : Hp) [Q : Kp VK] : Prop := r x l u H Q.val
def aG (s : V → V → V → Hp → (Hp → Prop) → Prop) (o i v : V) (H : Hp) [R : Kp (Hp → Prop)] : Prop := s o i v H R.val
def LoopJ (J : It) (σ : L2.St) (H : Hp) [g : Kp TG] [tb : Kp TS] [D : Kp Ends] : Prop := loopJ J g.val tb.val D.val σ H
def LoopU (K : PySem.W.Frag) (x : V) (σ : L2.St) (H : Hp) [g : Kp TG] [tb : Kp TS] [D : Kp Ends] : Prop := loopU K x g.val tb.val D.val σ H
def CompJ (J : It) (us : List Nat) (σ : L2.St) (H : Hp) [g : Kp TG] [tt : Kp TT] [te : Kp TE] [Q : Kp VK] : Prop := compJ J g.val tt.val te.val us σ H Q.val
def CompU (K : PySem.W.Frag) (x : V) (us : List Nat) (σ : L2.St) (H : Hp) [g : Kp TG] [tt : Kp TT] [te : Kp TE] [Q : Kp VK] : Prop := compU K x g.val tt.val te.val us σ H Q.val
def a1 (vs : List V) [R : Kp (Int → Prop)] : Prop := match vs with
  | [.int i] => R.val i
  | _ => False
def a2 (vs : List V) [R : Kp (Int → Int → Prop)] : Prop := match vs with
  | [.int i, .int j] => R.val i j
  | _ => False
theorem a1_int {R : Int → Prop} {i : Int} : @a1 [.int i] ⟨R⟩ = R i := rfl
theorem a2_int {R : Int → Int → Prop} {i j : Int} : @a2 [.int i, .int j] ⟨R⟩ = R i j := rfl

section
variable {t u : TS} {D : Ends} {σ : L2.St} {H : Hp} {Q : VK} {c d : TT} {R : Bool → Hp → Prop} {ta tb tc te : TE} {ts tr : TA} {x y v : V} {vs : List V} {i j : Int} {n : Nat} {p q : Addr} {K : PySem.W.Frag}
theorem r_seq : tSeq t u D σ H = t { D with nx := u D } σ H := rfl
theorem r_ifS : tIfS c t u D σ H = c σ H fun b H1 => @Br (b = true) ⟨t D σ H1⟩ ⟨u D σ H1⟩ := by
  show (c σ H fun b H1 => if b = true then t D σ H1 else u D σ H1) = _
  congr 1
  funext b H1
  exact ite_Br
theorem r_or : tOr c d σ H R = c σ H fun b H1 => @Br (b = true) ⟨R true H1⟩ ⟨d σ H1 R⟩ := by
  show (c σ H fun b H1 => if b = true then R true H1 else d σ H1 R) = _
  congr 1
  funext b H1
  exact ite_Br
theorem r_and : tAnd c d σ H R = c σ H fun b H1 => @Br (b = true) ⟨d σ H1 R⟩ ⟨R false H1⟩ := by
  show (c σ H fun b H1 => if b = true then d σ H1 R else R false H1) = _
  congr 1
  funext b H1
  exact ite_Br
theorem r_not : tNot c σ H R = c σ H fun b H1 => R (!b) H1 := rfl
theorem r_next : tNext D σ H = D.nx σ H := rfl
theorem r_ret : tRet te D σ H = te σ H D.rt := rfl
theorem r_retN : tRetN D σ H = D.rt .non H := rfl
theorem r_brk : tBreak D σ H = D.bk σ H := rfl
theorem r_cnt : tCont D σ H = D.ct σ H := rfl
theorem r_drop : tDrop te D σ H = te σ H fun _ H1 => D.nx σ H1 := rfl
theorem r_asg {g : TG} : tAsg te g D σ H = te σ H fun x H1 => g x σ H1 D.nx := rfl
theorem r_test : tTest te σ H R = te σ H (kB R) := by
  show (te σ H fun x H' => ∃ k, x = .bl k ∧ R k H') = _
  congr 1
  funext x H'
  exact kB_eq
theorem r_yes : tYes σ H R = R true H := rfl
theorem r_c : tC v σ H Q = Q v H := rfl
theorem r_nil {Q : List V → Hp → Prop} : tNil σ H Q = Q [] H := rfl
theorem r_cons {Q : List V → Hp → Prop} : tCons te tr σ H Q = te σ H fun x H1 => tr σ H1 fun xs H2 => Q (x :: xs) H2 := rfl
theorem r_var0 {σ : L2.St} : uVar 0 (some v :: σ) H Q = Q v H := rfl
theorem r_varS {o : Option V} : uVar (n + 1) (o :: σ) H Q = uVar n σ H Q := rfl
theorem r_name0 {o : Option V} {R : L2.St → Hp → Prop} : gName 0 v (o :: σ) H R = R (some v :: σ) H := rfl
theorem r_nameS {o : Option V} {R : L2.St → Hp → Prop} : gName (n + 1) v (o :: σ) H R = gName n v σ H fun σ' H' => R (o :: σ') H' := rfl
theorem r_op {r : R2} : tOp r ta tb σ H Q = ta σ H fun x H1 => tb σ H1 fun y H2 => @aR r x y H2 ⟨Q⟩ := rfl
theorem r_un {r : V → Hp → VK → Prop} : tUn r ta σ H Q = ta σ H fun x H1 => @aU r x H1 ⟨Q⟩ := rfl
theorem r_rU {g : Int → V} : @aU (rU g) (.int i) H ⟨Q⟩ = Q (g i) H := propext ⟨fun ⟨_, e, q⟩ => by cases e; exact q, fun q => ⟨_, rfl, q⟩⟩
theorem r_chain {r r' : R2} : tChain r r' ta tb tc σ H Q = ta σ H fun x H1 => tb σ H1 fun y H2 => @aR r x y H2 ⟨kB fun k H3 => @Br (k = true) ⟨tc σ H3 fun w' H4 => @aR r' y w' H4 ⟨Q⟩⟩ ⟨Q (.bl false) H3⟩⟩ := by
  show (ta σ H fun x H1 => tb σ H1 fun y H2 => r x y H2 fun z H3 => ∃ k, z = .bl k ∧ (if k = true then tc σ H3 fun w' H4 => r' y w' H4 Q else Q (.bl false) H3)) = _
  congr 1
  funext x H1
  congr 1
  funext y H2
  have e : (fun z H3 => ∃ k, z = .bl k ∧ (if k = true then tc σ H3 fun w' H4 => r' y w' H4 Q else Q (.bl false) H3)) = kB fun k H3 => @Br (k = true) ⟨tc σ H3 fun w' H4 => r' y w' H4 Q⟩ ⟨Q (.bl false) H3⟩ := by
    funext z H3
    rw [← kB_eq]
    simp only [ite_Br]
  rw [e]
  rfl
theorem r_andV : tAndV ta tb σ H Q = ta σ H (kB fun c H1 => @Br (c = true) ⟨tb σ H1 Q⟩ ⟨Q (.bl false) H1⟩) := by
  show (ta σ H fun x H1 => ∃ c, x = .bl c ∧ if c = true then tb σ H1 Q else Q (.bl false) H1) = _
  congr 1
  funext z H3
  rw [← kB_eq]
  simp only [ite_Br]
theorem r_orV : tOrV ta tb σ H Q = ta σ H (kB fun c H1 => @Br (c = true) ⟨Q (.bl true) H1⟩ ⟨tb σ H1 Q⟩) := by
  show (ta σ H fun x H1 => ∃ c, x = .bl c ∧ if c = true then Q (.bl true) H1 else tb σ H1 Q) = _
  congr 1
  funext z H3
  rw [← kB_eq]
  simp only [ite_Br]
theorem r_notV : tNotV ta σ H Q = ta σ H (kB fun c H1 => Q (.bl (!c)) H1) := by
  show (ta σ H fun x H1 => ∃ c, x = .bl c ∧ Q (.bl (!c)) H1) = _
  congr 1
  funext z H3
  rw [← kB_eq]
theorem r_call {sp : Sp} {E : XK} : uCall sp [] E ts σ H Q = ts σ H fun vs H1 => @Call sp vs H1 ⟨Q⟩ ⟨E⟩ := by
  unfold uCall Call
  simp only [List.append_nil]
theorem r_cb {r : List V → Hp → VK → Prop} : tCB r ts σ H Q = ts σ H fun vs H1 => @aC r vs H1 ⟨Q⟩ := rfl
theorem r_tup : tTup ts σ H Q = ts σ H fun xs H1 => @Cd (xs.length ≤ sizeLine) ⟨@Al H1 (.tup xs) ⟨Q⟩⟩ := by
  rw [tTup_eq]; rfl
theorem r_lst : tLst ts σ H Q = ts σ H fun xs H1 => @Cd (xs.length ≤ sizeLine) ⟨@Al H1 (.lst xs) ⟨Q⟩⟩ := by
  rw [tLst_eq]; rfl
theorem r_sl {r : V → Option Int → Option Int → Hp → VK → Prop} {tl th : TO} : tSl r te tl th σ H Q = te σ H fun x H1 => tl σ H1 fun l H2 => th σ H2 fun u H3 => @aS r x l u H3 ⟨Q⟩ := rfl
theorem r_noPart {Q : Option Int → Hp → Prop} : tNoPart σ H Q = Q none H := rfl
theorem r_part {Q : Option Int → Hp → Prop} : uPart te σ H Q = te σ H (kI fun i H1 => Q (some i) H1) := by
  show (te σ H fun x H1 => ∃ i, x = .int i ∧ Q (some i) H1) = _
  congr 1
  funext z H3
  exact kI_eq
theorem r_gsub {to ti : TE} {s : TSet} {R : L2.St → Hp → Prop} : gSub to ti s v σ H R = to σ H fun o H1 => ti σ H1 fun i H2 => @aG s o i v H2 ⟨fun H3 => R σ H3⟩ := rfl
theorem r_addI : @aR rAddI (.int i) (.int j) H ⟨Q⟩ = Q (.int (i + j)) H := rfl
theorem r_addS {a b : Str} : @aR rAddS (.str a) (.str b) H ⟨Q⟩ = @Cd (a.length + b.length ≤ sizeLine) ⟨Q (.str (a ++ b)) H⟩ := rfl
theorem r_addUI : @aR rAddU (.int i) (.int j) H ⟨Q⟩ = Q (.int (i + j)) H := rfl
theorem r_addUS {a b : Str} : @aR rAddU (.str a) (.str b) H ⟨Q⟩ = @Cd (a.length + b.length ≤ sizeLine) ⟨Q (.str (a ++ b)) H⟩ := rfl
def lstO : Option HO → Option (List V)
  | some (.lst xs) => some xs
  | _ => none
def tupO : Option HO → Option (List V)
  | some (.tup xs) => some xs
  | _ => none
theorem lstO_lst {xs : List V} : lstO (some (.lst xs)) = some xs := rfl
theorem tupO_tup {xs : List V} : tupO (some (.tup xs)) = some xs := rfl
theorem r_addL : @aR rAddL (.ref p) (.ref q) H ⟨Q⟩ = @OK _ (lstO (H p)) ⟨fun xs => @OK _ (lstO (H q)) ⟨fun ys => @Cd (xs.length + ys.length ≤ sizeLine) ⟨@Al H (.lst (xs ++ ys)) ⟨Q⟩⟩⟩⟩ := by
  unfold aR
  rw [rAddL_eq]
  show (match H p, H q with
    | some (.lst xs), some (.lst ys) => xs.length + ys.length ≤ sizeLine ∧ ∀ r H', New H r (.lst (xs ++ ys)) H' → Q (.ref r) H'
    | _, _ => False) = _
  generalize H p = a
  generalize H q = b
  rcases a with _ | a
  · rfl
  · cases a <;> try rfl
    rcases b with _ | b
    · rfl
    · cases b <;> rfl
def AlT (H : Hp) (p q : Addr) (xs ys : List V) [Q : Kp VK] : Prop := (xs = [] → Q.val (.ref q) H) ∧ (xs ≠ [] → ys = [] → Q.val (.ref p) H) ∧ (xs ≠ [] → ys ≠ [] → @Al H (.tup (xs ++ ys)) Q)
theorem AlT_cc {x y : V} {xs ys : List V} : @AlT H p q (x :: xs) (y :: ys) ⟨Q⟩ = @Al H (.tup (x :: xs ++ y :: ys)) ⟨Q⟩ := by
  unfold AlT
  exact propext ⟨fun h => h.2.2 (by simp) (by simp), fun h => ⟨fun z => (nomatch z), fun _ z => (nomatch z), fun _ _ => h⟩⟩
theorem AlT_nil {ys : List V} : @AlT H p q [] ys ⟨Q⟩ = Q (.ref q) H := by
  unfold AlT
  exact propext ⟨fun h => h.1 rfl, fun h => ⟨fun _ => h, fun z => absurd rfl z, fun z => absurd rfl z⟩⟩
theorem AlT_cnil {x : V} {xs : List V} : @AlT H p q (x :: xs) [] ⟨Q⟩ = Q (.ref p) H := by
  unfold AlT
  exact propext ⟨fun h => h.2.1 (by simp) rfl, fun h => ⟨fun z => (nomatch z), fun _ _ => h, fun _ z => absurd rfl z⟩⟩
theorem AlT.by {xs ys : List V} (h : xs = [] → Q (.ref q) H) (k : ys = [] → Q (.ref p) H) (l : xs ≠ [] → ys ≠ [] → @Al H (.tup (xs ++ ys)) ⟨Q⟩) : @AlT H p q xs ys ⟨Q⟩ := ⟨h, fun _ => k, l⟩
theorem r_addT : @aR rAddT (.ref p) (.ref q) H ⟨Q⟩ = @OK _ (tupO (H p)) ⟨fun xs => @OK _ (tupO (H q)) ⟨fun ys => @Cd (xs.length + ys.length ≤ sizeLine) ⟨@AlT H p q xs ys ⟨Q⟩⟩⟩⟩ := by
  unfold aR
  rw [rAddT_eq]
  show (match H p, H q with
    | some (.tup xs), some (.tup ys) => xs.length + ys.length ≤ sizeLine ∧ (xs = [] → Q (.ref q) H) ∧ (xs ≠ [] → ys = [] → Q (.ref p) H) ∧ (xs ≠ [] → ys ≠ [] → ∀ r H', New H r (.tup (xs ++ ys)) H' → Q (.ref r) H')
    | _, _ => False) = _
  generalize H p = a
  generalize H q = b
  rcases a with _ | a
  · rfl
  · cases a <;> try rfl
    rcases b with _ | b
    · rfl
    · cases b <;> rfl
theorem r_sub : @aR rSubU (.int i) (.int j) H ⟨Q⟩ = Q (.int (i - j)) H := rfl
theorem r_mul : @aR rMulI (.int i) (.int j) H ⟨Q⟩ = @Cd (CMul i j) ⟨Q (.int (i * j)) H⟩ := rfl
theorem r_div : @aR rDivU (.int i) (.int j) H ⟨Q⟩ = @Cd (0 < j ∧ j < 1073741824) ⟨Q (.int (i / j)) H⟩ := rfl
theorem r_mod : @aR rModU (.int i) (.int j) H ⟨Q⟩ = @Cd (0 < j) ⟨Q (.int (i % j)) H⟩ := rfl
theorem r_pow : @aR rPowU (.int i) (.int j) H ⟨Q⟩ = @Cd (CPow i j) ⟨Q (.int (i ^ j.toNat)) H⟩ := rfl
theorem r_lt : @aR rLtU (.int i) (.int j) H ⟨Q⟩ = Q (.bl (decide (i < j))) H := rfl
theorem r_le : @aR rLeU (.int i) (.int j) H ⟨Q⟩ = Q (.bl (decide (i ≤ j))) H := rfl
theorem r_gt : @aR rGtU (.int i) (.int j) H ⟨Q⟩ = Q (.bl (decide (j < i))) H := rfl
theorem r_ge : @aR rGeU (.int i) (.int j) H ⟨Q⟩ = Q (.bl (decide (j ≤ i))) H := rfl
theorem r_eq : @aR rEqS x y H ⟨Q⟩ = @Cd (scal x y = true) ⟨Q (.bl (decide (x = y))) H⟩ := rfl
theorem r_ne : @aR rNeS x y H ⟨Q⟩ = @Cd (scal x y = true) ⟨Q (.bl (!decide (x = y))) H⟩ := rfl
theorem r_isN : @aR rIsNU x .non H ⟨Q⟩ = Q (.bl (decide (x = .non))) H := propext ⟨fun h => h.2, fun h => ⟨rfl, h⟩⟩
theorem r_notN : @aR rNotNU x .non H ⟨Q⟩ = Q (.bl (!decide (x = .non))) H := propext ⟨fun h => h.2, fun h => ⟨rfl, h⟩⟩
theorem r_inS {c : Nat} {z : Str} : @aR (rInU false) (.str ⟨#[c]⟩) (.str z) H ⟨Q⟩ = Q (.bl (decide (c ∈ z.cps.toList))) H := propext ⟨fun ⟨d, e, q⟩ => by cases e; simpa using q, fun q => ⟨c, rfl, by simpa using q⟩⟩
theorem r_ninS {c : Nat} {z : Str} : @aR (rInU true) (.str ⟨#[c]⟩) (.str z) H ⟨Q⟩ = Q (.bl (!decide (c ∈ z.cps.toList))) H := propext ⟨fun ⟨d, e, q⟩ => by cases e; simpa using q, fun q => ⟨c, rfl, by simpa using q⟩⟩
def seqO : Option HO → Option (List V)
  | some (.lst xs) => some xs
  | some (.tup xs) => some xs
  | some (.frz _ (.lst xs)) => some xs
  | some (.frz _ (.tup xs)) => some xs
  | _ => none
theorem seqO_eq : seqAt H p = seqO (H p) := rfl
theorem seqO_lst {xs : List V} : seqO (some (.lst xs)) = some xs := rfl
theorem seqO_tup {xs : List V} : seqO (some (.tup xs)) = some xs := rfl
theorem r_in : @aR (rInU false) x (.ref p) H ⟨Q⟩ = @OK _ (seqAt H p) ⟨fun xs => @Cd (flatV x = true ∧ xs.all flatV = true) ⟨Q (.bl (inV x xs)) H⟩⟩ := by
  show (match seqAt H p with
    | some xs => flatV x = true ∧ xs.all flatV = true ∧ Q (.bl (xor false (inV x xs))) H
    | none => False) = _
  generalize seqAt H p = a
  rcases a with _ | a
  · rfl
  · exact propext ⟨fun h => ⟨⟨h.1, h.2.1⟩, by simpa using h.2.2⟩, fun h => ⟨h.1.1, h.1.2, by simpa using h.2⟩⟩
theorem r_nin : @aR (rInU true) x (.ref p) H ⟨Q⟩ = @OK _ (seqAt H p) ⟨fun xs => @Cd (flatV x = true ∧ xs.all flatV = true) ⟨Q (.bl (!inV x xs)) H⟩⟩ := by
  show (match seqAt H p with
    | some xs => flatV x = true ∧ xs.all flatV = true ∧ Q (.bl (xor true (inV x xs))) H
    | none => False) = _
  generalize seqAt H p = a
  rcases a with _ | a
  · rfl
  · exact propext ⟨fun h => ⟨⟨h.1, h.2.1⟩, by simpa using h.2.2⟩, fun h => ⟨h.1.1, h.1.2, by simpa using h.2⟩⟩
theorem r_inG {xs : List V} : @aR (rInG p xs false) x (.ref p) H ⟨Q⟩ = @Cd (flatV x = true) ⟨Q (.bl (inV x xs)) H⟩ := propext ⟨fun h => ⟨h.2.1, by simpa using h.2.2⟩, fun h => ⟨rfl, h.1, by simpa using h.2⟩⟩
theorem r_ninG {xs : List V} : @aR (rInG p xs true) x (.ref p) H ⟨Q⟩ = @Cd (flatV x = true) ⟨Q (.bl (!inV x xs)) H⟩ := propext ⟨fun h => ⟨h.2.1, by simpa using h.2.2⟩, fun h => ⟨rfl, h.1, by simpa using h.2⟩⟩
theorem r_ixS {z : Str} : @aR rIxU (.str z) (.int i) H ⟨Q⟩ = @Cd (z.length ≤ sizeLine) ⟨@OK _ (atI z.cps.toList i) ⟨fun c => Q (.str ⟨#[c]⟩) H⟩⟩ := by
  show (z.length ≤ sizeLine ∧ ∃ c, atI z.cps.toList i = some c ∧ Q (.str ⟨#[c]⟩) H) = _
  unfold Cd
  congr 1
  generalize atI z.cps.toList i = a
  rcases a with _ | a
  · exact propext ⟨fun ⟨_, e, _⟩ => (nomatch e), fun h => False.elim h⟩
  · exact propext ⟨fun ⟨_, e, q⟩ => by cases e; exact q, fun h => ⟨_, rfl, h⟩⟩
theorem r_ix : @aR rIxU (.ref p) (.int i) H ⟨Q⟩ = @OK _ (seqAt H p) ⟨fun xs => @OK _ (atI xs i) ⟨fun v => Q v H⟩⟩ := by
  show (match seqAt H p with
    | some xs => ∃ v, atI xs i = some v ∧ Q v H
    | none => False) = _
  generalize seqAt H p = a
  rcases a with _ | a
  · rfl
  · show (∃ v, atI a i = some v ∧ Q v H) = @OK _ (atI a i) ⟨fun v => Q v H⟩
    generalize atI a i = b
    rcases b with _ | b
    · exact propext ⟨fun ⟨_, e, _⟩ => (nomatch e), fun h => False.elim h⟩
    · exact propext ⟨fun ⟨_, e, q⟩ => by cases e; exact q, fun h => ⟨_, rfl, h⟩⟩
theorem r_set {R : Hp → Prop} : @aG rSetU (.ref p) (.int i) v H ⟨R⟩ = @OK _ (lstO (H p)) ⟨fun xs => @OK _ (ixN xs.length i) ⟨fun j => @Md H p (.lst (xs.set j v)) ⟨R⟩⟩⟩ := by
  show (match H p with
    | some (.lst xs) => ∃ j, ixN xs.length i = some j ∧ R (upd H p (.lst (xs.set j v)))
    | _ => False) = _
  generalize H p = a
  rcases a with _ | a
  · rfl
  · cases a <;> try rfl
    rename_i xs
    show (∃ j, ixN xs.length i = some j ∧ R (upd H p (.lst (xs.set j v)))) = @OK _ (ixN xs.length i) ⟨fun j => @Md H p (.lst (xs.set j v)) ⟨R⟩⟩
    generalize ixN xs.length i = b
    rcases b with _ | b
    · exact propext ⟨fun ⟨_, e, _⟩ => (nomatch e), fun h => False.elim h⟩
    · exact propext ⟨fun ⟨_, e, q⟩ => by cases e; exact Eq.mp Md_eq q, fun h => ⟨_, rfl, Eq.mpr Md_eq h⟩⟩
theorem r_slS {z : Str} {lo hi : Option Int} : @aS rSlU (.str z) lo hi H ⟨Q⟩ = @Cd (z.length ≤ sizeLine) ⟨Q (.str (cutS z lo hi)) H⟩ := rfl
def AlS (H : Hp) (p : Addr) (o : Option HO) (lo hi : Option Int) [Q : Kp VK] : Prop := match o with
  | some (.lst xs) => @Al H (.lst (cutV xs lo hi)) Q
  | some (.tup xs) => (wholeT xs.length lo hi → Q.val (.ref p) H) ∧ (¬ wholeT xs.length lo hi → @Al H (.tup (cutV xs lo hi)) Q)
  | _ => False
theorem AlS_lst {xs : List V} {lo hi : Option Int} : @AlS H p (some (.lst xs)) lo hi ⟨Q⟩ = @Al H (.lst (cutV xs lo hi)) ⟨Q⟩ := rfl
theorem AlS_tup {xs : List V} {lo hi : Option Int} : @AlS H p (some (.tup xs)) lo hi ⟨Q⟩ = @Br (wholeT xs.length lo hi) ⟨Q (.ref p) H⟩ ⟨@Al H (.tup (cutV xs lo hi)) ⟨Q⟩⟩ := rfl
theorem r_slR {lo hi : Option Int} : @aS rSlU (.ref p) lo hi H ⟨Q⟩ = @AlS H p (H p) lo hi ⟨Q⟩ := by unfold aS; rw [rSl_eq]; rfl
theorem cutV_mem {xs : List V} {lo hi : Option Int} {x : V} (h : x ∈ cutV xs lo hi) : x ∈ xs := List.mem_of_mem_drop (List.mem_of_mem_take h)
def lenO : Option HO → Option Nat
  | some (.lst xs) => some xs.length
  | some (.tup xs) => some xs.length
  | some (.frz _ (.lst xs)) => some xs.length
  | some (.frz _ (.tup xs)) => some xs.length
  | some (.dK kvs) => some kvs.length
  | _ => none
theorem lenO_lst {xs : List V} : lenO (some (.lst xs)) = some xs.length := rfl
theorem lenO_tup {xs : List V} : lenO (some (.tup xs)) = some xs.length := rfl
theorem lenO_dK {xs : List (Key × V)} : lenO (some (.dK xs)) = some xs.length := rfl
theorem r_lenS {z : Str} : @aC rLenU [.str z] H ⟨Q⟩ = @Cd (z.length ≤ sizeLine) ⟨Q (.int z.length) H⟩ := rfl
theorem r_lenR : @aC rLenU [.ref p] H ⟨Q⟩ = @OK _ (lenO (H p)) ⟨fun n => Q (.int n) H⟩ := by
  show (match seqAt H p with
    | some ys => Q (.int ys.length) H
    | none => match H p with
      | some (.dK kvs) => Q (.int kvs.length) H
      | _ => False) = _
  unfold seqAt
  generalize H p = a
  rcases a with _ | a
  · rfl
  · cases a <;> try rfl
    rename_i o a
    cases a <;> rfl
theorem r_listU : @aC rListU [.ref p] H ⟨Q⟩ = @OK _ (seqAt H p) ⟨fun ys => @Al H (.lst ys) ⟨Q⟩⟩ := by
  unfold aC
  rw [rList_eq]
  show (match seqAt H p with
    | some ys => ∀ l H', New H l (.lst ys) H' → Q (.ref l) H'
    | none => False) = _
  generalize seqAt H p = a
  rcases a with _ | a <;> rfl
def AlC (H : Hp) (p : Addr) (o : Option HO) [Q : Kp VK] : Prop := match o with
  | some (.lst ys) => @Al H (.tup ys) Q
  | some (.tup ys) => Q.val (.ref p) H
  | _ => False
theorem AlC_lst {ys : List V} : @AlC H p (some (.lst ys)) ⟨Q⟩ = @Al H (.tup ys) ⟨Q⟩ := rfl
theorem AlC_tup {ys : List V} : @AlC H p (some (.tup ys)) ⟨Q⟩ = Q (.ref p) H := rfl
theorem r_tupleU : @aC rTupleU [.ref p] H ⟨Q⟩ = @AlC H p (H p) ⟨Q⟩ := by unfold aC; rw [rTuple_eq]; rfl
theorem r_int : @aC rIntCall [.int i] H ⟨Q⟩ = Q (.int i) H := rfl
theorem r_intB {b : Bool} : @aC rIntCall [.bl b] H ⟨Q⟩ = Q (.int (if b then 1 else 0)) H := rfl
def tyO : Option HO → Option Ty
  | some (.lst _) => some .lst
  | some (.tup _) => some .tup
  | some (.dK _) => some .dict
  | some (.dT _) => some .dict
  | _ => none
theorem e_tyR : tyV H (.ref p) = tyO (H p) := by
  show (match H p with
    | some (.lst _) => some Ty.lst
    | some (.tup _) => some .tup
    | some (.dK _) => some .dict
    | some (.dT _) => some .dict
    | _ => none) = _
  generalize H p = a
  rcases a with _ | a
  · rfl
  · cases a <;> rfl
theorem tyO_t : (∀ xs, tyO (some (.lst xs)) = some .lst) ∧ (∀ xs, tyO (some (.tup xs)) = some .tup) ∧ (∀ xs, tyO (some (.dK xs)) = some .dict) ∧ (∀ xs, tyO (some (.dT xs)) = some .dict) := ⟨fun _ => rfl, fun _ => rfl, fun _ => rfl, fun _ => rfl⟩
theorem e_ty : tyV H .non = some .non ∧ (∀ b, tyV H (.bl b) = some .bl) ∧ (∀ i, tyV H (.int i) = some .int) ∧ (∀ z, tyV H (.str z) = some .str) := ⟨rfl, fun _ => rfl, fun _ => rfl, fun _ => rfl⟩
theorem r_isi {c : Ty} {s : String} : @aC (rIsi c) [x, .ty s] H ⟨Q⟩ = @Cd (s = c.name) ⟨@OK _ (tyV H x) ⟨fun t => Q (.bl (t.isa c)) H⟩⟩ := by
  have k : ∀ o : Option Ty, (match o with | some t => Q (.bl (t.isa c)) H | none => False) = @OK _ o ⟨fun t => Q (.bl (t.isa c)) H⟩ := fun o => by cases o <;> rfl
  unfold aC rIsi Cd
  rw [← k]
  exact propext ⟨fun ⟨x', e, h⟩ => by cases e; exact ⟨rfl, h⟩, fun ⟨e, h⟩ => by subst e; exact ⟨x, rfl, h⟩⟩
theorem e_tyn : Ty.name .non = "NoneType" ∧ Ty.name .bl = "bool" ∧ Ty.name .int = "int" ∧ Ty.name .str = "str" ∧ Ty.name .lst = "list" ∧ Ty.name .tup = "tuple" ∧ Ty.name .dict = "dict" := ⟨rfl, rfl, rfl, rfl, rfl, rfl, rfl⟩
theorem r_tru : uTru te σ H R = te σ H fun x H1 => @aT x H1 ⟨R⟩ := rfl
def truO : Option HO → Option Bool
  | some (.lst xs) => some (!xs.isEmpty)
  | some (.tup xs) => some (!xs.isEmpty)
  | some (.frz _ (.lst xs)) => some (!xs.isEmpty)
  | some (.frz _ (.tup xs)) => some (!xs.isEmpty)
  | some (.dK kvs) => some (!kvs.isEmpty)
  | _ => none
theorem truO_lst {xs : List V} : truO (some (.lst xs)) = some (!xs.isEmpty) := rfl
theorem truO_tup {xs : List V} : truO (some (.tup xs)) = some (!xs.isEmpty) := rfl
theorem truO_dK {xs : List (Key × V)} : truO (some (.dK xs)) = some (!xs.isEmpty) := rfl
theorem r_truN : @aT .non H ⟨R⟩ = R false H := rfl
theorem r_truB {b : Bool} : @aT (.bl b) H ⟨R⟩ = R b H := rfl
theorem r_truI : @aT (.int i) H ⟨R⟩ = R (!decide (i = 0)) H := by
  show R (i != 0) H = _
  congr 1
theorem r_truS {z : Str} : @aT (.str z) H ⟨R⟩ = @Cd (z.length ≤ sizeLine) ⟨R (!decide (z.length = 0)) H⟩ := by
  show (z.length ≤ sizeLine ∧ R ((z.length : Int) != 0) H) = _
  unfold Cd
  congr 2
  by_cases h : z.length = 0
  · rw [h]; rfl
  · rw [decide_eq_false h]
    exact bne_iff_ne.mpr (by omega)
theorem r_truR : @aT (.ref p) H ⟨R⟩ = @OK _ (truO (H p)) ⟨fun b => R b H⟩ := by
  show (match seqAt H p with
    | some xs => R (!xs.isEmpty) H
    | none => match H p with
      | some (.dK kvs) => R (!kvs.isEmpty) H
      | _ => False) = _
  unfold seqAt
  generalize H p = a
  rcases a with _ | a
  · rfl
  · cases a <;> try rfl
    rename_i o a
    cases a <;> rfl
def aL (H : Hp) (x : V) [P : Kp Prop] : Prop := match x with
  | .ref p => @OK _ (lstO (H p)) ⟨fun _ => P.val⟩
  | _ => False
theorem aL_ref {P : Prop} : @aL H (.ref p) ⟨P⟩ = @OK _ (lstO (H p)) ⟨fun _ => P⟩ := rfl
def rApp : V → List V → Hp → VK → Prop := fun x vs H Q => match x, vs with
  | .ref l, [y] => @OK _ (lstO (H l)) ⟨fun xs => @Cd (xs.length < sizeLine) ⟨@Md H l (.lst (xs ++ [y])) ⟨fun H' => Q .non H'⟩⟩⟩
  | _, _ => False
def aM (r : V → List V → Hp → VK → Prop) (x : V) (vs : List V) (H : Hp) [Q : Kp VK] : Prop := r x vs H Q.val
theorem k1_eq {R : Int → Prop} : (∃ j : Int, vs = [.int j] ∧ R j) = @a1 vs ⟨R⟩ := by
  unfold a1
  split
  · rename_i i; exact propext ⟨fun ⟨_, e, q⟩ => by cases e; exact q, fun q => ⟨i, rfl, q⟩⟩
  · rename_i h; exact propext ⟨fun ⟨j, e, _⟩ => h j e, fun q => q.elim⟩
theorem k2_eq {R : Int → Int → Prop} : (∃ i j : Int, vs = [.int i, .int j] ∧ R i j) = @a2 vs ⟨R⟩ := by
  unfold a2
  split
  · rename_i i j; exact propext ⟨fun ⟨_, _, e, q⟩ => by cases e; exact q, fun q => ⟨i, j, rfl, q⟩⟩
  · rename_i h; exact propext ⟨fun ⟨i, j, e, _⟩ => h i j e, fun q => q.elim⟩
theorem r_for1 {g : TG} {tb : TS} : tFor (iRng1 ts) g tb D σ H = ts σ H fun vs H1 => @a1 vs ⟨fun j => @Cd (-4611686018427387904 ≤ j ∧ j < 4611686018427387904) ⟨@LoopJ (Itr 0 j.toNat) σ H1 ⟨g⟩ ⟨tb⟩ ⟨D⟩⟩⟩ := by
  rw [for_R1]
  congr 1
  funext vs H1
  rw [← k1_eq]
  exact propext ⟨fun ⟨j, e, a, b, c⟩ => ⟨j, e, ⟨a, b⟩, c⟩, fun ⟨j, e, ⟨a, b⟩, c⟩ => ⟨j, e, a, b, c⟩⟩
theorem r_for2 {g : TG} {tb : TS} : tFor (iRng2 ts) g tb D σ H = ts σ H fun vs H1 => @a2 vs ⟨fun i j => @Cd (rngOk i j) ⟨@LoopJ (Itr i (j - i).toNat) σ H1 ⟨g⟩ ⟨tb⟩ ⟨D⟩⟩⟩ := by
  rw [for_R2]
  congr 1
  funext vs H1
  rw [← k2_eq]
  exact propext ⟨fun ⟨i, j, e, a, b⟩ => ⟨i, j, e, a, b⟩, fun ⟨i, j, e, a, b⟩ => ⟨i, j, e, a, b⟩⟩
theorem r_for {g : TG} {tb : TS} : tFor (iU K te) g tb D σ H = te σ H fun x H1 => @LoopU K x σ H1 ⟨g⟩ ⟨tb⟩ ⟨D⟩ := rfl
theorem r_lc {g : TG} {tt : TT} {tel : TE} {us : List Nat} : tLc (iU K te) g tt tel us σ H Q = te σ H fun x H1 => @CompU K x us σ H1 ⟨g⟩ ⟨tt⟩ ⟨tel⟩ ⟨Q⟩ := rfl
theorem r_lc1 {g : TG} {tt : TT} {tel : TE} {us : List Nat} : tLc (iRng1 ts) g tt tel us σ H Q = ts σ H fun vs H1 => @a1 vs ⟨fun j => @Cd (-4611686018427387904 ≤ j ∧ j < 4611686018427387904) ⟨@CompJ (Itr 0 j.toNat) us σ H1 ⟨g⟩ ⟨tt⟩ ⟨tel⟩ ⟨Q⟩⟩⟩ := by
  rw [lc_R1]
  congr 1
  funext vs H1
  rw [← k1_eq]
  exact propext ⟨fun ⟨j, e, a, b, c⟩ => ⟨j, e, ⟨a, b⟩, c⟩, fun ⟨j, e, ⟨a, b⟩, c⟩ => ⟨j, e, a, b, c⟩⟩
theorem r_lc2 {g : TG} {tt : TT} {tel : TE} {us : List Nat} : tLc (iRng2 ts) g tt tel us σ H Q = ts σ H fun vs H1 => @a2 vs ⟨fun i j => @Cd (rngOk i j) ⟨@CompJ (Itr i (j - i).toNat) us σ H1 ⟨g⟩ ⟨tt⟩ ⟨tel⟩ ⟨Q⟩⟩⟩ := by
  rw [lc_R2]
  congr 1
  funext vs H1
  rw [← k2_eq]
  exact propext ⟨fun ⟨i, j, e, a, b⟩ => ⟨i, j, e, a, b⟩, fun ⟨i, j, e, a, b⟩ => ⟨i, j, e, a, b⟩⟩
end
theorem eqV_t : (∀ a b : Int, eqV (.int a) (.int b) = decide (b = a)) ∧ (∀ a b : Str, eqV (.str a) (.str b) = decide (b = a)) := by
  refine ⟨fun a b => ?_, fun a b => ?_⟩
  · show (a == b) = _
    by_cases h : b = a
    · subst h; rw [decide_eq_true rfl]; exact beq_self_eq_true _
    · rw [decide_eq_false h]; exact beq_eq_false_iff_ne.mpr fun e => h e.symm
  · show (a == b) = _
    by_cases h : b = a
    · subst h; rw [decide_eq_true rfl]; exact beq_self_eq_true _
    · rw [decide_eq_false h]; exact beq_eq_false_iff_ne.mpr fun e => h e.symm
theorem inV_cons {x y : V} {xs : List V} : inV x (y :: xs) = (eqV y x || inV x xs) := rfl
theorem inV_nil {x : V} : inV x [] = false := rfl
theorem szl : sizeLine = 16777216 := rfl
theorem cmul_l {i j : Int} : CMul i j = ((-18446744073709551616 < i ∧ i < 18446744073709551616) ∨ (-18446744073709551616 < j ∧ j < 18446744073709551616)) := rfl
theorem cpow_l {i j : Int} : CPow i j = (0 ≤ j ∧ j ≤ 1000000 ∧ i.natAbs < 18446744073709551616) := rfl
end U
end

section
namespace U
open PySem PySem.Spec PyProof.Rows L2
section
variable {X : Cx} {C : Addr} {bmB : List Value} {B newId initId : String} {x : Str} {p pos : Pos}
theorem pmk_own0 (F : ExcBaseFacts B newId initId bmB) (q : PySem.W.excIn X.K C bmB newId = true) (gC : X.mg x = some (.ref C)) (kC : PySem.W.keepIn X.K (.ref C) = true) (r : Raises X (.ref C)) (hg : Gl X x := by rfl) (hdb : (x == ("__debug__" : Str)) = false := by decide) :
    PMk X (.Call (.Name x p) [] [] pos) (fun _ H Q => Q (.ref C) none H) := by
  intro pins s σ H Q J h
  refine wpAny_Call_Name_kw (ld_glob J hg gC ?_ hdb)
  refine PySem.W.callWith_K0 J.kIn kC ?_
  show wpAny _ _ (call (.ref C) []) _ _ _
  obtain ⟨o1, o2, o3, o4, o5, o6, o7, o8, o9, o10, o11, o12, o13, o14, o15, o16, o17, hC, hN, hni, T⟩ := exc_obj J.kIn q
  exact wpAny_call_exc_subT F T hC hN hni (fun h' b made => mk_of J made r h (J.hok.gone made.new)) (Nat.zero_le _)
end
structure ErrC (K : PySem.W.Frag) (C : Addr) : Prop where
  q : PySem.W.excIn K C He.veBase "ValueError.__new__" = true
  k : PySem.W.keepIn K (.ref C) = true
  s : PySem.W.subIn K (.ref C) (.type "BaseException") = some true
  t : PySem.W.typeIn K (.ref C) = some (.type "type")
def uRaise0 (W : WX) (C : Addr) : TS := fun _ σ H => W (.ref C) none σ H
theorem ps_raise0 {X : Cx} {W : WX} {x : Str} {C : Addr} {p pos pos2 : Pos} (T : ErrC X.K C) (gC : X.mg x = some (.ref C)) (tk : Takes X W) (hc : X.calm = true := by rfl) (hg : Gl X x := by rfl) (hdb : (x == ("__debug__" : Str)) = false := by decide) :
    PS X (.Raise (some (.Call (.Name x p) [] [] pos)) none pos2) (uRaise0 W C) :=
  ps_raise hc tk (pmk_own0 PySem.F.excBase_ValueError T.q gC T.k (raises_own T.s T.t) hg hdb)

def uCallX (sp : Sp) (W : WX) (t : TA) : TE := fun σ H Q => t σ H fun vs H1 => sp vs H1 Q (WE W σ)
structure CalX (P : Program) (w : World) (K : PySem.W.Frag) (mg : Str → Option Value) (base : Heap) (k : Nat) (x : Str) (sp : Sp) : Prop where
  ex : ∃ f : Addr, mg x = some (.ref f) ∧ PySem.W.keepIn K (.ref f) = true ∧ ∀ {X : Cx} {pins : List (Addr × Obj)} {σ : L2.St} {H : Hp} {s : Shared} {us : List Value} {vs : List V} {Q : VK} {E : XK},
    X.prog = P → X.w = w → X.K = K → X.mg = mg → X.base = base → Room k X.A → PassesAt (L2.CX P w) X σ E → Inv X pins σ H s → Vals vs us → sp vs H Q E → wpAny (model X.prog X.w) X.A (call (.ref f) us) (EP X pins σ Q) X.xe s
section
variable {P : Program} {w : World} {K : PySem.W.Frag} {mg : Str → Option Value} {base : Heap} {k : Nat} {x : Str} {f C : Addr} {fd : FuncData} {ps : List Str} {sp spI : Sp}
theorem CalX.mono {k' : Nat} (c : CalX P w K mg base k x sp) (h : k ≤ k') : CalX P w K mg base k' x sp := by
  obtain ⟨f, a, b, r⟩ := c.ex
  exact ⟨f, a, b, fun e1 e2 e3 e4 e5 hr => r e1 e2 e3 e4 e5 (hr.mono h)⟩
theorem CalX.def_ (F : FnOk P w K mg base (L2.CX P w) k f fd ps sp) (hm : mg x = some (.ref f)) (hk : PySem.W.keepIn K (.ref f) = true) (hb : Binds K fd ps []) : CalX P w K mg base k x sp :=
  ⟨f, hm, hk, fun {X pins σ H s us vs Q E} e1 e2 e3 e4 e5 hr hx I r h => by
    subst e1 e2 e3 e4 e5
    exact run_fnS (E := fun _ => E) F hr hb hx I r h⟩
theorem CalX.make (M : Mk K C f) (F : FnOk P w K mg base (L2.CX P w) k f fd ps spI) (hm : mg x = some (.ref C)) (hb : Binds K fd ps [])
    (hI : ∀ vs H Q E, sp vs H Q E → ∀ o dx, H o = none → H dx = none → dx ≠ o → spI (.ref o :: vs) (upd (upd H dx (.own o)) o (.ins C dx [])) (fun v H2 => v = .non ∧ Q (.ref o) H2) E) : CalX P w K mg base (k + 1) x sp :=
  ⟨C, hm, M.kp, fun {X pins σ H s us vs Q E} e1 e2 e3 e4 e5 hr hx I r h => by
    subst e1 e2 e3 e4 e5
    have here := hI _ _ _ _ h (s.heap.objs.size + 1) s.heap.objs.size (I.hok.fresh (Nat.le_succ _)) (I.hok.fresh (Nat.le_refl _)) (Nat.ne_of_lt (Nat.lt_succ_self _))
    have J := Inv.made (C := C) I
    have rr : Vals (V.ref (s.heap.objs.size + 1) :: vs) (Value.ref (s.heap.objs.size + 1) :: us) := .cons rfl r
    have ll : (Value.ref (s.heap.objs.size + 1) :: us ++ []).length = ps.length := by
      rw [List.append_nil, ← F.len _ _ _ _ here]
      exact rr.length.symm
    have bb := hb _ (Value.ref (s.heap.objs.size + 1) :: us) J.kIn ll
    rw [List.append_nil] at bb
    refine wpAny_call (make_map (f := f) I.kIn M.makes M.init (beq_iff_eq.mp M.fn) (codeAny_mono (F.run _ X.stack _ _ ⟨Value.ref (s.heap.objs.size + 1) :: us, []⟩ (Value.ref (s.heap.objs.size + 1) :: us) _ _ E (hr.make C us [])
      (J.env0.make C us []) bb rr here) fun res s' got => ?_))
    cases res with
    | error e => exact hx pins _ _ e s' J got
    | ok fl =>
      cases fl with
      | ret u =>
        obtain ⟨v, H9, J9, rv, ev, q9⟩ := J.after got
        subst ev
        exact ⟨rv, ⟨V.ref (s.heap.objs.size + 1), H9, J9, rfl, q9⟩⟩
      | next => exact False.elim got
      | brk => exact False.elim got
      | cont => exact False.elim got⟩
end
section
variable {X : Cx} {k : Nat} {x : Str} {sp : Sp} {W : WX} {p pos : Pos} {e : Expr} {es : List Expr} {ta : TA}
theorem pe_calX (c : CalX X.prog X.w X.K X.mg X.base k x sp) (hr : Room k X.A) (tk : Takes X W) (ha : PA X (e :: es) ta) (hg : Gl X x := by rfl) (hdb : (x == ("__debug__" : Str)) = false := by decide)
    (he : starEach (e :: es) X.env = (false, eval e X.env) :: starEach es X.env := by rfl) (hpl : (backTo pos (starEach es X.env)).any (·.1) = false := by rfl) : PE X (.Call (.Name x p) (e :: es) [] pos) (uCallX sp W ta) := by
  obtain ⟨f, hm, hk, run⟩ := c.ex
  refine ⟨fun pins s σ H Q J h => wpAny_Call_Name_kw (ld_glob J hg hm ?_ hdb)⟩
  exact PySem.W.callWith_K (h₀ := X.base) J.ok.mod.kin hk (thn (ha.run pos pins s σ H _ J h) fun us s1 ⟨vs, H1, J1, r, q⟩ => ⟨J1.kIn, run rfl rfl rfl rfl rfl hr (passAt tk σ) J1 r q⟩) he hpl
theorem pe_calX0 (c : CalX X.prog X.w X.K X.mg X.base k x sp) (hr : Room k X.A) (tk : Takes X W) (hg : Gl X x := by rfl) (hdb : (x == ("__debug__" : Str)) = false := by decide) : PE X (.Call (.Name x p) [] [] pos) (uCallX sp W tNil) := by
  obtain ⟨f, hm, hk, run⟩ := c.ex
  refine ⟨fun pins s σ H Q J h => wpAny_Call_Name_kw (ld_glob J hg hm ?_ hdb)⟩
  exact PySem.W.callWith_K0 J.kIn hk (run rfl rfl rfl rfl rfl hr (passAt tk σ) J .nil h)
theorem pe_cal0 {ps : List Str} {dvs : List V} (c : Callee X.prog X.w X.K X.mg X.base CX0 k x ps dvs sp) (hr : Room k X.A) (hg : Gl X x := by rfl) (hd : (x == ("__debug__" : Str)) = false := by decide) : PE X (.Call (.Name x p) [] [] pos) (uCall sp dvs E0 tNil) := by
  obtain ⟨f, fd, ds, hm, F, kp, b, v⟩ := c.ex
  exact pe_call0 F hr hg hm kp b v pass0 hd
end

structure SMet (K : PySem.W.Frag) (C : Addr) (m : Str) (p g : Addr) : Prop where
  rd : ClX.CRead K C (.type "type")
  at_ : PySem.W.findCls K (.ref C) (.type "type") m = some (.get (.builtin "staticmethod.__get__") (.ref p) .none (.ref C))
  rc : ∃ rest, PySem.W.recIn K p "staticmethod" = some (.ref g :: rest)
  kp : PySem.W.keepIn K (.ref g) = true
section
variable {X : Cx} {k : Nat} {c m : Str} {C g : Addr} {sp : Sp} {W : WX} {p apos pos : Pos} {e : Expr} {es : List Expr} {ta : TA} {fd : FuncData} {ps : List Str} {pl : Sem Bool}
theorem getmethsm {pins : List (Addr × Obj)} {σ : L2.St} {H : Hp} {s : Shared} {q : Addr} {A : Around} {E : Value → Shared → Prop} {Q : Value × List Value → Shared → Prop} (J : Inv X pins σ H s) (S : SMet X.K C m q g) (h : ∀ s', Inv X pins σ H s' → Q (.ref g, []) s') :
    wpAny (model X.prog X.w) A (getMethod (.ref C) m pl) Q E s := by
  obtain ⟨rest, hp⟩ := S.rc
  refine PySem.W.method_cls J.kIn S.rd.ga (PySem.W.cls_bind J.kIn S.rd.rd S.at_ ?_)
  exact wpAny_call (PySem.W.sm_get (s := { s with toks := s.toks + 1 }) J.kIn hp (PySem.W.handed_on rfl (h _ (J.tok _))))
theorem pe_smeth0 (S : ∃ q, SMet X.K C m q g) (gC : X.mg c = some (.ref C)) (F : FnOk X.prog X.w X.K X.mg X.base CX0 k g fd ps sp) (hr : Room k X.A) (hb : Binds X.K fd ps []) (hg : Gl X c := by rfl) (hd : (c == ("__debug__" : Str)) = false := by decide)
    (ht : eval (.Call (.Attribute (.Name c p) m apos) [] [] pos) X.env = (do
      let ov ← eval (.Name c p) X.env
      standAt apos.atName
      let (f, first) ← holding [ov] (getMethod ov m pl)
      callWith pos f first (backTo pos (starEach [] X.env)) (backToKw pos (keywordEach [] X.env))) := by rfl) : PE X (.Call (.Attribute (.Name c p) m apos) [] [] pos) (uCall sp [] E0 tNil) := by
  obtain ⟨q, S⟩ := S
  refine ⟨fun pins s σ H Q J h => PySem.W.methodCall_KW (pl := pl) (ld_glob J hg gC ?_ hd) ht⟩
  refine getmethsm J S fun s2 J2 => ?_
  exact PySem.W.callWith_K0 (first := []) J2.kIn S.kp (run_fn (us := []) F hr hb .nil pass0 J2 .nil h)
theorem pe_smeth (S : ∃ q, SMet X.K C m q g) (gC : X.mg c = some (.ref C)) (F : FnOk X.prog X.w X.K X.mg X.base CX0 k g fd ps sp) (hr : Room k X.A) (hb : Binds X.K fd ps []) (ha : PA X (e :: es) ta) (hg : Gl X c := by rfl) (hd : (c == ("__debug__" : Str)) = false := by decide)
    (he : starEach (e :: es) X.env = (false, eval e X.env) :: starEach es X.env := by rfl) (hpl : (backTo pos (starEach es X.env)).any (·.1) = false := by rfl)
    (ht : eval (.Call (.Attribute (.Name c p) m apos) (e :: es) [] pos) X.env = (do
      let ov ← eval (.Name c p) X.env
      standAt apos.atName
      let (f, first) ← holding [ov] (getMethod ov m pl)
      callWith pos f first (backTo pos (starEach (e :: es) X.env)) (backToKw pos (keywordEach [] X.env))) := by rfl) : PE X (.Call (.Attribute (.Name c p) m apos) (e :: es) [] pos) (uCall sp [] E0 ta) := by
  obtain ⟨q, S⟩ := S
  refine ⟨fun pins s σ H Q J h => PySem.W.methodCall_KW (pl := pl) (ld_glob J hg gC ?_ hd) ht⟩
  refine getmethsm J S fun s2 J2 => ?_
  exact PySem.W.callWith_K (h₀ := X.base) (first := []) J2.ok.mod.kin S.kp (thn (ha.run pos pins s2 σ H _ J2 h) fun us s1 ⟨vs, H1, J1, r, q⟩ => ⟨J1.kIn, run_fn F hr hb .nil pass0 J1 r q⟩) he hpl
end

def insO (C : Addr) : Option HO → Option (List (Str × V))
  | some (.ins D _ fs) => if D = C then some fs else none
  | _ => none
theorem insO_ins {C dx : Addr} {fs : List (Str × V)} : insO C (some (.ins C dx fs)) = some fs := by
  show (if C = C then some fs else none) = _
  rw [if_pos rfl]
theorem insO_at {C : Addr} {o : Option HO} {fs : List (Str × V)} (h : insO C o = some fs) : ∃ dx, o = some (.ins C dx fs) := by
  unfold insO at h
  split at h
  · rename_i D dx gs
    by_cases e : D = C
    · rw [if_pos e] at h
      cases h
      exact ⟨dx, by rw [e]⟩
    · rw [if_neg e] at h
      cases h
  · cases h
def rFld (C : Addr) (f : Str) : V → Hp → VK → Prop := fun x H Q => match x with
  | .ref a => @OK _ (insO C (H a)) ⟨fun fs => @OK _ (fs.lookup f) ⟨fun v => Q v H⟩⟩
  | _ => False
theorem r_fld {C a : Addr} {f : Str} {H : Hp} {Q : VK} : @aU (rFld C f) (.ref a) H ⟨Q⟩ = @OK _ (insO C (H a)) ⟨fun fs => @OK _ (fs.lookup f) ⟨fun v => Q v H⟩⟩ := rfl
theorem OK.out {α : Type} {o : Option α} {k : α → Prop} (h : @OK α o ⟨k⟩) : ∃ x, o = some x ∧ k x := by
  cases o with
  | none => exact False.elim h
  | some x => exact ⟨x, rfl, h⟩
def uSetF (C : Addr) (f : Str) (ta tv : TE) : TS := fun D σ H => tv σ H fun y H1 => ta σ H1 fun x H2 => match x with
  | .ref a => (match H2 a with
    | some (.ins E dx fs) => E = C ∧ fs.length < 1000 ∧ D.nx σ (upd H2 a (.ins C dx (putF f y fs)))
    | _ => False)
  | _ => False
def insD (C : Addr) : Option HO → Option (Addr × List (Str × V))
  | some (.ins D dx fs) => if D = C then some (dx, fs) else none
  | _ => none
theorem insD_ins {C dx : Addr} {fs : List (Str × V)} : insD C (some (.ins C dx fs)) = some (dx, fs) := by
  show (if C = C then some (dx, fs) else none) = _
  rw [if_pos rfl]
def aSF (C : Addr) (f : Str) (x y : V) (H : Hp) [R : Kp (Hp → Prop)] : Prop := match x with
  | .ref a => (match H a with
    | some (.ins E dx fs) => E = C ∧ fs.length < 1000 ∧ R.val (upd H a (.ins C dx (putF f y fs)))
    | _ => False)
  | _ => False
theorem r_setF {C : Addr} {f : Str} {ta tv : TE} {D : Ends} {σ : L2.St} {H : Hp} : uSetF C f ta tv D σ H = tv σ H fun y H1 => ta σ H1 fun x H2 => @aSF C f x y H2 ⟨fun H3 => D.nx σ H3⟩ := rfl
theorem aSF_ref {C a : Addr} {f : Str} {y : V} {H : Hp} {R : Hp → Prop} : @aSF C f (.ref a) y H ⟨R⟩ = @OK _ (insD C (H a)) ⟨fun z => @Cd (z.2.length < 1000) ⟨@Md H a (.ins C z.1 (putF f y z.2)) ⟨R⟩⟩⟩ := by
  show (match H a with
    | some (.ins E dx fs) => E = C ∧ fs.length < 1000 ∧ R (upd H a (.ins C dx (putF f y fs)))
    | _ => False) = _
  generalize H a = o
  rcases o with _ | o
  · rfl
  · cases o <;> try rfl
    rename_i E dx fs
    show (E = C ∧ fs.length < 1000 ∧ R (upd H a (.ins C dx (putF f y fs)))) = @OK _ (if E = C then some (dx, fs) else none) ⟨fun z => @Cd (z.2.length < 1000) ⟨@Md H a (.ins C z.1 (putF f y z.2)) ⟨R⟩⟩⟩
    by_cases e : E = C
    · rw [if_pos e]
      subst e
      exact propext ⟨fun h => ⟨h.2.1, Eq.mp Md_eq h.2.2⟩, fun h => ⟨rfl, h.1, Eq.mpr Md_eq h.2⟩⟩
    · rw [if_neg e]
      exact propext ⟨fun h => absurd h.1 e, fun h => False.elim h⟩
section
variable {X : Cx} {C : Addr} {f : Str} {e value : Expr} {ta tv : TE} {pos pos2 : Pos}
theorem pe_uFld (c : Cls X.K C) (n : NoAttr X.K C f) (he : PE X e ta) (hb : attributeBase e f X.env (eval e X.env) = eval e X.env := by rfl) : PE X (.Attribute e f pos) (tUn (rFld C f) ta) := by
  refine ⟨fun pins s σ H Q J h => attr_of hb (thn (he.run pins s σ H _ J h) fun u s1 ⟨x, H1, J1, rx, q⟩ => ?_)⟩
  cases x with
  | ref a =>
    obtain rfl : u = Value.ref a := rx
    obtain ⟨fs, h1, q⟩ := OK.out q
    obtain ⟨dx, ea⟩ := insO_at h1
    obtain ⟨v, h2, q⟩ := OK.out q
    exact getattr_ok J1 ea c n h2 fun u2 s2 J2 r2 => ⟨v, H1, J2, r2, q⟩
  | _ => exact False.elim q
theorem ps_uSetF (c : Cls X.K C) (n : NoAttr X.K C f) (ha : PE X e ta) (hv : PE X value tv) (hs : swapsWith value (some (.Attribute e f pos2)) pos.line X.env = pure false := by rfl) : PS X (.Assign [.Attribute e f pos2] value pos) (uSetF C f ta tv) := by
  have m := ps_fld (f := f) (pos := pos) (pos' := pos2) ha hv hs
  refine ⟨fun pins s σ H D J h => plainObj_wpAny_Assign_Attribute (thn (hv.run pins s σ H _ J h) fun u s1 ⟨y, H1, J1, ry, q⟩ => thn (ha.run pins s1 σ H1 _ J1 q) fun ov s2 ⟨x, H2, J2, rx, q2⟩ => ?_) hs⟩
  cases x with
  | ref a =>
    obtain rfl : ov = Value.ref a := rx
    have q2 : (match H2 a with
      | some (.ins E dx fs) => E = C ∧ fs.length < 1000 ∧ D.nx σ (upd H2 a (.ins C dx (putF f y fs)))
      | _ => False) := q2
    split at q2
    · rename_i E dx fs ea
      obtain ⟨rfl, l, q2⟩ := q2
      exact setattr_ok J2 ea c n l ry fun s3 J3 => ⟨σ, _, J3, q2⟩
    · exact False.elim q2
  | _ => exact False.elim q2
end
structure InsT (K : PySem.W.Frag) (D : Addr) : Prop where
  c : Cls K D
  ha : PySem.W.findIn K (.ref D) "__class__" = some (some (.builtin "object.__class__"))
  hn : PySem.W.specialIn K (.builtin "object.__class__") "__get__" = some (some (.builtin "getset_descriptor.__get__"))
  ht : PySem.W.takesIn K (.builtin "object.__class__") = some true
  hm : PySem.W.mroIn K D (.type "object") = some true
structure IsO (K : PySem.W.Frag) (C : Addr) (M : Addr → Option Bool) : Prop where
  base : ∀ t : Ty, PySem.W.kitOne K (.type t.name) (.ref C) = some false
  own : ∀ D b, M D = some b → InsT K D ∧ PySem.W.kitOne K (.ref D) (.ref C) = some b
def isO (M : Addr → Option Bool) (H : Hp) (x : V) : Option Bool := match x with
  | .ref p => (match H p with
    | some (.ins D _ _) => M D
    | _ => (tyV H x).map fun _ => false)
  | _ => (tyV H x).map fun _ => false
def rIsO (C : Addr) (M : Addr → Option Bool) : List V → Hp → VK → Prop := fun xs H Q => match xs with
  | [x, .ref D] => D = C ∧ @OK _ (isO M H x) ⟨fun b => Q (.bl b) H⟩
  | _ => False
theorem r_isO {C : Addr} {M : Addr → Option Bool} {x : V} {H : Hp} {Q : VK} : @aC (rIsO C M) [x, .ref C] H ⟨Q⟩ = @OK _ (isO M H x) ⟨fun b => Q (.bl b) H⟩ := propext ⟨fun h => h.2, fun h => ⟨rfl, h⟩⟩
theorem isO_tab {M : Addr → Option Bool} {H : Hp} : isO M H .non = some false ∧ (∀ b, isO M H (.bl b) = some false) ∧ (∀ i, isO M H (.int i) = some false) ∧ (∀ z, isO M H (.str z) = some false) := ⟨rfl, fun _ => rfl, fun _ => rfl, fun _ => rfl⟩
def isR (M : Addr → Option Bool) : Option HO → Option Bool
  | some (.ins D _ _) => M D
  | o => (tyO o).map fun _ => false
theorem isO_ref {M : Addr → Option Bool} {H : Hp} {p : Addr} : isO M H (.ref p) = isR M (H p) := by
  show (match H p with
    | some (.ins D _ _) => M D
    | _ => (tyV H (.ref p)).map fun _ => false) = _
  rw [e_tyR]
  generalize H p = o
  rcases o with _ | o
  · rfl
  · cases o <;> rfl
theorem isR_tab {M : Addr → Option Bool} : (∀ D dx fs, isR M (some (.ins D dx fs)) = M D) ∧ (∀ xs, isR M (some (.lst xs)) = some false) ∧ (∀ xs, isR M (some (.tup xs)) = some false) ∧ (∀ xs, isR M (some (.dK xs)) = some false) := ⟨fun _ _ _ => rfl, fun _ => rfl, fun _ => rfl, fun _ => rfl⟩
theorem call_isO {X : Cx} {C : Addr} {M : Addr → Option Bool} (k : IsO X.K C M) : CallR X (.builtin "isinstance") (rIsO C M) := crOf call_isi fun xs H Q q => by
  unfold rIsO at q
  split at q
  · rename_i x D
    obtain ⟨rfl, q⟩ := q
    obtain ⟨b, e, q⟩ := OK.out q
    have plain : ∀ x : V, (tyV H x).map (fun _ => false) = some b → ∃ t u, TyX X.K H x t ∧ u = Value.ref D ∧ PySem.W.kitOne X.K t u = some b := fun x e => by
      cases ht : tyV H x with
      | none => rw [ht] at e; cases e
      | some t =>
        rw [ht] at e
        cases e
        exact ⟨_, _, tyV_ok ht, rfl, k.base t⟩
    have key : ∃ t u, TyX X.K H x t ∧ u = Value.ref D ∧ PySem.W.kitOne X.K t u = some b := by
      unfold isO at e
      split at e
      · rename_i p
        split at e
        · rename_i F dx fs ef
          obtain ⟨T, hk⟩ := k.own F b e
          exact ⟨_, _, .base (.ins ef T.c T.ha T.hn T.ht T.hm), rfl, hk⟩
        · exact plain _ e
      · exact plain _ e
    obtain ⟨t, u, h1, rfl, h2⟩ := key
    exact ⟨x, _, t, _, b, rfl, .own _, h1, h2, q⟩
  · exact q.elim
def rEqO (C : Addr) (sp : Sp) : R2 := fun x y H Q => match x, y with
  | .ref a, .ref b => @OK _ (insO C (H a)) ⟨fun _ => @OK _ (insO C (H b)) ⟨fun _ => sp [.ref a, .ref b] H (kB fun c H' => Q (.bl c) H') E0⟩⟩
  | _, _ => False
theorem r_eqO {C a b : Addr} {sp : Sp} {H : Hp} {Q : VK} : @aR (rEqO C sp) (.ref a) (.ref b) H ⟨Q⟩ = @OK _ (insO C (H a)) ⟨fun _ => @OK _ (insO C (H b)) ⟨fun _ => @Call sp [.ref a, .ref b] H ⟨kB fun c H' => Q (.bl c) H'⟩ ⟨E0⟩⟩⟩ := rfl
theorem op_eqO {X : Cx} {C g : Addr} {fd : FuncData} {ps : List Str} {k : Nat} {sp : Sp} (F : FnOk X.prog X.w X.K X.mg X.base CX0 k g fd ps sp) (hs : PySem.W.findIn X.K (.ref C) "__eq__" = some (some (.ref g))) (hf : PySem.W.isFn X.K (.ref g) = true) (hb : Binds X.K fd ps []) (hr : Room k X.A) :
    OpR X (compareOp .Eq) (rEqO C sp) := by
  intro pins s σ H x y v u Q J rx ry h
  show wpAny (model X.prog X.w) X.A (richCompare .Eq v u) (EP X pins σ Q) X.xe s
  cases x with
  | ref a =>
    cases y with
    | ref b =>
      obtain rfl : v = Value.ref a := rx
      obtain rfl : u = Value.ref b := ry
      obtain ⟨fs, h1, h⟩ := OK.out h
      obtain ⟨gs, h2, h⟩ := OK.out h
      obtain ⟨dx, ea⟩ := insO_at h1
      obtain ⟨dy, eb⟩ := insO_at h2
      obtain ⟨mA, O1, _⟩ := ins_get J.hok ea
      obtain ⟨mB, O2, _⟩ := ins_get J.hok eb
      obtain ⟨od, L1, _⟩ := O1.look
      obtain ⟨od2, L2', _⟩ := O2.look
      obtain ⟨m, hF⟩ := J.fr
      refine PySem.W.cmp_K (op := .Eq) (tb := .ref C) hr.units0 hF J.ok.mod.kin L1 L2'.type (by simp [PySem.W.notFirst]) hs hf ?_
      refine wpAny_mono (run_fn (us := [.ref a, .ref b]) (vs := [.ref a, .ref b]) F hr hb .nil pass0 J (.cons rfl (.cons rfl .nil)) h) (fun r s2 z => ?_) fun _ _ z => z
      obtain ⟨z, H2, J2, rz, q2⟩ := z
      cases z with
      | bl c =>
        cases rz
        exact ⟨.bl c, H2, J2, rfl, q2⟩
      | _ => exact False.elim q2
    | _ => exact False.elim h
  | _ => exact False.elim h

def sn : V → Bool
  | .str z => PyData.strOk z
  | .non => true
  | _ => false
def pdOf : V → PyData
  | .str z => .str z
  | _ => .none
theorem dp_sn {K : PySem.W.Frag} {H : Hp} : ∀ xs : List V, xs.all sn = true → DpAll K H xs (xs.map pdOf)
  | [], _ => .nil
  | v :: r, h => by
    rw [List.all_cons, Bool.and_eq_true] at h
    refine .cons ?_ (dp_sn r h.2)
    have h1 := h.1
    cases v with
    | str z => exact .str z
    | non => exact .non
    | _ => cases h1
theorem lay_sn : ∀ xs : List V, xs.all sn = true → PyData.canLayAll0 (xs.map pdOf) = true ∧ PyData.depthAll (xs.map pdOf) = 0
  | [], _ => ⟨rfl, rfl⟩
  | v :: r, h => by
    rw [List.all_cons, Bool.and_eq_true] at h
    obtain ⟨a, b⟩ := lay_sn r h.2
    have h1 := h.1
    cases v with
    | str z =>
      refine ⟨?_, ?_⟩
      · show (PyData.strOk z && PyData.canLayAll0 (r.map pdOf)) = true
        rw [a, show PyData.strOk z = true from h1]
        rfl
      · show max 0 (PyData.depthAll (r.map pdOf)) = 0
        rw [b]
        rfl
    | non =>
      refine ⟨?_, ?_⟩
      · show (true && PyData.canLayAll0 (r.map pdOf)) = true
        rw [a]
        rfl
      · show max 0 (PyData.depthAll (r.map pdOf)) = 0
        rw [b]
        rfl
    | _ => cases h1
theorem eqv_sn : ∀ xs ys : List V, xs.all sn = true → ys.all sn = true → PyData.eqvAll (xs.map pdOf) (ys.map pdOf) = decide (xs = ys)
  | [], [], _, _ => rfl
  | [], _ :: _, _, _ => rfl
  | _ :: _, [], _, _ => rfl
  | v :: r, u :: t, h, k => by
    rw [List.all_cons, Bool.and_eq_true] at h k
    have ih := eqv_sn r t h.2 k.2
    have e : PyData.eqvAll ((v :: r).map pdOf) ((u :: t).map pdOf) = (PyData.eqv (pdOf v) (pdOf u) && PyData.eqvAll (r.map pdOf) (t.map pdOf)) := rfl
    have e1 : PyData.eqv (pdOf v) (pdOf u) = decide (v = u) := by
      have h1 := h.1
      have k1 := k.1
      cases v with
      | str z =>
        cases u with
        | str y =>
          show (z == y) = decide (V.str z = V.str y)
          by_cases q : z = y
          · subst q
            rw [decide_eq_true rfl]
            exact beq_self_eq_true _
          · rw [decide_eq_false (fun w => q (V.str.inj w))]
            exact beq_eq_false_iff_ne.mpr q
        | non => rfl
        | _ => cases k1
      | non =>
        cases u with
        | str y => rfl
        | non => rfl
        | _ => cases k1
      | _ => cases h1
    rw [e, e1, ih]
    by_cases q1 : v = u
    · by_cases q2 : r = t
      · rw [q1, q2]
        simp
      · rw [decide_eq_false q2, decide_eq_false fun w => q2 (List.cons.inj w).2, Bool.and_false]
    · rw [decide_eq_false q1, decide_eq_false fun w => q1 (List.cons.inj w).1, Bool.false_and]
def snO : Option HO → Option (Bool × List V)
  | some (.lst xs) => some (false, xs)
  | some (.tup xs) => some (true, xs)
  | _ => none
theorem snO_tab : (∀ xs, snO (some (.lst xs)) = some (false, xs)) ∧ (∀ xs, snO (some (.tup xs)) = some (true, xs)) := ⟨fun _ => rfl, fun _ => rfl⟩
theorem snO_dp {K : PySem.W.Frag} {H : Hp} {p : Addr} {z : Bool × List V} (h : snO (H p) = some z) (a : z.2.all sn = true) : Dp K H (.ref p) (if z.1 = true then .tuple (z.2.map pdOf) else .list (z.2.map pdOf)) ∧ SeqAt.shaped (if z.1 = true then .tuple (z.2.map pdOf) else .list (z.2.map pdOf)) = true := by
  unfold snO at h
  split at h
  · rename_i xs e
    cases h
    obtain ⟨c1, c2⟩ := lay_sn xs a
    refine ⟨.lst (.inl (.inl e)) (dp_sn xs a), ?_⟩
    show (PyData.canLayAll0 (xs.map pdOf) && decide (PyData.depthAll (xs.map pdOf) + 1 ≤ 64)) = true
    rw [c1, c2]
    rfl
  · rename_i xs e
    cases h
    obtain ⟨c1, c2⟩ := lay_sn xs a
    refine ⟨.tup (.inl (.inl e)) (dp_sn xs a), ?_⟩
    show (PyData.canLayAll0 (xs.map pdOf) && decide (PyData.depthAll (xs.map pdOf) + 1 ≤ 64)) = true
    rw [c1, c2]
    rfl
  · cases h
def rEqN (neg : Bool) : R2 := fun x y H Q => match x, y with
  | .ref p, .ref q => @OK _ (snO (H p)) ⟨fun a => @OK _ (snO (H q)) ⟨fun b => @Cd (a.1 = b.1 ∧ a.2.all sn = true ∧ b.2.all sn = true) ⟨Q (.bl (bif neg then !decide (a.2 = b.2) else decide (a.2 = b.2))) H⟩⟩⟩
  | _, _ => False
theorem r_eqN {p q : Addr} {H : Hp} {Q : VK} : @aR (rEqN false) (.ref p) (.ref q) H ⟨Q⟩ = @OK _ (snO (H p)) ⟨fun a => @OK _ (snO (H q)) ⟨fun b => @Cd (a.1 = b.1 ∧ a.2.all sn = true ∧ b.2.all sn = true) ⟨Q (.bl (decide (a.2 = b.2))) H⟩⟩⟩ := rfl
theorem r_neN {p q : Addr} {H : Hp} {Q : VK} : @aR (rEqN true) (.ref p) (.ref q) H ⟨Q⟩ = @OK _ (snO (H p)) ⟨fun a => @OK _ (snO (H q)) ⟨fun b => @Cd (a.1 = b.1 ∧ a.2.all sn = true ∧ b.2.all sn = true) ⟨Q (.bl (!decide (a.2 = b.2))) H⟩⟩⟩ := rfl
theorem eqN_key {K : PySem.W.Frag} {H : Hp} {p q : Addr} {a b : Bool × List V} (h1 : snO (H p) = some a) (h2 : snO (H q) = some b) (c : a.1 = b.1 ∧ a.2.all sn = true ∧ b.2.all sn = true) :
    ∃ d e, Dp K H (.ref p) d ∧ Dp K H (.ref q) e ∧ SeqAt.shaped d = true ∧ SeqAt.shaped e = true ∧ PyData.eqv d e = decide (a.2 = b.2) := by
  obtain ⟨k1, s1⟩ := snO_dp (K := K) h1 c.2.1
  obtain ⟨k2, s2⟩ := snO_dp (K := K) h2 c.2.2
  refine ⟨_, _, k1, k2, s1, s2, ?_⟩
  rw [← c.1, ← eqv_sn _ _ c.2.1 c.2.2]
  cases a.1 <;> rfl
theorem op_eqN {X : Cx} (hu : X.A.units + 64 < cLine) : OpR X (compareOp .Eq) (rEqN false) := opOf (op_eqD hu) fun x y H Q h => by
  cases x with
  | ref p =>
    cases y with
    | ref q =>
      obtain ⟨a, h1, h⟩ := OK.out h
      obtain ⟨b, h2, h⟩ := OK.out h
      obtain ⟨d, e, k1, k2, s1, s2, v⟩ := eqN_key (K := X.K) h1 h2 h.1
      refine ⟨d, e, k1, k2, s1, s2, ?_⟩
      rw [v]
      simpa using h.2
    | _ => exact False.elim h
  | _ => exact False.elim h
theorem op_neN {X : Cx} (hu : X.A.units + 64 < cLine) : OpR X (compareOp .NotEq) (rEqN true) := opOf (op_neD hu) fun x y H Q h => by
  cases x with
  | ref p =>
    cases y with
    | ref q =>
      obtain ⟨a, h1, h⟩ := OK.out h
      obtain ⟨b, h2, h⟩ := OK.out h
      obtain ⟨d, e, k1, k2, s1, s2, v⟩ := eqN_key (K := X.K) h1 h2 h.1
      refine ⟨d, e, k1, k2, s1, s2, ?_⟩
      rw [v]
      simpa using h.2
    | _ => exact False.elim h
  | _ => exact False.elim h
theorem toNat_inj' : ∀ {l m : List Char}, l.map Char.toNat = m.map Char.toNat → l = m
  | [], [], _ => rfl
  | [], _ :: _, h => by cases h
  | _ :: _, [], h => by cases h
  | c :: l, d :: m, h => by
    rw [List.map_cons, List.map_cons, List.cons.injEq] at h
    rw [toNat_inj' h.2, Char.ext (UInt32.toNat_inj.mp h.1)]
theorem ofs_inj' {a b : String} (h : Str.ofString a = Str.ofString b) : a = b := by
  have h1 : TL.tl (Str.ofString a) = TL.tl (Str.ofString b) := by rw [h]
  rw [TL.tl_ofString, TL.tl_ofString] at h1
  exact String.toList_inj.mp (toNat_inj' h1)
theorem lk_tab {a b : String} {v : V} {r : List (Str × V)} : List.lookup (Str.ofString a) ((Str.ofString b, v) :: r) = if a = b then some v else List.lookup (Str.ofString a) r := by
  by_cases e : a = b
  · subst e
    rw [if_pos rfl, List.lookup_cons, beq_self_eq_true]
  · rw [if_neg e, List.lookup_cons, beq_eq_false_iff_ne.mpr fun z => e (ofs_inj' z)]
theorem putF_nil {f : Str} {v : V} : putF f v [] = [(f, v)] := rfl
theorem putF_tab {a b : String} {v w : V} {r : List (Str × V)} : putF (Str.ofString a) v ((Str.ofString b, w) :: r) = if a = b then (Str.ofString b, v) :: r else (Str.ofString b, w) :: putF (Str.ofString a) v r := by
  by_cases e : a = b
  · subst e
    rw [if_pos rfl]
    show (if Str.ofString a = Str.ofString a then _ else _) = _
    rw [if_pos rfl]
  · rw [if_neg e]
    show (if Str.ofString b = Str.ofString a then _ else _) = _
    rw [if_neg fun z => e (ofs_inj' z.symm)]

def gSq (n : Nat) (t : TGs) : TG := fun v σ H Q => match v with
  | .ref a => @OK _ (seqAt H a) ⟨fun xs => xs.length = n ∧ t xs σ H Q⟩
  | _ => False
def aGs (xs : List V) (n : Nat) (t : TGs) (σ : L2.St) (H : Hp) [Q : Kp (L2.St → Hp → Prop)] : Prop := xs.length = n ∧ t xs σ H Q.val
theorem r_gsq {n : Nat} {t : TGs} {a : Addr} {σ : L2.St} {H : Hp} {Q : L2.St → Hp → Prop} : gSq n t (.ref a) σ H Q = @OK _ (seqAt H a) ⟨fun xs => @aGs xs n t σ H ⟨Q⟩⟩ := rfl
theorem aGs_eq {xs : List V} {n : Nat} {t : TGs} {σ : L2.St} {H : Hp} {Q : L2.St → Hp → Prop} : @aGs xs n t σ H ⟨Q⟩ = @Cd (xs.length = n) ⟨t xs σ H Q⟩ := rfl
theorem r_gcons {t : TG} {u : TGs} {v : V} {r : List V} {σ : L2.St} {H : Hp} {Q : L2.St → Hp → Prop} : gCons t u (v :: r) σ H Q = t v σ H fun σ1 H1 => u r σ1 H1 Q := propext ⟨fun ⟨a, b, e, q⟩ => by cases e; exact q, fun q => ⟨v, r, rfl, q⟩⟩
theorem r_gnil {σ : L2.St} {H : Hp} {Q : L2.St → Hp → Prop} : gNil [] σ H Q = Q σ H := propext ⟨fun h => h.2, fun h => ⟨rfl, h⟩⟩
theorem pg_seq {X : Cx} {es : List Expr} {j : Nat} {t : TGs} {n : Nat} {pos : Pos} (hc : X.calm = true) (h : PGs X es t) (hn : (assignEach es X.env).length = n := by rfl) (hst : (assignEach es X.env).findIdx? (·.1) = none := by rfl) : PG X (.Tuple es j pos) (gSq n t) := by
  have a := pg_lst (k := j) (pos := pos) hc h hn hst
  have b := pg_tup (k := j) (pos := pos) hc h hn hst
  refine ⟨fun pins s σ H v u Q I r q => ?_⟩
  cases v with
  | ref p =>
    obtain ⟨xs, e, q⟩ := OK.out q
    rcases seqAt_cases (K := X.K) e with z | z
    · exact a.run pins s σ H _ u Q I r ⟨p, xs, rfl, z, q.1, q.2⟩
    · exact b.run pins s σ H _ u Q I r ⟨p, xs, rfl, z, q.1, q.2⟩
  | _ => exact False.elim q

def uTryAs (K : PySem.W.Frag) (c : Value) (i : Nat) (tb : WX → TS) (ts : Addr → Value → Option Addr → TS) (Wout : WX) : TS := fun D σ H => tb (wAs K c i ts Wout D) D σ H
def uTryMany (K : PySem.W.Frag) (l : List (Value × (Addr → Value → Option Addr → TS))) (tb : WX → TS) (Wout : WX) : TS := fun D σ H => tb (wMany K Wout D l) D σ H
def uTryOnly (K : PySem.W.Frag) (c : Value) (tb : WX → TS) (ts : Addr → Value → Option Addr → TS) (Wout : WX) : TS := fun D σ H => tb (wOnly K c ts Wout D) D σ H
def w0 : WX := fun _ _ _ _ => False
theorem as_yes {K : PySem.W.Frag} {c cls : Value} {i : Nat} {ts : Addr → Value → Option Addr → TS} {Wout : WX} {D : Ends} {d : Option Addr} {σ : L2.St} {H : Hp} (hb : PySem.W.exmOne K cls c = some true)
    (h : ∀ a, H a = none → ts a cls d { nx := fun σ' H' => D.nx (σ'.set i none) H', rt := D.rt, bk := fun σ' H' => D.bk (σ'.set i none) H', ct := fun σ' H' => D.ct (σ'.set i none) H' } (σ.set i (some (.ref a))) H) : WE (wAs K c i ts Wout D) σ cls d H :=
  ⟨true, hb, fun _ => h, fun z => nomatch z⟩
theorem only_yes {K : PySem.W.Frag} {c cls : Value} {ts : Addr → Value → Option Addr → TS} {Wout : WX} {D : Ends} {d : Option Addr} {σ : L2.St} {H : Hp} (hb : PySem.W.exmOne K cls c = some true)
    (h : ∀ a, H a = none → ts a cls d D σ H) : WE (wOnly K c ts Wout D) σ cls d H :=
  ⟨true, hb, fun _ => h, fun z => nomatch z⟩
def rIsS (K : PySem.W.Frag) (a : Addr) (cls : Value) (d : Option Addr) : List V → Hp → VK → Prop := fun xs H Q => d = none ∧ ∃ (D C : Addr) (b : Bool), cls = .ref D ∧ ExcC K D ∧ xs = [.ref a, .ref C] ∧ PySem.W.kitOne K (.ref D) (.ref C) = some b ∧ Q (.bl b) H
theorem call_isS {X : Cx} {a : Addr} {oe : Obj} {cls : Value} {d : Option Addr} {pn : List (Addr × Obj)} (hz : Zc cls d oe) (hf : ∃ vs, oe.data = .fields vs) : CallR (X.suite a ((a, oe) :: pn)) (.builtin "isinstance") (rIsS X.K a cls d) := by
  intro pins s σ H xs us Q I r h
  obtain ⟨rfl, D, C, b, rfl, T, rfl, e, q⟩ := h
  exact call_isE T hz hf pins s σ H _ us Q I r ⟨_, .ref C, b, rfl, fun u z => z, e, q⟩
def aIsS (K : PySem.W.Frag) (a : Addr) (cls : Value) (d : Option Addr) (xs : List V) (H : Hp) [Q : Kp VK] : Prop := rIsS K a cls d xs H Q.val
theorem r_isS {K : PySem.W.Frag} {a C D : Addr} {b : Bool} {H : Hp} {Q : VK} (T : ExcC K D) (e : PySem.W.kitOne K (.ref D) (.ref C) = some b) (q : Q (.bl b) H) : @aC (rIsS K a (.ref D) none) [.ref a, .ref C] H ⟨Q⟩ := ⟨rfl, D, C, b, rfl, T, rfl, e, q⟩
def rIsBU : R2 := fun x y H Q => match x, y with
  | .bl a, .bl b => Q (.bl (decide (a = b))) H
  | _, _ => False
theorem r_isB {a b : Bool} {H : Hp} {Q : VK} : @aR rIsBU (.bl a) (.bl b) H ⟨Q⟩ = Q (.bl (decide (a = b))) H := rfl
theorem op_isBU {X : Cx} : OpR X (compareOp .Is) rIsBU := opOf op_isBl fun x y H Q q => by
  unfold rIsBU at q
  split at q
  · exact ⟨_, _, rfl, rfl, q⟩
  · exact q.elim
theorem lstO_at {o : Option HO} {xs : List V} (h : lstO o = some xs) : o = some (.lst xs) := by
  unfold lstO at h
  split at h
  · cases h; rfl
  · cases h
def isLs : Option HO → Bool
  | some (.lst _) => true
  | _ => false
theorem isLs_lst {xs : List V} : isLs (some (.lst xs)) = true := rfl
theorem tyL {K : PySem.W.Frag} {H : Hp} {p : Addr} (h : isLs (H p) = true) : L2.tyV K "list" (.ref p) H = True := by
  have e : ∃ xs, H p = some (.lst xs) := by
    unfold isLs at h
    split at h
    · rename_i xs e; exact ⟨xs, e⟩
    · cases h
  obtain ⟨xs, e⟩ := e
  exact eq_true (.inl ⟨rfl, xs, .inl (.inl e)⟩)
theorem r_bm1 {K : PySem.W.Frag} {T : String} {r : V → List V → Hp → VK → Prop} {te tv : TE} {σ : L2.St} {H : Hp} {Q : VK} : tBM K T r te (tCons tv tNil) σ H Q = te σ H fun x H1 => @Cd (L2.tyV K T x H1) ⟨tv σ H1 fun v H2 => @aM r x [v] H2 ⟨Q⟩⟩ := rfl
theorem r_bm0 {K : PySem.W.Frag} {T : String} {r : V → List V → Hp → VK → Prop} {te : TE} {σ : L2.St} {H : Hp} {Q : VK} : tBM0 K T r te σ H Q = te σ H fun x H1 => @Cd (L2.tyV K T x H1) ⟨@aM r x [] H1 ⟨Q⟩⟩ := rfl
theorem aM_app {l : Addr} {v : V} {H : Hp} {Q : VK} : @aM rAppend (.ref l) [v] H ⟨Q⟩ = @OK _ (lstO (H l)) ⟨fun xs => @Cd (xs.length < sizeLine) ⟨@Md H l (.lst (xs ++ [v])) ⟨fun H' => Q .non H'⟩⟩⟩ := propext ⟨fun ⟨a, xs, y, e1, e2, e3, e4, q⟩ => by
    cases e1
    cases e2
    refine OK.by (x := xs) (by rw [e3]; rfl) ⟨e4, ?_⟩
    exact fun H' n => by rw [n.eq]; exact q, fun h => by
    obtain ⟨xs, e, h⟩ := OK.out h
    exact ⟨l, xs, v, rfl, rfl, lstO_at e, h.1, h.2 _ ⟨rfl⟩⟩⟩
theorem r_callX {sp : Sp} {W : WX} {t : TA} {σ : L2.St} {H : Hp} {Q : VK} : uCallX sp W t σ H Q = t σ H fun vs H1 => @Call sp vs H1 ⟨Q⟩ ⟨WE W σ⟩ := rfl
def aW (W : WX) (cls : Value) (d : Option Addr) (σ : L2.St) (H : Hp) : Prop := W cls d σ H
theorem r_raise0 {W : WX} {C : Addr} {D : Ends} {σ : L2.St} {H : Hp} : uRaise0 W C D σ H = W (.ref C) none σ H := rfl
def aTry (tb : WX → TS) [W : Kp WX] [D : Kp Ends] (σ : L2.St) (H : Hp) : Prop := tb W.val D.val σ H
theorem r_tryAs {K : PySem.W.Frag} {c : Value} {i : Nat} {tb : WX → TS} {ts : Addr → Value → Option Addr → TS} {Wout : WX} {D : Ends} {σ : L2.St} {H : Hp} : uTryAs K c i tb ts Wout D σ H = tb (wAs K c i ts Wout D) D σ H := rfl
theorem r_tryOnly {K : PySem.W.Frag} {c : Value} {tb : WX → TS} {ts : Addr → Value → Option Addr → TS} {Wout : WX} {D : Ends} {σ : L2.St} {H : Hp} : uTryOnly K c tb ts Wout D σ H = tb (wOnly K c ts Wout D) D σ H := rfl
structure EqC (P : Program) (w : World) (K : PySem.W.Frag) (mg : Str → Option Value) (base : Heap) (k : Nat) (C : Addr) (sp : Sp) : Prop where
  ex : ∃ (g : Addr) (fd : FuncData) (ps : List Str), FnOk P w K mg base CX0 k g fd ps sp ∧ PySem.W.findIn K (.ref C) "__eq__" = some (some (.ref g)) ∧ PySem.W.isFn K (.ref g) = true ∧ Binds K fd ps []
theorem op_eqC {X : Cx} {k : Nat} {C : Addr} {sp : Sp} (c : EqC X.prog X.w X.K X.mg X.base k C sp) (hr : Room k X.A) : OpR X (compareOp .Eq) (rEqO C sp) := by
  obtain ⟨g, fd, ps, F, h1, h2, b⟩ := c.ex
  exact op_eqO F h1 h2 b hr
structure StC (P : Program) (w : World) (K : PySem.W.Frag) (mg : Str → Option Value) (base : Heap) (k : Nat) (C : Addr) (m : Str) (sp : Sp) : Prop where
  ex : ∃ (q g : Addr) (fd : FuncData) (ps : List Str), SMet K C m q g ∧ FnOk P w K mg base CX0 k g fd ps sp ∧ Binds K fd ps []
section
variable {X : Cx} {k : Nat} {c m : Str} {C : Addr} {sp : Sp} {p apos pos : Pos} {e : Expr} {es : List Expr} {ta : TA} {pl : Sem Bool}
theorem pe_st0 (S : StC X.prog X.w X.K X.mg X.base k C m sp) (gC : X.mg c = some (.ref C)) (hr : Room k X.A) (hg : Gl X c := by rfl) (hd : (c == ("__debug__" : Str)) = false := by decide)
    (ht : eval (.Call (.Attribute (.Name c p) m apos) [] [] pos) X.env = (do
      let ov ← eval (.Name c p) X.env
      standAt apos.atName
      let (f, first) ← holding [ov] (getMethod ov m pl)
      callWith pos f first (backTo pos (starEach [] X.env)) (backToKw pos (keywordEach [] X.env))) := by rfl) : PE X (.Call (.Attribute (.Name c p) m apos) [] [] pos) (uCall sp [] E0 tNil) := by
  obtain ⟨q, g, fd, ps, S, F, b⟩ := S.ex
  exact pe_smeth0 ⟨q, S⟩ gC F hr b hg hd ht
theorem pe_st (S : StC X.prog X.w X.K X.mg X.base k C m sp) (gC : X.mg c = some (.ref C)) (hr : Room k X.A) (ha : PA X (e :: es) ta) (hg : Gl X c := by rfl) (hd : (c == ("__debug__" : Str)) = false := by decide)
    (he : starEach (e :: es) X.env = (false, eval e X.env) :: starEach es X.env := by rfl) (hpl : (backTo pos (starEach es X.env)).any (·.1) = false := by rfl)
    (ht : eval (.Call (.Attribute (.Name c p) m apos) (e :: es) [] pos) X.env = (do
      let ov ← eval (.Name c p) X.env
      standAt apos.atName
      let (f, first) ← holding [ov] (getMethod ov m pl)
      callWith pos f first (backTo pos (starEach (e :: es) X.env)) (backToKw pos (keywordEach [] X.env))) := by rfl) : PE X (.Call (.Attribute (.Name c p) m apos) (e :: es) [] pos) (uCall sp [] E0 ta) := by
  obtain ⟨q, g, fd, ps, S, F, b⟩ := S.ex
  exact pe_smeth ⟨q, S⟩ gC F hr b ha hg hd he hpl ht
end
theorem rAll.by {p : Addr} {bs : List Bool} {H : Hp} {Q : VK} (h : H p = some (.lst (bs.map V.bl))) (q : Q (.bl (bs.all id)) H) : @aC rAllU [.ref p] H ⟨Q⟩ := ⟨p, bs, rfl, h, q⟩
theorem rAny.by {p : Addr} {bs : List Bool} {H : Hp} {Q : VK} (h : H p = some (.lst (bs.map V.bl))) (q : Q (.bl (bs.any id)) H) : @aC rAnyU [.ref p] H ⟨Q⟩ := ⟨p, bs, rfl, h, q⟩
theorem withTk {X : Cx} {W : WX} {st : List Stmt} {t : TS} (tk : Takes X W) (h : Takes X W → PSs X st t) : PSs X st t := h tk
end U
end

section
namespace U
open PySem PySem.Spec PyProof.Rows L2
abbrev Cla : Type := Value × Option Nat × (Addr → Value → Option Addr → TS)
def Ends.un (D : Ends) (i : Nat) : Ends := ⟨fun σ H => D.nx (σ.set i none) H, D.rt, fun σ H => D.bk (σ.set i none) H, fun σ H => D.ct (σ.set i none) H⟩
def inSuite (o : Option Nat) (ts : Addr → Value → Option Addr → TS) (a : Addr) (cls : Value) (d : Option Addr) (D : Ends) (σ : L2.St) (H : Hp) : Prop := match o with
  | none => ts a cls d D σ H
  | some i => ts a cls d (Ends.un D i) (σ.set i (some (.ref a))) H
def wCl (K : PySem.W.Frag) (Wout : WX) (D : Ends) : List Cla → WX
  | [] => Wout
  | (c, o, ts) :: r => fun cls d σ H => ∃ b, PySem.W.exmOne K cls c = some b ∧ (b = true → ∀ a, H a = none → inSuite o ts a cls d D σ H) ∧ (b = false → wCl K Wout D r cls d σ H)
inductive ClOk (X : Cx) : List ExceptHandler → List Cla → Prop
  | nil : ClOk X [] []
  | bare {x : Str} {c : Value} {ts : Addr → Value → Option Addr → TS} {b0 : Stmt} {bs : List Stmt} {p q : Pos} {hs : List ExceptHandler} {l : List Cla} (hc : Names X x c)
      (hsu : ∀ (a : Addr) (oe : Obj) (cls : Value) (d : Option Addr) (pn : List (Addr × Obj)), Zc cls d oe → (∃ vs, oe.data = .fields vs) → PSs (X.suite a ((a, oe) :: pn)) (b0 :: bs) (ts a cls d))
      (r : ClOk X hs l) : ClOk X (.ExceptHandler (some (.Name x p)) none (b0 :: bs) q :: hs) ((c, none, ts) :: l)
  | named {x n : Str} {i : Nat} {c : Value} {ts : Addr → Value → Option Addr → TS} {b0 : Stmt} {bs : List Stmt} {p q : Pos} {hs : List ExceptHandler} {l : List Cla} (hN : X.N.Nodup) (hi : X.N[i]? = some n) (hl : X.env.kindOf n = some .local) (hc : Names X x c)
      (hsu : ∀ (a : Addr) (oe : Obj) (cls : Value) (d : Option Addr) (pn : List (Addr × Obj)), Zc cls d oe → (∃ vs, oe.data = .fields vs) → PSs (X.suite a ((a, oe) :: pn)) (b0 :: bs) (ts a cls d))
      (r : ClOk X hs l) : ClOk X (.ExceptHandler (some (.Name x p)) (some n) (b0 :: bs) q :: hs) ((c, some i, ts) :: l)
section
variable {X : Cx} {body : List Stmt} {h0 : ExceptHandler} {hs : List ExceptHandler} {l : List Cla} {pos : Pos} {tb : WX → TS} {Wout : WX}
theorem ps_try_l (est : X.stack = X.env :: X.outer) (efr : X.env.frame = some X.env.locals) (tk : Takes X Wout)
    (hb : ∀ (W : WX) (pn : List (Addr × Obj)) (xe : Value → Shared → Prop), Takes (X.tr pn xe) W → PassesOwn (model X.prog X.w) X.A X.env xe → PSs (X.tr pn xe) body (tb W))
    (hh : ClOk X (h0 :: hs) l) : PS X (.Try body (h0 :: hs) [] [] pos) (fun D σ H => tb (wCl X.K Wout D l) D σ H) := by
  refine ⟨fun pins s σ H D I wish => ?_⟩
  have okI := I.ok
  have frA : X.A.frames = some (X.env :: X.outer) := okI.frames.trans (congrArg some est)
  refine wpAny_Try_except ?_
  refine wpAny_mono ((hb (wCl X.K Wout D l) (X.pn ++ pins) (fun e s1 => wpAny (model X.prog X.w) X.A (noteFrame e X.env) (fun _ s2 => wpAny (model X.prog X.w) X.A (setFlight e none) (fun _ s3 =>
      wpAny (model X.prog X.w) X.A (handleBy e X.env (h0 :: hs)) (SP X pins D) X.xe s3) X.xe s2) X.xe s1) (fun u sx thrown => ?caught) PassesOwn.looking).run [] s σ H D (I.toTry _) wish) (fun f s1 after => ?ended) (fun _ _ z => z)
  case ended =>
    cases f with
    | next => exact after.elim fun σ1 ⟨H1, J1, q1⟩ => wpAny_execs_nil ⟨σ1, H1, J1.ofTry okI, q1⟩
    | brk => exact after.elim fun σ1 ⟨H1, J1, q1⟩ => ⟨σ1, H1, J1.ofTry okI, q1⟩
    | cont => exact after.elim fun σ1 ⟨H1, J1, q1⟩ => ⟨σ1, H1, J1.ofTry okI, q1⟩
    | ret u => exact after.elim fun v1 ⟨σ1, H1, J1, r1, q1⟩ => ⟨v1, σ1, H1, J1.ofTry okI, r1, q1⟩
  case caught =>
    obtain ⟨a, B, sI, ps, σ1, H1, cls, d, rfl, JT, nb, up, sky, free, eos, bare, w⟩ := thrown
    have J := JT.ofTry okI
    rw [show (X.tr (X.pn ++ pins) _).stack = X.env :: X.outer from est] at sky
    show wpAny (model X.prog X.w) X.A (noteFrame (.ref a) X.env) _ _ _
    refine Sky.land Zc.steady frA efr sky fun hp fly upp => ?_
    have JL : Inv X pins σ1 H1 { sx with heap := hp } := J.landed nb fly.1 (up.trans upp) eos bare
    obtain ⟨oe, vs, eAt, eZ, eD⟩ := fly.there
    have far : a ∉ frs (X.env :: X.outer) := fun mem => by
      obtain ⟨_, o', e', no⟩ := fly.2.2.1.mem mem
      cases eAt.symm.trans e'
      exact no _ eD
    have nLoc : a ≠ X.env.locals := fun z => far (List.mem_filterMap.mpr ⟨X.env, List.mem_cons_self, efr.trans (congrArg some z.symm)⟩)
    have nFs : a ∉ X.fs := fun mem => (List.mem_filterMap.mp mem).elim fun e he => far (List.mem_filterMap.mpr ⟨e, List.mem_cons_of_mem _ he.1, he.2⟩)
    have SL := JL.suite eAt eD free nLoc nFs
    suffices each : ∀ {hs' : List ExceptHandler} {l' : List Cla}, ClOk X hs' l' → wCl X.K Wout D l' cls d σ1 H1 → wpAny (model X.prog X.w) X.A (handleBy (.ref a) X.env hs') (SP X pins D) X.xe { sx with heap := hp } from each hh w
    -- the name of a clause, and whether it takes the exception
    have name : ∀ {x : Str} {c : Value} {p : Pos}, Names X x c → ∀ {Q E : Value → Shared → Prop}, Q c { sx with heap := hp } → wpAny (model X.prog X.w) (X.A.mark (some (.ref a))) (eval (.Name x p) X.env) Q E { sx with heap := hp } := fun {x c p} hc {Q E} q => by
      rcases hc with ⟨g1, g2, m | ⟨m, v, n⟩⟩
      · exact ld_glob (X := X.suite a ((a, oe) :: (X.pn ++ pins))) SL g1 m q g2
      · exact ld_blt (X := X.suite a ((a, oe) :: (X.pn ++ pins))) SL g1 m v q n g2
    have kind : PySem.W.Looks (model X.prog X.w) hp (typeOf (.ref a)) cls := fun A Q E s k q => wpAny_typeOf_ref (k _ _ eAt) (by rw [eZ.1]; exact q)
    intro hs' l' ok
    induction ok with
    | nil =>
      intro w0
      refine wpAny_handleBy_nil ?_
      obtain ⟨_, _, _, o2, v2, T, _, _, at2, _, dt2, f1, _⟩ := id fly
      unfold PySem.passOn
      refine wpAny_bind (wpAny_field at2 dt2 f1 ?_)
      rw [if_neg (by simp : ¬ ((Value.ref T == Value.none) = true))]
      have on : wpAny (model X.prog X.w) X.A (setFlight (.ref a) X.env.frame) (fun _ s4 => wpAny (model X.prog X.w) X.A (throw (.ref a) : Sem Flow) (SP X pins D) X.xe s4) X.xe { sx with heap := hp } := by
        rw [efr]
        refine HandSPX.setFlight_upZ fly fun h4 held up4 => wpAny_throw (tk _ _ ⟨a, B, sI, pins, σ1, H1, cls, d, rfl, J, nb, (up.trans upp).trans up4, .inr (.inr ?_), free, eos, bare, w0⟩)
        rw [est]
        exact held
      first | exact wpAny_bind (wpAny_pure (wpAny_bind on)) | exact wpAny_bind on
    | bare hc hsu _ ih =>
      rintro ⟨b, eb, yes, no⟩
      refine wpAny_handleBy_cons (codeAny_handlers_test ?_) (fun q => nomatch q)
      refine name hc ((PySem.W.exm_one (M := model X.prog X.w) JL.kIn kind eb).here ?_)
      cases b with
      | false => exact ih (no rfl)
      | true =>
        refine codeAny_handlers_suite (HandSPX.lands_againZ fly fun h4 fly4 up4 => ?_)
        obtain ⟨o4, v4, at4, z4, dt4⟩ := fly4.there
        have S4 := (J.landed nb fly4.1 ((up.trans upp).trans up4) eos bare : Inv X pins σ1 H1 { sx with heap := h4 }).suite at4 dt4 free nLoc nFs
        refine wpAny_mono ((hsu a o4 cls d (X.pn ++ pins) z4 ⟨_, dt4⟩).run [] _ _ H1 _ S4 (yes rfl a free)) (fun f s6 after => ?_) fun _ _ z => False.elim z
        cases f with
        | next => exact after.elim fun _ ⟨_, S6, q6⟩ => ⟨_, _, S6.unsuite okI, q6⟩
        | brk => exact after.elim fun _ ⟨_, S6, q6⟩ => ⟨_, _, S6.unsuite okI, q6⟩
        | cont => exact after.elim fun _ ⟨_, S6, q6⟩ => ⟨_, _, S6.unsuite okI, q6⟩
        | ret u => exact after.elim fun _ ⟨_, _, S6, r6, q6⟩ => ⟨_, _, _, S6.unsuite okI, r6, q6⟩
    | @named x n i c ts b0 bs p q hs2 l2 hN hi hl hc hsu _ ih =>
      rintro ⟨b, eb, yes, no⟩
      refine wpAny_handleBy_cons (codeAny_handlers_test ?_) (fun q => nomatch q)
      refine name hc ((PySem.W.exm_one (M := model X.prog X.w) JL.kIn kind eb).here ?_)
      cases b with
      | false => exact ih (no rfl)
      | true =>
        refine codeAny_handlers_suite_as (HandSPX.lands_againZ fly fun h4 fly4 up4 => ?_)
        obtain ⟨o4, v4, at4, z4, dt4⟩ := fly4.there
        have S4 := (J.landed nb fly4.1 ((up.trans upp).trans up4) eos bare : Inv X pins σ1 H1 { sx with heap := h4 }).suite at4 dt4 free nLoc nFs
        refine store_ok (X := X.suite a ((a, o4) :: (X.pn ++ pins))) (v := .ref a) S4 hN hi (.inl hl) rfl (fun s5 S5 => ?_) (.inr hl)
        refine wpAny_mono ((hsu a o4 cls d (X.pn ++ pins) z4 ⟨_, dt4⟩).run [] s5 _ H1 _ S5 (yes rfl a free)) (fun f s6 after => ?_) fun _ _ z => False.elim z
        have fin : ∀ {σ6 : L2.St} {H6 : Hp} {R : Shared → Prop}, Inv (X.suite a ((a, o4) :: (X.pn ++ pins))) [] σ6 H6 s6 → (∀ s7, Inv X pins (σ6.set i none) H6 s7 → R s7) →
            wpAny (model X.prog X.w) X.A (do bindName X.env n .none; unbindBehindTheSuite X.env n q) (fun _ s7 => R s7) X.xe s6 := fun S6 hq => gone_ok (S6.unsuite okI) hN hi hl hq
        cases f with
        | next => exact after.elim fun _ ⟨_, S6, q6⟩ => fin S6 fun _ J7 => ⟨_, _, J7, q6⟩
        | brk => exact after.elim fun _ ⟨_, S6, q6⟩ => fin S6 fun _ J7 => ⟨_, _, J7, q6⟩
        | cont => exact after.elim fun _ ⟨_, S6, q6⟩ => fin S6 fun _ J7 => ⟨_, _, J7, q6⟩
        | ret u => exact after.elim fun _ ⟨_, _, S6, r6, q6⟩ => fin S6 fun _ J7 => ⟨_, _, _, J7, r6, q6⟩
end
def uTryL (K : PySem.W.Frag) (l : List Cla) (tb : WX → TS) (Wout : WX) : TS := fun D σ H => tb (wCl K Wout D l) D σ H
theorem r_tryL {K : PySem.W.Frag} {l : List Cla} {tb : WX → TS} {Wout : WX} {D : Ends} {σ : L2.St} {H : Hp} : uTryL K l tb Wout D σ H = tb (wCl K Wout D l) D σ H := rfl
theorem wCl_yes {K : PySem.W.Frag} {Wout : WX} {D : Ends} {c : Value} {o : Option Nat} {ts : Addr → Value → Option Addr → TS} {r : List Cla} {cls : Value} {d : Option Addr} {σ : L2.St} {H : Hp} (e : PySem.W.exmOne K cls c = some true)
    (h : ∀ a, H a = none → inSuite o ts a cls d D σ H) : WE (wCl K Wout D ((c, o, ts) :: r)) σ cls d H := ⟨true, e, fun _ => h, fun z => nomatch z⟩
theorem wCl_no {K : PySem.W.Frag} {Wout : WX} {D : Ends} {c : Value} {o : Option Nat} {ts : Addr → Value → Option Addr → TS} {r : List Cla} {cls : Value} {d : Option Addr} {σ : L2.St} {H : Hp} (e : PySem.W.exmOne K cls c = some false)
    (h : WE (wCl K Wout D r) σ cls d H) : WE (wCl K Wout D ((c, o, ts) :: r)) σ cls d H := ⟨false, e, fun z => (nomatch z), fun _ => h⟩

def XfOk (K : PySem.W.Frag) (C : Addr) (f : Str) : Prop := XfC K C ∧ PySem.W.findIn K (.ref C) f = some none
def uXf (K : PySem.W.Frag) (a : Addr) (cls : Value) (d : Option Addr) (f : Str) (i : Nat) : TE := fun σ H Q => ∃ C dd fs v, cls = .ref C ∧ XfOk K C f ∧ d = some dd ∧ σ[i]? = some (some (.ref a)) ∧ H dd = some (.xd fs) ∧ fs.lookup f = some v ∧ Q v H
theorem pe_uXf {X : Cx} {a : Addr} {oe : Obj} {cls : Value} {d : Option Addr} {pn : List (Addr × Obj)} {e : Expr} {f : Str} {i : Nat} {pos : Pos} (hz : Zc cls d oe) (hf : ∃ vs, oe.data = .fields vs) (he : PE (X.suite a ((a, oe) :: pn)) e (uVar i))
    (hb : attributeBase e f X.env (eval e X.env) = eval e X.env := by rfl) : PE (X.suite a ((a, oe) :: pn)) (.Attribute e f pos) (uXf X.K a cls d f i) := by
  refine ⟨fun pins s σ H Q I h => ?_⟩
  obtain ⟨C, dd, fs, v, e1, ⟨T, hno⟩, e2, e3, e4, e5, q⟩ := h
  refine (pe_xf (X := X) T hno hz hf he hb).run pins s σ H Q I ?_
  show uVar i σ H _
  unfold uVar
  rw [e3]
  exact ⟨rfl, e1, dd, fs, v, e2, e4, e5, q⟩
theorem Xf.by {K : PySem.W.Frag} {a C dd : Addr} {f : Str} {i : Nat} {σ : L2.St} {H : Hp} {Q : VK} {fs : List (Str × V)} {v : V} (k : XfOk K C f) (hs : σ[i]? = some (some (.ref a))) (h : H dd = some (.xd fs)) (hl : fs.lookup f = some v) (q : Q v H) : uXf K a (.ref C) (some dd) f i σ H Q :=
  ⟨C, dd, fs, v, rfl, k, rfl, hs, h, hl, q⟩
def uRaiseO (W : WX) (C : Addr) (sp : Sp) (t : TA) : TS := fun _ σ H => t σ H fun vs H1 => vs.length ≤ 1000 ∧ ∀ a, H1 a = none → sp (.ref a :: vs) (upd H1 a (exo a C none))
  (fun v H2 => v = .non ∧ ∃ (d : Addr) (fs : List (Str × V)), H2 a = some (exo a C (some d)) ∧ H2 d = some (exd d fs) ∧ H1 d = none ∧ W (.ref C) (some d) σ (upd (del H2 a) d (.xd fs))) (fun _ _ _ => False)
structure OxC (P : Program) (w : World) (K : PySem.W.Frag) (mg : Str → Option Value) (base : Heap) (k : Nat) (x : Str) (C : Addr) (sp : Sp) : Prop where
  o : OexC K C
  g : mg x = some (.ref C)
  ex : ∃ (fI : Addr) (fd : FuncData) (ps : List Str), PySem.W.findIn K (.ref C) "__init__" = some (some (.ref fI)) ∧ PySem.W.typeIn K (.ref fI) = some (.type "function") ∧ FnOk P w K mg base CX0 k fI fd ps sp ∧ Binds K fd ps []
theorem ps_raiseO {X : Cx} {W : WX} {x : Str} {C : Addr} {sp : Sp} {k : Nat} {e : Expr} {es : List Expr} {ta : TA} {p pos pos2 : Pos} (T : OxC X.prog X.w X.K X.mg X.base k x C sp) (hr : Room (k + 1) X.A) (tk : Takes X W) (ha : PA X (e :: es) ta) (hc : X.calm = true := by rfl) (hg : Gl X x := by rfl)
    (hdb : (x == ("__debug__" : Str)) = false := by decide) (he : starEach (e :: es) X.env = (false, eval e X.env) :: starEach es X.env := by rfl) (hpl : (backTo pos (starEach es X.env)).any (·.1) = false := by rfl) :
    PS X (.Raise (some (.Call (.Name x p) (e :: es) [] pos)) none pos2) (uRaiseO W C sp ta) := by
  obtain ⟨o, g, fI, fd, ps, iC, tI, F, b⟩ := T
  have m := pmk_oex (X := X) (p := p) o iC tI F hr b .nil pass0 hg g ha hdb he hpl
  refine psOf (ps_raise (pos := pos2) hc tk m) fun D σ H h => ?_
  have e : ∀ vs : List V, vs ++ [] = vs := List.append_nil
  unfold uRaiseO at h
  show ta σ H _
  simp only [e]
  exact h
theorem r_ost {K : PySem.W.Frag} {f : Str} {to te : TE} {D : Ends} {σ : L2.St} {H : Hp} : tOst K f to te D σ H = te σ H fun y H1 => to σ H1 fun x H2 => ∃ a C : Addr, x = .ref a ∧ OexC K C ∧ PySem.W.findIn K (.ref C) f = some none ∧
  ((H2 a = some (exo a C none) ∧ ∀ dx, H2 dx = none → dx ≠ a → D.nx σ (upd (upd H2 dx (exd dx [(f, y)])) a (exo a C (some dx)))) ∨
    ∃ (dx : Addr) (fs : List (Str × V)), H2 a = some (exo a C (some dx)) ∧ H2 dx = some (exd dx fs) ∧ fs.length ≤ 900 ∧ D.nx σ (upd H2 dx (exd dx ((f, y) :: fs)))) := rfl
def spIni1 (K : PySem.W.Frag) (f : Str) : Sp := fun vs H Q _ => ∃ (a C : Addr) (x : V), vs = [.ref a, x] ∧ OexC K C ∧ PySem.W.findIn K (.ref C) f = some none ∧ H a = some (exo a C none) ∧
  ∀ dx H', H dx = none → dx ≠ a → H' a = some (exo a C (some dx)) → H' dx = some (exd dx [(f, x)]) → (∀ b u, b ≠ a → H b = some u → H' b = some u) → (∀ b, b ≠ a → b ≠ dx → H' b = H b) → Q .non H'
def spIni2 (K : PySem.W.Frag) (f g : Str) : Sp := fun vs H Q _ => ∃ (a C : Addr) (x y : V), vs = [.ref a, x, y] ∧ OexC K C ∧ PySem.W.findIn K (.ref C) f = some none ∧ PySem.W.findIn K (.ref C) g = some none ∧ H a = some (exo a C none) ∧
  ∀ dx H', H dx = none → dx ≠ a → H' a = some (exo a C (some dx)) → H' dx = some (exd dx [(g, y), (f, x)]) → (∀ b u, b ≠ a → H b = some u → H' b = some u) → (∀ b, b ≠ a → b ≠ dx → H' b = H b) → Q .non H'
theorem ini1 {K : PySem.W.Frag} {f : Str} (vs : List V) (H : Hp) (Q : VK) (E : XK) (h : spIni1 K f vs H Q E) : tOst K f (uVar 0) (uVar 1) { nx := fun _ H' => Q .non H', rt := Q } (vs.map some) H := by
  obtain ⟨a, C, x, rfl, T, n1, ea, q⟩ := h
  refine ⟨a, C, rfl, T, n1, .inl ⟨ea, fun dx hd ne => ?_⟩⟩
  refine q dx _ hd ne upd_same (by rw [upd_ne ne, upd_same]) (fun b u hb e => ?_) fun b h1 h2 => ?_
  · rw [upd_ne hb, upd_ne (ne_of_none e hd)]
    exact e
  · rw [upd_ne h1, upd_ne h2]
theorem ini2 {K : PySem.W.Frag} {f g : Str} (vs : List V) (H : Hp) (Q : VK) (E : XK) (h : spIni2 K f g vs H Q E) : tSeq (tOst K f (uVar 0) (uVar 1)) (tOst K g (uVar 0) (uVar 2)) { nx := fun _ H' => Q .non H', rt := Q } (vs.map some) H := by
  obtain ⟨a, C, x, y, rfl, T, n1, n2, ea, q⟩ := h
  refine ⟨a, C, rfl, T, n1, .inl ⟨ea, fun dx hd ne => ?_⟩⟩
  have e1 : upd (upd H dx (exd dx [(f, x)])) a (exo a C (some dx)) dx = some (exd dx [(f, x)]) := by rw [upd_ne ne, upd_same]
  refine ⟨a, C, rfl, T, n2, .inr ⟨dx, _, upd_same, e1, show 1 ≤ 900 from Nat.le_of_ble_eq_true rfl, ?_⟩⟩
  refine q dx _ hd ne (by rw [upd_ne ne.symm, upd_same]) upd_same (fun b u hb e => ?_) fun b h1 h2 => ?_
  · rw [upd_ne (ne_of_none e hd), upd_ne hb, upd_ne (ne_of_none e hd)]
    exact e
  · rw [upd_ne h2, upd_ne h1, upd_ne h2]
theorem raise1 {K : PySem.W.Frag} {W : WX} {C : Addr} {f : Str} {x : V} {D : Ends} {σ : L2.St} {H H1 : Hp} {t : TA} (T : OexC K C) (n1 : PySem.W.findIn K (.ref C) f = some none) (h : t σ H = fun Q => Q [x] H1)
    (q : ∀ d H', H1 d = none → H' d = some (.xd [(f, x)]) → L2.Same H1 H' → W (.ref C) (some d) σ H') : uRaiseO W C (spIni1 K f) t D σ H := by
  unfold uRaiseO
  rw [h]
  refine ⟨show 1 ≤ 1000 from Nat.le_of_ble_eq_true rfl, fun a ha => ⟨a, C, x, rfl, T, n1, upd_same, fun dx H' hd ne e1 e2 k _ => ⟨rfl, dx, _, e1, e2, ?_, ?_⟩⟩⟩
  · rw [upd_ne ne] at hd
    exact hd
  · rw [upd_ne ne] at hd
    refine q dx _ hd upd_same fun b u e => ?_
    have nb : b ≠ a := ne_of_none e ha
    rw [upd_ne (ne_of_none e hd), del_ne nb]
    exact k b u nb (by rw [upd_ne nb]; exact e)
theorem raise2 {K : PySem.W.Frag} {W : WX} {C : Addr} {f g : Str} {x y : V} {D : Ends} {σ : L2.St} {H H1 : Hp} {t : TA} (T : OexC K C) (n1 : PySem.W.findIn K (.ref C) f = some none) (n2 : PySem.W.findIn K (.ref C) g = some none) (h : t σ H = fun Q => Q [x, y] H1)
    (q : ∀ d H', H1 d = none → H' d = some (.xd [(g, y), (f, x)]) → L2.Same H1 H' → W (.ref C) (some d) σ H') : uRaiseO W C (spIni2 K f g) t D σ H := by
  unfold uRaiseO
  rw [h]
  refine ⟨show 2 ≤ 1000 from Nat.le_of_ble_eq_true rfl, fun a ha => ⟨a, C, x, y, rfl, T, n1, n2, upd_same, fun dx H' hd ne e1 e2 k _ => ⟨rfl, dx, _, e1, e2, ?_, ?_⟩⟩⟩
  · rw [upd_ne ne] at hd
    exact hd
  · rw [upd_ne ne] at hd
    refine q dx _ hd upd_same fun b u e => ?_
    have nb : b ≠ a := ne_of_none e ha
    rw [upd_ne (ne_of_none e hd), del_ne nb]
    exact k b u nb (by rw [upd_ne nb]; exact e)

def rCd (a : Addr) (kvs : List (Str × V)) : R2 := fun x y H Q => x = .ref a ∧ ∃ z, y = .str z ∧ @OK _ (kvs.lookup z) ⟨fun v => Q v H⟩
theorem lookup_in {z : Str} {v : V} : ∀ {l : List (Str × V)}, l.lookup z = some v → (z, v) ∈ l
  | [], e => nomatch e
  | (y, u) :: r, e => by
    rw [List.lookup_cons] at e
    cases h : z == y with
    | true =>
      rw [h] at e
      cases e
      rw [beq_iff_eq.mp h]
      exact List.mem_cons_self
    | false =>
      rw [h] at e
      exact List.mem_cons_of_mem _ (lookup_in e)
theorem ix_cd {X : Cx} {a : Addr} {kvs : List (Str × V)} (D : ∃ es n, KDict X.K X.w a es n) (hv : ∀ z v, (z, v) ∈ kvs → ∃ u, PySem.W.nsIn X.K a z = some (some u) ∧ RelV v u) : IxR X (rCd a kvs) := ixOf ix_kdict fun x y H Q q => by
  obtain ⟨rfl, z, rfl, q⟩ := q
  obtain ⟨v, e, q⟩ := OK.out q
  obtain ⟨es, n, D⟩ := D
  obtain ⟨u, e1, e2⟩ := hv z v (lookup_in e)
  exact ⟨a, z, v, rfl, rfl, ⟨es, n, u, D.at_, D.lit, e1, e2⟩, q⟩
theorem r_cd {a : Addr} {kvs : List (Str × V)} {z : Str} {H : Hp} {Q : VK} : @aR (rCd a kvs) (.ref a) (.str z) H ⟨Q⟩ = @OK _ (kvs.lookup z) ⟨fun v => Q v H⟩ := propext ⟨fun ⟨_, y, e, q⟩ => by cases e; exact q, fun q => ⟨rfl, z, rfl, q⟩⟩
theorem aM_pop {l : Addr} {H : Hp} {Q : VK} : @aM rPop (.ref l) [] H ⟨Q⟩ = @OK _ (lstO (H l)) ⟨fun xs => @OK _ xs[xs.length - 1]? ⟨fun y => @Md H l (.lst xs.dropLast) ⟨fun H' => Q y H'⟩⟩⟩ := propext ⟨fun ⟨a, xs, y, e1, _, e3, e4, q⟩ => by
    cases e1
    exact OK.by (x := xs) (by rw [e3]; rfl) (OK.by e4 fun H' n => by rw [n.eq]; exact q), fun h => by
    obtain ⟨xs, e, h⟩ := OK.out h
    obtain ⟨y, e2, h⟩ := OK.out h
    exact ⟨l, xs, y, rfl, rfl, lstO_at e, e2, h _ ⟨rfl⟩⟩⟩
theorem aM_popAt {l : Addr} {i : Int} {H : Hp} {Q : VK} : @aM rPopAt (.ref l) [.int i] H ⟨Q⟩ = @OK _ (lstO (H l)) ⟨fun xs => @Cd (-(2 ^ 63) ≤ i ∧ i < 2 ^ 63) ⟨@OK _ (seqIndex? i xs.length) ⟨fun k => @OK _ xs[k]? ⟨fun y => @Md H l (.lst (xs.eraseIdx k)) ⟨fun H' => Q y H'⟩⟩⟩⟩⟩ := propext ⟨fun ⟨a, xs, j, k, y, e1, e2, e3, b1, b2, e4, e5, q⟩ => by
    cases e1
    cases e2
    exact OK.by (x := xs) (by rw [e3]; rfl) ⟨⟨b1, b2⟩, OK.by e4 (OK.by e5 fun H' n => by rw [n.eq]; exact q)⟩, fun h => by
    obtain ⟨xs, e, h⟩ := OK.out h
    obtain ⟨k, e2, h2⟩ := OK.out h.2
    obtain ⟨y, e3, h3⟩ := OK.out h2
    exact ⟨l, xs, i, k, y, rfl, rfl, lstO_at e, h.1.1, h.1.2, e2, e3, h3 _ ⟨rfl⟩⟩⟩
theorem un_nx {D : Ends} {i : Nat} {σ : L2.St} {H : Hp} : (Ends.un D i).nx σ H = D.nx (σ.set i none) H := rfl
theorem in_some {i : Nat} {ts : Addr → Value → Option Addr → TS} {a : Addr} {cls : Value} {d : Option Addr} {D : Ends} {σ : L2.St} {H : Hp} : inSuite (some i) ts a cls d D σ H = ts a cls d (Ends.un D i) (σ.set i (some (.ref a))) H := rfl
theorem in_none {ts : Addr → Value → Option Addr → TS} {a : Addr} {cls : Value} {d : Option Addr} {D : Ends} {σ : L2.St} {H : Hp} : inSuite none ts a cls d D σ H = ts a cls d D σ H := rfl
theorem lk2a {f g : Str} {x y : V} (h : f ≠ g) : List.lookup f [(g, y), (f, x)] = some x := by
  rw [List.lookup_cons, beq_eq_false_iff_ne.mpr h]
  show List.lookup f [(f, x)] = _
  rw [List.lookup_cons, beq_self_eq_true]
theorem lk2b {g : Str} {l : List (Str × V)} {y : V} : List.lookup g ((g, y) :: l) = some y := by rw [List.lookup_cons, beq_self_eq_true]
theorem Xf.snd {K : PySem.W.Frag} {a C dd : Addr} {f g : Str} {i : Nat} {σ : L2.St} {H : Hp} {Q : VK} {x y : V} (k : XfOk K C f) (h : H dd = some (.xd [(g, y), (f, x)])) (hs : σ[i]? = some (some (.ref a))) (n : f ≠ g) (q : Q x H) : uXf K a (.ref C) (some dd) f i σ H Q := Xf.by k hs h (lk2a n) q
theorem Xf.fst {K : PySem.W.Frag} {a C dd : Addr} {g : Str} {i : Nat} {σ : L2.St} {H : Hp} {Q : VK} {y : V} {l : List (Str × V)} (k : XfOk K C g) (h : H dd = some (.xd ((g, y) :: l))) (hs : σ[i]? = some (some (.ref a))) (q : Q y H) : uXf K a (.ref C) (some dd) g i σ H Q := Xf.by k hs h lk2b q
end U
end

section
namespace U
open PySem PySem.Spec PyProof.Rows L2
theorem fo_data {K : PySem.W.Frag} {C : Addr} {o : Obj} {nm : Str} {at_ g : Value} (c : PySem.W.hasDictIn K C = true) (h1 : PySem.W.findIn K (.ref C) nm = some (some at_)) (h2 : PySem.W.specialIn K at_ "__get__" = some (some g)) (h3 : PySem.W.takesIn K at_ = some true) :
    PySem.W.findObj K C (some o) nm = some (.bind g at_) := PySem.W.findObj_data (by obtain ⟨cd, hc, _⟩ := PySem.W.any_some c; rw [hc]; rfl) h1 h2 h3
theorem cls_field {prog : Program} {w : World} {A : Around} {E : Value → Shared → Prop} {s : Shared} {K : PySem.W.Frag} {x D : Addr} {ox dob : Obj} {Q : Option Value → Shared → Prop} (T : ExcC K D) (KI : K.In s.heap) (I : PySem.W.InstAt s.heap x ox D (some dob))
    (done_ : Q (some (.ref D)) { s with toks := s.toks + 1 }) : wpAny (model prog w) A (PySem.getAttr? (.ref x) "__class__") Q E s := by
  have found := fo_data (o := dob) T.hd T.ha T.hn T.ht
  obtain ⟨hp, gg, dr, tk, oS⟩ := s
  have ty := I.type (M := model prog w)
  have isE : PySem.W.Looks (model prog w) hp (isInstance (.ref x) (.type "BaseException")) true := ty.andThen (PySem.W.looks_subIn KI T.hs)
  have noO : (Value.builtin "BaseException.__getattribute__" == Value.builtin "object.__getattribute__") = false := by decide +kernel
  have noH : (onTheHeap (Value.ref D) && Value.builtin "BaseException.__getattribute__" == Value.builtin "object.__getattribute__") = false := noO
  unfold getAttr? getAttrBy? getAttrBy
  refine wpAny_bind (wpAny_mkText (wpAny_bind (wpAny_attempt (wpAny_holding (wpAny_bind (ty.at (wpAny_bind ((PySem.W.looks_findIn KI T.hg).at ?_))))))))
  show wpAny _ _ (if (onTheHeap (Value.ref D) && Value.builtin "BaseException.__getattribute__" == Value.builtin "object.__getattribute__") = true then _ else _) _ _ _
  rw [noH, if_neg Bool.false_ne_true]
  unfold getAttrByItsOwn hookBefore
  refine wpAny_bind ?_
  rw [if_pos (show onTheHeap (.ref D) = true from by rfl)]
  refine (PySem.W.looks_findIn KI T.hk).at (wpAny_bind (wpAny_attempt (wpAny_holding ?_)))
  unfold callGetattribute
  rw [show (false && onTheHeap (Value.builtin "BaseException.__getattribute__")) = false from rfl, if_neg Bool.false_ne_true]
  unfold boundAndCalled
  rw [PySem.F.excAttr_ValueError.ga.bind (Value.ref x)]
  refine wpAny_bind (wpAny_pure ?_)
  show wpAny _ _ (call (.builtin "BaseException.__getattribute__") [.ref x, .str "__class__" tk]) _ _ _
  refine wpAny_call (codeAny_call_builtin PySem.F.excAttr_ValueError.ga.plain PySem.F.entry_bexc_ga
    (@PySem.W.check_slot (model prog w) _ _ ⟨hp, gg, dr, tk + 1, oS⟩ "BaseException.__getattribute__" "BaseException" "__getattribute__" (.ref x) [.str "__class__" tk] [] _ (by decide +kernel) (by decide +kernel) isE (PySem.F.args_bexc_ga (.ref x) (.str "__class__" tk)) ?_))
  unfold Builtin.«object.__getattribute__»
  refine wpAny_bind (wpAny_of_eq (a := ((Value.ref x : Value), [Value.str "__class__" tk])) (by first | rfl | (simp only [slotArgs]; rfl)) (wpAny_bind (wpAny_pure (wpAny_bind (ty.at (wpAny_bind ((PySem.W.looks_find KI I found).at ?_)))))))
  show wpAny _ _ (holding [Value.builtin "object.__class__"] (call (.builtin "getset_descriptor.__get__") [.builtin "object.__class__", .ref x, .ref D]) >>= ret) _ _ _
  refine wpAny_bind (wpAny_holding (wpAny_call (PySem.W.class_get (s := ⟨hp, gg, dr, tk + 1, oS⟩) (ox := ox) (od := some dob) KI I T.hm (wpAny_pure ?_))))
  show wpAny _ _ (handedOut (.ref D)) _ _ _
  rw [PySem.W.handedOut_of (v := Value.ref D) rfl]
  first
    | exact wpAny_pure (wpAny_pure done_)
    | exact wpAny_pure done_
    | exact wpAny_pure (wpAny_bind (wpAny_pure (wpAny_pure done_)))
theorem kit_field {K : PySem.W.Frag} {x D : Addr} {ox dob : Obj} (T : ExcC K D) : PySem.W.KitX K (.ref x) (.ref D) (fun h => PySem.W.InstAt h x ox D (some dob)) where
  ty := fun _ _ _ I => I.type
  it := fun _ _ KI _ => by
    obtain ⟨cd, hc, _⟩ := PySem.W.any_some T.hd
    unfold PySem.W.clsIn at hc
    split at hc
    · rename_i ho
      intro A' Q' E' s' keep q
      unfold isType loadHead
      exact wpAny_bind (wpAny_loadPart (keep _ _ (KI _ _ ho)) (wpAny_pure q))
    · cases hc
  ne := fun h tp dd its n sl KI htp => by
    obtain ⟨cd, hc, _⟩ := PySem.W.any_some T.hd
    refine Bool.eq_false_iff.mpr fun same => ?_
    have e : D = tp := Value.ref.inj (beq_iff_eq.mp same)
    rw [← e] at htp
    unfold PySem.W.clsIn at hc
    split at hc
    · rename_i ho
      have z := (KI _ _ ho).symm.trans htp
      cases z
    · cases hc
  ca := fun KI I k => cls_field T KI I k
def rIsF (K : PySem.W.Frag) (a : Addr) (cls : Value) (d : Option Addr) (c : V) (cv : Value) : List V → Hp → VK → Prop := fun xs H Q => ∃ (D : Addr) (b : Bool), cls = .ref D ∧ ExcC K D ∧ (d = none ∨ ∃ dd fs, d = some dd ∧ H dd = some (.xd fs)) ∧ xs = [.ref a, c] ∧ PySem.W.kitOne K (.ref D) cv = some b ∧ Q (.bl b) H
theorem call_isF {X : Cx} {a : Addr} {oe : Obj} {cls : Value} {d : Option Addr} {pn : List (Addr × Obj)} {c : V} {cv : Value} (hz : Zc cls d oe) (hf : ∃ vs, oe.data = .fields vs) (hc : ∀ u, RelV c u → u = cv) : CallR (X.suite a ((a, oe) :: pn)) (.builtin "isinstance") (rIsF X.K a cls d c cv) := by
  intro pins s σ H xs us Q I r h
  obtain ⟨D, b, rfl, T, hd, rfl, e, q⟩ := h
  rcases hd with rfl | ⟨dd, fs, rfl, hx⟩
  · exact call_isE T hz hf pins s σ H _ us Q I r ⟨c, cv, b, rfl, hc, e, q⟩
  · cases r with
    | cons rx rr => cases rr with
      | cons rt rr =>
        cases rr
        cases rx
        have ec := hc _ rt
        subst ec
        obtain ⟨at1, _⟩ := I.pin (a, oe) (List.mem_append.mpr (.inl List.mem_cons_self))
        obtain ⟨vs, hv⟩ := hf
        have hx2 : ObjOk X.prog X.w H s.heap dd (.xd fs) := I.hok dd _ hx
        obtain ⟨mA, hns, _⟩ := hx2
        obtain ⟨od, ho, _⟩ := lookIn_ns hns
        have J : PySem.W.InstAt s.heap a oe D (some od) := ⟨at1, hz.1, by unfold PySem.W.notCls; rw [hv] <;> rfl, by rw [hz.2]; exact ho⟩
        exact PySem.W.kia_one (kit_field T) I.kIn J e (fun z => nomatch z) fun tk => ⟨.bl b, H, I.kept (t' := tk) fun _ _ z => z, rfl, q⟩
theorem r_isF {K : PySem.W.Frag} {a D : Addr} {d : Option Addr} {c : V} {cv : Value} {b : Bool} {H : Hp} {Q : VK} (T : ExcC K D) (hd : d = none ∨ ∃ dd fs, d = some dd ∧ H dd = some (.xd fs)) (e : PySem.W.kitOne K (.ref D) cv = some b) (q : Q (.bl b) H) : @aC (rIsF K a (.ref D) d c cv) [.ref a, c] H ⟨Q⟩ := ⟨D, b, rfl, T, hd, rfl, e, q⟩
theorem rel_ref {c : Addr} : ∀ u, RelV (.ref c) u → u = .ref c := fun _ z => z
theorem rel_ty {n : String} : ∀ u, RelV (.ty n) u → u = .type n := fun _ z => z
end U
end

section
namespace U
open PySem PySem.Spec PyProof.Rows L2
section
variable {X : Cx} {H : Hp} {Q : VK} {i j : Int} {a : Str}
def rDivm : List V → Hp → VK → Prop := fun xs H Q => match xs with
  | [.int i, .int j] => @Cd (CDivP i j) ⟨@Al H (.tup [.int (i / j), .int (i % j)]) ⟨Q⟩⟩
  | _ => False
theorem call_divmodU : CallR X (.builtin "divmod") rDivm := crOf call_divmodW fun xs H Q q => by
  unfold rDivm at q
  split at q
  · exact ⟨_, _, rfl, q.1, fun p hp => q.2 p _ ⟨hp, rfl⟩⟩
  · exact q.elim
theorem r_divm : @aC rDivm [.int i, .int j] H ⟨Q⟩ = @Cd (CDivP i j) ⟨@Al H (.tup [.int (i / j), .int (i % j)]) ⟨Q⟩⟩ := rfl
def rAbsU : List V → Hp → VK → Prop := fun xs H Q => match xs with
  | [.int i] => Q (.int (if i < 0 then -i else i)) H
  | _ => False
theorem call_absU : CallR X (.builtin "abs") rAbsU := crOf call_abs fun xs H Q q => by
  unfold rAbsU at q
  split at q
  · exact ⟨_, rfl, q⟩
  · exact q.elim
theorem r_abs : @aC rAbsU [.int i] H ⟨Q⟩ = Q (.int (if i < 0 then -i else i)) H := rfl
def rMinU : List V → Hp → VK → Prop := fun xs H Q => match xs with
  | [.int i, .int j] => Q (.int (if j < i then j else i)) H
  | _ => False
theorem call_minU (hc : X.calm = true) : CallR X (.builtin "min") rMinU := crOf (call_min2 hc) fun xs H Q q => by
  unfold rMinU at q
  split at q
  · exact ⟨_, _, rfl, q⟩
  · exact q.elim
def rMaxU : List V → Hp → VK → Prop := fun xs H Q => match xs with
  | [.int i, .int j] => Q (.int (if j > i then j else i)) H
  | _ => False
theorem call_maxU (hc : X.calm = true) : CallR X (.builtin "max") rMaxU := crOf (call_max2 hc) fun xs H Q q => by
  unfold rMaxU at q
  split at q
  · exact ⟨_, _, rfl, q⟩
  · exact q.elim
theorem r_min : @aC rMinU [.int i, .int j] H ⟨Q⟩ = Q (.int (if j < i then j else i)) H := rfl
theorem r_max : @aC rMaxU [.int i, .int j] H ⟨Q⟩ = Q (.int (if j > i then j else i)) H := rfl
def rStrI : List V → Hp → VK → Prop := fun xs H Q => match xs with
  | [.int i] => @Cd (i.natAbs.log2 < 1920) ⟨Q (.str (toString i)) H⟩
  | _ => False
theorem call_strI : CallR X (.type "str") rStrI := crOf call_str_int fun xs H Q q => by
  unfold rStrI at q
  split at q
  · exact ⟨_, rfl, q.1, q.2⟩
  · exact q.elim
theorem r_strI : @aC rStrI [.int i] H ⟨Q⟩ = @Cd (i.natAbs.log2 < 1920) ⟨Q (.str (toString i)) H⟩ := rfl
def rIntT : List V → Hp → VK → Prop := fun xs H Q => match xs with
  | [.str a] => @Cd (a.length ≤ 640) ⟨@OK _ (PySem.intText? a) ⟨fun n => Q (.int n) H⟩⟩
  | _ => False
theorem call_intT : CallR X (.type "int") rIntT := crOf call_int_str fun xs H Q q => by
  unfold rIntT at q
  split at q
  · obtain ⟨n, e, q2⟩ := OK.out q.2
    exact ⟨_, n, rfl, e, q.1, q2⟩
  · exact q.elim
theorem r_intT : @aC rIntT [.str a] H ⟨Q⟩ = @Cd (a.length ≤ 640) ⟨@OK _ (PySem.intText? a) ⟨fun n => Q (.int n) H⟩⟩ := rfl
def rZf : V → List V → Hp → VK → Prop := fun x xs H Q => match x, xs with
  | .str a, [.int i] => @Cd (PadOk i = true) ⟨Q (.str (Txt.zfill a i)) H⟩
  | _, _ => False
theorem mt_zfU : MtR X "str.zfill" rZf := mtOf mt_zfill fun x xs H Q q => by
  unfold rZf at q
  split at q
  · exact ⟨_, _, rfl, rfl, q.1, q.2⟩
  · exact q.elim
theorem aM_zf : @aM rZf (.str a) [.int i] H ⟨Q⟩ = @Cd (PadOk i = true) ⟨Q (.str (Txt.zfill a i)) H⟩ := rfl
def rLs : V → List V → Hp → VK → Prop := fun x xs H Q => match x, xs with
  | .str a, [.str b] => @Cd (a.length ≤ sizeLine) ⟨Q (.str (Txt.lstripChars a b)) H⟩
  | _, _ => False
def rRs : V → List V → Hp → VK → Prop := fun x xs H Q => match x, xs with
  | .str a, [.str b] => @Cd (a.length ≤ sizeLine) ⟨Q (.str (Txt.rstripChars a b)) H⟩
  | _, _ => False
def rSpl : V → List V → Hp → VK → Prop := fun x xs H Q => match x, xs with
  | .str a, [.str b] => @Cd ((b.length == 0) = false ∧ a.length + 2 ≤ sizeLine) ⟨@Al H (.lst ((Txt.split a b).map V.str)) ⟨Q⟩⟩
  | _, _ => False
theorem mt_lsU : MtR X "str.lstrip" rLs := mtOf mt_lstripChars fun x xs H Q q => by
  unfold rLs at q
  split at q
  · exact ⟨_, _, rfl, rfl, q.1, q.2⟩
  · exact q.elim
theorem mt_rsU : MtR X "str.rstrip" rRs := mtOf mt_rstripChars fun x xs H Q q => by
  unfold rRs at q
  split at q
  · exact ⟨_, _, rfl, rfl, q.1, q.2⟩
  · exact q.elim
theorem mt_splU : MtR X "str.split" rSpl := mtOf mt_split fun x xs H Q q => by
  unfold rSpl at q
  split at q
  · exact ⟨_, _, rfl, rfl, q.1.1, q.1.2, fun p hp => q.2 p _ ⟨hp, rfl⟩⟩
  · exact q.elim
theorem aM_ls {b : Str} : @aM rLs (.str a) [.str b] H ⟨Q⟩ = @Cd (a.length ≤ sizeLine) ⟨Q (.str (Txt.lstripChars a b)) H⟩ := rfl
theorem aM_rs {b : Str} : @aM rRs (.str a) [.str b] H ⟨Q⟩ = @Cd (a.length ≤ sizeLine) ⟨Q (.str (Txt.rstripChars a b)) H⟩ := rfl
theorem aM_spl {b : Str} : @aM rSpl (.str a) [.str b] H ⟨Q⟩ = @Cd ((b.length == 0) = false ∧ a.length + 2 ≤ sizeLine) ⟨@Al H (.lst ((Txt.split a b).map V.str)) ⟨Q⟩⟩ := rfl
theorem tyS {K : PySem.W.Frag} {z : Str} : L2.tyV K "str" (.str z) H = True := eq_true (by first | trivial | exact .inl rfl | exact ⟨z, rfl⟩ | rfl)
def rMulX : R2 := rIntC CMulX fun i j => .int (i * j)
theorem op_mulXU : OpR X (binaryOp .Mult) rMulX := opOf op_mulX fun _ _ _ _ => rIntC_of
theorem r_mulX : @aR rMulX (.int i) (.int j) H ⟨Q⟩ = @Cd (CMulX i j) ⟨Q (.int (i * j)) H⟩ := rfl
def uRev (te : TE) : TE := fun σ H Q => te σ H fun x H1 => match x with
  | .ref a => @OK _ (lstO (H1 a)) ⟨fun xs => @Al H1 (.lst xs.reverse) ⟨Q⟩⟩
  | _ => False
theorem pe_weak {e : Expr} {te : TE} (he : PE X e te) : PE X e (fun σ H Q => ∃ Q0 : VK, te σ H Q0 ∧ ∀ v H', Q0 v H' → Q v H') :=
  ⟨fun pins s σ H Q I ⟨Q0, h, m⟩ => wpAny_mono (he.run pins s σ H Q0 I h) (fun _ _ ⟨x, H', J, r, q⟩ => ⟨x, H', J, r, m _ _ q⟩) fun _ _ z => z⟩
theorem pe_uRev {e : Expr} {te : TE} {k : Nat} {p1 p2 p3 pos : Pos} (he : PE X e te) : PE X (.Subscript e (.Slice none none (some (.UnaryOp .USub (.Constant (.int 1) k p1) p2)) p3) pos) (uRev te) :=
  peOf (pe_revL (pe_weak he)) fun σ H Q q => ⟨_, q, fun v H' h => by
    cases v with
    | ref a =>
      obtain ⟨xs, e, h⟩ := OK.out h
      exact ⟨a, xs, rfl, .inl (.inl (lstO_at e)), fun p hp => h p _ ⟨hp, rfl⟩⟩
    | _ => exact False.elim h⟩
theorem r_rev {te : TE} {σ : L2.St} : uRev te σ H Q = te σ H fun x H1 => @aU (fun x H1 Q => match x with
  | .ref a => @OK _ (lstO (H1 a)) ⟨fun xs => @Al H1 (.lst xs.reverse) ⟨Q⟩⟩
  | _ => False) x H1 ⟨Q⟩ := rfl
theorem r_revR {p : Addr} : @aU (fun x H1 Q => match x with
  | .ref a => @OK _ (lstO (H1 a)) ⟨fun xs => @Al H1 (.lst xs.reverse) ⟨Q⟩⟩
  | _ => False) (.ref p) H ⟨Q⟩ = @OK _ (lstO (H p)) ⟨fun xs => @Al H (.lst xs.reverse) ⟨Q⟩⟩ := rfl
theorem while_inv {c : TT} {tb : TS} {D : Ends} {σ : L2.St} (Pv : L2.St → Hp → Prop) (μ : L2.St → Hp → Nat) (h0 : Pv σ H)
    (hs : ∀ σ H (R : Bool → Hp → Prop), Pv σ H → (∀ H1, tb { D with nx := fun σ' H' => Pv σ' H' ∧ μ σ' H' < μ σ H, ct := fun σ' H' => Pv σ' H' ∧ μ σ' H' < μ σ H, bk := D.nx } σ H1 → R true H1) → (∀ H1, D.nx σ H1 → R false H1) → c σ H R) : tWhile c tb D σ H := by
  refine ⟨fun m σ H => m = μ σ H ∧ Pv σ H, ⟨_, rfl, h0⟩, ?_⟩
  rintro m σ H ⟨rfl, p⟩
  refine hs σ H _ p (fun H1 h => ?_) fun H1 h => ?_
  · exact ⟨_, fun σ' H' q => ⟨_, q.2, rfl, q.1⟩, h⟩
  · exact h
theorem r_for3 {g : TG} {tb : TS} {ts : TA} {D : Ends} {σ : L2.St} : tFor (iRng3 ts) g tb D σ H = ts σ H fun vs H1 => ∃ (i j c : Int) (n : Nat), vs = [.int i, .int j, .int c] ∧ RgC i j c n ∧ loopJ (Itc i c n) g tb D σ H1 := rfl
end
end U
end

section
namespace Hd
open PySem PySem.Spec PyProof.Rows L2 He
def obsU (fa : List Fa) (fn : List DefD) (ex : PySem.W.Frag → Bool) (K : PySem.W.Frag) : AlD := ((fa.all fun f => f.ok K) && (ex K && fn.all fun d => d.ok K), fn.map fun d => fnW K d.at_)
def SaysU (fa : List Fa) (fn : List DefD) (ex : PySem.W.Frag → Bool) (K : PySem.W.Frag) : Prop := obsU fa fn ex K = valD fn
def obsUG (n : Nat) (fa : List Fa) (fn : List DefD) (ex : PySem.W.Frag → Bool) (g : Addr → Option Obj) : AlD := obsU fa fn ex (frG g (asD g n ++ [PySem.cStatics]))
def hookU (n : Nat) (fa : List Fa) (fn : List DefD) (ex : PySem.W.Frag → Bool) : PySem.W.Hook where
  α := AlD
  obs := fun s => obsUG n fa fn ex s.heap.get?
  val := fun _ => valD fn
  says := fun _ h => ∃ K : PySem.W.Frag, K.In h ∧ SaysU fa fn ex K
  of := fun _ _ e => ⟨_, frG_in, e⟩
  keeps := fun _ _ _ ⟨K, hK, c⟩ k => ⟨K, PySem.W.Frag.In.keeps hK k, c⟩
theorem obsUG_eq {n : Nat} {fa : List Fa} {fn : List DefD} {ex : PySem.W.Frag → Bool} {g : Addr → Option Obj} {s : Shared} (h : ∀ a, g a = s.heap.get? a) : obsUG n fa fn ex g = (hookU n fa fn ex).obs s := by
  have e : g = s.heap.get? := funext h
  rw [e] <;> rfl
section
variable {fa : List Fa} {fn : List DefD} {ex : PySem.W.Frag → Bool} {K : PySem.W.Frag}
theorem SaysU.fact (c : SaysU fa fn ex K) (i : Nat) {f : Fa} (h : fa[i]? = some f := by rfl) : f.ok K = true := by
  have c1 := (ba (show ((fa.all fun f => f.ok K) && (ex K && fn.all fun d => d.ok K)) = true from congrArg (fun z : AlD => z.1) c)).1
  exact List.all_eq_true.mp c1 f (List.mem_of_getElem? h)
theorem SaysU.more (c : SaysU fa fn ex K) : ex K = true := (ba (ba (show ((fa.all fun f => f.ok K) && (ex K && fn.all fun d => d.ok K)) = true from congrArg (fun z : AlD => z.1) c)).2).1
theorem SaysU.def_ (c : SaysU fa fn ex K) (i : Nat) {d : DefD} (h : fn[i]? = some d := by rfl) : ∃ fd, FunD K d.name d.qual d.params d.body d.scope (d.dvs K) (d.kws K) (fAd K d.at_) fd := by
  have c2 := (ba (ba (show ((fa.all fun f => f.ok K) && (ex K && fn.all fun d => d.ok K)) = true from congrArg (fun z : AlD => z.1) c)).2).2
  have e : fn.map (fun d => fnW K d.at_) = fn.map DefD.val := congrArg (fun z : AlD => z.2) c
  have e2 : (fn.map fun d => fnW K d.at_)[i]? = (fn.map DefD.val)[i]? := by rw [e]
  rw [List.getElem?_map, List.getElem?_map, h] at e2
  exact DefD.funD (Option.some.inj e2) (List.all_eq_true.mp c2 d (List.mem_of_getElem? h))
end
def ctupB (K : PySem.W.Frag) (x : Str) (vs : List V) : Bool := (Fa.glo x).ok K && tupB K x (vs.map fun v => match v with | .str z => .str z | .int i => .int i | .bl b => .bl b | _ => .non)
theorem ctupB_ok {K : PySem.W.Frag} {x : Str} {vs : List V} (h : ctupB K x vs = true) (hv : (vs.map fun v => (match v with | .str z => .str z | .int i => .int i | .bl b => .bl b | _ => .non : Dv)).map (Dv.v K) = vs) :
    (Fa.glo x).ok K = true ∧ ∀ H, SqT K H (ga K x) vs := by
  obtain ⟨h1, h2⟩ := ba h
  refine ⟨h1, fun H => ?_⟩
  have := tupB_ok h2 H
  rw [hv] at this
  exact this
def cvalB (K : PySem.W.Frag) (c f : Str) (v : V) : Bool := PySem.W.readsIn K (ga K c) (.type "type") && (eqO (PySem.W.specialIn K (.ref (ga K c)) "__getattribute__") (some (some (.builtin "type.__getattribute__"))) && (match PySem.W.findCls K (.ref (ga K c)) (.type "type") f with
  | some (.val u) => relB v u
  | _ => false))
theorem cvalB_ok {K : PySem.W.Frag} {c f : Str} {v : V} (h : cvalB K c f v = true) : ClX.CRead K (ga K c) (.type "type") ∧ ∃ u, ClX.CVal K (ga K c) (.type "type") f v u := by
  obtain ⟨h1, h⟩ := ba h
  obtain ⟨h2, h3⟩ := ba h
  refine ⟨⟨h1, eqO_ok h2⟩, ?_⟩
  split at h3
  · rename_i u e
    exact ⟨u, e, relB_ok h3⟩
  · cases h3
structure DefU where
  ad : PySem.W.Frag → Addr
  nm : Str
  qn : Str
  ps : Arguments
  bd : List Stmt
  sc : Scope
  dfl : List Dv := []
  kwd : List (Str × Dv) := []
def fdAt (K : PySem.W.Frag) (a : Addr) : Option FuncData := (K.lookup a).bind fun o => match o.data with
  | .func g => some g
  | _ => none
def DefU.obs (K : PySem.W.Frag) (d : DefU) : FnW := (fdAt K (d.ad K)).map fun g => (g.name, g.qualname, g.params, g.body, g.scope, g.globals, g.closure, g.builtins)
def DefU.due (d : DefU) : FnW := some (d.nm, d.qn, d.ps, .stmts d.bd, d.sc, mainGlobals, [], builtinsNs)
def DefU.dvs (K : PySem.W.Frag) (d : DefU) : List V := d.dfl.map (Dv.v K)
def DefU.kws (K : PySem.W.Frag) (d : DefU) : List (Str × V) := d.kwd.map fun q => (q.1, q.2.v K)
def DefU.fine (K : PySem.W.Frag) (d : DefU) : Bool := match fdAt K (d.ad K) with
  | some g => PySem.W.keepIn K (.ref (d.ad K)) && (PySem.W.codeIn K g.code d.qn && (dflB K g.defaults (d.dvs K) && kwdB K g.kwdefaults (d.kws K)))
  | none => false
theorem DefU.says {K : PySem.W.Frag} {d : DefU} (e : d.obs K = d.due) (c : d.fine K = true) : ∃ g, FunD K d.nm d.qn d.ps d.bd d.sc (d.dvs K) (d.kws K) (d.ad K) g := by
  cases ea : fdAt K (d.ad K) with
  | none => unfold DefU.fine at c; rw [ea] at c; cases c
  | some g =>
    unfold DefU.fine at c
    unfold DefU.obs DefU.due at e
    rw [ea] at c e
    obtain ⟨b1, c⟩ := ba c
    obtain ⟨b2, c⟩ := ba c
    obtain ⟨b3, b4⟩ := ba c
    unfold fdAt at ea
    cases ek : K.lookup (d.ad K) with
    | none => rw [ek] at ea; cases ea
    | some o =>
      rw [ek] at ea
      rcases o with ⟨w1, w2, w3, w4⟩
      cases w3 <;> first | cases ea | skip
      have e := Option.some.inj e
      simp only [Prod.mk.injEq] at e
      rcases g with ⟨g1, g2, g3, g4, g5, g6, g7, g8, g9, g10, g11, g12, g13, g14, g15⟩
      simp only at e b2 b3 b4
      obtain ⟨u1, u2, u3, u4, u5, u6, u7, u8⟩ := e
      subst u1 u2 u3 u4 u5 u6 u7 u8
      exact ⟨_, ⟨w1, w2, g8, g9, g10, g11, g12, g13, g14, w4, rfl, ek, b2, dflB_ok b3, kwdB_ok b4⟩, b1⟩
abbrev AlV : Type := AlD × List (Option (List (Option (Str × Int))))
def obsV (fa : List Fa) (fn : List DefU) (ts : List Tab) (ex : PySem.W.Frag → Bool) (K : PySem.W.Frag) : AlV := (((fa.all fun f => f.ok K) && (ex K && fn.all fun d => d.fine K), fn.map fun d => d.obs K), ts.map fun t => dicW K (t.1 K))
def dueV (fn : List DefU) (ts : List Tab) (w : World) : AlV := ((true, fn.map DefU.due), ts.map fun t => some (keysIn w.params t.2))
def SaysV (fa : List Fa) (fn : List DefU) (ts : List Tab) (ex : PySem.W.Frag → Bool) (w : World) (K : PySem.W.Frag) : Prop := obsV fa fn ts ex K = dueV fn ts w
def obsVG (n : Nat) (fa : List Fa) (fn : List DefU) (ts : List Tab) (ex : PySem.W.Frag → Bool) (g : Addr → Option Obj) : AlV := obsV fa fn ts ex (frG g (asD g n ++ [PySem.cStatics]))
def hookV (n : Nat) (fa : List Fa) (fn : List DefU) (ts : List Tab) (ex : PySem.W.Frag → Bool) : PySem.W.Hook where
  α := AlV
  obs := fun s => obsVG n fa fn ts ex s.heap.get?
  val := fun w => dueV fn ts w
  says := fun w h => ∃ K : PySem.W.Frag, K.In h ∧ SaysV fa fn ts ex w K
  of := fun _ _ e => ⟨_, frG_in, e⟩
  keeps := fun _ _ _ ⟨K, hK, c⟩ k => ⟨K, PySem.W.Frag.In.keeps hK k, c⟩
theorem obsVG_eq {n : Nat} {fa : List Fa} {fn : List DefU} {ts : List Tab} {ex : PySem.W.Frag → Bool} {g : Addr → Option Obj} {s : Shared} (h : ∀ a, g a = s.heap.get? a) : obsVG n fa fn ts ex g = (hookV n fa fn ts ex).obs s := by
  rw [show g = s.heap.get? from funext h] <;> rfl
section
variable {fa : List Fa} {fn : List DefU} {ts : List Tab} {ex : PySem.W.Frag → Bool} {w : World} {K : PySem.W.Frag}
theorem SaysV.both (c : SaysV fa fn ts ex w K) : (fa.all fun f => f.ok K) = true ∧ ex K = true ∧ (fn.all fun d => d.fine K) = true := by
  have c1 : ((fa.all fun f => f.ok K) && (ex K && fn.all fun d => d.fine K)) = true := congrArg (fun z : AlV => z.1.1) c
  exact ⟨(ba c1).1, ba (ba c1).2⟩
theorem SaysV.fact (c : SaysV fa fn ts ex w K) (i : Nat) {f : Fa} (h : fa[i]? = some f := by rfl) : f.ok K = true := List.all_eq_true.mp c.both.1 f (List.mem_of_getElem? h)
theorem SaysV.more (c : SaysV fa fn ts ex w K) : ex K = true := c.both.2.1
theorem SaysV.def_ (c : SaysV fa fn ts ex w K) (i : Nat) {d : DefU} (h : fn[i]? = some d := by rfl) : ∃ g, FunD K d.nm d.qn d.ps d.bd d.sc (d.dvs K) (d.kws K) (d.ad K) g := by
  have e : fn.map (fun d => d.obs K) = fn.map DefU.due := congrArg (fun z : AlV => z.1.2) c
  have e2 := congrArg (fun l : List FnW => l[i]?) e
  simp only [List.getElem?_map, h, Option.map_some] at e2
  exact DefU.says (Option.some.inj e2) (List.all_eq_true.mp c.both.2.2 d (List.mem_of_getElem? h))
theorem SaysV.tab (c : SaysV fa fn ts ex w K) (i : Nat) {t : Tab} (h : ts[i]? = some t := by rfl) : ∃ es n, KDict K w (t.1 K) es n := by
  have e2 := congrArg (fun z : AlV => z.2[i]?) c
  simp only [obsV, dueV, List.getElem?_map, h, Option.map_some, Option.some.injEq] at e2
  exact dicW_ok e2
end
def tabVB (K : PySem.W.Frag) (a : Addr) (kvs : List (Str × V)) : Bool := kvs.all fun q => match PySem.W.nsIn K a q.1 with
  | some (some u) => relB q.2 u
  | _ => false
theorem tabVB_ok {K : PySem.W.Frag} {a : Addr} {kvs : List (Str × V)} (h : tabVB K a kvs = true) : ∀ z v, (z, v) ∈ kvs → ∃ u, PySem.W.nsIn K a z = some (some u) ∧ RelV v u := fun z v hm => by
  have h1 := List.all_eq_true.mp h _ hm
  split at h1
  · rename_i u e
    exact ⟨u, e, relB_ok h1⟩
  · cases h1
def excCB (K : PySem.W.Frag) (D : Addr) : Bool :=
  eqO (PySem.W.findIn K (.ref D) "__getattribute__") (some (some (.builtin "BaseException.__getattribute__"))) && (eqO (PySem.W.findIn K (.ref D) "__getattr__") (some none) && (decide (PySem.W.subIn K (.ref D) (.type "BaseException") = some true) && (PySem.W.hasDictIn K D &&
  (eqO (PySem.W.findIn K (.ref D) "__class__") (some (some (.builtin "object.__class__"))) && (eqO (PySem.W.specialIn K (.builtin "object.__class__") "__get__") (some (some (.builtin "getset_descriptor.__get__"))) && (decide (PySem.W.takesIn K (.builtin "object.__class__") = some true) &&
  decide (PySem.W.mroIn K D (.type "object") = some true)))))))
theorem excCB_ok {K : PySem.W.Frag} {D : Addr} (h : excCB K D = true) : ExcC K D := by
  obtain ⟨h1, h⟩ := ba h
  obtain ⟨h2, h⟩ := ba h
  obtain ⟨h3, h⟩ := ba h
  obtain ⟨h4, h⟩ := ba h
  obtain ⟨h5, h⟩ := ba h
  obtain ⟨h6, h⟩ := ba h
  obtain ⟨h7, h8⟩ := ba h
  exact ⟨eqO_ok h1, eqO_ok h2, of_decide_eq_true h3, h4, eqO_ok h5, eqO_ok h6, of_decide_eq_true h7, of_decide_eq_true h8⟩
def kitB (K : PySem.W.Frag) (c d : Addr) (b : Bool) : Bool := decide (PySem.W.kitOne K (.ref c) (.ref d) = some b)
theorem kitB_ok {K : PySem.W.Frag} {c d : Addr} {b : Bool} (h : kitB K c d b = true) : PySem.W.kitOne K (.ref c) (.ref d) = some b := of_decide_eq_true h
def exmB (K : PySem.W.Frag) (c d : Addr) (b : Bool) : Bool := decide (PySem.W.exmOne K (.ref c) (.ref d) = some b)
theorem exmB_ok {K : PySem.W.Frag} {c d : Addr} {b : Bool} (h : exmB K c d b = true) : PySem.W.exmOne K (.ref c) (.ref d) = some b := of_decide_eq_true h
def insTB (K : PySem.W.Frag) (D : Addr) : Bool :=
  PySem.W.plainGet K D Str.empty && (PySem.W.hasDictIn K D && (PySem.W.plainOver K D && (eqO (PySem.W.findIn K (.ref D) "__setattr__") (some (some (.builtin "object.__setattr__"))) &&
  (eqO (PySem.W.findIn K (.ref D) "__class__") (some (some (.builtin "object.__class__"))) && (eqO (PySem.W.specialIn K (.builtin "object.__class__") "__get__") (some (some (.builtin "getset_descriptor.__get__"))) && (decide (PySem.W.takesIn K (.builtin "object.__class__") = some true) &&
  decide (PySem.W.mroIn K D (.type "object") = some true)))))))
theorem insTB_ok {K : PySem.W.Frag} {D : Addr} (h : insTB K D = true) : U.InsT K D := by
  obtain ⟨h1, h⟩ := ba h
  obtain ⟨h2, h⟩ := ba h
  obtain ⟨h3, h⟩ := ba h
  obtain ⟨h4, h⟩ := ba h
  obtain ⟨h5, h⟩ := ba h
  obtain ⟨h6, h⟩ := ba h
  obtain ⟨h7, h8⟩ := ba h
  exact ⟨⟨h1, h2, h3, eqO_ok h4⟩, eqO_ok h5, eqO_ok h6, of_decide_eq_true h7, of_decide_eq_true h8⟩
def isoB (K : PySem.W.Frag) (C : Addr) : Bool := ([.non, .bl, .int, .str, .lst, .tup, .dict].all fun t : U.Ty => decide (PySem.W.kitOne K (.type t.name) (.ref C) = some false)) && (insTB K C && kitB K C C true)
theorem isoB_ok {K : PySem.W.Frag} {C : Addr} (h : isoB K C = true) : U.IsO K C (fun D => if D = C then some true else none) := by
  obtain ⟨h1, h⟩ := ba h
  obtain ⟨h2, h3⟩ := ba h
  refine ⟨fun t => of_decide_eq_true (List.all_eq_true.mp h1 t (by cases t <;> decide)), fun D b e => ?_⟩
  by_cases z : D = C
  · subst z
    rw [if_pos rfl] at e
    cases e
    exact ⟨insTB_ok h2, kitB_ok h3⟩
  · rw [if_neg z] at e
    cases e
def smR (K : PySem.W.Frag) (C : Addr) (m : Str) : Addr := match PySem.W.findCls K (.ref C) (.type "type") m with
  | some (.get _ (.ref p) _ _) => p
  | _ => 0
def smG (K : PySem.W.Frag) (C : Addr) (m : Str) : Addr := match PySem.W.recIn K (smR K C m) "staticmethod" with
  | some (.ref g :: _) => g
  | _ => 0
def smB (K : PySem.W.Frag) (C : Addr) (m : Str) : Bool := PySem.W.readsIn K C (.type "type") && (eqO (PySem.W.specialIn K (.ref C) "__getattribute__") (some (some (.builtin "type.__getattribute__"))) &&
  ((match PySem.W.findCls K (.ref C) (.type "type") m with
  | some (.get a b c d) => decide (a = .builtin "staticmethod.__get__" ∧ b = .ref (smR K C m) ∧ c = .none ∧ d = .ref C)
  | _ => false) && ((match PySem.W.recIn K (smR K C m) "staticmethod" with
  | some (x :: _) => decide (x = .ref (smG K C m))
  | _ => false) && PySem.W.keepIn K (.ref (smG K C m)))))
theorem smB_ok {K : PySem.W.Frag} {C : Addr} {m : Str} (h : smB K C m = true) : U.SMet K C m (smR K C m) (smG K C m) := by
  obtain ⟨h1, h⟩ := ba h
  obtain ⟨h2, h⟩ := ba h
  obtain ⟨h3, h⟩ := ba h
  obtain ⟨h4, h5⟩ := ba h
  refine ⟨⟨h1, eqO_ok h2⟩, ?_, ?_, h5⟩
  · split at h3
    · rename_i a b c d e
      obtain ⟨z1, z2, z3, z4⟩ := of_decide_eq_true h3
      rw [e, z1, z2, z3, z4]
    · cases h3
  · split at h4
    · rename_i x r e
      exact ⟨r, by rw [e, of_decide_eq_true h4]⟩
    · cases h4
def oexB (K : PySem.W.Frag) (C : Addr) : Bool := (match K.lookup C with
  | some ob => (match ob.data with
    | .cls cd => (match cd.mro, ob.slots.toList with
      | .ref D :: bm, [_, _, _, _, some (.builtin nw), _] => decide (ob.cls = .type "type") && (decide (D = C) && (decide (nw = "ValueError.__new__") && (!cd.hasDel && (cd.hasDict && PySem.HandSPX.refsVE bm))))
      | _, _ => false)
    | _ => false)
  | none => false) && (eqO (PySem.W.findIn K (.ref C) "__setattr__") (some (some (.builtin "object.__setattr__"))) && (decide (PySem.W.subIn K (.ref C) (.type "BaseException") = some true) && (decide (PySem.W.typeIn K (.ref C) = some (.type "type")) && PySem.W.keepIn K (.ref C))))
theorem oexB_ok {K : PySem.W.Frag} {C : Addr} (h : oexB K C = true) : OexC K C := by
  obtain ⟨h1, h⟩ := ba h
  obtain ⟨h2, h⟩ := ba h
  obtain ⟨h3, h⟩ := ba h
  obtain ⟨h4, h5⟩ := ba h
  refine ⟨?_, eqO_ok h2, of_decide_eq_true h3, of_decide_eq_true h4, h5⟩
  split at h1
  · rename_i ob eo
    split at h1
    · rename_i cd ed
      split at h1
      · rename_i D bm k0 k1 k2 k3 nw k5 em es
        obtain ⟨a1, h1⟩ := ba h1
        obtain ⟨a2, h1⟩ := ba h1
        obtain ⟨a3, h1⟩ := ba h1
        obtain ⟨a4, h1⟩ := ba h1
        obtain ⟨a5, a6⟩ := ba h1
        have a1 := of_decide_eq_true a1
        have a2 := of_decide_eq_true a2
        have a3 := of_decide_eq_true a3
        rcases ob with ⟨oc, od, odt, osl⟩
        rcases cd with ⟨c1, c2, c3, c4, c5, c6, c7, c8, c9, c10, c11⟩
        simp only at a1 ed em es a4 a5
        subst a1 a2 a3 ed em
        have a4 : c11 = false := by simpa using a4
        subst a4 a5
        have e : osl = #[k0, k1, k2, k3, some (.builtin "ValueError.__new__"), k5] := by
          rcases osl with ⟨l⟩
          simp only at es
          rw [es]
        subst e
        exact ⟨_, _, _, _, _, _, _, _, _, _, _, _, _, _, _, eo, a6⟩
      · cases h1
    · cases h1
  · cases h1
def iniA (K : PySem.W.Frag) (C : Addr) : Addr := He.ma K C "__init__"
def oxB (K : PySem.W.Frag) (C B : Addr) : Bool := oexB K C && (eqO (PySem.W.findIn K (.ref C) "__init__") (some (some (.ref (iniA K B)))) && decide (PySem.W.typeIn K (.ref (iniA K B)) = some (.type "function")))
theorem oxB_ok {K : PySem.W.Frag} {C B : Addr} (h : oxB K C B = true) : OexC K C ∧ PySem.W.findIn K (.ref C) "__init__" = some (some (.ref (iniA K B))) ∧ PySem.W.typeIn K (.ref (iniA K B)) = some (.type "function") := by
  obtain ⟨h1, h⟩ := ba h
  obtain ⟨h2, h3⟩ := ba h
  exact ⟨oexB_ok h1, eqO_ok h2, of_decide_eq_true h3⟩
def xfoB (K : PySem.W.Frag) (C : Addr) (f : Str) : Bool := xfB K C && eqO (PySem.W.findIn K (.ref C) f) (some none)
theorem xfoB_ok {K : PySem.W.Frag} {C : Addr} {f : Str} (h : xfoB K C f = true) : U.XfOk K C f := ⟨xfB_ok (ba h).1, eqO_ok (ba h).2⟩
def noB (K : PySem.W.Frag) (C : Addr) (f : Str) : Bool := eqO (PySem.W.findIn K (.ref C) f) (some none)
theorem noB_ok {K : PySem.W.Frag} {C : Addr} {f : Str} (h : noB K C f = true) : PySem.W.findIn K (.ref C) f = some none := eqO_ok h
def ww (w : World) (b : Bool) : World := { w with params := { w.params with followText := fun r => match r == "special-get-raises" with | true => b | false => w.params.followText r } }
theorem wwe (w : World) (b : Bool) (h : w.params.followText "special-get-raises" = b) : ww w b = w := by
  subst h
  obtain ⟨dr, pr⟩ := w
  unfold ww
  congr 1
  cases pr
  simp only
  congr 1
  funext r
  cases e : r == "special-get-raises" with
  | true => rw [beq_iff_eq.mp e]
  | false => rfl
end Hd
end

section
namespace U
open PySem PySem.Spec PyProof.Rows L2
theorem tyV_non {H : Hp} : tyV H .non = some .non := rfl
theorem tyV_bl {H : Hp} {b : Bool} : tyV H (.bl b) = some .bl := rfl
theorem tyV_int {H : Hp} {i : Int} : tyV H (.int i) = some .int := rfl
theorem tyV_str {H : Hp} {z : Str} : tyV H (.str z) = some .str := rfl
theorem tyV_ref {H : Hp} {p : Addr} : tyV H (.ref p) = match H p with
    | some (.lst _) => some .lst
    | some (.tup _) => some .tup
    | some (.dK _) => some .dict
    | some (.dT _) => some .dict
    | _ => none := rfl
theorem tyRef {H : Hp} {p : Addr} (h : (tyV H (.ref p)).isSome = true) : ∃ t, tyV H (.ref p) = some t ∧ t.isa .str = false ∧ t.isa .int = false ∧ t.isa .bl = false := by
  rw [tyV_ref] at h ⊢
  split at h
  · exact ⟨_, rfl, rfl, rfl, rfl⟩
  · exact ⟨_, rfl, rfl, rfl, rfl⟩
  · exact ⟨_, rfl, rfl, rfl, rfl⟩
  · exact ⟨_, rfl, rfl, rfl, rfl⟩
  · cases h
theorem atI_at {xs : List V} {j : Nat} {v : V} (h : xs[j]? = some v) : atI xs (j : Int) = some v := atI_nat h
theorem atI_0 {x : V} {l : List V} : atI (x :: l) 0 = some x := atI_nat (j := 0) rfl
theorem atI_1 {x y : V} {l : List V} : atI (x :: y :: l) 1 = some y := atI_nat (j := 1) rfl
theorem atI_2 {x y z : V} {l : List V} : atI (x :: y :: z :: l) 2 = some z := atI_nat (j := 2) rfl
theorem atI_3 {x y z u : V} {l : List V} : atI (x :: y :: z :: u :: l) 3 = some u := atI_nat (j := 3) rfl
theorem natc : ((0 : Nat) : Int) = 0 ∧ ((1 : Nat) : Int) = 1 ∧ ((2 : Nat) : Int) = 2 ∧ ((3 : Nat) : Int) = 3 ∧ ((4 : Nat) : Int) = 4 ∧ ((5 : Nat) : Int) = 5 ∧ ((6 : Nat) : Int) = 6 ∧ ((7 : Nat) : Int) = 7 ∧ ((8 : Nat) : Int) = 8 ∧ ((9 : Nat) : Int) = 9 ∧ ((10 : Nat) : Int) = 10 ∧ ((11 : Nat) : Int) = 11 ∧ ((12 : Nat) : Int) = 12 ∧ ((13 : Nat) : Int) = 13 ∧ ((14 : Nat) : Int) = 14 ∧ ((15 : Nat) : Int) = 15 ∧ ((16 : Nat) : Int) = 16 ∧ ((17 : Nat) : Int) = 17 ∧ ((18 : Nat) : Int) = 18 ∧ ((19 : Nat) : Int) = 19 ∧ ((20 : Nat) : Int) = 20 ∧ ((21 : Nat) : Int) = 21 ∧ ((22 : Nat) : Int) = 22 ∧ ((23 : Nat) : Int) = 23 ∧ ((24 : Nat) : Int) = 24 ∧ ((25 : Nat) : Int) = 25 ∧ ((26 : Nat) : Int) = 26 ∧ ((27 : Nat) : Int) = 27 ∧ ((28 : Nat) : Int) = 28 ∧ ((29 : Nat) : Int) = 29 ∧ ((30 : Nat) : Int) = 30 := by decide
theorem ixN_lit : ixN 4 0 = some 0 ∧ ixN 4 1 = some 1 ∧ ixN 4 2 = some 2 ∧ ixN 4 3 = some 3 := by decide
theorem inV_int2 : inV (.int 0) [.int 1, .int 2] = false ∧ inV (.int 1) [.int 1, .int 2] = true ∧ inV (.int 2) [.int 1, .int 2] = true := ⟨rfl, rfl, rfl⟩
theorem scal_tab : (∀ a b, scal (.int a) (.int b) = true) ∧ (∀ a b, scal (.str a) (.str b) = true) ∧ (∀ a b, scal (.bl a) (.bl b) = true) ∧ (∀ a b, scal (.int a) (.str b) = true) ∧ (∀ a b, scal (.str a) (.int b) = true) ∧ scal .non .non = true ∧
  (∀ a, scal .non (.str a) = true) ∧ (∀ a, scal .non (.int a) = true) ∧ (∀ a, scal (.str a) .non = true) ∧ (∀ a, scal (.int a) .non = true) ∧ (∀ a b, scal (.str a) (.bl b) = true) ∧ (∀ a b, scal (.bl a) (.str b) = true) := ⟨fun _ _ => rfl, fun _ _ => rfl, fun _ _ => rfl, fun _ _ => rfl, fun _ _ => rfl, rfl, fun _ => rfl, fun _ => rfl, fun _ => rfl, fun _ => rfl, fun _ _ => rfl, fun _ _ => rfl⟩
theorem flat_tab : (∀ a, flatV (.int a) = true) ∧ (∀ a, flatV (.str a) = true) ∧ (∀ a, flatV (.bl a) = true) ∧ flatV .non = true := ⟨fun _ => rfl, fun _ => rfl, fun _ => rfl, rfl⟩
theorem map_toNat_inj : ∀ {l m : List Char}, l.map Char.toNat = m.map Char.toNat → l = m
  | [], [], _ => rfl
  | [], _ :: _, h => by cases h
  | _ :: _, [], h => by cases h
  | c :: l, d :: m, h => by
    rw [List.map_cons, List.map_cons, List.cons.injEq] at h
    rw [map_toNat_inj h.2, Char.ext (UInt32.toNat_inj.mp h.1)]
theorem ofs_inj {a b : String} : (Str.ofString a = Str.ofString b) = (a = b) := propext ⟨fun h => by
    have h1 : TL.tl (Str.ofString a) = TL.tl (Str.ofString b) := by rw [h]
    rw [TL.tl_ofString, TL.tl_ofString] at h1
    exact String.toList_inj.mp (map_toNat_inj h1), fun h => by rw [h]⟩
theorem optEx {α : Type} {a : α} {P : α → Prop} : (∃ v, some a = some v ∧ P v) = P a := by simp
local macro_rules | `(tactic| k_subL) => `(tactic| simp only [tSeq, tIfS, tOr, tAnd, tNot, tB, tCB, tCons, tNil, tC, uVar, tRet, tNext, tTest, tOp, tChain, tAsg, gName, gSub, tDrop, tTup, tLst, tSl, tNoPart, uPart, tUn, rU, tAndV, tOrV, tNotV, uTru, rTruU, uCall, tBM, tBM0,
  rIsi, tyV_non, tyV_bl, tyV_int, tyV_str, Ty.name, isa_tab, rInt, rIntC, rLenU, rLeU, rLtU, rGeU, rGtU, rAddU, rAddI, rAddS, rAddL, rAddT, rSubU, rMulI, rDivU, rModU, rPowU, rEqS, rNeS, rIxU, rInU, rInG, rIntCall, rListU, rTupleU, rIsNU, rNotNU, rSlU, tYes, wipe, rSetU, ixN_lit, rAppend, atI_0, atI_1, atI_2, atI_3, Option.some.injEq, List.length_cons, List.length_nil, Nat.zero_add, Nat.reduceAdd, natc, Int.reduceLE, Int.reduceLT, Int.reduceEq, Int.reduceSub, Int.reduceAdd, Int.reduceNeg, decide_true, decide_false, Bool.false_xor, Bool.true_xor, scal_tab, flat_tab, inV_int2, List.all_cons, List.all_nil, Bool.and_self, Bool.and_true, Bool.true_and, ofs_inj, String.reduceEq, for_U, for_R1, for_R2, lc_U, lc_R1, lc_R2,
  List.cons.injEq, and_true, true_and, and_self, V.ty.injEq, V.bl.injEq, V.int.injEq, V.str.injEq, V.ref.injEq, List.nil_append, List.append_nil, List.cons_append, exists_const,
  List.getElem?_cons_zero, List.getElem?_cons_succ, List.set_cons_zero, List.set_cons_succ, exists_eq_left', exists_eq_left, Bool.not_true, Bool.not_false, if_true, if_false, Bool.false_eq_true, Bool.true_eq_false, reduceCtorEq, exists_and_left, exists_eq_right', *])
local macro_rules | `(tactic| k_clsL) => `(tactic| simp only [seqAt, tyV_ref, tSeq, tIfS, tOr, tAnd, tNot, tB, tCB, tCons, tNil, tC, uVar, tRet, tNext, tTest, tOp, tChain, tAsg, gName, gSub, tDrop, tTup, tLst, tSl, tNoPart, uPart, tUn, rU, tAndV, tOrV, tNotV, uTru, rTruU, uCall, tBM, tBM0,
  rIsi, tyV_non, tyV_bl, tyV_int, tyV_str, Ty.name, isa_tab, rInt, rIntC, rLenU, rLeU, rLtU, rGeU, rGtU, rAddU, rAddI, rAddS, rAddL, rAddT, rSubU, rMulI, rDivU, rModU, rPowU, rEqS, rNeS, rIxU, rInU, rInG, rIntCall, rListU, rTupleU, rIsNU, rNotNU, rSlU, tYes, wipe, rSetU, ixN_lit, rAppend, atI_0, atI_1, atI_2, atI_3, Option.some.injEq, List.length_cons, List.length_nil, Nat.zero_add, Nat.reduceAdd, natc, Int.reduceLE, Int.reduceLT, Int.reduceEq, Int.reduceSub, Int.reduceAdd, Int.reduceNeg, decide_true, decide_false, Bool.false_xor, Bool.true_xor, scal_tab, flat_tab, inV_int2, List.all_cons, List.all_nil, Bool.and_self, Bool.and_true, Bool.true_and, ofs_inj, String.reduceEq, for_U, for_R1, for_R2, lc_U, lc_R1, lc_R2,
  List.cons.injEq, and_true, true_and, and_self, V.ty.injEq, V.bl.injEq, V.int.injEq, V.str.injEq, V.ref.injEq, List.nil_append, List.append_nil, List.cons_append, exists_const,
  List.getElem?_cons_zero, List.getElem?_cons_succ, List.set_cons_zero, List.set_cons_succ, exists_eq_left', exists_eq_left, Bool.not_true, Bool.not_false, if_true, if_false, Bool.false_eq_true, Bool.true_eq_false, reduceCtorEq, exists_and_left, exists_eq_right', *])

local macro_rules | `(tactic| tbr_iter $fs) => `(tactic| simp only [seqAt, tyV_ref, tSeq, tIfS, tOr, tAnd, tNot, tB, tCB, tCons, tNil, tC, uVar, tRet, tNext, tTest, tOp, tChain, tAsg, gName, gSub, tDrop, tTup, tLst, tSl, tNoPart, uPart, tUn, rU, tAndV, tOrV, tNotV, uTru, rTruU, uCall, tBM, tBM0,
  rIsi, tyV_non, tyV_bl, tyV_int, tyV_str, Ty.name, isa_tab, rInt, rIntC, rLenU, rLeU, rLtU, rGeU, rGtU, rAddU, rAddI, rAddS, rAddL, rAddT, rSubU, rMulI, rDivU, rModU, rPowU, rEqS, rNeS, rIxU, rInU, rInG, rIntCall, rListU, rTupleU, rIsNU, rNotNU, rSlU, tYes, wipe, rSetU, ixN_lit, rAppend, atI_0, atI_1, atI_2, atI_3, Option.some.injEq, List.length_cons, List.length_nil, Nat.zero_add, Nat.reduceAdd, natc, Int.reduceLE, Int.reduceLT, Int.reduceEq, Int.reduceSub, Int.reduceAdd, Int.reduceNeg, decide_true, decide_false, Bool.false_xor, Bool.true_xor, scal_tab, flat_tab, inV_int2, List.all_cons, List.all_nil, Bool.and_self, Bool.and_true, Bool.true_and, ofs_inj, String.reduceEq, for_U, for_R1, for_R2, lc_U, lc_R1, lc_R2,
  List.cons.injEq, and_true, true_and, and_self, V.ty.injEq, V.bl.injEq, V.int.injEq, V.str.injEq, V.ref.injEq, List.nil_append, List.append_nil, List.cons_append, exists_const,
  List.getElem?_cons_zero, List.getElem?_cons_succ, List.set_cons_zero, List.set_cons_succ, exists_eq_left', exists_eq_left, Bool.not_true, Bool.not_false, if_true, if_false, Bool.false_eq_true, Bool.true_eq_false, reduceCtorEq, exists_and_left, exists_eq_right', $fs:term])

theorem seq_by {t u : TS} {D : Ends} {σ : L2.St} {H : Hp} (M : L2.St → Hp → Prop) (h1 : ∀ nx : L2.St → Hp → Prop, (∀ σ' H', M σ' H' → nx σ' H') → t { D with nx := nx } σ H) (h2 : ∀ σ' H', M σ' H' → u D σ' H') : tSeq t u D σ H := h1 _ h2
theorem upd_old {H : Hp} {p a : Addr} {o u : HO} (hp : H p = none) (ha : H a = some u) : upd H p o a = some u := by rw [upd_ne (ne_of_none ha hp)]; exact ha
theorem same_new {H H' : Hp} {p : Addr} {o : HO} (k : L2.Same H H') (hp : H' p = none) : L2.Same H (upd H' p o) := fun b u e => upd_old hp (k b u e)

def isMarkS (z : Str) : Bool := decide (1 ≤ z.length) && decide (z.length ≤ 8) && z.cps.toList.all fun c => decide (c ∈ (Str.ofString "abcdefghijklmnopqrstuvwxyz").cps.toList)
def isMarkV : V → Bool
  | .str z => isMarkS z
  | _ => false
def strOk : V → Prop
  | .str z => z.length ≤ sizeLine
  | _ => True
def t_is_mark (K : PySem.W.Frag) : TS :=
  (tSeq (tIfS (tOr (tNot (uTru (tCB (rIsi .str) (tCons (uVar 0) (tCons (tC (.ty "str")) tNil))))) (tNot (tTest (tChain rLeU rLeU (tC (.int 1)) (tCB rLenU (tCons (uVar 0) tNil)) (tC (.int 8)))))) (tRet (tC (.bl false))) tNext)
  (tSeq (tFor (iU K (uVar 0)) (gName 1) (tIfS (tTest (tOp (rInU true) (uVar 1) (tC (.str "abcdefghijklmnopqrstuvwxyz")))) (tRet (tC (.bl false))) tNext))
  (tRet (tC (.bl true)))))
def sp_is_mark (K : PySem.W.Frag) : Sp := fun vs H Q _ => ∃ v, vs = [v] ∧ (tyV H v).isSome = true ∧ strOk v ∧ Q (.bl (isMarkV v)) H
theorem len_is_mark {K : PySem.W.Frag} : ∀ vs H Q E, sp_is_mark K vs H Q E → vs.length = 1 := fun _ _ _ _ ⟨_, e, _⟩ => by rw [e]; rfl
theorem pure_is_mark {K : PySem.W.Frag} (vs : List V) (H : Hp) (Q : VK) (E : XK) (h : sp_is_mark K vs H Q E) : t_is_mark K { nx := fun _ H' => Q .non H', rt := Q } (start ["value", "letter"] vs) H := by
  obtain ⟨v, rfl, ht, hz, q⟩ := h
  unfold t_is_mark
  show tSeq _ _ _ [some v, none] H
  cases v with
  | str z =>
    have hz : z.length ≤ sizeLine := hz
    have q : Q (.bl (isMarkS z)) H := q
    k_subL
    have n1 : ¬ (1 ≤ z.length ∧ z.length ≤ 8) → isMarkS z = false := fun h => by
      unfold isMarkS
      by_cases h1 : 1 ≤ z.length
      · have h2 : ¬ z.length ≤ 8 := fun x => h ⟨h1, x⟩
        simp [h2]
      · simp [h1]
    refine ite2 (fun h1 => ite2 (fun h2 => ?_) fun h2 => ?_) fun h1 => ?_
    · rw [n1 (by simp at h1 h2; omega)] at q
      exact q
    · have h1 : 1 ≤ z.length := by simp at h1; omega
      have h2 : z.length ≤ 8 := by simp at h2; omega
      have e : isMarkS z = z.cps.toList.all fun c => decide (c ∈ (Str.ofString "abcdefghijklmnopqrstuvwxyz").cps.toList) := by
        unfold isMarkS
        rw [decide_eq_true h1, decide_eq_true h2]
        rfl
      rw [e] at q
      refine loop_str (fun i σ H' => H' = H ∧ (∃ y, σ = [some (.str z), y]) ∧ ∀ j c, j < i → z.cps[j]? = some c → c ∈ (Str.ofString "abcdefghijklmnopqrstuvwxyz").cps.toList) ⟨rfl, ⟨_, rfl⟩, fun j c hj => absurd hj (Nat.not_lt_zero _)⟩ (fun i c σ H' hc ⟨e1, ⟨y, e2⟩, p⟩ => ?_) (fun σ H' ⟨e1, ⟨y, e2⟩, p⟩ => ?_)
      · subst e1 e2
        k_subL
        refine ⟨c, rfl, ite2 (fun hn => ?_) fun hn => ⟨⟨_, rfl⟩, fun j c' hj hc' => ?_⟩⟩
        · have : (z.cps.toList.all fun c => decide (c ∈ (Str.ofString "abcdefghijklmnopqrstuvwxyz").cps.toList)) = false := by
            rw [List.all_eq_false]
            exact ⟨c, List.mem_of_getElem? (by simpa using hc), by simpa using hn⟩
          rw [this] at q
          exact q
        · by_cases hj2 : j = i
          · subst hj2
            rw [hc] at hc'
            cases hc'
            simpa using hn
          · exact p j c' (by omega) hc'
      · subst e1 e2
        k_subL
        have : (z.cps.toList.all fun c => decide (c ∈ (Str.ofString "abcdefghijklmnopqrstuvwxyz").cps.toList)) = true := by
          rw [List.all_eq_true]
          intro c hc
          obtain ⟨j, hj⟩ := List.getElem?_of_mem hc
          have hj' : z.cps[j]? = some c := by simpa using hj
          exact decide_eq_true (p j c (by have := (Array.getElem?_eq_some_iff.mp hj').1; exact this) hj')
        rw [this] at q
        exact q
    · rw [n1 (by simp at h1; omega)] at q
      exact q
  | ref p =>
    obtain ⟨t, ht, h1, h2, h3⟩ := tyRef ht
    k_subL
    exact q
  | byt _ => cases ht
  | flt _ => cases ht
  | ty _ => cases ht
  | _ => k_subL; exact q
def t_in_range (K : PySem.W.Frag) : TS :=
  (tRet (tAndV (tCB (rIsi .int) (tCons (uVar 0) (tCons (tC (.ty "int")) tNil))) (tAndV (tNotV (tCB (rIsi .bl) (tCons (uVar 0) (tCons (tC (.ty "bool")) tNil)))) (tChain rLeU rLeU (tC (.int 0)) (uVar 0) (uVar 1)))))
def inRangeV : V → Int → Bool
  | .int i, g => decide (0 ≤ i) && decide (i ≤ g)
  | _, _ => false
def sp_in_range (K : PySem.W.Frag) : Sp := fun vs H Q _ => ∃ (v : V) (g : Int), vs = [v, .int g] ∧ (tyV H v).isSome = true ∧ Q (.bl (inRangeV v g)) H
theorem len_in_range {K : PySem.W.Frag} : ∀ vs H Q E, sp_in_range K vs H Q E → vs.length = 2 := fun _ _ _ _ ⟨_, _, e, _⟩ => by rw [e]; rfl
theorem pure_in_range {K : PySem.W.Frag} (vs : List V) (H : Hp) (Q : VK) (E : XK) (h : sp_in_range K vs H Q E) : t_in_range K { nx := fun _ H' => Q .non H', rt := Q } (start ["value", "greatest"] vs) H := by
  obtain ⟨v, g, rfl, ht, q⟩ := h
  unfold t_in_range
  show tRet _ _ [some v, some (.int g)] H
  cases v with
  | int i =>
    k_subL
    have q : Q (.bl (decide (0 ≤ i) && decide (i ≤ g))) H := q
    refine ite2 (fun h1 => ?_) fun h1 => ?_
    · rw [h1] at q
      exact q
    · rw [Bool.not_eq_true] at h1
      rw [h1] at q
      exact q
  | ref p =>
    obtain ⟨t, ht, h1, h2, h3⟩ := tyRef ht
    k_subL
    exact q
  | byt _ => cases ht
  | flt _ => cases ht
  | ty _ => cases ht
  | _ => k_subL; exact q

def inStrs (w : Str) (l : List Str) : Bool := inV (.str w) (l.map V.str)
def isBasicT : List V → Bool
  | [.str w] => inV (.str w) [.str "drop", .str "emit", .str "same", .str "differ"]
  | [.str w, x] => if inV (.str w) [.str "pick", .str "roll"] then inRangeV x 23 else if inV (.str w) [.str "keep", .str "load"] then inRangeV x 3 else inV (.str w) [.str "push", .str "expect"] && isMarkV x
  | _ => false
def isBasicV (H : Hp) : V → Bool
  | .ref p => match H p with
    | some (.tup xs) => isBasicT xs
    | _ => false
  | _ => false
def okV (H : Hp) (v : V) : Prop := (tyV H v).isSome = true ∧ strOk v
def okT (H : Hp) (v : V) : Prop := okV H v ∧ ∀ p xs, v = .ref p → H p = some (.tup xs) → ∀ x ∈ xs, okV H x
theorem not_str {H : Hp} {x : V} {R : Prop} {F : Ty → Prop} (hx : okV H x) (hs : ∀ w, x ≠ .str w) (r : R) (hF : ∀ t, t.isa .str = false → (F t = R)) : (match tyV H x with | some t => F t | none => False) := by
  cases x with
  | str w => exact absurd rfl (hs w)
  | ref p' =>
    obtain ⟨t, ht, h1, h2, h3⟩ := tyRef hx.1
    rw [ht]
    show F t
    rw [hF t h1]
    exact r
  | non => exact (show F .non from cast (hF .non rfl).symm r)
  | bl _ => exact (show F .bl from cast (hF .bl rfl).symm r)
  | int _ => exact (show F .int from cast (hF .int rfl).symm r)
  | byt _ => cases hx.1
  | flt _ => cases hx.1
  | ty _ => cases hx.1
theorem inV_str2 (w a b : Str) : inV (.str w) [.str a, .str b] = (decide (w = a) || decide (w = b)) := by
  have e : inV (.str w) [.str a, .str b] = (eqV (.str a) (.str w) || (eqV (.str b) (.str w) || false)) := rfl
  rw [e, Bool.or_false]
  have k : ∀ a : Str, eqV (.str a) (.str w) = decide (w = a) := fun a => by
    show (a == w) = _
    by_cases h : w = a
    · subst h
      rw [decide_eq_true rfl]
      exact beq_self_eq_true _
    · rw [decide_eq_false h]
      exact beq_eq_false_iff_ne.mpr fun e => h e.symm
  rw [k, k]
theorem okV_same {H H' : Hp} {v : V} (k : L2.Same H H') (h : okV H v) : okV H' v := by
  refine ⟨?_, h.2⟩
  have h := h.1
  cases v with
  | ref p =>
    rw [tyV_ref] at h ⊢
    split at h
    · rename_i e; rw [k _ _ e]; rfl
    · rename_i e; rw [k _ _ e]; rfl
    · rename_i e; rw [k _ _ e]; rfl
    · rename_i e; rw [k _ _ e]; rfl
    · cases h
  | _ => exact h
def t_is_basic (K : PySem.W.Frag) (a_PLAIN : Addr) (a_DEPTHS : Addr) (a_STORES : Addr) (a_MARKED : Addr) : TS :=
  (tSeq (tIfS (tOr (tNot (uTru (tCB (rIsi .tup) (tCons (uVar 0) (tCons (tC (.ty "tuple")) tNil))))) (tOr (tNot (tTest (tChain rLeU rLeU (tC (.int 1)) (tCB rLenU (tCons (uVar 0) tNil)) (tC (.int 2))))) (tNot (uTru (tCB (rIsi .str) (tCons (tOp rIxU (uVar 0) (tC (.int 0))) (tCons (tC (.ty "str")) tNil))))))) (tRet (tC (.bl false))) tNext)
  (tSeq (tAsg (tOp rIxU (uVar 0) (tC (.int 0))) (gName 1))
  (tSeq (tIfS (tTest (tOp rEqS (tCB rLenU (tCons (uVar 0) tNil)) (tC (.int 1)))) (tRet (tOp (rInG a_PLAIN [.str "drop", .str "emit", .str "same", .str "differ"] false) (uVar 1) (tC (.ref a_PLAIN)))) tNext)
  (tSeq (tIfS (tTest (tOp (rInG a_DEPTHS [.str "pick", .str "roll"] false) (uVar 1) (tC (.ref a_DEPTHS)))) (tRet (uCall (sp_in_range K) [] E0 (tCons (tOp rIxU (uVar 0) (tC (.int 1))) (tCons (tOp rSubU (tC (.int 24)) (tC (.int 1))) tNil)))) tNext)
  (tSeq (tIfS (tTest (tOp (rInG a_STORES [.str "keep", .str "load"] false) (uVar 1) (tC (.ref a_STORES)))) (tRet (uCall (sp_in_range K) [] E0 (tCons (tOp rIxU (uVar 0) (tC (.int 1))) (tCons (tOp rSubU (tC (.int 4)) (tC (.int 1))) tNil)))) tNext)
  (tRet (tAndV (tOp (rInG a_MARKED [.str "push", .str "expect"] false) (uVar 1) (tC (.ref a_MARKED))) (uCall (sp_is_mark K) [] E0 (tCons (tOp rIxU (uVar 0) (tC (.int 1))) tNil)))))))))
def sp_is_basic (K : PySem.W.Frag) : Sp := fun vs H Q _ => ∃ v, vs = [v] ∧ okT H v ∧ Q (.bl (isBasicV H v)) H
theorem len_is_basic {K : PySem.W.Frag} : ∀ vs H Q E, sp_is_basic K vs H Q E → vs.length = 1 := fun _ _ _ _ ⟨_, e, _⟩ => by rw [e]; rfl
theorem pure_is_basic {K : PySem.W.Frag} {a1 a2 a3 a4 : Addr} (vs : List V) (H : Hp) (Q : VK) (E : XK) (h : sp_is_basic K vs H Q E) : t_is_basic K a1 a2 a3 a4 { nx := fun _ H' => Q .non H', rt := Q } (start ["value", "word"] vs) H := by
  obtain ⟨v, rfl, ⟨⟨ht, hz⟩, hi⟩, q⟩ := h
  unfold t_is_basic
  show tSeq _ _ _ [some v, none] H
  cases v with
  | ref p =>
    rw [tyV_ref] at ht
    split at ht
    · rename_i xs e
      have q : Q (.bl false) H := by simpa only [isBasicV, e] using q
      k_clsL
    · rename_i xs e
      have q : Q (.bl (isBasicT xs)) H := by simpa only [isBasicV, e] using q
      have hi := hi p xs rfl e
      clear ht
      have nots : ∀ (x : V) (R : Prop) (F : Ty → Prop), okV H x → (∀ w, x ≠ .str w) → R → (∀ t, t.isa .str = false → (F t = R)) → (match tyV H x with | some t => F t | none => False) := fun x R F hx hs r hF => by
        cases x with
        | str w => exact absurd rfl (hs w)
        | ref p' =>
          obtain ⟨t, ht, h1, h2, h3⟩ := tyRef hx.1
          rw [ht]
          show F t
          rw [hF t h1]
          exact r
        | non => exact (show F .non from cast (hF .non rfl).symm r)
        | bl _ => exact (show F .bl from cast (hF .bl rfl).symm r)
        | int _ => exact (show F .int from cast (hF .int rfl).symm r)
        | byt _ => cases hx.1
        | flt _ => cases hx.1
        | ty _ => cases hx.1
      rcases xs with _ | ⟨x, _ | ⟨y, _ | ⟨z, r⟩⟩⟩
      · k_clsL
        exact q
      · have hx := hi x (by simp)
        k_clsL
        by_cases hs : ∃ w, x = .str w
        · obtain ⟨w, rfl⟩ := hs
          k_clsL
          exact q
        · have hs : ∀ w, x ≠ .str w := fun w e => hs ⟨w, e⟩
          refine nots x _ _ hx hs (show Q (.bl false) H from ?_) fun t h => by rw [h]; rfl
          have e : isBasicT [x] = false := by cases x <;> first | rfl | exact absurd rfl (hs _)
          rw [e] at q
          exact q
      · have hx := hi x (by simp)
        have hy := hi y (by simp)
        k_clsL
        by_cases hs : ∃ w, x = .str w
        · obtain ⟨w, rfl⟩ := hs
          k_clsL
          refine ite2 (fun h => ?_) fun h => ite2 (fun h2 => ?_) fun h2 => ite2 (fun h3 => ?_) fun h3 => ?_
          · refine ⟨_, _, rfl, hy.1, ?_⟩
            simpa only [isBasicT, h, if_true] using q
          · refine ⟨_, _, rfl, hy.1, ?_⟩
            simpa only [isBasicT, h, h2, if_true, if_false, Bool.false_eq_true] using q
          · refine ⟨_, rfl, hy.1, hy.2, ?_⟩
            simpa only [isBasicT, h, h2, h3, if_true, if_false, Bool.true_and, Bool.false_eq_true] using q
          · simpa only [isBasicT, h, h2, h3, if_true, if_false, Bool.false_and, Bool.false_eq_true] using q
        · have hs : ∀ w, x ≠ .str w := fun w e => hs ⟨w, e⟩
          refine nots x _ _ hx hs (show Q (.bl false) H from ?_) fun t h => by rw [h]; rfl
          have e : isBasicT [x, y] = false := by cases x <;> first | rfl | exact absurd rfl (hs _)
          rw [e] at q
          exact q
      · have e1 : isBasicT (x :: y :: z :: r) = false := by cases x <;> rfl
        rw [e1] at q
        have l1 : (1 : Int) ≤ ((r.length + 1 + 1 + 1 : Nat) : Int) := by omega
        have l2 : ¬ ((r.length + 1 + 1 + 1 : Nat) : Int) ≤ 2 := by omega
        k_clsL
    · rename_i xs e
      have q : Q (.bl false) H := by simpa only [isBasicV, e] using q
      k_clsL
    · rename_i xs e
      have q : Q (.bl false) H := by simpa only [isBasicV, e] using q
      k_clsL
    · cases ht
  | byt _ => cases ht
  | flt _ => cases ht
  | ty _ => cases ht
  | _ => k_subL; exact q

def Keep (d : Addr) (H H' : Hp) : Prop := ∀ b, b ≠ d → H b ≠ none → H' b = H b
theorem Keep.refl (d : Addr) (H : Hp) : Keep d H H := fun _ _ _ => rfl
theorem Keep.trans {d : Addr} {H H1 H2 : Hp} (a : Keep d H H1) (b : Keep d H1 H2) : Keep d H H2 := fun c h1 h2 => (b c h1 (by rw [a c h1 h2]; exact h2)).trans (a c h1 h2)
theorem Keep.at {d b : Addr} {H H' : Hp} {o : HO} (a : Keep d H H') (h : b ≠ d) (e : H b = some o) : H' b = some o := (a b h (by rw [e]; exact fun z => nomatch z)).trans e
theorem Keep.upd {d : Addr} {H H' : Hp} {o : HO} (a : Keep d H H') : Keep d H (upd H' d o) := fun b h1 h2 => (upd_ne h1).trans (a b h1 h2)
theorem Keep.new {d p : Addr} {H H' : Hp} {o : HO} (a : Keep d H H') (h : H' p = none) : Keep d H (L2.upd H' p o) := fun b h1 h2 => by
  by_cases e : b = p
  · subst e
    exact absurd (by rw [← a b h1 h2]; exact h) h2
  · rw [upd_ne e]
    exact a b h1 h2
structure Dr where
  d : Addr
  L : Addr
def DrawsOk (H : Hp) (D : Dr) : Prop := ∃ (ns : List Int) (i a b : Int), H D.d = some (.lst [.ref D.L, .int i, .int a, .int b]) ∧ D.L ≠ D.d ∧ H D.L = some (.lst (ns.map V.int)) ∧ 0 ≤ i ∧ 0 ≤ a
theorem DrawsOk.some {H : Hp} {D : Dr} (h : DrawsOk H D) : H D.d ≠ none := by
  obtain ⟨ns, i, a, b, e, _⟩ := h
  rw [e]
  exact fun z => nomatch z
theorem DrawsOk.someL {H : Hp} {D : Dr} (h : DrawsOk H D) : H D.L ≠ none := by
  obtain ⟨ns, i, a, b, _, _, e, _⟩ := h
  rw [e]
  exact fun z => nomatch z
theorem DrawsOk.set {H : Hp} {D : Dr} {p : Addr} {o : HO} (h : DrawsOk H D) (h1 : p ≠ D.d) (h2 : p ≠ D.L) : DrawsOk (upd H p o) D := by
  obtain ⟨ns, i, a, b, e, hL, eL, h0, h3⟩ := h
  exact ⟨ns, i, a, b, by rw [upd_ne h1.symm]; exact e, hL, by rw [upd_ne h2.symm]; exact eL, h0, h3⟩
theorem DrawsOk.ne {H : Hp} {D : Dr} {p : Addr} (h : DrawsOk H D) (hp : H p = none) : p ≠ D.d := fun e => h.some (by rw [← e]; exact hp)
theorem DrawsOk.neL {H : Hp} {D : Dr} {p : Addr} (h : DrawsOk H D) (hp : H p = none) : p ≠ D.L := fun e => h.someL (by rw [← e]; exact hp)
theorem DrawsOk.new {H : Hp} {D : Dr} {p : Addr} {o : HO} (h : DrawsOk H D) (hp : H p = none) : DrawsOk (upd H p o) D := h.set (h.ne hp) (h.neL hp)
theorem New.draws {H H' : Hp} {p : Addr} {o : HO} {D : Dr} (n : New H p o H') (h : DrawsOk H D) : DrawsOk H' D := by rw [n.eq]; exact h.new n.fr
theorem New.keep {H0 H H' : Hp} {p d : Addr} {o : HO} (n : New H p o H') (k : Keep d H0 H) : Keep d H0 H' := by rw [n.eq]; exact k.new n.fr
theorem DrawsOk.other {H : Hp} {D : Dr} {p : Addr} {xs : List V} (h : DrawsOk H D) (e : H p = Option.some (.tup xs)) : p ≠ D.d := fun z => by
  obtain ⟨ns, i, a, b, e2, _⟩ := h
  rw [z, e2] at e
  cases e
theorem DrawsOk.same {H H' : Hp} {D : Dr} (h : DrawsOk H D) (s : L2.Same H H') : DrawsOk H' D := by
  obtain ⟨ns, i, a, b, e, hL, eL, h0, h3⟩ := h
  exact ⟨ns, i, a, b, s _ _ e, hL, s _ _ eL, h0, h3⟩
def t__law_begin (K : PySem.W.Frag) : TS :=
  (tRet (tLst (tCons (tCB (rListK K) (tCons (uVar 0) tNil)) (tCons (tC (.int 0)) (tCons (tC (.int 0)) (tCons (tC (.int 7)) tNil))))))
def sp__law_begin (K : PySem.W.Frag) : Sp := fun vs H Q _ => ∃ (a : Addr) (ns : List Int), vs = [.ref a] ∧ SqL K H a (ns.map V.int) ∧ ∀ (D : Dr) H', H D.d = none → DrawsOk H' D → (∀ b, H b ≠ none → H' b = H b) → Q (.ref D.d) H'
theorem len__law_begin {K : PySem.W.Frag} : ∀ vs H Q E, sp__law_begin K vs H Q E → vs.length = 1 := fun _ _ _ _ ⟨_, _, e, _⟩ => by rw [e]; rfl
theorem pure__law_begin {K : PySem.W.Frag} (vs : List V) (H : Hp) (Q : VK) (E : XK) (h : sp__law_begin K vs H Q E) : t__law_begin K { nx := fun _ H' => Q .non H', rt := Q } (start ["_law_script"] vs) H := by
  obtain ⟨a, ns, rfl, hs, q⟩ := h
  refine ⟨_, _, rfl, .inl hs, fun l hl => ⟨by show 4 ≤ sizeLine; decide, fun p hp => ?_⟩⟩
  have hp2 : p ≠ l := fun e => by rw [e, upd_same] at hp; cases hp
  have hpH : H p = none := by rw [upd_ne hp2] at hp; exact hp
  refine q ⟨p, l⟩ _ hpH ⟨ns, 0, 0, 7, upd_same, hp2.symm, by rw [upd_ne hp2.symm, upd_same], Int.le_refl _, Int.le_refl _⟩ fun b hb => ?_
  rw [upd_ne (fun e => hb (by rw [e]; exact hpH)), upd_ne (fun e => hb (by rw [e]; exact hl))]
def t__law_draw (K : PySem.W.Frag) : TS :=
  (tSeq (tIfS (tTest (tOp rEqS (tOp rIxU (uVar 0) (tC (.int 2))) (tC (.int 0)))) (tIfS (tTest (tOp rLtU (tOp rIxU (uVar 0) (tC (.int 1))) (tCB rLenU (tCons (tOp rIxU (uVar 0) (tC (.int 0))) tNil)))) (tSeq (tAsg (tOp rIxU (tOp rIxU (uVar 0) (tC (.int 0))) (tOp rIxU (uVar 0) (tC (.int 1)))) (gName 2))
  (tSeq (tAsg (tOp rAddI (tOp rIxU (uVar 0) (tC (.int 1))) (tC (.int 1))) (gSub (uVar 0) (tC (.int 1)) rSetU))
  (tIfS (tTest (tOp rGeU (uVar 2) (tOp rPowU (tC (.int 10)) (tC (.int 18))))) (tAsg (uVar 2) (gSub (uVar 0) (tC (.int 2)) rSetU)) (tAsg (tOp rModU (tCB rIntCall (tCons (tOp rAddI (tOp rAddI (tOp rMulI (tOp rIxU (uVar 0) (tC (.int 3))) (tC (.int 48271))) (tOp rMulI (uVar 2) (tC (.int 69621)))) (tC (.int 11))) tNil)) (tC (.int 2147483647))) (gSub (uVar 0) (tC (.int 3)) rSetU))))) (tAsg (tOp rModU (tCB rIntCall (tCons (tOp rAddI (tOp rMulI (tOp rIxU (uVar 0) (tC (.int 3))) (tC (.int 48271))) (tC (.int 7))) tNil)) (tC (.int 2147483647))) (gSub (uVar 0) (tC (.int 3)) rSetU))) tNext)
  (tSeq (tIfS (tTest (tOp rGtU (tOp rIxU (uVar 0) (tC (.int 2))) (tC (.int 0)))) (tSeq (tAsg (tOp rModU (tCB rIntCall (tCons (tOp rIxU (uVar 0) (tC (.int 2))) tNil)) (uVar 1)) (gName 3))
  (tSeq (tAsg (tOp rDivU (tOp rIxU (uVar 0) (tC (.int 2))) (uVar 1)) (gSub (uVar 0) (tC (.int 2)) rSetU))
  (tRet (uVar 3)))) tNext)
  (tRet (tOp rModU (tOp rModU (tCB rIntCall (tCons (tOp rMulI (tOp rIxU (uVar 0) (tC (.int 3))) (tC (.int 16807))) tNil)) (tC (.int 2147483629))) (uVar 1)))))
def sp__law_draw (K : PySem.W.Frag) : Sp := fun vs H Q _ => ∃ (D : Dr) (m : Int), vs = [.ref D.d, .int m] ∧ DrawsOk H D ∧ 0 < m ∧ m < 1073741824 ∧ ∀ r H', 0 ≤ r → r < m → DrawsOk H' D → Keep D.d H H' → Q (.int r) H'
theorem len__law_draw {K : PySem.W.Frag} : ∀ vs H Q E, sp__law_draw K vs H Q E → vs.length = 2 := fun _ _ _ _ ⟨_, _, e, _⟩ => by rw [e]; rfl
theorem pure__law_draw {K : PySem.W.Frag} (vs : List V) (H : Hp) (Q : VK) (E : XK) (h : sp__law_draw K vs H Q E) : t__law_draw K { nx := fun _ H' => Q .non H', rt := Q } (start ["_law_draws", "_law_many", "_law_cell", "_law_found"] vs) H := by
  obtain ⟨⟨d, L⟩, m, rfl, ⟨ns, i, a, b, e, hL, eL, h0, h1⟩, m0, m1, q⟩ := h
  have e : H d = some (.lst [.ref L, .int i, .int a, .int b]) := e
  have eL : H L = some (.lst (ns.map V.int)) := eL
  have hL : L ≠ d := hL
  unfold t__law_draw
  show tSeq _ _ _ [some (.ref d), some (.int m), none, none] H
  have cm : ∀ x : Int, CMul x 48271 := fun x => .inr ⟨by decide, by decide⟩
  have cm2 : ∀ x : Int, CMul x 16807 := fun x => .inr ⟨by decide, by decide⟩
  have cm3 : ∀ x : Int, CMul x 69621 := fun x => .inr ⟨by decide, by decide⟩
  have cd : ∀ x : Int, CDiv x m := fun x => ⟨m0, m1⟩
  have cp : CPow 10 18 := ⟨by decide, by decide, by decide⟩
  have mk : ∀ i a b : Int, 0 ≤ i → 0 ≤ a → DrawsOk (upd H d (.lst [.ref L, .int i, .int a, .int b])) ⟨d, L⟩ := fun i a b x y =>
    ⟨ns, i, a, b, upd_same, hL, by rw [upd_ne hL]; exact eL, x, y⟩
  have fin : ∀ (x i a b : Int), 0 ≤ i → 0 ≤ a → Q (.int (x % m)) (upd H d (.lst [.ref L, .int i, .int a, .int b])) := fun x i a b y z =>
    q _ _ (Int.emod_nonneg _ (by omega)) (Int.emod_lt_of_pos _ m0) (mk i a b y z) (Keep.refl d H).upd
  have fin0 : ∀ (x : Int), Q (.int (x % m)) H := fun x =>
    q _ _ (Int.emod_nonneg _ (by omega)) (Int.emod_lt_of_pos _ m0) ⟨ns, i, a, b, e, hL, eL, h0, h1⟩ (Keep.refl d H)
  have dn : ∀ x : Int, 0 ≤ x → 0 ≤ x / m := fun x h => Int.ediv_nonneg h (by omega)
  have fs := And.intro e (And.intro eL (And.intro (fun H o => (upd_ne hL : upd H d o L = H L)) (And.intro (fun H o => (upd_same : upd H d o d = some o)) (And.intro (fun H o u => (upd_upd : upd (upd H d o) d u = upd H d u)) (And.intro cm (And.intro cm2 (And.intro cm3 (And.intro cd (And.intro cp m0)))))))))
  by_cases hi : i < (ns.length : Int)
  · have hget : atI (ns.map V.int) i = some (.int (ns.getD i.toNat 0)) := by
      have hj : i.toNat < ns.length := by omega
      have e1 : (ns.map V.int)[i.toNat]? = some (.int (ns.getD i.toNat 0)) := by
        rw [List.getElem?_map, List.getElem?_eq_getElem hj, List.getD_eq_getElem?_getD, List.getElem?_eq_getElem hj]
        rfl
      have := atI_nat e1
      rwa [show ((i.toNat : Nat) : Int) = i by omega] at this
    have fs := And.intro hget fs
    tbr_iter fs
    generalize ns.getD i.toNat 0 = c
    have t18 : (0 : Int) ≤ 10 ^ Int.toNat 18 := by decide
    refine ite2 (fun _ => ite2 (fun _ => ite2 (fun hc => ?_) fun hc => ?_) fun _ => ?_) fun _ => ?_
    · have hc := of_decide_eq_true hc
      refine ite2 (fun _ => fin _ _ _ _ (by omega) (dn _ (by omega))) fun _ => fin _ _ _ _ (by omega) (by omega)
    · refine ite2 (fun _ => fin _ _ _ _ (by omega) (dn _ h1)) fun _ => fin _ _ _ _ (by omega) (by omega)
    · refine ite2 (fun _ => fin _ _ _ _ h0 (dn _ h1)) fun _ => fin _ _ _ _ h0 h1
    · refine ite2 (fun _ => fin _ _ _ _ h0 (dn _ h1)) fun _ => fin0 _
  · have hl : decide (i < (((ns.map V.int).length : Nat) : Int)) = false := by
      rw [List.length_map]
      exact decide_eq_false hi
    have fs := And.intro hl fs
    tbr_iter fs
    refine ite2 (fun _ => ?_) fun _ => ?_
    · refine ite2 (fun _ => fin _ _ _ _ h0 (dn _ h1)) fun _ => fin _ _ _ _ h0 h1
    · refine ite2 (fun _ => fin _ _ _ _ h0 (dn _ h1)) fun _ => fin0 _
def spGen (P : V → Hp → Prop) : Sp := fun vs H Q _ => ∃ D : Dr, vs = [.ref D.d] ∧ DrawsOk H D ∧ ∀ v H', P v H' → DrawsOk H' D → Keep D.d H H' → Q v H'
theorem use_draw {K : PySem.W.Frag} {H : Hp} {D : Dr} {m : Int} {Q : VK} {E : XK} (h : DrawsOk H D) (m0 : 0 < m) (m1 : m < 1073741824) (q : ∀ r H', 0 ≤ r → r < m → DrawsOk H' D → Keep D.d H H' → Q (.int r) H') : sp__law_draw K [.ref D.d, .int m] H Q E := ⟨D, m, rfl, h, m0, m1, q⟩
theorem use_gen {P : V → Hp → Prop} {H : Hp} {D : Dr} {Q : VK} {E : XK} (h : DrawsOk H D) (q : ∀ v H', P v H' → DrawsOk H' D → Keep D.d H H' → Q v H') : spGen P [.ref D.d] H Q E := ⟨D, rfl, h, q⟩
def t__law_mark (K : PySem.W.Frag) : TS :=
  (tSeq (tAsg (tLst (tCons (tC (.str "a")) (tCons (tC (.str "b")) (tCons (tC (.str "c")) (tCons (tC (.str "main")) (tCons (tC (.str "push")) (tCons (tC (.str "zz")) (tCons (tC (.str "ab")) (tCons (tC (.str "aaaaaaaa")) tNil))))))))) (gName 1))
  (tSeq (tAsg (uCall (sp__law_draw K) [] E0 (tCons (uVar 0) (tCons (tC (.int 10)) tNil))) (gName 2))
  (tSeq (tIfS (tTest (tOp rLtU (uVar 2) (tC (.int 8)))) (tRet (tOp rIxU (uVar 1) (uVar 2))) tNext)
  (tSeq (tAsg (tC (.str "abcdefghijklmnopqrstuvwxyz")) (gName 3))
  (tSeq (tAsg (tOp rAddI (tC (.int 1)) (uCall (sp__law_draw K) [] E0 (tCons (uVar 0) (tCons (tC (.int 8)) tNil)))) (gName 4))
  (tRet (tBM K "str" rJoinU (tC (.str "")) (tCons (tLc (iRng1 (tCons (uVar 4) tNil)) (gName 5) tYes (tOp rIxU (uVar 3) (uCall (sp__law_draw K) [] E0 (tCons (uVar 0) (tCons (tC (.int 26)) tNil)))) [5]) tNil))))))))
def sp__law_mark (K : PySem.W.Frag) : Sp := spGen fun v _ => ∃ z, v = .str z ∧ isMarkS z = true
theorem len_gen {P : V → Hp → Prop} : ∀ vs H Q E, spGen P vs H Q E → vs.length = 1 := fun _ _ _ _ ⟨_, e, _⟩ => by rw [e]; rfl
theorem pure__law_mark {K : PySem.W.Frag} (vs : List V) (H : Hp) (Q : VK) (E : XK) (h : sp__law_mark K vs H Q E) : t__law_mark K { nx := fun _ H' => Q .non H', rt := Q } (start ["_law_draws", "_law_forms", "_law_at", "_law_letters", "_law_size", "_law_k"] vs) H := by
  obtain ⟨Dw, rfl, hd, q⟩ := h
  unfold t__law_mark
  show tSeq _ _ _ [some (.ref Dw.d), none, none, none, none, none] H
  tbr_iter hd
  refine ⟨by decide, fun f hf => ?_⟩
  have hfd := hd.ne hf
  refine use_draw (hd.new hf) (by decide) (by decide) fun r H1 r0 r1 hd1 k1 => ?_
  have e1 := k1.at hfd upd_same
  have k1 : Keep Dw.d H H1 := ((Keep.refl Dw.d H).new hf).trans k1
  tbr_iter e1
  refine ite2 (fun h8 => ?_) fun _ => ?_
  · have h8 := of_decide_eq_true h8
    obtain ⟨j, rfl⟩ := Int.eq_ofNat_of_zero_le r0
    have hj : j < 8 := by omega
    have key : ∀ j : Nat, j < 8 → ∃ z, ([.str "a", .str "b", .str "c", .str "main", .str "push", .str "zz", .str "ab", .str "aaaaaaaa"] : List V)[j]? = some (.str z) ∧ isMarkS z = true := by
      intro j hj
      match j, hj with
      | 0, _ => exact ⟨_, rfl, by decide +kernel⟩
      | 1, _ => exact ⟨_, rfl, by decide +kernel⟩
      | 2, _ => exact ⟨_, rfl, by decide +kernel⟩
      | 3, _ => exact ⟨_, rfl, by decide +kernel⟩
      | 4, _ => exact ⟨_, rfl, by decide +kernel⟩
      | 5, _ => exact ⟨_, rfl, by decide +kernel⟩
      | 6, _ => exact ⟨_, rfl, by decide +kernel⟩
      | 7, _ => exact ⟨_, rfl, by decide +kernel⟩
      | n + 8, h => exact absurd h (by omega)
    obtain ⟨z, hz, hm⟩ := key j hj
    exact ⟨_, atI_nat hz, q _ _ ⟨z, rfl, hm⟩ hd1 k1⟩
  · refine use_draw hd1 (by decide) (by decide) fun r2 H2 r20 r21 hd2 k2 => ?_
    have k2 := k1.trans k2
    tbr_iter e1
    refine ⟨rfl, by omega, by omega, ?_⟩
    obtain ⟨n, en⟩ := Int.eq_ofNat_of_zero_le (show 0 ≤ 1 + r2 by omega)
    have hn : 1 ≤ n ∧ n ≤ 8 := by omega
    rw [en]
    refine comp_rng (fun D i acc H' => DrawsOk H' Dw ∧ (D ≠ Dw.d ∧ D ≠ Dw.L) ∧ H' D = some (.lst acc) ∧ Keep Dw.d H2 H' ∧ H2 D = none ∧ ∃ cs : List Nat, acc = cs.map (fun c => V.str ⟨#[c]⟩) ∧ cs.length = i ∧ ∀ c ∈ cs, c ∈ (Str.ofString "abcdefghijklmnopqrstuvwxyz").cps.toList)
      (fun D hD => ⟨hd2.new hD, ⟨hd2.ne hD, hd2.neL hD⟩, upd_same, (Keep.refl Dw.d H2).new hD, hD, [], rfl, rfl, fun _ h => absurd h (List.not_mem_nil)⟩) (fun D i acc H3 Nx hi ⟨p1, p2, p3, p4, p5, cs, ec, lc, mc⟩ hN => ?_) (fun D acc H3 hD ⟨p1, p2, p3, p4, p5, cs, ec, lc, mc⟩ => ?_)
    · refine ⟨rfl, ?_⟩
      tbr_iter p3
      refine use_draw p1 (by decide) (by decide) fun r3 H4 r30 r31 hd4 k4 => ?_
      obtain ⟨j, rfl⟩ := Int.eq_ofNat_of_zero_le r30
      have hl : (Str.ofString "abcdefghijklmnopqrstuvwxyz").cps.toList.length = 26 := by decide +kernel
      have hj : j < (Str.ofString "abcdefghijklmnopqrstuvwxyz").cps.toList.length := by rw [hl]; omega
      have e4 := k4.at p2.1 p3
      refine ⟨by decide +kernel, _, atI_nat (List.getElem?_eq_getElem hj), acc, e4, ?_, hN (acc ++ [_]) _ ⟨?_, p2, upd_same, ?_, p5, cs ++ [(Str.ofString "abcdefghijklmnopqrstuvwxyz").cps.toList[j]], ?_, ?_, ?_⟩⟩
      · rw [ec, List.length_map, lc, sizeLine_eq]
        omega
      · exact hd4.set p2.1 p2.2
      · intro b h1 h2
        have : b ≠ D := fun z => h2 (by rw [z]; exact p5)
        rw [upd_ne this]
        exact (p4.trans k4) b h1 h2
      · rw [ec, List.map_append]
        rfl
      · rw [List.length_append, lc]
        rfl
      · intro c hc
        rcases List.mem_append.mp hc with hc | hc
        · exact mc c hc
        · rw [List.mem_singleton.mp hc]
          exact List.getElem_mem hj
    · have ln : cs.length = n := lc
      refine ⟨_, _, cs.map (fun c => ⟨#[c]⟩), rfl, rfl, ?_, ?_, q _ _ ⟨_, rfl, ?_⟩ p1 (k2.trans p4)⟩
      · rw [p3, ec, List.map_map]
        rfl
      · have e0 : ∀ l : List Nat, ((l.map (fun c => (⟨#[c]⟩ : Str))).map (·.length)).sum = l.length := by
          intro l
          induction l with
          | nil => rfl
          | cons c r ih =>
            rw [List.map_cons, List.map_cons, List.sum_cons, ih, List.length_cons]
            show 1 + r.length = r.length + 1
            omega
        rw [e0, show (Str.ofString "").length = 0 from rfl]
        omega
      · have et : ∀ l : List Nat, TL.tl (Txt.join (Str.ofString "") (l.map (fun c => (⟨#[c]⟩ : Str)))) = l := by
          intro l
          rw [TL.join_eq, TL.tl_join, show TL.tl (Str.ofString "") = [] from rfl]
          induction l with
          | nil => rfl
          | cons c r ih =>
            cases r with
            | nil => rfl
            | cons c2 r =>
              show [c] ++ ([] ++ TL.joinL [] (((c2 :: r).map (fun c => (⟨#[c]⟩ : Str))).map TL.tl)) = c :: c2 :: r
              rw [ih]
              rfl
        have e1 := et cs
        have e2 : (Txt.join (Str.ofString "") (cs.map (fun c => (⟨#[c]⟩ : Str)))).length = n := by rw [TL.len_tl, e1, ln]
        have e3 : (Txt.join (Str.ofString "") (cs.map (fun c => (⟨#[c]⟩ : Str)))).cps.toList = cs := e1
        unfold isMarkS
        rw [e2, e3, decide_eq_true hn.1, decide_eq_true hn.2, Bool.and_self, Bool.true_and, List.all_eq_true]
        exact fun c hc => decide_eq_true (mc c hc)
def t__law_basic (K : PySem.W.Frag) : TS :=
  (tSeq (tAsg (tLst (tCons (tC (.str "push")) (tCons (tC (.str "push")) (tCons (tC (.str "push")) (tCons (tC (.str "drop")) (tCons (tC (.str "pick")) (tCons (tC (.str "pick")) (tCons (tC (.str "roll")) (tCons (tC (.str "keep")) (tCons (tC (.str "load")) (tCons (tC (.str "emit")) (tCons (tC (.str "expect")) (tCons (tC (.str "same")) (tCons (tC (.str "differ")) tNil)))))))))))))) (gName 1))
  (tSeq (tAsg (tOp rIxU (uVar 1) (uCall (sp__law_draw K) [] E0 (tCons (uVar 0) (tCons (tC (.int 13)) tNil)))) (gName 2))
  (tSeq (tIfS (tOr (tTest (tOp rEqS (uVar 2) (tC (.str "push")))) (tTest (tOp rEqS (uVar 2) (tC (.str "expect"))))) (tRet (tTup (tCons (uVar 2) (tCons (uCall (sp__law_mark K) [] E0 (tCons (uVar 0) tNil)) tNil)))) tNext)
  (tSeq (tIfS (tOr (tTest (tOp rEqS (uVar 2) (tC (.str "pick")))) (tTest (tOp rEqS (uVar 2) (tC (.str "roll"))))) (tSeq (tIfS (tTest (tOp rEqS (uCall (sp__law_draw K) [] E0 (tCons (uVar 0) (tCons (tC (.int 8)) tNil))) (tC (.int 0)))) (tRet (tTup (tCons (uVar 2) (tCons (uCall (sp__law_draw K) [] E0 (tCons (uVar 0) (tCons (tC (.int 24)) tNil))) tNil)))) tNext)
  (tRet (tTup (tCons (uVar 2) (tCons (uCall (sp__law_draw K) [] E0 (tCons (uVar 0) (tCons (tC (.int 3)) tNil))) tNil))))) tNext)
  (tSeq (tIfS (tOr (tTest (tOp rEqS (uVar 2) (tC (.str "keep")))) (tTest (tOp rEqS (uVar 2) (tC (.str "load"))))) (tRet (tTup (tCons (uVar 2) (tCons (uCall (sp__law_draw K) [] E0 (tCons (uVar 0) (tCons (tC (.int 4)) tNil))) tNil)))) tNext)
  (tRet (tTup (tCons (uVar 2) tNil))))))))
def BasicT (xs : List V) : Prop := (∃ w z, xs = [.str w, .str z] ∧ (w = "push" ∨ w = "expect") ∧ isMarkS z = true) ∨ (∃ w i, xs = [.str w, .int i] ∧ (w = "pick" ∨ w = "roll") ∧ 0 ≤ i ∧ i < 24) ∨ (∃ w i, xs = [.str w, .int i] ∧ (w = "keep" ∨ w = "load") ∧ 0 ≤ i ∧ i < 4) ∨
  ∃ w, xs = [.str w] ∧ (w = "drop" ∨ w = "emit" ∨ w = "same" ∨ w = "differ")
def IsBasic (v : V) (H : Hp) : Prop := ∃ p xs, v = .ref p ∧ H p = some (.tup xs) ∧ BasicT xs
def sp__law_basic (K : PySem.W.Frag) : Sp := spGen IsBasic
theorem pure__law_basic {K : PySem.W.Frag} (vs : List V) (H : Hp) (Q : VK) (E : XK) (h : sp__law_basic K vs H Q E) : t__law_basic K { nx := fun _ H' => Q .non H', rt := Q } (start ["_law_draws", "_law_words", "_law_word"] vs) H := by
  obtain ⟨Dw, rfl, hd, q⟩ := h
  unfold t__law_basic
  show tSeq _ _ _ [some (.ref Dw.d), none, none] H
  tbr_iter hd
  refine ⟨by decide, fun f hf => ?_⟩
  have hfd := hd.ne hf
  refine use_draw (hd.new hf) (by decide) (by decide) fun r H1 r0 r1 hd1 k1 => ?_
  have e1 := k1.at hfd upd_same
  have k1 : Keep Dw.d H H1 := ((Keep.refl Dw.d H).new hf).trans k1
  tbr_iter e1
  obtain ⟨j, rfl⟩ := Int.eq_ofNat_of_zero_le r0
  have hj : j < 13 := by omega
  have use2 : ∀ (w : Str) (x : V) (H2 : Hp), BasicT [.str w, x] → DrawsOk H2 Dw → Keep Dw.d H H2 → 2 ≤ sizeLine ∧ ∀ p, H2 p = none → Q (.ref p) (upd H2 p (.tup [.str w, x])) := fun w x H2 hb h2 k2 =>
    ⟨by decide, fun p hp => q _ _ ⟨p, _, rfl, upd_same, hb⟩ (h2.new hp) (k2.new hp)⟩
  match j, hj with
  | 0, _ =>
    refine ⟨_, atI_nat (j := 0) rfl, ?_⟩
    tbr_iter e1
    refine use_gen hd1 fun v H2 ⟨z, hv, hm⟩ h2 k2 => ?_
    subst hv
    exact use2 _ _ H2 (.inl ⟨_, _, rfl, .inl rfl, hm⟩) h2 (k1.trans k2)
  | 1, _ =>
    refine ⟨_, atI_nat (j := 1) rfl, ?_⟩
    tbr_iter e1
    refine use_gen hd1 fun v H2 ⟨z, hv, hm⟩ h2 k2 => ?_
    subst hv
    exact use2 _ _ H2 (.inl ⟨_, _, rfl, .inl rfl, hm⟩) h2 (k1.trans k2)
  | 2, _ =>
    refine ⟨_, atI_nat (j := 2) rfl, ?_⟩
    tbr_iter e1
    refine use_gen hd1 fun v H2 ⟨z, hv, hm⟩ h2 k2 => ?_
    subst hv
    exact use2 _ _ H2 (.inl ⟨_, _, rfl, .inl rfl, hm⟩) h2 (k1.trans k2)
  | 3, _ =>
    refine ⟨_, atI_nat (j := 3) rfl, ?_⟩
    tbr_iter e1
    exact ⟨by decide, fun p hp => q _ _ ⟨p, _, rfl, upd_same, .inr (.inr (.inr ⟨_, rfl, .inl rfl⟩))⟩ (hd1.new hp) (k1.new hp)⟩
  | 4, _ =>
    refine ⟨_, atI_nat (j := 4) rfl, ?_⟩
    tbr_iter e1
    refine use_draw hd1 (by decide) (by decide) fun r2 H2 _ _ h2 k2 => ?_
    tbr_iter e1
    refine ite2 (fun _ => ?_) fun _ => ?_
    · exact use_draw h2 (by decide) (by decide) fun r3 H3 r30 r31 h3 k3 => use2 _ _ H3 (.inr (.inl ⟨_, _, rfl, .inl rfl, r30, r31⟩)) h3 ((k1.trans k2).trans k3)
    · exact use_draw h2 (by decide) (by decide) fun r3 H3 r30 r31 h3 k3 => use2 _ _ H3 (.inr (.inl ⟨_, _, rfl, .inl rfl, r30, by omega⟩)) h3 ((k1.trans k2).trans k3)
  | 5, _ =>
    refine ⟨_, atI_nat (j := 5) rfl, ?_⟩
    tbr_iter e1
    refine use_draw hd1 (by decide) (by decide) fun r2 H2 _ _ h2 k2 => ?_
    tbr_iter e1
    refine ite2 (fun _ => ?_) fun _ => ?_
    · exact use_draw h2 (by decide) (by decide) fun r3 H3 r30 r31 h3 k3 => use2 _ _ H3 (.inr (.inl ⟨_, _, rfl, .inl rfl, r30, r31⟩)) h3 ((k1.trans k2).trans k3)
    · exact use_draw h2 (by decide) (by decide) fun r3 H3 r30 r31 h3 k3 => use2 _ _ H3 (.inr (.inl ⟨_, _, rfl, .inl rfl, r30, by omega⟩)) h3 ((k1.trans k2).trans k3)
  | 6, _ =>
    refine ⟨_, atI_nat (j := 6) rfl, ?_⟩
    tbr_iter e1
    refine use_draw hd1 (by decide) (by decide) fun r2 H2 _ _ h2 k2 => ?_
    tbr_iter e1
    refine ite2 (fun _ => ?_) fun _ => ?_
    · exact use_draw h2 (by decide) (by decide) fun r3 H3 r30 r31 h3 k3 => use2 _ _ H3 (.inr (.inl ⟨_, _, rfl, .inr rfl, r30, r31⟩)) h3 ((k1.trans k2).trans k3)
    · exact use_draw h2 (by decide) (by decide) fun r3 H3 r30 r31 h3 k3 => use2 _ _ H3 (.inr (.inl ⟨_, _, rfl, .inr rfl, r30, by omega⟩)) h3 ((k1.trans k2).trans k3)
  | 7, _ =>
    refine ⟨_, atI_nat (j := 7) rfl, ?_⟩
    tbr_iter e1
    exact use_draw hd1 (by decide) (by decide) fun r3 H3 r30 r31 h3 k3 => use2 _ _ H3 (.inr (.inr (.inl ⟨_, _, rfl, .inl rfl, r30, r31⟩))) h3 (k1.trans k3)
  | 8, _ =>
    refine ⟨_, atI_nat (j := 8) rfl, ?_⟩
    tbr_iter e1
    exact use_draw hd1 (by decide) (by decide) fun r3 H3 r30 r31 h3 k3 => use2 _ _ H3 (.inr (.inr (.inl ⟨_, _, rfl, .inr rfl, r30, r31⟩))) h3 (k1.trans k3)
  | 9, _ =>
    refine ⟨_, atI_nat (j := 9) rfl, ?_⟩
    tbr_iter e1
    exact ⟨by decide, fun p hp => q _ _ ⟨p, _, rfl, upd_same, .inr (.inr (.inr ⟨_, rfl, .inr (.inl rfl)⟩))⟩ (hd1.new hp) (k1.new hp)⟩
  | 10, _ =>
    refine ⟨_, atI_nat (j := 10) rfl, ?_⟩
    tbr_iter e1
    refine use_gen hd1 fun v H2 ⟨z, hv, hm⟩ h2 k2 => ?_
    subst hv
    exact use2 _ _ H2 (.inl ⟨_, _, rfl, .inr rfl, hm⟩) h2 (k1.trans k2)
  | 11, _ =>
    refine ⟨_, atI_nat (j := 11) rfl, ?_⟩
    tbr_iter e1
    exact ⟨by decide, fun p hp => q _ _ ⟨p, _, rfl, upd_same, .inr (.inr (.inr ⟨_, rfl, .inr (.inr (.inl rfl))⟩))⟩ (hd1.new hp) (k1.new hp)⟩
  | 12, _ =>
    refine ⟨_, atI_nat (j := 12) rfl, ?_⟩
    tbr_iter e1
    exact ⟨by decide, fun p hp => q _ _ ⟨p, _, rfl, upd_same, .inr (.inr (.inr ⟨_, rfl, .inr (.inr (.inr rfl))⟩))⟩ (hd1.new hp) (k1.new hp)⟩
  | n + 13, h => exact absurd h (by omega)
theorem c_draw {K : PySem.W.Frag} {H : Hp} {D : Dr} {m : Int} {Q : VK} {E : XK} (h : DrawsOk H D) (m0 : 0 < m) (m1 : m < 1073741824) (q : ∀ r H', 0 ≤ r → r < m → DrawsOk H' D → Keep D.d H H' → Q (.int r) H') : @Call (sp__law_draw K) [.ref D.d, .int m] H ⟨Q⟩ ⟨E⟩ := ⟨D, m, rfl, h, m0, m1, q⟩
theorem c_gen {P : V → Hp → Prop} {H : Hp} {D : Dr} {Q : VK} {E : XK} (h : DrawsOk H D) (q : ∀ v H', P v H' → DrawsOk H' D → Keep D.d H H' → Q v H') : @Call (spGen P) [.ref D.d] H ⟨Q⟩ ⟨E⟩ := ⟨D, rfl, h, q⟩
end U
end

section
namespace U
open PySem PySem.Spec PyProof.Rows L2
local macro_rules | `(tactic| ktf_call $fs) => `(tactic| simp (config := {maxSteps := 4000000}) only [↓r_fld, ↓r_setF, ↓aSF_ref, ↓r_isO, ↓r_eqO, ↓r_eqN, ↓r_neN, ↓r_gsq, ↓aGs_eq, ↓r_gcons, ↓r_gnil, ↓r_isB, ↓r_bm1, ↓r_bm0, ↓aM_app, ↓r_callX, ↓r_raise0, ↓r_tryAs, ↓r_tryOnly, ↓r_seq, ↓r_ifS, ↓r_or, ↓r_and, ↓r_not, ↓r_next, ↓r_ret, ↓r_retN, ↓r_brk, ↓r_cnt, ↓r_drop, ↓r_asg, ↓r_test, ↓r_yes, ↓r_c, ↓r_nil, ↓r_cons, ↓r_var0, ↓r_varS, ↓r_name0, ↓r_nameS, ↓r_op, ↓r_un, ↓r_rU, ↓r_chain, ↓r_andV, ↓r_orV, ↓r_notV, ↓r_call, ↓r_cb, ↓r_tup, ↓r_lst, ↓r_sl, ↓r_noPart, ↓r_part, ↓r_gsub, ↓kB_a, ↓aB_bl, ↓kI_a, ↓aI_int, ↓OK_some, ↓Br_true, ↓Br_false, ↓Cd_true, ↓r_addI, ↓r_addS, ↓r_addUI, ↓r_addUS, ↓r_addL, ↓AlT_cc, ↓AlT_nil, ↓AlT_cnil, ↓r_addT, ↓r_sub, ↓r_mul, ↓r_div, ↓r_mod, ↓r_pow, ↓r_lt, ↓r_le, ↓r_gt, ↓r_ge, ↓r_eq, ↓r_ne, ↓r_isN, ↓r_notN, ↓r_inS, ↓r_ninS, ↓r_in, ↓r_nin, ↓r_inG, ↓r_ninG, ↓r_ixS, ↓r_ix, ↓r_set, ↓r_slS, ↓AlS_lst, ↓AlS_tup, ↓r_slR, ↓r_lenS, ↓r_lenR, ↓r_listU, ↓AlC_lst, ↓AlC_tup, ↓r_tupleU, ↓r_int, ↓r_intB, ↓r_isi, ↓r_tru, ↓r_truN, ↓r_truB, ↓r_truI, ↓r_truS, ↓r_truR, ↓aL_ref, ↓a1_int, ↓a2_int, ↓r_for1, ↓r_for2, ↓r_for, ↓r_lc, ↓r_lc1, ↓r_lc2,
  OK_some, Br_true, Br_false, Br_not, Cd_true, aB_bl, aI_int, r_rU, r_addI, r_addS, r_sub, r_mul, r_div, r_mod, r_pow, r_lt, r_le, r_gt, r_ge, r_ixS, r_ix, r_set, r_lenS, r_int, r_intB, r_truN, r_truB, r_truI, r_truS, r_truR, AlT_cc, AlT_nil, AlT_cnil, AlS_lst, AlS_tup, AlC_lst, AlC_tup, a1_int, a2_int, lstO_lst, tupO_tup, seqO_eq, seqO_lst, seqO_tup, lenO_lst, lenO_tup, lenO_dK, e_tyR, tyO_t, e_ty, e_tyn, truO_lst, truO_tup, truO_dK, isa_tab, scal_tab, flat_tab, eqV_t, inV_cons, inV_nil, szl, cmul_l, cpow_l, atI_0, atI_1, atI_2, atI_3, ixN_lit, Option.some.injEq, List.length_cons, List.length_nil, List.length_append, List.length_map, Nat.zero_add, Nat.reduceAdd, natc, Int.reduceLE, Int.reduceLT, Int.reduceEq, Int.reduceSub, Int.reduceAdd, Int.reduceNeg, Int.reduceMul, Int.reducePow, Int.reduceToNat, Nat.reduceLeDiff, Nat.reduceLT, Nat.reduceEqDiff, decide_eq_true_eq, decide_eq_false_iff_not, decide_true, decide_false, Bool.not_eq_true', Bool.not_eq_false', Bool.not_true, Bool.not_false, Bool.not_not, Bool.or_eq_true, Bool.and_eq_true, Bool.or_false, Bool.false_or, Bool.or_true, Bool.true_or, Bool.and_true, Bool.true_and, Bool.and_false, Bool.false_and, Bool.and_self, List.all_cons, List.all_nil, ofs_inj, String.reduceEq, List.cons.injEq, and_true, true_and, and_self, or_true, true_or, or_false, false_or, V.ty.injEq, V.bl.injEq, V.int.injEq, V.str.injEq, V.ref.injEq, List.nil_append, List.append_nil, List.cons_append, List.getElem?_cons_zero, List.getElem?_cons_succ, List.set_cons_zero, List.set_cons_succ, exists_eq_left', exists_eq_left, exists_eq, Bool.false_eq_true, Bool.true_eq_false, reduceCtorEq, not_true_eq_false, not_false_eq_true, eq_self, List.isEmpty_cons, List.isEmpty_nil, wipe, insO_ins, insD_ins, isO_tab, isO_ref, isR_tab, snO_tab, lk_tab, putF_nil, putF_tab, isLs_lst, tyL, reduceIte, $fs:term])

abbrev cSt (K : PySem.W.Frag) : Addr := He.ga K "State"
abbrev cBad (K : PySem.W.Frag) : Addr := He.ga K "BadState"
def isRegV (v : V) : Bool := decide (v = .non) || isMarkV v
def StOk (xs rs : List V) : Prop := xs.length ≤ 24 ∧ rs.length = 4 ∧ (∀ v ∈ xs, isMarkV v = true) ∧ ∀ v ∈ rs, isRegV v = true
def IsSt (K : PySem.W.Frag) (H : Hp) (v : V) (xs rs : List V) : Prop := ∃ o dx p q, v = .ref o ∧ H o = some (.ins (cSt K) dx [("stack", .ref p), ("registers", .ref q)]) ∧ H p = some (.tup xs) ∧ H q = some (.tup rs)
theorem IsSt.same {K : PySem.W.Frag} {H H' : Hp} {v : V} {xs rs : List V} (h : IsSt K H v xs rs) (s : L2.Same H H') : IsSt K H' v xs rs := by
  obtain ⟨o, dx, p, q, e, h1, h2, h3⟩ := h
  exact ⟨o, dx, p, q, e, s _ _ h1, s _ _ h2, s _ _ h3⟩
theorem takeAll {α : Type} {P : α → Prop} {xs : List α} {i : Nat} {x : α} (h : ∀ v ∈ xs.take i, P v) (hx : xs[i]? = some x) (px : P x) : ∀ v ∈ xs.take (i + 1), P v := fun v hv => by
  rw [List.take_add_one, hx] at hv
  rcases List.mem_append.mp hv with hv | hv
  · exact h v hv
  · rw [List.mem_singleton.mp hv]
    exact px
theorem AlC.by {H : Hp} {p : Addr} {ys : List V} {Q : VK} (h : H p = some (.lst ys) ∨ H p = some (.tup ys)) (q : ∀ p' H', H' p' = some (.tup ys) → L2.Same H H' → Q (.ref p') H') : @AlC H p (H p) ⟨Q⟩ := by
  rcases h with e | e
  · rw [e, AlC_lst]
    exact Al.by fun p' H' n => q p' H' n.at n.same
  · rw [e, AlC_tup]
    exact q p H e (L2.Same.refl H)
def t_State_init_1 (K : PySem.W.Frag) (a_BadState : Addr) (E : XK) : TS :=
  (tIfS (tNot (uTru (uCall (sp_is_mark K) [] E0 (tCons (uVar 3) tNil)))) (uRaise0 (fun cls d _ H => E cls d H) a_BadState) tNext)
def t_State_init_2 (K : PySem.W.Frag) (a_BadState : Addr) (E : XK) : TS :=
  (tIfS (tAnd (tTest (tOp rNotNU (uVar 3) (tC .non))) (tNot (uTru (uCall (sp_is_mark K) [] E0 (tCons (uVar 3) tNil))))) (uRaise0 (fun cls d _ H => E cls d H) a_BadState) tNext)
def t_State_init (K : PySem.W.Frag) (a_BadState : Addr) (a_State : Addr) (E : XK) : TS :=
  (tSeq (tIfS (tOr (tTest (tOp rGtU (tCB rLenU (tCons (uVar 1) tNil)) (tC (.int 24)))) (tTest (tOp rNeS (tCB rLenU (tCons (uVar 2) tNil)) (tC (.int 4))))) (uRaise0 (fun cls d _ H => E cls d H) a_BadState) tNext)
  (tSeq (tFor (iU K (uVar 1)) (gName 3) (t_State_init_1 K a_BadState E))
  (tSeq (tFor (iU K (uVar 2)) (gName 3) (t_State_init_2 K a_BadState E))
  (tSeq (uSetF a_State "stack" (uVar 0) (tCB rTupleU (tCons (uVar 1) tNil)))
  (uSetF a_State "registers" (uVar 0) (tCB rTupleU (tCons (uVar 2) tNil)))))))
def sp_State_init (K : PySem.W.Frag) : Sp := fun vs H Q E => ∃ (o dx p q : Addr) (xs rs : List V), vs = [.ref o, .ref p, .ref q] ∧ H o = some (.ins (cSt K) dx []) ∧ (H p = some (.lst xs) ∨ H p = some (.tup xs)) ∧ (H q = some (.lst rs) ∨ H q = some (.tup rs)) ∧
  (∀ v ∈ xs, okV H v) ∧ (∀ v ∈ rs, okV H v) ∧ (StOk xs rs → ∀ H', IsSt K H' (.ref o) xs rs → (∀ b u, b ≠ o → H b = some u → H' b = some u) → Q .non H') ∧ (¬ StOk xs rs → E (.ref (cBad K)) none H)
theorem len_State_init {K : PySem.W.Frag} : ∀ vs H Q E, sp_State_init K vs H Q E → vs.length = 3 := fun _ _ _ _ ⟨_, _, _, _, _, _, e, _⟩ => by rw [e]; rfl
theorem pure_State_init {K : PySem.W.Frag} (vs : List V) (H : Hp) (Q : VK) (E : XK) (h : sp_State_init K vs H Q E) : t_State_init K (cBad K) (cSt K) E { nx := fun _ H' => Q .non H', rt := Q } (start ["self", "stack", "registers", "mark"] vs) H := by
  obtain ⟨o, dx, p, q, xs, rs, rfl, eo, ep, eq, kx, kr, good, bad⟩ := h
  have sp : seqO (H p) = some xs := by rcases ep with e | e <;> rw [e] <;> rfl
  have sq : seqO (H q) = some rs := by rcases eq with e | e <;> rw [e] <;> rfl
  have lp : lenO (H p) = some xs.length := by rcases ep with e | e <;> rw [e] <;> rfl
  have lq : lenO (H q) = some rs.length := by rcases eq with e | e <;> rw [e] <;> rfl
  unfold t_State_init
  show tSeq _ _ _ [some (.ref o), some (.ref p), some (.ref q), none] H
  ktf_call (And.intro lp lq)
  refine Br.by (fun h => ?_) fun h => ?_
  · ktf_call lp
    exact bad fun ⟨h1, _⟩ => by omega
  have hx : xs.length ≤ 24 := by omega
  ktf_call lq
  refine Br.by (fun h4 => ?_) fun h => ?_
  rotate_left
  · ktf_call lq
    exact bad fun ⟨_, h2, _⟩ => h (by omega)
  have hr : rs.length = 4 := by omega
  ktf_call lp
  refine loop_seq (xs := xs) sp (fun i σ H' => H' = H ∧ (∃ y, σ = [some (.ref o), some (.ref p), some (.ref q), y]) ∧ ∀ v ∈ xs.take i, isMarkV v = true) ⟨rfl, ⟨_, rfl⟩, fun v hv => by simp at hv⟩ (fun i σ H' _ e => by rw [e.1]) (fun i x σ H' hxi ⟨e1, ⟨y, e2⟩, m⟩ => ?_) (fun σ H' ⟨e1, ⟨y, e2⟩, m⟩ => ?_)
  · replace e1 := e1.symm; subst e1 e2
    have hm : x ∈ xs := List.mem_of_getElem? hxi
    unfold t_State_init_1
    ktf_call sp
    refine Call.by ⟨x, rfl, (kx x hm).1, (kx x hm).2, ?_⟩
    ktf_call sp
    refine Br.by (fun hb => ?_) fun hb => ?_
    · ktf_call sp
      exact bad fun ⟨_, _, h3, _⟩ => by rw [h3 x hm] at hb; cases hb
    · ktf_call sp
      exact ⟨⟨_, rfl⟩, takeAll m hxi (by simpa using hb)⟩
  · replace e1 := e1.symm; subst e1 e2
    rw [List.take_of_length_le (Nat.le_refl _)] at m
    ktf_call sq
    refine loop_seq (xs := rs) sq (fun i σ H' => H' = H ∧ (∃ y, σ = [some (.ref o), some (.ref p), some (.ref q), y]) ∧ ∀ v ∈ rs.take i, isRegV v = true) ⟨rfl, ⟨_, rfl⟩, fun v hv => by simp at hv⟩ (fun i σ H' _ e => by rw [e.1]) (fun i x σ H' hxi ⟨e1, ⟨y, e2⟩, m2⟩ => ?_) (fun σ H' ⟨e1, ⟨y, e2⟩, m2⟩ => ?_)
    · replace e1 := e1.symm; subst e1 e2
      have hm : x ∈ rs := List.mem_of_getElem? hxi
      unfold t_State_init_2
      ktf_call sq
      refine Br.by (fun hn => ?_) fun hn => ?_
      · ktf_call sq
        exact ⟨⟨_, rfl⟩, takeAll m2 hxi (by subst hn; rfl)⟩
      · ktf_call sq
        refine Call.by ⟨x, rfl, (kr x hm).1, (kr x hm).2, ?_⟩
        ktf_call sq
        refine Br.by (fun hb => ?_) fun hb => ?_
        · ktf_call sq
          exact bad fun ⟨_, _, _, h3⟩ => by
            have := h3 x hm
            unfold isRegV at this
            rw [decide_eq_false hn, hb] at this
            cases this
        · ktf_call sq
          exact ⟨⟨_, rfl⟩, takeAll m2 hxi (by
            unfold isRegV
            rw [decide_eq_false hn, show isMarkV x = true by simpa using hb]
            rfl)⟩
    · replace e1 := e1.symm; subst e1 e2
      rw [List.take_of_length_le (Nat.le_refl _)] at m2
      have ok : StOk xs rs := ⟨hx, hr, m, m2⟩
      ktf_call sq
      refine AlC.by ep fun p' H1 e1 s1 => ?_
      ktf_call (s1 _ _ eo)
      refine Md.by fun H2 d2 => ?_
      have np : p' ≠ o := fun z => by rw [z, s1 _ _ eo] at e1; cases e1
      have nq : q ≠ o := fun z => by
        rcases eq with e | e <;> rw [z, eo] at e <;> cases e
      have eq2 : H2 q = some (.lst rs) ∨ H2 q = some (.tup rs) := eq.imp (fun e => d2.old nq (s1 _ _ e)) fun e => d2.old nq (s1 _ _ e)
      ktf_call sq
      refine AlC.by eq2 fun q' H3 e3 s3 => ?_
      ktf_call (s3 _ _ d2.at)
      refine Md.by fun H4 d4 => ?_
      have nq' : q' ≠ o := fun z => by rw [z, s3 _ _ d2.at] at e3; cases e3
      ktf_call sq
      exact good ok _ ⟨o, dx, p', q', rfl, d4.at, d4.old np (s3 _ _ (d2.old np e1)), d4.old nq' e3⟩ fun b u hb e => d4.old hb (s3 _ _ (d2.old hb (s1 _ _ e)))
def sp_State (K : PySem.W.Frag) : Sp := fun vs H Q E => ∃ (p q : Addr) (xs rs : List V), vs = [.ref p, .ref q] ∧ (H p = some (.lst xs) ∨ H p = some (.tup xs)) ∧ (H q = some (.lst rs) ∨ H q = some (.tup rs)) ∧
  (∀ v ∈ xs, okV H v) ∧ (∀ v ∈ rs, okV H v) ∧ (StOk xs rs → ∀ v H', IsSt K H' v xs rs → L2.Same H H' → Q v H') ∧ (¬ StOk xs rs → ∀ H', L2.Same H H' → E (.ref (cBad K)) none H')
theorem new_State {K : PySem.W.Frag} : ∀ vs H Q E, sp_State K vs H Q E → ∀ o dx, H o = none → H dx = none → dx ≠ o → sp_State_init K (.ref o :: vs) (upd (upd H dx (.own o)) o (.ins (cSt K) dx [])) (fun v H2 => v = .non ∧ Q (.ref o) H2) E := by
  intro vs H Q E ⟨p, q, xs, rs, e, ep, eq, kx, kr, good, bad⟩ o dx no nd ne
  subst e
  have n1 : New H dx (.own o) (upd H dx (.own o)) := ⟨nd, rfl⟩
  have s1 : L2.Same H (upd (upd H dx (.own o)) o (.ins (cSt K) dx [])) := fun b u e => by
    rw [upd_ne (ne_of_none e no)]
    exact n1.old e
  refine ⟨o, dx, p, q, xs, rs, rfl, upd_same, ep.imp (s1 _ _) (s1 _ _), eq.imp (s1 _ _) (s1 _ _), fun v hv => okV_same s1 (kx v hv), fun v hv => okV_same s1 (kr v hv), fun ok H' h k => ⟨rfl, good ok _ H' h fun b u e => k b u (ne_of_none e no) (s1 _ _ e)⟩, fun nok => bad nok _ s1⟩
def m1 (A : Addr) : Addr → Option Bool := fun D => if D = A then some true else none
theorem m1_self {A : Addr} : m1 A A = some true := by unfold m1; rw [if_pos rfl]
theorem isMark_sn {v : V} (h : isMarkV v = true) : sn v = true := by
  cases v with
  | str z =>
    have h : isMarkS z = true := h
    unfold isMarkS at h
    rw [Bool.and_eq_true, List.all_eq_true] at h
    show z.cps.all (· < 0x110000) = true
    rw [← Array.all_toList, List.all_eq_true]
    intro c hc
    have := of_decide_eq_true (h.2 c hc)
    have hl : ∀ c ∈ (Str.ofString "abcdefghijklmnopqrstuvwxyz").cps.toList, c < 0x110000 := by decide +kernel
    exact decide_eq_true (hl c this)
  | _ => cases h
theorem isReg_sn {v : V} (h : isRegV v = true) : sn v = true := by
  unfold isRegV at h
  by_cases e : v = .non
  · subst e; rfl
  · rw [decide_eq_false e, Bool.false_or] at h
    exact isMark_sn h
theorem StOk.sn {xs rs : List V} (h : StOk xs rs) : xs.all U.sn = true ∧ rs.all U.sn = true := ⟨List.all_eq_true.mpr fun v hv => isMark_sn (h.2.2.1 v hv), List.all_eq_true.mpr fun v hv => isReg_sn (h.2.2.2 v hv)⟩
def t_State_eq (K : PySem.W.Frag) (a_State : Addr) (m_State : Addr → Option Bool) : TS :=
  (tRet (tAndV (tCB (rIsO a_State m_State) (tCons (uVar 1) (tCons (tC (.ref a_State)) tNil))) (tAndV (tOp (rEqN false) (tUn (rFld a_State "stack") (uVar 0)) (tUn (rFld a_State "stack") (uVar 1))) (tOp (rEqN false) (tUn (rFld a_State "registers") (uVar 0)) (tUn (rFld a_State "registers") (uVar 1))))))
def sp_State_eq (K : PySem.W.Frag) : Sp := fun vs H Q _ => ∃ (a b : V) (xs rs ys ts : List V), vs = [a, b] ∧ IsSt K H a xs rs ∧ IsSt K H b ys ts ∧ StOk xs rs ∧ StOk ys ts ∧ Q (.bl (decide (xs = ys) && decide (rs = ts))) H
theorem len_State_eq {K : PySem.W.Frag} : ∀ vs H Q E, sp_State_eq K vs H Q E → vs.length = 2 := fun _ _ _ _ ⟨_, _, _, _, _, _, e, _⟩ => by rw [e]; rfl
theorem pure_State_eq {K : PySem.W.Frag} (vs : List V) (H : Hp) (Q : VK) (E : XK) (h : sp_State_eq K vs H Q E) : t_State_eq K (cSt K) (m1 (cSt K)) { nx := fun _ H' => Q .non H', rt := Q } (start ["self", "other"] vs) H := by
  obtain ⟨a, b, xs, rs, ys, ts, rfl, ⟨o, dx, p, q, rfl, h1, h2, h3⟩, ⟨o2, dx2, p2, q2, rfl, g1, g2, g3⟩, ok1, ok2, hq⟩ := h
  obtain ⟨n1, n2⟩ := ok1.sn
  obtain ⟨n3, n4⟩ := ok2.sn
  unfold t_State_eq
  show tRet _ _ [some (.ref o), some (.ref o2)] H
  have fs := And.intro h1 (And.intro h2 (And.intro h3 (And.intro g1 (And.intro g2 (And.intro g3 (And.intro n1 (And.intro n2 (And.intro n3 (And.intro n4 (m1_self (A := cSt K)))))))))))
  ktf_call fs
  refine Br.by (fun e => ?_) fun e => ?_
  · ktf_call fs
    rw [decide_eq_true e, Bool.true_and] at hq
    exact hq
  · ktf_call fs
    rw [decide_eq_false e, Bool.false_and] at hq
    exact hq
def t_State_empty (K : PySem.W.Frag) : TS :=
  (tRet (uCallX (sp_State K) w0 (tCons (tTup tNil) (tCons (tTup (tCons (tC .non) (tCons (tC .non) (tCons (tC .non) (tCons (tC .non) tNil))))) tNil))))
def sp_State_empty (K : PySem.W.Frag) : Sp := fun vs H Q _ => vs = [] ∧ ∀ v H', IsSt K H' v [] [.non, .non, .non, .non] → L2.Same H H' → Q v H'
theorem len_State_empty {K : PySem.W.Frag} : ∀ vs H Q E, sp_State_empty K vs H Q E → vs.length = 0 := fun _ _ _ _ ⟨e, _⟩ => by rw [e]; rfl
theorem pure_State_empty {K : PySem.W.Frag} (vs : List V) (H : Hp) (Q : VK) (E : XK) (h : sp_State_empty K vs H Q E) : t_State_empty K { nx := fun _ H' => Q .non H', rt := Q } (start [] vs) H := by
  obtain ⟨rfl, hq⟩ := h
  unfold t_State_empty
  show tRet _ _ [] H
  ktf_call Cd_true
  refine Al.by fun p H1 n1 => ?_
  ktf_call Cd_true
  refine Al.by fun q H2 n2 => ?_
  ktf_call Cd_true
  have ok : StOk [] [.non, .non, .non, .non] := ⟨by decide, rfl, by simp, fun v hv => by simp at hv; subst hv; rfl⟩
  refine Call.by ⟨p, q, _, _, rfl, .inr (n2.old n1.at), .inr n2.at, by simp, fun v hv => ?_, fun _ v H' h s => hq v H' h ((n1.same.trans n2.same).trans s), fun h => absurd ok h⟩
  simp at hv
  subst hv
  exact ⟨rfl, trivial⟩
end U
end

section
namespace U
open PySem PySem.Spec PyProof.Rows L2
def Ob (D : Dr) (v : V) (H : Hp) : Prop := (flatV v = true ∧ strOk v) ∨ ∃ p xs, v = .ref p ∧ p ≠ D.d ∧ (H p = some (.tup xs) ∨ H p = some (.lst xs))
theorem Ob.ok {D : Dr} {H : Hp} {v : V} (h : Ob D v H) : okV H v := by
  rcases h with ⟨h, z⟩ | ⟨p, xs, rfl, _, e⟩
  · cases v <;> first | exact ⟨rfl, z⟩ | cases h
  · refine ⟨?_, trivial⟩
    rw [tyV_ref]
    rcases e with e | e <;> rw [e] <;> rfl
theorem Ob.keep {D : Dr} {H H' : Hp} {v : V} (h : Ob D v H) (k : Keep D.d H H') : Ob D v H' := by
  rcases h with h | ⟨p, xs, rfl, n, e⟩
  · exact .inl h
  · exact .inr ⟨p, xs, rfl, n, e.imp (k.at n) (k.at n)⟩
theorem Ob.lay {D : Dr} {H H' : Hp} {v : V} {p : Addr} {o : HO} (h : Ob D v H) (n : New H p o H') : Ob D v H' := by
  rcases h with h | ⟨p, xs, rfl, ne, e⟩
  · exact .inl h
  · exact .inr ⟨p, xs, rfl, ne, e.imp n.old n.old⟩
theorem Ob.mod {D : Dr} {H H' : Hp} {v : V} {p : Addr} {ys : List V} (h : Ob D v H) (m : Mod H p (.lst ys) H') : Ob D v H' := by
  rcases h with h | ⟨q, xs, rfl, ne, e⟩
  · exact .inl h
  · by_cases z : q = p
    · subst z
      exact .inr ⟨q, ys, rfl, ne, .inr m.at⟩
    · exact .inr ⟨q, xs, rfl, ne, e.imp (m.old z) (m.old z)⟩
theorem Ob.mark {D : Dr} {H : Hp} {z : Str} (h : isMarkS z = true) : Ob D (.str z) H := by
  refine .inl ⟨rfl, ?_⟩
  unfold isMarkS at h
  simp only [Bool.and_eq_true, decide_eq_true_eq] at h
  exact Nat.le_trans h.1.2 (by decide)
structure DrL (Dw : Dr) (H0 : Hp) (D : Addr) (acc : List V) (H : Hp) : Prop where
  dr : DrawsOk H Dw
  n1 : D ≠ Dw.d
  n2 : D ≠ Dw.L
  at_ : H D = some (.lst acc)
  kp : Keep Dw.d H0 H
  fr : H0 D = none
section
variable {Dw : Dr} {H0 H H' : Hp} {D : Addr} {acc acc' : List V}
theorem DrL.new (hd : DrawsOk H0 Dw) (n : New H0 D (.lst acc) H) : DrL Dw H0 D acc H := ⟨n.draws hd, hd.ne n.fr, hd.neL n.fr, n.at, n.keep (Keep.refl _ _), n.fr⟩
theorem DrL.start (hd : DrawsOk H0 Dw) (hD : H0 D = none) : DrL Dw H0 D [] (upd H0 D (.lst [])) := DrL.new hd ⟨hD, rfl⟩
theorem DrL.mod (d : DrL Dw H0 D acc H) (m : Mod H D (.lst acc') H') : DrL Dw H0 D acc' H' := by
  rw [m.eq]
  refine ⟨d.dr.set d.n1 d.n2, d.n1, d.n2, upd_same, fun b h1 h2 => ?_, d.fr⟩
  rw [upd_ne (fun z => h2 (by rw [z]; exact d.fr))]
  exact d.kp b h1 h2
theorem DrL.push (d : DrL Dw H0 D acc H) (v : V) : DrL Dw H0 D (acc ++ [v]) (upd H D (.lst (acc ++ [v]))) := d.mod ⟨rfl⟩
theorem DrL.draw (d : DrL Dw H0 D acc H) (h : DrawsOk H' Dw) (k : Keep Dw.d H H') : DrL Dw H0 D acc H' := ⟨h, d.n1, d.n2, k.at d.n1 d.at_, d.kp.trans k, d.fr⟩
theorem DrL.lay {p : Addr} {o : HO} (d : DrL Dw H0 D acc H) (n : New H p o H') : DrL Dw H0 D acc H' := ⟨n.draws d.dr, d.n1, d.n2, n.old d.at_, n.keep d.kp, d.fr⟩
end
end U
end

section
namespace U
open PySem PySem.Spec PyProof.Rows L2
section
variable {H H' : Hp} {p q b d : Addr} {o u : HO} {xs ys : List V} {Q : VK} {P : Prop}
theorem OKl {k : List V → Prop} (h : H p = some (.lst xs)) (r : k xs) : @OK _ (lstO (H p)) ⟨k⟩ := OK.by (by rw [h]; rfl) r
theorem OKt {k : List V → Prop} (h : H p = some (.tup xs)) (r : k xs) : @OK _ (tupO (H p)) ⟨k⟩ := OK.by (by rw [h]; rfl) r
theorem OKql {k : List V → Prop} (h : H p = some (.lst xs)) (r : k xs) : @OK _ (seqO (H p)) ⟨k⟩ := OK.by (by rw [h]; rfl) r
theorem OKqt {k : List V → Prop} (h : H p = some (.tup xs)) (r : k xs) : @OK _ (seqO (H p)) ⟨k⟩ := OK.by (by rw [h]; rfl) r
theorem OKnl {k : Nat → Prop} (h : H p = some (.lst xs)) (r : k xs.length) : @OK _ (lenO (H p)) ⟨k⟩ := OK.by (by rw [h]; rfl) r
theorem OKnt {k : Nat → Prop} (h : H p = some (.tup xs)) (r : k xs.length) : @OK _ (lenO (H p)) ⟨k⟩ := OK.by (by rw [h]; rfl) r
theorem OKnd {k : Nat → Prop} {kvs : List (Key × V)} (h : H p = some (.dK kvs)) (r : k kvs.length) : @OK _ (lenO (H p)) ⟨k⟩ := OK.by (by rw [h]; rfl) r
theorem OKyl {k : Ty → Prop} (h : H p = some (.lst xs)) (r : k .lst) : @OK _ (tyO (H p)) ⟨k⟩ := OK.by (by rw [h]; rfl) r
theorem OKyt {k : Ty → Prop} (h : H p = some (.tup xs)) (r : k .tup) : @OK _ (tyO (H p)) ⟨k⟩ := OK.by (by rw [h]; rfl) r
theorem OKyd {k : Ty → Prop} {kvs : List (Key × V)} (h : H p = some (.dK kvs)) (r : k .dict) : @OK _ (tyO (H p)) ⟨k⟩ := OK.by (by rw [h]; rfl) r
theorem OKbl {k : Bool → Prop} (h : H p = some (.lst xs)) (r : k (!xs.isEmpty)) : @OK _ (truO (H p)) ⟨k⟩ := OK.by (by rw [h]; rfl) r
theorem OKbt {k : Bool → Prop} (h : H p = some (.tup xs)) (r : k (!xs.isEmpty)) : @OK _ (truO (H p)) ⟨k⟩ := OK.by (by rw [h]; rfl) r
theorem OKbd {k : Bool → Prop} {kvs : List (Key × V)} (h : H p = some (.dK kvs)) (r : k (!kvs.isEmpty)) : @OK _ (truO (H p)) ⟨k⟩ := OK.by (by rw [h]; rfl) r
theorem OKi {C dx : Addr} {fs : List (Str × V)} {k : List (Str × V) → Prop} (h : H p = some (.ins C dx fs)) (r : k fs) : @OK _ (insO C (H p)) ⟨k⟩ := OK.by (by rw [h]; exact insO_ins) r
theorem OKj {C dx : Addr} {fs : List (Str × V)} {k : Addr × List (Str × V) → Prop} (h : H p = some (.ins C dx fs)) (r : k (dx, fs)) : @OK _ (insD C (H p)) ⟨k⟩ := OK.by (by rw [h]; exact insD_ins) r
theorem OKsl {k : Bool × List V → Prop} (h : H p = some (.lst xs)) (r : k (false, xs)) : @OK _ (snO (H p)) ⟨k⟩ := OK.by (by rw [h]; rfl) r
theorem OKst {k : Bool × List V → Prop} (h : H p = some (.tup xs)) (r : k (true, xs)) : @OK _ (snO (H p)) ⟨k⟩ := OK.by (by rw [h]; rfl) r
theorem OKr {C dx : Addr} {fs : List (Str × V)} {M : Addr → Option Bool} {k : Bool → Prop} (h : H p = some (.ins C dx fs)) (r : @OK _ (M C) ⟨k⟩) : @OK _ (isR M (H p)) ⟨k⟩ := by rw [h]; exact r
theorem OKrt {M : Addr → Option Bool} {k : Bool → Prop} (h : H p = some (.tup xs)) (r : k false) : @OK _ (isR M (H p)) ⟨k⟩ := by rw [h]; exact r
theorem OKrl {M : Addr → Option Bool} {k : Bool → Prop} (h : H p = some (.lst xs)) (r : k false) : @OK _ (isR M (H p)) ⟨k⟩ := by rw [h]; exact r
theorem AlS_l {lo hi : Option Int} (h : H p = some (.lst xs)) (r : @Al H (.lst (cutV xs lo hi)) ⟨Q⟩) : @AlS H p (H p) lo hi ⟨Q⟩ := by rw [h]; exact r
theorem AlS_t {lo hi : Option Int} (h : H p = some (.tup xs)) (r : @Br (wholeT xs.length lo hi) ⟨Q (.ref p) H⟩ ⟨@Al H (.tup (cutV xs lo hi)) ⟨Q⟩⟩) : @AlS H p (H p) lo hi ⟨Q⟩ := by rw [h]; exact r
theorem AlC_l (h : H p = some (.lst xs)) (r : @Al H (.tup xs) ⟨Q⟩) : @AlC H p (H p) ⟨Q⟩ := by rw [h]; exact r
theorem AlC_t (h : H p = some (.tup xs)) (r : Q (.ref p) H) : @AlC H p (H p) ⟨Q⟩ := by rw [h]; exact r
theorem CdL {K : PySem.W.Frag} (h : H p = some (.lst xs)) (r : P) : @Cd (L2.tyV K "list" (.ref p) H) ⟨P⟩ := ⟨.inl ⟨rfl, xs, .inl (.inl h)⟩, r⟩
theorem OKa {α : Type} {l : List α} {i : Int} {k : α → Prop} (h0 : 0 ≤ i) (h1 : i < (l.length : Int)) (r : ∀ (j : Nat) v, i = (j : Int) → l[j]? = some v → k v) : @OK _ (atI l i) ⟨k⟩ := by
  obtain ⟨j, rfl⟩ := Int.eq_ofNat_of_zero_le h0
  have hj : j < l.length := by omega
  exact OK.by (x := l[j]) (by unfold atI ixN; rw [if_pos h0, if_pos h1]; show l[j]? = some _; exact List.getElem?_eq_getElem hj) (r j _ rfl (List.getElem?_eq_getElem hj))
theorem OKm {α : Type} {l : List α} {i : Int} {k : α → Prop} (h0 : 0 ≤ i) (h1 : i < (l.length : Int)) (r : ∀ v, v ∈ l → k v) : @OK _ (atI l i) ⟨k⟩ := OKa h0 h1 fun j v _ e => r v (List.mem_of_getElem? e)
theorem OKe {α : Type} {l : List α} {i : Int} {k : α → Prop} (h0 : i < 0) (h1 : -(l.length : Int) ≤ i) (r : ∀ (j : Nat) v, (j : Int) = i + (l.length : Int) → l[j]? = some v → k v) : @OK _ (atI l i) ⟨k⟩ := by
  obtain ⟨j, hj⟩ := Int.eq_ofNat_of_zero_le (show 0 ≤ i + (l.length : Int) by omega)
  have hl : j < l.length := by omega
  exact OK.by (x := l[j]) (by unfold atI ixN; rw [if_neg (by omega), if_pos h1, hj]; show l[j]? = some _; exact List.getElem?_eq_getElem hl) (r j _ hj.symm (List.getElem?_eq_getElem hl))
theorem OKx {n : Nat} {i : Int} {k : Nat → Prop} (h0 : 0 ≤ i) (h1 : i < (n : Int)) (r : ∀ j : Nat, i = (j : Int) → j < n → k j) : @OK _ (ixN n i) ⟨k⟩ := by
  obtain ⟨j, rfl⟩ := Int.eq_ofNat_of_zero_le h0
  exact OK.by (x := j) (by unfold ixN; rw [if_pos h0, if_pos h1]; rfl) (r j rfl (by omega))
theorem OKn {α : Type} {l : List α} {n : Nat} {k : α → Prop} (h : n < l.length) (r : ∀ v, l[n]? = some v → k v) : @OK _ (atI l (n : Int)) ⟨k⟩ :=
  OK.by (x := l[n]) (by unfold atI ixN; rw [if_pos (by omega), if_pos (by omega)]; exact List.getElem?_eq_getElem h) (r _ (List.getElem?_eq_getElem h))
theorem OKl1 {α : Type} {l : List α} {k : α → Prop} (h : 1 ≤ l.length) (r : ∀ v, l[l.length - 1]? = some v → k v) : @OK _ (atI l (-1)) ⟨k⟩ := OKe (by omega) (by omega) fun j v e hv => r v (by rw [show l.length - 1 = j by omega]; exact hv)
theorem OKl2 {α : Type} {l : List α} {k : α → Prop} (h : 2 ≤ l.length) (r : ∀ v, l[l.length - 2]? = some v → k v) : @OK _ (atI l (-2)) ⟨k⟩ := OKe (by omega) (by omega) fun j v e hv => r v (by rw [show l.length - 2 = j by omega]; exact hv)
theorem OKlk {α : Type} {l : List α} {n : Nat} {k : α → Prop} (h : n < l.length) (r : ∀ v, l[l.length - 1 - n]? = some v → k v) : @OK _ (atI l (-1 - (n : Int))) ⟨k⟩ := OKe (by omega) (by omega) fun j v e hv => r v (by rw [show l.length - 1 - n = j by omega]; exact hv)
theorem OKg {α : Type} {l : List α} {n : Nat} {k : α → Prop} (h : n < l.length) (r : ∀ v, l[n]? = some v → k v) : @OK _ l[n]? ⟨k⟩ := OK.by (List.getElem?_eq_getElem h) (r _ (List.getElem?_eq_getElem h))
theorem OKxn {n m : Nat} {k : Nat → Prop} (h : m < n) (r : k m) : @OK _ (ixN n (m : Int)) ⟨k⟩ := OK.by (x := m) (by unfold ixN; rw [if_pos (by omega), if_pos (by omega)]; rfl) r
theorem OKln {α : Type} {l : List α} {n : Nat} {k : α → Prop} (h : n < l.length) (r : ∀ v, l[l.length - 1 - n]? = some v → k v) : @OK _ (atI l ((l.length : Int) - 1 - (n : Int))) ⟨k⟩ := OKa (by omega) (by omega) fun j v e hv => r v (by rw [show l.length - 1 - n = j by omega]; exact hv)
theorem seqIx_of {i : Int} {n m : Nat} (h : m < n) (e : i = (m : Int) ∨ i + (n : Int) = (m : Int) ∧ i < 0) : seqIndex? i n = some m := by
  unfold seqIndex?
  rcases e with rfl | ⟨e, l⟩
  · rw [if_neg (show ¬ (m : Int) < 0 by omega)]
    simp only
    rw [if_pos (by simp; omega)]
    rfl
  · rw [if_pos l]
    simp only
    rw [e, if_pos (by simp; omega)]
    rfl
theorem OKsi {n m : Nat} {k : Nat → Prop} (h : m < n) (r : k (n - 1 - m)) : @OK _ (seqIndex? (-1 - (m : Int)) n) ⟨k⟩ := OK.by (seqIx_of (show n - 1 - m < n by omega) (.inr ⟨by omega, by omega⟩)) r
theorem OKsn {n m : Nat} {i : Int} {k : Nat → Prop} (e : i = (m : Int)) (h : m < n) (r : k m) : @OK _ (seqIndex? i n) ⟨k⟩ := OK.by (seqIx_of h (.inl e)) r
theorem OKsm {n m : Nat} {k : Nat → Prop} (h : m < n) (r : k (n - 1 - m)) : @OK _ (seqIndex? ((n : Int) - 1 - (m : Int)) n) ⟨k⟩ := OK.by (seqIx_of (show n - 1 - m < n by omega) (.inl (by omega))) r
theorem ne_kd {v : HO} (h1 : H b = some u) (h2 : H p = some v) (k : u = v → False) : b ≠ p := fun e => k (by rw [e, h2] at h1; cases h1; rfl)
theorem Mod.lk (n : Mod H p o H') (e : H b = some u) (h : b ≠ p) : H' b = some u := n.old h e
theorem Keep.lk (n : Keep d H H') (e : H b = some u) (h : b ≠ d) : H' b = some u := n.at h e
theorem Same.at (s : L2.Same H H') (h : H b = some u) : H' b = some u := s _ _ h
theorem Same.none (s : L2.Same H H') (h : H' p = none) : H p = none := by
  cases e : H p with
  | none => rfl
  | some u => rw [s _ _ e] at h; cases h
theorem Same.new {H1 : Hp} (s : L2.Same H H1) (n : New H1 p o H') : L2.Same H H' := s.trans n.same
theorem Same.mod {H1 : Hp} (s : L2.Same H H1) (m : Mod H1 p o H') (f : H p = Option.none) : L2.Same H H' := fun c v e => by
  rw [m.off (fun z => by rw [z, f] at e; cases e)]
  exact s _ _ e
theorem Keep.same' (s : L2.Same H H') : Keep d H H' := fun b _ h2 => by
  cases e : H b with
  | none => exact absurd e h2
  | some u => exact s _ _ e
theorem Keep.none (k : Keep d H H') (hd : H d ≠ Option.none) (h : H' p = Option.none) (hp : H' d ≠ Option.none) : H p = Option.none := by
  cases e : H p with
  | none => rfl
  | some u =>
    have : p ≠ d := fun z => hp (by rw [← z]; exact h)
    rw [k.at this e] at h
    cases h
theorem Keep.new' {H1 : Hp} (k : Keep d H H1) (n : New H1 p o H') : Keep d H H' := n.keep k
theorem Keep.mod {H1 : Hp} (k : Keep d H H1) (m : Mod H1 p o H') (f : H p = Option.none) : Keep d H H' := fun b h1 h2 => by
  rw [m.off (fun z => h2 (by rw [z]; exact f))]
  exact k b h1 h2
theorem Keep.modd {H1 : Hp} (k : Keep d H H1) (m : Mod H1 d o H') : Keep d H H' := fun b h1 h2 => by
  rw [m.off h1]
  exact k b h1 h2
theorem Keep.fresh {D : Dr} (k : Keep D.d H H') (d : DrawsOk H D) (d' : DrawsOk H' D) (h : H' p = Option.none) : H p = Option.none := k.none d.some h d'.some
theorem Mod.draws {D : Dr} (m : Mod H p o H') (h : DrawsOk H D) (h1 : p ≠ D.d) (h2 : p ≠ D.L) : DrawsOk H' D := by rw [m.eq]; exact h.set h1 h2
theorem DrawsOk.neN {D : Dr} (hp : H p = Option.none) (h : DrawsOk H D) : p ≠ D.d := h.ne hp
theorem DrawsOk.neLN {D : Dr} (hp : H p = Option.none) (h : DrawsOk H D) : p ≠ D.L := h.neL hp
theorem neN (hp : H p = Option.none) (e : H b = Option.some u) : b ≠ p := ne_of_none e hp
theorem DrawsOk.ne' {D : Dr} (n : New H p o H') (h : DrawsOk H D) : p ≠ D.d := h.ne n.fr
theorem DrawsOk.neL' {D : Dr} (n : New H p o H') (h : DrawsOk H D) : p ≠ D.L := h.neL n.fr
theorem DrawsOk.atd {D : Dr} (h : DrawsOk H D) : ∃ xs, H D.d = Option.some (.lst xs) := by
  obtain ⟨_, _, _, _, e, _⟩ := h
  exact ⟨_, e⟩
theorem DrawsOk.atL {D : Dr} (h : DrawsOk H D) : ∃ xs, H D.L = Option.some (.lst xs) := by
  obtain ⟨_, _, _, _, _, _, e, _⟩ := h
  exact ⟨_, e⟩
def notL : HO → Bool
  | .lst _ => false
  | _ => true
theorem DrawsOk.other' {D : Dr} (h : DrawsOk H D) (e : H p = Option.some u) (k : notL u = true) : p ≠ D.d := fun z => by
  obtain ⟨xs, e'⟩ := h.atd
  rw [z, e'] at e
  cases e
  cases k
theorem DrawsOk.otherL {D : Dr} (h : DrawsOk H D) (e : H p = Option.some u) (k : notL u = true) : p ≠ D.L := fun z => by
  obtain ⟨xs, e'⟩ := h.atL
  rw [z, e'] at e
  cases e
  cases k
def Kl (H H' : Hp) : Prop := ∀ b o, H b = some o → notL o = true → H' b = some o
theorem Kl.refl (H : Hp) : Kl H H := fun _ _ e _ => e
theorem Kl.trans {H1 : Hp} (a : Kl H H1) (b : Kl H1 H') : Kl H H' := fun c o e k => b c o (a c o e k) k
theorem New.kl (n : New H p o H') : Kl H H' := fun _ _ e _ => n.old e
theorem Same.kl (s : L2.Same H H') : Kl H H' := fun _ _ e _ => s _ _ e
theorem Mod.kl (m : Mod H p o H') (e : H p = some (.lst xs)) : Kl H H' := fun b u h k => by
  rw [m.off (fun z => by rw [z, e] at h; cases h; cases k)]
  exact h
theorem Keep.kl {D : Dr} (k : Keep D.d H H') (h : DrawsOk H D) : Kl H H' := fun b u e n => k.at (h.other' e n) e
theorem Kl.at (k : Kl H H') (h : H p = some o) (n : notL o = true) : H' p = some o := k _ _ h n
theorem IsSt.kl {K : PySem.W.Frag} {v : V} {rs : List V} (h : IsSt K H v xs rs) (s : Kl H H') : IsSt K H' v xs rs := by
  obtain ⟨o, dx, p, q, e, h1, h2, h3⟩ := h
  exact ⟨o, dx, p, q, e, s _ _ h1 rfl, s _ _ h2 rfl, s _ _ h3 rfl⟩
end

theorem cutV_from {xs : List V} {k : Nat} : cutV xs (some (k : Int)) none = xs.drop k := by
  unfold cutV
  rw [HT.sIx_nat, HT.sIx_none]
  by_cases h : k ≤ xs.length
  · rw [Nat.min_eq_left h, List.take_of_length_le (by rw [List.length_drop]; omega)]
  · rw [Nat.min_eq_right (by omega), List.drop_of_length_le (Nat.le_refl _), List.drop_of_length_le (by omega), List.take_nil]
theorem cutV_to {xs : List V} {k : Nat} : cutV xs none (some (k : Int)) = xs.take k := by
  unfold cutV
  rw [HT.sIx_nat, HT.sIx_none, List.drop_zero, Nat.sub_zero]
  by_cases h : k ≤ xs.length
  · rw [Nat.min_eq_left h]
  · rw [Nat.min_eq_right (by omega), List.take_of_length_le (Nat.le_refl _), List.take_of_length_le (by omega)]
theorem cutV_btw {xs : List V} {k l : Nat} (h : k ≤ l) (hl : l ≤ xs.length) : cutV xs (some (k : Int)) (some (l : Int)) = (xs.drop k).take (l - k) := by
  unfold cutV
  rw [HT.sIx_nat, HT.sIx_nat, show min k xs.length = k by omega, show min l xs.length = l by omega]
theorem cutV_1 {xs : List V} : cutV xs (some 1) none = xs.drop 1 := cutV_from (k := 1)
theorem cutV_to1 {xs : List V} : cutV xs none (some 1) = xs.take 1 := cutV_to (k := 1)
section
variable {K : PySem.W.Frag} {g : TG} {σ : L2.St} {H : Hp} {te : TE} {us : List Nat} {Q : VK}
theorem seqAt_of {H H' : Hp} {a : Addr} {xs : List V} (hx : seqAt H a = some xs) (s : L2.Same H H') : H' a = H a := by
  unfold seqAt at hx
  cases ha : H a with
  | none => rw [ha] at hx; cases hx
  | some o => exact s _ _ ha
theorem comp_map {a : Addr} {xs : List V} (f : V → V) (hx : seqAt H a = some xs) (hl : xs.length ≤ 16777216)
    (hs : ∀ x H' (R : VK), x ∈ xs → L2.Same H H' → (∀ H4, L2.Same H' H4 → R (f x) H4) → g x (wipe σ us) H' fun σ2 H2 => wipe σ2 us = wipe σ us ∧ te σ2 H2 R)
    (hd : ∀ L H', H L = none → H' L = some (.lst (xs.map f)) → L2.Same H H' → Q (.ref L) H') : @CompU K (.ref a) us σ H ⟨g⟩ ⟨tYes⟩ ⟨te⟩ ⟨Q⟩ := by
  refine comp_seq hx (fun D i acc H' => L2.Same H H' ∧ H D = none ∧ H' D = some (.lst acc) ∧ acc = (xs.take i).map f) (fun D hD => ⟨same_new (L2.Same.refl H) hD, hD, upd_same, rfl⟩) (fun D i acc H' hD _ ⟨s, _⟩ => seqAt_of hx s) (fun D i x acc H' Nx hxi ⟨s, hD, e, ea⟩ hN => ?_) (fun D acc H' hD ⟨s, _, e, ea⟩ => ?_)
  · refine hs x H' (fun y H4 => ∃ acc, H4 D = some (.lst acc) ∧ acc.length < sizeLine ∧ Nx (upd H4 D (.lst (acc ++ [y])))) (List.mem_of_getElem? hxi) s fun H4 s4 => ?_
    have hi : i < xs.length := (List.getElem?_eq_some_iff.mp hxi).1
    refine ⟨acc, s4 _ _ e, ?_, hN (acc ++ [f x]) _ ⟨fun b u eb => ?_, hD, upd_same, ?_⟩⟩
    · rw [ea, List.length_map, List.length_take]
      show _ < 16777216
      omega
    · rw [upd_ne (ne_of_none eb hD)]
      exact s4 _ _ (s _ _ eb)
    · rw [ea, List.take_add_one, hxi, List.map_append]
      rfl
  · exact hd D H' hD (by rw [e, ea, List.take_of_length_le (Nat.le_refl _)]) s
theorem comp_rmap {lo : Int} {n : Nat} (f : Nat → V) (hn : n ≤ 16777216)
    (hs : ∀ i H' (R : VK), i < n → L2.Same H H' → (∀ H4, L2.Same H' H4 → R (f i) H4) → g (.int (lo + (i : Int))) (wipe σ us) H' fun σ2 H2 => wipe σ2 us = wipe σ us ∧ te σ2 H2 R)
    (hd : ∀ L H', H L = none → H' L = some (.lst ((List.range n).map f)) → L2.Same H H' → Q (.ref L) H') : @CompJ (Itr lo n) us σ H ⟨g⟩ ⟨tYes⟩ ⟨te⟩ ⟨Q⟩ := by
  refine comp_rng (fun D i acc H' => L2.Same H H' ∧ H D = none ∧ H' D = some (.lst acc) ∧ acc = (List.range i).map f) (fun D hD => ⟨same_new (L2.Same.refl H) hD, hD, upd_same, rfl⟩) (fun D i acc H' Nx hi ⟨s, hD, e, ea⟩ hN => ?_) (fun D acc H' hD ⟨s, _, e, ea⟩ => ?_)
  · refine hs i H' (fun y H4 => ∃ acc, H4 D = some (.lst acc) ∧ acc.length < sizeLine ∧ Nx (upd H4 D (.lst (acc ++ [y])))) hi s fun H4 s4 => ?_
    refine ⟨acc, s4 _ _ e, ?_, hN (acc ++ [f i]) _ ⟨fun b u eb => ?_, hD, upd_same, ?_⟩⟩
    · rw [ea, List.length_map, List.length_range]
      show _ < 16777216
      omega
    · rw [upd_ne (ne_of_none eb hD)]
      exact s4 _ _ (s _ _ eb)
    · rw [ea, List.range_succ, List.map_append]
      rfl
  · exact hd D H' hD (by rw [e, ea]) s
theorem comp_drawn {D : Dr} {lo : Int} {n : Nat} (P : V → Hp → Prop) (hP : ∀ v H1 H2, Kl H1 H2 → P v H1 → P v H2) (hd : DrawsOk H D) (hn : n ≤ 16777216)
    (hs : ∀ i H' (R : VK), i < n → DrawsOk H' D → Keep D.d H H' → (∀ y H4, P y H4 → DrawsOk H4 D → Keep D.d H' H4 → R y H4) → g (.int (lo + (i : Int))) (wipe σ us) H' fun σ2 H2 => wipe σ2 us = wipe σ us ∧ te σ2 H2 R)
    (q : ∀ L acc H', H L = none → H' L = some (.lst acc) → acc.length = n → (∀ y ∈ acc, P y H') → DrawsOk H' D → Keep D.d H H' → Q (.ref L) H') : @CompJ (Itr lo n) us σ H ⟨g⟩ ⟨tYes⟩ ⟨te⟩ ⟨Q⟩ := by
  refine comp_rng (fun L i acc H' => DrL D H L acc H' ∧ acc.length = i ∧ ∀ y ∈ acc, P y H') (fun L hL => ⟨DrL.start hd hL, rfl, fun v hv => absurd hv (List.not_mem_nil)⟩) (fun L i acc H' Nx hi ⟨p1, p2, p3⟩ hN => ?_) (fun L acc H' hL ⟨p1, p2, p3⟩ => ?_)
  · refine hs i H' (fun y H4 => ∃ acc, H4 L = some (.lst acc) ∧ acc.length < sizeLine ∧ Nx (upd H4 L (.lst (acc ++ [y])))) hi p1.dr p1.kp fun y H4 py d4 k4 => ?_
    have p4 := p1.draw d4 k4
    have kl : Kl H4 (upd H4 L (.lst (acc ++ [y]))) := Mod.kl ⟨rfl⟩ p4.at_
    refine ⟨acc, p4.at_, ?_, hN (acc ++ [y]) _ ⟨p4.push y, by rw [List.length_append, p2]; rfl, fun v hv => ?_⟩⟩
    · rw [p2]
      show _ < 16777216
      omega
    · rcases List.mem_append.mp hv with hv | hv
      · exact hP _ _ _ kl (hP _ _ _ (k4.kl p1.dr) (p3 v hv))
      · rw [List.mem_singleton.mp hv]
        exact hP _ _ _ kl py
  · exact q L acc H' hL p1.at_ p2 p3 p1.dr p1.kp
end

theorem okV_mark {v : V} {H : Hp} (h : isMarkV v = true) : okV H v := by
  cases v with
  | str z =>
    refine ⟨rfl, ?_⟩
    have h : isMarkS z = true := h
    unfold isMarkS at h
    simp only [Bool.and_eq_true, decide_eq_true_eq] at h
    exact Nat.le_trans h.1.2 (by decide)
  | _ => cases h
theorem okV_reg {v : V} {H : Hp} (h : isRegV v = true) : okV H v := by
  unfold isRegV at h
  by_cases e : v = .non
  · subst e; exact ⟨rfl, trivial⟩
  · rw [decide_eq_false e, Bool.false_or] at h
    exact okV_mark h
theorem c_StateL {K : PySem.W.Frag} {p q : Addr} {xs rs : List V} {H : Hp} {Q : VK} {E : XK} (h1 : H p = some (.lst xs)) (h2 : H q = some (.lst rs)) (ok : StOk xs rs)
    (h : ∀ v H', IsSt K H' v xs rs → L2.Same H H' → Q v H') : @Call (sp_State K) [.ref p, .ref q] H ⟨Q⟩ ⟨E⟩ :=
  ⟨p, q, xs, rs, rfl, .inl h1, .inl h2, fun v hv => okV_mark (ok.2.2.1 v hv), fun v hv => okV_reg (ok.2.2.2 v hv), fun _ => h, fun z => absurd ok z⟩
theorem c_StateE {K : PySem.W.Frag} {p q : Addr} {ys ts xs rs : List V} {H : Hp} {Q : VK} {E : XK} (ok : StOk xs rs) (h1 : H p = some (.lst ys)) (e1 : ys = xs) (h2 : H q = some (.lst ts)) (e2 : ts = rs)
    (h : ∀ v H', IsSt K H' v xs rs → L2.Same H H' → Q v H') : @Call (sp_State K) [.ref p, .ref q] H ⟨Q⟩ ⟨E⟩ := c_StateL (e1 ▸ h1) (e2 ▸ h2) ok h
theorem c_eqSt {K : PySem.W.Frag} {a b : V} {H : Hp} {Q : VK} {xs rs ys ts : List V} (h1 : IsSt K H a xs rs) (h2 : IsSt K H b ys ts) (ok1 : StOk xs rs) (ok2 : StOk ys ts) (q : Q (.bl (decide (xs = ys) && decide (rs = ts))) H) : @aR (rEqO (cSt K) (sp_State_eq K)) a b H ⟨Q⟩ := by
  have z : sp_State_eq K [a, b] H (kB fun c H' => Q (.bl c) H') E0 := ⟨a, b, xs, rs, ys, ts, rfl, h1, h2, ok1, ok2, q⟩
  obtain ⟨o, dx, p, q, rfl, e, _⟩ := h1
  obtain ⟨o2, dx2, p2, q2, rfl, e2, _⟩ := h2
  rw [r_eqO]
  exact OKi e (OKi e2 z)
theorem cutSt {xs rs : List V} (ok : StOk xs rs) (k : Nat) : StOk (xs.drop k) rs := ⟨by rw [List.length_drop]; have := ok.1; omega, ok.2.1, fun v hv => ok.2.2.1 v (List.mem_of_mem_drop hv), ok.2.2.2⟩
theorem okV_keep {H H' : Hp} {D : Dr} {v : V} (h : okV H v) (d : DrawsOk H D) (d' : DrawsOk H' D) (k : Keep D.d H H') : okV H' v := by
  refine ⟨?_, h.2⟩
  have h1 := h.1
  cases v with
  | ref p =>
    by_cases e : p = D.d
    · obtain ⟨xs, hx⟩ := d'.atd
      rw [e, tyV_ref, hx]
      rfl
    · have hp : H p ≠ none := fun z => by rw [tyV_ref, z] at h1; cases h1
      rw [tyV_ref, k p e hp, ← tyV_ref]
      exact h1
  | _ => exact h1
theorem all_map {xs : List V} {f : V → Bool} : (xs.map fun v => V.bl (f v)) = (xs.map f).map V.bl := by rw [List.map_map]; rfl
end U
end

section
namespace U
open PySem PySem.Spec PyProof.Rows L2 NumText TL
namespace Nm
abbrev isD (c : Nat) : Prop := 48 ≤ c ∧ c ≤ 57
theorem digs_mem {c : Nat} : c ∈ (Str.ofString "0123456789").cps.toList ↔ isD c := by
  have e : (Str.ofString "0123456789").cps.toList = [48, 49, 50, 51, 52, 53, 54, 55, 56, 57] := by decide +kernel
  rw [e]
  simp only [List.mem_cons, List.not_mem_nil, or_false]
  unfold isD
  omega
theorem dv_from (cs : List Nat) : ∀ a : Nat, cs.foldl (fun acc c => acc * 10 + (c - 48)) a = a * 10 ^ cs.length + digitsVal cs := by
  unfold digitsVal
  induction cs with
  | nil => intro a; simp
  | cons c cs ih =>
    intro a
    rw [List.foldl_cons, ih, List.foldl_cons, ih (0 * 10 + (c - 48)), List.length_cons, Nat.pow_succ]
    rw [Nat.add_mul, Nat.add_mul, Nat.mul_assoc, Nat.mul_comm (10 ^ cs.length) 10]
    omega
theorem dv_app (a b : List Nat) : digitsVal (a ++ b) = digitsVal a * 10 ^ b.length + digitsVal b := by
  show (a ++ b).foldl _ 0 = _
  rw [List.foldl_append, dv_from]
  rfl
theorem dv_one {c : Nat} : digitsVal [c] = c - 48 := by
  unfold digitsVal
  simp
theorem dv_snoc (a : List Nat) (c : Nat) : digitsVal (a ++ [c]) = digitsVal a * 10 + (c - 48) := by
  rw [dv_app, dv_one]
  rfl
theorem dv_lt : ∀ {cs : List Nat}, AllDigits cs → digitsVal cs < 10 ^ cs.length := fun {cs} => by
  induction cs with
  | nil => intro _; decide
  | cons c cs ih =>
    intro h
    have e := dv_app [c] cs
    rw [dv_one] at e
    rw [show c :: cs = [c] ++ cs from rfl, e, List.length_append, List.length_singleton, Nat.pow_add, Nat.pow_one]
    have i := ih h.tail
    have hc := h.head
    have : (c - 48) * 10 ^ cs.length ≤ 9 * 10 ^ cs.length := Nat.mul_le_mul_right _ (by omega)
    omega
theorem canon1 : ∀ (n : Nat) {cs : List Nat}, cs.length = n → AllDigits cs → cs ≠ [] → cs[0]? ≠ some 48 → 1 ≤ digitsVal cs ∧ numL (digitsVal cs) = cs := by
  intro n
  induction n with
  | zero => intro cs e _ h; exact absurd (List.length_eq_zero_iff.mp e) h
  | succ n ih =>
    intro cs e ha hn h0
    obtain ⟨xs, c, rfl⟩ : ∃ xs c, cs = xs ++ [c] := ⟨cs.dropLast, cs.getLast hn, (List.dropLast_concat_getLast hn).symm⟩
    have hc : isD c := ha c (by simp)
    rw [List.length_append, List.length_singleton] at e
    rw [dv_snoc]
    by_cases hx : xs = []
    · subst hx
      have hne : c ≠ 48 := fun z => h0 (by rw [z]; rfl)
      rw [show digitsVal [] = 0 from rfl, Nat.zero_mul, Nat.zero_add]
      unfold isD at hc
      refine ⟨by omega, ?_⟩
      rw [numL_lt (by omega)]
      rw [show 48 + (c - 48) = c by omega]
      rfl
    · have ax : AllDigits xs := fun d hd => ha d (List.mem_append_left _ hd)
      have hl : 0 < xs.length := List.length_pos_iff.mpr hx
      obtain ⟨i1, i2⟩ := ih (by omega) ax hx (by rw [List.getElem?_append_left hl] at h0; exact h0)
      unfold isD at hc
      refine ⟨by omega, ?_⟩
      rw [numL_step (by omega), show (digitsVal xs * 10 + (c - 48)) / 10 = digitsVal xs by omega, show 48 + (digitsVal xs * 10 + (c - 48)) % 10 = c by omega, i2]
theorem canon {cs : List Nat} (ha : AllDigits cs) (hn : cs ≠ []) (h : cs = [48] ∨ cs[0]? ≠ some 48) : numL (digitsVal cs) = cs := by
  rcases h with rfl | h
  · decide +kernel
  · exact (canon1 _ rfl ha hn h).2
def padD : Nat → Nat → List Nat
  | 0, _ => []
  | k + 1, r => padD k (r / 10) ++ [48 + r % 10]
theorem padD_len : ∀ k r, (padD k r).length = k
  | 0, _ => rfl
  | k + 1, r => by rw [padD, List.length_append, padD_len k]; rfl
theorem padD_zero : ∀ k, padD k 0 = List.replicate k 48
  | 0 => rfl
  | k + 1 => by rw [padD, Nat.zero_div, padD_zero k, List.replicate_succ']
theorem padD_mod : ∀ k r, padD k (r % 10 ^ k) = padD k r
  | 0, _ => rfl
  | k + 1, r => by
    rw [padD, padD]
    have e1 : r % 10 ^ (k + 1) % 10 = r % 10 := Nat.mod_mod_of_dvd _ ⟨10 ^ k, by rw [Nat.pow_succ, Nat.mul_comm]⟩
    have e2 : r % 10 ^ (k + 1) / 10 = r / 10 % 10 ^ k := by
      rw [Nat.pow_succ, Nat.mul_comm, Nat.mod_mul_right_div_self]
    rw [e1, e2, padD_mod k]
theorem padD_num : ∀ k r, 1 ≤ k → r < 10 ^ k → List.replicate (k - (numL r).length) 48 ++ numL r = padD k r := by
  intro k
  induction k with
  | zero => intro r h; omega
  | succ k ih =>
    intro r _ hr
    by_cases h : r < 10
    · rw [numL_lt h, padD, Nat.div_eq_of_lt h, padD_zero, Nat.mod_eq_of_lt h]
      rfl
    · have hk : 1 ≤ k := by
        rcases Nat.eq_zero_or_pos k with z | z
        · subst z; omega
        · exact z
      have hd : r / 10 < 10 ^ k := by
        rw [Nat.pow_succ] at hr
        omega
      rw [numL_step (by omega), List.length_append, List.length_singleton, Nat.add_sub_add_right, ← List.append_assoc, ih _ hk hd]
      rfl
theorem numL_block : ∀ k n, 10 ^ k ≤ n → numL n = numL (n / 10 ^ k) ++ padD k (n % 10 ^ k) := by
  intro k
  induction k with
  | zero => intro n _; rw [Nat.pow_zero, Nat.div_one, padD, List.append_nil]
  | succ k ih =>
    intro n hn
    have hp : 0 < 10 ^ k := Nat.pow_pos (by decide)
    have h1 : 10 ^ k ≤ n / 10 := by
      rw [Nat.pow_succ] at hn
      exact (Nat.le_div_iff_mul_le (by decide)).mpr hn
    have h10 : 10 ≤ n := by
      rw [Nat.pow_succ] at hn
      have : 1 * 10 ≤ 10 ^ k * 10 := Nat.mul_le_mul_right _ hp
      omega
    rw [numL_step h10, ih _ h1, padD_mod, padD_mod, List.append_assoc, padD, Nat.div_div_eq_div_mul, Nat.pow_succ, Nat.mul_comm 10]
def numT (n : Int) : List Nat := (if n < 0 then [45] else []) ++ numL n.natAbs
def sg (l : List Nat) : Nat := if l[0]? = some 45 then 1 else 0
def bad (l : List Nat) (s k : Nat) : Prop := ∃ c, l[k]? = some c ∧ (¬ isD c ∨ (k = s ∧ c = 48 ∧ s = 1) ∨ (k = s + 1 ∧ l[s]? = some 48))
inductive Wr (l : List Nat) : Option Nat → Prop
  | empty : l.length = sg l → Wr l (some (sg l))
  | at (k : Nat) : l.length ≠ sg l → sg l ≤ k → bad l (sg l) k → (∀ j, sg l ≤ j → j < k → ¬ bad l (sg l) j) → Wr l (some k)
  | fine : l.length ≠ sg l → (∀ j, sg l ≤ j → j < l.length → ¬ bad l (sg l) j) → Wr l none
theorem sg_le {l : List Nat} : sg l ≤ l.length := by
  unfold sg
  split
  · rename_i h
    have : 0 < l.length := by
      rcases Nat.eq_zero_or_pos l.length with z | z
      · rw [List.length_eq_zero_iff.mp z] at h; cases h
      · exact z
    omega
  · omega
theorem bad_lt {l : List Nat} {s k : Nat} (h : bad l s k) : k < l.length := by
  obtain ⟨c, e, _⟩ := h
  exact (List.getElem?_eq_some_iff.mp e).1
theorem Wr.det {l : List Nat} {a b : Option Nat} (h1 : Wr l a) (h2 : Wr l b) : a = b := by
  cases h1 with
  | empty e => cases h2 with
    | empty _ => rfl
    | «at» k n _ _ _ => exact absurd e n
    | fine n _ => exact absurd e n
  | «at» k n hk bk mk => cases h2 with
    | empty e => exact absurd e n
    | «at» j _ hj bj mj =>
      rcases Nat.lt_trichotomy k j with x | x | x
      · exact absurd bk (mj k hk x)
      · rw [x]
      · exact absurd bj (mk j hj x)
    | fine _ f => exact absurd bk (f k hk (bad_lt bk))
  | fine n f => cases h2 with
    | empty e => exact absurd e n
    | «at» k _ hk bk _ => exact absurd bk (f k hk (bad_lt bk))
    | fine _ _ => rfl
theorem Wr.good {l : List Nat} (h : Wr l none) : AllDigits (l.drop (sg l)) ∧ l.drop (sg l) ≠ [] ∧ l = (if sg l = 1 then [45] else []) ++ l.drop (sg l) ∧ numL (digitsVal (l.drop (sg l))) = l.drop (sg l) ∧ (sg l = 1 → 1 ≤ digitsVal (l.drop (sg l))) := by
  cases h with
  | fine n f =>
    have le := sg_le (l := l)
    have hd : AllDigits (l.drop (sg l)) := fun c hc => by
      obtain ⟨i, hi, e⟩ := List.mem_iff_getElem.mp hc
      rw [List.length_drop] at hi
      rw [List.getElem_drop] at e
      have b := f (sg l + i) (by omega) (by omega)
      refine Classical.byContradiction fun hn => b ⟨c, ?_, .inl hn⟩
      rw [List.getElem?_eq_getElem (by omega), e]
    have hn : l.drop (sg l) ≠ [] := fun z => by
      have := congrArg List.length z
      rw [List.length_drop, List.length_nil] at this
      omega
    have h0 : (l.drop (sg l))[0]? = some 48 → l.drop (sg l) = [48] ∧ sg l ≠ 1 := fun z => by
      rw [List.getElem?_drop, Nat.add_zero] at z
      constructor
      · have b := fun h => f (sg l + 1) (by omega) h
        have : l.length = sg l + 1 := Classical.byContradiction fun hl => by
          have hlt : sg l + 1 < l.length := by omega
          exact b hlt ⟨_, List.getElem?_eq_getElem hlt, .inr (.inr ⟨rfl, z⟩)⟩
        have e : (l.drop (sg l)).length = 1 := by rw [List.length_drop]; omega
        obtain ⟨a, ea⟩ := List.length_eq_one_iff.mp e
        rw [ea]
        have z2 : (l.drop (sg l))[0]? = some 48 := by rw [List.getElem?_drop, Nat.add_zero]; exact z
        rw [ea] at z2
        simpa using z2
      · intro s1
        exact f (sg l) (Nat.le_refl _) (by omega) ⟨48, z, .inr (.inl ⟨rfl, rfl, s1⟩)⟩
    refine ⟨hd, hn, ?_, ?_, fun s1 => ?_⟩
    · by_cases s1 : sg l = 1
      · rw [if_pos s1, s1]
        have h1 : l[0]? = some 45 := by
          unfold sg at s1
          split at s1
          · assumption
          · cases s1
        cases l with
        | nil => cases h1
        | cons a l =>
          have : a = 45 := by simpa using h1
          subst this
          rfl
      · have : sg l = 0 := by
          unfold sg at s1 ⊢
          split <;> simp_all
        rw [if_neg s1, this]
        rfl
    · refine canon hd hn ?_
      by_cases z : (l.drop (sg l))[0]? = some 48
      · exact .inl (h0 z).1
      · exact .inr z
    · refine (canon1 _ rfl hd hn fun z => (h0 z).2 s1).1
def val (l : List Nat) : Int := if sg l = 1 then -(digitsVal (l.drop (sg l)) : Int) else (digitsVal (l.drop (sg l)) : Int)
theorem Wr.back {l : List Nat} (h : Wr l none) : numT (val l) = l := by
  obtain ⟨_, _, e, c, p⟩ := h.good
  unfold numT val
  by_cases s1 : sg l = 1
  · have := p s1
    rw [if_pos s1, if_pos (by omega), Int.natAbs_neg, Int.natAbs_natCast, c]
    rw [if_pos s1] at e
    exact e.symm
  · rw [if_neg s1, if_neg (by omega), Int.natAbs_natCast, c]
    rw [if_neg s1] at e
    exact e.symm
theorem numL_head {n : Nat} (h : 10 ≤ n) : (numL n)[0]? ≠ some 48 := by
  induction n using Nat.strongRecOn with
  | _ n ih =>
    rw [numL_step h]
    have hl : 0 < (numL (n / 10)).length := List.length_pos_iff.mpr (numL_ne _)
    rw [List.getElem?_append_left hl]
    by_cases h2 : 10 ≤ n / 10
    · exact ih _ (by omega) h2
    · rw [numL_lt (by omega)]
      intro e
      have : 48 + n / 10 = 48 := by simpa using e
      omega
theorem sg_numT {n : Int} : sg (numT n) = if n < 0 then 1 else 0 := by
  unfold sg numT
  by_cases h : n < 0
  · rw [if_pos h, if_pos h]
    rfl
  · rw [if_neg h, if_neg h, List.nil_append, if_neg]
    intro e
    have hm := List.mem_of_getElem? e
    have := numL_digits _ _ hm
    omega
theorem numT_fine (n : Int) : Wr (numT n) none := by
  have es := sg_numT (n := n)
  have hl : 0 < (numL n.natAbs).length := List.length_pos_iff.mpr (numL_ne _)
  have ed : (numT n).drop (sg (numT n)) = numL n.natAbs := by
    rw [es]
    unfold numT
    by_cases h : n < 0
    · rw [if_pos h, if_pos h]
      rfl
    · rw [if_neg h, if_neg h]
      rfl
  have ll : (numT n).length = sg (numT n) + (numL n.natAbs).length := by
    have := congrArg List.length ed
    rw [List.length_drop] at this
    have := sg_le (l := numT n)
    omega
  have at_ : ∀ i, (numT n)[sg (numT n) + i]? = (numL n.natAbs)[i]? := fun i => by rw [← ed, List.getElem?_drop]
  refine .fine (by omega) fun j hj hj2 ⟨c, e, b⟩ => ?_
  obtain ⟨i, rfl⟩ := Nat.exists_eq_add_of_le hj
  rw [at_] at e
  have hc := numL_digits _ _ (List.mem_of_getElem? e)
  rcases b with b | ⟨b1, b2, b3⟩ | ⟨b1, b2⟩
  · exact b hc
  · have hi : i = 0 := by omega
    subst hi
    rw [es] at b3
    split at b3
    · rename_i hn
      by_cases h10 : 10 ≤ n.natAbs
      · exact numL_head h10 (by rw [e, b2])
      · rw [numL_lt (by omega)] at e
        have : 48 + n.natAbs = c := by simpa using e
        omega
    · cases b3
  · have hi : i = 1 := by omega
    subst hi
    have b2 : (numT n)[sg (numT n) + 0]? = some 48 := b2
    rw [at_] at b2
    by_cases h10 : 10 ≤ n.natAbs
    · exact numL_head h10 b2
    · rw [numL_lt (by omega)] at e
      cases e
theorem val_numT (n : Int) : val (numT n) = n := by
  have es := sg_numT (n := n)
  have ed : (numT n).drop (sg (numT n)) = numL n.natAbs := by
    rw [es]
    unfold numT
    by_cases h : n < 0
    · rw [if_pos h, if_pos h]
      rfl
    · rw [if_neg h, if_neg h]
      rfl
  unfold val
  rw [ed, numL_val, es]
  by_cases h : n < 0
  · rw [if_pos h, if_pos rfl]
    omega
  · rw [if_neg h, if_neg (by decide)]
    omega
theorem cut1 {z : Str} : (cutS z none (some 1) = Str.ofString "-") = (sg (tl z) = 1) := by
  have e1 : tl (cutS z none (some 1)) = (tl z).take 1 := by
    show ((z.cps.toList.drop 0).take (min (Int.toNat 1) z.length - 0)) = _
    rw [List.drop_zero, Nat.sub_zero]
    show (tl z).take (min 1 z.length) = _
    rw [len_tl z, ← List.take_take, List.take_of_length_le (Nat.le_refl _)]
  have e2 : tl (Str.ofString "-") = [45] := by decide +kernel
  have e3 : (cutS z none (some 1) = Str.ofString "-") = ((tl z).take 1 = [45]) := propext ⟨fun h => by
    rw [← e1, h, e2], fun h => ext_tl (by rw [e1, h, e2])⟩
  rw [e3]
  unfold sg
  cases tl z with
  | nil => simp
  | cons a l => simp
theorem joinL_nil : ∀ l : List (List Nat), joinL [] l = l.flatten
  | [] => rfl
  | [p] => by simp [joinL]
  | p :: q :: r => by
    rw [joinL, joinL_nil (q :: r), List.nil_append, List.flatten_cons (l := p)]
theorem join0 (ys : List Str) : tl (Txt.join (Str.ofString "") ys) = (ys.map tl).flatten := by
  have e0 : tl (Str.ofString "") = [] := by decide +kernel
  rw [join_eq, tl_join, e0, joinL_nil]
theorem join0_len (ys : List Str) : (Txt.join (Str.ofString "") ys).length = (ys.map (·.length)).sum := by
  rw [len_tl, join0, List.length_flatten, List.map_map]
  rfl
theorem sg01 (l : List Nat) : sg l = 0 ∨ sg l = 1 := by
  unfold sg
  split <;> simp
end Nm
section
open Nm
theorem r_sgn {z : Str} {H : Hp} {Q : VK} : @aC rIntCall [.bl (decide (V.str (cutS z none (some 1)) = V.str (Str.ofString "-")))] H ⟨Q⟩ = Q (.int ((sg (tl z) : Nat) : Int)) H := by
  rw [r_intB]
  simp only [V.str.injEq, cut1]
  rcases sg01 (tl z) with h | h <;> rw [h] <;> rfl
def a3 (vs : List V) [k : Kp (Int → Int → Int → Prop)] : Prop := match vs with
  | [.int i, .int j, .int c] => k.val i j c
  | _ => False
theorem a3_int {i j c : Int} {k : Int → Int → Int → Prop} : @a3 [.int i, .int j, .int c] ⟨k⟩ = k i j c := rfl
def RgJ (i j c : Int) (k : Nat → Prop) : Prop := ∃ n, RgC i j c n ∧ k n
theorem r_for3u {g : TG} {tb : TS} {ts : TA} {D : Ends} {σ : L2.St} {H : Hp} : tFor (iRng3 ts) g tb D σ H = ts σ H fun vs H1 => @a3 vs ⟨fun i j c => RgJ i j c fun n => @LoopJ (Itc i c n) σ H1 ⟨g⟩ ⟨tb⟩ ⟨D⟩⟩ := by
  rw [r_for3]
  congr 1
  funext vs H1
  refine propext ⟨fun ⟨i, j, c, n, e, r, q⟩ => by rw [e]; exact ⟨n, r, q⟩, fun h => ?_⟩
  unfold a3 at h
  split at h
  · obtain ⟨n, r, q⟩ := h
    exact ⟨_, _, _, n, rfl, r, q⟩
  · exact h.elim
end
end U
end

section
namespace U
open PySem PySem.Spec PyProof.Rows L2
section
variable {K : PySem.W.Frag} {g : TG} {tb : TS} {D : Ends} {σ : L2.St} {H : Hp} {a : Addr} {xs : List V} {ts : TA}
def EnumU (K : PySem.W.Frag) (vs : List V) (σ : L2.St) (H : Hp) [g : Kp TG] [tb : Kp TS] [D : Kp Ends] : Prop := ∃ a xs, vs = [.ref a] ∧ SqL K H a xs ∧ loopJ (Ite K a) g.val tb.val D.val σ H
theorem r_forE : tFor (iEnum K ts) g tb D σ H = ts σ H fun vs H1 => @EnumU K vs σ H1 ⟨g⟩ ⟨tb⟩ ⟨D⟩ := rfl
theorem loop_enum (hx : H a = some (.lst xs)) (Pv : Nat → L2.St → Hp → Prop) (h0 : Pv 0 σ H) (hG : ∀ i σ H', i ≤ xs.length → Pv i σ H' → H' a = some (.lst xs))
    (hs : ∀ i x σ H' T H1, xs[i]? = some x → Pv i σ H' → New H' T (.tup [.int (i : Int), x]) H1 → g (.ref T) σ H1 fun σ2 H2 => tb { D with nx := Pv (i + 1), ct := Pv (i + 1), bk := D.nx } σ2 H2)
    (hd : ∀ σ H, Pv xs.length σ H → D.nx σ H) : @EnumU K [.ref a] σ H ⟨g⟩ ⟨tb⟩ ⟨D⟩ :=
  ⟨a, xs, rfl, .inl (.inl hx), for_it (walk_enum (K := K) (a := a) (xs := xs)) Pv h0 (fun i σ H' hi p => .inl (.inl (hG i σ H' hi p))) (fun i v σ H' H1 _ p y => by
    obtain ⟨T, x, y, rfl, h1, rfl, h3, h4⟩ := y
    cases h3
    exact hs i y σ H' T _ h4 p ⟨h1, rfl⟩) hd⟩
end
theorem comp_strf {K : PySem.W.Frag} {g : TG} {σ : L2.St} {H : Hp} {te : TE} {us : List Nat} {Q : VK} {z : Str} (f : Nat → V) (hz : z.length ≤ 16777216)
    (hs : ∀ c H' (R : VK), c ∈ z.cps.toList → L2.Same H H' → R (f c) H' → g (.str ⟨#[c]⟩) (wipe σ us) H' fun σ2 H2 => wipe σ2 us = wipe σ us ∧ te σ2 H2 R)
    (hd : ∀ L H', H L = none → H' L = some (.lst (z.cps.toList.map f)) → L2.Same H H' → Q (.ref L) H') : @CompU K (.str z) us σ H ⟨g⟩ ⟨tYes⟩ ⟨te⟩ ⟨Q⟩ := by
  have ec : ∀ i : Nat, z.cps[i]? = z.cps.toList[i]? := fun i => Array.getElem?_toList.symm
  have el : z.cps.size = z.cps.toList.length := rfl
  refine comp_str (fun D i acc H' => L2.Same H H' ∧ H D = none ∧ H' D = some (.lst acc) ∧ acc = (z.cps.toList.take i).map f) (fun D hD => ⟨fun b u e => by rw [upd_ne (ne_of_none e hD)]; exact e, hD, upd_same, rfl⟩) (fun D i c acc H' Nx hc ⟨s, hD, e, ea⟩ hN => ?_) (fun D acc H' hD ⟨s, _, e, ea⟩ => ?_)
  · rw [ec] at hc
    refine hs c H' (fun y H4 => ∃ acc, H4 D = some (.lst acc) ∧ acc.length < sizeLine ∧ Nx (upd H4 D (.lst (acc ++ [y])))) (List.mem_of_getElem? hc) s ?_
    have hi : i < z.cps.toList.length := (List.getElem?_eq_some_iff.mp hc).1
    refine ⟨acc, e, ?_, hN (acc ++ [f c]) _ ⟨fun b u eb => ?_, hD, upd_same, ?_⟩⟩
    · rw [ea, List.length_map, List.length_take]
      show _ < 16777216
      have : z.length = z.cps.toList.length := rfl
      omega
    · rw [upd_ne (ne_of_none eb hD)]
      exact s _ _ eb
    · rw [ea, List.take_add_one, hc, List.map_append]
      rfl
  · exact hd D H' hD (by rw [e, ea, List.take_of_length_le (by omega)]) s
theorem rgcN {c a b n : Nat} (hc : 0 < c) (hc2 : c ≤ 1000) (ha : a < 2 ^ 50) (hb : b < 2 ^ 50) (h : b ≤ a + c * n) (h2 : n = 0 ∨ a + c * (n - 1) < b) : RgC (a : Int) (b : Int) (c : Int) n := by
  have hn : n < 2 ^ 51 := by
    rcases h2 with h2 | h2
    · omega
    · have : 1 * (n - 1) ≤ c * (n - 1) := Nat.mul_le_mul_right _ hc
      omega
  have e : Builtin.Range.rangeSize (a : Int) (b : Int) (c : Int) = (n : Int) := by
    unfold Builtin.Range.rangeSize
    rw [if_pos (by omega)]
    rcases h2 with h2 | h2
    · subst h2
      rw [if_neg (by omega)]
      rfl
    · have hn0 : 0 < n := by
        rcases Nat.eq_zero_or_pos n with z | z
        · subst z
          omega
        · exact z
      have hab : a < b := by
        have := Nat.zero_le (c * (n - 1))
        omega
      rw [if_pos (by omega)]
      have e1 : (b : Int) - (a : Int) - 1 = ((b - a - 1 : Nat) : Int) := by omega
      rw [e1, ← Int.natCast_ediv]
      have : (b - a - 1) / c = n - 1 := by
        refine Nat.div_eq_of_lt_le ?_ ?_
        · rw [Nat.mul_comm]; omega
        · rw [show n - 1 + 1 = n by omega, Nat.mul_comm]; omega
      rw [this]
      omega
  refine ⟨by omega, by omega, ?_, e⟩
  unfold Builtin.Range.small
  rw [e]
  simp only [Builtin.Range.rangeFitsLong, Bool.and_eq_true, Bool.or_eq_true, decide_eq_true_eq, beq_iff_eq, if_pos (show ((c : Int) > 0) by omega)]
  omega
theorem sum_len_le {m : Nat} : ∀ ys : List Str, (∀ y ∈ ys, y.length ≤ m) → (ys.map (·.length)).sum ≤ ys.length * m
  | [], _ => Nat.zero_le _
  | y :: ys, h => by
    have h1 := h y (List.mem_cons_self ..)
    have h2 := sum_len_le ys fun z hz => h z (List.mem_cons_of_mem _ hz)
    rw [List.map_cons, List.sum_cons, List.length_cons, Nat.add_mul, Nat.one_mul]
    omega
theorem sum_len_one : ∀ ys : List Str, (∀ y ∈ ys, y.length = 1) → (ys.map (·.length)).sum = ys.length
  | [], _ => rfl
  | y :: ys, h => by
    have h1 := h y (List.mem_cons_self ..)
    have h2 := sum_len_one ys fun z hz => h z (List.mem_cons_of_mem _ hz)
    rw [List.map_cons, List.sum_cons, List.length_cons, h1, h2]
    omega
theorem joinE.by {L : Addr} {ys : List Str} {H : Hp} {Q : VK} (h : H L = some (.lst (ys.map V.str))) (hs : (ys.map (·.length)).sum ≤ 16000000) (q : ∀ z, z.length = (ys.map (·.length)).sum → TL.tl z = (ys.map TL.tl).flatten → Q (.str z) H) : @aM rJoinU (.str (Str.ofString "")) [.ref L] H ⟨Q⟩ :=
  have lz : (Str.ofString "").length = 0 := by decide +kernel
  ⟨_, _, ys, rfl, rfl, h, by rw [lz]; omega, q _ (Nm.join0_len ys) (Nm.join0 ys)⟩
theorem str_add_len (u w : Str) : (u ++ w).length = u.length + w.length := by rw [TL.len_tl, TL.tl_append, List.length_append, ← TL.len_tl, ← TL.len_tl]
end U
end

section
namespace U
open PySem PySem.Spec PyProof.Rows L2
section
variable {prog : Program} {w : World} {A : Around} {s : Shared} {d it : Addr} {i ep : Nat} {kvs : List (Key × Value)}
theorem special_end {Q : Option Value → Shared → Prop} {Er : Value → Shared → Prop} (hh : A.handled = none) (hit : s.heap.IsKeyIter it d i kvs.length ep) (hm : s.heap.DictAt (mixKind prog w) d kvs ep) (hx : kvs.length ≤ i)
    (hE : ∀ h' e, Heap.ExtBut it s.heap h' → (∃ o, h'.get? e = some o ∧ o.cls = .type "StopIteration") → Er (.ref e) { s with heap := h' }) : wpAny (model prog w) A (callSpecial? (.ref it) (Str.ofString "__next__")) Q Er s := by
  obtain ⟨o, ho, hc, hd⟩ := id hit
  obtain ⟨od, es, hod, hcd, hdd, hk, hp, hn⟩ := id hm
  apply wpAny_callSpecial?_slot (name := Str.ofString "__next__") hit.typeIs F.slot_dict_keyiterator_next
  refine wpAny_call_entry F.slot_dict_keyiterator_next hit.typeIs F.entry_dict_keyiterator_next ?_ (F.args_dict_keyiterator_next_1 _)
  refine wpAny_bind ?_; refine wpAny_pure ?_; refine wpAny_bind ?_; refine wpAny_bind ?_
  first
    | refine wpAny_bind (wpAny_typeNameOfWhole_keyiter hit.typeIs (wpAny_pure ?_))
    | refine wpAny_bind (wpAny_typeNameOf_keyiter hit.typeIs (wpAny_pure ?_))
  refine wpAny_bind (wpAny_fieldsOf ho hd ?_)
  simp only [show Builtin.Dict_items.ownsTuple "dict_keyiterator" = false by decide, Bool.false_eq_true, if_false]
  show wpAny _ _ (ite ((Value.ref d == Value.none) = true) _ _) _ _ s
  rw [if_neg (show ¬ ((Value.ref d == Value.none) = true) by exact Bool.false_ne_true)]
  refine wpAny_bind ?_; refine wpAny_pure ?_; refine wpAny_bind (wpAny_dictEntries hod hdd ?_)
  have hsz : es.size = kvs.length := by have := hp.length; simpa using this
  rw [if_neg (by simp [hsz])]
  refine wpAny_bind ?_; refine wpAny_pure ?_; refine wpAny_bind (wpAny_dictEpoch hod hdd ?_)
  rw [if_neg (by simp)]
  refine wpAny_pure ?_
  simp only [if_neg (show ¬ ((i : Int) < 0) by omega), Int.toNat_natCast, Array.getElem?_eq_none (show es.size ≤ i by omega)]
  refine wpAny_bind ?_
  first
    | refine wpAny_bind (wpAny_typeNameOfWhole_keyiter hit.typeIs (wpAny_pure ?_))
    | refine wpAny_bind (wpAny_typeNameOf_keyiter hit.typeIs (wpAny_pure ?_))
  show wpAny _ _ (PySem.setField (.ref it) 0 .none >>= _) _ _ s
  refine wpAny_bind (wpAny_setField ho hd (by simp) ?_)
  show wpAny _ _ (PySem.newExc (.type "StopIteration") [] >>= _) _ _ _
  refine wpAny_bind ?_
  simp only [newExc, newTuple]
  refine wpAny_bind (wpAny_newObj_type ?_ (by size_fits))
  refine wpAny_bind (m := firstArgMember _ _) (wpAny_of_eq (a := Value.none) (by first | rfl | (simp only [firstArgMember]; rfl)) ?_)
  refine wpAny_newObj_type ?_ (by size_fits)
  simp only [raiseNew]
  refine wpAny_bind (wpAny_handled ?_)
  rw [show A.in1.handled = none from hh]
  refine wpAny_bind (wpAny_pure (wpAny_throw ?_))
  exact hE _ _ (((Heap.SameBut.update ..).extBut.push _).push _) ⟨_, Heap.get?_push_size _ rfl, rfl⟩
theorem drawsKeys (hh : A.handled = none) (hne : d ≠ it) : Draws prog w A it [it, d] kvs.length (fun i v => ∃ k x, kvs[i]? = some (k, x) ∧ (mixKind prog w).is k v = true) (fun i h => h.IsKeyIter it d i kvs.length ep ∧ h.DictAt (mixKind prog w) d kvs ep) where
  live := fun _ _ st => let ⟨o, ho, _⟩ := st.1; ⟨o, ho⟩
  frame := fun _ _ _ st hk => ⟨st.1.at fun o e => hk it (by simp) o e, let ⟨o, es, ho, r⟩ := st.2; ⟨o, es, hk d (by simp) o ho, r⟩⟩
  item := fun i s Q E hi st hQ => by
    obtain ⟨⟨k, x⟩, hx⟩ : ∃ p, kvs[i]? = some p := ⟨_, List.getElem?_eq_getElem hi⟩
    unfold Builtin.SmallTypes.nextOf
    refine wpAny_bind (PySem.W.kdk_special st.1 st.2 hx fun key h' hkey hit' hs => wpAny_pure ?_)
    refine hQ key h' s.toks ⟨k, x, hx, hkey⟩ ⟨hit', ?_⟩ hs
    obtain ⟨o, es, ho, r⟩ := st.2
    exact ⟨o, es, hs.extBut _ _ hne ho, r⟩
  done := fun s Q E st hE => by
    unfold Builtin.SmallTypes.nextOf
    exact wpAny_bind (special_end hh st.1 st.2 (Nat.le_refl _) hE)
end
theorem enumNewT (l : Addr) (its : Array Value) (n : Nat) (dct : Option Addr) (sl : Array (Option Value)) :
    Meets (Builtin.«enumerate.__new__» ⟨[.type "enumerate", .ref l], []⟩) (fun _ R s => s.heap.get? l = some { cls := .type "tuple", dict := dct, data := .seq its n, slots := sl } ∧
      R (.ok (.ret (.ref (s.heap.push { cls := .type "tuple_iterator", data := .fields #[.ref l, .int 0 0] }).objs.size)))
        { s with heap := (s.heap.push { cls := .type "tuple_iterator", data := .fields #[.ref l, .int 0 0] }).push { cls := .type "enumerate", data := .fields #[.none, .bool false, .ref s.heap.objs.size, rawInt 0, .none, .none] } }) :=
  Meets.of_wp fun prog w A R s hh => by
    have es := sub_enumerate
    obtain ⟨hp, g, d, tk, os⟩ := s
    obtain ⟨hl, h⟩ := hh
    have hT : Heap.IsTuple (Shared.heap ⟨hp, g, d, tk, os⟩) l its := ⟨_, hl, rfl, n, rfl⟩
    wp_walk using AutoSeq1.wpAny_loadPart' hl
    refine wpAny_stack_any fun st => wpAny_pure ?_
    split
    · rename_i c _ _ _ _ _
      cases (c == Value.type "enumerate") <;> (wp_walk using AutoSeq1.wpAny_loadPart' hl, wpAny_pyIter_tuple hT; exact ⟨_, rfl, h⟩)
    · wp_walk using AutoSeq1.wpAny_loadPart' hl, wpAny_pyIter_tuple hT
      exact ⟨_, rfl, h⟩
theorem enumNewD (l : Addr) (od : Obj) (ee : Array DictEntry) (ep : Nat) (hs : (l == sysModules) = false) (hx : od.ExactDict) (hdt : od.data = .dict ee ep) :
    Meets (Builtin.«enumerate.__new__» ⟨[.type "enumerate", .ref l], []⟩) (fun _ R s => s.heap.get? l = some od ∧
      R (.ok (.ret (.ref (s.heap.push { cls := .type "dict_keyiterator", data := .fields #[.ref l, .int 0 0, .int ee.size 0, .int ep 0] }).objs.size)))
        { s with heap := (s.heap.push { cls := .type "dict_keyiterator", data := .fields #[.ref l, .int 0 0, .int ee.size 0, .int ep 0] }).push { cls := .type "enumerate", data := .fields #[.none, .bool false, .ref s.heap.objs.size, rawInt 0, .none, .none] } }) :=
  Meets.of_wp fun prog w A R s hh => by
    have es := sub_enumerate
    obtain ⟨hp, g, d, tk, os⟩ := s
    obtain ⟨hl, h⟩ := hh
    wp_walk using AutoSeq1.wpAny_loadPart' hl
    refine wpAny_stack_any fun st => wpAny_pure ?_
    split
    · rename_i c _ _ _ _ _
      cases (c == Value.type "enumerate") <;> (wp_walk using AutoSeq1.wpAny_loadPart' hl, iter_keys hs hl hx hdt; exact ⟨_, rfl, h⟩)
    · wp_walk using AutoSeq1.wpAny_loadPart' hl, iter_keys hs hl hx hdt
      exact ⟨_, rfl, h⟩
end U
end

section
namespace U
open PySem PySem.Spec PyProof.Rows L2
structure Drw (P : Program) (w : World) (K : PySem.W.Frag) (it : Addr) (tn : Nat → Heap → Prop) (go : Nat → Hp → Prop) (val : Nat → Hp → V → Prop) (stop : Nat → Hp → Prop) : Prop where
  obj : ∀ i h, tn i h → ∃ o, h.get? it = some o ∧ ∀ v, o.data ≠ .cell v
  keep : ∀ i h h', tn i h → (∀ o, h.get? it = some o → h'.get? it = some o) → tn i h'
  item : ∀ (X : Cx), X.prog = P → X.w = w → X.K = K → X.calm = true → ∀ (i : Nat) (pins : List (Addr × Obj)) (s : Shared) (σ : L2.St) (H : Hp), Inv X pins σ H s → tn i s.heap → go i H →
    ∃ n Pr St fp0, Draws P w X.A.in1 it fp0 n Pr St ∧ St i s.heap ∧ i < n ∧ (∀ b ∈ fp0, b ≠ it → ∃ o, s.heap.get? b = some o ∧ o.cls ≠ .type "enumerate") ∧ (∀ h', St (i + 1) h' → tn (i + 1) h') ∧ ∀ u, Pr i u → ∃ x, RelV x u ∧ val i H x
  done : ∀ (X : Cx), X.prog = P → X.w = w → X.K = K → X.calm = true → ∀ (i : Nat) (pins : List (Addr × Obj)) (s : Shared) (σ : L2.St) (H : Hp), Inv X pins σ H s → tn i s.heap → stop i H → ∃ Pr St fp0, Draws P w X.A.in1 it fp0 i Pr St ∧ St i s.heap
def ItE (go : Nat → Hp → Prop) (val : Nat → Hp → V → Prop) (stop : Nat → Hp → Prop) : It := ⟨go, fun i H v H' => ∃ T x, v = .ref T ∧ H T = none ∧ H' = upd H T (.tup [.int (i : Nat), x]) ∧ val i H x, stop⟩
theorem turn_enumG {P : Program} {w : World} {K : PySem.W.Frag} {elts : List Expr} {kk : Nat} {tpos : Pos} {e it : Addr} {tn : Nat → Heap → Prop} {go : Nat → Hp → Prop} {val : Nat → Hp → V → Prop} {stop : Nat → Hp → Prop} (D : Drw P w K it tn go val stop) :
    Turn P w K (.Tuple elts kk tpos) (ItE go val stop) [e, it] e (fun i h => (∃ old, IsEnum h e it ((i : Nat) : Int) old) ∧ tn i h ∧ e ≠ it) where
  mem := List.mem_cons_self ..
  obj := fun i h st b hb => by
    obtain ⟨⟨old, he⟩, ht, _⟩ := st
    rcases List.mem_cons.mp hb with z | z
    · subst z; exact ⟨_, he, fun v q => nomatch q⟩
    · rw [List.mem_singleton.mp z]; exact D.obj i h ht
  keep := fun i h h' st k => by
    obtain ⟨⟨old, he⟩, ht, hne⟩ := st
    exact ⟨⟨old, k e (List.mem_cons_self ..) _ he⟩, D.keep i h h' ht fun o q => k it (by simp) o q, hne⟩
  item := fun X hP hw hK hc i pins s σ H E I hf st hg => by
    obtain ⟨⟨old, he⟩, ht, hne⟩ := st
    obtain ⟨n, Pr, Sn, fp0, Dr, s0, hi, hfp, hn, hv⟩ := D.item X hP hw hK hc i pins s σ H I ht hg
    subst hP hw hK
    have lt1 : e < s.heap.objs.size := Heap.lt_size he
    have lt2 : it < s.heap.objs.size := by obtain ⟨o, q, _⟩ := D.obj i _ ht; exact Heap.lt_size q
    have ef : e ∉ fp0 := fun z => by
      obtain ⟨o, q, c⟩ := hfp e z hne
      rw [he] at q
      cases q
      exact c rfl
    refine wpAny_pyNext_enum_itemD Dr he s0 hi hne ef fun x h' tk hP ho hs' hT hsz hk => ?_
    obtain ⟨y, ry, hy⟩ := hv x hP
    refine ⟨_, rfl, wpAny_letOwnedTupleGo_enum (s := { s with heap := h', toks := tk + 1 }) ho fun h2 he2 sb => ?_⟩
    have hT2 : h2.get? s.heap.objs.size = some { cls := .type "tuple", data := .seq #[.int i tk, x] } := by rw [sb.2 _ (Nat.ne_of_gt lt1)]; exact hT
    have new : ObjOk X.prog X.w (upd H s.heap.objs.size (.tup [.int (i : Nat), y])) h2 s.heap.objs.size (.tup [.int (i : Nat), y]) := by
      refine ⟨show 2 ≤ sizeLine by decide, [.int i tk, x], ?_, ⟨_, hT2, rfl, _, rfl⟩⟩
      exact .cons ⟨_, rfl⟩ (.cons ry .nil)
    have I2 : Inv X pins σ (upd H s.heap.objs.size (.tup [.int (i : Nat), y])) { s with heap := h2, toks := tk + 1 } := by
      refine I.turnedNew (ch := [e, it]) (fun b ob hb q => ?_) hf (Nat.le_refl _) new
      have b1 : b ≠ e := fun z => hb (by rw [z]; exact List.mem_cons_self ..)
      have b2 : b ≠ it := fun z => hb (by rw [z]; simp)
      rw [sb.2 b b1]
      exact hk b ob b1 b2 q
    refine ⟨.ref s.heap.objs.size, _, I2, rfl, ⟨_, y, rfl, I.hok.fresh (Nat.le_refl _), rfl, hy⟩, ⟨⟨x, ?_⟩, D.keep (i + 1) h' h2 (hn h' hs') (fun o q => ?_), hne⟩, fun b hb => ?_⟩
    · rw [show ((i + 1 : Nat) : Int) = (i : Int) + 1 by omega]
      exact he2
    · rw [sb.2 it (Ne.symm hne)]
      exact q
    · rw [upd_ne]
      · exact (hf b hb).1
      · rcases List.mem_cons.mp hb with z | z
        · rw [z]; exact Nat.ne_of_lt lt1
        · rw [List.mem_singleton.mp z]; exact Nat.ne_of_lt lt2
  done := fun X hP hw hK hc i pins s σ H E I hf st hg => by
    obtain ⟨⟨old, he⟩, ht, hne⟩ := st
    obtain ⟨Pr, Sn, fp0, Dr, s0⟩ := D.done X hP hw hK hc i pins s σ H I ht hg
    subst hP hw hK
    obtain ⟨f0, f1, f2, f3, f4, f5⟩ := hf it (by simp)
    exact wpAny_pyNext_enum_endD Dr he s0 fun h' eb => ⟨rfl, I.turned (t' := s.toks) (fun b o hb q => eb b o hb q) f0 f1 f3 f4 f5⟩
  self := fun A i s Q E st h => by
    obtain ⟨⟨_, he⟩, _⟩ := st
    exact wpAny_pyIter_enum he h
theorem drw_tup {P : Program} {w : World} {K : PySem.W.Frag} {a it : Addr} : Drw P w K it (fun i h => h.IsTupleIter it a i) (fun i H => ∃ (xs : List V) (x : V), SqT K H a xs ∧ xs[i]? = some x) (fun i H x => ∀ xs, SqT K H a xs → xs[i]? = some x) (fun i H => ∃ xs : List V, SqT K H a xs ∧ xs.length = i) where
  obj := fun i h st => by
    obtain ⟨o, e, c, d⟩ := st
    exact ⟨o, e, fun v z => by rw [d] at z; cases z⟩
  keep := fun i h h' st k => st.at k
  item := fun X hP hw hK hc i pins s σ H I st ⟨xs, x, hq, hx⟩ => by
    subst hP hw hK
    obtain ⟨its, rv, p, hz⟩ := I.tuple hq
    have hl := rv.length
    have hi : i < its.toArray.size := by
      have := (List.getElem?_eq_some_iff.mp hx).1
      simp only [List.size_toArray]; omega
    have p : s.heap.IsTuple a its.toArray := p
    have hne : a ≠ it := fun z => by
      obtain ⟨o, ho, c1, _⟩ := p
      obtain ⟨o2, h2, c2, _⟩ := id st
      rw [z, h2] at ho
      cases ho
      rw [c1] at c2
      exact absurd c2 (by decide)
    refine ⟨_, _, _, _, Draws.tuple (show X.A.in1.handled = none from I.ok.hd hc) it a hne its.toArray, ⟨st, p⟩, hi, fun b hb hbi => ?_, fun h' q => q.1, fun u hu => ?_⟩
    · rcases List.mem_cons.mp hb with z | z
      · exact absurd z hbi
      · rw [List.mem_singleton.mp z]
        obtain ⟨o, ho, c1, _⟩ := p
        exact ⟨o, ho, by rw [c1]; decide⟩
    · obtain ⟨u', hu', ru⟩ := rv.get hx
      have : u = u' := by
        have hu : its.toArray[i]? = some u := hu
        rw [List.getElem?_toArray, hu'] at hu
        exact (Option.some.inj hu).symm
      rw [this]
      exact ⟨x, ru, fun ys hy => by rw [I.tuple_inj hy hq]; exact hx⟩
  done := fun X hP hw hK hc i pins s σ H I st ⟨xs, hq, hx⟩ => by
    subst hP hw hK
    obtain ⟨its, rv, p, hz⟩ := I.tuple hq
    have hl := rv.length
    have p : s.heap.IsTuple a its.toArray := p
    have hi : its.toArray.size = i := by simp only [List.size_toArray]; omega
    have hne : a ≠ it := fun z => by
      obtain ⟨o, ho, c1, _⟩ := p
      obtain ⟨o2, h2, c2, _⟩ := id st
      rw [z, h2] at ho
      cases ho
      rw [c1] at c2
      exact absurd c2 (by decide)
    have D := Draws.tuple (prog := X.prog) (w := X.w) (A := X.A.in1) (I.ok.hd hc) it a hne its.toArray
    rw [hi] at D
    exact ⟨_, _, _, D, st, p⟩
theorem drw_key {P : Program} {w : World} {K : PySem.W.Frag} {d it : Addr} {o : Obj} {es : Array DictEntry} {ep : Nat} {kvs : List (Key × V)} (hod : o.data = .dict es ep) : Drw P w K it (fun i h => h.IsKeyIter it d i kvs.length ep) (fun i H => H d = some (.frz o (.dK kvs)) ∧ i < kvs.length) (fun i H x => ∃ k v, kvs[i]? = some (k, v) ∧ x = kV k) (fun i H => H d = some (.frz o (.dK kvs)) ∧ i = kvs.length) where
  obj := fun i h st => by
    obtain ⟨oi, e, c, dd⟩ := st
    exact ⟨oi, e, fun v z => by rw [dd] at z; cases z⟩
  keep := fun i h h' st k => st.at k
  item := fun X hP hw hK hc i pins s σ H I st ⟨hd, hi⟩ => by
    subst hP hw hK
    obtain ⟨hs, hgd, hx, es', ep', vs, hdt, hsz, kv, hm⟩ := I.frzK hd
    obtain ⟨rfl, rfl⟩ := dict_ep hod hdt
    have hl : kvs.length = vs.length := Paired.length kv
    obtain ⟨⟨k, v⟩, hkv⟩ : ∃ p, kvs[i]? = some p := ⟨_, List.getElem?_eq_getElem hi⟩
    have st' := st
    rw [hl] at st'
    have hne : d ≠ it := fun z => by
      obtain ⟨o2, h2, c2, _⟩ := id st
      rw [z, h2] at hgd
      cases hgd
      rw [hx.1] at c2
      exact absurd c2 (by decide)
    refine ⟨_, _, _, _, drawsKeys (show X.A.in1.handled = none from I.ok.hd hc) hne, ⟨st', hm⟩, by omega, fun b hb hbi => ?_, fun h' q => by rw [hl]; exact q.1, fun u hu => ?_⟩
    · rcases List.mem_cons.mp hb with z | z
      · exact absurd z hbi
      · rw [List.mem_singleton.mp z]
        exact ⟨o, hgd, by rw [hx.1]; decide⟩
    · obtain ⟨k', x', h1, h2⟩ := hu
      obtain ⟨u', hu', ru⟩ := kv_get kv hkv
      rw [h1] at hu'
      cases hu'
      exact ⟨kV k, relV_key (show keyIs k u = true from h2), k, v, hkv, rfl⟩
  done := fun X hP hw hK hc i pins s σ H I st ⟨hd, hi⟩ => by
    subst hP hw hK
    obtain ⟨hs, hgd, hx, es', ep', vs, hdt, hsz, kv, hm⟩ := I.frzK hd
    obtain ⟨rfl, rfl⟩ := dict_ep hod hdt
    have hl : kvs.length = vs.length := Paired.length kv
    have st' := st
    rw [hl] at st'
    have hne : d ≠ it := fun z => by
      obtain ⟨o2, h2, c2, _⟩ := id st
      rw [z, h2] at hgd
      cases hgd
      rw [hx.1] at c2
      exact absurd c2 (by decide)
    have D := drawsKeys (prog := X.prog) (w := X.w) (A := X.A.in1) (it := it) (d := d) (kvs := vs) (ep := ep') (I.ok.hd hc) hne
    subst hi
    rw [← hl] at D
    rw [hl] at st'
    exact ⟨_, _, _, D, st, hm⟩
end U
end

section
namespace U
open PySem PySem.Spec PyProof.Rows L2
section
variable {prog : Program} {w : World} {A : Around} {E : Value → Shared → Prop} {s : Shared}
theorem call_enumG {l : Addr} {io : Obj} {Q : Value → Shared → Prop} {φ : Shared → Prop}
    (M : Meets (Builtin.«enumerate.__new__» ⟨[.type "enumerate", .ref l], []⟩) (fun _ R s => φ s ∧ R (.ok (.ret (.ref (s.heap.push io).objs.size))) { s with heap := (s.heap.push io).push { cls := .type "enumerate", data := .fields #[.none, .bool false, .ref s.heap.objs.size, rawInt 0, .none, .none] } }))
    (hφ : φ s) (nf : io.isFreed = false) (h : ∀ h', IsEnum h' (s.heap.objs.size + 1) s.heap.objs.size 0 .none → h'.get? s.heap.objs.size = some io → (∀ b o, s.heap.get? b = some o → h'.get? b = some o) → Q (.ref (s.heap.objs.size + 1)) { s with heap := h' }) :
    wpAny (model prog w) A (call (.type "enumerate") [.ref l]) Q E s := by
  have hz : (s.heap.push io).objs.size = s.heap.objs.size + 1 := Heap.size_push ..
  have he := Heap.get?_push_size (s.heap.push io) (o := { cls := .type "enumerate", data := .fields #[.none, .bool false, .ref s.heap.objs.size, rawInt 0, .none, .none] }) rfl
  rw [hz] at he
  refine callType_new F.called_enumerate (by decide) (F.typeCall_enumerate_1 _) (F.newCall_enumerate_1 _) (fun obj => F.args_object_init_2 obj _) F.entry_enumerate_new M ⟨hφ, ?_⟩
  show _ ∧ _
  rw [hz]
  exact ⟨⟨_, he, rfl⟩, h _ he (Heap.get?_push_of_some _ (Heap.get?_push_size _ nf)) fun b o x => Heap.get?_push_of_some _ (Heap.get?_push_of_some _ x)⟩
end
abbrev ItET (K : PySem.W.Frag) (a : Addr) : It := ItE (fun i H => ∃ (xs : List V) (x : V), SqT K H a xs ∧ xs[i]? = some x) (fun i H x => ∀ xs, SqT K H a xs → xs[i]? = some x) (fun i H => ∃ xs : List V, SqT K H a xs ∧ xs.length = i)
abbrev ItEK (d : Addr) (o : Obj) (kvs : List (Key × V)) : It := ItE (fun i H => H d = some (.frz o (.dK kvs)) ∧ i < kvs.length) (fun i _ x => ∃ k v, kvs[i]? = some (k, v) ∧ x = kV k) (fun i H => H d = some (.frz o (.dK kvs)) ∧ i = kvs.length)
def enuJ (K : PySem.W.Frag) (vs : List V) (H : Hp) (R : It → Hp → Prop) : Prop := match vs with
  | [.ref a] => match H a with
    | some (.lst _) => R (Ite K a) H
    | some (.tup _) => R (ItET K a) H
    | some (.frz o (.dK kvs)) => R (ItEK a o kvs) H
    | _ => False
  | _ => False
def iEnumU (K : PySem.W.Frag) (ta : TA) : TI := fun σ H R => ta σ H fun vs H1 => enuJ K vs H1 R
theorem pi_enumU {X : Cx} {e : Expr} {ta : TA} {p pos tpos : Pos} {elts : List Expr} {kk : Nat} (hg : Gl X "enumerate") (hm : X.mg "enumerate" = none) (ha : PA X [e] ta) (hs : starEach [e] X.env = [(false, eval e X.env)] := by rfl) :
    PI X (.Tuple elts kk tpos) (.Call (.Name "enumerate" p) [e] [] pos) (iEnumU X.K ta) := by
  refine ⟨fun pins s σ H R I h => ?_⟩
  refine Call_ (ld_blt I hg hm boot_enumerate (PyProof.Rows.callWith_type1 (thn (ha.run pos pins s σ H _ I h) fun us s1 ⟨vs, H1, I1, r1, q1⟩ => ?_) hs rfl))
  replace q1 : enuJ X.K vs H1 R := q1
  unfold enuJ at q1
  split at q1
  · rename_i a
    obtain ⟨u, rfl, ru⟩ := vals1 r1
    obtain rfl : u = Value.ref a := ru
    have fin : ∀ (tn : Nat → Heap → Prop) go val stop (h' : Heap), Drw X.prog X.w X.K s1.heap.objs.size tn go val stop → IsEnum h' (s1.heap.objs.size + 1) s1.heap.objs.size 0 .none → tn 0 h' → (∀ b o, s1.heap.get? b = some o → h'.get? b = some o) → R (ItE go val stop) H1 →
        wpAny (model X.prog X.w) X.A (pyIter (.ref (s1.heap.objs.size + 1))) (PIE X pins σ (.Tuple elts kk tpos) R) X.xe { s1 with heap := h' } := fun tn go val stop h' D he ht hk q => by
      refine wpAny_pyIter_enum he ?_
      refine ⟨s1.heap.objs.size + 1, [s1.heap.objs.size + 1, s1.heap.objs.size], _, _, H1, rfl, I1.kept (t' := s1.toks) hk, turn_enumG D, ⟨⟨.none, he⟩, ht, Nat.succ_ne_self _⟩, fun b hb => ?_, q⟩
      have hle : s1.heap.objs.size ≤ b := by
        rcases List.mem_cons.mp hb with z | z
        · rw [z]; exact Nat.le_succ _
        · rw [List.mem_singleton.mp z]; exact Nat.le_refl _
      exact I1.fpOk hle (I1.hok.fresh hle)
    split at q1
    · rename_i xs ex
      obtain ⟨its, rv, p', hz⟩ := I1.list (.inl (.inl ex))
      refine call_enumerate_list p'.isList fun h' he hit hsz hk => wpAny_pyIter_enum he ?_
      refine ⟨s1.heap.objs.size + 1, [s1.heap.objs.size + 1, s1.heap.objs.size], _, _, H1, rfl, I1.kept (t' := s1.toks) hk, turn_enum a (s1.heap.objs.size + 1) s1.heap.objs.size, ⟨⟨.none, he⟩, hit, Nat.succ_ne_self _⟩, fun b hb => ?_, q1⟩
      have hle : s1.heap.objs.size ≤ b := by
        rcases List.mem_cons.mp hb with z | z
        · rw [z]; exact Nat.le_succ _
        · rw [List.mem_singleton.mp z]; exact Nat.le_refl _
      exact I1.fpOk hle (I1.hok.fresh hle)
    · rename_i xs ex
      obtain ⟨its, rv, p', hz⟩ := I1.tuple (.inl (.inl ex))
      have p' : s1.heap.IsTuple a its.toArray := p'
      obtain ⟨⟨c, dct, dt, sl⟩, ho, hc, n, hd⟩ := p'
      replace hc : c = .type "tuple" := hc
      replace hd : dt = .seq its.toArray n := hd
      subst hc hd
      refine call_enumG (enumNewT a its.toArray n dct sl) ho rfl fun h' he hi hk => ?_
      exact fin _ _ _ _ h' drw_tup he ⟨_, hi, rfl, rfl⟩ hk q1
    · rename_i o kvs ex
      obtain ⟨hs', hgd, hx, es, ep, vs, hdt, hsz, kv, hm'⟩ := I1.frzK ex
      refine call_enumG (enumNewD a o es ep hs' hx hdt) hgd rfl fun h' he hi hk => ?_
      refine fin _ _ _ _ h' (drw_key (kvs := kvs) hdt) he ⟨_, hi, rfl, ?_⟩ hk q1
      rw [hsz]
      rfl
    · exact q1.elim
  · exact q1.elim
section
variable {K : PySem.W.Frag} {g : TG} {tb : TS} {D : Ends} {σ : L2.St} {H : Hp} {a : Addr} {xs : List V} {ts : TA}
def EnuU (K : PySem.W.Frag) (vs : List V) (σ : L2.St) (H : Hp) [g : Kp TG] [tb : Kp TS] [D : Kp Ends] : Prop := enuJ K vs H fun J H1 => loopJ J g.val tb.val D.val σ H1
theorem r_forEn : tFor (iEnumU K ts) g tb D σ H = ts σ H fun vs H1 => @EnuU K vs σ H1 ⟨g⟩ ⟨tb⟩ ⟨D⟩ := rfl
theorem enuL (hx : H a = some (.lst xs)) (Pv : Nat → L2.St → Hp → Prop) (h0 : Pv 0 σ H) (hG : ∀ i σ H', i ≤ xs.length → Pv i σ H' → H' a = some (.lst xs))
    (hs : ∀ i x σ H' T H1, xs[i]? = some x → Pv i σ H' → New H' T (.tup [.int (i : Int), x]) H1 → g (.ref T) σ H1 fun σ2 H2 => tb { D with nx := Pv (i + 1), ct := Pv (i + 1), bk := D.nx } σ2 H2)
    (hd : ∀ σ H, Pv xs.length σ H → D.nx σ H) : @EnuU K [.ref a] σ H ⟨g⟩ ⟨tb⟩ ⟨D⟩ := by
  unfold EnuU enuJ
  simp only [hx]
  exact for_it (walk_enum (K := K) (a := a) (xs := xs)) Pv h0 (fun i σ H' hi p => .inl (.inl (hG i σ H' hi p))) (fun i v σ H' H1 _ p y => by
    obtain ⟨T, x, y, rfl, h1, rfl, h3, h4⟩ := y
    cases h3
    exact hs i y σ H' T _ h4 p ⟨h1, rfl⟩) hd
theorem walk_enT : Walk (ItET K a) xs.length (fun H => H a = some (.tup xs)) (YPair (fun i => some (.int (i : Nat))) (fun i => xs[i]?)) := by
  refine ⟨fun i _ hi q => ⟨xs, xs[i], .inl (.inl q), List.getElem?_eq_getElem hi⟩, fun _ q => ⟨xs, .inl (.inl q), rfl⟩, fun i H v H' _ q y => ?_⟩
  obtain ⟨T, x, h1, h2, h3, h4⟩ := y
  exact ⟨T, .int (i : Nat), x, h1, h2, h3, rfl, h4 xs (.inl (.inl q))⟩
theorem enuT (hx : H a = some (.tup xs)) (Pv : Nat → L2.St → Hp → Prop) (h0 : Pv 0 σ H) (hG : ∀ i σ H', i ≤ xs.length → Pv i σ H' → H' a = some (.tup xs))
    (hs : ∀ i x σ H' T H1, xs[i]? = some x → Pv i σ H' → New H' T (.tup [.int (i : Int), x]) H1 → g (.ref T) σ H1 fun σ2 H2 => tb { D with nx := Pv (i + 1), ct := Pv (i + 1), bk := D.nx } σ2 H2)
    (hd : ∀ σ H, Pv xs.length σ H → D.nx σ H) : @EnuU K [.ref a] σ H ⟨g⟩ ⟨tb⟩ ⟨D⟩ := by
  unfold EnuU enuJ
  simp only [hx]
  exact for_it (walk_enT (K := K) (a := a) (xs := xs)) Pv h0 hG (fun i v σ H' H1 _ p y => by
    obtain ⟨T, x, y, rfl, h1, rfl, h3, h4⟩ := y
    cases h3
    exact hs i y σ H' T _ h4 p ⟨h1, rfl⟩) hd
theorem walk_enK {d : Addr} {o : Obj} {kvs : List (Key × V)} : Walk (ItEK d o kvs) kvs.length (fun H => H d = some (.frz o (.dK kvs))) (YPair (fun i => some (.int (i : Nat))) (fun i => kvs[i]?.map fun kv => kV kv.1)) := by
  refine ⟨fun i _ hi q => ⟨q, hi⟩, fun _ q => ⟨q, rfl⟩, fun i H v H' _ q y => ?_⟩
  obtain ⟨T, x, h1, h2, h3, k, v, h4, h5⟩ := y
  exact ⟨T, .int (i : Nat), x, h1, h2, h3, rfl, by show Option.map _ kvs[i]? = _; rw [h4, h5]; rfl⟩
theorem enuK {o : Obj} {kvs : List (Key × V)} (hx : H a = some (.frz o (.dK kvs))) (Pv : Nat → L2.St → Hp → Prop) (h0 : Pv 0 σ H) (hG : ∀ i σ H', i ≤ kvs.length → Pv i σ H' → H' a = some (.frz o (.dK kvs)))
    (hs : ∀ i k v σ H' T H1, kvs[i]? = some (k, v) → Pv i σ H' → New H' T (.tup [.int (i : Int), kV k]) H1 → g (.ref T) σ H1 fun σ2 H2 => tb { D with nx := Pv (i + 1), ct := Pv (i + 1), bk := D.nx } σ2 H2)
    (hd : ∀ σ H, Pv kvs.length σ H → D.nx σ H) : @EnuU K [.ref a] σ H ⟨g⟩ ⟨tb⟩ ⟨D⟩ := by
  unfold EnuU enuJ
  simp only [hx]
  exact for_it (walk_enK (d := a) (o := o) (kvs := kvs)) Pv h0 hG (fun i v σ H' H1 _ p y => by
    obtain ⟨T, x, y, rfl, h1, rfl, h3, h4⟩ := y
    cases h3
    replace h4 : Option.map (fun kv : Key × V => kV kv.1) kvs[i]? = some y := h4
    cases e : kvs[i]? with
    | none => rw [e] at h4; cases h4
    | some kv =>
      rw [e] at h4
      cases h4
      exact hs i kv.1 kv.2 σ H' T _ e p ⟨h1, rfl⟩) hd
def keyJ (x : V) (H : Hp) (R : It → Hp → Prop) : Prop := match x with
  | .ref d => match H d with
    | some (.frz o (.dK kvs)) => R (Itk d o kvs) H
    | _ => False
  | _ => False
def iKeyU (td : TE) : TI := fun σ H R => td σ H fun x H1 => keyJ x H1 R
theorem pi_keyU {X : Cx} {tg e : Expr} {td : TE} (he : PE X e td) : PI X tg e (iKeyU td) := by
  refine ⟨fun pins s σ H R I h => (pi_keys (pe_weak he)).run pins s σ H R I ⟨_, h, fun x H1 q => ?_⟩⟩
  unfold keyJ at q
  split at q
  · split at q
    · rename_i d _ o kvs e
      exact ⟨d, o, rfl, .inl ⟨kvs, e, q⟩⟩
    · exact q.elim
  · exact q.elim
def KeyU (x : V) (σ : L2.St) (H : Hp) [g : Kp TG] [tb : Kp TS] [D : Kp Ends] : Prop := keyJ x H fun J H1 => loopJ J g.val tb.val D.val σ H1
theorem r_forK {te : TE} : tFor (iKeyU te) g tb D σ H = te σ H fun x H1 => @KeyU x σ H1 ⟨g⟩ ⟨tb⟩ ⟨D⟩ := rfl
theorem keyK {o : Obj} {kvs : List (Key × V)} (hx : H a = some (.frz o (.dK kvs))) (Pv : Nat → L2.St → Hp → Prop) (h0 : Pv 0 σ H) (hG : ∀ i σ H', i ≤ kvs.length → Pv i σ H' → H' a = some (.frz o (.dK kvs)))
    (hs : ∀ i k v σ H', kvs[i]? = some (k, v) → Pv i σ H' → g (kV k) σ H' fun σ2 H2 => tb { D with nx := Pv (i + 1), ct := Pv (i + 1), bk := D.nx } σ2 H2)
    (hd : ∀ σ H, Pv kvs.length σ H → D.nx σ H) : @KeyU (.ref a) σ H ⟨g⟩ ⟨tb⟩ ⟨D⟩ := by
  unfold KeyU keyJ
  simp only [hx]
  refine for_it (walk_keys (d := a) (o := o) (kvs := kvs)) Pv h0 hG (fun i v σ H' H1 _ p y => ?_) hd
  obtain ⟨rfl, k, v, e, rfl⟩ := y
  exact hs i k v σ _ e p
end
def lockE (d : Addr) (od : Obj) (u : HO) (D : Ends) : Ends := ⟨fun σ' H' => H' d = some (.frz od u) ∧ D.nx σ' (upd H' d u), fun v H' => H' d = some (.frz od u) ∧ D.rt v (upd H' d u), fun σ' H' => H' d = some (.frz od u) ∧ D.bk σ' (upd H' d u), fun σ' H' => H' d = some (.frz od u) ∧ D.ct σ' (upd H' d u)⟩
def lockW (d : Addr) (od : Obj) (u : HO) (W : WX) : WX := fun c x σ H => H d = some (.frz od u) ∧ W c x σ (upd H d u)
def uLock (i : Nat) (tb : WX → TS) (W : WX) : TS := fun D σ H => match σ[i]? with
  | some (some (.ref d)) => match H d with
    | some (.dK kvs) => ∀ od, tb (lockW d od (.dK kvs) W) (lockE d od (.dK kvs) D) σ (upd H d (.frz od (.dK kvs)))
    | _ => tb W D σ H
  | _ => tb W D σ H
theorem takes_lock {X : Cx} {W : WX} {d : Addr} {od : Obj} {u : HO} (hn : ∀ o' u', X.H_0 d ≠ some (.frz o' u')) (tk : Takes X W) : Takes X (lockW d od u W) := fun v s' x => by
  obtain ⟨a, B, sI, pins, σ, H, cls, dd, e, I, nb, up, sky, na, os, ag, hd, hw⟩ := x
  refine tk v s' ⟨a, B, sI, pins, σ, upd H d u, cls, dd, e, I.unlock hd hn, nb, up, sky, ?_, os, ag, hw⟩
  rw [upd_ne]
  · exact na
  · intro z
    rw [z, hd] at na
    cases na
theorem ps_uLock {X : Cx} {W : WX} {i : Nat} {st : Stmt} {tb : WX → TS} (hb : ∀ W', Takes X W' → PS X st (tb W')) (tk : Takes X W) : PS X st (uLock i tb W) := by
  refine ⟨fun pins s σ H D I h => ?_⟩
  have plain : tb W D σ H → wpAny (model X.prog X.w) X.A (exec st X.env) (SP X pins D) X.xe s := fun h => (hb W tk).run pins s σ H D I h
  unfold uLock at h
  split at h
  · rename_i d e1
    split at h
    · rename_i kvs e2
      have mu : Mut (some (.dK kvs)) := trivial
      obtain ⟨od, I1⟩ := I.lock e2 mu
      have nf := I.nofrz e2 mu
      refine thn ((hb _ (takes_lock nf tk)).run pins s σ _ _ I1 (h od)) fun f s1 q => ?_
      cases f with
      | ret v => obtain ⟨x, σ', H', I2, r, e, q⟩ := q; exact ⟨x, σ', _, I2.unlock e nf, r, q⟩
      | next | brk | cont =>
        obtain ⟨σ', H', I2, e, q⟩ := q
        exact ⟨σ', _, I2.unlock e nf, q⟩
    · exact plain h
  · exact plain h
theorem upd_idem {H : Hp} {d : Addr} {u : HO} (h : H d = some u) : upd H d u = H := by
  funext b
  unfold upd
  split
  · rename_i e; rw [e, h]
  · rfl
theorem r_uLockD {i : Nat} {tb : WX → TS} {W : WX} {D : Ends} {σ : L2.St} {H : Hp} {d : Addr} {kvs : List (Key × V)} (h1 : σ[i]? = some (some (.ref d))) (h2 : H d = some (.dK kvs)) (q : ∀ od, tb (lockW d od (.dK kvs) W) (lockE d od (.dK kvs) D) σ (upd H d (.frz od (.dK kvs)))) : uLock i tb W D σ H := by
  unfold uLock
  simp only [h1, h2]
  exact q
theorem r_uLockN {i : Nat} {tb : WX → TS} {W : WX} {D : Ends} {σ : L2.St} {H : Hp} {d : Addr} {o : HO} (h1 : σ[i]? = some (some (.ref d))) (h2 : H d = some o) (hn : ∀ kvs, o ≠ .dK kvs) (q : tb W D σ H) : uLock i tb W D σ H := by
  unfold uLock
  simp only [h1, h2]
  cases o with
  | dK kvs => exact absurd rfl (hn kvs)
  | _ => exact q
end U
end

section
namespace U
open PySem PySem.Spec PyProof.Rows L2
theorem u1 {n : Nat} (h : n + 64 < cLine) : n + 1 < cLine := by omega
def keyO : V → Option Key
  | .int i => some (.inl i)
  | .str z => some (.inr z)
  | _ => none
theorem keyO_kV {y : V} {k : Key} (h : keyO y = some k) : y = kV k := by
  cases y <;> cases h <;> rfl
theorem keyO_t : (∀ i, keyO (.int i) = some (.inl i)) ∧ (∀ z, keyO (.str z) = some (.inr z)) := ⟨fun _ => rfl, fun _ => rfl⟩
def dicO : Option HO → Option (List (Key × V))
  | some (.dK kvs) => some kvs
  | some (.frz _ (.dK kvs)) => some kvs
  | _ => none
theorem dicO_rd {H : Hp} {a : Addr} {kvs : List (Key × V)} (h : dicO (H a) = some kvs) : Rd H a (.dK kvs) := by
  unfold dicO at h
  split at h
  · rename_i e; cases h; exact .inl e
  · rename_i o _ e; cases h; exact .inr ⟨o, e⟩
  · cases h
theorem rd_dicO {H : Hp} {a : Addr} {kvs : List (Key × V)} (h : Rd H a (.dK kvs)) : dicO (H a) = some kvs := by
  rcases h with h | ⟨o, h⟩ <;> rw [h] <;> rfl
section
variable {H : Hp} {p q : Addr} {y v x : V} {kvs : List (Key × V)} {Q : VK}
theorem OKd {k : List (Key × V) → Prop} (h : H p = some (.dK kvs)) (r : k kvs) : @OK _ (dicO (H p)) ⟨k⟩ := OK.by (by rw [h]; rfl) r
theorem OKdf {k : List (Key × V) → Prop} {o : Obj} (h : H p = some (.frz o (.dK kvs))) (r : k kvs) : @OK _ (dicO (H p)) ⟨k⟩ := OK.by (by rw [h]; rfl) r
def rIxD : R2 := fun x y H Q => match x with
  | .ref p => @OK _ (dicO (H p)) ⟨fun kvs => @OK _ (keyO y) ⟨fun k => @OK _ (valV kvs k) ⟨fun v => Q v H⟩⟩⟩
  | _ => False
theorem r_ixD : @aR rIxD (.ref p) y H ⟨Q⟩ = @OK _ (dicO (H p)) ⟨fun kvs => @OK _ (keyO y) ⟨fun k => @OK _ (valV kvs k) ⟨fun v => Q v H⟩⟩⟩ := rfl
theorem subTail {prog : Program} {w : World} {A : Around} {E : Value → Shared → Prop} {s : Shared} {value slice : Expr} {o i : Value} {T id : String} {Q : Value → Shared → Prop} (hT : s.TypeIs o T) (hl : typeLookup (.type T) "__getitem__" = pure (some (.builtin id)))
    (h : wpAny (model prog w) A (getItem o i) Q E s) (hs : subscripted slice false o i = operate [o, i] (getItem o i)) : wpAny (model prog w) A (subscriptTail value slice o i) Q E s := by
  have fin : wpAny (model prog w) A (subscripted slice false o i) (fun r s₃ => wpAny (model prog w) A (letTemporaryGo value o r >>= fun _ => pure r) Q E s₃) E s := by
    rw [hs]
    exact wpAny_operating (wpAny_mono h (fun r s₃ z => wpAny_bind (wpAny_letTemporaryGo (wpAny_pure z))) fun _ _ z => z)
  unfold subscriptTail
  refine wpAny_bind ?_
  rw [getitemInPython_of_ne hT.not_modules]
  refine wpAny_bind (wpAny_specialOf hT hl ?_)
  first | exact wpAny_pure (wpAny_bind fin) | exact wpAny_bind (wpAny_pure (wpAny_bind fin)) | exact wpAny_bind fin
theorem ix_D {X : Cx} (hu : X.A.units + 1 < cLine) : IxR X rIxD := fun value slice pins s σ H x y v u Q I rx ry h hs => by
  cases x with
  | ref p =>
    obtain ⟨kvs, e1, h⟩ := OK.out h
    obtain ⟨k, e2, h⟩ := OK.out h
    obtain ⟨z, e3, h⟩ := OK.out h
    obtain rfl : v = Value.ref p := rx
    have g : DGet H p y (some z) := .inl ⟨kvs, k, dicO_rd e1, keyO_kV e2, e3.symm⟩
    exact subTail (dict_typeIs I g) PySem.F.slot_dict_getitem.lookup (d_getItem hu I g ry fun w' s' I' r => ⟨z, H, I', r, h⟩) hs
  | _ => exact False.elim h
def rInK : R2 := fun x y H Q => match y with
  | .ref p => @OK _ (dicO (H p)) ⟨fun kvs => @OK _ (keyO x) ⟨fun k => Q (.bl (valV kvs k).isSome) H⟩⟩
  | _ => False
def rNinK : R2 := fun x y H Q => match y with
  | .ref p => @OK _ (dicO (H p)) ⟨fun kvs => @OK _ (keyO x) ⟨fun k => Q (.bl (!(valV kvs k).isSome)) H⟩⟩
  | _ => False
theorem r_inK : @aR rInK x (.ref p) H ⟨Q⟩ = @OK _ (dicO (H p)) ⟨fun kvs => @OK _ (keyO x) ⟨fun k => Q (.bl (valV kvs k).isSome) H⟩⟩ := rfl
theorem r_ninK : @aR rNinK x (.ref p) H ⟨Q⟩ = @OK _ (dicO (H p)) ⟨fun kvs => @OK _ (keyO x) ⟨fun k => Q (.bl (!(valV kvs k).isSome)) H⟩⟩ := rfl
theorem op_inK {X : Cx} (hu : X.A.units + 1 < cLine) : OpR X (compareOp .In) rInK := fun pins s σ H x y v u Q I rx ry h => by
  cases y with
  | ref p =>
    obtain ⟨kvs, e1, h1⟩ := OK.out h
    obtain ⟨k, e2, h2⟩ := OK.out h1
    obtain rfl : u = Value.ref p := ry
    exact d_in hu I (.inl ⟨kvs, k, dicO_rd e1, keyO_kV e2, rfl⟩) rx fun s' I' => ⟨.bl (valV kvs k).isSome, H, I', rfl, h2⟩
  | _ => exact False.elim h
theorem op_notInK {X : Cx} (hu : X.A.units + 1 < cLine) : OpR X (compareOp .NotIn) rNinK := fun pins s σ H x y v u Q I rx ry h => by
  cases y with
  | ref p =>
    obtain ⟨kvs, e1, h1⟩ := OK.out h
    obtain ⟨k, e2, h2⟩ := OK.out h1
    obtain rfl : u = Value.ref p := ry
    exact d_notIn hu I (.inl ⟨kvs, k, dicO_rd e1, keyO_kV e2, rfl⟩) rx fun s' I' => ⟨.bl (!(valV kvs k).isSome), H, I', rfl, h2⟩
  | _ => exact False.elim h
def dK1 : Option HO → Option (List (Key × V))
  | some (.dK kvs) => some kvs
  | _ => none
theorem OKd1 {k : List (Key × V) → Prop} (h : H p = some (.dK kvs)) (r : k kvs) : @OK _ (dK1 (H p)) ⟨k⟩ := OK.by (by rw [h]; rfl) r
theorem dK1_at {kvs : List (Key × V)} (h : dK1 (H p) = some kvs) : H p = some (.dK kvs) := by
  unfold dK1 at h
  split at h
  · rename_i e; cases h; exact e
  · cases h
def rSetK : V → V → V → Hp → (Hp → Prop) → Prop := fun o i v H R => match o with
  | .ref p => @OK _ (dK1 (H p)) ⟨fun kvs => @OK _ (keyO i) ⟨fun k => @Cd (kvs.length < sizeLine) ⟨@Md H p (.dK (putK kvs k v)) ⟨R⟩⟩⟩⟩
  | _ => False
theorem r_setK {R : Hp → Prop} : @aG rSetK (.ref p) y v H ⟨R⟩ = @OK _ (dK1 (H p)) ⟨fun kvs => @OK _ (keyO y) ⟨fun k => @Cd (kvs.length < sizeLine) ⟨@Md H p (.dK (putK kvs k v)) ⟨R⟩⟩⟩⟩ := rfl
theorem set_K {X : Cx} (hu : X.A.units + 1 < cLine) : PSet X rSetK := fun pins s σ H o i v ov iv u Q I r1 r2 r3 h => by
  cases o with
  | ref p =>
    obtain ⟨kvs, e1, h1⟩ := OK.out h
    obtain ⟨k, e2, h2⟩ := OK.out h1
    have h3 : kvs.length < sizeLine ∧ ∀ H', Mod H p (.dK (putK kvs k v)) H' → Q H' := h2
    obtain rfl : ov = Value.ref p := r1
    obtain rfl := keyO_kV e2
    exact d_setItem hu I (DPut.k (dK1_at e1) h3.1) r2 r3 fun s' I' => ⟨_, I', h3.2 _ ⟨rfl⟩⟩
  | _ => exact False.elim h
theorem r_dnew {σ : L2.St} : tDNewK σ H Q = @Al H (.dK []) ⟨Q⟩ := by
  show (∀ p, H p = none → Q (.ref p) (upd H p (.dK []))) = _
  rw [forall_new]
  rfl
def aDG (x : V) (H : Hp) [k : Kp Prop] : Prop := match x with
  | .ref p => @OK _ (dicO (H p)) ⟨fun _ => k.val⟩
  | _ => False
theorem aDG_ref {P : Prop} : @aDG (.ref p) H ⟨P⟩ = @OK _ (dicO (H p)) ⟨fun _ => P⟩ := rfl
def aDG2 (x y z : V) (H : Hp) [Q : Kp VK] : Prop := match x with
  | .ref p => @OK _ (dicO (H p)) ⟨fun kvs => @OK _ (keyO y) ⟨fun k => Q.val ((valV kvs k).getD z) H⟩⟩
  | _ => False
theorem aDG2_ref {z : V} : @aDG2 (.ref p) y z H ⟨Q⟩ = @OK _ (dicO (H p)) ⟨fun kvs => @OK _ (keyO y) ⟨fun k => Q ((valV kvs k).getD z) H⟩⟩ := rfl
def uDGet2 (td ty tx : TE) : TE := fun σ H Q => td σ H fun x H1 => @aDG x H1 ⟨ty σ H1 fun y H2 => tx σ H2 fun z H3 => @aDG2 x y z H3 ⟨Q⟩⟩
theorem r_dget2 {td ty tx : TE} {σ : L2.St} : uDGet2 td ty tx σ H Q = td σ H fun x H1 => @aDG x H1 ⟨ty σ H1 fun y H2 => tx σ H2 fun z H3 => @aDG2 x y z H3 ⟨Q⟩⟩ := rfl
theorem pe_uDGet2 {X : Cx} {o e f : Expr} {td ty tx : TE} {apos cpos : Pos} (hu : X.A.units + 1 < cLine) (ho : PE X o td) (he : PE X e ty) (hf : PE X f tx) (m : M2 X o "get" apos e f cpos := by exact ⟨rfl, rfl, rfl, rfl⟩) : PE X (.Call (.Attribute o "get" apos) [e, f] [] cpos) (uDGet2 td ty tx) :=
  peOf (pe_dget2 hu (pe_weak ho) (pe_weak he) (pe_weak hf) m) fun σ H Q q => ⟨_, q, fun x H1 h => by
    cases x with
    | ref a =>
      obtain ⟨kvs, e1, h1⟩ := OK.out h
      refine ⟨a, rfl, .inl ⟨kvs, dicO_rd e1⟩, _, h1, fun y H2 h2 => ⟨_, h2, fun z H3 h3 => ?_⟩⟩
      obtain ⟨kvs, e3, h4⟩ := OK.out h3
      obtain ⟨k, e4, h5⟩ := OK.out h4
      exact ⟨_, .inl ⟨kvs, k, dicO_rd e3, keyO_kV e4, rfl⟩, h5⟩
    | _ => exact False.elim h⟩
end
end U
end

section
namespace U
open PySem PySem.Spec PyProof.Rows L2
structure MetX (P : Program) (w : World) (K : PySem.W.Frag) (mg : Str → Option Value) (base : Heap) (k : Nat) (C : Addr) (m : Str) (sp : Sp) : Prop where
  cls : Cls K C
  ex : ∃ f : Addr, Meth K C m f ∧ ∀ {X : Cx} {pins : List (Addr × Obj)} {σ : L2.St} {H : Hp} {s : Shared} {us : List Value} {vs : List V} {Q : VK} {E : XK},
    X.prog = P → X.w = w → X.K = K → X.mg = mg → X.base = base → Room k X.A → PassesAt (L2.CX P w) X σ E → Inv X pins σ H s → Vals vs us → sp vs H Q E → wpAny (model X.prog X.w) X.A (call (.ref f) us) (EP X pins σ Q) X.xe s
structure MetC (P : Program) (w : World) (K : PySem.W.Frag) (mg : Str → Option Value) (base : Heap) (k : Nat) (C : Addr) (m : Str) (sp : Sp) : Prop where
  cls : Cls K C
  ex : ∃ (f : Addr) (fd : FuncData) (ps : List Str), Meth K C m f ∧ FnOk P w K mg base CX0 k f fd ps sp ∧ Binds K fd ps []
theorem MetX.def_ {P : Program} {w : World} {K : PySem.W.Frag} {mg : Str → Option Value} {base : Heap} {k : Nat} {C f : Addr} {m : Str} {sp : Sp} {fd : FuncData} {ps : List Str} (c : Cls K C) (hm : Meth K C m f) (F : FnOk P w K mg base (L2.CX P w) k f fd ps sp) (hb : Binds K fd ps []) : MetX P w K mg base k C m sp :=
  ⟨c, f, hm, fun {X pins σ H s us vs Q E} e1 e2 e3 e4 e5 hr hx I r h => by
    subst e1 e2 e3 e4 e5
    exact run_fnS (E := fun _ => E) F hr hb hx I r h⟩
def aMt (C : Addr) (m : Str) (x : V) (H : Hp) [k : Kp Prop] : Prop := match x with
  | .ref a => @OK _ (insO C (H a)) ⟨fun fs => @Cd (fs.lookup m = none) ⟨k.val⟩⟩
  | _ => False
theorem aMt_ref {C a : Addr} {m : Str} {H : Hp} {P : Prop} : @aMt C m (.ref a) H ⟨P⟩ = @OK _ (insO C (H a)) ⟨fun fs => @Cd (fs.lookup m = none) ⟨P⟩⟩ := rfl
def uMetX (C : Addr) (m : Str) (sp : Sp) (W : WX) (ta : TE) (t : TA) : TE := fun σ H Q => ta σ H fun x H1 => @aMt C m x H1 ⟨t σ H1 fun vs H2 => sp (x :: vs) H2 Q (WE W σ)⟩
def uMet (C : Addr) (m : Str) (sp : Sp) (ta : TE) (t : TA) : TE := fun σ H Q => ta σ H fun x H1 => @aMt C m x H1 ⟨t σ H1 fun vs H2 => sp (x :: vs) H2 Q E0⟩
theorem r_metX {C : Addr} {m : Str} {sp : Sp} {W : WX} {ta : TE} {t : TA} {σ : L2.St} {H : Hp} {Q : VK} : uMetX C m sp W ta t σ H Q = ta σ H fun x H1 => @aMt C m x H1 ⟨t σ H1 fun vs H2 => @Call sp (x :: vs) H2 ⟨Q⟩ ⟨WE W σ⟩⟩ := rfl
theorem r_met {C : Addr} {m : Str} {sp : Sp} {ta : TE} {t : TA} {σ : L2.St} {H : Hp} {Q : VK} : uMet C m sp ta t σ H Q = ta σ H fun x H1 => @aMt C m x H1 ⟨t σ H1 fun vs H2 => @Call sp (x :: vs) H2 ⟨Q⟩ ⟨E0⟩⟩ := rfl
section
variable {X : Cx} {k : Nat} {m : Str} {C : Addr} {sp : Sp} {W : WX} {apos pos : Pos} {o e : Expr} {es : List Expr} {ta : TE} {t : TA} {pl : Sem Bool}
theorem pe_metX (M : MetX X.prog X.w X.K X.mg X.base k C m sp) (hr : Room k X.A) (tk : Takes X W) (he : PE X o ta) (ha : PA X (e :: es) t) (hst : starEach (e :: es) X.env = (false, eval e X.env) :: starEach es X.env := by rfl) (hpl : (backTo pos (starEach es X.env)).any (·.1) = false := by rfl)
    (ht : eval (.Call (.Attribute o m apos) (e :: es) [] pos) X.env = (do
      let ov ← eval o X.env
      standAt apos.atName
      let (f, first) ← holding [ov] (getMethod ov m pl)
      callWith pos f first (backTo pos (starEach (e :: es) X.env)) (backToKw pos (keywordEach [] X.env))) := by rfl) : PE X (.Call (.Attribute o m apos) (e :: es) [] pos) (uMetX C m sp W ta t) := by
  obtain ⟨f, hm, run⟩ := M.ex
  refine ⟨fun pins s σ H Q I h => PySem.W.methodCall_KW (pl := pl) (thn (he.run pins s σ H _ I h) fun u s1 ⟨x, H1, I1, rx, q⟩ => ?_) ht⟩
  cases x with
  | ref a =>
    obtain ⟨fs, e1, q1⟩ := OK.out q
    obtain ⟨dx, ea⟩ := insO_at e1
    obtain rfl : u = Value.ref a := rx
    refine getmeth_ok I1 ea M.cls hm q1.1 ?_
    exact PySem.W.callWith_K (first := [.ref a]) (h₀ := X.base) I1.ok.mod.kin hm.kp (thn (ha.run pos pins s1 σ H1 _ I1 q1.2) fun us s2 ⟨vs, H2, I2, r, q2⟩ => ⟨I2.kIn, run (us := .ref a :: us) (vs := .ref a :: vs) rfl rfl rfl rfl rfl hr (passAt tk σ) I2 (.cons rfl r) q2⟩) hst hpl
  | _ => exact False.elim q
theorem pe_metX0 (M : MetX X.prog X.w X.K X.mg X.base k C m sp) (hr : Room k X.A) (tk : Takes X W) (he : PE X o ta)
    (ht : eval (.Call (.Attribute o m apos) [] [] pos) X.env = (do
      let ov ← eval o X.env
      standAt apos.atName
      let (f, first) ← holding [ov] (getMethod ov m pl)
      callWith pos f first (backTo pos (starEach [] X.env)) (backToKw pos (keywordEach [] X.env))) := by rfl) : PE X (.Call (.Attribute o m apos) [] [] pos) (uMetX C m sp W ta tNil) := by
  obtain ⟨f, hm, run⟩ := M.ex
  refine ⟨fun pins s σ H Q I h => PySem.W.methodCall_KW (pl := pl) (thn (he.run pins s σ H _ I h) fun u s1 ⟨x, H1, I1, rx, q⟩ => ?_) ht⟩
  cases x with
  | ref a =>
    obtain ⟨fs, e1, q1⟩ := OK.out q
    obtain ⟨dx, ea⟩ := insO_at e1
    obtain rfl : u = Value.ref a := rx
    refine getmeth_ok I1 ea M.cls hm q1.1 ?_
    exact PySem.W.callWith_K0 (first := [.ref a]) I1.kIn hm.kp (run (us := [.ref a]) (vs := [.ref a]) rfl rfl rfl rfl rfl hr (passAt tk σ) I1 (.cons rfl .nil) q1.2)
  | _ => exact False.elim q
theorem pe_met (M : MetC X.prog X.w X.K X.mg X.base k C m sp) (hr : Room k X.A) (he : PE X o ta) (ha : PA X (e :: es) t) (hst : starEach (e :: es) X.env = (false, eval e X.env) :: starEach es X.env := by rfl) (hpl : (backTo pos (starEach es X.env)).any (·.1) = false := by rfl)
    (ht : eval (.Call (.Attribute o m apos) (e :: es) [] pos) X.env = (do
      let ov ← eval o X.env
      standAt apos.atName
      let (f, first) ← holding [ov] (getMethod ov m pl)
      callWith pos f first (backTo pos (starEach (e :: es) X.env)) (backToKw pos (keywordEach [] X.env))) := by rfl) : PE X (.Call (.Attribute o m apos) (e :: es) [] pos) (uMet C m sp ta t) := by
  obtain ⟨f, fd, ps, hm, F, b⟩ := M.ex
  refine peOf (pe_meth (pl := pl) (pe_weak he) M.cls hm F hr b .nil pass0 ha hst hpl ht) fun σ H Q q => ⟨_, q, fun x H1 h => ?_⟩
  cases x with
  | ref a =>
    obtain ⟨fs, e1, q1⟩ := OK.out h
    obtain ⟨dx, ea⟩ := insO_at e1
    refine ⟨a, dx, fs, rfl, ea, q1.1, ?_⟩
    simp only [List.append_nil]
    exact q1.2
  | _ => exact False.elim h
theorem pe_met0 (M : MetC X.prog X.w X.K X.mg X.base k C m sp) (hr : Room k X.A) (he : PE X o ta)
    (ht : eval (.Call (.Attribute o m apos) [] [] pos) X.env = (do
      let ov ← eval o X.env
      standAt apos.atName
      let (f, first) ← holding [ov] (getMethod ov m pl)
      callWith pos f first (backTo pos (starEach [] X.env)) (backToKw pos (keywordEach [] X.env))) := by rfl) : PE X (.Call (.Attribute o m apos) [] [] pos) (uMet C m sp ta tNil) := by
  obtain ⟨f, fd, ps, hm, F, b⟩ := M.ex
  refine peOf (pe_meth0 (pl := pl) (pe_weak he) M.cls hm F hr b .nil pass0 ht) fun σ H Q q => ⟨_, q, fun x H1 h => ?_⟩
  cases x with
  | ref a =>
    obtain ⟨fs, e1, q1⟩ := OK.out h
    obtain ⟨dx, ea⟩ := insO_at e1
    exact ⟨a, dx, fs, rfl, ea, q1.1, q1.2⟩
  | _ => exact False.elim h
end
structure PrpC (P : Program) (w : World) (K : PySem.W.Frag) (mg : Str → Option Value) (base : Heap) (k : Nat) (C : Addr) (f : Str) (sp : Sp) : Prop where
  cls : Cls K C
  ex : ∃ (p g : Addr) (fd : FuncData) (ps : List Str), PropOf K C f p g ∧ FnOk P w K mg base CX0 k g fd ps sp ∧ Binds K fd ps []
def uProp (C : Addr) (sp : Sp) (ta : TE) : TE := fun σ H Q => ta σ H fun x H1 => match x with
  | .ref a => @OK _ (insO C (H1 a)) ⟨fun _ => sp [x] H1 Q E0⟩
  | _ => False
def aPr (C : Addr) (sp : Sp) (x : V) (H : Hp) [Q : Kp VK] : Prop := match x with
  | .ref a => @OK _ (insO C (H a)) ⟨fun _ => @Call sp [x] H Q ⟨E0⟩⟩
  | _ => False
theorem aPr_ref {C a : Addr} {sp : Sp} {H : Hp} {Q : VK} : @aPr C sp (.ref a) H ⟨Q⟩ = @OK _ (insO C (H a)) ⟨fun _ => @Call sp [.ref a] H ⟨Q⟩ ⟨E0⟩⟩ := rfl
theorem r_prop {C : Addr} {sp : Sp} {ta : TE} {σ : L2.St} {H : Hp} {Q : VK} : uProp C sp ta σ H Q = ta σ H fun x H1 => @aPr C sp x H1 ⟨Q⟩ := rfl
theorem pe_uProp {X : Cx} {k : Nat} {C : Addr} {f : Str} {sp : Sp} {e : Expr} {ta : TE} {pos : Pos} (M : PrpC X.prog X.w X.K X.mg X.base k C f sp) (hr : Room (k + 1) X.A) (he : PE X e ta) (hab : attributeBase e f X.env (eval e X.env) = eval e X.env := by rfl) : PE X (.Attribute e f pos) (uProp C sp ta) := by
  obtain ⟨p, g, fd, ps, hp, F, b⟩ := M.ex
  refine peOf (pe_prop (pe_weak he) M.cls hp F hr b .nil pass0 hab) fun σ H Q q => ⟨_, q, fun x H1 h => ?_⟩
  cases x with
  | ref a =>
    obtain ⟨fs, e1, q1⟩ := OK.out h
    obtain ⟨dx, ea⟩ := insO_at e1
    exact ⟨a, dx, fs, rfl, ea, q1⟩
  | _ => exact False.elim h
end U
end

section
namespace U
open PySem PySem.Spec PyProof.Rows L2
def srtJ (K : PySem.W.Frag) (vs : List V) (H : Hp) (Q : VK) : Prop := match vs with
  | [.ref a] => match H a with
    | some (.lst _) => rSortedS K vs H Q
    | _ => ∃ (kvs : List (Key × V)) (ks : List Str), Rd H a (.dK kvs) ∧ kvs.map (·.1) = ks.map Sum.inr ∧ ks.length < 64 ∧ ∀ ys p, ys.Perm ks → sortedS ys = true → H p = none → Q (.ref p) (upd H p (.lst (ys.map V.str)))
  | _ => False
theorem call_srt {X : Cx} (hc : X.calm = true) : CallR X (.builtin "sorted") (srtJ X.K) := by
  intro pins s σ H vs us Q I r h
  unfold srtJ at h
  split at h
  · rename_i a
    split at h
    · exact cr_sortedS pins s σ H _ us Q I r h
    · obtain ⟨kvs, ks, h1, h2, h3, q⟩ := h
      exact call_sortedD hc pins s σ H _ us Q I r ⟨a, kvs, ks, rfl, h1, h2, h3, q⟩
  · exact h.elim
theorem srtL {K : PySem.W.Frag} {a : Addr} {xs : List Str} {H : Hp} {Q : VK} (h : H a = some (.lst (xs.map V.str))) (hl : xs.length < 64) (q : ∀ ys p H', ys.Perm xs → sortedS ys = true → New H p (.lst (ys.map V.str)) H' → Q (.ref p) H') : @aC (srtJ K) [.ref a] H ⟨Q⟩ := by
  show srtJ K [.ref a] H Q
  unfold srtJ
  simp only [h]
  exact ⟨a, xs, rfl, .inl (.inl h), hl, fun ys p h1 h2 h3 => q ys p _ h1 h2 ⟨h3, rfl⟩⟩
theorem srtD {K : PySem.W.Frag} {a : Addr} {kvs : List (Key × V)} {ks : List Str} {H : Hp} {Q : VK} (h : H a = some (.dK kvs)) (hk : kvs.map (·.1) = ks.map Sum.inr) (hl : ks.length < 64) (q : ∀ ys p H', ys.Perm ks → sortedS ys = true → New H p (.lst (ys.map V.str)) H' → Q (.ref p) H') : @aC (srtJ K) [.ref a] H ⟨Q⟩ := by
  show srtJ K [.ref a] H Q
  unfold srtJ
  simp only [h]
  exact ⟨kvs, ks, .inl h, hk, hl, fun ys p h1 h2 h3 => q ys p _ h1 h2 ⟨h3, rfl⟩⟩
def rInsertU : V → List V → Hp → VK → Prop := fun x vs H Q => match x, vs with
  | .ref l, [.int i, y] => @OK _ (lstO (H l)) ⟨fun xs => @Cd (xs.length < sizeLine ∧ 0 ≤ i ∧ i < 4611686018427387904) ⟨@Md H l (.lst (xs.take i.toNat ++ [y] ++ xs.drop i.toNat)) ⟨fun H' => Q .non H'⟩⟩⟩
  | _, _ => False
theorem aM_ins {l : Addr} {i : Int} {y : V} {H : Hp} {Q : VK} : @aM rInsertU (.ref l) [.int i, y] H ⟨Q⟩ = @OK _ (lstO (H l)) ⟨fun xs => @Cd (xs.length < sizeLine ∧ 0 ≤ i ∧ i < 4611686018427387904) ⟨@Md H l (.lst (xs.take i.toNat ++ [y] ++ xs.drop i.toNat)) ⟨fun H' => Q .non H'⟩⟩⟩ := rfl
theorem mt_insertU {X : Cx} : MtR X "list.insert" rInsertU := mtOf mt_insert fun x vs H Q h => by
  unfold rInsertU at h
  split at h
  · obtain ⟨xs, e, h1⟩ := OK.out h
    exact ⟨_, xs, _, _, rfl, rfl, lstO_at e, h1.1.1, h1.1.2.1, Int.lt_trans h1.1.2.2 (by decide), h1.2 _ ⟨rfl⟩⟩
  · exact h.elim
theorem idx_of {K : PySem.W.Frag} {a : Addr} {ys : List V} {y z : V} {j : Nat} {H : Hp} {Q : VK} (h : H a = some (.lst ys)) (hf : flatV y = true) (hy : ys.all flatV = true) (hj : ys[j]? = some z) (he : eqV z y = true) (hn : ∀ (m : Nat) z', m < j → ys[m]? = some z' → eqV z' y = false) (q : Q (.int (j : Nat)) H) :
    @aM (rIndex K) (.ref a) [y] H ⟨Q⟩ := ⟨a, ys, y, j, z, rfl, rfl, .inl (.inl h), hf, hy, hj, he, hn, q⟩
section
variable {K : PySem.W.Frag} {g : TG} {tt : TT} {tk tv te : TE} {us : List Nat} {σ : L2.St} {H : Hp} {Q : VK} {a : Addr}
def dcJ (J : It) (g : TG) (tt : TT) (tk tv : TE) (vs : List Nat) (σ : L2.St) (H1 : Hp) (Q : VK) : Prop := ∀ D, H1 D = none → ∃ W : Nat → Nat → Hp → Prop, (∃ m, W 0 m (upd H1 D (.dK []))) ∧ ∀ i m H, W i m H →
  (J.stop i H ∧ Q (.ref D) H) ∨ (J.go i H ∧ ∃ Nx : Hp → Prop, (∀ H', Nx H' → ∃ m', m' < m ∧ W (i + 1) m' H') ∧ ∀ x H', J.yld i H x H' → g x (wipe σ vs) H' fun σ2 H2 => wipe σ2 vs = wipe σ vs ∧ tt σ2 H2 fun b H3 =>
    if b = true then tk σ2 H3 fun y H4 => tv σ2 H4 fun z H5 => ∃ kvs k, y = kV k ∧ H5 D = some (.dK kvs) ∧ kvs.length < sizeLine ∧ Nx (upd H5 D (.dK (putK kvs k z))) else Nx H3)
def DcK (x : V) (us : List Nat) (σ : L2.St) (H : Hp) [g : Kp TG] [tt : Kp TT] [tk : Kp (TE × TE)] [Q : Kp VK] : Prop := keyJ x H fun J H1 => dcJ J g.val tt.val tk.val.1 tk.val.2 us σ H1 Q.val
theorem r_dcK : tDc (iKeyU te) g tt tk tv us σ H Q = te σ H fun x H1 => @DcK x us σ H1 ⟨g⟩ ⟨tt⟩ ⟨(tk, tv)⟩ ⟨Q⟩ := rfl
theorem dcK_by {o : Obj} {kvs : List (Key × V)} (hx : H a = some (.frz o (.dK kvs))) (Pv : Addr → Nat → List (Key × V) → Hp → Prop) (h0 : ∀ D, H D = none → Pv D 0 [] (upd H D (.dK []))) (hG : ∀ D i acc H', H D = none → i ≤ kvs.length → Pv D i acc H' → H' a = some (.frz o (.dK kvs)))
    (hs : ∀ D i k v acc H' (Nx : Hp → Prop), H D = none → kvs[i]? = some (k, v) → Pv D i acc H' → (∀ acc H, Pv D (i + 1) acc H → Nx H) → g (kV k) (wipe σ us) H' fun σ2 H2 => wipe σ2 us = wipe σ us ∧ tk σ2 H2 fun y H4 => tv σ2 H4 fun z H5 => ∃ kvs k, y = kV k ∧ H5 D = some (.dK kvs) ∧ kvs.length < sizeLine ∧ Nx (upd H5 D (.dK (putK kvs k z))))
    (hd : ∀ D acc H', H D = none → Pv D kvs.length acc H' → Q (.ref D) H') : @DcK (.ref a) us σ H ⟨g⟩ ⟨tYes⟩ ⟨(tk, tv)⟩ ⟨Q⟩ := by
  unfold DcK keyJ
  simp only [hx]
  intro D hD
  refine ⟨fun i m H' => m = kvs.length - i ∧ i ≤ kvs.length ∧ ∃ acc, Pv D i acc H', ⟨_, rfl, Nat.zero_le _, [], h0 D hD⟩, ?_⟩
  rintro i m H' ⟨rfl, hi, acc, p⟩
  have fz := hG D i acc H' hD hi p
  have W := walk_keys (d := a) (o := o) (kvs := kvs)
  by_cases hlt : i < kvs.length
  · refine .inr ⟨W.goes i H' hlt fz, fun H2 => ∃ acc, Pv D (i + 1) acc H2, fun H2 h2 => ⟨kvs.length - (i + 1), by omega, rfl, hlt, h2⟩, fun x H2 y => ?_⟩
    obtain ⟨rfl, k, v, e, rfl⟩ := W.yields i H' x H2 hlt fz y
    show g _ _ _ _
    exact hs D i k v acc _ (fun H2 => ∃ acc, Pv D (i + 1) acc H2) hD e p fun acc H h => ⟨acc, h⟩
  · obtain rfl : i = kvs.length := by omega
    exact .inl ⟨W.stops H' fz, hd D acc H' hD p⟩
end
end U
end

section
namespace U
open PySem PySem.Spec PyProof.Rows L2
namespace Hd
def prP (K : PySem.W.Frag) (C : Addr) (f : Str) : Addr := match PySem.W.findIn K (.ref C) f with
  | some (some (.ref p)) => p
  | _ => 0
def prG (K : PySem.W.Frag) (C : Addr) (f : Str) : Addr := match PySem.W.recIn K (prP K C f) "property" with
  | some (.ref g :: _) => g
  | _ => 0
def prB (K : PySem.W.Frag) (C : Addr) (f : Str) : Bool := He.eqO (PySem.W.findIn K (.ref C) f) (some (some (.ref (prP K C f)))) && (He.eqO (PySem.W.specialIn K (.ref (prP K C f)) "__get__") (some (some (.builtin "property.__get__"))) &&
  (decide (PySem.W.takesIn K (.ref (prP K C f)) = some true) && (match PySem.W.recIn K (prP K C f) "property" with
    | some (.ref g :: _) => decide (g = prG K C f)
    | _ => false)))
theorem prB_ok {K : PySem.W.Frag} {C : Addr} {f : Str} (h : prB K C f = true) : PropOf K C f (prP K C f) (prG K C f) := by
  obtain ⟨h1, h⟩ := He.ba h
  obtain ⟨h2, h⟩ := He.ba h
  obtain ⟨h3, h4⟩ := He.ba h
  refine ⟨He.eqO_ok h1, He.eqO_ok h2, of_decide_eq_true h3, ?_⟩
  split at h4
  · rename_i g r e
    rw [of_decide_eq_true h4] at e
    exact ⟨r, e⟩
  · cases h4
end Hd
end U
end

section
namespace U
open PySem PySem.Spec PyProof.Rows L2
section
variable {H H' H1 H2 : Hp} {d p : Addr} {kvs : List (Key × V)} {od : Obj} {u : HO} {D : Ends} {σ : L2.St} {W : WX}
theorem lock_in {i : Nat} {tb : WX → TS} (h1 : σ[i]? = some (some (.ref d))) (h2 : H d = some (.dK kvs)) (q : ∀ od H', Mod H d (.frz od (.dK kvs)) H' → tb (lockW d od (.dK kvs) W) (lockE d od (.dK kvs) D) σ H') : uLock i tb W D σ H :=
  r_uLockD h1 h2 fun od => q od _ ⟨rfl⟩
theorem lock_nx (h : H' d = some (.frz od u)) (q : ∀ H2, Mod H' d u H2 → D.nx σ H2) : (lockE d od u D).nx σ H' := ⟨h, q _ ⟨rfl⟩⟩
theorem lock_rt {v : V} (h : H' d = some (.frz od u)) (q : ∀ H2, Mod H' d u H2 → D.rt v H2) : (lockE d od u D).rt v H' := ⟨h, q _ ⟨rfl⟩⟩
theorem lock_w {c : Value} {x : Option Addr} (h : H' d = some (.frz od u)) (q : ∀ H2, Mod H' d u H2 → W c x σ H2) : lockW d od u W c x σ H' := ⟨h, q _ ⟨rfl⟩⟩
theorem Same.unlock (h : H d = some u) (k : Keep d H H') (m : Mod H' d u H2) : L2.Same H H2 := fun b v e => by
  by_cases z : b = d
  · subst z
    rw [h] at e
    cases e
    exact m.at
  · rw [m.off z, k b z (by rw [e]; simp)]
    exact e
theorem Keep.lock (m : Mod H d u H') : Keep d H H' := fun b h1 _ => m.off h1
theorem Keep.same2 (k : Keep d H H1) (s : L2.Same H1 H') : Keep d H H' := k.trans (Keep.same' s)
theorem Keep.no (k : Keep d H H') (h : H' p = Option.none) (hp : p ≠ d) : H p = Option.none := by
  cases e : H p with
  | none => rfl
  | some v => rw [k p hp (by rw [e]; simp), e] at h; cases h
end
theorem valV_at {kvs : List (Key × V)} (hn : (kvs.map (·.1)).Nodup) {i : Nat} {k : Key} {v : V} (h : kvs[i]? = some (k, v)) : valV kvs k = some v := by
  induction kvs generalizing i with
  | nil => rw [List.getElem?_nil] at h; cases h
  | cons p r ih =>
    rw [List.map_cons, List.nodup_cons] at hn
    cases i with
    | zero =>
      rw [List.getElem?_cons_zero] at h
      cases h
      exact valV_pos rfl
    | succ i =>
      rw [List.getElem?_cons_succ] at h
      rw [valV_neg (fun e => hn.1 (by rw [e]; exact List.mem_map.mpr ⟨_, List.mem_of_getElem? h, rfl⟩))]
      exact ih hn.2 h
theorem valV_mem {kvs : List (Key × V)} {k : Key} : (valV kvs k).isSome = true ↔ k ∈ kvs.map (·.1) := by
  rw [← valV_any, List.any_eq_true, List.mem_map]
  exact ⟨fun ⟨p, h1, h2⟩ => ⟨p, h1, of_decide_eq_true h2⟩, fun ⟨p, h1, h2⟩ => ⟨p, h1, decide_eq_true h2⟩⟩
theorem putK_new {kvs : List (Key × V)} {k : Key} {v : V} (h : k ∉ kvs.map (·.1)) : putK kvs k v = kvs ++ [(k, v)] := by
  unfold putK
  rw [if_neg]
  rw [List.any_eq_true]
  rintro ⟨p, h1, h2⟩
  exact h (List.mem_map.mpr ⟨p, h1, of_decide_eq_true h2⟩)
theorem comp_filt {K : PySem.W.Frag} {g : TG} {σ : L2.St} {H : Hp} {tt : TT} {te : TE} {us : List Nat} {Q : VK} {a : Addr} {xs : List V} (f : V → Bool) (hx : seqAt H a = some xs) (hl : xs.length ≤ 16777216)
    (hs : ∀ x H' (S : VK) (N : Hp → Prop), x ∈ xs → L2.Same H H' → (f x = true → S x H') → (f x = false → N H') → g x (wipe σ us) H' fun σ2 H2 => wipe σ2 us = wipe σ us ∧ tt σ2 H2 fun b H3 => if b = true then te σ2 H3 S else N H3)
    (hd : ∀ L H', H L = none → H' L = some (.lst (xs.filter f)) → L2.Same H H' → Q (.ref L) H') : @CompU K (.ref a) us σ H ⟨g⟩ ⟨tt⟩ ⟨te⟩ ⟨Q⟩ := by
  refine comp_seq hx (fun D i acc H' => L2.Same H H' ∧ H D = none ∧ H' D = some (.lst acc) ∧ acc = (xs.take i).filter f) (fun D hD => ⟨same_new (L2.Same.refl H) hD, hD, upd_same, rfl⟩) (fun D i acc H' hD _ ⟨s, _⟩ => seqAt_of hx s) (fun D i x acc H' Nx hxi ⟨s, hD, e, ea⟩ hN => ?_) (fun D acc H' hD ⟨s, _, e, ea⟩ => ?_)
  · have hi : i < xs.length := (List.getElem?_eq_some_iff.mp hxi).1
    have len : acc.length < sizeLine := by
      rw [ea]
      show _ < 16777216
      have := List.length_filter_le f (xs.take i)
      rw [List.length_take] at this
      omega
    refine hs x H' (fun y H4 => ∃ acc, H4 D = some (.lst acc) ∧ acc.length < sizeLine ∧ Nx (upd H4 D (.lst (acc ++ [y])))) Nx (List.mem_of_getElem? hxi) s (fun hf => ⟨acc, e, len, hN (acc ++ [x]) _ ⟨fun b u eb => ?_, hD, upd_same, ?_⟩⟩) fun hf => hN acc H' ⟨s, hD, e, ?_⟩
    · rw [upd_ne (ne_of_none eb hD)]
      exact s _ _ eb
    · rw [ea, List.take_add_one, hxi, List.filter_append]
      show _ = _ ++ List.filter f [x]
      rw [List.filter_cons_of_pos hf]
      rfl
    · rw [ea, List.take_add_one, hxi, List.filter_append]
      show _ = _ ++ List.filter f [x]
      rw [List.filter_cons_of_neg (by rw [hf]; decide), List.filter_nil, List.append_nil]
  · exact hd D H' hD (by rw [e, ea, List.take_of_length_le (Nat.le_refl _)]) s
theorem nodup_len {α : Type} [DecidableEq α] : ∀ {l m : List α}, l.Nodup → (∀ z ∈ l, z ∈ m) → l.length ≤ m.length
  | [], _, _, _ => Nat.zero_le _
  | x :: l, m, hn, h => by
    rw [List.nodup_cons] at hn
    have hx := h x (List.mem_cons_self ..)
    have := nodup_len (l := l) (m := m.erase x) hn.2 fun z hz => (List.mem_erase_of_ne (fun (e : z = x) => hn.1 (e ▸ hz))).mpr (h z (List.mem_cons_of_mem _ hz))
    rw [List.length_erase_of_mem hx] at this
    have : 0 < m.length := List.length_pos_iff.mpr (fun e => by rw [e] at hx; cases hx)
    rw [List.length_cons]
    omega
def Rz (W : WX) (C : Addr) (sp : Sp) (vs : List V) (σ : L2.St) (H : Hp) : Prop := uRaiseO W C sp (fun _ _ Q => Q vs H) { nx := fun _ _ => False, rt := fun _ _ => False } σ H
theorem r_raiseO {W : WX} {C : Addr} {sp : Sp} {t : TA} {D : Ends} {σ : L2.St} {H : Hp} : uRaiseO W C sp t D σ H = t σ H fun vs H1 => Rz W C sp vs σ H1 := rfl
theorem rz1 {K : PySem.W.Frag} {W : WX} {C : Addr} {f : Str} {x : V} {σ : L2.St} {H1 : Hp} (T : OexC K C) (n1 : PySem.W.findIn K (.ref C) f = some none) (q : ∀ d H', H1 d = none → H' d = some (.xd [(f, x)]) → L2.Same H1 H' → W (.ref C) (some d) σ H') : Rz W C (spIni1 K f) [x] σ H1 :=
  raise1 (H := H1) (t := fun _ _ Q => Q [x] H1) T n1 rfl q
theorem rz2 {K : PySem.W.Frag} {W : WX} {C : Addr} {f g : Str} {x y : V} {σ : L2.St} {H1 : Hp} (T : OexC K C) (n1 : PySem.W.findIn K (.ref C) f = some none) (n2 : PySem.W.findIn K (.ref C) g = some none) (q : ∀ d H', H1 d = none → H' d = some (.xd [(g, y), (f, x)]) → L2.Same H1 H' → W (.ref C) (some d) σ H') : Rz W C (spIni2 K f g) [x, y] σ H1 :=
  raise2 (H := H1) (t := fun _ _ Q => Q [x, y] H1) T n1 n2 rfl q
def SameX (o : Addr) (H H' : Hp) : Prop := ∀ b u, b ≠ o → H b = some u → H' b = some u
section
variable {o p : Addr} {H H1 H' : Hp} {u v : HO}
theorem SameX.of (s : L2.Same H H') : SameX o H H' := fun b u _ e => s b u e
theorem SameX.same (s : SameX o H H1) (k : L2.Same H1 H') : SameX o H H' := fun b u h e => k b u (s b u h e)
theorem SameX.new (s : SameX o H H1) (n : New H1 p u H') : SameX o H H' := s.same n.same
theorem SameX.mod (s : SameX o H H1) (m : Mod H1 o u H') : SameX o H H' := fun b w h e => m.old h (s b w h e)
theorem SameX.modF (s : SameX o H H1) (m : Mod H1 p u H') (f : H p = none) : SameX o H H' := fun b w h e => m.old (fun z => by rw [z, f] at e; cases e) (s b w h e)
theorem SameX.no (s : SameX o H H') (h : H' p = none) (hp : p ≠ o) : H p = none := by
  cases e : H p with
  | none => rfl
  | some w => rw [s p w hp e] at h; cases h
end
end U
end

section
namespace U
open PySem PySem.Spec PyProof.Rows L2
inductive Ins where
  | push (z : Str) | drop | pick (k : Nat) | roll (k : Nat) | keep (r : Nat) | load (r : Nat) | emit | expect (z : Str) | same | differ
  deriving DecidableEq
def Ins.enc : Ins → List V
  | .push z => [.str "push", .str z]
  | .drop => [.str "drop"]
  | .pick k => [.str "pick", .int k]
  | .roll k => [.str "roll", .int k]
  | .keep r => [.str "keep", .int r]
  | .load r => [.str "load", .int r]
  | .emit => [.str "emit"]
  | .expect z => [.str "expect", .str z]
  | .same => [.str "same"]
  | .differ => [.str "differ"]
def Ins.ok : Ins → Prop
  | .push z => isMarkS z = true
  | .expect z => isMarkS z = true
  | .pick k => k < 24
  | .roll k => k < 24
  | .keep r => r < 4
  | .load r => r < 4
  | _ => True
theorem basic_ins {xs : List V} (h : BasicT xs) : ∃ i : Ins, i.ok ∧ xs = i.enc := by
  rcases h with ⟨w, z, rfl, rfl | rfl, m⟩ | ⟨w, i, rfl, rfl | rfl, i0, i1⟩ | ⟨w, i, rfl, rfl | rfl, i0, i1⟩ | ⟨w, rfl, h⟩
  · exact ⟨.push z, m, rfl⟩
  · exact ⟨.expect z, m, rfl⟩
  · obtain ⟨k, rfl⟩ := Int.eq_ofNat_of_zero_le i0
    exact ⟨.pick k, (by show k < 24; omega), rfl⟩
  · obtain ⟨k, rfl⟩ := Int.eq_ofNat_of_zero_le i0
    exact ⟨.roll k, (by show k < 24; omega), rfl⟩
  · obtain ⟨k, rfl⟩ := Int.eq_ofNat_of_zero_le i0
    exact ⟨.keep k, (by show k < 4; omega), rfl⟩
  · obtain ⟨k, rfl⟩ := Int.eq_ofNat_of_zero_le i0
    exact ⟨.load k, (by show k < 4; omega), rfl⟩
  · rcases h with rfl | rfl | rfl | rfl
    · exact ⟨.drop, trivial, rfl⟩
    · exact ⟨.emit, trivial, rfl⟩
    · exact ⟨.same, trivial, rfl⟩
    · exact ⟨.differ, trivial, rfl⟩
end U
end

section
namespace U
open PySem PySem.Spec PyProof.Rows L2
namespace Pg
inductive In where
  | bas (i : Ins) | call (z : Str) | rep (z : Str) (n : Nat)
  deriving DecidableEq
def In.enc : In → List V
  | .bas i => i.enc
  | .call z => [.str "call", .str z]
  | .rep z n => [.str "repeat", .str z, .int n]
def In.ok : In → Prop
  | .bas i => i.ok
  | .call z => isMarkS z = true
  | .rep z n => isMarkS z = true ∧ n ≤ 10 ^ 120
def In.named : In → Option Str
  | .bas _ => none
  | .call z => some z
  | .rep z _ => some z
abbrev Prog := List (Str × List In)
def names (P : Prog) : List Str := P.map (·.1)
def addNew (acc : List Str) (o : Option Str) : List Str := match o with
  | none => acc
  | some b => if b ∈ acc then acc else acc ++ [b]
def calleesL (body : List In) : List Str := body.foldl (fun acc i => addNew acc i.named) []
theorem addNew_mem {acc : List Str} {o : Option Str} {b : Str} : b ∈ addNew acc o ↔ b ∈ acc ∨ o = some b := by
  unfold addNew
  cases o with
  | none => simp
  | some c =>
    simp only [Option.some.injEq]
    split
    · rename_i h
      exact ⟨.inl, fun h2 => h2.elim id fun e => e ▸ h⟩
    · rw [List.mem_append, List.mem_singleton]
      exact ⟨fun h => h.imp id Eq.symm, fun h => h.imp id Eq.symm⟩
theorem fold_mem {b : Str} : ∀ (body : List In) (acc : List Str), b ∈ body.foldl (fun acc i => addNew acc i.named) acc ↔ b ∈ acc ∨ ∃ i ∈ body, i.named = some b
  | [], acc => by simp
  | i :: body, acc => by
    rw [List.foldl_cons, fold_mem body, addNew_mem]
    simp only [List.mem_cons, exists_eq_or_imp]
    exact or_assoc
theorem callees_mem {b : Str} {body : List In} : b ∈ calleesL body ↔ ∃ i ∈ body, i.named = some b := by
  unfold calleesL
  rw [fold_mem]
  simp
def Calls (P : Prog) (a b : Str) : Prop := ∃ body, (a, body) ∈ P ∧ b ∈ calleesL body
theorem body_uniq {P : Prog} (hn : (names P).Nodup) {z : Str} {b c : List In} (h1 : (z, b) ∈ P) (h2 : (z, c) ∈ P) : b = c := by
  induction P with
  | nil => cases h1
  | cons p P ih =>
    have hn' : (p.1 :: names P).Nodup := hn
    rw [List.nodup_cons] at hn'
    have nm : ∀ c, (z, c) ∈ P → z ∈ names P := fun c h => List.mem_map.mpr ⟨_, h, rfl⟩
    rcases List.mem_cons.mp h1 with e1 | h1 <;> rcases List.mem_cons.mp h2 with e2 | h2
    · rw [← e1] at e2
      exact (Prod.mk.inj e2).2.symm
    · exact absurd (nm _ h2) (by rw [← e1] at hn'; exact hn'.1)
    · exact absurd (nm _ h1) (by rw [← e2] at hn'; exact hn'.1)
    · exact ih hn'.2 h1 h2
structure Dfs (P : Prog) (ord : List Str) : Prop where
  nd : ord.Nodup
  sub : ∀ z ∈ ord, z ∈ names P
  cl : ∀ (i : Nat) z b, ord[i]? = some z → Calls P z b → ∃ j, j < i ∧ ord[j]? = some b
theorem Dfs.nil {P : Prog} : Dfs P [] := ⟨List.nodup_nil, fun _ h => (nomatch h), fun i z b h => by rw [List.getElem?_nil] at h; cases h⟩
theorem Dfs.push {P : Prog} {ord : List Str} {z : Str} (d : Dfs P ord) (hz : z ∈ names P) (hn : z ∉ ord) (hc : ∀ b, Calls P z b → b ∈ ord) : Dfs P (ord ++ [z]) := by
  refine ⟨?_, fun y hy => ?_, fun i y b hy hb => ?_⟩
  · rw [List.nodup_append]
    refine ⟨d.nd, List.nodup_cons.mpr ⟨fun h => (nomatch h), List.nodup_nil⟩, fun a ha b hb e => ?_⟩
    rw [List.mem_singleton.mp hb] at e
    exact hn (e ▸ ha)
  · rcases List.mem_append.mp hy with h | h
    · exact d.sub y h
    · rw [List.mem_singleton.mp h]; exact hz
  · rcases Nat.lt_or_ge i ord.length with h | h
    · rw [List.getElem?_append_left h] at hy
      obtain ⟨j, h1, h2⟩ := d.cl i y b hy hb
      exact ⟨j, h1, by rw [List.getElem?_append_left (by omega)]; exact h2⟩
    · have hi : i = ord.length := by
        have := (List.getElem?_eq_some_iff.mp hy).1
        rw [List.length_append, List.length_singleton] at this
        omega
      subst hi
      rw [List.getElem?_append_right (Nat.le_refl _), Nat.sub_self] at hy
      cases hy
      obtain ⟨j, hj, e⟩ := List.mem_iff_getElem.mp (hc b hb)
      exact ⟨j, hj, by rw [List.getElem?_append_left hj, List.getElem?_eq_getElem hj, e]⟩
structure Pth (P : Prog) (ord path : List Str) : Prop where
  nd : path.Nodup
  sub : ∀ z ∈ path, z ∈ names P
  ch : ∀ (k : Nat) a b, path[k]? = some a → path[k + 1]? = some b → Calls P a b
  nw : ∀ z ∈ path, z ∉ ord
theorem Pth.pop {P : Prog} {ord path : List Str} {z : Str} (p : Pth P ord path) (hz : path[path.length - 1]? = some z) : Pth P (ord ++ [z]) path.dropLast := by
  have ml : ∀ y, y ∈ path.dropLast → y ∈ path := fun y h => (List.dropLast_sublist _).subset h
  refine ⟨p.nd.sublist (List.dropLast_sublist _), fun y h => p.sub y (ml y h), fun k a b h1 h2 => ?_, fun y h => ?_⟩
  · rw [List.getElem?_dropLast] at h1 h2
    split at h1
    · split at h2
      · exact p.ch k a b h1 h2
      · cases h2
    · cases h1
  · rw [List.mem_append, List.mem_singleton]
    rintro (h2 | rfl)
    · exact p.nw y (ml y h) h2
    · obtain ⟨i, hi, e⟩ := List.mem_iff_getElem.mp h
      have hi' : i < path.length - 1 := by rw [List.length_dropLast] at hi; exact hi
      have e1 : path[i]? = some y := by
        have : path.dropLast[i]? = some y := by rw [List.getElem?_eq_getElem hi, e]
        rw [List.getElem?_dropLast, if_pos hi'] at this
        exact this
      have := (List.getElem?_inj (by omega) p.nd).mp (e1.trans hz.symm)
      omega
theorem Pth.push {P : Prog} {ord path : List Str} {z w : Str} (p : Pth P ord path) (hz : path[path.length - 1]? = some z) (hw : Calls P z w) (hn : w ∈ names P) (h1 : w ∉ ord) (h2 : w ∉ path) : Pth P ord (path ++ [w]) := by
  refine ⟨?_, fun y h => ?_, fun k a b ha hb => ?_, fun y h => ?_⟩
  · rw [List.nodup_append]
    refine ⟨p.nd, List.nodup_cons.mpr ⟨fun h => (nomatch h), List.nodup_nil⟩, fun a ha b hb e => ?_⟩
    rw [List.mem_singleton.mp hb] at e
    exact h2 (e ▸ ha)
  · rcases List.mem_append.mp h with h | h
    · exact p.sub y h
    · rw [List.mem_singleton.mp h]; exact hn
  · have hl := (List.getElem?_eq_some_iff.mp hb).1
    rw [List.length_append, List.length_singleton] at hl
    rcases Nat.lt_or_ge (k + 1) path.length with h | h
    · rw [List.getElem?_append_left (by omega)] at ha hb
      exact p.ch k a b ha hb
    · have hk : k = path.length - 1 := by omega
      rw [List.getElem?_append_left (by omega), hk, hz] at ha
      cases ha
      rw [List.getElem?_append_right (by omega), show k + 1 - path.length = 0 by omega] at hb
      cases hb
      exact hw
  · rcases List.mem_append.mp h with h | h
    · exact p.nw y h
    · rw [List.mem_singleton.mp h]; exact h1
structure IsRing (P : Prog) (r : List Str) : Prop where
  ne : r ≠ []
  nd : r.Nodup
  ch : ∀ (k : Nat) a b, r[k]? = some a → r[k + 1]? = some b → Calls P a b
  back : ∀ a b, r[r.length - 1]? = some a → r[0]? = some b → Calls P a b
theorem Pth.ring {P : Prog} {ord path : List Str} {z w : Str} {j : Nat} (p : Pth P ord path) (hz : path[path.length - 1]? = some z) (hw : Calls P z w) (hj : path[j]? = some w) : IsRing P (path.drop j) := by
  have jl := (List.getElem?_eq_some_iff.mp hj).1
  refine ⟨fun e => ?_, p.nd.sublist (List.drop_sublist _ _), fun k a b ha hb => ?_, fun a b ha hb => ?_⟩
  · have := congrArg List.length e
    rw [List.length_drop, List.length_nil] at this
    omega
  · rw [List.getElem?_drop] at ha hb
    exact p.ch (j + k) a b ha (by rw [← hb]; congr 1)
  · rw [List.getElem?_drop] at ha hb
    rw [List.length_drop, show j + (path.length - j - 1) = path.length - 1 by omega, hz] at ha
    rw [Nat.add_zero, hj] at hb
    cases ha
    cases hb
    exact hw
theorem IsRing.no {P : Prog} {r : List Str} (h : IsRing P r) (rank : Str → Nat) (hr : ∀ a b, Calls P a b → rank b < rank a) : False := by
  have hl : 0 < r.length := List.length_pos_iff.mpr h.ne
  have key : ∀ k, k < r.length → ∀ a b, r[0]? = some a → r[k]? = some b → rank b ≤ rank a := by
    intro k
    induction k with
    | zero => intro _ a b ha hb; rw [ha] at hb; cases hb; exact Nat.le_refl _
    | succ k ih =>
      intro hk a b ha hb
      obtain ⟨c, hc⟩ : ∃ c, r[k]? = some c := ⟨_, List.getElem?_eq_getElem (by omega)⟩
      have h1 := ih (by omega) a c ha hc
      have h2 := hr c b (h.ch k c b hc hb)
      omega
  obtain ⟨a, ha⟩ : ∃ a, r[0]? = some a := ⟨_, List.getElem?_eq_getElem hl⟩
  obtain ⟨b, hb⟩ : ∃ b, r[r.length - 1]? = some b := ⟨_, List.getElem?_eq_getElem (by omega)⟩
  have h1 := key (r.length - 1) (by omega) a b ha hb
  have h2 := hr b a (h.back b a hb ha)
  omega
structure Topo (P : Prog) (ord : List Str) : Prop where
  dfs : Dfs P ord
  all : ∀ z ∈ names P, z ∈ ord
theorem Topo.acyc {P : Prog} {ord : List Str} (t : Topo P ord) : ∃ rank : Str → Nat, ∀ a b, a ∈ names P → Calls P a b → rank b < rank a := by
  refine ⟨fun z => ord.idxOf z, fun a b ha hab => ?_⟩
  have h1 := List.idxOf_lt_length_iff.mpr (t.all a ha)
  obtain ⟨j, h2, h3⟩ := t.dfs.cl (ord.idxOf a) a b (by rw [List.getElem?_eq_getElem h1, List.getElem_idxOf h1]) hab
  have h4 : ord.idxOf b ≤ j := by
    obtain ⟨h5, h6⟩ := List.getElem?_eq_some_iff.mp h3
    refine Nat.le_of_not_lt fun h7 => ?_
    have h8 : ord.findIdx (· == b) = ord.idxOf b := rfl
    have := List.not_of_lt_findIdx (p := (· == b)) (xs := ord) (i := j) (by rw [h8]; exact h7)
    rw [h6] at this
    simp at this
  exact Nat.lt_of_le_of_lt h4 h2
end Pg
end U
end

section
namespace U
open PySem PySem.Spec PyProof.Rows L2
def Er1 (K : PySem.W.Frag) (C f : Str) : Prop := OexC K (He.ga K C) ∧ PySem.W.findIn K (.ref (He.ga K C)) f = some none
def Er1B (K : PySem.W.Frag) (C f : Str) : Bool := Hd.oexB K (He.ga K C) && Hd.noB K (He.ga K C) f
theorem Er1B_ok {K : PySem.W.Frag} {C f : Str} (h : Er1B K C f = true) : Er1 K C f := by
  obtain ⟨h1, h2⟩ := He.ba h
  exact ⟨Hd.oexB_ok h1, Hd.noB_ok h2⟩
def Er2 (K : PySem.W.Frag) (C f g : Str) : Prop := OexC K (He.ga K C) ∧ PySem.W.findIn K (.ref (He.ga K C)) f = some none ∧ PySem.W.findIn K (.ref (He.ga K C)) g = some none
def Er2B (K : PySem.W.Frag) (C f g : Str) : Bool := Hd.oexB K (He.ga K C) && (Hd.noB K (He.ga K C) f && Hd.noB K (He.ga K C) g)
theorem Er2B_ok {K : PySem.W.Frag} {C f g : Str} (h : Er2B K C f g = true) : Er2 K C f g := by
  obtain ⟨h1, h⟩ := He.ba h
  obtain ⟨h2, h3⟩ := He.ba h
  exact ⟨Hd.oexB_ok h1, Hd.noB_ok h2, Hd.noB_ok h3⟩
def t_BadName_init (K : PySem.W.Frag) : TS :=
  (tOst K "index" (uVar 0) (uVar 1))
def sp_BadName_init (K : PySem.W.Frag) : Sp := spIni1 K "index"
theorem len_BadName_init {K : PySem.W.Frag} : ∀ vs H Q E, sp_BadName_init K vs H Q E → vs.length = 2 := fun _ _ _ _ ⟨_, _, _, e, _⟩ => by rw [e]; rfl
theorem pure_BadName_init {K : PySem.W.Frag} (vs : List V) (H : Hp) (Q : VK) (E : XK) (h : sp_BadName_init K vs H Q E) : t_BadName_init K { nx := fun _ H' => Q .non H', rt := Q } (start ["self", "index"] vs) H := by
  have h2 := h
  obtain ⟨a, C, x, rfl, _⟩ := h
  exact ini1 _ H Q E h2
def t_Recursion_init (K : PySem.W.Frag) : TS :=
  (tOst K "ring" (uVar 0) (uVar 1))
def sp_Recursion_init (K : PySem.W.Frag) : Sp := spIni1 K "ring"
theorem len_Recursion_init {K : PySem.W.Frag} : ∀ vs H Q E, sp_Recursion_init K vs H Q E → vs.length = 2 := fun _ _ _ _ ⟨_, _, _, e, _⟩ => by rw [e]; rfl
theorem pure_Recursion_init {K : PySem.W.Frag} (vs : List V) (H : Hp) (Q : VK) (E : XK) (h : sp_Recursion_init K vs H Q E) : t_Recursion_init K { nx := fun _ H' => Q .non H', rt := Q } (start ["self", "ring"] vs) H := by
  have h2 := h
  obtain ⟨a, C, x, rfl, _⟩ := h
  exact ini1 _ H Q E h2
def t_UnknownName_init (K : PySem.W.Frag) : TS :=
  (tOst K "name" (uVar 0) (uVar 1))
def sp_UnknownName_init (K : PySem.W.Frag) : Sp := spIni1 K "name"
theorem len_UnknownName_init {K : PySem.W.Frag} : ∀ vs H Q E, sp_UnknownName_init K vs H Q E → vs.length = 2 := fun _ _ _ _ ⟨_, _, _, e, _⟩ => by rw [e]; rfl
theorem pure_UnknownName_init {K : PySem.W.Frag} (vs : List V) (H : Hp) (Q : VK) (E : XK) (h : sp_UnknownName_init K vs H Q E) : t_UnknownName_init K { nx := fun _ H' => Q .non H', rt := Q } (start ["self", "name"] vs) H := by
  have h2 := h
  obtain ⟨a, C, x, rfl, _⟩ := h
  exact ini1 _ H Q E h2
def t_Taken_init (K : PySem.W.Frag) : TS :=
  (tOst K "name" (uVar 0) (uVar 1))
def sp_Taken_init (K : PySem.W.Frag) : Sp := spIni1 K "name"
theorem len_Taken_init {K : PySem.W.Frag} : ∀ vs H Q E, sp_Taken_init K vs H Q E → vs.length = 2 := fun _ _ _ _ ⟨_, _, _, e, _⟩ => by rw [e]; rfl
theorem pure_Taken_init {K : PySem.W.Frag} (vs : List V) (H : Hp) (Q : VK) (E : XK) (h : sp_Taken_init K vs H Q E) : t_Taken_init K { nx := fun _ H' => Q .non H', rt := Q } (start ["self", "name"] vs) H := by
  have h2 := h
  obtain ⟨a, C, x, rfl, _⟩ := h
  exact ini1 _ H Q E h2
def t_TwiceNamed_init (K : PySem.W.Frag) : TS :=
  (tOst K "line" (uVar 0) (uVar 1))
def sp_TwiceNamed_init (K : PySem.W.Frag) : Sp := spIni1 K "line"
theorem len_TwiceNamed_init {K : PySem.W.Frag} : ∀ vs H Q E, sp_TwiceNamed_init K vs H Q E → vs.length = 2 := fun _ _ _ _ ⟨_, _, _, e, _⟩ => by rw [e]; rfl
theorem pure_TwiceNamed_init {K : PySem.W.Frag} (vs : List V) (H : Hp) (Q : VK) (E : XK) (h : sp_TwiceNamed_init K vs H Q E) : t_TwiceNamed_init K { nx := fun _ H' => Q .non H', rt := Q } (start ["self", "line"] vs) H := by
  have h2 := h
  obtain ⟨a, C, x, rfl, _⟩ := h
  exact ini1 _ H Q E h2
def t_BadInstruction_init (K : PySem.W.Frag) : TS :=
  (tSeq (tOst K "name" (uVar 0) (uVar 1))
  (tOst K "index" (uVar 0) (uVar 2)))
def sp_BadInstruction_init (K : PySem.W.Frag) : Sp := spIni2 K "name" "index"
theorem len_BadInstruction_init {K : PySem.W.Frag} : ∀ vs H Q E, sp_BadInstruction_init K vs H Q E → vs.length = 3 := fun _ _ _ _ ⟨_, _, _, _, e, _⟩ => by rw [e]; rfl
theorem pure_BadInstruction_init {K : PySem.W.Frag} (vs : List V) (H : Hp) (Q : VK) (E : XK) (h : sp_BadInstruction_init K vs H Q E) : t_BadInstruction_init K { nx := fun _ H' => Q .non H', rt := Q } (start ["self", "name", "index"] vs) H := by
  have h2 := h
  obtain ⟨a, C, x, y, rfl, _⟩ := h
  exact ini2 _ H Q E h2
def t_UnknownRoutine_init (K : PySem.W.Frag) : TS :=
  (tSeq (tOst K "name" (uVar 0) (uVar 1))
  (tOst K "index" (uVar 0) (uVar 2)))
def sp_UnknownRoutine_init (K : PySem.W.Frag) : Sp := spIni2 K "name" "index"
theorem len_UnknownRoutine_init {K : PySem.W.Frag} : ∀ vs H Q E, sp_UnknownRoutine_init K vs H Q E → vs.length = 3 := fun _ _ _ _ ⟨_, _, _, _, e, _⟩ => by rw [e]; rfl
theorem pure_UnknownRoutine_init {K : PySem.W.Frag} (vs : List V) (H : Hp) (Q : VK) (E : XK) (h : sp_UnknownRoutine_init K vs H Q E) : t_UnknownRoutine_init K { nx := fun _ H' => Q .non H', rt := Q } (start ["self", "name", "index"] vs) H := by
  have h2 := h
  obtain ⟨a, C, x, y, rfl, _⟩ := h
  exact ini2 _ H Q E h2
def t_BadText_init (K : PySem.W.Frag) : TS :=
  (tSeq (tOst K "line" (uVar 0) (uVar 1))
  (tOst K "word" (uVar 0) (uVar 2)))
def sp_BadText_init (K : PySem.W.Frag) : Sp := spIni2 K "line" "word"
theorem len_BadText_init {K : PySem.W.Frag} : ∀ vs H Q E, sp_BadText_init K vs H Q E → vs.length = 3 := fun _ _ _ _ ⟨_, _, _, _, e, _⟩ => by rw [e]; rfl
theorem pure_BadText_init {K : PySem.W.Frag} (vs : List V) (H : Hp) (Q : VK) (E : XK) (h : sp_BadText_init K vs H Q E) : t_BadText_init K { nx := fun _ H' => Q .non H', rt := Q } (start ["self", "line", "word"] vs) H := by
  have h2 := h
  obtain ⟨a, C, x, y, rfl, _⟩ := h
  exact ini2 _ H Q E h2
end U
end

section
namespace U
open PySem PySem.Spec PyProof.Rows L2
local macro_rules | `(tactic| tb_start) => `(tactic| first
  | assumption
  | (refine Ne.symm ?_; assumption)
  | ((with_reducible apply New.ne); (focus assumption); (focus tb_rel); done)
  | (refine Ne.symm ?_; (with_reducible apply New.ne); (focus assumption); (focus tb_rel); done)
  | ((with_reducible apply neN); (focus assumption); (focus tb_rel); done)
  | (refine Ne.symm ?_; (with_reducible apply neN); (focus assumption); (focus tb_rel); done)
  | ((with_reducible apply DrawsOk.neN); (focus assumption); (focus kct_strs); done)
  | ((with_reducible apply DrawsOk.neLN); (focus assumption); (focus kct_strs); done)
  | ((with_reducible apply DrawsOk.ne'); (focus assumption); (focus kct_strs); done)
  | ((with_reducible apply DrawsOk.neL'); (focus assumption); (focus kct_strs); done)
  | ((with_reducible apply DrawsOk.other'); (focus assumption); (focus tb_rel); (focus rfl); done)
  | ((with_reducible apply DrawsOk.otherL); (focus assumption); (focus tb_rel); (focus rfl); done)
  | ((with_reducible apply ne_kd); (focus assumption); (focus tb_rel); (focus (intro h; cases h; done)); done))
local macro_rules | `(tactic| tb_rel) => `(tactic| first
  | assumption
  | exact New.at (by assumption)
  | exact Mod.at (by assumption)
  | ((with_reducible apply New.old); (focus assumption); tb_rel)
  | ((with_reducible apply Mod.lk); (focus assumption); (focus tb_rel); focus tb_start)
  | ((with_reducible apply Keep.lk); (focus assumption); (focus tb_rel); focus tb_start)
  | ((with_reducible apply Same.at); (focus assumption); tb_rel))
local macro_rules | `(tactic| kct_strs) => `(tactic| first
  | assumption
  | (refine New.draws (by assumption) ?_; kct_strs)
  | (refine DrawsOk.same ?_ (by assumption); kct_strs)
  | (refine Mod.draws (by assumption) ?_ ?_ ?_; (kct_strs); (focus tb_start); focus tb_start))
local macro_rules | `(tactic| k_updF) => `(tactic| first
  | assumption
  | exact L2.Same.refl _
  | (refine Same.new ?_ (by assumption); k_updF)
  | (refine L2.Same.trans ?_ (by assumption); k_updF)
  | (refine Same.mod ?_ (by assumption) ?_; (k_updF); lcg_sub))
local macro_rules | `(tactic| k_memK) => `(tactic| first
  | assumption
  | exact Keep.refl _ _
  | (refine Keep.new' ?_ (by assumption); k_memK)
  | (refine Keep.trans ?_ (by assumption); k_memK)
  | (refine Keep.trans ?_ (Keep.same' (by assumption)); k_memK)
  | (refine Keep.modd ?_ (by assumption); k_memK)
  | (refine Keep.mod ?_ (by assumption) ?_; (k_memK); lcg_sub))
local macro_rules | `(tactic| lcg_sub) => `(tactic| first
  | assumption
  | exact New.fr (by assumption)
  | (refine Same.none ?_ (New.fr (by assumption)); k_updF)
  | (refine Keep.fresh (D := ?_) ?_ ?_ ?_ (New.fr (by assumption)); rotate_left; (k_memK); (kct_strs); (kct_strs)))
local macro_rules | `(tactic| k_upd) => `(tactic| first
  | assumption
  | exact Kl.refl _
  | (refine Kl.trans ?_ (New.kl (by assumption)); k_upd)
  | (refine Kl.trans ?_ (Same.kl (by assumption)); k_upd)
  | (refine Kl.trans ?_ (Mod.kl (by assumption) (by tb_rel)); k_upd)
  | (refine Kl.trans ?_ (Keep.kl (by assumption) (by kct_strs)); k_upd)
  | (refine Kl.trans ?_ (by assumption); k_upd))
local macro_rules | `(tactic| kst_all1) => `(tactic| first
  | assumption | omega | (with_reducible rfl)
  | (simp only [List.length_append, List.length_map, List.length_set, List.length_take, List.length_drop, List.length_cons, List.length_nil, List.length_replicate]; omega)
  | (refine ⟨?_, ?_⟩ <;> kst_all1)
  | decide)
local macro_rules | `(tactic| k_allIn) => `(tactic| first
  | ((with_reducible apply OKl); (focus tb_rel))
  | ((with_reducible apply OKd); (focus tb_rel))
  | ((with_reducible apply OKdf); (focus tb_rel))
  | ((with_reducible apply OKd1); (focus tb_rel))
  | ((with_reducible apply OKt); (focus tb_rel))
  | ((with_reducible apply OKql); (focus tb_rel))
  | ((with_reducible apply OKqt); (focus tb_rel))
  | ((with_reducible apply OKnl); (focus tb_rel))
  | ((with_reducible apply OKnt); (focus tb_rel))
  | ((with_reducible apply OKnd); (focus tb_rel))
  | ((with_reducible apply OKyl); (focus tb_rel))
  | ((with_reducible apply OKyt); (focus tb_rel))
  | ((with_reducible apply OKyd); (focus tb_rel))
  | ((with_reducible apply OKbl); (focus tb_rel))
  | ((with_reducible apply OKbt); (focus tb_rel))
  | ((with_reducible apply OKbd); (focus tb_rel))
  | ((with_reducible apply OKi); (focus tb_rel))
  | ((with_reducible apply OKj); (focus tb_rel))
  | ((with_reducible apply OKr); (focus tb_rel))
  | ((with_reducible apply OKrt); (focus tb_rel))
  | ((with_reducible apply OKrl); (focus tb_rel))
  | ((with_reducible apply OKsl); (focus tb_rel))
  | ((with_reducible apply OKst); (focus tb_rel))
  | ((with_reducible apply AlS_l); (focus tb_rel))
  | ((with_reducible apply AlS_t); (focus tb_rel))
  | ((with_reducible apply AlC_l); (focus tb_rel))
  | ((with_reducible apply AlC_t); (focus tb_rel))
  | ((with_reducible apply OKn); (focus kst_all1); intro v h)
  | ((with_reducible apply OKl1); (focus kst_all1); intro v h)
  | ((with_reducible apply OKl2); (focus kst_all1); intro v h)
  | ((with_reducible apply OKlk); (focus kst_all1); intro v h)
  | ((with_reducible apply OKln); (focus kst_all1); intro v h)
  | ((with_reducible apply OKg); (focus kst_all1); intro v h)
  | ((with_reducible apply OKxn); (focus kst_all1))
  | ((with_reducible apply OKsi); (focus kst_all1))
  | ((with_reducible apply OKsm); (focus kst_all1))
  | ((with_reducible refine OKa ?_ ?_ ?_); (focus kst_all1); (focus kst_all1); intro j v e h))
local macro_rules | `(tactic| kfm_turns) => `(tactic| repeat first
  | kpc_turns
  | k_allIn
  | l_intsW
  | ((with_reducible apply CdL); (focus tb_rel))
  | ((with_reducible refine Cd.by ?_ ?_); (focus kst_all1))
  | ((with_reducible refine Br.yes ?_ ?_); (focus (first | assumption | omega)))
  | ((with_reducible refine Br.no ?_ ?_); (focus (first | assumption | omega))))
local macro_rules | `(tactic| kpt_turns) => `(tactic| repeat first
  | kpc_turns
  | k_allIn
  | l_intsW
  | (with_reducible refine Al.by fun p H' n => ?_)
  | (with_reducible refine Md.by fun H' m => ?_)
  | ((with_reducible apply CdL); (focus tb_rel))
  | ((with_reducible refine Cd.by ?_ ?_); (focus kst_all1))
  | ((with_reducible refine Br.yes ?_ ?_); (focus (first | assumption | omega)))
  | ((with_reducible refine Br.no ?_ ?_); (focus (first | assumption | omega))))
local macro_rules | `(tactic| nest_cls) => `(tactic| repeat' first
  | kpc_turns
  | k_allIn
  | l_intsW
  | (with_reducible refine Al.by fun p H' n => ?_)
  | (with_reducible refine Md.by fun H' m => ?_)
  | ((with_reducible apply CdL); (focus tb_rel))
  | ((with_reducible refine Cd.by ?_ ?_); (focus kst_all1))
  | ((with_reducible refine Br.yes ?_ ?_); (focus (first | assumption | omega)))
  | ((with_reducible refine Br.no ?_ ?_); (focus (first | assumption | omega)))
  | (with_reducible refine Br.by (fun h => ?_) fun h => ?_))
local macro_rules | `(tactic| kpc_turns) => `(tactic| simp (config := {maxSteps := 4000000}) only [↓r_divm, ↓r_min, ↓r_max, ↓r_abs, ↓r_strI, ↓r_intT, ↓aM_zf, ↓aM_ls, ↓aM_rs, ↓aM_spl, ↓r_mulX, ↓r_rev, ↓r_revR, tyS, ↓un_nx, ↓in_some, ↓in_none, ↓r_cd, ↓aM_pop, ↓aM_popAt, ↓r_tryL, ↓r_fld, ↓r_setF, ↓aSF_ref, ↓r_isO, ↓r_eqO, ↓r_eqN, ↓r_neN, ↓r_gsq, ↓aGs_eq, ↓r_gcons, ↓r_gnil, ↓r_isB, ↓r_bm1, ↓r_bm0, ↓aM_app, ↓r_callX, ↓r_raise0, ↓r_tryAs, ↓r_tryOnly, ↓r_seq, ↓r_ifS, ↓r_or, ↓r_and, ↓r_not, ↓r_next, ↓r_ret, ↓r_retN, ↓r_brk, ↓r_cnt, ↓r_drop, ↓r_asg, ↓r_test, ↓r_yes, ↓r_c, ↓r_nil, ↓r_cons, ↓r_var0, ↓r_varS, ↓r_name0, ↓r_nameS, ↓r_op, ↓r_un, ↓r_rU, ↓r_chain, ↓r_andV, ↓r_orV, ↓r_notV, ↓r_call, ↓r_cb, ↓r_tup, ↓r_lst, ↓r_sl, ↓r_noPart, ↓r_part, ↓r_gsub, ↓kB_a, ↓aB_bl, ↓kI_a, ↓aI_int, ↓OK_some, ↓Br_true, ↓Br_false, ↓Cd_true, ↓r_addI, ↓r_addS, ↓r_addUI, ↓r_addUS, ↓r_addL, ↓AlT_cc, ↓AlT_nil, ↓AlT_cnil, ↓r_addT, ↓r_sub, ↓r_mul, ↓r_div, ↓r_mod, ↓r_pow, ↓r_lt, ↓r_le, ↓r_gt, ↓r_ge, ↓r_eq, ↓r_ne, ↓r_isN, ↓r_notN, ↓r_inS, ↓r_ninS, ↓r_in, ↓r_nin, ↓r_inG, ↓r_ninG, ↓r_ixS, ↓r_ix, ↓r_set, ↓r_slS, ↓AlS_lst, ↓AlS_tup, ↓r_slR, ↓r_lenS, ↓r_lenR, ↓r_listU, ↓AlC_lst, ↓AlC_tup, ↓r_tupleU, ↓r_int, ↓r_isi, ↓r_tru, ↓r_truN, ↓r_truB, ↓r_truI, ↓r_truS, ↓r_truR, ↓aL_ref, ↓a1_int, ↓a2_int, ↓r_for1, ↓r_for2, ↓r_for, ↓r_lc, ↓r_lc1, ↓r_lc2,
  OK_some, Br_true, Br_false, Br_not, Cd_true, aB_bl, aI_int, r_rU, r_addI, r_addS, r_sub, r_mul, r_div, r_mod, r_pow, r_lt, r_le, r_gt, r_ge, r_ixS, r_ix, r_set, r_lenS, r_int, r_truN, r_truB, r_truI, r_truS, r_truR, AlT_cc, AlT_nil, AlT_cnil, AlS_lst, AlS_tup, AlC_lst, AlC_tup, a1_int, a2_int, lstO_lst, tupO_tup, seqO_eq, seqO_lst, seqO_tup, lenO_lst, lenO_tup, lenO_dK, e_tyR, tyO_t, e_ty, e_tyn, truO_lst, truO_tup, truO_dK, isa_tab, scal_tab, flat_tab, eqV_t, inV_cons, inV_nil, szl, cmul_l, cpow_l, atI_0, atI_1, atI_2, atI_3, ixN_lit, Option.some.injEq, List.length_cons, List.length_nil, List.length_append, List.length_map, Nat.zero_add, Nat.reduceAdd, natc, Int.reduceLE, Int.reduceLT, Int.reduceEq, Int.reduceSub, Int.reduceAdd, Int.reduceNeg, Int.reduceMul, Int.reducePow, Int.reduceToNat, Nat.reduceLeDiff, Nat.reduceLT, Nat.reduceEqDiff, decide_eq_true_eq, decide_eq_false_iff_not, decide_true, decide_false, Bool.not_eq_true', Bool.not_eq_false', Bool.not_true, Bool.not_false, Bool.not_not, Bool.or_eq_true, Bool.and_eq_true, Bool.or_false, Bool.false_or, Bool.or_true, Bool.true_or, Bool.and_true, Bool.true_and, Bool.and_false, Bool.false_and, Bool.and_self, List.all_cons, List.all_nil, ofs_inj, String.reduceEq, List.cons.injEq, and_true, true_and, and_self, or_true, true_or, or_false, false_or, V.ty.injEq, V.bl.injEq, V.int.injEq, V.str.injEq, V.ref.injEq, List.nil_append, List.append_nil, List.cons_append, List.getElem?_cons_zero, List.getElem?_cons_succ, List.set_cons_zero, List.set_cons_succ, exists_eq_left', exists_eq_left, exists_eq, Bool.false_eq_true, Bool.true_eq_false, reduceCtorEq, not_true_eq_false, not_false_eq_true, eq_self, List.isEmpty_cons, List.isEmpty_nil, wipe, insO_ins, insD_ins, isO_tab, isO_ref, isR_tab, snO_tab, lk_tab, putF_nil, putF_tab, isLs_lst, tyL, m1_self, cutV_1, cutV_to1, Int.zero_add, ↓r_raiseO, ↓r_forEn, ↓r_forK, ↓r_ixD, ↓r_inK, ↓r_ninK, ↓r_setK, ↓r_dnew, ↓aDG_ref, ↓aDG2_ref, ↓r_dget2, ↓r_metX, ↓r_met, ↓aMt_ref, ↓r_prop, ↓aPr_ref, ↓aM_ins, ↓r_dcK, ↓r_for3u, ↓a3_int, keyO_t, reduceIte])

namespace Pg
def isInT (xs : List V) : Bool := isBasicT xs || match xs with
  | [.str w, x] => decide (w = Str.ofString "call") && isMarkV x
  | [.str w, x, y] => decide (w = Str.ofString "repeat") && (isMarkV x && inRangeV y (10 ^ 120))
  | _ => false
def isInV (H : Hp) : V → Bool
  | .ref p => match H p with
    | some (.tup xs) => isInT xs
    | _ => false
  | _ => false
theorem strOr {H : Hp} {a : V} (h : okV H a) : (∃ w, a = .str w) ∨ ∃ ty, tyV H a = some ty ∧ ty.isa .str = false ∧ ∀ w, a ≠ .str w := by
  cases a with
  | str w => exact .inl ⟨w, rfl⟩
  | ref p =>
    obtain ⟨ty, h1, h2, _⟩ := tyRef h.1
    exact .inr ⟨ty, h1, h2, fun _ e => by cases e⟩
  | non => exact .inr ⟨.non, rfl, rfl, fun _ e => by cases e⟩
  | bl _ => exact .inr ⟨.bl, rfl, rfl, fun _ e => by cases e⟩
  | int _ => exact .inr ⟨.int, rfl, rfl, fun _ e => by cases e⟩
  | byt _ => cases h.1
  | flt _ => cases h.1
  | ty _ => cases h.1
def t_is_instruction (K : PySem.W.Frag) : TS :=
  (tSeq (tIfS (uTru (uCall (sp_is_basic K) [] E0 (tCons (uVar 0) tNil))) (tRet (tC (.bl true))) tNext)
  (tSeq (tIfS (tOr (tNot (uTru (tCB (rIsi .tup) (tCons (uVar 0) (tCons (tC (.ty "tuple")) tNil))))) (tOr (tNot (tTest (tChain rLeU rLeU (tC (.int 2)) (tCB rLenU (tCons (uVar 0) tNil)) (tC (.int 3))))) (tNot (uTru (tCB (rIsi .str) (tCons (tOp rIxU (uVar 0) (tC (.int 0))) (tCons (tC (.ty "str")) tNil))))))) (tRet (tC (.bl false))) tNext)
  (tSeq (tIfS (tTest (tOp rEqS (tCB rLenU (tCons (uVar 0) tNil)) (tC (.int 2)))) (tRet (tAndV (tOp rEqS (tOp rIxU (uVar 0) (tC (.int 0))) (tC (.str "call"))) (uCall (sp_is_mark K) [] E0 (tCons (tOp rIxU (uVar 0) (tC (.int 1))) tNil)))) tNext)
  (tRet (tAndV (tOp rEqS (tOp rIxU (uVar 0) (tC (.int 0))) (tC (.str "repeat"))) (tAndV (uCall (sp_is_mark K) [] E0 (tCons (tOp rIxU (uVar 0) (tC (.int 1))) tNil)) (uCall (sp_in_range K) [] E0 (tCons (tOp rIxU (uVar 0) (tC (.int 2))) (tCons (tC (.int 1000000000000000000000000000000000000000000000000000000000000000000000000000000000000000000000000000000000000000000000000)) tNil)))))))))
def sp_is_instruction (K : PySem.W.Frag) : Sp := fun vs H Q _ => ∃ v, vs = [v] ∧ okT H v ∧ Q (.bl (isInV H v)) H
theorem len_is_instruction {K : PySem.W.Frag} : ∀ vs H Q E, sp_is_instruction K vs H Q E → vs.length = 1 := fun _ _ _ _ ⟨_, e, _⟩ => by rw [e]; rfl
theorem pure_is_instruction {K : PySem.W.Frag} (vs : List V) (H : Hp) (Q : VK) (E : XK) (h : sp_is_instruction K vs H Q E) : t_is_instruction K { nx := fun _ H' => Q .non H', rt := Q } (start ["value"] vs) H := by
  obtain ⟨v, rfl, ht, q⟩ := h
  unfold t_is_instruction
  show tSeq _ _ _ [some v] H
  kfm_turns
  refine Call.by ⟨v, rfl, ht, ?_⟩
  kfm_turns
  refine Br.by (fun hb => ?_) fun hb => ?_
  · kfm_turns
    have : isInV H v = true := by
      unfold isBasicV at hb
      split at hb
      · split at hb
        · rename_i xs e
          show (match H _ with | some (.tup xs) => isInT xs | _ => false) = true
          rw [e]
          unfold isInT
          simp only [hb, Bool.true_or]
        · cases hb
      · cases hb
    rw [this] at q
    exact q
  · have nb : isBasicV H v = false := by simpa using hb
    have nt : (∀ p xs, v = .ref p → H p ≠ some (.tup xs)) → Q (.bl false) H := fun h => by
      have : isInV H v = false := by
        unfold isInV
        split
        · split
          · rename_i p _ xs e
            exact absurd e (h _ xs rfl)
          · rfl
        · rfl
      rw [this] at q
      exact q
    cases v with
    | ref p =>
      obtain ⟨ty, hty, _⟩ := tyRef ht.1.1
      rw [tyV_ref] at hty
      split at hty
      · rename_i xs e
        kfm_turns
        exact nt fun p' xs' h h2 => by cases h; rw [e] at h2; cases h2
      · rename_i xs e
        have hi := ht.2 p xs rfl e
        have e1 : isInV H (.ref p) = isInT xs := by
          show (match H p with | some (.tup xs) => isInT xs | _ => false) = _
          rw [e]
        have e2 : isBasicV H (.ref p) = isBasicT xs := by
          show (match H p with | some (.tup xs) => isBasicT xs | _ => false) = _
          rw [e]
        rw [e1] at q
        rw [e2] at nb
        unfold isInT at q
        rw [nb, Bool.false_or] at q
        match xs, hi, q with
        | [], hi, q => kfm_turns; exact q
        | [a], hi, q =>
          kfm_turns
          cases a <;> exact q
        | [a, b], hi, q =>
          have ha := hi a (List.mem_cons_self ..)
          have hb2 := hi b (by simp)
          kfm_turns
          rcases strOr ha with ⟨w, rfl⟩ | ⟨ty, h1, h2, h3⟩
          · kfm_turns
            refine Br.by (fun hw => ?_) fun hw => ?_
            · kfm_turns
              refine Call.by ⟨b, rfl, hb2.1, hb2.2, ?_⟩
              have q : Q (.bl (decide (w = Str.ofString "call") && isMarkV b)) H := q
              rw [decide_eq_true hw, Bool.true_and] at q
              exact q
            · kfm_turns
              have q : Q (.bl (decide (w = Str.ofString "call") && isMarkV b)) H := q
              rw [decide_eq_false hw, Bool.false_and] at q
              exact q
          · refine OK.by h1 ?_
            rw [h2]
            kfm_turns
            cases a <;> first | exact q | exact absurd rfl (h3 _)
        | [a, b, c], hi, q =>
          have ha := hi a (List.mem_cons_self ..)
          have hb2 := hi b (by simp)
          have hc2 := hi c (by simp)
          kfm_turns
          rcases strOr ha with ⟨w, rfl⟩ | ⟨ty, h1, h2, h3⟩
          · kfm_turns
            refine Br.by (fun hw => ?_) fun hw => ?_
            · kfm_turns
              refine Call.by ⟨b, rfl, hb2.1, hb2.2, ?_⟩
              have q : Q (.bl (decide (w = Str.ofString "repeat") && (isMarkV b && inRangeV c (10 ^ 120)))) H := q
              rw [decide_eq_true hw, Bool.true_and] at q
              kfm_turns
              refine Br.by (fun hm => ?_) fun hm => ?_
              · kfm_turns
                refine Call.by ⟨c, _, rfl, hc2.1, ?_⟩
                rw [hm, Bool.true_and] at q
                exact q
              · kfm_turns
                rw [Bool.not_eq_true] at hm
                rw [hm, Bool.false_and] at q
                exact q
            · kfm_turns
              have q : Q (.bl (decide (w = Str.ofString "repeat") && (isMarkV b && inRangeV c (10 ^ 120)))) H := q
              rw [decide_eq_false hw, Bool.false_and] at q
              exact q
          · refine OK.by h1 ?_
            rw [h2]
            kfm_turns
            cases a <;> first | exact q | exact absurd rfl (h3 _)
        | a :: b :: c :: d :: r, hi, q =>
          kfm_turns
          cases a <;> exact q
      · rename_i xs e
        kfm_turns
        exact nt fun p' xs' h h2 => by cases h; rw [e] at h2; cases h2
      · rename_i xs e
        kfm_turns
        refine OK.by (by rw [e]; rfl) ?_
        kfm_turns
        exact nt fun p' xs' h h2 => by cases h; rw [e] at h2; cases h2
      · cases hty
    | non => kfm_turns; exact nt fun p xs h => by cases h
    | bl _ => kfm_turns; exact nt fun p xs h => by cases h
    | int _ => kfm_turns; exact nt fun p xs h => by cases h
    | str _ => kfm_turns; exact nt fun p xs h => by cases h
    | byt _ => cases ht.1.1
    | flt _ => cases ht.1.1
    | ty _ => cases ht.1.1
theorem basT {xs : List V} (h : isBasicT xs = true) : BasicT xs := by
  unfold isBasicT at h
  split at h
  · rename_i w
    refine .inr (.inr (.inr ⟨w, rfl, ?_⟩))
    simp only [inV_cons, inV_nil, eqV_t, Bool.or_false, Bool.or_eq_true, decide_eq_true_eq] at h
    exact h
  · rename_i w x
    split at h
    · rename_i hw
      simp only [inV_cons, inV_nil, eqV_t, Bool.or_false, Bool.or_eq_true, decide_eq_true_eq] at hw
      cases x with
      | int i =>
        have h : (decide (0 ≤ i) && decide (i ≤ 23)) = true := h
        simp only [Bool.and_eq_true, decide_eq_true_eq] at h
        exact .inr (.inl ⟨w, i, rfl, hw, h.1, by omega⟩)
      | _ => cases h
    · split at h
      · rename_i hw
        simp only [inV_cons, inV_nil, eqV_t, Bool.or_false, Bool.or_eq_true, decide_eq_true_eq] at hw
        cases x with
        | int i =>
          have h : (decide (0 ≤ i) && decide (i ≤ 3)) = true := h
          simp only [Bool.and_eq_true, decide_eq_true_eq] at h
          exact .inr (.inr (.inl ⟨w, i, rfl, hw, h.1, by omega⟩))
        | _ => cases h
      · rw [Bool.and_eq_true] at h
        have hw := h.1
        simp only [inV_cons, inV_nil, eqV_t, Bool.or_false, Bool.or_eq_true, decide_eq_true_eq] at hw
        cases x with
        | str z => exact .inl ⟨w, z, rfl, hw, h.2⟩
        | _ => exact absurd h.2 (by simp [isMarkV])
  · cases h
theorem inT_enc {xs : List V} (h : isInT xs = true) : ∃ i : In, i.ok ∧ xs = i.enc := by
  unfold isInT at h
  rw [Bool.or_eq_true] at h
  rcases h with h | h
  · obtain ⟨i, h1, h2⟩ := basic_ins (basT h)
    exact ⟨.bas i, h1, h2⟩
  · split at h
    · rename_i w x
      rw [Bool.and_eq_true, decide_eq_true_eq] at h
      cases x with
      | str z => exact ⟨.call z, h.2, by rw [h.1]; rfl⟩
      | _ => exact absurd h.2 (by simp [isMarkV])
    · rename_i w x y
      rw [Bool.and_eq_true, decide_eq_true_eq, Bool.and_eq_true] at h
      obtain ⟨h1, h2, h3⟩ := h
      cases x with
      | str z =>
        cases y with
        | int n =>
          have h3 : (decide (0 ≤ n) && decide (n ≤ 10 ^ 120)) = true := h3
          rw [Bool.and_eq_true, decide_eq_true_eq, decide_eq_true_eq] at h3
          obtain ⟨m, rfl⟩ := Int.eq_ofNat_of_zero_le h3.1
          refine ⟨.rep z m, ⟨h2, ?_⟩, by rw [h1]; rfl⟩
          have := h3.2
          rw [show (10 : Int) ^ 120 = ((10 ^ 120 : Nat) : Int) by decide +kernel] at this
          exact Int.ofNat_le.mp this
        | _ => exact absurd h3 (by simp [inRangeV])
      | _ => exact absurd h2 (by simp [isMarkV])
    · cases h
def nmV : Option Str → V
  | none => .non
  | some z => .str z
def t_named (K : PySem.W.Frag) : TS :=
  (tSeq (tIfS (tOr (tTest (tOp rEqS (tOp rIxU (uVar 0) (tC (.int 0))) (tC (.str "call")))) (tTest (tOp rEqS (tOp rIxU (uVar 0) (tC (.int 0))) (tC (.str "repeat"))))) (tRet (tOp rIxU (uVar 0) (tC (.int 1)))) tNext)
  (tRet (tC .non)))
def sp_named (K : PySem.W.Frag) : Sp := fun vs H Q _ => ∃ (p : Addr) (i : In), vs = [.ref p] ∧ H p = some (.tup i.enc) ∧ Q (nmV i.named) H
theorem len_named {K : PySem.W.Frag} : ∀ vs H Q E, sp_named K vs H Q E → vs.length = 1 := fun _ _ _ _ ⟨_, _, e, _⟩ => by rw [e]; rfl
theorem pure_named {K : PySem.W.Frag} (vs : List V) (H : Hp) (Q : VK) (E : XK) (h : sp_named K vs H Q E) : t_named K { nx := fun _ H' => Q .non H', rt := Q } (start ["instruction"] vs) H := by
  obtain ⟨p, i, rfl, e, q⟩ := h
  unfold t_named
  show tSeq _ _ _ [some (.ref p)] H
  rcases i with i | z | ⟨z, n⟩
  · cases i <;> (simp only [In.enc, Ins.enc] at e; kfm_turns; exact q)
  · have e : H p = some (.tup [.str "call", .str z]) := e
    kfm_turns
    exact q
  · have e : H p = some (.tup [.str "repeat", .str z, .int n]) := e
    kfm_turns
    exact q
end Pg
end U
end

section
namespace U
open PySem PySem.Spec PyProof.Rows L2
local macro_rules | `(tactic| tb_start) => `(tactic| first
  | assumption
  | (refine Ne.symm ?_; assumption)
  | ((with_reducible apply New.ne); (focus assumption); (focus tb_rel); done)
  | (refine Ne.symm ?_; (with_reducible apply New.ne); (focus assumption); (focus tb_rel); done)
  | ((with_reducible apply neN); (focus assumption); (focus tb_rel); done)
  | (refine Ne.symm ?_; (with_reducible apply neN); (focus assumption); (focus tb_rel); done)
  | ((with_reducible apply DrawsOk.neN); (focus assumption); (focus kct_strs); done)
  | ((with_reducible apply DrawsOk.neLN); (focus assumption); (focus kct_strs); done)
  | ((with_reducible apply DrawsOk.ne'); (focus assumption); (focus kct_strs); done)
  | ((with_reducible apply DrawsOk.neL'); (focus assumption); (focus kct_strs); done)
  | ((with_reducible apply DrawsOk.other'); (focus assumption); (focus tb_rel); (focus rfl); done)
  | ((with_reducible apply DrawsOk.otherL); (focus assumption); (focus tb_rel); (focus rfl); done)
  | ((with_reducible apply ne_kd); (focus assumption); (focus tb_rel); (focus (intro h; cases h; done)); done))
local macro_rules | `(tactic| tb_rel) => `(tactic| first
  | assumption
  | exact New.at (by assumption)
  | exact Mod.at (by assumption)
  | ((with_reducible apply New.old); (focus assumption); tb_rel)
  | ((with_reducible apply Mod.lk); (focus assumption); (focus tb_rel); focus tb_start)
  | ((with_reducible apply Keep.lk); (focus assumption); (focus tb_rel); focus tb_start)
  | ((with_reducible apply Same.at); (focus assumption); tb_rel))
local macro_rules | `(tactic| kct_strs) => `(tactic| first
  | assumption
  | (refine New.draws (by assumption) ?_; kct_strs)
  | (refine DrawsOk.same ?_ (by assumption); kct_strs)
  | (refine Mod.draws (by assumption) ?_ ?_ ?_; (kct_strs); (focus tb_start); focus tb_start))
local macro_rules | `(tactic| k_updF) => `(tactic| first
  | assumption
  | exact L2.Same.refl _
  | (refine Same.new ?_ (by assumption); k_updF)
  | (refine L2.Same.trans ?_ (by assumption); k_updF)
  | (refine Same.mod ?_ (by assumption) ?_; (k_updF); lcg_sub))
local macro_rules | `(tactic| k_memK) => `(tactic| first
  | assumption
  | exact Keep.refl _ _
  | (refine Keep.new' ?_ (by assumption); k_memK)
  | (refine Keep.trans ?_ (by assumption); k_memK)
  | (refine Keep.trans ?_ (Keep.same' (by assumption)); k_memK)
  | (refine Keep.modd ?_ (by assumption); k_memK)
  | (refine Keep.mod ?_ (by assumption) ?_; (k_memK); lcg_sub))
local macro_rules | `(tactic| lcg_sub) => `(tactic| first
  | assumption
  | exact New.fr (by assumption)
  | (refine Same.none ?_ (New.fr (by assumption)); k_updF)
  | (refine Keep.fresh (D := ?_) ?_ ?_ ?_ (New.fr (by assumption)); rotate_left; (k_memK); (kct_strs); (kct_strs)))
local macro_rules | `(tactic| k_upd) => `(tactic| first
  | assumption
  | exact Kl.refl _
  | (refine Kl.trans ?_ (New.kl (by assumption)); k_upd)
  | (refine Kl.trans ?_ (Same.kl (by assumption)); k_upd)
  | (refine Kl.trans ?_ (Mod.kl (by assumption) (by tb_rel)); k_upd)
  | (refine Kl.trans ?_ (Keep.kl (by assumption) (by kct_strs)); k_upd)
  | (refine Kl.trans ?_ (by assumption); k_upd))
local macro_rules | `(tactic| kst_all1) => `(tactic| first
  | assumption | omega | (with_reducible rfl)
  | (simp only [List.length_append, List.length_map, List.length_set, List.length_take, List.length_drop, List.length_cons, List.length_nil, List.length_replicate]; omega)
  | (refine ⟨?_, ?_⟩ <;> kst_all1)
  | decide)
local macro_rules | `(tactic| k_allIn) => `(tactic| first
  | ((with_reducible apply OKl); (focus tb_rel))
  | ((with_reducible apply OKd); (focus tb_rel))
  | ((with_reducible apply OKdf); (focus tb_rel))
  | ((with_reducible apply OKd1); (focus tb_rel))
  | ((with_reducible apply OKt); (focus tb_rel))
  | ((with_reducible apply OKql); (focus tb_rel))
  | ((with_reducible apply OKqt); (focus tb_rel))
  | ((with_reducible apply OKnl); (focus tb_rel))
  | ((with_reducible apply OKnt); (focus tb_rel))
  | ((with_reducible apply OKnd); (focus tb_rel))
  | ((with_reducible apply OKyl); (focus tb_rel))
  | ((with_reducible apply OKyt); (focus tb_rel))
  | ((with_reducible apply OKyd); (focus tb_rel))
  | ((with_reducible apply OKbl); (focus tb_rel))
  | ((with_reducible apply OKbt); (focus tb_rel))
  | ((with_reducible apply OKbd); (focus tb_rel))
  | ((with_reducible apply OKi); (focus tb_rel))
  | ((with_reducible apply OKj); (focus tb_rel))
  | ((with_reducible apply OKr); (focus tb_rel))
  | ((with_reducible apply OKrt); (focus tb_rel))
  | ((with_reducible apply OKrl); (focus tb_rel))
  | ((with_reducible apply OKsl); (focus tb_rel))
  | ((with_reducible apply OKst); (focus tb_rel))
  | ((with_reducible apply AlS_l); (focus tb_rel))
  | ((with_reducible apply AlS_t); (focus tb_rel))
  | ((with_reducible apply AlC_l); (focus tb_rel))
  | ((with_reducible apply AlC_t); (focus tb_rel))
  | ((with_reducible apply OKn); (focus kst_all1); intro v h)
  | ((with_reducible apply OKl1); (focus kst_all1); intro v h)
  | ((with_reducible apply OKl2); (focus kst_all1); intro v h)
  | ((with_reducible apply OKlk); (focus kst_all1); intro v h)
  | ((with_reducible apply OKln); (focus kst_all1); intro v h)
  | ((with_reducible apply OKg); (focus kst_all1); intro v h)
  | ((with_reducible apply OKxn); (focus kst_all1))
  | ((with_reducible apply OKsi); (focus kst_all1))
  | ((with_reducible apply OKsm); (focus kst_all1))
  | ((with_reducible refine OKa ?_ ?_ ?_); (focus kst_all1); (focus kst_all1); intro j v e h))
local macro_rules | `(tactic| kfm_turns) => `(tactic| repeat first
  | kpc_turns
  | k_allIn
  | l_intsW
  | ((with_reducible apply CdL); (focus tb_rel))
  | ((with_reducible refine Cd.by ?_ ?_); (focus kst_all1))
  | ((with_reducible refine Br.yes ?_ ?_); (focus (first | assumption | omega)))
  | ((with_reducible refine Br.no ?_ ?_); (focus (first | assumption | omega))))
local macro_rules | `(tactic| kpt_turns) => `(tactic| repeat first
  | kpc_turns
  | k_allIn
  | l_intsW
  | (with_reducible refine Al.by fun p H' n => ?_)
  | (with_reducible refine Md.by fun H' m => ?_)
  | ((with_reducible apply CdL); (focus tb_rel))
  | ((with_reducible refine Cd.by ?_ ?_); (focus kst_all1))
  | ((with_reducible refine Br.yes ?_ ?_); (focus (first | assumption | omega)))
  | ((with_reducible refine Br.no ?_ ?_); (focus (first | assumption | omega))))
local macro_rules | `(tactic| nest_cls) => `(tactic| repeat' first
  | kpc_turns
  | k_allIn
  | l_intsW
  | (with_reducible refine Al.by fun p H' n => ?_)
  | (with_reducible refine Md.by fun H' m => ?_)
  | ((with_reducible apply CdL); (focus tb_rel))
  | ((with_reducible refine Cd.by ?_ ?_); (focus kst_all1))
  | ((with_reducible refine Br.yes ?_ ?_); (focus (first | assumption | omega)))
  | ((with_reducible refine Br.no ?_ ?_); (focus (first | assumption | omega)))
  | (with_reducible refine Br.by (fun h => ?_) fun h => ?_))
local macro_rules | `(tactic| kpc_turns) => `(tactic| simp (config := {maxSteps := 4000000}) only [↓r_divm, ↓r_min, ↓r_max, ↓r_abs, ↓r_strI, ↓r_intT, ↓aM_zf, ↓aM_ls, ↓aM_rs, ↓aM_spl, ↓r_mulX, ↓r_rev, ↓r_revR, tyS, ↓un_nx, ↓in_some, ↓in_none, ↓r_cd, ↓aM_pop, ↓aM_popAt, ↓r_tryL, ↓r_fld, ↓r_setF, ↓aSF_ref, ↓r_isO, ↓r_eqO, ↓r_eqN, ↓r_neN, ↓r_gsq, ↓aGs_eq, ↓r_gcons, ↓r_gnil, ↓r_isB, ↓r_bm1, ↓r_bm0, ↓aM_app, ↓r_callX, ↓r_raise0, ↓r_tryAs, ↓r_tryOnly, ↓r_seq, ↓r_ifS, ↓r_or, ↓r_and, ↓r_not, ↓r_next, ↓r_ret, ↓r_retN, ↓r_brk, ↓r_cnt, ↓r_drop, ↓r_asg, ↓r_test, ↓r_yes, ↓r_c, ↓r_nil, ↓r_cons, ↓r_var0, ↓r_varS, ↓r_name0, ↓r_nameS, ↓r_op, ↓r_un, ↓r_rU, ↓r_chain, ↓r_andV, ↓r_orV, ↓r_notV, ↓r_call, ↓r_cb, ↓r_tup, ↓r_lst, ↓r_sl, ↓r_noPart, ↓r_part, ↓r_gsub, ↓kB_a, ↓aB_bl, ↓kI_a, ↓aI_int, ↓OK_some, ↓Br_true, ↓Br_false, ↓Cd_true, ↓r_addI, ↓r_addS, ↓r_addUI, ↓r_addUS, ↓r_addL, ↓AlT_cc, ↓AlT_nil, ↓AlT_cnil, ↓r_addT, ↓r_sub, ↓r_mul, ↓r_div, ↓r_mod, ↓r_pow, ↓r_lt, ↓r_le, ↓r_gt, ↓r_ge, ↓r_eq, ↓r_ne, ↓r_isN, ↓r_notN, ↓r_inS, ↓r_ninS, ↓r_in, ↓r_nin, ↓r_inG, ↓r_ninG, ↓r_ixS, ↓r_ix, ↓r_set, ↓r_slS, ↓AlS_lst, ↓AlS_tup, ↓r_slR, ↓r_lenS, ↓r_lenR, ↓r_listU, ↓AlC_lst, ↓AlC_tup, ↓r_tupleU, ↓r_int, ↓r_isi, ↓r_tru, ↓r_truN, ↓r_truB, ↓r_truI, ↓r_truS, ↓r_truR, ↓aL_ref, ↓a1_int, ↓a2_int, ↓r_for1, ↓r_for2, ↓r_for, ↓r_lc, ↓r_lc1, ↓r_lc2,
  OK_some, Br_true, Br_false, Br_not, Cd_true, aB_bl, aI_int, r_rU, r_addI, r_addS, r_sub, r_mul, r_div, r_mod, r_pow, r_lt, r_le, r_gt, r_ge, r_ixS, r_ix, r_set, r_lenS, r_int, r_truN, r_truB, r_truI, r_truS, r_truR, AlT_cc, AlT_nil, AlT_cnil, AlS_lst, AlS_tup, AlC_lst, AlC_tup, a1_int, a2_int, lstO_lst, tupO_tup, seqO_eq, seqO_lst, seqO_tup, lenO_lst, lenO_tup, lenO_dK, e_tyR, tyO_t, e_ty, e_tyn, truO_lst, truO_tup, truO_dK, isa_tab, scal_tab, flat_tab, eqV_t, inV_cons, inV_nil, szl, cmul_l, cpow_l, atI_0, atI_1, atI_2, atI_3, ixN_lit, Option.some.injEq, List.length_cons, List.length_nil, List.length_append, List.length_map, Nat.zero_add, Nat.reduceAdd, natc, Int.reduceLE, Int.reduceLT, Int.reduceEq, Int.reduceSub, Int.reduceAdd, Int.reduceNeg, Int.reduceMul, Int.reducePow, Int.reduceToNat, Nat.reduceLeDiff, Nat.reduceLT, Nat.reduceEqDiff, decide_eq_true_eq, decide_eq_false_iff_not, decide_true, decide_false, Bool.not_eq_true', Bool.not_eq_false', Bool.not_true, Bool.not_false, Bool.not_not, Bool.or_eq_true, Bool.and_eq_true, Bool.or_false, Bool.false_or, Bool.or_true, Bool.true_or, Bool.and_true, Bool.true_and, Bool.and_false, Bool.false_and, Bool.and_self, List.all_cons, List.all_nil, ofs_inj, String.reduceEq, List.cons.injEq, and_true, true_and, and_self, or_true, true_or, or_false, false_or, V.ty.injEq, V.bl.injEq, V.int.injEq, V.str.injEq, V.ref.injEq, List.nil_append, List.append_nil, List.cons_append, List.getElem?_cons_zero, List.getElem?_cons_succ, List.set_cons_zero, List.set_cons_succ, exists_eq_left', exists_eq_left, exists_eq, Bool.false_eq_true, Bool.true_eq_false, reduceCtorEq, not_true_eq_false, not_false_eq_true, eq_self, List.isEmpty_cons, List.isEmpty_nil, wipe, insO_ins, insD_ins, isO_tab, isO_ref, isR_tab, snO_tab, lk_tab, putF_nil, putF_tab, isLs_lst, tyL, m1_self, cutV_1, cutV_to1, Int.zero_add, ↓r_raiseO, ↓r_forEn, ↓r_forK, ↓r_ixD, ↓r_inK, ↓r_ninK, ↓r_setK, ↓r_dnew, ↓aDG_ref, ↓aDG2_ref, ↓r_dget2, ↓r_metX, ↓r_met, ↓aMt_ref, ↓r_prop, ↓aPr_ref, ↓aM_ins, ↓r_dcK, ↓r_for3u, ↓a3_int, keyO_t, reduceIte])

namespace Pg
def InsAt (H : Hp) (vs : List V) (body : List In) : Prop := vs.length = body.length ∧ ∀ (k : Nat) i, body[k]? = some i → ∃ q, vs[k]? = some (.ref q) ∧ H q = some (.tup i.enc)
theorem InsAt.kl {H H' : Hp} {vs : List V} {body : List In} (h : InsAt H vs body) (k : ∀ q o, H q = some (.tup o) → H' q = some (.tup o)) : InsAt H' vs body := ⟨h.1, fun j i e => by
  obtain ⟨q, h1, h2⟩ := h.2 j i e
  exact ⟨q, h1, k _ _ h2⟩⟩
theorem InsAt.at {H : Hp} {vs : List V} {body : List In} (h : InsAt H vs body) {k : Nat} {v : V} (e : vs[k]? = some v) : ∃ i q, body[k]? = some i ∧ v = .ref q ∧ H q = some (.tup i.enc) := by
  have hk : k < body.length := by rw [← h.1]; exact (List.getElem?_eq_some_iff.mp e).1
  obtain ⟨q, h1, h2⟩ := h.2 k _ (List.getElem?_eq_getElem hk)
  rw [e] at h1
  cases h1
  exact ⟨_, q, List.getElem?_eq_getElem hk, rfl, h2⟩
theorem fold_take {body : List In} {k : Nat} {i : In} (h : body[k]? = some i) : (body.take (k + 1)).foldl (fun acc i => addNew acc i.named) [] = addNew ((body.take k).foldl (fun acc i => addNew acc i.named) []) i.named := by
  rw [List.take_add_one, h, List.foldl_append]
  rfl
theorem inV_strs (z : Str) : ∀ acc : List Str, inV (.str z) (acc.map V.str) = decide (z ∈ acc)
  | [] => by rw [List.map_nil, inV_nil, decide_eq_false (by simp)]
  | c :: acc => by
    rw [List.map_cons, inV_cons, inV_strs z acc, eqV_t.2]
    by_cases h : z = c
    · subst h
      simp
    · rw [decide_eq_false h, Bool.false_or]
      congr 1
      simp [h]
theorem all_flat (acc : List Str) : (acc.map V.str).all flatV = true := by
  rw [List.all_map, List.all_eq_true]
  intro x _
  rfl
def t_callees_1 (K : PySem.W.Frag) : TS :=
  (tSeq (tAsg (uCall (sp_named K) [] E0 (tCons (uVar 2) tNil)) (gName 3))
  (tIfS (tAnd (tTest (tOp rNotNU (uVar 3) (tC .non))) (tTest (tOp (rInU true) (uVar 3) (uVar 1)))) (tDrop (tBM K "list" rAppend (uVar 1) (tCons (uVar 3) tNil))) tNext))
def t_callees (K : PySem.W.Frag) : TS :=
  (tSeq (tAsg (tLst tNil) (gName 1))
  (tSeq (tFor (iU K (uVar 0)) (gName 2) (t_callees_1 K))
  (tRet (uVar 1))))
def sp_callees (K : PySem.W.Frag) : Sp := fun vs H Q _ => ∃ (p : Addr) (xs : List V) (body : List In), vs = [.ref p] ∧ seqAt H p = some xs ∧ InsAt H xs body ∧ body.length ≤ 1000000 ∧ ∀ L H', H L = none → H' L = some (.lst ((calleesL body).map V.str)) → L2.Same H H' → Q (.ref L) H'
theorem len_callees {K : PySem.W.Frag} : ∀ vs H Q E, sp_callees K vs H Q E → vs.length = 1 := fun _ _ _ _ ⟨_, _, _, e, _⟩ => by rw [e]; rfl
theorem fold_len : ∀ (body : List In) (acc : List Str), (body.foldl (fun acc i => addNew acc i.named) acc).length ≤ acc.length + body.length
  | [], acc => Nat.le_refl _
  | i :: body, acc => by
    rw [List.foldl_cons]
    have h1 := fold_len body (addNew acc i.named)
    have h2 : (addNew acc i.named).length ≤ acc.length + 1 := by
      unfold addNew
      split
      · omega
      · split
        · omega
        · rw [List.length_append, List.length_singleton]; exact Nat.le_refl _
    rw [List.length_cons]
    omega
theorem pure_callees {K : PySem.W.Frag} (vs : List V) (H : Hp) (Q : VK) (E : XK) (h : sp_callees K vs H Q E) : t_callees K { nx := fun _ H' => Q .non H', rt := Q } (start ["body", "found", "instruction", "name"] vs) H := by
  obtain ⟨p, xs, body, rfl, hp, hx, hl, q⟩ := h
  unfold t_callees
  show tSeq _ _ _ [some (.ref p), none, none, none] H
  kpt_turns
  rename_i L H1 n1
  refine loop_seq (n1.seq hp) (fun i σ H' => (∃ (y2 y3 : Option V), σ = [some (.ref p), some (.ref L), y2, y3]) ∧ H' L = some (.lst (((body.take i).foldl (fun acc i => addNew acc i.named) []).map V.str)) ∧ L2.Same H H') ⟨⟨_, _, rfl⟩, n1.at, n1.same⟩ (fun i σ H' _ ⟨_, _, s⟩ => ?_) (fun i x σ H' hxi ⟨⟨y2, y3, e⟩, hL, s⟩ => ?_) fun σ H' ⟨⟨y2, y3, e⟩, hL, s⟩ => ?_
  · have n2 : p ≠ L := fun z => by rw [z] at hp; unfold seqAt at hp; rw [n1.fr] at hp; cases hp
    have := seqAt_of hp s
    rw [this, n1.off n2]
  · subst e
    obtain ⟨j, r, hb, rfl, hr⟩ := hx.at hxi
    have hr' := s _ _ hr
    have ft := fold_take hb
    have hle := fold_len (body.take i) []
    rw [List.length_take, List.length_nil] at hle
    show gName 2 _ _ _ _
    unfold t_callees_1
    kfm_turns
    refine Call.by ⟨r, j, rfl, hr', ?_⟩
    have fr0 : H L = none := n1.fr
    cases en : j.named with
    | none =>
      have ft : List.foldl (fun acc i => addNew acc i.named) [] (List.take (i + 1) body) = List.foldl (fun acc i => addNew acc i.named) [] (List.take i body) := by rw [ft, en]; rfl
      unfold nmV
      kfm_turns
      exact ⟨⟨_, _, rfl, rfl⟩, by rw [ft]; exact hL, s⟩
    | some z =>
      unfold nmV
      kfm_turns
      refine Cd.by (all_flat _) ?_
      rw [inV_strs]
      kfm_turns
      by_cases hz : z ∈ List.foldl (fun acc i => addNew acc i.named) [] (List.take i body)
      · have ft : List.foldl (fun acc i => addNew acc i.named) [] (List.take (i + 1) body) = List.foldl (fun acc i => addNew acc i.named) [] (List.take i body) := by
          rw [ft, en]
          show (if _ then _ else _) = _
          rw [if_pos hz]
        refine Br.yes hz ?_
        kfm_turns
        exact ⟨⟨_, _, rfl, rfl⟩, by rw [ft]; exact hL, s⟩
      · have ft : List.foldl (fun acc i => addNew acc i.named) [] (List.take (i + 1) body) = List.foldl (fun acc i => addNew acc i.named) [] (List.take i body) ++ [z] := by
          rw [ft, en]
          show (if _ then _ else _) = _
          rw [if_neg hz]
        refine Br.no hz ?_
        kpt_turns
        rename_i H2 m2
        exact ⟨⟨_, _, rfl, rfl⟩, by rw [ft, m2.at, List.map_append]; rfl, Same.mod s m2 fr0⟩
  · subst e
    kfm_turns
    have e1 : body.take xs.length = body := List.take_of_length_le (by rw [hx.1]; exact Nat.le_refl _)
    rw [e1] at hL
    exact q L H' n1.fr hL s
end Pg
end U
end

section
namespace U
open PySem PySem.Spec PyProof.Rows L2
local macro_rules | `(tactic| tb_start) => `(tactic| first
  | assumption
  | (refine Ne.symm ?_; assumption)
  | ((with_reducible apply New.ne); (focus assumption); (focus tb_rel); done)
  | (refine Ne.symm ?_; (with_reducible apply New.ne); (focus assumption); (focus tb_rel); done)
  | ((with_reducible apply neN); (focus assumption); (focus tb_rel); done)
  | (refine Ne.symm ?_; (with_reducible apply neN); (focus assumption); (focus tb_rel); done)
  | ((with_reducible apply DrawsOk.neN); (focus assumption); (focus kct_strs); done)
  | ((with_reducible apply DrawsOk.neLN); (focus assumption); (focus kct_strs); done)
  | ((with_reducible apply DrawsOk.ne'); (focus assumption); (focus kct_strs); done)
  | ((with_reducible apply DrawsOk.neL'); (focus assumption); (focus kct_strs); done)
  | ((with_reducible apply DrawsOk.other'); (focus assumption); (focus tb_rel); (focus rfl); done)
  | ((with_reducible apply DrawsOk.otherL); (focus assumption); (focus tb_rel); (focus rfl); done)
  | ((with_reducible apply ne_kd); (focus assumption); (focus tb_rel); (focus (intro h; cases h; done)); done))
local macro_rules | `(tactic| tb_rel) => `(tactic| first
  | assumption
  | exact New.at (by assumption)
  | exact Mod.at (by assumption)
  | ((with_reducible apply New.old); (focus assumption); tb_rel)
  | ((with_reducible apply Mod.lk); (focus assumption); (focus tb_rel); focus tb_start)
  | ((with_reducible apply Keep.lk); (focus assumption); (focus tb_rel); focus tb_start)
  | ((with_reducible apply Same.at); (focus assumption); tb_rel))
local macro_rules | `(tactic| kct_strs) => `(tactic| first
  | assumption
  | (refine New.draws (by assumption) ?_; kct_strs)
  | (refine DrawsOk.same ?_ (by assumption); kct_strs)
  | (refine Mod.draws (by assumption) ?_ ?_ ?_; (kct_strs); (focus tb_start); focus tb_start))
local macro_rules | `(tactic| k_updF) => `(tactic| first
  | assumption
  | exact L2.Same.refl _
  | (refine Same.new ?_ (by assumption); k_updF)
  | (refine L2.Same.trans ?_ (by assumption); k_updF)
  | (refine Same.mod ?_ (by assumption) ?_; (k_updF); lcg_sub))
local macro_rules | `(tactic| k_memK) => `(tactic| first
  | assumption
  | exact Keep.refl _ _
  | (refine Keep.new' ?_ (by assumption); k_memK)
  | (refine Keep.trans ?_ (by assumption); k_memK)
  | (refine Keep.trans ?_ (Keep.same' (by assumption)); k_memK)
  | (refine Keep.modd ?_ (by assumption); k_memK)
  | (refine Keep.mod ?_ (by assumption) ?_; (k_memK); lcg_sub))
local macro_rules | `(tactic| lcg_sub) => `(tactic| first
  | assumption
  | exact New.fr (by assumption)
  | (refine Same.none ?_ (New.fr (by assumption)); k_updF)
  | (refine Keep.fresh (D := ?_) ?_ ?_ ?_ (New.fr (by assumption)); rotate_left; (k_memK); (kct_strs); (kct_strs)))
local macro_rules | `(tactic| k_upd) => `(tactic| first
  | assumption
  | exact Kl.refl _
  | (refine Kl.trans ?_ (New.kl (by assumption)); k_upd)
  | (refine Kl.trans ?_ (Same.kl (by assumption)); k_upd)
  | (refine Kl.trans ?_ (Mod.kl (by assumption) (by tb_rel)); k_upd)
  | (refine Kl.trans ?_ (Keep.kl (by assumption) (by kct_strs)); k_upd)
  | (refine Kl.trans ?_ (by assumption); k_upd))
local macro_rules | `(tactic| kst_all1) => `(tactic| first
  | assumption | omega | (with_reducible rfl)
  | (simp only [List.length_append, List.length_map, List.length_set, List.length_take, List.length_drop, List.length_cons, List.length_nil, List.length_replicate]; omega)
  | (refine ⟨?_, ?_⟩ <;> kst_all1)
  | decide)
local macro_rules | `(tactic| k_allIn) => `(tactic| first
  | ((with_reducible apply OKl); (focus tb_rel))
  | ((with_reducible apply OKd); (focus tb_rel))
  | ((with_reducible apply OKdf); (focus tb_rel))
  | ((with_reducible apply OKd1); (focus tb_rel))
  | ((with_reducible apply OKt); (focus tb_rel))
  | ((with_reducible apply OKql); (focus tb_rel))
  | ((with_reducible apply OKqt); (focus tb_rel))
  | ((with_reducible apply OKnl); (focus tb_rel))
  | ((with_reducible apply OKnt); (focus tb_rel))
  | ((with_reducible apply OKnd); (focus tb_rel))
  | ((with_reducible apply OKyl); (focus tb_rel))
  | ((with_reducible apply OKyt); (focus tb_rel))
  | ((with_reducible apply OKyd); (focus tb_rel))
  | ((with_reducible apply OKbl); (focus tb_rel))
  | ((with_reducible apply OKbt); (focus tb_rel))
  | ((with_reducible apply OKbd); (focus tb_rel))
  | ((with_reducible apply OKi); (focus tb_rel))
  | ((with_reducible apply OKj); (focus tb_rel))
  | ((with_reducible apply OKr); (focus tb_rel))
  | ((with_reducible apply OKrt); (focus tb_rel))
  | ((with_reducible apply OKrl); (focus tb_rel))
  | ((with_reducible apply OKsl); (focus tb_rel))
  | ((with_reducible apply OKst); (focus tb_rel))
  | ((with_reducible apply AlS_l); (focus tb_rel))
  | ((with_reducible apply AlS_t); (focus tb_rel))
  | ((with_reducible apply AlC_l); (focus tb_rel))
  | ((with_reducible apply AlC_t); (focus tb_rel))
  | ((with_reducible apply OKn); (focus kst_all1); intro v h)
  | ((with_reducible apply OKl1); (focus kst_all1); intro v h)
  | ((with_reducible apply OKl2); (focus kst_all1); intro v h)
  | ((with_reducible apply OKlk); (focus kst_all1); intro v h)
  | ((with_reducible apply OKln); (focus kst_all1); intro v h)
  | ((with_reducible apply OKg); (focus kst_all1); intro v h)
  | ((with_reducible apply OKxn); (focus kst_all1))
  | ((with_reducible apply OKsi); (focus kst_all1))
  | ((with_reducible apply OKsm); (focus kst_all1))
  | ((with_reducible refine OKa ?_ ?_ ?_); (focus kst_all1); (focus kst_all1); intro j v e h))
local macro_rules | `(tactic| kfm_turns) => `(tactic| repeat first
  | kpc_turns
  | k_allIn
  | l_intsW
  | ((with_reducible apply CdL); (focus tb_rel))
  | ((with_reducible refine Cd.by ?_ ?_); (focus kst_all1))
  | ((with_reducible refine Br.yes ?_ ?_); (focus (first | assumption | omega)))
  | ((with_reducible refine Br.no ?_ ?_); (focus (first | assumption | omega))))
local macro_rules | `(tactic| kpt_turns) => `(tactic| repeat first
  | kpc_turns
  | k_allIn
  | l_intsW
  | (with_reducible refine Al.by fun p H' n => ?_)
  | (with_reducible refine Md.by fun H' m => ?_)
  | ((with_reducible apply CdL); (focus tb_rel))
  | ((with_reducible refine Cd.by ?_ ?_); (focus kst_all1))
  | ((with_reducible refine Br.yes ?_ ?_); (focus (first | assumption | omega)))
  | ((with_reducible refine Br.no ?_ ?_); (focus (first | assumption | omega))))
local macro_rules | `(tactic| nest_cls) => `(tactic| repeat' first
  | kpc_turns
  | k_allIn
  | l_intsW
  | (with_reducible refine Al.by fun p H' n => ?_)
  | (with_reducible refine Md.by fun H' m => ?_)
  | ((with_reducible apply CdL); (focus tb_rel))
  | ((with_reducible refine Cd.by ?_ ?_); (focus kst_all1))
  | ((with_reducible refine Br.yes ?_ ?_); (focus (first | assumption | omega)))
  | ((with_reducible refine Br.no ?_ ?_); (focus (first | assumption | omega)))
  | (with_reducible refine Br.by (fun h => ?_) fun h => ?_))
local macro_rules | `(tactic| kpc_turns) => `(tactic| simp (config := {maxSteps := 4000000}) only [↓r_divm, ↓r_min, ↓r_max, ↓r_abs, ↓r_strI, ↓r_intT, ↓aM_zf, ↓aM_ls, ↓aM_rs, ↓aM_spl, ↓r_mulX, ↓r_rev, ↓r_revR, tyS, ↓un_nx, ↓in_some, ↓in_none, ↓r_cd, ↓aM_pop, ↓aM_popAt, ↓r_tryL, ↓r_fld, ↓r_setF, ↓aSF_ref, ↓r_isO, ↓r_eqO, ↓r_eqN, ↓r_neN, ↓r_gsq, ↓aGs_eq, ↓r_gcons, ↓r_gnil, ↓r_isB, ↓r_bm1, ↓r_bm0, ↓aM_app, ↓r_callX, ↓r_raise0, ↓r_tryAs, ↓r_tryOnly, ↓r_seq, ↓r_ifS, ↓r_or, ↓r_and, ↓r_not, ↓r_next, ↓r_ret, ↓r_retN, ↓r_brk, ↓r_cnt, ↓r_drop, ↓r_asg, ↓r_test, ↓r_yes, ↓r_c, ↓r_nil, ↓r_cons, ↓r_var0, ↓r_varS, ↓r_name0, ↓r_nameS, ↓r_op, ↓r_un, ↓r_rU, ↓r_chain, ↓r_andV, ↓r_orV, ↓r_notV, ↓r_call, ↓r_cb, ↓r_tup, ↓r_lst, ↓r_sl, ↓r_noPart, ↓r_part, ↓r_gsub, ↓kB_a, ↓aB_bl, ↓kI_a, ↓aI_int, ↓OK_some, ↓Br_true, ↓Br_false, ↓Cd_true, ↓r_addI, ↓r_addS, ↓r_addUI, ↓r_addUS, ↓r_addL, ↓AlT_cc, ↓AlT_nil, ↓AlT_cnil, ↓r_addT, ↓r_sub, ↓r_mul, ↓r_div, ↓r_mod, ↓r_pow, ↓r_lt, ↓r_le, ↓r_gt, ↓r_ge, ↓r_eq, ↓r_ne, ↓r_isN, ↓r_notN, ↓r_inS, ↓r_ninS, ↓r_in, ↓r_nin, ↓r_inG, ↓r_ninG, ↓r_ixS, ↓r_ix, ↓r_set, ↓r_slS, ↓AlS_lst, ↓AlS_tup, ↓r_slR, ↓r_lenS, ↓r_lenR, ↓r_listU, ↓AlC_lst, ↓AlC_tup, ↓r_tupleU, ↓r_int, ↓r_isi, ↓r_tru, ↓r_truN, ↓r_truB, ↓r_truI, ↓r_truS, ↓r_truR, ↓aL_ref, ↓a1_int, ↓a2_int, ↓r_for1, ↓r_for2, ↓r_for, ↓r_lc, ↓r_lc1, ↓r_lc2,
  OK_some, Br_true, Br_false, Br_not, Cd_true, aB_bl, aI_int, r_rU, r_addI, r_addS, r_sub, r_mul, r_div, r_mod, r_pow, r_lt, r_le, r_gt, r_ge, r_ixS, r_ix, r_set, r_lenS, r_int, r_truN, r_truB, r_truI, r_truS, r_truR, AlT_cc, AlT_nil, AlT_cnil, AlS_lst, AlS_tup, AlC_lst, AlC_tup, a1_int, a2_int, lstO_lst, tupO_tup, seqO_eq, seqO_lst, seqO_tup, lenO_lst, lenO_tup, lenO_dK, e_tyR, tyO_t, e_ty, e_tyn, truO_lst, truO_tup, truO_dK, isa_tab, scal_tab, flat_tab, eqV_t, inV_cons, inV_nil, szl, cmul_l, cpow_l, atI_0, atI_1, atI_2, atI_3, ixN_lit, Option.some.injEq, List.length_cons, List.length_nil, List.length_append, List.length_map, Nat.zero_add, Nat.reduceAdd, natc, Int.reduceLE, Int.reduceLT, Int.reduceEq, Int.reduceSub, Int.reduceAdd, Int.reduceNeg, Int.reduceMul, Int.reducePow, Int.reduceToNat, Nat.reduceLeDiff, Nat.reduceLT, Nat.reduceEqDiff, decide_eq_true_eq, decide_eq_false_iff_not, decide_true, decide_false, Bool.not_eq_true', Bool.not_eq_false', Bool.not_true, Bool.not_false, Bool.not_not, Bool.or_eq_true, Bool.and_eq_true, Bool.or_false, Bool.false_or, Bool.or_true, Bool.true_or, Bool.and_true, Bool.true_and, Bool.and_false, Bool.false_and, Bool.and_self, List.all_cons, List.all_nil, ofs_inj, String.reduceEq, List.cons.injEq, and_true, true_and, and_self, or_true, true_or, or_false, false_or, V.ty.injEq, V.bl.injEq, V.int.injEq, V.str.injEq, V.ref.injEq, List.nil_append, List.append_nil, List.cons_append, List.getElem?_cons_zero, List.getElem?_cons_succ, List.set_cons_zero, List.set_cons_succ, exists_eq_left', exists_eq_left, exists_eq, Bool.false_eq_true, Bool.true_eq_false, reduceCtorEq, not_true_eq_false, not_false_eq_true, eq_self, List.isEmpty_cons, List.isEmpty_nil, wipe, insO_ins, insD_ins, isO_tab, isO_ref, isR_tab, snO_tab, lk_tab, putF_nil, putF_tab, isLs_lst, tyL, m1_self, cutV_1, cutV_to1, Int.zero_add, ↓r_raiseO, ↓r_forEn, ↓r_forK, ↓r_ixD, ↓r_inK, ↓r_ninK, ↓r_setK, ↓r_dnew, ↓aDG_ref, ↓aDG2_ref, ↓r_dget2, ↓r_metX, ↓r_met, ↓aMt_ref, ↓r_prop, ↓aPr_ref, ↓aM_ins, ↓r_dcK, ↓r_for3u, ↓a3_int, keyO_t, reduceIte])

namespace Pg
theorem okT_at {H H' : Hp} {x : V} (h : okT H x) (s : L2.Same H H') : okT H' x ∧ isInV H' x = isInV H x := by
  cases x with
  | ref p =>
    have hp : H p ≠ none := fun z => by
      have := h.1.1
      rw [tyV_ref, z] at this
      cases this
    have e : H' p = H p := by
      cases e : H p with
      | none => exact absurd e hp
      | some o => exact s _ _ e
    refine ⟨⟨okV_same s h.1, fun q xs e1 e2 x hx => ?_⟩, ?_⟩
    · cases e1
      rw [e] at e2
      exact okV_same s (h.2 p xs rfl e2 x hx)
    · show (match H' p with | some (.tup xs) => isInT xs | _ => false) = (match H p with | some (.tup xs) => isInT xs | _ => false)
      rw [e]
  | _ => exact ⟨⟨okV_same s h.1, fun q xs e1 => by cases e1⟩, rfl⟩
def BodyV (H : Hp) (p : Addr) (xs : List V) : Prop := H p = some (.lst xs) ∨ H p = some (.tup xs)
theorem BodyV.seq {H : Hp} {p : Addr} {xs : List V} (h : BodyV H p xs) : seqAt H p = some xs := h.elim seqAt_lst seqAt_tup
theorem enuB {K : PySem.W.Frag} {g : TG} {tb : TS} {D : Ends} {σ : L2.St} {H : Hp} {a : Addr} {xs : List V} (hx : BodyV H a xs) (Pv : Nat → L2.St → Hp → Prop) (h0 : Pv 0 σ H) (hG : ∀ i σ H', i ≤ xs.length → Pv i σ H' → H' a = H a)
    (hs : ∀ i x σ H' T H1, xs[i]? = some x → Pv i σ H' → New H' T (.tup [.int (i : Int), x]) H1 → g (.ref T) σ H1 fun σ2 H2 => tb { D with nx := Pv (i + 1), ct := Pv (i + 1), bk := D.nx } σ2 H2)
    (hd : ∀ σ H, Pv xs.length σ H → D.nx σ H) : @EnuU K [.ref a] σ H ⟨g⟩ ⟨tb⟩ ⟨D⟩ :=
  hx.elim (fun h => enuL h Pv h0 (fun i σ H' hi p => (hG i σ H' hi p).trans h) hs hd) fun h => enuT h Pv h0 (fun i σ H' hi p => (hG i σ H' hi p).trans h) hs hd
def bodyErr (H : Hp) (xs : List V) : Option Nat := if 60 < xs.length then some 60 else xs.findIdx? fun x => !isInV H x
def Fpg (K : PySem.W.Frag) : Prop := Er2 K "BadInstruction" "name" "index" ∧ Er2 K "UnknownRoutine" "name" "index" ∧ Er1 K "BadName" "index" ∧ Er1 K "Recursion" "ring"
def FpgB (K : PySem.W.Frag) : Bool := Er2B K "BadInstruction" "name" "index" && (Er2B K "UnknownRoutine" "name" "index" && (Er1B K "BadName" "index" && Er1B K "Recursion" "ring"))
theorem FpgB_ok {K : PySem.W.Frag} (h : FpgB K = true) : Fpg K := by
  obtain ⟨h1, h⟩ := He.ba h
  obtain ⟨h2, h⟩ := He.ba h
  obtain ⟨h3, h4⟩ := He.ba h
  exact ⟨Er2B_ok h1, Er2B_ok h2, Er1B_ok h3, Er1B_ok h4⟩
def t_check_body_1 (K : PySem.W.Frag) (a_BadInstruction : Addr) (E : XK) : TS :=
  (tIfS (tNot (uTru (uCall (sp_is_instruction K) [] E0 (tCons (uVar 3) tNil)))) (uRaiseO (fun cls d _ H => E cls d H) a_BadInstruction (sp_BadInstruction_init K) (tCons (uVar 0) (tCons (uVar 2) tNil))) tNext)
def t_check_body (K : PySem.W.Frag) (a_BadInstruction : Addr) (E : XK) : TS :=
  (tSeq (tIfS (tTest (tOp rGtU (tCB rLenU (tCons (uVar 1) tNil)) (tC (.int 60)))) (uRaiseO (fun cls d _ H => E cls d H) a_BadInstruction (sp_BadInstruction_init K) (tCons (uVar 0) (tCons (tC (.int 60)) tNil))) tNext)
  (tFor (iEnumU K (tCons (uVar 1) tNil)) (gSq 2 (gCons (gName 2) (gCons (gName 3) gNil))) (t_check_body_1 K a_BadInstruction E)))
def sp_check_body (K : PySem.W.Frag) : Sp := fun vs H Q E => ∃ (z : V) (p : Addr) (xs : List V), vs = [z, .ref p] ∧ BodyV H p xs ∧ (∀ x ∈ xs, okT H x) ∧ xs.length ≤ 1000000 ∧
  (∀ k, bodyErr H xs = some k → ∀ d H', H d = none → H' d = some (.xd [("index", .int k), ("name", z)]) → L2.Same H H' → E (.ref (He.ga K "BadInstruction")) (some d) H') ∧ (bodyErr H xs = none → ∀ H', L2.Same H H' → Q .non H')
theorem len_check_body {K : PySem.W.Frag} : ∀ vs H Q E, sp_check_body K vs H Q E → vs.length = 2 := fun _ _ _ _ ⟨_, _, _, e, _⟩ => by rw [e]; rfl
theorem pure_check_body {K : PySem.W.Frag} (fpg : Fpg K) (vs : List V) (H : Hp) (Q : VK) (E : XK) (h : sp_check_body K vs H Q E) : t_check_body K (He.ga K "BadInstruction") E { nx := fun _ H' => Q .non H', rt := Q } (start ["name", "body", "index", "value"] vs) H := by
  obtain ⟨z, p, xs, rfl, hp, hx, hl, q1, q2⟩ := h
  obtain ⟨⟨e1, e2, e3⟩, _⟩ := fpg
  unfold t_check_body
  show tSeq _ _ _ [some z, some (.ref p), none, none] H
  have hlen : ∀ {k : Nat → Prop}, k xs.length → @OK _ (lenO (H p)) ⟨k⟩ := fun r => hp.elim (fun h => OKnl h r) fun h => OKnt h r
  kfm_turns
  refine hlen ?_
  kfm_turns
  refine Br.by (fun h => ?_) fun h => ?_
  · kfm_turns
    refine rz2 e1 e2 e3 fun d H' hd e s => q1 60 ?_ d H' hd e s
    unfold bodyErr
    rw [if_pos (by omega)]
  · have be : bodyErr H xs = xs.findIdx? fun x => !isInV H x := by
      unfold bodyErr
      rw [if_neg (by omega)]
    rw [be] at q1 q2
    kfm_turns
    refine enuB hp (fun i σ H' => (∃ (y2 y3 : Option V), σ = [some z, some (.ref p), y2, y3]) ∧ L2.Same H H' ∧ ∀ j x, j < i → xs[j]? = some x → isInV H x = true) ⟨⟨_, _, rfl⟩, L2.Same.refl _, fun j x h => absurd h (by omega)⟩ (fun i σ H' _ ⟨_, s, _⟩ => ?_) (fun i x σ H' T H1 hxi ⟨⟨y2, y3, e⟩, s, ok⟩ n1 => ?_) fun σ H' ⟨⟨y2, y3, e⟩, s, ok⟩ => ?_
    · have := hp.seq
      exact seqAt_of this s
    · subst e
      obtain ⟨o1, o2⟩ := okT_at (hx x (List.mem_of_getElem? hxi)) (s.trans n1.same)
      show gSq 2 _ _ _ _ _
      unfold t_check_body_1
      kfm_turns
      refine Call.by ⟨x, rfl, o1, ?_⟩
      rw [o2]
      kfm_turns
      refine Br.by (fun hb => ?_) fun hb => ?_
      · kfm_turns
        refine rz2 e1 e2 e3 fun d H2 hd e s2 => q1 i ?_ d H2 (Same.none (s.trans n1.same) hd) e ((s.trans n1.same).trans s2)
        rw [List.findIdx?_eq_some_iff_getElem]
        obtain ⟨hi, ei⟩ := List.getElem?_eq_some_iff.mp hxi
        refine ⟨hi, by rw [ei]; simpa using hb, fun j hj => ?_⟩
        rw [ok j _ hj (List.getElem?_eq_getElem (by omega))]
        decide
      · kfm_turns
        refine ⟨⟨_, _, rfl, rfl⟩, s.trans n1.same, fun j y hj hy => ?_⟩
        rcases Nat.lt_or_eq_of_le (Nat.le_of_lt_succ hj) with h1 | h1
        · exact ok j y h1 hy
        · subst h1
          rw [hxi] at hy
          cases hy
          simpa using hb
    · subst e
      refine q2 ?_ H' s
      rw [List.findIdx?_eq_none_iff]
      intro x hx
      obtain ⟨j, hj, e⟩ := List.mem_iff_getElem.mp hx
      rw [ok j x hj (by rw [List.getElem?_eq_getElem hj, e])]
      rfl
def DictP (H : Hp) (kvs : List (Key × V)) (P : Prog) : Prop := kvs.length = P.length ∧ ∀ (k : Nat) z b, P[k]? = some (z, b) → ∃ p xs, kvs[k]? = some (.inr z, .ref p) ∧ H p = some (.tup xs) ∧ InsAt H xs b
theorem DictP.kl {H H' : Hp} {kvs : List (Key × V)} {P : Prog} (h : DictP H kvs P) (k : ∀ q o, H q = some (.tup o) → H' q = some (.tup o)) : DictP H' kvs P := ⟨h.1, fun j z b e => by
  obtain ⟨p, xs, h1, h2, h3⟩ := h.2 j z b e
  exact ⟨p, xs, h1, k _ _ h2, h3.kl k⟩⟩
theorem DictP.keys {H : Hp} {kvs : List (Key × V)} {P : Prog} (h : DictP H kvs P) : kvs.map (·.1) = (names P).map Sum.inr := by
  refine List.ext_getElem? fun k => ?_
  unfold names
  rw [List.getElem?_map, List.getElem?_map, List.getElem?_map]
  cases e : P[k]? with
  | none =>
    have := List.getElem?_eq_none_iff.mp e
    rw [List.getElem?_eq_none (by rw [h.1]; exact this)]
    rfl
  | some zb =>
    obtain ⟨p, xs, h1, _⟩ := h.2 k zb.1 zb.2 e
    rw [h1]
    rfl
theorem DictP.get {H : Hp} {kvs : List (Key × V)} {P : Prog} (h : DictP H kvs P) (hn : (names P).Nodup) {z : Str} {b : List In} (hz : (z, b) ∈ P) : ∃ p xs, valV kvs (.inr z) = some (.ref p) ∧ H p = some (.tup xs) ∧ InsAt H xs b := by
  obtain ⟨k, hk, e⟩ := List.mem_iff_getElem.mp hz
  obtain ⟨p, xs, h1, h2, h3⟩ := h.2 k z b (by rw [List.getElem?_eq_getElem hk, e])
  refine ⟨p, xs, valV_at ?_ h1, h2, h3⟩
  rw [h.keys]
  exact List.pairwise_map.mpr (List.Pairwise.imp (fun h e => h (Sum.inr.inj e)) hn)
theorem DictP.has {H : Hp} {kvs : List (Key × V)} {P : Prog} (h : DictP H kvs P) {z : Str} : (valV kvs (.inr z)).isSome = decide (z ∈ names P) := by
  rw [Bool.eq_iff_iff, valV_mem, h.keys, decide_eq_true_eq, List.mem_map]
  exact ⟨fun ⟨y, h1, h2⟩ => Sum.inr.inj h2 ▸ h1, fun h => ⟨z, h, rfl⟩⟩
end Pg
end U
end

section
namespace U
open PySem PySem.Spec PyProof.Rows L2
local macro_rules | `(tactic| tb_start) => `(tactic| first
  | assumption
  | (refine Ne.symm ?_; assumption)
  | ((with_reducible apply New.ne); (focus assumption); (focus tb_rel); done)
  | (refine Ne.symm ?_; (with_reducible apply New.ne); (focus assumption); (focus tb_rel); done)
  | ((with_reducible apply neN); (focus assumption); (focus tb_rel); done)
  | (refine Ne.symm ?_; (with_reducible apply neN); (focus assumption); (focus tb_rel); done)
  | ((with_reducible apply DrawsOk.neN); (focus assumption); (focus kct_strs); done)
  | ((with_reducible apply DrawsOk.neLN); (focus assumption); (focus kct_strs); done)
  | ((with_reducible apply DrawsOk.ne'); (focus assumption); (focus kct_strs); done)
  | ((with_reducible apply DrawsOk.neL'); (focus assumption); (focus kct_strs); done)
  | ((with_reducible apply DrawsOk.other'); (focus assumption); (focus tb_rel); (focus rfl); done)
  | ((with_reducible apply DrawsOk.otherL); (focus assumption); (focus tb_rel); (focus rfl); done)
  | ((with_reducible apply ne_kd); (focus assumption); (focus tb_rel); (focus (intro h; cases h; done)); done))
local macro_rules | `(tactic| tb_rel) => `(tactic| first
  | assumption
  | exact New.at (by assumption)
  | exact Mod.at (by assumption)
  | ((with_reducible apply New.old); (focus assumption); tb_rel)
  | ((with_reducible apply Mod.lk); (focus assumption); (focus tb_rel); focus tb_start)
  | ((with_reducible apply Keep.lk); (focus assumption); (focus tb_rel); focus tb_start)
  | ((with_reducible apply Same.at); (focus assumption); tb_rel))
local macro_rules | `(tactic| kct_strs) => `(tactic| first
  | assumption
  | (refine New.draws (by assumption) ?_; kct_strs)
  | (refine DrawsOk.same ?_ (by assumption); kct_strs)
  | (refine Mod.draws (by assumption) ?_ ?_ ?_; (kct_strs); (focus tb_start); focus tb_start))
local macro_rules | `(tactic| k_updF) => `(tactic| first
  | assumption
  | exact L2.Same.refl _
  | (refine Same.new ?_ (by assumption); k_updF)
  | (refine L2.Same.trans ?_ (by assumption); k_updF)
  | (refine Same.mod ?_ (by assumption) ?_; (k_updF); lcg_sub))
local macro_rules | `(tactic| k_memK) => `(tactic| first
  | assumption
  | exact Keep.refl _ _
  | (refine Keep.new' ?_ (by assumption); k_memK)
  | (refine Keep.trans ?_ (by assumption); k_memK)
  | (refine Keep.trans ?_ (Keep.same' (by assumption)); k_memK)
  | (refine Keep.modd ?_ (by assumption); k_memK)
  | (refine Keep.mod ?_ (by assumption) ?_; (k_memK); lcg_sub))
local macro_rules | `(tactic| lcg_sub) => `(tactic| first
  | assumption
  | exact New.fr (by assumption)
  | (refine Same.none ?_ (New.fr (by assumption)); k_updF)
  | (refine Keep.fresh (D := ?_) ?_ ?_ ?_ (New.fr (by assumption)); rotate_left; (k_memK); (kct_strs); (kct_strs)))
local macro_rules | `(tactic| k_upd) => `(tactic| first
  | assumption
  | exact Kl.refl _
  | (refine Kl.trans ?_ (New.kl (by assumption)); k_upd)
  | (refine Kl.trans ?_ (Same.kl (by assumption)); k_upd)
  | (refine Kl.trans ?_ (Mod.kl (by assumption) (by tb_rel)); k_upd)
  | (refine Kl.trans ?_ (Keep.kl (by assumption) (by kct_strs)); k_upd)
  | (refine Kl.trans ?_ (by assumption); k_upd))
local macro_rules | `(tactic| kst_all1) => `(tactic| first
  | assumption | omega | (with_reducible rfl)
  | (simp only [List.length_append, List.length_map, List.length_set, List.length_take, List.length_drop, List.length_cons, List.length_nil, List.length_replicate]; omega)
  | (refine ⟨?_, ?_⟩ <;> kst_all1)
  | decide)
local macro_rules | `(tactic| k_allIn) => `(tactic| first
  | ((with_reducible apply OKl); (focus tb_rel))
  | ((with_reducible apply OKd); (focus tb_rel))
  | ((with_reducible apply OKdf); (focus tb_rel))
  | ((with_reducible apply OKd1); (focus tb_rel))
  | ((with_reducible apply OKt); (focus tb_rel))
  | ((with_reducible apply OKql); (focus tb_rel))
  | ((with_reducible apply OKqt); (focus tb_rel))
  | ((with_reducible apply OKnl); (focus tb_rel))
  | ((with_reducible apply OKnt); (focus tb_rel))
  | ((with_reducible apply OKnd); (focus tb_rel))
  | ((with_reducible apply OKyl); (focus tb_rel))
  | ((with_reducible apply OKyt); (focus tb_rel))
  | ((with_reducible apply OKyd); (focus tb_rel))
  | ((with_reducible apply OKbl); (focus tb_rel))
  | ((with_reducible apply OKbt); (focus tb_rel))
  | ((with_reducible apply OKbd); (focus tb_rel))
  | ((with_reducible apply OKi); (focus tb_rel))
  | ((with_reducible apply OKj); (focus tb_rel))
  | ((with_reducible apply OKr); (focus tb_rel))
  | ((with_reducible apply OKrt); (focus tb_rel))
  | ((with_reducible apply OKrl); (focus tb_rel))
  | ((with_reducible apply OKsl); (focus tb_rel))
  | ((with_reducible apply OKst); (focus tb_rel))
  | ((with_reducible apply AlS_l); (focus tb_rel))
  | ((with_reducible apply AlS_t); (focus tb_rel))
  | ((with_reducible apply AlC_l); (focus tb_rel))
  | ((with_reducible apply AlC_t); (focus tb_rel))
  | ((with_reducible apply OKn); (focus kst_all1); intro v h)
  | ((with_reducible apply OKl1); (focus kst_all1); intro v h)
  | ((with_reducible apply OKl2); (focus kst_all1); intro v h)
  | ((with_reducible apply OKlk); (focus kst_all1); intro v h)
  | ((with_reducible apply OKln); (focus kst_all1); intro v h)
  | ((with_reducible apply OKg); (focus kst_all1); intro v h)
  | ((with_reducible apply OKxn); (focus kst_all1))
  | ((with_reducible apply OKsi); (focus kst_all1))
  | ((with_reducible apply OKsm); (focus kst_all1))
  | ((with_reducible refine OKa ?_ ?_ ?_); (focus kst_all1); (focus kst_all1); intro j v e h))
local macro_rules | `(tactic| kfm_turns) => `(tactic| repeat first
  | kpc_turns
  | k_allIn
  | l_intsW
  | ((with_reducible apply CdL); (focus tb_rel))
  | ((with_reducible refine Cd.by ?_ ?_); (focus kst_all1))
  | ((with_reducible refine Br.yes ?_ ?_); (focus (first | assumption | omega)))
  | ((with_reducible refine Br.no ?_ ?_); (focus (first | assumption | omega))))
local macro_rules | `(tactic| kpt_turns) => `(tactic| repeat first
  | kpc_turns
  | k_allIn
  | l_intsW
  | (with_reducible refine Al.by fun p H' n => ?_)
  | (with_reducible refine Md.by fun H' m => ?_)
  | ((with_reducible apply CdL); (focus tb_rel))
  | ((with_reducible refine Cd.by ?_ ?_); (focus kst_all1))
  | ((with_reducible refine Br.yes ?_ ?_); (focus (first | assumption | omega)))
  | ((with_reducible refine Br.no ?_ ?_); (focus (first | assumption | omega))))
local macro_rules | `(tactic| nest_cls) => `(tactic| repeat' first
  | kpc_turns
  | k_allIn
  | l_intsW
  | (with_reducible refine Al.by fun p H' n => ?_)
  | (with_reducible refine Md.by fun H' m => ?_)
  | ((with_reducible apply CdL); (focus tb_rel))
  | ((with_reducible refine Cd.by ?_ ?_); (focus kst_all1))
  | ((with_reducible refine Br.yes ?_ ?_); (focus (first | assumption | omega)))
  | ((with_reducible refine Br.no ?_ ?_); (focus (first | assumption | omega)))
  | (with_reducible refine Br.by (fun h => ?_) fun h => ?_))
local macro_rules | `(tactic| kpc_turns) => `(tactic| simp (config := {maxSteps := 4000000}) only [↓r_divm, ↓r_min, ↓r_max, ↓r_abs, ↓r_strI, ↓r_intT, ↓aM_zf, ↓aM_ls, ↓aM_rs, ↓aM_spl, ↓r_mulX, ↓r_rev, ↓r_revR, tyS, ↓un_nx, ↓in_some, ↓in_none, ↓r_cd, ↓aM_pop, ↓aM_popAt, ↓r_tryL, ↓r_fld, ↓r_setF, ↓aSF_ref, ↓r_isO, ↓r_eqO, ↓r_eqN, ↓r_neN, ↓r_gsq, ↓aGs_eq, ↓r_gcons, ↓r_gnil, ↓r_isB, ↓r_bm1, ↓r_bm0, ↓aM_app, ↓r_callX, ↓r_raise0, ↓r_tryAs, ↓r_tryOnly, ↓r_seq, ↓r_ifS, ↓r_or, ↓r_and, ↓r_not, ↓r_next, ↓r_ret, ↓r_retN, ↓r_brk, ↓r_cnt, ↓r_drop, ↓r_asg, ↓r_test, ↓r_yes, ↓r_c, ↓r_nil, ↓r_cons, ↓r_var0, ↓r_varS, ↓r_name0, ↓r_nameS, ↓r_op, ↓r_un, ↓r_rU, ↓r_chain, ↓r_andV, ↓r_orV, ↓r_notV, ↓r_call, ↓r_cb, ↓r_tup, ↓r_lst, ↓r_sl, ↓r_noPart, ↓r_part, ↓r_gsub, ↓kB_a, ↓aB_bl, ↓kI_a, ↓aI_int, ↓OK_some, ↓Br_true, ↓Br_false, ↓Cd_true, ↓r_addI, ↓r_addS, ↓r_addUI, ↓r_addUS, ↓r_addL, ↓AlT_cc, ↓AlT_nil, ↓AlT_cnil, ↓r_addT, ↓r_sub, ↓r_mul, ↓r_div, ↓r_mod, ↓r_pow, ↓r_lt, ↓r_le, ↓r_gt, ↓r_ge, ↓r_eq, ↓r_ne, ↓r_isN, ↓r_notN, ↓r_inS, ↓r_ninS, ↓r_in, ↓r_nin, ↓r_inG, ↓r_ninG, ↓r_ixS, ↓r_ix, ↓r_set, ↓r_slS, ↓AlS_lst, ↓AlS_tup, ↓r_slR, ↓r_lenS, ↓r_lenR, ↓r_listU, ↓AlC_lst, ↓AlC_tup, ↓r_tupleU, ↓r_int, ↓r_isi, ↓r_tru, ↓r_truN, ↓r_truB, ↓r_truI, ↓r_truS, ↓r_truR, ↓aL_ref, ↓a1_int, ↓a2_int, ↓r_for1, ↓r_for2, ↓r_for, ↓r_lc, ↓r_lc1, ↓r_lc2,
  OK_some, Br_true, Br_false, Br_not, Cd_true, aB_bl, aI_int, r_rU, r_addI, r_addS, r_sub, r_mul, r_div, r_mod, r_pow, r_lt, r_le, r_gt, r_ge, r_ixS, r_ix, r_set, r_lenS, r_int, r_truN, r_truB, r_truI, r_truS, r_truR, AlT_cc, AlT_nil, AlT_cnil, AlS_lst, AlS_tup, AlC_lst, AlC_tup, a1_int, a2_int, lstO_lst, tupO_tup, seqO_eq, seqO_lst, seqO_tup, lenO_lst, lenO_tup, lenO_dK, e_tyR, tyO_t, e_ty, e_tyn, truO_lst, truO_tup, truO_dK, isa_tab, scal_tab, flat_tab, eqV_t, inV_cons, inV_nil, szl, cmul_l, cpow_l, atI_0, atI_1, atI_2, atI_3, ixN_lit, Option.some.injEq, List.length_cons, List.length_nil, List.length_append, List.length_map, Nat.zero_add, Nat.reduceAdd, natc, Int.reduceLE, Int.reduceLT, Int.reduceEq, Int.reduceSub, Int.reduceAdd, Int.reduceNeg, Int.reduceMul, Int.reducePow, Int.reduceToNat, Nat.reduceLeDiff, Nat.reduceLT, Nat.reduceEqDiff, decide_eq_true_eq, decide_eq_false_iff_not, decide_true, decide_false, Bool.not_eq_true', Bool.not_eq_false', Bool.not_true, Bool.not_false, Bool.not_not, Bool.or_eq_true, Bool.and_eq_true, Bool.or_false, Bool.false_or, Bool.or_true, Bool.true_or, Bool.and_true, Bool.true_and, Bool.and_false, Bool.false_and, Bool.and_self, List.all_cons, List.all_nil, ofs_inj, String.reduceEq, List.cons.injEq, and_true, true_and, and_self, or_true, true_or, or_false, false_or, V.ty.injEq, V.bl.injEq, V.int.injEq, V.str.injEq, V.ref.injEq, List.nil_append, List.append_nil, List.cons_append, List.getElem?_cons_zero, List.getElem?_cons_succ, List.set_cons_zero, List.set_cons_succ, exists_eq_left', exists_eq_left, exists_eq, Bool.false_eq_true, Bool.true_eq_false, reduceCtorEq, not_true_eq_false, not_false_eq_true, eq_self, List.isEmpty_cons, List.isEmpty_nil, wipe, insO_ins, insD_ins, isO_tab, isO_ref, isR_tab, snO_tab, lk_tab, putF_nil, putF_tab, isLs_lst, tyL, m1_self, cutV_1, cutV_to1, Int.zero_add, ↓r_raiseO, ↓r_forEn, ↓r_forK, ↓r_ixD, ↓r_inK, ↓r_ninK, ↓r_setK, ↓r_dnew, ↓aDG_ref, ↓aDG2_ref, ↓r_dget2, ↓r_metX, ↓r_met, ↓aMt_ref, ↓r_prop, ↓aPr_ref, ↓aM_ins, ↓r_dcK, ↓r_for3u, ↓a3_int, keyO_t, reduceIte])

namespace Pg
def t_called_first (K : PySem.W.Frag) (a_Recursion : Addr) (E : XK) : TS :=
  (tSeq (tAsg tDNewK (gName 1))
  (tSeq (tAsg (tLst tNil) (gName 2))
  (tSeq (uLock 0 (fun W => (tFor (iKeyU (uVar 0)) (gName 3) (tSeq (tAsg (tLst (tCons (uVar 3) tNil)) (gName 4))
  (tWhile (uTru (uVar 4)) (tSeq (tAsg (tOp rIxU (uVar 4) (tUn (rU fun i => .int (-i)) (tC (.int 1)))) (gName 5))
  (tSeq (tAsg (tLc (iU K (uCall (sp_callees K) [] E0 (tCons (tOp rIxD (uVar 0) (uVar 5)) tNil))) (gName 7) (tTest (tOp rNinK (uVar 7) (uVar 1))) (uVar 7) [7]) (gName 6))
  (tIfS (tOr (tTest (tOp rInK (uVar 5) (uVar 1))) (tNot (uTru (uVar 6)))) (tSeq (tIfS (tTest (tOp rNinK (uVar 5) (uVar 1))) (tSeq (tAsg (tC (.bl true)) (gSub (uVar 1) (uVar 5) rSetK))
  (tDrop (tBM K "list" rAppend (uVar 2) (tCons (uVar 5) tNil)))) tNext)
  (tDrop (tBM0 K "list" rPop (uVar 4)))) (tIfS (tTest (tOp (rInU false) (tOp rIxU (uVar 6) (tC (.int 0))) (uVar 4))) (uRaiseO W a_Recursion (sp_Recursion_init K) (tCons (tCB rTupleU (tCons (tSl rSlU (uVar 4) (uPart (tBM K "list" (rIndex K) (uVar 4) (tCons (tOp rIxU (uVar 6) (tC (.int 0))) tNil))) tNoPart) tNil)) tNil)) (tDrop (tBM K "list" rAppend (uVar 4) (tCons (tOp rIxU (uVar 6) (tC (.int 0))) tNil))))))))))) (fun cls d _ H => E cls d H))
  (tRet (uVar 2)))))
def sp_called_first (K : PySem.W.Frag) : Sp := fun vs H Q E => ∃ (d : Addr) (kvs : List (Key × V)) (P : Prog), vs = [.ref d] ∧ H d = some (.dK kvs) ∧ DictP H kvs P ∧ (names P).Nodup ∧ P.length ≤ 1000 ∧ (∀ z b, (z, b) ∈ P → b.length ≤ 1000) ∧ (∀ a b, Calls P a b → b ∈ names P) ∧
  (∀ r, IsRing P r → ∀ dd t H', H dd = none → H' dd = some (.xd [("ring", .ref t)]) → H' t = some (.tup (r.map V.str)) → L2.Same H H' → E (.ref (He.ga K "Recursion")) (some dd) H') ∧
  ∀ ord, Topo P ord → ∀ L H', H L = none → H' L = some (.lst (ord.map V.str)) → L2.Same H H' → Q (.ref L) H'
theorem len_called_first {K : PySem.W.Frag} : ∀ vs H Q E, sp_called_first K vs H Q E → vs.length = 1 := fun _ _ _ _ ⟨_, _, _, e, _⟩ => by rw [e]; rfl
abbrev dn (z : Str) : Key × V := (.inr z, .bl true)
theorem valV_dn (z : Str) (ord : List Str) : (valV (ord.map dn) (.inr z)).isSome = decide (z ∈ ord) := by
  rw [Bool.eq_iff_iff, valV_mem, decide_eq_true_eq, List.map_map, List.mem_map]
  exact ⟨fun ⟨y, h1, h2⟩ => Sum.inr.inj h2 ▸ h1, fun h => ⟨z, h, rfl⟩⟩
def mu (N : Nat) (p1 p4 : Addr) (H : Hp) : Nat := match H p1, H p4 with
  | some (.dK k), some (.lst l) => (N - k.length) * (N + 2) + (if l.length = 0 then 0 else N + 2 - l.length)
  | _, _ => 0
theorem mu_at {N : Nat} {p1 p4 : Addr} {H : Hp} {k : List (Key × V)} {l : List V} (h1 : H p1 = some (.dK k)) (h2 : H p4 = some (.lst l)) : mu N p1 p4 H = (N - k.length) * (N + 2) + (if l.length = 0 then 0 else N + 2 - l.length) := by
  unfold mu
  simp only [h1, h2]
def notIn (ord : List Str) : V → Bool
  | .str y => !decide (y ∈ ord)
  | _ => true
theorem filt_map (ord : List Str) : ∀ l : List Str, (l.map V.str).filter (notIn ord) = (l.filter fun y => decide (y ∉ ord)).map V.str
  | [] => rfl
  | y :: l => by
    rw [List.map_cons, List.filter_cons, List.filter_cons, filt_map ord l]
    by_cases h : y ∈ ord
    · rw [if_neg (by show ¬ (!decide _) = true; rw [decide_eq_true h]; decide), if_neg (by simp [h])]
    · rw [if_pos (by show (!decide _) = true; rw [decide_eq_false h]; rfl), if_pos (by simp [h])]
      rfl
theorem cl_le (body : List In) (h : body.length ≤ 1000) : (calleesL body).length ≤ 16777216 := by
  have := fold_len body []
  rw [List.length_nil] at this
  show (body.foldl _ []).length ≤ _
  omega
theorem pure_called_first {K : PySem.W.Frag} (fpg : Fpg K) (vs : List V) (H : Hp) (Q : VK) (E : XK) (h : sp_called_first K vs H Q E) : t_called_first K (He.ga K "Recursion") E { nx := fun _ H' => Q .non H', rt := Q } (start ["bodies", "done", "order", "start", "path", "name", "waiting", "other"] vs) H := by
  obtain ⟨d, kvs, P, rfl, hd, hP, hn, hl, hb, hc, q1, q2⟩ := h
  obtain ⟨_, _, _, e1, e2⟩ := fpg
  unfold t_called_first
  show tSeq _ _ _ [some (.ref d), none, none, none, none, none, none, none] H
  kpt_turns
  rename_i p1 H1 m1 p2 H2 m2
  have np1 : d ≠ p1 := m1.ne hd
  have np2 : d ≠ p2 := m2.ne (m1.old hd)
  have n12 : p1 ≠ p2 := m2.ne m1.at
  have fr1 : H p1 = none := m1.fr
  have fr2 : H p2 = none := by rw [← m1.off (Ne.symm n12)]; exact m2.fr
  refine lock_in rfl (m2.old (m1.old hd)) fun od H3 m3 => ?_
  have k3 : Keep d H H3 := ((Keep.same' m1.same).trans (Keep.same' m2.same)).trans (Keep.lock m3)
  have tk : ∀ {H'}, Keep d H H' → ∀ q o, H q = some (.tup o) → H' q = some (.tup o) := fun k q o e => k.at (fun z => by rw [z, hd] at e; cases e) e
  kfm_turns
  refine keyK m3.at (fun i σ H' => (∃ (y3 y4 y5 y6 y7 : Option V), σ = [some (.ref d), some (.ref p1), some (.ref p2), y3, y4, y5, y6, y7]) ∧ Keep d H H' ∧ H' d = some (.frz od (.dK kvs)) ∧ ∃ ord, H' p1 = some (.dK (ord.map dn)) ∧ H' p2 = some (.lst (ord.map V.str)) ∧ Dfs P ord ∧ ∀ (j : Nat) z, j < i → (names P)[j]? = some z → z ∈ ord)
    ⟨⟨_, _, _, _, _, rfl⟩, k3, m3.at, [], m3.old (Ne.symm np1) (m2.old m1.at), m3.old (Ne.symm np2) m2.at, Dfs.nil, fun j z h => absurd h (by omega)⟩ (fun i σ H' _ ⟨_, _, h, _⟩ => h) (fun i k v σ H4 hk ⟨⟨y3, y4, y5, y6, y7, e⟩, k4, hd4, ord, h1, h2, df, pr⟩ => ?_) fun σ H4 ⟨⟨y3, y4, y5, y6, y7, e⟩, k4, hd4, ord, h1, h2, df, pr⟩ => ?_
  · subst e
    obtain ⟨s, rfl, hs⟩ : ∃ s, k = .inr s ∧ (names P)[i]? = some s := by
      have := hP.keys
      have h5 : (kvs.map (·.1))[i]? = some k := by rw [List.getElem?_map, hk]; rfl
      rw [this, List.getElem?_map] at h5
      cases e : (names P)[i]? with
      | none => rw [e] at h5; cases h5
      | some s => rw [e] at h5; cases h5; exact ⟨s, rfl, rfl⟩
    have hsn := List.mem_of_getElem? hs
    show gName 3 _ _ _ _
    kpt_turns
    rename_i p4 H5 m5
    have fr4 : H p4 = none := Keep.no k4 m5.fr fun z => by rw [z] at m5; have := m5.fr; rw [hd4] at this; cases this
    have n41 : p1 ≠ p4 := m5.ne h1
    have n42 : p2 ≠ p4 := m5.ne h2
    have n4d : d ≠ p4 := m5.ne hd4
    have m5a : H5 p4 = some (.lst ([s].map V.str)) := m5.at
    refine while_inv (fun σ H' => (∃ (y5 y6 y7 : Option V), σ = [some (.ref d), some (.ref p1), some (.ref p2), some (.str s), some (.ref p4), y5, y6, y7]) ∧ ∃ path ord', Keep d H H' ∧ H' d = some (.frz od (.dK kvs)) ∧ H' p1 = some (.dK (ord'.map dn)) ∧ H' p2 = some (.lst (ord'.map V.str)) ∧ H' p4 = some (.lst (path.map V.str)) ∧ Dfs P ord' ∧ (∀ z ∈ ord, z ∈ ord') ∧
      ((Pth P ord' path ∧ (path[0]? = some s ∨ s ∈ ord')) ∨ (path = [s] ∧ s ∈ ord'))) (fun _ H' => mu P.length p1 p4 H')
      ⟨⟨_, _, _, rfl⟩, [s], ord, k4.new' m5, m5.old hd4, m5.old h1, m5.old h2, m5a, df, fun z h => h, ?_⟩ (fun σ H6 R ⟨⟨y5, y6, y7, e⟩, path, ord', k6, hd6, g1, g2, g4, df', mono, st⟩ r1 r2 => ?_)
    · by_cases hso : s ∈ ord
      · exact .inr ⟨rfl, hso⟩
      · refine .inl ⟨⟨by simp, fun z hz => ?_, fun k a b ha hb => ?_, fun z hz => ?_⟩, .inl rfl⟩
        · rw [List.mem_singleton.mp hz]; exact hsn
        · have := (List.getElem?_eq_some_iff.mp hb).1
          simp at this
        · rw [List.mem_singleton.mp hz]; exact hso
    · subst e
      kfm_turns
      by_cases hp0 : path = []
      · subst hp0
        refine r2 _ ?_
        have hso : s ∈ ord' := by
          rcases st with ⟨_, h | h⟩ | ⟨h, _⟩
          · cases h
          · exact h
          · cases h
        refine ⟨⟨_, _, _, _, _, rfl⟩, k6, hd6, ord', g1, g2, df', fun j z hj hz => ?_⟩
        rcases Nat.lt_or_eq_of_le (Nat.le_of_lt_succ hj) with h3 | h3
        · exact mono z (pr j z h3 hz)
        · subst h3
          rw [hs] at hz
          cases hz
          exact hso
      · have ie : (path.map V.str).isEmpty = false := by cases path with
          | nil => exact absurd rfl hp0
          | cons a r => rfl
        have pl : 1 ≤ path.length := List.length_pos_iff.mpr hp0
        rw [ie]
        refine r1 _ ?_
        kfm_turns
        rename_i v hv
        obtain ⟨z, hz, rfl⟩ : ∃ z, path[path.length - 1]? = some z ∧ v = .str z := by
          rw [List.length_map, List.getElem?_map] at hv
          cases e : path[path.length - 1]? with
          | none => rw [e] at hv; cases hv
          | some z => rw [e] at hv; cases hv; exact ⟨z, rfl, rfl⟩
        have hzn : z ∈ names P := by
          rcases st with ⟨h, _⟩ | ⟨h, _⟩
          · exact h.sub z (List.mem_of_getElem? hz)
          · rw [h] at hz
            cases hz
            exact hsn
        obtain ⟨body, hbody⟩ : ∃ body, (z, body) ∈ P := by
          obtain ⟨p, hp, e⟩ := List.mem_map.mp hzn
          exact ⟨p.2, by rw [← e]; exact hp⟩
        have cz : ∀ b, Calls P z b ↔ b ∈ calleesL body := fun b => ⟨fun ⟨c, h3, h4⟩ => by rw [body_uniq hn hbody h3]; exact h4, fun h3 => ⟨body, hbody, h3⟩⟩
        obtain ⟨pb, xs, v1, v2, v3⟩ := hP.get hn hbody
        kfm_turns
        refine OK.by v1 ?_
        kfm_turns
        refine Call.by ⟨pb, xs, body, rfl, seqAt_tup (tk k6 _ _ v2), v3.kl (tk k6), Nat.le_trans (hb z body hbody) (by decide), fun L H7 nL eL s7 => ?_⟩
        kfm_turns
        refine comp_filt (K := K) (notIn ord') (seqAt_lst eL) (Nat.le_trans (Nat.le_of_eq (List.length_map ..)) (cl_le body (hb z body hbody))) (fun x H8 S N hx s8 r1 r2 => ?_) fun W H8 nW eW s8 => ?_
        · obtain ⟨y, _, rfl⟩ := List.mem_map.mp hx
          have g1' := s8 _ _ (s7 _ _ g1)
          kfm_turns
          rw [valV_dn]
          by_cases hy : y ∈ ord'
          · rw [decide_eq_true hy]
            exact r2 (by show (!decide _) = false; rw [decide_eq_true hy]; rfl)
          · rw [decide_eq_false hy]
            exact r1 (by show (!decide _) = true; rw [decide_eq_false hy]; rfl)
        rw [filt_map] at eW
        have s68 := s7.trans s8
        have k8 : Keep d H H8 := k6.same2 s68
        have hd8 := s68 _ _ hd6
        have g1' := s68 _ _ g1
        have g2' := s68 _ _ g2
        have g4' := s68 _ _ g4
        have wm : ∀ b, b ∈ (calleesL body).filter (fun y => decide (y ∉ ord')) ↔ Calls P z b ∧ b ∉ ord' := fun b => by
          rw [List.mem_filter, decide_eq_true_eq, cz]
        generalize (calleesL body).filter (fun y => decide (y ∉ ord')) = wait at *
        kfm_turns
        rw [valV_dn]
        rcases st with ⟨pth, hst⟩ | ⟨rfl, hso⟩
        · have zn : z ∉ ord' := pth.nw z (List.mem_of_getElem? hz)
          have pN : path.length ≤ P.length := by
            have := nodup_len pth.nd pth.sub
            rw [show (names P).length = P.length from List.length_map ..] at this
            exact this
          have oN : ord'.length < P.length := by
            have := nodup_len (l := z :: ord') (m := names P) (List.nodup_cons.mpr ⟨zn, df'.nd⟩) fun y hy => by
              rcases List.mem_cons.mp hy with h | h
              · rw [h]; exact hzn
              · exact df'.sub y h
            rw [show (names P).length = P.length from List.length_map .., List.length_cons] at this
            omega
          refine Br.no (by rw [decide_eq_false zn]; decide) ?_
          kfm_turns
          cases wait with
          | nil =>
            refine Br.yes rfl ?_
            kfm_turns
            refine Br.yes (by rw [valV_dn, decide_eq_false zn]) ?_
            kpt_turns
            rename_i H9 m9 H10 m10 v' hv' H11 m11
            have zk : (Sum.inr z : Key) ∉ (ord'.map dn).map (·.1) := fun h => by
              rw [List.map_map, List.mem_map] at h
              obtain ⟨y, h3, h4⟩ := h
              exact zn (Sum.inr.inj h4 ▸ h3)
            rw [putK_new zk] at m9
            have o1 : H11 p1 = some (.dK ((ord' ++ [z]).map dn)) := by
              rw [m11.off n41, m10.off n12, m9.at, List.map_append]
              rfl
            have o2 : H11 p2 = some (.lst ((ord' ++ [z]).map V.str)) := by
              rw [m11.off n42, m10.at, List.map_append]
              rfl
            have o4 : H11 p4 = some (.lst (path.dropLast.map V.str)) := by
              rw [m11.at, List.map_dropLast]
            have cl : ∀ b, Calls P z b → b ∈ ord' := fun b h => Classical.byContradiction fun h2 => by
              have := (wm b).mpr ⟨h, h2⟩
              cases this
            refine ⟨⟨⟨_, _, _, rfl, rfl, rfl⟩, path.dropLast, ord' ++ [z], ?_, ?_, o1, o2, o4, df'.push hzn zn cl, fun y hy => List.mem_append_left _ (mono y hy), .inl ⟨pth.pop hz, ?_⟩⟩, ?_⟩
            · exact Keep.mod (Keep.mod (Keep.mod k8 m9 fr1) m10 fr2) m11 fr4
            · rw [m11.off n4d, m10.off np2, m9.off np1]
              exact hd8
            · by_cases h1 : path.length = 1
              · right
                rcases hst with h | h
                · rw [h1] at hz
                  rw [hz] at h
                  cases h
                  simp
                · exact List.mem_append_left _ h
              · refine hst.imp (fun h => ?_) fun h => List.mem_append_left _ h
                rw [List.getElem?_dropLast, if_pos (by omega)]
                exact h
            · rw [mu_at o1 o4, mu_at g1 g4]
              simp only [List.length_map, List.length_append, List.length_singleton, List.length_dropLast]
              obtain ⟨A, hA⟩ : ∃ A, List.length P - ord'.length = A + 1 := ⟨List.length P - ord'.length - 1, by omega⟩
              rw [show List.length P - (ord'.length + 1) = A by omega, hA, Nat.add_mul, Nat.one_mul]
              split <;> split <;> omega
          | cons w wr =>
            obtain ⟨cw, wn⟩ := (wm w).mp (List.mem_cons_self ..)
            have wN := hc z w cw
            refine Br.no (fun h => by cases h) ?_
            have at0 : ∀ {j : Nat} {v : V}, (0 : Int) = (j : Int) → (List.map V.str (w :: wr))[j]? = some v → V.str w = v := fun {j v} ej hv => by
              have : j = 0 := by omega
              subst this
              exact Option.some.inj hv
            kfm_turns
            rename_i j v' ej hv'
            obtain rfl := at0 ej hv'
            clear ej hv'
            refine Cd.by ⟨rfl, all_flat _⟩ ?_
            rw [inV_strs]
            kfm_turns
            refine Br.by (fun hw => ?_) fun hw => ?_
            · kfm_turns
              rename_i j v' ej hv'
              obtain rfl := at0 ej hv'
              clear ej hv'
              obtain ⟨jj, hj, hjn⟩ : ∃ jj, path[jj]? = some w ∧ ∀ m y, m < jj → path[m]? = some y → y ≠ w := by
                have h1 := List.idxOf_lt_length_iff.mpr hw
                refine ⟨path.idxOf w, by rw [List.getElem?_eq_getElem h1, List.getElem_idxOf h1], fun m y hm hy e => ?_⟩
                obtain ⟨h3, h4⟩ := List.getElem?_eq_some_iff.mp hy
                have h5 : path.findIdx (· == w) = path.idxOf w := rfl
                have := List.not_of_lt_findIdx (p := (· == w)) (xs := path) (i := m) (by rw [h5]; exact hm)
                rw [h4, e] at this
                simp at this
              refine idx_of (j := jj) g4' rfl (all_flat _) (by rw [List.getElem?_map, hj]; rfl) (by rw [eqV_t.2]; exact decide_eq_true rfl) (fun m v hm hv => ?_) ?_
              · rw [List.getElem?_map] at hv
                cases e : path[m]? with
                | none => rw [e] at hv; cases hv
                | some y =>
                  rw [e] at hv
                  cases hv
                  rw [eqV_t.2]
                  exact decide_eq_false fun h => hjn m y hm e h.symm
              kpt_turns
              rename_i p9 H9 n9 pt H10 n10
              rw [cutV_from] at n9 n10
              refine rz1 e1 e2 fun dd H11 hdd ed s11 => ?_
              have s811 : L2.Same H8 H11 := (n9.same.trans n10.same).trans s11
              refine lock_w (s811 _ _ hd8) fun H12 m12 => ?_
              have k11 : Keep d H H11 := k8.same2 s811
              have ndd : dd ≠ d := fun z => by rw [z, n10.old (n9.old hd8)] at hdd; cases hdd
              have npt : pt ≠ d := fun z => by rw [z] at n10; have := n10.fr; rw [n9.old hd8] at this; cases this
              refine q1 _ (pth.ring hz cw hj) dd pt H12 ?_ ?_ ?_ (Same.unlock hd k11 m12)
              · exact Keep.no (k8.same2 (n9.same.trans n10.same)) hdd ndd
              · rw [m12.off ndd]
                exact ed
              · rw [m12.off npt, s11 _ _ n10.at, List.map_drop]
            · kpt_turns
              rename_i j v' ej hv' H9 m9
              obtain rfl := at0 ej hv'
              clear ej hv'
              have o4 : H9 p4 = some (.lst ((path ++ [w]).map V.str)) := by
                rw [m9.at, List.map_append]
                rfl
              refine ⟨⟨⟨_, _, _, rfl, rfl, rfl⟩, path ++ [w], ord', Keep.mod k8 m9 fr4, by rw [m9.off n4d]; exact hd8, by rw [m9.off n41]; exact g1', by rw [m9.off n42]; exact g2', o4, df', mono, .inl ⟨pth.push hz cw wN wn hw, ?_⟩⟩, ?_⟩
              · refine hst.imp (fun h => ?_) id
                rw [List.getElem?_append_left (by omega)]
                exact h
              · rw [mu_at (by rw [m9.off n41]; exact g1') o4, mu_at g1 g4]
                simp only [List.length_map, List.length_append, List.length_singleton]
                rw [if_neg (by omega), if_neg (by omega)]
                omega
        · have ez : z = s := by
            have hz : some s = some z := hz
            exact (Option.some.inj hz).symm
          subst ez
          refine Br.yes (decide_eq_true hso) ?_
          kfm_turns
          refine Br.no (by rw [valV_dn, decide_eq_true hso]; decide) ?_
          kpt_turns
          rename_i v' hv' H9 m9
          have o4 : H9 p4 = some (.lst (([] : List Str).map V.str)) := m9.at
          have o1 : H9 p1 = some (.dK (ord'.map dn)) := by rw [m9.off n41]; exact g1'
          refine ⟨⟨⟨_, _, _, rfl, rfl, rfl⟩, [], ord', Keep.mod k8 m9 fr4, by rw [m9.off n4d]; exact hd8, o1, by rw [m9.off n42]; exact g2', o4, df', mono, .inl ⟨⟨List.nodup_nil, fun z h => (nomatch h), fun k a b h => (by rw [List.getElem?_nil] at h; cases h), fun z h => (nomatch h)⟩, .inr hso⟩⟩, ?_⟩
          rw [mu_at o1 o4, mu_at g1 g4]
          simp only [List.length_map, List.length_nil, List.length_singleton]
          rw [if_pos trivial, if_neg (by decide)]
          omega
  · subst e
    refine lock_nx hd4 fun H5 m5 => ?_
    have s5 := Same.unlock hd k4 m5
    kfm_turns
    refine q2 ord ⟨df, fun z hz => ?_⟩ p2 H5 fr2 (m5.old (Ne.symm np2) h2) s5
    obtain ⟨j, hj, e⟩ := List.mem_iff_getElem.mp hz
    refine pr j z ?_ (by rw [List.getElem?_eq_getElem hj, e])
    have : (names P).length = P.length := List.length_map ..
    rw [hP.1]
    omega
end Pg
end U
end

section
namespace U
open PySem PySem.Spec PyProof.Rows L2
local macro_rules | `(tactic| tb_start) => `(tactic| first
  | assumption
  | (refine Ne.symm ?_; assumption)
  | ((with_reducible apply New.ne); (focus assumption); (focus tb_rel); done)
  | (refine Ne.symm ?_; (with_reducible apply New.ne); (focus assumption); (focus tb_rel); done)
  | ((with_reducible apply neN); (focus assumption); (focus tb_rel); done)
  | (refine Ne.symm ?_; (with_reducible apply neN); (focus assumption); (focus tb_rel); done)
  | ((with_reducible apply DrawsOk.neN); (focus assumption); (focus kct_strs); done)
  | ((with_reducible apply DrawsOk.neLN); (focus assumption); (focus kct_strs); done)
  | ((with_reducible apply DrawsOk.ne'); (focus assumption); (focus kct_strs); done)
  | ((with_reducible apply DrawsOk.neL'); (focus assumption); (focus kct_strs); done)
  | ((with_reducible apply DrawsOk.other'); (focus assumption); (focus tb_rel); (focus rfl); done)
  | ((with_reducible apply DrawsOk.otherL); (focus assumption); (focus tb_rel); (focus rfl); done)
  | ((with_reducible apply ne_kd); (focus assumption); (focus tb_rel); (focus (intro h; cases h; done)); done))
local macro_rules | `(tactic| tb_rel) => `(tactic| first
  | assumption
  | exact New.at (by assumption)
  | exact Mod.at (by assumption)
  | ((with_reducible apply New.old); (focus assumption); tb_rel)
  | ((with_reducible apply Mod.lk); (focus assumption); (focus tb_rel); focus tb_start)
  | ((with_reducible apply Keep.lk); (focus assumption); (focus tb_rel); focus tb_start)
  | ((with_reducible apply Same.at); (focus assumption); tb_rel))
local macro_rules | `(tactic| kct_strs) => `(tactic| first
  | assumption
  | (refine New.draws (by assumption) ?_; kct_strs)
  | (refine DrawsOk.same ?_ (by assumption); kct_strs)
  | (refine Mod.draws (by assumption) ?_ ?_ ?_; (kct_strs); (focus tb_start); focus tb_start))
local macro_rules | `(tactic| k_updF) => `(tactic| first
  | assumption
  | exact L2.Same.refl _
  | (refine Same.new ?_ (by assumption); k_updF)
  | (refine L2.Same.trans ?_ (by assumption); k_updF)
  | (refine Same.mod ?_ (by assumption) ?_; (k_updF); lcg_sub))
local macro_rules | `(tactic| k_memK) => `(tactic| first
  | assumption
  | exact Keep.refl _ _
  | (refine Keep.new' ?_ (by assumption); k_memK)
  | (refine Keep.trans ?_ (by assumption); k_memK)
  | (refine Keep.trans ?_ (Keep.same' (by assumption)); k_memK)
  | (refine Keep.modd ?_ (by assumption); k_memK)
  | (refine Keep.mod ?_ (by assumption) ?_; (k_memK); lcg_sub))
local macro_rules | `(tactic| lcg_sub) => `(tactic| first
  | assumption
  | exact New.fr (by assumption)
  | (refine Same.none ?_ (New.fr (by assumption)); k_updF)
  | (refine Keep.fresh (D := ?_) ?_ ?_ ?_ (New.fr (by assumption)); rotate_left; (k_memK); (kct_strs); (kct_strs)))
local macro_rules | `(tactic| k_upd) => `(tactic| first
  | assumption
  | exact Kl.refl _
  | (refine Kl.trans ?_ (New.kl (by assumption)); k_upd)
  | (refine Kl.trans ?_ (Same.kl (by assumption)); k_upd)
  | (refine Kl.trans ?_ (Mod.kl (by assumption) (by tb_rel)); k_upd)
  | (refine Kl.trans ?_ (Keep.kl (by assumption) (by kct_strs)); k_upd)
  | (refine Kl.trans ?_ (by assumption); k_upd))
local macro_rules | `(tactic| kst_all1) => `(tactic| first
  | assumption | omega | (with_reducible rfl)
  | (simp only [List.length_append, List.length_map, List.length_set, List.length_take, List.length_drop, List.length_cons, List.length_nil, List.length_replicate]; omega)
  | (refine ⟨?_, ?_⟩ <;> kst_all1)
  | decide)
local macro_rules | `(tactic| k_allIn) => `(tactic| first
  | ((with_reducible apply OKl); (focus tb_rel))
  | ((with_reducible apply OKd); (focus tb_rel))
  | ((with_reducible apply OKdf); (focus tb_rel))
  | ((with_reducible apply OKd1); (focus tb_rel))
  | ((with_reducible apply OKt); (focus tb_rel))
  | ((with_reducible apply OKql); (focus tb_rel))
  | ((with_reducible apply OKqt); (focus tb_rel))
  | ((with_reducible apply OKnl); (focus tb_rel))
  | ((with_reducible apply OKnt); (focus tb_rel))
  | ((with_reducible apply OKnd); (focus tb_rel))
  | ((with_reducible apply OKyl); (focus tb_rel))
  | ((with_reducible apply OKyt); (focus tb_rel))
  | ((with_reducible apply OKyd); (focus tb_rel))
  | ((with_reducible apply OKbl); (focus tb_rel))
  | ((with_reducible apply OKbt); (focus tb_rel))
  | ((with_reducible apply OKbd); (focus tb_rel))
  | ((with_reducible apply OKi); (focus tb_rel))
  | ((with_reducible apply OKj); (focus tb_rel))
  | ((with_reducible apply OKr); (focus tb_rel))
  | ((with_reducible apply OKrt); (focus tb_rel))
  | ((with_reducible apply OKrl); (focus tb_rel))
  | ((with_reducible apply OKsl); (focus tb_rel))
  | ((with_reducible apply OKst); (focus tb_rel))
  | ((with_reducible apply AlS_l); (focus tb_rel))
  | ((with_reducible apply AlS_t); (focus tb_rel))
  | ((with_reducible apply AlC_l); (focus tb_rel))
  | ((with_reducible apply AlC_t); (focus tb_rel))
  | ((with_reducible apply OKn); (focus kst_all1); intro v h)
  | ((with_reducible apply OKl1); (focus kst_all1); intro v h)
  | ((with_reducible apply OKl2); (focus kst_all1); intro v h)
  | ((with_reducible apply OKlk); (focus kst_all1); intro v h)
  | ((with_reducible apply OKln); (focus kst_all1); intro v h)
  | ((with_reducible apply OKg); (focus kst_all1); intro v h)
  | ((with_reducible apply OKxn); (focus kst_all1))
  | ((with_reducible apply OKsi); (focus kst_all1))
  | ((with_reducible apply OKsm); (focus kst_all1))
  | ((with_reducible refine OKa ?_ ?_ ?_); (focus kst_all1); (focus kst_all1); intro j v e h))
local macro_rules | `(tactic| kfm_turns) => `(tactic| repeat first
  | kpc_turns
  | k_allIn
  | l_intsW
  | ((with_reducible apply CdL); (focus tb_rel))
  | ((with_reducible refine Cd.by ?_ ?_); (focus kst_all1))
  | ((with_reducible refine Br.yes ?_ ?_); (focus (first | assumption | omega)))
  | ((with_reducible refine Br.no ?_ ?_); (focus (first | assumption | omega))))
local macro_rules | `(tactic| kpt_turns) => `(tactic| repeat first
  | kpc_turns
  | k_allIn
  | l_intsW
  | (with_reducible refine Al.by fun p H' n => ?_)
  | (with_reducible refine Md.by fun H' m => ?_)
  | ((with_reducible apply CdL); (focus tb_rel))
  | ((with_reducible refine Cd.by ?_ ?_); (focus kst_all1))
  | ((with_reducible refine Br.yes ?_ ?_); (focus (first | assumption | omega)))
  | ((with_reducible refine Br.no ?_ ?_); (focus (first | assumption | omega))))
local macro_rules | `(tactic| nest_cls) => `(tactic| repeat' first
  | kpc_turns
  | k_allIn
  | l_intsW
  | (with_reducible refine Al.by fun p H' n => ?_)
  | (with_reducible refine Md.by fun H' m => ?_)
  | ((with_reducible apply CdL); (focus tb_rel))
  | ((with_reducible refine Cd.by ?_ ?_); (focus kst_all1))
  | ((with_reducible refine Br.yes ?_ ?_); (focus (first | assumption | omega)))
  | ((with_reducible refine Br.no ?_ ?_); (focus (first | assumption | omega)))
  | (with_reducible refine Br.by (fun h => ?_) fun h => ?_))
local macro_rules | `(tactic| kpc_turns) => `(tactic| simp (config := {maxSteps := 4000000}) only [↓r_divm, ↓r_min, ↓r_max, ↓r_abs, ↓r_strI, ↓r_intT, ↓aM_zf, ↓aM_ls, ↓aM_rs, ↓aM_spl, ↓r_mulX, ↓r_rev, ↓r_revR, tyS, ↓un_nx, ↓in_some, ↓in_none, ↓r_cd, ↓aM_pop, ↓aM_popAt, ↓r_tryL, ↓r_fld, ↓r_setF, ↓aSF_ref, ↓r_isO, ↓r_eqO, ↓r_eqN, ↓r_neN, ↓r_gsq, ↓aGs_eq, ↓r_gcons, ↓r_gnil, ↓r_isB, ↓r_bm1, ↓r_bm0, ↓aM_app, ↓r_callX, ↓r_raise0, ↓r_tryAs, ↓r_tryOnly, ↓r_seq, ↓r_ifS, ↓r_or, ↓r_and, ↓r_not, ↓r_next, ↓r_ret, ↓r_retN, ↓r_brk, ↓r_cnt, ↓r_drop, ↓r_asg, ↓r_test, ↓r_yes, ↓r_c, ↓r_nil, ↓r_cons, ↓r_var0, ↓r_varS, ↓r_name0, ↓r_nameS, ↓r_op, ↓r_un, ↓r_rU, ↓r_chain, ↓r_andV, ↓r_orV, ↓r_notV, ↓r_call, ↓r_cb, ↓r_tup, ↓r_lst, ↓r_sl, ↓r_noPart, ↓r_part, ↓r_gsub, ↓kB_a, ↓aB_bl, ↓kI_a, ↓aI_int, ↓OK_some, ↓Br_true, ↓Br_false, ↓Cd_true, ↓r_addI, ↓r_addS, ↓r_addUI, ↓r_addUS, ↓r_addL, ↓AlT_cc, ↓AlT_nil, ↓AlT_cnil, ↓r_addT, ↓r_sub, ↓r_mul, ↓r_div, ↓r_mod, ↓r_pow, ↓r_lt, ↓r_le, ↓r_gt, ↓r_ge, ↓r_eq, ↓r_ne, ↓r_isN, ↓r_notN, ↓r_inS, ↓r_ninS, ↓r_in, ↓r_nin, ↓r_inG, ↓r_ninG, ↓r_ixS, ↓r_ix, ↓r_set, ↓r_slS, ↓AlS_lst, ↓AlS_tup, ↓r_slR, ↓r_lenS, ↓r_lenR, ↓r_listU, ↓AlC_lst, ↓AlC_tup, ↓r_tupleU, ↓r_int, ↓r_isi, ↓r_tru, ↓r_truN, ↓r_truB, ↓r_truI, ↓r_truS, ↓r_truR, ↓aL_ref, ↓a1_int, ↓a2_int, ↓r_for1, ↓r_for2, ↓r_for, ↓r_lc, ↓r_lc1, ↓r_lc2,
  OK_some, Br_true, Br_false, Br_not, Cd_true, aB_bl, aI_int, r_rU, r_addI, r_addS, r_sub, r_mul, r_div, r_mod, r_pow, r_lt, r_le, r_gt, r_ge, r_ixS, r_ix, r_set, r_lenS, r_int, r_truN, r_truB, r_truI, r_truS, r_truR, AlT_cc, AlT_nil, AlT_cnil, AlS_lst, AlS_tup, AlC_lst, AlC_tup, a1_int, a2_int, lstO_lst, tupO_tup, seqO_eq, seqO_lst, seqO_tup, lenO_lst, lenO_tup, lenO_dK, e_tyR, tyO_t, e_ty, e_tyn, truO_lst, truO_tup, truO_dK, isa_tab, scal_tab, flat_tab, eqV_t, inV_cons, inV_nil, szl, cmul_l, cpow_l, atI_0, atI_1, atI_2, atI_3, ixN_lit, Option.some.injEq, List.length_cons, List.length_nil, List.length_append, List.length_map, Nat.zero_add, Nat.reduceAdd, natc, Int.reduceLE, Int.reduceLT, Int.reduceEq, Int.reduceSub, Int.reduceAdd, Int.reduceNeg, Int.reduceMul, Int.reducePow, Int.reduceToNat, Nat.reduceLeDiff, Nat.reduceLT, Nat.reduceEqDiff, decide_eq_true_eq, decide_eq_false_iff_not, decide_true, decide_false, Bool.not_eq_true', Bool.not_eq_false', Bool.not_true, Bool.not_false, Bool.not_not, Bool.or_eq_true, Bool.and_eq_true, Bool.or_false, Bool.false_or, Bool.or_true, Bool.true_or, Bool.and_true, Bool.true_and, Bool.and_false, Bool.false_and, Bool.and_self, List.all_cons, List.all_nil, ofs_inj, String.reduceEq, List.cons.injEq, and_true, true_and, and_self, or_true, true_or, or_false, false_or, V.ty.injEq, V.bl.injEq, V.int.injEq, V.str.injEq, V.ref.injEq, List.nil_append, List.append_nil, List.cons_append, List.getElem?_cons_zero, List.getElem?_cons_succ, List.set_cons_zero, List.set_cons_succ, exists_eq_left', exists_eq_left, exists_eq, Bool.false_eq_true, Bool.true_eq_false, reduceCtorEq, not_true_eq_false, not_false_eq_true, eq_self, List.isEmpty_cons, List.isEmpty_nil, wipe, insO_ins, insD_ins, isO_tab, isO_ref, isR_tab, snO_tab, lk_tab, putF_nil, putF_tab, isLs_lst, tyL, m1_self, cutV_1, cutV_to1, Int.zero_add, ↓r_raiseO, ↓r_forEn, ↓r_forK, ↓r_ixD, ↓r_inK, ↓r_ninK, ↓r_setK, ↓r_dnew, ↓aDG_ref, ↓aDG2_ref, ↓r_dget2, ↓r_metX, ↓r_met, ↓aMt_ref, ↓r_prop, ↓aPr_ref, ↓aM_ins, ↓r_dcK, ↓r_for3u, ↓a3_int, keyO_t, reduceIte])

namespace Pg
abbrev cPr (K : PySem.W.Frag) : Addr := He.ga K (Str.ofString "Program")
def t_Program_init_1 (K : PySem.W.Frag) (a_Program : Addr) (E : XK) : TS :=
  (tSeq (uLock 1 (fun W => (uSetF a_Program "bodies" (uVar 0) (tDc (iKeyU (uVar 1)) (gName 3) tYes (uVar 3) (tCB rTupleU (tCons (tOp rIxD (uVar 1) (uVar 3)) tNil)) [3]))) (fun cls d _ H => E cls d H))
  (tSeq (uSetF a_Program "inner_first" (uVar 0) (tCB rTupleU (tCons (uCallX (sp_called_first K) (fun cls d _ H => E cls d H) (tCons (tUn (rFld a_Program "bodies") (uVar 0)) tNil)) tNil)))
  (uSetF a_Program "order" (uVar 0) (tCB rTupleU (tCons (tCB (srtJ K) (tCons (tUn (rFld a_Program "bodies") (uVar 0)) tNil)) tNil)))))
def t_Program_init_2 (K : PySem.W.Frag) (a_Program : Addr) (a_NoMain : Addr) (a_UnknownRoutine : Addr) (E : XK) : TS :=
  (tSeq (tIfS (tTest (tOp rNinK (tC (.str "main")) (uVar 1))) (uRaise0 (fun cls d _ H => E cls d H) a_NoMain) tNext)
  (tSeq (uLock 1 (fun W => (tFor (iKeyU (uVar 1)) (gName 3) (tFor (iEnumU K (tCons (tOp rIxD (uVar 1) (uVar 3)) tNil)) (gSq 2 (gCons (gName 2) (gCons (gName 4) gNil))) (tIfS (tAnd (tTest (tOp rNotNU (uCall (sp_named K) [] E0 (tCons (uVar 4) tNil)) (tC .non))) (tTest (tOp rNinK (uCall (sp_named K) [] E0 (tCons (uVar 4) tNil)) (uVar 1)))) (uRaiseO W a_UnknownRoutine (sp_UnknownRoutine_init K) (tCons (uVar 3) (tCons (uVar 2) tNil))) tNext)))) (fun cls d _ H => E cls d H))
  (t_Program_init_1 K a_Program E)))
def t_Program_init (K : PySem.W.Frag) (a_Program : Addr) (a_NoMain : Addr) (a_UnknownRoutine : Addr) (a_BadCount : Addr) (a_BadName : Addr) (E : XK) : TS :=
  (tSeq (tIfS (tNot (tTest (tChain rLeU rLeU (tC (.int 1)) (tCB rLenU (tCons (uVar 1) tNil)) (tC (.int 60))))) (uRaise0 (fun cls d _ H => E cls d H) a_BadCount) tNext)
  (tSeq (uLock 1 (fun W => (tFor (iEnumU K (tCons (uVar 1) tNil)) (gSq 2 (gCons (gName 2) (gCons (gName 3) gNil))) (tSeq (tIfS (tNot (uTru (uCall (sp_is_mark K) [] E0 (tCons (uVar 3) tNil)))) (uRaiseO W a_BadName (sp_BadName_init K) (tCons (uVar 2) tNil)) tNext)
  (tDrop (uCallX (sp_check_body K) W (tCons (uVar 3) (tCons (tOp rIxD (uVar 1) (uVar 3)) tNil))))))) (fun cls d _ H => E cls d H))
  (t_Program_init_2 K a_Program a_NoMain a_UnknownRoutine E)))
abbrev Raw := List (Str × List V)
def RawP (H : Hp) (kvs : List (Key × V)) (R : Raw) : Prop := kvs.length = R.length ∧ ∀ (k : Nat) z xs, R[k]? = some (z, xs) → ∃ p, kvs[k]? = some (.inr z, .ref p) ∧ BodyV H p xs
def Deco (H : Hp) (R : Raw) (P : Prog) : Prop := R.length = P.length ∧ ∀ (k : Nat) z xs, R[k]? = some (z, xs) → ∃ b, P[k]? = some (z, b) ∧ InsAt H xs b
theorem Deco.names {H : Hp} {R : Raw} {P : Prog} (h : Deco H R P) : names P = R.map (·.1) := by
  refine List.ext_getElem? fun k => ?_
  unfold Pg.names
  rw [List.getElem?_map, List.getElem?_map]
  cases e : R[k]? with
  | none =>
    have := List.getElem?_eq_none_iff.mp e
    rw [List.getElem?_eq_none (by rw [← h.1]; exact this)]
    rfl
  | some zx =>
    obtain ⟨b, h1, _⟩ := h.2 k zx.1 zx.2 e
    rw [h1]
    rfl
theorem RawP.keys {H : Hp} {kvs : List (Key × V)} {R : Raw} (h : RawP H kvs R) : kvs.map (·.1) = (R.map (·.1)).map Sum.inr := by
  refine List.ext_getElem? fun k => ?_
  rw [List.getElem?_map, List.getElem?_map, List.getElem?_map]
  cases e : R[k]? with
  | none =>
    have := List.getElem?_eq_none_iff.mp e
    rw [List.getElem?_eq_none (by rw [h.1]; exact this)]
    rfl
  | some zx =>
    obtain ⟨p, h1, _⟩ := h.2 k zx.1 zx.2 e
    rw [h1]
    rfl
theorem BodyV.x {o : Addr} {H H' : Hp} {p : Addr} {xs : List V} {C dx : Addr} {fs : List (Str × V)} (h : BodyV H p xs) (ho : H o = some (.ins C dx fs)) (s : SameX o H H') : BodyV H' p xs := by
  have hp : p ≠ o := fun z => by rcases h with h | h <;> rw [z, ho] at h <;> cases h
  exact h.imp (s _ _ hp) (s _ _ hp)
theorem RawP.x {o : Addr} {H H' : Hp} {kvs : List (Key × V)} {R : Raw} {C dx : Addr} {fs : List (Str × V)} (h : RawP H kvs R) (ho : H o = some (.ins C dx fs)) (s : SameX o H H') : RawP H' kvs R := ⟨h.1, fun k z xs e => by
  obtain ⟨p, h1, h2⟩ := h.2 k z xs e
  exact ⟨p, h1, h2.x ho s⟩⟩
theorem tupX {o : Addr} {H H' : Hp} {C dx : Addr} {fs : List (Str × V)} (ho : H o = some (.ins C dx fs)) (s : SameX o H H') : ∀ q xs, H q = some (.tup xs) → H' q = some (.tup xs) := fun q xs e => s q _ (fun z => by rw [z, ho] at e; cases e) e
theorem Deco.t {H H' : Hp} {R : Raw} {P : Prog} (h : Deco H R P) (k : ∀ q xs, H q = some (.tup xs) → H' q = some (.tup xs)) : Deco H' R P := ⟨h.1, fun j z xs e => by
  obtain ⟨b, h1, h2⟩ := h.2 j z xs e
  exact ⟨b, h1, h2.kl k⟩⟩
structure PrOk (P : Prog) (ord srt : List Str) : Prop where
  nd : (names P).Nodup
  len : P.length ≤ 60
  blen : ∀ z b, (z, b) ∈ P → b.length ≤ 60
  ok : ∀ z b i, (z, b) ∈ P → i ∈ b → i.ok
  mark : ∀ z ∈ names P, isMarkS z = true
  cl : ∀ a b, Calls P a b → b ∈ names P
  main : Str.ofString "main" ∈ names P
  topo : Topo P ord
  perm : srt.Perm (names P)
  srt : sortedS srt = true
def IsPr (K : PySem.W.Frag) (H : Hp) (v : V) (P : Prog) (ord srt : List Str) : Prop := ∃ (o dx db pi po : Addr) (kvs : List (Key × V)), v = .ref o ∧ H o = some (.ins (cPr K) dx [("bodies", .ref db), ("inner_first", .ref pi), ("order", .ref po)]) ∧ H db = some (.dK kvs) ∧ DictP H kvs P ∧ H pi = some (.tup (ord.map V.str)) ∧ H po = some (.tup (srt.map V.str))
theorem IsPr.same {K : PySem.W.Frag} {H H' : Hp} {v : V} {P : Prog} {ord srt : List Str} (h : IsPr K H v P ord srt) (s : L2.Same H H') : IsPr K H' v P ord srt := by
  obtain ⟨o, dx, db, pi, po, kvs, e, h1, h2, h3, h4, h5⟩ := h
  exact ⟨o, dx, db, pi, po, kvs, e, s _ _ h1, s _ _ h2, h3.kl fun q o e => s _ _ e, s _ _ h4, s _ _ h5⟩
theorem tail_init {K : PySem.W.Frag} {o dx d : Addr} {kvs : List (Key × V)} {R : Raw} {P : Prog} {H : Hp} {Q : VK} {E : XK} {y2 y3 y4 : Option V} (ho : H o = some (.ins (cPr K) dx [])) (hd : H d = some (.dK kvs)) (hR : RawP H kvs R) (hP : Deco H R P) (hn : (names P).Nodup) (hl : P.length ≤ 60) (hb : ∀ z b, (z, b) ∈ P → b.length ≤ 60) (hc : ∀ a b, Calls P a b → b ∈ names P)
    (q1 : ∀ r, IsRing P r → ∀ dd t H', H dd = none → H' dd = some (.xd [("ring", .ref t)]) → H' t = some (.tup (r.map V.str)) → SameX o H H' → E (.ref (He.ga K "Recursion")) (some dd) H')
    (q2 : ∀ ord srt H', Topo P ord → srt.Perm (names P) → sortedS srt = true → IsPr K H' (.ref o) P ord srt → SameX o H H' → Q .non H') :
    t_Program_init_1 K (cPr K) E { nx := fun _ H' => Q .non H', rt := Q } [some (.ref o), some (.ref d), y2, y3, y4] H := by
  have nod : d ≠ o := fun z => by rw [z, ho] at hd; cases hd
  unfold t_Program_init_1
  kfm_turns
  refine lock_in rfl hd fun od H3 m3 => ?_
  kfm_turns
  have frd : ∀ {p xs}, H p = some (.tup xs) → p ≠ d := fun h z => by rw [z, hd] at h; cases h
  have hn' : (kvs.map (·.1)).Nodup := by
    rw [hR.keys, ← hP.names]
    exact List.pairwise_map.mpr (List.Pairwise.imp (fun h e => h (Sum.inr.inj e)) hn)
  refine dcK_by m3.at (fun D i acc H' => Keep d H H' ∧ H' d = some (.frz od (.dK kvs)) ∧ H D = none ∧ H' D = some (.dK acc) ∧ acc.length = i ∧ ∀ (k : Nat) z b, k < i → P[k]? = some (z, b) → ∃ p xs, acc[k]? = some (.inr z, .ref p) ∧ H' p = some (.tup xs) ∧ InsAt H' xs b)
    (fun D hD => ?_) (fun D i acc H' _ _ ⟨_, h, _⟩ => h) (fun D i k v acc H' Nx hD hk ⟨k1, hd1, fD, eD, la, inv⟩ hN => ?_) fun D acc H' hD ⟨k1, hd1, fD, eD, la, inv⟩ => ?_
  · have nDd : D ≠ d := fun z => by rw [z, m3.at] at hD; cases hD
    refine ⟨fun b h1 h2 => ?_, ?_, ?_, upd_same, rfl, fun k z b h => absurd h (by omega)⟩
    · rw [upd_ne (fun z => by rw [z, ← m3.off nDd, hD] at h2; exact h2 rfl), m3.off h1]
    · rw [upd_ne (Ne.symm nDd)]; exact m3.at
    · rw [← m3.off nDd]; exact hD
  · have hi : i < R.length := by rw [← hR.1]; exact (List.getElem?_eq_some_iff.mp hk).1
    obtain ⟨⟨z, xs⟩, hr⟩ : ∃ p, R[i]? = some p := ⟨_, List.getElem?_eq_getElem hi⟩
    obtain ⟨p, h1, h2⟩ := hR.2 i z xs hr
    obtain ⟨b, hb1, hb2⟩ := hP.2 i z xs hr
    rw [hk] at h1
    cases h1
    have nDd : D ≠ d := fun z => by rw [z, hd1] at eD; cases eD
    have npd : p ≠ d := fun z => by rcases h2 with h | h <;> rw [z, hd] at h <;> cases h
    have b2 : H' p = some (.lst xs) ∨ H' p = some (.tup xs) := h2.imp (k1.at npd) (k1.at npd)
    show gName 3 (.str z) _ _ _
    kfm_turns
    refine OK.by (valV_at hn' hk) ?_
    kfm_turns
    refine AlC.by b2 fun p2 H2 e2 s2 => ?_
    have k2 : Keep d H H2 := k1.same2 s2
    have tk : ∀ q o, H q = some (.tup o) → H2 q = some (.tup o) := fun q o e => k2.at (frd e) e
    have nk : (Sum.inr z : Key) ∉ acc.map (·.1) := fun h => by
      obtain ⟨⟨y, v⟩, h3, h4⟩ := List.mem_map.mp h
      obtain ⟨m, hm, h5⟩ := List.mem_iff_getElem.mp h3
      obtain ⟨⟨c, bc⟩, hc2⟩ : ∃ q, P[m]? = some q := ⟨_, List.getElem?_eq_getElem (by rw [← hP.1]; omega)⟩
      obtain ⟨p6, x6, h6, _⟩ := inv m c bc (by omega) hc2
      rw [List.getElem?_eq_getElem hm, h5] at h6
      cases h6
      have h7 : (names P)[m]? = some z := by
        unfold names
        rw [List.getElem?_map, hc2]
        exact congrArg some (Sum.inr.inj h4)
      have h8 : (names P)[i]? = some z := by
        unfold names
        rw [List.getElem?_map, hb1]
        rfl
      have := (List.getElem?_inj (by rw [show (names P).length = P.length from List.length_map .., ← hP.1]; omega) hn).mp (h7.trans h8.symm)
      omega
    refine ⟨acc, .inr z, rfl, s2 _ _ eD, ?_, hN (acc ++ [(.inr z, .ref p2)]) _ ⟨?_, ?_, fD, ?_, by rw [List.length_append, la]; rfl, fun m c bc hm hc2 => ?_⟩⟩
    · rw [la]
      have : R.length ≤ 60 := by rw [hP.1]; exact hl
      show i < 16777216
      omega
    · exact Keep.mod k2 (Mod.mk rfl) fD
    · rw [upd_ne (Ne.symm nDd)]
      exact s2 _ _ hd1
    · rw [upd_same, putK_new nk]
    · have tD : ∀ q o, H2 q = some (.tup o) → upd H2 D (.dK (putK acc (.inr z) (.ref p2))) q = some (.tup o) := fun q o e => by
        rw [upd_ne (fun z => by rw [z, s2 _ _ eD] at e; cases e)]
        exact e
      rcases Nat.lt_or_eq_of_le (Nat.le_of_lt_succ hm) with h | h
      · obtain ⟨p6, x6, h6, h7, h8⟩ := inv m c bc h hc2
        exact ⟨p6, x6, by rw [List.getElem?_append_left (by omega)]; exact h6, tD _ _ (s2 _ _ h7), (h8.kl fun q o e => s2 _ _ e).kl tD⟩
      · subst h
        rw [hb1] at hc2
        cases hc2
        exact ⟨p2, xs, by rw [List.getElem?_append_right (by omega), la, Nat.sub_self]; rfl, tD _ _ e2, (hb2.kl tk).kl tD⟩
  · kfm_turns
    refine Md.by fun H5 m5 => ?_
    have nDo : D ≠ o := fun z => by rw [z, ho] at fD; cases fD
    have nDd : D ≠ d := fun z => by rw [z, hd1] at eD; cases eD
    refine lock_nx (by rw [m5.off nod]; exact hd1) fun H6 m6 => ?_
    have hd6 : H6 D = some (.dK acc) := by rw [m6.off nDd, m5.off nDo]; exact eD
    have ho6 : H6 o = some (.ins (cPr K) dx [("bodies", .ref D)]) := by rw [m6.off (Ne.symm nod)]; exact m5.at
    have s6 : SameX o H H6 := fun b u h e => by
      by_cases z : b = d
      · subst z
        rw [hd] at e
        cases e
        exact m6.at
      · rw [m6.off z, m5.off h, k1 b z (by rw [e]; simp)]
        exact e
    have hlen : kvs.length = P.length := by rw [hR.1, hP.1]
    have dp : DictP H6 acc P := ⟨by rw [la, hlen], fun k z b hz => by
      obtain ⟨p, xs, h1, h2, h3⟩ := inv k z b (by rw [hlen]; exact (List.getElem?_eq_some_iff.mp hz).1) hz
      have t6 : ∀ q o, H' q = some (.tup o) → H6 q = some (.tup o) := fun q o' e => by
        rw [m6.off (fun z => by rw [z, hd1] at e; cases e), m5.off (fun z => by rw [z, k1.at (Ne.symm nod) ho] at e; cases e)]
        exact e
      exact ⟨p, xs, h1, t6 _ _ h2, h3.kl t6⟩⟩
    kfm_turns
    refine Call.by ⟨D, acc, P, rfl, hd6, dp, hn, by omega, fun z b h => Nat.le_trans (hb z b h) (by decide), hc, fun r hr dd t H7 h1 h2 h3 s7 => ?_, fun ord ht L H7 hL eL s7 => ?_⟩
    · exact q1 r hr dd t H7 (s6.no h1 fun z => by rw [z, ho6] at h1; cases h1) h2 h3 (s6.same s7)
    · have s67 : SameX o H H7 := s6.same s7
      kpt_turns
      rename_i pt H8 n8 H9 m9
      have hd9 : H9 D = some (.dK acc) := by rw [m9.off nDo]; exact n8.old (s7 _ _ hd6)
      have k7 : (names P).length = P.length := List.length_map ..
      refine srtD hd9 dp.keys (by omega) fun ys py H10 pm so n10 => ?_
      kpt_turns
      rename_i pz H11 n11 H12 m12
      have nto : pt ≠ o := fun z => by rw [z] at n8; have := n8.fr; rw [s7 _ _ ho6] at this; cases this
      have nzo : pz ≠ o := fun z => by rw [z] at n11; have := n11.fr; rw [n10.old m9.at] at this; cases this
      have e6 : ∀ b u, b ≠ o → H6 b = some u → H12 b = some u := fun b u h e => m12.old h (n11.old (n10.old (m9.old h (n8.old (s7 _ _ e)))))
      have s12 : SameX o H H12 := fun b u h e => e6 b u h (s6 b u h e)
      have t12 : ∀ q o', H6 q = some (.tup o') → H12 q = some (.tup o') := fun q o' e => e6 _ _ (fun z => by rw [z, ho6] at e; cases e) e
      refine q2 ord ys H12 ht pm so ⟨o, dx, D, pt, pz, acc, rfl, m12.at, e6 _ _ nDo hd6, dp.kl t12, m12.old nto (n11.old (n10.old (m9.old nto n8.at))), m12.old nzo n11.at⟩ s12
end Pg
end U
end

section
namespace U
open PySem PySem.Spec PyProof.Rows L2
local macro_rules | `(tactic| tb_start) => `(tactic| first
  | assumption
  | (refine Ne.symm ?_; assumption)
  | ((with_reducible apply New.ne); (focus assumption); (focus tb_rel); done)
  | (refine Ne.symm ?_; (with_reducible apply New.ne); (focus assumption); (focus tb_rel); done)
  | ((with_reducible apply neN); (focus assumption); (focus tb_rel); done)
  | (refine Ne.symm ?_; (with_reducible apply neN); (focus assumption); (focus tb_rel); done)
  | ((with_reducible apply DrawsOk.neN); (focus assumption); (focus kct_strs); done)
  | ((with_reducible apply DrawsOk.neLN); (focus assumption); (focus kct_strs); done)
  | ((with_reducible apply DrawsOk.ne'); (focus assumption); (focus kct_strs); done)
  | ((with_reducible apply DrawsOk.neL'); (focus assumption); (focus kct_strs); done)
  | ((with_reducible apply DrawsOk.other'); (focus assumption); (focus tb_rel); (focus rfl); done)
  | ((with_reducible apply DrawsOk.otherL); (focus assumption); (focus tb_rel); (focus rfl); done)
  | ((with_reducible apply ne_kd); (focus assumption); (focus tb_rel); (focus (intro h; cases h; done)); done))
local macro_rules | `(tactic| tb_rel) => `(tactic| first
  | assumption
  | exact New.at (by assumption)
  | exact Mod.at (by assumption)
  | ((with_reducible apply New.old); (focus assumption); tb_rel)
  | ((with_reducible apply Mod.lk); (focus assumption); (focus tb_rel); focus tb_start)
  | ((with_reducible apply Keep.lk); (focus assumption); (focus tb_rel); focus tb_start)
  | ((with_reducible apply Same.at); (focus assumption); tb_rel))
local macro_rules | `(tactic| kct_strs) => `(tactic| first
  | assumption
  | (refine New.draws (by assumption) ?_; kct_strs)
  | (refine DrawsOk.same ?_ (by assumption); kct_strs)
  | (refine Mod.draws (by assumption) ?_ ?_ ?_; (kct_strs); (focus tb_start); focus tb_start))
local macro_rules | `(tactic| k_updF) => `(tactic| first
  | assumption
  | exact L2.Same.refl _
  | (refine Same.new ?_ (by assumption); k_updF)
  | (refine L2.Same.trans ?_ (by assumption); k_updF)
  | (refine Same.mod ?_ (by assumption) ?_; (k_updF); lcg_sub))
local macro_rules | `(tactic| k_memK) => `(tactic| first
  | assumption
  | exact Keep.refl _ _
  | (refine Keep.new' ?_ (by assumption); k_memK)
  | (refine Keep.trans ?_ (by assumption); k_memK)
  | (refine Keep.trans ?_ (Keep.same' (by assumption)); k_memK)
  | (refine Keep.modd ?_ (by assumption); k_memK)
  | (refine Keep.mod ?_ (by assumption) ?_; (k_memK); lcg_sub))
local macro_rules | `(tactic| lcg_sub) => `(tactic| first
  | assumption
  | exact New.fr (by assumption)
  | (refine Same.none ?_ (New.fr (by assumption)); k_updF)
  | (refine Keep.fresh (D := ?_) ?_ ?_ ?_ (New.fr (by assumption)); rotate_left; (k_memK); (kct_strs); (kct_strs)))
local macro_rules | `(tactic| k_upd) => `(tactic| first
  | assumption
  | exact Kl.refl _
  | (refine Kl.trans ?_ (New.kl (by assumption)); k_upd)
  | (refine Kl.trans ?_ (Same.kl (by assumption)); k_upd)
  | (refine Kl.trans ?_ (Mod.kl (by assumption) (by tb_rel)); k_upd)
  | (refine Kl.trans ?_ (Keep.kl (by assumption) (by kct_strs)); k_upd)
  | (refine Kl.trans ?_ (by assumption); k_upd))
local macro_rules | `(tactic| kst_all1) => `(tactic| first
  | assumption | omega | (with_reducible rfl)
  | (simp only [List.length_append, List.length_map, List.length_set, List.length_take, List.length_drop, List.length_cons, List.length_nil, List.length_replicate]; omega)
  | (refine ⟨?_, ?_⟩ <;> kst_all1)
  | decide)
local macro_rules | `(tactic| k_allIn) => `(tactic| first
  | ((with_reducible apply OKl); (focus tb_rel))
  | ((with_reducible apply OKd); (focus tb_rel))
  | ((with_reducible apply OKdf); (focus tb_rel))
  | ((with_reducible apply OKd1); (focus tb_rel))
  | ((with_reducible apply OKt); (focus tb_rel))
  | ((with_reducible apply OKql); (focus tb_rel))
  | ((with_reducible apply OKqt); (focus tb_rel))
  | ((with_reducible apply OKnl); (focus tb_rel))
  | ((with_reducible apply OKnt); (focus tb_rel))
  | ((with_reducible apply OKnd); (focus tb_rel))
  | ((with_reducible apply OKyl); (focus tb_rel))
  | ((with_reducible apply OKyt); (focus tb_rel))
  | ((with_reducible apply OKyd); (focus tb_rel))
  | ((with_reducible apply OKbl); (focus tb_rel))
  | ((with_reducible apply OKbt); (focus tb_rel))
  | ((with_reducible apply OKbd); (focus tb_rel))
  | ((with_reducible apply OKi); (focus tb_rel))
  | ((with_reducible apply OKj); (focus tb_rel))
  | ((with_reducible apply OKr); (focus tb_rel))
  | ((with_reducible apply OKrt); (focus tb_rel))
  | ((with_reducible apply OKrl); (focus tb_rel))
  | ((with_reducible apply OKsl); (focus tb_rel))
  | ((with_reducible apply OKst); (focus tb_rel))
  | ((with_reducible apply AlS_l); (focus tb_rel))
  | ((with_reducible apply AlS_t); (focus tb_rel))
  | ((with_reducible apply AlC_l); (focus tb_rel))
  | ((with_reducible apply AlC_t); (focus tb_rel))
  | ((with_reducible apply OKn); (focus kst_all1); intro v h)
  | ((with_reducible apply OKl1); (focus kst_all1); intro v h)
  | ((with_reducible apply OKl2); (focus kst_all1); intro v h)
  | ((with_reducible apply OKlk); (focus kst_all1); intro v h)
  | ((with_reducible apply OKln); (focus kst_all1); intro v h)
  | ((with_reducible apply OKg); (focus kst_all1); intro v h)
  | ((with_reducible apply OKxn); (focus kst_all1))
  | ((with_reducible apply OKsi); (focus kst_all1))
  | ((with_reducible apply OKsm); (focus kst_all1))
  | ((with_reducible refine OKa ?_ ?_ ?_); (focus kst_all1); (focus kst_all1); intro j v e h))
local macro_rules | `(tactic| kfm_turns) => `(tactic| repeat first
  | kpc_turns
  | k_allIn
  | l_intsW
  | ((with_reducible apply CdL); (focus tb_rel))
  | ((with_reducible refine Cd.by ?_ ?_); (focus kst_all1))
  | ((with_reducible refine Br.yes ?_ ?_); (focus (first | assumption | omega)))
  | ((with_reducible refine Br.no ?_ ?_); (focus (first | assumption | omega))))
local macro_rules | `(tactic| kpt_turns) => `(tactic| repeat first
  | kpc_turns
  | k_allIn
  | l_intsW
  | (with_reducible refine Al.by fun p H' n => ?_)
  | (with_reducible refine Md.by fun H' m => ?_)
  | ((with_reducible apply CdL); (focus tb_rel))
  | ((with_reducible refine Cd.by ?_ ?_); (focus kst_all1))
  | ((with_reducible refine Br.yes ?_ ?_); (focus (first | assumption | omega)))
  | ((with_reducible refine Br.no ?_ ?_); (focus (first | assumption | omega))))
local macro_rules | `(tactic| nest_cls) => `(tactic| repeat' first
  | kpc_turns
  | k_allIn
  | l_intsW
  | (with_reducible refine Al.by fun p H' n => ?_)
  | (with_reducible refine Md.by fun H' m => ?_)
  | ((with_reducible apply CdL); (focus tb_rel))
  | ((with_reducible refine Cd.by ?_ ?_); (focus kst_all1))
  | ((with_reducible refine Br.yes ?_ ?_); (focus (first | assumption | omega)))
  | ((with_reducible refine Br.no ?_ ?_); (focus (first | assumption | omega)))
  | (with_reducible refine Br.by (fun h => ?_) fun h => ?_))
local macro_rules | `(tactic| kpc_turns) => `(tactic| simp (config := {maxSteps := 4000000}) only [↓r_divm, ↓r_min, ↓r_max, ↓r_abs, ↓r_strI, ↓r_intT, ↓aM_zf, ↓aM_ls, ↓aM_rs, ↓aM_spl, ↓r_mulX, ↓r_rev, ↓r_revR, tyS, ↓un_nx, ↓in_some, ↓in_none, ↓r_cd, ↓aM_pop, ↓aM_popAt, ↓r_tryL, ↓r_fld, ↓r_setF, ↓aSF_ref, ↓r_isO, ↓r_eqO, ↓r_eqN, ↓r_neN, ↓r_gsq, ↓aGs_eq, ↓r_gcons, ↓r_gnil, ↓r_isB, ↓r_bm1, ↓r_bm0, ↓aM_app, ↓r_callX, ↓r_raise0, ↓r_tryAs, ↓r_tryOnly, ↓r_seq, ↓r_ifS, ↓r_or, ↓r_and, ↓r_not, ↓r_next, ↓r_ret, ↓r_retN, ↓r_brk, ↓r_cnt, ↓r_drop, ↓r_asg, ↓r_test, ↓r_yes, ↓r_c, ↓r_nil, ↓r_cons, ↓r_var0, ↓r_varS, ↓r_name0, ↓r_nameS, ↓r_op, ↓r_un, ↓r_rU, ↓r_chain, ↓r_andV, ↓r_orV, ↓r_notV, ↓r_call, ↓r_cb, ↓r_tup, ↓r_lst, ↓r_sl, ↓r_noPart, ↓r_part, ↓r_gsub, ↓kB_a, ↓aB_bl, ↓kI_a, ↓aI_int, ↓OK_some, ↓Br_true, ↓Br_false, ↓Cd_true, ↓r_addI, ↓r_addS, ↓r_addUI, ↓r_addUS, ↓r_addL, ↓AlT_cc, ↓AlT_nil, ↓AlT_cnil, ↓r_addT, ↓r_sub, ↓r_mul, ↓r_div, ↓r_mod, ↓r_pow, ↓r_lt, ↓r_le, ↓r_gt, ↓r_ge, ↓r_eq, ↓r_ne, ↓r_isN, ↓r_notN, ↓r_inS, ↓r_ninS, ↓r_in, ↓r_nin, ↓r_inG, ↓r_ninG, ↓r_ixS, ↓r_ix, ↓r_set, ↓r_slS, ↓AlS_lst, ↓AlS_tup, ↓r_slR, ↓r_lenS, ↓r_lenR, ↓r_listU, ↓AlC_lst, ↓AlC_tup, ↓r_tupleU, ↓r_int, ↓r_isi, ↓r_tru, ↓r_truN, ↓r_truB, ↓r_truI, ↓r_truS, ↓r_truR, ↓aL_ref, ↓a1_int, ↓a2_int, ↓r_for1, ↓r_for2, ↓r_for, ↓r_lc, ↓r_lc1, ↓r_lc2,
  OK_some, Br_true, Br_false, Br_not, Cd_true, aB_bl, aI_int, r_rU, r_addI, r_addS, r_sub, r_mul, r_div, r_mod, r_pow, r_lt, r_le, r_gt, r_ge, r_ixS, r_ix, r_set, r_lenS, r_int, r_truN, r_truB, r_truI, r_truS, r_truR, AlT_cc, AlT_nil, AlT_cnil, AlS_lst, AlS_tup, AlC_lst, AlC_tup, a1_int, a2_int, lstO_lst, tupO_tup, seqO_eq, seqO_lst, seqO_tup, lenO_lst, lenO_tup, lenO_dK, e_tyR, tyO_t, e_ty, e_tyn, truO_lst, truO_tup, truO_dK, isa_tab, scal_tab, flat_tab, eqV_t, inV_cons, inV_nil, szl, cmul_l, cpow_l, atI_0, atI_1, atI_2, atI_3, ixN_lit, Option.some.injEq, List.length_cons, List.length_nil, List.length_append, List.length_map, Nat.zero_add, Nat.reduceAdd, natc, Int.reduceLE, Int.reduceLT, Int.reduceEq, Int.reduceSub, Int.reduceAdd, Int.reduceNeg, Int.reduceMul, Int.reducePow, Int.reduceToNat, Nat.reduceLeDiff, Nat.reduceLT, Nat.reduceEqDiff, decide_eq_true_eq, decide_eq_false_iff_not, decide_true, decide_false, Bool.not_eq_true', Bool.not_eq_false', Bool.not_true, Bool.not_false, Bool.not_not, Bool.or_eq_true, Bool.and_eq_true, Bool.or_false, Bool.false_or, Bool.or_true, Bool.true_or, Bool.and_true, Bool.true_and, Bool.and_false, Bool.false_and, Bool.and_self, List.all_cons, List.all_nil, ofs_inj, String.reduceEq, List.cons.injEq, and_true, true_and, and_self, or_true, true_or, or_false, false_or, V.ty.injEq, V.bl.injEq, V.int.injEq, V.str.injEq, V.ref.injEq, List.nil_append, List.append_nil, List.cons_append, List.getElem?_cons_zero, List.getElem?_cons_succ, List.set_cons_zero, List.set_cons_succ, exists_eq_left', exists_eq_left, exists_eq, Bool.false_eq_true, Bool.true_eq_false, reduceCtorEq, not_true_eq_false, not_false_eq_true, eq_self, List.isEmpty_cons, List.isEmpty_nil, wipe, insO_ins, insD_ins, isO_tab, isO_ref, isR_tab, snO_tab, lk_tab, putF_nil, putF_tab, isLs_lst, tyL, m1_self, cutV_1, cutV_to1, Int.zero_add, ↓r_raiseO, ↓r_forEn, ↓r_forK, ↓r_ixD, ↓r_inK, ↓r_ninK, ↓r_setK, ↓r_dnew, ↓aDG_ref, ↓aDG2_ref, ↓r_dget2, ↓r_metX, ↓r_met, ↓aMt_ref, ↓r_prop, ↓aPr_ref, ↓aM_ins, ↓r_dcK, ↓r_for3u, ↓a3_int, keyO_t, reduceIte])

namespace Pg
def unkI (ns : List Str) (i : In) : Bool := match i.named with
  | some y => !decide (y ∈ ns)
  | none => false
def unkB (ns : List Str) (b : List In) : Option Nat := b.findIdx? (unkI ns)
def unkErr (ns : List Str) (P : Prog) : Option (Str × Nat) := P.findSome? fun zb => (unkB ns zb.2).map fun j => (zb.1, j)
theorem unkB_none {ns : List Str} {b : List In} (h : ∀ i ∈ b, unkI ns i = false) : unkB ns b = none := by
  unfold unkB
  rw [List.findIdx?_eq_none_iff]
  exact h
theorem unk_none {ns : List Str} {P : Prog} (h : ∀ z b, (z, b) ∈ P → ∀ i ∈ b, unkI ns i = false) : unkErr ns P = none := by
  unfold unkErr
  rw [List.findSome?_eq_none_iff]
  intro zb hz
  rw [unkB_none (h zb.1 zb.2 hz)]
  rfl
theorem unk_some {ns : List Str} {P : Prog} {k j : Nat} {z : Str} {b : List In} (hk : P[k]? = some (z, b)) (hj : unkB ns b = some j) (h : ∀ (m : Nat) y c, m < k → P[m]? = some (y, c) → unkB ns c = none) : unkErr ns P = some (z, j) := by
  unfold unkErr
  obtain ⟨hl, e⟩ := List.getElem?_eq_some_iff.mp hk
  have e2 : P = P.take k ++ (z, b) :: P.drop (k + 1) := by
    rw [← e, ← List.drop_eq_getElem_cons hl, List.take_append_drop]
  rw [e2, List.findSome?_append, List.findSome?_cons]
  have e3 : (P.take k).findSome? (fun zb => (unkB ns zb.2).map fun j => (zb.1, j)) = none := by
    rw [List.findSome?_eq_none_iff]
    intro zb hz
    obtain ⟨m, hm, e4⟩ := List.mem_iff_getElem.mp hz
    rw [List.length_take] at hm
    rw [List.getElem_take] at e4
    rw [h m zb.1 zb.2 (by omega) (by rw [List.getElem?_eq_getElem (by omega), e4])]
    rfl
  rw [e3, hj]
  rfl
theorem calls_of {P : Prog} (h : unkErr (names P) P = none) : ∀ a b, Calls P a b → b ∈ names P := fun a b ⟨c, h1, h2⟩ => by
  obtain ⟨i, hi, e⟩ := callees_mem.mp h2
  unfold unkErr at h
  rw [List.findSome?_eq_none_iff] at h
  have := h (a, c) h1
  rw [Option.map_eq_none_iff] at this
  have := List.findIdx?_eq_none_iff.mp this i hi
  unfold unkI at this
  rw [e] at this
  simpa using this
abbrev cNM (K : PySem.W.Frag) : Addr := He.ga K (Str.ofString "NoMain")
abbrev cUR (K : PySem.W.Frag) : Addr := He.ga K (Str.ofString "UnknownRoutine")
theorem mid_init {K : PySem.W.Frag} (fpg : Fpg K) {o dx d : Addr} {kvs : List (Key × V)} {R : Raw} {P : Prog} {H : Hp} {Q : VK} {E : XK} {y2 y3 y4 : Option V} (ho : H o = some (.ins (cPr K) dx [])) (hd : H d = some (.dK kvs)) (hR : RawP H kvs R) (hP : Deco H R P) (hn : (names P).Nodup) (hl : P.length ≤ 60) (hb : ∀ z b, (z, b) ∈ P → b.length ≤ 60)
    (q1 : Str.ofString "main" ∉ names P → E (.ref (cNM K)) none H)
    (q2 : Str.ofString "main" ∈ names P → ∀ z j, unkErr (names P) P = some (z, j) → ∀ dd H', H dd = none → H' dd = some (.xd [("index", .int (j : Nat)), ("name", .str z)]) → SameX o H H' → E (.ref (cUR K)) (some dd) H')
    (q3 : Str.ofString "main" ∈ names P → unkErr (names P) P = none → ∀ r, IsRing P r → ∀ dd t H', H dd = none → H' dd = some (.xd [("ring", .ref t)]) → H' t = some (.tup (r.map V.str)) → SameX o H H' → E (.ref (He.ga K "Recursion")) (some dd) H')
    (q4 : Str.ofString "main" ∈ names P → unkErr (names P) P = none → ∀ ord srt H', Topo P ord → srt.Perm (names P) → sortedS srt = true → IsPr K H' (.ref o) P ord srt → SameX o H H' → Q .non H') :
    t_Program_init_2 K (cPr K) (cNM K) (cUR K) E { nx := fun _ H' => Q .non H', rt := Q } [some (.ref o), some (.ref d), y2, y3, y4] H := by
  have nod : d ≠ o := fun z => by rw [z, ho] at hd; cases hd
  obtain ⟨_, ⟨e1, e2, e3⟩, _⟩ := fpg
  have hk : kvs.map (·.1) = (names P).map Sum.inr := by rw [hR.keys, hP.names]
  have has : ∀ z, (valV kvs (.inr z)).isSome = decide (z ∈ names P) := fun z => by
    rw [Bool.eq_iff_iff, valV_mem, hk, decide_eq_true_eq, List.mem_map]
    exact ⟨fun ⟨y, h1, h2⟩ => Sum.inr.inj h2 ▸ h1, fun h => ⟨z, h, rfl⟩⟩
  have hn' : (kvs.map (·.1)).Nodup := by
    rw [hk]
    exact List.pairwise_map.mpr (List.Pairwise.imp (fun h e => h (Sum.inr.inj e)) hn)
  unfold t_Program_init_2
  kfm_turns
  rw [has]
  refine Br.by (fun hm => ?_) fun hm => ?_
  · kfm_turns
    exact q1 (of_decide_eq_false (by simpa using hm))
  have hm : Str.ofString "main" ∈ names P := by simpa using hm
  kfm_turns
  refine lock_in rfl hd fun od H3 m3 => ?_
  kfm_turns
  refine keyK m3.at (fun i σ H' => (∃ (y2 y3 y4 : Option V), σ = [some (.ref o), some (.ref d), y2, y3, y4]) ∧ Keep d H H' ∧ H' d = some (.frz od (.dK kvs)) ∧ ∀ (k : Nat) z b, k < i → P[k]? = some (z, b) → unkB (names P) b = none)
    ⟨⟨_, _, _, rfl⟩, Keep.lock m3, m3.at, fun k z b h => absurd h (by omega)⟩ (fun i σ H' _ ⟨_, _, h, _⟩ => h) (fun i k v σ H4 hki ⟨⟨y2, y3, y4, e⟩, k4, hd4, fine⟩ => ?_) fun σ H4 ⟨⟨y2, y3, y4, e⟩, k4, hd4, fine⟩ => ?_
  · subst e
    have hi : i < R.length := by rw [← hR.1]; exact (List.getElem?_eq_some_iff.mp hki).1
    obtain ⟨⟨z, xs⟩, hr⟩ : ∃ p, R[i]? = some p := ⟨_, List.getElem?_eq_getElem hi⟩
    obtain ⟨p, h1, h2⟩ := hR.2 i z xs hr
    obtain ⟨b, hb1, hb2⟩ := hP.2 i z xs hr
    rw [hki] at h1
    cases h1
    have npd : p ≠ d := fun z => by rcases h2 with h | h <;> rw [z, hd] at h <;> cases h
    have frd : ∀ {p xs}, H p = some (.tup xs) → p ≠ d := fun h z => by rw [z, hd] at h; cases h
    show gName 3 (.str z) _ _ _
    kfm_turns
    refine OK.by (valV_at hn' hki) ?_
    kfm_turns
    refine enuB (h2.imp (k4.at npd) (k4.at npd)) (fun j σ H' => (∃ (y2 y4 : Option V), σ = [some (.ref o), some (.ref d), y2, some (.str z), y4]) ∧ Keep d H H' ∧ H' d = some (.frz od (.dK kvs)) ∧ ∀ (k : Nat) i, k < j → b[k]? = some i → unkI (names P) i = false)
      ⟨⟨_, _, rfl⟩, k4, hd4, fun k i h => absurd h (by omega)⟩ (fun j σ H' _ ⟨_, h, _⟩ => ?_) (fun j x σ H5 T H6 hxj ⟨⟨y2, y4, e⟩, k5, hd5, fine2⟩ n6 => ?_) fun σ H5 ⟨⟨y2, y4, e⟩, k5, hd5, fine2⟩ => ?_
    · rw [h p npd (fun e => by rcases h2 with h | h <;> rw [e] at h <;> cases h), k4 p npd (fun e => by rcases h2 with h | h <;> rw [e] at h <;> cases h)]
    · subst e
      obtain ⟨ii, r, hbi, rfl, hr6⟩ := hb2.at hxj
      have k6 : Keep d H H6 := k5.new' n6
      have hr6' := k6.at (frd hr6) hr6
      have hd6 := n6.old hd5
      have fst : ∀ (u : Bool), u = unkI (names P) ii → u = true → unkB (names P) b = some j := fun u hu ht => by
        unfold unkB
        rw [List.findIdx?_eq_some_iff_getElem]
        obtain ⟨hj, ej⟩ := List.getElem?_eq_some_iff.mp hbi
        refine ⟨hj, by rw [ej, ← hu, ht], fun k hk => ?_⟩
        rw [fine2 k _ hk (List.getElem?_eq_getElem (by omega))]
        decide
      have nxt : unkI (names P) ii = false → ∀ (k : Nat) i, k < j + 1 → b[k]? = some i → unkI (names P) i = false := fun hu k i hk hi => by
        rcases Nat.lt_or_eq_of_le (Nat.le_of_lt_succ hk) with h | h
        · exact fine2 k i h hi
        · subst h
          rw [hbi] at hi
          cases hi
          exact hu
      show gSq 2 _ _ _ _ _
      kfm_turns
      refine Call.by ⟨r, ii, rfl, hr6', ?_⟩
      cases en : ii.named with
      | none =>
        unfold nmV
        kfm_turns
        exact ⟨⟨_, _, rfl, rfl⟩, k6, hd6, nxt (by unfold unkI; rw [en])⟩
      | some y =>
        unfold nmV
        kfm_turns
        refine Call.by ⟨r, ii, rfl, hr6', ?_⟩
        rw [en]
        unfold nmV
        kfm_turns
        rw [has]
        have hu : unkI (names P) ii = !decide (y ∈ names P) := by unfold unkI; rw [en]
        refine Br.by (fun hy => ?_) fun hy => ?_
        · kfm_turns
          refine rz2 e1 e2 e3 fun dd H7 hdd ed s7 => ?_
          refine lock_w (s7 _ _ hd6) fun H8 m8 => ?_
          have ndd : dd ≠ d := fun z => by rw [z, hd6] at hdd; cases hdd
          refine q2 hm z j (unk_some hb1 (fst true (by rw [hu, hy]; rfl) rfl) fine) dd H8 (Keep.no k6 hdd ndd) (by rw [m8.off ndd]; exact ed) (.of (Same.unlock hd (k6.same2 s7) m8))
        · kfm_turns
          exact ⟨⟨_, _, rfl, rfl⟩, k6, hd6, nxt (by rw [hu]; simpa using hy)⟩
    · subst e
      kfm_turns
      refine ⟨⟨_, _, _, rfl, rfl, rfl⟩, k5, hd5, fun k z' b' hk hz => ?_⟩
      rcases Nat.lt_or_eq_of_le (Nat.le_of_lt_succ hk) with h | h
      · exact fine k z' b' h hz
      · subst h
        rw [hb1] at hz
        cases hz
        refine unkB_none fun i hi => ?_
        obtain ⟨j, hj, e⟩ := List.mem_iff_getElem.mp hi
        exact fine2 j i (by rw [hb2.1]; exact hj) (by rw [List.getElem?_eq_getElem hj, e])
  · subst e
    refine lock_nx hd4 fun H5 m5 => ?_
    have s5 := Same.unlock hd k4 m5
    have hu : unkErr (names P) P = none := unk_none fun z b hz i hi => by
      obtain ⟨k, hk, e⟩ := List.mem_iff_getElem.mp hz
      have := fine k z b (by rw [hR.1, hP.1]; exact hk) (by rw [List.getElem?_eq_getElem hk, e])
      exact List.findIdx?_eq_none_iff.mp this i hi
    have sx : SameX o H H5 := .of s5
    have tx : ∀ q xs, H q = some (.tup xs) → H5 q = some (.tup xs) := fun q xs e => s5 _ _ e
    exact tail_init (s5 _ _ ho) (s5 _ _ hd) (hR.x ho sx) (hP.t tx) hn hl hb (calls_of hu) (fun r hr dd t H' h1 h2 h3 h4 => q3 hm hu r hr dd t H' (Same.none s5 h1) h2 h3 fun b u nb e => h4 b u nb (s5 _ _ e))
      fun ord srt H' h1 h2 h3 h4 h5 => q4 hm hu ord srt H' h1 h2 h3 h4 fun b u nb e => h5 b u nb (s5 _ _ e)
end Pg
end U
end

section
namespace U
open PySem PySem.Spec PyProof.Rows L2
local macro_rules | `(tactic| tb_start) => `(tactic| first
  | assumption
  | (refine Ne.symm ?_; assumption)
  | ((with_reducible apply New.ne); (focus assumption); (focus tb_rel); done)
  | (refine Ne.symm ?_; (with_reducible apply New.ne); (focus assumption); (focus tb_rel); done)
  | ((with_reducible apply neN); (focus assumption); (focus tb_rel); done)
  | (refine Ne.symm ?_; (with_reducible apply neN); (focus assumption); (focus tb_rel); done)
  | ((with_reducible apply DrawsOk.neN); (focus assumption); (focus kct_strs); done)
  | ((with_reducible apply DrawsOk.neLN); (focus assumption); (focus kct_strs); done)
  | ((with_reducible apply DrawsOk.ne'); (focus assumption); (focus kct_strs); done)
  | ((with_reducible apply DrawsOk.neL'); (focus assumption); (focus kct_strs); done)
  | ((with_reducible apply DrawsOk.other'); (focus assumption); (focus tb_rel); (focus rfl); done)
  | ((with_reducible apply DrawsOk.otherL); (focus assumption); (focus tb_rel); (focus rfl); done)
  | ((with_reducible apply ne_kd); (focus assumption); (focus tb_rel); (focus (intro h; cases h; done)); done))
local macro_rules | `(tactic| tb_rel) => `(tactic| first
  | assumption
  | exact New.at (by assumption)
  | exact Mod.at (by assumption)
  | ((with_reducible apply New.old); (focus assumption); tb_rel)
  | ((with_reducible apply Mod.lk); (focus assumption); (focus tb_rel); focus tb_start)
  | ((with_reducible apply Keep.lk); (focus assumption); (focus tb_rel); focus tb_start)
  | ((with_reducible apply Same.at); (focus assumption); tb_rel))
local macro_rules | `(tactic| kct_strs) => `(tactic| first
  | assumption
  | (refine New.draws (by assumption) ?_; kct_strs)
  | (refine DrawsOk.same ?_ (by assumption); kct_strs)
  | (refine Mod.draws (by assumption) ?_ ?_ ?_; (kct_strs); (focus tb_start); focus tb_start))
local macro_rules | `(tactic| k_updF) => `(tactic| first
  | assumption
  | exact L2.Same.refl _
  | (refine Same.new ?_ (by assumption); k_updF)
  | (refine L2.Same.trans ?_ (by assumption); k_updF)
  | (refine Same.mod ?_ (by assumption) ?_; (k_updF); lcg_sub))
local macro_rules | `(tactic| k_memK) => `(tactic| first
  | assumption
  | exact Keep.refl _ _
  | (refine Keep.new' ?_ (by assumption); k_memK)
  | (refine Keep.trans ?_ (by assumption); k_memK)
  | (refine Keep.trans ?_ (Keep.same' (by assumption)); k_memK)
  | (refine Keep.modd ?_ (by assumption); k_memK)
  | (refine Keep.mod ?_ (by assumption) ?_; (k_memK); lcg_sub))
local macro_rules | `(tactic| lcg_sub) => `(tactic| first
  | assumption
  | exact New.fr (by assumption)
  | (refine Same.none ?_ (New.fr (by assumption)); k_updF)
  | (refine Keep.fresh (D := ?_) ?_ ?_ ?_ (New.fr (by assumption)); rotate_left; (k_memK); (kct_strs); (kct_strs)))
local macro_rules | `(tactic| k_upd) => `(tactic| first
  | assumption
  | exact Kl.refl _
  | (refine Kl.trans ?_ (New.kl (by assumption)); k_upd)
  | (refine Kl.trans ?_ (Same.kl (by assumption)); k_upd)
  | (refine Kl.trans ?_ (Mod.kl (by assumption) (by tb_rel)); k_upd)
  | (refine Kl.trans ?_ (Keep.kl (by assumption) (by kct_strs)); k_upd)
  | (refine Kl.trans ?_ (by assumption); k_upd))
local macro_rules | `(tactic| kst_all1) => `(tactic| first
  | assumption | omega | (with_reducible rfl)
  | (simp only [List.length_append, List.length_map, List.length_set, List.length_take, List.length_drop, List.length_cons, List.length_nil, List.length_replicate]; omega)
  | (refine ⟨?_, ?_⟩ <;> kst_all1)
  | decide)
local macro_rules | `(tactic| k_allIn) => `(tactic| first
  | ((with_reducible apply OKl); (focus tb_rel))
  | ((with_reducible apply OKd); (focus tb_rel))
  | ((with_reducible apply OKdf); (focus tb_rel))
  | ((with_reducible apply OKd1); (focus tb_rel))
  | ((with_reducible apply OKt); (focus tb_rel))
  | ((with_reducible apply OKql); (focus tb_rel))
  | ((with_reducible apply OKqt); (focus tb_rel))
  | ((with_reducible apply OKnl); (focus tb_rel))
  | ((with_reducible apply OKnt); (focus tb_rel))
  | ((with_reducible apply OKnd); (focus tb_rel))
  | ((with_reducible apply OKyl); (focus tb_rel))
  | ((with_reducible apply OKyt); (focus tb_rel))
  | ((with_reducible apply OKyd); (focus tb_rel))
  | ((with_reducible apply OKbl); (focus tb_rel))
  | ((with_reducible apply OKbt); (focus tb_rel))
  | ((with_reducible apply OKbd); (focus tb_rel))
  | ((with_reducible apply OKi); (focus tb_rel))
  | ((with_reducible apply OKj); (focus tb_rel))
  | ((with_reducible apply OKr); (focus tb_rel))
  | ((with_reducible apply OKrt); (focus tb_rel))
  | ((with_reducible apply OKrl); (focus tb_rel))
  | ((with_reducible apply OKsl); (focus tb_rel))
  | ((with_reducible apply OKst); (focus tb_rel))
  | ((with_reducible apply AlS_l); (focus tb_rel))
  | ((with_reducible apply AlS_t); (focus tb_rel))
  | ((with_reducible apply AlC_l); (focus tb_rel))
  | ((with_reducible apply AlC_t); (focus tb_rel))
  | ((with_reducible apply OKn); (focus kst_all1); intro v h)
  | ((with_reducible apply OKl1); (focus kst_all1); intro v h)
  | ((with_reducible apply OKl2); (focus kst_all1); intro v h)
  | ((with_reducible apply OKlk); (focus kst_all1); intro v h)
  | ((with_reducible apply OKln); (focus kst_all1); intro v h)
  | ((with_reducible apply OKg); (focus kst_all1); intro v h)
  | ((with_reducible apply OKxn); (focus kst_all1))
  | ((with_reducible apply OKsi); (focus kst_all1))
  | ((with_reducible apply OKsm); (focus kst_all1))
  | ((with_reducible refine OKa ?_ ?_ ?_); (focus kst_all1); (focus kst_all1); intro j v e h))
local macro_rules | `(tactic| kfm_turns) => `(tactic| repeat first
  | kpc_turns
  | k_allIn
  | l_intsW
  | ((with_reducible apply CdL); (focus tb_rel))
  | ((with_reducible refine Cd.by ?_ ?_); (focus kst_all1))
  | ((with_reducible refine Br.yes ?_ ?_); (focus (first | assumption | omega)))
  | ((with_reducible refine Br.no ?_ ?_); (focus (first | assumption | omega))))
local macro_rules | `(tactic| kpt_turns) => `(tactic| repeat first
  | kpc_turns
  | k_allIn
  | l_intsW
  | (with_reducible refine Al.by fun p H' n => ?_)
  | (with_reducible refine Md.by fun H' m => ?_)
  | ((with_reducible apply CdL); (focus tb_rel))
  | ((with_reducible refine Cd.by ?_ ?_); (focus kst_all1))
  | ((with_reducible refine Br.yes ?_ ?_); (focus (first | assumption | omega)))
  | ((with_reducible refine Br.no ?_ ?_); (focus (first | assumption | omega))))
local macro_rules | `(tactic| nest_cls) => `(tactic| repeat' first
  | kpc_turns
  | k_allIn
  | l_intsW
  | (with_reducible refine Al.by fun p H' n => ?_)
  | (with_reducible refine Md.by fun H' m => ?_)
  | ((with_reducible apply CdL); (focus tb_rel))
  | ((with_reducible refine Cd.by ?_ ?_); (focus kst_all1))
  | ((with_reducible refine Br.yes ?_ ?_); (focus (first | assumption | omega)))
  | ((with_reducible refine Br.no ?_ ?_); (focus (first | assumption | omega)))
  | (with_reducible refine Br.by (fun h => ?_) fun h => ?_))
local macro_rules | `(tactic| kpc_turns) => `(tactic| simp (config := {maxSteps := 4000000}) only [↓r_divm, ↓r_min, ↓r_max, ↓r_abs, ↓r_strI, ↓r_intT, ↓aM_zf, ↓aM_ls, ↓aM_rs, ↓aM_spl, ↓r_mulX, ↓r_rev, ↓r_revR, tyS, ↓un_nx, ↓in_some, ↓in_none, ↓r_cd, ↓aM_pop, ↓aM_popAt, ↓r_tryL, ↓r_fld, ↓r_setF, ↓aSF_ref, ↓r_isO, ↓r_eqO, ↓r_eqN, ↓r_neN, ↓r_gsq, ↓aGs_eq, ↓r_gcons, ↓r_gnil, ↓r_isB, ↓r_bm1, ↓r_bm0, ↓aM_app, ↓r_callX, ↓r_raise0, ↓r_tryAs, ↓r_tryOnly, ↓r_seq, ↓r_ifS, ↓r_or, ↓r_and, ↓r_not, ↓r_next, ↓r_ret, ↓r_retN, ↓r_brk, ↓r_cnt, ↓r_drop, ↓r_asg, ↓r_test, ↓r_yes, ↓r_c, ↓r_nil, ↓r_cons, ↓r_var0, ↓r_varS, ↓r_name0, ↓r_nameS, ↓r_op, ↓r_un, ↓r_rU, ↓r_chain, ↓r_andV, ↓r_orV, ↓r_notV, ↓r_call, ↓r_cb, ↓r_tup, ↓r_lst, ↓r_sl, ↓r_noPart, ↓r_part, ↓r_gsub, ↓kB_a, ↓aB_bl, ↓kI_a, ↓aI_int, ↓OK_some, ↓Br_true, ↓Br_false, ↓Cd_true, ↓r_addI, ↓r_addS, ↓r_addUI, ↓r_addUS, ↓r_addL, ↓AlT_cc, ↓AlT_nil, ↓AlT_cnil, ↓r_addT, ↓r_sub, ↓r_mul, ↓r_div, ↓r_mod, ↓r_pow, ↓r_lt, ↓r_le, ↓r_gt, ↓r_ge, ↓r_eq, ↓r_ne, ↓r_isN, ↓r_notN, ↓r_inS, ↓r_ninS, ↓r_in, ↓r_nin, ↓r_inG, ↓r_ninG, ↓r_ixS, ↓r_ix, ↓r_set, ↓r_slS, ↓AlS_lst, ↓AlS_tup, ↓r_slR, ↓r_lenS, ↓r_lenR, ↓r_listU, ↓AlC_lst, ↓AlC_tup, ↓r_tupleU, ↓r_int, ↓r_isi, ↓r_tru, ↓r_truN, ↓r_truB, ↓r_truI, ↓r_truS, ↓r_truR, ↓aL_ref, ↓a1_int, ↓a2_int, ↓r_for1, ↓r_for2, ↓r_for, ↓r_lc, ↓r_lc1, ↓r_lc2,
  OK_some, Br_true, Br_false, Br_not, Cd_true, aB_bl, aI_int, r_rU, r_addI, r_addS, r_sub, r_mul, r_div, r_mod, r_pow, r_lt, r_le, r_gt, r_ge, r_ixS, r_ix, r_set, r_lenS, r_int, r_truN, r_truB, r_truI, r_truS, r_truR, AlT_cc, AlT_nil, AlT_cnil, AlS_lst, AlS_tup, AlC_lst, AlC_tup, a1_int, a2_int, lstO_lst, tupO_tup, seqO_eq, seqO_lst, seqO_tup, lenO_lst, lenO_tup, lenO_dK, e_tyR, tyO_t, e_ty, e_tyn, truO_lst, truO_tup, truO_dK, isa_tab, scal_tab, flat_tab, eqV_t, inV_cons, inV_nil, szl, cmul_l, cpow_l, atI_0, atI_1, atI_2, atI_3, ixN_lit, Option.some.injEq, List.length_cons, List.length_nil, List.length_append, List.length_map, Nat.zero_add, Nat.reduceAdd, natc, Int.reduceLE, Int.reduceLT, Int.reduceEq, Int.reduceSub, Int.reduceAdd, Int.reduceNeg, Int.reduceMul, Int.reducePow, Int.reduceToNat, Nat.reduceLeDiff, Nat.reduceLT, Nat.reduceEqDiff, decide_eq_true_eq, decide_eq_false_iff_not, decide_true, decide_false, Bool.not_eq_true', Bool.not_eq_false', Bool.not_true, Bool.not_false, Bool.not_not, Bool.or_eq_true, Bool.and_eq_true, Bool.or_false, Bool.false_or, Bool.or_true, Bool.true_or, Bool.and_true, Bool.true_and, Bool.and_false, Bool.false_and, Bool.and_self, List.all_cons, List.all_nil, ofs_inj, String.reduceEq, List.cons.injEq, and_true, true_and, and_self, or_true, true_or, or_false, false_or, V.ty.injEq, V.bl.injEq, V.int.injEq, V.str.injEq, V.ref.injEq, List.nil_append, List.append_nil, List.cons_append, List.getElem?_cons_zero, List.getElem?_cons_succ, List.set_cons_zero, List.set_cons_succ, exists_eq_left', exists_eq_left, exists_eq, Bool.false_eq_true, Bool.true_eq_false, reduceCtorEq, not_true_eq_false, not_false_eq_true, eq_self, List.isEmpty_cons, List.isEmpty_nil, wipe, insO_ins, insD_ins, isO_tab, isO_ref, isR_tab, snO_tab, lk_tab, putF_nil, putF_tab, isLs_lst, tyL, m1_self, cutV_1, cutV_to1, Int.zero_add, ↓r_raiseO, ↓r_forEn, ↓r_forK, ↓r_ixD, ↓r_inK, ↓r_ninK, ↓r_setK, ↓r_dnew, ↓aDG_ref, ↓aDG2_ref, ↓r_dget2, ↓r_metX, ↓r_met, ↓aMt_ref, ↓r_prop, ↓aPr_ref, ↓aM_ins, ↓r_dcK, ↓r_for3u, ↓a3_int, keyO_t, reduceIte])

namespace Pg
abbrev cBC (K : PySem.W.Frag) : Addr := He.ga K (Str.ofString "BadCount")
abbrev cBN (K : PySem.W.Frag) : Addr := He.ga K (Str.ofString "BadName")
abbrev cBI (K : PySem.W.Frag) : Addr := He.ga K (Str.ofString "BadInstruction")
abbrev cRe (K : PySem.W.Frag) : Addr := He.ga K (Str.ofString "Recursion")
def FineR (H : Hp) (z : Str) (xs : List V) : Prop := isMarkS z = true ∧ bodyErr H xs = none
def PSpec (K : PySem.W.Frag) (H : Hp) (R : Raw) (Rel : Hp → Prop) (Q : Hp → Prog → List Str → List Str → Prop) (E : XK) : Prop :=
  ((R.length = 0 ∨ 60 < R.length) → ∀ H', Rel H' → E (.ref (cBC K)) none H') ∧ (1 ≤ R.length → R.length ≤ 60 →
    (∀ (k : Nat) z xs, R[k]? = some (z, xs) → (∀ (m : Nat) y ys, m < k → R[m]? = some (y, ys) → FineR H y ys) →
      (isMarkS z = false → ∀ dd H', H dd = none → H' dd = some (.xd [("index", .int (k : Nat))]) → Rel H' → E (.ref (cBN K)) (some dd) H') ∧
      (isMarkS z = true → ∀ j, bodyErr H xs = some j → ∀ dd H', H dd = none → H' dd = some (.xd [("index", .int (j : Nat)), ("name", .str z)]) → Rel H' → E (.ref (cBI K)) (some dd) H')) ∧
    ((∀ (k : Nat) z xs, R[k]? = some (z, xs) → FineR H z xs) → ∀ P, Deco H R P → (∀ z b i, (z, b) ∈ P → i ∈ b → i.ok) →
      (Str.ofString "main" ∉ names P → ∀ H', Rel H' → E (.ref (cNM K)) none H') ∧
      (Str.ofString "main" ∈ names P → ∀ z j, unkErr (names P) P = some (z, j) → ∀ dd H', H dd = none → H' dd = some (.xd [("index", .int (j : Nat)), ("name", .str z)]) → Rel H' → E (.ref (cUR K)) (some dd) H') ∧
      (Str.ofString "main" ∈ names P → unkErr (names P) P = none → (∀ r, IsRing P r → ∀ dd t H', H dd = none → H' dd = some (.xd [("ring", .ref t)]) → H' t = some (.tup (r.map V.str)) → Rel H' → E (.ref (cRe K)) (some dd) H') ∧
        ∀ ord srt H', PrOk P ord srt → Rel H' → Q H' P ord srt)))
def noD (H : Hp) (x : V) : Prop := tyV H x ≠ some .dict ∧ ∀ p ys, x = .ref p → H p = some (.tup ys) → ∀ y ∈ ys, tyV H y ≠ some .dict
theorem ty_keep {H H' : Hp} {d : Addr} {kvs : List (Key × V)} (hd : H d = some (.dK kvs)) (k : Keep d H H') {x : V} (h : okV H x) (n : tyV H x ≠ some .dict) : okV H' x := by
  refine ⟨?_, h.2⟩
  have h1 := h.1
  cases x with
  | ref p =>
    have hp : H p ≠ none := fun z => by rw [tyV_ref, z] at h1; cases h1
    have nd : p ≠ d := fun z => by
      apply n
      rw [tyV_ref, z, hd]
    rw [tyV_ref, k p nd hp, ← tyV_ref]
    exact h1
  | _ => exact h1
theorem okT_keep {H H' : Hp} {d : Addr} {kvs : List (Key × V)} (hd : H d = some (.dK kvs)) (k : Keep d H H') {x : V} (h : okT H x) (n : noD H x) : okT H' x ∧ isInV H' x = isInV H x := by
  cases x with
  | ref p =>
    have h1 := h.1.1
    have hp : H p ≠ none := fun z => by rw [tyV_ref, z] at h1; cases h1
    have nd : p ≠ d := fun z => by
      apply n.1
      rw [tyV_ref, z, hd]
    have e : H' p = H p := k p nd hp
    refine ⟨⟨ty_keep hd k h.1 n.1, fun q xs e1 e2 x hx => ?_⟩, ?_⟩
    · cases e1
      rw [e] at e2
      exact ty_keep hd k (h.2 p xs rfl e2 x hx) (n.2 p xs rfl e2 x hx)
    · show (match H' p with | some (.tup xs) => isInT xs | _ => false) = (match H p with | some (.tup xs) => isInT xs | _ => false)
      rw [e]
  | _ => exact ⟨⟨⟨h.1.1, h.1.2⟩, fun q xs e1 => by cases e1⟩, rfl⟩
theorem err_eq {H H' : Hp} {xs : List V} (h : ∀ x ∈ xs, isInV H' x = isInV H x) : bodyErr H' xs = bodyErr H xs := by
  unfold bodyErr
  split
  · rfl
  · have : ∀ xs : List V, (∀ x ∈ xs, isInV H' x = isInV H x) → (xs.findIdx? fun x => !isInV H' x) = xs.findIdx? fun x => !isInV H x := fun xs => by
      induction xs with
      | nil => intro _; rfl
      | cons x xs ih =>
        intro h
        rw [List.findIdx?_cons, List.findIdx?_cons, h x (List.mem_cons_self ..), ih fun y hy => h y (List.mem_cons_of_mem _ hy)]
    exact this xs h
def RawOk (H : Hp) (R : Raw) : Prop := (R.map (·.1)).Nodup ∧ R.length ≤ 1000 ∧ ∀ (k : Nat) z xs, R[k]? = some (z, xs) → z.length ≤ 1000 ∧ xs.length ≤ 1000 ∧ ∀ x ∈ xs, okT H x ∧ noD H x
def sp_Program_init (K : PySem.W.Frag) : Sp := fun vs H Q E => ∃ (o dx d : Addr) (kvs : List (Key × V)) (R : Raw), vs = [.ref o, .ref d] ∧ H o = some (.ins (cPr K) dx []) ∧ H d = some (.dK kvs) ∧ RawP H kvs R ∧ RawOk H R ∧
  PSpec K H R (SameX o H) (fun H' P ord srt => IsPr K H' (.ref o) P ord srt → Q .non H') E
theorem len_Program_init {K : PySem.W.Frag} : ∀ vs H Q E, sp_Program_init K vs H Q E → vs.length = 2 := fun _ _ _ _ ⟨_, _, _, _, _, e, _⟩ => by rw [e]; rfl
theorem deco1 {H : Hp} : ∀ xs : List V, (∀ x ∈ xs, isInV H x = true) → ∃ b, InsAt H xs b ∧ ∀ i ∈ b, i.ok
  | [], _ => ⟨[], ⟨rfl, fun k i h => by rw [List.getElem?_nil] at h; cases h⟩, fun i h => (nomatch h)⟩
  | x :: xs, h => by
    obtain ⟨b, hb, ok⟩ := deco1 xs fun y hy => h y (List.mem_cons_of_mem _ hy)
    have hx := h x (List.mem_cons_self ..)
    unfold isInV at hx
    split at hx
    · split at hx
      · rename_i q ys e
        obtain ⟨i, io, rfl⟩ := inT_enc hx
        refine ⟨i :: b, ⟨by rw [List.length_cons, List.length_cons, hb.1], fun k j hk => ?_⟩, fun j hj => ?_⟩
        · cases k with
          | zero =>
            rw [List.getElem?_cons_zero] at hk
            cases hk
            exact ⟨_, rfl, e⟩
          | succ k =>
            rw [List.getElem?_cons_succ] at hk
            exact hb.2 k j hk
        · rcases List.mem_cons.mp hj with e | hj
          · rw [e]; exact io
          · exact ok j hj
      · cases hx
    · cases hx
theorem decoR {H : Hp} : ∀ R : Raw, (∀ z xs, (z, xs) ∈ R → ∀ x ∈ xs, isInV H x = true) → ∃ P, Deco H R P ∧ ∀ z b i, (z, b) ∈ P → i ∈ b → i.ok
  | [], _ => ⟨[], ⟨rfl, fun k z xs h => by rw [List.getElem?_nil] at h; cases h⟩, fun z b i h => (nomatch h)⟩
  | (z, xs) :: R, h => by
    obtain ⟨P, hP, ok⟩ := decoR R fun y ys hy => h y ys (List.mem_cons_of_mem _ hy)
    obtain ⟨b, hb, okb⟩ := deco1 xs (h z xs (List.mem_cons_self ..))
    refine ⟨(z, b) :: P, ⟨by rw [List.length_cons, List.length_cons, hP.1], fun k y ys hk => ?_⟩, fun y c i hy hi => ?_⟩
    · cases k with
      | zero =>
        rw [List.getElem?_cons_zero] at hk
        cases hk
        exact ⟨b, rfl, hb⟩
      | succ k =>
        rw [List.getElem?_cons_succ] at hk
        exact hP.2 k y ys hk
    · rcases List.mem_cons.mp hy with e | hy
      · cases e
        exact okb i hi
      · exact ok y c i hy hi
theorem fine_in {H : Hp} {xs : List V} (h : bodyErr H xs = none) : xs.length ≤ 60 ∧ ∀ x ∈ xs, isInV H x = true := by
  unfold bodyErr at h
  split at h
  · cases h
  · rename_i hl
    rw [List.findIdx?_eq_none_iff] at h
    exact ⟨by omega, fun x hx => by simpa using h x hx⟩
theorem pure_Program_init {K : PySem.W.Frag} (fpg : Fpg K) (vs : List V) (H : Hp) (Q : VK) (E : XK) (h : sp_Program_init K vs H Q E) : t_Program_init K (cPr K) (cNM K) (cUR K) (cBC K) (cBN K) E { nx := fun _ H' => Q .non H', rt := Q } (start ["self", "routines", "index", "name", "instruction"] vs) H := by
  obtain ⟨o, dx, d, kvs, R, rfl, ho, hd, hR, ⟨hn, hl, hx⟩, c0, c1⟩ := h
  have nod : d ≠ o := fun z => by rw [z, ho] at hd; cases hd
  have lk : kvs.length = R.length := hR.1
  have fpg' := fpg
  obtain ⟨_, _, ⟨e1, e2⟩, _⟩ := fpg
  unfold t_Program_init
  show tSeq _ _ _ [some (.ref o), some (.ref d), none, none, none] H
  have hn' : (kvs.map (·.1)).Nodup := by
    rw [hR.keys]
    exact List.pairwise_map.mpr (List.Pairwise.imp (fun h e => h (Sum.inr.inj e)) hn)
  by_cases hc : 1 ≤ R.length ∧ R.length ≤ 60
  rotate_left
  · have c0 := c0 (by omega) H fun b u _ e => e
    nest_cls <;> first | exact c0 | (exfalso; omega)
  · obtain ⟨c1, c2⟩ := c1 hc.1 hc.2
    kfm_turns
    refine lock_in rfl hd fun od H3 m3 => ?_
    kfm_turns
    refine enuK m3.at (fun i σ H' => (∃ (y2 y3 y4 : Option V), σ = [some (.ref o), some (.ref d), y2, y3, y4]) ∧ Keep d H H' ∧ H' d = some (.frz od (.dK kvs)) ∧ ∀ (m : Nat) y ys, m < i → R[m]? = some (y, ys) → FineR H y ys)
      ⟨⟨_, _, _, rfl⟩, Keep.lock m3, m3.at, fun k z b h => absurd h (by omega)⟩ (fun i σ H' _ ⟨_, _, h, _⟩ => h) (fun i k v σ H4 T H5 hki ⟨⟨y2, y3, y4, e⟩, k4, hd4, fine⟩ n5 => ?_) fun σ H4 ⟨⟨y2, y3, y4, e⟩, k4, hd4, fine⟩ => ?_
    · subst e
      have hi : i < R.length := by rw [← hR.1]; exact (List.getElem?_eq_some_iff.mp hki).1
      obtain ⟨⟨z, xs⟩, hr⟩ : ∃ p, R[i]? = some p := ⟨_, List.getElem?_eq_getElem hi⟩
      obtain ⟨p, h1, h2⟩ := hR.2 i z xs hr
      obtain ⟨lz, lx, hxx⟩ := hx i z xs hr
      rw [hki] at h1
      cases h1
      obtain ⟨b1, b2⟩ := c1 i z xs hr fine
      have npd : p ≠ d := fun z => by rcases h2 with h | h <;> rw [z, hd] at h <;> cases h
      have k5 : Keep d H H5 := k4.new' n5
      have hd5 := n5.old hd4
      have n5 : New H4 T (.tup [.int (i : Int), .str z]) H5 := n5
      show gSq 2 _ _ _ _ _
      kfm_turns
      refine Call.by ⟨.str z, rfl, rfl, show z.length ≤ 16777216 by omega, ?_⟩
      rw [show isMarkV (.str z) = isMarkS z from rfl]
      kfm_turns
      refine Br.by (fun hm => ?_) fun hm => ?_
      · kfm_turns
        refine rz1 e1 e2 fun dd H7 hdd ed s7 => ?_
        refine lock_w (s7 _ _ hd5) fun H8 m8 => ?_
        have ndd : dd ≠ d := fun z => by rw [z, hd5] at hdd; cases hdd
        exact b1 hm dd H8 (Keep.no k5 hdd ndd) (by rw [m8.off ndd]; exact ed) (.of (Same.unlock hd (k5.same2 s7) m8))
      · have hm : isMarkS z = true := by simpa using hm
        kfm_turns
        refine OK.by (valV_at hn' hki) ?_
        kfm_turns
        have eqv : bodyErr H5 xs = bodyErr H xs := err_eq fun x hx => (okT_keep hd k5 (hxx x hx).1 (hxx x hx).2).2
        refine Call.by ⟨.str z, p, xs, rfl, h2.imp (k5.at npd) (k5.at npd), fun x hx => (okT_keep hd k5 (hxx x hx).1 (hxx x hx).2).1, by omega, fun j hj dd H7 hdd ed s7 => ?_, fun hj H7 s7 => ?_⟩
        · refine lock_w (s7 _ _ hd5) fun H8 m8 => ?_
          have ndd : dd ≠ d := fun z => by rw [z, hd5] at hdd; cases hdd
          exact b2 hm j (by rw [← eqv]; exact hj) dd H8 (Keep.no k5 hdd ndd) (by rw [m8.off ndd]; exact ed) (.of (Same.unlock hd (k5.same2 s7) m8))
        · kfm_turns
          refine ⟨⟨_, _, _, rfl, rfl, rfl⟩, k5.same2 s7, s7 _ _ hd5, fun m y ys hm2 hr2 => ?_⟩
          rcases Nat.lt_or_eq_of_le (Nat.le_of_lt_succ hm2) with h | h
          · exact fine m y ys h hr2
          · subst h
            rw [hr] at hr2
            cases hr2
            exact ⟨hm, by rw [← eqv]; exact hj⟩
    · subst e
      refine lock_nx hd4 fun H5 m5 => ?_
      have s5 := Same.unlock hd k4 m5
      have fine' : ∀ (k : Nat) z xs, R[k]? = some (z, xs) → FineR H z xs := fun k z xs h => fine k z xs (by rw [lk]; exact (List.getElem?_eq_some_iff.mp h).1) h
      obtain ⟨P, hP, ok⟩ := decoR R fun z xs hz => by
        obtain ⟨k, hk, e⟩ := List.mem_iff_getElem.mp hz
        exact (fine_in (fine' k z xs (by rw [List.getElem?_eq_getElem hk, e])).2).2
      have hnP : (names P).Nodup := by rw [hP.names]; exact hn
      have hbP : ∀ z b, (z, b) ∈ P → b.length ≤ 60 := fun z b hz => by
        obtain ⟨k, hk, e⟩ := List.mem_iff_getElem.mp hz
        obtain ⟨⟨y, xs⟩, hr⟩ : ∃ p, R[k]? = some p := ⟨_, List.getElem?_eq_getElem (by rw [hP.1]; exact hk)⟩
        obtain ⟨c, h1, h2⟩ := hP.2 k y xs hr
        rw [List.getElem?_eq_getElem hk, e] at h1
        cases h1
        rw [← h2.1]
        exact (fine_in (fine' k z xs hr).2).1
      have mkP : ∀ z ∈ names P, isMarkS z = true := fun z hz => by
        rw [hP.names] at hz
        obtain ⟨⟨y, xs⟩, hy, e⟩ := List.mem_map.mp hz
        obtain ⟨k, hk, e2⟩ := List.mem_iff_getElem.mp hy
        have := (fine' k y xs (by rw [List.getElem?_eq_getElem hk, e2])).1
        rw [← e]
        exact this
      obtain ⟨d1, d2, d3⟩ := c2 fine' P hP ok
      have sx : SameX o H H5 := .of s5
      have lP : P.length ≤ 60 := by rw [← hP.1]; exact hc.2
      refine mid_init fpg' (s5 _ _ ho) (s5 _ _ hd) (hR.x ho sx) (hP.t fun q xs e => s5 _ _ e) hnP lP hbP (fun hm => d1 hm H5 sx) (fun hm z j hu dd H' h1 h2 h3 => d2 hm z j hu dd H' (Same.none s5 h1) h2 fun b u nb e => h3 b u nb (s5 _ _ e))
        (fun hm hu r hr dd t H' h1 h2 h3 h4 => (d3 hm hu).1 r hr dd t H' (Same.none s5 h1) h2 h3 fun b u nb e => h4 b u nb (s5 _ _ e)) fun hm hu ord srt H' h1 h2 h3 h4 h5 => ?_
      exact (d3 hm hu).2 ord srt H' ⟨hnP, lP, hbP, ok, mkP, calls_of hu, hm, h1, h2, h3⟩ (fun b u nb e => h5 b u nb (s5 _ _ e)) h4
end Pg
end U
end

section
namespace U
open PySem PySem.Spec PyProof.Rows L2
local macro_rules | `(tactic| tb_start) => `(tactic| first
  | assumption
  | (refine Ne.symm ?_; assumption)
  | ((with_reducible apply New.ne); (focus assumption); (focus tb_rel); done)
  | (refine Ne.symm ?_; (with_reducible apply New.ne); (focus assumption); (focus tb_rel); done)
  | ((with_reducible apply neN); (focus assumption); (focus tb_rel); done)
  | (refine Ne.symm ?_; (with_reducible apply neN); (focus assumption); (focus tb_rel); done)
  | ((with_reducible apply DrawsOk.neN); (focus assumption); (focus kct_strs); done)
  | ((with_reducible apply DrawsOk.neLN); (focus assumption); (focus kct_strs); done)
  | ((with_reducible apply DrawsOk.ne'); (focus assumption); (focus kct_strs); done)
  | ((with_reducible apply DrawsOk.neL'); (focus assumption); (focus kct_strs); done)
  | ((with_reducible apply DrawsOk.other'); (focus assumption); (focus tb_rel); (focus rfl); done)
  | ((with_reducible apply DrawsOk.otherL); (focus assumption); (focus tb_rel); (focus rfl); done)
  | ((with_reducible apply ne_kd); (focus assumption); (focus tb_rel); (focus (intro h; cases h; done)); done))
local macro_rules | `(tactic| tb_rel) => `(tactic| first
  | assumption
  | exact New.at (by assumption)
  | exact Mod.at (by assumption)
  | ((with_reducible apply New.old); (focus assumption); tb_rel)
  | ((with_reducible apply Mod.lk); (focus assumption); (focus tb_rel); focus tb_start)
  | ((with_reducible apply Keep.lk); (focus assumption); (focus tb_rel); focus tb_start)
  | ((with_reducible apply Same.at); (focus assumption); tb_rel))
local macro_rules | `(tactic| kct_strs) => `(tactic| first
  | assumption
  | (refine New.draws (by assumption) ?_; kct_strs)
  | (refine DrawsOk.same ?_ (by assumption); kct_strs)
  | (refine Mod.draws (by assumption) ?_ ?_ ?_; (kct_strs); (focus tb_start); focus tb_start))
local macro_rules | `(tactic| k_updF) => `(tactic| first
  | assumption
  | exact L2.Same.refl _
  | (refine Same.new ?_ (by assumption); k_updF)
  | (refine L2.Same.trans ?_ (by assumption); k_updF)
  | (refine Same.mod ?_ (by assumption) ?_; (k_updF); lcg_sub))
local macro_rules | `(tactic| k_memK) => `(tactic| first
  | assumption
  | exact Keep.refl _ _
  | (refine Keep.new' ?_ (by assumption); k_memK)
  | (refine Keep.trans ?_ (by assumption); k_memK)
  | (refine Keep.trans ?_ (Keep.same' (by assumption)); k_memK)
  | (refine Keep.modd ?_ (by assumption); k_memK)
  | (refine Keep.mod ?_ (by assumption) ?_; (k_memK); lcg_sub))
local macro_rules | `(tactic| lcg_sub) => `(tactic| first
  | assumption
  | exact New.fr (by assumption)
  | (refine Same.none ?_ (New.fr (by assumption)); k_updF)
  | (refine Keep.fresh (D := ?_) ?_ ?_ ?_ (New.fr (by assumption)); rotate_left; (k_memK); (kct_strs); (kct_strs)))
local macro_rules | `(tactic| k_upd) => `(tactic| first
  | assumption
  | exact Kl.refl _
  | (refine Kl.trans ?_ (New.kl (by assumption)); k_upd)
  | (refine Kl.trans ?_ (Same.kl (by assumption)); k_upd)
  | (refine Kl.trans ?_ (Mod.kl (by assumption) (by tb_rel)); k_upd)
  | (refine Kl.trans ?_ (Keep.kl (by assumption) (by kct_strs)); k_upd)
  | (refine Kl.trans ?_ (by assumption); k_upd))
local macro_rules | `(tactic| kst_all1) => `(tactic| first
  | assumption | omega | (with_reducible rfl)
  | (simp only [List.length_append, List.length_map, List.length_set, List.length_take, List.length_drop, List.length_cons, List.length_nil, List.length_replicate]; omega)
  | (refine ⟨?_, ?_⟩ <;> kst_all1)
  | decide)
local macro_rules | `(tactic| k_allIn) => `(tactic| first
  | ((with_reducible apply OKl); (focus tb_rel))
  | ((with_reducible apply OKd); (focus tb_rel))
  | ((with_reducible apply OKdf); (focus tb_rel))
  | ((with_reducible apply OKd1); (focus tb_rel))
  | ((with_reducible apply OKt); (focus tb_rel))
  | ((with_reducible apply OKql); (focus tb_rel))
  | ((with_reducible apply OKqt); (focus tb_rel))
  | ((with_reducible apply OKnl); (focus tb_rel))
  | ((with_reducible apply OKnt); (focus tb_rel))
  | ((with_reducible apply OKnd); (focus tb_rel))
  | ((with_reducible apply OKyl); (focus tb_rel))
  | ((with_reducible apply OKyt); (focus tb_rel))
  | ((with_reducible apply OKyd); (focus tb_rel))
  | ((with_reducible apply OKbl); (focus tb_rel))
  | ((with_reducible apply OKbt); (focus tb_rel))
  | ((with_reducible apply OKbd); (focus tb_rel))
  | ((with_reducible apply OKi); (focus tb_rel))
  | ((with_reducible apply OKj); (focus tb_rel))
  | ((with_reducible apply OKr); (focus tb_rel))
  | ((with_reducible apply OKrt); (focus tb_rel))
  | ((with_reducible apply OKrl); (focus tb_rel))
  | ((with_reducible apply OKsl); (focus tb_rel))
  | ((with_reducible apply OKst); (focus tb_rel))
  | ((with_reducible apply AlS_l); (focus tb_rel))
  | ((with_reducible apply AlS_t); (focus tb_rel))
  | ((with_reducible apply AlC_l); (focus tb_rel))
  | ((with_reducible apply AlC_t); (focus tb_rel))
  | ((with_reducible apply OKn); (focus kst_all1); intro v h)
  | ((with_reducible apply OKl1); (focus kst_all1); intro v h)
  | ((with_reducible apply OKl2); (focus kst_all1); intro v h)
  | ((with_reducible apply OKlk); (focus kst_all1); intro v h)
  | ((with_reducible apply OKln); (focus kst_all1); intro v h)
  | ((with_reducible apply OKg); (focus kst_all1); intro v h)
  | ((with_reducible apply OKxn); (focus kst_all1))
  | ((with_reducible apply OKsi); (focus kst_all1))
  | ((with_reducible apply OKsm); (focus kst_all1))
  | ((with_reducible refine OKa ?_ ?_ ?_); (focus kst_all1); (focus kst_all1); intro j v e h))
local macro_rules | `(tactic| kfm_turns) => `(tactic| repeat first
  | kpc_turns
  | k_allIn
  | l_intsW
  | ((with_reducible apply CdL); (focus tb_rel))
  | ((with_reducible refine Cd.by ?_ ?_); (focus kst_all1))
  | ((with_reducible refine Br.yes ?_ ?_); (focus (first | assumption | omega)))
  | ((with_reducible refine Br.no ?_ ?_); (focus (first | assumption | omega))))
local macro_rules | `(tactic| kpt_turns) => `(tactic| repeat first
  | kpc_turns
  | k_allIn
  | l_intsW
  | (with_reducible refine Al.by fun p H' n => ?_)
  | (with_reducible refine Md.by fun H' m => ?_)
  | ((with_reducible apply CdL); (focus tb_rel))
  | ((with_reducible refine Cd.by ?_ ?_); (focus kst_all1))
  | ((with_reducible refine Br.yes ?_ ?_); (focus (first | assumption | omega)))
  | ((with_reducible refine Br.no ?_ ?_); (focus (first | assumption | omega))))
local macro_rules | `(tactic| nest_cls) => `(tactic| repeat' first
  | kpc_turns
  | k_allIn
  | l_intsW
  | (with_reducible refine Al.by fun p H' n => ?_)
  | (with_reducible refine Md.by fun H' m => ?_)
  | ((with_reducible apply CdL); (focus tb_rel))
  | ((with_reducible refine Cd.by ?_ ?_); (focus kst_all1))
  | ((with_reducible refine Br.yes ?_ ?_); (focus (first | assumption | omega)))
  | ((with_reducible refine Br.no ?_ ?_); (focus (first | assumption | omega)))
  | (with_reducible refine Br.by (fun h => ?_) fun h => ?_))
local macro_rules | `(tactic| kpc_turns) => `(tactic| simp (config := {maxSteps := 4000000}) only [↓r_divm, ↓r_min, ↓r_max, ↓r_abs, ↓r_strI, ↓r_intT, ↓aM_zf, ↓aM_ls, ↓aM_rs, ↓aM_spl, ↓r_mulX, ↓r_rev, ↓r_revR, tyS, ↓un_nx, ↓in_some, ↓in_none, ↓r_cd, ↓aM_pop, ↓aM_popAt, ↓r_tryL, ↓r_fld, ↓r_setF, ↓aSF_ref, ↓r_isO, ↓r_eqO, ↓r_eqN, ↓r_neN, ↓r_gsq, ↓aGs_eq, ↓r_gcons, ↓r_gnil, ↓r_isB, ↓r_bm1, ↓r_bm0, ↓aM_app, ↓r_callX, ↓r_raise0, ↓r_tryAs, ↓r_tryOnly, ↓r_seq, ↓r_ifS, ↓r_or, ↓r_and, ↓r_not, ↓r_next, ↓r_ret, ↓r_retN, ↓r_brk, ↓r_cnt, ↓r_drop, ↓r_asg, ↓r_test, ↓r_yes, ↓r_c, ↓r_nil, ↓r_cons, ↓r_var0, ↓r_varS, ↓r_name0, ↓r_nameS, ↓r_op, ↓r_un, ↓r_rU, ↓r_chain, ↓r_andV, ↓r_orV, ↓r_notV, ↓r_call, ↓r_cb, ↓r_tup, ↓r_lst, ↓r_sl, ↓r_noPart, ↓r_part, ↓r_gsub, ↓kB_a, ↓aB_bl, ↓kI_a, ↓aI_int, ↓OK_some, ↓Br_true, ↓Br_false, ↓Cd_true, ↓r_addI, ↓r_addS, ↓r_addUI, ↓r_addUS, ↓r_addL, ↓AlT_cc, ↓AlT_nil, ↓AlT_cnil, ↓r_addT, ↓r_sub, ↓r_mul, ↓r_div, ↓r_mod, ↓r_pow, ↓r_lt, ↓r_le, ↓r_gt, ↓r_ge, ↓r_eq, ↓r_ne, ↓r_isN, ↓r_notN, ↓r_inS, ↓r_ninS, ↓r_in, ↓r_nin, ↓r_inG, ↓r_ninG, ↓r_ixS, ↓r_ix, ↓r_set, ↓r_slS, ↓AlS_lst, ↓AlS_tup, ↓r_slR, ↓r_lenS, ↓r_lenR, ↓r_listU, ↓AlC_lst, ↓AlC_tup, ↓r_tupleU, ↓r_int, ↓r_isi, ↓r_tru, ↓r_truN, ↓r_truB, ↓r_truI, ↓r_truS, ↓r_truR, ↓aL_ref, ↓a1_int, ↓a2_int, ↓r_for1, ↓r_for2, ↓r_for, ↓r_lc, ↓r_lc1, ↓r_lc2,
  OK_some, Br_true, Br_false, Br_not, Cd_true, aB_bl, aI_int, r_rU, r_addI, r_addS, r_sub, r_mul, r_div, r_mod, r_pow, r_lt, r_le, r_gt, r_ge, r_ixS, r_ix, r_set, r_lenS, r_int, r_truN, r_truB, r_truI, r_truS, r_truR, AlT_cc, AlT_nil, AlT_cnil, AlS_lst, AlS_tup, AlC_lst, AlC_tup, a1_int, a2_int, lstO_lst, tupO_tup, seqO_eq, seqO_lst, seqO_tup, lenO_lst, lenO_tup, lenO_dK, e_tyR, tyO_t, e_ty, e_tyn, truO_lst, truO_tup, truO_dK, isa_tab, scal_tab, flat_tab, eqV_t, inV_cons, inV_nil, szl, cmul_l, cpow_l, atI_0, atI_1, atI_2, atI_3, ixN_lit, Option.some.injEq, List.length_cons, List.length_nil, List.length_append, List.length_map, Nat.zero_add, Nat.reduceAdd, natc, Int.reduceLE, Int.reduceLT, Int.reduceEq, Int.reduceSub, Int.reduceAdd, Int.reduceNeg, Int.reduceMul, Int.reducePow, Int.reduceToNat, Nat.reduceLeDiff, Nat.reduceLT, Nat.reduceEqDiff, decide_eq_true_eq, decide_eq_false_iff_not, decide_true, decide_false, Bool.not_eq_true', Bool.not_eq_false', Bool.not_true, Bool.not_false, Bool.not_not, Bool.or_eq_true, Bool.and_eq_true, Bool.or_false, Bool.false_or, Bool.or_true, Bool.true_or, Bool.and_true, Bool.true_and, Bool.and_false, Bool.false_and, Bool.and_self, List.all_cons, List.all_nil, ofs_inj, String.reduceEq, List.cons.injEq, and_true, true_and, and_self, or_true, true_or, or_false, false_or, V.ty.injEq, V.bl.injEq, V.int.injEq, V.str.injEq, V.ref.injEq, List.nil_append, List.append_nil, List.cons_append, List.getElem?_cons_zero, List.getElem?_cons_succ, List.set_cons_zero, List.set_cons_succ, exists_eq_left', exists_eq_left, exists_eq, Bool.false_eq_true, Bool.true_eq_false, reduceCtorEq, not_true_eq_false, not_false_eq_true, eq_self, List.isEmpty_cons, List.isEmpty_nil, wipe, insO_ins, insD_ins, isO_tab, isO_ref, isR_tab, snO_tab, lk_tab, putF_nil, putF_tab, isLs_lst, tyL, m1_self, cutV_1, cutV_to1, Int.zero_add, ↓r_raiseO, ↓r_forEn, ↓r_forK, ↓r_ixD, ↓r_inK, ↓r_ninK, ↓r_setK, ↓r_dnew, ↓aDG_ref, ↓aDG2_ref, ↓r_dget2, ↓r_metX, ↓r_met, ↓aMt_ref, ↓r_prop, ↓aPr_ref, ↓aM_ins, ↓r_dcK, ↓r_for3u, ↓a3_int, keyO_t, reduceIte])

namespace Pg
def sp_Program (K : PySem.W.Frag) : Sp := fun vs H Q E => ∃ (d : Addr) (kvs : List (Key × V)) (R : Raw), vs = [.ref d] ∧ H d = some (.dK kvs) ∧ RawP H kvs R ∧ RawOk H R ∧ PSpec K H R (L2.Same H) (fun H' P ord srt => ∀ v, IsPr K H' v P ord srt → Q v H') E
theorem ty_same {H H' : Hp} {x : V} (h : okV H x) (s : L2.Same H H') : tyV H' x = tyV H x := by
  cases x with
  | ref p =>
    have h1 := h.1
    have hp : H p ≠ none := fun z => by rw [tyV_ref, z] at h1; cases h1
    have e : H' p = H p := by
      cases e : H p with
      | none => exact absurd e hp
      | some o => exact s _ _ e
    rw [tyV_ref, tyV_ref, e]
  | _ => rfl
theorem noD_same {H H' : Hp} {x : V} (h : okT H x) (n : noD H x) (s : L2.Same H H') : noD H' x := by
  refine ⟨by rw [ty_same h.1 s]; exact n.1, fun p ys e1 e2 y hy => ?_⟩
  subst e1
  have hp : H p = some (.tup ys) := by
    have h1 := h.1.1
    cases e : H p with
    | none => rw [tyV_ref, e] at h1; cases h1
    | some o => rw [s _ _ e] at e2; exact e2
  rw [ty_same (h.2 p ys rfl hp y hy) s]
  exact n.2 p ys rfl hp y hy
theorem RawP.same {H H' : Hp} {kvs : List (Key × V)} {R : Raw} (h : RawP H kvs R) (s : L2.Same H H') : RawP H' kvs R := ⟨h.1, fun k z xs e => by
  obtain ⟨p, h1, h2⟩ := h.2 k z xs e
  exact ⟨p, h1, h2.imp (s _ _) (s _ _)⟩⟩
theorem RawOk.same {H H' : Hp} {R : Raw} (h : RawOk H R) (s : L2.Same H H') : RawOk H' R := ⟨h.1, h.2.1, fun k z xs e => by
  obtain ⟨h1, h2, h3⟩ := h.2.2 k z xs e
  exact ⟨h1, h2, fun x hx => ⟨(okT_at (h3 x hx).1 s).1, noD_same (h3 x hx).1 (h3 x hx).2 s⟩⟩⟩
theorem Deco.back {H H' : Hp} {R : Raw} {P : Prog} (h : Deco H' R P) (s : L2.Same H H') (ok : RawOk H R) : Deco H R P := ⟨h.1, fun k z xs e => by
  obtain ⟨b, h1, h2⟩ := h.2 k z xs e
  obtain ⟨_, _, h3⟩ := ok.2.2 k z xs e
  refine ⟨b, h1, h2.1, fun j i hj => ?_⟩
  obtain ⟨q, h4, h5⟩ := h2.2 j i hj
  refine ⟨q, h4, ?_⟩
  have h6 := (h3 _ (List.mem_of_getElem? h4)).1.1.1
  cases e : H q with
  | none => rw [tyV_ref, e] at h6; cases h6
  | some o => rw [s _ _ e] at h5; exact h5⟩
theorem PSpec.back {K : PySem.W.Frag} {H H' : Hp} {R : Raw} {Rel Rel' : Hp → Prop} {Q Q' : Hp → Prog → List Str → List Str → Prop} {E : XK} (h : PSpec K H R Rel Q E) (s : L2.Same H H') (ok : RawOk H R) (rel : ∀ H2, Rel' H2 → Rel H2) (q : ∀ H2 P ord srt, Rel' H2 → Q H2 P ord srt → Q' H2 P ord srt) : PSpec K H' R Rel' Q' E := by
  have be : ∀ {k : Nat} {z xs}, R[k]? = some (z, xs) → bodyErr H' xs = bodyErr H xs := fun e => err_eq fun x hx => (okT_at ((ok.2.2 _ _ _ e).2.2 x hx).1 s).2
  have no : ∀ {dd : Addr}, H' dd = none → H dd = none := fun h => Same.none s h
  obtain ⟨c0, c1⟩ := h
  refine ⟨fun hl H2 h2 => c0 hl H2 (rel _ h2), fun l1 l2 => ?_⟩
  obtain ⟨c1, c2⟩ := c1 l1 l2
  refine ⟨fun k z xs hk fine => ?_, fun fine P hP okP => ?_⟩
  · obtain ⟨b1, b2⟩ := c1 k z xs hk fun m y ys hm hy => ⟨(fine m y ys hm hy).1, by rw [← be hy]; exact (fine m y ys hm hy).2⟩
    exact ⟨fun hm dd H2 h1 h2 h3 => b1 hm dd H2 (no h1) h2 (rel _ h3), fun hm j hj dd H2 h1 h2 h3 => b2 hm j (by rw [← be hk]; exact hj) dd H2 (no h1) h2 (rel _ h3)⟩
  · obtain ⟨d1, d2, d3⟩ := c2 (fun k z xs hk => ⟨(fine k z xs hk).1, by rw [← be hk]; exact (fine k z xs hk).2⟩) P (hP.back s ok) okP
    exact ⟨fun hm H2 h2 => d1 hm H2 (rel _ h2), fun hm z j hu dd H2 h1 h2 h3 => d2 hm z j hu dd H2 (no h1) h2 (rel _ h3), fun hm hu => ⟨fun r hr dd t H2 h1 h2 h3 h4 => (d3 hm hu).1 r hr dd t H2 (no h1) h2 h3 (rel _ h4), fun ord srt H2 h1 h2 => q _ _ _ _ h2 ((d3 hm hu).2 ord srt H2 h1 (rel _ h2))⟩⟩
theorem new_Program {K : PySem.W.Frag} : ∀ vs H Q E, sp_Program K vs H Q E → ∀ o dx, H o = none → H dx = none → dx ≠ o → sp_Program_init K (.ref o :: vs) (upd (upd H dx (.own o)) o (.ins (cPr K) dx [])) (fun v H2 => v = .non ∧ Q (.ref o) H2) E := by
  intro vs H Q E ⟨d, kvs, R, e, hd, hR, ok, h⟩ o dx no nd ne
  subst e
  have n1 : New H dx (.own o) (upd H dx (.own o)) := ⟨nd, rfl⟩
  have s1 : L2.Same H (upd (upd H dx (.own o)) o (.ins (cPr K) dx [])) := fun b u e => by
    rw [upd_ne (ne_of_none e no)]
    exact n1.old e
  have rel : ∀ H2, SameX o (upd (upd H dx (.own o)) o (.ins (cPr K) dx [])) H2 → L2.Same H H2 := fun H2 h b u e => h b u (ne_of_none e no) (s1 _ _ e)
  exact ⟨o, dx, d, kvs, R, rfl, upd_same, s1 _ _ hd, hR.same s1, ok.same s1, h.back s1 ok rel fun H2 P ord srt _ q hp => ⟨rfl, q _ hp⟩⟩
end Pg
end U
end

section
namespace U
open PySem PySem.Spec PyProof.Rows L2
namespace Nam
open TL
def nm (k f : Nat) : Str := ⟨((if f = 1 then [113] else if f = 3 then [109, 97, 105, 110, 113] else []) ++ [97 + k] ++ (if f = 2 then [113] else [])).toArray⟩
def main : Str := Str.ofString "main"
theorem tl_nm (k f : Nat) : tl (nm k f) = (if f = 1 then [113] else if f = 3 then [109, 97, 105, 110, 113] else []) ++ [97 + k] ++ (if f = 2 then [113] else []) := rfl
theorem tl_main : tl main = [109, 97, 105, 110] := by decide +kernel
theorem forms {f : Nat} (h : f < 4) : f = 0 ∨ f = 1 ∨ f = 2 ∨ f = 3 := by omega
theorem nm_inj {k f l g : Nat} (hk : k < 10) (hl : l < 10) (hf : f < 4) (hg : g < 4) (h : nm k f = nm l g) : k = l := by
  have e := congrArg tl h
  rw [tl_nm, tl_nm] at e
  rcases forms hf with rfl | rfl | rfl | rfl <;> rcases forms hg with rfl | rfl | rfl | rfl <;> simp at e <;> omega
theorem nm_main {k f : Nat} (hk : k < 10) (hf : f < 4) : nm k f ≠ main := fun h => by
  have e := congrArg tl h
  rw [tl_nm, tl_main] at e
  rcases forms hf with rfl | rfl | rfl | rfl <;> simp at e
theorem nm_len {k f : Nat} (hf : f < 4) : (nm k f).length ≤ 6 := by
  rw [len_tl, tl_nm]
  rcases forms hf with rfl | rfl | rfl | rfl <;> simp
theorem letters : (Str.ofString "abcdefghijklmnopqrstuvwxyz").cps.toList = (List.range 26).map (97 + ·) := by decide +kernel
theorem nm_mark {k f : Nat} (hk : k < 10) (hf : f < 4) : isMarkS (nm k f) = true := by
  unfold isMarkS
  have l1 := nm_len (k := k) hf
  have l2 : 1 ≤ (nm k f).length := by
    rw [len_tl, tl_nm]
    rcases forms hf with rfl | rfl | rfl | rfl <;> simp
  rw [decide_eq_true l2, decide_eq_true (show (nm k f).length ≤ 8 by omega), Bool.true_and, Bool.true_and, List.all_eq_true]
  intro c hc
  have hc : c ∈ tl (nm k f) := hc
  rw [tl_nm] at hc
  rw [letters]
  refine decide_eq_true (List.mem_map.mpr ⟨c - 97, List.mem_range.mpr ?_, ?_⟩) <;>
  · rcases forms hf with rfl | rfl | rfl | rfl <;> simp at hc <;> omega
theorem main_mark : isMarkS main = true := by decide +kernel
def Nms (ns : List Str) : Prop := ∃ fs : List Nat, (∀ f ∈ fs, f < 4) ∧ fs.length < 10 ∧ ns = main :: fs.mapIdx nm
theorem mapIdx_mem {fs : List Nat} {z : Str} (h : z ∈ fs.mapIdx nm) : ∃ k f, fs[k]? = some f ∧ z = nm k f := by
  obtain ⟨k, hk, e⟩ := List.mem_iff_getElem.mp h
  rw [List.length_mapIdx] at hk
  rw [List.getElem_mapIdx] at e
  exact ⟨k, _, List.getElem?_eq_getElem hk, e.symm⟩
theorem Nms.nodup {ns : List Str} (h : Nms ns) : ns.Nodup := by
  obtain ⟨fs, h4, hl, rfl⟩ := h
  rw [List.nodup_cons]
  refine ⟨fun h => ?_, ?_⟩
  · obtain ⟨k, f, e, e2⟩ := mapIdx_mem h
    have hk := (List.getElem?_eq_some_iff.mp e).1
    exact nm_main (by omega) (h4 f (List.mem_of_getElem? e)) e2.symm
  · unfold List.Nodup
    rw [List.pairwise_iff_getElem]
    intro i j hi hj hij e
    rw [List.length_mapIdx] at hi hj
    rw [List.getElem_mapIdx, List.getElem_mapIdx] at e
    have := nm_inj (by omega) (by omega) (h4 _ (List.getElem_mem hi)) (h4 _ (List.getElem_mem hj)) e
    omega
theorem Nms.mark {ns : List Str} (h : Nms ns) : ∀ z ∈ ns, isMarkS z = true := fun z hz => by
  obtain ⟨fs, h4, hl, rfl⟩ := h
  rcases List.mem_cons.mp hz with rfl | hz
  · exact main_mark
  · obtain ⟨k, f, e, rfl⟩ := mapIdx_mem hz
    have hk := (List.getElem?_eq_some_iff.mp e).1
    exact nm_mark (by omega) (h4 f (List.mem_of_getElem? e))
theorem Nms.len {ns : List Str} (h : Nms ns) : 1 ≤ ns.length ∧ ns.length ≤ 10 := by
  obtain ⟨fs, h4, hl, rfl⟩ := h
  rw [List.length_cons, List.length_mapIdx]
  omega
theorem Nms.main {ns : List Str} (h : Nms ns) : ns[0]? = some Nam.main := by
  obtain ⟨fs, h4, hl, rfl⟩ := h
  rfl
end Nam
end U
end

section
namespace U
open PySem PySem.Spec PyProof.Rows L2
local macro_rules | `(tactic| tb_start) => `(tactic| first
  | assumption
  | (refine Ne.symm ?_; assumption)
  | ((with_reducible apply New.ne); (focus assumption); (focus tb_rel); done)
  | (refine Ne.symm ?_; (with_reducible apply New.ne); (focus assumption); (focus tb_rel); done)
  | ((with_reducible apply neN); (focus assumption); (focus tb_rel); done)
  | (refine Ne.symm ?_; (with_reducible apply neN); (focus assumption); (focus tb_rel); done)
  | ((with_reducible apply DrawsOk.neN); (focus assumption); (focus kct_strs); done)
  | ((with_reducible apply DrawsOk.neLN); (focus assumption); (focus kct_strs); done)
  | ((with_reducible apply DrawsOk.ne'); (focus assumption); (focus kct_strs); done)
  | ((with_reducible apply DrawsOk.neL'); (focus assumption); (focus kct_strs); done)
  | ((with_reducible apply DrawsOk.other'); (focus assumption); (focus tb_rel); (focus rfl); done)
  | ((with_reducible apply DrawsOk.otherL); (focus assumption); (focus tb_rel); (focus rfl); done)
  | ((with_reducible apply ne_kd); (focus assumption); (focus tb_rel); (focus (intro h; cases h; done)); done))
local macro_rules | `(tactic| tb_rel) => `(tactic| first
  | assumption
  | exact New.at (by assumption)
  | exact Mod.at (by assumption)
  | ((with_reducible apply New.old); (focus assumption); tb_rel)
  | ((with_reducible apply Mod.lk); (focus assumption); (focus tb_rel); focus tb_start)
  | ((with_reducible apply Keep.lk); (focus assumption); (focus tb_rel); focus tb_start)
  | ((with_reducible apply Same.at); (focus assumption); tb_rel))
local macro_rules | `(tactic| kct_strs) => `(tactic| first
  | assumption
  | (refine New.draws (by assumption) ?_; kct_strs)
  | (refine DrawsOk.same ?_ (by assumption); kct_strs)
  | (refine Mod.draws (by assumption) ?_ ?_ ?_; (kct_strs); (focus tb_start); focus tb_start))
local macro_rules | `(tactic| k_updF) => `(tactic| first
  | assumption
  | exact L2.Same.refl _
  | (refine Same.new ?_ (by assumption); k_updF)
  | (refine L2.Same.trans ?_ (by assumption); k_updF)
  | (refine Same.mod ?_ (by assumption) ?_; (k_updF); lcg_sub))
local macro_rules | `(tactic| k_memK) => `(tactic| first
  | assumption
  | exact Keep.refl _ _
  | (refine Keep.new' ?_ (by assumption); k_memK)
  | (refine Keep.trans ?_ (by assumption); k_memK)
  | (refine Keep.trans ?_ (Keep.same' (by assumption)); k_memK)
  | (refine Keep.modd ?_ (by assumption); k_memK)
  | (refine Keep.mod ?_ (by assumption) ?_; (k_memK); lcg_sub))
local macro_rules | `(tactic| lcg_sub) => `(tactic| first
  | assumption
  | exact New.fr (by assumption)
  | (refine Same.none ?_ (New.fr (by assumption)); k_updF)
  | (refine Keep.fresh (D := ?_) ?_ ?_ ?_ (New.fr (by assumption)); rotate_left; (k_memK); (kct_strs); (kct_strs)))
local macro_rules | `(tactic| k_upd) => `(tactic| first
  | assumption
  | exact Kl.refl _
  | (refine Kl.trans ?_ (New.kl (by assumption)); k_upd)
  | (refine Kl.trans ?_ (Same.kl (by assumption)); k_upd)
  | (refine Kl.trans ?_ (Mod.kl (by assumption) (by tb_rel)); k_upd)
  | (refine Kl.trans ?_ (Keep.kl (by assumption) (by kct_strs)); k_upd)
  | (refine Kl.trans ?_ (by assumption); k_upd))
local macro_rules | `(tactic| kst_all1) => `(tactic| first
  | assumption | omega | (with_reducible rfl)
  | (simp only [List.length_append, List.length_map, List.length_set, List.length_take, List.length_drop, List.length_cons, List.length_nil, List.length_replicate]; omega)
  | (refine ⟨?_, ?_⟩ <;> kst_all1)
  | decide)
local macro_rules | `(tactic| k_allIn) => `(tactic| first
  | ((with_reducible apply OKl); (focus tb_rel))
  | ((with_reducible apply OKd); (focus tb_rel))
  | ((with_reducible apply OKdf); (focus tb_rel))
  | ((with_reducible apply OKd1); (focus tb_rel))
  | ((with_reducible apply OKt); (focus tb_rel))
  | ((with_reducible apply OKql); (focus tb_rel))
  | ((with_reducible apply OKqt); (focus tb_rel))
  | ((with_reducible apply OKnl); (focus tb_rel))
  | ((with_reducible apply OKnt); (focus tb_rel))
  | ((with_reducible apply OKnd); (focus tb_rel))
  | ((with_reducible apply OKyl); (focus tb_rel))
  | ((with_reducible apply OKyt); (focus tb_rel))
  | ((with_reducible apply OKyd); (focus tb_rel))
  | ((with_reducible apply OKbl); (focus tb_rel))
  | ((with_reducible apply OKbt); (focus tb_rel))
  | ((with_reducible apply OKbd); (focus tb_rel))
  | ((with_reducible apply OKi); (focus tb_rel))
  | ((with_reducible apply OKj); (focus tb_rel))
  | ((with_reducible apply OKr); (focus tb_rel))
  | ((with_reducible apply OKrt); (focus tb_rel))
  | ((with_reducible apply OKrl); (focus tb_rel))
  | ((with_reducible apply OKsl); (focus tb_rel))
  | ((with_reducible apply OKst); (focus tb_rel))
  | ((with_reducible apply AlS_l); (focus tb_rel))
  | ((with_reducible apply AlS_t); (focus tb_rel))
  | ((with_reducible apply AlC_l); (focus tb_rel))
  | ((with_reducible apply AlC_t); (focus tb_rel))
  | ((with_reducible apply OKn); (focus kst_all1); intro v h)
  | ((with_reducible apply OKl1); (focus kst_all1); intro v h)
  | ((with_reducible apply OKl2); (focus kst_all1); intro v h)
  | ((with_reducible apply OKlk); (focus kst_all1); intro v h)
  | ((with_reducible apply OKln); (focus kst_all1); intro v h)
  | ((with_reducible apply OKg); (focus kst_all1); intro v h)
  | ((with_reducible apply OKxn); (focus kst_all1))
  | ((with_reducible apply OKsi); (focus kst_all1))
  | ((with_reducible apply OKsm); (focus kst_all1))
  | ((with_reducible refine OKa ?_ ?_ ?_); (focus kst_all1); (focus kst_all1); intro j v e h))
local macro_rules | `(tactic| kfm_turns) => `(tactic| repeat first
  | kpc_turns
  | k_allIn
  | l_intsW
  | ((with_reducible apply CdL); (focus tb_rel))
  | ((with_reducible refine Cd.by ?_ ?_); (focus kst_all1))
  | ((with_reducible refine Br.yes ?_ ?_); (focus (first | assumption | omega)))
  | ((with_reducible refine Br.no ?_ ?_); (focus (first | assumption | omega))))
local macro_rules | `(tactic| kpt_turns) => `(tactic| repeat first
  | kpc_turns
  | k_allIn
  | l_intsW
  | (with_reducible refine Al.by fun p H' n => ?_)
  | (with_reducible refine Md.by fun H' m => ?_)
  | ((with_reducible apply CdL); (focus tb_rel))
  | ((with_reducible refine Cd.by ?_ ?_); (focus kst_all1))
  | ((with_reducible refine Br.yes ?_ ?_); (focus (first | assumption | omega)))
  | ((with_reducible refine Br.no ?_ ?_); (focus (first | assumption | omega))))
local macro_rules | `(tactic| nest_cls) => `(tactic| repeat' first
  | kpc_turns
  | k_allIn
  | l_intsW
  | (with_reducible refine Al.by fun p H' n => ?_)
  | (with_reducible refine Md.by fun H' m => ?_)
  | ((with_reducible apply CdL); (focus tb_rel))
  | ((with_reducible refine Cd.by ?_ ?_); (focus kst_all1))
  | ((with_reducible refine Br.yes ?_ ?_); (focus (first | assumption | omega)))
  | ((with_reducible refine Br.no ?_ ?_); (focus (first | assumption | omega)))
  | (with_reducible refine Br.by (fun h => ?_) fun h => ?_))
local macro_rules | `(tactic| kpc_turns) => `(tactic| simp (config := {maxSteps := 4000000}) only [↓r_divm, ↓r_min, ↓r_max, ↓r_abs, ↓r_strI, ↓r_intT, ↓aM_zf, ↓aM_ls, ↓aM_rs, ↓aM_spl, ↓r_mulX, ↓r_rev, ↓r_revR, tyS, ↓un_nx, ↓in_some, ↓in_none, ↓r_cd, ↓aM_pop, ↓aM_popAt, ↓r_tryL, ↓r_fld, ↓r_setF, ↓aSF_ref, ↓r_isO, ↓r_eqO, ↓r_eqN, ↓r_neN, ↓r_gsq, ↓aGs_eq, ↓r_gcons, ↓r_gnil, ↓r_isB, ↓r_bm1, ↓r_bm0, ↓aM_app, ↓r_callX, ↓r_raise0, ↓r_tryAs, ↓r_tryOnly, ↓r_seq, ↓r_ifS, ↓r_or, ↓r_and, ↓r_not, ↓r_next, ↓r_ret, ↓r_retN, ↓r_brk, ↓r_cnt, ↓r_drop, ↓r_asg, ↓r_test, ↓r_yes, ↓r_c, ↓r_nil, ↓r_cons, ↓r_var0, ↓r_varS, ↓r_name0, ↓r_nameS, ↓r_op, ↓r_un, ↓r_rU, ↓r_chain, ↓r_andV, ↓r_orV, ↓r_notV, ↓r_call, ↓r_cb, ↓r_tup, ↓r_lst, ↓r_sl, ↓r_noPart, ↓r_part, ↓r_gsub, ↓kB_a, ↓aB_bl, ↓kI_a, ↓aI_int, ↓OK_some, ↓Br_true, ↓Br_false, ↓Cd_true, ↓r_addI, ↓r_addS, ↓r_addUI, ↓r_addUS, ↓r_addL, ↓AlT_cc, ↓AlT_nil, ↓AlT_cnil, ↓r_addT, ↓r_sub, ↓r_mul, ↓r_div, ↓r_mod, ↓r_pow, ↓r_lt, ↓r_le, ↓r_gt, ↓r_ge, ↓r_eq, ↓r_ne, ↓r_isN, ↓r_notN, ↓r_inS, ↓r_ninS, ↓r_in, ↓r_nin, ↓r_inG, ↓r_ninG, ↓r_ixS, ↓r_ix, ↓r_set, ↓r_slS, ↓AlS_lst, ↓AlS_tup, ↓r_slR, ↓r_lenS, ↓r_lenR, ↓r_listU, ↓AlC_lst, ↓AlC_tup, ↓r_tupleU, ↓r_int, ↓r_isi, ↓r_tru, ↓r_truN, ↓r_truB, ↓r_truI, ↓r_truS, ↓r_truR, ↓aL_ref, ↓a1_int, ↓a2_int, ↓r_for1, ↓r_for2, ↓r_for, ↓r_lc, ↓r_lc1, ↓r_lc2,
  OK_some, Br_true, Br_false, Br_not, Cd_true, aB_bl, aI_int, r_rU, r_addI, r_addS, r_sub, r_mul, r_div, r_mod, r_pow, r_lt, r_le, r_gt, r_ge, r_ixS, r_ix, r_set, r_lenS, r_int, r_truN, r_truB, r_truI, r_truS, r_truR, AlT_cc, AlT_nil, AlT_cnil, AlS_lst, AlS_tup, AlC_lst, AlC_tup, a1_int, a2_int, lstO_lst, tupO_tup, seqO_eq, seqO_lst, seqO_tup, lenO_lst, lenO_tup, lenO_dK, e_tyR, tyO_t, e_ty, e_tyn, truO_lst, truO_tup, truO_dK, isa_tab, scal_tab, flat_tab, eqV_t, inV_cons, inV_nil, szl, cmul_l, cpow_l, atI_0, atI_1, atI_2, atI_3, ixN_lit, Option.some.injEq, List.length_cons, List.length_nil, List.length_append, List.length_map, Nat.zero_add, Nat.reduceAdd, natc, Int.reduceLE, Int.reduceLT, Int.reduceEq, Int.reduceSub, Int.reduceAdd, Int.reduceNeg, Int.reduceMul, Int.reducePow, Int.reduceToNat, Nat.reduceLeDiff, Nat.reduceLT, Nat.reduceEqDiff, decide_eq_true_eq, decide_eq_false_iff_not, decide_true, decide_false, Bool.not_eq_true', Bool.not_eq_false', Bool.not_true, Bool.not_false, Bool.not_not, Bool.or_eq_true, Bool.and_eq_true, Bool.or_false, Bool.false_or, Bool.or_true, Bool.true_or, Bool.and_true, Bool.true_and, Bool.and_false, Bool.false_and, Bool.and_self, List.all_cons, List.all_nil, ofs_inj, String.reduceEq, List.cons.injEq, and_true, true_and, and_self, or_true, true_or, or_false, false_or, V.ty.injEq, V.bl.injEq, V.int.injEq, V.str.injEq, V.ref.injEq, List.nil_append, List.append_nil, List.cons_append, List.getElem?_cons_zero, List.getElem?_cons_succ, List.set_cons_zero, List.set_cons_succ, exists_eq_left', exists_eq_left, exists_eq, Bool.false_eq_true, Bool.true_eq_false, reduceCtorEq, not_true_eq_false, not_false_eq_true, eq_self, List.isEmpty_cons, List.isEmpty_nil, wipe, insO_ins, insD_ins, isO_tab, isO_ref, isR_tab, snO_tab, lk_tab, putF_nil, putF_tab, isLs_lst, tyL, m1_self, cutV_1, cutV_to1, Int.zero_add, ↓r_raiseO, ↓r_forEn, ↓r_forK, ↓r_ixD, ↓r_inK, ↓r_ninK, ↓r_setK, ↓r_dnew, ↓aDG_ref, ↓aDG2_ref, ↓r_dget2, ↓r_metX, ↓r_met, ↓aMt_ref, ↓r_prop, ↓aPr_ref, ↓aM_ins, ↓r_dcK, ↓r_for3u, ↓a3_int, keyO_t, reduceIte])

namespace Nam
open TL
def t__law_names_1 (K : PySem.W.Frag) : TS :=
  (tSeq (tAsg (uCall (sp__law_draw K) [] E0 (tCons (uVar 0) (tCons (tC (.int 4)) tNil))) (gName 5))
  (tSeq (tAsg (tOp rIxU (uVar 3) (uVar 4)) (gName 6))
  (tSeq (tIfS (tTest (tOp rEqS (uVar 5) (tC (.int 1)))) (tAsg (tOp rAddS (tC (.str "q")) (uVar 6)) (gName 6)) tNext)
  (tSeq (tIfS (tTest (tOp rEqS (uVar 5) (tC (.int 2)))) (tAsg (tOp rAddS (uVar 6) (tC (.str "q"))) (gName 6)) tNext)
  (tSeq (tIfS (tTest (tOp rEqS (uVar 5) (tC (.int 3)))) (tAsg (tOp rAddS (tC (.str "mainq")) (uVar 6)) (gName 6)) tNext)
  (tDrop (tBM K "list" rAppend (uVar 2) (tCons (uVar 6) tNil))))))))
def t__law_names (K : PySem.W.Frag) : TS :=
  (tSeq (tAsg (tLst (tCons (tC (.str "main")) tNil)) (gName 2))
  (tSeq (tAsg (tC (.str "abcdefghij")) (gName 3))
  (tSeq (tFor (iRng1 (tCons (tOp rSubU (uVar 1) (tC (.int 1))) tNil)) (gName 4) (t__law_names_1 K))
  (tRet (uVar 2)))))
def sp__law_names (K : PySem.W.Frag) : Sp := fun vs H Q _ => ∃ (Dw : Dr) (n : Nat), vs = [.ref Dw.d, .int n] ∧ DrawsOk H Dw ∧ 1 ≤ n ∧ n ≤ 10 ∧ ∀ L ns H', Nms ns → ns.length = n → DrL Dw H L (ns.map V.str) H' → Q (.ref L) H'
theorem len__law_names {K : PySem.W.Frag} : ∀ vs H Q E, sp__law_names K vs H Q E → vs.length = 2 := fun _ _ _ _ ⟨_, _, e, _⟩ => by rw [e]; rfl
theorem lets : (Str.ofString "abcdefghij").cps.toList = (List.range 10).map (97 + ·) := by decide +kernel
theorem mapIdx_snoc (fs : List Nat) (f : Nat) : (fs ++ [f]).mapIdx nm = fs.mapIdx nm ++ [nm fs.length f] := by
  rw [List.mapIdx_append]
  show _ ++ [nm (0 + fs.length) f] = _
  rw [Nat.zero_add]
theorem pure__law_names {K : PySem.W.Frag} (vs : List V) (H : Hp) (Q : VK) (E : XK) (h : sp__law_names K vs H Q E) : t__law_names K { nx := fun _ H' => Q .non H', rt := Q } (start ["_law_draws", "_law_many", "_law_names_here", "_law_letters", "_law_k", "_law_form", "_law_one"] vs) H := by
  obtain ⟨Dw, n, rfl, hd, h1, h10, q⟩ := h
  unfold t__law_names
  show tSeq _ _ _ [some (.ref Dw.d), some (.int n), none, none, none, none, none] H
  kpt_turns
  rename_i L H1 n1
  have d1 := DrL.new hd n1
  rw [show ((n : Int) - 1).toNat = n - 1 by omega]
  refine loop_rng (fun i σ H' => ∃ (y4 y5 y6 : Option V) (fs : List Nat), σ = [some (.ref Dw.d), some (.int n), some (.ref L), some (.str (Str.ofString "abcdefghij")), y4, y5, y6] ∧ fs.length = i ∧ (∀ f ∈ fs, f < 4) ∧ DrL Dw H L ((main :: fs.mapIdx nm).map V.str) H')
    ⟨_, _, _, [], rfl, rfl, fun f h => (nomatch h), d1⟩ (fun i σ H' hi ⟨y4, y5, y6, fs, e, hl, hf, dl⟩ => ?_) (fun σ H' ⟨y4, y5, y6, fs, e, hl, hf, dl⟩ => ?_)
  · subst e
    have el : (Str.ofString "abcdefghij").length = 10 := by decide +kernel
    have el' : (Str.ofString "abcdefghij").cps.toList.length = 10 := el
    show gName 4 _ _ _ _
    unfold t__law_names_1
    rw [Int.zero_add]
    kfm_turns
    refine c_draw dl.dr (by decide) (by decide) fun r H2 r0 r1 d2 k2 => ?_
    obtain ⟨f, rfl⟩ := Int.eq_ofNat_of_zero_le r0
    have f4 : f < 4 := by omega
    have dl2 := dl.draw d2 k2
    kfm_turns
    rename_i c hc
    have ec : c = 97 + i := by
      rw [lets, List.getElem?_map, List.getElem?_range (by omega)] at hc
      exact (Option.some.inj hc).symm
    subst ec
    have at2 := dl2.at_
    have ml : ((main :: fs.mapIdx nm).map V.str).length = i + 1 := by rw [List.length_map, List.length_cons, List.length_mapIdx, hl]
    have lx : (List.mapIdx nm fs).length = i := by rw [List.length_mapIdx, hl]
    have lc : (⟨#[97 + i]⟩ : Str).length = 1 := rfl
    have lq : (Str.ofString "q").length = 1 := by decide +kernel
    have lm : (Str.ofString "mainq").length = 5 := by decide +kernel
    have fin : ∀ (z : Str) (H3 : Hp) (a5 : Option V), z = nm i f → Mod H2 L (.lst ((main :: fs.mapIdx nm).map V.str ++ [.str z])) H3 → ∃ (y4 y5 y6 : Option V) (fs : List Nat), (some (V.int (i : Int)) = y4 ∧ a5 = y5 ∧ some (V.str z) = y6) ∧ fs.length = i + 1 ∧ (∀ f ∈ fs, f < 4) ∧ DrL Dw H L ((main :: fs.mapIdx nm).map V.str) H3 := fun z H3 y5 ez m3 => by
      refine ⟨_, _, _, fs ++ [f], ⟨rfl, rfl, rfl⟩, by rw [List.length_append, hl]; rfl, fun g hg => ?_, ?_⟩
      · rcases List.mem_append.mp hg with h | h
        · exact hf g h
        · rw [List.mem_singleton.mp h]; exact f4
      · have := dl2.mod m3
        rw [mapIdx_snoc, hl, ← ez, ← List.cons_append, List.map_append]
        exact this
    rcases forms f4 with rfl | rfl | rfl | rfl
    · kpt_turns
      rename_i H3 m3
      exact fin _ H3 _ (rfl) m3
    · kpt_turns
      rename_i H3 m3
      exact fin _ H3 _ (ext_tl (by rw [tl_append, tl_nm, show tl (Str.ofString "q") = [113] by decide +kernel]; simp [tl])) m3
    · kpt_turns
      rename_i H3 m3
      exact fin _ H3 _ (ext_tl (by rw [tl_append, tl_nm, show tl (Str.ofString "q") = [113] by decide +kernel]; simp [tl])) m3
    · kpt_turns
      rename_i H3 m3
      exact fin _ H3 _ (ext_tl (by rw [tl_append, tl_nm, show tl (Str.ofString "mainq") = [109, 97, 105, 110, 113] by decide +kernel]; simp [tl])) m3
  · subst e
    kfm_turns
    exact q L _ H' ⟨fs, hf, by omega, rfl⟩ (by rw [List.length_cons, List.length_mapIdx, hl]; omega) dl
end Nam
end U
end

section
namespace U
open PySem PySem.Spec PyProof.Rows L2
namespace K06
open Pg
def prog (ns : List Str) (bs : List (List In)) : Prog := ns.zip bs
abbrev Tc (P : Prog) : Str → Str → Prop := Relation.TransGen (Calls P)
theorem Tc.rank {P : Prog} {a b : Str} (rank : Str → Nat) (hr : ∀ a b, Calls P a b → rank b < rank a) (h : Tc P a b) : rank b < rank a := by
  induction h with
  | single h => exact hr _ _ h
  | tail _ h ih => exact Nat.lt_trans (hr _ _ h) ih
theorem ring_tc {P : Prog} {r : List Str} (h : IsRing P r) : ∃ a, r[0]? = some a ∧ Tc P a a := by
  have hl : 0 < r.length := List.length_pos_iff.mpr h.ne
  obtain ⟨a, ha⟩ : ∃ a, r[0]? = some a := ⟨_, List.getElem?_eq_getElem hl⟩
  have key : ∀ k, k < r.length → ∀ b, r[k]? = some b → b = a ∨ Tc P a b := by
    intro k
    induction k with
    | zero => intro _ b hb; rw [ha] at hb; cases hb; exact .inl rfl
    | succ k ih =>
      intro hk b hb
      obtain ⟨c, hc⟩ : ∃ c, r[k]? = some c := ⟨_, List.getElem?_eq_getElem (by omega)⟩
      have h2 := h.ch k c b hc hb
      rcases ih (by omega) c hc with e | h1
      · rw [e] at h2
        exact .inr (.single h2)
      · exact .inr (.tail h1 h2)
  obtain ⟨b, hb⟩ : ∃ b, r[r.length - 1]? = some b := ⟨_, List.getElem?_eq_getElem (by omega)⟩
  have h2 := h.back b a hb ha
  rcases key (r.length - 1) (by omega) b hb with e | h1
  · rw [e] at h2
    exact ⟨a, ha, .single h2⟩
  · exact ⟨a, ha, .tail h1 h2⟩
theorem topo_no {P : Prog} {ord : List Str} (t : Topo P ord) {a : Str} (hc : ∀ a b, Calls P a b → b ∈ names P) : ¬ Tc P a a := fun h => by
  obtain ⟨rank, hr⟩ := t.acyc
  have mem : ∀ a b, Calls P a b → a ∈ names P := fun a b ⟨c, h1, _⟩ => List.mem_map.mpr ⟨_, h1, rfl⟩
  exact absurd (Tc.rank rank (fun a b h => hr a b (mem a b h) h) h) (Nat.lt_irrefl _)
theorem closed_no {P : Prog} {S : Str → Prop} {s : Str} (h0 : ∀ b, Calls P s b → S b ∧ b ≠ s) (h : ∀ a b, S a → Calls P a b → S b ∧ b ≠ s) : ¬ Tc P s s := fun t => by
  have key : ∀ b, Tc P s b → S b ∧ b ≠ s := fun b t => by
    induction t with
    | single h1 => exact h0 _ h1
    | tail _ h1 ih => exact h _ _ ih.1 h1
  exact (key s t).2 rfl
theorem calls_perm {P R : Prog} (h : P.Perm R) {a b : Str} : Calls P a b ↔ Calls R a b := ⟨fun ⟨c, h1, h2⟩ => ⟨c, h.mem_iff.mp h1, h2⟩, fun ⟨c, h1, h2⟩ => ⟨c, h.mem_iff.mpr h1, h2⟩⟩
theorem tc_perm {P R : Prog} (h : P.Perm R) {a b : Str} (t : Tc P a b) : Tc R a b := by
  induction t with
  | single h1 => exact .single ((calls_perm h).mp h1)
  | tail _ h1 ih => exact .tail ih ((calls_perm h).mp h1)
end K06
end U
end

section
namespace U
open PySem PySem.Spec PyProof.Rows L2
local macro_rules | `(tactic| tb_start) => `(tactic| first
  | assumption
  | (refine Ne.symm ?_; assumption)
  | ((with_reducible apply New.ne); (focus assumption); (focus tb_rel); done)
  | (refine Ne.symm ?_; (with_reducible apply New.ne); (focus assumption); (focus tb_rel); done)
  | ((with_reducible apply neN); (focus assumption); (focus tb_rel); done)
  | (refine Ne.symm ?_; (with_reducible apply neN); (focus assumption); (focus tb_rel); done)
  | ((with_reducible apply DrawsOk.neN); (focus assumption); (focus kct_strs); done)
  | ((with_reducible apply DrawsOk.neLN); (focus assumption); (focus kct_strs); done)
  | ((with_reducible apply DrawsOk.ne'); (focus assumption); (focus kct_strs); done)
  | ((with_reducible apply DrawsOk.neL'); (focus assumption); (focus kct_strs); done)
  | ((with_reducible apply DrawsOk.other'); (focus assumption); (focus tb_rel); (focus rfl); done)
  | ((with_reducible apply DrawsOk.otherL); (focus assumption); (focus tb_rel); (focus rfl); done)
  | ((with_reducible apply ne_kd); (focus assumption); (focus tb_rel); (focus (intro h; cases h; done)); done))
local macro_rules | `(tactic| tb_rel) => `(tactic| first
  | assumption
  | exact New.at (by assumption)
  | exact Mod.at (by assumption)
  | ((with_reducible apply New.old); (focus assumption); tb_rel)
  | ((with_reducible apply Mod.lk); (focus assumption); (focus tb_rel); focus tb_start)
  | ((with_reducible apply Keep.lk); (focus assumption); (focus tb_rel); focus tb_start)
  | ((with_reducible apply Same.at); (focus assumption); tb_rel))
local macro_rules | `(tactic| kct_strs) => `(tactic| first
  | assumption
  | (refine New.draws (by assumption) ?_; kct_strs)
  | (refine DrawsOk.same ?_ (by assumption); kct_strs)
  | (refine Mod.draws (by assumption) ?_ ?_ ?_; (kct_strs); (focus tb_start); focus tb_start))
local macro_rules | `(tactic| k_updF) => `(tactic| first
  | assumption
  | exact L2.Same.refl _
  | (refine Same.new ?_ (by assumption); k_updF)
  | (refine L2.Same.trans ?_ (by assumption); k_updF)
  | (refine Same.mod ?_ (by assumption) ?_; (k_updF); lcg_sub))
local macro_rules | `(tactic| k_memK) => `(tactic| first
  | assumption
  | exact Keep.refl _ _
  | (refine Keep.new' ?_ (by assumption); k_memK)
  | (refine Keep.trans ?_ (by assumption); k_memK)
  | (refine Keep.trans ?_ (Keep.same' (by assumption)); k_memK)
  | (refine Keep.modd ?_ (by assumption); k_memK)
  | (refine Keep.mod ?_ (by assumption) ?_; (k_memK); lcg_sub))
local macro_rules | `(tactic| lcg_sub) => `(tactic| first
  | assumption
  | exact New.fr (by assumption)
  | (refine Same.none ?_ (New.fr (by assumption)); k_updF)
  | (refine Keep.fresh (D := ?_) ?_ ?_ ?_ (New.fr (by assumption)); rotate_left; (k_memK); (kct_strs); (kct_strs)))
local macro_rules | `(tactic| k_upd) => `(tactic| first
  | assumption
  | exact Kl.refl _
  | (refine Kl.trans ?_ (New.kl (by assumption)); k_upd)
  | (refine Kl.trans ?_ (Same.kl (by assumption)); k_upd)
  | (refine Kl.trans ?_ (Mod.kl (by assumption) (by tb_rel)); k_upd)
  | (refine Kl.trans ?_ (Keep.kl (by assumption) (by kct_strs)); k_upd)
  | (refine Kl.trans ?_ (by assumption); k_upd))
local macro_rules | `(tactic| kst_all1) => `(tactic| first
  | assumption | omega | (with_reducible rfl)
  | (simp only [List.length_append, List.length_map, List.length_set, List.length_take, List.length_drop, List.length_cons, List.length_nil, List.length_replicate]; omega)
  | (refine ⟨?_, ?_⟩ <;> kst_all1)
  | decide)
local macro_rules | `(tactic| k_allIn) => `(tactic| first
  | ((with_reducible apply OKl); (focus tb_rel))
  | ((with_reducible apply OKd); (focus tb_rel))
  | ((with_reducible apply OKdf); (focus tb_rel))
  | ((with_reducible apply OKd1); (focus tb_rel))
  | ((with_reducible apply OKt); (focus tb_rel))
  | ((with_reducible apply OKql); (focus tb_rel))
  | ((with_reducible apply OKqt); (focus tb_rel))
  | ((with_reducible apply OKnl); (focus tb_rel))
  | ((with_reducible apply OKnt); (focus tb_rel))
  | ((with_reducible apply OKnd); (focus tb_rel))
  | ((with_reducible apply OKyl); (focus tb_rel))
  | ((with_reducible apply OKyt); (focus tb_rel))
  | ((with_reducible apply OKyd); (focus tb_rel))
  | ((with_reducible apply OKbl); (focus tb_rel))
  | ((with_reducible apply OKbt); (focus tb_rel))
  | ((with_reducible apply OKbd); (focus tb_rel))
  | ((with_reducible apply OKi); (focus tb_rel))
  | ((with_reducible apply OKj); (focus tb_rel))
  | ((with_reducible apply OKr); (focus tb_rel))
  | ((with_reducible apply OKrt); (focus tb_rel))
  | ((with_reducible apply OKrl); (focus tb_rel))
  | ((with_reducible apply OKsl); (focus tb_rel))
  | ((with_reducible apply OKst); (focus tb_rel))
  | ((with_reducible apply AlS_l); (focus tb_rel))
  | ((with_reducible apply AlS_t); (focus tb_rel))
  | ((with_reducible apply AlC_l); (focus tb_rel))
  | ((with_reducible apply AlC_t); (focus tb_rel))
  | ((with_reducible apply OKn); (focus kst_all1); intro v h)
  | ((with_reducible apply OKl1); (focus kst_all1); intro v h)
  | ((with_reducible apply OKl2); (focus kst_all1); intro v h)
  | ((with_reducible apply OKlk); (focus kst_all1); intro v h)
  | ((with_reducible apply OKln); (focus kst_all1); intro v h)
  | ((with_reducible apply OKg); (focus kst_all1); intro v h)
  | ((with_reducible apply OKxn); (focus kst_all1))
  | ((with_reducible apply OKsi); (focus kst_all1))
  | ((with_reducible apply OKsm); (focus kst_all1))
  | ((with_reducible refine OKa ?_ ?_ ?_); (focus kst_all1); (focus kst_all1); intro j v e h))
local macro_rules | `(tactic| kfm_turns) => `(tactic| repeat first
  | kpc_turns
  | k_allIn
  | l_intsW
  | ((with_reducible apply CdL); (focus tb_rel))
  | ((with_reducible refine Cd.by ?_ ?_); (focus kst_all1))
  | ((with_reducible refine Br.yes ?_ ?_); (focus (first | assumption | omega)))
  | ((with_reducible refine Br.no ?_ ?_); (focus (first | assumption | omega))))
local macro_rules | `(tactic| kpt_turns) => `(tactic| repeat first
  | kpc_turns
  | k_allIn
  | l_intsW
  | (with_reducible refine Al.by fun p H' n => ?_)
  | (with_reducible refine Md.by fun H' m => ?_)
  | ((with_reducible apply CdL); (focus tb_rel))
  | ((with_reducible refine Cd.by ?_ ?_); (focus kst_all1))
  | ((with_reducible refine Br.yes ?_ ?_); (focus (first | assumption | omega)))
  | ((with_reducible refine Br.no ?_ ?_); (focus (first | assumption | omega))))
local macro_rules | `(tactic| nest_cls) => `(tactic| repeat' first
  | kpc_turns
  | k_allIn
  | l_intsW
  | (with_reducible refine Al.by fun p H' n => ?_)
  | (with_reducible refine Md.by fun H' m => ?_)
  | ((with_reducible apply CdL); (focus tb_rel))
  | ((with_reducible refine Cd.by ?_ ?_); (focus kst_all1))
  | ((with_reducible refine Br.yes ?_ ?_); (focus (first | assumption | omega)))
  | ((with_reducible refine Br.no ?_ ?_); (focus (first | assumption | omega)))
  | (with_reducible refine Br.by (fun h => ?_) fun h => ?_))
local macro_rules | `(tactic| kpc_turns) => `(tactic| simp (config := {maxSteps := 4000000}) only [↓r_divm, ↓r_min, ↓r_max, ↓r_abs, ↓r_strI, ↓r_intT, ↓aM_zf, ↓aM_ls, ↓aM_rs, ↓aM_spl, ↓r_mulX, ↓r_rev, ↓r_revR, tyS, ↓un_nx, ↓in_some, ↓in_none, ↓r_cd, ↓aM_pop, ↓aM_popAt, ↓r_tryL, ↓r_fld, ↓r_setF, ↓aSF_ref, ↓r_isO, ↓r_eqO, ↓r_eqN, ↓r_neN, ↓r_gsq, ↓aGs_eq, ↓r_gcons, ↓r_gnil, ↓r_isB, ↓r_bm1, ↓r_bm0, ↓aM_app, ↓r_callX, ↓r_raise0, ↓r_tryAs, ↓r_tryOnly, ↓r_seq, ↓r_ifS, ↓r_or, ↓r_and, ↓r_not, ↓r_next, ↓r_ret, ↓r_retN, ↓r_brk, ↓r_cnt, ↓r_drop, ↓r_asg, ↓r_test, ↓r_yes, ↓r_c, ↓r_nil, ↓r_cons, ↓r_var0, ↓r_varS, ↓r_name0, ↓r_nameS, ↓r_op, ↓r_un, ↓r_rU, ↓r_chain, ↓r_andV, ↓r_orV, ↓r_notV, ↓r_call, ↓r_cb, ↓r_tup, ↓r_lst, ↓r_sl, ↓r_noPart, ↓r_part, ↓r_gsub, ↓kB_a, ↓aB_bl, ↓kI_a, ↓aI_int, ↓OK_some, ↓Br_true, ↓Br_false, ↓Cd_true, ↓r_addI, ↓r_addS, ↓r_addUI, ↓r_addUS, ↓r_addL, ↓AlT_cc, ↓AlT_nil, ↓AlT_cnil, ↓r_addT, ↓r_sub, ↓r_mul, ↓r_div, ↓r_mod, ↓r_pow, ↓r_lt, ↓r_le, ↓r_gt, ↓r_ge, ↓r_eq, ↓r_ne, ↓r_isN, ↓r_notN, ↓r_inS, ↓r_ninS, ↓r_in, ↓r_nin, ↓r_inG, ↓r_ninG, ↓r_ixS, ↓r_ix, ↓r_set, ↓r_slS, ↓AlS_lst, ↓AlS_tup, ↓r_slR, ↓r_lenS, ↓r_lenR, ↓r_listU, ↓AlC_lst, ↓AlC_tup, ↓r_tupleU, ↓r_int, ↓r_isi, ↓r_tru, ↓r_truN, ↓r_truB, ↓r_truI, ↓r_truS, ↓r_truR, ↓aL_ref, ↓a1_int, ↓a2_int, ↓r_for1, ↓r_for2, ↓r_for, ↓r_lc, ↓r_lc1, ↓r_lc2,
  OK_some, Br_true, Br_false, Br_not, Cd_true, aB_bl, aI_int, r_rU, r_addI, r_addS, r_sub, r_mul, r_div, r_mod, r_pow, r_lt, r_le, r_gt, r_ge, r_ixS, r_ix, r_set, r_lenS, r_int, r_truN, r_truB, r_truI, r_truS, r_truR, AlT_cc, AlT_nil, AlT_cnil, AlS_lst, AlS_tup, AlC_lst, AlC_tup, a1_int, a2_int, lstO_lst, tupO_tup, seqO_eq, seqO_lst, seqO_tup, lenO_lst, lenO_tup, lenO_dK, e_tyR, tyO_t, e_ty, e_tyn, truO_lst, truO_tup, truO_dK, isa_tab, scal_tab, flat_tab, eqV_t, inV_cons, inV_nil, szl, cmul_l, cpow_l, atI_0, atI_1, atI_2, atI_3, ixN_lit, Option.some.injEq, List.length_cons, List.length_nil, List.length_append, List.length_map, Nat.zero_add, Nat.reduceAdd, natc, Int.reduceLE, Int.reduceLT, Int.reduceEq, Int.reduceSub, Int.reduceAdd, Int.reduceNeg, Int.reduceMul, Int.reducePow, Int.reduceToNat, Nat.reduceLeDiff, Nat.reduceLT, Nat.reduceEqDiff, decide_eq_true_eq, decide_eq_false_iff_not, decide_true, decide_false, Bool.not_eq_true', Bool.not_eq_false', Bool.not_true, Bool.not_false, Bool.not_not, Bool.or_eq_true, Bool.and_eq_true, Bool.or_false, Bool.false_or, Bool.or_true, Bool.true_or, Bool.and_true, Bool.true_and, Bool.and_false, Bool.false_and, Bool.and_self, List.all_cons, List.all_nil, ofs_inj, String.reduceEq, List.cons.injEq, and_true, true_and, and_self, or_true, true_or, or_false, false_or, V.ty.injEq, V.bl.injEq, V.int.injEq, V.str.injEq, V.ref.injEq, List.nil_append, List.append_nil, List.cons_append, List.getElem?_cons_zero, List.getElem?_cons_succ, List.set_cons_zero, List.set_cons_succ, exists_eq_left', exists_eq_left, exists_eq, Bool.false_eq_true, Bool.true_eq_false, reduceCtorEq, not_true_eq_false, not_false_eq_true, eq_self, List.isEmpty_cons, List.isEmpty_nil, wipe, insO_ins, insD_ins, isO_tab, isO_ref, isR_tab, snO_tab, lk_tab, putF_nil, putF_tab, isLs_lst, tyL, m1_self, cutV_1, cutV_to1, Int.zero_add, ↓r_raiseO, ↓r_forEn, ↓r_forK, ↓r_ixD, ↓r_inK, ↓r_ninK, ↓r_setK, ↓r_dnew, ↓aDG_ref, ↓aDG2_ref, ↓r_dget2, ↓r_metX, ↓r_met, ↓aMt_ref, ↓r_prop, ↓aPr_ref, ↓aM_ins, ↓r_dcK, ↓r_for3u, ↓a3_int, keyO_t, reduceIte])

namespace K06
open Pg Nam
def BodiesAt (H : Hp) (B : Addr) (bs : List (List In)) : Prop := ∃ bv : List V, H B = some (.lst bv) ∧ bv.length = bs.length ∧ ∀ (i : Nat) b, bs[i]? = some b → ∃ p xs, bv[i]? = some (.ref p) ∧ H p = some (.lst xs) ∧ InsAt H xs b
theorem BodiesAt.same {H H' : Hp} {B : Addr} {bs : List (List In)} (h : BodiesAt H B bs) (s : L2.Same H H') : BodiesAt H' B bs := by
  obtain ⟨bv, h1, h2, h3⟩ := h
  refine ⟨bv, s _ _ h1, h2, fun i b e => ?_⟩
  obtain ⟨p, xs, h4, h5, h6⟩ := h3 i b e
  exact ⟨p, xs, h4, s _ _ h5, h6.kl fun q o e => s _ _ e⟩
def Sm1 (i : In) : Prop := match i with
  | .rep _ n => n ≤ 2
  | _ => True
def AllNm (ns : List Str) (b : List In) : Prop := ∀ i ∈ b, ∃ z, i.named = some z ∧ z ∈ ns ∧ Sm1 i
def nmd (b : List In) : List Str := b.filterMap In.named
theorem nmd_at {ns : List Str} : ∀ {b : List In}, AllNm ns b → nmd b = b.map fun i => i.named.getD (Str.ofString "")
  | [], _ => rfl
  | i :: b, h => by
    obtain ⟨z, hz, _⟩ := h i (List.mem_cons_self ..)
    unfold nmd
    rw [List.filterMap_cons, hz, List.map_cons, hz]
    exact congrArg (z :: ·) (nmd_at (b := b) fun j hj => h j (List.mem_cons_of_mem _ hj))
theorem nmd_mem {b : List In} {z : Str} : z ∈ nmd b ↔ z ∈ calleesL b := by
  rw [callees_mem]
  unfold nmd
  rw [List.mem_filterMap]
def nmOf (H : Hp) (x : V) : V := match x with
  | .ref q => match H q with
    | some (.tup (_ :: y :: _)) => y
    | _ => .non
  | _ => .non
theorem nmOf_at {H : Hp} {q : Addr} {i : In} {z : Str} (h : H q = some (.tup i.enc)) (hz : i.named = some z) : nmOf H (.ref q) = .str z ∧ ∃ a r, i.enc = a :: .str z :: r := by
  cases i with
  | bas _ => cases hz
  | call y => cases hz; exact ⟨by show (match H q with | some (.tup (_ :: y :: _)) => y | _ => .non) = _; rw [h]; rfl, _, _, rfl⟩
  | rep y n => cases hz; exact ⟨by show (match H q with | some (.tup (_ :: y :: _)) => y | _ => .non) = _; rw [h]; rfl, _, _, rfl⟩
def t__law_names_of (K : PySem.W.Frag) : TS :=
  (tRet (tLc (iU K (uVar 0)) (gName 1) tYes (tOp rIxU (uVar 1) (tC (.int 1))) [1]))
def sp__law_names_of (K : PySem.W.Frag) : Sp := fun vs H Q _ => ∃ (p : Addr) (xs : List V) (b : List In) (ns : List Str), vs = [.ref p] ∧ H p = some (.lst xs) ∧ InsAt H xs b ∧ b.length ≤ 1000 ∧ AllNm ns b ∧ ∀ L H', H L = none → H' L = some (.lst ((nmd b).map V.str)) → L2.Same H H' → Q (.ref L) H'
theorem len__law_names_of {K : PySem.W.Frag} : ∀ vs H Q E, sp__law_names_of K vs H Q E → vs.length = 1 := fun _ _ _ _ ⟨_, _, _, _, e, _⟩ => by rw [e]; rfl
theorem pure__law_names_of {K : PySem.W.Frag} (vs : List V) (H : Hp) (Q : VK) (E : XK) (h : sp__law_names_of K vs H Q E) : t__law_names_of K { nx := fun _ H' => Q .non H', rt := Q } (start ["_law_body", "_law_one"] vs) H := by
  obtain ⟨p, xs, b, ns, rfl, hp, hx, hl, hn, q⟩ := h
  unfold t__law_names_of
  show tRet _ _ [some (.ref p), none] H
  kfm_turns
  refine comp_map (K := K) (nmOf H) (seqAt_lst hp) (by rw [hx.1]; omega) (fun x H' R hxm s r => ?_) fun L H' hL hl2 s => ?_
  · obtain ⟨j, hj, e⟩ := List.mem_iff_getElem.mp hxm
    obtain ⟨i, r', h1, rfl, h3⟩ := hx.at (k := j) (v := x) (by rw [List.getElem?_eq_getElem hj, e])
    obtain ⟨z, hz, _⟩ := hn i (List.mem_of_getElem? h1)
    obtain ⟨e1, a, rr, e2⟩ := nmOf_at h3 hz
    have h4 := s _ _ h3
    rw [e2] at h4
    rw [e1] at r
    kfm_turns
    exact r _ (L2.Same.refl _)
  · have e : xs.map (nmOf H) = (nmd b).map V.str := by
      rw [nmd_at hn]
      refine List.ext_getElem? fun k => ?_
      rw [List.getElem?_map, List.getElem?_map, List.getElem?_map]
      cases e : b[k]? with
      | none =>
        have := List.getElem?_eq_none_iff.mp e
        rw [List.getElem?_eq_none (by rw [hx.1]; exact this)]
        rfl
      | some i =>
        obtain ⟨q, h1, h2⟩ := hx.2 k i e
        obtain ⟨z, hz, _⟩ := hn i (List.mem_of_getElem? e)
        rw [h1]
        show some (nmOf H (.ref q)) = some (V.str (i.named.getD (Str.ofString "")))
        rw [hz, (nmOf_at h2 hz).1]
        rfl
    rw [e] at hl2
    exact q L H' hL hl2 s
end K06
end U
end

section
namespace U
open PySem PySem.Spec PyProof.Rows L2
local macro_rules | `(tactic| tb_start) => `(tactic| first
  | assumption
  | (refine Ne.symm ?_; assumption)
  | ((with_reducible apply New.ne); (focus assumption); (focus tb_rel); done)
  | (refine Ne.symm ?_; (with_reducible apply New.ne); (focus assumption); (focus tb_rel); done)
  | ((with_reducible apply neN); (focus assumption); (focus tb_rel); done)
  | (refine Ne.symm ?_; (with_reducible apply neN); (focus assumption); (focus tb_rel); done)
  | ((with_reducible apply DrawsOk.neN); (focus assumption); (focus kct_strs); done)
  | ((with_reducible apply DrawsOk.neLN); (focus assumption); (focus kct_strs); done)
  | ((with_reducible apply DrawsOk.ne'); (focus assumption); (focus kct_strs); done)
  | ((with_reducible apply DrawsOk.neL'); (focus assumption); (focus kct_strs); done)
  | ((with_reducible apply DrawsOk.other'); (focus assumption); (focus tb_rel); (focus rfl); done)
  | ((with_reducible apply DrawsOk.otherL); (focus assumption); (focus tb_rel); (focus rfl); done)
  | ((with_reducible apply ne_kd); (focus assumption); (focus tb_rel); (focus (intro h; cases h; done)); done))
local macro_rules | `(tactic| tb_rel) => `(tactic| first
  | assumption
  | exact New.at (by assumption)
  | exact Mod.at (by assumption)
  | ((with_reducible apply New.old); (focus assumption); tb_rel)
  | ((with_reducible apply Mod.lk); (focus assumption); (focus tb_rel); focus tb_start)
  | ((with_reducible apply Keep.lk); (focus assumption); (focus tb_rel); focus tb_start)
  | ((with_reducible apply Same.at); (focus assumption); tb_rel))
local macro_rules | `(tactic| kct_strs) => `(tactic| first
  | assumption
  | (refine New.draws (by assumption) ?_; kct_strs)
  | (refine DrawsOk.same ?_ (by assumption); kct_strs)
  | (refine Mod.draws (by assumption) ?_ ?_ ?_; (kct_strs); (focus tb_start); focus tb_start))
local macro_rules | `(tactic| k_updF) => `(tactic| first
  | assumption
  | exact L2.Same.refl _
  | (refine Same.new ?_ (by assumption); k_updF)
  | (refine L2.Same.trans ?_ (by assumption); k_updF)
  | (refine Same.mod ?_ (by assumption) ?_; (k_updF); lcg_sub))
local macro_rules | `(tactic| k_memK) => `(tactic| first
  | assumption
  | exact Keep.refl _ _
  | (refine Keep.new' ?_ (by assumption); k_memK)
  | (refine Keep.trans ?_ (by assumption); k_memK)
  | (refine Keep.trans ?_ (Keep.same' (by assumption)); k_memK)
  | (refine Keep.modd ?_ (by assumption); k_memK)
  | (refine Keep.mod ?_ (by assumption) ?_; (k_memK); lcg_sub))
local macro_rules | `(tactic| lcg_sub) => `(tactic| first
  | assumption
  | exact New.fr (by assumption)
  | (refine Same.none ?_ (New.fr (by assumption)); k_updF)
  | (refine Keep.fresh (D := ?_) ?_ ?_ ?_ (New.fr (by assumption)); rotate_left; (k_memK); (kct_strs); (kct_strs)))
local macro_rules | `(tactic| k_upd) => `(tactic| first
  | assumption
  | exact Kl.refl _
  | (refine Kl.trans ?_ (New.kl (by assumption)); k_upd)
  | (refine Kl.trans ?_ (Same.kl (by assumption)); k_upd)
  | (refine Kl.trans ?_ (Mod.kl (by assumption) (by tb_rel)); k_upd)
  | (refine Kl.trans ?_ (Keep.kl (by assumption) (by kct_strs)); k_upd)
  | (refine Kl.trans ?_ (by assumption); k_upd))
local macro_rules | `(tactic| kst_all1) => `(tactic| first
  | assumption | omega | (with_reducible rfl)
  | (simp only [List.length_append, List.length_map, List.length_set, List.length_take, List.length_drop, List.length_cons, List.length_nil, List.length_replicate]; omega)
  | (refine ⟨?_, ?_⟩ <;> kst_all1)
  | decide)
local macro_rules | `(tactic| k_allIn) => `(tactic| first
  | ((with_reducible apply OKl); (focus tb_rel))
  | ((with_reducible apply OKd); (focus tb_rel))
  | ((with_reducible apply OKdf); (focus tb_rel))
  | ((with_reducible apply OKd1); (focus tb_rel))
  | ((with_reducible apply OKt); (focus tb_rel))
  | ((with_reducible apply OKql); (focus tb_rel))
  | ((with_reducible apply OKqt); (focus tb_rel))
  | ((with_reducible apply OKnl); (focus tb_rel))
  | ((with_reducible apply OKnt); (focus tb_rel))
  | ((with_reducible apply OKnd); (focus tb_rel))
  | ((with_reducible apply OKyl); (focus tb_rel))
  | ((with_reducible apply OKyt); (focus tb_rel))
  | ((with_reducible apply OKyd); (focus tb_rel))
  | ((with_reducible apply OKbl); (focus tb_rel))
  | ((with_reducible apply OKbt); (focus tb_rel))
  | ((with_reducible apply OKbd); (focus tb_rel))
  | ((with_reducible apply OKi); (focus tb_rel))
  | ((with_reducible apply OKj); (focus tb_rel))
  | ((with_reducible apply OKr); (focus tb_rel))
  | ((with_reducible apply OKrt); (focus tb_rel))
  | ((with_reducible apply OKrl); (focus tb_rel))
  | ((with_reducible apply OKsl); (focus tb_rel))
  | ((with_reducible apply OKst); (focus tb_rel))
  | ((with_reducible apply AlS_l); (focus tb_rel))
  | ((with_reducible apply AlS_t); (focus tb_rel))
  | ((with_reducible apply AlC_l); (focus tb_rel))
  | ((with_reducible apply AlC_t); (focus tb_rel))
  | ((with_reducible apply OKn); (focus kst_all1); intro v h)
  | ((with_reducible apply OKl1); (focus kst_all1); intro v h)
  | ((with_reducible apply OKl2); (focus kst_all1); intro v h)
  | ((with_reducible apply OKlk); (focus kst_all1); intro v h)
  | ((with_reducible apply OKln); (focus kst_all1); intro v h)
  | ((with_reducible apply OKg); (focus kst_all1); intro v h)
  | ((with_reducible apply OKxn); (focus kst_all1))
  | ((with_reducible apply OKsi); (focus kst_all1))
  | ((with_reducible apply OKsm); (focus kst_all1))
  | ((with_reducible refine OKa ?_ ?_ ?_); (focus kst_all1); (focus kst_all1); intro j v e h))
local macro_rules | `(tactic| kfm_turns) => `(tactic| repeat first
  | kpc_turns
  | k_allIn
  | l_intsW
  | ((with_reducible apply CdL); (focus tb_rel))
  | ((with_reducible refine Cd.by ?_ ?_); (focus kst_all1))
  | ((with_reducible refine Br.yes ?_ ?_); (focus (first | assumption | omega)))
  | ((with_reducible refine Br.no ?_ ?_); (focus (first | assumption | omega))))
local macro_rules | `(tactic| kpt_turns) => `(tactic| repeat first
  | kpc_turns
  | k_allIn
  | l_intsW
  | (with_reducible refine Al.by fun p H' n => ?_)
  | (with_reducible refine Md.by fun H' m => ?_)
  | ((with_reducible apply CdL); (focus tb_rel))
  | ((with_reducible refine Cd.by ?_ ?_); (focus kst_all1))
  | ((with_reducible refine Br.yes ?_ ?_); (focus (first | assumption | omega)))
  | ((with_reducible refine Br.no ?_ ?_); (focus (first | assumption | omega))))
local macro_rules | `(tactic| nest_cls) => `(tactic| repeat' first
  | kpc_turns
  | k_allIn
  | l_intsW
  | (with_reducible refine Al.by fun p H' n => ?_)
  | (with_reducible refine Md.by fun H' m => ?_)
  | ((with_reducible apply CdL); (focus tb_rel))
  | ((with_reducible refine Cd.by ?_ ?_); (focus kst_all1))
  | ((with_reducible refine Br.yes ?_ ?_); (focus (first | assumption | omega)))
  | ((with_reducible refine Br.no ?_ ?_); (focus (first | assumption | omega)))
  | (with_reducible refine Br.by (fun h => ?_) fun h => ?_))
local macro_rules | `(tactic| kpc_turns) => `(tactic| simp (config := {maxSteps := 4000000}) only [↓r_divm, ↓r_min, ↓r_max, ↓r_abs, ↓r_strI, ↓r_intT, ↓aM_zf, ↓aM_ls, ↓aM_rs, ↓aM_spl, ↓r_mulX, ↓r_rev, ↓r_revR, tyS, ↓un_nx, ↓in_some, ↓in_none, ↓r_cd, ↓aM_pop, ↓aM_popAt, ↓r_tryL, ↓r_fld, ↓r_setF, ↓aSF_ref, ↓r_isO, ↓r_eqO, ↓r_eqN, ↓r_neN, ↓r_gsq, ↓aGs_eq, ↓r_gcons, ↓r_gnil, ↓r_isB, ↓r_bm1, ↓r_bm0, ↓aM_app, ↓r_callX, ↓r_raise0, ↓r_tryAs, ↓r_tryOnly, ↓r_seq, ↓r_ifS, ↓r_or, ↓r_and, ↓r_not, ↓r_next, ↓r_ret, ↓r_retN, ↓r_brk, ↓r_cnt, ↓r_drop, ↓r_asg, ↓r_test, ↓r_yes, ↓r_c, ↓r_nil, ↓r_cons, ↓r_var0, ↓r_varS, ↓r_name0, ↓r_nameS, ↓r_op, ↓r_un, ↓r_rU, ↓r_chain, ↓r_andV, ↓r_orV, ↓r_notV, ↓r_call, ↓r_cb, ↓r_tup, ↓r_lst, ↓r_sl, ↓r_noPart, ↓r_part, ↓r_gsub, ↓kB_a, ↓aB_bl, ↓kI_a, ↓aI_int, ↓OK_some, ↓Br_true, ↓Br_false, ↓Cd_true, ↓r_addI, ↓r_addS, ↓r_addUI, ↓r_addUS, ↓r_addL, ↓AlT_cc, ↓AlT_nil, ↓AlT_cnil, ↓r_addT, ↓r_sub, ↓r_mul, ↓r_div, ↓r_mod, ↓r_pow, ↓r_lt, ↓r_le, ↓r_gt, ↓r_ge, ↓r_eq, ↓r_ne, ↓r_isN, ↓r_notN, ↓r_inS, ↓r_ninS, ↓r_in, ↓r_nin, ↓r_inG, ↓r_ninG, ↓r_ixS, ↓r_ix, ↓r_set, ↓r_slS, ↓AlS_lst, ↓AlS_tup, ↓r_slR, ↓r_lenS, ↓r_lenR, ↓r_listU, ↓AlC_lst, ↓AlC_tup, ↓r_tupleU, ↓r_int, ↓r_isi, ↓r_tru, ↓r_truN, ↓r_truB, ↓r_truI, ↓r_truS, ↓r_truR, ↓aL_ref, ↓a1_int, ↓a2_int, ↓r_for1, ↓r_for2, ↓r_for, ↓r_lc, ↓r_lc1, ↓r_lc2,
  OK_some, Br_true, Br_false, Br_not, Cd_true, aB_bl, aI_int, r_rU, r_addI, r_addS, r_sub, r_mul, r_div, r_mod, r_pow, r_lt, r_le, r_gt, r_ge, r_ixS, r_ix, r_set, r_lenS, r_int, r_truN, r_truB, r_truI, r_truS, r_truR, AlT_cc, AlT_nil, AlT_cnil, AlS_lst, AlS_tup, AlC_lst, AlC_tup, a1_int, a2_int, lstO_lst, tupO_tup, seqO_eq, seqO_lst, seqO_tup, lenO_lst, lenO_tup, lenO_dK, e_tyR, tyO_t, e_ty, e_tyn, truO_lst, truO_tup, truO_dK, isa_tab, scal_tab, flat_tab, eqV_t, inV_cons, inV_nil, szl, cmul_l, cpow_l, atI_0, atI_1, atI_2, atI_3, ixN_lit, Option.some.injEq, List.length_cons, List.length_nil, List.length_append, List.length_map, Nat.zero_add, Nat.reduceAdd, natc, Int.reduceLE, Int.reduceLT, Int.reduceEq, Int.reduceSub, Int.reduceAdd, Int.reduceNeg, Int.reduceMul, Int.reducePow, Int.reduceToNat, Nat.reduceLeDiff, Nat.reduceLT, Nat.reduceEqDiff, decide_eq_true_eq, decide_eq_false_iff_not, decide_true, decide_false, Bool.not_eq_true', Bool.not_eq_false', Bool.not_true, Bool.not_false, Bool.not_not, Bool.or_eq_true, Bool.and_eq_true, Bool.or_false, Bool.false_or, Bool.or_true, Bool.true_or, Bool.and_true, Bool.true_and, Bool.and_false, Bool.false_and, Bool.and_self, List.all_cons, List.all_nil, ofs_inj, String.reduceEq, List.cons.injEq, and_true, true_and, and_self, or_true, true_or, or_false, false_or, V.ty.injEq, V.bl.injEq, V.int.injEq, V.str.injEq, V.ref.injEq, List.nil_append, List.append_nil, List.cons_append, List.getElem?_cons_zero, List.getElem?_cons_succ, List.set_cons_zero, List.set_cons_succ, exists_eq_left', exists_eq_left, exists_eq, Bool.false_eq_true, Bool.true_eq_false, reduceCtorEq, not_true_eq_false, not_false_eq_true, eq_self, List.isEmpty_cons, List.isEmpty_nil, wipe, insO_ins, insD_ins, isO_tab, isO_ref, isR_tab, snO_tab, lk_tab, putF_nil, putF_tab, isLs_lst, tyL, m1_self, cutV_1, cutV_to1, Int.zero_add, ↓r_raiseO, ↓r_forEn, ↓r_forK, ↓r_ixD, ↓r_inK, ↓r_ninK, ↓r_setK, ↓r_dnew, ↓aDG_ref, ↓aDG2_ref, ↓r_dget2, ↓r_metX, ↓r_met, ↓aMt_ref, ↓r_prop, ↓aPr_ref, ↓aM_ins, ↓r_dcK, ↓r_for3u, ↓a3_int, keyO_t, reduceIte])

namespace K06
open Pg Nam
structure NB (H : Hp) (L B : Addr) (ns : List Str) (bs : List (List In)) : Prop where
  nsA : H L = some (.lst (ns.map V.str))
  bsA : BodiesAt H B bs
  len : bs.length = ns.length
  few : ns.length ≤ 100
  nd : ns.Nodup
  all : ∀ b ∈ bs, AllNm ns b ∧ b.length ≤ 1000
theorem NB.same {H H' : Hp} {L B : Addr} {ns : List Str} {bs : List (List In)} (h : NB H L B ns bs) (s : L2.Same H H') : NB H' L B ns bs := ⟨s _ _ h.nsA, h.bsA.same s, h.len, h.few, h.nd, h.all⟩
theorem zip_at {ns : List Str} {bs : List (List In)} {p : Nat} {z : Str} {b : List In} (h1 : ns[p]? = some z) (h2 : bs[p]? = some b) : (z, b) ∈ prog ns bs := by
  refine List.mem_of_getElem? (i := p) ?_
  unfold prog
  rw [List.getElem?_zip_eq_some]
  exact ⟨h1, h2⟩
theorem zip_names {ns : List Str} {bs : List (List In)} (h : bs.length = ns.length) : names (prog ns bs) = ns := by
  unfold names prog
  exact List.map_fst_zip (by omega)
theorem calls_at {ns : List Str} {bs : List (List In)} (hn : ns.Nodup) (hl : bs.length = ns.length) {p : Nat} {z c : Str} {b : List In} (h1 : ns[p]? = some z) (h2 : bs[p]? = some b) : Calls (prog ns bs) z c ↔ c ∈ nmd b := by
  rw [nmd_mem]
  exact ⟨fun ⟨d, h3, h4⟩ => by rw [body_uniq (by rw [zip_names hl]; exact hn) (zip_at h1 h2) h3]; exact h4, fun h => ⟨b, zip_at h1 h2, h⟩⟩
theorem idx_at {ns : List Str} {z : Str} (h : z ∈ ns) : ∃ j, ns[j]? = some z ∧ ∀ (m : Nat) y, m < j → ns[m]? = some y → y ≠ z := by
  have h1 := List.idxOf_lt_length_iff.mpr h
  refine ⟨ns.idxOf z, by rw [List.getElem?_eq_getElem h1, List.getElem_idxOf h1], fun m y hm hy e => ?_⟩
  obtain ⟨h3, h4⟩ := List.getElem?_eq_some_iff.mp hy
  have h5 : ns.findIdx (· == z) = ns.idxOf z := rfl
  have := List.not_of_lt_findIdx (p := (· == z)) (xs := ns) (i := m) (by rw [h5]; exact hm)
  rw [h4, e] at this
  simp at this
theorem idx_str {K : PySem.W.Frag} {a : Addr} {ns : List Str} {z : Str} {H : Hp} {Q : VK} (h : H a = some (.lst (ns.map V.str))) (hz : z ∈ ns) (q : ∀ j, ns[j]? = some z → Q (.int (j : Nat)) H) : @aM (rIndex K) (.ref a) [.str z] H ⟨Q⟩ := by
  obtain ⟨j, hj, hn⟩ := idx_at hz
  refine idx_of (j := j) h rfl (all_flat _) (by rw [List.getElem?_map, hj]; rfl) (by rw [eqV_t.2]; exact decide_eq_true rfl) (fun m v hm hv => ?_) (q j hj)
  rw [List.getElem?_map] at hv
  cases e : ns[m]? with
  | none => rw [e] at hv; cases hv
  | some y =>
    rw [e] at hv
    cases hv
    rw [eqV_t.2]
    exact decide_eq_false fun h => hn m y hm e h.symm
abbrev intL (l : List Nat) : List V := l.map fun k => V.int (k : Nat)
theorem intL_flat (l : List Nat) : (intL l).all flatV = true := by
  rw [List.all_map, List.all_eq_true]
  intro x _
  rfl
theorem inV_ints (k : Nat) : ∀ l : List Nat, inV (.int (k : Nat)) (intL l) = decide (k ∈ l)
  | [] => by
    show inV _ [] = _
    rw [inV_nil, decide_eq_false (by simp)]
  | c :: l => by
    show inV _ (V.int (c : Nat) :: intL l) = _
    rw [inV_cons, inV_ints k l, eqV_t.1]
    by_cases h : k = c
    · subst h
      simp
    · rw [decide_eq_false (by omega), Bool.false_or]
      congr 1
      simp [h]
def mu2 (n : Nat) (F W : Addr) (H : Hp) : Nat := match H F, H W with
  | some (.lst f), some (.lst w) => 2 * (n - f.length) + w.length
  | _, _ => 0
theorem mu2_at {n : Nat} {F W : Addr} {H : Hp} {f w : List V} (h1 : H F = some (.lst f)) (h2 : H W = some (.lst w)) : mu2 n F W H = 2 * (n - f.length) + w.length := by
  unfold mu2
  simp only [h1, h2]
def t__law_comes_back_1 (K : PySem.W.Frag) : TS :=
  (tSeq (tAsg (tBM K "list" (rIndex K) (uVar 0) (tCons (uVar 6) tNil)) (gName 7))
  (tSeq (tIfS (tTest (tOp rEqS (uVar 7) (uVar 2))) (tRet (tC (.bl true))) tNext)
  (tIfS (tTest (tOp (rInU true) (uVar 7) (uVar 3))) (tSeq (tDrop (tBM K "list" rAppend (uVar 3) (tCons (uVar 7) tNil)))
  (tDrop (tBM K "list" rAppend (uVar 4) (tCons (uVar 7) tNil)))) tNext)))
def t__law_comes_back_2 (K : PySem.W.Frag) : TS :=
  (tSeq (tAsg (tBM0 K "list" rPop (uVar 4)) (gName 5))
  (tFor (iU K (uCall (sp__law_names_of K) [] E0 (tCons (tOp rIxU (uVar 1) (uVar 5)) tNil))) (gName 6) (t__law_comes_back_1 K)))
def t__law_comes_back (K : PySem.W.Frag) : TS :=
  (tSeq (tAsg (tLst tNil) (gName 3))
  (tSeq (tAsg (tLst (tCons (uVar 2) tNil)) (gName 4))
  (tSeq (tWhile (tTest (tOp rGtU (tCB rLenU (tCons (uVar 4) tNil)) (tC (.int 0)))) (t__law_comes_back_2 K))
  (tRet (tC (.bl false))))))
structure Srch (P : Prog) (ns : List Str) (s : Nat) (fs ws : List Nat) (pl : Option Nat) : Prop where
  nd : fs.Nodup
  lt : ∀ p ∈ fs, p < ns.length ∧ p ≠ s
  wt : ∀ p ∈ ws, p = s ∨ p ∈ fs
  cl : ∀ p z, (p = s ∨ p ∈ fs) → p ∉ ws → some p ≠ pl → ns[p]? = some z → ∀ b, Calls P z b → ∃ q ∈ fs, ns[q]? = some b
  rc : ∀ p ∈ fs, ∀ y z, ns[s]? = some y → ns[p]? = some z → Tc P y z
def sp__law_comes_back (K : PySem.W.Frag) : Sp := fun vs H Q _ => ∃ (L B : Addr) (ns : List Str) (bs : List (List In)) (s : Nat) (y : Str), vs = [.ref L, .ref B, .int s] ∧ NB H L B ns bs ∧ ns[s]? = some y ∧ ∀ c H', (c = true ↔ Tc (prog ns bs) y y) → L2.Same H H' → Q (.bl c) H'
theorem len__law_comes_back {K : PySem.W.Frag} : ∀ vs H Q E, sp__law_comes_back K vs H Q E → vs.length = 3 := fun _ _ _ _ ⟨_, _, _, _, _, _, e, _⟩ => by rw [e]; rfl
theorem pure__law_comes_back {K : PySem.W.Frag} (vs : List V) (H : Hp) (Q : VK) (E : XK) (h : sp__law_comes_back K vs H Q E) : t__law_comes_back K { nx := fun _ H' => Q .non H', rt := Q } (start ["_law_names_here", "_law_bodies", "_law_start", "_law_found", "_law_waiting", "_law_place", "_law_name", "_law_inner"] vs) H := by
  obtain ⟨L, B, ns, bs, s, y, rfl, nb, hy, q⟩ := h
  have hs := (List.getElem?_eq_some_iff.mp hy).1
  unfold t__law_comes_back
  show tSeq _ _ _ [some (.ref L), some (.ref B), some (.int s), none, none, none, none, none] H
  kpt_turns
  rename_i F H1 n1 W H2 n2
  have nFW : F ≠ W := n2.ne n1.at
  have fF : H F = none := n1.fr
  have fW : H W = none := by rw [← n1.off (Ne.symm nFW)]; exact n2.fr
  have s2 : L2.Same H H2 := n1.same.trans n2.same
  have n2a : H2 W = some (.lst (intL [s])) := n2.at
  refine while_inv (fun σ H' => (∃ (y5 y6 y7 : Option V), σ = [some (.ref L), some (.ref B), some (.int s), some (.ref F), some (.ref W), y5, y6, y7]) ∧ L2.Same H H' ∧ ∃ fs ws, H' F = some (.lst (intL fs)) ∧ H' W = some (.lst (intL ws)) ∧ Srch (prog ns bs) ns s fs ws none ∧ 2 * (ns.length - fs.length) + ws.length ≤ 2 * ns.length + 1) (fun _ H' => mu2 ns.length F W H')
    ⟨⟨_, _, _, rfl⟩, s2, [], [s], n2.old n1.at, n2a, ⟨List.nodup_nil, fun p h => (nomatch h), fun p h => .inl (List.mem_singleton.mp h), fun p z h hn => ?_, fun p h => (nomatch h)⟩, by simp only [List.length_nil, List.length_singleton]; omega⟩ (fun σ H3 R ⟨⟨y5, y6, y7, e⟩, s3, fs, ws, hF, hW, sr, wb⟩ r1 r2 => ?_)
  · rcases h with h | h
    · exact absurd (List.mem_singleton.mpr h) hn
    · cases h
  · subst e
    kfm_turns
    by_cases hw0 : ws = []
    · subst hw0
      rw [decide_eq_false (by decide)]
      refine r2 _ ?_
      kfm_turns
      refine q false H3 ⟨fun h => (by cases h), fun t => absurd t (closed_no (S := fun b => ∃ p ∈ fs, ns[p]? = some b) (fun b hb => ?_) fun a b ⟨p, hp, ha⟩ hb => ?_)⟩ s3
      · obtain ⟨p, hp, e⟩ := sr.cl s y (.inl rfl) (by simp) (by simp) hy b hb
        refine ⟨⟨p, hp, e⟩, fun eb => (sr.lt p hp).2 ?_⟩
        rw [eb, ← hy] at e
        exact (List.getElem?_inj (sr.lt p hp).1 nb.nd).mp e
      · obtain ⟨p', hp', e⟩ := sr.cl p a (.inr hp) (by simp) (by simp) ha b hb
        refine ⟨⟨p', hp', e⟩, fun eb => (sr.lt p' hp').2 ?_⟩
        rw [eb, ← hy] at e
        exact (List.getElem?_inj (sr.lt p' hp').1 nb.nd).mp e
    · have wl : 0 < ws.length := List.length_pos_iff.mpr hw0
      rw [decide_eq_true (by omega)]
      refine r1 _ ?_
      unfold t__law_comes_back_2
      kpt_turns
      rename_i v hv H4 m4
      obtain ⟨pl, hpl, rfl⟩ : ∃ pl, ws[ws.length - 1]? = some pl ∧ v = .int (pl : Nat) := by
        rw [List.getElem?_map] at hv
        cases e : ws[ws.length - 1]? with
        | none => rw [e] at hv; cases hv
        | some k => rw [e] at hv; cases hv; exact ⟨k, rfl, rfl⟩
      have pm := List.mem_of_getElem? hpl
      have pn : pl < ns.length := by
        rcases sr.wt pl pm with h | h
        · rw [h]; exact hs
        · exact (sr.lt pl h).1
      obtain ⟨z, hz⟩ : ∃ z, ns[pl]? = some z := ⟨_, List.getElem?_eq_getElem pn⟩
      have s4 : L2.Same H H4 := Same.mod s3 m4 fW
      have nb4 := nb.same s4
      obtain ⟨bv, hB, lbv, hb⟩ := nb4.bsA
      obtain ⟨b, hbs⟩ : ∃ b, bs[pl]? = some b := ⟨_, List.getElem?_eq_getElem (by rw [nb.len]; exact pn)⟩
      obtain ⟨p, xs, e1, e2, e3⟩ := hb pl b hbs
      obtain ⟨an, bl⟩ := nb.all b (List.mem_of_getElem? hbs)
      have hF4 : H4 F = some (.lst (intL fs)) := m4.old nFW hF
      have hW4 : H4 W = some (.lst (intL ws.dropLast)) := by
        rw [m4.at]
        exact congrArg (fun l => some (HO.lst l)) List.map_dropLast.symm
      have hbv : pl < bv.length := by rw [lbv, nb.len]; exact pn
      kfm_turns
      rename_i v2 hv2
      obtain rfl := Option.some.inj (hv2.symm.trans e1)
      refine Call.by ⟨p, xs, b, ns, rfl, e2, e3, bl, an, fun N H5 nN eN s5 => ?_⟩
      kfm_turns
      have s45 := s4.trans s5
      have hws : ws = ws.dropLast ++ [pl] := by
        have h1 := List.dropLast_concat_getLast hw0
        rw [List.getLast_eq_getElem] at h1
        obtain ⟨_, h2⟩ := List.getElem?_eq_some_iff.mp hpl
        rw [h2] at h1
        exact h1.symm
      have sr0 : Srch (prog ns bs) ns s fs ws.dropLast (some pl) := ⟨sr.nd, sr.lt, fun p hp => sr.wt p ((List.dropLast_sublist _).subset hp), fun p c h1 h2 h3 => sr.cl p c h1 (fun h4 => by
        rw [hws] at h4
        rcases List.mem_append.mp h4 with h4 | h4
        · exact h2 h4
        · exact h3 (by rw [List.mem_singleton.mp h4])) (by simp), sr.rc⟩
      have cz : ∀ c, Calls (prog ns bs) z c ↔ c ∈ nmd b := fun c => calls_at nb.nd nb.len hz hbs
      have toz : ∀ c, Calls (prog ns bs) z c → Tc (prog ns bs) y c := fun c hc => by
        rcases sr.wt pl pm with h | h
        · rw [h, hy] at hz
          cases hz
          exact .single hc
        · exact .tail (sr.rc pl h y z hy hz) hc
      refine loop_seq (xs := (nmd b).map V.str) (seqAt_lst eN) (fun j σ H' => (∃ (y6 y7 : Option V), σ = [some (.ref L), some (.ref B), some (.int s), some (.ref F), some (.ref W), some (.int pl), y6, y7]) ∧ L2.Same H H' ∧ H' N = some (.lst ((nmd b).map V.str)) ∧ ∃ fs' ws', H' F = some (.lst (intL fs')) ∧ H' W = some (.lst (intL ws')) ∧ Srch (prog ns bs) ns s fs' ws' (some pl) ∧
        (∀ c, c ∈ (nmd b).take j → ∃ k ∈ fs', ns[k]? = some c) ∧ (∀ k ∈ fs, k ∈ fs') ∧ 2 * (ns.length - fs'.length) + ws'.length + 1 ≤ 2 * (ns.length - fs.length) + ws.length)
        ⟨⟨_, _, rfl⟩, s45, eN, fs, ws.dropLast, s5 _ _ hF4, s5 _ _ hW4, sr0, fun c h => (by rw [List.take_zero] at h; cases h), fun k h => h, by rw [List.length_dropLast]; omega⟩ (fun j σ H' _ ⟨_, _, h, _⟩ => by rw [h, eN]) (fun j x σ H6 hx ⟨⟨y6, y7, e⟩, s6, hN, fs', ws', hF', hW', sr', got, sub, ms⟩ => ?_) fun σ H6 ⟨⟨y6, y7, e⟩, s6, hN, fs', ws', hF', hW', sr', got, sub, ms⟩ => ?_
      · subst e
        obtain ⟨c, hc, rfl⟩ : ∃ c, (nmd b)[j]? = some c ∧ x = .str c := by
          rw [List.getElem?_map] at hx
          cases e : (nmd b)[j]? with
          | none => rw [e] at hx; cases hx
          | some c => rw [e] at hx; cases hx; exact ⟨c, rfl, rfl⟩
        have cm := List.mem_of_getElem? hc
        have hcz := (cz c).mpr cm
        have cn : c ∈ ns := by
          rw [nmd_mem, callees_mem] at cm
          obtain ⟨i, hi, hi2⟩ := cm
          obtain ⟨z', h1, h2, _⟩ := an i hi
          rw [hi2] at h1
          cases h1
          exact h2
        have nb6 := nb.same s6
        have fN : N ≠ F := fun e => by rw [e, hF4] at nN; cases nN
        have fNW : N ≠ W := fun e => by rw [e, hW4] at nN; cases nN
        have nsA6 := nb6.nsA
        show gName 6 _ _ _ _
        unfold t__law_comes_back_1
        kfm_turns
        refine idx_str nb6.nsA cn fun k hk => ?_
        have kn := (List.getElem?_eq_some_iff.mp hk).1
        have tk : (nmd b).take (j + 1) = (nmd b).take j ++ [c] := by rw [List.take_add_one, hc]; rfl
        kfm_turns
        refine Br.by (fun hks => ?_) fun hks => ?_
        · have hks : k = s := by omega
          subst hks
          rw [hy] at hk
          cases hk
          kfm_turns
          exact q true H6 ⟨fun _ => toz _ hcz, fun _ => rfl⟩ s6
        · have hks : k ≠ s := by omega
          kfm_turns
          refine Cd.by (intL_flat _) ?_
          rw [inV_ints]
          kfm_turns
          refine Br.by (fun hkf => ?_) fun hkf => ?_
          · kfm_turns
            refine ⟨⟨_, _, rfl, rfl⟩, s6, hN, fs', ws', hF', hW', sr', fun c' h => ?_, sub, ms⟩
            rw [tk] at h
            rcases List.mem_append.mp h with h | h
            · exact got c' h
            · rw [List.mem_singleton.mp h]
              exact ⟨k, hkf, hk⟩
          · have lf : fs'.length + 1 ≤ ns.length := by
              have := nodup_len (l := k :: fs') (m := List.range ns.length) (List.nodup_cons.mpr ⟨hkf, sr'.nd⟩) fun x hx => by
                rw [List.mem_range]
                rcases List.mem_cons.mp hx with h | h
                · rw [h]; exact kn
                · exact (sr'.lt x h).1
              rw [List.length_range, List.length_cons] at this
              exact this
            have few := nb.few
            have lw : ws'.length ≤ 1000 := by
              omega
            kpt_turns
            rename_i H7 m7 H8 m8
            have s8 : L2.Same H H8 := Same.mod (Same.mod s6 m7 fF) m8 fW
            refine ⟨⟨_, _, rfl, rfl⟩, s8, m8.old fNW (m7.old fN hN), fs' ++ [k], ws' ++ [k], ?_, ?_, ⟨?_, ?_, ?_, ?_, ?_⟩, fun c' h => ?_, fun k' h => List.mem_append_left _ (sub k' h), ?_⟩
            · rw [m8.old nFW m7.at]
              simp [intL]
            · rw [m8.at]
              simp [intL]
            · refine List.nodup_append.mpr ⟨sr'.nd, List.pairwise_singleton _ _, fun a ha b hb e => hkf ?_⟩
              rw [List.mem_singleton.mp hb] at e
              rw [← e]
              exact ha
            · intro p' hp
              rcases List.mem_append.mp hp with hp | hp
              · exact sr'.lt p' hp
              · rw [List.mem_singleton.mp hp]
                exact ⟨kn, hks⟩
            · intro p' hp
              rcases List.mem_append.mp hp with hp | hp
              · exact (sr'.wt p' hp).imp id fun h => List.mem_append_left _ h
              · exact .inr (List.mem_append_right _ hp)
            · intro p' c' h1 h2 h3 h4 b' h5
              have h6 : p' = s ∨ p' ∈ fs' := by
                rcases h1 with h | h
                · exact .inl h
                · rcases List.mem_append.mp h with h | h
                  · exact .inr h
                  · exact absurd (List.mem_append_right _ h) h2
              obtain ⟨q', hq, e⟩ := sr'.cl p' c' h6 (fun h => h2 (List.mem_append_left _ h)) h3 h4 b' h5
              exact ⟨q', List.mem_append_left _ hq, e⟩
            · intro p' hp y' z' h1 h2
              rcases List.mem_append.mp hp with hp | hp
              · exact sr'.rc p' hp y' z' h1 h2
              · rw [List.mem_singleton.mp hp, hk] at h2
                rw [hy] at h1
                cases h1
                cases h2
                exact toz _ hcz
            · rw [tk] at h
              rcases List.mem_append.mp h with h | h
              · obtain ⟨k', h1, h2⟩ := got c' h
                exact ⟨k', List.mem_append_left _ h1, h2⟩
              · rw [List.mem_singleton.mp h]
                exact ⟨k, List.mem_append_right _ (List.mem_singleton.mpr rfl), hk⟩
            · rw [List.length_append, List.length_append, List.length_singleton]
              omega
      · subst e
        rw [List.length_map, List.take_length] at got
        refine ⟨⟨⟨_, _, _, rfl⟩, s6, fs', ws', hF', hW', ⟨sr'.nd, sr'.lt, sr'.wt, fun p' c' h1 h2 _ h4 b' h5 => ?_, sr'.rc⟩, by omega⟩, ?_⟩
        · by_cases e : p' = pl
          · rw [e, hz] at h4
            cases h4
            exact got b' ((cz b').mp h5)
          · exact sr'.cl p' c' h1 h2 (fun h => e (Option.some.inj h)) h4 b' h5
        · show mu2 _ _ _ _ < mu2 _ _ _ _
          rw [mu2_at hF' hW', mu2_at hF hW]
          rw [List.length_map, List.length_map, List.length_map, List.length_map]
          omega
end K06
end U
end

section
namespace U
open PySem PySem.Spec PyProof.Rows L2
local macro_rules | `(tactic| tb_start) => `(tactic| first
  | assumption
  | (refine Ne.symm ?_; assumption)
  | ((with_reducible apply New.ne); (focus assumption); (focus tb_rel); done)
  | (refine Ne.symm ?_; (with_reducible apply New.ne); (focus assumption); (focus tb_rel); done)
  | ((with_reducible apply neN); (focus assumption); (focus tb_rel); done)
  | (refine Ne.symm ?_; (with_reducible apply neN); (focus assumption); (focus tb_rel); done)
  | ((with_reducible apply DrawsOk.neN); (focus assumption); (focus kct_strs); done)
  | ((with_reducible apply DrawsOk.neLN); (focus assumption); (focus kct_strs); done)
  | ((with_reducible apply DrawsOk.ne'); (focus assumption); (focus kct_strs); done)
  | ((with_reducible apply DrawsOk.neL'); (focus assumption); (focus kct_strs); done)
  | ((with_reducible apply DrawsOk.other'); (focus assumption); (focus tb_rel); (focus rfl); done)
  | ((with_reducible apply DrawsOk.otherL); (focus assumption); (focus tb_rel); (focus rfl); done)
  | ((with_reducible apply ne_kd); (focus assumption); (focus tb_rel); (focus (intro h; cases h; done)); done))
local macro_rules | `(tactic| tb_rel) => `(tactic| first
  | assumption
  | exact New.at (by assumption)
  | exact Mod.at (by assumption)
  | ((with_reducible apply New.old); (focus assumption); tb_rel)
  | ((with_reducible apply Mod.lk); (focus assumption); (focus tb_rel); focus tb_start)
  | ((with_reducible apply Keep.lk); (focus assumption); (focus tb_rel); focus tb_start)
  | ((with_reducible apply Same.at); (focus assumption); tb_rel))
local macro_rules | `(tactic| kct_strs) => `(tactic| first
  | assumption
  | (refine New.draws (by assumption) ?_; kct_strs)
  | (refine DrawsOk.same ?_ (by assumption); kct_strs)
  | (refine Mod.draws (by assumption) ?_ ?_ ?_; (kct_strs); (focus tb_start); focus tb_start))
local macro_rules | `(tactic| k_updF) => `(tactic| first
  | assumption
  | exact L2.Same.refl _
  | (refine Same.new ?_ (by assumption); k_updF)
  | (refine L2.Same.trans ?_ (by assumption); k_updF)
  | (refine Same.mod ?_ (by assumption) ?_; (k_updF); lcg_sub))
local macro_rules | `(tactic| k_memK) => `(tactic| first
  | assumption
  | exact Keep.refl _ _
  | (refine Keep.new' ?_ (by assumption); k_memK)
  | (refine Keep.trans ?_ (by assumption); k_memK)
  | (refine Keep.trans ?_ (Keep.same' (by assumption)); k_memK)
  | (refine Keep.modd ?_ (by assumption); k_memK)
  | (refine Keep.mod ?_ (by assumption) ?_; (k_memK); lcg_sub))
local macro_rules | `(tactic| lcg_sub) => `(tactic| first
  | assumption
  | exact New.fr (by assumption)
  | (refine Same.none ?_ (New.fr (by assumption)); k_updF)
  | (refine Keep.fresh (D := ?_) ?_ ?_ ?_ (New.fr (by assumption)); rotate_left; (k_memK); (kct_strs); (kct_strs)))
local macro_rules | `(tactic| k_upd) => `(tactic| first
  | assumption
  | exact Kl.refl _
  | (refine Kl.trans ?_ (New.kl (by assumption)); k_upd)
  | (refine Kl.trans ?_ (Same.kl (by assumption)); k_upd)
  | (refine Kl.trans ?_ (Mod.kl (by assumption) (by tb_rel)); k_upd)
  | (refine Kl.trans ?_ (Keep.kl (by assumption) (by kct_strs)); k_upd)
  | (refine Kl.trans ?_ (by assumption); k_upd))
local macro_rules | `(tactic| kst_all1) => `(tactic| first
  | assumption | omega | (with_reducible rfl)
  | (simp only [List.length_append, List.length_map, List.length_set, List.length_take, List.length_drop, List.length_cons, List.length_nil, List.length_replicate]; omega)
  | (refine ⟨?_, ?_⟩ <;> kst_all1)
  | decide)
local macro_rules | `(tactic| k_allIn) => `(tactic| first
  | ((with_reducible apply OKl); (focus tb_rel))
  | ((with_reducible apply OKd); (focus tb_rel))
  | ((with_reducible apply OKdf); (focus tb_rel))
  | ((with_reducible apply OKd1); (focus tb_rel))
  | ((with_reducible apply OKt); (focus tb_rel))
  | ((with_reducible apply OKql); (focus tb_rel))
  | ((with_reducible apply OKqt); (focus tb_rel))
  | ((with_reducible apply OKnl); (focus tb_rel))
  | ((with_reducible apply OKnt); (focus tb_rel))
  | ((with_reducible apply OKnd); (focus tb_rel))
  | ((with_reducible apply OKyl); (focus tb_rel))
  | ((with_reducible apply OKyt); (focus tb_rel))
  | ((with_reducible apply OKyd); (focus tb_rel))
  | ((with_reducible apply OKbl); (focus tb_rel))
  | ((with_reducible apply OKbt); (focus tb_rel))
  | ((with_reducible apply OKbd); (focus tb_rel))
  | ((with_reducible apply OKi); (focus tb_rel))
  | ((with_reducible apply OKj); (focus tb_rel))
  | ((with_reducible apply OKr); (focus tb_rel))
  | ((with_reducible apply OKrt); (focus tb_rel))
  | ((with_reducible apply OKrl); (focus tb_rel))
  | ((with_reducible apply OKsl); (focus tb_rel))
  | ((with_reducible apply OKst); (focus tb_rel))
  | ((with_reducible apply AlS_l); (focus tb_rel))
  | ((with_reducible apply AlS_t); (focus tb_rel))
  | ((with_reducible apply AlC_l); (focus tb_rel))
  | ((with_reducible apply AlC_t); (focus tb_rel))
  | ((with_reducible apply OKn); (focus kst_all1); intro v h)
  | ((with_reducible apply OKl1); (focus kst_all1); intro v h)
  | ((with_reducible apply OKl2); (focus kst_all1); intro v h)
  | ((with_reducible apply OKlk); (focus kst_all1); intro v h)
  | ((with_reducible apply OKln); (focus kst_all1); intro v h)
  | ((with_reducible apply OKg); (focus kst_all1); intro v h)
  | ((with_reducible apply OKxn); (focus kst_all1))
  | ((with_reducible apply OKsi); (focus kst_all1))
  | ((with_reducible apply OKsm); (focus kst_all1))
  | ((with_reducible refine OKa ?_ ?_ ?_); (focus kst_all1); (focus kst_all1); intro j v e h))
local macro_rules | `(tactic| kfm_turns) => `(tactic| repeat first
  | kpc_turns
  | k_allIn
  | l_intsW
  | ((with_reducible apply CdL); (focus tb_rel))
  | ((with_reducible refine Cd.by ?_ ?_); (focus kst_all1))
  | ((with_reducible refine Br.yes ?_ ?_); (focus (first | assumption | omega)))
  | ((with_reducible refine Br.no ?_ ?_); (focus (first | assumption | omega))))
local macro_rules | `(tactic| kpt_turns) => `(tactic| repeat first
  | kpc_turns
  | k_allIn
  | l_intsW
  | (with_reducible refine Al.by fun p H' n => ?_)
  | (with_reducible refine Md.by fun H' m => ?_)
  | ((with_reducible apply CdL); (focus tb_rel))
  | ((with_reducible refine Cd.by ?_ ?_); (focus kst_all1))
  | ((with_reducible refine Br.yes ?_ ?_); (focus (first | assumption | omega)))
  | ((with_reducible refine Br.no ?_ ?_); (focus (first | assumption | omega))))
local macro_rules | `(tactic| nest_cls) => `(tactic| repeat' first
  | kpc_turns
  | k_allIn
  | l_intsW
  | (with_reducible refine Al.by fun p H' n => ?_)
  | (with_reducible refine Md.by fun H' m => ?_)
  | ((with_reducible apply CdL); (focus tb_rel))
  | ((with_reducible refine Cd.by ?_ ?_); (focus kst_all1))
  | ((with_reducible refine Br.yes ?_ ?_); (focus (first | assumption | omega)))
  | ((with_reducible refine Br.no ?_ ?_); (focus (first | assumption | omega)))
  | (with_reducible refine Br.by (fun h => ?_) fun h => ?_))
local macro_rules | `(tactic| kpc_turns) => `(tactic| simp (config := {maxSteps := 4000000}) only [↓r_divm, ↓r_min, ↓r_max, ↓r_abs, ↓r_strI, ↓r_intT, ↓aM_zf, ↓aM_ls, ↓aM_rs, ↓aM_spl, ↓r_mulX, ↓r_rev, ↓r_revR, tyS, ↓un_nx, ↓in_some, ↓in_none, ↓r_cd, ↓aM_pop, ↓aM_popAt, ↓r_tryL, ↓r_fld, ↓r_setF, ↓aSF_ref, ↓r_isO, ↓r_eqO, ↓r_eqN, ↓r_neN, ↓r_gsq, ↓aGs_eq, ↓r_gcons, ↓r_gnil, ↓r_isB, ↓r_bm1, ↓r_bm0, ↓aM_app, ↓r_callX, ↓r_raise0, ↓r_tryAs, ↓r_tryOnly, ↓r_seq, ↓r_ifS, ↓r_or, ↓r_and, ↓r_not, ↓r_next, ↓r_ret, ↓r_retN, ↓r_brk, ↓r_cnt, ↓r_drop, ↓r_asg, ↓r_test, ↓r_yes, ↓r_c, ↓r_nil, ↓r_cons, ↓r_var0, ↓r_varS, ↓r_name0, ↓r_nameS, ↓r_op, ↓r_un, ↓r_rU, ↓r_chain, ↓r_andV, ↓r_orV, ↓r_notV, ↓r_call, ↓r_cb, ↓r_tup, ↓r_lst, ↓r_sl, ↓r_noPart, ↓r_part, ↓r_gsub, ↓kB_a, ↓aB_bl, ↓kI_a, ↓aI_int, ↓OK_some, ↓Br_true, ↓Br_false, ↓Cd_true, ↓r_addI, ↓r_addS, ↓r_addUI, ↓r_addUS, ↓r_addL, ↓AlT_cc, ↓AlT_nil, ↓AlT_cnil, ↓r_addT, ↓r_sub, ↓r_mul, ↓r_div, ↓r_mod, ↓r_pow, ↓r_lt, ↓r_le, ↓r_gt, ↓r_ge, ↓r_eq, ↓r_ne, ↓r_isN, ↓r_notN, ↓r_inS, ↓r_ninS, ↓r_in, ↓r_nin, ↓r_inG, ↓r_ninG, ↓r_ixS, ↓r_ix, ↓r_set, ↓r_slS, ↓AlS_lst, ↓AlS_tup, ↓r_slR, ↓r_lenS, ↓r_lenR, ↓r_listU, ↓AlC_lst, ↓AlC_tup, ↓r_tupleU, ↓r_int, ↓r_isi, ↓r_tru, ↓r_truN, ↓r_truB, ↓r_truI, ↓r_truS, ↓r_truR, ↓aL_ref, ↓a1_int, ↓a2_int, ↓r_for1, ↓r_for2, ↓r_for, ↓r_lc, ↓r_lc1, ↓r_lc2,
  OK_some, Br_true, Br_false, Br_not, Cd_true, aB_bl, aI_int, r_rU, r_addI, r_addS, r_sub, r_mul, r_div, r_mod, r_pow, r_lt, r_le, r_gt, r_ge, r_ixS, r_ix, r_set, r_lenS, r_int, r_truN, r_truB, r_truI, r_truS, r_truR, AlT_cc, AlT_nil, AlT_cnil, AlS_lst, AlS_tup, AlC_lst, AlC_tup, a1_int, a2_int, lstO_lst, tupO_tup, seqO_eq, seqO_lst, seqO_tup, lenO_lst, lenO_tup, lenO_dK, e_tyR, tyO_t, e_ty, e_tyn, truO_lst, truO_tup, truO_dK, isa_tab, scal_tab, flat_tab, eqV_t, inV_cons, inV_nil, szl, cmul_l, cpow_l, atI_0, atI_1, atI_2, atI_3, ixN_lit, Option.some.injEq, List.length_cons, List.length_nil, List.length_append, List.length_map, Nat.zero_add, Nat.reduceAdd, natc, Int.reduceLE, Int.reduceLT, Int.reduceEq, Int.reduceSub, Int.reduceAdd, Int.reduceNeg, Int.reduceMul, Int.reducePow, Int.reduceToNat, Nat.reduceLeDiff, Nat.reduceLT, Nat.reduceEqDiff, decide_eq_true_eq, decide_eq_false_iff_not, decide_true, decide_false, Bool.not_eq_true', Bool.not_eq_false', Bool.not_true, Bool.not_false, Bool.not_not, Bool.or_eq_true, Bool.and_eq_true, Bool.or_false, Bool.false_or, Bool.or_true, Bool.true_or, Bool.and_true, Bool.true_and, Bool.and_false, Bool.false_and, Bool.and_self, List.all_cons, List.all_nil, ofs_inj, String.reduceEq, List.cons.injEq, and_true, true_and, and_self, or_true, true_or, or_false, false_or, V.ty.injEq, V.bl.injEq, V.int.injEq, V.str.injEq, V.ref.injEq, List.nil_append, List.append_nil, List.cons_append, List.getElem?_cons_zero, List.getElem?_cons_succ, List.set_cons_zero, List.set_cons_succ, exists_eq_left', exists_eq_left, exists_eq, Bool.false_eq_true, Bool.true_eq_false, reduceCtorEq, not_true_eq_false, not_false_eq_true, eq_self, List.isEmpty_cons, List.isEmpty_nil, wipe, insO_ins, insD_ins, isO_tab, isO_ref, isR_tab, snO_tab, lk_tab, putF_nil, putF_tab, isLs_lst, tyL, m1_self, cutV_1, cutV_to1, Int.zero_add, ↓r_raiseO, ↓r_forEn, ↓r_forK, ↓r_ixD, ↓r_inK, ↓r_ninK, ↓r_setK, ↓r_dnew, ↓aDG_ref, ↓aDG2_ref, ↓r_dget2, ↓r_metX, ↓r_met, ↓aMt_ref, ↓r_prop, ↓aPr_ref, ↓aM_ins, ↓r_dcK, ↓r_for3u, ↓a3_int, keyO_t, reduceIte])

namespace K06
open Pg Nam
def t__law_is_ring_1 (K : PySem.W.Frag) : TS :=
  (tSeq (tIfS (tOr (tTest (tOp (rInU true) (tOp rIxU (uVar 2) (uVar 3)) (uVar 0))) (tTest (tOp (rInU false) (tOp rIxU (uVar 2) (uVar 3)) (tSl rSlU (uVar 2) tNoPart (uPart (uVar 3)))))) (tRet (tC (.bl false))) tNext)
  (tSeq (tAsg (tOp rIxU (uVar 1) (tBM K "list" (rIndex K) (uVar 0) (tCons (tOp rIxU (uVar 2) (uVar 3)) tNil))) (gName 4))
  (tIfS (tTest (tOp (rInU true) (tOp rIxU (uVar 2) (tOp rModU (tCB rIntCall (tCons (tOp rAddI (uVar 3) (tC (.int 1))) tNil)) (tCB rLenU (tCons (uVar 2) tNil)))) (uCall (sp__law_names_of K) [] E0 (tCons (uVar 4) tNil)))) (tRet (tC (.bl false))) tNext)))
def t__law_is_ring (K : PySem.W.Frag) : TS :=
  (tSeq (tIfS (tOr (tNot (uTru (tCB (rIsi .tup) (tCons (uVar 2) (tCons (tC (.ty "tuple")) tNil))))) (tTest (tOp rEqS (tCB rLenU (tCons (uVar 2) tNil)) (tC (.int 0))))) (tRet (tC (.bl false))) tNext)
  (tSeq (tFor (iRng1 (tCons (tCB rLenU (tCons (uVar 2) tNil)) tNil)) (gName 3) (t__law_is_ring_1 K))
  (tRet (tC (.bl true)))))
def sp__law_is_ring (K : PySem.W.Frag) : Sp := fun vs H Q _ => ∃ (L B t : Addr) (ns r : List Str) (bs : List (List In)), vs = [.ref L, .ref B, .ref t] ∧ NB H L B ns bs ∧ H t = some (.tup (r.map V.str)) ∧ IsRing (prog ns bs) r ∧ ∀ H', L2.Same H H' → Q (.bl true) H'
theorem len__law_is_ring {K : PySem.W.Frag} : ∀ vs H Q E, sp__law_is_ring K vs H Q E → vs.length = 3 := fun _ _ _ _ ⟨_, _, _, _, _, _, e, _⟩ => by rw [e]; rfl
theorem ring_few {P : Prog} {r : List Str} (h : IsRing P r) : ∀ c ∈ r, c ∈ names P ∧ ∃ d, r[(r.idxOf c + 1) % r.length]? = some d ∧ Calls P c d := by
  intro c hc
  have h1 := List.idxOf_lt_length_iff.mpr hc
  have e1 : r[r.idxOf c]? = some c := by rw [List.getElem?_eq_getElem h1, List.getElem_idxOf h1]
  obtain ⟨d, h2, h3⟩ : ∃ d, r[(r.idxOf c + 1) % r.length]? = some d ∧ Calls P c d := by
    obtain ⟨d, hd⟩ : ∃ d, r[(r.idxOf c + 1) % r.length]? = some d := ⟨_, List.getElem?_eq_getElem (Nat.mod_lt _ (by omega))⟩
    refine ⟨d, hd, ?_⟩
    by_cases e : r.idxOf c + 1 < r.length
    · rw [Nat.mod_eq_of_lt e] at hd
      exact h.ch _ _ _ e1 hd
    · have e' : r.idxOf c + 1 = r.length := by omega
      rw [e', Nat.mod_self] at hd
      exact h.back _ _ (by rw [← e']; exact e1) hd
  refine ⟨?_, d, h2, h3⟩
  obtain ⟨b, hb, _⟩ := h3
  exact List.mem_map.mpr ⟨_, hb, rfl⟩
theorem sIx_to {n b : Nat} (h2 : b ≤ n) : HT.sIx n n (some (b : Int)) = b := by
  show (if (b : Int) < 0 then ((b : Int) + (n : Int)).toNat else min (b : Int).toNat n) = b
  rw [if_neg (by omega), Int.toNat_natCast]
  omega
theorem cutV_to {xs : List V} {b : Nat} (h2 : b ≤ xs.length) : cutV xs none (some (b : Int)) = xs.take b := by
  show ((xs.drop 0).take (HT.sIx xs.length xs.length (some (b : Int)) - 0)) = _
  rw [sIx_to h2]
  rfl
theorem nowhole {n b : Nat} (h2 : b < n) : ¬ wholeT n none (some (b : Int)) := fun h => by
  have := h.2
  rw [sIx_to (by omega)] at this
  omega
theorem pure__law_is_ring {K : PySem.W.Frag} (vs : List V) (H : Hp) (Q : VK) (E : XK) (h : sp__law_is_ring K vs H Q E) : t__law_is_ring K { nx := fun _ H' => Q .non H', rt := Q } (start ["_law_names_here", "_law_bodies", "_law_ring", "_law_k", "_law_body"] vs) H := by
  obtain ⟨L, B, t, ns, r, bs, rfl, nb, ht, ir, q⟩ := h
  have r0 : 0 < r.length := List.length_pos_iff.mpr ir.ne
  have zn := zip_names nb.len
  have rl : r.length ≤ 100 := by
    have := nodup_len ir.nd fun x hx => by
      have := (ring_few ir x hx).1
      rw [zn] at this
      exact this
    have := nb.few
    omega
  unfold t__law_is_ring
  show tSeq _ _ _ [some (.ref L), some (.ref B), some (.ref t), none, none] H
  kfm_turns
  refine loop_rng (fun i σ H' => L2.Same H H' ∧ ∃ (y3 y4 : Option V), σ = [some (.ref L), some (.ref B), some (.ref t), y3, y4]) ⟨L2.Same.refl _, _, _, rfl⟩ (fun i σ H2 hi ⟨s2, y3, y4, e⟩ => ?_) fun σ H2 ⟨s2, y3, y4, e⟩ => ?_
  · subst e
    obtain ⟨c, hc⟩ : ∃ c, r[i]? = some c := ⟨_, List.getElem?_eq_getElem hi⟩
    have nb2 := nb.same s2
    have ht2 := s2 _ _ ht
    have nsA := nb2.nsA
    have cr := List.mem_of_getElem? hc
    obtain ⟨cn, d, hd, cd⟩ := ring_few ir c cr
    have ei : r.idxOf c = i := by
      have h1 := List.idxOf_lt_length_iff.mpr cr
      refine (List.getElem?_inj h1 ir.nd).mp ?_
      rw [hc, List.getElem?_eq_getElem h1, List.getElem_idxOf h1]
    rw [ei] at hd
    rw [zn] at cn
    show gName 3 _ _ _ _
    unfold t__law_is_ring_1
    kpt_turns
    rename_i v hv
    obtain rfl : v = .str c := by rw [List.getElem?_map, hc] at hv; cases hv; rfl
    refine Cd.by ⟨rfl, all_flat _⟩ ?_
    rw [inV_strs, decide_eq_true cn]
    kpt_turns
    rename_i v hv
    obtain rfl : v = .str c := by rw [List.getElem?_map, hc] at hv; cases hv; rfl
    have ir2 : i < r.length := by omega
    have cm : cutV (r.map V.str) none (some (i : Int)) = (r.take i).map V.str := by
      rw [cutV_to (by rw [List.length_map]; omega), List.map_take]
    have cni : c ∉ r.take i := fun h => by
      obtain ⟨j, hj, e⟩ := List.mem_iff_getElem.mp h
      rw [List.length_take] at hj
      rw [List.getElem_take] at e
      have := (List.getElem?_inj (i := j) (j := i) (by omega) ir.nd).mp (by rw [List.getElem?_eq_getElem (by omega), e, hc])
      omega
    refine Br.no (nowhole ir2) ?_
    rw [cm]
    kpt_turns
    refine Cd.by (all_flat _) ?_
    rw [inV_strs, decide_eq_false cni]
    kpt_turns
    rename_i p3 H3 n3 v hv
    obtain rfl : v = .str c := by rw [List.getElem?_map, hc] at hv; cases hv; rfl
    have s3 := s2.trans n3.same
    have nb3 := nb.same s3
    refine idx_str nb3.nsA cn fun k hk => ?_
    have kn := (List.getElem?_eq_some_iff.mp hk).1
    obtain ⟨bv, hB, lbv, hb⟩ := nb3.bsA
    obtain ⟨b, hbs⟩ : ∃ b, bs[k]? = some b := ⟨_, List.getElem?_eq_getElem (by rw [nb.len]; exact kn)⟩
    obtain ⟨p, xs, e1, e2, e3⟩ := hb k b hbs
    obtain ⟨an, bl⟩ := nb.all b (List.mem_of_getElem? hbs)
    have hbv : k < bv.length := by rw [lbv, nb.len]; exact kn
    have cz := calls_at (c := d) nb.nd nb.len hk hbs
    have ht3 := s3 _ _ ht
    kpt_turns
    rename_i v hv2
    obtain rfl := Option.some.inj (hv2.symm.trans e1)
    have md : ((i : Int) + 1) % (r.length : Int) = (((i + 1) % r.length : Nat) : Int) := by
      rw [Int.natCast_emod]
      rfl
    have ml : (i + 1) % r.length < r.length := Nat.mod_lt _ r0
    rw [md]
    kpt_turns
    rename_i v hv3
    obtain rfl : v = .str d := by rw [List.getElem?_map, hd] at hv3; cases hv3; rfl
    refine Call.by ⟨p, xs, b, ns, rfl, e2, e3, bl, an, fun N H5 nN eN s5 => ?_⟩
    kpt_turns
    refine Cd.by (all_flat _) ?_
    rw [inV_strs, decide_eq_true (cz.mp cd)]
    kpt_turns
    exact ⟨s3.trans s5, _, _, rfl, rfl⟩
  · subst e
    kfm_turns
    exact q _ s2
end K06
end U
end

section
namespace U
open PySem PySem.Spec PyProof.Rows L2
local macro_rules | `(tactic| tb_start) => `(tactic| first
  | assumption
  | (refine Ne.symm ?_; assumption)
  | ((with_reducible apply New.ne); (focus assumption); (focus tb_rel); done)
  | (refine Ne.symm ?_; (with_reducible apply New.ne); (focus assumption); (focus tb_rel); done)
  | ((with_reducible apply neN); (focus assumption); (focus tb_rel); done)
  | (refine Ne.symm ?_; (with_reducible apply neN); (focus assumption); (focus tb_rel); done)
  | ((with_reducible apply DrawsOk.neN); (focus assumption); (focus kct_strs); done)
  | ((with_reducible apply DrawsOk.neLN); (focus assumption); (focus kct_strs); done)
  | ((with_reducible apply DrawsOk.ne'); (focus assumption); (focus kct_strs); done)
  | ((with_reducible apply DrawsOk.neL'); (focus assumption); (focus kct_strs); done)
  | ((with_reducible apply DrawsOk.other'); (focus assumption); (focus tb_rel); (focus rfl); done)
  | ((with_reducible apply DrawsOk.otherL); (focus assumption); (focus tb_rel); (focus rfl); done)
  | ((with_reducible apply ne_kd); (focus assumption); (focus tb_rel); (focus (intro h; cases h; done)); done))
local macro_rules | `(tactic| tb_rel) => `(tactic| first
  | assumption
  | exact New.at (by assumption)
  | exact Mod.at (by assumption)
  | ((with_reducible apply New.old); (focus assumption); tb_rel)
  | ((with_reducible apply Mod.lk); (focus assumption); (focus tb_rel); focus tb_start)
  | ((with_reducible apply Keep.lk); (focus assumption); (focus tb_rel); focus tb_start)
  | ((with_reducible apply Same.at); (focus assumption); tb_rel))
local macro_rules | `(tactic| kct_strs) => `(tactic| first
  | assumption
  | (refine New.draws (by assumption) ?_; kct_strs)
  | (refine DrawsOk.same ?_ (by assumption); kct_strs)
  | (refine Mod.draws (by assumption) ?_ ?_ ?_; (kct_strs); (focus tb_start); focus tb_start))
local macro_rules | `(tactic| k_updF) => `(tactic| first
  | assumption
  | exact L2.Same.refl _
  | (refine Same.new ?_ (by assumption); k_updF)
  | (refine L2.Same.trans ?_ (by assumption); k_updF)
  | (refine Same.mod ?_ (by assumption) ?_; (k_updF); lcg_sub))
local macro_rules | `(tactic| k_memK) => `(tactic| first
  | assumption
  | exact Keep.refl _ _
  | (refine Keep.new' ?_ (by assumption); k_memK)
  | (refine Keep.trans ?_ (by assumption); k_memK)
  | (refine Keep.trans ?_ (Keep.same' (by assumption)); k_memK)
  | (refine Keep.modd ?_ (by assumption); k_memK)
  | (refine Keep.mod ?_ (by assumption) ?_; (k_memK); lcg_sub))
local macro_rules | `(tactic| lcg_sub) => `(tactic| first
  | assumption
  | exact New.fr (by assumption)
  | (refine Same.none ?_ (New.fr (by assumption)); k_updF)
  | (refine Keep.fresh (D := ?_) ?_ ?_ ?_ (New.fr (by assumption)); rotate_left; (k_memK); (kct_strs); (kct_strs)))
local macro_rules | `(tactic| k_upd) => `(tactic| first
  | assumption
  | exact Kl.refl _
  | (refine Kl.trans ?_ (New.kl (by assumption)); k_upd)
  | (refine Kl.trans ?_ (Same.kl (by assumption)); k_upd)
  | (refine Kl.trans ?_ (Mod.kl (by assumption) (by tb_rel)); k_upd)
  | (refine Kl.trans ?_ (Keep.kl (by assumption) (by kct_strs)); k_upd)
  | (refine Kl.trans ?_ (by assumption); k_upd))
local macro_rules | `(tactic| kst_all1) => `(tactic| first
  | assumption | omega | (with_reducible rfl)
  | (simp only [List.length_append, List.length_map, List.length_set, List.length_take, List.length_drop, List.length_cons, List.length_nil, List.length_replicate]; omega)
  | (refine ⟨?_, ?_⟩ <;> kst_all1)
  | decide)
local macro_rules | `(tactic| k_allIn) => `(tactic| first
  | ((with_reducible apply OKl); (focus tb_rel))
  | ((with_reducible apply OKd); (focus tb_rel))
  | ((with_reducible apply OKdf); (focus tb_rel))
  | ((with_reducible apply OKd1); (focus tb_rel))
  | ((with_reducible apply OKt); (focus tb_rel))
  | ((with_reducible apply OKql); (focus tb_rel))
  | ((with_reducible apply OKqt); (focus tb_rel))
  | ((with_reducible apply OKnl); (focus tb_rel))
  | ((with_reducible apply OKnt); (focus tb_rel))
  | ((with_reducible apply OKnd); (focus tb_rel))
  | ((with_reducible apply OKyl); (focus tb_rel))
  | ((with_reducible apply OKyt); (focus tb_rel))
  | ((with_reducible apply OKyd); (focus tb_rel))
  | ((with_reducible apply OKbl); (focus tb_rel))
  | ((with_reducible apply OKbt); (focus tb_rel))
  | ((with_reducible apply OKbd); (focus tb_rel))
  | ((with_reducible apply OKi); (focus tb_rel))
  | ((with_reducible apply OKj); (focus tb_rel))
  | ((with_reducible apply OKr); (focus tb_rel))
  | ((with_reducible apply OKrt); (focus tb_rel))
  | ((with_reducible apply OKrl); (focus tb_rel))
  | ((with_reducible apply OKsl); (focus tb_rel))
  | ((with_reducible apply OKst); (focus tb_rel))
  | ((with_reducible apply AlS_l); (focus tb_rel))
  | ((with_reducible apply AlS_t); (focus tb_rel))
  | ((with_reducible apply AlC_l); (focus tb_rel))
  | ((with_reducible apply AlC_t); (focus tb_rel))
  | ((with_reducible apply OKn); (focus kst_all1); intro v h)
  | ((with_reducible apply OKl1); (focus kst_all1); intro v h)
  | ((with_reducible apply OKl2); (focus kst_all1); intro v h)
  | ((with_reducible apply OKlk); (focus kst_all1); intro v h)
  | ((with_reducible apply OKln); (focus kst_all1); intro v h)
  | ((with_reducible apply OKg); (focus kst_all1); intro v h)
  | ((with_reducible apply OKxn); (focus kst_all1))
  | ((with_reducible apply OKsi); (focus kst_all1))
  | ((with_reducible apply OKsm); (focus kst_all1))
  | ((with_reducible refine OKa ?_ ?_ ?_); (focus kst_all1); (focus kst_all1); intro j v e h))
local macro_rules | `(tactic| kfm_turns) => `(tactic| repeat first
  | kpc_turns
  | k_allIn
  | l_intsW
  | ((with_reducible apply CdL); (focus tb_rel))
  | ((with_reducible refine Cd.by ?_ ?_); (focus kst_all1))
  | ((with_reducible refine Br.yes ?_ ?_); (focus (first | assumption | omega)))
  | ((with_reducible refine Br.no ?_ ?_); (focus (first | assumption | omega))))
local macro_rules | `(tactic| kpt_turns) => `(tactic| repeat first
  | kpc_turns
  | k_allIn
  | l_intsW
  | (with_reducible refine Al.by fun p H' n => ?_)
  | (with_reducible refine Md.by fun H' m => ?_)
  | ((with_reducible apply CdL); (focus tb_rel))
  | ((with_reducible refine Cd.by ?_ ?_); (focus kst_all1))
  | ((with_reducible refine Br.yes ?_ ?_); (focus (first | assumption | omega)))
  | ((with_reducible refine Br.no ?_ ?_); (focus (first | assumption | omega))))
local macro_rules | `(tactic| nest_cls) => `(tactic| repeat' first
  | kpc_turns
  | k_allIn
  | l_intsW
  | (with_reducible refine Al.by fun p H' n => ?_)
  | (with_reducible refine Md.by fun H' m => ?_)
  | ((with_reducible apply CdL); (focus tb_rel))
  | ((with_reducible refine Cd.by ?_ ?_); (focus kst_all1))
  | ((with_reducible refine Br.yes ?_ ?_); (focus (first | assumption | omega)))
  | ((with_reducible refine Br.no ?_ ?_); (focus (first | assumption | omega)))
  | (with_reducible refine Br.by (fun h => ?_) fun h => ?_))
local macro_rules | `(tactic| kpc_turns) => `(tactic| simp (config := {maxSteps := 4000000}) only [↓r_divm, ↓r_min, ↓r_max, ↓r_abs, ↓r_strI, ↓r_intT, ↓aM_zf, ↓aM_ls, ↓aM_rs, ↓aM_spl, ↓r_mulX, ↓r_rev, ↓r_revR, tyS, ↓un_nx, ↓in_some, ↓in_none, ↓r_cd, ↓aM_pop, ↓aM_popAt, ↓r_tryL, ↓r_fld, ↓r_setF, ↓aSF_ref, ↓r_isO, ↓r_eqO, ↓r_eqN, ↓r_neN, ↓r_gsq, ↓aGs_eq, ↓r_gcons, ↓r_gnil, ↓r_isB, ↓r_bm1, ↓r_bm0, ↓aM_app, ↓r_callX, ↓r_raise0, ↓r_tryAs, ↓r_tryOnly, ↓r_seq, ↓r_ifS, ↓r_or, ↓r_and, ↓r_not, ↓r_next, ↓r_ret, ↓r_retN, ↓r_brk, ↓r_cnt, ↓r_drop, ↓r_asg, ↓r_test, ↓r_yes, ↓r_c, ↓r_nil, ↓r_cons, ↓r_var0, ↓r_varS, ↓r_name0, ↓r_nameS, ↓r_op, ↓r_un, ↓r_rU, ↓r_chain, ↓r_andV, ↓r_orV, ↓r_notV, ↓r_call, ↓r_cb, ↓r_tup, ↓r_lst, ↓r_sl, ↓r_noPart, ↓r_part, ↓r_gsub, ↓kB_a, ↓aB_bl, ↓kI_a, ↓aI_int, ↓OK_some, ↓Br_true, ↓Br_false, ↓Cd_true, ↓r_addI, ↓r_addS, ↓r_addUI, ↓r_addUS, ↓r_addL, ↓AlT_cc, ↓AlT_nil, ↓AlT_cnil, ↓r_addT, ↓r_sub, ↓r_mul, ↓r_div, ↓r_mod, ↓r_pow, ↓r_lt, ↓r_le, ↓r_gt, ↓r_ge, ↓r_eq, ↓r_ne, ↓r_isN, ↓r_notN, ↓r_inS, ↓r_ninS, ↓r_in, ↓r_nin, ↓r_inG, ↓r_ninG, ↓r_ixS, ↓r_ix, ↓r_set, ↓r_slS, ↓AlS_lst, ↓AlS_tup, ↓r_slR, ↓r_lenS, ↓r_lenR, ↓r_listU, ↓AlC_lst, ↓AlC_tup, ↓r_tupleU, ↓r_int, ↓r_isi, ↓r_tru, ↓r_truN, ↓r_truB, ↓r_truI, ↓r_truS, ↓r_truR, ↓aL_ref, ↓a1_int, ↓a2_int, ↓r_for1, ↓r_for2, ↓r_for, ↓r_lc, ↓r_lc1, ↓r_lc2,
  OK_some, Br_true, Br_false, Br_not, Cd_true, aB_bl, aI_int, r_rU, r_addI, r_addS, r_sub, r_mul, r_div, r_mod, r_pow, r_lt, r_le, r_gt, r_ge, r_ixS, r_ix, r_set, r_lenS, r_int, r_truN, r_truB, r_truI, r_truS, r_truR, AlT_cc, AlT_nil, AlT_cnil, AlS_lst, AlS_tup, AlC_lst, AlC_tup, a1_int, a2_int, lstO_lst, tupO_tup, seqO_eq, seqO_lst, seqO_tup, lenO_lst, lenO_tup, lenO_dK, e_tyR, tyO_t, e_ty, e_tyn, truO_lst, truO_tup, truO_dK, isa_tab, scal_tab, flat_tab, eqV_t, inV_cons, inV_nil, szl, cmul_l, cpow_l, atI_0, atI_1, atI_2, atI_3, ixN_lit, Option.some.injEq, List.length_cons, List.length_nil, List.length_append, List.length_map, Nat.zero_add, Nat.reduceAdd, natc, Int.reduceLE, Int.reduceLT, Int.reduceEq, Int.reduceSub, Int.reduceAdd, Int.reduceNeg, Int.reduceMul, Int.reducePow, Int.reduceToNat, Nat.reduceLeDiff, Nat.reduceLT, Nat.reduceEqDiff, decide_eq_true_eq, decide_eq_false_iff_not, decide_true, decide_false, Bool.not_eq_true', Bool.not_eq_false', Bool.not_true, Bool.not_false, Bool.not_not, Bool.or_eq_true, Bool.and_eq_true, Bool.or_false, Bool.false_or, Bool.or_true, Bool.true_or, Bool.and_true, Bool.true_and, Bool.and_false, Bool.false_and, Bool.and_self, List.all_cons, List.all_nil, ofs_inj, String.reduceEq, List.cons.injEq, and_true, true_and, and_self, or_true, true_or, or_false, false_or, V.ty.injEq, V.bl.injEq, V.int.injEq, V.str.injEq, V.ref.injEq, List.nil_append, List.append_nil, List.cons_append, List.getElem?_cons_zero, List.getElem?_cons_succ, List.set_cons_zero, List.set_cons_succ, exists_eq_left', exists_eq_left, exists_eq, Bool.false_eq_true, Bool.true_eq_false, reduceCtorEq, not_true_eq_false, not_false_eq_true, eq_self, List.isEmpty_cons, List.isEmpty_nil, wipe, insO_ins, insD_ins, isO_tab, isO_ref, isR_tab, snO_tab, lk_tab, putF_nil, putF_tab, isLs_lst, tyL, m1_self, cutV_1, cutV_to1, Int.zero_add, ↓r_raiseO, ↓r_forEn, ↓r_forK, ↓r_ixD, ↓r_inK, ↓r_ninK, ↓r_setK, ↓r_dnew, ↓aDG_ref, ↓aDG2_ref, ↓r_dget2, ↓r_metX, ↓r_met, ↓aMt_ref, ↓r_prop, ↓aPr_ref, ↓aM_ins, ↓r_dcK, ↓r_for3u, ↓a3_int, keyO_t, reduceIte])

namespace K06
open Pg Nam
def t_law_1 (K : PySem.W.Frag) : TS :=
  (tSeq (tAsg (tOp rIxU (uVar 2) (uCall (sp__law_draw K) [] E0 (tCons (uVar 1) (tCons (tCB rLenU (tCons (uVar 2) tNil)) tNil)))) (gName 8))
  (tSeq (tIfS (tAnd (tTest (tOp rEqS (uVar 4) (tC (.int 0)))) (tTest (tOp rGtU (uCall (sp__law_draw K) [] E0 (tCons (uVar 1) (tCons (tC (.int 4)) tNil))) (tC (.int 0))))) (tAsg (tOp rIxU (uVar 2) (tOp rModU (tCB rIntCall (tCons (tOp rAddI (uVar 5) (tC (.int 1))) tNil)) (tCB rLenU (tCons (uVar 2) tNil)))) (gName 8)) tNext)
  (tSeq (tAsg (tOp rIxU (tLst (tCons (tTup (tCons (tC (.str "call")) (tCons (uVar 8) tNil))) (tCons (tTup (tCons (tC (.str "repeat")) (tCons (uVar 8) (tCons (tC (.int 0)) tNil)))) (tCons (tTup (tCons (tC (.str "repeat")) (tCons (uVar 8) (tCons (tC (.int 2)) tNil)))) tNil)))) (uCall (sp__law_draw K) [] E0 (tCons (uVar 1) (tCons (tC (.int 3)) tNil)))) (gName 9))
  (tDrop (tBM K "list" rAppend (uVar 6) (tCons (uVar 9) tNil))))))
def t_law_2 (K : PySem.W.Frag) : TS :=
  (tSeq (tAsg (tLst tNil) (gName 6))
  (tSeq (tFor (iRng1 (tCons (uCall (sp__law_draw K) [] E0 (tCons (uVar 1) (tCons (tOp rAddI (tC (.int 2)) (uVar 4)) tNil))) tNil)) (gName 7) (t_law_1 K))
  (tDrop (tBM K "list" rAppend (uVar 3) (tCons (uVar 6) tNil)))))
def t_law_3 (K : PySem.W.Frag) : TS :=
  (tSeq (tAsg (tOp rModU (tCB rIntCall (tCons (tOp rAddU (uVar 7) (uVar 10)) tNil)) (tCB rLenU (tCons (uVar 2) tNil))) (gName 12))
  (tAsg (tCB rListU (tCons (tOp rIxU (uVar 3) (uVar 12)) tNil)) (gSub (uVar 11) (tOp rIxU (uVar 2) (uVar 12)) rSetK)))
def t_law (K : PySem.W.Frag) (a_Recursion : Addr) (a_ReelError : Addr) : TS :=
  (tSeq (tAsg (uCall (sp__law_begin K) [] E0 (tCons (uVar 0) tNil)) (gName 1))
  (tSeq (tAsg (uCall (sp__law_names K) [] E0 (tCons (uVar 1) (tCons (tOp rAddI (tC (.int 1)) (uCall (sp__law_draw K) [] E0 (tCons (uVar 1) (tCons (tC (.int 8)) tNil)))) tNil))) (gName 2))
  (tSeq (tAsg (tLst tNil) (gName 3))
  (tSeq (tAsg (uCall (sp__law_draw K) [] E0 (tCons (uVar 1) (tCons (tC (.int 3)) tNil))) (gName 4))
  (tSeq (tFor (iRng1 (tCons (tCB rLenU (tCons (uVar 2) tNil)) tNil)) (gName 5) (t_law_2 K))
  (tSeq (tAsg (uCall (sp__law_draw K) [] E0 (tCons (uVar 1) (tCons (tCB rLenU (tCons (uVar 2) tNil)) tNil))) (gName 10))
  (tSeq (tAsg tDNewK (gName 11))
  (tSeq (tFor (iRng1 (tCons (tCB rLenU (tCons (uVar 2) tNil)) tNil)) (gName 7) (t_law_3 K))
  (tSeq (tAsg (tCB rAnyU (tCons (tLc (iRng1 (tCons (tCB rLenU (tCons (uVar 2) tNil)) tNil)) (gName 5) tYes (uCall (sp__law_comes_back K) [] E0 (tCons (uVar 2) (tCons (uVar 3) (tCons (uVar 5) tNil)))) [5]) tNil)) (gName 13))
  (tSeq (tAsg (tC .non) (gName 14))
  (tSeq (uTryAs K (.ref a_Recursion) 15 (fun W => (tDrop (uCallX (sp_Program K) W (tCons (uVar 11) tNil)))) (fun a cls d => (tAsg (tLst (tCons (uXf K a cls d "ring" 15) (tCons (tCB (rIsF K a cls d (.ref a_ReelError) (.ref a_ReelError)) (tCons (uVar 15) (tCons (tC (.ref a_ReelError)) tNil))) tNil))) (gName 14))) w0)
  (tSeq (tIfS (tNot (uTru (uVar 13))) (tRet (tOp rIsNU (uVar 14) (tC .non))) tNext)
  (tRet (tAndV (tOp rNotNU (uVar 14) (tC .non)) (tAndV (tOp rIxU (uVar 14) (tC (.int 1))) (uCall (sp__law_is_ring K) [] E0 (tCons (uVar 2) (tCons (uVar 3) (tCons (tOp rIxU (uVar 14) (tC (.int 0))) tNil)))))))))))))))))))
theorem named_call (z : Str) : (In.call z).named = some z := rfl
def tail1 (K : PySem.W.Frag) : TS := (tSeq (tAsg (tOp rIxU (tLst (tCons (tTup (tCons (tC (.str "call")) (tCons (uVar 8) tNil))) (tCons (tTup (tCons (tC (.str "repeat")) (tCons (uVar 8) (tCons (tC (.int 0)) tNil)))) (tCons (tTup (tCons (tC (.str "repeat")) (tCons (uVar 8) (tCons (tC (.int 2)) tNil)))) tNil)))) (uCall (sp__law_draw K) [] E0 (tCons (uVar 1) (tCons (tC (.int 3)) tNil)))) (gName 9)) (tDrop (tBM K "list" rAppend (uVar 6) (tCons (uVar 9) tNil))))
theorem last1 {K : PySem.W.Frag} {D : Ends} {Dw : Dr} {L Bd p : Addr} {ns : List Str} {de pl k : Nat} {xs : List V} {b : List In} {H0 H1 : Hp} {z : Str} {y0 y9 y10 y11 y12 y13 y14 y15 : Option V}
    (hl : b.length ≤ 100) (an : AllNm ns b) (hz : z ∈ ns) (dl1 : DrL Dw H0 p xs H1) (hb1 : InsAt H1 xs b)
    (q : ∀ (y8 y9 : Option V) i xs' H', DrL Dw H0 p xs' H' → InsAt H' xs' (b ++ [i]) → AllNm ns (b ++ [i]) → D.nx [y0, some (.ref Dw.d), some (.ref L), some (.ref Bd), some (.int de), some (.int pl), some (.ref p), some (.int k), y8, y9, y10, y11, y12, y13, y14, y15] H') :
    tail1 K D [y0, some (.ref Dw.d), some (.ref L), some (.ref Bd), some (.int de), some (.int pl), some (.ref p), some (.int k), some (.str z), y9, y10, y11, y12, y13, y14, y15] H1 := by
  have at1 := dl1.at_
  unfold tail1
  kpt_turns
  rename_i p1 G1 m1 p2 G2 m2 p3 G3 m3 p4 G4 m4
  have dl2 := (((dl1.lay m1).lay m2).lay m3).lay m4
  refine c_draw dl2.dr (by decide) (by decide) fun r G5 r0 r1 d5 k5 => ?_
  have dl5 := dl2.draw d5 k5
  obtain ⟨f, rfl⟩ := Int.eq_ofNat_of_zero_le r0
  have at5 := dl5.at_
  have kl5 := ((((Kl.refl _).trans m1.kl).trans m2.kl).trans m3.kl).trans m4.kl |>.trans (k5.kl dl2.dr)
  have f3 : f < 3 := by omega
  have xl : xs.length ≤ 100 := by rw [hb1.1]; exact hl
  have fin : ∀ (q0 : Addr) (i : In) H', G5 q0 = some (.tup i.enc) → i.named = some z → Sm1 i → Mod G5 p (.lst (xs ++ [V.ref q0])) H' → ∃ i xs', DrL Dw H0 p xs' H' ∧ InsAt H' xs' (b ++ [i]) ∧ AllNm ns (b ++ [i]) := fun q0 i H' e en sm m6 => by
    have kp : ∀ q o, G5 q = some (.tup o) → H' q = some (.tup o) := fun q o e => m6.old (fun z => by rw [z, at5] at e; cases e) e
    refine ⟨i, _, dl5.mod m6, ⟨by rw [List.length_append, List.length_append, hb1.1]; rfl, fun k j hk => ?_⟩, fun j hj => ?_⟩
    · rcases Nat.lt_or_ge k b.length with h | h
      · rw [List.getElem?_append_left h] at hk
        obtain ⟨q', h1, h2⟩ := hb1.2 k j hk
        exact ⟨q', by rw [List.getElem?_append_left (by rw [hb1.1]; exact h)]; exact h1, kp _ _ (kl5 _ _ h2 rfl)⟩
      · have hk2 := (List.getElem?_eq_some_iff.mp hk).1
        rw [List.length_append, List.length_singleton] at hk2
        have ek : k = b.length := by omega
        subst ek
        rw [List.getElem?_concat_length] at hk
        cases hk
        exact ⟨q0, by rw [← hb1.1, List.getElem?_concat_length], kp _ _ e⟩
    · rcases List.mem_append.mp hj with h | h
      · exact an j h
      · rw [List.mem_singleton.mp h]
        exact ⟨z, en, hz, sm⟩
  have nd : ∀ {p' o G G'}, New G p' o G' → DrawsOk G Dw → p' ≠ Dw.d := fun m d => d.ne m.fr
  have e1 : G5 p1 = some (.tup (In.call z).enc) := k5.at (nd m1 dl1.dr) (m4.old (m3.old (m2.old m1.at)))
  have e2 : G5 p2 = some (.tup (In.rep z 0).enc) := k5.at (nd m2 (dl1.lay m1).dr) (m4.old (m3.old m2.at))
  have e3 : G5 p3 = some (.tup (In.rep z 2).enc) := k5.at (nd m3 ((dl1.lay m1).lay m2).dr) (m4.old m3.at)
  have e4 := k5.at (nd m4 (((dl1.lay m1).lay m2).lay m3).dr) m4.at
  clear k5 kl5 m1 m2 m3 m4 d5 dl2 dl1 hb1 at1 r0 r1
  obtain rfl | rfl | rfl : f = 0 ∨ f = 1 ∨ f = 2 := by omega
  · kpt_turns
    rename_i H' m6
    obtain ⟨i, xs', a1, a2, a3⟩ := fin p1 _ H' e1 rfl trivial m6
    exact q _ _ i xs' H' a1 a2 a3
  · kpt_turns
    rename_i H' m6
    obtain ⟨i, xs', a1, a2, a3⟩ := fin p2 _ H' e2 rfl (Nat.zero_le _) m6
    exact q _ _ i xs' H' a1 a2 a3
  · kpt_turns
    rename_i H' m6
    obtain ⟨i, xs', a1, a2, a3⟩ := fin p3 _ H' e3 rfl (Nat.le_refl _) m6
    exact q _ _ i xs' H' a1 a2 a3
theorem step1 {K : PySem.W.Frag} {D : Ends} {Dw : Dr} {L Bd p : Addr} {ns : List Str} {de pl k : Nat} {xs : List V} {b : List In} {H0 H : Hp} {y0 y8 y9 y10 y11 y12 y13 y14 y15 : Option V}
    (dl : DrL Dw H0 p xs H) (hL0 : H0 L = some (.lst (ns.map V.str))) (hLd : L ≠ Dw.d) (n1 : 1 ≤ ns.length) (n2 : ns.length ≤ 10) (hpl : pl ≤ 1000) (hb : InsAt H xs b) (hl : b.length ≤ 100) (an : AllNm ns b)
    (q : ∀ (y8 y9 : Option V) i xs' H', DrL Dw H0 p xs' H' → InsAt H' xs' (b ++ [i]) → AllNm ns (b ++ [i]) → D.nx [y0, some (.ref Dw.d), some (.ref L), some (.ref Bd), some (.int de), some (.int pl), some (.ref p), some (.int k), y8, y9, y10, y11, y12, y13, y14, y15] H') :
    t_law_1 K D [y0, some (.ref Dw.d), some (.ref L), some (.ref Bd), some (.int de), some (.int pl), some (.ref p), some (.int k), y8, y9, y10, y11, y12, y13, y14, y15] H := by
  have atL : ∀ {H'}, Keep Dw.d H0 H' → H' L = some (.lst (ns.map V.str)) := fun k => k.at hLd hL0
  have hL := atL dl.kp
  unfold t_law_1
  show tSeq _ (tSeq _ (tail1 K)) _ _ _
  kfm_turns
  refine c_draw dl.dr (by omega) (by omega) fun r H2 r0 r1 d2 k2 => ?_
  have dl2 := dl.draw d2 k2
  have hL2 := atL dl2.kp
  obtain ⟨f, rfl⟩ := Int.eq_ofNat_of_zero_le r0
  have kl2 := k2.kl dl.dr
  have hb2 : InsAt H2 xs b := hb.kl fun q o e => kl2 _ _ e rfl
  kfm_turns
  rename_i v hv
  obtain ⟨z, hz, rfl⟩ : ∃ z, ns[f]? = some z ∧ v = .str z := by
    rw [List.getElem?_map] at hv
    cases e : ns[f]? with
    | none => rw [e] at hv; cases hv
    | some k => rw [e] at hv; cases hv; exact ⟨k, rfl, rfl⟩
  refine Br.by (fun h0 => ?_) fun h0 => ?_
  · kfm_turns
    refine c_draw dl2.dr (by decide) (by decide) fun r H3 r0 r1 d3 k3 => ?_
    have dl3 := dl2.draw d3 k3
    have hL3 := atL dl3.kp
    have kl3 := k3.kl dl2.dr
    have hb3 : InsAt H3 xs b := hb2.kl fun q o e => kl3 _ _ e rfl
    kfm_turns
    refine Br.by (fun h1 => ?_) fun h1 => ?_
    · have md : ((pl : Int) + 1) % (ns.length : Int) = (((pl + 1) % ns.length : Nat) : Int) := by
        rw [Int.natCast_emod]
        rfl
      have ml : (pl + 1) % ns.length < ns.length := Nat.mod_lt _ (by omega)
      kfm_turns
      rename_i v hv2
      obtain ⟨z, hz, rfl⟩ := List.mem_map.mp (List.mem_of_getElem? hv2)
      exact last1 hl an hz dl3 hb3 q
    · kfm_turns
      exact last1 hl an (List.mem_of_getElem? hz) dl3 hb3 q
  · kfm_turns
    exact last1 hl an (List.mem_of_getElem? hz) dl2 hb2 q
end K06
end U
end

section
namespace U
open PySem PySem.Spec PyProof.Rows L2
local macro_rules | `(tactic| tb_start) => `(tactic| first
  | assumption
  | (refine Ne.symm ?_; assumption)
  | ((with_reducible apply New.ne); (focus assumption); (focus tb_rel); done)
  | (refine Ne.symm ?_; (with_reducible apply New.ne); (focus assumption); (focus tb_rel); done)
  | ((with_reducible apply neN); (focus assumption); (focus tb_rel); done)
  | (refine Ne.symm ?_; (with_reducible apply neN); (focus assumption); (focus tb_rel); done)
  | ((with_reducible apply DrawsOk.neN); (focus assumption); (focus kct_strs); done)
  | ((with_reducible apply DrawsOk.neLN); (focus assumption); (focus kct_strs); done)
  | ((with_reducible apply DrawsOk.ne'); (focus assumption); (focus kct_strs); done)
  | ((with_reducible apply DrawsOk.neL'); (focus assumption); (focus kct_strs); done)
  | ((with_reducible apply DrawsOk.other'); (focus assumption); (focus tb_rel); (focus rfl); done)
  | ((with_reducible apply DrawsOk.otherL); (focus assumption); (focus tb_rel); (focus rfl); done)
  | ((with_reducible apply ne_kd); (focus assumption); (focus tb_rel); (focus (intro h; cases h; done)); done))
local macro_rules | `(tactic| tb_rel) => `(tactic| first
  | assumption
  | exact New.at (by assumption)
  | exact Mod.at (by assumption)
  | ((with_reducible apply New.old); (focus assumption); tb_rel)
  | ((with_reducible apply Mod.lk); (focus assumption); (focus tb_rel); focus tb_start)
  | ((with_reducible apply Keep.lk); (focus assumption); (focus tb_rel); focus tb_start)
  | ((with_reducible apply Same.at); (focus assumption); tb_rel))
local macro_rules | `(tactic| kct_strs) => `(tactic| first
  | assumption
  | (refine New.draws (by assumption) ?_; kct_strs)
  | (refine DrawsOk.same ?_ (by assumption); kct_strs)
  | (refine Mod.draws (by assumption) ?_ ?_ ?_; (kct_strs); (focus tb_start); focus tb_start))
local macro_rules | `(tactic| k_updF) => `(tactic| first
  | assumption
  | exact L2.Same.refl _
  | (refine Same.new ?_ (by assumption); k_updF)
  | (refine L2.Same.trans ?_ (by assumption); k_updF)
  | (refine Same.mod ?_ (by assumption) ?_; (k_updF); lcg_sub))
local macro_rules | `(tactic| k_memK) => `(tactic| first
  | assumption
  | exact Keep.refl _ _
  | (refine Keep.new' ?_ (by assumption); k_memK)
  | (refine Keep.trans ?_ (by assumption); k_memK)
  | (refine Keep.trans ?_ (Keep.same' (by assumption)); k_memK)
  | (refine Keep.modd ?_ (by assumption); k_memK)
  | (refine Keep.mod ?_ (by assumption) ?_; (k_memK); lcg_sub))
local macro_rules | `(tactic| lcg_sub) => `(tactic| first
  | assumption
  | exact New.fr (by assumption)
  | (refine Same.none ?_ (New.fr (by assumption)); k_updF)
  | (refine Keep.fresh (D := ?_) ?_ ?_ ?_ (New.fr (by assumption)); rotate_left; (k_memK); (kct_strs); (kct_strs)))
local macro_rules | `(tactic| k_upd) => `(tactic| first
  | assumption
  | exact Kl.refl _
  | (refine Kl.trans ?_ (New.kl (by assumption)); k_upd)
  | (refine Kl.trans ?_ (Same.kl (by assumption)); k_upd)
  | (refine Kl.trans ?_ (Mod.kl (by assumption) (by tb_rel)); k_upd)
  | (refine Kl.trans ?_ (Keep.kl (by assumption) (by kct_strs)); k_upd)
  | (refine Kl.trans ?_ (by assumption); k_upd))
local macro_rules | `(tactic| kst_all1) => `(tactic| first
  | assumption | omega | (with_reducible rfl)
  | (simp only [List.length_append, List.length_map, List.length_set, List.length_take, List.length_drop, List.length_cons, List.length_nil, List.length_replicate]; omega)
  | (refine ⟨?_, ?_⟩ <;> kst_all1)
  | decide)
local macro_rules | `(tactic| k_allIn) => `(tactic| first
  | ((with_reducible apply OKl); (focus tb_rel))
  | ((with_reducible apply OKd); (focus tb_rel))
  | ((with_reducible apply OKdf); (focus tb_rel))
  | ((with_reducible apply OKd1); (focus tb_rel))
  | ((with_reducible apply OKt); (focus tb_rel))
  | ((with_reducible apply OKql); (focus tb_rel))
  | ((with_reducible apply OKqt); (focus tb_rel))
  | ((with_reducible apply OKnl); (focus tb_rel))
  | ((with_reducible apply OKnt); (focus tb_rel))
  | ((with_reducible apply OKnd); (focus tb_rel))
  | ((with_reducible apply OKyl); (focus tb_rel))
  | ((with_reducible apply OKyt); (focus tb_rel))
  | ((with_reducible apply OKyd); (focus tb_rel))
  | ((with_reducible apply OKbl); (focus tb_rel))
  | ((with_reducible apply OKbt); (focus tb_rel))
  | ((with_reducible apply OKbd); (focus tb_rel))
  | ((with_reducible apply OKi); (focus tb_rel))
  | ((with_reducible apply OKj); (focus tb_rel))
  | ((with_reducible apply OKr); (focus tb_rel))
  | ((with_reducible apply OKrt); (focus tb_rel))
  | ((with_reducible apply OKrl); (focus tb_rel))
  | ((with_reducible apply OKsl); (focus tb_rel))
  | ((with_reducible apply OKst); (focus tb_rel))
  | ((with_reducible apply AlS_l); (focus tb_rel))
  | ((with_reducible apply AlS_t); (focus tb_rel))
  | ((with_reducible apply AlC_l); (focus tb_rel))
  | ((with_reducible apply AlC_t); (focus tb_rel))
  | ((with_reducible apply OKn); (focus kst_all1); intro v h)
  | ((with_reducible apply OKl1); (focus kst_all1); intro v h)
  | ((with_reducible apply OKl2); (focus kst_all1); intro v h)
  | ((with_reducible apply OKlk); (focus kst_all1); intro v h)
  | ((with_reducible apply OKln); (focus kst_all1); intro v h)
  | ((with_reducible apply OKg); (focus kst_all1); intro v h)
  | ((with_reducible apply OKxn); (focus kst_all1))
  | ((with_reducible apply OKsi); (focus kst_all1))
  | ((with_reducible apply OKsm); (focus kst_all1))
  | ((with_reducible refine OKa ?_ ?_ ?_); (focus kst_all1); (focus kst_all1); intro j v e h))
local macro_rules | `(tactic| kfm_turns) => `(tactic| repeat first
  | kpc_turns
  | k_allIn
  | l_intsW
  | ((with_reducible apply CdL); (focus tb_rel))
  | ((with_reducible refine Cd.by ?_ ?_); (focus kst_all1))
  | ((with_reducible refine Br.yes ?_ ?_); (focus (first | assumption | omega)))
  | ((with_reducible refine Br.no ?_ ?_); (focus (first | assumption | omega))))
local macro_rules | `(tactic| kpt_turns) => `(tactic| repeat first
  | kpc_turns
  | k_allIn
  | l_intsW
  | (with_reducible refine Al.by fun p H' n => ?_)
  | (with_reducible refine Md.by fun H' m => ?_)
  | ((with_reducible apply CdL); (focus tb_rel))
  | ((with_reducible refine Cd.by ?_ ?_); (focus kst_all1))
  | ((with_reducible refine Br.yes ?_ ?_); (focus (first | assumption | omega)))
  | ((with_reducible refine Br.no ?_ ?_); (focus (first | assumption | omega))))
local macro_rules | `(tactic| nest_cls) => `(tactic| repeat' first
  | kpc_turns
  | k_allIn
  | l_intsW
  | (with_reducible refine Al.by fun p H' n => ?_)
  | (with_reducible refine Md.by fun H' m => ?_)
  | ((with_reducible apply CdL); (focus tb_rel))
  | ((with_reducible refine Cd.by ?_ ?_); (focus kst_all1))
  | ((with_reducible refine Br.yes ?_ ?_); (focus (first | assumption | omega)))
  | ((with_reducible refine Br.no ?_ ?_); (focus (first | assumption | omega)))
  | (with_reducible refine Br.by (fun h => ?_) fun h => ?_))
local macro_rules | `(tactic| kpc_turns) => `(tactic| simp (config := {maxSteps := 4000000}) only [↓r_divm, ↓r_min, ↓r_max, ↓r_abs, ↓r_strI, ↓r_intT, ↓aM_zf, ↓aM_ls, ↓aM_rs, ↓aM_spl, ↓r_mulX, ↓r_rev, ↓r_revR, tyS, ↓un_nx, ↓in_some, ↓in_none, ↓r_cd, ↓aM_pop, ↓aM_popAt, ↓r_tryL, ↓r_fld, ↓r_setF, ↓aSF_ref, ↓r_isO, ↓r_eqO, ↓r_eqN, ↓r_neN, ↓r_gsq, ↓aGs_eq, ↓r_gcons, ↓r_gnil, ↓r_isB, ↓r_bm1, ↓r_bm0, ↓aM_app, ↓r_callX, ↓r_raise0, ↓r_tryAs, ↓r_tryOnly, ↓r_seq, ↓r_ifS, ↓r_or, ↓r_and, ↓r_not, ↓r_next, ↓r_ret, ↓r_retN, ↓r_brk, ↓r_cnt, ↓r_drop, ↓r_asg, ↓r_test, ↓r_yes, ↓r_c, ↓r_nil, ↓r_cons, ↓r_var0, ↓r_varS, ↓r_name0, ↓r_nameS, ↓r_op, ↓r_un, ↓r_rU, ↓r_chain, ↓r_andV, ↓r_orV, ↓r_notV, ↓r_call, ↓r_cb, ↓r_tup, ↓r_lst, ↓r_sl, ↓r_noPart, ↓r_part, ↓r_gsub, ↓kB_a, ↓aB_bl, ↓kI_a, ↓aI_int, ↓OK_some, ↓Br_true, ↓Br_false, ↓Cd_true, ↓r_addI, ↓r_addS, ↓r_addUI, ↓r_addUS, ↓r_addL, ↓AlT_cc, ↓AlT_nil, ↓AlT_cnil, ↓r_addT, ↓r_sub, ↓r_mul, ↓r_div, ↓r_mod, ↓r_pow, ↓r_lt, ↓r_le, ↓r_gt, ↓r_ge, ↓r_eq, ↓r_ne, ↓r_isN, ↓r_notN, ↓r_inS, ↓r_ninS, ↓r_in, ↓r_nin, ↓r_inG, ↓r_ninG, ↓r_ixS, ↓r_ix, ↓r_set, ↓r_slS, ↓AlS_lst, ↓AlS_tup, ↓r_slR, ↓r_lenS, ↓r_lenR, ↓r_listU, ↓AlC_lst, ↓AlC_tup, ↓r_tupleU, ↓r_int, ↓r_isi, ↓r_tru, ↓r_truN, ↓r_truB, ↓r_truI, ↓r_truS, ↓r_truR, ↓aL_ref, ↓a1_int, ↓a2_int, ↓r_for1, ↓r_for2, ↓r_for, ↓r_lc, ↓r_lc1, ↓r_lc2,
  OK_some, Br_true, Br_false, Br_not, Cd_true, aB_bl, aI_int, r_rU, r_addI, r_addS, r_sub, r_mul, r_div, r_mod, r_pow, r_lt, r_le, r_gt, r_ge, r_ixS, r_ix, r_set, r_lenS, r_int, r_truN, r_truB, r_truI, r_truS, r_truR, AlT_cc, AlT_nil, AlT_cnil, AlS_lst, AlS_tup, AlC_lst, AlC_tup, a1_int, a2_int, lstO_lst, tupO_tup, seqO_eq, seqO_lst, seqO_tup, lenO_lst, lenO_tup, lenO_dK, e_tyR, tyO_t, e_ty, e_tyn, truO_lst, truO_tup, truO_dK, isa_tab, scal_tab, flat_tab, eqV_t, inV_cons, inV_nil, szl, cmul_l, cpow_l, atI_0, atI_1, atI_2, atI_3, ixN_lit, Option.some.injEq, List.length_cons, List.length_nil, List.length_append, List.length_map, Nat.zero_add, Nat.reduceAdd, natc, Int.reduceLE, Int.reduceLT, Int.reduceEq, Int.reduceSub, Int.reduceAdd, Int.reduceNeg, Int.reduceMul, Int.reducePow, Int.reduceToNat, Nat.reduceLeDiff, Nat.reduceLT, Nat.reduceEqDiff, decide_eq_true_eq, decide_eq_false_iff_not, decide_true, decide_false, Bool.not_eq_true', Bool.not_eq_false', Bool.not_true, Bool.not_false, Bool.not_not, Bool.or_eq_true, Bool.and_eq_true, Bool.or_false, Bool.false_or, Bool.or_true, Bool.true_or, Bool.and_true, Bool.true_and, Bool.and_false, Bool.false_and, Bool.and_self, List.all_cons, List.all_nil, ofs_inj, String.reduceEq, List.cons.injEq, and_true, true_and, and_self, or_true, true_or, or_false, false_or, V.ty.injEq, V.bl.injEq, V.int.injEq, V.str.injEq, V.ref.injEq, List.nil_append, List.append_nil, List.cons_append, List.getElem?_cons_zero, List.getElem?_cons_succ, List.set_cons_zero, List.set_cons_succ, exists_eq_left', exists_eq_left, exists_eq, Bool.false_eq_true, Bool.true_eq_false, reduceCtorEq, not_true_eq_false, not_false_eq_true, eq_self, List.isEmpty_cons, List.isEmpty_nil, wipe, insO_ins, insD_ins, isO_tab, isO_ref, isR_tab, snO_tab, lk_tab, putF_nil, putF_tab, isLs_lst, tyL, m1_self, cutV_1, cutV_to1, Int.zero_add, ↓r_raiseO, ↓r_forEn, ↓r_forK, ↓r_ixD, ↓r_inK, ↓r_ninK, ↓r_setK, ↓r_dnew, ↓aDG_ref, ↓aDG2_ref, ↓r_dget2, ↓r_metX, ↓r_met, ↓aMt_ref, ↓r_prop, ↓aPr_ref, ↓aM_ins, ↓r_dcK, ↓r_for3u, ↓a3_int, keyO_t, reduceIte])

namespace K06
open Pg Nam
def Bo (H : Hp) (Dw : Dr) (Bd : Addr) (bv : List V) (bs : List (List In)) : Prop := bv.length = bs.length ∧ ∀ (i : Nat) b, bs[i]? = some b → ∃ p xs, bv[i]? = some (.ref p) ∧ p ≠ Dw.d ∧ p ≠ Bd ∧ H p = some (.lst xs) ∧ InsAt H xs b
theorem step2 {K : PySem.W.Frag} {D : Ends} {Dw : Dr} {L Bd : Addr} {ns : List Str} {de pl : Nat} {bv : List V} {bs : List (List In)} {H0 H : Hp} {y0 y6 y7 y8 y9 y10 y11 y12 y13 y14 y15 : Option V}
    (dl : DrL Dw H0 Bd bv H) (hL0 : H0 L = some (.lst (ns.map V.str))) (hLd : L ≠ Dw.d) (n1 : 1 ≤ ns.length) (n2 : ns.length ≤ 10) (hpl : pl ≤ 10) (hde : de ≤ 2) (hbl : bs.length ≤ 100) (hb : Bo H Dw Bd bv bs)
    (q : ∀ (y6 y7 y8 y9 : Option V) b bv' H', DrL Dw H0 Bd bv' H' → Bo H' Dw Bd bv' (bs ++ [b]) → AllNm ns b → b.length ≤ 50 → D.nx [y0, some (.ref Dw.d), some (.ref L), some (.ref Bd), some (.int de), some (.int pl), y6, y7, y8, y9, y10, y11, y12, y13, y14, y15] H') :
    t_law_2 K D [y0, some (.ref Dw.d), some (.ref L), some (.ref Bd), some (.int de), some (.int pl), y6, y7, y8, y9, y10, y11, y12, y13, y14, y15] H := by
  unfold t_law_2
  kpt_turns
  rename_i p H1 m1
  have dl1 := DrL.new dl.dr m1
  refine c_draw dl1.dr (by omega) (by omega) fun r H2 r0 r1 d2 k2 => ?_
  have dl2 := dl1.draw d2 k2
  obtain ⟨f, rfl⟩ := Int.eq_ofNat_of_zero_le r0
  have hLH : H L = some (.lst (ns.map V.str)) := dl.kp.at hLd hL0
  kfm_turns
  refine loop_rng (fun i σ H' => ∃ (y7 y8 y9 : Option V) (xs : List V) (b : List In), σ = [y0, some (.ref Dw.d), some (.ref L), some (.ref Bd), some (.int de), some (.int pl), some (.ref p), y7, y8, y9, y10, y11, y12, y13, y14, y15] ∧ DrL Dw H p xs H' ∧ InsAt H' xs b ∧ AllNm ns b ∧ b.length = i)
    ⟨_, _, _, [], [], rfl, dl2, ⟨rfl, fun k i h => by rw [List.getElem?_nil] at h; cases h⟩, fun i h => (nomatch h), rfl⟩ (fun i σ H3 hi ⟨y7, y8, y9, xs, b, e, dl3, hx, an, lb⟩ => ?_) fun σ H3 ⟨y7, y8, y9, xs, b, e, dl3, hx, an, lb⟩ => ?_
  · subst e
    show gName 7 _ _ _ _
    rw [Int.zero_add]
    kfm_turns
    exact step1 dl3 hLH hLd n1 n2 (by omega) hx (by omega) an fun y8 y9 i' xs' H' a1 a2 a3 => ⟨_, _, _, _, _, rfl, a1, a2, a3, by rw [List.length_append, lb]; rfl⟩
  · subst e
    have dlB := dl.draw dl3.dr dl3.kp
    have atB := dlB.at_
    have lB : bv.length ≤ 100 := by rw [hb.1]; exact hbl
    have npB : p ≠ Bd := fun e => by have := dl.at_; rw [← e, dl3.fr] at this; cases this
    kpt_turns
    rename_i H4 m4
    have kt : ∀ q o, H3 q = some (.tup o) → H4 q = some (.tup o) := fun q o e => m4.old (fun z => by rw [z, atB] at e; cases e) e
    refine q _ _ _ _ b _ H4 (dlB.mod m4) ⟨by rw [List.length_append, List.length_append, hb.1]; rfl, fun k c hk => ?_⟩ an (by omega)
    rcases Nat.lt_or_ge k bs.length with h | h
    · rw [List.getElem?_append_left h] at hk
      obtain ⟨p', xs', h1, h2, h3, h4, h5⟩ := hb.2 k c hk
      exact ⟨p', xs', by rw [List.getElem?_append_left (by rw [hb.1]; exact h)]; exact h1, h2, h3, m4.old h3 (dl3.kp.at h2 h4), (h5.kl fun q o e => dl3.kp.kl dl.dr _ _ e rfl).kl kt⟩
    · have hk2 := (List.getElem?_eq_some_iff.mp hk).1
      rw [List.length_append, List.length_singleton] at hk2
      have ek : k = bs.length := by omega
      subst ek
      rw [List.getElem?_concat_length] at hk
      cases hk
      exact ⟨p, xs, by rw [← hb.1, List.getElem?_concat_length], dl3.n1, npB, m4.old npB dl3.at_, hx.kl kt⟩
end K06
end U
end

section
namespace U
open PySem PySem.Spec PyProof.Rows L2
local macro_rules | `(tactic| tb_start) => `(tactic| first
  | assumption
  | (refine Ne.symm ?_; assumption)
  | ((with_reducible apply New.ne); (focus assumption); (focus tb_rel); done)
  | (refine Ne.symm ?_; (with_reducible apply New.ne); (focus assumption); (focus tb_rel); done)
  | ((with_reducible apply neN); (focus assumption); (focus tb_rel); done)
  | (refine Ne.symm ?_; (with_reducible apply neN); (focus assumption); (focus tb_rel); done)
  | ((with_reducible apply DrawsOk.neN); (focus assumption); (focus kct_strs); done)
  | ((with_reducible apply DrawsOk.neLN); (focus assumption); (focus kct_strs); done)
  | ((with_reducible apply DrawsOk.ne'); (focus assumption); (focus kct_strs); done)
  | ((with_reducible apply DrawsOk.neL'); (focus assumption); (focus kct_strs); done)
  | ((with_reducible apply DrawsOk.other'); (focus assumption); (focus tb_rel); (focus rfl); done)
  | ((with_reducible apply DrawsOk.otherL); (focus assumption); (focus tb_rel); (focus rfl); done)
  | ((with_reducible apply ne_kd); (focus assumption); (focus tb_rel); (focus (intro h; cases h; done)); done))
local macro_rules | `(tactic| tb_rel) => `(tactic| first
  | assumption
  | exact New.at (by assumption)
  | exact Mod.at (by assumption)
  | ((with_reducible apply New.old); (focus assumption); tb_rel)
  | ((with_reducible apply Mod.lk); (focus assumption); (focus tb_rel); focus tb_start)
  | ((with_reducible apply Keep.lk); (focus assumption); (focus tb_rel); focus tb_start)
  | ((with_reducible apply Same.at); (focus assumption); tb_rel))
local macro_rules | `(tactic| kct_strs) => `(tactic| first
  | assumption
  | (refine New.draws (by assumption) ?_; kct_strs)
  | (refine DrawsOk.same ?_ (by assumption); kct_strs)
  | (refine Mod.draws (by assumption) ?_ ?_ ?_; (kct_strs); (focus tb_start); focus tb_start))
local macro_rules | `(tactic| k_updF) => `(tactic| first
  | assumption
  | exact L2.Same.refl _
  | (refine Same.new ?_ (by assumption); k_updF)
  | (refine L2.Same.trans ?_ (by assumption); k_updF)
  | (refine Same.mod ?_ (by assumption) ?_; (k_updF); lcg_sub))
local macro_rules | `(tactic| k_memK) => `(tactic| first
  | assumption
  | exact Keep.refl _ _
  | (refine Keep.new' ?_ (by assumption); k_memK)
  | (refine Keep.trans ?_ (by assumption); k_memK)
  | (refine Keep.trans ?_ (Keep.same' (by assumption)); k_memK)
  | (refine Keep.modd ?_ (by assumption); k_memK)
  | (refine Keep.mod ?_ (by assumption) ?_; (k_memK); lcg_sub))
local macro_rules | `(tactic| lcg_sub) => `(tactic| first
  | assumption
  | exact New.fr (by assumption)
  | (refine Same.none ?_ (New.fr (by assumption)); k_updF)
  | (refine Keep.fresh (D := ?_) ?_ ?_ ?_ (New.fr (by assumption)); rotate_left; (k_memK); (kct_strs); (kct_strs)))
local macro_rules | `(tactic| k_upd) => `(tactic| first
  | assumption
  | exact Kl.refl _
  | (refine Kl.trans ?_ (New.kl (by assumption)); k_upd)
  | (refine Kl.trans ?_ (Same.kl (by assumption)); k_upd)
  | (refine Kl.trans ?_ (Mod.kl (by assumption) (by tb_rel)); k_upd)
  | (refine Kl.trans ?_ (Keep.kl (by assumption) (by kct_strs)); k_upd)
  | (refine Kl.trans ?_ (by assumption); k_upd))
local macro_rules | `(tactic| kst_all1) => `(tactic| first
  | assumption | omega | (with_reducible rfl)
  | (simp only [List.length_append, List.length_map, List.length_set, List.length_take, List.length_drop, List.length_cons, List.length_nil, List.length_replicate]; omega)
  | (refine ⟨?_, ?_⟩ <;> kst_all1)
  | decide)
local macro_rules | `(tactic| k_allIn) => `(tactic| first
  | ((with_reducible apply OKl); (focus tb_rel))
  | ((with_reducible apply OKd); (focus tb_rel))
  | ((with_reducible apply OKdf); (focus tb_rel))
  | ((with_reducible apply OKd1); (focus tb_rel))
  | ((with_reducible apply OKt); (focus tb_rel))
  | ((with_reducible apply OKql); (focus tb_rel))
  | ((with_reducible apply OKqt); (focus tb_rel))
  | ((with_reducible apply OKnl); (focus tb_rel))
  | ((with_reducible apply OKnt); (focus tb_rel))
  | ((with_reducible apply OKnd); (focus tb_rel))
  | ((with_reducible apply OKyl); (focus tb_rel))
  | ((with_reducible apply OKyt); (focus tb_rel))
  | ((with_reducible apply OKyd); (focus tb_rel))
  | ((with_reducible apply OKbl); (focus tb_rel))
  | ((with_reducible apply OKbt); (focus tb_rel))
  | ((with_reducible apply OKbd); (focus tb_rel))
  | ((with_reducible apply OKi); (focus tb_rel))
  | ((with_reducible apply OKj); (focus tb_rel))
  | ((with_reducible apply OKr); (focus tb_rel))
  | ((with_reducible apply OKrt); (focus tb_rel))
  | ((with_reducible apply OKrl); (focus tb_rel))
  | ((with_reducible apply OKsl); (focus tb_rel))
  | ((with_reducible apply OKst); (focus tb_rel))
  | ((with_reducible apply AlS_l); (focus tb_rel))
  | ((with_reducible apply AlS_t); (focus tb_rel))
  | ((with_reducible apply AlC_l); (focus tb_rel))
  | ((with_reducible apply AlC_t); (focus tb_rel))
  | ((with_reducible apply OKn); (focus kst_all1); intro v h)
  | ((with_reducible apply OKl1); (focus kst_all1); intro v h)
  | ((with_reducible apply OKl2); (focus kst_all1); intro v h)
  | ((with_reducible apply OKlk); (focus kst_all1); intro v h)
  | ((with_reducible apply OKln); (focus kst_all1); intro v h)
  | ((with_reducible apply OKg); (focus kst_all1); intro v h)
  | ((with_reducible apply OKxn); (focus kst_all1))
  | ((with_reducible apply OKsi); (focus kst_all1))
  | ((with_reducible apply OKsm); (focus kst_all1))
  | ((with_reducible refine OKa ?_ ?_ ?_); (focus kst_all1); (focus kst_all1); intro j v e h))
local macro_rules | `(tactic| kfm_turns) => `(tactic| repeat first
  | kpc_turns
  | k_allIn
  | l_intsW
  | ((with_reducible apply CdL); (focus tb_rel))
  | ((with_reducible refine Cd.by ?_ ?_); (focus kst_all1))
  | ((with_reducible refine Br.yes ?_ ?_); (focus (first | assumption | omega)))
  | ((with_reducible refine Br.no ?_ ?_); (focus (first | assumption | omega))))
local macro_rules | `(tactic| kpt_turns) => `(tactic| repeat first
  | kpc_turns
  | k_allIn
  | l_intsW
  | (with_reducible refine Al.by fun p H' n => ?_)
  | (with_reducible refine Md.by fun H' m => ?_)
  | ((with_reducible apply CdL); (focus tb_rel))
  | ((with_reducible refine Cd.by ?_ ?_); (focus kst_all1))
  | ((with_reducible refine Br.yes ?_ ?_); (focus (first | assumption | omega)))
  | ((with_reducible refine Br.no ?_ ?_); (focus (first | assumption | omega))))
local macro_rules | `(tactic| nest_cls) => `(tactic| repeat' first
  | kpc_turns
  | k_allIn
  | l_intsW
  | (with_reducible refine Al.by fun p H' n => ?_)
  | (with_reducible refine Md.by fun H' m => ?_)
  | ((with_reducible apply CdL); (focus tb_rel))
  | ((with_reducible refine Cd.by ?_ ?_); (focus kst_all1))
  | ((with_reducible refine Br.yes ?_ ?_); (focus (first | assumption | omega)))
  | ((with_reducible refine Br.no ?_ ?_); (focus (first | assumption | omega)))
  | (with_reducible refine Br.by (fun h => ?_) fun h => ?_))
local macro_rules | `(tactic| kpc_turns) => `(tactic| simp (config := {maxSteps := 4000000}) only [↓r_divm, ↓r_min, ↓r_max, ↓r_abs, ↓r_strI, ↓r_intT, ↓aM_zf, ↓aM_ls, ↓aM_rs, ↓aM_spl, ↓r_mulX, ↓r_rev, ↓r_revR, tyS, ↓un_nx, ↓in_some, ↓in_none, ↓r_cd, ↓aM_pop, ↓aM_popAt, ↓r_tryL, ↓r_fld, ↓r_setF, ↓aSF_ref, ↓r_isO, ↓r_eqO, ↓r_eqN, ↓r_neN, ↓r_gsq, ↓aGs_eq, ↓r_gcons, ↓r_gnil, ↓r_isB, ↓r_bm1, ↓r_bm0, ↓aM_app, ↓r_callX, ↓r_raise0, ↓r_tryAs, ↓r_tryOnly, ↓r_seq, ↓r_ifS, ↓r_or, ↓r_and, ↓r_not, ↓r_next, ↓r_ret, ↓r_retN, ↓r_brk, ↓r_cnt, ↓r_drop, ↓r_asg, ↓r_test, ↓r_yes, ↓r_c, ↓r_nil, ↓r_cons, ↓r_var0, ↓r_varS, ↓r_name0, ↓r_nameS, ↓r_op, ↓r_un, ↓r_rU, ↓r_chain, ↓r_andV, ↓r_orV, ↓r_notV, ↓r_call, ↓r_cb, ↓r_tup, ↓r_lst, ↓r_sl, ↓r_noPart, ↓r_part, ↓r_gsub, ↓kB_a, ↓aB_bl, ↓kI_a, ↓aI_int, ↓OK_some, ↓Br_true, ↓Br_false, ↓Cd_true, ↓r_addI, ↓r_addS, ↓r_addUI, ↓r_addUS, ↓r_addL, ↓AlT_cc, ↓AlT_nil, ↓AlT_cnil, ↓r_addT, ↓r_sub, ↓r_mul, ↓r_div, ↓r_mod, ↓r_pow, ↓r_lt, ↓r_le, ↓r_gt, ↓r_ge, ↓r_eq, ↓r_ne, ↓r_isN, ↓r_notN, ↓r_inS, ↓r_ninS, ↓r_in, ↓r_nin, ↓r_inG, ↓r_ninG, ↓r_ixS, ↓r_ix, ↓r_set, ↓r_slS, ↓AlS_lst, ↓AlS_tup, ↓r_slR, ↓r_lenS, ↓r_lenR, ↓r_listU, ↓AlC_lst, ↓AlC_tup, ↓r_tupleU, ↓r_int, ↓r_isi, ↓r_tru, ↓r_truN, ↓r_truB, ↓r_truI, ↓r_truS, ↓r_truR, ↓aL_ref, ↓a1_int, ↓a2_int, ↓r_for1, ↓r_for2, ↓r_for, ↓r_lc, ↓r_lc1, ↓r_lc2,
  OK_some, Br_true, Br_false, Br_not, Cd_true, aB_bl, aI_int, r_rU, r_addI, r_addS, r_sub, r_mul, r_div, r_mod, r_pow, r_lt, r_le, r_gt, r_ge, r_ixS, r_ix, r_set, r_lenS, r_int, r_truN, r_truB, r_truI, r_truS, r_truR, AlT_cc, AlT_nil, AlT_cnil, AlS_lst, AlS_tup, AlC_lst, AlC_tup, a1_int, a2_int, lstO_lst, tupO_tup, seqO_eq, seqO_lst, seqO_tup, lenO_lst, lenO_tup, lenO_dK, e_tyR, tyO_t, e_ty, e_tyn, truO_lst, truO_tup, truO_dK, isa_tab, scal_tab, flat_tab, eqV_t, inV_cons, inV_nil, szl, cmul_l, cpow_l, atI_0, atI_1, atI_2, atI_3, ixN_lit, Option.some.injEq, List.length_cons, List.length_nil, List.length_append, List.length_map, Nat.zero_add, Nat.reduceAdd, natc, Int.reduceLE, Int.reduceLT, Int.reduceEq, Int.reduceSub, Int.reduceAdd, Int.reduceNeg, Int.reduceMul, Int.reducePow, Int.reduceToNat, Nat.reduceLeDiff, Nat.reduceLT, Nat.reduceEqDiff, decide_eq_true_eq, decide_eq_false_iff_not, decide_true, decide_false, Bool.not_eq_true', Bool.not_eq_false', Bool.not_true, Bool.not_false, Bool.not_not, Bool.or_eq_true, Bool.and_eq_true, Bool.or_false, Bool.false_or, Bool.or_true, Bool.true_or, Bool.and_true, Bool.true_and, Bool.and_false, Bool.false_and, Bool.and_self, List.all_cons, List.all_nil, ofs_inj, String.reduceEq, List.cons.injEq, and_true, true_and, and_self, or_true, true_or, or_false, false_or, V.ty.injEq, V.bl.injEq, V.int.injEq, V.str.injEq, V.ref.injEq, List.nil_append, List.append_nil, List.cons_append, List.getElem?_cons_zero, List.getElem?_cons_succ, List.set_cons_zero, List.set_cons_succ, exists_eq_left', exists_eq_left, exists_eq, Bool.false_eq_true, Bool.true_eq_false, reduceCtorEq, not_true_eq_false, not_false_eq_true, eq_self, List.isEmpty_cons, List.isEmpty_nil, wipe, insO_ins, insD_ins, isO_tab, isO_ref, isR_tab, snO_tab, lk_tab, putF_nil, putF_tab, isLs_lst, tyL, m1_self, cutV_1, cutV_to1, Int.zero_add, ↓r_raiseO, ↓r_forEn, ↓r_forK, ↓r_ixD, ↓r_inK, ↓r_ninK, ↓r_setK, ↓r_dnew, ↓aDG_ref, ↓aDG2_ref, ↓r_dget2, ↓r_metX, ↓r_met, ↓aMt_ref, ↓r_prop, ↓aPr_ref, ↓aM_ins, ↓r_dcK, ↓r_for3u, ↓a3_int, keyO_t, reduceIte])

namespace K06
open Pg Nam
def rot {α : Type} (t : Nat) (l : List α) : List α := l.drop t ++ l.take t
theorem rot_perm {α : Type} (t : Nat) (l : List α) : (rot t l).Perm l := by
  have h : (l.take t ++ l.drop t).Perm (rot t l) := List.perm_append_comm
  rw [List.take_append_drop] at h
  exact h.symm
theorem rot_len {α : Type} (t : Nat) (l : List α) : (rot t l).length = l.length := (rot_perm t l).length_eq
theorem rot_at {α : Type} {t k : Nat} {l : List α} (ht : t < l.length) (hk : k < l.length) : (rot t l)[k]? = l[(k + t) % l.length]? := by
  unfold rot
  rcases Nat.lt_or_ge k (l.length - t) with h | h
  · rw [List.getElem?_append_left (by rw [List.length_drop]; exact h), List.getElem?_drop, Nat.mod_eq_of_lt (by omega), Nat.add_comm]
  · rw [List.getElem?_append_right (by rw [List.length_drop]; exact h), List.length_drop, List.getElem?_take_of_lt (by omega)]
    congr 1
    rw [Nat.mod_eq_sub_mod (by omega), Nat.mod_eq_of_lt (by omega)]
    omega
theorem rot_map {α β : Type} (f : α → β) (t : Nat) (l : List α) : (rot t l).map f = rot t (l.map f) := by
  unfold rot
  rw [List.map_append, List.map_drop, List.map_take]
structure BX (H : Hp) (L Bd : Addr) (ns : List Str) (bs : List (List In)) (bv : List V) (XS : List (List V)) : Prop where
  nL : H L = some (.lst (ns.map V.str))
  bL : H Bd = some (.lst bv)
  l1 : bv.length = ns.length
  l2 : bs.length = ns.length
  l3 : XS.length = ns.length
  at_ : ∀ (i : Nat) xs b, XS[i]? = some xs → bs[i]? = some b → ∃ p, bv[i]? = some (.ref p) ∧ H p = some (.lst xs) ∧ InsAt H xs b
theorem BX.same {H H' : Hp} {L Bd : Addr} {ns : List Str} {bs : List (List In)} {bv : List V} {XS : List (List V)} (h : BX H L Bd ns bs bv XS) (s : L2.Same H H') : BX H' L Bd ns bs bv XS := ⟨s _ _ h.nL, s _ _ h.bL, h.l1, h.l2, h.l3, fun i xs b h1 h2 => by
  obtain ⟨p, h3, h4, h5⟩ := h.at_ i xs b h1 h2
  exact ⟨p, h3, s _ _ h4, h5.kl fun q o e => s _ _ e⟩⟩
theorem BX.of {H : Hp} {Dw : Dr} {L Bd : Addr} {ns : List Str} {bs : List (List In)} {bv : List V} (hL : H L = some (.lst (ns.map V.str))) (hB : H Bd = some (.lst bv)) (h : Bo H Dw Bd bv bs) (l : bs.length = ns.length) : ∃ XS, BX H L Bd ns bs bv XS := by
  refine ⟨bv.map fun v => match v with | .ref p => (match H p with | some (.lst xs) => xs | _ => []) | _ => [], hL, hB, by rw [h.1, l], l, by rw [List.length_map, h.1, l], fun i xs b h1 h2 => ?_⟩
  obtain ⟨p, xs', h3, _, _, h4, h5⟩ := h.2 i b h2
  rw [List.getElem?_map, h3] at h1
  have e := Option.some.inj h1
  simp only [h4] at e
  subst e
  exact ⟨p, h3, h4, h5⟩
def Dct (H : Hp) (D : Addr) (kvs : List (Key × V)) (R : Raw) (k : Nat) : Prop := H D = some (.dK kvs) ∧ kvs.length = k ∧ ∀ (j : Nat) z xs, j < k → R[j]? = some (z, xs) → ∃ p, kvs[j]? = some (.inr z, .ref p) ∧ H p = some (.lst xs)
theorem step3 {K : PySem.W.Frag} {D : Ends} {L Bd Dd : Addr} {ns : List Str} {bs : List (List In)} {bv : List V} {XS : List (List V)} {t k : Nat} {kvs : List (Key × V)} {H0 H : Hp} {y0 y1 y4 y5 y6 y8 y9 y12 y13 y14 y15 : Option V}
    (bx : BX H0 L Bd ns bs bv XS) (nd : ns.Nodup) (n2 : ns.length ≤ 10) (ht : t < ns.length) (hk : k < ns.length) (lx : ∀ xs ∈ XS, xs.length ≤ 100) (s : L2.Same H0 H) (fD : H0 Dd = none) (hd : Dct H Dd kvs (rot t (ns.zip XS)) k)
    (q : ∀ (y12 : Option V) kvs' H', L2.Same H0 H' → Dct H' Dd kvs' (rot t (ns.zip XS)) (k + 1) → D.nx [y0, y1, some (.ref L), some (.ref Bd), y4, y5, y6, some (.int k), y8, y9, some (.int t), some (.ref Dd), y12, y13, y14, y15] H') :
    t_law_3 K D [y0, y1, some (.ref L), some (.ref Bd), y4, y5, y6, some (.int k), y8, y9, some (.int t), some (.ref Dd), y12, y13, y14, y15] H := by
  have b2 := bx.same s
  have nL := b2.nL
  have bL := b2.bL
  have md : ((k : Int) + (t : Int)) % (ns.length : Int) = (((k + t) % ns.length : Nat) : Int) := by
    rw [Int.natCast_emod]
    rfl
  have ml : (k + t) % ns.length < ns.length := Nat.mod_lt _ (by omega)
  generalize he : (k + t) % ns.length = a at md ml
  obtain ⟨z, hz⟩ : ∃ z, ns[a]? = some z := ⟨_, List.getElem?_eq_getElem ml⟩
  obtain ⟨xs, hxs⟩ : ∃ xs, XS[a]? = some xs := ⟨_, List.getElem?_eq_getElem (by rw [bx.l3]; exact ml)⟩
  obtain ⟨b, hb⟩ : ∃ b, bs[a]? = some b := ⟨_, List.getElem?_eq_getElem (by rw [bx.l2]; exact ml)⟩
  obtain ⟨p, hp, hp2, hi⟩ := b2.at_ a xs b hxs hb
  have zl : (ns.zip XS).length = ns.length := by rw [List.length_zip, bx.l3]; omega
  have hR : (rot t (ns.zip XS))[k]? = some (z, xs) := by
    rw [rot_at (by omega) (by omega), zl, he, List.getElem?_zip_eq_some]
    exact ⟨hz, hxs⟩
  have lxs := lx xs (List.mem_of_getElem? hxs)
  have lb := bx.l1
  unfold t_law_3
  kfm_turns
  rename_i j v e hv
  obtain rfl : j = a := by rw [md] at e; omega
  obtain rfl := Option.some.inj (hv.symm.trans hp)
  obtain ⟨hD, lk, hents⟩ := hd
  kpt_turns
  rename_i p2 H2 m2 j2 v e2 hv2
  obtain rfl : j2 = j := by rw [md] at e2; omega
  obtain rfl : v = .str z := by rw [List.getElem?_map, hz] at hv2; cases hv2; rfl
  refine OK.by (x := .inr z) rfl ?_
  kpt_turns
  rename_i H3 m3
  have s2 : L2.Same H0 H2 := s.trans m2.same
  have nD : Dd ≠ p2 := fun e => by rw [e, m2.fr] at hD; cases hD
  have Rl : (rot t (ns.zip XS)).length = ns.length := by rw [rot_len, zl]
  have Rn : (rot t (ns.zip XS)).map (·.1) = rot t ns := by
    rw [rot_map]
    congr 1
    exact List.map_fst_zip (by rw [bx.l3]; omega)
  have Rnd : (rot t ns).Nodup := (rot_perm t ns).nodup_iff.mpr nd
  have at1 : ∀ {j : Nat} {z xs}, (rot t (ns.zip XS))[j]? = some (z, xs) → (rot t ns)[j]? = some z := fun h => by rw [← Rn, List.getElem?_map, h]; rfl
  have nk : (Sum.inr z : Key) ∉ kvs.map (·.1) := fun h => by
    obtain ⟨m, hm, e⟩ := List.mem_iff_getElem.mp h
    rw [List.length_map] at hm
    rw [List.getElem_map] at e
    obtain ⟨⟨z', xs'⟩, h1⟩ : ∃ zx, (rot t (ns.zip XS))[m]? = some zx := ⟨_, List.getElem?_eq_getElem (by omega)⟩
    obtain ⟨p', h2, _⟩ := hents m z' xs' (by omega) h1
    rw [List.getElem?_eq_getElem hm] at h2
    rw [Option.some.inj h2] at e
    cases e
    have := (List.getElem?_inj (i := m) (j := k) (by rw [rot_len]; omega) Rnd).mp (by rw [at1 h1, at1 hR])
    omega
  have e3 := m3.at
  rw [putK_new nk] at e3
  refine q _ _ H3 (Same.mod s2 m3 fD) ⟨e3, by rw [List.length_append, lk]; rfl, fun m z' xs' hm h1 => ?_⟩
  rcases Nat.lt_or_ge m k with h | h
  · obtain ⟨p', h2, h3⟩ := hents m z' xs' h h1
    exact ⟨p', by rw [List.getElem?_append_left (by omega)]; exact h2, m3.old (fun e => by rw [e, hD] at h3; cases h3) (m2.old h3)⟩
  · obtain rfl : m = k := by omega
    rw [hR] at h1
    cases h1
    exact ⟨p2, by rw [← lk, List.getElem?_concat_length], m3.old (Ne.symm nD) m2.at⟩
end K06
end U
end

section
namespace U
open PySem PySem.Spec PyProof.Rows L2
namespace Pg
theorem enc_head {a b : Str} {xs ys : List V} (h : (V.str a :: xs) = (V.str b :: ys)) (n : a ≠ b) : False := by
  injection h with h1 _
  injection h1 with h1
  exact n h1
theorem enc_int {a : Str} {k l : Nat} (h : [V.str a, V.int k] = [V.str a, V.int l]) : k = l := by
  injection h with _ h
  injection h with h _
  injection h with h
  exact Int.ofNat.inj h
theorem enc_str {a k l : Str} (h : [V.str a, V.str k] = [V.str a, V.str l]) : k = l := by
  injection h with _ h
  injection h with h _
  injection h
theorem enc_rep {a k l : Str} {m n : Nat} (h : [V.str a, V.str k, V.int m] = [V.str a, V.str l, V.int n]) : k = l ∧ m = n := by
  injection h with _ h
  injection h with h h2
  injection h with h
  injection h2 with h2 _
  injection h2 with h2
  exact ⟨h, Int.ofNat.inj h2⟩
def tagI : In → Nat
  | .bas (.push _) => 0 | .bas .drop => 1 | .bas (.pick _) => 2 | .bas (.roll _) => 3 | .bas (.keep _) => 4 | .bas (.load _) => 5 | .bas .emit => 6
  | .bas (.expect _) => 7 | .bas .same => 8 | .bas .differ => 9 | .call _ => 10 | .rep _ _ => 11
def tags : List Str := [Str.ofString "push", Str.ofString "drop", Str.ofString "pick", Str.ofString "roll", Str.ofString "keep", Str.ofString "load", Str.ofString "emit", Str.ofString "expect", Str.ofString "same", Str.ofString "differ", Str.ofString "call", Str.ofString "repeat"]
theorem tags_nd : tags.Nodup := by decide +kernel
theorem tag_at (i : In) : ∃ z xs, tags[tagI i]? = some z ∧ i.enc = V.str z :: xs := by
  rcases i with (_ | _ | _ | _ | _ | _ | _ | _ | _ | _) | _ | _ <;> exact ⟨_, _, rfl, rfl⟩
theorem tag_inj {i j : In} (h : i.enc = j.enc) : tagI i = tagI j := by
  obtain ⟨z, xs, h1, h2⟩ := tag_at i
  obtain ⟨w, ys, h3, h4⟩ := tag_at j
  rw [h2, h4] at h
  injection h with h5 _
  injection h5 with h5
  have hl := (List.getElem?_eq_some_iff.mp h1).1
  exact (List.getElem?_inj hl tags_nd).mp (by rw [h1, h3, h5])
theorem enc_inj {i j : In} (h : i.enc = j.enc) : i = j := by
  have t := tag_inj h
  rcases i with (_ | _ | _ | _ | _ | _ | _ | _ | _ | _) | _ | _ <;> rcases j with (_ | _ | _ | _ | _ | _ | _ | _ | _ | _) | _ | _ <;> first
    | rfl
    | (simp [tagI] at t; done)
    | (have := enc_str h; subst this; rfl)
    | (have := enc_int h; subst this; rfl)
    | (obtain ⟨h1, h2⟩ := enc_rep h; subst h1; subst h2; rfl)
theorem ins_uniq {H : Hp} {xs : List V} {b c : List In} (h1 : InsAt H xs b) (h2 : InsAt H xs c) : b = c := by
  refine List.ext_getElem (by rw [← h1.1, h2.1]) fun k hb hc => ?_
  obtain ⟨q, e1, e2⟩ := h1.2 k _ (List.getElem?_eq_getElem hb)
  obtain ⟨q', e3, e4⟩ := h2.2 k _ (List.getElem?_eq_getElem hc)
  rw [e1] at e3
  cases e3
  rw [e2] at e4
  injection e4 with e4
  injection e4 with e4
  exact enc_inj e4
theorem deco_uniq {H : Hp} {R : Raw} {P P' : Prog} (h1 : Deco H R P) (h2 : Deco H R P') : P = P' := by
  refine List.ext_getElem (by rw [← h1.1, h2.1]) fun k hb hc => ?_
  have hk : k < R.length := by rw [h1.1]; exact hb
  obtain ⟨⟨z, xs⟩, hz⟩ : ∃ zx, R[k]? = some zx := ⟨_, List.getElem?_eq_getElem hk⟩
  obtain ⟨b, e1, e2⟩ := h1.2 k z xs hz
  obtain ⟨c, e3, e4⟩ := h2.2 k z xs hz
  rw [List.getElem?_eq_getElem hb] at e1
  rw [List.getElem?_eq_getElem hc] at e3
  rw [Option.some.inj e1, Option.some.inj e3, ins_uniq e2 e4]
theorem isIn_call {H : Hp} {q : Addr} {i : In} (h : H q = some (.tup i.enc)) (hi : (∃ z, i = .call z ∧ isMarkS z = true) ∨ ∃ z n, i = .rep z n ∧ isMarkS z = true ∧ n ≤ 2) : isInV H (.ref q) = true := by
  show (match H q with | some (.tup xs) => isInT xs | _ => false) = true
  rw [h]
  rcases hi with ⟨z, rfl, hm⟩ | ⟨z, n, rfl, hm, hn⟩
  · show (isBasicT _ || (decide _ && isMarkV (.str z))) = true
    rw [Bool.or_eq_true]
    exact .inr (by rw [Bool.and_eq_true]; exact ⟨by decide +kernel, hm⟩)
  · show (isBasicT _ || (decide _ && (isMarkV (.str z) && inRangeV (.int n) (10 ^ 120)))) = true
    rw [Bool.or_eq_true, Bool.and_eq_true, Bool.and_eq_true]
    refine .inr ⟨by decide +kernel, hm, ?_⟩
    show (decide (0 ≤ (n : Int)) && decide ((n : Int) ≤ 10 ^ 120)) = true
    have h2 : (2 : Int) ≤ 10 ^ 120 := by decide +kernel
    rw [decide_eq_true (by omega), decide_eq_true (by omega)]
    rfl
end Pg
end U
end

section
namespace U
open PySem PySem.Spec PyProof.Rows L2
local macro_rules | `(tactic| tb_start) => `(tactic| first
  | assumption
  | (refine Ne.symm ?_; assumption)
  | ((with_reducible apply New.ne); (focus assumption); (focus tb_rel); done)
  | (refine Ne.symm ?_; (with_reducible apply New.ne); (focus assumption); (focus tb_rel); done)
  | ((with_reducible apply neN); (focus assumption); (focus tb_rel); done)
  | (refine Ne.symm ?_; (with_reducible apply neN); (focus assumption); (focus tb_rel); done)
  | ((with_reducible apply DrawsOk.neN); (focus assumption); (focus kct_strs); done)
  | ((with_reducible apply DrawsOk.neLN); (focus assumption); (focus kct_strs); done)
  | ((with_reducible apply DrawsOk.ne'); (focus assumption); (focus kct_strs); done)
  | ((with_reducible apply DrawsOk.neL'); (focus assumption); (focus kct_strs); done)
  | ((with_reducible apply DrawsOk.other'); (focus assumption); (focus tb_rel); (focus rfl); done)
  | ((with_reducible apply DrawsOk.otherL); (focus assumption); (focus tb_rel); (focus rfl); done)
  | ((with_reducible apply ne_kd); (focus assumption); (focus tb_rel); (focus (intro h; cases h; done)); done))
local macro_rules | `(tactic| tb_rel) => `(tactic| first
  | assumption
  | exact New.at (by assumption)
  | exact Mod.at (by assumption)
  | ((with_reducible apply New.old); (focus assumption); tb_rel)
  | ((with_reducible apply Mod.lk); (focus assumption); (focus tb_rel); focus tb_start)
  | ((with_reducible apply Keep.lk); (focus assumption); (focus tb_rel); focus tb_start)
  | ((with_reducible apply Same.at); (focus assumption); tb_rel))
local macro_rules | `(tactic| kct_strs) => `(tactic| first
  | assumption
  | (refine New.draws (by assumption) ?_; kct_strs)
  | (refine DrawsOk.same ?_ (by assumption); kct_strs)
  | (refine Mod.draws (by assumption) ?_ ?_ ?_; (kct_strs); (focus tb_start); focus tb_start))
local macro_rules | `(tactic| k_updF) => `(tactic| first
  | assumption
  | exact L2.Same.refl _
  | (refine Same.new ?_ (by assumption); k_updF)
  | (refine L2.Same.trans ?_ (by assumption); k_updF)
  | (refine Same.mod ?_ (by assumption) ?_; (k_updF); lcg_sub))
local macro_rules | `(tactic| k_memK) => `(tactic| first
  | assumption
  | exact Keep.refl _ _
  | (refine Keep.new' ?_ (by assumption); k_memK)
  | (refine Keep.trans ?_ (by assumption); k_memK)
  | (refine Keep.trans ?_ (Keep.same' (by assumption)); k_memK)
  | (refine Keep.modd ?_ (by assumption); k_memK)
  | (refine Keep.mod ?_ (by assumption) ?_; (k_memK); lcg_sub))
local macro_rules | `(tactic| lcg_sub) => `(tactic| first
  | assumption
  | exact New.fr (by assumption)
  | (refine Same.none ?_ (New.fr (by assumption)); k_updF)
  | (refine Keep.fresh (D := ?_) ?_ ?_ ?_ (New.fr (by assumption)); rotate_left; (k_memK); (kct_strs); (kct_strs)))
local macro_rules | `(tactic| k_upd) => `(tactic| first
  | assumption
  | exact Kl.refl _
  | (refine Kl.trans ?_ (New.kl (by assumption)); k_upd)
  | (refine Kl.trans ?_ (Same.kl (by assumption)); k_upd)
  | (refine Kl.trans ?_ (Mod.kl (by assumption) (by tb_rel)); k_upd)
  | (refine Kl.trans ?_ (Keep.kl (by assumption) (by kct_strs)); k_upd)
  | (refine Kl.trans ?_ (by assumption); k_upd))
local macro_rules | `(tactic| kst_all1) => `(tactic| first
  | assumption | omega | (with_reducible rfl)
  | (simp only [List.length_append, List.length_map, List.length_set, List.length_take, List.length_drop, List.length_cons, List.length_nil, List.length_replicate]; omega)
  | (refine ⟨?_, ?_⟩ <;> kst_all1)
  | decide)
local macro_rules | `(tactic| k_allIn) => `(tactic| first
  | ((with_reducible apply OKl); (focus tb_rel))
  | ((with_reducible apply OKd); (focus tb_rel))
  | ((with_reducible apply OKdf); (focus tb_rel))
  | ((with_reducible apply OKd1); (focus tb_rel))
  | ((with_reducible apply OKt); (focus tb_rel))
  | ((with_reducible apply OKql); (focus tb_rel))
  | ((with_reducible apply OKqt); (focus tb_rel))
  | ((with_reducible apply OKnl); (focus tb_rel))
  | ((with_reducible apply OKnt); (focus tb_rel))
  | ((with_reducible apply OKnd); (focus tb_rel))
  | ((with_reducible apply OKyl); (focus tb_rel))
  | ((with_reducible apply OKyt); (focus tb_rel))
  | ((with_reducible apply OKyd); (focus tb_rel))
  | ((with_reducible apply OKbl); (focus tb_rel))
  | ((with_reducible apply OKbt); (focus tb_rel))
  | ((with_reducible apply OKbd); (focus tb_rel))
  | ((with_reducible apply OKi); (focus tb_rel))
  | ((with_reducible apply OKj); (focus tb_rel))
  | ((with_reducible apply OKr); (focus tb_rel))
  | ((with_reducible apply OKrt); (focus tb_rel))
  | ((with_reducible apply OKrl); (focus tb_rel))
  | ((with_reducible apply OKsl); (focus tb_rel))
  | ((with_reducible apply OKst); (focus tb_rel))
  | ((with_reducible apply AlS_l); (focus tb_rel))
  | ((with_reducible apply AlS_t); (focus tb_rel))
  | ((with_reducible apply AlC_l); (focus tb_rel))
  | ((with_reducible apply AlC_t); (focus tb_rel))
  | ((with_reducible apply OKn); (focus kst_all1); intro v h)
  | ((with_reducible apply OKl1); (focus kst_all1); intro v h)
  | ((with_reducible apply OKl2); (focus kst_all1); intro v h)
  | ((with_reducible apply OKlk); (focus kst_all1); intro v h)
  | ((with_reducible apply OKln); (focus kst_all1); intro v h)
  | ((with_reducible apply OKg); (focus kst_all1); intro v h)
  | ((with_reducible apply OKxn); (focus kst_all1))
  | ((with_reducible apply OKsi); (focus kst_all1))
  | ((with_reducible apply OKsm); (focus kst_all1))
  | ((with_reducible refine OKa ?_ ?_ ?_); (focus kst_all1); (focus kst_all1); intro j v e h))
local macro_rules | `(tactic| kfm_turns) => `(tactic| repeat first
  | kpc_turns
  | k_allIn
  | l_intsW
  | ((with_reducible apply CdL); (focus tb_rel))
  | ((with_reducible refine Cd.by ?_ ?_); (focus kst_all1))
  | ((with_reducible refine Br.yes ?_ ?_); (focus (first | assumption | omega)))
  | ((with_reducible refine Br.no ?_ ?_); (focus (first | assumption | omega))))
local macro_rules | `(tactic| kpt_turns) => `(tactic| repeat first
  | kpc_turns
  | k_allIn
  | l_intsW
  | (with_reducible refine Al.by fun p H' n => ?_)
  | (with_reducible refine Md.by fun H' m => ?_)
  | ((with_reducible apply CdL); (focus tb_rel))
  | ((with_reducible refine Cd.by ?_ ?_); (focus kst_all1))
  | ((with_reducible refine Br.yes ?_ ?_); (focus (first | assumption | omega)))
  | ((with_reducible refine Br.no ?_ ?_); (focus (first | assumption | omega))))
local macro_rules | `(tactic| nest_cls) => `(tactic| repeat' first
  | kpc_turns
  | k_allIn
  | l_intsW
  | (with_reducible refine Al.by fun p H' n => ?_)
  | (with_reducible refine Md.by fun H' m => ?_)
  | ((with_reducible apply CdL); (focus tb_rel))
  | ((with_reducible refine Cd.by ?_ ?_); (focus kst_all1))
  | ((with_reducible refine Br.yes ?_ ?_); (focus (first | assumption | omega)))
  | ((with_reducible refine Br.no ?_ ?_); (focus (first | assumption | omega)))
  | (with_reducible refine Br.by (fun h => ?_) fun h => ?_))
local macro_rules | `(tactic| kpc_turns) => `(tactic| simp (config := {maxSteps := 4000000}) only [↓r_divm, ↓r_min, ↓r_max, ↓r_abs, ↓r_strI, ↓r_intT, ↓aM_zf, ↓aM_ls, ↓aM_rs, ↓aM_spl, ↓r_mulX, ↓r_rev, ↓r_revR, tyS, ↓un_nx, ↓in_some, ↓in_none, ↓r_cd, ↓aM_pop, ↓aM_popAt, ↓r_tryL, ↓r_fld, ↓r_setF, ↓aSF_ref, ↓r_isO, ↓r_eqO, ↓r_eqN, ↓r_neN, ↓r_gsq, ↓aGs_eq, ↓r_gcons, ↓r_gnil, ↓r_isB, ↓r_bm1, ↓r_bm0, ↓aM_app, ↓r_callX, ↓r_raise0, ↓r_tryAs, ↓r_tryOnly, ↓r_seq, ↓r_ifS, ↓r_or, ↓r_and, ↓r_not, ↓r_next, ↓r_ret, ↓r_retN, ↓r_brk, ↓r_cnt, ↓r_drop, ↓r_asg, ↓r_test, ↓r_yes, ↓r_c, ↓r_nil, ↓r_cons, ↓r_var0, ↓r_varS, ↓r_name0, ↓r_nameS, ↓r_op, ↓r_un, ↓r_rU, ↓r_chain, ↓r_andV, ↓r_orV, ↓r_notV, ↓r_call, ↓r_cb, ↓r_tup, ↓r_lst, ↓r_sl, ↓r_noPart, ↓r_part, ↓r_gsub, ↓kB_a, ↓aB_bl, ↓kI_a, ↓aI_int, ↓OK_some, ↓Br_true, ↓Br_false, ↓Cd_true, ↓r_addI, ↓r_addS, ↓r_addUI, ↓r_addUS, ↓r_addL, ↓AlT_cc, ↓AlT_nil, ↓AlT_cnil, ↓r_addT, ↓r_sub, ↓r_mul, ↓r_div, ↓r_mod, ↓r_pow, ↓r_lt, ↓r_le, ↓r_gt, ↓r_ge, ↓r_eq, ↓r_ne, ↓r_isN, ↓r_notN, ↓r_inS, ↓r_ninS, ↓r_in, ↓r_nin, ↓r_inG, ↓r_ninG, ↓r_ixS, ↓r_ix, ↓r_set, ↓r_slS, ↓AlS_lst, ↓AlS_tup, ↓r_slR, ↓r_lenS, ↓r_lenR, ↓r_listU, ↓AlC_lst, ↓AlC_tup, ↓r_tupleU, ↓r_int, ↓r_isi, ↓r_tru, ↓r_truN, ↓r_truB, ↓r_truI, ↓r_truS, ↓r_truR, ↓aL_ref, ↓a1_int, ↓a2_int, ↓r_for1, ↓r_for2, ↓r_for, ↓r_lc, ↓r_lc1, ↓r_lc2,
  OK_some, Br_true, Br_false, Br_not, Cd_true, aB_bl, aI_int, r_rU, r_addI, r_addS, r_sub, r_mul, r_div, r_mod, r_pow, r_lt, r_le, r_gt, r_ge, r_ixS, r_ix, r_set, r_lenS, r_int, r_truN, r_truB, r_truI, r_truS, r_truR, AlT_cc, AlT_nil, AlT_cnil, AlS_lst, AlS_tup, AlC_lst, AlC_tup, a1_int, a2_int, lstO_lst, tupO_tup, seqO_eq, seqO_lst, seqO_tup, lenO_lst, lenO_tup, lenO_dK, e_tyR, tyO_t, e_ty, e_tyn, truO_lst, truO_tup, truO_dK, isa_tab, scal_tab, flat_tab, eqV_t, inV_cons, inV_nil, szl, cmul_l, cpow_l, atI_0, atI_1, atI_2, atI_3, ixN_lit, Option.some.injEq, List.length_cons, List.length_nil, List.length_append, List.length_map, Nat.zero_add, Nat.reduceAdd, natc, Int.reduceLE, Int.reduceLT, Int.reduceEq, Int.reduceSub, Int.reduceAdd, Int.reduceNeg, Int.reduceMul, Int.reducePow, Int.reduceToNat, Nat.reduceLeDiff, Nat.reduceLT, Nat.reduceEqDiff, decide_eq_true_eq, decide_eq_false_iff_not, decide_true, decide_false, Bool.not_eq_true', Bool.not_eq_false', Bool.not_true, Bool.not_false, Bool.not_not, Bool.or_eq_true, Bool.and_eq_true, Bool.or_false, Bool.false_or, Bool.or_true, Bool.true_or, Bool.and_true, Bool.true_and, Bool.and_false, Bool.false_and, Bool.and_self, List.all_cons, List.all_nil, ofs_inj, String.reduceEq, List.cons.injEq, and_true, true_and, and_self, or_true, true_or, or_false, false_or, V.ty.injEq, V.bl.injEq, V.int.injEq, V.str.injEq, V.ref.injEq, List.nil_append, List.append_nil, List.cons_append, List.getElem?_cons_zero, List.getElem?_cons_succ, List.set_cons_zero, List.set_cons_succ, exists_eq_left', exists_eq_left, exists_eq, Bool.false_eq_true, Bool.true_eq_false, reduceCtorEq, not_true_eq_false, not_false_eq_true, eq_self, List.isEmpty_cons, List.isEmpty_nil, wipe, insO_ins, insD_ins, isO_tab, isO_ref, isR_tab, snO_tab, lk_tab, putF_nil, putF_tab, isLs_lst, tyL, m1_self, cutV_1, cutV_to1, Int.zero_add, ↓r_raiseO, ↓r_forEn, ↓r_forK, ↓r_ixD, ↓r_inK, ↓r_ninK, ↓r_setK, ↓r_dnew, ↓aDG_ref, ↓aDG2_ref, ↓r_dget2, ↓r_metX, ↓r_met, ↓aMt_ref, ↓r_prop, ↓aPr_ref, ↓aM_ins, ↓r_dcK, ↓r_for3u, ↓a3_int, keyO_t, reduceIte])

namespace K06
open Pg Nam
abbrev eA (K : PySem.W.Frag) (x : String) : Addr := He.ga K (Str.ofString x)
def Fl (K : PySem.W.Frag) : Prop := PySem.W.exmOne K (.ref (eA K "Recursion")) (.ref (eA K "Recursion")) = some true ∧ ExcC K (eA K "Recursion") ∧ XfOk K (eA K "Recursion") "ring" ∧ PySem.W.kitOne K (.ref (eA K "Recursion")) (.ref (eA K "ReelError")) = some true
def FlB (K : PySem.W.Frag) : Bool := Hd.exmB K (eA K "Recursion") (eA K "Recursion") true && (Hd.excCB K (eA K "Recursion") && (Hd.xfoB K (eA K "Recursion") "ring" && Hd.kitB K (eA K "Recursion") (eA K "ReelError") true))
theorem FlB_ok {K : PySem.W.Frag} (h : FlB K = true) : Fl K := by
  obtain ⟨h1, h⟩ := He.ba h
  obtain ⟨h2, h⟩ := He.ba h
  obtain ⟨h3, h4⟩ := He.ba h
  exact ⟨Hd.exmB_ok h1, Hd.excCB_ok h2, Hd.xfoB_ok h3, Hd.kitB_ok h4⟩
def tC2 (K : PySem.W.Frag) : TS :=
  (tSeq (tIfS (tNot (uTru (uVar 13))) (tRet (tOp rIsNU (uVar 14) (tC .non))) tNext)
  (tRet (tAndV (tOp rNotNU (uVar 14) (tC .non)) (tAndV (tOp rIxU (uVar 14) (tC (.int 1))) (uCall (sp__law_is_ring K) [] E0 (tCons (uVar 2) (tCons (uVar 3) (tCons (tOp rIxU (uVar 14) (tC (.int 0))) tNil))))))))
def tC1 (K : PySem.W.Frag) (a_Recursion a_ReelError : Addr) : TS :=
  (tSeq (tAsg (tCB rAnyU (tCons (tLc (iRng1 (tCons (tCB rLenU (tCons (uVar 2) tNil)) tNil)) (gName 5) tYes (uCall (sp__law_comes_back K) [] E0 (tCons (uVar 2) (tCons (uVar 3) (tCons (uVar 5) tNil)))) [5]) tNil)) (gName 13))
  (tSeq (tAsg (tC .non) (gName 14))
  (tSeq (uTryAs K (.ref a_Recursion) 15 (fun W => (tDrop (uCallX (sp_Program K) W (tCons (uVar 11) tNil)))) (fun a cls d => (tAsg (tLst (tCons (uXf K a cls d "ring" 15) (tCons (tCB (rIsF K a cls d (.ref a_ReelError) (.ref a_ReelError)) (tCons (uVar 15) (tCons (tC (.ref a_ReelError)) tNil))) tNil))) (gName 14))) w0)
  (tC2 K))))
def tB1 (K : PySem.W.Frag) (a_Recursion a_ReelError : Addr) : TS :=
  (tSeq (tAsg (uCall (sp__law_draw K) [] E0 (tCons (uVar 1) (tCons (tCB rLenU (tCons (uVar 2) tNil)) tNil))) (gName 10))
  (tSeq (tAsg tDNewK (gName 11))
  (tSeq (tFor (iRng1 (tCons (tCB rLenU (tCons (uVar 2) tNil)) tNil)) (gName 7) (t_law_3 K))
  (tC1 K a_Recursion a_ReelError))))
structure Rt (H : Hp) (Dd : Addr) (kvs : List (Key × V)) (R : Raw) (P : Prog) (ns : List Str) (bs : List (List In)) : Prop where
  hD : H Dd = some (.dK kvs)
  raw : RawP H kvs R
  ok : RawOk H R
  l1 : 1 ≤ R.length
  l2 : R.length ≤ 60
  fine : ∀ (k : Nat) z xs, R[k]? = some (z, xs) → FineR H z xs
  dec : Deco H R P
  okP : ∀ z b i, (z, b) ∈ P → i ∈ b → i.ok
  perm : P.Perm (prog ns bs)
  mn : Str.ofString "main" ∈ names P
  unk : unkErr (names P) P = none
  cl : ∀ a b, Calls P a b → b ∈ names P
theorem fine_same {H H' : Hp} {R : Raw} (ok : RawOk H R) (s : L2.Same H H') {k : Nat} {z : Str} {xs : List V} (e : R[k]? = some (z, xs)) (h : FineR H z xs) : FineR H' z xs := ⟨h.1, by rw [err_eq fun x hx => (okT_at ((ok.2.2 _ _ _ e).2.2 x hx).1 s).2]; exact h.2⟩
theorem InsAt.same' {H H' : Hp} {xs : List V} {b : List In} (h : InsAt H xs b) (s : L2.Same H H') : InsAt H' xs b := h.kl fun q o e => s _ _ e
theorem Rt.same {H H' : Hp} {Dd : Addr} {kvs : List (Key × V)} {R : Raw} {P : Prog} {ns : List Str} {bs : List (List In)} (r : Rt H Dd kvs R P ns bs) (s : L2.Same H H') : Rt H' Dd kvs R P ns bs :=
  ⟨s _ _ r.hD, r.raw.same s, r.ok.same s, r.l1, r.l2, fun k z xs e => fine_same r.ok s e (r.fine k z xs e), r.dec.t fun q o e => s _ _ e, r.okP, r.perm, r.mn, r.unk, r.cl⟩
noncomputable def ownC (P : Prog) (ns : List Str) (i : Nat) : Bool := @decide (∃ y, ns[i]? = some y ∧ Tc P y y) (Classical.propDecidable _)
theorem ownC_iff {P : Prog} {ns : List Str} {i : Nat} : ownC P ns i = true ↔ ∃ y, ns[i]? = some y ∧ Tc P y y := by
  unfold ownC
  exact @decide_eq_true_iff _ (Classical.propDecidable _)
theorem tailC {K : PySem.W.Frag} (fl : Fl K) {L Bd Dd : Addr} {ns : List Str} {bs : List (List In)} {kvs : List (Key × V)} {R : Raw} {P : Prog} {H : Hp} {Q : VK} {y0 y1 y4 y5 y6 y7 y8 y9 y10 y12 : Option V}
    (nb : NB H L Bd ns bs) (rt : Rt H Dd kvs R P ns bs) (q : ∀ H', Q (.bl true) H') :
    tC1 K (eA K "Recursion") (eA K "ReelError") { nx := fun _ H' => Q .non H', rt := Q } [y0, y1, some (.ref L), some (.ref Bd), y4, y5, y6, y7, y8, y9, y10, some (.ref Dd), y12, none, none, none] H := by
  have nL := nb.nsA
  have few := nb.few
  unfold tC1
  kpt_turns
  refine comp_rmap (fun i => V.bl (ownC (prog ns bs) ns i)) (by omega) (fun i H' R' hi s r => ?_) fun L2 H2 hL2 e2 s2 => ?_
  · obtain ⟨y, hy⟩ : ∃ y, ns[i]? = some y := ⟨_, List.getElem?_eq_getElem (by omega)⟩
    show gName 5 _ _ _ _
    rw [Int.zero_add]
    kfm_turns
    refine Call.by ⟨L, Bd, ns, bs, i, y, rfl, nb.same s, hy, fun c H4 hc s4 => ?_⟩
    have ec : c = ownC (prog ns bs) ns i := by
      rw [Bool.eq_iff_iff, hc, ownC_iff]
      exact ⟨fun h => ⟨y, hy, h⟩, fun ⟨y', h1, h2⟩ => by rw [hy] at h1; cases h1; exact h2⟩
    have r4 := r H4 s4
    rw [← ec] at r4
    kfm_turns
    exact r4
  · have nb2 := nb.same s2
    have rt2 := rt.same s2
    kpt_turns
    have ef : (List.range (ns.length : Int).toNat).map (fun i => V.bl (ownC (prog ns bs) ns i)) = ((List.range (ns.length : Int).toNat).map (fun i => ownC (prog ns bs) ns i)).map V.bl := by
      rw [List.map_map]
      rfl
    rw [ef] at e2
    refine ⟨L2, _, rfl, e2, ?_⟩
    obtain ⟨c, hc, hc2⟩ : ∃ c, c = ((List.range (ns.length : Int).toNat).map (fun i => ownC (prog ns bs) ns i)).any id ∧ (c = true ↔ ∃ y, Tc (prog ns bs) y y) := by
      refine ⟨_, rfl, ?_⟩
      rw [List.any_map, List.any_eq_true]
      refine ⟨fun ⟨i, _, h⟩ => ?_, fun ⟨y, h⟩ => ?_⟩
      · obtain ⟨y, _, h⟩ := ownC_iff.mp h
        exact ⟨y, h⟩
      · have hy : y ∈ names (prog ns bs) := by
          have key : ∀ {a b}, Tc (prog ns bs) a b → a ∈ names (prog ns bs) := fun t => by
            induction t with
            | single h => obtain ⟨b, h1, _⟩ := h; exact List.mem_map.mpr ⟨_, h1, rfl⟩
            | tail _ _ ih => exact ih
          exact key h
        rw [zip_names nb.len] at hy
        obtain ⟨j, h1, h2⟩ := List.mem_iff_getElem.mp hy
        exact ⟨j, List.mem_range.mpr (by omega), ownC_iff.mpr ⟨y, by rw [List.getElem?_eq_getElem h1, h2], h⟩⟩
    rw [← hc]
    clear hc ef e2
    show gName 13 _ _ _ _
    kfm_turns
    refine Call.by ⟨Dd, kvs, R, rfl, rt2.hD, rt2.raw, rt2.ok, fun hl => absurd hl (by have := rt2.l1; have := rt2.l2; omega), fun _ _ => ⟨fun k z xs hk _ => ⟨fun hm => ?_, fun hm j hj => ?_⟩, fun _ P' hP' okP' => ?_⟩⟩
    · rw [(rt2.fine k z xs hk).1] at hm
      cases hm
    · rw [(rt2.fine k z xs hk).2] at hj
      cases hj
    · obtain rfl := deco_uniq rt2.dec hP'
      refine ⟨fun hm => absurd rt2.mn hm, fun _ z j hu => ?_, fun _ _ => ⟨fun r hr dd t H' hdd edd et s => ?_, fun ord srt H' pk s v isp => ?_⟩⟩
      · rw [rt2.unk] at hu
        cases hu
      · obtain ⟨f1, f2, f3, f4⟩ := fl
        obtain ⟨a, _, ta⟩ := ring_tc hr
        have ct : c = true := hc2.mpr ⟨a, tc_perm rt2.perm ta⟩
        subst ct
        have nb3 := nb2.same s
        have hr2 : IsRing (prog ns bs) r := ⟨hr.ne, hr.nd, fun k a b h1 h2 => (calls_perm rt2.perm).mp (hr.ch k a b h1 h2), fun a b h1 h2 => (calls_perm rt2.perm).mp (hr.back a b h1 h2)⟩
        refine as_yes f1 fun e he => ?_
        kfm_turns
        refine Xf.fst f3 edd rfl ?_
        kfm_turns
        refine r_isF f2 (.inr ⟨_, _, rfl, edd⟩) f4 ?_
        kpt_turns
        unfold tC2
        kpt_turns
        rename_i p3 H3 n3
        refine Call.by ⟨L, Bd, t, ns, r, bs, rfl, nb3.same n3.same, n3.old et, hr2, fun H4 s4 => ?_⟩
        kfm_turns
        exact q _
      · have cf : c = false := by
          cases c with
          | false => rfl
          | true =>
            obtain ⟨y, ty⟩ := hc2.mp rfl
            exact absurd (tc_perm rt2.perm.symm ty) (topo_no pk.topo rt2.cl)
        subst cf
        kpt_turns
        unfold tC2
        kpt_turns
        exact q _
end K06
end U
end

section
namespace U
open PySem PySem.Spec PyProof.Rows L2
local macro_rules | `(tactic| tb_start) => `(tactic| first
  | assumption
  | (refine Ne.symm ?_; assumption)
  | ((with_reducible apply New.ne); (focus assumption); (focus tb_rel); done)
  | (refine Ne.symm ?_; (with_reducible apply New.ne); (focus assumption); (focus tb_rel); done)
  | ((with_reducible apply neN); (focus assumption); (focus tb_rel); done)
  | (refine Ne.symm ?_; (with_reducible apply neN); (focus assumption); (focus tb_rel); done)
  | ((with_reducible apply DrawsOk.neN); (focus assumption); (focus kct_strs); done)
  | ((with_reducible apply DrawsOk.neLN); (focus assumption); (focus kct_strs); done)
  | ((with_reducible apply DrawsOk.ne'); (focus assumption); (focus kct_strs); done)
  | ((with_reducible apply DrawsOk.neL'); (focus assumption); (focus kct_strs); done)
  | ((with_reducible apply DrawsOk.other'); (focus assumption); (focus tb_rel); (focus rfl); done)
  | ((with_reducible apply DrawsOk.otherL); (focus assumption); (focus tb_rel); (focus rfl); done)
  | ((with_reducible apply ne_kd); (focus assumption); (focus tb_rel); (focus (intro h; cases h; done)); done))
local macro_rules | `(tactic| tb_rel) => `(tactic| first
  | assumption
  | exact New.at (by assumption)
  | exact Mod.at (by assumption)
  | ((with_reducible apply New.old); (focus assumption); tb_rel)
  | ((with_reducible apply Mod.lk); (focus assumption); (focus tb_rel); focus tb_start)
  | ((with_reducible apply Keep.lk); (focus assumption); (focus tb_rel); focus tb_start)
  | ((with_reducible apply Same.at); (focus assumption); tb_rel))
local macro_rules | `(tactic| kct_strs) => `(tactic| first
  | assumption
  | (refine New.draws (by assumption) ?_; kct_strs)
  | (refine DrawsOk.same ?_ (by assumption); kct_strs)
  | (refine Mod.draws (by assumption) ?_ ?_ ?_; (kct_strs); (focus tb_start); focus tb_start))
local macro_rules | `(tactic| k_updF) => `(tactic| first
  | assumption
  | exact L2.Same.refl _
  | (refine Same.new ?_ (by assumption); k_updF)
  | (refine L2.Same.trans ?_ (by assumption); k_updF)
  | (refine Same.mod ?_ (by assumption) ?_; (k_updF); lcg_sub))
local macro_rules | `(tactic| k_memK) => `(tactic| first
  | assumption
  | exact Keep.refl _ _
  | (refine Keep.new' ?_ (by assumption); k_memK)
  | (refine Keep.trans ?_ (by assumption); k_memK)
  | (refine Keep.trans ?_ (Keep.same' (by assumption)); k_memK)
  | (refine Keep.modd ?_ (by assumption); k_memK)
  | (refine Keep.mod ?_ (by assumption) ?_; (k_memK); lcg_sub))
local macro_rules | `(tactic| lcg_sub) => `(tactic| first
  | assumption
  | exact New.fr (by assumption)
  | (refine Same.none ?_ (New.fr (by assumption)); k_updF)
  | (refine Keep.fresh (D := ?_) ?_ ?_ ?_ (New.fr (by assumption)); rotate_left; (k_memK); (kct_strs); (kct_strs)))
local macro_rules | `(tactic| k_upd) => `(tactic| first
  | assumption
  | exact Kl.refl _
  | (refine Kl.trans ?_ (New.kl (by assumption)); k_upd)
  | (refine Kl.trans ?_ (Same.kl (by assumption)); k_upd)
  | (refine Kl.trans ?_ (Mod.kl (by assumption) (by tb_rel)); k_upd)
  | (refine Kl.trans ?_ (Keep.kl (by assumption) (by kct_strs)); k_upd)
  | (refine Kl.trans ?_ (by assumption); k_upd))
local macro_rules | `(tactic| kst_all1) => `(tactic| first
  | assumption | omega | (with_reducible rfl)
  | (simp only [List.length_append, List.length_map, List.length_set, List.length_take, List.length_drop, List.length_cons, List.length_nil, List.length_replicate]; omega)
  | (refine ⟨?_, ?_⟩ <;> kst_all1)
  | decide)
local macro_rules | `(tactic| k_allIn) => `(tactic| first
  | ((with_reducible apply OKl); (focus tb_rel))
  | ((with_reducible apply OKd); (focus tb_rel))
  | ((with_reducible apply OKdf); (focus tb_rel))
  | ((with_reducible apply OKd1); (focus tb_rel))
  | ((with_reducible apply OKt); (focus tb_rel))
  | ((with_reducible apply OKql); (focus tb_rel))
  | ((with_reducible apply OKqt); (focus tb_rel))
  | ((with_reducible apply OKnl); (focus tb_rel))
  | ((with_reducible apply OKnt); (focus tb_rel))
  | ((with_reducible apply OKnd); (focus tb_rel))
  | ((with_reducible apply OKyl); (focus tb_rel))
  | ((with_reducible apply OKyt); (focus tb_rel))
  | ((with_reducible apply OKyd); (focus tb_rel))
  | ((with_reducible apply OKbl); (focus tb_rel))
  | ((with_reducible apply OKbt); (focus tb_rel))
  | ((with_reducible apply OKbd); (focus tb_rel))
  | ((with_reducible apply OKi); (focus tb_rel))
  | ((with_reducible apply OKj); (focus tb_rel))
  | ((with_reducible apply OKr); (focus tb_rel))
  | ((with_reducible apply OKrt); (focus tb_rel))
  | ((with_reducible apply OKrl); (focus tb_rel))
  | ((with_reducible apply OKsl); (focus tb_rel))
  | ((with_reducible apply OKst); (focus tb_rel))
  | ((with_reducible apply AlS_l); (focus tb_rel))
  | ((with_reducible apply AlS_t); (focus tb_rel))
  | ((with_reducible apply AlC_l); (focus tb_rel))
  | ((with_reducible apply AlC_t); (focus tb_rel))
  | ((with_reducible apply OKn); (focus kst_all1); intro v h)
  | ((with_reducible apply OKl1); (focus kst_all1); intro v h)
  | ((with_reducible apply OKl2); (focus kst_all1); intro v h)
  | ((with_reducible apply OKlk); (focus kst_all1); intro v h)
  | ((with_reducible apply OKln); (focus kst_all1); intro v h)
  | ((with_reducible apply OKg); (focus kst_all1); intro v h)
  | ((with_reducible apply OKxn); (focus kst_all1))
  | ((with_reducible apply OKsi); (focus kst_all1))
  | ((with_reducible apply OKsm); (focus kst_all1))
  | ((with_reducible refine OKa ?_ ?_ ?_); (focus kst_all1); (focus kst_all1); intro j v e h))
local macro_rules | `(tactic| kfm_turns) => `(tactic| repeat first
  | kpc_turns
  | k_allIn
  | l_intsW
  | ((with_reducible apply CdL); (focus tb_rel))
  | ((with_reducible refine Cd.by ?_ ?_); (focus kst_all1))
  | ((with_reducible refine Br.yes ?_ ?_); (focus (first | assumption | omega)))
  | ((with_reducible refine Br.no ?_ ?_); (focus (first | assumption | omega))))
local macro_rules | `(tactic| kpt_turns) => `(tactic| repeat first
  | kpc_turns
  | k_allIn
  | l_intsW
  | (with_reducible refine Al.by fun p H' n => ?_)
  | (with_reducible refine Md.by fun H' m => ?_)
  | ((with_reducible apply CdL); (focus tb_rel))
  | ((with_reducible refine Cd.by ?_ ?_); (focus kst_all1))
  | ((with_reducible refine Br.yes ?_ ?_); (focus (first | assumption | omega)))
  | ((with_reducible refine Br.no ?_ ?_); (focus (first | assumption | omega))))
local macro_rules | `(tactic| nest_cls) => `(tactic| repeat' first
  | kpc_turns
  | k_allIn
  | l_intsW
  | (with_reducible refine Al.by fun p H' n => ?_)
  | (with_reducible refine Md.by fun H' m => ?_)
  | ((with_reducible apply CdL); (focus tb_rel))
  | ((with_reducible refine Cd.by ?_ ?_); (focus kst_all1))
  | ((with_reducible refine Br.yes ?_ ?_); (focus (first | assumption | omega)))
  | ((with_reducible refine Br.no ?_ ?_); (focus (first | assumption | omega)))
  | (with_reducible refine Br.by (fun h => ?_) fun h => ?_))
local macro_rules | `(tactic| kpc_turns) => `(tactic| simp (config := {maxSteps := 4000000}) only [↓r_divm, ↓r_min, ↓r_max, ↓r_abs, ↓r_strI, ↓r_intT, ↓aM_zf, ↓aM_ls, ↓aM_rs, ↓aM_spl, ↓r_mulX, ↓r_rev, ↓r_revR, tyS, ↓un_nx, ↓in_some, ↓in_none, ↓r_cd, ↓aM_pop, ↓aM_popAt, ↓r_tryL, ↓r_fld, ↓r_setF, ↓aSF_ref, ↓r_isO, ↓r_eqO, ↓r_eqN, ↓r_neN, ↓r_gsq, ↓aGs_eq, ↓r_gcons, ↓r_gnil, ↓r_isB, ↓r_bm1, ↓r_bm0, ↓aM_app, ↓r_callX, ↓r_raise0, ↓r_tryAs, ↓r_tryOnly, ↓r_seq, ↓r_ifS, ↓r_or, ↓r_and, ↓r_not, ↓r_next, ↓r_ret, ↓r_retN, ↓r_brk, ↓r_cnt, ↓r_drop, ↓r_asg, ↓r_test, ↓r_yes, ↓r_c, ↓r_nil, ↓r_cons, ↓r_var0, ↓r_varS, ↓r_name0, ↓r_nameS, ↓r_op, ↓r_un, ↓r_rU, ↓r_chain, ↓r_andV, ↓r_orV, ↓r_notV, ↓r_call, ↓r_cb, ↓r_tup, ↓r_lst, ↓r_sl, ↓r_noPart, ↓r_part, ↓r_gsub, ↓kB_a, ↓aB_bl, ↓kI_a, ↓aI_int, ↓OK_some, ↓Br_true, ↓Br_false, ↓Cd_true, ↓r_addI, ↓r_addS, ↓r_addUI, ↓r_addUS, ↓r_addL, ↓AlT_cc, ↓AlT_nil, ↓AlT_cnil, ↓r_addT, ↓r_sub, ↓r_mul, ↓r_div, ↓r_mod, ↓r_pow, ↓r_lt, ↓r_le, ↓r_gt, ↓r_ge, ↓r_eq, ↓r_ne, ↓r_isN, ↓r_notN, ↓r_inS, ↓r_ninS, ↓r_in, ↓r_nin, ↓r_inG, ↓r_ninG, ↓r_ixS, ↓r_ix, ↓r_set, ↓r_slS, ↓AlS_lst, ↓AlS_tup, ↓r_slR, ↓r_lenS, ↓r_lenR, ↓r_listU, ↓AlC_lst, ↓AlC_tup, ↓r_tupleU, ↓r_int, ↓r_isi, ↓r_tru, ↓r_truN, ↓r_truB, ↓r_truI, ↓r_truS, ↓r_truR, ↓aL_ref, ↓a1_int, ↓a2_int, ↓r_for1, ↓r_for2, ↓r_for, ↓r_lc, ↓r_lc1, ↓r_lc2,
  OK_some, Br_true, Br_false, Br_not, Cd_true, aB_bl, aI_int, r_rU, r_addI, r_addS, r_sub, r_mul, r_div, r_mod, r_pow, r_lt, r_le, r_gt, r_ge, r_ixS, r_ix, r_set, r_lenS, r_int, r_truN, r_truB, r_truI, r_truS, r_truR, AlT_cc, AlT_nil, AlT_cnil, AlS_lst, AlS_tup, AlC_lst, AlC_tup, a1_int, a2_int, lstO_lst, tupO_tup, seqO_eq, seqO_lst, seqO_tup, lenO_lst, lenO_tup, lenO_dK, e_tyR, tyO_t, e_ty, e_tyn, truO_lst, truO_tup, truO_dK, isa_tab, scal_tab, flat_tab, eqV_t, inV_cons, inV_nil, szl, cmul_l, cpow_l, atI_0, atI_1, atI_2, atI_3, ixN_lit, Option.some.injEq, List.length_cons, List.length_nil, List.length_append, List.length_map, Nat.zero_add, Nat.reduceAdd, natc, Int.reduceLE, Int.reduceLT, Int.reduceEq, Int.reduceSub, Int.reduceAdd, Int.reduceNeg, Int.reduceMul, Int.reducePow, Int.reduceToNat, Nat.reduceLeDiff, Nat.reduceLT, Nat.reduceEqDiff, decide_eq_true_eq, decide_eq_false_iff_not, decide_true, decide_false, Bool.not_eq_true', Bool.not_eq_false', Bool.not_true, Bool.not_false, Bool.not_not, Bool.or_eq_true, Bool.and_eq_true, Bool.or_false, Bool.false_or, Bool.or_true, Bool.true_or, Bool.and_true, Bool.true_and, Bool.and_false, Bool.false_and, Bool.and_self, List.all_cons, List.all_nil, ofs_inj, String.reduceEq, List.cons.injEq, and_true, true_and, and_self, or_true, true_or, or_false, false_or, V.ty.injEq, V.bl.injEq, V.int.injEq, V.str.injEq, V.ref.injEq, List.nil_append, List.append_nil, List.cons_append, List.getElem?_cons_zero, List.getElem?_cons_succ, List.set_cons_zero, List.set_cons_succ, exists_eq_left', exists_eq_left, exists_eq, Bool.false_eq_true, Bool.true_eq_false, reduceCtorEq, not_true_eq_false, not_false_eq_true, eq_self, List.isEmpty_cons, List.isEmpty_nil, wipe, insO_ins, insD_ins, isO_tab, isO_ref, isR_tab, snO_tab, lk_tab, putF_nil, putF_tab, isLs_lst, tyL, m1_self, cutV_1, cutV_to1, Int.zero_add, ↓r_raiseO, ↓r_forEn, ↓r_forK, ↓r_ixD, ↓r_inK, ↓r_ninK, ↓r_setK, ↓r_dnew, ↓aDG_ref, ↓aDG2_ref, ↓r_dget2, ↓r_metX, ↓r_met, ↓aMt_ref, ↓r_prop, ↓aPr_ref, ↓aM_ins, ↓r_dcK, ↓r_for3u, ↓a3_int, keyO_t, reduceIte])

namespace K06
open Pg Nam
theorem small {ns : List Str} {i : In} (h : ∃ z, i.named = some z ∧ z ∈ ns ∧ Sm1 i) : (∃ z, i = .call z ∧ z ∈ ns) ∨ ∃ z n, i = .rep z n ∧ z ∈ ns ∧ n ≤ 2 := by
  obtain ⟨z, h1, h2, h3⟩ := h
  cases i with
  | bas _ => cases h1
  | call y => cases h1; exact .inl ⟨z, rfl, h2⟩
  | rep y n => cases h1; exact .inr ⟨z, n, rfl, h2, h3⟩
theorem mark_len {z : Str} (h : isMarkS z = true) : z.length ≤ 8 := by
  unfold isMarkS at h
  rw [Bool.and_eq_true, Bool.and_eq_true] at h
  exact of_decide_eq_true h.1.2
theorem okS {H : Hp} {z : Str} (h : z.length ≤ 8) : okV H (.str z) := by
  have : 8 ≤ sizeLine := by decide +kernel
  exact ⟨rfl, Nat.le_trans h this⟩
theorem item_ok {H : Hp} {q : Addr} {ns : List Str} {i : In} (hm : ∀ z ∈ ns, isMarkS z = true) (h : H q = some (.tup i.enc)) (hs : ∃ z, i.named = some z ∧ z ∈ ns ∧ Sm1 i) : okT H (.ref q) ∧ noD H (.ref q) ∧ isInV H (.ref q) = true ∧ i.ok := by
  have tq : tyV H (.ref q) = some .tup := by
    rw [tyV_ref, h]
  have key : ∀ y ∈ i.enc, okV H y ∧ tyV H y ≠ some .dict := fun y hy => by
    rcases small hs with ⟨z, rfl, hz⟩ | ⟨z, n, rfl, hz, hn⟩
    · have hy' : y ∈ [V.str (Str.ofString "call"), V.str z] := hy
      simp only [List.mem_cons, List.not_mem_nil, or_false] at hy'
      rcases hy' with rfl | rfl
      · exact ⟨okS (by decide +kernel), by show (some Ty.str) ≠ some Ty.dict; decide⟩
      · exact ⟨okS (mark_len (hm z hz)), by show (some Ty.str) ≠ some Ty.dict; decide⟩
    · have hy' : y ∈ [V.str (Str.ofString "repeat"), V.str z, V.int (n : Nat)] := hy
      simp only [List.mem_cons, List.not_mem_nil, or_false] at hy'
      rcases hy' with rfl | rfl | rfl
      · exact ⟨okS (by decide +kernel), by show (some Ty.str) ≠ some Ty.dict; decide⟩
      · exact ⟨okS (mark_len (hm z hz)), by show (some Ty.str) ≠ some Ty.dict; decide⟩
      · exact ⟨⟨rfl, trivial⟩, by show (some Ty.int) ≠ some Ty.dict; decide⟩
  refine ⟨⟨⟨by rw [tq]; rfl, trivial⟩, fun p xs e hp x hx => ?_⟩, ⟨by rw [tq]; decide, fun p xs e hp x hx => ?_⟩, ?_, ?_⟩
  · cases e
    rw [h] at hp
    cases hp
    exact (key x hx).1
  · cases e
    rw [h] at hp
    cases hp
    exact (key x hx).2
  · refine isIn_call h ?_
    rcases small hs with ⟨z, rfl, hz⟩ | ⟨z, n, rfl, hz, hn⟩
    · exact .inl ⟨z, rfl, hm z hz⟩
    · exact .inr ⟨z, n, rfl, hm z hz, hn⟩
  · rcases small hs with ⟨z, rfl, hz⟩ | ⟨z, n, rfl, hz, hn⟩
    · exact hm z hz
    · refine ⟨hm z hz, ?_⟩
      have : (2 : Nat) ≤ 10 ^ 120 := by decide +kernel
      omega
theorem rot_zip {ns : List Str} {bs : List (List In)} {XS : List (List V)} {t k : Nat} {z : Str} {xs : List V} (l2 : bs.length = ns.length) (l3 : XS.length = ns.length) (ht : t < ns.length) (h : (rot t (ns.zip XS))[k]? = some (z, xs)) : ∃ a b, a < ns.length ∧ ns[a]? = some z ∧ XS[a]? = some xs ∧ bs[a]? = some b ∧ (rot t (prog ns bs))[k]? = some (z, b) := by
  have zl : (ns.zip XS).length = ns.length := by rw [List.length_zip, l3]; omega
  have pl : (prog ns bs).length = ns.length := by unfold prog; rw [List.length_zip, l2]; omega
  have hk := (List.getElem?_eq_some_iff.mp h).1
  rw [rot_len, zl] at hk
  rw [rot_at (by omega) (by omega), zl, List.getElem?_zip_eq_some] at h
  have ml : (k + t) % ns.length < ns.length := Nat.mod_lt _ (by omega)
  obtain ⟨b, hb⟩ : ∃ b, bs[(k + t) % ns.length]? = some b := ⟨_, List.getElem?_eq_getElem (by rw [l2]; exact ml)⟩
  refine ⟨_, b, ml, h.1, h.2, hb, ?_⟩
  rw [rot_at (by omega) (by omega), pl]
  unfold prog
  rw [List.getElem?_zip_eq_some]
  exact ⟨h.1, hb⟩
theorem Rt.of {H : Hp} {L Bd Dd : Addr} {ns : List Str} {bs : List (List In)} {bv : List V} {XS : List (List V)} {kvs : List (Key × V)} {t : Nat} (nm : Nms ns) (bx : BX H L Bd ns bs bv XS) (all : ∀ b ∈ bs, AllNm ns b ∧ b.length ≤ 50) (ht : t < ns.length) (d : Dct H Dd kvs (rot t (ns.zip XS)) ns.length) :
    Rt H Dd kvs (rot t (ns.zip XS)) (rot t (prog ns bs)) ns bs := by
  have zl : (ns.zip XS).length = ns.length := by rw [List.length_zip, bx.l3]; omega
  have pl : (prog ns bs).length = ns.length := by unfold prog; rw [List.length_zip, bx.l2]; omega
  have Rl : (rot t (ns.zip XS)).length = ns.length := by rw [rot_len, zl]
  have nl := nm.len
  have pr := rot_perm t (prog ns bs)
  have Pn : (names (rot t (prog ns bs))).Perm ns := by
    have := pr.map (·.1)
    have e : (prog ns bs).map (·.1) = ns := zip_names bx.l2
    rw [e] at this
    exact this
  have Rn : (rot t (ns.zip XS)).map (·.1) = rot t ns := by
    rw [rot_map]
    congr 1
    exact List.map_fst_zip (by rw [bx.l3]; omega)
  have mem : ∀ {z b}, (z, b) ∈ rot t (prog ns bs) → z ∈ ns ∧ b ∈ bs := fun h => by
    have h2 := pr.mem_iff.mp h
    exact ⟨(List.of_mem_zip h2).1, (List.of_mem_zip h2).2⟩
  have it : ∀ {k z xs}, (rot t (ns.zip XS))[k]? = some (z, xs) → ∃ b, z ∈ ns ∧ xs.length ≤ 50 ∧ (rot t (prog ns bs))[k]? = some (z, b) ∧ InsAt H xs b ∧ AllNm ns b := fun h => by
    obtain ⟨a, b, _, h1, h2, h3, h4⟩ := rot_zip bx.l2 bx.l3 ht h
    obtain ⟨p, _, _, h5⟩ := bx.at_ a _ b h2 h3
    have h6 := all b (List.mem_of_getElem? h3)
    exact ⟨b, List.mem_of_getElem? h1, by rw [h5.1]; exact h6.2, h4, h5, h6.1⟩
  have item : ∀ {k z xs}, (rot t (ns.zip XS))[k]? = some (z, xs) → ∀ x ∈ xs, okT H x ∧ noD H x ∧ isInV H x = true := fun h x hx => by
    obtain ⟨b, _, _, _, h4, h5⟩ := it h
    obtain ⟨j, hj⟩ := List.mem_iff_getElem?.mp hx
    obtain ⟨i, q, h6, rfl, h7⟩ := h4.at hj
    have := item_ok nm.mark h7 (h5 i (List.mem_of_getElem? h6))
    exact ⟨this.1, this.2.1, this.2.2.1⟩
  refine ⟨d.1, ⟨by rw [d.2.1, Rl], fun k z xs h => ?_⟩, ⟨?_, by omega, fun k z xs h => ?_⟩, by omega, by omega, fun k z xs h => ?_, ⟨by rw [Rl, rot_len, pl], fun k z xs h => ?_⟩, fun z b i h hi => ?_, pr, ?_, ?_, fun a b ⟨c, h1, h2⟩ => ?_⟩
  · obtain ⟨p, h1, h2⟩ := d.2.2 k z xs (by rw [← Rl]; exact (List.getElem?_eq_some_iff.mp h).1) h
    exact ⟨p, h1, .inl h2⟩
  · rw [Rn]
    exact (rot_perm t ns).nodup_iff.mpr nm.nodup
  · obtain ⟨b, h1, h2, _⟩ := it h
    have := mark_len (nm.mark z h1)
    exact ⟨by omega, by omega, fun x hx => ⟨(item h x hx).1, (item h x hx).2.1⟩⟩
  · obtain ⟨b, h1, h2, _⟩ := it h
    refine ⟨nm.mark z h1, ?_⟩
    unfold bodyErr
    rw [if_neg (by omega), List.findIdx?_eq_none_iff]
    intro x hx
    rw [(item h x hx).2.2]
    rfl
  · obtain ⟨b, _, _, h3, h4, _⟩ := it h
    exact ⟨b, h3, h4⟩
  · obtain ⟨_, h2⟩ := mem h
    have h3 := (all b h2).1 i hi
    rcases small h3 with ⟨z, rfl, hz⟩ | ⟨z, n, rfl, hz, hn⟩
    · exact nm.mark z hz
    · refine ⟨nm.mark z hz, ?_⟩
      have : (2 : Nat) ≤ 10 ^ 120 := by decide +kernel
      omega
  · exact Pn.mem_iff.mpr (List.mem_of_getElem? nm.main)
  · refine unk_none fun z b h i hi => ?_
    obtain ⟨y, h3, h4, _⟩ := (all b (mem h).2).1 i hi
    unfold unkI
    rw [h3]
    show (!decide (y ∈ _)) = false
    rw [decide_eq_true (Pn.mem_iff.mpr h4)]
    rfl
  · rw [callees_mem] at h2
    obtain ⟨i, hi, h3⟩ := h2
    obtain ⟨y, h4, h5, _⟩ := (all c (mem h1).2).1 i hi
    rw [h3] at h4
    cases h4
    exact Pn.mem_iff.mpr h5
theorem tailB {K : PySem.W.Frag} (fl : Fl K) {Dw : Dr} {L Bd : Addr} {ns : List Str} {bs : List (List In)} {bv : List V} {H0 H : Hp} {Q : VK} {y0 y4 y5 y6 y7 y8 y9 : Option V}
    (nm : Nms ns) (dl : DrL Dw H0 Bd bv H) (hL0 : H0 L = some (.lst (ns.map V.str))) (hLd : L ≠ Dw.d) (hb : Bo H Dw Bd bv bs) (lb : bs.length = ns.length) (all : ∀ b ∈ bs, AllNm ns b ∧ b.length ≤ 50) (q : ∀ H', Q (.bl true) H') :
    tB1 K (eA K "Recursion") (eA K "ReelError") { nx := fun _ H' => Q .non H', rt := Q } [y0, some (.ref Dw.d), some (.ref L), some (.ref Bd), y4, y5, y6, y7, y8, y9, none, none, none, none, none, none] H := by
  have nl := nm.len
  have hL := dl.kp.at hLd hL0
  unfold tB1
  kfm_turns
  refine c_draw dl.dr (by omega) (by omega) fun r H2 r0 r1 d2 k2 => ?_
  obtain ⟨t, rfl⟩ := Int.eq_ofNat_of_zero_le r0
  have dl2 := dl.draw d2 k2
  have hL2 := dl2.kp.at hLd hL0
  have hb2 : Bo H2 Dw Bd bv bs := ⟨hb.1, fun i b h => by
    obtain ⟨p, xs, h1, h2, h3, h4, h5⟩ := hb.2 i b h
    exact ⟨p, xs, h1, h2, h3, k2.at h2 h4, h5.kl fun q o e => k2.kl dl.dr _ _ e rfl⟩⟩
  obtain ⟨XS, bx⟩ := BX.of hL2 dl2.at_ hb2 lb
  have lx : ∀ xs ∈ XS, xs.length ≤ 100 := fun xs h => by
    obtain ⟨i, hi⟩ := List.mem_iff_getElem?.mp h
    have hi2 := (List.getElem?_eq_some_iff.mp hi).1
    obtain ⟨b, hb3⟩ : ∃ b, bs[i]? = some b := ⟨_, List.getElem?_eq_getElem (by rw [bx.l2, ← bx.l3]; exact hi2)⟩
    obtain ⟨_, _, _, h5⟩ := bx.at_ i xs b hi hb3
    have := (all b (List.mem_of_getElem? hb3)).2
    rw [h5.1]
    omega
  kpt_turns
  rename_i Dd H3 n3
  have s3 := n3.same
  refine loop_rng (fun i σ H' => ∃ (y7 y12 : Option V) (kvs : List (Key × V)), σ = [y0, some (.ref Dw.d), some (.ref L), some (.ref Bd), y4, y5, y6, y7, y8, y9, some (.int t), some (.ref Dd), y12, none, none, none] ∧ L2.Same H2 H' ∧ Dct H' Dd kvs (rot t (ns.zip XS)) i)
    ⟨_, _, [], rfl, s3, n3.at, rfl, fun j z xs h => absurd h (Nat.not_lt_zero _)⟩ (fun i σ H4 hi ⟨y7, y12, kvs, e, s4, hd⟩ => ?_) fun σ H4 ⟨y7, y12, kvs, e, s4, hd⟩ => ?_
  · subst e
    show gName 7 _ _ _ _
    rw [Int.zero_add]
    kfm_turns
    exact step3 bx nm.nodup nl.2 (by omega) (by omega) lx s4 n3.fr hd fun y12 kvs' H' a1 a2 => ⟨_, _, _, rfl, a1, a2⟩
  · subst e
    have bx4 := bx.same s4
    have en : (ns.length : Int).toNat = ns.length := by omega
    rw [en] at hd
    refine tailC fl (kvs := kvs) (R := rot t (ns.zip XS)) (P := rot t (prog ns bs)) ⟨bx4.nL, ⟨bv, bx4.bL, by rw [bx4.l1, bx4.l2], fun i b h => ?_⟩, bx4.l2, by omega, nm.nodup, fun b h => ⟨(all b h).1, by have := (all b h).2; omega⟩⟩ (Rt.of nm bx4 all (by omega) hd) q
    obtain ⟨xs, hx⟩ : ∃ xs, XS[i]? = some xs := ⟨_, List.getElem?_eq_getElem (by rw [bx.l3, ← bx.l2]; exact (List.getElem?_eq_some_iff.mp h).1)⟩
    obtain ⟨p, h1, h2, h3⟩ := bx4.at_ i xs b hx h
    exact ⟨p, xs, h1, h2, h3⟩
def sp_law (K : PySem.W.Frag) : Sp := fun vs H Q _ => ∃ (a : Addr) (ns : List Int), vs = [.ref a] ∧ SqL K H a (ns.map V.int) ∧ ∀ H', Q (.bl true) H'
theorem len_law {K : PySem.W.Frag} : ∀ vs H Q E, sp_law K vs H Q E → vs.length = 1 := fun _ _ _ _ ⟨_, _, e, _⟩ => by rw [e]; rfl
theorem pure_law {K : PySem.W.Frag} (fl : Fl K) (vs : List V) (H : Hp) (Q : VK) (E : XK) (h : sp_law K vs H Q E) : t_law K (He.ga K "Recursion") (He.ga K "ReelError") { nx := fun _ H' => Q .non H', rt := Q } (start ["_law_script", "_law_draws", "_law_names_here", "_law_bodies", "_law_dense", "_law_place", "_law_body", "_law_k", "_law_inner", "_law_one", "_law_turn", "_law_routines", "_law_at", "_law_due", "_law_ring", "e"] vs) H := by
  obtain ⟨a, sc, rfl, hs, q⟩ := h
  unfold t_law
  show tSeq _ (tSeq _ (tSeq _ (tSeq _ (tSeq _ (tB1 K (eA K "Recursion") (eA K "ReelError")))))) _ [some (.ref a), none, none, none, none, none, none, none, none, none, none, none, none, none, none, none] H
  kfm_turns
  refine Call.by ⟨a, sc, rfl, hs, fun Dw H1 _ d1 _ => ?_⟩
  kfm_turns
  refine c_draw d1 (by decide) (by decide) fun r H2 r0 r1 d2 k2 => ?_
  obtain ⟨f, rfl⟩ := Int.eq_ofNat_of_zero_le r0
  kfm_turns
  refine Call.by ⟨Dw, 1 + f, by rw [show ((1 : Int) + (f : Nat)) = ((1 + f : Nat) : Int) by omega], d2, by omega, by omega, fun L ns H3 nm ln dl => ?_⟩
  kpt_turns
  rename_i Bd H4 n4
  have nl := nm.len
  have hL4 : H4 L = some (.lst (ns.map V.str)) := n4.old dl.at_
  have db := DrL.new dl.dr n4
  refine c_draw db.dr (by decide) (by decide) fun r H5 r0 r1 d5 k5 => ?_
  obtain ⟨de, rfl⟩ := Int.eq_ofNat_of_zero_le r0
  have db5 := db.draw d5 k5
  have hL5 := db5.kp.at dl.n1 dl.at_
  kfm_turns
  refine loop_rng (fun i σ H' => ∃ (y5 y6 y7 y8 y9 : Option V) (bv : List V) (bs : List (List In)), σ = [some (.ref a), some (.ref Dw.d), some (.ref L), some (.ref Bd), some (.int (de : Nat)), y5, y6, y7, y8, y9, none, none, none, none, none, none] ∧ DrL Dw H3 Bd bv H' ∧ Bo H' Dw Bd bv bs ∧ bs.length = i ∧ ∀ b ∈ bs, AllNm ns b ∧ b.length ≤ 50)
    ⟨_, _, _, _, _, [], [], rfl, db5, ⟨rfl, fun i b h => by rw [List.getElem?_nil] at h; cases h⟩, rfl, fun b h => (nomatch h)⟩ (fun i σ H6 hi ⟨y5, y6, y7, y8, y9, bv, bs, e, d6, hb, lb, all⟩ => ?_) fun σ H6 ⟨y5, y6, y7, y8, y9, bv, bs, e, d6, hb, lb, all⟩ => ?_
  · subst e
    show gName 5 _ _ _ _
    rw [Int.zero_add]
    kfm_turns
    exact step2 d6 dl.at_ dl.n1 nl.1 nl.2 (by omega) (by omega) (by omega) hb fun y6 y7 y8 y9 b bv' H' a1 a2 a3 a4 => ⟨_, _, _, _, _, bv', bs ++ [b], rfl, a1, a2, by rw [List.length_append, lb]; rfl, fun c hc => by
      rcases List.mem_append.mp hc with h | h
      · exact all c h
      · rw [List.mem_singleton.mp h]
        exact ⟨a3, a4⟩⟩
  · subst e
    exact tailB fl nm d6 dl.at_ dl.n1 hb (by omega) all q
end K06
end U
end

section
namespace U
open PySem PySem.Spec PyProof.Rows L2
namespace K06
open Hd Nm Pg Nam
def top (i : Nat) : Stmt := PySem.Challenge.pw_reelcode_k06_rings_are_shown.main.body.getD i (.Pass ⟨0, 0, 0, 0⟩)
abbrev s__law_begin : Stmt := top 31
abbrev N__law_begin : List Str := ["_law_script"]
theorem sc__law_begin : FnScope N__law_begin ["_law_script"] (defScope s__law_begin) := ⟨rfl, rfl, rfl, by decide +kernel, rfl, by decide +kernel, by decide +kernel⟩
abbrev s__law_draw : Stmt := top 32
abbrev N__law_draw : List Str := ["_law_draws", "_law_many", "_law_cell", "_law_found"]
theorem sc__law_draw : FnScope N__law_draw ["_law_draws", "_law_many"] (defScope s__law_draw) := ⟨rfl, rfl, rfl, by decide +kernel, rfl, by decide +kernel, by decide +kernel⟩
abbrev s__law_names : Stmt := top 33
abbrev N__law_names : List Str := ["_law_draws", "_law_many", "_law_names_here", "_law_letters", "_law_k", "_law_form", "_law_one"]
theorem sc__law_names : FnScope N__law_names ["_law_draws", "_law_many"] (defScope s__law_names) := ⟨rfl, rfl, rfl, by decide +kernel, rfl, by decide +kernel, by decide +kernel⟩
abbrev s__law_names_of : Stmt := top 34
abbrev N__law_names_of : List Str := ["_law_body", "_law_one"]
theorem sc__law_names_of : FnScope N__law_names_of ["_law_body"] (defScope s__law_names_of) := ⟨rfl, rfl, rfl, by decide +kernel, rfl, by decide +kernel, by decide +kernel⟩
abbrev s__law_comes_back : Stmt := top 35
abbrev N__law_comes_back : List Str := ["_law_names_here", "_law_bodies", "_law_start", "_law_found", "_law_waiting", "_law_place", "_law_name", "_law_inner"]
theorem sc__law_comes_back : FnScope N__law_comes_back ["_law_names_here", "_law_bodies", "_law_start"] (defScope s__law_comes_back) := ⟨rfl, rfl, rfl, by decide +kernel, rfl, by decide +kernel, by decide +kernel⟩
abbrev s_named : Stmt := top 26
abbrev N_named : List Str := ["instruction"]
theorem sc_named : FnScope N_named ["instruction"] (defScope s_named) := ⟨rfl, rfl, rfl, by decide +kernel, rfl, by decide +kernel, by decide +kernel⟩
abbrev s_callees : Stmt := top 27
abbrev N_callees : List Str := ["body", "found", "instruction", "name"]
theorem sc_callees : FnScope N_callees ["body"] (defScope s_callees) := ⟨rfl, rfl, rfl, by decide +kernel, rfl, by decide +kernel, by decide +kernel⟩
abbrev s_Recursion_init : Stmt := inClass (top 9) 0
abbrev N_Recursion_init : List Str := ["self", "ring"]
theorem sc_Recursion_init : FnScope N_Recursion_init ["self", "ring"] (defScope s_Recursion_init) := ⟨rfl, rfl, rfl, by decide +kernel, rfl, by decide +kernel, by decide +kernel⟩
abbrev s_called_first : Stmt := top 28
abbrev N_called_first : List Str := ["bodies", "done", "order", "start", "path", "name", "waiting", "other"]
theorem sc_called_first : FnScope N_called_first ["bodies"] (defScope s_called_first) := ⟨rfl, rfl, rfl, by decide +kernel, rfl, by decide +kernel, by decide +kernel⟩
abbrev s_UnknownRoutine_init : Stmt := inClass (top 8) 0
abbrev N_UnknownRoutine_init : List Str := ["self", "name", "index"]
theorem sc_UnknownRoutine_init : FnScope N_UnknownRoutine_init ["self", "name", "index"] (defScope s_UnknownRoutine_init) := ⟨rfl, rfl, rfl, by decide +kernel, rfl, by decide +kernel, by decide +kernel⟩
abbrev s_is_mark : Stmt := top 13
abbrev N_is_mark : List Str := ["value", "letter"]
theorem sc_is_mark : FnScope N_is_mark ["value"] (defScope s_is_mark) := ⟨rfl, rfl, rfl, by decide +kernel, rfl, by decide +kernel, by decide +kernel⟩
abbrev s_BadName_init : Stmt := inClass (top 7) 0
abbrev N_BadName_init : List Str := ["self", "index"]
theorem sc_BadName_init : FnScope N_BadName_init ["self", "index"] (defScope s_BadName_init) := ⟨rfl, rfl, rfl, by decide +kernel, rfl, by decide +kernel, by decide +kernel⟩
abbrev s_BadInstruction_init : Stmt := inClass (top 6) 0
abbrev N_BadInstruction_init : List Str := ["self", "name", "index"]
theorem sc_BadInstruction_init : FnScope N_BadInstruction_init ["self", "name", "index"] (defScope s_BadInstruction_init) := ⟨rfl, rfl, rfl, by decide +kernel, rfl, by decide +kernel, by decide +kernel⟩
abbrev s_in_range : Stmt := top 22
abbrev N_in_range : List Str := ["value", "greatest"]
theorem sc_in_range : FnScope N_in_range ["value", "greatest"] (defScope s_in_range) := ⟨rfl, rfl, rfl, by decide +kernel, rfl, by decide +kernel, by decide +kernel⟩
abbrev s_is_basic : Stmt := top 23
abbrev N_is_basic : List Str := ["value", "word"]
theorem sc_is_basic : FnScope N_is_basic ["value"] (defScope s_is_basic) := ⟨rfl, rfl, rfl, by decide +kernel, rfl, by decide +kernel, by decide +kernel⟩
abbrev s_is_instruction : Stmt := top 24
abbrev N_is_instruction : List Str := ["value"]
theorem sc_is_instruction : FnScope N_is_instruction ["value"] (defScope s_is_instruction) := ⟨rfl, rfl, rfl, by decide +kernel, rfl, by decide +kernel, by decide +kernel⟩
abbrev s_check_body : Stmt := top 25
abbrev N_check_body : List Str := ["name", "body", "index", "value"]
theorem sc_check_body : FnScope N_check_body ["name", "body"] (defScope s_check_body) := ⟨rfl, rfl, rfl, by decide +kernel, rfl, by decide +kernel, by decide +kernel⟩
abbrev s_Program_init : Stmt := inClass (top 29) 0
abbrev N_Program_init : List Str := ["self", "routines", "index", "name", "instruction"]
theorem sc_Program_init : FnScope N_Program_init ["self", "routines"] (defScope s_Program_init) := ⟨rfl, rfl, rfl, by decide +kernel, rfl, by decide +kernel, by decide +kernel⟩
abbrev s__law_is_ring : Stmt := top 36
abbrev N__law_is_ring : List Str := ["_law_names_here", "_law_bodies", "_law_ring", "_law_k", "_law_body"]
theorem sc__law_is_ring : FnScope N__law_is_ring ["_law_names_here", "_law_bodies", "_law_ring"] (defScope s__law_is_ring) := ⟨rfl, rfl, rfl, by decide +kernel, rfl, by decide +kernel, by decide +kernel⟩
abbrev s_law : Stmt := top 37
abbrev N_law : List Str := ["_law_script", "_law_draws", "_law_names_here", "_law_bodies", "_law_dense", "_law_place", "_law_body", "_law_k", "_law_inner", "_law_one", "_law_turn", "_law_routines", "_law_at", "_law_due", "_law_ring", "e"]
theorem sc_law : FnScope N_law ["_law_script"] (defScope s_law) := ⟨rfl, rfl, rfl, by decide +kernel, rfl, by decide +kernel, by decide +kernel⟩
section
variable {P : Program} {w : World} {K : PySem.W.Frag} {mg : Str → Option Value} {base : Heap} {f : Addr} {fd : FuncData}
theorem ok__law_begin (F : FunD K "_law_begin" "_law_begin" (defArgs s__law_begin) (defBody s__law_begin) (defScope s__law_begin) [] [] f fd) (z_list : mg "list" = none) : FnOk P w K mg base CX0 1 f fd ["_law_script"] (sp__law_begin K) := by
  have nd := sc__law_begin.nd
  refine F.ok sc__law_begin (fun vs H Q E h => ?_) (fun cdv A outer s H vs Q E hr h => ⟨t__law_begin K, PSs.nox ?_, pure__law_begin vs H Q E h⟩)
  · first | exact len__law_begin vs H Q E h | exact len_gen vs H Q E h | (obtain ⟨_, _, rfl, _⟩ := h; rfl)
  · exact (pss_one (ps_ret (pe_lst (pa_cons (pe_callTy call_list_of (by rfl) z_list (by decide +kernel) (pa_cons (pe_uVar 0) pa_nil)) (pa_cons pe_int (pa_cons pe_int (pa_cons pe_int pa_nil)))))))
theorem bd__law_begin (F : FunD K "_law_begin" "_law_begin" (defArgs s__law_begin) (defBody s__law_begin) (defScope s__law_begin) [] [] f fd) : Binds K fd ["_law_script"] [] := (F.bindsN fun _ _ _ _ _ _ us hl => match us, hl with | [_], _ => rfl)
theorem cal__law_begin (F : FunD K "_law_begin" "_law_begin" (defArgs s__law_begin) (defBody s__law_begin) (defScope s__law_begin) [] [] f fd) (hm : mg "_law_begin" = some (.ref f)) (k : FnOk P w K mg base CX0 1 f fd ["_law_script"] (sp__law_begin K)) : Callee P w K mg base CX0 1 "_law_begin" ["_law_script"] [] (sp__law_begin K) :=
  ⟨f, fd, [], hm, k, F.kp, bd__law_begin F, .nil⟩
theorem ok__law_draw (F : FunD K "_law_draw" "_law_draw" (defArgs s__law_draw) (defBody s__law_draw) (defScope s__law_draw) [] [] f fd) (z_len : mg "len" = none) (z_int : mg "int" = none) : FnOk P w K mg base CX0 1 f fd ["_law_draws", "_law_many"] (sp__law_draw K) := by
  have nd := sc__law_draw.nd
  refine F.ok sc__law_draw (fun vs H Q E h => ?_) (fun cdv A outer s H vs Q E hr h => ⟨t__law_draw K, PSs.nox ?_, pure__law_draw vs H Q E h⟩)
  · first | exact len__law_draw vs H Q E h | exact len_gen vs H Q E h | (obtain ⟨_, _, rfl, _⟩ := h; rfl)
  · exact (pss_cons (ps_if (pt_cmpR (op_eqS) (pe_ix ix_U (pe_uVar 0) pe_int (fun _ _ => rfl)) pe_int (nomark _)) (pss_one (ps_if (pt_cmpR (op_ltU) (pe_ix ix_U (pe_uVar 0) pe_int (fun _ _ => rfl)) (pe_callB call_lenU (by rfl) z_len (by decide +kernel) (pa_cons (pe_ix ix_U (pe_uVar 0) pe_int (fun _ _ => rfl)) pa_nil)) (nomark _)) (pss_cons (ps_set (i := 2) nd rfl (Or.inl rfl) (pe_ix ix_U (pe_ix ix_U (pe_uVar 0) pe_int (fun _ _ => rfl)) (pe_ix ix_U (pe_uVar 0) pe_int (fun _ _ => rfl)) (fun _ _ => rfl))) (pss_cons (ps_asg (pe_op op_addI (pe_ix ix_U (pe_uVar 0) pe_int (fun _ _ => rfl)) pe_int) (pg_sub (pe_uVar 0) pe_int set_U)) (pss_one (ps_if (pt_cmpR (op_geU) (pe_uVar 2) (pe_op op_powU pe_int pe_int) (nomark _)) (pss_one (ps_asg (pe_uVar 2) (pg_sub (pe_uVar 0) pe_int set_U))) (pss_one (ps_asg (pe_op op_modU (pe_callTy call_intU (by rfl) z_int (by decide +kernel) (pa_cons (pe_op op_addI (pe_op op_addI (pe_op op_mulI (pe_ix ix_U (pe_uVar 0) pe_int (fun _ _ => rfl)) pe_int) (pe_op op_mulI (pe_uVar 2) pe_int)) pe_int) pa_nil)) pe_int) (pg_sub (pe_uVar 0) pe_int set_U))))))) (pss_one (ps_asg (pe_op op_modU (pe_callTy call_intU (by rfl) z_int (by decide +kernel) (pa_cons (pe_op op_addI (pe_op op_mulI (pe_ix ix_U (pe_uVar 0) pe_int (fun _ _ => rfl)) pe_int) pe_int) pa_nil)) pe_int) (pg_sub (pe_uVar 0) pe_int set_U))))) pss_nil) (pss_cons (ps_if (pt_cmpR (op_gtU) (pe_ix ix_U (pe_uVar 0) pe_int (fun _ _ => rfl)) pe_int (nomark _)) (pss_cons (ps_set (i := 3) nd rfl (Or.inl rfl) (pe_op op_modU (pe_callTy call_intU (by rfl) z_int (by decide +kernel) (pa_cons (pe_ix ix_U (pe_uVar 0) pe_int (fun _ _ => rfl)) pa_nil)) (pe_uVar 1))) (pss_cons (ps_asg (pe_op op_divU (pe_ix ix_U (pe_uVar 0) pe_int (fun _ _ => rfl)) (pe_uVar 1)) (pg_sub (pe_uVar 0) pe_int set_U)) (pss_one (ps_ret (pe_uVar 3))))) pss_nil) (pss_one (ps_ret (pe_op op_modU (pe_op op_modU (pe_callTy call_intU (by rfl) z_int (by decide +kernel) (pa_cons (pe_op op_mulI (pe_ix ix_U (pe_uVar 0) pe_int (fun _ _ => rfl)) pe_int) pa_nil)) pe_int) (pe_uVar 1))))))
theorem bd__law_draw (F : FunD K "_law_draw" "_law_draw" (defArgs s__law_draw) (defBody s__law_draw) (defScope s__law_draw) [] [] f fd) : Binds K fd ["_law_draws", "_law_many"] [] := (F.bindsN fun _ _ _ _ _ _ us hl => match us, hl with | [_, _], _ => rfl)
theorem cal__law_draw (F : FunD K "_law_draw" "_law_draw" (defArgs s__law_draw) (defBody s__law_draw) (defScope s__law_draw) [] [] f fd) (hm : mg "_law_draw" = some (.ref f)) (k : FnOk P w K mg base CX0 1 f fd ["_law_draws", "_law_many"] (sp__law_draw K)) : Callee P w K mg base CX0 1 "_law_draw" ["_law_draws", "_law_many"] [] (sp__law_draw K) :=
  ⟨f, fd, [], hm, k, F.kp, bd__law_draw F, .nil⟩
theorem ok__law_names (F : FunD K "_law_names" "_law_names" (defArgs s__law_names) (defBody s__law_names) (defScope s__law_names) [] [] f fd) (z_range : mg "range" = none) (c__law_draw : Callee P w K mg base CX0 1 "_law_draw" ["_law_draws", "_law_many"] [] (sp__law_draw K)) : FnOk P w K mg base CX0 2 f fd ["_law_draws", "_law_many"] (sp__law_names K) := by
  have nd := sc__law_names.nd
  refine F.ok sc__law_names (fun vs H Q E h => ?_) (fun cdv A outer s H vs Q E hr h => ⟨t__law_names K, PSs.nox ?_, pure__law_names vs H Q E h⟩)
  · first | exact len__law_names vs H Q E h | exact len_gen vs H Q E h | (obtain ⟨_, _, rfl, _⟩ := h; rfl)
  · exact (pss_cons (ps_set (i := 2) nd rfl (Or.inl rfl) (pe_lst (pa_cons pe_str pa_nil))) (pss_cons (ps_set (i := 3) nd rfl (Or.inl rfl) pe_str) (pss_cons (ps_for PassesOwn.never rfl (pi_range1 (by rfl) z_range (pa_cons (pe_op op_subU (pe_uVar 1) pe_int) pa_nil)) (pg_name (i := 4) nd rfl (Or.inl rfl)) (pss_cons (ps_set (i := 5) nd rfl (Or.inl rfl) (pe_cal c__law_draw (hr.mono (by decide)) (pa_cons (pe_uVar 0) (pa_cons pe_int pa_nil)))) (pss_cons (ps_set (i := 6) nd rfl (Or.inl rfl) (pe_ix ix_U (pe_uVar 3) (pe_uVar 4) (fun _ _ => rfl))) (pss_cons (ps_if (pt_cmpR (op_eqS) (pe_uVar 5) pe_int (nomark _)) (pss_one (ps_set (i := 6) nd rfl (Or.inl rfl) (pe_op op_addS pe_str (pe_uVar 6)))) pss_nil) (pss_cons (ps_if (pt_cmpR (op_eqS) (pe_uVar 5) pe_int (nomark _)) (pss_one (ps_set (i := 6) nd rfl (Or.inl rfl) (pe_op op_addS (pe_uVar 6) pe_str))) pss_nil) (pss_cons (ps_if (pt_cmpR (op_eqS) (pe_uVar 5) pe_int (nomark _)) (pss_one (ps_set (i := 6) nd rfl (Or.inl rfl) (pe_op op_addS pe_str (pe_uVar 6)))) pss_nil) (pss_one (ps_expr (pe_bm PySem.F.plainAttrs_list PySem.F.slot_list_append PySem.F.type_list_append mt_append (pe_uVar 2) (pa_cons (pe_uVar 6) pa_nil)))))))))) (pss_one (ps_ret (pe_uVar 2))))))
theorem bd__law_names (F : FunD K "_law_names" "_law_names" (defArgs s__law_names) (defBody s__law_names) (defScope s__law_names) [] [] f fd) : Binds K fd ["_law_draws", "_law_many"] [] := (F.bindsN fun _ _ _ _ _ _ us hl => match us, hl with | [_, _], _ => rfl)
theorem cal__law_names (F : FunD K "_law_names" "_law_names" (defArgs s__law_names) (defBody s__law_names) (defScope s__law_names) [] [] f fd) (hm : mg "_law_names" = some (.ref f)) (k : FnOk P w K mg base CX0 2 f fd ["_law_draws", "_law_many"] (sp__law_names K)) : Callee P w K mg base CX0 2 "_law_names" ["_law_draws", "_law_many"] [] (sp__law_names K) :=
  ⟨f, fd, [], hm, k, F.kp, bd__law_names F, .nil⟩
theorem ok__law_names_of (F : FunD K "_law_names_of" "_law_names_of" (defArgs s__law_names_of) (defBody s__law_names_of) (defScope s__law_names_of) [] [] f fd)  : FnOk P w K mg base CX0 1 f fd ["_law_body"] (sp__law_names_of K) := by
  have nd := sc__law_names_of.nd
  refine F.ok sc__law_names_of (fun vs H Q E h => ?_) (fun cdv A outer s H vs Q E hr h => ⟨t__law_names_of K, PSs.nox ?_, pure__law_names_of vs H Q E h⟩)
  · first | exact len__law_names_of vs H Q E h | exact len_gen vs H Q E h | (obtain ⟨_, _, rfl, _⟩ := h; rfl)
  · exact (pss_one (ps_ret (pe_lc (own := [("_law_one", 1)]) (g := (gName 1)) (tt := tYes) rfl nd (pi_U (pe_uVar 0)) (blkOk_by (N := N__law_names_of) (sc := defScope s__law_names_of) (by decide +kernel)) (fun _ _ _ _ _ => (pg_name (i := 1) nd rfl (Or.inl rfl))) (fun _ _ _ _ _ => pts_nil) (fun _ _ _ _ _ => (pe_ix ix_U (pe_uVar 1) pe_int (fun _ _ => rfl))))))
theorem bd__law_names_of (F : FunD K "_law_names_of" "_law_names_of" (defArgs s__law_names_of) (defBody s__law_names_of) (defScope s__law_names_of) [] [] f fd) : Binds K fd ["_law_body"] [] := (F.bindsN fun _ _ _ _ _ _ us hl => match us, hl with | [_], _ => rfl)
theorem cal__law_names_of (F : FunD K "_law_names_of" "_law_names_of" (defArgs s__law_names_of) (defBody s__law_names_of) (defScope s__law_names_of) [] [] f fd) (hm : mg "_law_names_of" = some (.ref f)) (k : FnOk P w K mg base CX0 1 f fd ["_law_body"] (sp__law_names_of K)) : Callee P w K mg base CX0 1 "_law_names_of" ["_law_body"] [] (sp__law_names_of K) :=
  ⟨f, fd, [], hm, k, F.kp, bd__law_names_of F, .nil⟩
theorem ok__law_comes_back (F : FunD K "_law_comes_back" "_law_comes_back" (defArgs s__law_comes_back) (defBody s__law_comes_back) (defScope s__law_comes_back) [] [] f fd) (z_len : mg "len" = none) (c__law_names_of : Callee P w K mg base CX0 1 "_law_names_of" ["_law_body"] [] (sp__law_names_of K)) : FnOk P w K mg base CX0 2 f fd ["_law_names_here", "_law_bodies", "_law_start"] (sp__law_comes_back K) := by
  have nd := sc__law_comes_back.nd
  refine F.ok sc__law_comes_back (fun vs H Q E h => ?_) (fun cdv A outer s H vs Q E hr h => ⟨t__law_comes_back K, PSs.nox ?_, pure__law_comes_back vs H Q E h⟩)
  · first | exact len__law_comes_back vs H Q E h | exact len_gen vs H Q E h | (obtain ⟨_, _, rfl, _⟩ := h; rfl)
  · exact (pss_cons (ps_set (i := 3) nd rfl (Or.inl rfl) (pe_lst pa_nil)) (pss_cons (ps_set (i := 4) nd rfl (Or.inl rfl) (pe_lst (pa_cons (pe_uVar 2) pa_nil))) (pss_cons (ps_while PassesOwn.never (pt_cmpR (op_gtU) (pe_callB call_lenU (by rfl) z_len (by decide +kernel) (pa_cons (pe_uVar 4) pa_nil)) pe_int (nomark _)) (pss_cons (ps_set (i := 5) nd rfl (Or.inl rfl) (pe_bm0 PySem.F.plainAttrs_list PySem.F.slot_list_pop PySem.F.type_list_pop mt_pop (pe_uVar 4))) (pss_one (ps_for PassesOwn.never rfl (pi_U (pe_cal c__law_names_of (hr.mono (by decide)) (pa_cons (pe_ix ix_U (pe_uVar 1) (pe_uVar 5) (fun _ _ => rfl)) pa_nil))) (pg_name (i := 6) nd rfl (Or.inl rfl)) (pss_cons (ps_set (i := 7) nd rfl (Or.inl rfl) (pe_bm PySem.F.plainAttrs_list PySem.F.slot_list_index PySem.F.type_list_index mt_index (pe_uVar 0) (pa_cons (pe_uVar 6) pa_nil))) (pss_cons (ps_if (pt_cmpR (op_eqS) (pe_uVar 7) (pe_uVar 2) (nomark _)) (pss_one (ps_ret pe_bl)) pss_nil) (pss_one (ps_if (pt_cmpR (op_notInU) (pe_uVar 7) (pe_uVar 3) rfl) (pss_cons (ps_expr (pe_bm PySem.F.plainAttrs_list PySem.F.slot_list_append PySem.F.type_list_append mt_append (pe_uVar 3) (pa_cons (pe_uVar 7) pa_nil))) (pss_one (ps_expr (pe_bm PySem.F.plainAttrs_list PySem.F.slot_list_append PySem.F.type_list_append mt_append (pe_uVar 4) (pa_cons (pe_uVar 7) pa_nil))))) pss_nil)))))))) (pss_one (ps_ret pe_bl)))))
theorem bd__law_comes_back (F : FunD K "_law_comes_back" "_law_comes_back" (defArgs s__law_comes_back) (defBody s__law_comes_back) (defScope s__law_comes_back) [] [] f fd) : Binds K fd ["_law_names_here", "_law_bodies", "_law_start"] [] := (F.bindsN fun _ _ _ _ _ _ us hl => match us, hl with | [_, _, _], _ => rfl)
theorem cal__law_comes_back (F : FunD K "_law_comes_back" "_law_comes_back" (defArgs s__law_comes_back) (defBody s__law_comes_back) (defScope s__law_comes_back) [] [] f fd) (hm : mg "_law_comes_back" = some (.ref f)) (k : FnOk P w K mg base CX0 2 f fd ["_law_names_here", "_law_bodies", "_law_start"] (sp__law_comes_back K)) : Callee P w K mg base CX0 2 "_law_comes_back" ["_law_names_here", "_law_bodies", "_law_start"] [] (sp__law_comes_back K) :=
  ⟨f, fd, [], hm, k, F.kp, bd__law_comes_back F, .nil⟩
theorem ok_named (F : FunD K "named" "named" (defArgs s_named) (defBody s_named) (defScope s_named) [] [] f fd)  : FnOk P w K mg base CX0 1 f fd ["instruction"] (sp_named K) := by
  have nd := sc_named.nd
  refine F.ok sc_named (fun vs H Q E h => ?_) (fun cdv A outer s H vs Q E hr h => ⟨t_named K, PSs.nox ?_, pure_named vs H Q E h⟩)
  · first | exact len_named vs H Q E h | exact len_gen vs H Q E h | (obtain ⟨_, _, rfl, _⟩ := h; rfl)
  · exact (pss_cons (ps_if (PW.pt (pw_or (pt_cmpR (op_eqS) (pe_ix ix_U (pe_uVar 0) pe_int (fun _ _ => rfl)) pe_str (nomark _)) (pw_or1 (pt_cmpR (op_eqS) (pe_ix ix_U (pe_uVar 0) pe_int (fun _ _ => rfl)) pe_str (nomark _))))) (pss_one (ps_ret (pe_ix ix_U (pe_uVar 0) pe_int (fun _ _ => rfl)))) pss_nil) (pss_one (ps_ret pe_non)))
theorem bd_named (F : FunD K "named" "named" (defArgs s_named) (defBody s_named) (defScope s_named) [] [] f fd) : Binds K fd ["instruction"] [] := (F.bindsN fun _ _ _ _ _ _ us hl => match us, hl with | [_], _ => rfl)
theorem cal_named (F : FunD K "named" "named" (defArgs s_named) (defBody s_named) (defScope s_named) [] [] f fd) (hm : mg "named" = some (.ref f)) (k : FnOk P w K mg base CX0 1 f fd ["instruction"] (sp_named K)) : Callee P w K mg base CX0 1 "named" ["instruction"] [] (sp_named K) :=
  ⟨f, fd, [], hm, k, F.kp, bd_named F, .nil⟩
theorem ok_callees (F : FunD K "callees" "callees" (defArgs s_callees) (defBody s_callees) (defScope s_callees) [] [] f fd) (c_named : Callee P w K mg base CX0 1 "named" ["instruction"] [] (sp_named K)) : FnOk P w K mg base CX0 2 f fd ["body"] (sp_callees K) := by
  have nd := sc_callees.nd
  refine F.ok sc_callees (fun vs H Q E h => ?_) (fun cdv A outer s H vs Q E hr h => ⟨t_callees K, PSs.nox ?_, pure_callees vs H Q E h⟩)
  · first | exact len_callees vs H Q E h | exact len_gen vs H Q E h | (obtain ⟨_, _, rfl, _⟩ := h; rfl)
  · exact (pss_cons (ps_set (i := 1) nd rfl (Or.inl rfl) (pe_lst pa_nil)) (pss_cons (ps_for PassesOwn.never rfl (pi_U (pe_uVar 0)) (pg_name (i := 2) nd rfl (Or.inl rfl)) (pss_cons (ps_set (i := 3) nd rfl (Or.inl rfl) (pe_cal c_named (hr.mono (by decide)) (pa_cons (pe_uVar 2) pa_nil))) (pss_one (ps_if (PW.pt (pw_and (pt_cmpR (op_notNU) (pe_uVar 3) pe_non (nomark _)) (pw_and1 (pt_cmpR (op_notInU) (pe_uVar 3) (pe_uVar 1) rfl)))) (pss_one (ps_expr (pe_bm PySem.F.plainAttrs_list PySem.F.slot_list_append PySem.F.type_list_append mt_append (pe_uVar 1) (pa_cons (pe_uVar 3) pa_nil)))) pss_nil)))) (pss_one (ps_ret (pe_uVar 1)))))
theorem bd_callees (F : FunD K "callees" "callees" (defArgs s_callees) (defBody s_callees) (defScope s_callees) [] [] f fd) : Binds K fd ["body"] [] := (F.bindsN fun _ _ _ _ _ _ us hl => match us, hl with | [_], _ => rfl)
theorem cal_callees (F : FunD K "callees" "callees" (defArgs s_callees) (defBody s_callees) (defScope s_callees) [] [] f fd) (hm : mg "callees" = some (.ref f)) (k : FnOk P w K mg base CX0 2 f fd ["body"] (sp_callees K)) : Callee P w K mg base CX0 2 "callees" ["body"] [] (sp_callees K) :=
  ⟨f, fd, [], hm, k, F.kp, bd_callees F, .nil⟩
theorem ok_Recursion_init (F : FunD K "__init__" "Recursion.__init__" (defArgs s_Recursion_init) (defBody s_Recursion_init) (defScope s_Recursion_init) [] [] f fd)  : FnOk P w K mg base CX0 1 f fd ["self", "ring"] (sp_Recursion_init K) := by
  have nd := sc_Recursion_init.nd
  refine F.ok sc_Recursion_init (fun vs H Q E h => ?_) (fun cdv A outer s H vs Q E hr h => ⟨t_Recursion_init K, PSs.nox ?_, pure_Recursion_init vs H Q E h⟩)
  · first | exact len_Recursion_init vs H Q E h | exact len_gen vs H Q E h | (obtain ⟨_, _, rfl, _⟩ := h; rfl)
  · exact (pss_one (ps_ost (pe_uVar 0) (pe_uVar 1)))
theorem bd_Recursion_init (F : FunD K "__init__" "Recursion.__init__" (defArgs s_Recursion_init) (defBody s_Recursion_init) (defScope s_Recursion_init) [] [] f fd) : Binds K fd ["self", "ring"] [] := (F.bindsN fun _ _ _ _ _ _ us hl => match us, hl with | [_, _], _ => rfl)
theorem ok_called_first (F : FunD K "called_first" "called_first" (defArgs s_called_first) (defBody s_called_first) (defScope s_called_first) [] [] f fd) (ox_Recursion : OxC P w K mg base 1 "Recursion" (He.ga K "Recursion") (sp_Recursion_init K)) (hm_Recursion : mg "Recursion" = some (.ref (He.ga K "Recursion"))) (z_tuple : mg "tuple" = none) (c_callees : Callee P w K mg base CX0 2 "callees" ["body"] [] (sp_callees K)) (fpg : Fpg K) : FnOk P w K mg base (L2.CX P w) 3 f fd ["bodies"] (sp_called_first K) := by
  have nd := sc_called_first.nd
  refine F.ok sc_called_first (fun vs H Q E h => ?_) (fun cdv A outer s H vs Q E hr h => ⟨t_called_first K (He.ga K "Recursion") E, ?_, pure_called_first fpg vs H Q E h⟩)
  · first | exact len_called_first vs H Q E h | exact len_gen vs H Q E h | (obtain ⟨_, _, rfl, _⟩ := h; rfl)
  · refine withTk (takes_of rfl rfl rfl rfl) fun tk => ?_
    exact (pss_cons (ps_set (i := 1) nd rfl (Or.inr rfl) pe_dnewK) (pss_cons (ps_set (i := 2) nd rfl (Or.inl rfl) (pe_lst pa_nil)) (pss_cons (ps_uLock (i := 0) (tb := fun W => (tFor (iKeyU (uVar 0)) (gName 3) (tSeq (tAsg (tLst (tCons (uVar 3) tNil)) (gName 4))
  (tWhile (uTru (uVar 4)) (tSeq (tAsg (tOp rIxU (uVar 4) (tUn (rU fun i => .int (-i)) (tC (.int 1)))) (gName 5))
  (tSeq (tAsg (tLc (iU K (uCall (sp_callees K) [] E0 (tCons (tOp rIxD (uVar 0) (uVar 5)) tNil))) (gName 7) (tTest (tOp rNinK (uVar 7) (uVar 1))) (uVar 7) [7]) (gName 6))
  (tIfS (tOr (tTest (tOp rInK (uVar 5) (uVar 1))) (tNot (uTru (uVar 6)))) (tSeq (tIfS (tTest (tOp rNinK (uVar 5) (uVar 1))) (tSeq (tAsg (tC (.bl true)) (gSub (uVar 1) (uVar 5) rSetK))
  (tDrop (tBM K "list" rAppend (uVar 2) (tCons (uVar 5) tNil)))) tNext)
  (tDrop (tBM0 K "list" rPop (uVar 4)))) (tIfS (tTest (tOp (rInU false) (tOp rIxU (uVar 6) (tC (.int 0))) (uVar 4))) (uRaiseO W (He.ga K "Recursion") (sp_Recursion_init K) (tCons (tCB rTupleU (tCons (tSl rSlU (uVar 4) (uPart (tBM K "list" (rIndex K) (uVar 4) (tCons (tOp rIxU (uVar 6) (tC (.int 0))) tNil))) tNoPart) tNil)) tNil)) (tDrop (tBM K "list" rAppend (uVar 4) (tCons (tOp rIxU (uVar 6) (tC (.int 0))) tNil))))))))))) (fun W tkl => (ps_for (passes_of rfl) rfl (pi_keyU (pe_uVar 0)) (pg_name (i := 3) nd rfl (Or.inl rfl)) (pss_cons (ps_set (i := 4) nd rfl (Or.inl rfl) (pe_lst (pa_cons (pe_uVar 3) pa_nil))) (pss_one (ps_while (passes_of rfl) (pt_uTru (pe_uVar 4)) (pss_cons (ps_set (i := 5) nd rfl (Or.inl rfl) (pe_ix ix_U (pe_uVar 4) (pe_un un_neg pe_int) (fun _ _ => rfl))) (pss_cons (ps_setLc (i := 6) (own := [("other", 7)]) (g := (gName 7)) (tt := (tTest (tOp rNinK (uVar 7) (uVar 1)))) rfl nd rfl rfl (sw_true rfl rfl rfl (by decide +kernel)) (pi_U (pe_cal c_callees (hr.mono (by decide)) (pa_cons (pe_ix (ix_D (u1 hr.units)) (pe_uVar 0) (pe_uVar 5) (fun _ _ => rfl)) pa_nil))) (blkOk_by (N := N_called_first) (sc := defScope s_called_first) (by decide +kernel)) (fun _ _ _ _ _ => (pg_name (i := 7) nd rfl (Or.inl rfl))) (fun _ _ _ _ _ => (pts_one (pt_cmpR (op_notInK (u1 hr.units)) (pe_uVar 7) (pe_uVar 1) rfl))) (fun _ _ _ _ _ => (pe_uVar 7))) (pss_one (ps_if (PW.pt (pw_or (pt_cmpR (op_inK (u1 hr.units)) (pe_uVar 5) (pe_uVar 1) rfl) (pw_or1 (pt_not (pt_uTru (pe_uVar 6)))))) (pss_cons (ps_if (pt_cmpR (op_notInK (u1 hr.units)) (pe_uVar 5) (pe_uVar 1) rfl) (pss_cons (ps_asg pe_bl (pg_sub (pe_uVar 1) (pe_uVar 5) (set_K (u1 hr.units)))) (pss_one (ps_expr (pe_bm PySem.F.plainAttrs_list PySem.F.slot_list_append PySem.F.type_list_append mt_append (pe_uVar 2) (pa_cons (pe_uVar 5) pa_nil))))) pss_nil) (pss_one (ps_expr (pe_bm0 PySem.F.plainAttrs_list PySem.F.slot_list_pop PySem.F.type_list_pop mt_pop (pe_uVar 4))))) (pss_one (ps_if (pt_cmpR (op_inU) (pe_ix ix_U (pe_uVar 6) pe_int (fun _ _ => rfl)) (pe_uVar 4) rfl) (pss_one (ps_raiseO ox_Recursion (hr.mono (by decide)) tkl (pa_cons (pe_callTy call_tupleU (by rfl) z_tuple (by decide +kernel) (pa_cons (pe_slice sl_U (pe_uVar 4) (po_uPart (pe_bm PySem.F.plainAttrs_list PySem.F.slot_list_index PySem.F.type_list_index mt_index (pe_uVar 4) (pa_cons (pe_ix ix_U (pe_uVar 6) pe_int (fun _ _ => rfl)) pa_nil))) po_none) pa_nil)) pa_nil))) (pss_one (ps_expr (pe_bm PySem.F.plainAttrs_list PySem.F.slot_list_append PySem.F.type_list_append mt_append (pe_uVar 4) (pa_cons (pe_ix ix_U (pe_uVar 6) pe_int (fun _ _ => rfl)) pa_nil))))))))))))))) tk) (pss_one (ps_ret (pe_uVar 2))))))
theorem bd_called_first (F : FunD K "called_first" "called_first" (defArgs s_called_first) (defBody s_called_first) (defScope s_called_first) [] [] f fd) : Binds K fd ["bodies"] [] := (F.bindsN fun _ _ _ _ _ _ us hl => match us, hl with | [_], _ => rfl)
theorem ok_UnknownRoutine_init (F : FunD K "__init__" "UnknownRoutine.__init__" (defArgs s_UnknownRoutine_init) (defBody s_UnknownRoutine_init) (defScope s_UnknownRoutine_init) [] [] f fd)  : FnOk P w K mg base CX0 1 f fd ["self", "name", "index"] (sp_UnknownRoutine_init K) := by
  have nd := sc_UnknownRoutine_init.nd
  refine F.ok sc_UnknownRoutine_init (fun vs H Q E h => ?_) (fun cdv A outer s H vs Q E hr h => ⟨t_UnknownRoutine_init K, PSs.nox ?_, pure_UnknownRoutine_init vs H Q E h⟩)
  · first | exact len_UnknownRoutine_init vs H Q E h | exact len_gen vs H Q E h | (obtain ⟨_, _, rfl, _⟩ := h; rfl)
  · exact (pss_cons (ps_ost (pe_uVar 0) (pe_uVar 1)) (pss_one (ps_ost (pe_uVar 0) (pe_uVar 2))))
theorem bd_UnknownRoutine_init (F : FunD K "__init__" "UnknownRoutine.__init__" (defArgs s_UnknownRoutine_init) (defBody s_UnknownRoutine_init) (defScope s_UnknownRoutine_init) [] [] f fd) : Binds K fd ["self", "name", "index"] [] := (F.bindsN fun _ _ _ _ _ _ us hl => match us, hl with | [_, _, _], _ => rfl)
theorem ok_is_mark (F : FunD K "is_mark" "is_mark" (defArgs s_is_mark) (defBody s_is_mark) (defScope s_is_mark) [] [] f fd) (z_isinstance : mg "isinstance" = none) (z_str : mg "str" = none) (z_len : mg "len" = none) (hc_LETTERS : ∃ t, mg "LETTERS" = some (.str "abcdefghijklmnopqrstuvwxyz" t)) : FnOk P w K mg base CX0 1 f fd ["value"] (sp_is_mark K) := by
  have nd := sc_is_mark.nd
  obtain ⟨_, hc_LETTERS⟩ := hc_LETTERS
  refine F.ok sc_is_mark (fun vs H Q E h => ?_) (fun cdv A outer s H vs Q E hr h => ⟨t_is_mark K, PSs.nox ?_, pure_is_mark vs H Q E h⟩)
  · first | exact len_is_mark vs H Q E h | exact len_gen vs H Q E h | (obtain ⟨_, _, rfl, _⟩ := h; rfl)
  · exact (pss_cons (ps_if (PW.pt (pw_or (pt_not (pt_uTru (pe_callB (call_isiU (c := .str) (by decide)) (by rfl) z_isinstance boot_isinstance (pa_cons (pe_uVar 0) (pa_cons (pe_bltn (v := .ty "str") (by rfl) z_str (by decide +kernel) rfl) pa_nil))))) (pw_or1 (pt_not (pt_chain op_leU op_leU pe_int (pe_callB call_lenU (by rfl) z_len (by decide +kernel) (pa_cons (pe_uVar 0) pa_nil)) pe_int))))) (pss_one (ps_ret pe_bl)) pss_nil) (pss_cons (ps_for PassesOwn.never rfl (pi_U (pe_uVar 0)) (pg_name (i := 1) nd rfl (Or.inl rfl)) (pss_one (ps_if (pt_cmpR (op_notInU) (pe_uVar 1) (pe_glob (by rfl) hc_LETTERS ⟨_, rfl⟩) rfl) (pss_one (ps_ret pe_bl)) pss_nil))) (pss_one (ps_ret pe_bl))))
theorem bd_is_mark (F : FunD K "is_mark" "is_mark" (defArgs s_is_mark) (defBody s_is_mark) (defScope s_is_mark) [] [] f fd) : Binds K fd ["value"] [] := (F.bindsN fun _ _ _ _ _ _ us hl => match us, hl with | [_], _ => rfl)
theorem cal_is_mark (F : FunD K "is_mark" "is_mark" (defArgs s_is_mark) (defBody s_is_mark) (defScope s_is_mark) [] [] f fd) (hm : mg "is_mark" = some (.ref f)) (k : FnOk P w K mg base CX0 1 f fd ["value"] (sp_is_mark K)) : Callee P w K mg base CX0 1 "is_mark" ["value"] [] (sp_is_mark K) :=
  ⟨f, fd, [], hm, k, F.kp, bd_is_mark F, .nil⟩
theorem ok_BadName_init (F : FunD K "__init__" "BadName.__init__" (defArgs s_BadName_init) (defBody s_BadName_init) (defScope s_BadName_init) [] [] f fd)  : FnOk P w K mg base CX0 1 f fd ["self", "index"] (sp_BadName_init K) := by
  have nd := sc_BadName_init.nd
  refine F.ok sc_BadName_init (fun vs H Q E h => ?_) (fun cdv A outer s H vs Q E hr h => ⟨t_BadName_init K, PSs.nox ?_, pure_BadName_init vs H Q E h⟩)
  · first | exact len_BadName_init vs H Q E h | exact len_gen vs H Q E h | (obtain ⟨_, _, rfl, _⟩ := h; rfl)
  · exact (pss_one (ps_ost (pe_uVar 0) (pe_uVar 1)))
theorem bd_BadName_init (F : FunD K "__init__" "BadName.__init__" (defArgs s_BadName_init) (defBody s_BadName_init) (defScope s_BadName_init) [] [] f fd) : Binds K fd ["self", "index"] [] := (F.bindsN fun _ _ _ _ _ _ us hl => match us, hl with | [_, _], _ => rfl)
theorem ok_BadInstruction_init (F : FunD K "__init__" "BadInstruction.__init__" (defArgs s_BadInstruction_init) (defBody s_BadInstruction_init) (defScope s_BadInstruction_init) [] [] f fd)  : FnOk P w K mg base CX0 1 f fd ["self", "name", "index"] (sp_BadInstruction_init K) := by
  have nd := sc_BadInstruction_init.nd
  refine F.ok sc_BadInstruction_init (fun vs H Q E h => ?_) (fun cdv A outer s H vs Q E hr h => ⟨t_BadInstruction_init K, PSs.nox ?_, pure_BadInstruction_init vs H Q E h⟩)
  · first | exact len_BadInstruction_init vs H Q E h | exact len_gen vs H Q E h | (obtain ⟨_, _, rfl, _⟩ := h; rfl)
  · exact (pss_cons (ps_ost (pe_uVar 0) (pe_uVar 1)) (pss_one (ps_ost (pe_uVar 0) (pe_uVar 2))))
theorem bd_BadInstruction_init (F : FunD K "__init__" "BadInstruction.__init__" (defArgs s_BadInstruction_init) (defBody s_BadInstruction_init) (defScope s_BadInstruction_init) [] [] f fd) : Binds K fd ["self", "name", "index"] [] := (F.bindsN fun _ _ _ _ _ _ us hl => match us, hl with | [_, _, _], _ => rfl)
theorem ok_in_range (F : FunD K "in_range" "in_range" (defArgs s_in_range) (defBody s_in_range) (defScope s_in_range) [] [] f fd) (z_isinstance : mg "isinstance" = none) (z_int : mg "int" = none) (z_bool : mg "bool" = none) : FnOk P w K mg base CX0 1 f fd ["value", "greatest"] (sp_in_range K) := by
  have nd := sc_in_range.nd
  refine F.ok sc_in_range (fun vs H Q E h => ?_) (fun cdv A outer s H vs Q E hr h => ⟨t_in_range K, PSs.nox ?_, pure_in_range vs H Q E h⟩)
  · first | exact len_in_range vs H Q E h | exact len_gen vs H Q E h | (obtain ⟨_, _, rfl, _⟩ := h; rfl)
  · exact (pss_one (ps_ret (pe_and (pe_callB (call_isiU (c := .int) (by decide)) (by rfl) z_isinstance boot_isinstance (pa_cons (pe_uVar 0) (pa_cons (pe_bltn (v := .ty "int") (by rfl) z_int (by decide +kernel) rfl) pa_nil))) (pe_and (pe_not (pe_callB (call_isiU (c := .bl) (by decide)) (by rfl) z_isinstance boot_isinstance (pa_cons (pe_uVar 0) (pa_cons (pe_bltn (v := .ty "bool") (by rfl) z_bool (by decide +kernel) rfl) pa_nil)))) (pe_one (pe_chain op_leU op_leU pe_int (pe_uVar 0) (pe_uVar 1)))))))
theorem bd_in_range (F : FunD K "in_range" "in_range" (defArgs s_in_range) (defBody s_in_range) (defScope s_in_range) [] [] f fd) : Binds K fd ["value", "greatest"] [] := (F.bindsN fun _ _ _ _ _ _ us hl => match us, hl with | [_, _], _ => rfl)
theorem cal_in_range (F : FunD K "in_range" "in_range" (defArgs s_in_range) (defBody s_in_range) (defScope s_in_range) [] [] f fd) (hm : mg "in_range" = some (.ref f)) (k : FnOk P w K mg base CX0 1 f fd ["value", "greatest"] (sp_in_range K)) : Callee P w K mg base CX0 1 "in_range" ["value", "greatest"] [] (sp_in_range K) :=
  ⟨f, fd, [], hm, k, F.kp, bd_in_range F, .nil⟩
theorem ok_is_basic (F : FunD K "is_basic" "is_basic" (defArgs s_is_basic) (defBody s_is_basic) (defScope s_is_basic) [] [] f fd) (z_isinstance : mg "isinstance" = none) (z_tuple : mg "tuple" = none) (z_len : mg "len" = none) (z_str : mg "str" = none) {a_PLAIN : Addr} (hm_PLAIN : mg "PLAIN" = some (.ref a_PLAIN)) (hx_PLAIN : ∀ H, SqT K H a_PLAIN [.str "drop", .str "emit", .str "same", .str "differ"]) {a_DEPTHS : Addr} (hm_DEPTHS : mg "DEPTHS" = some (.ref a_DEPTHS)) (hx_DEPTHS : ∀ H, SqT K H a_DEPTHS [.str "pick", .str "roll"]) (hm_State : mg "State" = some (.ref (He.ga K "State"))) (hk_State_HEIGHT : ClX.CRead K (He.ga K "State") (.type "type") ∧ ∃ u, ClX.CVal K (He.ga K "State") (.type "type") "HEIGHT" (.int 24) u) {a_STORES : Addr} (hm_STORES : mg "STORES" = some (.ref a_STORES)) (hx_STORES : ∀ H, SqT K H a_STORES [.str "keep", .str "load"]) (hk_State_REGISTERS : ClX.CRead K (He.ga K "State") (.type "type") ∧ ∃ u, ClX.CVal K (He.ga K "State") (.type "type") "REGISTERS" (.int 4) u) {a_MARKED : Addr} (hm_MARKED : mg "MARKED" = some (.ref a_MARKED)) (hx_MARKED : ∀ H, SqT K H a_MARKED [.str "push", .str "expect"]) (c_in_range : Callee P w K mg base CX0 1 "in_range" ["value", "greatest"] [] (sp_in_range K)) (c_is_mark : Callee P w K mg base CX0 1 "is_mark" ["value"] [] (sp_is_mark K)) : FnOk P w K mg base CX0 2 f fd ["value"] (sp_is_basic K) := by
  have nd := sc_is_basic.nd
  have hf_PLAIN : [V.str "drop", V.str "emit", V.str "same", V.str "differ"].all flatV = true := rfl
  have hf_DEPTHS : [V.str "pick", V.str "roll"].all flatV = true := rfl
  have hf_STORES : [V.str "keep", V.str "load"].all flatV = true := rfl
  have hf_MARKED : [V.str "push", V.str "expect"].all flatV = true := rfl
  refine F.ok sc_is_basic (fun vs H Q E h => ?_) (fun cdv A outer s H vs Q E hr h => ⟨t_is_basic K a_PLAIN a_DEPTHS a_STORES a_MARKED, PSs.nox ?_, pure_is_basic vs H Q E h⟩)
  · first | exact len_is_basic vs H Q E h | exact len_gen vs H Q E h | (obtain ⟨_, _, rfl, _⟩ := h; rfl)
  · exact (pss_cons (ps_if (PW.pt (pw_or (pt_not (pt_uTru (pe_callB (call_isiU (c := .tup) (by decide)) (by rfl) z_isinstance boot_isinstance (pa_cons (pe_uVar 0) (pa_cons (pe_bltn (v := .ty "tuple") (by rfl) z_tuple (by decide +kernel) rfl) pa_nil))))) (pw_or (pt_not (pt_chain op_leU op_leU pe_int (pe_callB call_lenU (by rfl) z_len (by decide +kernel) (pa_cons (pe_uVar 0) pa_nil)) pe_int)) (pw_or1 (pt_not (pt_uTru (pe_callB (call_isiU (c := .str) (by decide)) (by rfl) z_isinstance boot_isinstance (pa_cons (pe_ix ix_U (pe_uVar 0) pe_int (fun _ _ => rfl)) (pa_cons (pe_bltn (v := .ty "str") (by rfl) z_str (by decide +kernel) rfl) pa_nil))))))))) (pss_one (ps_ret pe_bl)) pss_nil) (pss_cons (ps_set (i := 1) nd rfl (Or.inl rfl) (pe_ix ix_U (pe_uVar 0) pe_int (fun _ _ => rfl))) (pss_cons (ps_if (pt_cmpR (op_eqS) (pe_callB call_lenU (by rfl) z_len (by decide +kernel) (pa_cons (pe_uVar 0) pa_nil)) pe_int (nomark _)) (pss_one (ps_ret (pe_cmpR (op_inG hx_PLAIN hf_PLAIN) (pe_uVar 1) (pe_glob (v := .ref a_PLAIN) (by rfl) hm_PLAIN rfl) rfl))) pss_nil) (pss_cons (ps_if (pt_cmpR (op_inG hx_DEPTHS hf_DEPTHS) (pe_uVar 1) (pe_glob (v := .ref a_DEPTHS) (by rfl) hm_DEPTHS rfl) rfl) (pss_one (ps_ret (pe_cal c_in_range (hr.mono (by decide)) (pa_cons (pe_ix ix_U (pe_uVar 0) pe_int (fun _ _ => rfl)) (pa_cons (pe_op op_subU (pe_uCon (by rfl) hm_State hk_State_HEIGHT) pe_int) pa_nil))))) pss_nil) (pss_cons (ps_if (pt_cmpR (op_inG hx_STORES hf_STORES) (pe_uVar 1) (pe_glob (v := .ref a_STORES) (by rfl) hm_STORES rfl) rfl) (pss_one (ps_ret (pe_cal c_in_range (hr.mono (by decide)) (pa_cons (pe_ix ix_U (pe_uVar 0) pe_int (fun _ _ => rfl)) (pa_cons (pe_op op_subU (pe_uCon (by rfl) hm_State hk_State_REGISTERS) pe_int) pa_nil))))) pss_nil) (pss_one (ps_ret (pe_and (pe_cmpR (op_inG hx_MARKED hf_MARKED) (pe_uVar 1) (pe_glob (v := .ref a_MARKED) (by rfl) hm_MARKED rfl) rfl) (pe_one (pe_cal c_is_mark (hr.mono (by decide)) (pa_cons (pe_ix ix_U (pe_uVar 0) pe_int (fun _ _ => rfl)) pa_nil)))))))))))
theorem bd_is_basic (F : FunD K "is_basic" "is_basic" (defArgs s_is_basic) (defBody s_is_basic) (defScope s_is_basic) [] [] f fd) : Binds K fd ["value"] [] := (F.bindsN fun _ _ _ _ _ _ us hl => match us, hl with | [_], _ => rfl)
theorem cal_is_basic (F : FunD K "is_basic" "is_basic" (defArgs s_is_basic) (defBody s_is_basic) (defScope s_is_basic) [] [] f fd) (hm : mg "is_basic" = some (.ref f)) (k : FnOk P w K mg base CX0 2 f fd ["value"] (sp_is_basic K)) : Callee P w K mg base CX0 2 "is_basic" ["value"] [] (sp_is_basic K) :=
  ⟨f, fd, [], hm, k, F.kp, bd_is_basic F, .nil⟩
theorem ok_is_instruction (F : FunD K "is_instruction" "is_instruction" (defArgs s_is_instruction) (defBody s_is_instruction) (defScope s_is_instruction) [] [] f fd) (z_isinstance : mg "isinstance" = none) (z_tuple : mg "tuple" = none) (z_len : mg "len" = none) (z_str : mg "str" = none) (hc_GREATEST : ∃ t, mg "GREATEST" = some (.int 1000000000000000000000000000000000000000000000000000000000000000000000000000000000000000000000000000000000000000000000000 t)) (c_is_basic : Callee P w K mg base CX0 2 "is_basic" ["value"] [] (sp_is_basic K)) (c_is_mark : Callee P w K mg base CX0 1 "is_mark" ["value"] [] (sp_is_mark K)) (c_in_range : Callee P w K mg base CX0 1 "in_range" ["value", "greatest"] [] (sp_in_range K)) : FnOk P w K mg base CX0 3 f fd ["value"] (sp_is_instruction K) := by
  have nd := sc_is_instruction.nd
  obtain ⟨_, hc_GREATEST⟩ := hc_GREATEST
  refine F.ok sc_is_instruction (fun vs H Q E h => ?_) (fun cdv A outer s H vs Q E hr h => ⟨t_is_instruction K, PSs.nox ?_, pure_is_instruction vs H Q E h⟩)
  · first | exact len_is_instruction vs H Q E h | exact len_gen vs H Q E h | (obtain ⟨_, _, rfl, _⟩ := h; rfl)
  · exact (pss_cons (ps_if (pt_uTru (pe_cal c_is_basic (hr.mono (by decide)) (pa_cons (pe_uVar 0) pa_nil))) (pss_one (ps_ret pe_bl)) pss_nil) (pss_cons (ps_if (PW.pt (pw_or (pt_not (pt_uTru (pe_callB (call_isiU (c := .tup) (by decide)) (by rfl) z_isinstance boot_isinstance (pa_cons (pe_uVar 0) (pa_cons (pe_bltn (v := .ty "tuple") (by rfl) z_tuple (by decide +kernel) rfl) pa_nil))))) (pw_or (pt_not (pt_chain op_leU op_leU pe_int (pe_callB call_lenU (by rfl) z_len (by decide +kernel) (pa_cons (pe_uVar 0) pa_nil)) pe_int)) (pw_or1 (pt_not (pt_uTru (pe_callB (call_isiU (c := .str) (by decide)) (by rfl) z_isinstance boot_isinstance (pa_cons (pe_ix ix_U (pe_uVar 0) pe_int (fun _ _ => rfl)) (pa_cons (pe_bltn (v := .ty "str") (by rfl) z_str (by decide +kernel) rfl) pa_nil))))))))) (pss_one (ps_ret pe_bl)) pss_nil) (pss_cons (ps_if (pt_cmpR (op_eqS) (pe_callB call_lenU (by rfl) z_len (by decide +kernel) (pa_cons (pe_uVar 0) pa_nil)) pe_int (nomark _)) (pss_one (ps_ret (pe_and (pe_cmpR (op_eqS) (pe_ix ix_U (pe_uVar 0) pe_int (fun _ _ => rfl)) pe_str (nomark _)) (pe_one (pe_cal c_is_mark (hr.mono (by decide)) (pa_cons (pe_ix ix_U (pe_uVar 0) pe_int (fun _ _ => rfl)) pa_nil)))))) pss_nil) (pss_one (ps_ret (pe_and (pe_cmpR (op_eqS) (pe_ix ix_U (pe_uVar 0) pe_int (fun _ _ => rfl)) pe_str (nomark _)) (pe_and (pe_cal c_is_mark (hr.mono (by decide)) (pa_cons (pe_ix ix_U (pe_uVar 0) pe_int (fun _ _ => rfl)) pa_nil)) (pe_one (pe_cal c_in_range (hr.mono (by decide)) (pa_cons (pe_ix ix_U (pe_uVar 0) pe_int (fun _ _ => rfl)) (pa_cons (pe_glob (by rfl) hc_GREATEST ⟨_, rfl⟩) pa_nil)))))))))))
theorem bd_is_instruction (F : FunD K "is_instruction" "is_instruction" (defArgs s_is_instruction) (defBody s_is_instruction) (defScope s_is_instruction) [] [] f fd) : Binds K fd ["value"] [] := (F.bindsN fun _ _ _ _ _ _ us hl => match us, hl with | [_], _ => rfl)
theorem cal_is_instruction (F : FunD K "is_instruction" "is_instruction" (defArgs s_is_instruction) (defBody s_is_instruction) (defScope s_is_instruction) [] [] f fd) (hm : mg "is_instruction" = some (.ref f)) (k : FnOk P w K mg base CX0 3 f fd ["value"] (sp_is_instruction K)) : Callee P w K mg base CX0 3 "is_instruction" ["value"] [] (sp_is_instruction K) :=
  ⟨f, fd, [], hm, k, F.kp, bd_is_instruction F, .nil⟩
theorem ok_check_body (F : FunD K "check_body" "check_body" (defArgs s_check_body) (defBody s_check_body) (defScope s_check_body) [] [] f fd) (z_len : mg "len" = none) (hc_MOST : ∃ t, mg "MOST" = some (.int 60 t)) (ox_BadInstruction : OxC P w K mg base 1 "BadInstruction" (He.ga K "BadInstruction") (sp_BadInstruction_init K)) (hm_BadInstruction : mg "BadInstruction" = some (.ref (He.ga K "BadInstruction"))) (z_enumerate : mg "enumerate" = none) (c_is_instruction : Callee P w K mg base CX0 3 "is_instruction" ["value"] [] (sp_is_instruction K)) (fpg : Fpg K) : FnOk P w K mg base (L2.CX P w) 4 f fd ["name", "body"] (sp_check_body K) := by
  have nd := sc_check_body.nd
  obtain ⟨_, hc_MOST⟩ := hc_MOST
  refine F.ok sc_check_body (fun vs H Q E h => ?_) (fun cdv A outer s H vs Q E hr h => ⟨t_check_body K (He.ga K "BadInstruction") E, ?_, pure_check_body fpg vs H Q E h⟩)
  · first | exact len_check_body vs H Q E h | exact len_gen vs H Q E h | (obtain ⟨_, _, rfl, _⟩ := h; rfl)
  · refine withTk (takes_of rfl rfl rfl rfl) fun tk => ?_
    exact (pss_cons (ps_if (pt_cmpR (op_gtU) (pe_callB call_lenU (by rfl) z_len (by decide +kernel) (pa_cons (pe_uVar 1) pa_nil)) (pe_glob (by rfl) hc_MOST ⟨_, rfl⟩) (nomark _)) (pss_one (ps_raiseO ox_BadInstruction (hr.mono (by decide)) tk (pa_cons (pe_uVar 0) (pa_cons (pe_glob (by rfl) hc_MOST ⟨_, rfl⟩) pa_nil)))) pss_nil) (pss_one (ps_for (passes_of rfl) rfl (pi_enumU (by rfl) z_enumerate (pa_cons (pe_uVar 1) pa_nil)) (pg_seq rfl (pgs_cons (pg_name (i := 2) nd rfl (Or.inl rfl)) (pgs_cons (pg_name (i := 3) nd rfl (Or.inl rfl)) pgs_nil))) (pss_one (ps_if (pt_not (pt_uTru (pe_cal c_is_instruction (hr.mono (by decide)) (pa_cons (pe_uVar 3) pa_nil)))) (pss_one (ps_raiseO ox_BadInstruction (hr.mono (by decide)) tk (pa_cons (pe_uVar 0) (pa_cons (pe_uVar 2) pa_nil)))) pss_nil)))))
theorem bd_check_body (F : FunD K "check_body" "check_body" (defArgs s_check_body) (defBody s_check_body) (defScope s_check_body) [] [] f fd) : Binds K fd ["name", "body"] [] := (F.bindsN fun _ _ _ _ _ _ us hl => match us, hl with | [_, _], _ => rfl)
theorem ok_Program_init (F : FunD K "__init__" "Program.__init__" (defArgs s_Program_init) (defBody s_Program_init) (defScope s_Program_init) [] [] f fd) (cl_Program : Cls K (He.ga K "Program")) (na_Program_bodies : NoAttr K (He.ga K "Program") "bodies") (z_tuple : mg "tuple" = none) (na_Program_inner_first : NoAttr K (He.ga K "Program") "inner_first") (na_Program_order : NoAttr K (He.ga K "Program") "order") (z_sorted : mg "sorted" = none) (hm_NoMain : mg "NoMain" = some (.ref (He.ga K "NoMain"))) (er_NoMain : ErrC K (He.ga K "NoMain")) (z_enumerate : mg "enumerate" = none) (ox_UnknownRoutine : OxC P w K mg base 1 "UnknownRoutine" (He.ga K "UnknownRoutine") (sp_UnknownRoutine_init K)) (hm_UnknownRoutine : mg "UnknownRoutine" = some (.ref (He.ga K "UnknownRoutine"))) (z_len : mg "len" = none) (hc_MOST : ∃ t, mg "MOST" = some (.int 60 t)) (hm_BadCount : mg "BadCount" = some (.ref (He.ga K "BadCount"))) (er_BadCount : ErrC K (He.ga K "BadCount")) (ox_BadName : OxC P w K mg base 1 "BadName" (He.ga K "BadName") (sp_BadName_init K)) (hm_BadName : mg "BadName" = some (.ref (He.ga K "BadName"))) (c_called_first : CalX P w K mg base 3 "called_first" (sp_called_first K)) (c_named : Callee P w K mg base CX0 1 "named" ["instruction"] [] (sp_named K)) (c_is_mark : Callee P w K mg base CX0 1 "is_mark" ["value"] [] (sp_is_mark K)) (c_check_body : CalX P w K mg base 4 "check_body" (sp_check_body K)) (fpg : Fpg K) : FnOk P w K mg base (L2.CX P w) 5 f fd ["self", "routines"] (sp_Program_init K) := by
  have nd := sc_Program_init.nd
  obtain ⟨_, hc_MOST⟩ := hc_MOST
  refine F.ok sc_Program_init (fun vs H Q E h => ?_) (fun cdv A outer s H vs Q E hr h => ⟨t_Program_init K (He.ga K "Program") (He.ga K "NoMain") (He.ga K "UnknownRoutine") (He.ga K "BadCount") (He.ga K "BadName") E, ?_, pure_Program_init fpg vs H Q E h⟩)
  · first | exact len_Program_init vs H Q E h | exact len_gen vs H Q E h | (obtain ⟨_, _, rfl, _⟩ := h; rfl)
  · refine withTk (takes_of rfl rfl rfl rfl) fun tk => ?_
    exact (pss_cons (ps_if (pt_not (pt_chain op_leU op_leU pe_int (pe_callB call_lenU (by rfl) z_len (by decide +kernel) (pa_cons (pe_uVar 1) pa_nil)) (pe_glob (by rfl) hc_MOST ⟨_, rfl⟩))) (pss_one (ps_raise0 er_BadCount hm_BadCount tk)) pss_nil) (pss_cons (ps_uLock (i := 1) (tb := fun W => (tFor (iEnumU K (tCons (uVar 1) tNil)) (gSq 2 (gCons (gName 2) (gCons (gName 3) gNil))) (tSeq (tIfS (tNot (uTru (uCall (sp_is_mark K) [] E0 (tCons (uVar 3) tNil)))) (uRaiseO W (He.ga K "BadName") (sp_BadName_init K) (tCons (uVar 2) tNil)) tNext)
  (tDrop (uCallX (sp_check_body K) W (tCons (uVar 3) (tCons (tOp rIxD (uVar 1) (uVar 3)) tNil))))))) (fun W tkl => (ps_for (passes_of rfl) rfl (pi_enumU (by rfl) z_enumerate (pa_cons (pe_uVar 1) pa_nil)) (pg_seq rfl (pgs_cons (pg_name (i := 2) nd rfl (Or.inl rfl)) (pgs_cons (pg_name (i := 3) nd rfl (Or.inl rfl)) pgs_nil))) (pss_cons (ps_if (pt_not (pt_uTru (pe_cal c_is_mark (hr.mono (by decide)) (pa_cons (pe_uVar 3) pa_nil)))) (pss_one (ps_raiseO ox_BadName (hr.mono (by decide)) tkl (pa_cons (pe_uVar 2) pa_nil))) pss_nil) (pss_one (ps_expr (pe_calX c_check_body (hr.mono (by decide)) tkl (pa_cons (pe_uVar 3) (pa_cons (pe_ix (ix_D (u1 hr.units)) (pe_uVar 1) (pe_uVar 3) (fun _ _ => rfl)) pa_nil)))))))) tk) (pss_cons (ps_if (pt_cmpR (op_notInK (u1 hr.units)) pe_str (pe_uVar 1) rfl) (pss_one (ps_raise0 er_NoMain hm_NoMain tk)) pss_nil) (pss_cons (ps_uLock (i := 1) (tb := fun W => (tFor (iKeyU (uVar 1)) (gName 3) (tFor (iEnumU K (tCons (tOp rIxD (uVar 1) (uVar 3)) tNil)) (gSq 2 (gCons (gName 2) (gCons (gName 4) gNil))) (tIfS (tAnd (tTest (tOp rNotNU (uCall (sp_named K) [] E0 (tCons (uVar 4) tNil)) (tC .non))) (tTest (tOp rNinK (uCall (sp_named K) [] E0 (tCons (uVar 4) tNil)) (uVar 1)))) (uRaiseO W (He.ga K "UnknownRoutine") (sp_UnknownRoutine_init K) (tCons (uVar 3) (tCons (uVar 2) tNil))) tNext)))) (fun W tkl => (ps_for (passes_of rfl) rfl (pi_keyU (pe_uVar 1)) (pg_name (i := 3) nd rfl (Or.inl rfl)) (pss_one (ps_for (passes_of rfl) rfl (pi_enumU (by rfl) z_enumerate (pa_cons (pe_ix (ix_D (u1 hr.units)) (pe_uVar 1) (pe_uVar 3) (fun _ _ => rfl)) pa_nil)) (pg_seq rfl (pgs_cons (pg_name (i := 2) nd rfl (Or.inl rfl)) (pgs_cons (pg_name (i := 4) nd rfl (Or.inl rfl)) pgs_nil))) (pss_one (ps_if (PW.pt (pw_and (pt_cmpR (op_notNU) (pe_cal c_named (hr.mono (by decide)) (pa_cons (pe_uVar 4) pa_nil)) pe_non (nomark _)) (pw_and1 (pt_cmpR (op_notInK (u1 hr.units)) (pe_cal c_named (hr.mono (by decide)) (pa_cons (pe_uVar 4) pa_nil)) (pe_uVar 1) rfl)))) (pss_one (ps_raiseO ox_UnknownRoutine (hr.mono (by decide)) tkl (pa_cons (pe_uVar 3) (pa_cons (pe_uVar 2) pa_nil)))) pss_nil)))))) tk) (pss_cons (ps_uLock (i := 1) (tb := fun W => (uSetF (He.ga K "Program") "bodies" (uVar 0) (tDc (iKeyU (uVar 1)) (gName 3) tYes (uVar 3) (tCB rTupleU (tCons (tOp rIxD (uVar 1) (uVar 3)) tNil)) [3]))) (fun W tkl => (ps_uSetF cl_Program na_Program_bodies (pe_uVar 0) (pe_dc (own := [("name", 3)]) (g := (gName 3)) (tt := tYes) rfl nd (pi_keyU (pe_uVar 1)) (blkOk_by (N := N_Program_init) (sc := defScope s_Program_init) (by decide +kernel)) (fun _ _ _ _ _ => (pg_name (i := 3) nd rfl (Or.inl rfl))) (fun _ _ _ _ _ => pts_nil) (fun _ _ _ _ _ => (pe_uVar 3)) (fun _ _ _ _ _ => (pe_callTy call_tupleU (by rfl) z_tuple (by decide +kernel) (pa_cons (pe_ix (ix_D (u1 hr.units)) (pe_uVar 1) (pe_uVar 3) (fun _ _ => rfl)) pa_nil)))))) tk) (pss_cons (ps_uSetF cl_Program na_Program_inner_first (pe_uVar 0) (pe_callTy call_tupleU (by rfl) z_tuple (by decide +kernel) (pa_cons (pe_calX c_called_first (hr.mono (by decide)) tk (pa_cons (pe_uFld cl_Program na_Program_bodies (pe_uVar 0)) pa_nil)) pa_nil))) (pss_one (ps_uSetF cl_Program na_Program_order (pe_uVar 0) (pe_callTy call_tupleU (by rfl) z_tuple (by decide +kernel) (pa_cons (pe_callB (call_srt rfl) (by rfl) z_sorted (by decide +kernel) (pa_cons (pe_uFld cl_Program na_Program_bodies (pe_uVar 0)) pa_nil)) pa_nil))))))))))
theorem bd_Program_init (F : FunD K "__init__" "Program.__init__" (defArgs s_Program_init) (defBody s_Program_init) (defScope s_Program_init) [] [] f fd) : Binds K fd ["self", "routines"] [] := (F.bindsN fun _ _ _ _ _ _ us hl => match us, hl with | [_, _], _ => rfl)
theorem ok__law_is_ring (F : FunD K "_law_is_ring" "_law_is_ring" (defArgs s__law_is_ring) (defBody s__law_is_ring) (defScope s__law_is_ring) [] [] f fd) (z_isinstance : mg "isinstance" = none) (z_tuple : mg "tuple" = none) (z_len : mg "len" = none) (z_range : mg "range" = none) (z_int : mg "int" = none) (c__law_names_of : Callee P w K mg base CX0 1 "_law_names_of" ["_law_body"] [] (sp__law_names_of K)) : FnOk P w K mg base CX0 2 f fd ["_law_names_here", "_law_bodies", "_law_ring"] (sp__law_is_ring K) := by
  have nd := sc__law_is_ring.nd
  refine F.ok sc__law_is_ring (fun vs H Q E h => ?_) (fun cdv A outer s H vs Q E hr h => ⟨t__law_is_ring K, PSs.nox ?_, pure__law_is_ring vs H Q E h⟩)
  · first | exact len__law_is_ring vs H Q E h | exact len_gen vs H Q E h | (obtain ⟨_, _, rfl, _⟩ := h; rfl)
  · exact (pss_cons (ps_if (PW.pt (pw_or (pt_not (pt_uTru (pe_callB (call_isiU (c := .tup) (by decide)) (by rfl) z_isinstance boot_isinstance (pa_cons (pe_uVar 2) (pa_cons (pe_bltn (v := .ty "tuple") (by rfl) z_tuple (by decide +kernel) rfl) pa_nil))))) (pw_or1 (pt_cmpR (op_eqS) (pe_callB call_lenU (by rfl) z_len (by decide +kernel) (pa_cons (pe_uVar 2) pa_nil)) pe_int (nomark _))))) (pss_one (ps_ret pe_bl)) pss_nil) (pss_cons (ps_for PassesOwn.never rfl (pi_range1 (by rfl) z_range (pa_cons (pe_callB call_lenU (by rfl) z_len (by decide +kernel) (pa_cons (pe_uVar 2) pa_nil)) pa_nil)) (pg_name (i := 3) nd rfl (Or.inl rfl)) (pss_cons (ps_if (PW.pt (pw_or (pt_cmpR (op_notInU) (pe_ix ix_U (pe_uVar 2) (pe_uVar 3) (fun _ _ => rfl)) (pe_uVar 0) rfl) (pw_or1 (pt_cmpR (op_inU) (pe_ix ix_U (pe_uVar 2) (pe_uVar 3) (fun _ _ => rfl)) (pe_slice sl_U (pe_uVar 2) po_none (po_uPart (pe_uVar 3))) rfl)))) (pss_one (ps_ret pe_bl)) pss_nil) (pss_cons (ps_set (i := 4) nd rfl (Or.inl rfl) (pe_ix ix_U (pe_uVar 1) (pe_bm PySem.F.plainAttrs_list PySem.F.slot_list_index PySem.F.type_list_index mt_index (pe_uVar 0) (pa_cons (pe_ix ix_U (pe_uVar 2) (pe_uVar 3) (fun _ _ => rfl)) pa_nil)) (fun _ _ => rfl))) (pss_one (ps_if (pt_cmpR (op_notInU) (pe_ix ix_U (pe_uVar 2) (pe_op op_modU (pe_callTy call_intU (by rfl) z_int (by decide +kernel) (pa_cons (pe_op op_addI (pe_uVar 3) pe_int) pa_nil)) (pe_callB call_lenU (by rfl) z_len (by decide +kernel) (pa_cons (pe_uVar 2) pa_nil))) (fun _ _ => rfl)) (pe_cal c__law_names_of (hr.mono (by decide)) (pa_cons (pe_uVar 4) pa_nil)) rfl) (pss_one (ps_ret pe_bl)) pss_nil))))) (pss_one (ps_ret pe_bl))))
theorem bd__law_is_ring (F : FunD K "_law_is_ring" "_law_is_ring" (defArgs s__law_is_ring) (defBody s__law_is_ring) (defScope s__law_is_ring) [] [] f fd) : Binds K fd ["_law_names_here", "_law_bodies", "_law_ring"] [] := (F.bindsN fun _ _ _ _ _ _ us hl => match us, hl with | [_, _, _], _ => rfl)
theorem cal__law_is_ring (F : FunD K "_law_is_ring" "_law_is_ring" (defArgs s__law_is_ring) (defBody s__law_is_ring) (defScope s__law_is_ring) [] [] f fd) (hm : mg "_law_is_ring" = some (.ref f)) (k : FnOk P w K mg base CX0 2 f fd ["_law_names_here", "_law_bodies", "_law_ring"] (sp__law_is_ring K)) : Callee P w K mg base CX0 2 "_law_is_ring" ["_law_names_here", "_law_bodies", "_law_ring"] [] (sp__law_is_ring K) :=
  ⟨f, fd, [], hm, k, F.kp, bd__law_is_ring F, .nil⟩
theorem ok_law (F : FunD K "law" "law" (defArgs s_law) (defBody s_law) (defScope s_law) [] [] f fd) (z_range : mg "range" = none) (z_len : mg "len" = none) (z_int : mg "int" = none) (z_list : mg "list" = none) (z_any : mg "any" = none) (hm_Recursion : mg "Recursion" = some (.ref (He.ga K "Recursion"))) (c_Program : CalX P w K mg base 6 "Program" (sp_Program K)) (z_isinstance : mg "isinstance" = none) (hm_ReelError : mg "ReelError" = some (.ref (He.ga K "ReelError"))) (c__law_begin : Callee P w K mg base CX0 1 "_law_begin" ["_law_script"] [] (sp__law_begin K)) (c__law_names : Callee P w K mg base CX0 2 "_law_names" ["_law_draws", "_law_many"] [] (sp__law_names K)) (c__law_draw : Callee P w K mg base CX0 1 "_law_draw" ["_law_draws", "_law_many"] [] (sp__law_draw K)) (c__law_comes_back : Callee P w K mg base CX0 2 "_law_comes_back" ["_law_names_here", "_law_bodies", "_law_start"] [] (sp__law_comes_back K)) (c__law_is_ring : Callee P w K mg base CX0 2 "_law_is_ring" ["_law_names_here", "_law_bodies", "_law_ring"] [] (sp__law_is_ring K)) (fl : Fl K) : FnOk P w K mg base CX0 7 f fd ["_law_script"] (sp_law K) := by
  have nd := sc_law.nd
  refine F.ok sc_law (fun vs H Q E h => ?_) (fun cdv A outer s H vs Q E hr h => ⟨t_law K (He.ga K "Recursion") (He.ga K "ReelError"), PSs.nox ?_, pure_law fl vs H Q E h⟩)
  · first | exact len_law vs H Q E h | exact len_gen vs H Q E h | (obtain ⟨_, _, rfl, _⟩ := h; rfl)
  · exact (pss_cons (ps_set (i := 1) nd rfl (Or.inl rfl) (pe_cal c__law_begin (hr.mono (by decide)) (pa_cons (pe_uVar 0) pa_nil))) (pss_cons (ps_set (i := 2) nd rfl (Or.inr rfl) (pe_cal c__law_names (hr.mono (by decide)) (pa_cons (pe_uVar 1) (pa_cons (pe_op op_addI pe_int (pe_cal c__law_draw (hr.mono (by decide)) (pa_cons (pe_uVar 1) (pa_cons pe_int pa_nil)))) pa_nil)))) (pss_cons (ps_set (i := 3) nd rfl (Or.inr rfl) (pe_lst pa_nil)) (pss_cons (ps_set (i := 4) nd rfl (Or.inl rfl) (pe_cal c__law_draw (hr.mono (by decide)) (pa_cons (pe_uVar 1) (pa_cons pe_int pa_nil)))) (pss_cons (ps_for PassesOwn.never rfl (pi_range1 (by rfl) z_range (pa_cons (pe_callB call_lenU (by rfl) z_len (by decide +kernel) (pa_cons (pe_uVar 2) pa_nil)) pa_nil)) (pg_name (i := 5) nd rfl (Or.inl rfl)) (pss_cons (ps_set (i := 6) nd rfl (Or.inl rfl) (pe_lst pa_nil)) (pss_cons (ps_for PassesOwn.never rfl (pi_range1 (by rfl) z_range (pa_cons (pe_cal c__law_draw (hr.mono (by decide)) (pa_cons (pe_uVar 1) (pa_cons (pe_op op_addI pe_int (pe_uVar 4)) pa_nil))) pa_nil)) (pg_name (i := 7) nd rfl (Or.inl rfl)) (pss_cons (ps_set (i := 8) nd rfl (Or.inl rfl) (pe_ix ix_U (pe_uVar 2) (pe_cal c__law_draw (hr.mono (by decide)) (pa_cons (pe_uVar 1) (pa_cons (pe_callB call_lenU (by rfl) z_len (by decide +kernel) (pa_cons (pe_uVar 2) pa_nil)) pa_nil))) (fun _ _ => rfl))) (pss_cons (ps_if (PW.pt (pw_and (pt_cmpR (op_eqS) (pe_uVar 4) pe_int (nomark _)) (pw_and1 (pt_cmpR (op_gtU) (pe_cal c__law_draw (hr.mono (by decide)) (pa_cons (pe_uVar 1) (pa_cons pe_int pa_nil))) pe_int (nomark _))))) (pss_one (ps_set (i := 8) nd rfl (Or.inl rfl) (pe_ix ix_U (pe_uVar 2) (pe_op op_modU (pe_callTy call_intU (by rfl) z_int (by decide +kernel) (pa_cons (pe_op op_addI (pe_uVar 5) pe_int) pa_nil)) (pe_callB call_lenU (by rfl) z_len (by decide +kernel) (pa_cons (pe_uVar 2) pa_nil))) (fun _ _ => rfl)))) pss_nil) (pss_cons (ps_set (i := 9) nd rfl (Or.inl rfl) (pe_ix ix_U (pe_lst (pa_cons (pe_tup (pa_cons pe_str (pa_cons (pe_uVar 8) pa_nil))) (pa_cons (pe_tup (pa_cons pe_str (pa_cons (pe_uVar 8) (pa_cons pe_int pa_nil)))) (pa_cons (pe_tup (pa_cons pe_str (pa_cons (pe_uVar 8) (pa_cons pe_int pa_nil)))) pa_nil)))) (pe_cal c__law_draw (hr.mono (by decide)) (pa_cons (pe_uVar 1) (pa_cons pe_int pa_nil))) (fun _ _ => rfl))) (pss_one (ps_expr (pe_bm PySem.F.plainAttrs_list PySem.F.slot_list_append PySem.F.type_list_append mt_append (pe_uVar 6) (pa_cons (pe_uVar 9) pa_nil)))))))) (pss_one (ps_expr (pe_bm PySem.F.plainAttrs_list PySem.F.slot_list_append PySem.F.type_list_append mt_append (pe_uVar 3) (pa_cons (pe_uVar 6) pa_nil))))))) (pss_cons (ps_set (i := 10) nd rfl (Or.inl rfl) (pe_cal c__law_draw (hr.mono (by decide)) (pa_cons (pe_uVar 1) (pa_cons (pe_callB call_lenU (by rfl) z_len (by decide +kernel) (pa_cons (pe_uVar 2) pa_nil)) pa_nil)))) (pss_cons (ps_set (i := 11) nd rfl (Or.inl rfl) pe_dnewK) (pss_cons (ps_for PassesOwn.never rfl (pi_range1 (by rfl) z_range (pa_cons (pe_callB call_lenU (by rfl) z_len (by decide +kernel) (pa_cons (pe_uVar 2) pa_nil)) pa_nil)) (pg_name (i := 7) nd rfl (Or.inl rfl)) (pss_cons (ps_set (i := 12) nd rfl (Or.inl rfl) (pe_op op_modU (pe_callTy call_intU (by rfl) z_int (by decide +kernel) (pa_cons (pe_op op_addU (pe_uVar 7) (pe_uVar 10)) pa_nil)) (pe_callB call_lenU (by rfl) z_len (by decide +kernel) (pa_cons (pe_uVar 2) pa_nil)))) (pss_one (ps_asg (pe_callTy call_listU (by rfl) z_list (by decide +kernel) (pa_cons (pe_ix ix_U (pe_uVar 3) (pe_uVar 12) (fun _ _ => rfl)) pa_nil)) (pg_sub (pe_uVar 11) (pe_ix ix_U (pe_uVar 2) (pe_uVar 12) (fun _ _ => rfl)) (set_K (u1 hr.units))))))) (pss_cons (ps_set (i := 13) nd rfl (Or.inl rfl) (pe_callB (call_anyU rfl) (by rfl) z_any (by decide +kernel) (pa_cons (pe_lc (own := [("_law_place", 5)]) (g := (gName 5)) (tt := tYes) rfl nd (pi_range1 (by rfl) z_range (pa_cons (pe_callB call_lenU (by rfl) z_len (by decide +kernel) (pa_cons (pe_uVar 2) pa_nil)) pa_nil)) (blkOk_by (N := N_law) (sc := defScope s_law) (by decide +kernel)) (fun _ _ _ _ _ => (pg_name (i := 5) nd rfl (Or.inl rfl))) (fun _ _ _ _ _ => pts_nil) (fun _ _ _ _ _ => (pe_cal c__law_comes_back (hr.mono (by decide)) (pa_cons (pe_uVar 2) (pa_cons (pe_uVar 3) (pa_cons (pe_uVar 5) pa_nil)))))) pa_nil))) (pss_cons (ps_set (i := 14) nd rfl (Or.inl rfl) pe_non) (pss_cons (ps_try_as (i := 15) (tb := fun W => (tDrop (uCallX (sp_Program K) W (tCons (uVar 11) tNil)))) (ts := fun a cls d => (tAsg (tLst (tCons (uXf K a cls d "ring" 15) (tCons (tCB (rIsF K a cls d (.ref (He.ga K "ReelError")) (.ref (He.ga K "ReelError"))) (tCons (uVar 15) (tCons (tC (.ref (He.ga K "ReelError"))) tNil))) tNil))) (gName 14))) rfl rfl nd rfl rfl ⟨by rfl, by decide, .inl hm_Recursion⟩ takes0 (fun W pn xe tkb ownb => (pss_one (ps_expr (pe_calX c_Program (hr.mono (by decide)) tkb (pa_cons (pe_uVar 11) pa_nil))))) (fun a oe cls d pn hz hf => (pss_one (ps_set (i := 14) nd rfl (Or.inl rfl) (pe_lst (pa_cons (pe_uXf (f := "ring") hz hf (pe_uVar 15)) (pa_cons (pe_callB (call_isF (c := .ref (He.ga K "ReelError")) hz hf rel_ref) (by rfl) z_isinstance boot_isinstance (pa_cons (pe_uVar 15) (pa_cons (pe_glob (v := .ref (He.ga K "ReelError")) (by rfl) hm_ReelError rfl) pa_nil))) pa_nil))))))) (pss_cons (ps_if (pt_not (pt_uTru (pe_uVar 13))) (pss_one (ps_ret (pe_cmpR (op_isNU) (pe_uVar 14) pe_non (nomark _)))) pss_nil) (pss_one (ps_ret (pe_and (pe_cmpR (op_notNU) (pe_uVar 14) pe_non (nomark _)) (pe_and (pe_ix ix_U (pe_uVar 14) pe_int (fun _ _ => rfl)) (pe_one (pe_cal c__law_is_ring (hr.mono (by decide)) (pa_cons (pe_uVar 2) (pa_cons (pe_uVar 3) (pa_cons (pe_ix ix_U (pe_uVar 14) pe_int (fun _ _ => rfl)) pa_nil)))))))))))))))))))))
theorem bd_law (F : FunD K "law" "law" (defArgs s_law) (defBody s_law) (defScope s_law) [] [] f fd) : Binds K fd ["_law_script"] [] := (F.bindsN fun _ _ _ _ _ _ us hl => match us, hl with | [_], _ => rfl)
theorem cal_law (F : FunD K "law" "law" (defArgs s_law) (defBody s_law) (defScope s_law) [] [] f fd) (hm : mg "law" = some (.ref f)) (k : FnOk P w K mg base CX0 7 f fd ["_law_script"] (sp_law K)) : Callee P w K mg base CX0 7 "law" ["_law_script"] [] (sp_law K) :=
  ⟨f, fd, [], hm, k, F.kp, bd_law F, .nil⟩
end
def d__law_begin : Hd.DefU := ⟨fun K => He.ga K "_law_begin", "_law_begin", "_law_begin", defArgs s__law_begin, defBody s__law_begin, defScope s__law_begin, [], []⟩
def d__law_draw : Hd.DefU := ⟨fun K => He.ga K "_law_draw", "_law_draw", "_law_draw", defArgs s__law_draw, defBody s__law_draw, defScope s__law_draw, [], []⟩
def d__law_names : Hd.DefU := ⟨fun K => He.ga K "_law_names", "_law_names", "_law_names", defArgs s__law_names, defBody s__law_names, defScope s__law_names, [], []⟩
def d__law_names_of : Hd.DefU := ⟨fun K => He.ga K "_law_names_of", "_law_names_of", "_law_names_of", defArgs s__law_names_of, defBody s__law_names_of, defScope s__law_names_of, [], []⟩
def d__law_comes_back : Hd.DefU := ⟨fun K => He.ga K "_law_comes_back", "_law_comes_back", "_law_comes_back", defArgs s__law_comes_back, defBody s__law_comes_back, defScope s__law_comes_back, [], []⟩
def d_named : Hd.DefU := ⟨fun K => He.ga K "named", "named", "named", defArgs s_named, defBody s_named, defScope s_named, [], []⟩
def d_callees : Hd.DefU := ⟨fun K => He.ga K "callees", "callees", "callees", defArgs s_callees, defBody s_callees, defScope s_callees, [], []⟩
def d_Recursion_init : Hd.DefU := ⟨fun K => Hd.iniA K (He.ga K "Recursion"), "__init__", "Recursion.__init__", defArgs s_Recursion_init, defBody s_Recursion_init, defScope s_Recursion_init, [], []⟩
def d_called_first : Hd.DefU := ⟨fun K => He.ga K "called_first", "called_first", "called_first", defArgs s_called_first, defBody s_called_first, defScope s_called_first, [], []⟩
def d_UnknownRoutine_init : Hd.DefU := ⟨fun K => Hd.iniA K (He.ga K "UnknownRoutine"), "__init__", "UnknownRoutine.__init__", defArgs s_UnknownRoutine_init, defBody s_UnknownRoutine_init, defScope s_UnknownRoutine_init, [], []⟩
def d_is_mark : Hd.DefU := ⟨fun K => He.ga K "is_mark", "is_mark", "is_mark", defArgs s_is_mark, defBody s_is_mark, defScope s_is_mark, [], []⟩
def d_BadName_init : Hd.DefU := ⟨fun K => Hd.iniA K (He.ga K "BadName"), "__init__", "BadName.__init__", defArgs s_BadName_init, defBody s_BadName_init, defScope s_BadName_init, [], []⟩
def d_BadInstruction_init : Hd.DefU := ⟨fun K => Hd.iniA K (He.ga K "BadInstruction"), "__init__", "BadInstruction.__init__", defArgs s_BadInstruction_init, defBody s_BadInstruction_init, defScope s_BadInstruction_init, [], []⟩
def d_in_range : Hd.DefU := ⟨fun K => He.ga K "in_range", "in_range", "in_range", defArgs s_in_range, defBody s_in_range, defScope s_in_range, [], []⟩
def d_is_basic : Hd.DefU := ⟨fun K => He.ga K "is_basic", "is_basic", "is_basic", defArgs s_is_basic, defBody s_is_basic, defScope s_is_basic, [], []⟩
def d_is_instruction : Hd.DefU := ⟨fun K => He.ga K "is_instruction", "is_instruction", "is_instruction", defArgs s_is_instruction, defBody s_is_instruction, defScope s_is_instruction, [], []⟩
def d_check_body : Hd.DefU := ⟨fun K => He.ga K "check_body", "check_body", "check_body", defArgs s_check_body, defBody s_check_body, defScope s_check_body, [], []⟩
def d_Program_init : Hd.DefU := ⟨fun K => He.ma K (He.ga K "Program") "__init__", "__init__", "Program.__init__", defArgs s_Program_init, defBody s_Program_init, defScope s_Program_init, [], []⟩
def d__law_is_ring : Hd.DefU := ⟨fun K => He.ga K "_law_is_ring", "_law_is_ring", "_law_is_ring", defArgs s__law_is_ring, defBody s__law_is_ring, defScope s__law_is_ring, [], []⟩
def d_law : Hd.DefU := ⟨fun K => He.ga K "law", "law", "law", defArgs s_law, defBody s_law, defScope s_law, [], []⟩
def fn : List Hd.DefU := [d__law_begin, d__law_draw, d__law_names, d__law_names_of, d__law_comes_back, d_named, d_callees, d_Recursion_init, d_called_first, d_UnknownRoutine_init, d_is_mark, d_BadName_init, d_BadInstruction_init, d_in_range, d_is_basic, d_is_instruction, d_check_body, d_Program_init, d__law_is_ring, d_law]
def fa : List He.Fa := [.glo "_law_begin", .glo "_law_draw", .glo "_law_names", .glo "_law_names_of", .glo "_law_comes_back", .glo "named", .glo "callees", .glo "called_first", .glo "is_mark", .glo "in_range", .glo "is_basic", .glo "is_instruction", .glo "check_body", .glo "_law_is_ring", .glo "law", .free "list", .free "len", .free "int", .free "range", .free "tuple", .free "isinstance", .free "str", .free "bool", .free "enumerate", .free "sorted", .free "any", .str "LETTERS" "abcdefghijklmnopqrstuvwxyz", .int "GREATEST" 1000000000000000000000000000000000000000000000000000000000000000000000000000000000000000000000000000000000000000000000000, .int "MOST" 60, .glo "Recursion", .glo "State", .glo "BadInstruction", .glo "NoMain", .glo "UnknownRoutine", .glo "BadCount", .glo "BadName", .glo "Program", .glo "ReelError", .exc "NoMain", .exc "BadCount", .cls "Program", .noat "Program" "bodies", .noat "Program" "inner_first", .noat "Program" "order", .mkr "Program"]
def ts : List He.Tab := []
def ex (K : PySem.W.Frag) : Bool := (Hd.ctupB K "PLAIN" [.str "drop", .str "emit", .str "same", .str "differ"] && (Hd.ctupB K "DEPTHS" [.str "pick", .str "roll"] && (Hd.ctupB K "STORES" [.str "keep", .str "load"] && (Hd.ctupB K "MARKED" [.str "push", .str "expect"] && (Hd.cvalB K "State" "HEIGHT" (.int 24) && (Hd.cvalB K "State" "REGISTERS" (.int 4) && (Hd.oxB K (He.ga K "Recursion") (He.ga K "Recursion") && (Hd.oxB K (He.ga K "BadInstruction") (He.ga K "BadInstruction") && (Hd.oxB K (He.ga K "UnknownRoutine") (He.ga K "UnknownRoutine") && (Hd.oxB K (He.ga K "BadName") (He.ga K "BadName") && (FpgB K && (FlB K && true))))))))))))
abbrev R : PySem.W.OpenRow := PySem.W.OpenLaw.row PySem.Challenge.rw_reelcode_k06_rings_are_shown
abbrev hk : PySem.W.Hook := Hd.hookV 6 fa fn ts ex
def ob (s : PySem.W.SharedT) : Hd.AlV := Hd.obsVG 6 fa fn ts ex (HandSHeadRun.getT s)
theorem ob_eq (s : PySem.W.SharedT) : ob s = hk.obs s.abs := Hd.obsVG_eq (HandSHeadRun.getT_eq s)
theorem run (w : World) : HandSHeadRun.RunEq R (PySem.W.view R.prog [37]) hk ob 12000 [("_wall" : PySem.Str), ("ReelError" : PySem.Str), ("BadState" : PySem.Str), ("BadCount" : PySem.Str), ("NoMain" : PySem.Str), ("BadInstruction" : PySem.Str), ("BadName" : PySem.Str), ("UnknownRoutine" : PySem.Str), ("Recursion" : PySem.Str), ("UnknownName" : PySem.Str), ("LETTERS" : PySem.Str), ("is_mark" : PySem.Str), ("State" : PySem.Str), ("PLAIN" : PySem.Str), ("DEPTHS" : PySem.Str), ("STORES" : PySem.Str), ("MARKED" : PySem.Str), ("MOST" : PySem.Str), ("GREATEST" : PySem.Str), ("in_range" : PySem.Str), ("is_basic" : PySem.Str), ("is_instruction" : PySem.Str), ("check_body" : PySem.Str), ("named" : PySem.Str), ("callees" : PySem.Str), ("called_first" : PySem.Str), ("Program" : PySem.Str), ("_law_begin" : PySem.Str), ("_law_draw" : PySem.Str), ("_law_names" : PySem.Str), ("_law_names_of" : PySem.Str), ("_law_comes_back" : PySem.Str), ("_law_is_ring" : PySem.Str)] w := by
  intro os
  kernel_rfl
theorem facts {P : Program} {w : World} {K : PySem.W.Frag} {h : Heap} {mg : Str → Option Value} {f : Addr} (X : K.In h) (G : h.Ns mainGlobals mg) (hfa : mg ("law" : Str) = some (.ref f)) (c : Hd.SaysV fa fn ts ex w K) :
    ∃ fd : FuncData, (∀ (s : Shared) (v : Value), BindsTo s fd ⟨[v], []⟩ [("_law_script", v)]) ∧ ∀ base : Heap, K.In base → base.Ns mainGlobals mg → FnOk P w K mg base CX0 7 f fd ["_law_script"] (sp_law K) := by
  obtain ⟨fd__law_begin, F__law_begin⟩ := c.def_ 0 (d := d__law_begin) rfl
  obtain ⟨fd__law_draw, F__law_draw⟩ := c.def_ 1 (d := d__law_draw) rfl
  obtain ⟨fd__law_names, F__law_names⟩ := c.def_ 2 (d := d__law_names) rfl
  obtain ⟨fd__law_names_of, F__law_names_of⟩ := c.def_ 3 (d := d__law_names_of) rfl
  obtain ⟨fd__law_comes_back, F__law_comes_back⟩ := c.def_ 4 (d := d__law_comes_back) rfl
  obtain ⟨fd_named, F_named⟩ := c.def_ 5 (d := d_named) rfl
  obtain ⟨fd_callees, F_callees⟩ := c.def_ 6 (d := d_callees) rfl
  obtain ⟨fd_Recursion_init, F_Recursion_init⟩ := c.def_ 7 (d := d_Recursion_init) rfl
  obtain ⟨fd_called_first, F_called_first⟩ := c.def_ 8 (d := d_called_first) rfl
  obtain ⟨fd_UnknownRoutine_init, F_UnknownRoutine_init⟩ := c.def_ 9 (d := d_UnknownRoutine_init) rfl
  obtain ⟨fd_is_mark, F_is_mark⟩ := c.def_ 10 (d := d_is_mark) rfl
  obtain ⟨fd_BadName_init, F_BadName_init⟩ := c.def_ 11 (d := d_BadName_init) rfl
  obtain ⟨fd_BadInstruction_init, F_BadInstruction_init⟩ := c.def_ 12 (d := d_BadInstruction_init) rfl
  obtain ⟨fd_in_range, F_in_range⟩ := c.def_ 13 (d := d_in_range) rfl
  obtain ⟨fd_is_basic, F_is_basic⟩ := c.def_ 14 (d := d_is_basic) rfl
  obtain ⟨fd_is_instruction, F_is_instruction⟩ := c.def_ 15 (d := d_is_instruction) rfl
  obtain ⟨fd_check_body, F_check_body⟩ := c.def_ 16 (d := d_check_body) rfl
  obtain ⟨fd_Program_init, F_Program_init⟩ := c.def_ 17 (d := d_Program_init) rfl
  obtain ⟨fd__law_is_ring, F__law_is_ring⟩ := c.def_ 18 (d := d__law_is_ring) rfl
  obtain ⟨fd_law, F_law⟩ := c.def_ 19 (d := d_law) rfl
  have g__law_begin := He.glo_ok X G (c.fact 0 (f := .glo "_law_begin") rfl)
  have g__law_draw := He.glo_ok X G (c.fact 1 (f := .glo "_law_draw") rfl)
  have g__law_names := He.glo_ok X G (c.fact 2 (f := .glo "_law_names") rfl)
  have g__law_names_of := He.glo_ok X G (c.fact 3 (f := .glo "_law_names_of") rfl)
  have g__law_comes_back := He.glo_ok X G (c.fact 4 (f := .glo "_law_comes_back") rfl)
  have g_named := He.glo_ok X G (c.fact 5 (f := .glo "named") rfl)
  have g_callees := He.glo_ok X G (c.fact 6 (f := .glo "callees") rfl)
  have g_called_first := He.glo_ok X G (c.fact 7 (f := .glo "called_first") rfl)
  have g_is_mark := He.glo_ok X G (c.fact 8 (f := .glo "is_mark") rfl)
  have g_in_range := He.glo_ok X G (c.fact 9 (f := .glo "in_range") rfl)
  have g_is_basic := He.glo_ok X G (c.fact 10 (f := .glo "is_basic") rfl)
  have g_is_instruction := He.glo_ok X G (c.fact 11 (f := .glo "is_instruction") rfl)
  have g_check_body := He.glo_ok X G (c.fact 12 (f := .glo "check_body") rfl)
  have g__law_is_ring := He.glo_ok X G (c.fact 13 (f := .glo "_law_is_ring") rfl)
  have g_law := He.glo_ok X G (c.fact 14 (f := .glo "law") rfl)
  have z_list := He.free_ok X G (c.fact 15 (f := .free "list") rfl)
  have z_len := He.free_ok X G (c.fact 16 (f := .free "len") rfl)
  have z_int := He.free_ok X G (c.fact 17 (f := .free "int") rfl)
  have z_range := He.free_ok X G (c.fact 18 (f := .free "range") rfl)
  have z_tuple := He.free_ok X G (c.fact 19 (f := .free "tuple") rfl)
  have z_isinstance := He.free_ok X G (c.fact 20 (f := .free "isinstance") rfl)
  have z_str := He.free_ok X G (c.fact 21 (f := .free "str") rfl)
  have z_bool := He.free_ok X G (c.fact 22 (f := .free "bool") rfl)
  have z_enumerate := He.free_ok X G (c.fact 23 (f := .free "enumerate") rfl)
  have z_sorted := He.free_ok X G (c.fact 24 (f := .free "sorted") rfl)
  have z_any := He.free_ok X G (c.fact 25 (f := .free "any") rfl)
  have hc_LETTERS := He.str_ok X G (c.fact 26 (f := .str "LETTERS" "abcdefghijklmnopqrstuvwxyz") rfl)
  have hc_GREATEST := He.int_ok X G (c.fact 27 (f := .int "GREATEST" 1000000000000000000000000000000000000000000000000000000000000000000000000000000000000000000000000000000000000000000000000) rfl)
  have hc_MOST := He.int_ok X G (c.fact 28 (f := .int "MOST" 60) rfl)
  have hm_Recursion := He.glo_ok X G (c.fact 29 (f := .glo "Recursion") rfl)
  have hm_State := He.glo_ok X G (c.fact 30 (f := .glo "State") rfl)
  have hm_BadInstruction := He.glo_ok X G (c.fact 31 (f := .glo "BadInstruction") rfl)
  have hm_NoMain := He.glo_ok X G (c.fact 32 (f := .glo "NoMain") rfl)
  have hm_UnknownRoutine := He.glo_ok X G (c.fact 33 (f := .glo "UnknownRoutine") rfl)
  have hm_BadCount := He.glo_ok X G (c.fact 34 (f := .glo "BadCount") rfl)
  have hm_BadName := He.glo_ok X G (c.fact 35 (f := .glo "BadName") rfl)
  have hm_Program := He.glo_ok X G (c.fact 36 (f := .glo "Program") rfl)
  have hm_ReelError := He.glo_ok X G (c.fact 37 (f := .glo "ReelError") rfl)
  obtain ⟨x1, x2, x3, x4⟩ := He.exc_ok (c.fact 38 (f := .exc "NoMain") rfl)
  have er_NoMain : ErrC K (He.ga K "NoMain") := ⟨x1, x2, x3, x4⟩
  obtain ⟨x1, x2, x3, x4⟩ := He.exc_ok (c.fact 39 (f := .exc "BadCount") rfl)
  have er_BadCount : ErrC K (He.ga K "BadCount") := ⟨x1, x2, x3, x4⟩
  have cl_Program := He.cls_ok (c.fact 40 (f := .cls "Program") rfl)
  have na_Program_bodies := He.noat_ok (c.fact 41 (f := .noat "Program" "bodies") rfl)
  have na_Program_inner_first := He.noat_ok (c.fact 42 (f := .noat "Program" "inner_first") rfl)
  have na_Program_order := He.noat_ok (c.fact 43 (f := .noat "Program" "order") rfl)
  have mk_Program := He.mkr_ok (c.fact 44 (f := .mkr "Program") rfl)
  have m := c.more
  unfold ex at m
  obtain ⟨m1, m⟩ := He.ba m
  obtain ⟨m2, hx_PLAIN⟩ := Hd.ctupB_ok m1 rfl
  have hm_PLAIN := He.glo_ok X G m2
  obtain ⟨m1, m⟩ := He.ba m
  obtain ⟨m2, hx_DEPTHS⟩ := Hd.ctupB_ok m1 rfl
  have hm_DEPTHS := He.glo_ok X G m2
  obtain ⟨m1, m⟩ := He.ba m
  obtain ⟨m2, hx_STORES⟩ := Hd.ctupB_ok m1 rfl
  have hm_STORES := He.glo_ok X G m2
  obtain ⟨m1, m⟩ := He.ba m
  obtain ⟨m2, hx_MARKED⟩ := Hd.ctupB_ok m1 rfl
  have hm_MARKED := He.glo_ok X G m2
  obtain ⟨m1, m⟩ := He.ba m
  have hk_State_HEIGHT := Hd.cvalB_ok m1
  obtain ⟨m1, m⟩ := He.ba m
  have hk_State_REGISTERS := Hd.cvalB_ok m1
  obtain ⟨m1, m⟩ := He.ba m
  have oe_Recursion := Hd.oxB_ok m1
  obtain ⟨m1, m⟩ := He.ba m
  have oe_BadInstruction := Hd.oxB_ok m1
  obtain ⟨m1, m⟩ := He.ba m
  have oe_UnknownRoutine := Hd.oxB_ok m1
  obtain ⟨m1, m⟩ := He.ba m
  have oe_BadName := Hd.oxB_ok m1
  obtain ⟨m1, m⟩ := He.ba m
  have fpg := FpgB_ok m1
  obtain ⟨m1, m⟩ := He.ba m
  have fl := FlB_ok m1
  have e := hfa.symm.trans g_law
  cases e
  have b := FunD.bindsA (ps := ["_law_script"]) F_law fun _ _ _ _ _ _ us hl => match us, hl with | [_], _ => rfl
  refine ⟨fd_law, fun s v => b s [v] rfl, fun base _ _ => ?_⟩
  have k__law_begin := ok__law_begin (P := P) (w := w) (mg := mg) (base := base) F__law_begin z_list
  have c__law_begin := cal__law_begin F__law_begin g__law_begin k__law_begin
  have k__law_draw := ok__law_draw (P := P) (w := w) (mg := mg) (base := base) F__law_draw z_len z_int
  have c__law_draw := cal__law_draw F__law_draw g__law_draw k__law_draw
  have k__law_names := ok__law_names (P := P) (w := w) (mg := mg) (base := base) F__law_names z_range c__law_draw
  have c__law_names := cal__law_names F__law_names g__law_names k__law_names
  have k__law_names_of := ok__law_names_of (P := P) (w := w) (mg := mg) (base := base) F__law_names_of 
  have c__law_names_of := cal__law_names_of F__law_names_of g__law_names_of k__law_names_of
  have k__law_comes_back := ok__law_comes_back (P := P) (w := w) (mg := mg) (base := base) F__law_comes_back z_len c__law_names_of
  have c__law_comes_back := cal__law_comes_back F__law_comes_back g__law_comes_back k__law_comes_back
  have k_named := ok_named (P := P) (w := w) (mg := mg) (base := base) F_named 
  have c_named := cal_named F_named g_named k_named
  have k_callees := ok_callees (P := P) (w := w) (mg := mg) (base := base) F_callees c_named
  have c_callees := cal_callees F_callees g_callees k_callees
  have k_Recursion_init := ok_Recursion_init (P := P) (w := w) (mg := mg) (base := base) F_Recursion_init 
  have ox_Recursion : OxC P w K mg base 1 "Recursion" (He.ga K "Recursion") (sp_Recursion_init K) := ⟨oe_Recursion.1, hm_Recursion, _, _, _, oe_Recursion.2.1, oe_Recursion.2.2, k_Recursion_init, bd_Recursion_init F_Recursion_init⟩
  have k_called_first := ok_called_first (P := P) (w := w) (mg := mg) (base := base) F_called_first ox_Recursion hm_Recursion z_tuple c_callees fpg
  have c_called_first := CalX.def_ (x := "called_first") k_called_first g_called_first F_called_first.kp (bd_called_first F_called_first)
  have k_UnknownRoutine_init := ok_UnknownRoutine_init (P := P) (w := w) (mg := mg) (base := base) F_UnknownRoutine_init 
  have ox_UnknownRoutine : OxC P w K mg base 1 "UnknownRoutine" (He.ga K "UnknownRoutine") (sp_UnknownRoutine_init K) := ⟨oe_UnknownRoutine.1, hm_UnknownRoutine, _, _, _, oe_UnknownRoutine.2.1, oe_UnknownRoutine.2.2, k_UnknownRoutine_init, bd_UnknownRoutine_init F_UnknownRoutine_init⟩
  have k_is_mark := ok_is_mark (P := P) (w := w) (mg := mg) (base := base) F_is_mark z_isinstance z_str z_len hc_LETTERS
  have c_is_mark := cal_is_mark F_is_mark g_is_mark k_is_mark
  have k_BadName_init := ok_BadName_init (P := P) (w := w) (mg := mg) (base := base) F_BadName_init 
  have ox_BadName : OxC P w K mg base 1 "BadName" (He.ga K "BadName") (sp_BadName_init K) := ⟨oe_BadName.1, hm_BadName, _, _, _, oe_BadName.2.1, oe_BadName.2.2, k_BadName_init, bd_BadName_init F_BadName_init⟩
  have k_BadInstruction_init := ok_BadInstruction_init (P := P) (w := w) (mg := mg) (base := base) F_BadInstruction_init 
  have ox_BadInstruction : OxC P w K mg base 1 "BadInstruction" (He.ga K "BadInstruction") (sp_BadInstruction_init K) := ⟨oe_BadInstruction.1, hm_BadInstruction, _, _, _, oe_BadInstruction.2.1, oe_BadInstruction.2.2, k_BadInstruction_init, bd_BadInstruction_init F_BadInstruction_init⟩
  have k_in_range := ok_in_range (P := P) (w := w) (mg := mg) (base := base) F_in_range z_isinstance z_int z_bool
  have c_in_range := cal_in_range F_in_range g_in_range k_in_range
  have k_is_basic := ok_is_basic (P := P) (w := w) (mg := mg) (base := base) F_is_basic z_isinstance z_tuple z_len z_str hm_PLAIN hx_PLAIN hm_DEPTHS hx_DEPTHS hm_State hk_State_HEIGHT hm_STORES hx_STORES hk_State_REGISTERS hm_MARKED hx_MARKED c_in_range c_is_mark
  have c_is_basic := cal_is_basic F_is_basic g_is_basic k_is_basic
  have k_is_instruction := ok_is_instruction (P := P) (w := w) (mg := mg) (base := base) F_is_instruction z_isinstance z_tuple z_len z_str hc_GREATEST c_is_basic c_is_mark c_in_range
  have c_is_instruction := cal_is_instruction F_is_instruction g_is_instruction k_is_instruction
  have k_check_body := ok_check_body (P := P) (w := w) (mg := mg) (base := base) F_check_body z_len hc_MOST ox_BadInstruction hm_BadInstruction z_enumerate c_is_instruction fpg
  have c_check_body := CalX.def_ (x := "check_body") k_check_body g_check_body F_check_body.kp (bd_check_body F_check_body)
  have k_Program_init := ok_Program_init (P := P) (w := w) (mg := mg) (base := base) F_Program_init cl_Program na_Program_bodies z_tuple na_Program_inner_first na_Program_order z_sorted hm_NoMain er_NoMain z_enumerate ox_UnknownRoutine hm_UnknownRoutine z_len hc_MOST hm_BadCount er_BadCount ox_BadName hm_BadName c_called_first c_named c_is_mark c_check_body fpg
  have c_Program : CalX P w K mg base 6 "Program" (sp_Program K) := CalX.make mk_Program k_Program_init hm_Program (bd_Program_init F_Program_init) new_Program
  have k__law_is_ring := ok__law_is_ring (P := P) (w := w) (mg := mg) (base := base) F__law_is_ring z_isinstance z_tuple z_len z_range z_int c__law_names_of
  have c__law_is_ring := cal__law_is_ring F__law_is_ring g__law_is_ring k__law_is_ring
  have k_law := ok_law (P := P) (w := w) (mg := mg) (base := base) F_law z_range z_len z_int z_list z_any hm_Recursion c_Program z_isinstance hm_ReelError c__law_begin c__law_names c__law_draw c__law_comes_back c__law_is_ring fl
  exact k_law
end K06
end U
open PySem PySem.W PySem.Calls PyProof.Rows
theorem PySem.Challenge.cw_reelcode_k06_rings_are_shown_holds : PySem.Challenge.rw_reelcode_k06_rings_are_shown.Holds := by
  w_on; o_law
  refine HandSHeadRun.head_any (r := OpenLaw.row PySem.Challenge.rw_reelcode_k06_rings_are_shown) (q := view (OpenLaw.row PySem.Challenge.rw_reelcode_k06_rings_are_shown).prog [37]) (H := U.K06.hk) (ob := U.K06.ob) (M := 12000) (loose := [("_wall" : PySem.Str), ("ReelError" : PySem.Str), ("BadState" : PySem.Str), ("BadCount" : PySem.Str), ("NoMain" : PySem.Str), ("BadInstruction" : PySem.Str), ("BadName" : PySem.Str), ("UnknownRoutine" : PySem.Str), ("Recursion" : PySem.Str), ("UnknownName" : PySem.Str), ("LETTERS" : PySem.Str), ("is_mark" : PySem.Str), ("State" : PySem.Str), ("PLAIN" : PySem.Str), ("DEPTHS" : PySem.Str), ("STORES" : PySem.Str), ("MARKED" : PySem.Str), ("MOST" : PySem.Str), ("GREATEST" : PySem.Str), ("in_range" : PySem.Str), ("is_basic" : PySem.Str), ("is_instruction" : PySem.Str), ("check_body" : PySem.Str), ("named" : PySem.Str), ("callees" : PySem.Str), ("called_first" : PySem.Str), ("Program" : PySem.Str), ("_law_begin" : PySem.Str), ("_law_draw" : PySem.Str), ("_law_names" : PySem.Str), ("_law_names_of" : PySem.Str), ("_law_comes_back" : PySem.Str), ("_law_is_ring" : PySem.Str)]) (d := HandSHeadRun.topDef (OpenLaw.row PySem.Challenge.rw_reelcode_k06_rings_are_shown).prog 37) (kwd := []) U.K06.ob_eq
    (by kernel_rfl) (fun s => by kernel_rfl) U.K06.run (by kernel_rfl) (by kernel_rfl) (by kernel_rfl) (by rfl) (by first | assumption | decide +kernel) (by decide +kernel) ⟨rfl, rfl, rfl, rfl, rfl, by decide +kernel⟩ ?hw ?hc
  case hw => w_witness2
  case hc =>
    refine L2.walk_ofE (l := PySem.Challenge.rw_reelcode_k06_rings_are_shown) (n := 63) (k := 7) (x := "_law_script") (CX := L2.CX0) rfl (by decide) (by kernel_rfl) ⟨rfl, by decide, by decide⟩ ?F (fun _ _ _ _ z => z)
    intro w mg fa h Y G hmg0
    obtain ⟨K, KX, c⟩ := Y
    have hmg : mg ("law" : PySem.Str) = some (.ref fa) := by
      have e : (HandSHeadRun.topDef (OpenLaw.row PySem.Challenge.rw_reelcode_k06_rings_are_shown).prog 37).name = ("law" : PySem.Str) := by kernel_rfl
      rw [← e]
      exact hmg0
    obtain ⟨fd, hb, hF⟩ := U.K06.facts (P := (PySem.Challenge.rw_reelcode_k06_rings_are_shown).prog) (w := w) KX G hmg c
    exact ⟨K, fd, U.K06.sp_law K, KX, hb, fun H a ns hl hz hS => ⟨a, ns, rfl, hS, fun _ => rfl⟩, hF⟩
end
