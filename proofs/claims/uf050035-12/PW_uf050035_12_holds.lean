import PyProof.Rows.All
import OpenK.KLine
import OpenK.KOwn
import KE.KTryMore
import KE.IntBitsLaws
import KE.KItem
import KE.KIsAll
import KE.KIsNot
import KE.KPop
import Lean
import PySem.Challenge.RW_uf050035_12
set_option Elab.async false
set_option linter.all false
set_option maxRecDepth 100000
namespace Mine
open PySem PySem.Calls PyProof.Rows PySem.W
local macro_rules | `(tactic| o_head $H) => `(tactic| assumption)
theorem hd (h : PySem.Challenge.rw_uf050035_12.row.Holds) : PySem.Challenge.rw_uf050035_12.row.Holds := by k_head
end Mine
namespace Mine
open PySem PySem.Calls PyProof.Rows PySem.W
noncomputable def qv : Program := view PySem.Challenge.pw_uf050035_12 [38]
noncomputable def lv : List Str := [Str.ofString "WeaveError", Str.ofString "TooMany", Str.ofString "BadStep", Str.ofString "BadBox", Str.ofString "Again", Str.ofString "NotHeld", Str.ofString "NoTurn", Str.ofString "Waits", Str.ofString "MOST_STEPS", Str.ofString "whole", Str.ofString "is_step", Str.ofString "of_box", Str.ofString "need_row", Str.ofString "Loom", Str.ofString "alone", Str.ofString "walked", Str.ofString "MOST_LOOKED", Str.ofString "plain", Str.ofString "strange", Str.ofString "_law_cell_at", Str.ofString "_law_number_by", Str.ofString "_law_step_by", Str.ofString "_law_cells", Str.ofString "_law_row_by", Str.ofString "_law_can", Str.ofString "_law_done", Str.ofString "_law_end", Str.ofString "_law_order_by", Str.ofString "_law_all_plain", Str.ofString "_law_refused", Str.ofString "_law_wrong", Str.ofString "_law_guards"]
noncomputable def asL : List Addr := [2,3,15,22,23,24,25,28,35,36,37,40,47,48,49,52,59,60,61,64,71,72,73,76,83,84,85,88,95,96,97,100,107,108,109,112,114,115,117,118,119,121,122,124,125,126,128,129,131,132,133,135,136,138,139,147,149,150,152,153,154,156,157,159,160,161,163,164,166,167,168,170,171,173,174,175,177,178,180,181,182,184,185,187,188,189,190,191,192,193,196,198,199,201,202,203,205,206,208,209,210,212,213,215,216,217,220,221,222,224,225,227,228,229,231,232,234,235,236,238,239,241,242,243,246,247,248,251,252,253,255,256,258,259,260,262,263,265,266,267,269,270,272,273,274,276,277,279,280,281,284,285,286,288,289,291,292,293,295,296,298,299,300,302,303,305,306,307,310,311]
theorem hkp (P : Params) : asL = (hd.heap_1 P).map (·.1) := by kernel_rfl
noncomputable def hk : Hook := kHook hd.heap_1 asL hkp
theorem h_said : PySem.Challenge.rw_uf050035_12.wellSaid = true := by
  rw [Fast.te9446332074065402090]; kernel_rfl
theorem h_ok : (chainsOk qv && opensWell PySem.Challenge.rw_uf050035_12.row.prog && (frees PySem.Challenge.rw_uf050035_12.row.toRowW && PySem.Challenge.rw_uf050035_12.row.within.isEmpty)) = true := by decide +kernel
theorem h_bare : PySem.Challenge.rw_uf050035_12.row.prog.bare := ⟨rfl, rfl, rfl, rfl, rfl, by decide +kernel⟩
theorem h_prom : PySem.Challenge.rw_uf050035_12.row.toRowW.promised := by w_witness2
set_option maxHeartbeats 16000000 in
theorem h_left : LeftO PySem.Challenge.rw_uf050035_12.row.prog qv lv (fun s => xlAt qv [] s && recOk [] s) hk.obs hk.val 8000 := by
  intro w
  unfold openEnds fencedOpening topFrom
  rw [Fast.te14082659384304107361, Fast.te10274390034422433532, Fast.te14289696077712309145, Fast.te4187177175401517315, Fast.te14364793385576792824]
  kernel_rfl
theorem h_open {d : DefRec} {kwd : List (Str × Expr)} (hdef : defOf qv PySem.Challenge.rw_uf050035_12.row.name = some (d, kwd)) (hp : PySem.Challenge.rw_uf050035_12.row.prog.theDef PySem.Challenge.rw_uf050035_12.row.name = some (d.params, d.body, d.scope)) (hkw : kwWritten? d.params.kwonlyargs d.params.kw_defaults = some kwd)
    (call : WalkO qv lv (XL qv []) hk.says PySem.Challenge.rw_uf050035_12.row.toRowW d kwd fun f vs => PySem.call f vs) : PySem.Challenge.rw_uf050035_12.Holds :=
  holds_law h_said fun said => holds_open h_left hk.of hk.keeps (fun s e => xl_of s (Bool.and_eq_true_iff.mp e).1) XL.keeps hdef hp hkw (fun s e => recFacts_of (Bool.and_eq_true_iff.mp e).2) rfl said h_ok h_bare h_prom call
end Mine

/-! An abstract interpreter of my own, in wp style: values, heaps, meanings. -/
set_option maxRecDepth 100000
namespace Mine
open PySem PySem.Calls PyProof.Rows PySem.W

inductive AVal where
  | none
  | bool (b : Bool)
  | int (i : Int)
  | str (s : Str)
  | tup (l : List AVal)
  | ref (a : Addr)
  | range (lo hi : Int)
  | exc (C : Addr)
  | val (v : Value)

inductive AObj where
  | list (ro : Bool) (xs : List AVal)
  | inst (C d : Addr)
  | dict (fs : List (Str × AVal))

noncomputable abbrev AHeap := Addr → Option AObj
noncomputable abbrev Loc := Str → Option AVal
noncomputable def upd (σ : Loc) (x : Str) (v : AVal) : Loc := fun y => if y = x then some v else σ y
noncomputable def del (σ : Loc) (x : Str) : Loc := fun y => if y = x then none else σ y
noncomputable def hset (H : AHeap) (a : Addr) (o : AObj) : AHeap := fun b => if b = a then some o else H b

noncomputable abbrev PV := AVal → AHeap → Prop
noncomputable abbrev PE := Addr → AHeap → Prop
noncomputable abbrev PB := Bool → AHeap → Prop
noncomputable abbrev CallP := Value → List AVal → AHeap → PV → PE → Prop
inductive AFlow where
  | next | cont | brk
  | ret (v : AVal)
noncomputable abbrev PF := AFlow → Loc → AHeap → Prop
noncomputable abbrev PS := Addr → Loc → AHeap → Prop

noncomputable def bigL : Nat := 1000000

noncomputable def gval (K : Frag) (x : Str) : Option AVal :=
  if x == ("__debug__" : Str) || x == ("__name__" : Str) then none else
  match nsIn K mainGlobals x with
  | some (some (.int i _)) => some (.int i)
  | some (some (.ref a)) => some (.val (.ref a))
  | some (some _) => none
  | some none => (match bootBuiltins x with
    | some (.builtin id) => some (.val (.builtin id))
    | some (.type n) => some (.val (.type n))
    | _ => none)
  | none => none

noncomputable def datL (f : AVal → Option PyData) : List AVal → Option (List PyData)
  | [] => some []
  | a :: r => match f a, datL f r with
    | some x, some y => some (x :: y)
    | _, _ => none
noncomputable def dat (H : AHeap) : Nat → AVal → Option PyData
  | _, .none => some .none
  | _, .bool b => some (.bool b)
  | _, .int i => some (.int i)
  | _, .str s => some (.str s)
  | n + 1, .tup l => (datL (dat H n) l).map .tuple
  | n + 1, .ref a => (match H a with
    | some (.list _ xs) => (datL (dat H n) xs).map .list
    | _ => none)
  | _, _ => none

noncomputable def eqA (H : AHeap) (a b : AVal) : Option Bool :=
  match dat H 8 a, dat H 8 b with
  | some x, some y => some (PyData.eqv x y)
  | _, _ => none

noncomputable def anyA (H : AHeap) (a : AVal) (l : List AVal) : Option Bool :=
  match dat H 8 a, datL (dat H 8) l with
  | some x, some ys => some (ys.any fun y => PyData.eqv y x)
  | _, _ => none

noncomputable def isA (a b : AVal) : Option Bool := match b with
  | .none => (match a with
    | .none => some true
    | .bool _ | .int _ | .str _ | .tup _ | .ref _ => some false
    | _ => none)
  | .bool d => (match a with
    | .bool x => some (x == d)
    | .none | .int _ | .str _ | .tup _ | .ref _ => some false
    | _ => none)
  | _ => none

noncomputable def ltA (f : Int → Int → Bool) : AVal → AVal → Option Bool
  | .int x, .int y => some (f x y)
  | _, _ => none
noncomputable def seqA (H : AHeap) : AVal → Option (List AVal)
  | .tup l => some l
  | .ref a => (match H a with | some (.list _ xs) => some xs | _ => none)
  | _ => none
noncomputable def inA (H : AHeap) (a b : AVal) : Option Bool := match seqA H b with
  | some l => anyA H a l
  | none => none
noncomputable def cmpA (op : CmpOp) (a b : AVal) (H : AHeap) : Option Bool :=
  match op with
  | .Lt => ltA (fun x y => decide (x < y)) a b
  | .LtE => ltA (fun x y => decide (x ≤ y)) a b
  | .Gt => ltA (fun x y => decide (y < x)) a b
  | .GtE => ltA (fun x y => decide (y ≤ x)) a b
  | .Eq => eqA H a b
  | .NotEq => (eqA H a b).map (!·)
  | .Is => isA a b
  | .IsNot => (isA a b).map (!·)
  | .In => inA H a b
  | .NotIn => (inA H a b).map (!·)

noncomputable def newL (H : AHeap) (xs : List AVal) (Q : PV) : Prop := ∀ a, H a = none → Q (.ref a) (hset H a (.list false xs))

noncomputable def intsA (a b : AVal) (k : Int → Int → Prop) : Prop := match a, b with
  | .int x, .int y => k x y
  | _, _ => False
noncomputable def addA (a b : AVal) (H : AHeap) (Q : PV) : Prop := match a with
  | .int x => (match b with
    | .int y => Q (.int (x + y)) H
    | _ => False)
  | .str x => (match b with
    | .str y => x.length + y.length ≤ bigL ∧ Q (.str (x ++ y)) H
    | _ => False)
  | .ref r => (match b with
    | .ref t => (match H r, H t with
      | some (.list _ xs), some (.list _ ys) => xs.length + ys.length ≤ bigL ∧ newL H (xs ++ ys) Q
      | _, _ => False)
    | _ => False)
  | _ => False
noncomputable def mulA (a b : AVal) (H : AHeap) (Q : PV) : Prop := match a with
  | .ref r => (match b with
    | .int k => (match H r with
      | some (.list _ xs) => (0 ≤ k ∧ k ≤ 1000) ∧ ∃ v, xs = [v] ∧ newL H (List.replicate k.toNat v) Q
      | _ => False)
    | _ => False)
  | a => intsA a b fun x y => IntMulOk x y ∧ Q (.int (x * y)) H
noncomputable def binA (op : Operator) (a b : AVal) (H : AHeap) (Q : PV) : Prop :=
  match op with
  | .Add => addA a b H Q
  | .Sub => intsA a b fun x y => Q (.int (x - y)) H
  | .Mult => mulA a b H Q
  | .FloorDiv => intsA a b fun x y => (0 < y ∧ y < 1073741824) ∧ Q (.int (x / y)) H
  | .Mod => intsA a b fun x y => 0 < y ∧ Q (.int (x % y)) H
  | .Pow => intsA a b fun x y => (0 ≤ y ∧ (Builtin.Int.intBits x : Int) * y ≤ 2 ^ 27) ∧ Q (.int (x ^ y.toNat)) H
  | _ => False

noncomputable def idxA (k : Int) (n : Nat) : Option Nat := if 0 ≤ k then (if k < n then some k.toNat else none) else (if -(n : Int) ≤ k then some (k + n).toNat else none)

noncomputable def subA (o i : AVal) (H : AHeap) (Q : PV) : Prop :=
  match i, seqA H o with
  | .int k, some l => (match idxA k l.length with
    | some j => (match l[j]? with | some v => Q v H | none => False)
    | none => False)
  | _, _ => False

noncomputable def cutL {α : Type} (lo hi : Option Int) (xs : List α) : List α :=
  ((match hi with | some k => xs.take k.toNat | none => xs)).drop (match lo with | some k => k.toNat | none => 0)
noncomputable def cutA (o : AVal) (lo hi : Option Int) (H : AHeap) (Q : PV) : Prop :=
  match o with
  | .ref a => (match H a with
    | some (.list _ xs) => (∀ k, lo = some k → 0 ≤ k) ∧ (∀ k, hi = some k → 0 ≤ k) ∧
        newL H (cutL lo hi xs) Q
    | _ => False)
  | _ => False

noncomputable def intA (v : AVal) (k : Int → Prop) : Prop := match v with | .int i => k i | _ => False
noncomputable def boolA (v : AVal) (k : Bool → Prop) : Prop := match v with | .bool b => k b | _ => False

noncomputable def lenA (H : AHeap) (v : AVal) : Option Nat := (seqA H v).map (·.length)

noncomputable def typA (H : AHeap) : AVal → Option Value
  | .none => some (.type "NoneType")
  | .bool _ => some (.type "bool")
  | .int _ => some (.type "int")
  | .str _ => some (.type "str")
  | .tup _ => some (.type "tuple")
  | .ref a => (match H a with | some (.list _ _) => some (.type "list") | _ => none)
  | _ => none
noncomputable def excKit (K : Frag) (C : Addr) : Bool := (findIn K (.ref C) "__getattribute__" == some (some (.builtin "BaseException.__getattribute__")) && findIn K (.ref C) "__getattr__" == some none) && hasDictIn K C && (match findObj K C none "__class__" with
  | some (.bind g a) => g == .builtin "getset_descriptor.__get__" && a == .builtin "object.__class__"
  | _ => false) && mroIn K C (.type "object") == some true && mroIn K C (.type "BaseException") == some true && (kitCls K (.ref C) (.ref C)).isSome
noncomputable def isiA (K : Frag) (H : AHeap) (v : AVal) (c : Value) : Option Bool := match v with
  | .exc C => if excKit K C = true then kitOne K (.ref C) c else none
  | v => (typA H v).bind fun t => kitOne K t c

inductive AMeth where
  | lm (a : Addr) (name : Str)
  | um (f a : Addr)

noncomputable def lookF (name : Str) : List (Str × AVal) → Option AVal
  | [] => none
  | (x, v) :: r => if x = name then some v else lookF name r
noncomputable def putF (name : Str) (v : AVal) : List (Str × AVal) → List (Str × AVal)
  | [] => [(name, v)]
  | (x, u) :: r => if x = name then (x, v) :: r else (x, u) :: putF name v r

noncomputable def attrOk (K : Frag) (C : Addr) (name : Str) : Bool := plainGet K C name && hasDictIn K C && findIn K (.ref C) name == some none
noncomputable def storeOk (K : Frag) (C : Addr) (name : Str) : Bool :=
  findIn K (.ref C) "__setattr__" == some (some (.builtin "object.__setattr__")) && plainOver K C && takerIn K C name == some none && hasDictIn K C
noncomputable def methOk (K : Frag) (C : Addr) (name : Str) (f : Addr) : Bool := plainGet K C name && findIn K (.ref C) name == some (some (.ref f)) && isFn K (.ref f) && keepIn K (.ref f)
noncomputable def fnA (K : Frag) : AVal → Prop
  | .val (.ref a) => keepIn K (.ref a) = true
  | .val (.builtin _) => True
  | .val (.type _) => True
  | _ => False

noncomputable def excOk (K : Frag) (C : Addr) : Bool := excIn K C [.type "ValueError", .type "Exception", .type "BaseException", .type "object"] "ValueError.__new__"

noncomputable def relabelS (sc sc' : Scope) : Scope := { sc' with names := sc'.names.map fun (n, k) => if (k == .free && sc.names.lookup n == some .cell) then (n, .cell) else (n, k) }
noncomputable def nmOk (K : Frag) (sc : Scope) (x : Str) : Bool := !(x == ("__debug__" : Str)) && (match sc.names.lookup x with
  | some .local => (gval K x).isNone
  | some .cell => (gval K x).isNone
  | some .globalImplicit => true
  | _ => false)
noncomputable def compOk (sc sc' : Scope) : Bool := sc'.kind == .function && sc'.names.all fun (n, k) => match k with
  | .local => sc'.names.lookup n == some .local
  | .free => sc.names.lookup n == some .cell
  | .globalImplicit => sc.names.lookup n != some .local && sc.names.lookup n != some .cell
  | _ => false
noncomputable def baseOk : Expr → Bool
  | .Call _ _ _ _ => false
  | _ => true
mutual
noncomputable def scE (K : Frag) (top : Bool) (sc : Scope) : Expr → Bool
  | .Constant (.str s) _ _ => PyData.strOk s
  | .Constant _ _ _ => true
  | .Name x _ => nmOk K sc x
  | .BoolOp _ vs _ => scEs K top sc vs
  | .UnaryOp _ e _ => scE K top sc e
  | .BinOp l _ r _ => scE K top sc l && scE K top sc r
  | .Compare l _ rs _ => scE K top sc l && scEs K top sc rs
  | .Call (.Attribute o _ ap) as _ p => baseOk o && ap.endLine == p.line && decide (as.length < 20) && scE K top sc o && scEs K top sc as
  | .Call (.Name x _) as _ _ => decide (as.length < 20) && nmOk K sc x && scEs K top sc as
  | .Attribute o _ _ => baseOk o && scE K top sc o
  | .Subscript o i _ => scE K top sc o && scE K top sc i
  | .Slice lo hi _ _ => scO K top sc lo && scO K top sc hi
  | .Tuple es _ _ => scEs K top sc es
  | .List es _ => scEs K top sc es
  | .ListComp elt gens sc' _ => top && compOk sc sc' && scE K false (relabelS sc sc') elt && scG K sc (relabelS sc sc') gens
  | _ => false
noncomputable def scEs (K : Frag) (top : Bool) (sc : Scope) : List Expr → Bool
  | [] => true
  | e :: r => scE K top sc e && scEs K top sc r
noncomputable def scO (K : Frag) (top : Bool) (sc : Scope) : Option Expr → Bool
  | none => true
  | some e => scE K top sc e
noncomputable def scG (K : Frag) (sc sc' : Scope) : List Comprehension → Bool
  | [⟨.Name x _, iter, ifs, _⟩] => sc'.names.lookup x == some .local && sc'.names.all (fun (n, k) => k != .local || n == x || (sc.names.lookup n).isNone) && !(x == ("__debug__" : Str)) && scE K false sc iter && scEs K false sc' ifs
  | _ => false
end

noncomputable def tgOk (sc : Scope) (x : Str) : Bool := !(x == ("__debug__" : Str)) && (sc.names.lookup x == some .local || sc.names.lookup x == some .cell)
noncomputable def notSlice : Expr → Bool
  | .Slice _ _ none _ => false
  | _ => true
noncomputable def notComp : Expr → Bool
  | .ListComp _ _ _ _ => false
  | _ => true
noncomputable def notTup : Expr → Bool
  | .Tuple _ _ _ => false
  | _ => true
noncomputable def tOk (K : Frag) (sc : Scope) (e : Expr) : Expr → Bool
  | .Name x _ => tgOk sc x
  | .Subscript o i _ => scE K true sc o && scE K true sc i && notSlice i && notComp e
  | .Attribute o _ _ => scE K true sc o && notComp e
  | .Tuple [.Name x _, .Name y _] _ _ => tgOk sc x && tgOk sc y && notTup e && notComp e
  | _ => false
mutual
noncomputable def scS (K : Frag) (sc : Scope) : Stmt → Bool
  | .Expr e _ => scE K true sc e && notComp e
  | .Pass _ => true
  | .Continue _ => true
  | .Return (some e) _ => scE K true sc e
  | .Assign [t] e _ => tOk K sc e t && scE K true sc e
  | .If t b o _ => scE K true sc t && scSs K sc b && scSs K sc o
  | .For (.Name x _) it b [] _ => tgOk sc x && scE K true sc it && scSs K sc b
  | .While t b [] _ => scE K true sc t && scSs K sc b
  | .Raise (some (.Call (.Name x _) [.Constant (.str _) _ _] [] _)) none _ => nmOk K sc x
  | .Try b hs [] [] _ => scSs K sc b && scHs K sc hs && !hs.isEmpty
  | _ => false
noncomputable def scSs (K : Frag) (sc : Scope) : List Stmt → Bool
  | [] => true
  | s :: r => scS K sc s && scSs K sc r
noncomputable def scHs (K : Frag) (sc : Scope) : List ExceptHandler → Bool
  | [] => true
  | .ExceptHandler (some (.Name x _)) nm b _ :: r => nmOk K sc x && (match nm with | some n => !(n == ("__debug__" : Str)) && sc.names.lookup n == some .local | none => true) && scSs K sc b && scHs K sc r
  | _ => false
end

section
variable (K : Frag) (Φ : Bool → CallP)

noncomputable def ifK (c : Bool) (A B : Prop) : Prop := match c with
  | true => A
  | false => B
noncomputable def nmA (σ : Loc) (x : Str) (k : AVal → Prop) : Prop :=
  match σ x with
  | some v => k v
  | none => (match gval K x with | some v => k v | none => False)

noncomputable def biA (q : Bool) (id : String) (vs : List AVal) (H : AHeap) (Q : PV) : Prop :=
  if id == "len" then (match vs with
    | [v] => (match lenA H v with | some n => Q (.int n) H | none => False)
    | _ => False)
  else if id == "isinstance" then (match vs with
    | [v, .val t] => (match isiA K H v t with | some b => Q (.bool b) H | none => False)
    | _ => False)
  else False

noncomputable def callA (q : Bool) (f : AVal) (vs : List AVal) (H : AHeap) (Q : PV) (E : PE) : Prop :=
  match f with
  | .val (.ref a) => Φ q (.ref a) vs H Q E
  | .val (.builtin id) => if id == "len" || id == "isinstance" then biA K q id vs H Q else Φ q (.builtin id) vs H Q E
  | .val (.type n) => Φ q (.type n) vs H Q E
  | _ => False

noncomputable def methA (o : AVal) (name : Str) (H : AHeap) (k : AMeth → Prop) : Prop :=
  match o with
  | .ref a => (match H a with
    | some (.list ro _) => (ro = false ∧ (name = Str.ofString "append" ∨ name = Str.ofString "pop" ∨ name = Str.ofString "count")) ∧ k (.lm a name)
    | some (.inst C d) => (match H d with
      | some (.dict fs) => lookF name fs = none ∧ ∃ f, methOk K C name f = true ∧ k (.um f a)
      | _ => False)
    | _ => False)
  | _ => False

noncomputable def callM (q : Bool) (m : AMeth) (vs : List AVal) (H : AHeap) (Q : PV) (E : PE) : Prop :=
  match m with
  | .um f a => Φ q (.ref f) (.ref a :: vs) H Q E
  | .lm a name => if name = Str.ofString "append" then (match H a with
      | some (.list ro xs) => (match vs with
        | [v] => ro = false ∧ xs.length < bigL ∧ Q .none (hset H a (.list false (xs ++ [v])))
        | _ => False)
      | _ => False)
    else if name = Str.ofString "pop" then Φ q (.builtin "list.pop") (.ref a :: vs) H Q E
    else if name = Str.ofString "count" then Φ q (.builtin "list.count") (.ref a :: vs) H Q E
    else False

noncomputable def notVal : AVal → Prop
  | .val _ => False
  | _ => True

noncomputable def attrA (o : AVal) (name : Str) (H : AHeap) (Q : PV) : Prop :=
  match o with
  | .ref a => (match H a with
    | some (.inst C d) => (match H d with
      | some (.dict fs) => attrOk K C name = true ∧ (match lookF name fs with | some v => notVal v ∧ Q v H | none => False)
      | _ => False)
    | _ => False)
  | _ => False

noncomputable def itemsA (H : AHeap) : AVal → Option (List AVal × Option (Addr × AObj))
  | .tup l => some (l, none)
  | .range lo hi => some ((List.range (hi - lo).toNat).map (fun (k : Nat) => AVal.int (lo + k)), none)
  | .ref a => (match H a with
    | some (.list ro xs) => some (xs, some (a, .list ro xs))
    | _ => none)
  | _ => none
noncomputable def srcA (src : Option (Addr × AObj)) (H : AHeap) : Prop := match src with | some (a, o) => H a = some o | none => True

noncomputable def compA (T : Loc → AHeap → PB → Prop) (V : Loc → AHeap → PV → Prop) (x : Str) (src : Option (Addr × AObj)) (σ : Loc) : List AVal → AHeap → List AVal → (List AVal → AHeap → Prop) → Prop
  | [], H, acc, k => k acc H
  | it :: rest, H, acc, k => T (upd σ x it) H fun b H1 =>
      match b with
      | true => V (upd σ x it) H1 fun v H2 => srcA src H2 ∧ compA T V x src σ rest H2 (acc ++ [v]) k
      | false => srcA src H1 ∧ compA T V x src σ rest H1 acc k

noncomputable def forA (B : Loc → AHeap → PF → PS → Prop) (x : Str) (src : Option (Addr × AObj)) (Q : PF) (E : PS) : List AVal → Loc → AHeap → Prop
  | [], σ, H => Q .next σ H
  | it :: rest, σ, H => B (upd σ x it) H (fun fl σ1 H1 => match fl with
      | .next | .cont => srcA src H1 ∧ forA B x src Q E rest σ1 H1
      | .brk => Q .next σ1 H1
      | .ret v => Q (.ret v) σ1 H1) E

noncomputable def whA (T : Loc → AHeap → PB → PE → Prop) (B : Loc → AHeap → PF → PS → Prop) (Q : PF) (E : PS) : Nat → Loc → AHeap → Prop
  | 0, _, _ => False
  | n + 1, σ, H => T σ H (fun b H1 => match b with
      | true => B σ H1 (fun fl σ1 H2 => match fl with
          | .next | .cont => whA T B Q E n σ1 H2
          | .brk => Q .next σ1 H2
          | .ret v => Q (.ret v) σ1 H2) E
      | false => Q .next σ H1) (fun C H1 => E C σ H1)

mutual
noncomputable def ev (q : Bool) : Expr → Loc → AHeap → PV → PE → Prop
  | .Constant .none _ _, _, H, Q, _ => Q .none H
  | .Constant (.bool b) _ _, _, H, Q, _ => Q (.bool b) H
  | .Constant (.int i) _ _, _, H, Q, _ => Q (.int i) H
  | .Constant (.str s) _ _, _, H, Q, _ => Q (.str s) H
  | .Name x _, σ, H, Q, _ => nmA K σ x fun v => Q v H
  | .BoolOp op vs _, σ, H, Q, E => evB q op vs σ H Q E
  | .UnaryOp .Not e _, σ, H, Q, E => ev q e σ H (fun v H1 => boolA v fun b => Q (.bool (!b)) H1) E
  | .UnaryOp .USub e _, σ, H, Q, E => ev q e σ H (fun v H1 => intA v fun i => Q (.int (-i)) H1) E
  | .BinOp l op r _, σ, H, Q, E => ev q l σ H (fun a H1 => ev q r σ H1 (fun b H2 => binA op a b H2 Q) E) E
  | .Compare l ops rs _, σ, H, Q, E => ev q l σ H (fun a H1 => cmpE q a ops rs σ H1 (fun b H2 => Q (.bool b) H2) E) E
  | .Call (.Attribute o name _) args [] _, σ, H, Q, E => ev q o σ H (fun ov H1 => methA K ov name H1 fun m => evs q args σ H1 (fun vs H2 => callM Φ q m vs H2 Q E) E) E
  | .Call f args [] _, σ, H, Q, E => ev q f σ H (fun fv H1 => fnA K fv ∧ evs q args σ H1 (fun vs H2 => callA K Φ q fv vs H2 Q E) E) E
  | .Attribute o name _, σ, H, Q, E => ev q o σ H (fun ov H1 => attrA K ov name H1 Q) E
  | .Subscript o (.Slice lo hi none _) _, σ, H, Q, E => ev q o σ H (fun ov H1 => evO q lo σ H1 (fun l H2 => evO q hi σ H2 (fun h H3 => cutA ov l h H3 Q) E) E) E
  | .Subscript o i _, σ, H, Q, E => ev q o σ H (fun ov H1 => ev q i σ H1 (fun iv H2 => subA ov iv H2 Q) E) E
  | .Tuple es _ _, σ, H, Q, E => evs q es σ H (fun vs H1 => vs.length ≤ bigL ∧ Q (.tup vs) H1) E
  | .List es _, σ, H, Q, E => evs q es σ H (fun vs H1 => vs.length ≤ bigL ∧ newL H1 vs Q) E
  | .ListComp elt gens _ _, σ, H, Q, E => evC q (fun σ1 H2 Q2 => ev q elt σ1 H2 Q2 fun _ _ => False) gens σ H Q E
  | _, _, _, _, _ => False
noncomputable def evC (q : Bool) (V : Loc → AHeap → PV → Prop) : List Comprehension → Loc → AHeap → PV → PE → Prop
  | [⟨.Name x _, iter, ifs, k⟩], σ, H, Q, E => k = 0 ∧ ev q iter σ H (fun v H1 => ∃ its src, itemsA H1 v = some (its, src) ∧ (q = true ∧ its.length ≤ bigL) ∧
      compA (fun σ1 H2 Q2 => tsts q ifs σ1 H2 Q2) V x src σ its H1 [] (fun ys H2 => newL H2 ys Q)) E
  | _, _, _, _, _ => False
noncomputable def evB (q : Bool) (op : BoolOp) : List Expr → Loc → AHeap → PV → PE → Prop
  | [], _, _, _, _ => False
  | [e], σ, H, Q, E => ev q e σ H Q E
  | e :: r, σ, H, Q, E => ev q e σ H (fun v H1 => boolA v fun b => match op with
      | .And => ifK b (evB q op r σ H1 Q E) (Q (.bool false) H1)
      | .Or => ifK b (Q (.bool true) H1) (evB q op r σ H1 Q E)) E
noncomputable def cmpE (q : Bool) (a : AVal) : List CmpOp → List Expr → Loc → AHeap → PB → PE → Prop
  | [op], [r], σ, H, Q, E => ev q r σ H (fun b H1 => match cmpA op a b H1 with | some c => Q c H1 | none => False) E
  | op :: op' :: ops, r :: r' :: rs, σ, H, Q, E => ev q r σ H (fun b H1 => match cmpA op a b H1 with
      | some true => cmpE q b (op' :: ops) (r' :: rs) σ H1 Q E
      | some false => Q false H1
      | none => False) E
  | _, _, _, _, _, _ => False
noncomputable def evs (q : Bool) : List Expr → Loc → AHeap → (List AVal → AHeap → Prop) → PE → Prop
  | [], _, H, Q, _ => Q [] H
  | .Starred _ _ :: _, _, _, _, _ => False
  | e :: r, σ, H, Q, E => ev q e σ H (fun v H1 => evs q r σ H1 (fun vs H2 => Q (v :: vs) H2) E) E
noncomputable def evO (q : Bool) : Option Expr → Loc → AHeap → (Option Int → AHeap → Prop) → PE → Prop
  | none, _, H, Q, _ => Q none H
  | some e, σ, H, Q, E => ev q e σ H (fun v H1 => intA v fun i => Q (some i) H1) E
noncomputable def tst (q : Bool) : Expr → (Loc → AHeap → PV → PE → Prop) → Loc → AHeap → PB → PE → Prop
  | .UnaryOp .Not e _, _, σ, H, Q, E => tst q e (fun σ' H' Q' E' => ev q e σ' H' Q' E') σ H (fun b H1 => Q (!b) H1) E
  | .BoolOp op vs _, _, σ, H, Q, E => tstB q op vs σ H Q E
  | .IfExp _ _ _ _, _, _, _, _, _ => False
  | .Compare l ops rs _, _, σ, H, Q, E => ev q l σ H (fun a H1 => cmpE q a ops rs σ H1 Q E) E
  | _, W, σ, H, Q, E => W σ H (fun v H1 => boolA v fun b => Q b H1) E
noncomputable def tstB (q : Bool) (op : BoolOp) : List Expr → Loc → AHeap → PB → PE → Prop
  | [], _, H, Q, _ => Q (match op with | .And => true | .Or => false) H
  | e :: r, σ, H, Q, E => tst q e (fun σ' H' Q' E' => ev q e σ' H' Q' E') σ H (fun b H1 => match op with
      | .And => ifK b (tstB q op r σ H1 Q E) (Q false H1)
      | .Or => ifK b (Q true H1) (tstB q op r σ H1 Q E)) E
noncomputable def tsts (q : Bool) : List Expr → Loc → AHeap → PB → Prop
  | [], _, H, Q => Q true H
  | [e], σ, H, Q => tst q e (fun σ' H' Q' E' => ev q e σ' H' Q' E') σ H Q fun _ _ => False
  | _, _, _, _ => False
end

noncomputable def stA (o i v : AVal) (H : AHeap) (k : AHeap → Prop) : Prop :=
  match o, i with
  | .ref a, .int j => (match H a with
    | some (.list ro xs) => ro = false ∧ 0 ≤ j ∧ j < xs.length ∧ k (hset H a (.list false (xs.set j.toNat v)))
    | _ => False)
  | _, _ => False

noncomputable def satA (o : AVal) (name : Str) (v : AVal) (H : AHeap) (k : AHeap → Prop) : Prop :=
  match o with
  | .ref a => (match H a with
    | some (.inst C d) => (match H d with
      | some (.dict fs) => storeOk K C name = true ∧ fs.length < 100 ∧ k (hset H d (.dict (putF name v fs)))
      | _ => False)
    | _ => False)
  | _ => False

noncomputable def asg (q : Bool) (v : AVal) : Expr → Loc → AHeap → (Loc → AHeap → Prop) → PE → Prop
  | .Name x _, σ, H, Q, _ => Q (upd σ x v) H
  | .Subscript o i _, σ, H, Q, E => ev K Φ q o σ H (fun ov H1 => ev K Φ q i σ H1 (fun iv H2 => stA ov iv v H2 fun H3 => Q σ H3) E) E
  | .Attribute o name _, σ, H, Q, E => ev K Φ q o σ H (fun ov H1 => satA K ov name v H1 fun H2 => Q σ H2) E
  | .Tuple [.Name x _, .Name y _] _ _, σ, H, Q, _ => q = true ∧ (match v with | .tup [a, b] => Q (upd (upd σ x a) y b) H | _ => False)
  | _, _, _, _, _ => False

mutual
noncomputable def ex (q : Bool) : Stmt → Loc → AHeap → PF → PS → Prop
  | .Expr e _, σ, H, Q, E => ev K Φ q e σ H (fun _ H1 => Q .next σ H1) (fun C H1 => E C σ H1)
  | .Pass _, σ, H, Q, _ => Q .next σ H
  | .Continue _, σ, H, Q, _ => Q .cont σ H
  | .Return (some e) _, σ, H, Q, E => ev K Φ q e σ H (fun v H1 => Q (.ret v) σ H1) (fun C H1 => E C σ H1)
  | .Assign [t] e _, σ, H, Q, E => ev K Φ q e σ H (fun v H1 => asg K Φ q v t σ H1 (fun σ1 H2 => Q .next σ1 H2) (fun C H2 => E C σ H2)) (fun C H1 => E C σ H1)
  | .If t b o _, σ, H, Q, E => tst K Φ q t (ev K Φ q t) σ H (fun c H1 => match c with
      | true => exs q b σ H1 Q E
      | false => exs q o σ H1 Q E) (fun C H1 => E C σ H1)
  | .For (.Name x _) it b [] _, σ, H, Q, E => ev K Φ q it σ H (fun v H1 => ∃ its src, itemsA H1 v = some (its, src) ∧ q = true ∧
      forA (fun σ' H' Q' E' => exs q b σ' H' Q' E') x src Q E its σ H1) (fun C H1 => E C σ H1)
  | .While t b [] _, σ, H, Q, E => ∃ n, whA (fun σ' H' Q' E' => tst K Φ q t (ev K Φ q t) σ' H' Q' E') (fun σ' H' Q' E' => exs q b σ' H' Q' E') Q E n σ H
  | .Raise x c _, σ, H, _, E => ∃ y p1 k m p2 p3, x = some (.Call (.Name y p1) [.Constant (.str m) k p2] [] p3) ∧ c = none ∧ q = true ∧ (match gval K y with
      | some (.val (.ref C)) => σ y = none ∧ excOk K C = true ∧ E C σ H
      | _ => False)
  | .Try b hs [] [] _, σ, H, Q, E => q = true ∧ exs true b σ H Q (fun C σ1 H1 => hdA hs C σ1 H1 Q E)
  | _, _, _, _, _ => False
noncomputable def exs (q : Bool) : List Stmt → Loc → AHeap → PF → PS → Prop
  | [], σ, H, Q, _ => Q .next σ H
  | s :: r, σ, H, Q, E => ex q s σ H (fun fl σ1 H1 => match fl with
      | .next => exs q r σ1 H1 Q E
      | fl => Q fl σ1 H1) E
noncomputable def hdA : List ExceptHandler → Addr → Loc → AHeap → PF → PS → Prop
  | [], C, σ, H, _, E => E C σ H
  | .ExceptHandler (some (.Name x _)) nm (b :: bs) _ :: rest, C, σ, H, Q, E => σ x = none ∧ (match gval K x with
      | some (.val (.ref D)) => (match exmOne K (.ref C) (.ref D) with
        | some true => exs false (b :: bs) (match nm with | some n => upd σ n (.exc C) | none => σ) H
            (fun fl σ1 H1 => Q fl (match nm with | some _ => fun _ => none | none => σ1) H1) (fun _ _ _ => False)
        | some false => hdA rest C σ H Q E
        | none => False)
      | _ => False)
  | _, _, _, _, _, _ => False
end

end
end Mine

/-! The equations of the interpreter. -/
set_option maxRecDepth 100000
set_option linter.all false
namespace Mine
open PySem PySem.Calls PyProof.Rows PySem.W
section
variable {K : Frag} {Φ : Bool → CallP} {q : Bool} {σ : Loc} {H : AHeap}
section
variable {Q : PV} {E : PE}
theorem v_none {k : Nat} {p : Pos} : ev K Φ q (.Constant .none k p) σ H Q E = Q .none H := rfl
theorem v_boolc {b : Bool} {k : Nat} {p : Pos} : ev K Φ q (.Constant (.bool b) k p) σ H Q E = Q (.bool b) H := rfl
theorem v_intc {i : Int} {k : Nat} {p : Pos} : ev K Φ q (.Constant (.int i) k p) σ H Q E = Q (.int i) H := rfl
theorem v_strc {x : Str} {k : Nat} {p : Pos} : ev K Φ q (.Constant (.str x) k p) σ H Q E = Q (.str x) H := rfl
theorem v_name {x : Str} {p : Pos} : ev K Φ q (.Name x p) σ H Q E = nmA K σ x fun v => Q v H := rfl
theorem v_boolop {op : BoolOp} {vs : List Expr} {p : Pos} : ev K Φ q (.BoolOp op vs p) σ H Q E = evB K Φ q op vs σ H Q E := rfl
theorem v_not {e : Expr} {p : Pos} : ev K Φ q (.UnaryOp .Not e p) σ H Q E = ev K Φ q e σ H (fun v H1 => boolA v fun b => Q (.bool (!b)) H1) E := rfl
theorem v_usub {e : Expr} {p : Pos} : ev K Φ q (.UnaryOp .USub e p) σ H Q E = ev K Φ q e σ H (fun v H1 => intA v fun i => Q (.int (-i)) H1) E := rfl
theorem v_bin {l r : Expr} {op : Operator} {p : Pos} : ev K Φ q (.BinOp l op r p) σ H Q E = ev K Φ q l σ H (fun a H1 => ev K Φ q r σ H1 (fun b H2 => binA op a b H2 Q) E) E := rfl
theorem v_cmp {l : Expr} {ops : List CmpOp} {rs : List Expr} {p : Pos} : ev K Φ q (.Compare l ops rs p) σ H Q E = ev K Φ q l σ H (fun a H1 => cmpE K Φ q a ops rs σ H1 (fun b H2 => Q (.bool b) H2) E) E := rfl
theorem v_calla {o : Expr} {name : Str} {args : List Expr} {p1 p : Pos} : ev K Φ q (.Call (.Attribute o name p1) args [] p) σ H Q E = ev K Φ q o σ H (fun ov H1 => methA K ov name H1 fun m => evs K Φ q args σ H1 (fun vs H2 => callM Φ q m vs H2 Q E) E) E := rfl
theorem v_calln {x : Str} {args : List Expr} {p1 p : Pos} : ev K Φ q (.Call (.Name x p1) args [] p) σ H Q E = nmA K σ x fun fv => (fnA K fv ∧ evs K Φ q args σ H (fun vs H2 => callA K Φ q fv vs H2 Q E) E) := rfl
theorem v_attr {o : Expr} {name : Str} {p : Pos} : ev K Φ q (.Attribute o name p) σ H Q E = ev K Φ q o σ H (fun ov H1 => attrA K ov name H1 Q) E := rfl
theorem v_cut {o : Expr} {lo hi : Option Expr} {p1 p : Pos} : ev K Φ q (.Subscript o (.Slice lo hi none p1) p) σ H Q E = ev K Φ q o σ H (fun ov H1 => evO K Φ q lo σ H1 (fun l H2 => evO K Φ q hi σ H2 (fun h H3 => cutA ov l h H3 Q) E) E) E := rfl
theorem v_sub_name {o : Expr} {x : Str} {p1 : Pos} {p : Pos} : ev K Φ q (.Subscript o (.Name x p1) p) σ H Q E = ev K Φ q o σ H (fun ov H1 => ev K Φ q (.Name x p1) σ H1 (fun iv H2 => subA ov iv H2 Q) E) E := rfl
theorem v_sub_const {o : Expr} {c : Const} {k : Nat} {p1 : Pos} {p : Pos} : ev K Φ q (.Subscript o (.Constant c k p1) p) σ H Q E = ev K Φ q o σ H (fun ov H1 => ev K Φ q (.Constant c k p1) σ H1 (fun iv H2 => subA ov iv H2 Q) E) E := rfl
theorem v_sub_bin {o : Expr} {l r : Expr} {op : Operator} {p1 : Pos} {p : Pos} : ev K Φ q (.Subscript o (.BinOp l op r p1) p) σ H Q E = ev K Φ q o σ H (fun ov H1 => ev K Φ q (.BinOp l op r p1) σ H1 (fun iv H2 => subA ov iv H2 Q) E) E := rfl
theorem v_sub_sub {o : Expr} {x y : Expr} {p1 : Pos} {p : Pos} : ev K Φ q (.Subscript o (.Subscript x y p1) p) σ H Q E = ev K Φ q o σ H (fun ov H1 => ev K Φ q (.Subscript x y p1) σ H1 (fun iv H2 => subA ov iv H2 Q) E) E := rfl
theorem v_sub_call {o : Expr} {f : Expr} {as : List Expr} {ks : List Keyword} {p1 : Pos} {p : Pos} : ev K Φ q (.Subscript o (.Call f as ks p1) p) σ H Q E = ev K Φ q o σ H (fun ov H1 => ev K Φ q (.Call f as ks p1) σ H1 (fun iv H2 => subA ov iv H2 Q) E) E := rfl
theorem v_sub_un {o : Expr} {op : UnaryOp} {x : Expr} {p1 : Pos} {p : Pos} : ev K Φ q (.Subscript o (.UnaryOp op x p1) p) σ H Q E = ev K Φ q o σ H (fun ov H1 => ev K Φ q (.UnaryOp op x p1) σ H1 (fun iv H2 => subA ov iv H2 Q) E) E := rfl
theorem v_sub_attr {o : Expr} {x : Expr} {nm : Str} {p1 : Pos} {p : Pos} : ev K Φ q (.Subscript o (.Attribute x nm p1) p) σ H Q E = ev K Φ q o σ H (fun ov H1 => ev K Φ q (.Attribute x nm p1) σ H1 (fun iv H2 => subA ov iv H2 Q) E) E := rfl
theorem v_tuple {es : List Expr} {k} {p : Pos} : ev K Φ q (.Tuple es k p) σ H Q E = evs K Φ q es σ H (fun vs H1 => vs.length ≤ bigL ∧ Q (.tup vs) H1) E := rfl
theorem v_list {es : List Expr} {p : Pos} : ev K Φ q (.List es p) σ H Q E = evs K Φ q es σ H (fun vs H1 => vs.length ≤ bigL ∧ newL H1 vs Q) E := rfl
theorem v_comp {elt : Expr} {gens : List Comprehension} {sc : Scope} {p : Pos} : ev K Φ q (.ListComp elt gens sc p) σ H Q E = evC K Φ q (fun σ1 H2 Q2 => ev K Φ q elt σ1 H2 Q2 fun _ _ => False) gens σ H Q E := rfl
theorem v_gen {V : Loc → AHeap → PV → Prop} {x : Str} {p1 : Pos} {iter : Expr} {ifs : List Expr} : evC K Φ q V [⟨.Name x p1, iter, ifs, 0⟩] σ H Q E = ev K Φ q iter σ H (fun v H1 => ∃ its src, itemsA H1 v = some (its, src) ∧ (q = true ∧ its.length ≤ bigL) ∧ compA (fun σ1 H2 Q2 => tsts K Φ q ifs σ1 H2 Q2) V x src σ its H1 [] (fun ys H2 => newL H2 ys Q)) E := propext ⟨fun h => h.2, fun h => ⟨rfl, h⟩⟩
theorem vB_one {op : BoolOp} {e : Expr} : evB K Φ q op [e] σ H Q E = ev K Φ q e σ H Q E := rfl
theorem vB_cons {op : BoolOp} {e e' : Expr} {r : List Expr} : evB K Φ q op (e :: e' :: r) σ H Q E = ev K Φ q e σ H (fun v H1 => boolA v fun b => match op with
      | .And => ifK b (evB K Φ q op (e' :: r) σ H1 Q E) (Q (.bool false) H1)
      | .Or => ifK b (Q (.bool true) H1) (evB K Φ q op (e' :: r) σ H1 Q E)) E := rfl
end
section
variable {Q : PB} {E : PE}
theorem vC_one {a : AVal} {op : CmpOp} {r : Expr} : cmpE K Φ q a [op] [r] σ H Q E = ev K Φ q r σ H (fun b H1 => match cmpA op a b H1 with | some c => Q c H1 | none => False) E := rfl
theorem vC_two {a : AVal} {op op' : CmpOp} {ops : List CmpOp} {r r' : Expr} {rs : List Expr} : cmpE K Φ q a (op :: op' :: ops) (r :: r' :: rs) σ H Q E = ev K Φ q r σ H (fun b H1 => match cmpA op a b H1 with
      | some true => cmpE K Φ q b (op' :: ops) (r' :: rs) σ H1 Q E
      | some false => Q false H1
      | none => False) E := rfl
theorem vt_not {e : Expr} {p : Pos} {Wh : Loc → AHeap → PV → PE → Prop} : tst K Φ q (.UnaryOp .Not e p) Wh σ H Q E = tst K Φ q e (fun σ' H' Q' E' => ev K Φ q e σ' H' Q' E') σ H (fun b H1 => Q (!b) H1) E := rfl
theorem vt_boolop {op : BoolOp} {vs : List Expr} {p : Pos} {Wh : Loc → AHeap → PV → PE → Prop} : tst K Φ q (.BoolOp op vs p) Wh σ H Q E = tstB K Φ q op vs σ H Q E := rfl
theorem vt_cmp {l : Expr} {ops : List CmpOp} {rs : List Expr} {p : Pos} {Wh : Loc → AHeap → PV → PE → Prop} : tst K Φ q (.Compare l ops rs p) Wh σ H Q E = ev K Φ q l σ H (fun a H1 => cmpE K Φ q a ops rs σ H1 Q E) E := rfl
theorem vt_name {x : Str} {p1 : Pos} {Wh : Loc → AHeap → PV → PE → Prop} : tst K Φ q (.Name x p1) Wh σ H Q E = Wh σ H (fun v H1 => boolA v fun b => Q b H1) E := rfl
theorem vt_const {c : Const} {k : Nat} {p1 : Pos} {Wh : Loc → AHeap → PV → PE → Prop} : tst K Φ q (.Constant c k p1) Wh σ H Q E = Wh σ H (fun v H1 => boolA v fun b => Q b H1) E := rfl
theorem vt_sub {x y : Expr} {p1 : Pos} {Wh : Loc → AHeap → PV → PE → Prop} : tst K Φ q (.Subscript x y p1) Wh σ H Q E = Wh σ H (fun v H1 => boolA v fun b => Q b H1) E := rfl
theorem vt_call {f : Expr} {as : List Expr} {ks : List Keyword} {p1 : Pos} {Wh : Loc → AHeap → PV → PE → Prop} : tst K Φ q (.Call f as ks p1) Wh σ H Q E = Wh σ H (fun v H1 => boolA v fun b => Q b H1) E := rfl
theorem vt_attr {x : Expr} {nm : Str} {p1 : Pos} {Wh : Loc → AHeap → PV → PE → Prop} : tst K Φ q (.Attribute x nm p1) Wh σ H Q E = Wh σ H (fun v H1 => boolA v fun b => Q b H1) E := rfl
theorem vtB_nil {op : BoolOp} : tstB K Φ q op [] σ H Q E = Q (match op with | .And => true | .Or => false) H := rfl
theorem vtB_cons {op : BoolOp} {e : Expr} {r : List Expr} : tstB K Φ q op (e :: r) σ H Q E = tst K Φ q e (fun σ' H' Q' E' => ev K Φ q e σ' H' Q' E') σ H (fun b H1 => match op with
      | .And => ifK b (tstB K Φ q op r σ H1 Q E) (Q false H1)
      | .Or => ifK b (Q true H1) (tstB K Φ q op r σ H1 Q E)) E := rfl
end
theorem vts_nil {Q : PB} : tsts K Φ q [] σ H Q = Q true H := rfl
theorem vts_one {Q : PB} {e : Expr} : tsts K Φ q [e] σ H Q = tst K Φ q e (fun σ' H' Q' E' => ev K Φ q e σ' H' Q' E') σ H Q (fun _ _ => False) := rfl
theorem vs_nil {Q : List AVal → AHeap → Prop} {E : PE} : evs K Φ q [] σ H Q E = Q [] H := rfl
theorem vs_name {x : Str} {p1 : Pos} {r : List Expr} {Q : List AVal → AHeap → Prop} {E : PE} : evs K Φ q ((.Name x p1) :: r) σ H Q E = ev K Φ q (.Name x p1) σ H (fun v H1 => evs K Φ q r σ H1 (fun vs H2 => Q (v :: vs) H2) E) E := rfl
theorem vs_const {c : Const} {k : Nat} {p1 : Pos} {r : List Expr} {Q : List AVal → AHeap → Prop} {E : PE} : evs K Φ q ((.Constant c k p1) :: r) σ H Q E = ev K Φ q (.Constant c k p1) σ H (fun v H1 => evs K Φ q r σ H1 (fun vs H2 => Q (v :: vs) H2) E) E := rfl
theorem vs_bin {l r0 : Expr} {op : Operator} {p1 : Pos} {r : List Expr} {Q : List AVal → AHeap → Prop} {E : PE} : evs K Φ q ((.BinOp l op r0 p1) :: r) σ H Q E = ev K Φ q (.BinOp l op r0 p1) σ H (fun v H1 => evs K Φ q r σ H1 (fun vs H2 => Q (v :: vs) H2) E) E := rfl
theorem vs_sub {x y : Expr} {p1 : Pos} {r : List Expr} {Q : List AVal → AHeap → Prop} {E : PE} : evs K Φ q ((.Subscript x y p1) :: r) σ H Q E = ev K Φ q (.Subscript x y p1) σ H (fun v H1 => evs K Φ q r σ H1 (fun vs H2 => Q (v :: vs) H2) E) E := rfl
theorem vs_call {f : Expr} {as : List Expr} {ks : List Keyword} {p1 : Pos} {r : List Expr} {Q : List AVal → AHeap → Prop} {E : PE} : evs K Φ q ((.Call f as ks p1) :: r) σ H Q E = ev K Φ q (.Call f as ks p1) σ H (fun v H1 => evs K Φ q r σ H1 (fun vs H2 => Q (v :: vs) H2) E) E := rfl
theorem vs_un {op : UnaryOp} {x : Expr} {p1 : Pos} {r : List Expr} {Q : List AVal → AHeap → Prop} {E : PE} : evs K Φ q ((.UnaryOp op x p1) :: r) σ H Q E = ev K Φ q (.UnaryOp op x p1) σ H (fun v H1 => evs K Φ q r σ H1 (fun vs H2 => Q (v :: vs) H2) E) E := rfl
theorem vs_attr {x : Expr} {nm : Str} {p1 : Pos} {r : List Expr} {Q : List AVal → AHeap → Prop} {E : PE} : evs K Φ q ((.Attribute x nm p1) :: r) σ H Q E = ev K Φ q (.Attribute x nm p1) σ H (fun v H1 => evs K Φ q r σ H1 (fun vs H2 => Q (v :: vs) H2) E) E := rfl
theorem vs_tup {es : List Expr} {k} {p1 : Pos} {r : List Expr} {Q : List AVal → AHeap → Prop} {E : PE} : evs K Φ q ((.Tuple es k p1) :: r) σ H Q E = ev K Φ q (.Tuple es k p1) σ H (fun v H1 => evs K Φ q r σ H1 (fun vs H2 => Q (v :: vs) H2) E) E := rfl
theorem vs_list {es : List Expr} {p1 : Pos} {r : List Expr} {Q : List AVal → AHeap → Prop} {E : PE} : evs K Φ q ((.List es p1) :: r) σ H Q E = ev K Φ q (.List es p1) σ H (fun v H1 => evs K Φ q r σ H1 (fun vs H2 => Q (v :: vs) H2) E) E := rfl
theorem vs_cmp {l : Expr} {ops : List CmpOp} {rs : List Expr} {p1 : Pos} {r : List Expr} {Q : List AVal → AHeap → Prop} {E : PE} : evs K Φ q ((.Compare l ops rs p1) :: r) σ H Q E = ev K Φ q (.Compare l ops rs p1) σ H (fun v H1 => evs K Φ q r σ H1 (fun vs H2 => Q (v :: vs) H2) E) E := rfl
theorem vs_bo {op : BoolOp} {vs : List Expr} {p1 : Pos} {r : List Expr} {Q : List AVal → AHeap → Prop} {E : PE} : evs K Φ q ((.BoolOp op vs p1) :: r) σ H Q E = ev K Φ q (.BoolOp op vs p1) σ H (fun v H1 => evs K Φ q r σ H1 (fun vs H2 => Q (v :: vs) H2) E) E := rfl
theorem vs_comp {elt : Expr} {gens : List Comprehension} {sc : Scope} {p1 : Pos} {r : List Expr} {Q : List AVal → AHeap → Prop} {E : PE} : evs K Φ q ((.ListComp elt gens sc p1) :: r) σ H Q E = ev K Φ q (.ListComp elt gens sc p1) σ H (fun v H1 => evs K Φ q r σ H1 (fun vs H2 => Q (v :: vs) H2) E) E := rfl
theorem vO_none {Q : Option Int → AHeap → Prop} {E : PE} : evO K Φ q none σ H Q E = Q none H := rfl
theorem vO_some {e : Expr} {Q : Option Int → AHeap → Prop} {E : PE} : evO K Φ q (some e) σ H Q E = ev K Φ q e σ H (fun v H1 => intA v fun i => Q (some i) H1) E := rfl
section
variable {Q : PF} {E : PS}
theorem x_expr {e : Expr} {p : Pos} : ex K Φ q (.Expr e p) σ H Q E = ev K Φ q e σ H (fun _ H1 => Q .next σ H1) (fun C H1 => E C σ H1) := rfl
theorem x_pass {p : Pos} : ex K Φ q (.Pass p) σ H Q E = Q .next σ H := rfl
theorem x_cont {p : Pos} : ex K Φ q (.Continue p) σ H Q E = Q .cont σ H := rfl
theorem x_ret {e : Expr} {p : Pos} : ex K Φ q (.Return (some e) p) σ H Q E = ev K Φ q e σ H (fun v H1 => Q (.ret v) σ H1) (fun C H1 => E C σ H1) := rfl
theorem x_asg {t e : Expr} {p : Pos} : ex K Φ q (.Assign [t] e p) σ H Q E = ev K Φ q e σ H (fun v H1 => asg K Φ q v t σ H1 (fun σ1 H2 => Q .next σ1 H2) (fun C H2 => E C σ H2)) (fun C H1 => E C σ H1) := rfl
theorem x_if {t : Expr} {b o : List Stmt} {p : Pos} : ex K Φ q (.If t b o p) σ H Q E = tst K Φ q t (ev K Φ q t) σ H (fun c H1 => match c with
      | true => exs K Φ q b σ H1 Q E
      | false => exs K Φ q o σ H1 Q E) (fun C H1 => E C σ H1) := rfl
theorem x_for {x : Str} {px : Pos} {it : Expr} {b : List Stmt} {p : Pos} : ex K Φ q (.For (.Name x px) it b [] p) σ H Q E = ev K Φ q it σ H (fun v H1 => ∃ its src, itemsA H1 v = some (its, src) ∧ q = true ∧
      forA (fun σ' H' Q' E' => exs K Φ q b σ' H' Q' E') x src Q E its σ H1) (fun C H1 => E C σ H1) := rfl
theorem x_while {t : Expr} {b : List Stmt} {p : Pos} : ex K Φ q (.While t b [] p) σ H Q E = (∃ n, whA (fun σ' H' Q' E' => tst K Φ q t (ev K Φ q t) σ' H' Q' E') (fun σ' H' Q' E' => exs K Φ q b σ' H' Q' E') Q E n σ H) := rfl
theorem x_raise {x : Str} {p1 p2 p3 p4 : Pos} {k : Nat} {m : Str} : ex K Φ q (.Raise (some (.Call (.Name x p1) [.Constant (.str m) k p2] [] p3)) none p4) σ H Q E = (q = true ∧ (match gval K x with
      | some (.val (.ref C)) => σ x = none ∧ excOk K C = true ∧ E C σ H
      | _ => False)) := by
  refine propext ⟨fun h => ?_, fun h => ⟨_, _, _, _, _, _, rfl, rfl, h⟩⟩
  obtain ⟨_, _, _, _, _, _, h1, _, h⟩ := h
  cases h1
  exact h
theorem x_try {b : List Stmt} {hs : List ExceptHandler} {p : Pos} : ex K Φ q (.Try b hs [] [] p) σ H Q E = (q = true ∧ exs K Φ true b σ H Q (fun C σ1 H1 => hdA K Φ hs C σ1 H1 Q E)) := rfl
theorem xs_nil  : exs K Φ q [] σ H Q E = Q .next σ H := rfl
theorem xs_cons {s : Stmt} {r : List Stmt} : exs K Φ q (s :: r) σ H Q E = ex K Φ q s σ H (fun fl σ1 H1 => match fl with
      | .next => exs K Φ q r σ1 H1 Q E
      | fl => Q fl σ1 H1) E := rfl
theorem xh_nil {C : Addr} : hdA K Φ [] C σ H Q E = E C σ H := rfl
theorem xh_cons {x : Str} {px p : Pos} {nm : Option Str} {b : Stmt} {bs : List Stmt} {rest : List ExceptHandler} {C : Addr} : hdA K Φ (.ExceptHandler (some (.Name x px)) nm (b :: bs) p :: rest) C σ H Q E = (σ x = none ∧ (match gval K x with
      | some (.val (.ref D)) => (match exmOne K (.ref C) (.ref D) with
        | some true => exs K Φ false (b :: bs) (match nm with | some n => upd σ n (.exc C) | none => σ) H
            (fun fl σ1 H1 => Q fl (match nm with | some _ => fun _ => none | none => σ1) H1) (fun _ _ _ => False)
        | some false => hdA K Φ rest C σ H Q E
        | none => False)
      | _ => False)) := rfl
end
end
section
variable {K : Frag} {top : Bool} {sc : Scope}
theorem c_strc {x : Str} {k : Nat} {p : Pos} : scE K top sc (.Constant (.str x) k p) = PyData.strOk x := rfl
theorem c_name {x : Str} {p : Pos} : scE K top sc (.Name x p) = nmOk K sc x := rfl
theorem c_boolop {op : BoolOp} {vs : List Expr} {p : Pos} : scE K top sc (.BoolOp op vs p) = scEs K top sc vs := rfl
theorem c_un {op : UnaryOp} {e : Expr} {p : Pos} : scE K top sc (.UnaryOp op e p) = scE K top sc e := rfl
theorem c_bin {l r : Expr} {op : Operator} {p : Pos} : scE K top sc (.BinOp l op r p) = (scE K top sc l && scE K top sc r) := rfl
theorem c_cmp {l : Expr} {ops : List CmpOp} {rs : List Expr} {p : Pos} : scE K top sc (.Compare l ops rs p) = (scE K top sc l && scEs K top sc rs) := rfl
theorem c_calla {o : Expr} {nm : Str} {ap : Pos} {as : List Expr} {ks : List Keyword} {p : Pos} : scE K top sc (.Call (.Attribute o nm ap) as ks p) = (baseOk o && ap.endLine == p.line && decide (as.length < 20) && scE K top sc o && scEs K top sc as) := rfl
theorem c_calln {x : Str} {xp : Pos} {as : List Expr} {ks : List Keyword} {p : Pos} : scE K top sc (.Call (.Name x xp) as ks p) = (decide (as.length < 20) && nmOk K sc x && scEs K top sc as) := rfl
theorem c_attr {o : Expr} {nm : Str} {p : Pos} : scE K top sc (.Attribute o nm p) = (baseOk o && scE K top sc o) := rfl
theorem c_sub {o i : Expr} {p : Pos} : scE K top sc (.Subscript o i p) = (scE K top sc o && scE K top sc i) := rfl
theorem c_slice {lo hi st : Option Expr} {p : Pos} : scE K top sc (.Slice lo hi st p) = (scO K top sc lo && scO K top sc hi) := rfl
theorem c_tuple {es : List Expr} {k} {p : Pos} : scE K top sc (.Tuple es k p) = scEs K top sc es := rfl
theorem c_list {es : List Expr} {p : Pos} : scE K top sc (.List es p) = scEs K top sc es := rfl
theorem c_comp {elt : Expr} {gens : List Comprehension} {sc' : Scope} {p : Pos} : scE K top sc (.ListComp elt gens sc' p) = (top && compOk sc sc' && scE K false (relabelS sc sc') elt && scG K sc (relabelS sc sc') gens) := rfl
theorem cs_nil  : scEs K top sc [] = true := rfl
theorem cs_cons {e : Expr} {r : List Expr} : scEs K top sc (e :: r) = (scE K top sc e && scEs K top sc r) := rfl
theorem cO_some {e : Expr} : scO K top sc (some e) = scE K top sc e := rfl
theorem cG_one {x : Str} {px : Pos} {iter : Expr} {ifs : List Expr} {k : Int} {sc' : Scope} : scG K sc sc' [⟨.Name x px, iter, ifs, k⟩] = (sc'.names.lookup x == some .local && sc'.names.all (fun (n, k) => k != .local || n == x || (sc.names.lookup n).isNone) && !(x == ("__debug__" : Str)) && scE K false sc iter && scEs K false sc' ifs) := rfl
theorem d_expr {e : Expr} {p : Pos} : scS K sc (.Expr e p) = (scE K true sc e && notComp e) := rfl
theorem d_ret {e : Expr} {p : Pos} : scS K sc (.Return (some e) p) = scE K true sc e := rfl
theorem d_asg {t e : Expr} {p : Pos} : scS K sc (.Assign [t] e p) = (tOk K sc e t && scE K true sc e) := rfl
theorem d_if {t : Expr} {b o : List Stmt} {p : Pos} : scS K sc (.If t b o p) = (scE K true sc t && scSs K sc b && scSs K sc o) := rfl
theorem d_for {x : Str} {px : Pos} {it : Expr} {b : List Stmt} {p : Pos} : scS K sc (.For (.Name x px) it b [] p) = (tgOk sc x && scE K true sc it && scSs K sc b) := rfl
theorem d_while {t : Expr} {b : List Stmt} {p : Pos} : scS K sc (.While t b [] p) = (scE K true sc t && scSs K sc b) := rfl
theorem d_raise {x : Str} {p1 p2 p3 p4 : Pos} {k : Nat} {m : Str} : scS K sc (.Raise (some (.Call (.Name x p1) [.Constant (.str m) k p2] [] p3)) none p4) = nmOk K sc x := rfl
theorem d_try {b : List Stmt} {h : ExceptHandler} {hs : List ExceptHandler} {p : Pos} : scS K sc (.Try b (h :: hs) [] [] p) = (scSs K sc b && scHs K sc (h :: hs) && true) := rfl
theorem ds_nil  : scSs K sc [] = true := rfl
theorem ds_cons {s : Stmt} {r : List Stmt} : scSs K sc (s :: r) = (scS K sc s && scSs K sc r) := rfl
theorem dh_cons {x : Str} {px p : Pos} {nm : Option Str} {b : List Stmt} {r : List ExceptHandler} : scHs K sc (.ExceptHandler (some (.Name x px)) nm b p :: r) = (nmOk K sc x && (match nm with | some n => !(n == ("__debug__" : Str)) && sc.names.lookup n == some .local | none => true) && scSs K sc b && scHs K sc r) := rfl
end
end Mine

/-! The relation between the abstract state and the model's state. -/
set_option maxRecDepth 100000
namespace Mine
open PySem PySem.Calls PyProof.Rows PySem.W

structure Wd where
  prog : Program
  w : World
  K : Frag
  base : Heap
  os : OsState

noncomputable def ExcObj (h : Heap) (e C : Addr) : Prop := ∃ oe vs, h.get? e = some oe ∧ oe.cls = .ref C ∧ oe.data = .fields vs ∧ oe.dict = none

mutual
inductive RepV (h : Heap) : AVal → Value → Prop
  | none : RepV h .none .none
  | bool (b : Bool) : RepV h (.bool b) (.bool b)
  | int (i : Int) (t : Tok) : RepV h (.int i) (.int i t)
  | str (x : Str) (t : Tok) : PyData.strOk x = true → RepV h (.str x) (.str x t)
  | tup {l : List AVal} {a : Addr} {vs : List Value} : IsTup h a vs.toArray → vs.length ≤ bigL → RepVs h l vs → RepV h (.tup l) (.ref a)
  | ref (a : Addr) : RepV h (.ref a) (.ref a)
  | range {lo hi : Int} {a : Addr} {t u v : Tok} : IsRange h a lo hi 1 t u v → ((0 ≤ lo ∧ lo ≤ 1000000) ∧ -1000000 ≤ hi ∧ hi ≤ 1000000) → RepV h (.range lo hi) (.ref a)
  | exc {C e : Addr} : ExcObj h e C → RepV h (.exc C) (.ref e)
  | val (v : Value) : RepV h (.val v) v
inductive RepVs (h : Heap) : List AVal → List Value → Prop
  | nil : RepVs h [] []
  | cons {a : AVal} {v : Value} {l : List AVal} {vs : List Value} : RepV h a v → RepVs h l vs → RepVs h (a :: l) (v :: vs)
end

noncomputable def Imm (o : Obj) : Prop := (∃ vs n, o.data = .seq vs n ∧ o.cls = .type "tuple") ∨ ∃ vs, o.data = .fields vs ∧ (o.cls = .type "range" ∨ ∃ C, o.cls = .ref C)
noncomputable def ImmX (o o' : Obj) : Prop := o' = o ∨ ∃ C vs vs', o.cls = .ref C ∧ o'.cls = .ref C ∧ o.data = .fields vs ∧ o'.data = .fields vs' ∧ o'.dict = o.dict
noncomputable def Stab (h h' : Heap) : Prop := ∀ b o, h.get? b = some o → Imm o → ∃ o', h'.get? b = some o' ∧ ImmX o o'
theorem Stab.of {h h' : Heap} (k : ∀ b o, h.get? b = some o → Imm o → h'.get? b = some o) : Stab h h' := fun b o e i => ⟨o, k b o e i, .inl rfl⟩
theorem Stab.plain {h h' : Heap} (S : Stab h h') {b : Addr} {o : Obj} (e : h.get? b = some o) (i : Imm o) {t : String} (c : o.cls = .type t) : h'.get? b = some o := by
  obtain ⟨o', h1, h2⟩ := S b o e i
  rcases h2 with rfl | ⟨C, _, _, h2, _⟩
  · exact h1
  · rw [c] at h2; cases h2

theorem tup_mono {h h' : Heap} (S : Stab h h') {a : Addr} {vs : Array Value} (ht : IsTup h a vs) : IsTup h' a vs := by
  obtain ⟨o, ho, hc, n, hd⟩ := ht
  exact ⟨o, S.plain ho (.inl ⟨_, n, hd, hc⟩) hc, hc, n, hd⟩
theorem exc_mono {h h' : Heap} (S : Stab h h') {e C : Addr} (x : ExcObj h e C) : ExcObj h' e C := by
  obtain ⟨oe, vs, h1, h2, h3, h4⟩ := x
  obtain ⟨o', k1, k2⟩ := S _ _ h1 (.inr ⟨vs, h3, .inr ⟨_, h2⟩⟩)
  rcases k2 with rfl | ⟨C', vs', vs'', z1, z2, z3, z4, z5⟩
  · exact ⟨_, vs, k1, h2, h3, h4⟩
  · rw [h2] at z1; cases z1
    exact ⟨o', vs'', k1, z2, z4, z5.trans h4⟩
theorem RepV.mono {h h' : Heap} (S : Stab h h') {a : AVal} {v : Value} (r : RepV h a v) : RepV h' a v :=
  RepV.rec (motive_1 := fun a v _ => RepV h' a v) (motive_2 := fun l vs _ => RepVs h' l vs) .none .bool .int .str (fun ht hl _ ih => .tup (tup_mono S ht) hl ih) .ref (fun hr hb => .range (S.plain hr (.inr ⟨_, rfl, .inl rfl⟩) rfl) hb) (fun x => .exc (exc_mono S x)) .val .nil (fun _ _ i1 i2 => .cons i1 i2) r
theorem RepVs.mono {h h' : Heap} (S : Stab h h') {l : List AVal} {vs : List Value} (r : RepVs h l vs) : RepVs h' l vs :=
  RepVs.rec (motive_1 := fun a v _ => RepV h' a v) (motive_2 := fun l vs _ => RepVs h' l vs) .none .bool .int .str (fun ht hl _ ih => .tup (tup_mono S ht) hl ih) .ref (fun hr hb => .range (S.plain hr (.inr ⟨_, rfl, .inl rfl⟩) rfl) hb) (fun x => .exc (exc_mono S x)) .val .nil (fun _ _ i1 i2 => .cons i1 i2) r

noncomputable def RepV.Is (h : Heap) (v : Value) : AVal → Prop
  | .none => v = .none
  | .bool b => v = .bool b
  | .int i => ∃ t, v = .int i t
  | .str x => ∃ t, v = .str x t ∧ PyData.strOk x = true
  | .tup l => ∃ a vs, v = .ref a ∧ IsTup h a vs.toArray ∧ vs.length ≤ bigL ∧ RepVs h l vs
  | .ref a => v = .ref a
  | .range lo hi => ∃ a t u w, v = .ref a ∧ IsRange h a lo hi 1 t u w ∧ ((0 ≤ lo ∧ lo ≤ 1000000) ∧ -1000000 ≤ hi ∧ hi ≤ 1000000)
  | .exc C => ∃ e, v = .ref e ∧ ExcObj h e C
  | .val u => v = u
theorem RepV.inv {h : Heap} {a : AVal} {v : Value} (r : RepV h a v) : RepV.Is h v a := by
  cases r with
  | none => rfl
  | bool b => rfl
  | int i t => exact ⟨t, rfl⟩
  | str x t k => exact ⟨t, rfl, k⟩
  | tup h1 h2 h3 => exact ⟨_, _, rfl, h1, h2, h3⟩
  | ref a => rfl
  | range h1 h2 => exact ⟨_, _, _, _, rfl, h1, h2⟩
  | exc h1 => exact ⟨_, rfl, h1⟩
  | val u => rfl
theorem RepVs.nil_inv {h : Heap} {vs : List Value} (r : RepVs h [] vs) : vs = [] := by cases r; rfl
theorem RepVs.cons_inv {h : Heap} {a : AVal} {l : List AVal} {vs : List Value} (r : RepVs h (a :: l) vs) : ∃ v us, vs = v :: us ∧ RepV h a v ∧ RepVs h l us := by
  cases r with | cons r1 r2 => exact ⟨_, _, rfl, r1, r2⟩
theorem RepVs.one {h : Heap} {a : AVal} {vs : List Value} (r : RepVs h [a] vs) : ∃ v, vs = [v] ∧ RepV h a v := by
  obtain ⟨v, us, rfl, r1, r2⟩ := r.cons_inv
  obtain rfl := r2.nil_inv
  exact ⟨v, rfl, r1⟩
theorem RepVs.two {h : Heap} {a b : AVal} {vs : List Value} (r : RepVs h [a, b] vs) : ∃ v u, vs = [v, u] ∧ RepV h a v ∧ RepV h b u := by
  obtain ⟨v, us, rfl, r1, r2⟩ := r.cons_inv
  obtain ⟨u, rfl, r3⟩ := r2.one
  exact ⟨v, u, rfl, r1, r3⟩
theorem RepV.isBool {h : Heap} {a : AVal} {v : Value} {k : Bool → Prop} (r : RepV h a v) (e : boolA a k) : ∃ b, v = .bool b ∧ k b := by
  cases a with
  | bool b => exact ⟨b, r.inv, e⟩
  | _ => exact e.elim
theorem RepV.isInt {h : Heap} {a : AVal} {v : Value} {k : Int → Prop} (r : RepV h a v) (e : intA a k) : ∃ i t, v = .int i t ∧ k i := by
  cases a with
  | int i => obtain ⟨t, z⟩ := r.inv; exact ⟨i, t, z, e⟩
  | _ => exact e.elim
theorem RepVs.length {h : Heap} {l : List AVal} : ∀ {vs : List Value}, RepVs h l vs → vs.length = l.length := by
  induction l with
  | nil => intro vs r; rw [r.nil_inv]; rfl
  | cons a l ih => intro vs r; obtain ⟨v, us, rfl, _, r2⟩ := r.cons_inv; rw [List.length_cons, List.length_cons, ih r2]
theorem RepVs.get {h : Heap} {l : List AVal} : ∀ {vs : List Value}, RepVs h l vs → ∀ {j : Nat} {a : AVal}, l[j]? = some a → ∃ v, vs[j]? = some v ∧ RepV h a v := by
  induction l with
  | nil => intro vs r j a e; cases e
  | cons b l ih =>
    intro vs r j a e
    obtain ⟨v, us, rfl, r1, r2⟩ := r.cons_inv
    cases j with
    | zero => rw [List.getElem?_cons_zero] at e; cases e; exact ⟨v, List.getElem?_cons_zero, r1⟩
    | succ j =>
      rw [List.getElem?_cons_succ] at e
      obtain ⟨u, h1, h2⟩ := ih r2 e
      exact ⟨u, by rw [List.getElem?_cons_succ]; exact h1, h2⟩
theorem RepVs.append {h : Heap} {l : List AVal} : ∀ {vs : List Value} {l' : List AVal} {vs' : List Value}, RepVs h l vs → RepVs h l' vs' → RepVs h (l ++ l') (vs ++ vs') := by
  induction l with
  | nil => intro vs l' vs' r x; rw [r.nil_inv]; exact x
  | cons a l ih => intro vs l' vs' r x; obtain ⟨v, us, rfl, r1, r2⟩ := r.cons_inv; exact .cons r1 (ih r2 x)
theorem RepVs.set {h : Heap} {l : List AVal} : ∀ {vs : List Value}, RepVs h l vs → ∀ (j : Nat) {a : AVal} {v : Value}, RepV h a v → RepVs h (l.set j a) (vs.set j v) := by
  induction l with
  | nil => intro vs r j a v x; rw [r.nil_inv]; exact .nil
  | cons b l ih =>
    intro vs r j a v x
    obtain ⟨u, us, rfl, r1, r2⟩ := r.cons_inv
    cases j with
    | zero => exact .cons x r2
    | succ j => exact .cons r1 (ih r2 j x)
theorem RepVs.take {h : Heap} {l : List AVal} : ∀ {vs : List Value}, RepVs h l vs → ∀ (j : Nat), RepVs h (l.take j) (vs.take j) := by
  induction l with
  | nil => intro vs r j; rw [r.nil_inv, List.take_nil, List.take_nil]; exact .nil
  | cons b l ih =>
    intro vs r j
    obtain ⟨u, us, rfl, r1, r2⟩ := r.cons_inv
    cases j with
    | zero => exact .nil
    | succ j => exact .cons r1 (ih r2 j)
theorem RepVs.drop {h : Heap} {l : List AVal} : ∀ {vs : List Value}, RepVs h l vs → ∀ (j : Nat), RepVs h (l.drop j) (vs.drop j) := by
  induction l with
  | nil => intro vs r j; rw [r.nil_inv, List.drop_nil, List.drop_nil]; exact .nil
  | cons b l ih =>
    intro vs r j
    obtain ⟨u, us, rfl, r1, r2⟩ := r.cons_inv
    cases j with
    | zero => exact .cons r1 r2
    | succ j => exact ih r2 j
theorem RepVs.snoc {h : Heap} {a : AVal} {l : List AVal} : ∀ {vs : List Value}, RepVs h (l ++ [a]) vs → ∃ us u, vs = us ++ [u] ∧ RepVs h l us ∧ RepV h a u := by
  induction l with
  | nil => intro vs r; obtain ⟨v, rfl, r1⟩ := RepVs.one r; exact ⟨[], v, rfl, .nil, r1⟩
  | cons b l ih =>
    intro vs r
    obtain ⟨v, us, rfl, r1, r2⟩ := RepVs.cons_inv r
    obtain ⟨ws, u, rfl, h1, h2⟩ := ih r2
    exact ⟨v :: ws, u, rfl, .cons r1 h1, h2⟩
theorem RepVs.replicate {h : Heap} {a : AVal} {v : Value} (x : RepV h a v) : ∀ n, RepVs h (List.replicate n a) (List.replicate n v)
  | 0 => .nil
  | n + 1 => .cons x (RepVs.replicate x n)

inductive Ents (P : Params) (h : Heap) : List (Str × AVal) → List DictEntry → Prop
  | nil : Ents P h [] []
  | cons {x : Str} {a : AVal} {t : Tok} {v : Value} {fs : List (Str × AVal)} {es : List DictEntry} : RepV h a v → Ents P h fs es → Ents P h ((x, a) :: fs) (⟨PyData.keyHash P x, .str x t, v⟩ :: es)
theorem Ents.mono {P : Params} {h h' : Heap} (S : Stab h h') {fs : List (Str × AVal)} {es : List DictEntry} (E : Ents P h fs es) : Ents P h' fs es := by
  induction E with
  | nil => exact .nil
  | cons x _ ih => exact .cons (x.mono S) ih

noncomputable def RepO (P : Params) (h : Heap) (a : Addr) : AObj → Prop
  | .list ro xs => ∃ vs, (if ro then h.IsList a vs.toArray else ∃ n, h.get? a = some (listOf vs.toArray n)) ∧ RepVs h xs vs ∧ xs.length ≤ bigL
  | .inst C d => ∃ sl, h.get? a = some ⟨.ref C, some d, .plain, sl⟩
  | .dict fs => ∃ es n, h.get? a = some (dictOf es n) ∧ Ents P h fs es ∧ fs.length ≤ 100
theorem RepO.isList {P : Params} {h : Heap} {a : Addr} {ro : Bool} {xs : List AVal} (r : RepO P h a (.list ro xs)) : ∃ vs, h.IsList a vs.toArray ∧ RepVs h xs vs ∧ xs.length ≤ bigL := by
  obtain ⟨vs, h1, h2, h3⟩ := r
  refine ⟨vs, ?_, h2, h3⟩
  split at h1
  · exact h1
  · obtain ⟨n, e⟩ := h1; exact ⟨_, e, rfl, n, rfl⟩
theorem RepO.isL {P : Params} {h : Heap} {a : Addr} {xs : List AVal} (r : RepO P h a (.list false xs)) : ∃ vs n, h.get? a = some (listOf vs.toArray n) ∧ RepVs h xs vs ∧ xs.length ≤ bigL := by
  obtain ⟨vs, h1, h2, h3⟩ := r
  obtain ⟨n, e⟩ := h1
  exact ⟨vs, n, e, h2, h3⟩
theorem RepO.mkL {P : Params} {h : Heap} {a : Addr} {xs : List AVal} {vs : List Value} {n : Nat} (e : h.get? a = some (listOf vs.toArray n)) (h2 : RepVs h xs vs) (h3 : xs.length ≤ bigL) : RepO P h a (.list false xs) :=
  ⟨vs, ⟨n, e⟩, h2, h3⟩
noncomputable def AObj.ro : AObj → Bool
  | .list r _ => r
  | _ => false

noncomputable def frA (fr : List Env) : List Addr := fr.filterMap (·.frame)

structure Inv (W : Wd) (fr : List Env) (H : AHeap) (s : Shared) : Prop where
  stay : W.base.StaysIn s.heap
  gens : s.gens = #[]
  os : s.os = W.os
  rep : ∀ a o, H a = some o → RepO W.w.params s.heap a o
  new : ∀ a o, H a = some o → o.ro = false → W.base.get? a = none
  frs : ∀ e ∈ fr, e.scope.kind ≠ .module ∧ ∃ L o es k, e.frame = some L ∧ W.base.get? L = none ∧ H L = none ∧ s.heap.get? L = some o ∧ o.data = .dict es k

structure Ext (own : Addr → Prop) (fr : List Env) (H : AHeap) (h : Heap) (H' : AHeap) (h' : Heap) : Prop where
  keep : ∀ b o, h.get? b = some o → H b = none → ¬ own b → b ∉ frA fr → h'.get? b = some o
  slots : ∀ b ∈ frA fr, ¬ own b → ∀ o, h.get? b = some o → ∃ sl, h'.get? b = some { o with slots := sl }
  alive : ∀ b o, h.get? b = some o → ∃ o', h'.get? b = some o'
  fresh : ∀ a, H' a ≠ none → H a = none → h.get? a = none

noncomputable abbrev Ext0 := Ext (fun _ => False)
theorem Ext.refl (own : Addr → Prop) (fr : List Env) (H : AHeap) (h : Heap) : Ext own fr H h H h :=
  ⟨fun _ _ e _ _ _ => e, fun _ _ _ o e => ⟨o.slots, e⟩, fun _ o e => ⟨o, e⟩, fun _ x y => absurd y x⟩
theorem Ext.trans {own : Addr → Prop} {fr : List Env} {H H' H'' : AHeap} {h h' h'' : Heap} (x : Ext own fr H h H' h') (y : Ext own fr H' h' H'' h'') : Ext own fr H h H'' h'' where
  keep b o e n no nf := y.keep b o (x.keep b o e n no nf) (by
    cases q : H' b with
    | none => rfl
    | some z => have := x.fresh b (by rw [q]; exact fun z => nomatch z) n; rw [e] at this; cases this) no nf
  slots b hb no o e := by
    obtain ⟨sl, e1⟩ := x.slots b hb no o e
    obtain ⟨sl', e2⟩ := y.slots b hb no _ e1
    exact ⟨sl', e2⟩
  alive b o e := by
    obtain ⟨o1, e1⟩ := x.alive b o e
    exact y.alive b o1 e1
  fresh a n z := by
    cases q : H' a with
    | some _ => exact x.fresh a (by rw [q]; exact fun z => nomatch z) z
    | none =>
      have e := y.fresh a n q
      cases r : h.get? a with
      | none => rfl
      | some o => obtain ⟨o1, e1⟩ := x.alive a o r; rw [e] at e1; cases e1
theorem Ext.weaken {own own' : Addr → Prop} {fr : List Env} {H H' : AHeap} {h h' : Heap} (x : Ext own fr H h H' h') (k : ∀ b, own b → own' b) : Ext own' fr H h H' h' :=
  ⟨fun b o e n no nf => x.keep b o e n (fun z => no (k b z)) nf, fun b hb no o e => x.slots b hb (fun z => no (k b z)) o e, x.alive, x.fresh⟩
theorem Ext.none_of {own : Addr → Prop} {fr : List Env} {H H' : AHeap} {h h' : Heap} (x : Ext own fr H h H' h') {b : Addr} {o : Obj} (e : h.get? b = some o) (n : H b = none) : H' b = none := by
  cases q : H' b with
  | none => rfl
  | some z => have := x.fresh b (by rw [q]; exact fun z => nomatch z) n; rw [e] at this; cases this

theorem Imm.no_dict {o : Obj} {es : Array DictEntry} {k : Nat} (i : Imm o) (e : o.data = .dict es k) : False := by
  rcases i with ⟨vs, n, h, _⟩ | ⟨vs, h, _⟩ <;> (rw [e] at h; cases h)
theorem Imm.no_cell {o : Obj} {v : Option Value} (i : Imm o) (e : o.data = .cell v) : False := by
  rcases i with ⟨vs, n, h, _⟩ | ⟨vs, h, _⟩ <;> (rw [e] at h; cases h)
theorem Imm.no_list {o : Obj} {ws : Array Value} {k : Nat} (i : Imm o) (e : o.data = .seq ws k) (c : o.cls = .type "list") : False := by
  rcases i with ⟨vs, n, _, h⟩ | ⟨vs, h, _⟩
  · rw [c] at h; exact absurd h (by decide)
  · rw [e] at h; cases h
theorem Inv.not_imm {W : Wd} {fr : List Env} {H : AHeap} {s : Shared} (I : Inv W fr H s) {b : Addr} {o : Obj} (e : s.heap.get? b = some o) (i : Imm o) : H b = none ∧ b ∉ frA fr := by
  constructor
  · cases q : H b with
    | none => rfl
    | some z =>
      have r := I.rep b z q
      exfalso
      cases z with
      | list ro xs =>
        obtain ⟨vs, ⟨ob, ho, hc, n, hd⟩, _⟩ := r.isList
        rw [e] at ho; cases ho
        exact i.no_list hd hc
      | inst C d =>
        obtain ⟨sl, ho⟩ := r
        rw [e] at ho; cases ho
        rcases i with ⟨vs, n, h, _⟩ | ⟨vs, h, _⟩ <;> cases h
      | dict fs =>
        obtain ⟨es, n, ho, _⟩ := r
        rw [e] at ho; cases ho
        exact i.no_dict rfl
  · intro hb
    obtain ⟨env, he, hf⟩ := List.mem_filterMap.mp hb
    obtain ⟨_, L, ob, es, k, h1, _, _, h2, h3⟩ := I.frs env he
    rw [h1] at hf; cases hf
    rw [e] at h2; cases h2
    exact i.no_dict h3
theorem Ext.stab {own : Addr → Prop} {W : Wd} {fr : List Env} {H H' : AHeap} {s : Shared} {h' : Heap} (x : Ext own fr H s.heap H' h') (I : Inv W fr H s) (no : ∀ b o, own b → s.heap.get? b = some o → ¬ Imm o) : Stab s.heap h' :=
  .of fun b o e i => x.keep b o e (I.not_imm e i).1 (fun z => no b o z e i) (I.not_imm e i).2
theorem Ext0.stab {W : Wd} {fr : List Env} {H H' : AHeap} {s : Shared} {h' : Heap} (x : Ext0 fr H s.heap H' h') (I : Inv W fr H s) : Stab s.heap h' := Ext.stab x I fun _ _ z => z.elim

structure LocR (W : Wd) (env : Env) (fr : List Env) (σ : Loc) (H : AHeap) (h : Heap) : Prop where
  ns : ∃ m, h.Ns env.locals m ∧ ∀ x av, σ x = some av → env.kindOf x = none ∨ (env.kindOf x = some .local ∧ ∃ v, m x = some v ∧ RepV h av v) ∨
    (env.kindOf x = some .cell ∧ ∃ c v, env.cells.lookup x = some c ∧ h.IsCell c (some v) ∧ RepV h av v)
  dbg : ∀ x av, σ x = some av → (x == ("__debug__" : Str)) = false
  hl : H env.locals = none
  bl : W.base.get? env.locals = none
  cl : ∀ n c, (n, c) ∈ env.cells → H c = none ∧ c ∉ frA fr ∧ W.base.get? c = none ∧ ∃ v, h.IsCell c v
  cs : ∀ x, env.kindOf x = some .cell → ∃ c, env.cells.lookup x = some c

theorem ns_slots {h h' : Heap} {a : Addr} {m : Str → Option Value} (n : h.Ns a m) (k : ∀ o, h.get? a = some o → ∃ sl, h'.get? a = some { o with slots := sl }) : h'.Ns a m := by
  obtain ⟨o, es, ep, ho, hd, r⟩ := n
  obtain ⟨sl, e⟩ := k o ho
  exact ⟨_, es, ep, e, hd, r⟩
theorem LocR.step {W : Wd} {env : Env} {fr : List Env} {σ : Loc} {H H' : AHeap} {s : Shared} {h' : Heap} (L : LocR W env fr σ H s.heap) (I : Inv W fr H s) (x : Ext0 fr H s.heap H' h') : LocR W env fr σ H' h' where
  ns := by
    obtain ⟨m, hn, hv⟩ := L.ns
    have S := x.stab I
    refine ⟨m, ns_slots hn fun o e => ?_, fun y av e => ?_⟩
    · by_cases hb : env.locals ∈ frA fr
      · exact x.slots _ hb (fun z => z) o e
      · exact ⟨o.slots, x.keep _ o e L.hl (fun z => z) hb⟩
    · rcases hv y av e with h0 | ⟨h1, v, h2, h3⟩ | ⟨h1, c, v, h2, ⟨o, h3, h3'⟩, h4⟩
      · exact .inl h0
      · exact .inr (.inl ⟨h1, v, h2, h3.mono S⟩)
      · obtain ⟨c1, c2, _⟩ := L.cl y c (mem_of_lookup h2)
        exact .inr (.inr ⟨h1, c, v, h2, ⟨o, x.keep c o h3 c1 (fun z => z) c2, h3'⟩, h4.mono S⟩)
  dbg := L.dbg
  hl := by obtain ⟨m, ⟨o, es, ep, ho, _⟩, _⟩ := L.ns; exact x.none_of ho L.hl
  bl := L.bl
  cl n c hm := by
    obtain ⟨c1, c2, c3, v, o, h3, h3'⟩ := L.cl n c hm
    exact ⟨x.none_of h3 c1, c2, c3, v, o, x.keep c o h3 c1 (fun z => z) c2, h3'⟩
  cs := L.cs

noncomputable def ExcIn (h0 h : Heap) (e C : Addr) : Prop :=
  h0.get? e = none ∧ ∃ oe vs, h.get? e = some oe ∧ oe.cls = .ref C ∧ oe.dict = none ∧ oe.data = .fields vs ∧ 1 < vs.size ∧
    (vs[1]? = some .none ∨ ∃ T oT ts, vs[1]? = some (.ref T) ∧ T ≠ e ∧ h0.get? T = none ∧ h.get? T = some oT ∧ oT.data = .fields ts ∧ 3 < ts.size ∧ oT.cls = .type "traceback")
noncomputable def ExcTr (h0 h : Heap) (e C : Addr) : Prop :=
  h0.get? e = none ∧ ∃ oe vs T oT ts, h.get? e = some oe ∧ oe.cls = .ref C ∧ oe.dict = none ∧ oe.data = .fields vs ∧ 
    vs[1]? = some (.ref T) ∧ T ≠ e ∧ h0.get? T = none ∧ h.get? T = some oT ∧ oT.data = .fields ts ∧ 3 < ts.size ∧ oT.cls = .type "traceback"
theorem ExcTr.in_ {h0 h : Heap} {e C : Addr} (x : ExcTr h0 h e C) : ExcIn h0 h e C := by
  obtain ⟨a, oe, vs, T, oT, ts, b, c, d, f, g, i, j, k, l, m, n⟩ := x
  exact ⟨a, oe, vs, b, c, d, f, (Array.getElem?_eq_some_iff.mp g).1, .inr ⟨T, oT, ts, g, i, j, k, l, m, n⟩⟩
theorem ExcIn.back {h00 h0 h : Heap} {e C : Addr} (x : ExcIn h0 h e C) (al : ∀ b o, h00.get? b = some o → ∃ o', h0.get? b = some o') : ExcIn h00 h e C := by
  have nb : ∀ b, h0.get? b = none → h00.get? b = none := fun b n => by
    cases q : h00.get? b with
    | none => rfl
    | some o => obtain ⟨o', e'⟩ := al b o q; rw [n] at e'; cases e'
  obtain ⟨a, oe, vs, b, c, d, f, g, r⟩ := x
  refine ⟨nb _ a, oe, vs, b, c, d, f, g, ?_⟩
  rcases r with r | ⟨T, oT, ts, r1, r2, r3, r4⟩
  · exact .inl r
  · exact .inr ⟨T, oT, ts, r1, r2, nb _ r3, r4⟩

noncomputable def PVc (W : Wd) (fr : List Env) (H : AHeap) (s : Shared) (Q : PV) (v : Value) (s' : Shared) : Prop :=
  ∃ av H', RepV s'.heap av v ∧ Inv W fr H' s' ∧ Ext0 fr H s.heap H' s'.heap ∧ Q av H'
noncomputable def PEc (W : Wd) (fr : List Env) (H : AHeap) (s : Shared) (E : PE) (x : Value) (s' : Shared) : Prop :=
  ∃ e C H', x = .ref e ∧ ExcIn s.heap s'.heap e C ∧ Inv W fr H' s' ∧ Ext0 fr H s.heap H' s'.heap ∧ E C H'
noncomputable def PBc (W : Wd) (fr : List Env) (H : AHeap) (s : Shared) (Q : PB) (b : Bool) (s' : Shared) : Prop :=
  ∃ H', Inv W fr H' s' ∧ Ext0 fr H s.heap H' s'.heap ∧ Q b H'
noncomputable def PLc (W : Wd) (fr : List Env) (H : AHeap) (s : Shared) (Q : List AVal → AHeap → Prop) (vs : List Value) (s' : Shared) : Prop :=
  ∃ avs H', RepVs s'.heap avs vs ∧ Inv W fr H' s' ∧ Ext0 fr H s.heap H' s'.heap ∧ Q avs H'

structure AOk (n : Nat) (q : Bool) (fr : List Env) (A : Around) : Prop where
  frames : A.frames = some fr
  handled : q = true → A.handled = none
  depth : A.depth + n < recursionLimit
  units : A.units + 20 * n + 200 < cLine

noncomputable def CallOk (W : Wd) (n : Nat) (q : Bool) (f : Value) (avs : List AVal) (H : AHeap) (Q : PV) (E : PE) : Prop :=
  ∀ A fr s vs, AOk n q fr A → Inv W fr H s → RepVs s.heap avs vs → wpAny (model W.prog W.w) A (call f vs) (PVc W fr H s Q) (PEc W fr H s E) s

structure WOk (W : Wd) : Prop where
  k : W.K.In W.base
  top : ∃ p loose mg mb, TopRead p loose mg mb W.base

theorem PEc.trans {W : Wd} {fr : List Env} {H H1 : AHeap} {s s1 : Shared} {E : PE} {x : Value} {s' : Shared} (p : PEc W fr H1 s1 E x s') (X : Ext0 fr H s.heap H1 s1.heap) : PEc W fr H s E x s' :=
  let ⟨e, C, H', a, b, c, d, f⟩ := p; ⟨e, C, H', a, b.back X.alive, c, X.trans d, f⟩
theorem PVc.trans {W : Wd} {fr : List Env} {H H1 : AHeap} {s s1 : Shared} {Q : PV} {v : Value} {s' : Shared} (p : PVc W fr H1 s1 Q v s') (X : Ext0 fr H s.heap H1 s1.heap) : PVc W fr H s Q v s' :=
  let ⟨av, H', a, b, c, d⟩ := p; ⟨av, H', a, b, X.trans c, d⟩
theorem PBc.trans {W : Wd} {fr : List Env} {H H1 : AHeap} {s s1 : Shared} {Q : PB} {v : Bool} {s' : Shared} (p : PBc W fr H1 s1 Q v s') (X : Ext0 fr H s.heap H1 s1.heap) : PBc W fr H s Q v s' :=
  let ⟨H', b, c, d⟩ := p; ⟨H', b, X.trans c, d⟩
theorem PLc.trans {W : Wd} {fr : List Env} {H H1 : AHeap} {s s1 : Shared} {Q : List AVal → AHeap → Prop} {v : List Value} {s' : Shared} (p : PLc W fr H1 s1 Q v s') (X : Ext0 fr H s.heap H1 s1.heap) : PLc W fr H s Q v s' :=
  let ⟨av, H', a, b, c, d⟩ := p; ⟨av, H', a, b, X.trans c, d⟩

theorem Inv.toks {W : Wd} {fr : List Env} {H : AHeap} {s : Shared} (I : Inv W fr H s) (t : Nat) : Inv W fr H { s with toks := t } := ⟨I.stay, I.gens, I.os, I.rep, I.new, I.frs⟩

theorem RepO.keep {P : Params} {h h' : Heap} {a : Addr} {o : AObj} (r : RepO P h a o) (S : Stab h h') (k : ∀ x, h.get? a = some x → h'.get? a = some x) : RepO P h' a o := by
  cases o with
  | list ro xs =>
    obtain ⟨vs, hi, hr, hl⟩ := r
    refine ⟨vs, ?_, hr.mono S, hl⟩
    cases ro with
    | true => obtain ⟨ob, ho, hc⟩ := hi; exact ⟨ob, k _ ho, hc⟩
    | false => obtain ⟨n, ho⟩ := hi; exact ⟨n, k _ ho⟩
  | inst C d => obtain ⟨sl, ho⟩ := r; exact ⟨sl, k _ ho⟩
  | dict fs => obtain ⟨es, n, ho, he, hl⟩ := r; exact ⟨es, n, k _ ho, he.mono S, hl⟩

theorem Inv.grown {W : Wd} {fr : List Env} {H : AHeap} {s : Shared} (I : Inv W fr H s) {h' : Heap} {t : Nat} (k : ∀ b o, s.heap.get? b = some o → h'.get? b = some o) : Inv W fr H { s with heap := h', toks := t } where
  stay b o e := k b o (I.stay b o e)
  gens := I.gens
  os := I.os
  rep a o e := (I.rep a o e).keep (.of fun b o e _ => k b o e) (k a)
  new := I.new
  frs e he := by obtain ⟨h0, L, o, es, j, h1, h2, h3, h4, h5⟩ := I.frs e he; exact ⟨h0, L, o, es, j, h1, h2, h3, k _ _ h4, h5⟩
theorem Ext.grown {own : Addr → Prop} {fr : List Env} {H : AHeap} {h h' : Heap} (k : ∀ b o, h.get? b = some o → h'.get? b = some o) : Ext own fr H h H h' :=
  ⟨fun b o e _ _ _ => k b o e, fun b _ _ o e => ⟨o.slots, k b o e⟩, fun b o e => ⟨o, k b o e⟩, fun _ x y => absurd y x⟩
theorem Inv.adopt {W : Wd} {fr : List Env} {H : AHeap} {s : Shared} (I : Inv W fr H s) {a : Addr} {o : AObj} (hn : H a = none) (hr : RepO W.w.params s.heap a o) (hb : W.base.get? a = none) (hf : a ∉ frA fr) : Inv W fr (hset H a o) s where
  stay := I.stay
  gens := I.gens
  os := I.os
  rep b x e := by
    unfold hset at e
    split at e
    · rename_i q; cases e; subst q; exact hr
    · exact I.rep b x e
  new b x e r := by
    unfold hset at e
    split at e
    · rename_i q; subst q; exact hb
    · exact I.new b x e r
  frs e he := by
    obtain ⟨h0, L, ob, es, j, h1, h2, h3, h4, h5⟩ := I.frs e he
    refine ⟨h0, L, ob, es, j, h1, h2, ?_, h4, h5⟩
    unfold hset
    rw [if_neg]
    · exact h3
    · rintro rfl; exact hf (List.mem_filterMap.mpr ⟨e, he, h1⟩)
theorem Inv.fresh_frA {W : Wd} {fr : List Env} {H : AHeap} {s : Shared} (I : Inv W fr H s) {a : Addr} (hn : s.heap.get? a = none) : a ∉ frA fr := fun hb => by
  obtain ⟨env, he, hf⟩ := List.mem_filterMap.mp hb
  obtain ⟨_, L, ob, es, k, h1, _, _, h2, _⟩ := I.frs env he
  rw [h1] at hf; cases hf
  rw [hn] at h2; cases h2
theorem Inv.fresh_H {W : Wd} {fr : List Env} {H : AHeap} {s : Shared} (I : Inv W fr H s) {a : Addr} (hn : s.heap.get? a = none) : H a = none := by
  cases q : H a with
  | none => rfl
  | some z =>
    have r := I.rep a z q
    exfalso
    cases z with
    | list ro xs => obtain ⟨vs, ⟨ob, ho, _⟩, _⟩ := r.isList; rw [hn] at ho; cases ho
    | inst C d => obtain ⟨sl, ho⟩ := r; rw [hn] at ho; cases ho
    | dict fs => obtain ⟨es, n, ho, _⟩ := r; rw [hn] at ho; cases ho
theorem Inv.fresh_base {W : Wd} {fr : List Env} {H : AHeap} {s : Shared} (I : Inv W fr H s) {a : Addr} (hn : s.heap.get? a = none) : W.base.get? a = none := by
  cases q : W.base.get? a with
  | none => rfl
  | some z => have := I.stay a z q; rw [hn] at this; cases this
theorem Ext.adopt {own : Addr → Prop} {fr : List Env} {H H' : AHeap} {h h' : Heap} (x : Ext own fr H h H' h') {a : Addr} {o : AObj} (hn : h.get? a = none) : Ext own fr H h (hset H' a o) h' :=
  ⟨x.keep, x.slots, x.alive, fun b n z => by
    unfold hset at n
    split at n
    · rename_i q; subst q; exact hn
    · exact x.fresh b n z⟩

theorem Inv.change {W : Wd} {fr : List Env} {H : AHeap} {s : Shared} (I : Inv W fr H s) {a : Addr} {o o' : AObj} {h' : Heap} {t : Nat} (ha : H a = some o) (hro : o.ro = false) (hs : Heap.SameBut a s.heap h')
    (hr : RepO W.w.params h' a o') : Inv W fr (hset H a o') { s with heap := h', toks := t } := by
  have na : ∀ b x, s.heap.get? b = some x → Imm x → b ≠ a := fun b x e i q => by subst q; have := (I.not_imm e i).1; rw [ha] at this; cases this
  have S : Stab s.heap h' := .of fun b x e i => (hs.2 b (na b x e i)).trans e
  refine ⟨fun b x e => (hs.2 b ?_).trans (I.stay b x e), I.gens, I.os, fun b x e => ?_, fun b x e r => ?_, fun e he => ?_⟩
  · rintro rfl; rw [I.new b o ha hro] at e; cases e
  · unfold hset at e
    split at e
    · rename_i q; cases e; subst q; exact hr
    · rename_i q; exact (I.rep b x e).keep S fun y z => (hs.2 b q).trans z
  · unfold hset at e
    split at e
    · rename_i q; subst q; exact I.new b o ha hro
    · exact I.new b x e r
  · obtain ⟨h0, L, ob, es, j, h1, h2, h3, h4, h5⟩ := I.frs e he
    have q : L ≠ a := by rintro rfl; rw [h3] at ha; cases ha
    refine ⟨h0, L, ob, es, j, h1, h2, ?_, (hs.2 L q).trans h4, h5⟩
    unfold hset; rw [if_neg q]; exact h3
theorem Ext.change {own : Addr → Prop} {W : Wd} {fr : List Env} {H : AHeap} {s : Shared} (I : Inv W fr H s) {a : Addr} {o o' : AObj} {h' : Heap} (ha : H a = some o) (hs : Heap.SameBut a s.heap h')
    (hr : RepO W.w.params h' a o') : Ext own fr H s.heap (hset H a o') h' where
  keep b x e n _ _ := (hs.2 b (by rintro rfl; rw [ha] at n; cases n)).trans e
  slots b hb _ x e := ⟨x.slots, (hs.2 b (by
    rintro rfl
    obtain ⟨env, he, hf⟩ := List.mem_filterMap.mp hb
    obtain ⟨_, L, ob, es, k, h1, _, h3, h2, _⟩ := I.frs env he
    rw [h1] at hf; cases hf
    rw [ha] at h3; cases h3)).trans e⟩
  alive b x e := by
    by_cases q : b = a
    · subst q
      cases o' with
      | list ro xs => obtain ⟨vs, ⟨ob, ho, _⟩, _⟩ := hr.isList; exact ⟨_, ho⟩
      | inst C d => obtain ⟨sl, ho⟩ := hr; exact ⟨_, ho⟩
      | dict fs => obtain ⟨es, n, ho, _⟩ := hr; exact ⟨_, ho⟩
    · exact ⟨x, (hs.2 b q).trans e⟩
  fresh b n z := by
    unfold hset at n
    split at n
    · rename_i q; subst q; rw [ha] at z; cases z
    · exact absurd z n

structure Priv (W : Wd) (fr : List Env) (H : AHeap) (h : Heap) (a : Addr) : Prop where
  hh : H a = none
  hf : a ∉ frA fr
  hb : W.base.get? a = none
  im : ∀ o, h.get? a = some o → ¬ Imm o
theorem Priv.stab {W : Wd} {fr : List Env} {H : AHeap} {h h' : Heap} {a : Addr} (p : Priv W fr H h a) (x : Heap.ExtBut a h h') : Stab h h' := .of fun b o e i => x b o (fun z => p.im o (z ▸ e) i) e
theorem Inv.touch {W : Wd} {fr : List Env} {H : AHeap} {s : Shared} (I : Inv W fr H s) {a : Addr} {h' : Heap} {t : Nat} (p : Priv W fr H s.heap a) (x : Heap.ExtBut a s.heap h') : Inv W fr H { s with heap := h', toks := t } where
  stay b o e := x b o (by rintro rfl; rw [p.hb] at e; cases e) (I.stay b o e)
  gens := I.gens
  os := I.os
  rep b o e := (I.rep b o e).keep (p.stab x) fun y z => x b y (by rintro rfl; rw [p.hh] at e; cases e) z
  new := I.new
  frs e he := by
    obtain ⟨h0, L, o, es, j, h1, h2, h3, h4, h5⟩ := I.frs e he
    exact ⟨h0, L, o, es, j, h1, h2, h3, x L o (by rintro rfl; exact p.hf (List.mem_filterMap.mpr ⟨e, he, h1⟩)) h4, h5⟩
theorem LocR.touch {W : Wd} {env : Env} {fr : List Env} {σ : Loc} {H : AHeap} {h h' : Heap} (L : LocR W env fr σ H h) {a : Addr} (p : Priv W fr H h a) (x : Heap.ExtBut a h h') (hl : env.locals ≠ a) (hc : ∀ n c, (n, c) ∈ env.cells → c ≠ a) :
    LocR W env fr σ H h' where
  ns := by
    obtain ⟨m, hn, hv⟩ := L.ns
    have S := p.stab x
    refine ⟨m, hn.extBut x hl, fun y av e => ?_⟩
    rcases hv y av e with h0 | ⟨h1, v, h2, h3⟩ | ⟨h1, c, v, h2, ⟨o, h3, h3'⟩, h4⟩
    · exact .inl h0
    · exact .inr (.inl ⟨h1, v, h2, h3.mono S⟩)
    · exact .inr (.inr ⟨h1, c, v, h2, ⟨o, x c o (hc y c (mem_of_lookup h2)) h3, h3'⟩, h4.mono S⟩)
  dbg := L.dbg
  hl := L.hl
  bl := L.bl
  cl n c hm := by
    obtain ⟨c1, c2, c3, v, o, h3, h3'⟩ := L.cl n c hm
    exact ⟨c1, c2, c3, v, o, x c o (hc n c hm) h3, h3'⟩
  cs := L.cs
theorem Ext.touch {own : Addr → Prop} {fr : List Env} {H H' : AHeap} {h h1 h2 : Heap} {a : Addr} (X : Ext own fr H h H' h1) (x : Heap.ExtBut a h1 h2) (hn : h.get? a = none) : Ext own fr H h H' h2 where
  keep b o e n no nf := x b o (by rintro rfl; rw [hn] at e; cases e) (X.keep b o e n no nf)
  slots b hb no o e := by
    obtain ⟨sl, e1⟩ := X.slots b hb no o e
    exact ⟨sl, x b _ (by rintro rfl; rw [hn] at e; cases e) e1⟩
  alive b o e := by
    obtain ⟨o', e1⟩ := X.alive b o e
    exact ⟨o', x b _ (by rintro rfl; rw [hn] at e; cases e) e1⟩
  fresh := X.fresh
theorem Inv.priv {W : Wd} {fr : List Env} {H : AHeap} {s : Shared} (I : Inv W fr H s) {a : Addr} (hn : s.heap.get? a = none) {h' : Heap} (im : ∀ o, h'.get? a = some o → ¬ Imm o) : Priv W fr H h' a :=
  ⟨I.fresh_H hn, I.fresh_frA hn, I.fresh_base hn, im⟩
theorem Priv.step {own : Addr → Prop} {W : Wd} {fr : List Env} {H H' : AHeap} {h h' : Heap} {a : Addr} {o : Obj} (p : Priv W fr H h a) (e : h.get? a = some o) (X : Ext own fr H h H' h') (no : ¬ own a) : Priv W fr H' h' a ∧ h'.get? a = some o := by
  have e' := X.keep a o e p.hh no p.hf
  exact ⟨⟨X.none_of e p.hh, p.hf, p.hb, fun o' e'' => by rw [e'] at e''; cases e''; exact p.im o e⟩, e'⟩

theorem pv_same {W : Wd} {fr : List Env} {H : AHeap} {s : Shared} {Q : PV} {av : AVal} {v : Value} {t : Nat} (I : Inv W fr H s) (r : RepV s.heap av v) (q : Q av H) : PVc W fr H s Q v { s with toks := t } :=
  ⟨av, H, r, I.toks t, .refl _ _ _ _, q⟩
theorem pv_here {W : Wd} {fr : List Env} {H : AHeap} {s : Shared} {Q : PV} {av : AVal} {v : Value} (I : Inv W fr H s) (r : RepV s.heap av v) (q : Q av H) : PVc W fr H s Q v s :=
  ⟨av, H, r, I, .refl _ _ _ _, q⟩
end Mine

/-! The operations: what the abstract ones say holds of the model's. -/
set_option maxRecDepth 100000
namespace Mine
open PySem PySem.Calls PyProof.Rows PySem.W

section
variable {P : Params} {h : Heap} {H : AHeap}
theorem reads_list {n : Nat} (ih : ∀ {a : AVal} {v : Value} {d : PyData}, RepV h a v → dat H n a = some d → ∃ as, Reads h v d as ∧ d.canLay0 = true ∧ d.depth ≤ n) :
    ∀ {l : List AVal} {vs : List Value} {ds : List PyData}, RepVs h l vs → datL (dat H n) l = some ds → ∃ as, ReadsAll h vs ds as ∧ PyData.canLayAll0 ds = true ∧ PyData.depthAll ds ≤ n
  | _, _, _, .nil, e => by
    cases e
    exact ⟨_, ReadsAll.nil, by simp [PyData.canLayAll0], by simp [PyData.depthAll]⟩
  | _, _, _, .cons hd r, e => by
    unfold datL at e
    split at e
    · rename_i x y h1 h2
      cases e
      obtain ⟨as, a1, a2, a3⟩ := ih hd h1
      obtain ⟨bs, b1, b2, b3⟩ := reads_list ih r h2
      refine ⟨_, ReadsAll.cons a1 b1, by simp [PyData.canLayAll0, a2, b2], ?_⟩
      simp only [PyData.depthAll]; omega
    · cases e
theorem reads_ok (R : ∀ a o, H a = some o → RepO P h a o) : ∀ (n : Nat) {a : AVal} {v : Value} {d : PyData}, RepV h a v → dat H n a = some d → ∃ as, Reads h v d as ∧ d.canLay0 = true ∧ d.depth ≤ n := by
  have flat : ∀ (n : Nat) {a : AVal} {v : Value} {d : PyData}, RepV h a v → (∀ l, a ≠ .tup l) → (∀ b, a ≠ .ref b) → dat H n a = some d → ∃ as, Reads h v d as ∧ d.canLay0 = true ∧ d.depth ≤ n := by
    intro n a v d r ht hr e
    have r := r.inv
    cases a with
    | none => obtain rfl : v = .none := r; cases n <;> cases e <;> exact ⟨_, .none, by simp [PyData.canLay0], by simp [PyData.depth]⟩
    | bool b => obtain rfl : v = .bool b := r; cases n <;> cases e <;> exact ⟨_, .bool b, by simp [PyData.canLay0], by simp [PyData.depth]⟩
    | int i => obtain ⟨t, rfl⟩ := r; cases n <;> cases e <;> exact ⟨_, .int i t, by simp [PyData.canLay0], by simp [PyData.depth]⟩
    | str x => obtain ⟨t, rfl, k⟩ := r; cases n <;> cases e <;> exact ⟨_, .str x t, by simp [PyData.canLay0, k], by simp [PyData.depth]⟩
    | tup l => exact absurd rfl (ht l)
    | ref b => exact absurd rfl (hr b)
    | _ => cases n <;> cases e
  intro n
  induction n with
  | zero =>
    intro a v d r e
    refine flat 0 r (fun l z => ?_) (fun b z => ?_) e
    · subst z; cases e
    · subst z; cases e
  | succ n ih =>
    intro a v d r e
    cases a with
    | tup l =>
      obtain ⟨_, vs, rfl, ht, hl, hs⟩ := r.inv
      unfold dat at e
      obtain ⟨ds, q, rfl⟩ := Option.map_eq_some_iff.mp e
      obtain ⟨o, ho, hc, k, hd⟩ := ht
      obtain ⟨as, a1, a2, a3⟩ := reads_list (fun r e => ih r e) hs q
      exact ⟨_, .tuple ho hc hd (by simpa using a1), by simpa [PyData.canLay0] using a2, by simp only [PyData.depth]; omega⟩
    | ref b =>
      obtain rfl : v = .ref b := r.inv
      unfold dat at e
      split at e
      · rename_i ro xs hb
        obtain ⟨ds, q, rfl⟩ := Option.map_eq_some_iff.mp e
        obtain ⟨vs, ⟨o, ho, hc, k, hd⟩, hs, _⟩ := (R b _ hb).isList
        obtain ⟨as, a1, a2, a3⟩ := reads_list (fun r e => ih r e) hs q
        exact ⟨_, .list ho hc hd (by simpa using a1), by simpa [PyData.canLay0] using a2, by simp only [PyData.depth]; omega⟩
      · cases e
    | _ => exact flat _ r (fun l z => nomatch z) (fun b z => nomatch z) e
end

section
variable {W : Wd} {fr : List Env} {H : AHeap} {s : Shared} {A : Around} {E : Value → Shared → Prop}

theorem eq_sound (I : Inv W fr H s) {a b : AVal} {v u : Value} {c : Bool} (ra : RepV s.heap a v) (rb : RepV s.heap b u) (e : eqA H a b = some c) (hu : A.units + 20 < cLine) {Q : Value → Shared → Prop} (q : Q (.bool c) s) :
    wpAny (model W.prog W.w) A (compareOp .Eq v u) Q E s := by
  unfold eqA at e
  split at e
  · rename_i x y h1 h2
    cases e
    obtain ⟨as, a1, a2, a3⟩ := reads_ok I.rep 8 ra h1
    obtain ⟨bs, b1, b2, b3⟩ := reads_ok I.rep 8 rb h2
    exact SeqAt.compareEq_reads a1 b1 a2 b2 (by omega) q
  · cases e
theorem ne_sound (I : Inv W fr H s) {a b : AVal} {v u : Value} {c : Bool} (ra : RepV s.heap a v) (rb : RepV s.heap b u) (e : eqA H a b = some c) (hu : A.units + 20 < cLine) {Q : Value → Shared → Prop} (q : Q (.bool (!c)) s) :
    wpAny (model W.prog W.w) A (compareOp .NotEq v u) Q E s := by
  unfold eqA at e
  split at e
  · rename_i x y h1 h2
    cases e
    obtain ⟨as, a1, a2, a3⟩ := reads_ok I.rep 8 ra h1
    obtain ⟨bs, b1, b2, b3⟩ := reads_ok I.rep 8 rb h2
    exact SeqAt.compareNe_reads a1 b1 a2 b2 (by omega) q
  · cases e


theorem isSame_sound {a b : AVal} {v u : Value} {c : Bool} {M : Model} (ra : RepV s.heap a v) (rb : RepV s.heap b u) (e : isA a b = some c) {Q : Bool → Shared → Prop} (q : Q c s) : wpAny M A (isSame v u) Q E s := by
  have ra := ra.inv
  have rb := rb.inv
  cases b with
  | none =>
    obtain rfl : u = .none := rb
    cases a with
    | none => obtain rfl : v = .none := ra; cases e; exact wpAny_pure q
    | bool x => obtain rfl : v = .bool x := ra; cases e; exact wpAny_pure q
    | int i => obtain ⟨t, rfl⟩ := ra; cases e; exact wpAny_pure q
    | str x => obtain ⟨t, rfl, _⟩ := ra; cases e; exact wpAny_pure q
    | tup l => obtain ⟨_, _, rfl, _⟩ := ra; cases e; exact wpAny_pure q
    | ref r => obtain rfl : v = .ref r := ra; cases e; exact wpAny_pure q
    | _ => cases e
  | bool d =>
    obtain rfl : u = .bool d := rb
    cases a with
    | none => obtain rfl : v = .none := ra; cases e; exact wpAny_pure q
    | bool x =>
      obtain rfl : v = .bool x := ra
      cases e
      have e : (Value.bool x == Value.bool d) = (x == d) := by cases x <;> cases d <;> rfl
      exact wpAny_pure (a := (Value.bool x == Value.bool d)) (by rw [e]; exact q)
    | int i => obtain ⟨t, rfl⟩ := ra; cases e; exact wpAny_pure q
    | str x => obtain ⟨t, rfl, _⟩ := ra; cases e; exact wpAny_pure q
    | tup l => obtain ⟨_, _, rfl, _⟩ := ra; cases e; exact wpAny_pure q
    | ref r => obtain rfl : v = .ref r := ra; cases e; exact wpAny_pure q
    | _ => cases e
  | _ => cases e

theorem map_not {o : Option Bool} {c : Bool} (e : o.map (!·) = some c) : ∃ d, o = some d ∧ c = !d := by
  cases o with
  | none => cases e
  | some d => cases e; exact ⟨d, rfl, rfl⟩
theorem lt_ints {h : Heap} {f : Int → Int → Bool} {a b : AVal} {v u : Value} {c : Bool} (ra : RepV h a v) (rb : RepV h b u) (e : ltA f a b = some c) : ∃ x y t t', v = .int x t ∧ u = .int y t' ∧ c = f x y := by
  unfold ltA at e
  split at e
  · obtain ⟨t, e1⟩ := ra.inv; obtain ⟨t', e2⟩ := rb.inv; cases e; exact ⟨_, _, t, t', e1, e2, rfl⟩
  · cases e

theorem seq_sound (I : Inv W fr H s) {a : AVal} {v : Value} {l : List AVal} (ra : RepV s.heap a v) (e : seqA H a = some l) :
    ∃ b vs, v = .ref b ∧ RepVs s.heap l vs ∧ l.length ≤ bigL ∧ (IsTup s.heap b vs.toArray ∨ s.heap.IsList b vs.toArray) := by
  unfold seqA at e
  split at e
  · cases e
    obtain ⟨_, _, e1, ht, hl, hs⟩ := ra.inv
    exact ⟨_, _, e1, hs, by rw [← hs.length]; exact hl, .inl ht⟩
  · rename_i b
    split at e
    · rename_i ro xs h1
      cases e
      obtain ⟨vs, i1, r1, l1⟩ := (I.rep _ _ h1).isList
      exact ⟨b, vs, ra.inv, r1, l1, .inr i1⟩
    · cases e
  · cases e
theorem in_sound (I : Inv W fr H s) {a b : AVal} {v u : Value} {c : Bool} (ra : RepV s.heap a v) (rb : RepV s.heap b u) (e : inA H a b = some c) (hu : A.units + 20 < cLine) {Q : Value → Shared → Prop} :
    (Q (.bool c) s → wpAny (model W.prog W.w) A (compareOp .In v u) Q E s) ∧ (Q (.bool (!c)) s → wpAny (model W.prog W.w) A (compareOp .NotIn v u) Q E s) := by
  unfold inA at e
  split at e
  · rename_i l hl
    obtain ⟨r, vs, rfl, hs, _, ht⟩ := seq_sound I rb hl
    unfold anyA at e
    split at e
    · rename_i x ys h1 h2
      cases e
      obtain ⟨as, a1, a2, a3⟩ := reads_ok I.rep 8 ra h1
      obtain ⟨bs, b1, b2, b3⟩ := reads_list (fun r e => reads_ok I.rep 8 r e) hs h2
      have b1' : ReadsAll s.heap vs.toArray.toList ys bs := b1
      have hr : A.units + 8 < cLine := by omega
      rcases ht with ⟨o, ho, hc, k, hd⟩ | ⟨o, ho, hc, k, hd⟩
      · exact ⟨SeqAt.in_tuple_reads (.tuple ho hc hd b1') a1 b2 a2 (by omega), SeqAt.notIn_tuple_reads (.tuple ho hc hd b1') a1 b2 a2 (by omega)⟩
      · exact ⟨SeqAt.in_list_reads (.list ho hc hd b1') a1 b2 a2 (by omega), SeqAt.notIn_list_reads (.list ho hc hd b1') a1 b2 a2 (by omega)⟩
    · cases e
  · cases e
theorem cmp_sound (I : Inv W fr H s) {op : CmpOp} {a b : AVal} {v u : Value} {c : Bool} (ra : RepV s.heap a v) (rb : RepV s.heap b u) (e : cmpA op a b H = some c) (hu : A.units + 20 < cLine) {Q : Value → Shared → Prop} (q : Q (.bool c) s) :
    wpAny (model W.prog W.w) A (compareOp op v u) Q E s := by
  cases op with
  | Lt => obtain ⟨x, y, t, t', rfl, rfl, rfl⟩ := lt_ints ra rb e; exact lt_int q
  | LtE => obtain ⟨x, y, t, t', rfl, rfl, rfl⟩ := lt_ints ra rb e; exact le_int q
  | Gt => obtain ⟨x, y, t, t', rfl, rfl, rfl⟩ := lt_ints ra rb e; exact gt_int q
  | GtE => obtain ⟨x, y, t, t', rfl, rfl, rfl⟩ := lt_ints ra rb e; exact ge_int q
  | Eq => exact eq_sound I ra rb e hu q
  | NotEq => obtain ⟨d, h, rfl⟩ := map_not e; exact ne_sound I ra rb h hu q
  | Is => exact wpAny_bind (isSame_sound ra rb e (wpAny_pure q))
  | IsNot => obtain ⟨d, h, rfl⟩ := map_not e; exact wpAny_bind (isSame_sound ra rb h (wpAny_pure q))
  | In => exact (in_sound I ra rb e hu).1 q
  | NotIn => obtain ⟨d, h, rfl⟩ := map_not e; exact (in_sound I ra rb h hu).2 q

theorem newL_grown (I : Inv W fr H s) {h' : Heap} {a : Addr} {n t : Nat} {vs : List Value} {xs : List AVal} {Q : PV} (k : ∀ b o, s.heap.get? b = some o → h'.get? b = some o) (hn : s.heap.get? a = none)
    (ha : h'.get? a = some (listOf vs.toArray n)) (r : RepVs s.heap xs vs) (hl : xs.length ≤ bigL) (q : newL H xs Q) : PVc W fr H s Q (.ref a) { s with heap := h', toks := t } := by
  have I' : Inv W fr H { s with heap := h', toks := t } := I.grown k
  have S : Stab s.heap h' := .of fun b o e _ => k b o e
  have hH := I.fresh_H hn
  refine ⟨.ref a, hset H a (.list false xs), .ref a, I'.adopt hH (RepO.mkL ha (r.mono S) hl) (I.fresh_base hn) (I.fresh_frA hn), (Ext.grown k).adopt hn, q a hH⟩
theorem size_none (h : Heap) : h.get? h.objs.size = none := Heap.get?_none_of_le (Nat.le_refl _)
theorem newL_push (I : Inv W fr H s) {vs : List Value} {xs : List AVal} {Q : PV} {t : Nat} (r : RepVs s.heap xs vs) (hl : xs.length ≤ bigL) (q : newL H xs Q) :
    PVc W fr H s Q (.ref s.heap.objs.size) { s with heap := s.heap.push { cls := .type "list", data := .seq vs.toArray }, toks := t } :=
  newL_grown I (fun _ _ e => Heap.get?_push_of_some _ e) (size_none _) (Heap.get?_push_size _ rfl) r hl q
theorem big_line : bigL ≤ sizeLine := by rw [sizeLine_eq]; decide
theorem newList_sound (I : Inv W fr H s) {M : Model} {vs : List Value} {xs : List AVal} {Q : PV} (r : RepVs s.heap xs vs) (hl : xs.length ≤ bigL) (q : newL H xs Q) : wpAny M A (newList vs) (PVc W fr H s Q) E s :=
  wpAny_newObj_type (newL_push (t := s.toks) I r hl q) (by show vs.toArray.size ≤ sizeLine; rw [List.size_toArray, r.length]; exact Nat.le_trans hl big_line)
theorem newTuple_sound (I : Inv W fr H s) {M : Model} {vs : List Value} {xs : List AVal} {Q : PV} (r : RepVs s.heap xs vs) (hl : xs.length ≤ bigL) (q : Q (.tup xs) H) : wpAny M A (newTuple vs) (PVc W fr H s Q) E s := by
  have k : ∀ b o, s.heap.get? b = some o → (s.heap.push { cls := .type "tuple", data := .seq vs.toArray }).get? b = some o := fun _ _ e => Heap.get?_push_of_some _ e
  refine wpAny_newObj_type ⟨.tup xs, H, .tup (IsTup.new _ _) (by rw [r.length]; exact hl) (r.mono (.of fun b o e _ => k b o e)), I.grown (t := s.toks) k, Ext.grown k, q⟩ (by show vs.toArray.size ≤ sizeLine; rw [List.size_toArray, r.length]; exact Nat.le_trans hl big_line)

theorem ints_inv {h : Heap} {a b : AVal} {v u : Value} {k : Int → Int → Prop} (ra : RepV h a v) (rb : RepV h b u) (e : intsA a b k) : ∃ x y t t', v = .int x t ∧ u = .int y t' ∧ k x y := by
  unfold intsA at e
  split at e
  · obtain ⟨t, e1⟩ := ra.inv; obtain ⟨t', e2⟩ := rb.inv; exact ⟨_, _, t, t', e1, e2, e⟩
  · exact e.elim
theorem cat_sound (I : Inv W fr H s) {r t : Addr} {ro ro' : Bool} {xs ys : List AVal} {Q : PV} (h1 : H r = some (.list ro xs)) (h2 : H t = some (.list ro' ys)) (hl : xs.length + ys.length ≤ bigL) (q : newL H (xs ++ ys) Q) :
    wpAny (model W.prog W.w) A (binaryOp .Add (.ref r) (.ref t)) (PVc W fr H s Q) E s := by
  obtain ⟨vs, ⟨⟨cls, dd, data, sl⟩, ho, hc, n, hd⟩, r1, _⟩ := (I.rep _ _ h1).isList
  obtain ⟨us, ⟨⟨cls2, dd2, data2, sl2⟩, ho2, hc2, n2, hd2⟩, r2, _⟩ := (I.rep _ _ h2).isList
  simp only at hc hd hc2 hd2
  subst hc hd hc2 hd2
  refine concat_meets ⟨_, ho, rfl⟩ ⟨_, ho2, rfl⟩ noFill_list_add seq_list_add PySem.F.slot_list_add PySem.F.entry_list_add (PySem.F.args_list_add_2 _ _) (list_addW _ _ vs.toArray us.toArray n n2 dd dd2 sl sl2 (by rw [List.size_toArray, List.size_toArray, r1.length, r2.length]; exact Nat.le_trans hl big_line)) ⟨ho, ho2, ?_⟩
  rw [List.append_toArray]
  exact newL_push (t := s.toks) I (r1.append r2) (by rw [List.length_append]; exact hl) q
theorem add_sound (I : Inv W fr H s) {a b : AVal} {v u : Value} {Q : PV} (ra : RepV s.heap a v) (rb : RepV s.heap b u) (e : addA a b H Q) : wpAny (model W.prog W.w) A (binaryOp .Add v u) (PVc W fr H s Q) E s := by
  cases a with
  | int x =>
    cases b with
    | int y => obtain ⟨t, rfl⟩ := ra.inv; obtain ⟨t', rfl⟩ := rb.inv; exact add_int (pv_same I (.int _ _) e)
    | _ => exact e.elim
  | str x =>
    cases b with
    | str y =>
      obtain ⟨t, rfl, kx⟩ := ra.inv
      obtain ⟨t', rfl, ky⟩ := rb.inv
      refine add_str (fun t'' tk => pv_same I (.str _ _ ?_) e.2) (Nat.le_trans e.1 big_line)
      unfold PyData.strOk at *
      rw [Str.cps_append, Array.all_append, kx, ky]; rfl
    | _ => exact e.elim
  | ref r =>
    cases b with
    | ref t =>
      obtain rfl : v = .ref r := ra.inv
      obtain rfl : u = .ref t := rb.inv
      unfold addA at e
      dsimp only at e
      split at e
      · rename_i h1 h2
        exact cat_sound I h1 h2 e.1 e.2
      · exact e.elim
    | _ => exact e.elim
  | _ => exact e.elim
theorem rep_sound (I : Inv W fr H s) {r : Addr} {ro : Bool} {x : AVal} {k : Int} {u : Tok} {Q : PV} (h1 : H r = some (.list ro [x])) (hk : 0 ≤ k ∧ k ≤ 1000) (q : newL H (List.replicate k.toNat x) Q) :
    wpAny (model W.prog W.w) A (binaryOp .Mult (.ref r) (.int k u)) (PVc W fr H s Q) E s := by
  obtain ⟨vs, ⟨⟨cls, dd, data, sl⟩, ho, hc, n, hd⟩, r1, _⟩ := (I.rep _ _ h1).isList
  simp only at hc hd
  subst hc hd
  obtain ⟨v, rfl, rv⟩ := r1.one
  have hsz : [v].toArray.size = 1 := rfl
  refine wpAny_binaryOp_repeat_ref (T := "list") (U := "int") (by decide) ⟨_, ho, rfl⟩ (fun s' => typeIs_int s' k u) noFill_list_mul PySem.F.fills_int_mul PySem.F.slot_int_rmul repeat_list PySem.F.slot_int_index.lookup
    (call_meets PySem.F.slot_int_rmul (typeIs_int s k u) PySem.F.entry_int_rmul (PySem.F.args_int_rmul_2 _ _) (lm_int_rmul_list_any k u r [v].toArray n dd sl)
      ⟨ho, rfl, ⟨_, ho, rfl⟩, call_meets PySem.F.slot_list_mul ⟨_, ho, rfl⟩ PySem.F.entry_list_mul (PySem.F.args_list_mul_2 _ _)
        (lm_list_mul_any r [v].toArray n dd sl k u (by simp [Builtin.List.listFitsIndex]; omega) (by rw [show #[v].size = 1 from rfl]; omega) (by simp [Builtin.List.listTooLong, sizeLine]; omega))
        ⟨ho, ?_⟩⟩)
  have e : (List.replicate k.toNat [v]).flatten = List.replicate k.toNat v := by
    induction k.toNat with
    | zero => rfl
    | succ m ih => rw [List.replicate_succ, List.replicate_succ, List.flatten_cons, ih]; rfl
  rw [listMul_foldl_if, e]
  exact newL_push (t := s.toks) I (RepVs.replicate rv _) (by rw [List.length_replicate]; unfold bigL; omega) q
theorem mul_sound (I : Inv W fr H s) {a b : AVal} {v u : Value} {Q : PV} (ra : RepV s.heap a v) (rb : RepV s.heap b u) (e : mulA a b H Q) : wpAny (model W.prog W.w) A (binaryOp .Mult v u) (PVc W fr H s Q) E s := by
  have two : ∀ {a b : AVal}, RepV s.heap a v → RepV s.heap b u → (intsA a b fun x y => IntMulOk x y ∧ Q (.int (x * y)) H) → wpAny (model W.prog W.w) A (binaryOp .Mult v u) (PVc W fr H s Q) E s := fun ra rb e => by
    obtain ⟨x, y, t, t', rfl, rfl, e⟩ := ints_inv ra rb e; exact mul_int (pv_same I (.int _ _) e.2) e.1
  cases a with
  | ref r =>
    cases b with
    | int k =>
      obtain rfl : v = .ref r := ra.inv
      obtain ⟨t, rfl⟩ := rb.inv
      unfold mulA at e
      dsimp only at e
      split at e
      · rename_i h1
        obtain ⟨hk, x, rfl, e⟩ := e
        exact rep_sound I h1 hk e
      · exact e.elim
    | _ => exact e.elim
  | _ => exact two ra rb e
theorem bin_sound (I : Inv W fr H s) {op : Operator} {a b : AVal} {v u : Value} {Q : PV} (ra : RepV s.heap a v) (rb : RepV s.heap b u) (e : binA op a b H Q) : wpAny (model W.prog W.w) A (binaryOp op v u) (PVc W fr H s Q) E s := by
  cases op with
  | Add => exact add_sound I ra rb e
  | Sub => obtain ⟨x, y, t, t', rfl, rfl, e⟩ := ints_inv ra rb e; exact sub_int (pv_same I (.int _ _) e)
  | Mult => exact mul_sound I ra rb e
  | FloorDiv => obtain ⟨x, y, t, t', rfl, rfl, e⟩ := ints_inv ra rb e; exact floordiv_int (Int.ne_of_gt e.1.1) (pv_same I (.int _ _) (by rw [Int.fdiv_eq_ediv_of_nonneg _ (Int.le_of_lt e.1.1)]; exact e.2)) (Or.inl (PyProof.noPylong_small (by omega)))
  | Mod => obtain ⟨x, y, t, t', rfl, rfl, e⟩ := ints_inv ra rb e; exact mod_int (Int.ne_of_gt e.1) (pv_same I (.int _ _) (by rw [Int.fmod_eq_emod_of_nonneg _ (Int.le_of_lt e.1)]; exact e.2))
  | Pow => obtain ⟨x, y, t, t', rfl, rfl, e⟩ := ints_inv ra rb e; exact pow_int e.1.1 e.1.2 (pv_same I (.int _ _) e.2)
  | _ => exact e.elim
end
end Mine

/-! Subscripts, slices, built-ins. -/
set_option maxRecDepth 100000
namespace Mine
open PySem PySem.Calls PyProof.Rows PySem.W

section
variable {W : Wd} {fr : List Env} {H : AHeap} {s : Shared} {A : Around} {E : Value → Shared → Prop}

theorem idx_seq {k : Int} {n j : Nat} (e : idxA k n = some j) : seqIndex? k n = some j := by
  unfold idxA at e
  unfold seqIndex?
  split at e
  · rename_i h0
    split at e
    · cases e
      have h1 : ¬ k < 0 := by omega
      simp only [h1, if_false]
      rw [if_pos (by simp only [Bool.and_eq_true, decide_eq_true_eq]; omega)]
    · cases e
  · rename_i h0
    split at e
    · cases e
      have h1 : k < 0 := by omega
      simp only [h1, if_true]
      rw [if_pos (by simp only [Bool.and_eq_true, decide_eq_true_eq]; omega)]
    · cases e
theorem idx_bounds {k : Int} {n j : Nat} (e : idxA k n = some j) (hn : n ≤ bigL) : -(2 ^ 63) ≤ k ∧ k < 2 ^ 63 := by
  unfold idxA at e
  have hb : bigL = 1000000 := rfl
  split at e <;> split at e <;> first | (cases e; done) | (constructor <;> omega)
theorem idx_item {l : Addr} {vs : List Value} {k : Int} {j : Nat} {t : Tok} {v : Value} {Q : Value → Shared → Prop} (hl : s.heap.IsList l vs.toArray) (e : idxA k vs.length = some j) (hn : vs.length ≤ bigL) (hx : vs[j]? = some v) (q : Q v s) :
    wpAny (model W.prog W.w) A (getItem (.ref l) (.int k t)) Q E s := by
  obtain ⟨b1, b2⟩ := idx_bounds e hn
  unfold idxA at e
  split at e
  · rename_i h0
    split at e
    · cases e
      exact wpAny_getItem_list hl h0 b2 (by simpa using hx) q
    · cases e
  · rename_i h0
    split at e
    · rename_i h1
      cases e
      exact wpAny_getItem_list_neg hl (by omega) (by simpa using h1) b1 (by simpa using hx) q
    · cases e

theorem sub_sound (I : Inv W fr H s) {value slice : Expr} {a b : AVal} {v u : Value} {Q : PV} (ra : RepV s.heap a v) (rb : RepV s.heap b u) (e : subA a b H Q)
    (hs : ∀ o i, subscripted slice false o i = operate [o, i] (getItem o i)) : wpAny (model W.prog W.w) A (subscriptTail value slice v u) (PVc W fr H s Q) E s := by
  unfold subA at e
  split at e
  · rename_i k l hl
    obtain ⟨c, vs, rfl, r, hlen, ht⟩ := seq_sound I ra hl
    obtain ⟨t, rfl⟩ := rb.inv
    split at e
    · rename_i j hj
      split at e
      · rename_i x hx
        obtain ⟨y, hy, ry⟩ := r.get hx
        have q := pv_here I ry e
        have hj' : idxA k vs.length = some j := by rw [r.length]; exact hj
        have hb := idx_bounds hj hlen
        rcases ht with ht | ht
        · exact tail_any ht.typeIs slot_tuple_getitem.lookup (getItem_tuple ht hb.1 hb.2 (by simpa using idx_seq hj') (by simpa using hy) q) (hs _ _)
        · exact tail_any ht.typeIs slot_list_getitem.lookup (idx_item ht hj' (by rw [r.length]; exact hlen) hy q) (hs _ _)
      · exact e.elim
    · exact e.elim
  · exact e.elim

theorem cut_pick (vs : List Value) (lo hi : Option Int) (h1 : ∀ k, lo = some k → 0 ≤ k) (h2 : ∀ k, hi = some k → 0 ≤ k) :
    slicePick vs.toArray lo hi none = (cutL lo hi vs).toArray := by
  rw [slicePick_plain]
  unfold cutL
  have cl : ∀ k : Int, 0 ≤ k → clipAt vs.length k = min k.toNat vs.length := fun k hk => by
    obtain ⟨j, rfl⟩ := Int.eq_ofNat_of_zero_le hk
    rw [clipAt_nat]; rfl
  rw [List.size_toArray]
  congr 1
  cases lo with
  | none =>
    cases hi with
    | none => simp [Option.elim]
    | some k =>
      simp only [Option.elim, cl k (h2 k rfl), List.drop_zero, Nat.sub_zero]
      rw [← List.take_take, List.take_length]
  | some i =>
    cases hi with
    | none =>
      simp only [Option.elim, cl i (h1 i rfl)]
      by_cases h : i.toNat ≤ vs.length
      · rw [Nat.min_eq_left h]; apply List.take_of_length_le; simp
      · rw [Nat.min_eq_right (by omega)]; simp; omega
    | some k =>
      simp only [Option.elim, cl i (h1 i rfl), cl k (h2 k rfl)]
      rw [List.drop_take]
      by_cases h : i.toNat ≤ vs.length
      · rw [Nat.min_eq_left h]
        by_cases h' : k.toNat ≤ vs.length
        · rw [Nat.min_eq_left h']
        · rw [Nat.min_eq_right (by omega), List.take_of_length_le (by simp), List.take_of_length_le (by simp; omega)]
      · rw [Nat.min_eq_right (a := i.toNat) (by omega), List.drop_of_length_le (Nat.le_refl _), List.drop_of_length_le (i := i.toNat) (by omega)]; simp

theorem cut_rep {h : Heap} {xs : List AVal} {vs : List Value} (r : RepVs h xs vs) (lo hi : Option Int) : RepVs h (cutL lo hi xs) (cutL lo hi vs) := by
  cases hi with
  | none => exact r.drop _
  | some k => exact (r.take _).drop _
theorem cut_len (xs : List AVal) (lo hi : Option Int) : (cutL lo hi xs).length ≤ xs.length := by
  unfold cutL
  cases hi <;> simp <;> omega

theorem len_sound (I : Inv W fr H s) {a : AVal} {v : Value} {n : Nat} {Q : PV} (ra : RepV s.heap a v) (e : lenA H a = some n) (q : Q (.int n) H) : wpAny (model W.prog W.w) A (call (.builtin "len") [v]) (PVc W fr H s Q) E s := by
  unfold lenA at e
  cases hq : seqA H a with
  | none => rw [hq] at e; cases e
  | some l =>
    rw [hq] at e; cases e
    obtain ⟨c, vs, rfl, r, hlen, ht⟩ := seq_sound I ra hq
    have hb : bigL = 1000000 := rfl
    have e1 : vs.toArray.size = l.length := by rw [List.size_toArray, r.length]
    rcases ht with ht | ht
    · exact len_tuple ht (by rw [e1]; omega) (pv_same I (by rw [e1]; exact .int _ _) q)
    · exact len_list ht (by rw [e1]; omega) (pv_same I (by rw [e1]; exact .int _ _) q)

theorem list_sound (I : Inv W fr H s) {a : Addr} {ro : Bool} {xs : List AVal} {Q : PV} (ha : H a = some (.list ro xs)) (q : newL H xs Q) : wpAny (model W.prog W.w) A (call (.type "list") [.ref a]) (PVc W fr H s Q) E s := by
  obtain ⟨vs, ⟨o, ho, hc, n, hd⟩, r, hl⟩ := (I.rep _ _ ha).isList
  exact call_list_seq a (.inl rfl) ho hc hd (fun h' c' hk hD => newL_grown (t := s.toks) I hk (size_none _) hD r hl q) (by rw [List.size_toArray, r.length]; exact Nat.le_trans hl big_line)

theorem range1_sound (I : Inv W fr H s) {b : Int} {t : Tok} {Q : PV} (hb : -1000000 ≤ b ∧ b ≤ 1000000) (q : Q (.range 0 b) H) : wpAny (model W.prog W.w) A (call (.type "range") [.int b t]) (PVc W fr H s Q) E s := by
  refine call_range_1 ⟨.range 0 b, H, .range (IsRange.new _ _ _ _ _ _ _) ⟨by omega, hb⟩, I.grown fun _ _ e => Heap.get?_push_of_some _ e, Ext.grown fun _ _ e => Heap.get?_push_of_some _ e, q⟩
theorem min_sound (I : Inv W fr H s) {a b : Int} {t u : Tok} {Q : PV} (hh : A.handled = none) (q : Q (.int (min a b)) H) : wpAny (model W.prog W.w) A (call (.builtin "min") [.int a t, .int b u]) (PVc W fr H s Q) E s := by
  refine min_two_ints hh fun h' tk hk => ⟨.int (min a b), H, ?_, I.grown hk, Ext.grown hk, q⟩
  split
  · rw [show min a b = b by omega]; exact .int _ _
  · rw [show min a b = a by omega]; exact .int _ _
theorem int_bool_sound (I : Inv W fr H s) {b : Bool} {Q : PV} (q : Q (.int (if b then 1 else 0)) H) : wpAny (model W.prog W.w) A (call (.type "int") [.bool b]) (PVc W fr H s Q) E s :=
  call_int_bool (pv_same I (.int _ _) q)
end
end Mine

/-! isinstance, methods of lists, attributes. -/
set_option maxRecDepth 100000
namespace Mine
open PySem PySem.Calls PyProof.Rows PySem.W

section
variable {W : Wd} {fr : List Env} {H : AHeap} {s : Shared} {A : Around} {E : Value → Shared → Prop}

theorem Inv.kin (I : Inv W fr H s) (wo : WOk W) : W.K.In s.heap := wo.k.keeps I.stay

section
variable {prog : Program} {w : World} {A : Around} {E : Value → Shared → Prop} {s : Shared} {K : Frag} {x D : Addr} {ox : Obj}
theorem exc_entry {tk : Tok} {Q : Fin → Shared → Prop} (X : K.In s.heap) (I : InstAt s.heap x ox D none) (hf : findObj K D none "__class__" = some (.bind (.builtin "getset_descriptor.__get__") (.builtin "object.__class__"))) (hm : mroIn K D (.type "object") = some true)
    (h : Q (.done (.ret (.ref D))) s) : wpAny (model prog w) A (Builtin.«object.__getattribute__» ⟨[.ref x, .str "__class__" tk], []⟩) Q E s := by
  obtain ⟨hh, gg, d, t, os⟩ := s
  have L0 := I.type (M := model prog w)
  have L1 := looks_find (M := model prog w) X I hf
  unfold Builtin.«object.__getattribute__» slotArgs
  refine wpAny_bind (wpAny_pure (wpAny_bind (wpAny_pure (wpAny_bind (L0.at (wpAny_bind (L1.at ?_)))))))
  show wpAny _ _ (holding [_] (call (.builtin "getset_descriptor.__get__") [.builtin "object.__class__", .ref x, .ref D]) >>= ret) _ _ _
  exact wpAny_bind (wpAny_holding (wpAny_call (class_get (s := ⟨hh, gg, d, t, os⟩) (ox := ox) (od := none) X I hm (wpAny_pure h))))
theorem exc_check {nameV : Value} {M : Model} {Q : Unit → Shared → Prop} (X : K.In s.heap) (I : InstAt s.heap x ox D none) (hb : mroIn K D (.type "BaseException") = some true) (h : Q () s) :
    wpAny M A (checkBuiltinCall "BaseException.__getattribute__" ⟨[.ref x, nameV], []⟩) Q E s := by
  obtain ⟨hh, gg, d, t, os⟩ := s
  have hk : builtinKind "BaseException.__getattribute__" = some .slot := by decide +kernel
  have hsplit : splitId "BaseException.__getattribute__" = some ("BaseException", "__getattribute__") := by decide +kernel
  have ha := F.args_bexc_ga (.ref x) nameV
  have L0 := I.type (M := M)
  have L1 := looks_mroIn (M := M) X hb
  simp only [checkBuiltinCall, hk, hsplit]
  refine wpAny_bind ?_
  unfold isInstance
  refine wpAny_bind (L0.at (L1.at ?_))
  repeat (any_goals (first | assumption | wp_step))
theorem exc_ca {Q : Option Value → Shared → Prop} (X : K.In s.heap) (I : InstAt s.heap x ox D none) (hga : findIn K (.ref D) "__getattribute__" = some (some (.builtin "BaseException.__getattribute__"))) (hh : findIn K (.ref D) "__getattr__" = some none)
    (hf : findObj K D none "__class__" = some (.bind (.builtin "getset_descriptor.__get__") (.builtin "object.__class__"))) (hm : mroIn K D (.type "object") = some true) (hb : mroIn K D (.type "BaseException") = some true)
    (k : Q (some (.ref D)) { s with toks := s.toks + 1 }) : wpAny (model prog w) A (getAttr? (.ref x) "__class__") Q E s := by
  obtain ⟨h0, g, d, t, os⟩ := s
  have L0 := I.type (M := model prog w)
  have L1 := looks_findIn (M := model prog w) X hga
  have L2 := looks_findIn (M := model prog w) X hh
  unfold getAttr? getAttrBy? getAttrBy
  refine wpAny_bind (wpAny_mkText (wpAny_bind (wpAny_attempt (wpAny_holding (wpAny_bind (L0.at (wpAny_bind (L1.at ?_))))))))
  dsimp only
  rw [if_neg (by show ¬ ((onTheHeap (Value.ref D) && _) = true); simp only [onTheHeap, Bool.true_and]; decide +kernel)]
  unfold getAttrByItsOwn
  refine wpAny_bind (L2.at ?_)
  refine wpAny_bind (wpAny_attempt (wpAny_holding ?_))
  show wpAny _ _ (boundAndCalled _ _ _) _ _ _
  unfold boundAndCalled
  rw [F.excAttr_ValueError.ga.bind (.ref x)]
  refine wpAny_bind (wpAny_pure ?_)
  refine wpAny_call (codeAny_call_builtin F.excAttr_ValueError.ga.plain F.entry_bexc_ga (exc_check X I hb (exc_entry X I hf hm ?_)))
  exact handed_on rfl (wpAny_pure k)
end
theorem kitx_exc {K : Frag} {x D : Addr} {ox : Obj} (hk : excKit K D = true) : KitX K (.ref x) (.ref D) (fun h => InstAt h x ox D none) := by
  unfold excKit at hk
  simp only [Bool.and_eq_true, beq_iff_eq] at hk
  obtain ⟨⟨⟨⟨⟨⟨hga, hgh⟩, hd⟩, hf⟩, hm⟩, hb⟩, hc⟩ := hk
  obtain ⟨v, hv⟩ := Option.isSome_iff_exists.mp hc
  have hf' : findObj K D none "__class__" = some (.bind (.builtin "getset_descriptor.__get__") (.builtin "object.__class__")) := by
    split at hf
    · rename_i g a e
      simp only [Bool.and_eq_true, beq_iff_eq] at hf
      rw [e, hf.1, hf.2]
    · cases hf
  refine ⟨fun M h X I => I.type, fun M h X I => (kit_cls X hv).2.1, fun h tp dd its n sl X htp => ?_, fun {prog w A E Q s} X I k => ?_⟩
  · cases z : (Value.ref D == Value.ref tp) with
    | false => rfl
    | true =>
      exfalso
      have e : D = tp := Value.ref.inj (beq_iff_eq.mp z)
      subst e
      obtain ⟨cd, h1, _⟩ := any_some hd
      unfold clsIn at h1
      split at h1
      · rename_i ho
        have := (X _ _ ho).symm.trans htp
        cases this
      · cases h1
  · exact exc_ca X I hga hgh hf' hm hb k

theorem isi_sound (I : Inv W fr H s) (wo : WOk W) {a : AVal} {v c : Value} {b : Bool} {Q : PV} (ra : RepV s.heap a v) (e : isiA W.K H a c = some b) (q : Q (.bool b) H) : wpAny (model W.prog W.w) A (call (.builtin "isinstance") [v, c]) (PVc W fr H s Q) E s := by
  have X := I.kin wo
  have fin : ∀ tk, PVc W fr H s Q (.bool b) { s with toks := tk } := fun tk => pv_same I (.bool b) q
  unfold isiA at e
  have ra := ra.inv
  cases a with
  | none => obtain rfl : v = .none := ra; exact kia_one kitx_none X trivial e (fun h => nomatch h) fin
  | bool x => obtain rfl : v = .bool x := ra; exact kia_one kitx_bool X trivial e (fun h => nomatch h) fin
  | int i => obtain ⟨t, rfl⟩ := ra; exact kia_one kitx_int X trivial e (fun h => nomatch h) fin
  | str x => obtain ⟨t, rfl, k⟩ := ra; exact kia_one kitx_str X trivial e (fun h => nomatch h) fin
  | tup l => obtain ⟨_, _, rfl, ⟨o, ho, hc, _⟩, _⟩ := ra; exact kia_one kitx_tuple X ⟨o, ho, hc⟩ e (fun h => nomatch h) fin
  | ref r =>
    obtain rfl : v = .ref r := ra
    dsimp only [typA] at e
    split at e
    · rename_i ro xs hr
      obtain ⟨vs, ⟨o, ho, hc, _⟩, _⟩ := (I.rep _ _ hr).isList
      exact kia_one kitx_list X ⟨o, ho, hc⟩ e (fun h => nomatch h) fin
    · cases e
  | range _ _ => cases e
  | exc C =>
    obtain ⟨_, rfl, oe, us, k1, k2, k3, k4⟩ := ra
    dsimp only at e
    split at e
    · rename_i hk
      exact kia_one (kitx_exc hk) X ⟨k1, k2, by unfold notCls; rw [k3], by rw [k4]; trivial⟩ e (fun h => nomatch h) fin
    · cases e
  | val _ => cases e

theorem append_sound (I : Inv W fr H s) {a : Addr} {xs : List AVal} {x : AVal} {v : Value} {Q : PV} (ha : H a = some (.list false xs)) (rx : RepV s.heap x v) (hl : xs.length < bigL) (q : Q .none (hset H a (.list false (xs ++ [x])))) :
    wpAny (model W.prog W.w) A (call (.builtin "list.append") [.ref a, v]) (PVc W fr H s Q) E s := by
  obtain ⟨vs, n, ho, r, hlen⟩ := (I.rep _ _ ha).isL
  refine call_meets PySem.F.slot_list_append ⟨_, ho, rfl⟩ PySem.F.entry_list_append (PySem.F.args_list_append_2 _ _) (PySem.list_append a vs.toArray n v (by rw [List.size_toArray, r.length]; exact Nat.le_trans hlen big_line)) ⟨ho, ?_⟩
  have hs : Heap.SameBut a s.heap (s.heap.update a (Obj.mapSeq fun z => z.push v)) := Heap.SameBut.update ..
  have h1 := PySem.IsL.update ho (fun z => z.push v)
  have e1 : vs.toArray.push v = (vs ++ [v]).toArray := by simp
  have na : ∀ b o, s.heap.get? b = some o → Imm o → b ≠ a := fun b o e9 i z => by have := (I.not_imm e9 i).1; rw [z, ha] at this; cases this
  have S : Stab s.heap (s.heap.update a (Obj.mapSeq fun z => z.push v)) := .of fun b o e i => (hs.2 b (na b o e i)).trans e
  have hr : RepO W.w.params (s.heap.update a (Obj.mapSeq fun z => z.push v)) a (.list false (xs ++ [x])) :=
    RepO.mkL (vs := vs ++ [v]) (by rw [← e1]; exact h1) ((r.mono S).append (.cons (rx.mono S) .nil)) (by simp; omega)
  exact ⟨.none, _, .none, I.change ha rfl hs hr, Ext.change I ha hs hr, q⟩

theorem pop_sound (I : Inv W fr H s) {a : Addr} {ys : List AVal} {y : AVal} {Q : PV} (ha : H a = some (.list false (ys ++ [y]))) (q : Q y (hset H a (.list false ys))) :
    wpAny (model W.prog W.w) A (call (.builtin "list.pop") [.ref a]) (PVc W fr H s Q) E s := by
  obtain ⟨vs, n, ho, r, hlen⟩ := (I.rep _ _ ha).isL
  obtain ⟨us, u, rfl, ru, ry⟩ := r.snoc
  have hk : (us ++ [u]).toArray.size - 1 = us.length := by rw [List.size_toArray, List.length_append]; rfl
  have hy : (us ++ [u]).toArray[(us ++ [u]).toArray.size - 1]? = some u := by rw [hk]; simp
  refine call_meets PySem.F.slot_list_pop ⟨_, ho, rfl⟩ PySem.F.entry_list_pop (PySem.F.args_list_pop_1 _) (PySem.MeetsSeq.list_pop_last a _ n u hy (by rw [List.size_toArray, r.length]; exact Nat.le_trans hlen big_line)) ⟨ho, ?_⟩
  rw [hk]
  have hs : Heap.SameBut a s.heap (s.heap.update a (Obj.mapSeq fun z => z.eraseIdxIfInBounds us.length)) := Heap.SameBut.update ..
  have h1 := PySem.IsL.update ho (fun z => z.eraseIdxIfInBounds us.length)
  have e1 : (us ++ [u]).toArray.eraseIdxIfInBounds us.length = us.toArray := by rw [kl_erase, List.append_nil]
  have na : ∀ b o, s.heap.get? b = some o → Imm o → b ≠ a := fun b o e9 i z => by have := (I.not_imm e9 i).1; rw [z, ha] at this; cases this
  have S : Stab s.heap (s.heap.update a (Obj.mapSeq fun z => z.eraseIdxIfInBounds us.length)) := .of fun b o e i => (hs.2 b (na b o e i)).trans e
  have hr : RepO W.w.params (s.heap.update a (Obj.mapSeq fun z => z.eraseIdxIfInBounds us.length)) a (.list false ys) :=
    RepO.mkL (vs := us) (by rw [← e1]; exact h1) (ru.mono S) (by simp at hlen; omega)
  exact ⟨y, _, ry.mono S, I.change ha rfl hs hr, Ext.change I ha hs hr, q⟩

theorem getM_list (I : Inv W fr H s) {a : Addr} {xs : List AVal} {name : Str} {id : String} {M : Model} {pl : Sem Bool} {Q : Value × List Value → Shared → Prop} (ha : H a = some (.list false xs)) (slot : Slot "list" name id)
    (hty : typeOf (.builtin id) = pure (.type "method_descriptor")) (q : Q (.builtin id, [.ref a]) s) : wpAny M A (getMethod (.ref a) name pl) Q E s := by
  obtain ⟨vs, n, ho, r, hlen⟩ := (I.rep _ _ ha).isL
  exact getMethod_builtin ⟨_, ho, rfl⟩ PySem.F.plainAttrs_list slot hty (fun a e => by cases e; exact ⟨_, ho, rfl⟩) q

/-! attributes of instances -/
theorem Ents.find {P : Params} {h : Heap} {name : Str} : ∀ {fs : List (Str × AVal)} {es : List DictEntry}, Ents P h fs es →
    (match lookF name fs with
     | some a => ∃ v, RepV h a v ∧ getL name es = some (some v)
     | none => getL name es = some none) ∧ es.any (·.refKey) = false
  | _, _, .nil => ⟨rfl, rfl⟩
  | _, _, .cons (x := x) (a := a) (t := t) (v := v) (fs := fs) (es := es) hv r => by
    obtain ⟨i1, i2⟩ := Ents.find (name := name) r
    have hk : (⟨PyData.keyHash P x, .str x t, v⟩ : DictEntry).refKey = false := by simp [DictEntry.refKey]
    refine ⟨?_, by rw [List.any_cons, hk, i2]; rfl⟩
    unfold lookF
    by_cases hx : x = name
    · subst hx
      rw [if_pos rfl]
      exact ⟨v, hv, by simp [getL, Value.isStr]⟩
    · rw [if_neg hx]
      have hn : ((⟨PyData.keyHash P x, .str x t, v⟩ : DictEntry).key.isStr name) = false := by simp [Value.isStr, hx]
      have e1 : getL name ((⟨PyData.keyHash P x, .str x t, v⟩ : DictEntry) :: es) = getL name es := by
        unfold getL
        rw [List.find?_cons, hn]
        simp only [List.any_cons, hk, Bool.false_or]
      rw [e1]
      exact i1
theorem Ents.put {P : Params} {h : Heap} {name : Str} {a : AVal} {v : Value} {t : Tok} (ra : RepV h a v) : ∀ {fs : List (Str × AVal)} {es : List DictEntry}, Ents P h fs es →
    Ents P h (putF name a fs) (putL name (PyData.keyHash P name) (.str name t) v es)
  | _, _, .nil => .cons ra .nil
  | _, _, .cons (x := x) (t := t') (v := u) hv r => by
    unfold putF putL
    by_cases hx : x = name
    · subst hx
      simp only [Value.isStr, beq_self_eq_true, if_true]
      exact .cons ra r
    · have hn : ((⟨PyData.keyHash P x, .str x t', u⟩ : DictEntry).key.isStr name) = false := by simp [Value.isStr, hx]
      rw [if_neg hx, hn]
      exact .cons hv (Ents.put ra r)
theorem Ents.length {P : Params} {h : Heap} {fs : List (Str × AVal)} {es : List DictEntry} (e : Ents P h fs es) : es.length = fs.length := by
  induction e with
  | nil => rfl
  | cons _ _ ih => simp [ih]
theorem putF_length (name : Str) (a : AVal) : ∀ fs : List (Str × AVal), (putF name a fs).length ≤ fs.length + 1
  | [] => by simp [putF]
  | (x, u) :: r => by
    unfold putF
    split
    · simp
    · have := putF_length name a r; simp; omega

theorem instAt_of (I : Inv W fr H s) {a C d : Addr} {fs : List (Str × AVal)} (ha : H a = some (.inst C d)) (hd : H d = some (.dict fs)) :
    ∃ sl es n, InstAt s.heap a ⟨.ref C, some d, .plain, sl⟩ C (some (dictOf es n)) ∧ Ents W.w.params s.heap fs es ∧ s.heap.get? d = some (dictOf es n) ∧ fs.length ≤ 100 := by
  obtain ⟨sl, h1⟩ := I.rep _ _ ha
  obtain ⟨es, n, h2, h3, h4⟩ := I.rep _ _ hd
  exact ⟨sl, es, n, ⟨h1, rfl, rfl, h2⟩, h3, h2, h4⟩

theorem handed_rep {h : Heap} {a : AVal} {v : Value} (r : RepV h a v) (hv : notVal a) : handedIn v = true := by
  have r := r.inv
  cases a with
  | none => obtain rfl : v = .none := r; rfl
  | bool b => obtain rfl : v = .bool b := r; rfl
  | int i => obtain ⟨t, rfl⟩ := r; rfl
  | str x => obtain ⟨t, rfl, _⟩ := r; rfl
  | tup l => obtain ⟨_, _, rfl, _⟩ := r; rfl
  | ref b => obtain rfl : v = .ref b := r; rfl
  | range _ _ => obtain ⟨_, _, _, _, rfl, _⟩ := r; rfl
  | exc C => obtain ⟨_, rfl, _⟩ := r; rfl
  | val u => exact hv.elim

theorem attr_sound (I : Inv W fr H s) (wo : WOk W) {o : AVal} {v : Value} {name : Str} {Q : PV} {ex : Bool} (ra : RepV s.heap o v) (e : attrA W.K o name H Q) : wpAny (model W.prog W.w) A (getAttr v name ex) (PVc W fr H s Q) E s := by
  have X := I.kin wo
  unfold attrA at e
  split at e
  · rename_i a
    split at e
    · rename_i C d ha
      split at e
      · rename_i fs hd
        obtain ⟨hk, e⟩ := e
        obtain rfl : v = .ref a := ra.inv
        obtain ⟨sl, es, n, J, hes, _, _⟩ := instAt_of I ha hd
        have hf := (Ents.find (name := name) hes).1
        split at e
        · rename_i u hu
          rw [hu] at hf
          obtain ⟨v, rv, hg⟩ := hf
          unfold attrOk at hk
          simp only [Bool.and_eq_true, beq_iff_eq] at hk
          obtain ⟨⟨k1, k2⟩, k3⟩ := hk
          refine get_value X J (plainGet_of k1).1 (findObj_own k2 k3 rfl hg) ?_ (pv_same I rv e.2)
          exact handed_rep rv e.1
        · exact e.elim
      · exact e.elim
    · exact e.elim
  · exact e.elim

theorem setattr_sound (I : Inv W fr H s) (wo : WOk W) {o x : AVal} {v u : Value} {name : Str} {k : AHeap → Prop} {R : Unit → Shared → Prop} (ra : RepV s.heap o v) (rx : RepV s.heap x u) (e : satA W.K o name x H k)
    (hR : ∀ H' s', Inv W fr H' s' → Ext0 fr H s.heap H' s'.heap → k H' → R () s') : wpAny (model W.prog W.w) A (setAttr v name u) R E s := by
  have X := I.kin wo
  unfold satA at e
  split at e
  · rename_i a
    split at e
    · rename_i C d ha
      split at e
      · rename_i fs hd
        obtain ⟨hk, hlen, e⟩ := e
        obtain rfl : v = .ref a := ra.inv
        obtain ⟨sl, es, n, J, hes, D, _⟩ := instAt_of I ha hd
        obtain ⟨hf1, hf2⟩ := Ents.find (name := name) hes
        unfold storeOk at hk
        simp only [Bool.and_eq_true, beq_iff_eq] at hk
        obtain ⟨⟨⟨k1, k2⟩, k3⟩, k4⟩ := hk
        refine set_plain X J k1 ?_
        have J' : InstAt ({ s with toks := s.toks + 1 } : Shared).heap a ⟨.ref C, some d, .plain, sl⟩ C (some (dictOf es n)) := J
        refine osa_open (s := { s with toks := s.toks + 1 }) X J' k2 k3 fun b => ?_
        obtain ⟨cd, hc, hd'⟩ := any_some k4
        refine wpAny_bind (wpAny_pure (wpAny_bind (wpAny_bind (wpAny_loadPart J.at_ (wpAny_bind (looks_clsIn X hc _ _ _ _ (fun _ _ e => e) ?_))))))
        rw [hd']
        refine wpAny_pure (a := some d) (wpAny_bind (wpAny_pure (wpAny_bind ?_)))
        unfold nsSet
        refine wpAny_bind (wpAny_bind (wpAny_askSetting (wpAny_pure (wpAny_bind (wpAny_mkText (wpAny_bind (wpAny_loadPart D ?_)))))))
        have c : (!es.toArray.any (·.key.isStr name) && es.toArray.any (·.refKey)) = false := by
          rw [← Array.any_toList, ← Array.any_toList]
          show (!_ && es.any (·.refKey)) = false
          rw [hf2, Bool.and_false]
        dsimp only
        rw [aRefKeyMayBeTheName_at, c]
        have hs : Heap.SameBut d s.heap (s.heap.update d (Obj.putName name (PyData.keyHash W.w.params name) (.str name (s.toks + 1)) u)) := Heap.SameBut.update ..
        have e2 := putName_dict name (PyData.keyHash W.w.params name) (.str name (s.toks + 1)) u es n
        have D' : (s.heap.update d (Obj.putName name (PyData.keyHash W.w.params name) (.str name (s.toks + 1)) u)).get? d = some (dictOf (putL name (PyData.keyHash W.w.params name) (.str name (s.toks + 1)) u es) (putN name es n)) := by
          rw [← e2]; exact Heap.get?_update_self _ D (by rw [e2]; rfl)
        have na : ∀ b o, s.heap.get? b = some o → Imm o → b ≠ d := fun b o e9 i z => by have := (I.not_imm e9 i).1; rw [z, hd] at this; cases this
        have S : Stab s.heap (s.heap.update d (Obj.putName name (PyData.keyHash W.w.params name) (.str name (s.toks + 1)) u)) := .of fun b o e i => (hs.2 b (na b o e i)).trans e
        have he' := Ents.put (t := s.toks + 1) (name := name) (rx.mono S) (hes.mono S)
        have hl' := putF_length name x fs
        have hr : RepO W.w.params (s.heap.update d (Obj.putName name (PyData.keyHash W.w.params name) (.str name (s.toks + 1)) u)) d (.dict (putF name x fs)) := ⟨_, _, D', he', by omega⟩
        refine wpAny_updatePart D ?_
        refine wpAny_bind (wpAny_lookBehind D' (pastItsLine_dict (by rw [List.size_toArray, he'.length, sizeLine_eq]; omega)) ?_)
        refine wpAny_pure (hR _ _ (I.change hd rfl hs hr) (Ext.change I hd hs hr) e)
      · exact e.elim
    · exact e.elim
  · exact e.elim

theorem setitem_sound (I : Inv W fr H s) {o i x : AVal} {v j u : Value} {k : AHeap → Prop} {R : Unit → Shared → Prop} (ra : RepV s.heap o v) (ri : RepV s.heap i j) (rx : RepV s.heap x u) (e : stA o i x H k)
    (hR : ∀ H' s', Inv W fr H' s' → Ext0 fr H s.heap H' s'.heap → k H' → R () s') : wpAny (model W.prog W.w) A (setItem v j u) R E s := by
  unfold stA at e
  split at e
  · rename_i a n
    split at e
    · rename_i ro xs ha
      obtain ⟨rfl, h0, h1, e⟩ := e
      obtain rfl : v = .ref a := ra.inv
      obtain ⟨t, rfl⟩ := ri.inv
      obtain ⟨vs, c, ho, r, hlen⟩ := (I.rep _ _ ha).isL
      have hb : bigL = 1000000 := rfl
      refine ki_setAt ho h0 (by omega) (by rw [List.size_toArray, r.length]; exact h1) ?_
      have hs : Heap.SameBut a s.heap (s.heap.update a (Obj.mapSeq (·.setIfInBounds n.toNat u))) := Heap.SameBut.update ..
      have h2 := PySem.IsL.update ho (·.setIfInBounds n.toNat u)
      have e1 : vs.toArray.setIfInBounds n.toNat u = (vs.set n.toNat u).toArray := by simp
      have na : ∀ b o, s.heap.get? b = some o → Imm o → b ≠ a := fun b o e9 i z => by have := (I.not_imm e9 i).1; rw [z, ha] at this; cases this
      have S : Stab s.heap (s.heap.update a (Obj.mapSeq (·.setIfInBounds n.toNat u))) := .of fun b o e i => (hs.2 b (na b o e i)).trans e
      have hr : RepO W.w.params (s.heap.update a (Obj.mapSeq (·.setIfInBounds n.toNat u))) a (.list false (xs.set n.toNat x)) :=
        RepO.mkL (vs := vs.set n.toNat u) (by rw [← e1]; exact h2) ((r.mono S).set _ (rx.mono S)) (by simpa using hlen)
      exact hR _ _ (I.change (t := s.toks) ha rfl hs hr) (Ext.change I ha hs hr) e
    · exact e.elim
  · exact e.elim
end
end Mine

/-! Expressions: what the abstract interpreter says holds of the model. -/
set_option maxRecDepth 100000
namespace Mine
open PySem PySem.Calls PyProof.Rows PySem.W

structure EnvOk (env : Env) : Prop where
  kind : env.scope.kind = .function
  globals : env.globals = mainGlobals
  builtins : env.builtins = builtinsNs

section
variable {W : Wd} {n : Nat} {q : Bool} {fr : List Env} {A : Around}

theorem AOk.room (ao : AOk n q fr A) : A.units + 20 < cLine := by have := ao.units; omega

theorem name_gen (wo : WOk W) {env : Env} (eo : EnvOk env) {σ : Loc} {H : AHeap} {s : Shared} {x : Str} {pos : Pos} {Q : AVal → Prop} {P : Value → Shared → Prop} {E : Value → Shared → Prop} (I : Inv W fr H s) (L : LocR W env fr σ H s.heap)
    (e : nmA W.K σ x Q) (hs : nmOk W.K env.scope x = true) (hP : ∀ av v, RepV s.heap av v → Q av → P v s) : wpAny (model W.prog W.w) A (eval (.Name x pos) env) P E s := by
  unfold nmA at e
  split at e
  · rename_i av hx
    obtain ⟨m, hn, hv⟩ := L.ns
    rcases hv x av hx with h0 | ⟨h1, v, h2, h3⟩ | ⟨h1, c, v, h2, h3, h4⟩
    · unfold nmOk at hs
      rw [show env.scope.names.lookup x = none from h0] at hs
      simp at hs
    · exact wpAny_Name (wpAny_loadName_local eo.kind h1 hn h2 (hP _ _ h3 e)) (L.dbg x av hx)
    · exact wpAny_Name (wpAny_loadName_cell eo.kind h1 h2 h3 (hP _ _ h4 e)) (L.dbg x av hx)
  · split at e
    · rename_i av hg
      unfold nmOk at hs
      simp only [Bool.and_eq_true, Bool.not_eq_true'] at hs
      obtain ⟨hd, hs⟩ := hs
      split at hs
      · rw [hg] at hs; cases hs
      · rw [hg] at hs; cases hs
      · rename_i hk
        obtain ⟨p, loose, mg, mb, T⟩ := wo.top
        have X := I.kin wo
        have G := T.g.keeps I.stay
        have B := T.b.keeps I.stay
        unfold gval at hg
        split at hg
        · cases hg
        · rename_i hnm
          simp only [Bool.or_eq_true, not_or, Bool.not_eq_true] at hnm
          have hne : x ≠ ("__name__" : Str) := fun z => by rw [z] at hnm; simp at hnm
          split at hg
          · rename_i i t ht
            cases hg
            exact Calls.Name_function_global eo.kind hk (Calls.loadGlobal_global (mg := mg) (by rw [eo.globals]; exact G) (mg_of wo.k T.g ht) (hP _ _ (.int _ _) e)) hd
          · rename_i a ht
            cases hg
            exact Calls.Name_function_global eo.kind hk (Calls.loadGlobal_global (mg := mg) (by rw [eo.globals]; exact G) (mg_of wo.k T.g ht) (hP _ _ (.val _) e)) hd
          · cases hg
          · rename_i ht
            have miss := mg_none_of wo.k T.g ht
            split at hg
            · rename_i id hb
              cases hg
              exact Calls.Name_function_global eo.kind hk (Calls.loadGlobal_builtin (mg := mg) (mb := mb) (by rw [eo.globals]; exact G) miss (by rw [eo.builtins]; exact B) ((T.builtins x hne).trans hb) (hP _ _ (.val _) e)) hd
            · rename_i id hb
              cases hg
              exact Calls.Name_function_global eo.kind hk (Calls.loadGlobal_builtin (mg := mg) (mb := mb) (by rw [eo.globals]; exact G) miss (by rw [eo.builtins]; exact B) ((T.builtins x hne).trans hb) (hP _ _ (.val _) e)) hd
            · cases hg
          · cases hg
      · cases hs
    · exact e.elim

theorem name_sound (wo : WOk W) {env : Env} (eo : EnvOk env) {σ : Loc} {H : AHeap} {s : Shared} {x : Str} {pos : Pos} {Q : PV} {E : Value → Shared → Prop} (I : Inv W fr H s) (L : LocR W env fr σ H s.heap)
    (e : nmA W.K σ x fun v => Q v H) (hs : nmOk W.K env.scope x = true) : wpAny (model W.prog W.w) A (eval (.Name x pos) env) (PVc W fr H s Q) E s :=
  name_gen wo eo I L e hs fun _ _ r q => pv_here I r q

theorem starEach_plain {env : Env} {e : Expr} {r : List Expr} (h : ∀ x p, e ≠ .Starred x p) : starEach (e :: r) env = (false, eval e env) :: starEach r env := by
  cases e <;> first | rfl | exact absurd rfl (h _ _)

theorem plain_args {env : Env} {pos : Pos} : ∀ {es : List Expr}, (∀ e ∈ es, ∀ x p, e ≠ Expr.Starred x p) → (backTo pos (starEach es env)).any (·.1) = false
  | [], _ => rfl
  | e :: r, h => by
    rw [starEach_plain (h e List.mem_cons_self)]
    show (false || (backTo pos (starEach r env)).any (·.1)) = false
    rw [plain_args fun x hx => h x (List.mem_cons_of_mem _ hx)]; rfl

theorem evs_plain {K : Frag} : ∀ {es : List Expr} {top : Bool} {sc : Scope}, scEs K top sc es = true → ∀ e ∈ es, ∀ x p, e ≠ Expr.Starred x p
  | [], _, _, _ => fun e he => nomatch he
  | e :: r, top, sc, h => by
    simp only [cs_cons, Bool.and_eq_true] at h
    intro e' he'
    rcases List.mem_cons.mp he' with rfl | he'
    · intro x p z; subst z; exact absurd (show false = true from h.1) (by decide)
    · exact evs_plain h.2 e' he'

theorem callWith_sound {env : Env} {pos : Pos} {f : Value} {first : List Value} {es : List Expr} {s : Shared} {Q : Value → Shared → Prop} {E : Value → Shared → Prop} (hp : ∀ e ∈ es, ∀ x p, e ≠ Expr.Starred x p) (hlen : es.length < 20)
    (hf : (∃ id, f = .builtin id) ∨ (∃ t, f = .type t) ∨ (∃ a, f = .ref a ∧ keepIn W.K f = true))
    (h : wpAny (model W.prog W.w) A (spliced (backTo pos (starEach es env))) (fun vs s₁ => W.K.In s₁.heap ∧ wpAny (model W.prog W.w) A (call f (first ++ vs)) Q E s₁) E s) :
    wpAny (model W.prog W.w) A (callWith pos f first (backTo pos (starEach es env)) []) Q E s := by
  have args : wpAny (model W.prog W.w) A (evalArgs f true (backTo pos (starEach es env)) []) (fun a s₁ => W.K.In s₁.heap ∧ wpAny (model W.prog W.w) A (call f (first ++ a.pos) a.kw) Q E s₁) E s := by
    cases es with
    | nil =>
      unfold evalArgs
      show wpAny (model W.prog W.w) A (spliced [] >>= _) _ E s
      refine wpAny_bind (wpAny_mono h (fun vs s' h' => ?_) fun _ _ x => x)
      refine wpAny_bind (wpAny_pure ?_)
      refine wpAny_holding ?_
      exact wpAny_bind (wpAny_pure (wpAny_bind (wpAny_pure (wpAny_pure h'))))
    | cons e r =>
      rw [starEach_plain (hp e List.mem_cons_self)] at h ⊢
      exact evalArgs_plain h
  have pl := plain_args (env := env) (pos := pos) hp
  rcases hf with ⟨id, rfl⟩ | ⟨t, rfl⟩ | ⟨a, rfl, hk⟩
  · exact Calls.callWith_builtin pl (wpAny_mono args (fun _ _ p => p.2) fun _ _ x => x)
  · exact PySem.callWith_type pl (wpAny_mono args (fun _ _ p => p.2) fun _ _ x => x)
  · exact callWith_of (by rw [pl]; rfl) (keeps_K hk) args
end
end Mine

/-! Iteration. -/
set_option maxRecDepth 100000
namespace Mine
open PySem PySem.Calls PyProof.Rows PySem.W

inductive ItAt (h : Heap) (it : Addr) : Option (Addr × AObj) → List AVal → Prop
  | list {l : Addr} {ro : Bool} {xs : List AVal} (i : Nat) : h.IsListIter it l i → ItAt h it (some (l, .list ro xs)) (xs.drop i)
  | tup {t : Addr} {vs : List Value} {xs : List AVal} (i : Nat) : h.IsTupleIter it t i → h.IsTuple t vs.toArray → RepVs h xs vs → ItAt h it none (xs.drop i)
  | range {x left : Int} : IsRangeIter h it x left 1 → ItAt h it none ((List.range left.toNat).map fun (k : Nat) => AVal.int (x + k))
theorem ItAt.imm {h : Heap} {it : Addr} {src : Option (Addr × AObj)} {rest : List AVal} (x : ItAt h it src rest) : ∃ o, h.get? it = some o ∧ ¬ Imm o := by
  cases x with
  | list i hi =>
    obtain ⟨o, ho, hc, hd⟩ := hi
    refine ⟨o, ho, fun z => ?_⟩
    rcases z with ⟨vs, n, z, _⟩ | ⟨vs, z, z' | ⟨C, z'⟩⟩
    · rw [hd] at z; cases z
    · rw [hc] at z'; exact absurd z' (by decide)
    · rw [hc] at z'; cases z'
  | tup i hi _ _ =>
    obtain ⟨o, ho, hc, hd⟩ := hi
    refine ⟨o, ho, fun z => ?_⟩
    rcases z with ⟨vs, n, z, _⟩ | ⟨vs, z, z' | ⟨C, z'⟩⟩
    · rw [hd] at z; cases z
    · rw [hc] at z'; exact absurd z' (by decide)
    · rw [hc] at z'; cases z'
  | range hi =>
    refine ⟨_, hi, fun z => ?_⟩
    rcases z with ⟨vs, n, z, _⟩ | ⟨vs, z, z' | ⟨C, z'⟩⟩
    · cases z
    · have z2 : Value.type "range_iterator" = Value.type "range" := z'
      exact absurd z2 (by decide)
    · cases z'
theorem ItAt.keep {h h' : Heap} {it : Addr} {src : Option (Addr × AObj)} {rest : List AVal} (x : ItAt h it src rest) (S : Stab h h') (k : ∀ o, h.get? it = some o → h'.get? it = some o) : ItAt h' it src rest := by
  cases x with
  | list i hi => obtain ⟨o, ho, r⟩ := hi; exact .list i ⟨o, k o ho, r⟩
  | tup i hi ht hs =>
    obtain ⟨o, ho, r⟩ := hi
    obtain ⟨ot, h1, h2, m, h3⟩ := ht
    exact .tup i ⟨o, k o ho, r⟩ ⟨ot, S.plain h1 (.inl ⟨_, m, h3, h2⟩) h2, h2, m, h3⟩ (hs.mono S)
  | range hi => exact .range (k _ hi)

section
variable {W : Wd} {fr : List Env} {H : AHeap} {s : Shared} {A : Around} {E : Value → Shared → Prop}

theorem fits_long {i : Int} (h1 : -10000000 ≤ i) (h2 : i ≤ 10000000) : Builtin.Range.rangeFitsLong i = true := by
  unfold Builtin.Range.rangeFitsLong
  simp only [Bool.and_eq_true, decide_eq_true_eq]
  omega
theorem range_small {a b : Int} (h : (0 ≤ a ∧ a ≤ 1000000) ∧ -1000000 ≤ b ∧ b ≤ 1000000) : Builtin.Range.small a b 1 = true := by
  unfold Builtin.Range.small
  rw [rangeSize_one]
  rw [fits_long (i := a) (by omega) (by omega), fits_long (i := b) (by omega) (by omega), fits_long (i := 1) (by omega) (by omega), fits_long (i := if a < b then b - a else 0) (by split <;> omega) (by split <;> omega)]
  have h9 : Builtin.Range.rangeFitsLong b = true := fits_long (by omega) (by omega)
  simp [h9]

theorem iter_sound (I : Inv W fr H s) {a : AVal} {v : Value} {its : List AVal} {src : Option (Addr × AObj)} (ra : RepV s.heap a v) (e : itemsA H a = some (its, src)) {R : Value → Shared → Prop}
    (hR : ∀ it h', s.heap.get? it = none → (∀ b o, s.heap.get? b = some o → h'.get? b = some o) → ItAt h' it src its → srcA src H → R (.ref it) { s with heap := h' }) :
    wpAny (model W.prog W.w) A (pyIter v) R E s := by
  unfold itemsA at e
  split at e
  · cases e
    · obtain ⟨_, _, rfl, ht, hl, hs⟩ := ra.inv
      refine wpAny_pyIter_tuple ht (hR _ _ (size_none _) (fun _ _ e => Heap.get?_push_of_some _ e) ?_ trivial)
      exact .tup 0 ⟨_, Heap.get?_push_size _ rfl, rfl, rfl⟩ (Heap.IsTuple.push ht _) (hs.mono (.of fun _ _ e _ => Heap.get?_push_of_some _ e))
  · rename_i lo hi
    cases e
    · obtain ⟨_, _, _, _, rfl, hr, hb⟩ := ra.inv
      refine wpAny_pyIter_range hr (range_small hb) (hR _ _ (size_none _) (fun _ _ e => Heap.get?_push_of_some _ e) ?_ trivial)
      have e1 : (Builtin.Range.rangeSize lo hi 1).toNat = (hi - lo).toNat := by
        rw [rangeSize_one]; split <;> omega
      rw [← e1]
      exact .range (Heap.get?_push_size _ rfl)
  · rename_i b
    split at e
    · rename_i ro xs hb
      cases e
      obtain rfl : v = .ref b := ra.inv
      obtain ⟨vs, hl, _⟩ := (I.rep _ _ hb).isList
      refine wpAny_pyIter_list hl (hR _ _ (size_none _) (fun _ _ e => Heap.get?_push_of_some _ e) ?_ hb)
      exact .list 0 ⟨_, Heap.get?_push_size _ rfl, rfl, rfl⟩
    · cases e
  · cases e

theorem next_sound (I : Inv W fr H s) {it : Addr} {src : Option (Addr × AObj)} {x : AVal} {rest : List AVal} (J : ItAt s.heap it src (x :: rest)) (p : Priv W fr H s.heap it) (hs : srcA src H) {R : Option Value → Shared → Prop}
    (hR : ∀ v h' tk, RepV h' x v → ItAt h' it src rest → Heap.ExtBut it s.heap h' → R (some v) { s with heap := h', toks := tk }) : wpAny (model W.prog W.w) A (pyNext (.ref it)) R E s := by
  generalize hg : x :: rest = its at J
  cases J with
  | list i hi =>
    rename_i l ro xs
    obtain ⟨vs, hl, r, _⟩ := (I.rep _ _ hs).isList
    have hx : xs[i]? = some x := by rw [← List.head?_drop, ← hg]; rfl
    obtain ⟨v, hv, rv⟩ := r.get hx
    refine wpAny_pyNext_list_item hi hl (by simpa using hv) fun h' hi' hs' => ?_
    have e1 : rest = xs.drop (i + 1) := by rw [← List.drop_drop, ← hg]; rfl
    have := hR v h' s.toks (rv.mono (p.stab hs'.extBut)) (by rw [e1]; exact .list (i + 1) hi') hs'.extBut
    exact this
  | tup i hi ht hr =>
    rename_i t vs xs
    have hx : xs[i]? = some x := by rw [← List.head?_drop, ← hg]; rfl
    obtain ⟨v, hv, rv⟩ := hr.get hx
    refine wpAny_pyNext_tuple_item hi ht (by simpa using hv) fun h' hi' hs' => ?_
    have S := p.stab hs'.extBut
    have e1 : rest = xs.drop (i + 1) := by rw [← List.drop_drop, ← hg]; rfl
    have ht' : h'.IsTuple t vs.toArray := by
      obtain ⟨ot, h1, h2, m, h3⟩ := ht
      exact ⟨ot, S.plain h1 (.inl ⟨_, m, h3, h2⟩) h2, h2, m, h3⟩
    exact hR v h' s.toks (rv.mono S) (by rw [e1]; exact .tup (i + 1) hi' ht' (hr.mono S)) hs'.extBut
  | range hi =>
    rename_i y left
    have hpos : 0 < left := by
      rcases Int.lt_or_le 0 left with h | h
      · exact h
      · rw [Int.toNat_of_nonpos h] at hg; cases hg
    obtain ⟨m, hm⟩ : ∃ m, left.toNat = m + 1 := ⟨left.toNat - 1, by omega⟩
    rw [hm, List.range_succ_eq_map] at hg
    simp only [List.map_cons, List.map_map, List.cons.injEq] at hg
    obtain ⟨rfl, rfl⟩ := hg
    refine wpAny_pyNext_range_item hi hpos fun h' hi' hs' => ?_
    refine hR _ h' _ (by simp; exact .int _ _) ?_ hs'.extBut
    have := ItAt.range hi'
    rw [show (left - 1).toNat = m by omega] at this
    have e2 : (List.map (fun k => AVal.int (y + 1 + ↑k)) (List.range m)) = List.map ((fun k => AVal.int (y + ↑k)) ∘ Nat.succ) (List.range m) := by
      apply List.map_congr_left
      intro k _
      simp only [Function.comp, AVal.int.injEq]
      push_cast; omega
    rw [← e2]; exact this

theorem next_end (I : Inv W fr H s) {it : Addr} {src : Option (Addr × AObj)} (J : ItAt s.heap it src []) (hs : srcA src H) (hh : A.handled = none) {R : Option Value → Shared → Prop}
    (hR : ∀ h', Heap.ExtBut it s.heap h' → R none { s with heap := h' }) : wpAny (model W.prog W.w) A (pyNext (.ref it)) R E s := by
  generalize hg : [] = its at J
  cases J with
  | list i hi =>
    rename_i l ro xs
    obtain ⟨vs, hl, r, _⟩ := (I.rep _ _ hs).isList
    refine wpAny_pyNext_list_end hh hi hl ?_ hR
    have : xs.length ≤ i := List.drop_eq_nil_iff.mp hg.symm
    simp [r.length]; omega
  | tup i hi ht hr =>
    rename_i t vs xs
    refine wpAny_pyNext_tuple_end hh hi ht ?_ hR
    have : xs.length ≤ i := List.drop_eq_nil_iff.mp hg.symm
    simp [hr.length]; omega
  | range hi =>
    rename_i y left
    refine wpAny_pyNext_range_end hh hi ?_ hR
    have : (List.range left.toNat).length = 0 := by rw [← List.length_map (f := fun (k : Nat) => AVal.int (y + k)), ← hg]; rfl
    rw [List.length_range] at this
    omega
end
end Mine

/-! Comprehensions. -/
set_option maxRecDepth 100000
namespace Mine
open PySem PySem.Calls PyProof.Rows PySem.W

theorem relabel_eq {env : Env} (hk : env.scope.kind = .function) (sc : Scope) : relabel sc env = relabelS env.scope sc := by
  unfold relabel relabelS
  rw [hk]
  simp only [beq_self_eq_true, Bool.and_true]
  rfl

theorem closure_go {env : Env} {f : Str × NameKind → List (Str × Addr) → Sem (ForInStep (List (Str × Addr)))}
    (hf : ∀ n k cs, f (n, k) cs = if k == .free then (do let c ← cellOf env n; pure (.yield ((n, c) :: cs))) else pure (.yield cs)) :
    ∀ (names : List (Str × NameKind)) (acc : List (Str × Addr)), (∀ n, (n, NameKind.free) ∈ names → ∃ c, env.cells.lookup n = some c) → (∀ n c, (n, c) ∈ acc → env.cells.lookup n = some c) →
      ∃ cl, forIn names acc f = pure cl ∧ (∀ n c, (n, c) ∈ cl → env.cells.lookup n = some c) ∧ (∀ n c, (n, c) ∈ acc → (n, c) ∈ cl) ∧ ∀ n, (n, NameKind.free) ∈ names → ∃ c, (n, c) ∈ cl
  | [], acc, _, ha => ⟨acc, by rw [List.forIn_nil], ha, fun _ _ h => h, fun _ h => nomatch h⟩
  | (n, k) :: r, acc, hn, ha => by
    rw [List.forIn_cons, hf]
    by_cases hk : k = .free
    · subst hk
      obtain ⟨c, hc⟩ := hn n List.mem_cons_self
      obtain ⟨cl, h1, h2, h3, h4⟩ := closure_go hf r ((n, c) :: acc) (fun m hm => hn m (List.mem_cons_of_mem _ hm)) (fun m d hm => by
        rcases List.mem_cons.mp hm with e | hm
        · cases e; exact hc
        · exact ha m d hm)
      refine ⟨cl, ?_, h2, fun m d hm => h3 m d (List.mem_cons_of_mem _ hm), fun m hm => ?_⟩
      · have e1 : cellOf env n = pure c := by unfold cellOf; rw [hc]
        rw [e1]
        simp only [beq_self_eq_true, if_true, pure_bind]
        exact h1
      · rcases List.mem_cons.mp hm with e | hm
        · cases e; exact ⟨c, h3 _ _ List.mem_cons_self⟩
        · exact h4 m hm
    · have hb : (k == NameKind.free) = false := by simpa using hk
      obtain ⟨cl, h1, h2, h3, h4⟩ := closure_go hf r acc (fun m hm => hn m (List.mem_cons_of_mem _ hm)) ha
      refine ⟨cl, ?_, h2, h3, fun m hm => ?_⟩
      · simp only [hb, Bool.false_eq_true, if_false, pure_bind]
        exact h1
      · rcases List.mem_cons.mp hm with e | hm
        · cases e; exact absurd rfl hk
        · exact h4 m hm

section
variable {W : Wd} {n : Nat} {fr : List Env} {A : Around}

theorem compOk_all {sc sc' : Scope} (h : compOk sc sc' = true) : sc'.kind = .function ∧ ∀ n k, (n, k) ∈ sc'.names →
    (k = .local ∧ sc'.names.lookup n = some .local) ∨ (k = .free ∧ sc.names.lookup n = some .cell) ∨ (k = .globalImplicit ∧ sc.names.lookup n ≠ some .local ∧ sc.names.lookup n ≠ some .cell) := by
  unfold compOk at h
  simp only [Bool.and_eq_true, beq_iff_eq, List.all_eq_true] at h
  refine ⟨h.1, fun n k hm => ?_⟩
  have := h.2 (n, k) hm
  cases k <;> simp_all

theorem closure_sound {env : Env} {σ : Loc} {H : AHeap} {h : Heap} (L : LocR W env fr σ H h) {sc' : Scope} (hc : compOk env.scope sc' = true) :
    ∃ cl, closureFor sc' env = pure cl ∧ (∀ n c, (n, c) ∈ cl → env.cells.lookup n = some c) ∧ ∀ n, (n, NameKind.free) ∈ sc'.names → ∃ c, (n, c) ∈ cl := by
  have hall := (compOk_all hc).2
  obtain ⟨cl, h1, h2, _, h4⟩ := closure_go (env := env) (f := fun x cs => if x.2 == .free then (do let c ← cellOf env x.1; pure (.yield ((x.1, c) :: cs))) else pure (.yield cs)) (fun _ _ _ => rfl) sc'.names []
    (fun n hm => L.cs n (by rcases hall n _ hm with ⟨e, _⟩ | ⟨_, e⟩ | ⟨e, _⟩; cases e; exact e; cases e)) (fun _ _ hm => nomatch hm)
  refine ⟨cl, ?_, h2, h4⟩
  unfold closureFor
  rw [← bind_pure (pure cl), ← h1]

theorem lookup_of_mem {α : Type} : ∀ {l : List (Str × α)} {n : Str} {c : α}, (n, c) ∈ l → ∃ c', l.lookup n = some c'
  | (m, d) :: r, n, c, h => by
    by_cases e : n = m
    · subst e; exact ⟨d, by simp [List.lookup_cons]⟩
    · rcases List.mem_cons.mp h with z | h
      · cases z; exact absurd rfl e
      · obtain ⟨c', hc⟩ := lookup_of_mem h
        exact ⟨c', by simp [List.lookup_cons, beq_eq_false_iff_ne.mpr e, hc]⟩

theorem lookup_mem {α : Type} : ∀ {l : List (Str × α)} {n : Str} {c : α}, l.lookup n = some c → (n, c) ∈ l := fun h => mem_of_lookup h

theorem relabel_head (sc : Scope) (m : Str) (j : NameKind) : (if (j == .free && sc.names.lookup m == some .cell) then (m, NameKind.cell) else (m, j)) = (m, if (j == .free && sc.names.lookup m == some .cell) then NameKind.cell else j) := by
  split <;> rfl
theorem relabel_lookup {sc : Scope} : ∀ {names : List (Str × NameKind)} {n : Str} {k : NameKind},
    (names.map fun (n, k) => if (k == .free && sc.names.lookup n == some .cell) then (n, NameKind.cell) else (n, k)).lookup n = some k → ∃ k', names.lookup n = some k' ∧ k = (if (k' == .free && sc.names.lookup n == some .cell) then .cell else k')
  | [], _, _, h => by simp at h
  | (m, j) :: r, n, k, h => by
    have ih := @relabel_lookup sc r n k
    rw [List.map_cons] at h
    dsimp only at h
    rw [relabel_head, List.lookup_cons] at h
    by_cases e : n = m
    · subst e
      refine ⟨j, by rw [List.lookup_cons]; simp, ?_⟩
      simp only [beq_self_eq_true] at h
      exact (Option.some.inj h).symm
    · have hb : (n == m) = false := beq_eq_false_iff_ne.mpr e
      rw [hb] at h
      obtain ⟨k', h1, h2⟩ := ih h
      exact ⟨k', by rw [List.lookup_cons, hb]; exact h1, h2⟩

theorem comp_loc {env : Env} {σ : Loc} {H : AHeap} {h h' : Heap} {sc' : Scope} {cl : List (Str × Addr)} {C : Addr} {x : Str} {m : Str → Option Value} (L : LocR W env fr σ H h) (eo : EnvOk env) (full : ∀ y av, σ y = some av → env.kindOf y ≠ none) (hc : compOk env.scope sc' = true)
    (hx : sc'.names.all (fun (n, k) => k != .local || n == x || (env.scope.names.lookup n).isNone) = true)
    (h1 : ∀ n c, (n, c) ∈ cl → env.cells.lookup n = some c) (h2 : ∀ n, (n, NameKind.free) ∈ sc'.names → ∃ c, (n, c) ∈ cl) (k : ∀ b o, h.get? b = some o → h'.get? b = some o)
    (hn : h'.Ns C m) (hC : h.get? C = none) (hH : H C = none) (hb : W.base.get? C = none) : LocR W (compEnvC sc' cl C env) fr (del σ x) H h' := by
  have S : Stab h h' := .of fun b o e _ => k b o e
  have hkind : ∀ y, (compEnvC sc' cl C env).kindOf y = (relabelS env.scope sc').names.lookup y := fun y => by
    show (relabel sc' env).names.lookup y = _
    rw [relabel_eq eo.kind]
  obtain ⟨m0, hn0, hv⟩ := L.ns
  have hall := (compOk_all hc).2
  refine ⟨⟨m, hn, fun y av e => ?_⟩, fun y av e => ?_, hH, hb, fun y c hm => ?_, fun y hy => ?_⟩
  · unfold del at e
    split at e
    · cases e
    · rename_i hyx
      rw [hkind]
      cases hq : (relabelS env.scope sc').names.lookup y with
      | none => exact .inl rfl
      | some kk =>
        obtain ⟨k', q1, q2⟩ := relabel_lookup hq
        rcases hall y k' (lookup_mem q1) with ⟨z1, z2⟩ | ⟨z1, z2⟩ | ⟨z1, z2, z3⟩
        · subst z1
          have := List.all_eq_true.mp hx (y, .local) (lookup_mem q1)
          simp only [bne_self_eq_false, Bool.false_or, Bool.or_eq_true, beq_iff_eq, Option.isNone_iff_eq_none] at this
          rcases this with this | this
          · exact absurd this hyx
          · exact absurd (show env.kindOf y = none from this) (full y av e)
        · subst z1
          have hk' : kk = .cell := by rw [q2, z2]; rfl
          subst hk'
          refine .inr (.inr ⟨rfl, ?_⟩)
          obtain ⟨c, hm⟩ := h2 y (lookup_mem q1)
          obtain ⟨c', hc'⟩ := lookup_of_mem hm
          have e1 := h1 y c' (lookup_mem hc')
          rcases hv y av e with w | ⟨w, _⟩ | ⟨w, d, v, w1, ⟨o, w2, w3⟩, w4⟩
          · rw [show env.kindOf y = some .cell from z2] at w; cases w
          · rw [show env.kindOf y = some .cell from z2] at w; cases w
          · rw [e1] at w1; cases w1
            exact ⟨_, v, hc', ⟨o, k _ _ w2, w3⟩, w4.mono S⟩
        · rcases hv y av e with w | ⟨w, _⟩ | ⟨w, _⟩
          · exact absurd w (full y av e)
          · exact absurd w z2
          · exact absurd w z3
  · unfold del at e
    split at e
    · cases e
    · exact L.dbg y av e
  · obtain ⟨c1, c2, c3, v, o, h3, h3'⟩ := L.cl y c (lookup_mem (h1 y c hm))
    exact ⟨c1, c2, c3, v, o, k _ _ h3, h3'⟩
  · rw [hkind] at hy
    obtain ⟨k', q1, q2⟩ := relabel_lookup hy
    rcases hall y k' (lookup_mem q1) with ⟨z1, z2⟩ | ⟨z1, z2⟩ | ⟨z1, z2, z3⟩
    · subst z1; simp at q2
    · subst z1
      obtain ⟨c, hm⟩ := h2 y (lookup_mem q1)
      exact lookup_of_mem hm
    · subst z1; simp at q2

theorem comp_loop {env : Env} {sc' : Scope} {cl : List (Str × Addr)} {C it D : Addr} {x : Str} {px : Pos} {elt iter : Expr} {ifs : List Expr} {pos : Pos} {σ : Loc} {H0 : AHeap} {s0 s : Shared} {src : Option (Addr × AObj)}
    {T : Loc → AHeap → PB → Prop} {V : Loc → AHeap → PV → Prop} {Q : PV} {R : Result → Shared → Prop} (ao : AOk n true fr A)
    (hT : ∀ σ' H' s' Q', T σ' H' Q' → Inv W fr H' s' → LocR W (compEnvC sc' cl C env) fr σ' H' s'.heap →
      wpAny (model W.prog W.w) A (forIn ifs true fun c r => if r = true then do let ok ← isTrue c (compEnvC sc' cl C env) (eval c (compEnvC sc' cl C env)); pure (ForInStep.yield ok) else pure (ForInStep.yield r)) (PBc W fr H' s' Q') (fun _ _ => False) s')
    (hV : ∀ σ' H' s' Q', V σ' H' Q' → Inv W fr H' s' → LocR W (compEnvC sc' cl C env) fr σ' H' s'.heap → wpAny (model W.prog W.w) A (eval elt (compEnvC sc' cl C env)) (PVc W fr H' s' Q') (fun _ _ => False) s')
    (eo : EnvOk env) (hx : (compEnvC sc' cl C env).kindOf x = some .local) (hd : (x == ("__debug__" : Str)) = false) (hk : sc'.kind = .function)
    (nI : s0.heap.get? it = none) (nD : s0.heap.get? D = none) (nC : s0.heap.get? C = none) (hCI : C ≠ it) (hDI : D ≠ it) (hCD : C ≠ D) (hcells : ∀ m c, (m, c) ∈ cl → s0.heap.get? c ≠ none)
    (hR : ∀ H' s', Inv W fr H' s' → Ext0 fr H0 s0.heap H' s'.heap → Q (.ref D) H' → (∃ m, s'.heap.Ns C m) → Priv W fr H' s'.heap C → R (.ok .next) s')
    (its : List AVal) (H : AHeap) (acc : List AVal) (vs : List Value) (k : Nat)
    (I : Inv W fr H s) (X : Ext0 fr H0 s0.heap H s.heap) (J : ItAt s.heap it src its) (pI : Priv W fr H s.heap it) (eD : s.heap.get? D = some (listOf vs.toArray k)) (rD : RepVs s.heap acc vs) (pD : Priv W fr H s.heap D)
    (pC : Priv W fr H s.heap C) (L : LocR W (compEnvC sc' cl C env) fr (del σ x) H s.heap) (hs : srcA src H) (hlen : acc.length + its.length ≤ bigL) (e : compA T V x src σ its H acc (fun ys H2 => newL H2 ys Q)) :
    codeAny (model W.prog W.w) A (.compLoop (.ListComp elt [⟨.Name x px, iter, ifs, 0⟩] sc' pos) 0 (.ref it) (.ref D) (compEnvC sc' cl C env)) R s := by
  have hh := ao.handled rfl
  have hkind : (compEnvC sc' cl C env).scope.kind = .function := hk
  have hp : ((compEnvC sc' cl C env).scope.kind == .class || ((compEnvC sc' cl C env).scope.kind == .module && (compEnvC sc' cl C env).locals != (compEnvC sc' cl C env).globals)) = false := by rw [hkind]; rfl
  have hcell : ∀ m c, (m, c) ∈ (compEnvC sc' cl C env).cells → ∀ a, s0.heap.get? a = none → c ≠ a := fun m c hm a ha z => hcells m c hm (z ▸ ha)
  refine codeAny_compLoop_tests (fun j s' => ∃ its H acc vs k, j = its.length ∧ Inv W fr H s' ∧ Ext0 fr H0 s0.heap H s'.heap ∧ ItAt s'.heap it src its ∧ Priv W fr H s'.heap it ∧ s'.heap.get? D = some (listOf vs.toArray k) ∧
    RepVs s'.heap acc vs ∧ Priv W fr H s'.heap D ∧ Priv W fr H s'.heap C ∧ LocR W (compEnvC sc' cl C env) fr (del σ x) H s'.heap ∧ srcA src H ∧ acc.length + its.length ≤ bigL ∧ compA T V x src σ its H acc (fun ys H2 => newL H2 ys Q)) ?_ its.length
    ⟨its, H, acc, vs, k, rfl, I, X, J, pI, eD, rD, pD, pC, L, hs, hlen, e⟩
  clear I X J pI eD rD pD pC L hs hlen e
  rintro j s1 ⟨its, H, acc, vs, k, rfl, I, X, J, pI, eD, rD, pD, pC, L, hs, hlen, e⟩
  cases its with
  | nil =>
    refine next_end I J hs hh fun h' x1 => ?_
    have S := pI.stab x1
    have eD' : h'.get? D = some (listOf vs.toArray k) := x1 D _ hDI eD
    have I' : Inv W fr H { s1 with heap := h' } := I.touch (t := s1.toks) pI x1
    obtain ⟨m, hn, _⟩ := L.ns
    have hn' : h'.Ns C m := hn.extBut x1 hCI
    have I2 := I'.adopt (a := D) (o := .list false acc) pD.hh (RepO.mkL eD' (rD.mono S) (by simpa using hlen)) pD.hb pD.hf
    refine hR _ _ I2 ((X.touch x1 nI).adopt nD) (e D pD.hh) ⟨m, hn'⟩ ⟨?_, pC.hf, pC.hb, ?_⟩
    · unfold hset; rw [if_neg hCD]; exact pC.hh
    · intro o ho
      obtain ⟨o', es, ep, h1, h2, _⟩ := hn'
      rw [h1] at ho; cases ho
      exact fun i => i.no_dict h2
  | cons a rest =>
    refine next_sound I J pI hs fun v h' tk rv J' x1 => ?_
    have S := pI.stab x1
    have I1 : Inv W fr H { s1 with heap := h', toks := tk } := I.touch pI x1
    have X1 := X.touch x1 nI
    have eD1 : h'.get? D = some (listOf vs.toArray k) := x1 D _ hDI eD
    have L1 := L.touch pI x1 hCI (fun m c hm => hcell m c hm it nI)
    obtain ⟨m, hn, hv⟩ := L1.ns
    have pI1 : Priv W fr H h' it := ⟨pI.hh, pI.hf, pI.hb, fun o ho => by obtain ⟨o', h1, h2⟩ := J'.imm; rw [h1] at ho; cases ho; exact h2⟩
    have pD1 : Priv W fr H h' D := ⟨pD.hh, pD.hf, pD.hb, fun o ho => by rw [eD1] at ho; cases ho; exact fun i => i.no_list rfl rfl⟩
    have nsC : ∀ {hh : Heap} {mm : Str → Option Value}, hh.Ns C mm → ∀ o, hh.get? C = some o → ¬ Imm o := fun hn o ho => by
      obtain ⟨o', es, ep, h1, h2, _⟩ := hn
      rw [h1] at ho; cases ho
      exact fun i => i.no_dict h2
    have pC1 : Priv W fr H h' C := ⟨pC.hh, pC.hf, pC.hb, nsC hn⟩
    dsimp only
    refine wpAny_assign_Name (wpAny_storeName_local hx hn (fun h2 hn2 hs2 => ?_) hp)
    have x2 : Heap.ExtBut C h' h2 := hs2.extBut
    have S2 := pC1.stab x2
    have I2 : Inv W fr H { s1 with heap := h2, toks := tk + 1 } := I1.touch pC1 x2
    have X2 := X1.touch x2 nC
    have J2 : ItAt h2 it src rest := J'.keep S2 fun o ho => x2 it o (Ne.symm hCI) ho
    have eD2 : h2.get? D = some (listOf vs.toArray k) := x2 D _ (Ne.symm hCD) eD1
    have pI2 : Priv W fr H h2 it := ⟨pI.hh, pI.hf, pI.hb, fun o ho => by obtain ⟨o', h1, h2⟩ := J2.imm; rw [h1] at ho; cases ho; exact h2⟩
    have pD2 : Priv W fr H h2 D := ⟨pD.hh, pD.hf, pD.hb, fun o ho => by rw [eD2] at ho; cases ho; exact fun i => i.no_list rfl rfl⟩
    have pC2 : Priv W fr H h2 C := ⟨pC.hh, pC.hf, pC.hb, nsC hn2⟩
    have rD2 := (rD.mono S).mono S2
    have L2 : LocR W (compEnvC sc' cl C env) fr (upd σ x a) H h2 := by
      refine ⟨⟨_, hn2, fun y av ey => ?_⟩, fun y av ey => ?_, L1.hl, L1.bl, fun y c hm => ?_, L1.cs⟩
      · unfold upd at ey
        split at ey
        · rename_i hy
          cases ey; subst hy
          exact .inr (.inl ⟨hx, v, by simp, rv.mono S2⟩)
        · rename_i hy
          rcases hv y av (by unfold del; rw [if_neg hy]; exact ey) with w | ⟨w, u, w1, w2⟩ | ⟨w, c, u, w1, ⟨o, w2, w3⟩, w4⟩
          · exact .inl w
          · exact .inr (.inl ⟨w, u, by simp [hy, w1], w2.mono S2⟩)
          · exact .inr (.inr ⟨w, c, u, w1, ⟨o, x2 c o (fun z => hcell y c (lookup_mem w1) C nC z) w2, w3⟩, w4.mono S2⟩)
      · unfold upd at ey
        split at ey
        · rename_i hy; subst hy; exact hd
        · rename_i hy; exact L1.dbg y av (by unfold del; rw [if_neg hy]; exact ey)
      · obtain ⟨c1, c2, c3, u, o, w2, w3⟩ := L1.cl y c hm
        exact ⟨c1, c2, c3, u, o, x2 c o (fun z => hcell y c hm C nC z) w2, w3⟩
    unfold compA at e
    refine wpAny_mono (hT _ H { s1 with heap := h2, toks := tk + 1 } _ e I2 L2) (fun b s3 hb => ?_) fun _ _ z => z.elim
    obtain ⟨H3, I3, X3, q3⟩ := hb
    have S3 := X3.stab I2
    obtain ⟨oI, hI2, _⟩ := J2.imm
    obtain ⟨pI3, eI3⟩ := pI2.step hI2 X3 (fun z => z)
    have J3 : ItAt s3.heap it src rest := J2.keep S3 fun o ho => X3.keep it o ho pI2.hh (fun z => z) pI2.hf
    obtain ⟨pD3, eD3⟩ := pD2.step eD2 X3 (fun z => z)
    have L3 := L2.step I2 X3
    have rD3 := rD2.mono S3
    have pC3 : Priv W fr H3 s3.heap C := by
      obtain ⟨o', es, ep, h1, h2, _⟩ := hn2
      exact (pC2.step h1 X3 (fun z => z)).1
    have dl : ∀ {HH : AHeap} {hhp : Heap}, LocR W (compEnvC sc' cl C env) fr (upd σ x a) HH hhp → LocR W (compEnvC sc' cl C env) fr (del σ x) HH hhp := fun L => by
      obtain ⟨⟨m, hn, hv⟩, l2, l3, l4, l5, l6⟩ := L
      have sub : ∀ y av, del σ x y = some av → upd σ x a y = some av := fun y av ey => by
        unfold del at ey; unfold upd
        split at ey
        · cases ey
        · rename_i hy; rw [if_neg hy]; exact ey
      exact ⟨⟨m, hn, fun y av ey => hv y av (sub y av ey)⟩, fun y av ey => l2 y av (sub y av ey), l3, l4, l5, l6⟩
    have hlen' : acc.length + rest.length + 1 ≤ bigL := by simpa [Nat.add_assoc] using hlen
    cases b with
    | false =>
      rw [if_neg (by decide)]
      exact ⟨rest.length, by simp, rest, H3, acc, vs, k, rfl, I3, X2.trans X3, J3, pI3, eD3, rD3, pD3, pC3, dl L3, q3.1, by omega, q3.2⟩
    | true =>
      rw [if_pos rfl]
      refine wpAny_mono (hV _ H3 s3 _ q3 I3 L3) (fun u s4 hb => ?_) fun _ _ z => z.elim
      obtain ⟨av, H4, ru, I4, X4, q4⟩ := hb
      have S4 := X4.stab I3
      obtain ⟨pI4, eI4⟩ := pI3.step eI3 X4 (fun z => z)
      have J4 : ItAt s4.heap it src rest := J3.keep S4 fun o ho => X4.keep it o ho pI3.hh (fun z => z) pI3.hf
      obtain ⟨pD4, eD4⟩ := pD3.step eD3 X4 (fun z => z)
      have L4 := L3.step I3 X4
      have rD4 := rD3.mono S4
      have pC4 : Priv W fr H4 s4.heap C := by
        obtain ⟨m3, ⟨o', es, ep, h1, h2, _⟩, _⟩ := L3.ns
        exact (pC3.step h1 X4 (fun z => z)).1
      have hb : bigL = 1000000 := rfl
      refine call_meets PySem.F.slot_list_append ⟨_, eD4, rfl⟩ PySem.F.entry_list_append (PySem.F.args_list_append_2 _ _) (PySem.list_append D vs.toArray k u (by rw [List.size_toArray, rD4.length]; exact Nat.le_trans (by omega) big_line)) ⟨eD4, ?_⟩
      have hs5 : Heap.SameBut D s4.heap (s4.heap.update D (Obj.mapSeq fun z => z.push u)) := Heap.SameBut.update ..
      have x5 := hs5.extBut
      have S5 := pD4.stab x5
      have h5 := PySem.IsL.update eD4 (fun z => z.push u)
      have e5 : vs.toArray.push u = (vs ++ [u]).toArray := by simp
      obtain ⟨k5, eD5⟩ : ∃ k5, (s4.heap.update D (Obj.mapSeq fun z => z.push u)).get? D = some (listOf (vs ++ [u]).toArray k5) := ⟨_, by rw [← e5]; exact h5⟩
      have I5 : Inv W fr H4 { s4 with heap := s4.heap.update D (Obj.mapSeq fun z => z.push u) } := I4.touch (t := s4.toks) pD4 x5
      have J5 : ItAt (s4.heap.update D (Obj.mapSeq fun z => z.push u)) it src rest := J4.keep S5 fun o ho => x5 it o (Ne.symm hDI) ho
      refine ⟨rest.length, by simp, rest, H4, acc ++ [av], vs ++ [u], k5, rfl, I5, ((X2.trans X3).trans X4).touch x5 nD, J5, ⟨pI4.hh, pI4.hf, pI4.hb, fun o ho => ?_⟩, eD5, (rD4.mono S5).append (.cons (ru.mono S5) .nil),
        ⟨pD4.hh, pD4.hf, pD4.hb, fun o ho => ?_⟩, ⟨pC4.hh, pC4.hf, pC4.hb, fun o ho => ?_⟩, dl (L4.touch pD4 x5 hCD fun m c hm => hcell m c hm D nD), q4.1, by simp; omega, q4.2⟩
      · obtain ⟨o', h1, h2⟩ := J5.imm; rw [h1] at ho; cases ho; exact h2
      · rw [eD5] at ho; cases ho; exact fun i => i.no_list rfl rfl
      · have h1 := (hs5.2 C hCD).symm.trans ho
        exact pC4.im o h1
end
end Mine

/-! Comprehensions, whole. -/
set_option maxRecDepth 100000
namespace Mine
open PySem PySem.Calls PyProof.Rows PySem.W

section
variable {W : Wd} {n : Nat} {fr : List Env} {A : Around}

theorem grown_none {h h' : Heap} (k : ∀ b o, h.get? b = some o → h'.get? b = some o) {a : Addr} (e : h'.get? a = none) : h.get? a = none := by
  cases q : h.get? a with
  | none => rfl
  | some o => rw [k a o q] at e; cases e

theorem iter_again {h : Heap} {it : Addr} {src : Option (Addr × AObj)} {its : List AVal} (J : ItAt h it src its) {s : Shared} (hh : s.heap = h) {R : Value → Shared → Prop} {E : Value → Shared → Prop} (hR : R (.ref it) s) :
    wpAny (model W.prog W.w) A (pyIter (.ref it)) R E s := by
  subst hh
  cases J with
  | list i hi => exact wpAny_pyIter_listiter hi hR
  | tup i hi _ _ => exact wpAny_pyIter_tupleiter hi hR
  | range hi => exact wpAny_pyIter_rangeiter hi hR

theorem comp_block {env : Env} {sc' : Scope} {x : Str} {px : Pos} {elt iter : Expr} {ifs : List Expr} {pos : Pos} {σ : Loc} {H : AHeap} {s : Shared} {a : AVal} {xv : Value} {its : List AVal} {src : Option (Addr × AObj)} {cl : List (Str × Addr)}
    {T : Loc → AHeap → PB → Prop} {V : Loc → AHeap → PV → Prop} {Q : PV} {RR : Value → Addr → Result → Shared → Prop} {E : Value → Shared → Prop} (ao : AOk n true fr A) (eo : EnvOk env)
    (hT : ∀ C σ' H' s' Q', T σ' H' Q' → Inv W fr H' s' → LocR W (compEnvC sc' cl C env) fr σ' H' s'.heap →
      wpAny (model W.prog W.w) A (forIn ifs true fun c r => if r = true then do let ok ← isTrue c (compEnvC sc' cl C env) (eval c (compEnvC sc' cl C env)); pure (ForInStep.yield ok) else pure (ForInStep.yield r)) (PBc W fr H' s' Q') (fun _ _ => False) s')
    (hV : ∀ C σ' H' s' Q', V σ' H' Q' → Inv W fr H' s' → LocR W (compEnvC sc' cl C env) fr σ' H' s'.heap → wpAny (model W.prog W.w) A (eval elt (compEnvC sc' cl C env)) (PVc W fr H' s' Q') (fun _ _ => False) s')
    (hc : compOk env.scope sc' = true) (hx : (relabelS env.scope sc').names.lookup x = some .local) (hx' : sc'.names.all (fun (n, k) => k != .local || n == x || (env.scope.names.lookup n).isNone) = true) (hd : (x == ("__debug__" : Str)) = false)
    (full : ∀ y av, σ y = some av → env.kindOf y ≠ none)
    (hc1 : ∀ n c, (n, c) ∈ cl → env.cells.lookup n = some c) (hc2 : ∀ n, (n, NameKind.free) ∈ sc'.names → ∃ c, (n, c) ∈ cl)
    (I : Inv W fr H s) (L : LocR W env fr σ H s.heap) (ra : RepV s.heap a xv) (ei : itemsA H a = some (its, src)) (hlen : its.length ≤ bigL)
    (e : compA T V x src σ its H [] (fun ys H2 => newL H2 ys Q))
    (hRR : ∀ D C H' s', Inv W fr H' s' → Ext0 fr H s.heap H' s'.heap → s.heap.get? C = none → Q (.ref D) H' → (∃ m, s'.heap.Ns C m) → Priv W fr H' s'.heap C → RR (.ref D) C (.ok .next) s') :
    wpAny (model W.prog W.w) A (pyIter xv) (fun it s₂ => wpAny (model W.prog W.w) A (newList []) (fun acc s₃ => wpAny (model W.prog W.w) A (newFunctionEnv sc' env.globals cl [] env.qual none .none (some env)) (fun cenv s₄ =>
      codeAny (model W.prog W.w) A (.compStart (.ListComp elt [⟨.Name x px, iter, ifs, 0⟩] sc' pos) 0 it acc { cenv with scope := relabel sc' env }) (RR acc cenv.locals) s₄) E s₃) E s₂) E s := by
  obtain ⟨hk, hall⟩ := compOk_all hc
  have hcell : ∀ y ∈ sc'.names, y.2 ≠ .cell := fun y hy => by
    rcases hall y.1 y.2 hy with ⟨z, _⟩ | ⟨z, _⟩ | ⟨z, _⟩ <;> rw [z] <;> decide
  refine iter_sound I ra ei fun it h1 nI k1 J1 hs => ?_
  refine wpAny_newObj_type (wpAny_newFunctionEnv hcell (by intro y hy; simp at hy) (fun h2 hn2 sb2 => ?_) hk)
  dsimp only at hn2 sb2 ⊢
  generalize hH2 : h1.push { cls := .type "list", dict := none, data := .seq ([] : List Value).toArray } = H2 at hn2 sb2 ⊢
  have hC : H2.objs.size = h1.objs.size + 1 := by rw [← hH2, Heap.size_push]
  have k2 : ∀ b o, h1.get? b = some o → H2.get? b = some o := fun b o eb => hH2 ▸ Heap.get?_push_of_some _ eb
  have k3 : ∀ b o, H2.get? b = some o → h2.get? b = some o := fun b o eb => sb2.extBut b o (Nat.ne_of_lt (Heap.lt_size eb)) (Heap.get?_push_of_some _ eb)
  have k12 : ∀ b o, s.heap.get? b = some o → H2.get? b = some o := fun b o eb => k2 b o (k1 b o eb)
  have k : ∀ b o, s.heap.get? b = some o → h2.get? b = some o := fun b o eb => k3 b o (k12 b o eb)
  have nD : s.heap.get? h1.objs.size = none := grown_none k1 (size_none _)
  have nC : s.heap.get? H2.objs.size = none := grown_none k12 (size_none _)
  obtain ⟨oI, hI1, iI⟩ := J1.imm
  have hIlt : it < h1.objs.size := Heap.lt_size hI1
  have hCI : H2.objs.size ≠ it := by rw [hC]; exact Nat.ne_of_gt (Nat.lt_succ_of_lt hIlt)
  have hDI : h1.objs.size ≠ it := Nat.ne_of_gt hIlt
  have hCD : H2.objs.size ≠ h1.objs.size := by rw [hC]; exact Nat.ne_of_gt (Nat.lt_succ_self _)
  have eD : h2.get? h1.objs.size = some (listOf ([] : List Value).toArray 0) := k3 _ _ (hH2 ▸ Heap.get?_push_size _ rfl)
  have I2 : Inv W fr H { s with heap := h2, toks := s.toks + ([] : List (Str × Value)).length } := I.grown k
  have eI : h2.get? it = some oI := k3 _ _ (k2 _ _ hI1)
  have J2 : ItAt h2 it src its := J1.keep (.of fun b o eb _ => k3 _ _ (k2 _ _ eb)) fun o eb => k3 _ _ (k2 _ _ eb)
  have pI : Priv W fr H h2 it := I.priv nI fun o ho => by rw [eI] at ho; cases ho; exact iI
  have pD : Priv W fr H h2 h1.objs.size := I.priv nD fun o ho => by rw [eD] at ho; cases ho; exact fun i => i.no_list rfl rfl
  have pC : Priv W fr H h2 H2.objs.size := I.priv nC fun o ho => by
    obtain ⟨o', es, ep, q1, q2, _⟩ := hn2
    rw [q1] at ho; cases ho
    exact fun i => i.no_dict q2
  have L2 : LocR W (compEnvC sc' cl H2.objs.size env) fr (del σ x) H h2 := comp_loc L eo full hc hx' hc1 hc2 k hn2 nC pC.hh pC.hb
  have hcells : ∀ m c, (m, c) ∈ cl → s.heap.get? c ≠ none := fun m c hm z => by
    obtain ⟨_, _, _, v, o, h3, _⟩ := L.cl m c (lookup_mem (hc1 m c hm))
    rw [h3] at z; cases z
  have hxk : (compEnvC sc' cl H2.objs.size env).kindOf x = some .local := by
    show (relabel sc' env).names.lookup x = _
    rw [relabel_eq eo.kind]; exact hx
  have loop : codeAny (model W.prog W.w) A (.compLoop (.ListComp elt [⟨.Name x px, iter, ifs, 0⟩] sc' pos) 0 (.ref it) (.ref h1.objs.size) (compEnvC sc' cl H2.objs.size env)) (RR (.ref h1.objs.size) H2.objs.size)
      { s with heap := h2, toks := s.toks + ([] : List (Str × Value)).length } :=
    comp_loop (s0 := s) (H0 := H) (Q := Q) ao (hT _) (hV _) eo hxk hd hk nI nD nC hCI hDI hCD hcells (fun H' s' I' X' q m p => hRR _ _ H' s' I' X' nC q m p) its H [] [] 0 I2 (Ext.grown k) J2 pI eD .nil pD pC L2 hs (by simpa using hlen) e
  exact codeAny_compStart_list loop (iter_again J2 rfl loop)

theorem comp_sound {env : Env} {sc' : Scope} {x : Str} {px : Pos} {elt iter : Expr} {ifs : List Expr} {pos : Pos} {σ : Loc} {H : AHeap} {s : Shared}
    {T : Loc → AHeap → PB → Prop} {V : Loc → AHeap → PV → Prop} {Q : PV} {E : PE} (ao : q = true → AOk n true fr A) (eo : EnvOk env)
    (hT : ∀ cl C σ' H' s' Q', T σ' H' Q' → Inv W fr H' s' → LocR W (compEnvC sc' cl C env) fr σ' H' s'.heap →
      wpAny (model W.prog W.w) A (forIn ifs true fun c r => if r = true then do let ok ← isTrue c (compEnvC sc' cl C env) (eval c (compEnvC sc' cl C env)); pure (ForInStep.yield ok) else pure (ForInStep.yield r)) (PBc W fr H' s' Q') (fun _ _ => False) s')
    (hV : ∀ cl C σ' H' s' Q', V σ' H' Q' → Inv W fr H' s' → LocR W (compEnvC sc' cl C env) fr σ' H' s'.heap → wpAny (model W.prog W.w) A (eval elt (compEnvC sc' cl C env)) (PVc W fr H' s' Q') (fun _ _ => False) s')
    (hc : compOk env.scope sc' = true) (hx : (relabelS env.scope sc').names.lookup x = some .local) (hx' : sc'.names.all (fun (n, k) => k != .local || n == x || (env.scope.names.lookup n).isNone) = true) (hd : (x == ("__debug__" : Str)) = false)
    (full : ∀ y av, σ y = some av → env.kindOf y ≠ none) (L : LocR W env fr σ H s.heap) (I : Inv W fr H s)
    (hs : ∀ x, foldedSetIterable iter env x = pure x)
    (e : wpAny (model W.prog W.w) A (eval iter env) (PVc W fr H s fun v H1 => ∃ its src, itemsA H1 v = some (its, src) ∧ (q = true ∧ its.length ≤ bigL) ∧ compA T V x src σ its H1 [] (fun ys H2 => newL H2 ys Q)) (PEc W fr H s E) s) :
    wpAny (model W.prog W.w) A (eval (.ListComp elt [⟨.Name x px, iter, ifs, 0⟩] sc' pos) env) (PVc W fr H s Q) (PEc W fr H s E) s := by
  obtain ⟨cl, hcl, hc1, hc2⟩ := closure_sound L hc
  obtain ⟨hk, hall⟩ := compOk_all hc
  have hnames : ∀ y ∈ sc'.names, y.2 = .local → sc'.names.lookup y.1 = some .local := fun y hy z => by
    rcases hall y.1 y.2 hy with ⟨_, w⟩ | ⟨w, _⟩ | ⟨w, _⟩
    · exact w
    · rw [z] at w; cases w
    · rw [z] at w; cases w
  rw [eval_ListComp]
  refine wpAny_comprehension_free (use := none) rfl hs hcl hk hnames (wpAny_mono e (fun xv s1 h1 => ?_) fun _ _ z => z)
  obtain ⟨a, H1, ra, I1, X1, q1⟩ := h1
  obtain ⟨its, src, ei, q1⟩ := q1
  · refine comp_block (ao q1.1.1) eo (hT cl) (hV cl) hc hx hx' hd full hc1 hc2 I1 (L.step I X1) ra ei q1.1.2 q1.2 fun D C H' s' I' X' nC qd hm pC => ?_
    obtain ⟨m, hm⟩ := hm
    refine ⟨m, hm, fun h' hs' => ⟨.ref D, H', .ref D, I'.touch (t := s'.toks) pC hs'.extBut, X1.trans (X'.touch hs'.extBut nC), qd⟩⟩
end
end Mine

/-! Expressions, all. -/
set_option maxRecDepth 100000
namespace Mine
open PySem PySem.Calls PyProof.Rows PySem.W

section
variable {W : Wd} {n : Nat} {q : Bool} {fr : List Env} {A : Around}

noncomputable def Full (env : Env) (σ : Loc) : Prop := ∀ y av, σ y = some av → env.kindOf y ≠ none

theorem bi_sound (wo : WOk W) (ao : AOk n q fr A) {H : AHeap} {s : Shared} {E : Value → Shared → Prop} (I : Inv W fr H s) {id : String} {avs : List AVal} {vs : List Value} {Q : PV} (r : RepVs s.heap avs vs) (e : biA W.K q id avs H Q) :
    wpAny (model W.prog W.w) A (call (.builtin id) vs) (PVc W fr H s Q) E s := by
  unfold biA at e
  split at e
  · rename_i hid
    rw [beq_iff_eq.mp hid]
    split at e
    · split at e
      · rename_i hl
        obtain ⟨v, rfl, r1⟩ := r.one; exact len_sound I r1 hl e
      · exact e.elim
    · exact e.elim
  · split at e
    · rename_i hid
      rw [beq_iff_eq.mp hid]
      split at e
      · split at e
        · rename_i hl
          obtain ⟨v, u, rfl, r1, r2⟩ := r.two; obtain rfl := r2.inv; exact isi_sound I wo r1 hl e
        · exact e.elim
      · exact e.elim
    · exact e.elim

theorem callA_sound (wo : WOk W) (ao : AOk n q fr A) {H : AHeap} {s : Shared} {E : PE} (I : Inv W fr H s) {f : AVal} {fv : Value} {avs : List AVal} {vs : List Value} {Q : PV} (r : RepVs s.heap avs vs) (rf : RepV s.heap f fv)
    (e : callA W.K (CallOk W n) q f avs H Q E) : wpAny (model W.prog W.w) A (call fv vs) (PVc W fr H s Q) (PEc W fr H s E) s := by
  unfold callA at e
  split at e
  · obtain rfl := rf.inv; exact e A fr s vs ao I r
  · obtain rfl := rf.inv
    split at e
    · exact bi_sound wo ao I r e
    · exact e A fr s vs ao I r
  · obtain rfl := rf.inv
    exact e A fr s vs ao I r
  · exact e.elim

theorem callM_sound (ao : AOk n q fr A) {H : AHeap} {s : Shared} {E : PE} (I : Inv W fr H s) {a : Addr} {name : Str} {id : String} (hid : (name = Str.ofString "append" ∧ id = "list.append") ∨ (name = Str.ofString "pop" ∧ id = "list.pop") ∨ (name = Str.ofString "count" ∧ id = "list.count"))
    {avs : List AVal} {vs : List Value} {Q : PV} (r : RepVs s.heap avs vs)
    (e : callM (CallOk W n) q (.lm a name) avs H Q E) : wpAny (model W.prog W.w) A (call (.builtin id) (.ref a :: vs)) (PVc W fr H s Q) (PEc W fr H s E) s := by
  unfold callM at e
  dsimp only at e
  rcases hid with ⟨rfl, rfl⟩ | ⟨rfl, rfl⟩ | ⟨rfl, rfl⟩
  · rw [if_pos rfl] at e
    split at e
    · rename_i ro xs ha
      split at e
      · obtain ⟨rfl, hl, e⟩ := e
        obtain ⟨v, rfl, r1⟩ := r.one; exact append_sound I ha r1 hl e
      · exact e.elim
    · exact e.elim
  · rw [if_neg (by decide), if_pos rfl] at e
    exact e A fr s _ ao I (.cons (.ref a) r)
  · rw [if_neg (by decide), if_neg (by decide), if_pos rfl] at e
    exact e A fr s _ ao I (.cons (.ref a) r)

theorem attributeBase_plain {o : Expr} {name : Str} {env : Env} {w : Sem Value} (h : baseOk o = true) : attributeBase o name env w = w := by
  cases o <;> first | rfl | (cases h)

theorem starEach_all {env : Env} {pos : Pos} : ∀ {es : List Expr}, (∀ e ∈ es, ∀ x p, e ≠ Expr.Starred x p) → (backTo pos (starEach es env)).all (!·.1) = true
  | [], _ => rfl
  | e :: r, h => by
    rw [starEach_plain (h e List.mem_cons_self)]
    show (!false && (backTo pos (starEach r env)).all (!·.1)) = true
    rw [starEach_all fun x hx => h x (List.mem_cons_of_mem _ hx)]; rfl

theorem behind_of {K : Frag} {top : Bool} {sc : Scope} {op : CmpOp} {e : Expr} (h : scE K top sc e = true) : behindInMarks op e = false := by
  cases e <;> first | rfl | exact absurd (show false = true from h) (by decide)
theorem lastMarks_of {K : Frag} {top : Bool} {sc : Scope} (ops : List CmpOp) : ∀ (es : List Expr), scEs K top sc es = true → lastMarks ops es = false := by
  induction ops with
  | nil => intro es _; simp [lastMarks]
  | cons op ops ih =>
    intro es h
    cases es with
    | nil => simp [lastMarks]
    | cons e es =>
      simp only [cs_cons, Bool.and_eq_true] at h
      have i := ih es h.2
      cases ops with
      | nil =>
        cases es with
        | nil => exact behind_of h.1
        | cons _ _ => simp [lastMarks]
      | cons _ _ => simpa [lastMarks] using i

noncomputable def isDef : Expr → Bool
  | .UnaryOp .Not _ _ => false
  | .BoolOp _ _ _ => false
  | .IfExp _ _ _ _ => false
  | .Compare _ _ _ _ => false
  | _ => true
theorem tst_dft {K : Frag} {Φ : Bool → CallP} {e : Expr} (hd : isDef e = true) {Wh : Loc → AHeap → PV → PE → Prop} {σ : Loc} {H : AHeap} {Q : PB} {E : PE} :
    (tst K Φ q e Wh σ H Q E → Wh σ H (fun v H1 => boolA v fun b => Q b H1) E) ∧ ∀ env whole, isTrue e env whole = (do let v ← whole; standAt e.pos; holding [v] (truthy v)) := by
  cases e with
  | UnaryOp op _ _ => cases op <;> first | (cases hd; done) | exact ⟨fun h => by exact h, fun _ _ => rfl⟩
  | BoolOp _ _ _ => cases hd
  | IfExp _ _ _ _ => cases hd
  | Compare _ _ _ _ => cases hd
  | _ => exact ⟨fun h => by exact h, fun _ _ => rfl⟩

theorem pe_false {H : AHeap} {s : Shared} {x : Value} {s' : Shared} (p : PEc W fr H s (fun _ _ => False) x s') : False := by
  obtain ⟨_, _, _, _, _, _, _, z⟩ := p
  exact z
theorem pv_up {m : Sem Value} {H H1 : AHeap} {s s1 : Shared} {Q : PV} {E : PE} (X : Ext0 fr H s.heap H1 s1.heap) (h : wpAny (model W.prog W.w) A m (PVc W fr H1 s1 Q) (PEc W fr H1 s1 E) s1) :
    wpAny (model W.prog W.w) A m (PVc W fr H s Q) (PEc W fr H s E) s1 := wpAny_mono h (fun _ _ p => p.trans X) fun _ _ p => p.trans X
theorem pb_up {m : Sem Bool} {H H1 : AHeap} {s s1 : Shared} {Q : PB} {E : PE} (X : Ext0 fr H s.heap H1 s1.heap) (h : wpAny (model W.prog W.w) A m (PBc W fr H1 s1 Q) (PEc W fr H1 s1 E) s1) :
    wpAny (model W.prog W.w) A m (PBc W fr H s Q) (PEc W fr H s E) s1 := wpAny_mono h (fun _ _ p => p.trans X) fun _ _ p => p.trans X
theorem pv_then {α : Type} {m : Sem Value} {k : Value → Sem α} {H : AHeap} {s : Shared} {Q1 : PV} {E : PE} {P : α → Shared → Prop} (h : wpAny (model W.prog W.w) A m (PVc W fr H s Q1) (PEc W fr H s E) s)
    (hk : ∀ v s1 av H1, RepV s1.heap av v → Inv W fr H1 s1 → Ext0 fr H s.heap H1 s1.heap → Q1 av H1 → wpAny (model W.prog W.w) A (k v) P (PEc W fr H s E) s1) : wpAny (model W.prog W.w) A (m >>= k) P (PEc W fr H s E) s :=
  wpAny_bind (wpAny_mono h (fun v s1 ⟨av, H1, a, b, c, d⟩ => hk v s1 av H1 a b c d) fun _ _ x => x)
theorem pv_post {m : Sem Value} {H : AHeap} {s : Shared} {Q1 : PV} {E : PE} {P : Value → Shared → Prop} (h : wpAny (model W.prog W.w) A m (PVc W fr H s Q1) (PEc W fr H s E) s)
    (hk : ∀ v s1 av H1, RepV s1.heap av v → Inv W fr H1 s1 → Ext0 fr H s.heap H1 s1.heap → Q1 av H1 → P v s1) : wpAny (model W.prog W.w) A m P (PEc W fr H s E) s :=
  wpAny_mono h (fun v s1 ⟨av, H1, a, b, c, d⟩ => hk v s1 av H1 a b c d) fun _ _ x => x

theorem relabel_all {sc sc' : Scope} {x : Str} (h : ((relabelS sc sc').names.all fun (n, k) => k != .local || n == x || (sc.names.lookup n).isNone) = true) : (sc'.names.all fun (n, k) => k != .local || n == x || (sc.names.lookup n).isNone) = true := by
  refine List.all_eq_true.mpr fun p hp => ?_
  obtain ⟨m, k⟩ := p
  by_cases hk : k = .local
  · subst hk
    have := List.all_eq_true.mp h (m, .local) (List.mem_map.mpr ⟨(m, .local), hp, rfl⟩)
    exact this
  · simp [hk]

theorem gens_of {K : Frag} {Φ : Bool → CallP} {V : Loc → AHeap → PV → Prop} {gens : List Comprehension} {σ : Loc} {H : AHeap} {Q : PV} {E : PE} (he : evC K Φ q V gens σ H Q E) : ∃ x px iter ifs, gens = [⟨.Name x px, iter, ifs, 0⟩] := by
  cases gens with
  | nil => exact (show False from he).elim
  | cons g r =>
    obtain ⟨t, iter, ifs, k⟩ := g
    cases r with
    | cons _ _ => cases t <;> exact (show False from he).elim
    | nil =>
      cases t with
      | Name x px =>
        obtain rfl : k = 0 := And.left he
        exact ⟨_, _, _, _, rfl⟩
      | _ => exact (show False from he).elim

noncomputable def EvP (W : Wd) (n : Nat) (q : Bool) (fr : List Env) (A : Around) (e : Expr) : Prop := ∀ (top : Bool) (env : Env) (σ : Loc) (H : AHeap) (s : Shared) (Q : PV) (E : PE), EnvOk env → (top = true → Full env σ) → scE W.K top env.scope e = true →
  ev W.K (CallOk W n) q e σ H Q E → Inv W fr H s → LocR W env fr σ H s.heap → wpAny (model W.prog W.w) A (eval e env) (PVc W fr H s Q) (PEc W fr H s E) s
noncomputable def TstP (W : Wd) (n : Nat) (q : Bool) (fr : List Env) (A : Around) (e : Expr) : Prop := ∀ (top : Bool) (env : Env) (σ : Loc) (H : AHeap) (s : Shared) (Q : PB) (E : PE), EnvOk env → (top = true → Full env σ) → scE W.K top env.scope e = true →
  tst W.K (CallOk W n) q e (fun σ' H' Q' E' => ev W.K (CallOk W n) q e σ' H' Q' E') σ H Q E → Inv W fr H s → LocR W env fr σ H s.heap → wpAny (model W.prog W.w) A (isTrue e env (eval e env)) (PBc W fr H s Q) (PEc W fr H s E) s

theorem evB_snd (wo : WOk W) (ao : AOk n q fr A) (vs : List Expr) (hall : ∀ e ∈ vs, EvP W n q fr A e) (op : BoolOp) (pos : Pos) (top : Bool) (env : Env) (σ : Loc) (H : AHeap) (s : Shared) (Q : PV) (E : PE) (eo : EnvOk env) (full : top = true → Full env σ) (hs : scEs W.K top env.scope vs = true)
    (he : evB W.K (CallOk W n) q op vs σ H Q E) (I : Inv W fr H s) (L : LocR W env fr σ H s.heap) : wpAny (model W.prog W.w) A (boolOp pos op (evalEach vs env)) (PVc W fr H s Q) (PEc W fr H s E) s := by
  match vs, hall, hs, he with
  | [], _, _, he => exact (show False from he).elim
  | [e], hall, hs, he =>
    simp only [vB_one, vB_cons] at he; simp only [cs_nil, cs_cons, Bool.and_eq_true] at hs
    exact hall e List.mem_cons_self top env σ H s Q E eo full hs.1 he I L
  | e :: e' :: r, hall, hs, he =>
    simp only [vB_one, vB_cons] at he; simp only [cs_nil, cs_cons, Bool.and_eq_true] at hs
    show wpAny (model W.prog W.w) A (eval e env >>= _) _ _ s
    refine pv_then (hall e List.mem_cons_self top env σ H s _ E eo full hs.1 he I L) fun v s1 av H1 rv I1 X1 h1 => ?_
    refine wpAny_bind (wpAny_standAt (wpAny_bind (wpAny_holding ?_)))
    have L1 := L.step I X1
    obtain ⟨b, rfl, h1⟩ := rv.isBool h1
    · refine wpAny_truthy_bool ?_
      have go : evB W.K (CallOk W n) q op (e' :: r) σ H1 Q E → wpAny (model W.prog W.w) A (boolOp pos op (evalEach (e' :: r) env)) (PVc W fr H s Q) (PEc W fr H s E) s1 := fun h =>
        pv_up X1 (evB_snd wo ao (e' :: r) (fun y hy => hall y (List.mem_cons_of_mem _ hy)) op pos top env σ H1 s1 Q E eo full (by simp only [cs_nil, cs_cons, Bool.and_eq_true]; exact hs.2) h I1 L1)
      cases op <;> cases b
      · exact wpAny_pure ((pv_here I1 (.bool _) h1).trans X1)
      · exact go h1
      · exact go h1
      · exact wpAny_pure ((pv_here I1 (.bool _) h1).trans X1)

theorem cmp_snd (wo : WOk W) (ao : AOk n q fr A) (rs : List Expr) (hall : ∀ e ∈ rs, EvP W n q fr A e) (ops : List CmpOp) (pos : Pos) (a : AVal) (v : Value) (top : Bool) (env : Env) (σ : Loc) (H : AHeap) (s : Shared) (Q : PB) (E : PE) (eo : EnvOk env) (full : top = true → Full env σ) (hs : scEs W.K top env.scope rs = true)
    (he : cmpE W.K (CallOk W n) q a ops rs σ H Q E) (I : Inv W fr H s) (L : LocR W env fr σ H s.heap) (ra : RepV s.heap a v) :
    wpAny (model W.prog W.w) A (compareChain pos v ops (evalEach rs env)) (fun u s' => ∃ b, u = .bool b ∧ PBc W fr H s Q b s') (PEc W fr H s E) s ∧
    wpAny (model W.prog W.w) A (testChain pos v ops (evalEach rs env)) (PBc W fr H s Q) (PEc W fr H s E) s := by
  match ops, rs, hall, hs, he with
  | [op], [r], hall, hs, he =>
    simp only [vC_one, vC_two] at he; simp only [cs_nil, cs_cons, Bool.and_eq_true] at hs
    have h := hall r List.mem_cons_self top env σ H s _ E eo full hs.1 he I L
    constructor
    · refine chain_last (pv_post h fun u s1 bv H1 ru I1 X1 h1 => ?_)
      split at h1
      · rename_i c hc
        exact cmp_sound I1 (ra.mono (X1.stab I)) ru hc ao.room ⟨c, rfl, H1, I1, X1, h1⟩
      · exact h1.elim
    · refine test_last (pv_post h fun u s1 bv H1 ru I1 X1 h1 => ?_)
      split at h1
      · rename_i c hc
        exact cmp_sound I1 (ra.mono (X1.stab I)) ru hc ao.room (wpAny_truthy_bool ⟨H1, I1, X1, h1⟩)
      · exact h1.elim
  | op :: op' :: ops, r :: r' :: rs, hall, hs, he =>
    simp only [vC_one, vC_two] at he; rw [cs_cons] at hs; simp only [Bool.and_eq_true] at hs
    have h := hall r List.mem_cons_self top env σ H s _ E eo full hs.1 he I L
    constructor
    · refine chain_link (pv_post h fun u s1 bv H1 ru I1 X1 h1 => ?_)
      split at h1
      · rename_i hc
        refine cmp_sound I1 (ra.mono (X1.stab I)) ru hc ao.room (wpAny_truthy_bool ?_)
        rw [if_pos rfl]
        refine wpAny_mono (cmp_snd wo ao (r' :: rs) (fun y hy => hall y (List.mem_cons_of_mem _ hy)) (op' :: ops) pos bv u top env σ H1 s1 Q E eo full hs.2 h1 I1 (L.step I X1) ru).1 (fun _ _ p => ?_) fun _ _ p => p.trans X1
        obtain ⟨b, z, p⟩ := p
        exact ⟨b, z, p.trans X1⟩
      · rename_i hc
        refine cmp_sound I1 (ra.mono (X1.stab I)) ru hc ao.room (wpAny_truthy_bool ?_)
        rw [if_neg (by decide)]
        exact ⟨false, rfl, H1, I1, X1, h1⟩
      · exact h1.elim
    · refine test_link (pv_post h fun u s1 bv H1 ru I1 X1 h1 => ?_)
      split at h1
      · rename_i hc
        refine cmp_sound I1 (ra.mono (X1.stab I)) ru hc ao.room (wpAny_truthy_bool ?_)
        rw [if_pos rfl]
        exact pb_up X1 (cmp_snd wo ao (r' :: rs) (fun y hy => hall y (List.mem_cons_of_mem _ hy)) (op' :: ops) pos bv u top env σ H1 s1 Q E eo full hs.2 h1 I1 (L.step I X1) ru).2
      · rename_i hc
        refine cmp_sound I1 (ra.mono (X1.stab I)) ru hc ao.room (wpAny_truthy_bool ?_)
        rw [if_neg (by decide)]
        exact ⟨H1, I1, X1, h1⟩
      · exact h1.elim
  | [], rs, _, _, he => cases rs <;> exact (show False from he).elim
  | [_], [], _, _, he => exact (show False from he).elim
  | [_], _ :: _ :: _, _, _, he => exact (show False from he).elim
  | _ :: _ :: _, [], _, _, he => exact (show False from he).elim
  | _ :: _ :: _, [_], _, _, he => exact (show False from he).elim

theorem evs_snd (wo : WOk W) (ao : AOk n q fr A) (es : List Expr) (hall : ∀ e ∈ es, EvP W n q fr A e) (pos : Pos) (top : Bool) (env : Env) (σ : Loc) (H : AHeap) (s : Shared) (Q : List AVal → AHeap → Prop) (E : PE) (eo : EnvOk env) (full : top = true → Full env σ) (hs : scEs W.K top env.scope es = true)
    (he : evs W.K (CallOk W n) q es σ H Q E) (I : Inv W fr H s) (L : LocR W env fr σ H s.heap) : wpAny (model W.prog W.w) A (spliced (backTo pos (starEach es env))) (PLc W fr H s Q) (PEc W fr H s E) s := by
  match es, hall, hs, he with
  | [], _, _, he =>
    simp only [vs_nil] at he
    exact spliced_none ⟨[], H, .nil, I, .refl _ _ _ _, he⟩
  | e :: r, hall, hs, he =>
    have hp := evs_plain hs
    simp only [cs_nil, cs_cons, Bool.and_eq_true] at hs
    have he' : ev W.K (CallOk W n) q e σ H (fun v H1 => evs W.K (CallOk W n) q r σ H1 (fun vs H2 => Q (v :: vs) H2) E) E := by
      cases e with
      | Starred x p => exact absurd rfl (hp _ List.mem_cons_self x p)
      | _ => exact he
    refine spliced_more (pv_post (hall e List.mem_cons_self top env σ H s _ E eo full hs.1 he' I L) fun v s1 av H1 rv I1 X1 h1 => ?_) (starEach_plain (hp e List.mem_cons_self))
    refine wpAny_mono (evs_snd wo ao r (fun y hy => hall y (List.mem_cons_of_mem _ hy)) pos top env σ H1 s1 _ E eo full hs.2 h1 I1 (L.step I X1)) (fun vs s2 p => ?_) fun _ _ p => p.trans X1
    obtain ⟨avs, H2, rs, I2, X2, h2⟩ := p
    exact ⟨av :: avs, H2, .cons (rv.mono (X2.stab I1)) rs, I2, X1.trans X2, h2⟩

theorem evO_snd (wo : WOk W) (ao : AOk n q fr A) (x : Option Expr) (hall : ∀ e, x = some e → EvP W n q fr A e) (top : Bool) (env : Env) (σ : Loc) (H : AHeap) (s : Shared) (Q : Option Int → AHeap → Prop) (E : PE) (eo : EnvOk env) (full : top = true → Full env σ) (hs : scO W.K top env.scope x = true)
    (he : evO W.K (CallOk W n) q x σ H Q E) (I : Inv W fr H s) (L : LocR W env fr σ H s.heap) :
    wpAny (model W.prog W.w) A (evalPart x env) (fun v s' => ∃ k H', IsPart v k ∧ Inv W fr H' s' ∧ Ext0 fr H s.heap H' s'.heap ∧ Q k H') (PEc W fr H s E) s := by
  match x, hall, hs, he with
  | none, _, _, he =>
    simp only [vO_none, vO_some] at he
    rw [evalPart_none]
    exact wpAny_pure ⟨none, H, .none, I, .refl _ _ _ _, he⟩
  | some e, hall, hs, he =>
    simp only [vO_none, vO_some] at he; simp only [cO_some] at hs
    rw [evalPart_some]
    refine pv_post (hall e rfl top env σ H s _ E eo full hs he I L) fun v s1 av H1 rv I1 X1 h1 => ?_
    obtain ⟨i, t, rfl, h1⟩ := rv.isInt h1
    exact ⟨some i, H1, .int i t, I1, X1, h1⟩

theorem tstB_snd (wo : WOk W) (ao : AOk n q fr A) (vs : List Expr) (hall : ∀ e ∈ vs, TstP W n q fr A e) (op : BoolOp) (top : Bool) (env : Env) (σ : Loc) (H : AHeap) (s : Shared) (Q : PB) (E : PE) (eo : EnvOk env) (full : top = true → Full env σ) (hs : scEs W.K top env.scope vs = true)
    (he : tstB W.K (CallOk W n) q op vs σ H Q E) (I : Inv W fr H s) (L : LocR W env fr σ H s.heap) : wpAny (model W.prog W.w) A (allTrue op vs env) (PBc W fr H s Q) (PEc W fr H s E) s := by
  match vs, hall, hs, he with
  | [], _, _, he =>
    simp only [vtB_nil, vtB_cons] at he
    cases op
    · exact wpAny_allTrue_And_nil ⟨H, I, .refl _ _ _ _, he⟩
    · exact wpAny_allTrue_Or_nil ⟨H, I, .refl _ _ _ _, he⟩
  | e :: r, hall, hs, he =>
    simp only [vtB_nil, vtB_cons] at he; simp only [cs_nil, cs_cons, Bool.and_eq_true] at hs
    have h := hall e List.mem_cons_self top env σ H s _ E eo full hs.1 he I L
    rw [arm_allTrue_cons]
    refine wpAny_bind (wpAny_mono h (fun b s1 p => ?_) fun _ _ p => p)
    obtain ⟨H1, I1, X1, h1⟩ := p
    have go : tstB W.K (CallOk W n) q op r σ H1 Q E → wpAny (model W.prog W.w) A (allTrue op r env) (PBc W fr H s Q) (PEc W fr H s E) s1 := fun h =>
      pb_up X1 (tstB_snd wo ao r (fun y hy => hall y (List.mem_cons_of_mem _ hy)) op top env σ H1 s1 Q E eo full hs.2 h I1 (L.step I X1))
    cases op <;> cases b
    · exact wpAny_pure ⟨H1, I1, X1, h1⟩
    · exact go h1
    · exact go h1
    · exact wpAny_pure ⟨H1, I1, X1, h1⟩

theorem tsts_snd (wo : WOk W) (ao : AOk n q fr A) (es : List Expr) (hall : ∀ e ∈ es, TstP W n q fr A e) (env : Env) (σ : Loc) (H : AHeap) (s : Shared) (Q : PB) (eo : EnvOk env) (hs : scEs W.K false env.scope es = true)
    (he : tsts W.K (CallOk W n) q es σ H Q) (I : Inv W fr H s) (L : LocR W env fr σ H s.heap) :
    wpAny (model W.prog W.w) A (forIn es true fun c r => if r = true then do let ok ← isTrue c env (eval c env); pure (ForInStep.yield ok) else pure (ForInStep.yield r)) (PBc W fr H s Q) (fun _ _ => False) s := by
  match es, hall, hs, he with
  | [], _, _, he =>
    simp only [vts_nil, vts_one] at he
    exact wpAny_tests_nil ⟨H, I, .refl _ _ _ _, he⟩
  | [e], hall, hs, he =>
    simp only [vts_nil, vts_one] at he; simp only [cs_nil, cs_cons, Bool.and_eq_true] at hs
    exact wpAny_tests_one (wpAny_mono (hall e List.mem_cons_self false env σ H s Q (fun _ _ => False) eo (fun z => nomatch z) hs.1 he I L) (fun _ _ p => p) fun _ _ p => pe_false p)
  | _ :: _ :: _, _, _, he => exact (show False from he).elim
theorem kw_none {K : Frag} {Φ : Bool → CallP} {f : Expr} {args : List Expr} {k : Keyword} {ks : List Keyword} {p : Pos} {σ : Loc} {H : AHeap} {Q : PV} {E : PE} (he : ev K Φ q (.Call f args (k :: ks) p) σ H Q E) : False := by
  cases f <;> exact he
theorem call_form {K : Frag} {top : Bool} {sc : Scope} {f : Expr} {args : List Expr} {ks : List Keyword} {p : Pos} (h : scE K top sc (.Call f args ks p) = true) : (∃ o nm ap, f = .Attribute o nm ap) ∨ ∃ x xp, f = .Name x xp := by
  cases f with
  | Attribute o nm ap => exact .inl ⟨_, _, _, rfl⟩
  | Name x xp => exact .inr ⟨_, _, rfl⟩
  | _ => exact absurd (show false = true from h) (by decide)
theorem sub_plain {K : Frag} {Φ : Bool → CallP} {o i : Expr} {p : Pos} {σ : Loc} {H : AHeap} {Q : PV} {E : PE} (hsl : ¬ ∃ lo hi sp, i = .Slice lo hi none sp) (he : ev K Φ q (.Subscript o i p) σ H Q E) :
    ev K Φ q o σ H (fun ov H1 => ev K Φ q i σ H1 (fun iv H2 => subA ov iv H2 Q) E) E ∧ ∀ a b, subscripted i false a b = operate [a, b] (getItem a b) := by
  cases i with
  | Slice lo hi st sp =>
    cases st with
    | none => exact absurd ⟨lo, hi, sp, rfl⟩ hsl
    | some _ => exact ⟨he, fun _ _ => rfl⟩
  | _ => exact ⟨he, fun _ _ => rfl⟩
theorem ev_one (wo : WOk W) (ao : AOk n q fr A) (e : Expr) (ih : ∀ x, sizeOf x < sizeOf e → EvP W n q fr A x ∧ TstP W n q fr A x) : EvP W n q fr A e := by
  intro top env σ H s Q E eo full hs he I L
  cases e with
  | Constant c k p =>
    cases c with
    | none => exact wpAny_Constant_none (pv_here I .none (by exact he))
    | bool b => exact wpAny_Constant_bool (pv_here I (.bool b) (by exact he))
    | int i => rw [arm_eval_Constant]; exact wpAny_mkInt (pv_same I (.int _ _) (by exact he))
    | str x => exact wpAny_Constant_str (pv_same I (.str _ _ (by exact hs)) (by exact he))
    | _ => exact (show False from he).elim
  | Name x p =>
    simp only [v_name, v_boolop, v_not, v_usub, v_bin, v_cmp, v_calla, v_calln, v_attr, v_cut, v_tuple, v_list, v_comp] at he; simp only [c_strc, c_name, c_boolop, c_un, c_bin, c_cmp, c_calla, c_calln, c_attr, c_sub, c_slice, c_tuple, c_list, c_comp] at hs
    exact name_sound wo eo I L he hs
  | BoolOp op vs p =>
    simp only [v_name, v_boolop, v_not, v_usub, v_bin, v_cmp, v_calla, v_calln, v_attr, v_cut, v_tuple, v_list, v_comp] at he; simp only [c_strc, c_name, c_boolop, c_un, c_bin, c_cmp, c_calla, c_calln, c_attr, c_sub, c_slice, c_tuple, c_list, c_comp] at hs
    exact evB_snd wo ao vs (fun y hy => (ih y (Nat.lt_trans (List.sizeOf_lt_of_mem hy) (by first | (simp; omega) | (simp; done) | decreasing_tactic))).1) op p top env σ H s Q E eo full hs he I L
  | UnaryOp op x p =>
    cases op with
    | Not =>
      simp only [v_name, v_boolop, v_not, v_usub, v_bin, v_cmp, v_calla, v_calln, v_attr, v_cut, v_tuple, v_list, v_comp] at he; simp only [c_strc, c_name, c_boolop, c_un, c_bin, c_cmp, c_calla, c_calln, c_attr, c_sub, c_slice, c_tuple, c_list, c_comp] at hs
      rw [arm_eval_UnaryOp]
      refine pv_then ((ih x (by first | (simp; omega) | (simp; done) | decreasing_tactic)).1 top env σ H s _ E eo full hs he I L) fun v s1 av H1 rv I1 X1 h1 => ?_
      refine wpAny_bind (wpAny_standAt (wpAny_holding ?_))
      obtain ⟨b, rfl, h1⟩ := rv.isBool h1
      exact wpAny_mono (Q := PVc W fr H1 s1 Q) (E := PEc W fr H1 s1 E) (by unfold unaryOp; exact wpAny_holding (wpAny_bind (wpAny_truthy_bool (wpAny_pure (pv_here I1 (.bool _) h1))))) (fun _ _ p => p.trans X1) fun _ _ p => p.trans X1
    | USub =>
      simp only [v_name, v_boolop, v_not, v_usub, v_bin, v_cmp, v_calla, v_calln, v_attr, v_cut, v_tuple, v_list, v_comp] at he; simp only [c_strc, c_name, c_boolop, c_un, c_bin, c_cmp, c_calla, c_calln, c_attr, c_sub, c_slice, c_tuple, c_list, c_comp] at hs
      rw [arm_eval_UnaryOp]
      refine pv_then ((ih x (by first | (simp; omega) | (simp; done) | decreasing_tactic)).1 top env σ H s _ E eo full hs he I L) fun v s1 av H1 rv I1 X1 h1 => ?_
      refine wpAny_bind (wpAny_standAt (wpAny_holding ?_))
      obtain ⟨i, t, rfl, h1⟩ := rv.isInt h1
      exact pv_up X1 (neg_int (pv_same I1 (.int _ _) h1))
    | _ => exact (show False from he).elim
  | BinOp l op r p =>
    simp only [v_name, v_boolop, v_not, v_usub, v_bin, v_cmp, v_calla, v_calln, v_attr, v_cut, v_tuple, v_list, v_comp] at he; simp only [c_strc, c_name, c_boolop, c_un, c_bin, c_cmp, c_calla, c_calln, c_attr, c_sub, c_slice, c_tuple, c_list, c_comp, Bool.and_eq_true] at hs
    refine wpAny_BinOp (pv_post ((ih l (by first | (simp; omega) | (simp; done) | decreasing_tactic)).1 top env σ H s _ E eo full hs.1 he I L) fun v s1 av H1 rv I1 X1 h1 => ?_)
    refine wpAny_mono (pv_post (Q1 := _) (P := fun b s2 => wpAny (model W.prog W.w) A (binaryOp op v b) (PVc W fr H s Q) (PEc W fr H s E) s2) ((ih r (by first | (simp; omega) | (simp; done) | decreasing_tactic)).1 top env σ H1 s1 _ E eo full hs.2 h1 I1 (L.step I X1)) fun u s2 bv H2 ru I2 X2 h2 => ?_) (fun _ _ p => p) fun _ _ p => p.trans X1
    exact pv_up (X1.trans X2) (bin_sound I2 (rv.mono (X2.stab I1)) ru h2)
  | Compare l ops rs p =>
    simp only [v_name, v_boolop, v_not, v_usub, v_bin, v_cmp, v_calla, v_calln, v_attr, v_cut, v_tuple, v_list, v_comp] at he; simp only [c_strc, c_name, c_boolop, c_un, c_bin, c_cmp, c_calla, c_calln, c_attr, c_sub, c_slice, c_tuple, c_list, c_comp, Bool.and_eq_true] at hs
    rw [arm_eval_Compare, markedEach_of_false _ _ _ (lastMarks_of ops rs hs.2)]
    refine pv_then ((ih l (by first | (simp; omega) | (simp; done) | decreasing_tactic)).1 top env σ H s _ E eo full hs.1 he I L) fun v s1 av H1 rv I1 X1 h1 => ?_
    refine wpAny_mono (cmp_snd wo ao rs (fun y hy => (ih y (Nat.lt_trans (List.sizeOf_lt_of_mem hy) (by first | (simp; omega) | (simp; done) | decreasing_tactic))).1) ops p av v top env σ H1 s1 _ E eo full hs.2 h1 I1 (L.step I X1) rv).1 (fun u s2 p => ?_) fun _ _ p => p.trans X1
    obtain ⟨b, rfl, H2, I2, X2, h2⟩ := p
    exact ⟨.bool b, H2, .bool b, I2, X1.trans X2, h2⟩
  | Call f args kws p =>
    cases kws with
    | cons k ks => exact (kw_none he).elim
    | nil =>
    rcases call_form hs with ⟨o, name, ap, rfl⟩ | ⟨x, xp, rfl⟩
    · skip
      simp only [v_name, v_boolop, v_not, v_usub, v_bin, v_cmp, v_calla, v_calln, v_attr, v_cut, v_tuple, v_list, v_comp] at he; simp only [c_strc, c_name, c_boolop, c_un, c_bin, c_cmp, c_calla, c_calln, c_attr, c_sub, c_slice, c_tuple, c_list, c_comp, Bool.and_eq_true, decide_eq_true_eq, beq_iff_eq] at hs
      obtain ⟨⟨⟨⟨h1, h2⟩, h3⟩, h4⟩, h5⟩ := hs
      have hp := evs_plain h5
      have hform : methodCallForm (args.length + ([] : List Keyword).length) (backTo p (starEach args env)) (backToKw p (keywordEach [] env)) = true := by
        unfold methodCallForm
        rw [starEach_all hp]
        show (true && true && decide (args.length + 0 + 0 < 30)) = true
        simp; omega
      rw [arm_eval_Call, attributeBase_plain h1]
      refine pv_then ((ih o (by first | (simp; omega) | (simp; done) | decreasing_tactic)).1 top env σ H s _ E eo full h4 he I L) fun v s1 av H1 rv I1 X1 k1 => ?_
      refine wpAny_bind (wpAny_standAt ?_)
      have L1 := L.step I X1
      unfold methodCall calleeOf methodCallPos
      rw [hform]
      simp only [if_true, h2, Bool.not_true, Bool.false_or, beq_self_eq_true]
      unfold methA at k1
      split at k1
      · rename_i a
        obtain rfl : v = .ref a := rv.inv
        split at k1
        · rename_i ro xs ha
          obtain ⟨⟨rfl, hnm⟩, k1⟩ := k1
          have fin : ∀ id, ((name = Str.ofString "append" ∧ id = "list.append") ∨ (name = Str.ofString "pop" ∧ id = "list.pop") ∨ (name = Str.ofString "count" ∧ id = "list.count")) →
              wpAny (model W.prog W.w) A (callWith p (.builtin id) [.ref a] (backTo p (starEach args env)) (backToKw p (keywordEach [] env))) (PVc W fr H s Q) (PEc W fr H s E) s1 := fun id hid => by
            refine callWith_sound (W := W) hp (by omega) (.inl ⟨id, rfl⟩) (wpAny_mono (evs_snd wo ao args (fun y hy => (ih y (Nat.lt_trans (List.sizeOf_lt_of_mem hy) (by first | (simp; omega) | (simp; done) | decreasing_tactic))).1) p top env σ H1 s1 _ E eo full h5 k1 I1 L1) (fun vs s2 hvs => ?_) fun _ _ p => p.trans X1)
            obtain ⟨avs, H2, rs, I2, X2, k2⟩ := hvs
            exact ⟨I2.kin wo, pv_up (X1.trans X2) (callM_sound ao I2 hid rs k2)⟩
          rcases hnm with rfl | rfl | rfl
          · exact wpAny_bind (wpAny_holding (getM_list I1 ha PySem.F.slot_list_append rfl (wpAny_bind (wpAny_pure (fin _ (.inl ⟨rfl, rfl⟩))))))
          · exact wpAny_bind (wpAny_holding (getM_list I1 ha PySem.F.slot_list_pop rfl (wpAny_bind (wpAny_pure (fin _ (.inr (.inl ⟨rfl, rfl⟩)))))))
          · exact wpAny_bind (wpAny_holding (getM_list I1 ha PySem.F.slot_list_count rfl (wpAny_bind (wpAny_pure (fin _ (.inr (.inr ⟨rfl, rfl⟩)))))))
        · rename_i C d ha
          split at k1
          · rename_i fs hd
            obtain ⟨hl, f, hm, k1⟩ := k1
            obtain ⟨sl, es, nn, J, hes, _, _⟩ := instAt_of I1 ha hd
            have hf := (Ents.find (name := name) hes).1
            rw [hl] at hf
            unfold methOk at hm
            simp only [Bool.and_eq_true, beq_iff_eq] at hm
            obtain ⟨⟨⟨m1, m2⟩, m3⟩, m4⟩ := hm
            refine wpAny_bind (wpAny_holding (method_fn (I1.kin wo) J (plainGet_of m1).1 (plainGet_of m1).2 m2 (beq_iff_eq.mp m3) (by unfold shadowIn lookIn; show Option.map _ (getL name es) = _; rw [hf]; rfl) ?_))
            refine wpAny_bind (wpAny_pure ?_)
            refine callWith_sound (W := W) hp (by omega) (.inr (.inr ⟨f, rfl, m4⟩)) (wpAny_mono (evs_snd wo ao args (fun y hy => (ih y (Nat.lt_trans (List.sizeOf_lt_of_mem hy) (by first | (simp; omega) | (simp; done) | decreasing_tactic))).1) p top env σ H1 s1 _ E eo full h5 k1 I1 L1) (fun vs s2 hvs => ?_) fun _ _ p => p.trans X1)
            obtain ⟨avs, H2, rs, I2, X2, k2⟩ := hvs
            exact ⟨I2.kin wo, pv_up (X1.trans X2) (k2 A fr s2 _ ao I2 (.cons (.ref a) rs))⟩
          · exact k1.elim
        · exact k1.elim
      · exact k1.elim
    · simp only [v_name, v_boolop, v_not, v_usub, v_bin, v_cmp, v_calla, v_calln, v_attr, v_cut, v_tuple, v_list, v_comp] at he; simp only [c_strc, c_name, c_boolop, c_un, c_bin, c_cmp, c_calla, c_calln, c_attr, c_sub, c_slice, c_tuple, c_list, c_comp, Bool.and_eq_true, decide_eq_true_eq] at hs
      have hp := evs_plain hs.2
      rw [arm_eval_Call_Name']
      have hn := name_sound (A := A) (pos := xp) (E := PEc W fr H s E) (Q := fun fv H1 => fnA W.K fv ∧ evs W.K (CallOk W n) q args σ H1 (fun vs H2 => callA W.K (CallOk W n) q fv vs H2 Q E) E) wo eo I L he hs.1.2
      refine pv_then hn fun v s1 av H1 rv I1 X1 h1 => ?_
      have L1 := L.step I X1
      obtain ⟨hf, h1⟩ := h1
      have hf' : (∃ id, v = .builtin id) ∨ (∃ t, v = .type t) ∨ (∃ a, v = .ref a ∧ keepIn W.K v = true) := by
        unfold fnA at hf
        split at hf
        · obtain rfl := rv.inv; exact .inr (.inr ⟨_, rfl, hf⟩)
        · exact .inl ⟨_, rv.inv⟩
        · exact .inr (.inl ⟨_, rv.inv⟩)
        · exact hf.elim
      refine callWith_sound (W := W) hp (by omega) hf' (wpAny_mono (evs_snd wo ao args (fun y hy => (ih y (Nat.lt_trans (List.sizeOf_lt_of_mem hy) (by first | (simp; omega) | (simp; done) | decreasing_tactic))).1) p top env σ H1 s1 _ E eo full hs.2 h1 I1 L1) (fun vs s2 hvs => ?_) fun _ _ p => p.trans X1)
      obtain ⟨avs, H2, rs, I2, X2, k2⟩ := hvs
      exact ⟨I2.kin wo, pv_up (X1.trans X2) (callA_sound wo ao I2 rs (rv.mono (X2.stab I1)) k2)⟩
  | Attribute o name p =>
    simp only [v_name, v_boolop, v_not, v_usub, v_bin, v_cmp, v_calla, v_calln, v_attr, v_cut, v_tuple, v_list, v_comp] at he; simp only [c_strc, c_name, c_boolop, c_un, c_bin, c_cmp, c_calla, c_calln, c_attr, c_sub, c_slice, c_tuple, c_list, c_comp, Bool.and_eq_true] at hs
    rw [arm_eval_Attribute, attributeBase_plain hs.1]
    refine pv_then ((ih o (by first | (simp; omega) | (simp; done) | decreasing_tactic)).1 top env σ H s _ E eo full hs.2 he I L) fun v s1 av H1 rv I1 X1 h1 => ?_
    refine wpAny_bind (wpAny_standAt (wpAny_bind (wpAny_holding (wpAny_mono (attr_sound I1 wo rv h1) (fun r s2 hr => ?_) fun _ _ p => PEc.trans (W := W) (E := E) p X1))))
    exact wpAny_bind (wpAny_letTemporaryGo (wpAny_pure (hr.trans X1)))
  | Subscript o i p =>
    by_cases hsl : ∃ lo hi sp, i = .Slice lo hi none sp
    · obtain ⟨lo, hi, sp, rfl⟩ := hsl
      simp only [v_name, v_boolop, v_not, v_usub, v_bin, v_cmp, v_calla, v_calln, v_attr, v_cut, v_tuple, v_list, v_comp] at he; simp only [c_strc, c_name, c_boolop, c_un, c_bin, c_cmp, c_calla, c_calln, c_attr, c_sub, c_slice, c_tuple, c_list, c_comp, Bool.and_eq_true] at hs
      obtain ⟨h1, h2, h3⟩ := hs
      refine Subscript_ (pv_post ((ih o (by first | (simp; omega) | (simp; done) | decreasing_tactic)).1 top env σ H s _ E eo full h1 he I L) fun v s1 av H1 rv I1 X1 k1 => ?_)
      have L1 := L.step I X1
      refine wpAny_Slice (wpAny_mono (evO_snd wo ao lo (fun y hy => (ih y (by subst hy; first | (simp; omega) | (simp; done) | decreasing_tactic)).1) top env σ H1 s1 _ E eo full h2 k1 I1 L1) (fun lv s2 hl => ?_) fun _ _ p => p.trans X1)
      obtain ⟨l, H2, pl, I2, X2, k2⟩ := hl
      have L2 := L1.step I1 X2
      refine wpAny_mono (evO_snd wo ao hi (fun y hy => (ih y (by subst hy; first | (simp; omega) | (simp; done) | decreasing_tactic)).1) top env σ H2 s2 _ E eo full h3 k2 I2 L2) (fun hv s3 hh => ?_) fun _ _ p => (p.trans X2).trans X1
      obtain ⟨h, H3, ph, I3, X3, k3⟩ := hh
      rw [evalPart_none]
      refine wpAny_pure ?_
      have X := (X1.trans X2).trans X3
      have kp : ∀ b ob, s3.heap.get? b = some ob → (s3.heap.push { cls := .type "slice", data := .fields #[lv, hv, .none] }).get? b = some ob := fun _ _ eb => Heap.get?_push_of_some _ eb
      have I4 : Inv W fr H3 { s3 with heap := s3.heap.push { cls := .type "slice", data := .fields #[lv, hv, .none] } } := I3.grown (t := s3.toks) kp
      have X4 : Ext0 fr H3 s3.heap H3 (s3.heap.push { cls := .type "slice", data := .fields #[lv, hv, .none] }) := Ext.grown kp
      unfold cutA at k3
      split at k3
      · rename_i a
        split at k3
        · rename_i ro xs ha
          obtain rfl : v = .ref a := rv.inv
          obtain ⟨c1, c2, k3⟩ := k3
          obtain ⟨vs, hvs, rvs, hlen⟩ := (I4.rep _ _ ha).isList
          refine tail_any hvs.typeIs slot_list_getitem.lookup ?_ rfl
          refine wpAny_getItem_list_slice hvs (Heap.IsSliceOf.new _ _ _ _) pl ph .none (by simp) ?_ (by rw [List.size_toArray, rvs.length]; exact Nat.le_trans hlen big_line)
          rw [cut_pick vs l h c1 c2]
          exact (newL_push (t := s3.toks) I4 (cut_rep rvs l h) (Nat.le_trans (cut_len xs l h) hlen) k3).trans (X.trans X4)
        · exact k3.elim
      · exact k3.elim
    · obtain ⟨he', hsub⟩ := sub_plain hsl he
      simp only [c_strc, c_name, c_boolop, c_un, c_bin, c_cmp, c_calla, c_calln, c_attr, c_sub, c_slice, c_tuple, c_list, c_comp, Bool.and_eq_true] at hs
      refine Subscript_ (pv_post ((ih o (by first | (simp; omega) | (simp; done) | decreasing_tactic)).1 top env σ H s _ E eo full hs.1 he' I L) fun v s1 av H1 rv I1 X1 k1 => ?_)
      refine wpAny_mono (pv_post (P := fun b s2 => wpAny (model W.prog W.w) A (subscriptTail o i v b) (PVc W fr H s Q) (PEc W fr H s E) s2) ((ih i (by first | (simp; omega) | (simp; done) | decreasing_tactic)).1 top env σ H1 s1 _ E eo full hs.2 k1 I1 (L.step I X1)) fun u s2 bv H2 ru I2 X2 h2 => ?_) (fun _ _ p => p) fun _ _ p => p.trans X1
      exact pv_up (X1.trans X2) (sub_sound I2 (rv.mono (X2.stab I1)) ru h2 hsub)
  | Tuple es k p =>
    simp only [v_name, v_boolop, v_not, v_usub, v_bin, v_cmp, v_calla, v_calln, v_attr, v_cut, v_tuple, v_list, v_comp] at he; simp only [c_strc, c_name, c_boolop, c_un, c_bin, c_cmp, c_calla, c_calln, c_attr, c_sub, c_slice, c_tuple, c_list, c_comp] at hs
    rw [arm_eval_Tuple]
    refine wpAny_bind (wpAny_standAt (wpAny_bind (wpAny_mono (evs_snd wo ao es (fun y hy => (ih y (Nat.lt_trans (List.sizeOf_lt_of_mem hy) (by first | (simp; omega) | (simp; done) | decreasing_tactic))).1) p top env σ H s _ E eo full hs he I L) (fun vs s2 hvs => ?_) fun _ _ p => p)))
    obtain ⟨avs, H2, rs, I2, X2, k2⟩ := hvs
    exact pv_up X2 (newTuple_sound I2 rs k2.1 k2.2)
  | List es p =>
    simp only [v_name, v_boolop, v_not, v_usub, v_bin, v_cmp, v_calla, v_calln, v_attr, v_cut, v_tuple, v_list, v_comp] at he; simp only [c_strc, c_name, c_boolop, c_un, c_bin, c_cmp, c_calla, c_calln, c_attr, c_sub, c_slice, c_tuple, c_list, c_comp] at hs
    rw [arm_eval_List]
    refine wpAny_bind (wpAny_standAt (wpAny_bind (wpAny_mono (evs_snd wo ao es (fun y hy => (ih y (Nat.lt_trans (List.sizeOf_lt_of_mem hy) (by first | (simp; omega) | (simp; done) | decreasing_tactic))).1) p top env σ H s _ E eo full hs he I L) (fun vs s2 hvs => ?_) fun _ _ p => p)))
    obtain ⟨avs, H2, rs, I2, X2, k2⟩ := hvs
    exact pv_up X2 (newList_sound I2 rs k2.1 k2.2)
  | ListComp elt gens sc' p =>
    simp only [v_name, v_boolop, v_not, v_usub, v_bin, v_cmp, v_calla, v_calln, v_attr, v_cut, v_tuple, v_list, v_comp] at he
    obtain ⟨x, px, iter, ifs, rfl⟩ : ∃ x px iter ifs, gens = [⟨.Name x px, iter, ifs, 0⟩] := by
      exact gens_of he
    simp only [c_strc, c_name, c_boolop, c_un, c_bin, c_cmp, c_calla, c_calln, c_attr, c_sub, c_slice, c_tuple, c_list, c_comp, cG_one, Bool.and_eq_true, beq_iff_eq, Bool.not_eq_true'] at hs
    obtain ⟨⟨⟨h1, h2⟩, h3⟩, ⟨⟨⟨h4, h5⟩, h6⟩, h7⟩, h8⟩ := hs
    simp only [v_gen] at he
    have hk : ∀ cl C, EnvOk (compEnvC sc' cl C env) := fun cl C => ⟨(compOk_all h2).1, eo.globals, eo.builtins⟩
    have hsc : ∀ cl C, (compEnvC sc' cl C env).scope = relabelS env.scope sc' := fun cl C => relabel_eq eo.kind sc'
    refine comp_sound (q := q) (T := fun σ1 H2 Q2 => tsts W.K (CallOk W n) q ifs σ1 H2 Q2) (V := fun σ1 H2 Q2 => ev W.K (CallOk W n) q elt σ1 H2 Q2 fun _ _ => False) (fun hq => hq ▸ ao) eo ?_ ?_ h2 h4 (relabel_all h5) h6 (full h1) L I (by cases iter <;> first | (intro _; rfl) | (exact absurd (show false = true from h7) (by decide)))
      ((ih iter (by first | (simp; omega) | (simp; done) | decreasing_tactic)).1 false env σ H s _ E eo (fun z => nomatch z) h7 he I L)
    · intro cl C σ' H' s' Q' ht I' L'
      exact tsts_snd wo ao ifs (fun y hy => (ih y (Nat.lt_trans (List.sizeOf_lt_of_mem hy) (by first | (simp; omega) | (simp; done) | decreasing_tactic))).2) (compEnvC sc' cl C env) σ' H' s' Q' (hk cl C) (by rw [hsc]; exact h8) ht I' L'
    · intro cl C σ' H' s' Q' hv I' L'
      have h3' : scE W.K false (compEnvC sc' cl C env).scope elt = true := by rw [hsc]; exact h3
      have h9 := (ih elt (by first | (simp; omega) | (simp; done) | decreasing_tactic)).1 false (compEnvC sc' cl C env) σ' H' s' Q' (fun _ _ => False) (hk cl C) (fun z => nomatch z) h3' hv I' L'
      exact wpAny_mono h9 (fun _ _ p => p) fun _ _ p => pe_false p
  | Slice _ _ _ _ => exact (show False from he).elim
  | _ => exact absurd (show false = true from hs) (by decide)

theorem tst_one (wo : WOk W) (ao : AOk n q fr A) (e : Expr) (ih : ∀ x, sizeOf x < sizeOf e → EvP W n q fr A x ∧ TstP W n q fr A x) (hE : EvP W n q fr A e) : TstP W n q fr A e := by
  intro top env σ H s Q E eo full hs he I L
  by_cases hd : isDef e = true
  · have h1 := (tst_dft hd).1 he
    refine wpAny_isTrue_value (pv_post (hE top env σ H s _ E eo full hs h1 I L) fun v s1 av H1 rv I1 X1 h2 => ?_) ((tst_dft (K := W.K) (Φ := CallOk W n) (q := q) (Wh := fun _ _ _ _ => True) (σ := σ) (H := H) (Q := Q) (E := E) hd).2 _ _)
    obtain ⟨b, rfl, h2⟩ := rv.isBool h2
    exact wpAny_truthy_bool ⟨H1, I1, X1, h2⟩
  · cases e with
    | UnaryOp op x p =>
      cases op with
      | Not =>
        simp only [vt_not, vt_boolop, vt_cmp] at he; simp only [c_strc, c_name, c_boolop, c_un, c_bin, c_cmp, c_calla, c_calln, c_attr, c_sub, c_slice, c_tuple, c_list, c_comp] at hs
        refine wpAny_isTrue_Not (wpAny_mono ((ih x (by first | (simp; omega) | (simp; done) | decreasing_tactic)).2 top env σ H s _ E eo full hs he I L) (fun b s1 p => ?_) fun _ _ p => p)
        exact p
      | _ => exact absurd rfl hd
    | BoolOp op vs p =>
      simp only [vt_not, vt_boolop, vt_cmp] at he; simp only [c_strc, c_name, c_boolop, c_un, c_bin, c_cmp, c_calla, c_calln, c_attr, c_sub, c_slice, c_tuple, c_list, c_comp] at hs
      exact wpAny_isTrue_BoolOp (tstB_snd wo ao vs (fun y hy => (ih y (Nat.lt_trans (List.sizeOf_lt_of_mem hy) (by first | (simp; omega) | (simp; done) | decreasing_tactic))).2) op top env σ H s Q E eo full hs he I L)
    | Compare l ops rs p =>
      simp only [vt_not, vt_boolop, vt_cmp] at he; simp only [c_strc, c_name, c_boolop, c_un, c_bin, c_cmp, c_calla, c_calln, c_attr, c_sub, c_slice, c_tuple, c_list, c_comp, Bool.and_eq_true] at hs
      rw [arm_isTrue_Compare, markedEach_of_false _ _ _ (lastMarks_of ops rs hs.2)]
      refine pv_then ((ih l (by first | (simp; omega) | (simp; done) | decreasing_tactic)).1 top env σ H s _ E eo full hs.1 he I L) fun v s1 av H1 rv I1 X1 h1 => ?_
      exact pb_up X1 (cmp_snd wo ao rs (fun y hy => (ih y (Nat.lt_trans (List.sizeOf_lt_of_mem hy) (by first | (simp; omega) | (simp; done) | decreasing_tactic))).1) ops p av v top env σ H1 s1 _ E eo full hs.2 h1 I1 (L.step I X1) rv).2
    | IfExp _ _ _ _ => exact absurd (show false = true from hs) (by decide)
    | _ => exact absurd rfl hd

theorem ev_all (wo : WOk W) (ao : AOk n q fr A) (e : Expr) : EvP W n q fr A e ∧ TstP W n q fr A e := by
  have all : ∀ (N : Nat) (e : Expr), sizeOf e < N → EvP W n q fr A e ∧ TstP W n q fr A e := by
    intro N
    induction N with
    | zero => intro e h; exact absurd h (Nat.not_lt_zero _)
    | succ N ihN =>
      intro e h
      have ih : ∀ x, sizeOf x < sizeOf e → EvP W n q fr A x ∧ TstP W n q fr A x := fun x hx => ihN x (Nat.lt_of_lt_of_le hx (Nat.le_of_lt_succ h))
      have h1 := ev_one wo ao e ih
      exact ⟨h1, tst_one wo ao e ih h1⟩
  exact all _ e (Nat.lt_succ_self _)
theorem ev_snd (wo : WOk W) (ao : AOk n q fr A) (e : Expr) : EvP W n q fr A e := (ev_all wo ao e).1
theorem tst_snd (wo : WOk W) (ao : AOk n q fr A) (e : Expr) : TstP W n q fr A e := (ev_all wo ao e).2
end
end Mine

/-! Exceptions on their way. -/
set_option maxRecDepth 100000
namespace Mine
open PySem PySem.Calls PyProof.Rows PySem.W

structure Noted (fr : List Env) (h0 h h' : Heap) : Prop where
  keep : ∀ b o, h.get? b = some o → (∀ vs, o.data ≠ .fields vs) → b ∉ frA fr → h'.get? b = some o
  slots : ∀ b ∈ frA fr, ∀ o, h.get? b = some o → ∃ sl, h'.get? b = some { o with slots := sl }
  stab : Stab h h'
  alive : ∀ b o, h.get? b = some o → ∃ o', h'.get? b = some o'
  old : ∀ b o, h0.get? b ≠ none → h.get? b = some o → b ∉ frA fr → h'.get? b = some o

section
variable {W : Wd} {n : Nat} {q : Bool} {fr : List Env} {A : Around} {H : AHeap} {s : Shared} {h0 h' : Heap}

theorem Noted.refl (fr : List Env) (h0 h : Heap) : Noted fr h0 h h := ⟨fun _ _ e _ _ => e, fun _ _ o e => ⟨o.slots, e⟩, .of fun _ _ e _ => e, fun _ o e => ⟨o, e⟩, fun _ _ _ e _ => e⟩

theorem Inv.noted (I : Inv W fr H s) {t : Nat} (N : Noted fr h0 s.heap h') (hb : ∀ b, h0.get? b = none → W.base.get? b = none) : Inv W fr H { s with heap := h', toks := t } where
  stay b o e := N.old b o (fun z => by rw [hb b z] at e; cases e) (I.stay b o e) fun hm => by
    obtain ⟨env, he, hf⟩ := List.mem_filterMap.mp hm
    obtain ⟨_, L, ob, es, k, h1, h2, _⟩ := I.frs env he
    rw [h1] at hf; cases hf
    rw [h2] at e; cases e
  gens := I.gens
  os := I.os
  rep a o e := by
    have nf : a ∉ frA fr := fun hm => by
      obtain ⟨env, he, hf⟩ := List.mem_filterMap.mp hm
      obtain ⟨_, L, ob, es, k, h1, _, h3, _⟩ := I.frs env he
      rw [h1] at hf; cases hf
      rw [h3] at e; cases e
    refine (I.rep a o e).keep N.stab fun x hx => N.keep a x hx (fun vs z => ?_) nf
    have r := I.rep a o e
    cases o with
    | list ro xs => obtain ⟨ws, ⟨ob, ho, _, n, hd⟩, _⟩ := r.isList; rw [hx] at ho; cases ho; rw [hd] at z; cases z
    | inst C d => obtain ⟨sl, ho⟩ := r; rw [hx] at ho; cases ho; cases z
    | dict fs => obtain ⟨es, n, ho, _⟩ := r; rw [hx] at ho; cases ho; cases z
  new := I.new
  frs e he := by
    obtain ⟨h0, L, o, es, j, h1, h2, h3, h4, h5⟩ := I.frs e he
    obtain ⟨sl, h6⟩ := N.slots L (List.mem_filterMap.mpr ⟨e, he, h1⟩) o h4
    exact ⟨h0, L, _, es, j, h1, h2, h3, h6, h5⟩

theorem Ext.noted {own : Addr → Prop} {H0 : AHeap} (X : Ext own fr H0 h0 H s.heap) (N : Noted fr h0 s.heap h') : Ext own fr H0 h0 H h' where
  keep b o e n no nf := N.old b o (by rw [e]; exact fun z => nomatch z) (X.keep b o e n no nf) nf
  slots b hb no o e := by
    obtain ⟨sl, e1⟩ := X.slots b hb no o e
    obtain ⟨sl', e2⟩ := N.slots b hb _ e1
    exact ⟨sl', e2⟩
  alive b o e := by
    obtain ⟨o', e1⟩ := X.alive b o e
    exact N.alive b o' e1
  fresh := X.fresh

theorem LocR.noted {env : Env} {σ : Loc} (L : LocR W env fr σ H s.heap) (N : Noted fr h0 s.heap h') : LocR W env fr σ H h' where
  ns := by
    obtain ⟨m, hn, hv⟩ := L.ns
    have S := N.stab
    refine ⟨m, ns_slots hn fun o e => ?_, fun y av e => ?_⟩
    · by_cases hb : env.locals ∈ frA fr
      · exact N.slots _ hb o e
      · refine ⟨o.slots, N.keep _ o e (fun vs z => ?_) hb⟩
        obtain ⟨ob, es, ep, ho, hd, _⟩ := hn
        rw [e] at ho; cases ho
        rw [hd] at z; cases z
    · rcases hv y av e with h0 | ⟨h1, v, h2, h3⟩ | ⟨h1, c, v, h2, ⟨o, h3, h3'⟩, h4⟩
      · exact .inl h0
      · exact .inr (.inl ⟨h1, v, h2, h3.mono S⟩)
      · obtain ⟨c1, c2, _⟩ := L.cl y c (mem_of_lookup h2)
        exact .inr (.inr ⟨h1, c, v, h2, ⟨o, N.keep c o h3 (fun vs z => by rw [h3'] at z; cases z) c2, h3'⟩, h4.mono S⟩)
  dbg := L.dbg
  hl := L.hl
  bl := L.bl
  cl m c hm := by
    obtain ⟨c1, c2, c3, v, o, h3, h3'⟩ := L.cl m c hm
    exact ⟨c1, c2, c3, v, o, N.keep c o h3 (fun vs z => by rw [h3'] at z; cases z) c2, h3'⟩
  cs := L.cs

theorem Inv.funFrames (I : Inv W fr H s) : s.heap.FunFrames W.base fr := by
  have key : ∀ l : List Env, (∀ e ∈ l, e ∈ fr) → s.heap.FunFrames W.base l := by
    intro l
    induction l with
    | nil => exact fun _ => trivial
    | cons e r ih =>
      intro h
      obtain ⟨h0, L, o, es, j, h1, h2, _, h4, h5⟩ := I.frs e (h e List.mem_cons_self)
      exact ⟨h0, ⟨L, o, h1, h2, h4, fun vs z => by rw [h5] at z; cases z⟩, ih fun x hx => h x (List.mem_cons_of_mem _ hx)⟩
  exact key fr fun _ h => h

theorem set_stab {h : Heap} {a : Addr} {o : Obj} {vs : Array Value} (ho : h.get? a = some o) (hd : o.data = .fields vs) (hc : (∃ C, o.cls = .ref C) ∨ o.cls = .type "traceback") (f : Array Value → Array Value) :
    Stab h (h.update a (Obj.mapFields f)) ∧ (h.update a (Obj.mapFields f)).get? a = some { o with data := .fields (f vs) } ∧ ∀ b, b ≠ a → (h.update a (Obj.mapFields f)).get? b = h.get? b := by
  have e1 : Obj.mapFields f o = { o with data := .fields (f vs) } := by obtain ⟨c, d, dt, sl⟩ := o; dsimp only at hd; subst hd; rfl
  have h1 : (h.update a (Obj.mapFields f)).get? a = some { o with data := .fields (f vs) } := by
    rw [← e1]; exact Heap.get?_update_self _ ho (Obj.isFreed_of_fields (Obj.data_mapFields hd f))
  have h2 : ∀ b, b ≠ a → (h.update a (Obj.mapFields f)).get? b = h.get? b := fun b hb => Heap.get?_update_other _ _ (Ne.symm hb)
  refine ⟨fun b x e i => ?_, h1, h2⟩
  by_cases hb : b = a
  · subst hb
    rw [ho] at e; cases e
    rcases hc with ⟨C, hc⟩ | hc
    · exact ⟨_, h1, .inr ⟨C, vs, f vs, hc, hc, hd, rfl, rfl⟩⟩
    · exfalso
      rcases i with ⟨ws, n, z, _⟩ | ⟨ws, z, z' | ⟨C, z'⟩⟩
      · rw [hd] at z; cases z
      · rw [hc] at z'; exact absurd z' (by decide)
      · rw [hc] at z'; cases z'
  · exact ⟨x, (h2 b hb).trans e, .inl rfl⟩
theorem Stab.trans {a b c : Heap} (x : Stab a b) (y : Stab b c) : Stab a c := fun k o e i => by
  obtain ⟨o1, e1, h1⟩ := x k o e i
  have i1 : Imm o1 := by
    rcases h1 with rfl | ⟨C, vs, vs', z1, z2, z3, z4, z5⟩
    · exact i
    · exact .inr ⟨vs', z4, .inr ⟨C, z2⟩⟩
  obtain ⟨o2, e2, h2⟩ := y k o1 e1 i1
  refine ⟨o2, e2, ?_⟩
  rcases h1 with rfl | ⟨C, vs, vs', z1, z2, z3, z4, z5⟩
  · exact h2
  · rcases h2 with rfl | ⟨C', ws, ws', y1, y2, y3, y4, y5⟩
    · exact .inr ⟨C, vs, vs', z1, z2, z3, z4, z5⟩
    · rw [z2] at y1; cases y1
      exact .inr ⟨C, vs, ws', z1, y2, z3, y4, y5.trans z5⟩
theorem Noted.trans {h h1 h2 : Heap} (x : Noted fr h0 h h1) (y : Noted fr h0 h1 h2) : Noted fr h0 h h2 where
  keep b o e n nf := y.keep b o (x.keep b o e n nf) n nf
  slots b hb o e := by
    obtain ⟨sl, e1⟩ := x.slots b hb o e
    obtain ⟨sl', e2⟩ := y.slots b hb _ e1
    exact ⟨sl', e2⟩
  stab := x.stab.trans y.stab
  alive b o e := by
    obtain ⟨o1, e1⟩ := x.alive b o e
    exact y.alive b o1 e1
  old b o n e nf := y.old b o n (x.old b o n e nf) nf
theorem Noted.set {h : Heap} {a : Addr} {o : Obj} {vs : Array Value} (hn : h0.get? a = none) (ho : h.get? a = some o) (hd : o.data = .fields vs) (hc : (∃ C, o.cls = .ref C) ∨ o.cls = .type "traceback") (f : Array Value → Array Value)
    (nf : a ∉ frA fr) : Noted fr h0 h (h.update a (Obj.mapFields f)) := by
  obtain ⟨S, h1, h2⟩ := set_stab ho hd hc f
  refine ⟨fun b x e n _ => (h2 b ?_).trans e, fun b hb x e => ⟨x.slots, (h2 b ?_).trans e⟩, S, fun b x e => ?_, fun b x n e _ => (h2 b ?_).trans e⟩
  · rintro rfl; rw [ho] at e; cases e; exact n vs hd
  · rintro rfl; exact nf hb
  · by_cases hb : b = a
    · subst hb; exact ⟨_, h1⟩
    · exact ⟨x, (h2 b hb).trans e⟩
  · rintro rfl; exact n hn
theorem Noted.slotsOnly {h h1 : Heap} (x : Heap.SlotsOnly (frA fr) h h1) (fd : ∀ b ∈ frA fr, ∀ o, h.get? b = some o → ¬ Imm o) : Noted fr h0 h h1 :=
  ⟨fun b o e _ nf => (x.2.1 b nf).trans e, fun b _ o e => x.2.2 b o e, .of fun b o e i => (x.2.1 b fun hb => fd b hb o e i).trans e, fun b o e => by obtain ⟨sl, e1⟩ := x.2.2 b o e; exact ⟨_, e1⟩, fun b o _ e nf => (x.2.1 b nf).trans e⟩
theorem Noted.push (h : Heap) (o : Obj) : Noted fr h0 h (h.push o) :=
  ⟨fun _ _ e _ _ => Heap.get?_push_of_some _ e, fun _ _ x e => ⟨x.slots, Heap.get?_push_of_some _ e⟩, .of fun _ _ e _ => Heap.get?_push_of_some _ e, fun _ x e => ⟨x, Heap.get?_push_of_some _ e⟩, fun _ _ _ e _ => Heap.get?_push_of_some _ e⟩

theorem Inv.frame_dict (I : Inv W fr H s) {b : Addr} (hb : b ∈ frA fr) : ∃ o es k, s.heap.get? b = some o ∧ o.data = .dict es k := by
  obtain ⟨env, he, hf⟩ := List.mem_filterMap.mp hb
  obtain ⟨_, L, ob, es, k, h1, _, _, h2, h3⟩ := I.frs env he
  rw [h1] at hf; cases hf
  exact ⟨ob, es, k, h2, h3⟩

theorem entry_sound {env : Env} {outer : List Env} {L e C : Addr} {oe : Obj} {vs : Array Value} {head : Value} {hadNext : Bool} {E : Value → Shared → Prop} {Q : Unit → Shared → Prop} (hfr : A.frames = some (env :: outer)) (hf : env.frame = some L)
    (I : Inv W (env :: outer) H s) (al : ∀ b o, h0.get? b = some o → ∃ o', s.heap.get? b = some o') (hen : h0.get? e = none) (he : s.heap.get? e = some oe) (hc : oe.cls = .ref C) (hdi : oe.dict = none) (hd : oe.data = .fields vs) (hsz : 1 < vs.size)
    (h : ∀ h', Noted (env :: outer) h0 s.heap h' → ExcTr h0 h' e C → Q () { s with heap := h' }) :
    wpAny (model W.prog W.w) A (do let a ← frameOf env; let pl ← entryPlaceOf L hadNext; let b ← EntryCells.newEntry head a .none (rawInt L) .none pl; setField (.ref e) 1 b) Q E s := by
  refine wpAny_bind (wpAny_frameOf_fun hfr I.funFrames hf fun h₁ hs₁ => ?_)
  refine wpAny_bind (wpAny_entryPlaceOf fun pl hpl => ?_)
  unfold EntryCells.newEntry newFields
  refine wpAny_bind (wpAny_newObj_type ?_ (hpl.sizeOk5 _ _ _ _ _))
  have nfd : ∀ b ∈ frA (env :: outer), ∀ o, s.heap.get? b = some o → ¬ Imm o := fun b hb o ho => by
    obtain ⟨o', es, k, h1, h2⟩ := I.frame_dict hb
    rw [h1] at ho; cases ho
    exact fun i => i.no_dict h2
  have nfe : e ∉ frA (env :: outer) := fun hb => by
    obtain ⟨o', es, k, h1, h2⟩ := I.frame_dict hb
    rw [he] at h1; cases h1
    rw [hd] at h2; cases h2
  have N1 : Noted (env :: outer) h0 s.heap h₁ := Noted.slotsOnly hs₁ nfd
  have he₁ : h₁.get? e = some oe := (hs₁.2.1 e nfe).trans he
  let oT : Obj := { cls := .type "traceback", dict := none, data := .fields ([head, .ref L, .none, rawInt L, .none] ++ (if pl.isEmpty then List.replicate 6 Value.none else pl)).toArray }
  have he₂ : (h₁.push oT).get? e = some oe := Heap.get?_push_of_some oT he₁
  refine wpAny_setField he₂ hd hsz ?_
  have N2 : Noted (env :: outer) h0 h₁ (h₁.push oT) := Noted.push h₁ oT
  have N3 := Noted.set (fr := env :: outer) (h0 := h0) hen he₂ hd (.inl ⟨C, hc⟩) (·.setIfInBounds 1 (Value.ref h₁.objs.size)) nfe
  obtain ⟨_, k1, k2⟩ := set_stab he₂ hd (.inl ⟨C, hc⟩) (·.setIfInBounds 1 (Value.ref h₁.objs.size))
  have hTe : h₁.objs.size ≠ e := Nat.ne_of_gt (Heap.lt_size he₁)
  refine h _ ((N1.trans N2).trans N3) ⟨hen, _, _, h₁.objs.size, oT, _, k1, hc, hdi, rfl, by simp [hsz], hTe, ?_, (k2 _ hTe).trans (Heap.get?_push_size h₁ rfl), rfl, ?_, rfl⟩
  · cases z : h0.get? h₁.objs.size with
    | none => rfl
    | some o =>
      obtain ⟨o', z'⟩ := al _ _ z
      obtain ⟨sl, z''⟩ := hs₁.2.2 _ _ z'
      have hlt := Heap.lt_size z''
      exact absurd hlt (Nat.lt_irrefl _)
  · simp only [List.size_toArray, List.length_append, List.length_cons, List.length_nil]; omega

theorem note_sound {env : Env} {outer : List Env} {L e C : Addr} {E : Value → Shared → Prop} {Q : Unit → Shared → Prop} (hfr : A.frames = some (env :: outer)) (hf : env.frame = some L)
    (I : Inv W (env :: outer) H s) (al : ∀ b o, h0.get? b = some o → ∃ o', s.heap.get? b = some o') (hb : ∀ b, h0.get? b = none → W.base.get? b = none) (x : ExcIn h0 s.heap e C)
    (h : ∀ h', Noted (env :: outer) h0 s.heap h' → ExcTr h0 h' e C → Q () { s with heap := h' }) :
    wpAny (model W.prog W.w) A (noteFrame (.ref e) env) Q E s := by
  obtain ⟨hen, oe, vs, he, hc, hdi, hd, hsz, hT⟩ := x
  unfold noteFrame
  simp only [hf]
  rcases hT with h1 | ⟨T, oT, ts, h1, hTe, hTn, hTg, hTd, hTs, hTc⟩
  · refine wpAny_bind (wpAny_field he hd h1 ?_)
    rw [if_neg (by decide)]
    exact entry_sound hfr hf I al hen he hc hdi hd hsz h
  · refine wpAny_bind (wpAny_field he hd h1 ?_)
    rw [if_pos (show (Value.ref T != Value.none) = true from by simp)]
    refine wpAny_bind (wpAny_field hTg hTd (x := ts[3]) (by simp [hTs]) ?_)
    by_cases h3 : (ts[3] == rawInt L) = true
    · rw [if_pos h3]
      exact wpAny_pure (h s.heap (Noted.refl _ _ _) ⟨hen, oe, vs, T, oT, ts, he, hc, hdi, hd, h1, hTe, hTn, hTg, hTd, hTs, hTc⟩)
    · rw [if_neg h3]
      refine wpAny_bind (wpAny_setField hTg hTd hTs ?_)
      have nfT : T ∉ frA (env :: outer) := fun hb => by
        obtain ⟨o', es, k, h1, h2⟩ := I.frame_dict hb
        rw [hTg] at h1; cases h1
        rw [hTd] at h2; cases h2
      have N0 := Noted.set (fr := env :: outer) (h0 := h0) hTn hTg hTd (.inr hTc) (·.setIfInBounds 3 Value.none) nfT
      obtain ⟨_, k1, k2⟩ := set_stab hTg hTd (.inr hTc) (·.setIfInBounds 3 Value.none)
      have I1 : Inv W (env :: outer) H { s with heap := s.heap.update T (Obj.mapFields (·.setIfInBounds 3 Value.none)) } := I.noted (t := s.toks) N0 hb
      refine entry_sound hfr hf I1 (fun b o z => by obtain ⟨o', z'⟩ := al b o z; exact N0.alive b o' z') hen ((k2 e (Ne.symm hTe)).trans he) hc hdi hd hsz fun h' N x => h h' (N0.trans N) x

theorem flight_sound {e C : Addr} {fo : Option Addr} {E : Value → Shared → Prop} {Q : Unit → Shared → Prop} (I : Inv W fr H s) (x : ExcTr h0 s.heap e C)
    (h : ∀ h', Noted fr h0 s.heap h' → ExcTr h0 h' e C → Q () { s with heap := h' }) : wpAny (model W.prog W.w) A (setFlight (.ref e) fo) Q E s := by
  obtain ⟨hen, oe, vs, T, oT, ts, he, hc, hdi, hd, h1, hTe, hTn, hTg, hTd, hTs, hTc⟩ := x
  unfold setFlight
  refine wpAny_bind (wpAny_field he hd h1 ?_)
  rw [if_pos (show (Value.ref T != Value.none) = true from by simp)]
  refine wpAny_setField hTg hTd hTs ?_
  have nfT : T ∉ frA fr := fun hb => by
    obtain ⟨o', es, k, h1, h2⟩ := I.frame_dict hb
    rw [hTg] at h1; cases h1
    rw [hTd] at h2; cases h2
  have N0 := Noted.set (fr := fr) (h0 := h0) hTn hTg hTd (.inr hTc) (·.setIfInBounds 3 (fo.elim .none fun f => rawInt f)) nfT
  obtain ⟨_, k1, k2⟩ := set_stab hTg hTd (.inr hTc) (·.setIfInBounds 3 (fo.elim .none fun f => rawInt f))
  exact h _ N0 ⟨hen, oe, vs, T, _, _, (k2 e (Ne.symm hTe)).trans he, hc, hdi, hd, h1, hTe, hTn, k1, rfl, by simpa using hTs, hTc⟩
end
end Mine

/-! Statements. -/
set_option maxRecDepth 100000
namespace Mine
open PySem PySem.Calls PyProof.Rows PySem.W

noncomputable def own (env : Env) (b : Addr) : Prop := b = env.locals ∨ ∃ n, (n, b) ∈ env.cells

structure FEnv (env : Env) (fr : List Env) : Prop where
  eo : EnvOk env
  frame : env.frame = some env.locals
  head : ∃ outer, fr = env :: outer
  apart : env.cells.Pairwise fun x y => x.2 ≠ y.2
  lc : ∀ n c, (n, c) ∈ env.cells → c ≠ env.locals

inductive RepF (h : Heap) : AFlow → Flow → Prop
  | next : RepF h .next .next
  | cont : RepF h .cont .cont
  | brk : RepF h .brk .brk
  | ret {a : AVal} {v : Value} : RepV h a v → RepF h (.ret a) (.ret v)

section
variable {W : Wd} {n : Nat} {q : Bool} {fr : List Env} {A : Around} {env : Env}

noncomputable def PFc (W : Wd) (env : Env) (fr : List Env) (H : AHeap) (s : Shared) (Q : PF) (fl : Flow) (s' : Shared) : Prop :=
  ∃ af σ' H', RepF s'.heap af fl ∧ Inv W fr H' s' ∧ Ext (own env) fr H s.heap H' s'.heap ∧ LocR W env fr σ' H' s'.heap ∧ Full env σ' ∧ Q af σ' H'
noncomputable def PSc (W : Wd) (env : Env) (fr : List Env) (H : AHeap) (s : Shared) (E : PS) (x : Value) (s' : Shared) : Prop :=
  ∃ e C σ' H', x = .ref e ∧ ExcIn s.heap s'.heap e C ∧ Inv W fr H' s' ∧ Ext (own env) fr H s.heap H' s'.heap ∧ LocR W env fr σ' H' s'.heap ∧ Full env σ' ∧ E C σ' H'

theorem PFc.trans {H H1 : AHeap} {s s1 s' : Shared} {Q : PF} {fl : Flow} (p : PFc W env fr H1 s1 Q fl s') (X : Ext (own env) fr H s.heap H1 s1.heap) : PFc W env fr H s Q fl s' :=
  let ⟨a, b, c, d, e, f, g⟩ := p; ⟨a, b, c, d, e, X.trans f, g⟩
theorem PSc.trans {H H1 : AHeap} {s s1 s' : Shared} {E : PS} {x : Value} (p : PSc W env fr H1 s1 E x s') (X : Ext (own env) fr H s.heap H1 s1.heap) : PSc W env fr H s E x s' :=
  let ⟨a, b, c, d, e, f, g, h, i⟩ := p; ⟨a, b, c, d, e, f.back X.alive, g, X.trans h, i⟩
theorem up0 {H H1 : AHeap} {h h1 : Heap} (X : Ext0 fr H h H1 h1) : Ext (own env) fr H h H1 h1 := X.weaken fun _ z => z.elim
theorem pf_up {m : Sem Flow} {H H1 : AHeap} {s s1 : Shared} {Q : PF} {E : PS} (X : Ext (own env) fr H s.heap H1 s1.heap) (h : wpAny (model W.prog W.w) A m (PFc W env fr H1 s1 Q) (PSc W env fr H1 s1 E) s1) :
    wpAny (model W.prog W.w) A m (PFc W env fr H s Q) (PSc W env fr H s E) s1 := wpAny_mono h (fun _ _ p => p.trans X) fun _ _ p => p.trans X
theorem pe_ps {H : AHeap} {s s' : Shared} {σ : Loc} {E : PS} {x : Value} (I : Inv W fr H s) (L : LocR W env fr σ H s.heap) (full : Full env σ) (p : PEc W fr H s (fun C H1 => E C σ H1) x s') : PSc W env fr H s E x s' := by
  obtain ⟨e, C, H', a, b, c, d, f⟩ := p
  exact ⟨e, C, σ, H', a, b, c, up0 d, L.step I d, full, f⟩
theorem LocR.own_imm {σ : Loc} {H : AHeap} {h : Heap} (L : LocR W env fr σ H h) : ∀ b o, own env b → h.get? b = some o → ¬ Imm o := fun b o hb ho => by
  rcases hb with rfl | ⟨m, hm⟩
  · obtain ⟨m, ⟨o', es, ep, h1, h2, _⟩, _⟩ := L.ns
    rw [h1] at ho; cases ho
    exact fun i => i.no_dict h2
  · obtain ⟨_, _, _, v, o', h1, h2⟩ := L.cl m b hm
    rw [h1] at ho; cases ho
    exact fun i => i.no_cell h2
theorem LocR.own_there {σ : Loc} {H : AHeap} {h : Heap} (L : LocR W env fr σ H h) {b : Addr} (hb : own env b) : ∃ o, h.get? b = some o := by
  rcases hb with rfl | ⟨m, hm⟩
  · obtain ⟨m, ⟨o', es, ep, h1, h2, _⟩, _⟩ := L.ns
    exact ⟨o', h1⟩
  · obtain ⟨_, _, _, v, o', h1, h2⟩ := L.cl m b hm
    exact ⟨o', h1⟩
theorem LocR.own_none {σ : Loc} {H : AHeap} {h : Heap} (L : LocR W env fr σ H h) {b : Addr} (hb : own env b) : H b = none ∧ W.base.get? b = none := by
  rcases hb with rfl | ⟨m, hm⟩
  · exact ⟨L.hl, L.bl⟩
  · obtain ⟨h1, _, h2, _⟩ := L.cl m b hm
    exact ⟨h1, h2⟩

theorem Inv.store {H : AHeap} {s : Shared} (I : Inv W fr H s) {σ : Loc} (L : LocR W env fr σ H s.heap) {a : Addr} {h' : Heap} {t : Nat} (ha : own env a) (x : Heap.ExtBut a s.heap h')
    (hd : a ∈ frA fr → ∃ o es k, h'.get? a = some o ∧ o.data = .dict es k) : Inv W fr H { s with heap := h', toks := t } := by
  obtain ⟨hH, hb⟩ := L.own_none ha
  have S : Stab s.heap h' := .of fun b o e i => x b o (fun z => L.own_imm b o (z ▸ ha) e i) e
  refine ⟨fun b o e => x b o (by rintro rfl; rw [hb] at e; cases e) (I.stay b o e), I.gens, I.os, fun b o e => (I.rep b o e).keep S fun y z => x b y (by rintro rfl; rw [hH] at e; cases e) z, I.new, fun e he => ?_⟩
  obtain ⟨h0, K, o, es, j, h1, h2, h3, h4, h5⟩ := I.frs e he
  by_cases hK : K = a
  · subst hK
    obtain ⟨o', es', k', q1, q2⟩ := hd (List.mem_filterMap.mpr ⟨e, he, h1⟩)
    exact ⟨h0, K, o', es', k', h1, h2, h3, q1, q2⟩
  · exact ⟨h0, K, o, es, j, h1, h2, h3, x K o hK h4, h5⟩
theorem Ext.store {H : AHeap} {h h' : Heap} {a : Addr} (ha : own env a) (x : Heap.ExtBut a h h') (hl : ∃ o, h'.get? a = some o) : Ext (own env) fr H h H h' where
  keep b o e _ no _ := x b o (by rintro rfl; exact no ha) e
  slots b _ no o e := ⟨o.slots, x b o (by rintro rfl; exact no ha) e⟩
  alive b o e := by
    by_cases hb : b = a
    · subst hb; exact hl
    · exact ⟨o, x b o hb e⟩
  fresh _ z y := absurd y z

theorem tgOk_kind {sc : Scope} {x : Str} (h : tgOk sc x = true) : (x == ("__debug__" : Str)) = false ∧ (sc.names.lookup x = some .local ∨ sc.names.lookup x = some .cell) := by
  unfold tgOk at h
  simp only [Bool.and_eq_true, Bool.not_eq_true', Bool.or_eq_true, beq_iff_eq] at h
  exact h

theorem store_sound (fe : FEnv env fr) {H : AHeap} {s : Shared} {σ : Loc} (I : Inv W fr H s) (L : LocR W env fr σ H s.heap) (full : Full env σ) {x : Str} (hx : tgOk env.scope x = true) {av : AVal} {v : Value} (rv : RepV s.heap av v)
    {M : Model} {E : Value → Shared → Prop} {R : Unit → Shared → Prop}
    (hR : ∀ h' tk, Inv W fr H { s with heap := h', toks := tk } → Ext (own env) fr H s.heap H h' → LocR W env fr (upd σ x av) H h' → Full env (upd σ x av) → (∀ b, ¬ own env b → h'.get? b = s.heap.get? b) → R () { s with heap := h', toks := tk }) :
    wpAny M A (storeName env x v) R E s := by
  obtain ⟨hd, hk⟩ := tgOk_kind hx
  obtain ⟨m, hn, hv⟩ := L.ns
  have full' : Full env (upd σ x av) := fun y a e => by
    unfold upd at e
    split at e
    · rename_i hy; subst hy
      rcases hk with hk | hk <;> (rw [show env.kindOf y = _ from hk]; exact fun z => nomatch z)
    · exact full y a e
  have dbg' : ∀ y a, upd σ x av y = some a → (y == ("__debug__" : Str)) = false := fun y a e => by
    unfold upd at e
    split at e
    · rename_i hy; subst hy; exact hd
    · exact L.dbg y a e
  rcases hk with hk | hk
  · refine wpAny_storeName_local hk hn (fun h' hn' hs' => ?_) (by rw [fe.eo.kind]; rfl)
    have ha : own env env.locals := .inl rfl
    have xb := hs'.extBut
    have S : Stab s.heap h' := .of fun b o e i => xb b o (fun z => L.own_imm b o (z ▸ ha) e i) e
    have hl : ∃ o, h'.get? env.locals = some o := by obtain ⟨o, _, _, h1, _⟩ := hn'; exact ⟨o, h1⟩
    refine hR h' _ (I.store L ha xb fun _ => by obtain ⟨o, es, ep, h1, h2, _⟩ := hn'; exact ⟨o, es, ep, h1, h2⟩) (Ext.store ha xb hl) ⟨⟨_, hn', fun y a ey => ?_⟩, dbg', L.hl, L.bl, fun y c hm => ?_, L.cs⟩ full' (fun b hb => hs'.2 b fun z => hb (.inl z))
    · unfold upd at ey
      split at ey
      · rename_i hy; cases ey; subst hy
        exact .inr (.inl ⟨hk, v, by simp, rv.mono S⟩)
      · rename_i hy
        rcases hv y a ey with w | ⟨w, u, w1, w2⟩ | ⟨w, c, u, w1, ⟨o, w2, w3⟩, w4⟩
        · exact .inl w
        · exact .inr (.inl ⟨w, u, by simp [hy, w1], w2.mono S⟩)
        · exact .inr (.inr ⟨w, c, u, w1, ⟨o, xb c o (fe.lc y c (mem_of_lookup w1)) w2, w3⟩, w4.mono S⟩)
    · obtain ⟨c1, c2, c3, u, o, w2, w3⟩ := L.cl y c hm
      exact ⟨c1, c2, c3, u, o, xb c o (fe.lc y c hm) w2, w3⟩
  · obtain ⟨c, hc⟩ := L.cs x hk
    have hm := mem_of_lookup hc
    obtain ⟨c1, c2, c3, u, hu⟩ := L.cl x c hm
    refine wpAny_storeName_cell fe.eo.kind hk hc hu fun h' hc' hs' => ?_
    have ha : own env c := .inr ⟨x, hm⟩
    have xb := hs'.extBut
    have S : Stab s.heap h' := .of fun b o e i => xb b o (fun z => L.own_imm b o (z ▸ ha) e i) e
    have hl : ∃ o, h'.get? c = some o := by obtain ⟨o, h1, _⟩ := hc'; exact ⟨o, h1⟩
    refine hR h' s.toks (I.store (t := s.toks) L ha xb fun z => absurd z c2) (Ext.store ha xb hl) ⟨⟨m, hn.extBut xb (Ne.symm (fe.lc x c hm)), fun y a ey => ?_⟩, dbg', L.hl, L.bl, fun y d hm' => ?_, L.cs⟩ full' (fun b hb => hs'.2 b fun z => hb (.inr ⟨x, z ▸ hm⟩))
    · unfold upd at ey
      split at ey
      · rename_i hy; cases ey; subst hy
        exact .inr (.inr ⟨hk, c, v, hc, hc', rv.mono S⟩)
      · rename_i hy
        rcases hv y a ey with w | ⟨w, u', w1, w2⟩ | ⟨w, d, u', w1, ⟨o, w2, w3⟩, w4⟩
        · exact .inl w
        · exact .inr (.inl ⟨w, u', w1, w2.mono S⟩)
        · refine .inr (.inr ⟨w, d, u', w1, ⟨o, xb d o (fun z => ?_) w2, w3⟩, w4.mono S⟩)
          subst z
          exact hy (name_of_addr fe.apart (mem_of_lookup w1) hm)
    · obtain ⟨d1, d2, d3, u', o, w2, w3⟩ := L.cl y d hm'
      by_cases hdc : d = c
      · subst hdc; obtain ⟨o', z1, z2⟩ := hc'; exact ⟨d1, d2, d3, some v, o', z1, z2⟩
      · exact ⟨d1, d2, d3, u', o, xb d o hdc w2, w3⟩

theorem exc_noted (ao : AOk n q fr A) (fe : FEnv env fr) {H : AHeap} {s s' : Shared} {E : PS} {x : Value} (I0 : Inv W fr H s) (p : PSc W env fr H s E x s') :
    notedBy (model W.prog W.w) A env (fun e s'' => cameBackBy (model W.prog W.w) A env (PSc W env fr H s E) e s'') x s' := by
  obtain ⟨e, C, σ', H', rfl, hx, I', X', L', full', he⟩ := p
  obtain ⟨outer, rfl⟩ := fe.head
  have hb : ∀ b, s.heap.get? b = none → W.base.get? b = none := fun b => I0.fresh_base
  unfold notedBy
  refine note_sound ao.frames fe.frame I' X'.alive hb hx fun h1 N1 T1 => ?_
  have I1 : Inv W (env :: outer) H' { s' with heap := h1 } := I'.noted (t := s'.toks) N1 hb
  have X1 := X'.noted N1
  have L1 := L'.noted N1
  unfold cameBackBy
  obtain ⟨hen, oe, vs, T, oT, ts, g1, g2, g3, g4, g5, g6⟩ := id T1
  refine wpAny_bind (wpAny_field g1 g4 g5 ?_)
  rw [if_neg (by simp)]
  refine flight_sound I1 T1 fun h2 N2 T2 => ?_
  exact ⟨e, C, σ', H', rfl, T2.in_, I1.noted (t := s'.toks) N2 hb, X1.noted (s := { s' with heap := h1 }) N2, L1.noted (s := { s' with heap := h1 }) N2, full', he⟩
end
end Mine

/-! Statements: the parts. -/
set_option maxRecDepth 100000
namespace Mine
open PySem PySem.Calls PyProof.Rows PySem.W

section
variable {W : Wd} {n : Nat} {q : Bool} {fr : List Env} {A : Around} {env : Env}

noncomputable def PAc (W : Wd) (env : Env) (fr : List Env) (H : AHeap) (s : Shared) (Q : Loc → AHeap → Prop) (s' : Shared) : Prop :=
  ∃ σ' H', Inv W fr H' s' ∧ Ext (own env) fr H s.heap H' s'.heap ∧ LocR W env fr σ' H' s'.heap ∧ Full env σ' ∧ Q σ' H'

theorem asg_tup {K : Frag} {Φ : Bool → CallP} {v : AVal} {x y : Str} {px py p : Pos} {k} {Q : Loc → AHeap → Prop} {σ : Loc} {H : AHeap} {E : PE} : asg K Φ q v (.Tuple [.Name x px, .Name y py] k p) σ H Q E = (q = true ∧ (match v with | .tup [a, b] => Q (upd (upd σ x a) y b) H | _ => False)) := propext Iff.rfl
theorem tup_form {K : Frag} {sc : Scope} {e : Expr} {es : List Expr} {k} {p : Pos} (hs : tOk K sc e (.Tuple es k p) = true) : ∃ x px y py, es = [.Name x px, .Name y py] := by
  cases es with
  | nil => exact absurd (show false = true from hs) (by decide)
  | cons a r =>
    cases r with
    | nil => cases a <;> exact absurd (show false = true from hs) (by decide)
    | cons c r =>
      cases r with
      | cons _ _ => cases a <;> first | exact absurd (show false = true from hs) (by decide) | (cases c <;> exact absurd (show false = true from hs) (by decide))
      | nil => cases a <;> first | exact absurd (show false = true from hs) (by decide) | (cases c <;> first | exact ⟨_, _, _, _, rfl⟩ | exact absurd (show false = true from hs) (by decide))

theorem asg_snd (wo : WOk W) (ao : AOk n q fr A) (fe : FEnv env fr) (t e : Expr) (σ : Loc) (H : AHeap) (s : Shared) (Q : Loc → AHeap → Prop) (E : PE) (av : AVal) (v : Value) (full : Full env σ) (hs : tOk W.K env.scope e t = true)
    (he : asg W.K (CallOk W n) q av t σ H Q E) (I : Inv W fr H s) (L : LocR W env fr σ H s.heap) (rv : RepV s.heap av v) :
    wpAny (model W.prog W.w) A (assign t env v) (fun _ s' => PAc W env fr H s Q s') (PEc W fr H s E) s := by
  cases t with
  | Name x p =>
    replace hs : tgOk env.scope x = true := hs; replace he : Q (upd σ x av) H := he
    exact wpAny_assign_Name (store_sound fe I L full hs rv fun h' tk I' X' L' f' _ => ⟨_, H, I', X', L', f', he⟩)
  | Subscript o i p =>
    replace hs : (scE W.K true env.scope o && scE W.K true env.scope i && notSlice i && notComp e) = true := hs
    simp only [Bool.and_eq_true] at hs
    obtain ⟨⟨⟨h1, h2⟩, _⟩, _⟩ := hs
    rw [arm_assign_Subscript]
    refine wpAny_bind (wpAny_holding (pv_post (ev_snd wo ao o true env σ H s _ E fe.eo (fun _ => full) h1 he I L) fun ov s1 oa H1 ro I1 X1 k1 => ?_))
    have L1 := L.step I X1
    refine wpAny_bind (wpAny_holding (wpAny_mono (pv_post (Q1 := _) (ev_snd wo ao i true env σ H1 s1 _ E fe.eo (fun _ => full) h2 k1 I1 L1) fun iv s2 ia H2 ri I2 X2 k2 => ?_) (fun _ _ p => p) fun _ _ p => p.trans X1))
    have L2 := L1.step I1 X2
    refine wpAny_bind (wpAny_standAt (wpAny_bind (wpAny_holding (setitem_sound I2 (ro.mono (X2.stab I1)) ri ((rv.mono (X1.stab I)).mono (X2.stab I1)) k2 fun H3 s3 I3 X3 k3 => wpAny_release' ?_))))
    exact ⟨σ, H3, I3, up0 ((X1.trans X2).trans X3), L2.step I2 X3, full, k3⟩
  | Attribute o name p =>
    replace hs : (scE W.K true env.scope o && notComp e) = true := hs
    simp only [Bool.and_eq_true] at hs
    rw [arm_assign_Attribute]
    refine wpAny_bind (wpAny_holding (pv_post (ev_snd wo ao o true env σ H s _ E fe.eo (fun _ => full) hs.1 he I L) fun ov s1 oa H1 ro I1 X1 k1 => ?_))
    have L1 := L.step I X1
    refine wpAny_bind (wpAny_standAt (wpAny_bind (wpAny_holding (setattr_sound I1 wo ro (rv.mono (X1.stab I)) k1 fun H3 s3 I3 X3 k3 => wpAny_release' ?_))))
    exact ⟨σ, H3, I3, up0 (X1.trans X3), L1.step I1 X3, full, k3⟩
  | Tuple es k p =>
    obtain ⟨x, px, y, py, rfl⟩ := tup_form hs
    · replace hs : (tgOk env.scope x && tgOk env.scope y && notTup e && notComp e) = true := hs
      simp only [Bool.and_eq_true] at hs
      rw [asg_tup] at he
      obtain ⟨hq, he⟩ := he
      split at he
      · rename_i a b
        obtain ⟨_, _, rfl, ht, hl, hr⟩ := rv.inv
        · obtain ⟨va, vb, rfl, ra, rb⟩ := hr.two
          refine assign_Tuple_tuple (ao.handled hq) ht rfl rfl fun h1 x1 => ?_
          have hn := size_none s.heap
          have p1 : Priv W fr H s.heap s.heap.objs.size := I.priv hn fun o ho => by rw [hn] at ho; cases ho
          have I1 : Inv W fr H { s with heap := h1 } := I.touch (t := s.toks) p1 x1
          have S1 := p1.stab x1
          have fresh : ∀ c, (∃ o, s.heap.get? c = some o) → c ≠ s.heap.objs.size := fun c ⟨o, ho⟩ z => by rw [z, hn] at ho; cases ho
          have L1 : LocR W env fr σ H h1 := L.touch p1 x1 (fresh _ (L.own_there (.inl rfl))) fun m c hm => fresh _ (L.own_there (.inr ⟨m, hm⟩))
          have X1 : Ext (own env) fr H s.heap H h1 := (Ext.refl _ fr H s.heap).touch x1 hn
          show wpAny _ _ (assignInOrder [assign (.Name x px) env, assign (.Name y py) env] [va, vb]) _ _ _
          refine assignInOrder_cons (wpAny_assign_Name (store_sound fe I1 L1 full hs.1.1.1 (ra.mono S1) fun h2 tk2 I2 X2 L2 f2 _ => ?_))
          have S2 : Stab h1 h2 := X2.stab I1 L1.own_imm
          refine assignInOrder_cons (wpAny_assign_Name (store_sound fe I2 L2 f2 hs.1.1.2 ((rb.mono S1).mono S2) fun h3 tk3 I3 X3 L3 f3 _ => ?_))
          exact assignInOrder_nil ⟨_, H, I3, (X1.trans X2).trans X3, L3, f3, he⟩
      · exact he.elim
  | _ => exact absurd (show false = true from hs) (by decide)

theorem swaps_not {e t : Expr} {l : Nat} (h : notComp e = true) (hs : scE W.K true env.scope e = true) : swapsWith e (some t) l env = pure false ∧ swapsWith e none l env = pure false := by
  cases e <;> first | (cases h; done) | exact ⟨rfl, rfl⟩ | (exact absurd (show false = true from hs) (by decide))

theorem swapped_none {t e : Expr} (h : tOk W.K env.scope e t = true) : swappedStores [t] e env = pure none := by
  cases t with
  | Name _ _ => cases e <;> rfl
  | Subscript _ _ _ => cases e <;> rfl
  | Attribute _ _ _ => cases e <;> rfl
  | Tuple es _ _ =>
    obtain ⟨x, px, y, py, rfl⟩ := tup_form h
    replace h : (tgOk env.scope x && tgOk env.scope y && notTup e && notComp e) = true := h
    simp only [Bool.and_eq_true] at h
    cases e <;> first | rfl | exact absurd (show false = true from h.1.2) (by decide)
  | _ => exact absurd (show false = true from h) (by decide)

theorem plain_assign {t e : Expr} {p : Pos} {E : Value → Shared → Prop} {s : Shared} {Q : Flow → Shared → Prop} (ht : ∀ x y, t ≠ .Starred x y) (hsw : swapsWith e (some t) p.line env = pure false) (hst : swappedStores [t] e env = pure none)
    (h : wpAny (model W.prog W.w) A (eval e env) (fun v s1 => wpAny (model W.prog W.w) A (assign t env v) (fun _ => Q .next) E s1) E s) : wpAny (model W.prog W.w) A (exec (.Assign [t] e p) env) Q E s := by
  refine wpAny_Assign_stores (wpAny_mono h (fun v s1 h1 => ?_) fun _ _ x => x) hsw hst
  have e1 : (assignEach [t] env).map (·.2) = [assign t env] := by cases t <;> first | rfl | exact absurd rfl (ht _ _)
  rw [e1]
  exact h1

theorem for_snd (ao : AOk n true fr A) (fe : FEnv env fr) {x : Str} {px : Pos} {body : List Stmt} {B : Loc → AHeap → PF → PS → Prop} {src : Option (Addr × AObj)} {Q : PF} {E : PS} {H0 : AHeap} {s0 s : Shared} {it : Addr} (hx : tgOk env.scope x = true)
    (hB : ∀ σ' H' s' Q' E', B σ' H' Q' E' → Inv W fr H' s' → LocR W env fr σ' H' s'.heap → Full env σ' → wpAny (model W.prog W.w) A (execs body env) (PFc W env fr H' s' Q') (PSc W env fr H' s' E') s')
    (I0 : Inv W fr H0 s0) (nI : s0.heap.get? it = none) (nO : ¬ own env it)
    (its : List AVal) (σ : Loc) (H : AHeap) (I : Inv W fr H s) (X : Ext (own env) fr H0 s0.heap H s.heap) (J : ItAt s.heap it src its) (pI : Priv W fr H s.heap it) (L : LocR W env fr σ H s.heap) (full : Full env σ) (hs : srcA src H)
    (e : forA B x src Q E its σ H) :
    codeAny (model W.prog W.w) A (.forLoop (.Name x px) (.ref it) body [] env) (fun r s' => match r with | .ok f => PFc W env fr H0 s0 Q f s' | .error e => cameBackBy (model W.prog W.w) A env (PSc W env fr H0 s0 E) e s') s := by
  refine codeAny_forLoop (fun j s' => ∃ its σ H, j = its.length ∧ Inv W fr H s' ∧ Ext (own env) fr H0 s0.heap H s'.heap ∧ ItAt s'.heap it src its ∧ Priv W fr H s'.heap it ∧ LocR W env fr σ H s'.heap ∧ Full env σ ∧ srcA src H ∧ forA B x src Q E its σ H) ?_
    its.length ⟨its, σ, H, rfl, I, X, J, pI, L, full, hs, e⟩
  clear I X J pI L full hs e
  rintro j s1 ⟨its, σ, H, rfl, I, X, J, pI, L, full, hs, e⟩
  have lI : env.locals ≠ it := fun z => nO (.inl z.symm)
  have cI : ∀ m c, (m, c) ∈ env.cells → c ≠ it := fun m c hm z => nO (.inr ⟨m, z ▸ hm⟩)
  cases its with
  | nil =>
    refine next_end I J hs (ao.handled rfl) fun h' x1 => ?_
    refine wpAny_execs_nil ⟨.next, σ, H, .next, I.touch (t := s1.toks) pI x1, X.touch x1 nI, L.touch pI x1 lI cI, full, e⟩
  | cons a rest =>
    refine next_sound I J pI hs fun v h' tk rv J' x1 => ?_
    have I1 : Inv W fr H { s1 with heap := h', toks := tk } := I.touch pI x1
    have X1 := X.touch x1 nI
    have L1 := L.touch pI x1 lI cI
    have pI1 : Priv W fr H h' it := ⟨pI.hh, pI.hf, pI.hb, fun o ho => by obtain ⟨o', h1, h2⟩ := J'.imm; rw [h1] at ho; cases ho; exact h2⟩
    obtain ⟨oI, hI1, _⟩ := J'.imm
    dsimp only
    refine wpAny_assign_Name (store_sound fe I1 L1 full hx rv fun h2 tk2 I2 X2 L2 f2 k2 => ?_)
    have S2 : Stab h' h2 := X2.stab I1 L1.own_imm
    have eI2 : h2.get? it = some oI := (k2 it nO).trans hI1
    have pI2 : Priv W fr H h2 it := (pI1.step hI1 X2 nO).1
    have J2 : ItAt h2 it src rest := J'.keep S2 fun o ho => (k2 it nO).trans ho
    unfold forA at e
    have X12 := X1.trans X2
    refine wpAny_mono (hB _ _ { s1 with heap := h2, toks := tk2 } _ _ e I2 L2 f2) (fun f s3 p => ?_) fun y s3 p => exc_noted ao fe I0 (p.trans X12)
    obtain ⟨af, σ3, H3, rf, I3, X3, L3, f3, q3⟩ := p
    have S3 : Stab h2 s3.heap := X3.stab I2 L2.own_imm
    obtain ⟨pI3, eI3⟩ := pI2.step eI2 X3 nO
    have J3 : ItAt s3.heap it src rest := J2.keep S3 fun o ho => X3.keep it o ho pI2.hh nO pI2.hf
    cases rf with
    | next => exact ⟨rest.length, by simp, rest, σ3, H3, rfl, I3, X12.trans X3, J3, pI3, L3, f3, q3.1, q3.2⟩
    | cont => exact ⟨rest.length, by simp, rest, σ3, H3, rfl, I3, X12.trans X3, J3, pI3, L3, f3, q3.1, q3.2⟩
    | brk => exact ⟨.next, σ3, H3, .next, I3, X12.trans X3, L3, f3, q3⟩
    | ret rv => exact ⟨.ret _, σ3, H3, .ret rv, I3, X12.trans X3, L3, f3, q3⟩

theorem while_snd (ao : AOk n q fr A) (fe : FEnv env fr) {test : Expr} {body : List Stmt} {T : Loc → AHeap → PB → PE → Prop} {B : Loc → AHeap → PF → PS → Prop} {Q : PF} {E : PS} {H0 : AHeap} {s0 s : Shared}
    (hT : ∀ σ' H' s' Q' E', T σ' H' Q' E' → Inv W fr H' s' → LocR W env fr σ' H' s'.heap → Full env σ' → wpAny (model W.prog W.w) A (isTrue test env (eval test env)) (PBc W fr H' s' Q') (PEc W fr H' s' E') s')
    (hB : ∀ σ' H' s' Q' E', B σ' H' Q' E' → Inv W fr H' s' → LocR W env fr σ' H' s'.heap → Full env σ' → wpAny (model W.prog W.w) A (execs body env) (PFc W env fr H' s' Q') (PSc W env fr H' s' E') s')
    (I0 : Inv W fr H0 s0) (k : Nat) (σ : Loc) (H : AHeap) (I : Inv W fr H s) (X : Ext (own env) fr H0 s0.heap H s.heap) (L : LocR W env fr σ H s.heap) (full : Full env σ) (e : whA T B Q E k σ H) :
    codeAny (model W.prog W.w) A (.whileLoop test body [] env) (fun r s' => match r with | .ok f => PFc W env fr H0 s0 Q f s' | .error e => cameBackBy (model W.prog W.w) A env (PSc W env fr H0 s0 E) e s') s := by
  refine codeAny_whileLoop (fun j s' => ∃ σ H, Inv W fr H s' ∧ Ext (own env) fr H0 s0.heap H s'.heap ∧ LocR W env fr σ H s'.heap ∧ Full env σ ∧ whA T B Q E j σ H) ?_ k ⟨σ, H, I, X, L, full, e⟩
  clear I X L full e
  rintro j s1 ⟨σ, H, I, X, L, full, e⟩
  cases j with
  | zero => exact e.elim
  | succ j =>
    unfold whA at e
    refine wpAny_mono (hT _ _ s1 _ _ e I L full) (fun b s2 p => ?_) fun y s2 p => exc_noted ao fe I0 (PSc.trans (pe_ps I L full p) X)
    obtain ⟨H2, I2, X2, q2⟩ := p
    have L2 := L.step I X2
    have X12 := X.trans (up0 (env := env) X2)
    cases b with
    | false => rw [if_neg (by decide)]; exact wpAny_execs_nil ⟨.next, σ, H2, .next, I2, X12, L2, full, q2⟩
    | true =>
      rw [if_pos rfl]
      refine wpAny_mono (hB _ _ s2 _ _ q2 I2 L2 full) (fun f s3 p => ?_) fun y s3 p => exc_noted ao fe I0 (p.trans X12)
      obtain ⟨af, σ3, H3, rf, I3, X3, L3, f3, q3⟩ := p
      cases rf with
      | next => exact ⟨j, Nat.lt_succ_self j, σ3, H3, I3, X12.trans X3, L3, f3, q3⟩
      | cont => exact ⟨j, Nat.lt_succ_self j, σ3, H3, I3, X12.trans X3, L3, f3, q3⟩
      | brk => exact ⟨.next, σ3, H3, .next, I3, X12.trans X3, L3, f3, q3⟩
      | ret rv => exact ⟨.ret _, σ3, H3, .ret rv, I3, X12.trans X3, L3, f3, q3⟩

theorem gval_ref {K : Frag} {x : Str} {C : Addr} (h : gval K x = some (.val (.ref C))) : nsIn K mainGlobals x = some (some (.ref C)) := by
  unfold gval at h
  split at h
  · cases h
  · split at h
    · cases h
    · rename_i a ha; cases h; exact ha
    · cases h
    · split at h <;> cases h
    · cases h

theorem raise_snd (wo : WOk W) (ao : AOk n true fr A) (fe : FEnv env fr) {x : Str} {np cpos kp pos : Pos} {kk : Nat} {msg : Str} {σ : Loc} {H : AHeap} {s : Shared} {C : Addr} {Q : Flow → Shared → Prop} {E : PS} (hn : nmOk W.K env.scope x = true)
    (hg : gval W.K x = some (.val (.ref C))) (hx : σ x = none) (hc : excOk W.K C = true) (he : E C σ H) (I : Inv W fr H s) (L : LocR W env fr σ H s.heap) (full : Full env σ) :
    wpAny (model W.prog W.w) A (exec (.Raise (some (.Call (.Name x np) [.Constant (.str msg) kk kp] [] cpos)) none pos) env) Q (PSc W env fr H s E) s := by
  obtain ⟨p, loose, mg, mb, T⟩ := wo.top
  have O := own_of_in wo.k T (gval_ref hg) hc
  obtain ⟨tl, N, nm, qn, bs, hdct, sn, sub, ab, col, dd, k0, k1, k2, k3, k5, mN, hC, hN, hni, TL⟩ := O.obj
  refine wpAny_Raise_call_subT (C := C) (nm := nm) (q := qn) (N := N) (bs := bs) (bm := tl) (hdct := hdct) (sn := sn) (sub := sub) (ab := ab) (col := col) (dd := dd) (k0 := k0) (k1 := k1) (k2 := k2) (k3 := k3) (k5 := k5)
    PySem.F.excBase_ValueError (mN := mN) (TL.hasType PySem.F.excBase_ValueError.hasBase) (ao.handled rfl) rfl hni ?_
  refine wpAny_mono (name_sound (Q := fun av H1 => av = .val (.ref C) ∧ H1 = H) wo fe.eo I L (by unfold nmA; rw [hx]; dsimp only; rw [hg]; exact ⟨rfl, rfl⟩) hn) (fun f s1 p => ?_) fun _ _ z => z
  obtain ⟨av, H1, rv, I1, X1, rfl, rfl⟩ := p
  obtain rfl := rv.inv
  refine ⟨rfl, ?_⟩
  refine Calls.evalArgs_plain (spliced_more (wpAny_Constant_str (spliced_none ?_)))
  refine ⟨rfl, by simp [sizeLine_eq], I1.stay _ _ hC, hN.keeps I1.stay, TL.keeps I1.stay, fun h' e hm => ?_⟩
  obtain ⟨t, g1, g2, g3⟩ := hm.there
  have L1 := L.step I X1
  have kp : ∀ b o, s1.heap.get? b = some o → h'.get? b = some o := hm.keeps
  have X2 : Ext0 fr H1 s1.heap H1 h' := Ext.grown kp
  have I2 : Inv W fr H1 { s1 with heap := h', toks := s1.toks + 1 } := I1.grown kp
  refine ⟨e, C, σ, H1, rfl, ⟨?_, _, _, g1, rfl, rfl, rfl, by simp, .inl rfl⟩, I2, up0 (X1.trans X2), L1.step I1 X2, full, he⟩
  cases z : s.heap.get? e with
  | none => rfl
  | some o => obtain ⟨o', z'⟩ := X1.alive _ _ z; have := hm.new; rw [z'] at this; cases this
end
end Mine

/-! Statements, all. -/
set_option maxRecDepth 100000
namespace Mine
open PySem PySem.Calls PyProof.Rows PySem.W

section
variable {W : Wd} {n : Nat} {fr : List Env} {env : Env}

theorem comp_use {q : Bool} {A : Around} (wo : WOk W) (ao : AOk n q fr A) (fe : FEnv env fr) {elt : Expr} {gens : List Comprehension} {sc' : Scope} {p py : Pos} {spos : Pos} {y : Str} {σ : Loc} {H : AHeap} {s : Shared} {Q : PF} {E : PS}
    (hsw : swapsWith (.ListComp elt gens sc' p) (some (.Name y py)) spos.line env = pure true) (hy : tgOk env.scope y = true) (hs : scE W.K true env.scope (.ListComp elt gens sc' p) = true) (full : Full env σ)
    (he : ev W.K (CallOk W n) q (.ListComp elt gens sc' p) σ H (fun v H1 => Q .next (upd σ y v) H1) (fun C H1 => E C σ H1)) (I : Inv W fr H s) (L : LocR W env fr σ H s.heap) :
    wpAny (model W.prog W.w) A (exec (.Assign [.Name y py] (.ListComp elt gens sc' p) spos) env) (PFc W env fr H s Q) (PSc W env fr H s E) s := by
  have eo := fe.eo
  simp only [v_name, v_boolop, v_not, v_usub, v_bin, v_cmp, v_calla, v_calln, v_attr, v_cut, v_tuple, v_list, v_comp] at he
  obtain ⟨x, px, iter, ifs, rfl⟩ : ∃ x px iter ifs, gens = [⟨.Name x px, iter, ifs, 0⟩] := gens_of he
  simp only [c_strc, c_name, c_boolop, c_un, c_bin, c_cmp, c_calla, c_calln, c_attr, c_sub, c_slice, c_tuple, c_list, c_comp, cG_one, Bool.and_eq_true, beq_iff_eq, Bool.not_eq_true'] at hs
  obtain ⟨⟨⟨h1, h2⟩, h3⟩, ⟨⟨⟨h4, h5⟩, h6⟩, h7⟩, h8⟩ := hs
  simp only [v_gen] at he
  have hk : ∀ cl C, EnvOk (compEnvC sc' cl C env) := fun cl C => ⟨(compOk_all h2).1, eo.globals, eo.builtins⟩
  have hsc : ∀ cl C, (compEnvC sc' cl C env).scope = relabelS env.scope sc' := fun cl C => relabel_eq eo.kind sc'
  obtain ⟨cl, hcl, hc1, hc2⟩ := closure_sound L h2
  obtain ⟨hkf, hall⟩ := compOk_all h2
  have hnames : ∀ y ∈ sc'.names, y.2 = .local → sc'.names.lookup y.1 = some .local := fun y hy z => by
    rcases hall y.1 y.2 hy with ⟨_, w⟩ | ⟨w, _⟩ | ⟨w, _⟩
    · exact w
    · rw [z] at w; cases w
    · rw [z] at w; cases w
  have hfold : ∀ v, foldedSetIterable iter env v = pure v := by cases iter <;> first | (intro _; rfl) | (exact absurd (show false = true from h7) (by decide))
  rw [exec_Assign_Name_used _ _ _ _ hsw]
  refine wpAny_bind (wpAny_standAt (wpAny_bind ?_))
  show wpAny _ A (do let _ ← comprehension (.ListComp elt [⟨.Name x px, iter, ifs, 0⟩] sc' p) sc' env _ (newList []) false (eval iter env) (some (assign (.Name y py) env))) _ _ s
  refine wpAny_bind (wpAny_mono (wpAny_comprehension_free (use := some (assign (.Name y py) env)) (Q := fun _ s' => PFc W env fr H s Q .next s') rfl hfold hcl hkf hnames
    (wpAny_mono (ev_snd wo ao iter false env σ H s _ _ eo (fun z => nomatch z) h7 he I L) (fun xv s1 h1 => ?_) fun _ _ z => pe_ps I L full z)) (fun _ s' hq => wpAny_pure (wpAny_pure hq)) fun _ _ e => e)
  obtain ⟨a, H1, ra, I1, X1, q1⟩ := h1
  obtain ⟨its, src, ei, q1⟩ := q1
  · have L1 := L.step I X1
    obtain ⟨⟨hq, hlen⟩, q1⟩ := q1
    subst hq
    refine comp_block (T := fun σ1 H2 Q2 => tsts W.K (CallOk W n) true ifs σ1 H2 Q2) (V := fun σ1 H2 Q2 => ev W.K (CallOk W n) true elt σ1 H2 Q2 fun _ _ => False) ao eo ?_ ?_ h2 h4 (relabel_all h5) h6 full hc1 hc2 I1 L1 ra ei hlen q1 fun D C H' s' I' X' nC qd hm pC => ?_
    · intro C σ' H' s' Q' ht I' L'
      exact tsts_snd wo ao ifs (fun y _ => tst_snd wo ao y) (compEnvC sc' cl C env) σ' H' s' Q' (hk cl C) (by rw [hsc]; exact h8) ht I' L'
    · intro C σ' H' s' Q' hv I' L'
      have h3' : scE W.K false (compEnvC sc' cl C env).scope elt = true := by rw [hsc]; exact h3
      have h9 := ev_snd wo ao elt false (compEnvC sc' cl C env) σ' H' s' Q' (fun _ _ => False) (hk cl C) (fun z => nomatch z) h3' hv I' L'
      exact wpAny_mono h9 (fun _ _ p => p) fun _ _ p => pe_false p
    · obtain ⟨m, hm⟩ := hm
      have L2 := L1.step I1 X'
      have nO : ¬ own env C := fun z => by obtain ⟨o, ho⟩ := L1.own_there z; rw [nC] at ho; cases ho
      show wpAny _ A (assign (.Name y py) env (.ref D)) _ _ _
      refine wpAny_assign_Name (store_sound fe I' L2 full hy (.ref D) fun h2 tk2 I2 X2 L3 f2 k2 => ?_)
      have hm2 : h2.Ns C m := hm.at' fun o e => (k2 C nO).trans e
      obtain ⟨oC, _, _, hC1, _⟩ := id hm
      have pC2 := (pC.step hC1 X2 nO).1
      refine ⟨m, hm2, fun h3 hs3 => ?_⟩
      have x3 := hs3.extBut
      refine ⟨.next, _, H', .next, I2.touch (t := tk2) pC2 x3, (up0 X1).trans (((up0 X').trans X2).touch x3 nC), L3.touch pC2 x3 (fun z => nO (.inl z.symm)) (fun m c hm z => nO (.inr ⟨m, z ▸ hm⟩)), f2, qd⟩

theorem RepF.mono {h h' : Heap} (S : Stab h h') {af : AFlow} {f : Flow} (r : RepF h af f) : RepF h' af f := by
  cases r with
  | next => exact .next
  | cont => exact .cont
  | brk => exact .brk
  | ret r => exact .ret (r.mono S)

theorem AOk.mark {q : Bool} {A : Around} (ao : AOk n q fr A) (e : Value) : AOk n false fr (A.mark (some e)) := ⟨ao.frames, fun z => (nomatch z), ao.depth, ao.units⟩

theorem passOn_snd {A : Around} (fe : FEnv env fr) {what : String} {e C : Addr} {σ : Loc} {H H0 : AHeap} {s s0 : Shared} {Q : Flow → Shared → Prop} {E : PS} (I0 : Inv W fr H0 s0) (T : ExcTr s0.heap s.heap e C) (I : Inv W fr H s)
    (X : Ext (own env) fr H0 s0.heap H s.heap) (L : LocR W env fr σ H s.heap) (full : Full env σ) (he : E C σ H) : wpAny (model W.prog W.w) A (PySem.passOn what (.ref e) env : Sem Flow) Q (PSc W env fr H0 s0 E) s := by
  have hb : ∀ b, s0.heap.get? b = none → W.base.get? b = none := fun b => I0.fresh_base
  unfold PySem.passOn
  obtain ⟨hen, oe, vs, T', oT, ts, g1, g2, g3, g4, g5, g6⟩ := id T
  refine wpAny_bind (wpAny_field g1 g4 g5 ?_)
  rw [if_neg (by simp)]
  refine wpAny_bind (flight_sound I T fun h2 N2 T2 => wpAny_throw ?_)
  exact ⟨e, C, σ, H, rfl, T2.in_, I.noted (t := s.toks) N2 hb, X.noted N2, L.noted N2, full, he⟩

theorem note_snd {q : Bool} {A : Around} {H : AHeap} {s : Shared} {h0 : Heap} {e C : Addr} {E : Value → Shared → Prop} {Q : Unit → Shared → Prop} (ao : AOk n q fr A) (fe : FEnv env fr)
    (I : Inv W fr H s) (al : ∀ b o, h0.get? b = some o → ∃ o', s.heap.get? b = some o') (hb : ∀ b, h0.get? b = none → W.base.get? b = none) (x : ExcIn h0 s.heap e C)
    (h : ∀ h', Noted fr h0 s.heap h' → ExcTr h0 h' e C → Q () { s with heap := h' }) :
    wpAny (model W.prog W.w) A (noteFrame (.ref e) env) Q E s := by
  obtain ⟨outer, rfl⟩ := fe.head
  exact note_sound ao.frames fe.frame I al hb x h
theorem ps_false {H : AHeap} {s s' : Shared} {x : Value} (p : PSc W env fr H s (fun _ _ _ => False) x s') : False := by
  obtain ⟨_, _, _, _, _, _, _, _, _, _, z⟩ := p
  exact z
theorem excObj_of {h0 h : Heap} {e C : Addr} (T : ExcTr h0 h e C) : ExcObj h e C := by
  obtain ⟨hen, oe, vs, T', oT, ts, g1, g2, g3, g4, g5, g6⟩ := T
  exact ⟨oe, vs, g1, g2, g4, g3⟩

set_option maxHeartbeats 4000000 in
noncomputable def StP (W : Wd) (n : Nat) (env : Env) (fr : List Env) (st : Stmt) : Prop := ∀ (q : Bool) (A : Around), AOk n q fr A → ∀ (σ : Loc) (H : AHeap) (s : Shared) (Q : PF) (E : PS), Full env σ → scS W.K env.scope st = true →
  ex W.K (CallOk W n) q st σ H Q E → Inv W fr H s → LocR W env fr σ H s.heap → wpAny (model W.prog W.w) A (exec st env) (PFc W env fr H s Q) (PSc W env fr H s E) s
noncomputable def hbody : ExceptHandler → List Stmt
  | .ExceptHandler _ _ b _ => b
theorem hbody_size (h : ExceptHandler) : sizeOf (hbody h) < sizeOf h := by
  cases h; simp only [hbody, ExceptHandler.ExceptHandler.sizeOf_spec]; omega

theorem exs_snd (wo : WOk W) (fe : FEnv env fr) (b : List Stmt) (hall : ∀ st ∈ b, StP W n env fr st) (q : Bool) (A : Around) (ao : AOk n q fr A) (σ : Loc) (H : AHeap) (s : Shared) (Q : PF) (E : PS) (full : Full env σ) (hs : scSs W.K env.scope b = true)
    (he : exs W.K (CallOk W n) q b σ H Q E) (I : Inv W fr H s) (L : LocR W env fr σ H s.heap) : wpAny (model W.prog W.w) A (execs b env) (PFc W env fr H s Q) (PSc W env fr H s E) s := by
  match b, hall, hs, he with
  | [], _, _, he =>
    simp only [xs_nil, xs_cons] at he
    exact wpAny_execs_nil ⟨.next, σ, H, .next, I, .refl _ _ _ _, L, full, he⟩
  | st :: r, hall, hs, he =>
    simp only [xs_nil, xs_cons] at he; simp only [ds_nil, ds_cons, Bool.and_eq_true] at hs
    refine wpAny_execs_cons (wpAny_mono (hall st List.mem_cons_self q A ao σ H s _ _ full hs.1 he I L) (fun fl s1 hp => ?_) fun _ _ z => z)
    obtain ⟨af, σ1, H1, rf, I1, X1, L1, f1, q1⟩ := hp
    cases rf with
    | next => exact pf_up X1 (exs_snd wo fe r (fun y hy => hall y (List.mem_cons_of_mem _ hy)) q A ao σ1 H1 s1 Q E f1 hs.2 q1 I1 L1)
    | cont => exact ⟨.cont, σ1, H1, .cont, I1, X1, L1, f1, q1⟩
    | brk => exact ⟨.brk, σ1, H1, .brk, I1, X1, L1, f1, q1⟩
    | ret rv => exact ⟨.ret _, σ1, H1, .ret rv, I1, X1, L1, f1, q1⟩

theorem hd_snd (wo : WOk W) (fe : FEnv env fr) (hds : List ExceptHandler) (hall : ∀ h ∈ hds, ∀ st ∈ hbody h, StP W n env fr st) (A : Around) (ao : AOk n true fr A) (C e : Addr) (σ : Loc) (H : AHeap) (s : Shared) (Q : PF) (E : PS) (H0 : AHeap) (s0 : Shared) (full : Full env σ) (hs : scHs W.K env.scope hds = true)
    (he : hdA W.K (CallOk W n) hds C σ H Q E) (I0 : Inv W fr H0 s0) (I : Inv W fr H s) (X : Ext (own env) fr H0 s0.heap H s.heap) (L : LocR W env fr σ H s.heap) (T : ExcTr s0.heap s.heap e C) :
    wpAny (model W.prog W.w) A (handleBy (.ref e) env hds) (PFc W env fr H0 s0 Q) (PSc W env fr H0 s0 E) s := by
  match hds, hall, hs, he with
  | [], _, _, he =>
    simp only [xh_nil, xh_cons] at he
    exact wpAny_handleBy_nil (passOn_snd fe I0 T I X L full he)
  | .ExceptHandler none _ _ _ :: _, _, hs, _ => exact absurd (show false = true from hs) (by decide)
  | .ExceptHandler (some t) nm b p :: rest, hall, hs, he =>
    cases b with
    | nil => cases t <;> exact (show False from he).elim
    | cons b0 bs =>
    cases t with
    | Name x px =>
      simp only [xh_nil, xh_cons] at he; simp only [dh_cons, Bool.and_eq_true] at hs
      obtain ⟨⟨⟨hx, hnm⟩, hsb⟩, hsr⟩ := hs
      obtain ⟨hσ, he⟩ := he
      split at he
      · rename_i D hg
        refine wpAny_handleBy_cons (codeAny_handlers_test ?_) (by intro z; cases z)
        refine name_gen (Q := fun av => av = .val (.ref D)) wo fe.eo I L (by unfold nmA; rw [hσ]; dsimp only; rw [hg]) hx fun av c rc ec => ?_
        subst ec
        obtain rfl := rc.inv
        have LT : Looks (model W.prog W.w) s.heap (typeOf (.ref e)) (.ref C) := by
          obtain ⟨oe, vs, g1, g2, g3, g4⟩ := excObj_of T
          exact g2 ▸ (Looks.ld g1).andThen .now
        have hb : ∀ b, s0.heap.get? b = none → W.base.get? b = none := fun b => I0.fresh_base
        split at he
        · rename_i hm
          refine (exm_one (I.kin wo) LT hm).here ?_
          rw [if_pos rfl]
          cases nm with
          | none =>
            refine codeAny_handlers_suite (flight_sound I T fun h1 N1 T1 => ?_)
            have I1 : Inv W fr H { s with heap := h1 } := I.noted (t := s.toks) N1 hb
            refine wpAny_mono (exs_snd wo fe (b0 :: bs) (hall _ List.mem_cons_self) false (A.mark (some (.ref e))) (ao.mark _) σ H { s with heap := h1 } _ _ full hsb he I1 (L.noted N1)) (fun f s2 p => ?_) fun _ _ z => (ps_false z).elim
            exact p.trans (X.noted N1)
          | some nm =>
            simp only [Bool.and_eq_true, Bool.not_eq_true', beq_iff_eq] at hnm
            have htg : tgOk env.scope nm = true := by unfold tgOk; rw [hnm.1, hnm.2]; rfl
            refine codeAny_handlers_suite_as (flight_sound I T fun h1 N1 T1 => ?_)
            have I1 : Inv W fr H { s with heap := h1 } := I.noted (t := s.toks) N1 hb
            refine store_sound (s := { s with heap := h1 }) fe I1 (L.noted N1) full htg (.exc (excObj_of T1)) fun h2 tk2 I2 X2 L2 f2 _ => ?_
            refine wpAny_mono (exs_snd wo fe (b0 :: bs) (hall _ List.mem_cons_self) false (A.mark (some (.ref e))) (ao.mark _) _ H { s with heap := h2, toks := tk2 } _ _ f2 hsb he I2 L2) (fun f s3 p => ?_) fun _ _ z => (ps_false z).elim
            obtain ⟨af, σ3, H3, rf, I3, X3, L3, f3, q3⟩ := p
            obtain ⟨m3, hn3, _⟩ := L3.ns
            refine wpAny_nameGoes hnm.2 hn3 (by rw [fe.eo.kind]; rfl) fun h4 m4 hn4 hs4 => ?_
            have ha : own env env.locals := .inl rfl
            have xb := hs4.extBut
            have S4 : Stab s3.heap h4 := .of fun b o e i => xb b o (fun z => L3.own_imm b o (z ▸ ha) e i) e
            have hl : ∃ o, h4.get? env.locals = some o := by obtain ⟨o, _, _, h1, _⟩ := hn4; exact ⟨o, h1⟩
            refine ⟨af, fun _ => none, H3, rf.mono S4, I3.store L3 ha xb fun _ => by obtain ⟨o, es, ep, h1, h2, _⟩ := hn4; exact ⟨o, es, ep, h1, h2⟩,
              (((X.noted N1).trans X2).trans X3).trans (Ext.store ha xb hl), ⟨⟨m4, hn4, fun y av ey => nomatch ey⟩, fun y av ey => (nomatch ey), L3.hl, L3.bl, fun y c hm => ?_, L3.cs⟩, fun y av ey => (nomatch ey), q3⟩
            obtain ⟨c1, c2, c3, u, o, w2, w3⟩ := L3.cl y c hm
            exact ⟨c1, c2, c3, u, o, xb c o (fe.lc y c hm) w2, w3⟩
        · rename_i hm
          refine (exm_one (I.kin wo) LT hm).here ?_
          rw [if_neg (by decide)]
          exact hd_snd wo fe rest (fun y hy => hall y (List.mem_cons_of_mem _ hy)) A ao C e σ H s Q E H0 s0 full hsr he I0 I X L T
        · exact he.elim
      · exact he.elim
    | _ => exact (show False from he).elim
theorem swap_form {K : Frag} {sc : Scope} {t e : Expr} {l : Nat} (h1 : tOk K sc e t = true) (h2 : scE K true sc e = true) (hn : ¬ swapsWith e (some t) l env = pure false) :
    ∃ elt gens sc' cp y py, e = .ListComp elt gens sc' cp ∧ t = .Name y py ∧ swapsWith (.ListComp elt gens sc' cp) (some (.Name y py)) l env = pure true := by
  cases e with
  | ListComp elt gens sc' cp =>
    cases t with
    | Name y py =>
      refine ⟨_, _, _, _, _, _, rfl, rfl, ?_⟩
      generalize hb : swapsWith (.ListComp elt gens sc' cp) (some (.Name y py)) l env = m at hn ⊢
      have hm : ∃ b, m = pure b := ⟨_, hb.symm⟩
      obtain ⟨b, rfl⟩ := hm
      cases b with
      | true => rfl
      | false => exact absurd rfl hn
    | _ => exact absurd rfl hn
  | _ => exact absurd (by first | rfl | (exact absurd (show false = true from h2) (by decide))) hn
theorem for_form {K : Frag} {sc : Scope} {t it : Expr} {b o : List Stmt} {p : Pos} (h : scS K sc (.For t it b o p) = true) : ∃ x px, t = .Name x px ∧ o = [] := by
  cases o with
  | cons _ _ => cases t <;> exact absurd (show false = true from h) (by decide)
  | nil =>
    cases t with
    | Name x px => exact ⟨x, px, rfl, rfl⟩
    | _ => exact absurd (show false = true from h) (by decide)
theorem fold_form {K : Frag} {sc : Scope} {it : Expr} (h : scE K true sc it = true) : ∀ v, foldedSetIterable it env v = pure v := by
  cases it <;> first | (intro _; rfl) | (exact absurd (show false = true from h) (by decide))
theorem ex_one (wo : WOk W) (fe : FEnv env fr) (st : Stmt) (ih : ∀ x, sizeOf x < sizeOf st → StP W n env fr x) : StP W n env fr st := by
  intro q A ao σ H s Q E full hs he I L
  cases st with
  | Expr e p =>
    simp only [x_expr, x_pass, x_cont, x_ret, x_asg, x_if, x_for, x_while, x_try] at he; simp only [d_expr, d_ret, d_asg, d_if, d_for, d_while, d_raise, d_try, Bool.and_eq_true] at hs
    have hi : interactive env = false := by unfold interactive; rw [fe.eo.kind]; rfl
    rw [arm_exec_Expr, hi, (swaps_not (t := e) (l := p.line) hs.2 hs.1).2]
    refine wpAny_bind (wpAny_standAt ?_)
    rw [if_neg (by decide)]
    refine wpAny_bind (wpAny_pure ?_)
    rw [if_neg (by decide)]
    refine wpAny_bind (wpAny_mono (ev_snd wo ao e true env σ H s _ _ fe.eo (fun _ => full) hs.1 he I L) (fun v s1 hv => ?_) fun _ _ z => pe_ps I L full z)
    obtain ⟨av, H1, rv, I1, X1, q1⟩ := hv
    have fin : PFc W env fr H s Q .next s1 := ⟨.next, σ, H1, .next, I1, up0 X1, L.step I X1, full, q1⟩
    unfold dropValue
    split
    · exact wpAny_pure fin
    · exact wpAny_bind (wpAny_standAt (wpAny_bind (wpAny_runValue (codeAny_builtin entry_let_go (show wpAny _ _ (ret .none) _ _ _ from wpAny_pure (wpAny_pure fin))))))
    · exact wpAny_pure fin
  | Pass p =>
    simp only [x_expr, x_pass, x_cont, x_ret, x_asg, x_if, x_for, x_while, x_try] at he
    exact wpAny_Pass ⟨.next, σ, H, .next, I, .refl _ _ _ _, L, full, he⟩
  | Continue p =>
    simp only [x_expr, x_pass, x_cont, x_ret, x_asg, x_if, x_for, x_while, x_try] at he
    rw [arm_exec_Continue]
    exact wpAny_bind (wpAny_standAt (wpAny_pure ⟨.cont, σ, H, .cont, I, .refl _ _ _ _, L, full, he⟩))
  | Return v p =>
    cases v with
    | none => exact (show False from he).elim
    | some e =>
      simp only [x_expr, x_pass, x_cont, x_ret, x_asg, x_if, x_for, x_while, x_try] at he; simp only [d_expr, d_ret, d_asg, d_if, d_for, d_while, d_raise, d_try] at hs
      refine wpAny_Return_some (wpAny_mono (ev_snd wo ao e true env σ H s _ _ fe.eo (fun _ => full) hs he I L) (fun v s1 hv => ?_) fun _ _ z => pe_ps I L full z)
      obtain ⟨av, H1, rv, I1, X1, q1⟩ := hv
      exact ⟨.ret av, σ, H1, .ret rv, I1, up0 X1, L.step I X1, full, q1⟩
  | Assign ts e p =>
    match ts, hs, he with
    | [], hs, _ => exact absurd (show false = true from hs) (by decide)
    | _ :: _ :: _, hs, _ => exact absurd (show false = true from hs) (by decide)
    | [t], hs, he =>
      simp only [x_expr, x_pass, x_cont, x_ret, x_asg, x_if, x_for, x_while, x_try] at he; simp only [d_expr, d_ret, d_asg, d_if, d_for, d_while, d_raise, d_try, Bool.and_eq_true] at hs
      have ht : ∀ x y, t ≠ .Starred x y := fun x y z => by subst z; exact absurd (show false = true from hs.1) (by decide)
      by_cases hsw : swapsWith e (some t) p.line env = pure false
      · refine plain_assign ht hsw (swapped_none hs.1) (wpAny_mono (ev_snd wo ao e true env σ H s _ _ fe.eo (fun _ => full) hs.2 he I L) (fun v s1 hv => ?_) fun _ _ z => pe_ps I L full z)
        obtain ⟨av, H1, rv, I1, X1, q1⟩ := hv
        have L1 := L.step I X1
        refine wpAny_mono (asg_snd wo ao fe t e σ H1 s1 _ _ av v full hs.1 q1 I1 L1 rv) (fun _ s2 p => ?_) fun _ _ z => (pe_ps I1 L1 full z).trans (up0 X1)
        obtain ⟨σ2, H2, I2, X2, L2, f2, q2⟩ := p
        exact ⟨.next, σ2, H2, .next, I2, (up0 X1).trans X2, L2, f2, q2⟩
      · obtain ⟨elt, gens, sc', cp, y, py, rfl, rfl, hsw'⟩ := swap_form hs.1 hs.2 hsw
        exact comp_use wo ao fe hsw' hs.1 hs.2 full he I L
  | If t b o p =>
    simp only [x_expr, x_pass, x_cont, x_ret, x_asg, x_if, x_for, x_while, x_try] at he; simp only [d_expr, d_ret, d_asg, d_if, d_for, d_while, d_raise, d_try, Bool.and_eq_true] at hs
    refine wpAny_If (wpAny_mono (tst_snd wo ao t true env σ H s _ _ fe.eo (fun _ => full) hs.1.1 he I L) (fun c s1 hc => ?_) fun _ _ z => pe_ps I L full z)
    obtain ⟨H1, I1, X1, q1⟩ := hc
    have L1 := L.step I X1
    cases c with
    | true => rw [if_pos rfl]; exact pf_up (up0 X1) (exs_snd wo fe b (fun y hy => ih y (Nat.lt_trans (List.sizeOf_lt_of_mem hy) (by first | (simp; omega) | (simp; done) | decreasing_tactic))) q A ao σ H1 s1 Q E full hs.1.2 q1 I1 L1)
    | false => rw [if_neg (by decide)]; exact pf_up (up0 X1) (exs_snd wo fe o (fun y hy => ih y (Nat.lt_trans (List.sizeOf_lt_of_mem hy) (by first | (simp; omega) | (simp; done) | decreasing_tactic))) q A ao σ H1 s1 Q E full hs.2 q1 I1 L1)
  | For t it b o p =>
    obtain ⟨x, px, rfl, rfl⟩ := for_form hs
    · simp only [x_expr, x_pass, x_cont, x_ret, x_asg, x_if, x_for, x_while, x_try] at he; simp only [d_expr, d_ret, d_asg, d_if, d_for, d_while, d_raise, d_try, Bool.and_eq_true] at hs
      have hfold : ∀ v, foldedSetIterable it env v = pure v := fold_form hs.1.2
      refine wpAny_For (wpAny_mono (ev_snd wo ao it true env σ H s _ _ fe.eo (fun _ => full) hs.1.2 he I L) (fun v s1 hv => ?_) fun _ _ z => pe_ps I L full z) hfold
      obtain ⟨av, H1, rv, I1, X1, q1⟩ := hv
      have L1 := L.step I X1
      obtain ⟨its, src, ei, q1⟩ := q1
      · obtain ⟨hq, q1⟩ := q1
        subst hq
        refine iter_sound I1 rv ei fun it' h2 nI k2 J2 hsr => ?_
        have nI' : s.heap.get? it' = none := by
          cases z : s.heap.get? it' with
          | none => rfl
          | some o => obtain ⟨o', z'⟩ := X1.alive _ _ z; rw [nI] at z'; cases z'
        have nO : ¬ own env it' := fun z => by obtain ⟨o, ho⟩ := L1.own_there z; rw [nI] at ho; cases ho
        have X2 : Ext0 fr H1 s1.heap H1 h2 := Ext.grown k2
        refine for_snd ao fe hs.1.1 (fun σ' H' s' Q' E' hB I' L' f' => exs_snd wo fe b (fun y hy => ih y (Nat.lt_trans (List.sizeOf_lt_of_mem hy) (by first | (simp; omega) | (simp; done) | decreasing_tactic))) true A ao σ' H' s' Q' E' f' hs.2 hB I' L') I nI' nO its σ H1 (I1.grown (t := s1.toks) k2) (up0 (X1.trans X2)) J2
          (I1.priv nI fun o ho => by obtain ⟨o', g1, g2⟩ := J2.imm; rw [g1] at ho; cases ho; exact g2) (L1.step I1 X2) full hsr q1
  | While t b o p =>
    cases o with
    | cons _ _ => exact (show False from he).elim
    | nil =>
      simp only [x_expr, x_pass, x_cont, x_ret, x_asg, x_if, x_for, x_while, x_try] at he; simp only [d_expr, d_ret, d_asg, d_if, d_for, d_while, d_raise, d_try, Bool.and_eq_true] at hs
      obtain ⟨k, he⟩ := he
      exact wpAny_While (while_snd ao fe (fun σ' H' s' Q' E' hT I' L' f' => tst_snd wo ao t true env σ' H' s' Q' E' fe.eo (fun _ => f') hs.1 hT I' L')
        (fun σ' H' s' Q' E' hB I' L' f' => exs_snd wo fe b (fun y hy => ih y (Nat.lt_trans (List.sizeOf_lt_of_mem hy) (by first | (simp; omega) | (simp; done) | decreasing_tactic))) q A ao σ' H' s' Q' E' f' hs.2 hB I' L') I k σ H I (.refl _ _ _ _) L full he)
  | Raise x c p =>
    obtain ⟨y, p1, k, m, p2, p3, rfl, rfl, rfl, he⟩ := he
    replace hs : nmOk W.K env.scope y = true := hs
    split at he
    · rename_i hg
      exact raise_snd wo ao fe hs hg he.1 he.2.1 he.2.2 I L full
    · exact he.elim
  | Try b hds o f p =>
    cases o with
    | cons _ _ => exact (show False from he).elim
    | nil =>
    cases f with
    | cons _ _ => exact (show False from he).elim
    | nil =>
      cases hds with
      | nil =>
        have hz : (scSs W.K env.scope b && true && false) = true := hs
        rw [Bool.and_false] at hz; cases hz
      | cons h0 hds =>
        simp only [x_expr, x_pass, x_cont, x_ret, x_asg, x_if, x_for, x_while, x_try] at he; rw [d_try] at hs; simp only [Bool.and_eq_true] at hs
        obtain ⟨rfl, he⟩ := he
        refine wpAny_Try_except (wpAny_mono (exs_snd wo fe b (fun y hy => ih y (Nat.lt_trans (List.sizeOf_lt_of_mem hy) (by first | (simp; omega) | (simp; done) | decreasing_tactic))) true A ao σ H s _ _ full hs.1.1 he I L) (fun fl s1 hp => ?_) fun x s1 hp => ?_)
        · cases fl with
          | next => exact wpAny_execs_nil hp
          | _ => exact hp
        · obtain ⟨e, C, σ1, H1, rfl, hx, I1, X1, L1, f1, q1⟩ := hp
          have hb : ∀ b, s.heap.get? b = none → W.base.get? b = none := fun b => I.fresh_base
          refine note_snd ao fe I1 X1.alive hb hx fun h2 N2 T2 => ?_
          have I2 : Inv W fr H1 { s1 with heap := h2 } := I1.noted (t := s1.toks) N2 hb
          refine flight_sound I2 T2 fun h3 N3 T3 => ?_
          have L2 := L1.noted N2
          exact hd_snd wo fe (h0 :: hds) (fun z hz y hy => ih y (Nat.lt_trans (List.sizeOf_lt_of_mem hy) (Nat.lt_trans (hbody_size z) (Nat.lt_trans (List.sizeOf_lt_of_mem hz) (by first | (simp; omega) | (simp; done) | decreasing_tactic))))) A ao C e σ1 H1 { s1 with heap := h3 } Q E H s f1 hs.1.2 q1 I (I2.noted (t := s1.toks) N3 hb) ((X1.noted N2).noted (s := { s1 with heap := h2 }) N3) (L2.noted (s := { s1 with heap := h2 }) N3) T3
  | _ => exact absurd (show false = true from hs) (by decide)

theorem ex_snd (wo : WOk W) (fe : FEnv env fr) (st : Stmt) : StP W n env fr st := by
  have all : ∀ (N : Nat) (st : Stmt), sizeOf st < N → StP W n env fr st := by
    intro N
    induction N with
    | zero => intro e h; exact absurd h (Nat.not_lt_zero _)
    | succ N ihN => intro e h; exact ex_one wo fe e fun x hx => ihN x (Nat.lt_of_lt_of_le hx (Nat.le_of_lt_succ h))
  exact all _ st (Nat.lt_succ_self _)
end
end Mine

/-! Calls of the text's own functions. -/
set_option maxRecDepth 100000
namespace Mine
open PySem PySem.Calls PyProof.Rows PySem.W

noncomputable def fnOf? (K : Frag) (f : Addr) : Option FuncData := match K.lookup f with
  | some ⟨_, _, .func fd, _⟩ => some fd
  | _ => none
noncomputable def fnBody (fd : FuncData) : List Stmt := match fd.body with
  | .stmts b => b
  | .expr _ => []
noncomputable def fnPars (fd : FuncData) : List Str := fd.params.args.map (·.arg)
noncomputable def nodupB : List Str → Bool
  | [] => true
  | x :: r => !(r.any (· == x)) && nodupB r
noncomputable def plainFn (K : Frag) (fd : FuncData) : Bool :=
  fd.closure.isEmpty && fd.globals == mainGlobals && fd.builtins == builtinsNs &&
  codeIn K fd.code fd.qualname && fd.scope.kind == .function && !fd.scope.isCoroutine && !fd.scope.isGenerator && nodupB (fnPars fd) && (fnPars fd).all (tgOk fd.scope) &&
  nodupB ((cellsFrom 0 fd.scope.names []).map (·.1)) && (match fd.body with | .stmts _ => true | _ => false) && scSs K fd.scope (fnBody fd)
noncomputable def bindA : List Str → List AVal → Loc
  | x :: xs, v :: vs => upd (bindA xs vs) x v
  | _, _ => fun _ => none
noncomputable def retP (Q : PV) : PF := fun fl _ H1 => match fl with
  | .ret v => Q v H1
  | .next => Q .none H1
  | _ => False

theorem nodupB_nodup : ∀ {l : List Str}, nodupB l = true → l.Nodup
  | [], _ => List.nodup_nil
  | x :: r, h => by
    unfold nodupB at h
    simp only [Bool.and_eq_true, Bool.not_eq_true', List.any_eq_false, beq_iff_eq] at h
    exact List.nodup_cons.mpr ⟨fun hm => h.1 x hm rfl, nodupB_nodup h.2⟩

noncomputable def allV : Nat → (List Value → Prop) → Prop
  | 0, P => P []
  | n + 1, P => ∀ v, allV n fun l => P (v :: l)
theorem allV_get {n : Nat} : ∀ {P : List Value → Prop}, allV n P → ∀ vs, vs.length = n → P vs := by
  induction n with
  | zero => intro P h vs e; rw [List.eq_nil_of_length_eq_zero e]; exact h
  | succ n ih =>
    intro P h vs e
    cases vs with
    | nil => cases e
    | cons v vs => exact ih (h v) vs (Nat.succ.inj e)

theorem stayL {kind : Str → Option NameKind} {x : Str} : ∀ (ns : List Str) (vs : List Value) (m : Str → Option Value), x ∉ ns → bindL kind (ns.zip vs) m x = m x := by
  intro ns
  induction ns with
  | nil => intro vs m _; rfl
  | cons z r ih =>
    intro vs m hz
    cases vs with
    | nil => rfl
    | cons u us =>
      rw [List.zip_cons_cons]
      unfold bindL
      rw [ih us _ fun q => hz (List.mem_cons_of_mem _ q)]
      split
      · exact if_neg (fun q : x = z => hz (by rw [q]; exact List.mem_cons_self))
      · rfl
theorem stayC {kind : Str → Option NameKind} {x : Str} : ∀ (ns : List Str) (vs : List Value) (m : Str → Option Value), x ∉ ns → bindC kind (ns.zip vs) m x = m x := by
  intro ns
  induction ns with
  | nil => intro vs m _; rfl
  | cons z r ih =>
    intro vs m hz
    cases vs with
    | nil => rfl
    | cons u us =>
      rw [List.zip_cons_cons]
      unfold bindC
      rw [ih us _ fun q => hz (List.mem_cons_of_mem _ q)]
      split
      · rfl
      · exact if_neg (fun q : x = z => hz (by rw [q]; exact List.mem_cons_self))
theorem bindA_get {h : Heap} {kind : Str → Option NameKind} {ns : List Str} : ∀ {avs : List AVal} {vs : List Value}, ns.Nodup → RepVs h avs vs → avs.length = ns.length → ∀ (m cm : Str → Option Value) (x : Str) (av : AVal), bindA ns avs x = some av →
    ∃ v, RepV h av v ∧ x ∈ ns ∧ (kind x = some .local → bindL kind (ns.zip vs) m x = some v) ∧ (kind x ≠ some .local → bindC kind (ns.zip vs) cm x = some v) := by
  induction ns with
  | nil => intro avs vs _ _ _ m cm x av e; cases e
  | cons y ns ih =>
    intro avs vs hn r hl m cm x av e
    cases avs with
    | nil => cases hl
    | cons a avs =>
    obtain ⟨v, us, rfl, rv, rs⟩ := r.cons_inv
    obtain ⟨h1, h2⟩ := List.nodup_cons.mp hn
    have e : (if x = y then some a else bindA ns avs x) = some av := e
    rw [List.zip_cons_cons]
    by_cases hx : x = y
    · rw [if_pos hx] at e
      cases e; subst hx
      refine ⟨v, rv, List.mem_cons_self, fun hk => ?_, fun hk => ?_⟩
      · unfold bindL; rw [stayL ns us _ h1, if_pos hk]; exact if_pos rfl
      · unfold bindC; rw [stayC ns us _ h1, if_neg hk]; exact if_pos rfl
    · rw [if_neg hx] at e
      obtain ⟨u, r1, r2, r3, r4⟩ := ih h2 rs (Nat.succ.inj hl) (if kind y = some .local then fun z => if z = y then some v else m z else m) (if kind y = some .local then cm else fun z => if z = y then some v else cm z) x av e
      refine ⟨u, r1, List.mem_cons_of_mem _ r2, fun hk => ?_, fun hk => ?_⟩
      · unfold bindL; exact r3 hk
      · unfold bindC; exact r4 hk

section
variable {W : Wd} {n : Nat} {q : Bool}

theorem AOk.deeper {fr : List Env} {A : Around} (ao : AOk (n + 1) q fr A) (env : Env) : AOk n q (env :: fr) (A.deeper env) := by
  have h1 := ao.frames
  have h3 := ao.depth
  have h4 := ao.units
  refine ⟨by unfold Around.deeper; dsimp only; rw [h1]; rfl, fun hq => ao.handled hq, ?_, ?_⟩
  · show A.depth + 1 + n < recursionLimit; omega
  · show A.units + 3 + 20 * n + 200 < cLine; omega

theorem Inv.outer {env : Env} {fr : List Env} {H : AHeap} {s : Shared} (I : Inv W (env :: fr) H s) : Inv W fr H s := ⟨I.stay, I.gens, I.os, I.rep, I.new, fun e he => I.frs e (List.mem_cons_of_mem _ he)⟩

theorem Ext.outer {env : Env} {fr : List Env} {H H' : AHeap} {h h1 h' : Heap} (hf : env.frame = some env.locals) (k : ∀ b o, h.get? b = some o → h1.get? b = some o) (fresh : ∀ b, own env b → h.get? b = none)
    (X : Ext (own env) (env :: fr) H h1 H' h') : Ext0 fr H h H' h' := by
  have no : ∀ b o, h.get? b = some o → ¬ own env b := fun b o e z => by rw [fresh b z] at e; cases e
  have nf : ∀ b o, h.get? b = some o → b ∉ frA fr → b ∉ frA (env :: fr) := fun b o e hn hm => by
    unfold frA at hm
    rw [List.filterMap_cons, hf] at hm
    rcases List.mem_cons.mp hm with z | z
    · exact no b o e (.inl z)
    · exact hn z
  have yf : ∀ b, b ∈ frA fr → b ∈ frA (env :: fr) := fun b hb => by
    unfold frA; rw [List.filterMap_cons, hf]; exact List.mem_cons_of_mem _ hb
  refine ⟨fun b o e z _ hn => X.keep b o (k b o e) z (no b o e) (nf b o e hn), fun b hb _ o e => X.slots b (yf b hb) (no b o e) o (k b o e), fun b o e => X.alive b o (k b o e), fun a z w => ?_⟩
  have := X.fresh a z w
  cases e : h.get? a with
  | none => rfl
  | some o => rw [k a o e] at this; cases this

noncomputable def CodeOk (W : Wd) (n : Nat) (q : Bool) (f : Value) (avs : List AVal) (H : AHeap) (Q : PV) (E : PE) : Prop :=
  ∀ A fr s vs, AOk n q fr A → Inv W fr H s → RepVs s.heap avs vs → codeAny (model W.prog W.w) A (.call f ⟨vs, []⟩) (fun r s' => match r with
    | .ok (.ret v) => PVc W fr H s Q v s'
    | .ok _ => False
    | .error e => PEc W fr H s E e s') s
theorem CodeOk.call {f : Value} {avs : List AVal} {H : AHeap} {Q : PV} {E : PE} (h : CodeOk W n q f avs H Q E) : CallOk W n q f avs H Q E := fun A fr s vs ao I r => wpAny_call (h A fr s vs ao I r)

theorem def_code (wo : WOk W) {f : Addr} {fd : FuncData} (hf : fnOf? W.K f = some fd) (hp : plainFn W.K fd = true) {avs : List AVal} {H : AHeap} {Q : PV} {E : PE} (hlen : avs.length = (fnPars fd).length) (hbind : allV (fnPars fd).length fun vs => bindArgs fd ⟨vs, []⟩ = pure ((fnPars fd).zip vs))
    (h : exs W.K (CallOk W n) q (fnBody fd) (bindA (fnPars fd) avs) H (retP Q) (fun C _ H1 => E C H1)) : CodeOk W (n + 1) q (.ref f) avs H Q E := by
  intro A fr s vs ao I rvs
  have X := I.kin wo
  obtain ⟨p, loose, mg, mb, T⟩ := wo.top
  unfold fnOf? at hf
  split at hf
  · rename_i oc od fd' osl ho
    cases hf
    have hbind := allV_get hbind vs (by rw [rvs.length]; exact hlen)
    unfold plainFn at hp
    simp only [Bool.and_eq_true, List.isEmpty_iff, Option.isNone_iff_eq_none, beq_iff_eq, Bool.not_eq_true', List.all_eq_true] at hp
    obtain ⟨⟨⟨⟨⟨⟨⟨⟨⟨⟨⟨p1, p2⟩, p3⟩, p9⟩, p10⟩, p11⟩, p12⟩, p13⟩, p14⟩, p15⟩, p16⟩, p17⟩ := hp
    obtain ⟨body, hb⟩ : ∃ b, fd.body = .stmts b := by
      cases hb : fd.body with
      | stmts b => exact ⟨b, rfl⟩
      | expr _ => rw [hb] at p16; cases p16
    have hbody : fnBody fd = body := by unfold fnBody; rw [hb]
    have hd1 := ao.depth
    refine codeAny_call_cells (fd := fd) (body := body) (binds := (fnPars fd).zip vs) (by omega) (X _ _ ho) rfl (T.nolimit.keeps I.stay) (codeRec_of X p9) hb hbind p1 ?_ ?_ p11 p12 p10
    · intro x hx
      have hm : x.1 ∈ fnPars fd := (List.of_mem_zip hx).1
      rcases (tgOk_kind (p14 _ hm)).2 with hk | hk
      · exact .inl hk
      · exact .inr ⟨hk, cellsFrom_some _ _ _ (.inl hk)⟩
    · intro s1 x
      generalize he : callEnvC fd s.heap.objs.size f = env at x ⊢
      have e1 : env.locals = s.heap.objs.size := by rw [← he]; rfl
      have e2 : env.cells = cellsFrom (s.heap.objs.size + 1) fd.scope.names [] := by rw [← he]; rfl
      have e3 : env.frame = some env.locals := by rw [← he]; rfl
      have e4 : env.scope = fd.scope := by rw [← he]; rfl
      have e5 : EnvOk env := ⟨by rw [e4]; exact p10, by rw [← he]; exact p2, by rw [← he]; exact p3⟩
      obtain ⟨h1, tk, rfl, k⟩ := x.done
      have fresh : ∀ b, own env b → s.heap.get? b = none := fun b hb => by
        rcases hb with rfl | ⟨m, hm⟩
        · rw [e1]; exact size_none _
        · refine Heap.get?_none_of_le (Nat.le_of_lt ?_)
          rw [← e1]; exact x.above m b hm
      have fe : FEnv env (env :: fr) := ⟨e5, e3, ⟨fr, rfl⟩, x.apart, fun m c hm z => Nat.lt_irrefl _ (z ▸ x.above m c hm)⟩
      have S : Stab s.heap h1 := .of fun b o e _ => k b o e
      have I0 : Inv W fr H { s with heap := h1, toks := tk } := I.grown k
      have I1 : Inv W (env :: fr) H { s with heap := h1, toks := tk } := by
        refine ⟨I0.stay, I0.gens, I0.os, I0.rep, I0.new, fun e hm => ?_⟩
        rcases List.mem_cons.mp hm with rfl | hm
        · obtain ⟨o, es, ep, g1, g2, _⟩ := x.toInCall.ns
          refine ⟨by rw [e5.kind]; decide, e.locals, o, es, ep, e3, I.fresh_base (fresh _ (.inl rfl)), I.fresh_H (fresh _ (.inl rfl)), g1, g2⟩
        · exact I0.frs e hm
      have ccells : ∀ m c, (m, c) ∈ env.cells → env.cells.lookup m = some c := fun m c hm => by
        have hnd : (env.cells.map (·.1)).Nodup := by
          rw [e2, cellsFrom_names fd.scope.names (s.heap.objs.size + 1) 0 [] [] rfl]; exact nodupB_nodup p15
        exact lookup_of_mem_nodup hnd hm
      have L1 : LocR W env (env :: fr) (bindA (fnPars fd) avs) H h1 := by
        have get := fun y av ey => bindA_get (kind := env.kindOf) (nodupB_nodup p13) rvs hlen (fun _ => none) (fun _ => none) y av ey
        refine ⟨⟨_, x.toInCall.ns, fun y av ey => ?_⟩, fun y av ey => ?_, I.fresh_H (fresh _ (.inl rfl)), I.fresh_base (fresh _ (.inl rfl)), fun m c hm => ?_, fun y hy => ?_⟩
        · obtain ⟨v, r1, r2, r3, r4⟩ := get y av ey
          rcases (tgOk_kind (p14 y r2)).2 with hk | hk
          · have hk' : env.kindOf y = some .local := by unfold Env.kindOf; rw [e4]; exact hk
            exact .inr (.inl ⟨hk', v, r3 hk', r1.mono S⟩)
          · have hk' : env.kindOf y = some .cell := by unfold Env.kindOf; rw [e4]; exact hk
            obtain ⟨c, hc⟩ := Option.isSome_iff_exists.mp (cellsFrom_some (x := y) fd.scope.names (s.heap.objs.size + 1) [] (.inl hk))
            rw [← e2] at hc
            refine .inr (.inr ⟨hk', c, v, hc, ?_, r1.mono S⟩)
            have := x.cell y c hc
            rw [r4 (by rw [hk']; decide)] at this
            exact this
        · obtain ⟨v, r1, r2, _⟩ := get y av ey
          exact (tgOk_kind (p14 y r2)).1
        · have hn := fresh c (.inr ⟨m, hm⟩)
          refine ⟨I.fresh_H hn, fun hz => ?_, I.fresh_base hn, _, x.cell m c (ccells m c hm)⟩
          unfold frA at hz
          rw [List.filterMap_cons, e3] at hz
          rcases List.mem_cons.mp hz with z | z
          · exact fe.lc m c hm z
          · exact I.fresh_frA hn z
        · rw [show env.kindOf y = fd.scope.names.lookup y by unfold Env.kindOf; rw [e4]] at hy
          obtain ⟨c, hc⟩ := Option.isSome_iff_exists.mp (cellsFrom_some (x := y) fd.scope.names (s.heap.objs.size + 1) [] (.inl hy))
          exact ⟨c, by rw [e2]; exact hc⟩
      have full : Full env (bindA (fnPars fd) avs) := fun y av ey => by
        obtain ⟨v, r1, r2, _⟩ := bindA_get (kind := env.kindOf) (nodupB_nodup p13) rvs hlen (fun _ => none) (fun _ => none) y av ey
        rw [show env.kindOf y = fd.scope.names.lookup y by unfold Env.kindOf; rw [e4]]
        rcases (tgOk_kind (p14 y r2)).2 with hk | hk <;> rw [hk] <;> exact fun z => nomatch z
      refine wpAny_mono (exs_snd wo fe body (fun y _ => ex_snd wo fe y) q (A.deeper env) (ao.deeper env) _ H { s with heap := h1, toks := tk } _ _ full (by rw [e4, ← hbody]; exact p17) (by rw [← hbody]; exact h) I1 L1) (fun fl s2 hp => ?_) fun y s2 hp => ?_
      · obtain ⟨af, σ2, H2, rf, I2, X2, L2, f2, q2⟩ := hp
        have XX := Ext.outer e3 k fresh X2
        cases rf with
        | next => exact ⟨.none, H2, .none, I2.outer, XX, q2⟩
        | cont => exact q2.elim
        | brk => exact q2.elim
        | ret rv => exact ⟨_, H2, rv, I2.outer, XX, q2⟩
      · obtain ⟨e, C, σ2, H2, rfl, hx, I2, X2, L2, f2, q2⟩ := hp
        have hb0 : ∀ b, h1.get? b = none → W.base.get? b = none := fun b => I1.fresh_base
        unfold leaving
        refine wpAny_bind (note_snd (ao.deeper env) fe I2 X2.alive hb0 hx fun h3 N3 T3 => ?_)
        have I3 : Inv W (env :: fr) H2 { s2 with heap := h3 } := I2.noted (t := s2.toks) N3 hb0
        refine flight_sound I3 T3 fun h4 N4 T4 => ?_
        have I4 := I3.noted (t := s2.toks) N4 hb0
        have X4 := (X2.noted N3).noted (s := { s2 with heap := h3 }) N4
        exact ⟨e, C, H2, rfl, T4.in_.back fun b o z => ⟨o, k b o z⟩, I4.outer, Ext.outer e3 k fresh X4, q2⟩
  · cases hf
theorem def_ok (wo : WOk W) {f : Addr} {fd : FuncData} (hf : fnOf? W.K f = some fd) (hp : plainFn W.K fd = true) {avs : List AVal} {H : AHeap} {Q : PV} {E : PE} (hlen : avs.length = (fnPars fd).length) (hbind : allV (fnPars fd).length fun vs => bindArgs fd ⟨vs, []⟩ = pure ((fnPars fd).zip vs))
    (h : exs W.K (CallOk W n) q (fnBody fd) (bindA (fnPars fd) avs) H (retP Q) (fun C _ H1 => E C H1)) : CallOk W (n + 1) q (.ref f) avs H Q E := (def_code wo hf hp hlen hbind h).call

theorem AOk.under {fr : List Env} {A : Around} (ao : AOk (n + 1) q fr A) (C : Addr) (vs : List Value) : AOk n q fr (A.under (.builtin "type.__call__" ⟨.ref C :: vs, []⟩)) := by
  have h1 := ao.frames
  have h3 := ao.depth
  have h4 := ao.units
  have w0 : (Code.builtin "type.__call__" ⟨.ref C :: vs, []⟩).weight = 1 := by kernel_rfl
  have w2 : (Code.builtin "type.__call__" ⟨.ref C :: vs, []⟩).cUnits = 1 := by kernel_rfl
  have w3 : (Code.builtin "type.__call__" ⟨.ref C :: vs, []⟩).envs = [] := by kernel_rfl
  refine ⟨?_, fun hq => ao.handled hq, ?_, ?_⟩
  · show pushEnvs (Code.builtin "type.__call__" ⟨.ref C :: vs, []⟩).envs A.frames = _; rw [w3]; exact h1
  · show A.depth + (Code.builtin "type.__call__" ⟨.ref C :: vs, []⟩).weight + n < recursionLimit; rw [w0]; omega
  · show A.units + (Code.builtin "type.__call__" ⟨.ref C :: vs, []⟩).cUnits + 20 * n + 200 < cLine; rw [w2]; omega

theorem cls_ok (wo : WOk W) {C f : Addr} {avs : List AVal} {H : AHeap} {Q : PV} {E : PE} (hm : makesIn W.K C = true) (hi : findIn W.K (.ref C) "__init__" = some (some (.ref f))) (ht : typeIn W.K (.ref f) = some (.type "function"))
    (h : ∀ x d, H x = none → H d = none → x ≠ d → CodeOk W n q (.ref f) (.ref x :: avs) (hset (hset H d (.dict [])) x (.inst C d)) (fun v H1 => v = .none ∧ Q (.ref x) H1) E) : CallOk W (n + 1) q (.ref C) avs H Q E := by
  intro A fr s vs ao I rvs
  have X := I.kin wo
  refine wpAny_call ?_
  obtain ⟨hh, g, d, t, os⟩ := s
  refine make_core (makes_of X hm) (looks_findIn X hi) (fun self => bind_fn X self ht) (.inl rfl) ?_
  have k : ∀ b o, hh.get? b = some o → ((hh.push emptyDict).push (instObj C hh.objs.size)).get? b = some o := fun b o e => Heap.get?_push_of_some _ (Heap.get?_push_of_some _ e)
  have nd : hh.get? hh.objs.size = none := size_none _
  have nx : hh.get? (hh.objs.size + 1) = none := Heap.get?_none_of_le (Nat.le_succ _)
  have hd : ((hh.push emptyDict).push (instObj C hh.objs.size)).get? hh.objs.size = some emptyDict := by heap_get
  have hx : ((hh.push emptyDict).push (instObj C hh.objs.size)).get? (hh.objs.size + 1) = some (instObj C hh.objs.size) := by heap_get
  have I1 : Inv W fr H ⟨(hh.push emptyDict).push (instObj C hh.objs.size), g, d, t, os⟩ := I.grown (t := t) k
  have Hd := I.fresh_H nd
  have Hx := I.fresh_H nx
  have hne : hh.objs.size + 1 ≠ hh.objs.size := by omega
  have I2 := I1.adopt (o := .dict []) Hd ⟨[], 0, hd, .nil, by decide⟩ (I.fresh_base nd) (I.fresh_frA nd)
  have I3 := I2.adopt (a := hh.objs.size + 1) (o := .inst C hh.objs.size) (by unfold hset; rw [if_neg hne]; exact Hx) ⟨_, hx⟩ (I.fresh_base nx) (I.fresh_frA nx)
  have X1 : Ext0 fr H hh (hset (hset H hh.objs.size (.dict [])) (hh.objs.size + 1) (.inst C hh.objs.size)) ((hh.push emptyDict).push (instObj C hh.objs.size)) := ((Ext.grown k).adopt nd).adopt nx
  have S : Stab hh ((hh.push emptyDict).push (instObj C hh.objs.size)) := .of fun b o e _ => k b o e
  refine codeAny_mono (h _ _ Hx Hd hne _ fr _ (.ref (hh.objs.size + 1) :: vs) (ao.under C vs) I3 (.cons (.ref _) (rvs.mono S))) fun r s' z => ?_
  match r, z with
  | .error e, z => exact z.trans X1
  | .ok (.ret v), z =>
    obtain ⟨av, H', rv, I', X', rfl, q'⟩ := z
    obtain rfl := rv.inv
    exact ⟨rfl, .ref _, H', .ref _, I', X1.trans X', q'⟩
  | .ok .next, z => exact z.elim
  | .ok .brk, z => exact z.elim
  | .ok .cont, z => exact z.elim
end
end Mine

/-! From a law's contract to its statement. -/
set_option maxRecDepth 100000
namespace Mine
open PySem PySem.Calls PyProof.Rows PySem.W

noncomputable def H0 (a : Addr) (xs : List Int) : AHeap := hset (fun _ => none) a (.list true (xs.map .int))

theorem rep_ints {h : Heap} : ∀ {vs : List Value} {xs : List Int}, IntsAre vs xs → RepVs h (xs.map .int) vs
  | _, _, .nil => .nil
  | _, _, .cons i t r => .cons (.int i t) (rep_ints r)

theorem law_end {prog : Program} {w : World} {K : Frag} {s₁ : Shared} {fa a : Addr} {vs : List Value} {xs : List Int} {c : ClaimW} {cl : Str → Option Addr} {mean : ExcName → Option Value} {args : List WData}
    (hg : s₁.gens = #[]) (hL : s₁.heap.IsList a vs.toArray) (hI : IntsAre vs xs) (hlen : xs.length ≤ 63)
    (hr : ∀ cls, c.raises args cls = false) (hpost : c.post args (.bool true) args = true)
    (hok : CallOk ⟨prog, w, K, s₁.heap, s₁.os⟩ 20 true (.ref fa) [.ref a] (H0 a xs) (fun av _ => av = .bool true) (fun _ _ => False)) :
    wpAny (model prog w) callerA ((fun f vs => call f vs) (Value.ref fa) [Value.ref a]) (fun v s' => GoodWG c cl mean args s₁ (.ok (.ret v)) s') (fun e s' => GoodWG c cl mean args s₁ (.error e) s') s₁ := by
  have ao : AOk 20 true [] callerA := ⟨rfl, fun _ => rfl, by decide, by decide⟩
  have I : Inv ⟨prog, w, K, s₁.heap, s₁.os⟩ [] (H0 a xs) s₁ := by
    refine ⟨fun b o e => e, hg, rfl, fun b o e => ?_, fun b o e r => ?_, fun e he => nomatch he⟩
    · unfold H0 hset at e
      split at e
      · rename_i hb
        cases e; subst hb
        exact ⟨vs, hL, rep_ints hI, by rw [List.length_map]; exact Nat.le_trans hlen (by decide)⟩
      · cases e
    · unfold H0 hset at e
      split at e
      · cases e; cases r
      · cases e
  refine wpAny_mono (hok callerA [] s₁ [.ref a] ao I (.cons (.ref a) .nil)) (fun v s' p => ?_) fun e s' p => ?_
  · obtain ⟨av, H', rv, I', X', rfl⟩ := p
    cases rv
    exact GoodW.toG ⟨.inl ⟨_, .bool true, [], rfl, hr, .bool true, hpost, fun _ => ⟨List.nodup_nil, fun _ z => nomatch z⟩⟩, I'.stay, I'.os, I'.gens⟩
  · obtain ⟨_, _, _, _, _, _, _, z⟩ := p
    exact z.elim

theorem wok {prog : Program} {w : World} {K : Frag} {s₁ : Shared} {p : Program} {loose : List Str} {mean : ExcName → Option Value} {mg mb : Str → Option Value} (KX : K.In s₁.heap) (T : Top p loose mean mg mb s₁.heap) :
    WOk ⟨prog, w, K, s₁.heap, s₁.os⟩ := ⟨KX, p, loose, mg, mb, topRead_of T⟩
theorem law_addr {K : Frag} {h : Heap} {p : Program} {loose : List Str} {mean : ExcName → Option Value} {mg mb : Str → Option Value} {x : Str} {f fa : Addr} (KX : K.In h) (T : Top p loose mean mg mb h) (e : nsIn K mainGlobals x = some (some (.ref f))) (hmg : mg x = some (.ref fa)) : fa = f := by
  have := mg_of KX T.g e
  rw [hmg] at this; cases this; rfl
end Mine

/-! Steps of the abstract interpreter, one lemma for each form. -/
set_option maxRecDepth 100000
namespace Mine
open PySem PySem.Calls PyProof.Rows PySem.W

theorem ifK_dec {p : Prop} [Decidable p] {A B : Prop} (h1 : p → A) (h2 : ¬ p → B) : ifK (decide p) A B := by
  by_cases h : p
  · rw [decide_eq_true h]; exact h1 h
  · rw [decide_eq_false h]; exact h2 h
theorem ifK_ndec {p : Prop} [Decidable p] {A B : Prop} (h1 : ¬ p → A) (h2 : p → B) : ifK (!decide p) A B := by
  by_cases h : p
  · rw [decide_eq_true h]; exact h2 h
  · rw [decide_eq_false h]; exact h1 h
theorem ifK_split {c : Bool} {A B : Prop} (h1 : c = true → A) (h2 : c = false → B) : ifK c A B := by
  cases c
  · exact h2 rfl
  · exact h1 rfl
noncomputable def cmpK (op : CmpOp) (a b : AVal) (H : AHeap) (k : Bool → Prop) : Prop := match cmpA op a b H with
  | some c => k c
  | none => False
theorem cmpK_i {op : CmpOp} {a b : AVal} {H : AHeap} {k : Bool → Prop} {c : Bool} (e : cmpA op a b H = some c) (h : k c) : cmpK op a b H k := by unfold cmpK; rw [e]; exact h

section
variable {K : Frag} {Φ : Bool → CallP} {q : Bool} {σ : Loc} {H : AHeap}

noncomputable def contS (K : Frag) (Φ : Bool → CallP) (q : Bool) (r : List Stmt) (Q : PF) (E : PS) : PF := fun fl σ1 H1 => match fl with
  | .next => exs K Φ q r σ1 H1 Q E
  | fl => Q fl σ1 H1
theorem s_cons {s : Stmt} {r : List Stmt} {Q : PF} {E : PS} (h : ex K Φ q s σ H (contS K Φ q r Q E) E) : exs K Φ q (s :: r) σ H Q E := h
theorem s_join {s : Stmt} {r : List Stmt} {Q : PF} {E : PS} (J : Loc → AHeap → Prop) (h1 : ∀ N : PF, (∀ σ' H', J σ' H' → N .next σ' H') → (∀ v σ' H', Q (.ret v) σ' H' → N (.ret v) σ' H') → ex K Φ q s σ H N E)
    (h2 : ∀ σ' H', J σ' H' → exs K Φ q r σ' H' Q E) : exs K Φ q (s :: r) σ H Q E := s_cons (h1 _ (fun σ' H' j => h2 σ' H' j) fun _ _ _ z => z)
section
variable {k : Bool → Prop}
theorem eqA_ii {x y : Int} : eqA H (.int x) (.int y) = some (decide (x = y)) := by first | rfl | (unfold eqA; simp [dat, PyData.eqv]; rfl)
theorem eqA_ss {x y : Str} : eqA H (.str x) (.str y) = some (decide (x = y)) := by
  have : (x == y) = decide (x = y) := by
    by_cases h : x = y
    · subst h; simp
    · rw [decide_eq_false h]; exact beq_eq_false_iff_ne.mpr h
  rw [← this]
  first | rfl | (unfold eqA; simp [dat, PyData.eqv])
theorem eqA_bb {x y : Bool} : eqA H (.bool x) (.bool y) = some (x == y) := by first | rfl | (unfold eqA; simp [dat, PyData.eqv])
end

section
variable {Q : PV}
theorem b_cat {r t : Addr} {ro ro' : Bool} {xs ys : List AVal} (h1 : H r = some (.list ro xs)) (h2 : H t = some (.list ro' ys)) (hl : xs.length + ys.length ≤ bigL) (h : newL H (xs ++ ys) Q) : binA .Add (.ref r) (.ref t) H Q := by
  show addA (.ref r) (.ref t) H Q; unfold addA; dsimp only; rw [h1, h2]; exact ⟨hl, h⟩
theorem b_rep {r : Addr} {ro : Bool} {x : AVal} {k : Int} (h1 : H r = some (.list ro [x])) (hk : 0 ≤ k ∧ k ≤ 1000) (h : newL H (List.replicate k.toNat x) Q) : binA .Mult (.ref r) (.int k) H Q := by
  show mulA (.ref r) (.int k) H Q; unfold mulA; dsimp only; rw [h1]; exact ⟨hk, x, rfl, h⟩
theorem sb_at {o : AVal} {i : Int} {l : List AVal} {j : Nat} {v : AVal} (h1 : seqA H o = some l) (h2 : idxA i l.length = some j) (h3 : l[j]? = some v) (h : Q v H) : subA o (.int i) H Q := by
  unfold subA; rw [h1]; dsimp only; rw [h2]; dsimp only; rw [h3]; exact h
theorem sb_list {a : Addr} {ro : Bool} {i : Int} {l : List AVal} {v : AVal} (h1 : H a = some (.list ro l)) (h2 : 0 ≤ i) (h3 : l[i.toNat]? = some v) (h : Q v H) : subA (.ref a) (.int i) H Q := by
  have hlt := (List.getElem?_eq_some_iff.mp h3).1
  refine sb_at (l := l) (j := i.toNat) (by unfold seqA; dsimp only; rw [h1]) ?_ h3 h
  unfold idxA; rw [if_pos h2, if_pos (by omega)]
theorem seq_ref {a : Addr} {ro : Bool} {l : List AVal} (h1 : H a = some (.list ro l)) : seqA H (.ref a) = some l := by unfold seqA; dsimp only; rw [h1]
theorem bi_len {v : AVal} {l : List AVal} (h1 : seqA H v = some l) (h : Q (.int l.length) H) : biA K q "len" [v] H Q := by
  unfold biA; rw [if_pos (by decide)]; dsimp only; unfold lenA; rw [h1]; exact h
theorem bi_min {W : Wd} {n : Nat} {E : PE} {x y : Int} (hq : q = true) (h : Q (.int (min x y)) H) : CallOk W n q (.builtin "min") [.int x, .int y] H Q E := fun A fr s vs ao I r => by
  obtain ⟨v, u, rfl, r1, r2⟩ := r.two; obtain ⟨t, rfl⟩ := r1.inv; obtain ⟨t', rfl⟩ := r2.inv; exact min_sound I (ao.handled hq) h
theorem ty_list {W : Wd} {n : Nat} {E : PE} {a : Addr} {ro : Bool} {xs : List AVal} (h1 : H a = some (.list ro xs)) (h : newL H xs Q) : CallOk W n q (.type "list") [.ref a] H Q E := fun A fr s vs ao I r => by
  obtain ⟨v, rfl, r1⟩ := r.one; obtain rfl := r1.inv; exact list_sound I h1 h
theorem ty_range1 {W : Wd} {n : Nat} {E : PE} {b : Int} (hb : -1000000 ≤ b ∧ b ≤ 1000000) (h : Q (.range 0 b) H) : CallOk W n q (.type "range") [.int b] H Q E := fun A fr s vs ao I r => by
  obtain ⟨v, rfl, r1⟩ := r.one; obtain ⟨t, rfl⟩ := r1.inv; exact range1_sound I hb h
theorem ty_int {W : Wd} {n : Nat} {E : PE} {b : Bool} (h : Q (.int (if b then 1 else 0)) H) : CallOk W n q (.type "int") [.bool b] H Q E := fun A fr s vs ao I r => by
  obtain ⟨v, rfl, r1⟩ := r.one; obtain rfl := r1.inv; exact int_bool_sound I h
theorem hs_same {a : Addr} {o : AObj} : hset H a o a = some o := by unfold hset; rw [if_pos rfl]
theorem hs_old {a b : Addr} {o o' : AObj} (h : H b = some o) (hn : H a = none) : hset H a o' b = some o := by
  unfold hset; rw [if_neg]
  · exact h
  · rintro rfl; rw [hn] at h; cases h
theorem hs_ne {a b : Addr} {o' : AObj} {r : Option AObj} (hn : b ≠ a) (h : H b = r) : hset H a o' b = r := by unfold hset; rw [if_neg hn]; exact h
end

theorem CallOk.mono {W : Wd} {n m : Nat} {f : Value} {avs : List AVal} {Q : PV} {E : PE} (h : CallOk W n q f avs H Q E) (hm : n ≤ m) : CallOk W m q f avs H Q E := fun A fr s vs ao I r =>
  h A fr s vs ⟨ao.frames, ao.handled, by have := ao.depth; omega, by have := ao.units; omega⟩ I r
end
end Mine

/-! The interpreter's equations, for simp. -/
set_option maxRecDepth 100000
namespace Mine
open PySem PySem.Calls PyProof.Rows PySem.W

theorem ofs_inj {a b : String} (h : Str.ofString a = Str.ofString b) : a = b := by
  rw [Str.ofString_eq_toList, Str.ofString_eq_toList] at h
  have h1 : a.toList.map Char.toNat = b.toList.map Char.toNat := by
    have := congrArg (fun s : Str => s.cps.toList) h
    simpa using this
  have hin : ∀ x y : Char, x.toNat = y.toNat → x = y := fun x y h => Char.ext (UInt32.toNat_inj.mp h)
  have h2 : a.toList = b.toList := by
    generalize a.toList = la at h1
    generalize b.toList = lb at h1
    induction la generalizing lb with
    | nil => cases lb with
      | nil => rfl
      | cons _ _ => simp at h1
    | cons x r ih => cases lb with
      | nil => simp at h1
      | cons y r' =>
        simp only [List.map_cons, List.cons.injEq] at h1
        rw [hin x y h1.1, ih r' h1.2]
  exact String.toList_injective h2
theorem ofs_eq (a b : String) : (Str.ofString a = Str.ofString b) = (a = b) := propext ⟨ofs_inj, fun h => by rw [h]⟩

section
variable {K : Frag} {Φ : Bool → CallP} {q : Bool} {σ : Loc} {H : AHeap}

noncomputable def bodyS (K : Frag) (Φ : Bool → CallP) (q : Bool) (b : List Stmt) : Loc → AHeap → PF → PS → Prop := fun σ' H' Q' E' => exs K Φ q b σ' H' Q' E'
noncomputable def testS (K : Frag) (Φ : Bool → CallP) (q : Bool) (t : Expr) : Loc → AHeap → PB → PE → Prop := fun σ' H' Q' E' => tst K Φ q t (ev K Φ q t) σ' H' Q' E'
noncomputable def hdS (K : Frag) (Φ : Bool → CallP) (hs : List ExceptHandler) (Q : PF) (E : PS) : PS := fun C σ1 H1 => hdA K Φ hs C σ1 H1 Q E
noncomputable def eltS (K : Frag) (Φ : Bool → CallP) (q : Bool) (e : Expr) : Loc → AHeap → PV → Prop := fun σ1 H2 Q2 => ev K Φ q e σ1 H2 Q2 fun _ _ => False
noncomputable def ifsS (K : Frag) (Φ : Bool → CallP) (q : Bool) (es : List Expr) : Loc → AHeap → PB → Prop := fun σ1 H2 Q2 => tsts K Φ q es σ1 H2 Q2
noncomputable def afterS (E : PS) (σ : Loc) : PE := fun C H1 => E C σ H1
noncomputable def nextS (Q : PF) (σ : Loc) : PV := fun _ H1 => Q .next σ H1
noncomputable def retS (Q : PF) (σ : Loc) : PV := fun v H1 => Q (.ret v) σ H1

theorem q_nil {Q : PF} {E : PS} : exs K Φ q [] σ H Q E = Q .next σ H := rfl
theorem q_cons {s : Stmt} {r : List Stmt} {Q : PF} {E : PS} : exs K Φ q (s :: r) σ H Q E = ex K Φ q s σ H (contS K Φ q r Q E) E := rfl
theorem q_cret {r : List Stmt} {Q : PF} {E : PS} {v : AVal} : contS K Φ q r Q E (.ret v) σ H = Q (.ret v) σ H := rfl
theorem q_ccont {r : List Stmt} {Q : PF} {E : PS} : contS K Φ q r Q E .cont σ H = Q .cont σ H := rfl
theorem q_cnext {r : List Stmt} {Q : PF} {E : PS} : contS K Φ q r Q E .next σ H = exs K Φ q r σ H Q E := rfl
theorem q_rret {Q : PV} {v : AVal} : retP Q (.ret v) σ H = Q v H := rfl
theorem q_rnext {Q : PV} : retP Q .next σ H = Q .none H := rfl
theorem q_after {E : PS} {C : Addr} : afterS E σ C H = E C σ H := rfl
theorem q_nextS {Q : PF} {v : AVal} : nextS Q σ v H = Q .next σ H := rfl
theorem q_retS {Q : PF} {v : AVal} : retS Q σ v H = Q (.ret v) σ H := rfl
theorem q_expr {e : Expr} {p : Pos} {Q : PF} {E : PS} : ex K Φ q (.Expr e p) σ H Q E = ev K Φ q e σ H (nextS Q σ) (afterS E σ) := rfl
theorem q_pass {p : Pos} {Q : PF} {E : PS} : ex K Φ q (.Pass p) σ H Q E = Q .next σ H := rfl
theorem q_cont {p : Pos} {Q : PF} {E : PS} : ex K Φ q (.Continue p) σ H Q E = Q .cont σ H := rfl
theorem q_ret {e : Expr} {p : Pos} {Q : PF} {E : PS} : ex K Φ q (.Return (some e) p) σ H Q E = ev K Φ q e σ H (retS Q σ) (afterS E σ) := rfl
theorem q_asg {t e : Expr} {p : Pos} {Q : PF} {E : PS} : ex K Φ q (.Assign [t] e p) σ H Q E = ev K Φ q e σ H (fun v H1 => asg K Φ q v t σ H1 (Q .next) (afterS E σ)) (afterS E σ) := rfl
theorem q_if {t : Expr} {b o : List Stmt} {p : Pos} {Q : PF} {E : PS} : ex K Φ q (.If t b o p) σ H Q E = tst K Φ q t (ev K Φ q t) σ H (fun c H1 => ifK c (exs K Φ q b σ H1 Q E) (exs K Φ q o σ H1 Q E)) (afterS E σ) := rfl
theorem q_for {x : Str} {p1 p : Pos} {it : Expr} {b : List Stmt} {Q : PF} {E : PS} : ex K Φ q (.For (.Name x p1) it b [] p) σ H Q E = ev K Φ q it σ H (fun v H1 => ∃ its src, itemsA H1 v = some (its, src) ∧ q = true ∧ forA (bodyS K Φ q b) x src Q E its σ H1) (afterS E σ) := rfl
theorem q_while {t : Expr} {b : List Stmt} {p : Pos} {Q : PF} {E : PS} : ex K Φ q (.While t b [] p) σ H Q E = ∃ n, whA (testS K Φ q t) (bodyS K Φ q b) Q E n σ H := rfl
theorem q_try {b : List Stmt} {hs : List ExceptHandler} {p : Pos} {Q : PF} {E : PS} : ex K Φ q (.Try b hs [] [] p) σ H Q E = (q = true ∧ exs K Φ true b σ H Q (hdS K Φ hs Q E)) := rfl
theorem q_raise {x : Str} {p1 p2 p3 p4 : Pos} {k : Nat} {m : Str} {Q : PF} {E : PS} : ex K Φ q (.Raise (some (.Call (.Name x p1) [.Constant (.str m) k p2] [] p3)) none p4) σ H Q E = (q = true ∧ (match gval K x with
      | some (.val (.ref C)) => σ x = none ∧ excOk K C = true ∧ E C σ H
      | _ => False)) := x_raise
theorem q_aname {v : AVal} {x : Str} {p : Pos} {Q : Loc → AHeap → Prop} {E : PE} : asg K Φ q v (.Name x p) σ H Q E = Q (upd σ x v) H := rfl
theorem q_asub {v : AVal} {o i : Expr} {p : Pos} {Q : Loc → AHeap → Prop} {E : PE} : asg K Φ q v (.Subscript o i p) σ H Q E = ev K Φ q o σ H (fun ov H1 => ev K Φ q i σ H1 (fun iv H2 => stA ov iv v H2 (Q σ)) E) E := rfl
theorem q_aattr {v : AVal} {o : Expr} {name : Str} {p : Pos} {Q : Loc → AHeap → Prop} {E : PE} : asg K Φ q v (.Attribute o name p) σ H Q E = ev K Φ q o σ H (fun ov H1 => satA K ov name v H1 (Q σ)) E := rfl
theorem q_comp {elt : Expr} {x : Str} {p1 p : Pos} {iter : Expr} {ifs : List Expr} {sc : Scope} {Q : PV} {E : PE} : ev K Φ q (.ListComp elt [⟨.Name x p1, iter, ifs, 0⟩] sc p) σ H Q E = ev K Φ q iter σ H (fun v H1 => ∃ its src, itemsA H1 v = some (its, src) ∧ (q = true ∧ its.length ≤ bigL) ∧
      compA (ifsS K Φ q ifs) (eltS K Φ q elt) x src σ its H1 [] (fun ys H2 => newL H2 ys Q)) E := propext ⟨fun h => h.2, fun h => ⟨rfl, h⟩⟩
theorem q_b1 {op : BoolOp} {e : Expr} {Q : PV} {E : PE} : evB K Φ q op [e] σ H Q E = ev K Φ q e σ H Q E := rfl
theorem q_bA {e e' : Expr} {r : List Expr} {Q : PV} {E : PE} : evB K Φ q .And (e :: e' :: r) σ H Q E = ev K Φ q e σ H (fun v H1 => boolA v fun b => ifK b (evB K Φ q .And (e' :: r) σ H1 Q E) (Q (.bool false) H1)) E := by
  rfl
theorem q_bO {e e' : Expr} {r : List Expr} {Q : PV} {E : PE} : evB K Φ q .Or (e :: e' :: r) σ H Q E = ev K Φ q e σ H (fun v H1 => boolA v fun b => ifK b (Q (.bool true) H1) (evB K Φ q .Or (e' :: r) σ H1 Q E)) E := by
  rfl
theorem q_tB0 {Q : PB} {E : PE} : tstB K Φ q .And [] σ H Q E = Q true H := rfl
theorem q_tB0' {Q : PB} {E : PE} : tstB K Φ q .Or [] σ H Q E = Q false H := rfl
theorem q_tBA {e : Expr} {r : List Expr} {Q : PB} {E : PE} : tstB K Φ q .And (e :: r) σ H Q E = tst K Φ q e (ev K Φ q e) σ H (fun b H1 => ifK b (tstB K Φ q .And r σ H1 Q E) (Q false H1)) E := rfl
theorem q_tBO {e : Expr} {r : List Expr} {Q : PB} {E : PE} : tstB K Φ q .Or (e :: r) σ H Q E = tst K Φ q e (ev K Φ q e) σ H (fun b H1 => ifK b (Q true H1) (tstB K Φ q .Or r σ H1 Q E)) E := rfl
theorem q_c1 {a : AVal} {op : CmpOp} {r : Expr} {Q : PB} {E : PE} : cmpE K Φ q a [op] [r] σ H Q E = ev K Φ q r σ H (fun b H1 => cmpK op a b H1 fun c => Q c H1) E := rfl
theorem q_c2 {a : AVal} {op op' : CmpOp} {r r' : Expr} {Q : PB} {E : PE} : cmpE K Φ q a [op, op'] [r, r'] σ H Q E = ev K Φ q r σ H (fun b H1 => cmpK op a b H1 fun c => ifK c (ev K Φ q r' σ H1 (fun d H2 => cmpK op' b d H2 fun c => Q c H2) E) (Q false H1)) E := by
  rw [vC_two]
  congr 1
  funext b H1
  unfold cmpK
  cases cmpA op a b H1 with
  | none => rfl
  | some c => cases c <;> rfl
theorem q_not {e : Expr} {p : Pos} {Wh : Loc → AHeap → PV → PE → Prop} {Q : PB} {E : PE} : tst K Φ q (.UnaryOp .Not e p) Wh σ H Q E = tst K Φ q e (ev K Φ q e) σ H (fun b H1 => Q (!b) H1) E := rfl

theorem q_bool {b : Bool} {k : Bool → Prop} : boolA (.bool b) k = k b := rfl
theorem q_int {i : Int} {k : Int → Prop} : intA (.int i) k = k i := rfl
theorem q_t {A B : Prop} : ifK true A B = A := rfl
theorem q_f {A B : Prop} : ifK false A B = B := rfl
theorem q_ifn {c : Bool} {A B : Prop} : ifK (!c) A B = ifK c B A := by cases c <;> rfl
section
variable {Q : PV}
theorem q_add {x y : Int} : binA .Add (.int x) (.int y) H Q = Q (.int (x + y)) H := rfl
theorem q_sub {x y : Int} : binA .Sub (.int x) (.int y) H Q = Q (.int (x - y)) H := rfl
theorem q_mul {x y : Int} : binA .Mult (.int x) (.int y) H Q = (IntMulOk x y ∧ Q (.int (x * y)) H) := rfl
theorem q_div {x y : Int} : binA .FloorDiv (.int x) (.int y) H Q = ((0 < y ∧ y < 1073741824) ∧ Q (.int (x / y)) H) := rfl
theorem q_mod {x y : Int} : binA .Mod (.int x) (.int y) H Q = (0 < y ∧ Q (.int (x % y)) H) := rfl
theorem q_p20 : binA .Pow (.int 10) (.int 20) H Q = Q (.int (10 ^ 20)) H := propext ⟨fun h => h.2, fun h => ⟨by decide +kernel, h⟩⟩
theorem q_p30 : binA .Pow (.int 10) (.int 30) H Q = Q (.int (10 ^ 30)) H := propext ⟨fun h => h.2, fun h => ⟨by decide +kernel, h⟩⟩
theorem q_p59 : binA .Pow (.int 10) (.int 59) H Q = Q (.int (10 ^ 59)) H := propext ⟨fun h => h.2, fun h => ⟨by decide +kernel, h⟩⟩
theorem q_p60 : binA .Pow (.int 10) (.int 60) H Q = Q (.int (10 ^ 60)) H := propext ⟨fun h => h.2, fun h => ⟨by decide +kernel, h⟩⟩
end
section
variable {k : Bool → Prop}
theorem q_lt {x y : Int} : cmpK .Lt (.int x) (.int y) H k = k (decide (x < y)) := rfl
theorem q_le {x y : Int} : cmpK .LtE (.int x) (.int y) H k = k (decide (x ≤ y)) := rfl
theorem q_gt {x y : Int} : cmpK .Gt (.int x) (.int y) H k = k (decide (y < x)) := rfl
theorem q_ge {x y : Int} : cmpK .GtE (.int x) (.int y) H k = k (decide (y ≤ x)) := rfl
theorem q_eq {x y : Int} : cmpK .Eq (.int x) (.int y) H k = k (decide (x = y)) := by unfold cmpK; rw [show cmpA .Eq (.int x) (.int y) H = some (decide (x = y)) from (eqA_ii (H := H))]; try rfl
theorem q_ne {x y : Int} : cmpK .NotEq (.int x) (.int y) H k = k (!decide (x = y)) := by unfold cmpK; rw [show cmpA .NotEq (.int x) (.int y) H = some (!(decide (x = y))) from congrArg (Option.map (!·)) (eqA_ii (H := H))]; try rfl
theorem q_seq {x y : Str} : cmpK .Eq (.str x) (.str y) H k = k (decide (x = y)) := by unfold cmpK; rw [show cmpA .Eq (.str x) (.str y) H = some (decide (x = y)) from (eqA_ss (H := H))]; try rfl
theorem q_sne {x y : Str} : cmpK .NotEq (.str x) (.str y) H k = k (!decide (x = y)) := by unfold cmpK; rw [show cmpA .NotEq (.str x) (.str y) H = some (!(decide (x = y))) from congrArg (Option.map (!·)) (eqA_ss (H := H))]; try rfl
theorem q_beq {x y : Bool} : cmpK .Eq (.bool x) (.bool y) H k = k (x == y) := by unfold cmpK; rw [show cmpA .Eq (.bool x) (.bool y) H = some (x == y) from (eqA_bb (H := H))]; try rfl
theorem q_bne {x y : Bool} : cmpK .NotEq (.bool x) (.bool y) H k = k (x != y) := by unfold cmpK; rw [show cmpA .NotEq (.bool x) (.bool y) H = some (!(x == y)) from congrArg (Option.map (!·)) (eqA_bb (H := H))]; try rfl
noncomputable def inW (x : Str) (l : List Str) : Bool := l.any fun y => PyData.eqv (.str y) (.str x)
theorem datL_str {n : Nat} : ∀ l : List Str, datL (dat H n) (l.map .str) = some (l.map .str)
  | [] => rfl
  | x :: r => by
    have e : dat H n (.str x) = some (.str x) := by cases n <;> rfl
    rw [List.map_cons, datL, e, datL_str r]; rfl
theorem anyA_str {x : Str} {l : List Str} : anyA H (.str x) (l.map .str) = some (inW x l) := by
  unfold anyA
  rw [datL_str]
  show some ((l.map PyData.str).any fun y => PyData.eqv y (.str x)) = _
  rw [List.any_map]; rfl
theorem q_in2 {x a b : Str} : cmpK .In (.str x) (.tup [.str a, .str b]) H k = k (inW x [a, b]) := by
  unfold cmpK; show (match anyA H (.str x) ([a, b].map .str) with | some c => k c | none => False) = _; rw [anyA_str]
theorem q_in3 {x a b c : Str} : cmpK .In (.str x) (.tup [.str a, .str b, .str c]) H k = k (inW x [a, b, c]) := by
  unfold cmpK; show (match anyA H (.str x) ([a, b, c].map .str) with | some c => k c | none => False) = _; rw [anyA_str]
theorem q_in4 {x a b c d : Str} : cmpK .In (.str x) (.tup [.str a, .str b, .str c, .str d]) H k = k (inW x [a, b, c, d]) := by
  unfold cmpK; show (match anyA H (.str x) ([a, b, c, d].map .str) with | some c => k c | none => False) = _; rw [anyA_str]
theorem q_nin4 {x a b c d : Str} : cmpK .NotIn (.str x) (.tup [.str a, .str b, .str c, .str d]) H k = k (!inW x [a, b, c, d]) := by
  unfold cmpK; show (match Option.map (!·) (anyA H (.str x) ([a, b, c, d].map .str)) with | some c => k c | none => False) = _; rw [anyA_str]; rfl
theorem eqv_str (x y : Str) : PyData.eqv (.str x) (.str y) = decide (x = y) := by
  by_cases h : x = y
  · subst h; rw [decide_eq_true rfl]; simp [PyData.eqv]
  · rw [decide_eq_false h]; simp [PyData.eqv, h]
theorem inW_nil (x : Str) : inW x [] = false := rfl
theorem inW_cons (x y : Str) (r : List Str) : inW x (y :: r) = (decide (y = x) || inW x r) := by
  show (PyData.eqv (.str y) (.str x) || _) = _; rw [eqv_str]; rfl
end
theorem q_fref {a : Addr} {vs : List AVal} {Q : PV} {E : PE} : callA K Φ q (.val (.ref a)) vs H Q E = Φ q (.ref a) vs H Q E := rfl
theorem q_flen {vs : List AVal} {Q : PV} {E : PE} : callA K Φ q (.val (.builtin "len")) vs H Q E = biA K q "len" vs H Q := by unfold callA; dsimp only; rw [if_pos (by decide)]
theorem q_fisinstance {vs : List AVal} {Q : PV} {E : PE} : callA K Φ q (.val (.builtin "isinstance")) vs H Q E = biA K q "isinstance" vs H Q := by unfold callA; dsimp only; rw [if_pos (by decide)]
theorem q_fmin {vs : List AVal} {Q : PV} {E : PE} : callA K Φ q (.val (.builtin "min")) vs H Q E = Φ q (.builtin "min") vs H Q E := by unfold callA; dsimp only; rw [if_neg (by decide)]
theorem q_fmax {vs : List AVal} {Q : PV} {E : PE} : callA K Φ q (.val (.builtin "max")) vs H Q E = Φ q (.builtin "max") vs H Q E := by unfold callA; dsimp only; rw [if_neg (by decide)]
theorem q_fall {vs : List AVal} {Q : PV} {E : PE} : callA K Φ q (.val (.builtin "all")) vs H Q E = Φ q (.builtin "all") vs H Q E := by unfold callA; dsimp only; rw [if_neg (by decide)]
theorem q_flist {vs : List AVal} {Q : PV} {E : PE} : callA K Φ q (.val (.type "list")) vs H Q E = Φ q (.type "list") vs H Q E := rfl
theorem q_frange {vs : List AVal} {Q : PV} {E : PE} : callA K Φ q (.val (.type "range")) vs H Q E = Φ q (.type "range") vs H Q E := rfl
theorem q_fint {vs : List AVal} {Q : PV} {E : PE} : callA K Φ q (.val (.type "int")) vs H Q E = Φ q (.type "int") vs H Q E := rfl
theorem q_fstr {vs : List AVal} {Q : PV} {E : PE} : callA K Φ q (.val (.type "str")) vs H Q E = Φ q (.type "str") vs H Q E := rfl
theorem q_gbi {id : String} : fnA K (.val (.builtin id)) = True := rfl
theorem q_gty {id : String} : fnA K (.val (.type id)) = True := rfl
theorem q_gref {a : Addr} : fnA K (.val (.ref a)) = (keepIn K (.ref a) = true) := rfl
theorem q_sub0 {x : AVal} {r : List AVal} {Q : PV} : subA (.tup (x :: r)) (.int 0) H Q = Q x H := by
  have e : idxA 0 (x :: r).length = some 0 := by
    unfold idxA; rw [if_pos (by decide), if_pos (by simp)]; rfl
  show (match idxA 0 (x :: r).length with | some j => (match (x :: r)[j]? with | some v => Q v H | none => False) | none => False) = _
  rw [e]; rfl
theorem q_sub1 {x y : AVal} {r : List AVal} {Q : PV} : subA (.tup (x :: y :: r)) (.int 1) H Q = Q y H := by
  have e : idxA 1 (x :: y :: r).length = some 1 := by
    unfold idxA; rw [if_pos (by decide), if_pos (by simp; omega)]; rfl
  show (match idxA 1 (x :: y :: r).length with | some j => (match (x :: y :: r)[j]? with | some v => Q v H | none => False) | none => False) = _
  rw [e]; rfl
theorem q_isi {v : AVal} {t : Value} {Q : PV} : biA K q "isinstance" [v, .val t] H Q = (match isiA K H v t with | some b => Q (.bool b) H | none => False) := by
  unfold biA; first | (rw [if_neg (by decide), if_pos (by decide)]; done) | (rw [if_neg (by decide), if_pos (by decide)]; rfl)
theorem q_lent {l : List AVal} {Q : PV} : biA K q "len" [.tup l] H Q = Q (.int l.length) H := by
  unfold biA; rw [if_pos (by decide)]; rfl
end
end Mine

/-! Plain: steps, looms, rows; no program in sight. -/
set_option linter.all false
namespace Mine

inductive Stp where
  | load (k : Int)
  | plus (k : Int)
  | store (k : Int)
  | add (n : Int)
  | twice
  | take
  | free

structure St where
  bx : List Int
  num : Bool → Int
  pl : Bool → Nat
  ho : Option Bool

noncomputable def setB {α : Type} (f : Bool → α) (h : Bool) (v : α) : Bool → α := fun k => if k = h then v else f k

noncomputable def Stp.on (t : Stp) (h : Bool) (s : St) : St := match t with
  | .load k => { s with num := setB s.num h (s.bx.getD k.toNat 0) }
  | .plus k => { s with num := setB s.num h (s.num h + s.bx.getD k.toNat 0) }
  | .store k => { s with bx := s.bx.set k.toNat (s.num h) }
  | .add n => { s with num := setB s.num h (s.num h + n) }
  | .twice => { s with num := setB s.num h (2 * s.num h) }
  | .take => { s with ho := some h }
  | .free => { s with ho := none }
noncomputable def St.adv (s : St) (h : Bool) : St := { s with pl := setB s.pl h (s.pl h + 1) }
noncomputable def St.next (s : St) (rows : Bool → List Stp) (h : Bool) : Option Stp := (rows h)[s.pl h]?
noncomputable def St.new (bx : List Int) : St := ⟨bx, fun _ => 0, fun _ => 0, none⟩

inductive Bad where
  | turn | waits | again | held

noncomputable def bad (rows : Bool → List Stp) (s : St) (h : Bool) : Option Bad := match s.next rows h with
  | none => some .turn
  | some .take => (match s.ho with
    | none => none
    | some g => some (if g = h then .again else .waits))
  | some .free => if s.ho = some h then none else some .held
  | some _ => none
noncomputable def goS (rows : Bool → List Stp) (s : St) (h : Bool) : St := match s.next rows h with
  | some t => (t.on h s).adv h
  | none => s

noncomputable def runS (rows : Bool → List Stp) : List Bool → St → St × Option Bad
  | [], s => (s, none)
  | h :: r, s => match bad rows s h with
    | some e => (s, some e)
    | none => runS rows r (goS rows s h)

theorem runS_append (rows : Bool → List Stp) : ∀ (a b : List Bool) (s : St), runS rows (a ++ b) s = (match runS rows a s with
    | (s1, none) => runS rows b s1
    | (s1, some e) => (s1, some e))
  | [], b, s => rfl
  | h :: r, b, s => by
    show runS rows (h :: (r ++ b)) s = _
    rw [runS, runS]
    cases bad rows s h with
    | some e => rfl
    | none => exact runS_append rows r b _

noncomputable def Stp.isBox : Stp → Bool
  | .load _ | .plus _ | .store _ => true
  | _ => false
noncomputable def Stp.isGd : Stp → Bool
  | .take | .free => true
  | _ => false
noncomputable def Stp.at? : Stp → Option Int
  | .load k | .plus k | .store k => some k
  | _ => none
noncomputable def Stp.isStore : Stp → Bool
  | .store _ => true
  | _ => false
/-! law 10 -/
noncomputable def isTake : Stp → Bool
  | .take => true
  | _ => false
noncomputable def isFree : Stp → Bool
  | .free => true
  | _ => false
noncomputable def mk (s : Stp) : Bool := s.isBox || s.isGd
/-! law 13 -/
/-! law 08 -/
theorem setB_same {α : Type} (f : Bool → α) (h : Bool) (a : α) : setB f h a h = a := by simp [setB]
theorem setB_other {α : Type} (f : Bool → α) (h : Bool) (a : α) : setB f h a (!h) = f (!h) := by cases h <;> rfl
noncomputable def Stp.ok (t : Stp) : Prop := ∀ k, t.at? = some k → 0 ≤ k
theorem goS_of {rows : Bool → List Stp} {s : St} {h : Bool} {t : Stp} (e : s.next rows h = some t) : goS rows s h = (t.on h s).adv h := by unfold goS; rw [e]
/-! laws 09, 11: steps that do not meet may be led past each other -/
end Mine

/-! Locals as a list, loops by an invariant, steps as values. -/
set_option maxRecDepth 100000
set_option linter.all false
namespace Mine
open PySem PySem.Calls PyProof.Rows PySem.W

noncomputable def env : List (Str × Option AVal) → Loc
  | [] => fun _ => none
  | (x, o) :: r => fun y => if y = x then o else env r y
noncomputable def put (x : Str) (v : AVal) : List (Str × Option AVal) → List (Str × Option AVal)
  | [] => [(x, some v)]
  | (y, o) :: r => if x = y then (y, some v) :: r else (y, o) :: put x v r
theorem upd_env (x : Str) (v : AVal) : ∀ l, upd (env l) x v = env (put x v l)
  | [] => rfl
  | (y, o) :: r => by
    funext z
    unfold put
    by_cases h : x = y
    · rw [if_pos h]; subst h
      show (if z = x then some v else if z = x then o else env r z) = (if z = x then some v else env r z)
      split <;> rfl
    · rw [if_neg h]
      show (if z = x then some v else if z = y then o else env r z) = (if z = y then o else env (put x v r) z)
      rw [← upd_env x v r]
      unfold upd
      by_cases h1 : z = x
      · rw [if_pos h1, if_pos h1, if_neg (by rw [h1]; exact h)]
      · rw [if_neg h1, if_neg h1]
theorem bind_nil {vs : List AVal} : bindA [] vs = env [] := rfl
theorem env_pad (x : Str) : ∀ l, env l = env (l ++ [(x, none)])
  | [] => by funext y; show none = if y = x then none else none; split <;> rfl
  | (z, o) :: r => by
    funext y
    show (if y = z then o else env r y) = if y = z then o else env (r ++ [(x, none)]) y
    rw [env_pad x r]

theorem bind_put {xs : List Str} {vs : List AVal} {l : List (Str × Option AVal)} {x : Str} {v : AVal} (h : bindA xs vs = env l) : bindA (x :: xs) (v :: vs) = env (put x v l) := by
  show upd (bindA xs vs) x v = _
  rw [h, upd_env]
theorem env_pads : ∀ (l : List (Str × Option AVal)) (xs : List Str), env l = env (l ++ xs.map fun x => (x, none))
  | l, [] => by rw [List.map_nil, List.append_nil]
  | l, x :: xs => by
    rw [env_pad x l, env_pads (l ++ [(x, none)]) xs, List.append_assoc]; rfl
noncomputable def gvA (o : Option AVal) (k : AVal → Prop) : Prop := match o with
  | some v => k v
  | none => False
section
variable {K : Frag} {x y : Str} {v : AVal} {o : Option AVal} {r : List (Str × Option AVal)} {k : AVal → Prop}
theorem gv_hit (h : gval K x = some v) : gvA (gval K x) k = k v := by rw [h]; exact propext Iff.rfl
end

noncomputable def Grow (H H' : AHeap) : Prop := ∀ a o, H a = some o → H' a = some o
theorem Grow.refl (H : AHeap) : Grow H H := fun _ _ e => e
theorem Grow.trans {H H' H'' : AHeap} (x : Grow H H') (y : Grow H' H'') : Grow H H'' := fun a o e => y a o (x a o e)
theorem Grow.new {H : AHeap} {a : Addr} {o : AObj} (hn : H a = none) : Grow H (hset H a o) := fun _ _ e => hs_old e hn
theorem Grow.ne {H H' : AHeap} (x : Grow H H') {a b : Addr} {o : AObj} (e : H b = some o) (hn : H' a = none) : b ≠ a := by
  rintro rfl; rw [x _ _ e] at hn; cases hn
theorem ne_new {H : AHeap} {a b : Addr} {o : AObj} (e : H b = some o) (hn : H a = none) : b ≠ a := by
  rintro rfl; rw [e] at hn; cases hn

section
variable {B : Loc → AHeap → PF → PS → Prop} {T : Loc → AHeap → PB → PE → Prop} {x : Str} {src : Option (Addr × AObj)} {Q : PF} {E : PS}

theorem for_map {α : Type} {f : α → AVal} (I : List α → List α → Loc → AHeap → Prop)
    (hs : ∀ pre a suf σ H, I pre (a :: suf) σ H → ∀ N : PF, (∀ σ1 H1, srcA src H1 → I (pre ++ [a]) suf σ1 H1 → N .next σ1 H1) → (∀ σ1 H1, srcA src H1 → I (pre ++ [a]) suf σ1 H1 → N .cont σ1 H1) →
      (∀ v σ1 H1, Q (.ret v) σ1 H1 → N (.ret v) σ1 H1) → B (upd σ x (f a)) H N E)
    (hn : ∀ pre σ H, I pre [] σ H → Q .next σ H) : ∀ suf pre σ H, I pre suf σ H → forA B x src Q E (suf.map f) σ H
  | [], pre, σ, H, h => hn pre σ H h
  | a :: suf, pre, σ, H, h => hs pre a suf σ H h _ (fun σ1 H1 s i => ⟨s, for_map I hs hn suf (pre ++ [a]) σ1 H1 i⟩) (fun σ1 H1 s i => ⟨s, for_map I hs hn suf (pre ++ [a]) σ1 H1 i⟩) fun _ _ _ z => z

theorem for_range {lo : Int} {n : Nat} (I : Nat → Loc → AHeap → Prop)
    (hs : ∀ k σ H, k < n → I k σ H → ∀ N : PF, (∀ σ1 H1, I (k + 1) σ1 H1 → N .next σ1 H1) → (∀ σ1 H1, I (k + 1) σ1 H1 → N .cont σ1 H1) → (∀ v σ1 H1, Q (.ret v) σ1 H1 → N (.ret v) σ1 H1) → B (upd σ x (.int (lo + (k : Int)))) H N E)
    (hn : ∀ σ H, I n σ H → Q .next σ H) (σ : Loc) (H : AHeap) (h : I 0 σ H) : forA B x none Q E ((List.range n).map fun (k : Nat) => AVal.int (lo + k)) σ H := by
  refine for_map (α := Nat) (f := fun (k : Nat) => AVal.int (lo + k)) (fun pre suf σ H => pre ++ suf = List.range n ∧ I pre.length σ H) ?_ ?_ (List.range n) [] σ H ⟨rfl, h⟩
  · intro pre a suf σ H hI N n1 n2 n3
    obtain ⟨e, i⟩ := hI
    have hlen : pre.length < n := by
      have := congrArg List.length e
      simp at this; omega
    have ha : a = pre.length := by
      have h1 : (List.range n)[pre.length]? = some a := by rw [← e]; simp
      rw [List.getElem?_range hlen] at h1
      cases h1; rfl
    subst ha
    refine hs pre.length σ H hlen i N (fun σ1 H1 j => n1 σ1 H1 trivial ⟨by rw [← e]; simp, ?_⟩) (fun σ1 H1 j => n2 σ1 H1 trivial ⟨by rw [← e]; simp, ?_⟩) n3
    · rw [List.length_append]; exact j
    · rw [List.length_append]; exact j
  · intro pre σ H hI
    obtain ⟨e, i⟩ := hI
    have : pre.length = n := by rw [List.append_nil] at e; rw [e, List.length_range]
    rw [this] at i
    exact hn σ H i

theorem wh_ind (I : Nat → Loc → AHeap → Prop)
    (hs : ∀ m σ H, I m σ H → ∀ N : PF, (∀ k σ1 H1, k < m → I k σ1 H1 → N .next σ1 H1) → (∀ v σ1 H1, Q (.ret v) σ1 H1 → N (.ret v) σ1 H1) → T σ H (fun b H1 => ifK b (B σ H1 N E) (Q .next σ H1)) (afterS E σ)) :
    ∀ n m σ H, m < n → I m σ H → whA T B Q E n σ H
  | 0, m, σ, H, h, _ => absurd h (Nat.not_lt_zero _)
  | n + 1, m, σ, H, h, i => hs m σ H i (fun fl σ1 H2 => match fl with
      | .next | .cont => whA T B Q E n σ1 H2
      | .brk => Q .next σ1 H2
      | .ret v => Q (.ret v) σ1 H2) (fun k σ1 H1 hk j => wh_ind I hs n k σ1 H1 (by omega) j) (fun _ _ _ z => z)
end

section
variable {T : Loc → AHeap → PB → Prop} {V : Loc → AHeap → PV → Prop} {x : Str} {src : Option (Addr × AObj)} {σ : Loc} {k : List AVal → AHeap → Prop}
theorem comp_map {α : Type} {f : α → AVal} (I : List α → List α → List AVal → AHeap → Prop)
    (hs : ∀ pre a suf acc H, I pre (a :: suf) acc H → ∀ (M : PV) (L : AHeap → Prop), (∀ v H2, srcA src H2 → I (pre ++ [a]) suf (acc ++ [v]) H2 → M v H2) → (∀ H1, srcA src H1 → I (pre ++ [a]) suf acc H1 → L H1) →
      T (upd σ x (f a)) H (fun b H1 => ifK b (V (upd σ x (f a)) H1 M) (L H1)))
    (hn : ∀ pre acc H, I pre [] acc H → k acc H) : ∀ suf pre acc H, I pre suf acc H → compA T V x src σ (suf.map f) H acc k
  | [], pre, acc, H, h => hn pre acc H h
  | a :: suf, pre, acc, H, h => hs pre a suf acc H h (fun v H2 => srcA src H2 ∧ compA T V x src σ (suf.map f) H2 (acc ++ [v]) k) (fun H1 => srcA src H1 ∧ compA T V x src σ (suf.map f) H1 acc k)
      (fun v H2 s i => ⟨s, comp_map I hs hn suf (pre ++ [a]) (acc ++ [v]) H2 i⟩) (fun H1 s i => ⟨s, comp_map I hs hn suf (pre ++ [a]) acc H1 i⟩)
theorem comp_range {lo : Int} {n : Nat} (I : Nat → List AVal → AHeap → Prop)
    (hs : ∀ k acc H, k < n → I k acc H → ∀ (M : PV) (L : AHeap → Prop), (∀ v H2, I (k + 1) (acc ++ [v]) H2 → M v H2) → (∀ H1, I (k + 1) acc H1 → L H1) →
      T (upd σ x (.int (lo + (k : Int)))) H (fun b H1 => ifK b (V (upd σ x (.int (lo + (k : Int)))) H1 M) (L H1)))
    (hn : ∀ acc H, I n acc H → k acc H) (H : AHeap) (h : I 0 [] H) : compA T V x none σ ((List.range n).map fun (k : Nat) => AVal.int (lo + k)) H [] k := by
  refine comp_map (α := Nat) (f := fun (k : Nat) => AVal.int (lo + k)) (fun pre suf acc H => pre ++ suf = List.range n ∧ I pre.length acc H) ?_ ?_ (List.range n) [] [] H ⟨rfl, h⟩
  · intro pre a suf acc H hI M L n1 n2
    obtain ⟨e, i⟩ := hI
    have hlen : pre.length < n := by
      have := congrArg List.length e
      simp at this; omega
    have ha : a = pre.length := by
      have h1 : (List.range n)[pre.length]? = some a := by rw [← e]; simp
      rw [List.getElem?_range hlen] at h1
      cases h1; rfl
    subst ha
    refine hs pre.length acc H hlen i M L (fun v H2 j => n1 v H2 trivial ⟨by rw [← e]; simp, ?_⟩) (fun H1 j => n2 H1 trivial ⟨by rw [← e]; simp, ?_⟩)
    · rw [List.length_append]; exact j
    · rw [List.length_append]; exact j
  · intro pre acc H hI
    obtain ⟨e, i⟩ := hI
    have : pre.length = n := by rw [List.append_nil] at e; rw [e, List.length_range]
    rw [this] at i
    exact hn acc H i
end

section
variable {K : Frag} {Φ : Bool → CallP} {q : Bool} {σ : Loc} {H : AHeap}
theorem q_body {b : List Stmt} {Q : PF} {E : PS} : bodyS K Φ q b σ H Q E = exs K Φ q b σ H Q E := rfl
theorem q_test {t : Expr} {Q : PB} {E : PE} : testS K Φ q t σ H Q E = tst K Φ q t (ev K Φ q t) σ H Q E := rfl
theorem q_elt {e : Expr} {Q : PV} : eltS K Φ q e σ H Q = ev K Φ q e σ H Q (fun _ _ => False) := rfl
theorem q_ifs0 {Q : PB} : ifsS K Φ q [] σ H Q = Q true H := rfl
theorem q_ifs1 {e : Expr} {Q : PB} : ifsS K Φ q [e] σ H Q = tst K Φ q e (ev K Φ q e) σ H Q (fun _ _ => False) := rfl
theorem it_list {a : Addr} {ro : Bool} {xs : List AVal} (h : H a = some (.list ro xs)) : itemsA H (.ref a) = some (xs, some (a, .list ro xs)) := by unfold itemsA; dsimp only; rw [h]
theorem it_tup {l : List AVal} : itemsA H (.tup l) = some (l, none) := rfl
theorem it_range {lo hi : Int} : itemsA H (.range lo hi) = some ((List.range (hi - lo).toNat).map (fun (k : Nat) => AVal.int (lo + k)), none) := rfl
end

/-! isinstance over plain values -/
noncomputable def tys : List String := ["NoneType", "bool", "int", "str", "tuple", "list"]
noncomputable def subT (s t : String) : Bool := s == t || (s == "bool" && t == "int")
noncomputable def kitAll (K : Frag) : Bool := tys.all fun s => tys.all fun t => kitOne K (.type s) (.type t) == some (subT s t)
theorem kit_at {K : Frag} (h : kitAll K = true) {s t : String} (hs : s ∈ tys) (ht : t ∈ tys) : kitOne K (.type s) (.type t) = some (subT s t) :=
  beq_iff_eq.mp (List.all_eq_true.mp (List.all_eq_true.mp h s hs) t ht)
noncomputable def tyN (H : AHeap) : AVal → Option String
  | .none => some "NoneType"
  | .bool _ => some "bool"
  | .int _ => some "int"
  | .str _ => some "str"
  | .tup _ => some "tuple"
  | .ref a => (match H a with | some (.list _ _) => some "list" | _ => none)
  | _ => none
theorem isi_ty {K : Frag} {H : AHeap} {v : AVal} {s t : String} (h : kitAll K = true) (hv : tyN H v = some s) (ht : t ∈ tys) : isiA K H v (.type t) = some (subT s t) := by
  have mem : s ∈ tys := by
    cases v <;> simp only [tyN] at hv <;> first | (cases hv; done) | (cases hv; decide) | (split at hv <;> first | (cases hv; decide) | (cases hv; done))
  have : typA H v = some (.type s) := by
    cases v <;> simp only [tyN] at hv <;> first | (cases hv; done) | (cases hv; rfl) | skip
    rename_i a
    simp only [typA]
    split at hv <;> first | (cases hv; done) | (cases hv; rename_i e; first | rfl | rw [e])
  have e : isiA K H v (.type t) = (typA H v).bind fun u => kitOne K u (.type t) := by
    cases v <;> first | rfl | (simp only [tyN] at hv; cases hv; done)
  rw [e, this]
  exact kit_at h mem ht
theorem ty_ref {H : AHeap} {a : Addr} {ro : Bool} {xs : List AVal} (h : H a = some (.list ro xs)) : tyN H (.ref a) = some "list" := by simp only [tyN]; rw [h]

/-! equality of data -/
theorem eqv_dat {H : AHeap} : ∀ (n : Nat) (v : AVal) (d : PyData), dat H n v = some d → PyData.eqv d d = true := by
  have base : ∀ (n : Nat) (v : AVal) (d : PyData), (match v with | .tup _ => False | .ref _ => False | _ => True) → dat H n v = some d → PyData.eqv d d = true := by
    intro n v d hv e
    cases v <;> first | (cases hv; done) | (cases n <;> simp only [dat] at e <;> first | (cases e; done) | (cases e; simp [PyData.eqv]))
  intro n
  induction n with
  | zero =>
    intro v d e
    cases v <;> first | exact base 0 _ d trivial e | (simp only [dat] at e; cases e)
  | succ n ih =>
    have L : ∀ (l : List AVal) (ds : List PyData), datL (dat H n) l = some ds → PyData.eqvAll ds ds = true := by
      intro l
      induction l with
      | nil => intro ds e; simp only [datL] at e; cases e; simp [PyData.eqvAll]
      | cons a r ihr =>
        intro ds e
        simp only [datL] at e
        split at e
        · rename_i x y h1 h2
          cases e
          simp [PyData.eqvAll, ih a x h1, ihr y h2]
        · cases e
    intro v d e
    cases v with
    | tup l =>
      simp only [dat] at e
      obtain ⟨ds, h1, h2⟩ := Option.map_eq_some_iff.mp e
      subst h2
      simp [PyData.eqv, L l ds h1]
    | ref a =>
      simp only [dat] at e
      split at e
      · obtain ⟨ds, h1, h2⟩ := Option.map_eq_some_iff.mp e
        subst h2
        simp [PyData.eqv, L _ ds h1]
      · cases e
    | _ => exact base (n + 1) _ d trivial e
theorem eqA_same {H : AHeap} {a b : AVal} {d : PyData} (h1 : dat H 8 a = some d) (h2 : dat H 8 b = some d) : eqA H a b = some true := by
  unfold eqA; rw [h1, h2]; exact congrArg some (eqv_dat 8 a d h1)

/-! steps as values -/
noncomputable def Stp.w : Stp → Str
  | .load _ => Str.ofString "load"
  | .plus _ => Str.ofString "plus"
  | .store _ => Str.ofString "store"
  | .add _ => Str.ofString "add"
  | .twice => Str.ofString "twice"
  | .take => Str.ofString "take"
  | .free => Str.ofString "free"
noncomputable def Stp.v : Stp → AVal
  | .load k => .tup [.str (Str.ofString "load"), .int k]
  | .plus k => .tup [.str (Str.ofString "plus"), .int k]
  | .store k => .tup [.str (Str.ofString "store"), .int k]
  | .add n => .tup [.str (Str.ofString "add"), .int n]
  | .twice => .tup [.str (Str.ofString "twice")]
  | .take => .tup [.str (Str.ofString "take")]
  | .free => .tup [.str (Str.ofString "free")]
theorem sv_sub0 {H : AHeap} {Q : PV} (s : Stp) : subA s.v (.int 0) H Q = Q (.str s.w) H := by cases s <;> exact q_sub0
noncomputable def stpD : Stp → PyData
  | .load k => .tuple [.str (Str.ofString "load"), .int k]
  | .plus k => .tuple [.str (Str.ofString "plus"), .int k]
  | .store k => .tuple [.str (Str.ofString "store"), .int k]
  | .add n => .tuple [.str (Str.ofString "add"), .int n]
  | .twice => .tuple [.str (Str.ofString "twice")]
  | .take => .tuple [.str (Str.ofString "take")]
  | .free => .tuple [.str (Str.ofString "free")]
theorem dat_step {H : AHeap} {n : Nat} (s : Stp) : dat H (n + 1) s.v = some (stpD s) := by
  cases s <;> cases n <;> rfl
theorem dat_steps {H : AHeap} {n : Nat} : ∀ l : List Stp, datL (dat H (n + 1)) (l.map Stp.v) = some (l.map stpD)
  | [] => rfl
  | s :: r => by rw [List.map_cons, datL, dat_step, dat_steps r]; rfl
theorem dat_ints {H : AHeap} {n : Nat} : ∀ l : List Int, datL (dat H n) (l.map .int) = some (l.map .int)
  | [] => rfl
  | i :: r => by
    have e : dat H n (.int i) = some (.int i) := by cases n <;> rfl
    rw [List.map_cons, datL, e, dat_ints r]; rfl
theorem dat_ref {H : AHeap} {n : Nat} {a : Addr} {ro : Bool} {xs : List AVal} {ds : List PyData} (h : H a = some (.list ro xs)) (e : datL (dat H n) xs = some ds) : dat H (n + 1) (.ref a) = some (.list ds) := by
  simp only [dat]; rw [h]; dsimp only; rw [e]; rfl
theorem q_neref {H : AHeap} {a b : Addr} {k : Bool → Prop} {d : PyData} (h1 : dat H 8 (.ref a) = some d) (h2 : dat H 8 (.ref b) = some d) (h : k false) : cmpK .NotEq (.ref a) (.ref b) H k :=
  cmpK_i (show Option.map (!·) (eqA H (.ref a) (.ref b)) = some false by rw [eqA_same h1 h2]; rfl) h
theorem rows_ne {H : AHeap} {a b : Addr} {ro ro' : Bool} {l : List Stp} {k : Bool → Prop} (h1 : H a = some (.list ro (l.map Stp.v))) (h2 : H b = some (.list ro' (l.map Stp.v))) (h : k false) : cmpK .NotEq (.ref a) (.ref b) H k :=
  q_neref (dat_ref h1 (dat_steps l)) (dat_ref h2 (dat_steps l)) h
theorem ints_ne {H : AHeap} {a b : Addr} {ro ro' : Bool} {l : List Int} {k : Bool → Prop} (h1 : H a = some (.list ro (l.map .int))) (h2 : H b = some (.list ro' (l.map .int))) (h : k false) : cmpK .NotEq (.ref a) (.ref b) H k :=
  q_neref (dat_ref h1 (dat_ints l)) (dat_ref h2 (dat_ints l)) h
end Mine

/-! A loom on the heap. -/
set_option maxRecDepth 100000
set_option linter.all false
namespace Mine
open PySem PySem.Calls PyProof.Rows PySem.W

section
variable {K : Frag} {Φ : Bool → CallP} {q : Bool} {σ : Loc} {H : AHeap} {Q : PV} {E : PE}
theorem attr_of {a C d : Addr} {fs : List (Str × AVal)} {name : Str} {v : AVal} (h1 : H a = some (.inst C d)) (h2 : H d = some (.dict fs)) (h3 : attrOk K C name = true) (h4 : lookF name fs = some v) (h5 : notVal v) (h : Q v H) : attrA K (.ref a) name H Q := by
  unfold attrA; dsimp only; rw [h1]; dsimp only; rw [h2]; dsimp only; rw [h4]; exact ⟨h3, h5, h⟩
theorem meth_of {a C d f : Addr} {fs : List (Str × AVal)} {name : Str} {k : AMeth → Prop} (h1 : H a = some (.inst C d)) (h2 : H d = some (.dict fs)) (h4 : lookF name fs = none) (h3 : methOk K C name f = true) (h : k (.um f a)) : methA K (.ref a) name H k := by
  unfold methA; dsimp only; rw [h1]; dsimp only; rw [h2]; exact ⟨h4, f, h3, h⟩
theorem meth_l {a : Addr} {xs : List AVal} {name : Str} {k : AMeth → Prop} (h1 : H a = some (.list false xs)) (h4 : name = Str.ofString "append" ∨ name = Str.ofString "pop" ∨ name = Str.ofString "count") (h : k (.lm a name)) : methA K (.ref a) name H k := by
  unfold methA; dsimp only; rw [h1]; exact ⟨⟨rfl, h4⟩, h⟩
theorem q_um {f a : Addr} {vs : List AVal} : callM Φ q (.um f a) vs H Q E = Φ q (.ref f) (.ref a :: vs) H Q E := rfl
theorem app_of {a : Addr} {xs : List AVal} {v : AVal} (h1 : H a = some (.list false xs)) (hl : xs.length < bigL) (h : Q .none (hset H a (.list false (xs ++ [v])))) : callM Φ q (.lm a (Str.ofString "append")) [v] H Q E := by
  unfold callM; dsimp only; rw [if_pos rfl, h1]; exact ⟨rfl, hl, h⟩
theorem pop_of {W : Wd} {n : Nat} {a : Addr} {ys : List AVal} {y : AVal} (h1 : H a = some (.list false (ys ++ [y]))) (h : Q y (hset H a (.list false ys))) : callM (CallOk W n) q (.lm a (Str.ofString "pop")) [] H Q E := by
  unfold callM; dsimp only; rw [if_neg (by rw [ofs_eq]; decide), if_pos rfl]
  intro A fr s vs ao I r
  obtain ⟨v, rfl, r1⟩ := r.one; obtain rfl := r1.inv; exact pop_sound I h1 h
theorem st_list {a : Addr} {xs : List AVal} {j : Int} {v : AVal} {k : AHeap → Prop} (h1 : H a = some (.list false xs)) (h2 : 0 ≤ j) (h3 : j < xs.length) (h : k (hset H a (.list false (xs.set j.toNat v)))) : stA (.ref a) (.int j) v H k := by
  unfold stA; dsimp only; rw [h1]; exact ⟨rfl, h2, h3, h⟩
theorem sat_of {a C d : Addr} {fs : List (Str × AVal)} {name : Str} {v : AVal} {k : AHeap → Prop} (h1 : H a = some (.inst C d)) (h2 : H d = some (.dict fs)) (h3 : storeOk K C name = true) (h4 : fs.length < 100) (h : k (hset H d (.dict (putF name v fs)))) : satA K (.ref a) name v H k := by
  unfold satA; dsimp only; rw [h1]; dsimp only; rw [h2]; exact ⟨h3, h4, h⟩
theorem cut_of {a : Addr} {ro : Bool} {xs : List AVal} {lo hi : Option Int} (h1 : H a = some (.list ro xs)) (h2 : ∀ k, lo = some k → 0 ≤ k) (h3 : ∀ k, hi = some k → 0 ≤ k) (h : newL H (cutL lo hi xs) Q) : cutA (.ref a) lo hi H Q := by
  unfold cutA; dsimp only; rw [h1]; exact ⟨h2, h3, h⟩
theorem q_nin2 {x a b : Str} {k : Bool → Prop} : cmpK .NotIn (.str x) (.tup [.str a, .str b]) H k = k (!inW x [a, b]) := by
  unfold cmpK; show (match Option.map (!·) (anyA H (.str x) ([a, b].map .str)) with | some c => k c | none => False) = _; rw [anyA_str]; rfl
theorem q_nin3 {x a b c : Str} {k : Bool → Prop} : cmpK .NotIn (.str x) (.tup [.str a, .str b, .str c]) H k = k (!inW x [a, b, c]) := by
  unfold cmpK; show (match Option.map (!·) (anyA H (.str x) ([a, b, c].map .str)) with | some c => k c | none => False) = _; rw [anyA_str]; rfl
theorem q_isn {v : AVal} {k : Bool → Prop} {b : Bool} (h : isA v .none = some b) : cmpK .Is v .none H k = k b := by
  unfold cmpK; show (match isA v .none with | some c => k c | none => False) = _; rw [h]
theorem q_isnn {v : AVal} {k : Bool → Prop} {b : Bool} (h : isA v .none = some b) : cmpK .IsNot v .none H k = k (!b) := by
  unfold cmpK; show (match Option.map (!·) (isA v .none) with | some c => k c | none => False) = _; rw [h]; rfl
theorem q_is_n {k : Bool → Prop} : cmpK .Is .none .none H k = k true := q_isn rfl
theorem q_is_i {x : Int} {k : Bool → Prop} : cmpK .Is (.int x) .none H k = k false := q_isn rfl
theorem q_is_r {x : Addr} {k : Bool → Prop} : cmpK .Is (.ref x) .none H k = k false := q_isn rfl
theorem q_is_t {x : List AVal} {k : Bool → Prop} : cmpK .Is (.tup x) .none H k = k false := q_isn rfl
theorem q_isn_n {k : Bool → Prop} : cmpK .IsNot .none .none H k = k false := q_isnn (b := true) rfl
theorem q_isn_i {x : Int} {k : Bool → Prop} : cmpK .IsNot (.int x) .none H k = k true := q_isnn (b := false) rfl
theorem q_isn_r {x : Addr} {k : Bool → Prop} : cmpK .IsNot (.ref x) .none H k = k true := q_isnn (b := false) rfl
theorem q_isn_t {x : List AVal} {k : Bool → Prop} : cmpK .IsNot (.tup x) .none H k = k true := q_isnn (b := false) rfl
theorem cmp_eqA {a c : AVal} {k : Bool → Prop} {b : Bool} (e : cmpA .Eq a c H = eqA H a c) (h : eqA H a c = some b) : cmpK .Eq a c H k = k b := by unfold cmpK; rw [e, h]
theorem q_eq_ni {x : Int} {k : Bool → Prop} : cmpK .Eq .none (.int x) H k = k false := cmp_eqA rfl (by simp [eqA, dat, PyData.eqv])
theorem q_ne_ni {x : Int} {k : Bool → Prop} : cmpK .NotEq .none (.int x) H k = k true := by
  unfold cmpK; show (match Option.map (!·) (eqA H .none (.int x)) with | some c => k c | none => False) = _
  have : eqA H .none (.int x) = some false := by simp [eqA, dat, PyData.eqv]
  rw [this]; rfl
end

/-! words of steps -/
theorem wd_box (s : Stp) : inW s.w [Str.ofString "load", Str.ofString "plus", Str.ofString "store"] = s.isBox := by cases s <;> simp [Stp.w, Stp.isBox, inW_cons, inW_nil, ofs_eq]
theorem wd_gd (s : Stp) : inW s.w [Str.ofString "take", Str.ofString "free"] = s.isGd := by cases s <;> simp [Stp.w, Stp.isGd, inW_cons, inW_nil, ofs_eq]
noncomputable def isTwice : Stp → Bool
  | .twice => true
  | _ => false
noncomputable def isAdd : Stp → Bool
  | .add _ => true
  | _ => false
noncomputable def isLoad : Stp → Bool
  | .load _ => true
  | _ => false
noncomputable def isPlus : Stp → Bool
  | .plus _ => true
  | _ => false
theorem wd_take (s : Stp) : decide (s.w = Str.ofString "take") = isTake s := by cases s <;> simp [Stp.w, isTake, ofs_eq]
theorem wd_free (s : Stp) : decide (s.w = Str.ofString "free") = isFree s := by cases s <;> simp [Stp.w, isFree, ofs_eq]
theorem wd_load (s : Stp) : decide (s.w = Str.ofString "load") = isLoad s := by cases s <;> simp [Stp.w, isLoad, ofs_eq]
theorem wd_plus (s : Stp) : decide (s.w = Str.ofString "plus") = isPlus s := by cases s <;> simp [Stp.w, isPlus, ofs_eq]
theorem wd_store (s : Stp) : decide (s.w = Str.ofString "store") = s.isStore := by cases s <;> simp [Stp.w, Stp.isStore, ofs_eq]
theorem wd_add (s : Stp) : decide (s.w = Str.ofString "add") = isAdd s := by cases s <;> simp [Stp.w, isAdd, ofs_eq]
theorem wd_twice (s : Stp) : decide (s.w = Str.ofString "twice") = isTwice s := by cases s <;> simp [Stp.w, isTwice, ofs_eq]
section
variable {H : AHeap} {Q : PV} {k : Int}
theorem sv_sub1l : subA (Stp.load k).v (.int 1) H Q = Q (.int k) H := q_sub1
theorem sv_sub1p : subA (Stp.plus k).v (.int 1) H Q = Q (.int k) H := q_sub1
theorem sv_sub1s : subA (Stp.store k).v (.int 1) H Q = Q (.int k) H := q_sub1
theorem sv_sub1a : subA (Stp.add k).v (.int 1) H Q = Q (.int k) H := q_sub1
noncomputable def Stp.ln : Stp → Int
  | .load _ | .plus _ | .store _ | .add _ => 2
  | _ => 1
theorem sv_len {K : Frag} {q : Bool} (s : Stp) : biA K q "len" [s.v] H Q = Q (.int s.ln) H := by cases s <;> exact q_lent
theorem cisBox_load {k : Int} : Stp.isBox (.load k) = true := rfl
theorem cisBox_plus {k : Int} : Stp.isBox (.plus k) = true := rfl
theorem cisBox_store {k : Int} : Stp.isBox (.store k) = true := rfl
theorem cisBox_add {k : Int} : Stp.isBox (.add k) = false := rfl
theorem cisBox_twice : Stp.isBox Stp.twice = false := rfl
theorem cisBox_take : Stp.isBox Stp.take = false := rfl
theorem cisBox_free : Stp.isBox Stp.free = false := rfl
theorem cisGd_load {k : Int} : Stp.isGd (.load k) = false := rfl
theorem cisGd_plus {k : Int} : Stp.isGd (.plus k) = false := rfl
theorem cisGd_store {k : Int} : Stp.isGd (.store k) = false := rfl
theorem cisGd_add {k : Int} : Stp.isGd (.add k) = false := rfl
theorem cisGd_twice : Stp.isGd Stp.twice = false := rfl
theorem cisGd_take : Stp.isGd Stp.take = true := rfl
theorem cisGd_free : Stp.isGd Stp.free = true := rfl
theorem cisTake_load {k : Int} : isTake (.load k) = false := rfl
theorem cisTake_plus {k : Int} : isTake (.plus k) = false := rfl
theorem cisTake_store {k : Int} : isTake (.store k) = false := rfl
theorem cisTake_add {k : Int} : isTake (.add k) = false := rfl
theorem cisTake_twice : isTake Stp.twice = false := rfl
theorem cisTake_take : isTake Stp.take = true := rfl
theorem cisTake_free : isTake Stp.free = false := rfl
theorem cisFree_load {k : Int} : isFree (.load k) = false := rfl
theorem cisFree_plus {k : Int} : isFree (.plus k) = false := rfl
theorem cisFree_store {k : Int} : isFree (.store k) = false := rfl
theorem cisFree_add {k : Int} : isFree (.add k) = false := rfl
theorem cisFree_twice : isFree Stp.twice = false := rfl
theorem cisFree_take : isFree Stp.take = false := rfl
theorem cisFree_free : isFree Stp.free = true := rfl
theorem cisLoad_load {k : Int} : isLoad (.load k) = true := rfl
theorem cisLoad_plus {k : Int} : isLoad (.plus k) = false := rfl
theorem cisLoad_store {k : Int} : isLoad (.store k) = false := rfl
theorem cisLoad_add {k : Int} : isLoad (.add k) = false := rfl
theorem cisLoad_twice : isLoad Stp.twice = false := rfl
theorem cisLoad_take : isLoad Stp.take = false := rfl
theorem cisLoad_free : isLoad Stp.free = false := rfl
theorem cisPlus_load {k : Int} : isPlus (.load k) = false := rfl
theorem cisPlus_plus {k : Int} : isPlus (.plus k) = true := rfl
theorem cisPlus_store {k : Int} : isPlus (.store k) = false := rfl
theorem cisPlus_add {k : Int} : isPlus (.add k) = false := rfl
theorem cisPlus_twice : isPlus Stp.twice = false := rfl
theorem cisPlus_take : isPlus Stp.take = false := rfl
theorem cisPlus_free : isPlus Stp.free = false := rfl
theorem cisStore_load {k : Int} : Stp.isStore (.load k) = false := rfl
theorem cisStore_plus {k : Int} : Stp.isStore (.plus k) = false := rfl
theorem cisStore_store {k : Int} : Stp.isStore (.store k) = true := rfl
theorem cisStore_add {k : Int} : Stp.isStore (.add k) = false := rfl
theorem cisStore_twice : Stp.isStore Stp.twice = false := rfl
theorem cisStore_take : Stp.isStore Stp.take = false := rfl
theorem cisStore_free : Stp.isStore Stp.free = false := rfl
theorem cisAdd_load {k : Int} : isAdd (.load k) = false := rfl
theorem cisAdd_plus {k : Int} : isAdd (.plus k) = false := rfl
theorem cisAdd_store {k : Int} : isAdd (.store k) = false := rfl
theorem cisAdd_add {k : Int} : isAdd (.add k) = true := rfl
theorem cisAdd_twice : isAdd Stp.twice = false := rfl
theorem cisAdd_take : isAdd Stp.take = false := rfl
theorem cisAdd_free : isAdd Stp.free = false := rfl
theorem cisTwice_load {k : Int} : isTwice (.load k) = false := rfl
theorem cisTwice_plus {k : Int} : isTwice (.plus k) = false := rfl
theorem cisTwice_store {k : Int} : isTwice (.store k) = false := rfl
theorem cisTwice_add {k : Int} : isTwice (.add k) = false := rfl
theorem cisTwice_twice : isTwice Stp.twice = true := rfl
theorem cisTwice_take : isTwice Stp.take = false := rfl
theorem cisTwice_free : isTwice Stp.free = false := rfl
theorem cln_load {k : Int} : Stp.ln (.load k) = 2 := rfl
theorem cln_plus {k : Int} : Stp.ln (.plus k) = 2 := rfl
theorem cln_store {k : Int} : Stp.ln (.store k) = 2 := rfl
theorem cln_add {k : Int} : Stp.ln (.add k) = 2 := rfl
theorem cln_twice : Stp.ln Stp.twice = 1 := rfl
theorem cln_take : Stp.ln Stp.take = 1 := rfl
theorem cln_free : Stp.ln Stp.free = 1 := rfl
theorem sv_ty (s : Stp) : tyN H s.v = some "tuple" := by cases s <;> rfl
theorem sv_eq {k : Bool → Prop} (s : Stp) : cmpK .Eq s.v s.v H k = k true := by
  have : eqA H s.v s.v = some true := eqA_same (dat_step s) (dat_step s)
  cases s <;> exact cmp_eqA rfl this
theorem sv_ne {k : Bool → Prop} (s : Stp) : cmpK .NotEq s.v s.v H k = k false := by
  have : eqA H s.v s.v = some true := eqA_same (dat_step s) (dat_step s)
  have h2 : ∀ a : AVal, cmpA .NotEq a a H = Option.map (!·) (eqA H a a) → eqA H a a = some true → cmpK .NotEq a a H k = k false := fun a e h => by unfold cmpK; rw [e, h]; rfl
  cases s <;> exact h2 _ rfl this
end

structure LA where
  L : Addr
  d : Addr
  R : Addr
  B : Addr
  N : Addr
  P : Addr
  R0 : Addr
  R1 : Addr
noncomputable def LA.all (l : LA) : List Addr := [l.P, l.N, l.B, l.R, l.R1, l.R0, l.L, l.d]
noncomputable def hv (h : Bool) : Int := if h then 1 else 0
theorem hv_f : hv false = 0 := rfl
theorem hv_t : hv true = 1 := rfl
noncomputable def hoV : Option Bool → AVal
  | none => .none
  | some h => .int (hv h)
noncomputable def lDict (l : LA) (ho : Option Bool) : List (Str × AVal) := [(Str.ofString "rows", .ref l.R), (Str.ofString "boxes", .ref l.B), (Str.ofString "numbers", .ref l.N), (Str.ofString "places", .ref l.P), (Str.ofString "holder", hoV ho)]
structure LoomAt (C : Addr) (H : AHeap) (l : LA) (rows : Bool → List Stp) (s : St) : Prop where
  L : H l.L = some (.inst C l.d)
  d : H l.d = some (.dict (lDict l s.ho))
  R : H l.R = some (.list false [.ref l.R0, .ref l.R1])
  B : H l.B = some (.list false (s.bx.map .int))
  N : H l.N = some (.list false [.int (s.num false), .int (s.num true)])
  P : H l.P = some (.list false [.int (s.pl false), .int (s.pl true)])
  R0 : H l.R0 = some (.list false ((rows false).map Stp.v))
  R1 : H l.R1 = some (.list false ((rows true).map Stp.v))
  nd : l.all.Nodup
noncomputable def Same (F : List Addr) (H H' : AHeap) : Prop := ∀ x, x ∉ F → H' x = H x
theorem Same.refl (F : List Addr) (H : AHeap) : Same F H H := fun _ _ => rfl
theorem Same.trans {F : List Addr} {H H' H'' : AHeap} (x : Same F H H') (y : Same F H' H'') : Same F H H'' := fun a h => (y a h).trans (x a h)
theorem Same.set {F : List Addr} {H H' : AHeap} (x : Same F H H') {a : Addr} {o : AObj} (h : a ∈ F) : Same F H (hset H' a o) := fun b hb => by
  unfold hset; rw [if_neg]
  · exact x b hb
  · rintro rfl; exact hb h

section
variable {C : Addr} {H : AHeap} {l : LA} {rows : Bool → List Stp} {s : St}
theorem LoomAt.move {H' : AHeap} {F : List Addr} (lo : LoomAt C H l rows s) (sm : Same F H H') (hf : ∀ x ∈ l.all, x ∉ F) : LoomAt C H' l rows s := by
  have k : ∀ x ∈ l.all, H' x = H x := fun x hx => sm x (hf x hx)
  refine ⟨?_, ?_, ?_, ?_, ?_, ?_, ?_, ?_, lo.nd⟩
  · rw [k _ (by simp [LA.all])]; exact lo.L
  · rw [k _ (by simp [LA.all])]; exact lo.d
  · rw [k _ (by simp [LA.all])]; exact lo.R
  · rw [k _ (by simp [LA.all])]; exact lo.B
  · rw [k _ (by simp [LA.all])]; exact lo.N
  · rw [k _ (by simp [LA.all])]; exact lo.P
  · rw [k _ (by simp [LA.all])]; exact lo.R0
  · rw [k _ (by simp [LA.all])]; exact lo.R1
theorem LoomAt.grow {H' : AHeap} (lo : LoomAt C H l rows s) (g : Grow H H') : LoomAt C H' l rows s :=
  ⟨g _ _ lo.L, g _ _ lo.d, g _ _ lo.R, g _ _ lo.B, g _ _ lo.N, g _ _ lo.P, g _ _ lo.R0, g _ _ lo.R1, lo.nd⟩
theorem LoomAt.setN (lo : LoomAt C H l rows s) (f : Bool → Int) : LoomAt C (hset H l.N (.list false [.int (f false), .int (f true)])) l rows { s with num := f } := by
  have nd := lo.nd
  simp only [LA.all, List.nodup_cons, List.mem_cons, List.mem_nil_iff, or_false, not_or, List.not_mem_nil, not_false_eq_true, List.nodup_nil, and_true] at nd
  obtain ⟨⟨n1, n2, n3, n4, n5, n6, n7⟩, ⟨n8, n9, n10, n11, n12, n13⟩, ⟨n14, n15, n16, n17, n18⟩, ⟨n19, n20, n21, n22⟩, ⟨n23, n24, n25⟩, ⟨n26, n27⟩, n28⟩ := nd
  exact ⟨hs_ne (by first | assumption | (apply Ne.symm; assumption)) lo.L, hs_ne (by first | assumption | (apply Ne.symm; assumption)) lo.d, hs_ne (by first | assumption | (apply Ne.symm; assumption)) lo.R, hs_ne (by first | assumption | (apply Ne.symm; assumption)) lo.B, hs_same,
    hs_ne (by first | assumption | (apply Ne.symm; assumption)) lo.P, hs_ne (by first | assumption | (apply Ne.symm; assumption)) lo.R0, hs_ne (by first | assumption | (apply Ne.symm; assumption)) lo.R1, lo.nd⟩
theorem LoomAt.setP (lo : LoomAt C H l rows s) (f : Bool → Nat) : LoomAt C (hset H l.P (.list false [.int (f false), .int (f true)])) l rows { s with pl := f } := by
  have nd := lo.nd
  simp only [LA.all, List.nodup_cons, List.mem_cons, List.mem_nil_iff, or_false, not_or, List.not_mem_nil, not_false_eq_true, List.nodup_nil, and_true] at nd
  obtain ⟨⟨n1, n2, n3, n4, n5, n6, n7⟩, ⟨n8, n9, n10, n11, n12, n13⟩, ⟨n14, n15, n16, n17, n18⟩, ⟨n19, n20, n21, n22⟩, ⟨n23, n24, n25⟩, ⟨n26, n27⟩, n28⟩ := nd
  exact ⟨hs_ne (by first | assumption | (apply Ne.symm; assumption)) lo.L, hs_ne (by first | assumption | (apply Ne.symm; assumption)) lo.d, hs_ne (by first | assumption | (apply Ne.symm; assumption)) lo.R, hs_ne (by first | assumption | (apply Ne.symm; assumption)) lo.B, hs_ne (by first | assumption | (apply Ne.symm; assumption)) lo.N, hs_same,
    hs_ne (by first | assumption | (apply Ne.symm; assumption)) lo.R0, hs_ne (by first | assumption | (apply Ne.symm; assumption)) lo.R1, lo.nd⟩
theorem LoomAt.setBx (lo : LoomAt C H l rows s) (f : List Int) : LoomAt C (hset H l.B (.list false (f.map .int))) l rows { s with bx := f } := by
  have nd := lo.nd
  simp only [LA.all, List.nodup_cons, List.mem_cons, List.mem_nil_iff, or_false, not_or, List.not_mem_nil, not_false_eq_true, List.nodup_nil, and_true] at nd
  obtain ⟨⟨n1, n2, n3, n4, n5, n6, n7⟩, ⟨n8, n9, n10, n11, n12, n13⟩, ⟨n14, n15, n16, n17, n18⟩, ⟨n19, n20, n21, n22⟩, ⟨n23, n24, n25⟩, ⟨n26, n27⟩, n28⟩ := nd
  exact ⟨hs_ne (by first | assumption | (apply Ne.symm; assumption)) lo.L, hs_ne (by first | assumption | (apply Ne.symm; assumption)) lo.d, hs_ne (by first | assumption | (apply Ne.symm; assumption)) lo.R, hs_same, hs_ne (by first | assumption | (apply Ne.symm; assumption)) lo.N, hs_ne (by first | assumption | (apply Ne.symm; assumption)) lo.P,
    hs_ne (by first | assumption | (apply Ne.symm; assumption)) lo.R0, hs_ne (by first | assumption | (apply Ne.symm; assumption)) lo.R1, lo.nd⟩
theorem LoomAt.setHo (lo : LoomAt C H l rows s) (f : Option Bool) : LoomAt C (hset H l.d (.dict (lDict l f))) l rows { s with ho := f } := by
  have nd := lo.nd
  simp only [LA.all, List.nodup_cons, List.mem_cons, List.mem_nil_iff, or_false, not_or, List.not_mem_nil, not_false_eq_true, List.nodup_nil, and_true] at nd
  obtain ⟨⟨n1, n2, n3, n4, n5, n6, n7⟩, ⟨n8, n9, n10, n11, n12, n13⟩, ⟨n14, n15, n16, n17, n18⟩, ⟨n19, n20, n21, n22⟩, ⟨n23, n24, n25⟩, ⟨n26, n27⟩, n28⟩ := nd
  exact ⟨hs_ne (by first | assumption | (apply Ne.symm; assumption)) lo.L, hs_same, hs_ne (by first | assumption | (apply Ne.symm; assumption)) lo.R, hs_ne (by first | assumption | (apply Ne.symm; assumption)) lo.B, hs_ne (by first | assumption | (apply Ne.symm; assumption)) lo.N, hs_ne (by first | assumption | (apply Ne.symm; assumption)) lo.P,
    hs_ne (by first | assumption | (apply Ne.symm; assumption)) lo.R0, hs_ne (by first | assumption | (apply Ne.symm; assumption)) lo.R1, lo.nd⟩
end

section
variable {l : LA} {ho : Option Bool} {H : AHeap}
theorem lk_rows : lookF (Str.ofString "rows") (lDict l ho) = some (.ref l.R) := by simp [lookF, lDict, ofs_eq]
theorem lk_boxes : lookF (Str.ofString "boxes") (lDict l ho) = some (.ref l.B) := by simp [lookF, lDict, ofs_eq]
theorem lk_numbers : lookF (Str.ofString "numbers") (lDict l ho) = some (.ref l.N) := by simp [lookF, lDict, ofs_eq]
theorem lk_places : lookF (Str.ofString "places") (lDict l ho) = some (.ref l.P) := by simp [lookF, lDict, ofs_eq]
theorem lk_holder : lookF (Str.ofString "holder") (lDict l ho) = some (hoV ho) := by simp [lookF, lDict, ofs_eq]
theorem lk_over : lookF (Str.ofString "over") (lDict l ho) = none := by simp [lookF, lDict, ofs_eq]
theorem lk_waits : lookF (Str.ofString "waits") (lDict l ho) = none := by simp [lookF, lDict, ofs_eq]
theorem lk_go : lookF (Str.ofString "go") (lDict l ho) = none := by simp [lookF, lDict, ofs_eq]
theorem lk_work : lookF (Str.ofString "work") (lDict l ho) = none := by simp [lookF, lDict, ofs_eq]
theorem lk_twin : lookF (Str.ofString "twin") (lDict l ho) = none := by simp [lookF, lDict, ofs_eq]
theorem pt_holder {f : Option Bool} : putF (Str.ofString "holder") (hoV f) (lDict l ho) = lDict l f := by simp [putF, lDict, ofs_eq]
theorem nv_ho (ho : Option Bool) : notVal (hoV ho) := by cases ho <;> exact trivial
theorem dec_cast {a c : Nat} : decide ((a : Int) ≤ (c : Int)) = decide (a ≤ c) := by simp
theorem ho_eq {g : Bool} {k : Bool → Prop} (h : k (decide (ho = some g))) : cmpK .Eq (hoV ho) (.int (hv g)) H k := by
  cases ho with
  | none => show cmpK .Eq .none (.int (hv g)) H k; rw [q_eq_ni]; exact h
  | some x => show cmpK .Eq (.int (hv x)) (.int (hv g)) H k; rw [q_eq]; cases x <;> cases g <;> exact h
theorem ho_ne {g : Bool} {k : Bool → Prop} (h : k (!decide (ho = some g))) : cmpK .NotEq (hoV ho) (.int (hv g)) H k := by
  cases ho with
  | none => show cmpK .NotEq .none (.int (hv g)) H k; rw [q_ne_ni]; exact h
  | some x => show cmpK .NotEq (.int (hv x)) (.int (hv g)) H k; rw [q_ne]; cases x <;> cases g <;> exact h
end
noncomputable def waitsS (rows : Bool → List Stp) (s : St) (h : Bool) : Bool := match s.next rows h with
  | some t => isTake t && decide (s.ho = some (!h))
  | none => false
theorem waits_none {rows : Bool → List Stp} {s : St} {h : Bool} (e : (rows h)[s.pl h]? = none) : waitsS rows s h = false := by unfold waitsS St.next; rw [e]
theorem waits_some {rows : Bool → List Stp} {s : St} {h : Bool} {t : Stp} (e : (rows h)[s.pl h]? = some t) : waitsS rows s h = (isTake t && decide (s.ho = some (!h))) := by unfold waitsS St.next; rw [e]
theorem new_of {H : AHeap} {Q : PV} {xs : List AVal} (h : ∀ a H', Grow H H' → H a = none → Same [a] H H' → H' a = some (.list false xs) → Q (.ref a) H') : newL H xs Q := fun a ha =>
  h a _ (Grow.new ha) ha ((Same.refl _ _).set List.mem_cons_self) hs_same
end Mine

/-! Pairs by hands, stands, raising. -/
set_option maxRecDepth 100000
set_option linter.all false
namespace Mine
open PySem PySem.Calls PyProof.Rows PySem.W

section
variable {K : Frag} {Φ : Bool → CallP} {q : Bool} {σ : Loc} {H : AHeap} {Q : PV} {E : PE} {k : AHeap → Prop}
theorem hv_nn (h : Bool) : 0 ≤ hv h := by cases h <;> decide
theorem hv_not (h : Bool) : 1 - hv h = hv (!h) := by cases h <;> rfl
theorem two_at {α : Type} (f : Bool → α) (h : Bool) : [f false, f true][(hv h).toNat]? = some (f h) := by cases h <;> rfl
theorem set_two {α : Type} (f : Bool → α) (h : Bool) (v : α) : [f false, f true].set (hv h).toNat v = [setB f h v false, setB f h v true] := by cases h <;> rfl
theorem sb_two {a : Addr} {ro h : Bool} (f : Bool → AVal) (h1 : H a = some (.list ro [f false, f true])) (hq : Q (f h) H) : subA (.ref a) (.int (hv h)) H Q := sb_list h1 (hv_nn h) (two_at f h) hq
theorem sb_nat2 {a : Addr} {ro h : Bool} {p : Bool → Nat} (h1 : H a = some (.list ro [.int (p false : Nat), .int (p true : Nat)])) (hq : Q (.int (p h : Nat)) H) : subA (.ref a) (.int (hv h)) H Q := sb_two (fun h => .int (p h : Nat)) h1 hq
theorem sb_int2 {a : Addr} {ro h : Bool} {f : Bool → Int} (h1 : H a = some (.list ro [.int (f false), .int (f true)])) (hq : Q (.int (f h)) H) : subA (.ref a) (.int (hv h)) H Q := sb_two (fun h => .int (f h)) h1 hq
theorem sb_ref2 {a : Addr} {ro h : Bool} {A : Bool → Addr} (h1 : H a = some (.list ro [.ref (A false), .ref (A true)])) (hq : Q (.ref (A h)) H) : subA (.ref a) (.int (hv h)) H Q := sb_two (fun h => .ref (A h)) h1 hq
theorem sb_row {a : Addr} {ro : Bool} {row : List Stp} {t : Stp} {i : Nat} (h1 : H a = some (.list ro (row.map Stp.v))) (ht : row[i]? = some t) (hq : Q t.v H) : subA (.ref a) (.int (i : Int)) H Q :=
  sb_list h1 (by omega) (by rw [Int.toNat_natCast, List.getElem?_map, ht]; rfl) hq
theorem st_two {a : Addr} {h : Bool} {v : AVal} (f : Bool → AVal) (h1 : H a = some (.list false [f false, f true])) (hk : k (hset H a (.list false [setB f h v false, setB f h v true]))) : stA (.ref a) (.int (hv h)) v H k := by
  refine st_list h1 (hv_nn h) (by show hv h < 2; cases h <;> decide) ?_
  rw [set_two]; exact hk
theorem st_nat2 {a : Addr} {h : Bool} {p : Bool → Nat} (h1 : H a = some (.list false [.int (p false : Nat), .int (p true : Nat)])) (hk : k (hset H a (.list false [.int (setB p h (p h + 1) false : Nat), .int (setB p h (p h + 1) true : Nat)]))) : stA (.ref a) (.int (hv h)) (.int ((p h : Nat) + 1)) H k := by
  refine st_two (fun h => .int (p h : Nat)) h1 ?_
  cases h <;> exact hk
theorem st_int2 {a : Addr} {h : Bool} {f : Bool → Int} {z : Int} (h1 : H a = some (.list false [.int (f false), .int (f true)])) (hk : k (hset H a (.list false [.int (setB f h z false), .int (setB f h z true)]))) : stA (.ref a) (.int (hv h)) (.int z) H k := by
  refine st_two (fun h => .int (f h)) h1 ?_
  cases h <;> exact hk
theorem sb_box {a : Addr} {ro : Bool} {bx : List Int} {i : Int} (h1 : H a = some (.list ro (bx.map .int))) (h0 : 0 ≤ i) (hi : i < bx.length) (hq : Q (.int (bx.getD i.toNat 0)) H) : subA (.ref a) (.int i) H Q := by
  refine sb_list h1 h0 (v := .int (bx.getD i.toNat 0)) ?_ hq
  rw [List.getElem?_map, List.getD_eq_getElem?_getD, List.getElem?_eq_getElem (show i.toNat < bx.length by omega)]; rfl
theorem st_box {a : Addr} {bx : List Int} {i z : Int} (h1 : H a = some (.list false (bx.map .int))) (h0 : 0 ≤ i) (hi : i < bx.length) (hk : k (hset H a (.list false ((bx.set i.toNat z).map .int)))) : stA (.ref a) (.int i) (.int z) H k := by
  refine st_list h1 h0 (by rw [List.length_map]; exact hi) ?_
  rw [List.map_set] at hk; exact hk
theorem Grow.set {H H1 : AHeap} {r : Addr} {o : AObj} (g : Grow H H1) (hr : H r = none) : Grow H (hset H1 r o) := fun x o' e => hs_ne (ne_new e hr) (g x o' e)
theorem Grow.non {H H1 : AHeap} {r : Addr} (g : Grow H H1) (hr : H1 r = none) : H r = none := by
  cases e : H r with
  | none => rfl
  | some o => rw [g _ _ e] at hr; cases hr
theorem Same.at {F : List Addr} {H H' : AHeap} (sm : Same F H H') {x : Addr} (hx : x ∉ F) {o : Option AObj} (h : H x = o) : H' x = o := (sm x hx).trans h
noncomputable def wd (l : List String) (i : Int) : Str := Str.ofString (l.getD i.toNat "")
theorem wd_at {a : Addr} {ro : Bool} {i : Int} (l : List String) (h1 : H a = some (.list ro (l.map fun s => .str (Str.ofString s)))) (h0 : 0 ≤ i) (hi : i < l.length) (hq : Q (.str (wd l i)) H) : subA (.ref a) (.int i) H Q := by
  refine sb_list h1 h0 (v := .str (wd l i)) ?_ hq
  unfold wd
  rw [List.getElem?_map, List.getD_eq_getElem?_getD, List.getElem?_eq_getElem (show i.toNat < l.length by omega)]; rfl
noncomputable def pairV (x : Bool × Stp) : AVal := .tup [.int (hv x.1), x.2.v]
noncomputable def hvV (h : Bool) : AVal := .int (hv h)
theorem pv_0 (x : Bool × Stp) : subA (pairV x) (.int 0) H Q = Q (.int (hv x.1)) H := q_sub0
theorem pv_1 (x : Bool × Stp) : subA (pairV x) (.int 1) H Q = Q x.2.v H := q_sub1
theorem hv_inj (a c : Bool) : decide (hv a = hv c) = (a == c) := by cases a <;> cases c <;> rfl
theorem cut_ints {xs : List Int} {lo hi : Option Int} : cutL lo hi (xs.map AVal.int) = (cutL lo hi xs).map AVal.int := by
  unfold cutL; cases hi <;> cases lo <;> simp [List.map_drop, List.map_take]
theorem cut_le {α : Type} {xs : List α} {lo hi : Option Int} : (cutL lo hi xs).length ≤ xs.length := by
  unfold cutL; cases hi <;> cases lo <;> simp <;> omega
end

noncomputable def LA.Rh (l : LA) (h : Bool) : Addr := if h then l.R1 else l.R0
section
variable {C : Addr} {H : AHeap} {l : LA} {rows : Bool → List Stp} {s : St} {h : Bool} {t : Stp}
theorem LoomAt.Rr (lo : LoomAt C H l rows s) : H l.R = some (.list false [.ref (l.Rh false), .ref (l.Rh true)]) := lo.R
theorem LoomAt.Rx (lo : LoomAt C H l rows s) (h : Bool) : H (l.Rh h) = some (.list false ((rows h).map Stp.v)) := by
  cases h
  · exact lo.R0
  · exact lo.R1
theorem bad_none (hn : s.next rows h = some t) (h2 : (isTake t && decide (s.ho = some (!h))) = false) (h3 : isTake t = true → ¬ s.ho = some h) (h4 : isFree t = true → s.ho = some h) : bad rows s h = none := by
  unfold bad; rw [hn]
  cases t <;> first | rfl | skip
  · have a := h3 rfl
    simp only [isTake, Bool.true_and, decide_eq_false_iff_not] at h2
    cases e : s.ho with
    | none => rfl
    | some g => rw [e] at a h2; cases g <;> cases h <;> simp at a h2
  · show (if s.ho = some h then none else some Bad.held) = none
    rw [if_pos (h4 rfl)]
theorem bad_waits (hn : s.next rows h = some t) (h2 : (isTake t && decide (s.ho = some (!h))) = true) : bad rows s h = some .waits := by
  unfold bad; rw [hn]
  cases t <;> first | (simp [isTake] at h2; done) | skip
  simp only [isTake, Bool.true_and, decide_eq_true_eq] at h2
  show (match s.ho with | none => none | some g => some (if g = h then Bad.again else Bad.waits)) = _
  rw [h2]; cases h <;> rfl
theorem bad_again (hn : s.next rows h = some t) (h2 : isTake t = true) (h3 : s.ho = some h) : bad rows s h = some .again := by
  unfold bad; rw [hn]
  cases t <;> first | (simp [isTake] at h2; done) | skip
  show (match s.ho with | none => none | some g => some (if g = h then Bad.again else Bad.waits)) = _
  rw [h3]; cases h <;> rfl
theorem bad_held (hn : s.next rows h = some t) (h2 : isFree t = true) (h3 : ¬ s.ho = some h) : bad rows s h = some .held := by
  unfold bad; rw [hn]
  cases t <;> first | (simp [isFree] at h2; done) | skip
  show (if s.ho = some h then none else some Bad.held) = _
  rw [if_neg h3]
theorem bad_turn (hn : s.next rows h = none) : bad rows s h = some .turn := by unfold bad; rw [hn]
end

/-! heaps that grow beside one dict -/
noncomputable def GrowX (d : Addr) (H H' : AHeap) : Prop := ∀ y o, y ≠ d → H y = some o → H' y = some o
theorem GrowX.trans {d : Addr} {H H' H'' : AHeap} (x : GrowX d H H') (y : GrowX d H' H'') : GrowX d H H'' := fun a o n e => y a o n (x a o n e)
theorem Grow.x {H H' : AHeap} (g : Grow H H') (d : Addr) : GrowX d H H' := fun a o _ e => g a o e
theorem GrowX.non {d a : Addr} {H H' : AHeap} (g : GrowX d H H') (nd : H d = none) (na : H' a = none) : H a = none := by
  cases e : H a with
  | none => rfl
  | some o =>
    have : a ≠ d := by rintro rfl; rw [nd] at e; cases e
    rw [g a o this e] at na; cases na
theorem GrowX.grow {d : Addr} {H H' : AHeap} (g : GrowX d H H') (nd : H d = none) : Grow H H' := fun a o e => g a o (by rintro rfl; rw [nd] at e; cases e) e
noncomputable def Live (l : List Addr) (H : AHeap) : Prop := l.Nodup ∧ ∀ y ∈ l, H y ≠ none
theorem Live.new {l : List Addr} {H H' : AHeap} {a : Addr} {o : AObj} (lv : Live l H) (na : H a = none) (g : Grow H H') (fa : H' a = some o) : Live (a :: l) H' := by
  refine ⟨List.nodup_cons.mpr ⟨fun h => lv.2 a h na, lv.1⟩, fun y hy => ?_⟩
  rcases List.mem_cons.mp hy with rfl | hy
  · rw [fa]; exact fun z => nomatch z
  · cases e : H y with
    | none => exact absurd e (lv.2 y hy)
    | some o => rw [g y o e]; exact fun z => nomatch z
theorem Live.x {l : List Addr} {H H' : AHeap} {d : Addr} {o : AObj} (lv : Live l H) (g : GrowX d H H') (fd : H' d = some o) : Live l H' := by
  refine ⟨lv.1, fun y hy => ?_⟩
  by_cases e : y = d
  · subst e; rw [fd]; exact fun z => nomatch z
  · cases e1 : H y with
    | none => exact absurd e1 (lv.2 y hy)
    | some o => rw [g y o e e1]; exact fun z => nomatch z
theorem sat_x {K : Frag} {H : AHeap} {a C d : Addr} {fs fs' : List (Str × AVal)} {name : Str} {v : AVal} {k : AHeap → Prop} (h1 : H a = some (.inst C d)) (h2 : H d = some (.dict fs)) (h3 : storeOk K C name = true) (h4 : fs.length < 100) (e : putF name v fs = fs')
    (h : ∀ H', GrowX d H H' → H' d = some (.dict fs') → k H') : satA K (.ref a) name v H k :=
  sat_of h1 h2 h3 h4 (h _ (fun y o n z => hs_ne n z) (by rw [e]; exact hs_same))

theorem gv_some {v : AVal} {k : AVal → Prop} : gvA (some v) k = k v := rfl
theorem ct0 : ((0 : Nat) : Int) = 0 := rfl
theorem ct1 : ((1 : Nat) : Int) = 1 := rfl
theorem ct2 : ((2 : Nat) : Int) = 2 := rfl
theorem ct3 : ((3 : Nat) : Int) = 3 := rfl
/-! handlers -/
noncomputable def hdK (K : Frag) (g : Option AVal) (C : Addr) (A B : Prop) : Prop := match g with
  | some (.val (.ref D)) => (match exmOne K (.ref C) (.ref D) with
    | some true => A
    | some false => B
    | none => False)
  | _ => False
theorem hd_fact {K : Frag} {x : Str} {C D : Addr} {A B : Prop} (h1 : gval K x = some (.val (.ref D))) (h2 : exmOne K (.ref C) (.ref D) = some true) : hdK K (gval K x) C A B = A := by unfold hdK; rw [h1]; dsimp only; rw [h2]
theorem hd_miss {K : Frag} {x : Str} {C D : Addr} {A B : Prop} (h1 : gval K x = some (.val (.ref D))) (h2 : exmOne K (.ref C) (.ref D) = some false) : hdK K (gval K x) C A B = B := by unfold hdK; rw [h1]; dsimp only; rw [h2]
noncomputable def noE : PS := fun _ _ _ => False
noncomputable def clrS (Q : PF) : PF := fun fl _ H1 => Q fl (env []) H1
section
variable {K : Frag} {Φ : Bool → CallP} {σ : Loc} {H : AHeap} {Q : PF} {E : PS} {C : Addr} {x n : Str} {p p2 : Pos} {b : Stmt} {bs : List Stmt} {rest : List ExceptHandler}
theorem q_hd0 : hdS K Φ [] Q E C σ H = E C σ H := rfl
theorem q_hdn : hdS K Φ (.ExceptHandler (some (.Name x p)) none (b :: bs) p2 :: rest) Q E C σ H = (σ x = none ∧ hdK K (gval K x) C (exs K Φ false (b :: bs) σ H Q noE) (hdS K Φ rest Q E C σ H)) := rfl
theorem q_hds : hdS K Φ (.ExceptHandler (some (.Name x p)) (some n) (b :: bs) p2 :: rest) Q E C σ H = (σ x = none ∧ hdK K (gval K x) C (exs K Φ false (b :: bs) (upd σ n (.exc C)) H (clrS Q) noE) (hdS K Φ rest Q E C σ H)) := rfl
theorem q_clr {fl : AFlow} : clrS Q fl σ H = Q fl (env []) H := rfl
end

/-! the law's own standing -/
structure SA where
  S : Addr
  B : Addr
  N : Addr
  P : Addr
  RR : Addr
  R : Bool → Addr
noncomputable def SA.mut (l : SA) : List Addr := [l.S, l.B, l.N, l.P]
structure StandAt (H : AHeap) (l : SA) (rows : Bool → List Stp) (s : St) : Prop where
  S : H l.S = some (.list false [.ref l.B, .ref l.N, .ref l.P, hoV s.ho, .ref l.RR])
  B : H l.B = some (.list false (s.bx.map .int))
  N : H l.N = some (.list false [.int (s.num false), .int (s.num true)])
  P : H l.P = some (.list false [.int (s.pl false : Nat), .int (s.pl true : Nat)])
  RR : H l.RR = some (.list false [.ref (l.R false), .ref (l.R true)])
  R : ∀ h, H (l.R h) = some (.list false ((rows h).map Stp.v))
  nd : l.mut.Nodup
  oR : l.RR ∉ l.mut
  oX : ∀ h, l.R h ∉ l.mut
section
variable {H : AHeap} {l : SA} {rows : Bool → List Stp} {s : St} {h : Bool} {t : Stp}
theorem StandAt.move {H' : AHeap} {F : List Addr} (st : StandAt H l rows s) (sm : Same F H H') (hf : ∀ x ∈ l.RR :: l.R false :: l.R true :: l.mut, x ∉ F) : StandAt H' l rows s := by
  have k : ∀ x ∈ l.RR :: l.R false :: l.R true :: l.mut, H' x = H x := fun x hx => sm x (hf x hx)
  refine ⟨?_, ?_, ?_, ?_, ?_, fun h => ?_, st.nd, st.oR, st.oX⟩
  · rw [k _ (by simp [SA.mut])]; exact st.S
  · rw [k _ (by simp [SA.mut])]; exact st.B
  · rw [k _ (by simp [SA.mut])]; exact st.N
  · rw [k _ (by simp [SA.mut])]; exact st.P
  · rw [k _ (by simp [SA.mut])]; exact st.RR
  · rw [k _ (by cases h <;> simp [SA.mut])]; exact st.R h
theorem StandAt.grow {H' : AHeap} (st : StandAt H l rows s) (g : Grow H H') : StandAt H' l rows s :=
  ⟨g _ _ st.S, g _ _ st.B, g _ _ st.N, g _ _ st.P, g _ _ st.RR, fun h => g _ _ (st.R h), st.nd, st.oR, st.oX⟩
theorem StandAt.ne (st : StandAt H l rows s) : (l.S ≠ l.B ∧ l.S ≠ l.N ∧ l.S ≠ l.P) ∧ (l.B ≠ l.N ∧ l.B ≠ l.P) ∧ l.N ≠ l.P := by
  have nd := st.nd
  simp only [SA.mut, List.nodup_cons, List.mem_cons, List.not_mem_nil, or_false, not_or, not_false_eq_true, List.nodup_nil, and_true] at nd
  exact ⟨nd.1, nd.2.1, nd.2.2⟩
theorem StandAt.put (st : StandAt H l rows s) {a : Addr} {o : AObj} (ha : a ∈ l.mut) : hset H a o l.RR = H l.RR ∧ ∀ h, hset H a o (l.R h) = H (l.R h) :=
  ⟨hs_ne (fun e => st.oR (e ▸ ha)) rfl, fun h => hs_ne (fun e => st.oX h (e ▸ ha)) rfl⟩
theorem StandAt.setN (st : StandAt H l rows s) (f : Bool → Int) : StandAt (hset H l.N (.list false [.int (f false), .int (f true)])) l rows { s with num := f } := by
  obtain ⟨⟨n1, n2, n3⟩, ⟨n4, n5⟩, n6⟩ := st.ne
  obtain ⟨p1, p2⟩ := st.put (o := .list false [.int (f false), .int (f true)]) (show l.N ∈ l.mut by simp [SA.mut])
  exact ⟨hs_ne n2 st.S, hs_ne n4 st.B, hs_same, hs_ne (Ne.symm n6) st.P, p1.trans st.RR, fun h => (p2 h).trans (st.R h), st.nd, st.oR, st.oX⟩
theorem StandAt.setP (st : StandAt H l rows s) (f : Bool → Nat) : StandAt (hset H l.P (.list false [.int (f false : Nat), .int (f true : Nat)])) l rows { s with pl := f } := by
  obtain ⟨⟨n1, n2, n3⟩, ⟨n4, n5⟩, n6⟩ := st.ne
  obtain ⟨p1, p2⟩ := st.put (o := .list false [.int (f false : Nat), .int (f true : Nat)]) (show l.P ∈ l.mut by simp [SA.mut])
  exact ⟨hs_ne n3 st.S, hs_ne n5 st.B, hs_ne n6 st.N, hs_same, p1.trans st.RR, fun h => (p2 h).trans (st.R h), st.nd, st.oR, st.oX⟩
theorem StandAt.setBx (st : StandAt H l rows s) (f : List Int) : StandAt (hset H l.B (.list false (f.map .int))) l rows { s with bx := f } := by
  obtain ⟨⟨n1, n2, n3⟩, ⟨n4, n5⟩, n6⟩ := st.ne
  obtain ⟨p1, p2⟩ := st.put (o := .list false (f.map .int)) (show l.B ∈ l.mut by simp [SA.mut])
  exact ⟨hs_ne n1 st.S, hs_same, hs_ne (Ne.symm n4) st.N, hs_ne (Ne.symm n5) st.P, p1.trans st.RR, fun h => (p2 h).trans (st.R h), st.nd, st.oR, st.oX⟩
theorem StandAt.setHo (st : StandAt H l rows s) (f : Option Bool) : StandAt (hset H l.S (.list false [.ref l.B, .ref l.N, .ref l.P, hoV f, .ref l.RR])) l rows { s with ho := f } := by
  obtain ⟨⟨n1, n2, n3⟩, ⟨n4, n5⟩, n6⟩ := st.ne
  obtain ⟨p1, p2⟩ := st.put (o := .list false [.ref l.B, .ref l.N, .ref l.P, hoV f, .ref l.RR]) (show l.S ∈ l.mut by simp [SA.mut])
  exact ⟨hs_same, hs_ne (Ne.symm n1) st.B, hs_ne (Ne.symm n2) st.N, hs_ne (Ne.symm n3) st.P, p1.trans st.RR, fun h => (p2 h).trans (st.R h), st.nd, st.oR, st.oX⟩
theorem ho_is {ho : Option Bool} {k : Bool → Prop} (h : k ho.isNone) : cmpK .Is (hoV ho) .none H k := by
  cases ho with
  | none => show cmpK .Is .none .none H k; rw [q_is_n]; exact h
  | some x => show cmpK .Is (.int (hv x)) .none H k; rw [q_is_i]; exact h
noncomputable def canS (rows : Bool → List Stp) (s : St) (h : Bool) : Bool := match s.next rows h with
  | some t => !isTake t || s.ho.isNone
  | none => false
end

theorem boxw {u : Str} (h : inW u [Str.ofString "load", Str.ofString "plus", Str.ofString "store"] = true) (k : Int) : ∃ t : Stp, t.v = .tup [.str u, .int k] ∧ t.at? = some k ∧ t.isGd = false := by
  simp only [inW_cons, inW_nil, Bool.or_false, Bool.or_eq_true, decide_eq_true_eq] at h
  rcases h with rfl | rfl | rfl
  · exact ⟨.load k, rfl, rfl, rfl⟩
  · exact ⟨.plus k, rfl, rfl, rfl⟩
  · exact ⟨.store k, rfl, rfl, rfl⟩
noncomputable def bsel {α : Type} (x y : α) : Bool → α := fun h => if h then y else x
noncomputable def okS (m : Int) (t : Stp) : Prop := ∀ k, t.at? = some k → 0 ≤ k ∧ k < m
theorem okS.non {m : Int} {t : Stp} (h : t.at? = none) : okS m t := fun k hk => by rw [h] at hk; cases hk
theorem okS.som {m k : Int} {t : Stp} (h : t.at? = some k) (h0 : 0 ≤ k) (h1 : k < m) : okS m t := fun k' hk => by rw [h] at hk; cases hk; exact ⟨h0, h1⟩
theorem goS_len (rows : Bool → List Stp) (s : St) (h : Bool) : (goS rows s h).bx.length = s.bx.length := by
  unfold goS
  cases s.next rows h with
  | none => rfl
  | some t => cases t <;> simp [Stp.on, St.adv]
theorem goS_pl {rows : Bool → List Stp} {s : St} {h : Bool} {t : Stp} (hn : s.next rows h = some t) : (goS rows s h).pl = setB s.pl h (s.pl h + 1) := by
  rw [goS_of hn]; cases t <;> rfl
theorem Grow.same {F : List Addr} {H H' H'' : AHeap} (g : Grow H H') (fr : ∀ x ∈ F, H x = none) (sm : Same F H' H'') : Grow H H'' := fun x o e => by
  rw [sm x (fun hx => by rw [fr x hx] at e; cases e)]; exact g x o e

theorem stand_of {W : Wd} {n : Nat} {q : Bool} {E : PE} {H : AHeap} {Q : PV} {B RR : Addr} {rb : Bool} {R : Bool → Addr} {rows : Bool → List Stp} {bx : List Int} (fB : H B = some (.list rb (bx.map .int))) (fRR : H RR = some (.list false [.ref (R false), .ref (R true)])) (fX : ∀ h, H (R h) = some (.list false ((rows h).map Stp.v)))
    (h : ∀ (l : SA) H', l.RR = RR → l.R = R → Grow H H' → (∀ x ∈ l.mut, H x = none ∧ H' x ≠ none) → StandAt H' l rows (St.new bx) → Q (.ref l.S) H') :
    CallOk W n q (.type "list") [.ref B] H (fun v1 H1 => newL H1 [.int 0, .int 0] fun v2 H2 => newL H2 [.int 0, .int 0] fun v3 H3 => newL H3 [v1, v2, v3, .none, .ref RR] Q) E := by
  refine ty_list fB (new_of fun sB H9 g9 n9 _ f9 => ?_)
  refine new_of fun sN H10 g10 n10 _ f10 => ?_
  refine new_of fun sP H11 g11 n11 _ f11 => ?_
  refine new_of fun sS H12 g12 n12 _ f12 => ?_
  have g8c := ((g9.trans g10).trans g11).trans g12
  have lv : Live [sS, sP, sN, sB] H12 := (((Live.new ⟨List.nodup_nil, fun y hy => nomatch hy⟩ n9 g9 f9).new n10 g10 f10).new n11 g11 f11).new n12 g12 f12
  have fm : ∀ x ∈ [sS, sB, sN, sP], H x = none := by
    intro x hx
    simp only [List.mem_cons, List.not_mem_nil, or_false] at hx
    rcases hx with rfl | rfl | rfl | rfl
    · exact ((g9.trans g10).trans g11).non n12
    · exact n9
    · exact g9.non n10
    · exact (g9.trans g10).non n11
  have out : ∀ x o, H x = some o → x ∉ [sS, sB, sN, sP] := fun x o e hx => by rw [fm x hx] at e; cases e
  refine h ⟨sS, sB, sN, sP, RR, R⟩ H12 rfl rfl g8c (fun x hx => ⟨fm x hx, lv.2 x ?_⟩) ?_
  · simp only [SA.mut, List.mem_cons, List.not_mem_nil, or_false] at hx ⊢
    rcases hx with z | z | z | z <;> simp [z]
  refine ⟨f12, ((g10.trans g11).trans g12) _ _ f9, (g11.trans g12) _ _ f10, g12 _ _ f11, g8c _ _ fRR, fun h => g8c _ _ (fX h), ?_, out _ _ fRR, fun h => out _ _ (fX h)⟩
  have := lv.1
  simp only [SA.mut, List.nodup_cons, List.mem_cons, List.not_mem_nil, or_false, not_or, not_false_eq_true, List.nodup_nil, and_true] at this ⊢
  obtain ⟨⟨a1, a2, a3⟩, ⟨a4, a5⟩, a6⟩ := this
  exact ⟨⟨a3, a2, a1⟩, ⟨Ne.symm a6, Ne.symm a5⟩, Ne.symm a4⟩
end Mine

/-! Rows whose takes and frees go by turns; runs, their steps, neighbours that change places. -/
set_option maxRecDepth 100000
set_option linter.all false
namespace Mine
open PySem PySem.Calls PyProof.Rows PySem.W

noncomputable def altS : Bool → List Stp → Bool
  | _, [] => true
  | h, .take :: r => !h && altS true r
  | h, .free :: r => h && altS false r
  | h, .load _ :: r => altS h r
  | h, .plus _ :: r => altS h r
  | h, .store _ :: r => altS h r
  | h, .add _ :: r => altS h r
  | h, .twice :: r => altS h r
noncomputable def gdOf (hd : Bool) : Stp := if hd then .free else .take
noncomputable def heldBy (hd : Bool) (t : Stp) : Bool := if t.isGd then isTake t else hd
theorem alt_cons {hd : Bool} {t : Stp} (ht : t.isGd = true → t = gdOf hd) (r : List Stp) : altS hd (t :: r) = altS (heldBy hd t) r := by
  cases t with
  | take => have := ht rfl; cases hd <;> first | rfl | (cases this)
  | free => have := ht rfl; cases hd <;> first | rfl | (cases this)
  | _ => rfl
theorem alt_snoc {a hd : Bool} {t : Stp} {row : List Stp} (h : ∀ r, altS a (row ++ r) = altS hd r) (ht : t.isGd = true → t = gdOf hd) : ∀ r, altS a ((row ++ [t]) ++ r) = altS (heldBy hd t) r := fun r => by
  rw [List.append_assoc, h, List.singleton_append, alt_cons ht]
noncomputable def altOk (rows : Bool → List Stp) (s : St) : Prop := ∀ h, altS (decide (s.ho = some h)) ((rows h).drop (s.pl h)) = true
section
variable {rows : Bool → List Stp} {s : St} {h : Bool} {t : Stp}
theorem drop_next (hn : s.next rows h = some t) : (rows h).drop (s.pl h) = t :: (rows h).drop (s.pl h + 1) := by
  obtain ⟨hlt, he⟩ := List.getElem?_eq_some_iff.mp (show (rows h)[s.pl h]? = some t from hn)
  rw [List.drop_eq_getElem_cons hlt, he]
theorem alt_can (ha : altOk rows s) (hc : canS rows s h = true) : bad rows s h = none := by
  unfold canS at hc
  cases hn : s.next rows h with
  | none => rw [hn] at hc; cases hc
  | some t =>
    rw [hn] at hc
    have := ha h
    rw [drop_next hn] at this
    cases t with
    | take =>
      have ho : s.ho = none := by simpa [isTake] using hc
      unfold bad; rw [hn]; show (match s.ho with | none => none | some g => _) = none; rw [ho]
    | free =>
      have ho : s.ho = some h := by
        have : (decide (s.ho = some h) && altS false ((rows h).drop (s.pl h + 1))) = true := this
        simp only [Bool.and_eq_true, decide_eq_true_eq] at this
        exact this.1
      unfold bad; rw [hn]; show (if s.ho = some h then none else some Bad.held) = none; rw [if_pos ho]
    | _ => unfold bad; rw [hn]
theorem alt_go (ha : altOk rows s) (hn : s.next rows h = some t) (hb : bad rows s h = none) : altOk rows (goS rows s h) := by
  intro g
  have h1 := ha h
  have h2 := ha g
  rw [drop_next hn] at h1
  rw [goS_of hn]
  unfold bad at hb
  rw [hn] at hb
  by_cases hg : g = h
  · subst hg
    cases t with
    | take =>
      show altS (decide (some g = some g)) ((rows g).drop (setB s.pl g (s.pl g + 1) g)) = true
      rw [setB_same, decide_eq_true rfl]
      have : (!decide (s.ho = some g) && altS true ((rows g).drop (s.pl g + 1))) = true := h1
      simp only [Bool.and_eq_true] at this
      exact this.2
    | free =>
      show altS (decide (none = some g)) ((rows g).drop (setB s.pl g (s.pl g + 1) g)) = true
      rw [setB_same]
      have : (decide (s.ho = some g) && altS false ((rows g).drop (s.pl g + 1))) = true := h1
      simp only [Bool.and_eq_true] at this
      exact this.2
    | _ =>
      show altS (decide (s.ho = some g)) ((rows g).drop (setB s.pl g (s.pl g + 1) g)) = true
      rw [setB_same]; exact h1
  · have hp : ∀ n, setB s.pl h n g = s.pl g := fun n => by unfold setB; rw [if_neg hg]
    cases t with
    | take =>
      have ho : s.ho = none := by
        cases e : s.ho with
        | none => rfl
        | some x => rw [e] at hb; cases hb
      show altS (decide (some h = some g)) ((rows g).drop (setB s.pl h (s.pl h + 1) g)) = true
      rw [hp, decide_eq_false (fun z => hg (Option.some.inj z).symm)]
      rw [ho] at h2; exact h2
    | free =>
      have ho : s.ho = some h := Classical.byContradiction fun z => by
        have : (if s.ho = some h then none else some Bad.held) = none := hb
        rw [if_neg z] at this; cases this
      show altS (decide (none = some g)) ((rows g).drop (setB s.pl h (s.pl h + 1) g)) = true
      rw [hp]
      rw [ho, decide_eq_false (fun z => hg (Option.some.inj z).symm)] at h2; exact h2
    | _ =>
      show altS (decide (s.ho = some g)) ((rows g).drop (setB s.pl h (s.pl h + 1) g)) = true
      rw [hp]; exact h2
theorem alt_new {bx : List Int} (h : ∀ h, altS false (rows h) = true) : altOk rows (St.new bx) := fun g => by
  show altS (decide (none = some g)) ((rows g).drop 0) = true
  rw [List.drop_zero]; exact h g
end

section
variable {rows : Bool → List Stp}
theorem run_snoc {h : Bool} {s0 s : St} {ord : List Bool} (hr : runS rows ord s0 = (s, none)) (hb : bad rows s h = none) : runS rows (ord ++ [h]) s0 = (goS rows s h, none) := by
  rw [runS_append, hr]; show runS rows [h] s = _; unfold runS; rw [hb]; rfl
theorem bad_next {s : St} {h : Bool} (hb : bad rows s h = none) : ∃ t, s.next rows h = some t := by
  unfold bad at hb
  cases e : s.next rows h with
  | none => rw [e] at hb; cases hb
  | some t => exact ⟨t, rfl⟩
end
theorem cut_map {α β : Type} {f : α → β} {xs : List α} {lo hi : Option Int} : cutL lo hi (xs.map f) = (cutL lo hi xs).map f := by
  unfold cutL; cases hi <;> cases lo <;> simp [List.map_drop, List.map_take]
theorem okS.ok {m : Int} {t : Stp} (h : okS m t) : t.ok := fun k hk => (h k hk).1
end Mine

/-! Weaving: the plain part. -/
set_option maxRecDepth 100000
set_option linter.all false
namespace Mine
open PySem PySem.Calls PyProof.Rows PySem.W

noncomputable def goesS (rows : Bool → List Stp) (s : St) (h : Bool) : Bool := match s.next rows h with
  | some t => !(isTake t && decide (s.ho = some (!h)))
  | none => false
noncomputable def overS (rows : Bool → List Stp) (s : St) (h : Bool) : Bool := decide ((rows h).length ≤ s.pl h)
noncomputable def remS (rows : Bool → List Stp) (s : St) (h : Bool) : Nat := (rows h).length - s.pl h
noncomputable abbrev WR := St × List Bool × Option Bad
noncomputable def totS (rows : Bool → List Stp) (s : St) : Nat := remS rows s false + remS rows s true
section
variable {rows : Bool → List Stp} {s : St} {h : Bool} {o : List Bool}
theorem goes_eq : goesS rows s h = (!overS rows s h && !waitsS rows s h) := by
  unfold goesS overS waitsS
  cases e : s.next rows h with
  | none =>
    have : (rows h).length ≤ s.pl h := List.getElem?_eq_none_iff.mp e
    simp [this]
  | some t =>
    have : ¬ (rows h).length ≤ s.pl h := Nat.not_le.mpr (List.getElem?_eq_some_iff.mp (show (rows h)[s.pl h]? = some t from e)).1
    simp [this]
theorem goes_next (hg : goesS rows s h = true) : ∃ t, s.next rows h = some t := by
  unfold goesS at hg
  cases e : s.next rows h with
  | none => rw [e] at hg; cases hg
  | some t => exact ⟨t, rfl⟩
theorem next_rem {t : Stp} (hn : s.next rows h = some t) : remS rows s h = remS rows (goS rows s h) h + 1 := by
  have := (List.getElem?_eq_some_iff.mp (show (rows h)[s.pl h]? = some t from hn)).1
  unfold remS; rw [goS_pl hn, setB_same]; omega
theorem next_rem' {t : Stp} (hn : s.next rows h = some t) : remS rows (goS rows s h) (!h) = remS rows s (!h) := by
  unfold remS; rw [goS_pl hn, setB_other]
theorem tot_go {t : Stp} (hn : s.next rows h = some t) : totS rows s = totS rows (goS rows s h) + 1 := by
  have h1 := next_rem hn
  have h2 := next_rem' hn
  unfold totS
  cases h <;> simp only [Bool.not_false, Bool.not_true] at h2 <;> omega
theorem bad_goes (hb : bad rows s h = none) : goesS rows s h = true := by
  unfold goesS
  unfold bad at hb
  cases e : s.next rows h with
  | none => rw [e] at hb; cases hb
  | some t =>
    rw [e] at hb
    cases t <;> first | rfl | skip
    cases e1 : s.ho with
    | none => rfl
    | some g => rw [e1] at hb; cases hb
theorem nogoes_bad (hg : goesS rows s h = false) : bad rows s h = some .turn ∧ overS rows s h = true ∨ bad rows s h = some .waits ∧ overS rows s h = false := by
  rw [goes_eq] at hg
  cases e : s.next rows h with
  | none =>
    have : (rows h).length ≤ s.pl h := List.getElem?_eq_none_iff.mp e
    exact .inl ⟨bad_turn e, by unfold overS; simp [this]⟩
  | some t =>
    have hn : ¬ (rows h).length ≤ s.pl h := Nat.not_le.mpr (List.getElem?_eq_some_iff.mp (show (rows h)[s.pl h]? = some t from e)).1
    have ho : overS rows s h = false := by unfold overS; simp [hn]
    rw [ho] at hg
    have hw : waitsS rows s h = true := by simpa using hg
    rw [waits_some e] at hw
    exact .inr ⟨bad_waits e hw, ho⟩
end
theorem LoomAt.live {C : Addr} {H : AHeap} {l : LA} {rows : Bool → List Stp} {s : St} (lo : LoomAt C H l rows s) : ∀ x ∈ l.all, H x ≠ none := by
  intro x hx
  simp only [LA.all, List.mem_cons, List.not_mem_nil, or_false] at hx
  rcases hx with rfl | rfl | rfl | rfl | rfl | rfl | rfl | rfl
  · rw [lo.P]; exact fun z => nomatch z
  · rw [lo.N]; exact fun z => nomatch z
  · rw [lo.B]; exact fun z => nomatch z
  · rw [lo.R]; exact fun z => nomatch z
  · rw [lo.R1]; exact fun z => nomatch z
  · rw [lo.R0]; exact fun z => nomatch z
  · rw [lo.L]; exact fun z => nomatch z
  · rw [lo.d]; exact fun z => nomatch z
theorem q_sub2 {H : AHeap} {x y z : AVal} {r : List AVal} {Q : PV} : subA (.tup (x :: y :: z :: r)) (.int 2) H Q = Q z H := by
  have e : idxA 2 (x :: y :: z :: r).length = some 2 := by
    unfold idxA; rw [if_pos (by decide), if_pos (by simp; omega)]; rfl
  show (match idxA 2 (x :: y :: z :: r).length with | some j => (match (x :: y :: z :: r)[j]? with | some v => Q v H | none => False) | none => False) = _
  rw [e]; rfl
end Mine

/-! One hand behind the other: the plain part of laws 09 and 11. -/
set_option maxRecDepth 100000
set_option linter.all false
namespace Mine
open PySem PySem.Calls PyProof.Rows PySem.W

noncomputable def altE : Bool → List Stp → Bool
  | h, [] => !h
  | h, .take :: r => !h && altE true r
  | h, .free :: r => h && altE false r
  | h, .load _ :: r => altE h r
  | h, .plus _ :: r => altE h r
  | h, .store _ :: r => altE h r
  | h, .add _ :: r => altE h r
  | h, .twice :: r => altE h r
theorem altE_S : ∀ (r : List Stp) (h : Bool), altE h r = true → altS h r = true
  | [], h, _ => rfl
  | t :: r, h, e => by
    cases t with
    | take => simp only [altE, altS, Bool.and_eq_true] at e ⊢; exact ⟨e.1, altE_S r _ e.2⟩
    | free => simp only [altE, altS, Bool.and_eq_true] at e ⊢; exact ⟨e.1, altE_S r _ e.2⟩
    | load k => exact altE_S r h e
    | plus k => exact altE_S r h e
    | store k => exact altE_S r h e
    | add k => exact altE_S r h e
    | twice => exact altE_S r h e
noncomputable def altOkE (rows : Bool → List Stp) (s : St) : Prop := ∀ h, altE (decide (s.ho = some h)) ((rows h).drop (s.pl h)) = true
section
variable {rows : Bool → List Stp} {s : St} {h : Bool} {t : Stp}
theorem altOkE.ok (ha : altOkE rows s) : altOk rows s := fun h => altE_S _ _ (ha h)
end

section
variable {rows : Bool → List Stp}
theorem run_pl : ∀ (ord : List Bool) (s s' : St), runS rows ord s = (s', none) → ∀ h, s'.pl h = s.pl h + ord.count h
  | [], s, s', e, h => by cases e; rfl
  | g :: r, s, s', e, h => by
    unfold runS at e
    split at e
    · cases e
    · rename_i hb
      obtain ⟨t, ht⟩ := bad_next hb
      rw [run_pl r _ _ e h, goS_pl ht]
      unfold setB
      by_cases hg : h = g
      · subst hg; rw [if_pos rfl, List.count_cons_self]; omega
      · rw [if_neg hg, List.count_cons_of_ne (fun z => hg z.symm)]
noncomputable def serO (rows : Bool → List Stp) (lead : Bool) : List Bool := List.replicate (rows lead).length lead ++ List.replicate (rows (!lead)).length (!lead)
theorem serO_count (lead h : Bool) : (serO rows lead).count h = (rows h).length := by
  unfold serO
  rw [List.count_append]
  cases lead <;> cases h <;> simp [List.count_replicate]
end
theorem StandAt.live {H : AHeap} {l : SA} {rows : Bool → List Stp} {s : St} (st : StandAt H l rows s) : ∀ x ∈ l.mut, H x ≠ none := by
  intro x hx
  simp only [SA.mut, List.mem_cons, List.not_mem_nil, or_false] at hx
  rcases hx with rfl | rfl | rfl | rfl
  · rw [st.S]; exact fun z => nomatch z
  · rw [st.B]; exact fun z => nomatch z
  · rw [st.N]; exact fun z => nomatch z
  · rw [st.P]; exact fun z => nomatch z
end Mine

/-! Law 11: which hand leads. -/
set_option maxRecDepth 100000
set_option linter.all false
namespace Mine
/-! Law 11: which hand leads. -/
section
variable {rows : Bool → List Stp}
noncomputable def WvOk (rows : Bool → List Stp) (s : St) (o : List Bool) (r : WR) : Prop := ∃ s1 o1, r = (s1, o ++ o1, none) ∧ runS rows o1 s = (s1, none) ∧ altOkE rows s1
theorem WvOk.here {s : St} {o : List Bool} (ha : altOkE rows s) : WvOk rows s o (s, o, none) := ⟨s, [], by rw [List.append_nil], rfl, ha⟩
theorem WvOk.cons {s : St} {o : List Bool} {r : WR} {h : Bool} (hb : bad rows s h = none) (k : WvOk rows (goS rows s h) (o ++ [h]) r) : WvOk rows s o r := by
  obtain ⟨s1, o1, e, hr, ha⟩ := k
  refine ⟨s1, h :: o1, by rw [e, List.append_assoc]; rfl, ?_, ha⟩
  unfold runS; rw [hb]; exact hr
theorem WvOk.then {s s1 : St} {o o1 : List Bool} {r : WR} (hr : runS rows o1 s = (s1, none)) (k : WvOk rows s1 (o ++ o1) r) : WvOk rows s o r := by
  obtain ⟨s2, o2, e, hr2, ha⟩ := k
  exact ⟨s2, o1 ++ o2, by rw [e, List.append_assoc], by rw [runS_append, hr]; exact hr2, ha⟩
theorem run_le : ∀ (ord : List Bool) (s s' : St), runS rows ord s = (s', none) → (∀ h, s.pl h ≤ (rows h).length) → ∀ h, s'.pl h ≤ (rows h).length
  | [], s, s', e, hl, h => by cases e; exact hl h
  | g :: r, s, s', e, hl, h => by
    unfold runS at e
    split at e
    · cases e
    · rename_i hb
      obtain ⟨t, ht⟩ := bad_next hb
      refine run_le r _ _ e (fun x => ?_) h
      rw [goS_pl ht]
      unfold setB
      split
      · rename_i hx
        subst hx
        exact (List.getElem?_eq_some_iff.mp (show (rows x)[s.pl x]? = some t from ht)).1
      · exact hl x
end
theorem bad_can {rows : Bool → List Stp} {s : St} {h : Bool} (hb : bad rows s h = none) : canS rows s h = true := by
  unfold bad at hb
  unfold canS
  cases e : s.next rows h with
  | none => rw [e] at hb; cases hb
  | some t =>
    rw [e] at hb
    cases t <;> first | rfl | skip
    cases e1 : s.ho with
    | none => rfl
    | some g => rw [e1] at hb; cases hb
end Mine

/-! The built-in all, over a list of Trues; heaps without a part. -/
set_option maxRecDepth 100000
set_option linter.all false
namespace Mine
open PySem PySem.Calls PyProof.Rows PySem.W

noncomputable def hout (F : List Addr) (H : AHeap) : AHeap := fun x => if x ∈ F then none else H x
section
variable {F F' : List Addr} {H H' : AHeap}
theorem hout_of {x : Addr} {o : AObj} (h : hout F H x = some o) : x ∉ F ∧ H x = some o := by
  unfold hout at h
  split at h
  · cases h
  · rename_i hx; exact ⟨hx, h⟩
theorem hout_in {x : Addr} {o : AObj} (hx : x ∉ F) (h : H x = some o) : hout F H x = some o := by unfold hout; rw [if_neg hx]; exact h
theorem hout_le : Grow (hout F H) H := fun x o e => (hout_of e).2
theorem hout_same (sm : Same F H H') : hout F H' = hout F H := by
  funext x; unfold hout
  by_cases hx : x ∈ F
  · rw [if_pos hx, if_pos hx]
  · rw [if_neg hx, if_neg hx, sm x hx]
theorem hout_up (g : Grow H H') : Grow (hout F H) (hout F H') := fun x o e => hout_in (hout_of e).1 (g _ _ (hout_of e).2)
theorem same_out : Same F H (hout F H) := fun x hx => by unfold hout; rw [if_neg hx]
end
end Mine

/-! The search: the plain part, and how it lies on the heap. -/
set_option maxRecDepth 100000
set_option linter.all false
namespace Mine
open PySem PySem.Calls PyProof.Rows PySem.W

theorem q_atup {K : Frag} {Φ : Bool → CallP} {q : Bool} {a c : AVal} {x y : Str} {px py p : Pos} {k} {Q : Loc → AHeap → Prop} {σ : Loc} {H : AHeap} {E : PE} : asg K Φ q (.tup [a, c]) (.Tuple [.Name x px, .Name y py] k p) σ H Q E = (q = true ∧ Q (upd (upd σ x a) y c) H) := propext Iff.rfl

section
variable {rows : Bool → List Stp} {s : St} {h : Bool} {t : Stp}
theorem alt_goes (ha : altOk rows s) (hg : goesS rows s h = true) : bad rows s h = none := by
  cases hb : bad rows s h with
  | none => rfl
  | some e =>
    exfalso
    obtain ⟨t, ht⟩ := goes_next hg
    have a1 := ha h
    rw [drop_next ht] at a1
    unfold goesS at hg
    unfold bad at hb
    rw [ht] at hg hb
    cases t with
    | take =>
      have a1 : (!decide (s.ho = some h) && altS true ((rows h).drop (s.pl h + 1))) = true := a1
      simp only [Bool.and_eq_true, Bool.not_eq_true', decide_eq_false_iff_not] at a1
      cases ho : s.ho with
      | none => rw [ho] at hb; cases hb
      | some g =>
        rw [ho] at a1 hg
        cases g <;> cases h <;> first | exact absurd rfl a1.1 | (simp [isTake] at hg; done)
    | free =>
      have a1 : (decide (s.ho = some h) && altS false ((rows h).drop (s.pl h + 1))) = true := a1
      simp only [Bool.and_eq_true, decide_eq_true_eq] at a1
      have hb : (if s.ho = some h then none else some Bad.held) = some e := hb
      rw [if_pos a1.1] at hb; cases hb
    | _ => cases hb
theorem alt_bad {e : Bad} (ha : altOk rows s) (hn : s.next rows h = some t) (hb : bad rows s h = some e) : e = .waits := by
  cases hg : goesS rows s h with
  | true => rw [alt_goes ha hg] at hb; cases hb
  | false =>
    rcases nogoes_bad hg with ⟨_, e2⟩ | ⟨e1, _⟩
    · have := (List.getElem?_eq_some_iff.mp (show (rows h)[s.pl h]? = some t from hn)).1
      unfold overS at e2
      simp only [decide_eq_true_eq] at e2
      omega
    · rw [e1] at hb; cases hb; rfl
theorem alt_run_err : ∀ (ord : List Bool) (s s' : St) (e : Bad), altOk rows s → (∀ h, s.pl h + ord.count h ≤ (rows h).length) → runS rows ord s = (s', some e) → e = .waits
  | [], s, s', e, _, _, hr => by cases hr
  | g :: r, s, s', e, ha, hc, hr => by
    have hg := hc g
    rw [List.count_cons_self] at hg
    obtain ⟨t, ht⟩ : ∃ t, s.next rows g = some t := ⟨_, List.getElem?_eq_getElem (show s.pl g < (rows g).length by omega)⟩
    unfold runS at hr
    cases hb : bad rows s g with
    | some x => rw [hb] at hr; cases hr; exact alt_bad ha ht hb
    | none =>
      rw [hb] at hr
      refine alt_run_err r _ s' e (alt_go ha ht hb) (fun x => ?_) hr
      rw [goS_pl ht]; unfold setB
      by_cases hx : x = g
      · subst hx; rw [if_pos rfl]; omega
      · rw [if_neg hx]; have := hc x; rw [List.count_cons_of_ne (fun z => hx z.symm)] at this; exact this
theorem ser_err {bx : List Int} {lead : Bool} (ha : ∀ h, altS false (rows h) = true) : ∀ s' e, runS rows (serO rows lead) (St.new bx) = (s', some e) → e = .waits := fun s' e hr =>
  alt_run_err _ _ _ _ (alt_new ha) (fun h => by rw [serO_count]; exact Nat.le_of_eq (Nat.zero_add _)) hr
end

noncomputable def endS (rows : Bool → List Stp) (bx : List Int) (ord : List Bool) : Option (List Int × (Bool → Int)) := match runS rows ord (St.new bx) with
  | (s, none) => some (s.bx, s.num)
  | _ => none
noncomputable def kq (k : Option (List Int × (Bool → Int))) (s : St) : Bool := match k with
  | none => false
  | some (b, f) => decide (b = s.bx) && (decide (f false = s.num false) && decide (f true = s.num true))
noncomputable def inK (rows : Bool → List Stp) (bx : List Int) (s : St) : Bool := kq (endS rows bx (serO rows false)) s || kq (endS rows bx (serO rows true)) s
noncomputable def KAt (H : AHeap) (v : AVal) (k : Option (List Int × (Bool → Int))) : Prop := match k with
  | none => v = .none
  | some (b, f) => ∃ B N, v = .tup [.ref B, .ref N] ∧ H B = some (.list false (b.map .int)) ∧ H N = some (.list false [.int (f false), .int (f true)])
theorem KAt.grow {H H' : AHeap} {v : AVal} {k : Option (List Int × (Bool → Int))} (x : KAt H v k) (g : Grow H H') : KAt H' v k := by
  cases k with
  | none => exact x
  | some p => obtain ⟨B, N, e, h1, h2⟩ := x; exact ⟨B, N, e, g _ _ h1, g _ _ h2⟩
theorem eqv_ints : ∀ (a c : List Int), PyData.eqvAll (a.map .int) (c.map .int) = decide (a = c)
  | [], [] => by simp [PyData.eqvAll]
  | [], _ :: _ => by simp [PyData.eqvAll]
  | _ :: _, [] => by simp [PyData.eqvAll]
  | x :: a, y :: c => by
    rw [List.map_cons, List.map_cons, PyData.eqvAll, eqv_ints a c]
    simp only [PyData.eqv]
    by_cases h1 : x = y
    · subst h1
      by_cases h2 : a = c
      · subst h2; simp
      · simp [h2]
    · simp [h1]
noncomputable def endD (b : List Int) (f : Bool → Int) : PyData := .tuple [.list (b.map .int), .list ([f false, f true].map .int)]
theorem dat_end {H : AHeap} {B N : Addr} {r1 r2 : Bool} {b : List Int} {f : Bool → Int} (hB : H B = some (.list r1 (b.map .int))) (hN : H N = some (.list r2 [.int (f false), .int (f true)])) : dat H 8 (.tup [.ref B, .ref N]) = some (endD b f) := by
  have d1 : dat H 7 (.ref B) = some (.list (b.map .int)) := by unfold dat; rw [hB]; show (datL (dat H 6) _).map _ = _; rw [dat_ints]; rfl
  have d2 : dat H 7 (.ref N) = some (.list ([f false, f true].map .int)) := by unfold dat; rw [hN]; show (datL (dat H 6) ([f false, f true].map .int)).map _ = _; rw [dat_ints]; rfl
  unfold dat
  show (datL (dat H 7) [.ref B, .ref N]).map _ = _
  unfold datL; rw [d1]; unfold datL; rw [d2]; rfl
theorem eqv_end (b : List Int) (f : Bool → Int) (s : St) : PyData.eqv (endD b f) (endD s.bx s.num) = kq (some (b, f)) s := by
  unfold endD kq
  simp only [PyData.eqv, PyData.eqvAll, eqv_ints, Bool.and_true]
  congr 1
  by_cases h1 : f false = s.num false
  · by_cases h2 : f true = s.num true
    · simp [h1, h2]
    · simp [h1, h2]
  · simp [h1]
theorem KAt.dat {H : AHeap} {v : AVal} {k : Option (List Int × (Bool → Int))} (x : KAt H v k) (s : St) : ∃ d, Mine.dat H 8 v = some d ∧ PyData.eqv d (endD s.bx s.num) = kq k s := by
  cases k with
  | none =>
    have x : v = .none := x
    subst x
    exact ⟨.none, rfl, by simp [endD, PyData.eqv, kq]⟩
  | some p =>
    obtain ⟨B, N, rfl, h1, h2⟩ := x
    exact ⟨_, dat_end h1 h2, eqv_end _ _ _⟩
theorem known_in {H : AHeap} {B N KN : Addr} {r0 r1 r2 : Bool} {v0 v1 : AVal} {k0 k1 : Option (List Int × (Bool → Int))} {s : St} {k : Bool → Prop} (hB : H B = some (.list r1 (s.bx.map .int))) (hN : H N = some (.list r2 [.int (s.num false), .int (s.num true)]))
    (hK : H KN = some (.list r0 [v0, v1])) (x0 : KAt H v0 k0) (x1 : KAt H v1 k1) : cmpK .NotIn (.tup [.ref B, .ref N]) (.ref KN) H k = k (!(kq k0 s || kq k1 s)) := by
  obtain ⟨d0, e0, q0⟩ := x0.dat s
  obtain ⟨d1, e1, q1⟩ := x1.dat s
  have e : inA H (.tup [.ref B, .ref N]) (.ref KN) = some (kq k0 s || kq k1 s) := by
    unfold inA
    rw [seq_ref hK]
    show anyA H (.tup [.ref B, .ref N]) [v0, v1] = _
    unfold anyA
    rw [dat_end hB hN]
    have : datL (Mine.dat H 8) [v0, v1] = some [d0, d1] := by
      unfold datL; rw [e0]; unfold datL; rw [e1]; rfl
    rw [this]
    simp only [List.any_cons, List.any_nil, Bool.or_false, q0, q1]
  unfold cmpK
  rw [show cmpA .NotIn (.tup [.ref B, .ref N]) (.ref KN) H = some (!(kq k0 s || kq k1 s)) from congrArg (Option.map (!·)) e]

structure It where
  l : LA
  O : Addr
  s : St
  ord : List Bool
noncomputable def It.v (x : It) : AVal := .tup [.ref x.l.L, .ref x.O]
structure ItOk (C : Addr) (rows : Bool → List Stp) (bx : List Int) (G : AHeap) (x : It) : Prop where
  lo : LoomAt C G x.l rows x.s
  O : G x.O = some (.list false (x.ord.map hvV))
  run : runS rows x.ord (St.new bx) = (x.s, none)
  bx : x.s.bx.length = bx.length
  len : x.ord.length + totS rows x.s ≤ 10
  alt : altOk rows x.s
  le : ∀ h, x.s.pl h ≤ (rows h).length
theorem ItOk.grow {C : Addr} {rows : Bool → List Stp} {bx : List Int} {G G' : AHeap} {x : It} (o : ItOk C rows bx G x) (g : Grow G G') : ItOk C rows bx G' x := ⟨o.lo.grow g, g _ _ o.O, o.run, o.bx, o.len, o.alt, o.le⟩
noncomputable def wgt (rows : Bool → List Stp) : List It → Nat
  | [] => 0
  | x :: r => 3 ^ totS rows x.s + wgt rows r
theorem wgt_append (rows : Bool → List Stp) : ∀ (a c : List It), wgt rows (a ++ c) = wgt rows a + wgt rows c
  | [], c => by simp [wgt]
  | x :: a, c => by simp only [List.cons_append, wgt, wgt_append rows a c]; omega
theorem wgt_len (rows : Bool → List Stp) : ∀ (a : List It), a.length ≤ wgt rows a
  | [] => Nat.le_refl _
  | x :: a => by
    have := wgt_len rows a
    have h : 0 < 3 ^ totS rows x.s := Nat.pow_pos (by decide)
    simp only [List.length_cons, wgt]; omega
theorem wgt_go {rows : Bool → List Stp} (s : St) : ∃ w, 2 * w < 3 ^ totS rows s ∧ ∀ h, goesS rows s h = true → 3 ^ totS rows (goS rows s h) = w := by
  cases e : totS rows s with
  | zero =>
    refine ⟨0, by decide, fun h hg => ?_⟩
    obtain ⟨t, ht⟩ := goes_next hg
    have := tot_go ht
    omega
  | succ n =>
    refine ⟨3 ^ n, by rw [Nat.pow_succ]; have : 0 < 3 ^ n := Nat.pow_pos (by decide); omega, fun h hg => ?_⟩
    obtain ⟨t, ht⟩ := goes_next hg
    have := tot_go ht
    rw [show totS rows (goS rows s h) = n by omega]
noncomputable def Cov (rows : Bool → List Stp) (bx : List Int) (P : List Bool → Prop) : Prop := ∀ ord s, runS rows ord (St.new bx) = (s, none) → (∀ h, s.pl h = (rows h).length) → inK rows bx s = true ∨ ∃ o r, P o ∧ ord = o ++ r
theorem run_pre {rows : Bool → List Stp} {A B : List Bool} {s0 s sA : St} (hr : runS rows (A ++ B) s0 = (s, none)) (hA : runS rows A s0 = (sA, none)) : runS rows B sA = (s, none) := by
  rw [runS_append, hA] at hr; exact hr
theorem over_both {rows : Bool → List Stp} {s : St} (h : ∀ h, s.pl h ≤ (rows h).length) (ho : ∀ h, (rows h).length ≤ s.pl h) : ∀ h, s.pl h = (rows h).length := fun x => Nat.le_antisymm (h x) (ho x)
theorem alone_alt {row : List Stp} {bx : List Int} (ha : altS false row = true) : ∀ s' e, runS (bsel row []) (List.replicate row.length false) (St.new bx) = (s', some e) → e = .waits := fun s' e hr => by
  refine alt_run_err _ _ _ _ (alt_new (fun h => by cases h; exact ha; rfl)) (fun h => ?_) hr
  cases h
  · simp [bsel, St.new]
  · simp [bsel, St.new, List.count_replicate]
end Mine

set_option maxRecDepth 100000
set_option linter.all false
namespace Mine
open PySem PySem.Calls PyProof.Rows PySem.W
noncomputable abbrev WL (w : World) (b : Heap) (os : OsState) : Wd := ⟨PySem.Challenge.rw_uf050035_12.row.prog, w, hd.heap_1 w.params, b, os⟩
theorem g_len {w : World} : gval (hd.heap_1 w.params) (Str.ofString "len") = some (.val (.builtin "len")) := by kernel_rfl
theorem n_len {w : World} {k : AVal → Prop} : gvA (gval (hd.heap_1 w.params) (Str.ofString "len")) k = k (.val (.builtin "len")) := gv_hit g_len
theorem g_isinstance {w : World} : gval (hd.heap_1 w.params) (Str.ofString "isinstance") = some (.val (.builtin "isinstance")) := by kernel_rfl
theorem n_isinstance {w : World} {k : AVal → Prop} : gvA (gval (hd.heap_1 w.params) (Str.ofString "isinstance")) k = k (.val (.builtin "isinstance")) := gv_hit g_isinstance
theorem g_min {w : World} : gval (hd.heap_1 w.params) (Str.ofString "min") = some (.val (.builtin "min")) := by kernel_rfl
theorem n_min {w : World} {k : AVal → Prop} : gvA (gval (hd.heap_1 w.params) (Str.ofString "min")) k = k (.val (.builtin "min")) := gv_hit g_min
theorem g_list {w : World} : gval (hd.heap_1 w.params) (Str.ofString "list") = some (.val (.type "list")) := by kernel_rfl
theorem n_list {w : World} {k : AVal → Prop} : gvA (gval (hd.heap_1 w.params) (Str.ofString "list")) k = k (.val (.type "list")) := gv_hit g_list
theorem g_range {w : World} : gval (hd.heap_1 w.params) (Str.ofString "range") = some (.val (.type "range")) := by kernel_rfl
theorem n_range {w : World} {k : AVal → Prop} : gvA (gval (hd.heap_1 w.params) (Str.ofString "range")) k = k (.val (.type "range")) := gv_hit g_range
theorem g_int {w : World} : gval (hd.heap_1 w.params) (Str.ofString "int") = some (.val (.type "int")) := by kernel_rfl
theorem n_int {w : World} {k : AVal → Prop} : gvA (gval (hd.heap_1 w.params) (Str.ofString "int")) k = k (.val (.type "int")) := gv_hit g_int
theorem g_str {w : World} : gval (hd.heap_1 w.params) (Str.ofString "str") = some (.val (.type "str")) := by kernel_rfl
theorem n_str {w : World} {k : AVal → Prop} : gvA (gval (hd.heap_1 w.params) (Str.ofString "str")) k = k (.val (.type "str")) := gv_hit g_str
theorem g_bool {w : World} : gval (hd.heap_1 w.params) (Str.ofString "bool") = some (.val (.type "bool")) := by kernel_rfl
theorem n_bool {w : World} {k : AVal → Prop} : gvA (gval (hd.heap_1 w.params) (Str.ofString "bool")) k = k (.val (.type "bool")) := gv_hit g_bool
theorem g_tuple {w : World} : gval (hd.heap_1 w.params) (Str.ofString "tuple") = some (.val (.type "tuple")) := by kernel_rfl
theorem n_tuple {w : World} {k : AVal → Prop} : gvA (gval (hd.heap_1 w.params) (Str.ofString "tuple")) k = k (.val (.type "tuple")) := gv_hit g_tuple
theorem g_ValueError {w : World} : gval (hd.heap_1 w.params) (Str.ofString "ValueError") = some (.val (.type "ValueError")) := by kernel_rfl
theorem n_ValueError {w : World} {k : AVal → Prop} : gvA (gval (hd.heap_1 w.params) (Str.ofString "ValueError")) k = k (.val (.type "ValueError")) := gv_hit g_ValueError
theorem g_MOST_STEPS {w : World} : gval (hd.heap_1 w.params) (Str.ofString "MOST_STEPS") = some (.int 60) := by kernel_rfl
theorem n_MOST_STEPS {w : World} {k : AVal → Prop} : gvA (gval (hd.heap_1 w.params) (Str.ofString "MOST_STEPS")) k = k (.int 60) := gv_hit g_MOST_STEPS
theorem g_MOST_LOOKED {w : World} : gval (hd.heap_1 w.params) (Str.ofString "MOST_LOOKED") = some (.int 5) := by kernel_rfl
theorem n_MOST_LOOKED {w : World} {k : AVal → Prop} : gvA (gval (hd.heap_1 w.params) (Str.ofString "MOST_LOOKED")) k = k (.int 5) := gv_hit g_MOST_LOOKED
theorem g_WeaveError {w : World} : gval (hd.heap_1 w.params) (Str.ofString "WeaveError") = some (.val (.ref 24)) := by kernel_rfl
theorem n_WeaveError {w : World} {k : AVal → Prop} : gvA (gval (hd.heap_1 w.params) (Str.ofString "WeaveError")) k = k (.val (.ref 24)) := gv_hit g_WeaveError
theorem g_TooMany {w : World} : gval (hd.heap_1 w.params) (Str.ofString "TooMany") = some (.val (.ref 37)) := by kernel_rfl
theorem n_TooMany {w : World} {k : AVal → Prop} : gvA (gval (hd.heap_1 w.params) (Str.ofString "TooMany")) k = k (.val (.ref 37)) := gv_hit g_TooMany
theorem g_BadStep {w : World} : gval (hd.heap_1 w.params) (Str.ofString "BadStep") = some (.val (.ref 49)) := by kernel_rfl
theorem n_BadStep {w : World} {k : AVal → Prop} : gvA (gval (hd.heap_1 w.params) (Str.ofString "BadStep")) k = k (.val (.ref 49)) := gv_hit g_BadStep
theorem g_BadBox {w : World} : gval (hd.heap_1 w.params) (Str.ofString "BadBox") = some (.val (.ref 61)) := by kernel_rfl
theorem n_BadBox {w : World} {k : AVal → Prop} : gvA (gval (hd.heap_1 w.params) (Str.ofString "BadBox")) k = k (.val (.ref 61)) := gv_hit g_BadBox
theorem g_Again {w : World} : gval (hd.heap_1 w.params) (Str.ofString "Again") = some (.val (.ref 73)) := by kernel_rfl
theorem n_Again {w : World} {k : AVal → Prop} : gvA (gval (hd.heap_1 w.params) (Str.ofString "Again")) k = k (.val (.ref 73)) := gv_hit g_Again
theorem g_NotHeld {w : World} : gval (hd.heap_1 w.params) (Str.ofString "NotHeld") = some (.val (.ref 85)) := by kernel_rfl
theorem n_NotHeld {w : World} {k : AVal → Prop} : gvA (gval (hd.heap_1 w.params) (Str.ofString "NotHeld")) k = k (.val (.ref 85)) := gv_hit g_NotHeld
theorem g_NoTurn {w : World} : gval (hd.heap_1 w.params) (Str.ofString "NoTurn") = some (.val (.ref 97)) := by kernel_rfl
theorem n_NoTurn {w : World} {k : AVal → Prop} : gvA (gval (hd.heap_1 w.params) (Str.ofString "NoTurn")) k = k (.val (.ref 97)) := gv_hit g_NoTurn
theorem g_Waits {w : World} : gval (hd.heap_1 w.params) (Str.ofString "Waits") = some (.val (.ref 109)) := by kernel_rfl
theorem n_Waits {w : World} {k : AVal → Prop} : gvA (gval (hd.heap_1 w.params) (Str.ofString "Waits")) k = k (.val (.ref 109)) := gv_hit g_Waits
theorem g_Loom {w : World} : gval (hd.heap_1 w.params) (Str.ofString "Loom") = some (.val (.ref 191)) := by kernel_rfl
theorem n_Loom {w : World} {k : AVal → Prop} : gvA (gval (hd.heap_1 w.params) (Str.ofString "Loom")) k = k (.val (.ref 191)) := gv_hit g_Loom
theorem kp191 {w : World} : keepIn (hd.heap_1 w.params) (.ref 191) = true := by kernel_rfl
theorem g_whole {w : World} : gval (hd.heap_1 w.params) (Str.ofString "whole") = some (.val (.ref 118)) := by kernel_rfl
theorem n_whole {w : World} {k : AVal → Prop} : gvA (gval (hd.heap_1 w.params) (Str.ofString "whole")) k = k (.val (.ref 118)) := gv_hit g_whole
theorem kp118 {w : World} : keepIn (hd.heap_1 w.params) (.ref 118) = true := by kernel_rfl
theorem g_is_step {w : World} : gval (hd.heap_1 w.params) (Str.ofString "is_step") = some (.val (.ref 125)) := by kernel_rfl
theorem n_is_step {w : World} {k : AVal → Prop} : gvA (gval (hd.heap_1 w.params) (Str.ofString "is_step")) k = k (.val (.ref 125)) := gv_hit g_is_step
theorem kp125 {w : World} : keepIn (hd.heap_1 w.params) (.ref 125) = true := by kernel_rfl
theorem g_of_box {w : World} : gval (hd.heap_1 w.params) (Str.ofString "of_box") = some (.val (.ref 132)) := by kernel_rfl
theorem n_of_box {w : World} {k : AVal → Prop} : gvA (gval (hd.heap_1 w.params) (Str.ofString "of_box")) k = k (.val (.ref 132)) := gv_hit g_of_box
theorem kp132 {w : World} : keepIn (hd.heap_1 w.params) (.ref 132) = true := by kernel_rfl
theorem g_need_row {w : World} : gval (hd.heap_1 w.params) (Str.ofString "need_row") = some (.val (.ref 139)) := by kernel_rfl
theorem n_need_row {w : World} {k : AVal → Prop} : gvA (gval (hd.heap_1 w.params) (Str.ofString "need_row")) k = k (.val (.ref 139)) := gv_hit g_need_row
theorem kp139 {w : World} : keepIn (hd.heap_1 w.params) (.ref 139) = true := by kernel_rfl
theorem g_alone {w : World} : gval (hd.heap_1 w.params) (Str.ofString "alone") = some (.val (.ref 202)) := by kernel_rfl
theorem n_alone {w : World} {k : AVal → Prop} : gvA (gval (hd.heap_1 w.params) (Str.ofString "alone")) k = k (.val (.ref 202)) := gv_hit g_alone
theorem kp202 {w : World} : keepIn (hd.heap_1 w.params) (.ref 202) = true := by kernel_rfl
theorem g_walked {w : World} : gval (hd.heap_1 w.params) (Str.ofString "walked") = some (.val (.ref 209)) := by kernel_rfl
theorem n_walked {w : World} {k : AVal → Prop} : gvA (gval (hd.heap_1 w.params) (Str.ofString "walked")) k = k (.val (.ref 209)) := gv_hit g_walked
theorem kp209 {w : World} : keepIn (hd.heap_1 w.params) (.ref 209) = true := by kernel_rfl
theorem g_plain {w : World} : gval (hd.heap_1 w.params) (Str.ofString "plain") = some (.val (.ref 216)) := by kernel_rfl
theorem n_plain {w : World} {k : AVal → Prop} : gvA (gval (hd.heap_1 w.params) (Str.ofString "plain")) k = k (.val (.ref 216)) := gv_hit g_plain
theorem kp216 {w : World} : keepIn (hd.heap_1 w.params) (.ref 216) = true := by kernel_rfl
theorem g_strange {w : World} : gval (hd.heap_1 w.params) (Str.ofString "strange") = some (.val (.ref 221)) := by kernel_rfl
theorem n_strange {w : World} {k : AVal → Prop} : gvA (gval (hd.heap_1 w.params) (Str.ofString "strange")) k = k (.val (.ref 221)) := gv_hit g_strange
theorem kp221 {w : World} : keepIn (hd.heap_1 w.params) (.ref 221) = true := by kernel_rfl
theorem g_law_cell_at {w : World} : gval (hd.heap_1 w.params) (Str.ofString "_law_cell_at") = some (.val (.ref 228)) := by kernel_rfl
theorem n_law_cell_at {w : World} {k : AVal → Prop} : gvA (gval (hd.heap_1 w.params) (Str.ofString "_law_cell_at")) k = k (.val (.ref 228)) := gv_hit g_law_cell_at
theorem kp228 {w : World} : keepIn (hd.heap_1 w.params) (.ref 228) = true := by kernel_rfl
theorem g_law_number_by {w : World} : gval (hd.heap_1 w.params) (Str.ofString "_law_number_by") = some (.val (.ref 235)) := by kernel_rfl
theorem n_law_number_by {w : World} {k : AVal → Prop} : gvA (gval (hd.heap_1 w.params) (Str.ofString "_law_number_by")) k = k (.val (.ref 235)) := gv_hit g_law_number_by
theorem kp235 {w : World} : keepIn (hd.heap_1 w.params) (.ref 235) = true := by kernel_rfl
theorem g_law_step_by {w : World} : gval (hd.heap_1 w.params) (Str.ofString "_law_step_by") = some (.val (.ref 242)) := by kernel_rfl
theorem n_law_step_by {w : World} {k : AVal → Prop} : gvA (gval (hd.heap_1 w.params) (Str.ofString "_law_step_by")) k = k (.val (.ref 242)) := gv_hit g_law_step_by
theorem kp242 {w : World} : keepIn (hd.heap_1 w.params) (.ref 242) = true := by kernel_rfl
theorem g_law_cells {w : World} : gval (hd.heap_1 w.params) (Str.ofString "_law_cells") = some (.val (.ref 247)) := by kernel_rfl
theorem n_law_cells {w : World} {k : AVal → Prop} : gvA (gval (hd.heap_1 w.params) (Str.ofString "_law_cells")) k = k (.val (.ref 247)) := gv_hit g_law_cells
theorem kp247 {w : World} : keepIn (hd.heap_1 w.params) (.ref 247) = true := by kernel_rfl
theorem g_law_row_by {w : World} : gval (hd.heap_1 w.params) (Str.ofString "_law_row_by") = some (.val (.ref 252)) := by kernel_rfl
theorem n_law_row_by {w : World} {k : AVal → Prop} : gvA (gval (hd.heap_1 w.params) (Str.ofString "_law_row_by")) k = k (.val (.ref 252)) := gv_hit g_law_row_by
theorem kp252 {w : World} : keepIn (hd.heap_1 w.params) (.ref 252) = true := by kernel_rfl
theorem g_law_can {w : World} : gval (hd.heap_1 w.params) (Str.ofString "_law_can") = some (.val (.ref 259)) := by kernel_rfl
theorem n_law_can {w : World} {k : AVal → Prop} : gvA (gval (hd.heap_1 w.params) (Str.ofString "_law_can")) k = k (.val (.ref 259)) := gv_hit g_law_can
theorem kp259 {w : World} : keepIn (hd.heap_1 w.params) (.ref 259) = true := by kernel_rfl
theorem g_law_done {w : World} : gval (hd.heap_1 w.params) (Str.ofString "_law_done") = some (.val (.ref 266)) := by kernel_rfl
theorem n_law_done {w : World} {k : AVal → Prop} : gvA (gval (hd.heap_1 w.params) (Str.ofString "_law_done")) k = k (.val (.ref 266)) := gv_hit g_law_done
theorem kp266 {w : World} : keepIn (hd.heap_1 w.params) (.ref 266) = true := by kernel_rfl
theorem g_law_end {w : World} : gval (hd.heap_1 w.params) (Str.ofString "_law_end") = some (.val (.ref 273)) := by kernel_rfl
theorem n_law_end {w : World} {k : AVal → Prop} : gvA (gval (hd.heap_1 w.params) (Str.ofString "_law_end")) k = k (.val (.ref 273)) := gv_hit g_law_end
theorem kp273 {w : World} : keepIn (hd.heap_1 w.params) (.ref 273) = true := by kernel_rfl
theorem g_law_order_by {w : World} : gval (hd.heap_1 w.params) (Str.ofString "_law_order_by") = some (.val (.ref 280)) := by kernel_rfl
theorem n_law_order_by {w : World} {k : AVal → Prop} : gvA (gval (hd.heap_1 w.params) (Str.ofString "_law_order_by")) k = k (.val (.ref 280)) := gv_hit g_law_order_by
theorem kp280 {w : World} : keepIn (hd.heap_1 w.params) (.ref 280) = true := by kernel_rfl
theorem g_law_all_plain {w : World} : gval (hd.heap_1 w.params) (Str.ofString "_law_all_plain") = some (.val (.ref 285)) := by kernel_rfl
theorem n_law_all_plain {w : World} {k : AVal → Prop} : gvA (gval (hd.heap_1 w.params) (Str.ofString "_law_all_plain")) k = k (.val (.ref 285)) := gv_hit g_law_all_plain
theorem kp285 {w : World} : keepIn (hd.heap_1 w.params) (.ref 285) = true := by kernel_rfl
theorem g_law_refused {w : World} : gval (hd.heap_1 w.params) (Str.ofString "_law_refused") = some (.val (.ref 292)) := by kernel_rfl
theorem n_law_refused {w : World} {k : AVal → Prop} : gvA (gval (hd.heap_1 w.params) (Str.ofString "_law_refused")) k = k (.val (.ref 292)) := gv_hit g_law_refused
theorem kp292 {w : World} : keepIn (hd.heap_1 w.params) (.ref 292) = true := by kernel_rfl
theorem g_law_wrong {w : World} : gval (hd.heap_1 w.params) (Str.ofString "_law_wrong") = some (.val (.ref 299)) := by kernel_rfl
theorem n_law_wrong {w : World} {k : AVal → Prop} : gvA (gval (hd.heap_1 w.params) (Str.ofString "_law_wrong")) k = k (.val (.ref 299)) := gv_hit g_law_wrong
theorem kp299 {w : World} : keepIn (hd.heap_1 w.params) (.ref 299) = true := by kernel_rfl
theorem g_law_guards {w : World} : gval (hd.heap_1 w.params) (Str.ofString "_law_guards") = some (.val (.ref 306)) := by kernel_rfl
theorem n_law_guards {w : World} {k : AVal → Prop} : gvA (gval (hd.heap_1 w.params) (Str.ofString "_law_guards")) k = k (.val (.ref 306)) := gv_hit g_law_guards
theorem kp306 {w : World} : keepIn (hd.heap_1 w.params) (.ref 306) = true := by kernel_rfl
theorem g_law {w : World} : gval (hd.heap_1 w.params) (Str.ofString "law") = some (.val (.ref 311)) := by kernel_rfl
theorem n_law {w : World} {k : AVal → Prop} : gvA (gval (hd.heap_1 w.params) (Str.ofString "law")) k = k (.val (.ref 311)) := gv_hit g_law
theorem kp311 {w : World} : keepIn (hd.heap_1 w.params) (.ref 311) = true := by kernel_rfl
theorem xk24 {w : World} : excOk (hd.heap_1 w.params) 24 = true := by kernel_rfl
theorem xk37 {w : World} : excOk (hd.heap_1 w.params) 37 = true := by kernel_rfl
theorem xk49 {w : World} : excOk (hd.heap_1 w.params) 49 = true := by kernel_rfl
theorem xk61 {w : World} : excOk (hd.heap_1 w.params) 61 = true := by kernel_rfl
theorem xk73 {w : World} : excOk (hd.heap_1 w.params) 73 = true := by kernel_rfl
theorem xk85 {w : World} : excOk (hd.heap_1 w.params) 85 = true := by kernel_rfl
theorem xk97 {w : World} : excOk (hd.heap_1 w.params) 97 = true := by kernel_rfl
theorem xk109 {w : World} : excOk (hd.heap_1 w.params) 109 = true := by kernel_rfl
theorem xxm_Waits_Waits {w : World} : exmOne (hd.heap_1 w.params) (.ref 109) (.ref 109) = some true := by kernel_rfl
theorem xm_Waits_Waits {w : World} {A B : Prop} : hdK (hd.heap_1 w.params) (gval (hd.heap_1 w.params) (Str.ofString "Waits")) 109 A B = A := hd_fact g_Waits xxm_Waits_Waits
theorem xxm_TooMany_TooMany {w : World} : exmOne (hd.heap_1 w.params) (.ref 37) (.ref 37) = some true := by kernel_rfl
theorem xm_TooMany_TooMany {w : World} {A B : Prop} : hdK (hd.heap_1 w.params) (gval (hd.heap_1 w.params) (Str.ofString "TooMany")) 37 A B = A := hd_fact g_TooMany xxm_TooMany_TooMany
theorem xxm_Again_TooMany {w : World} : exmOne (hd.heap_1 w.params) (.ref 73) (.ref 37) = some false := by kernel_rfl
theorem xm_Again_TooMany {w : World} {A B : Prop} : hdK (hd.heap_1 w.params) (gval (hd.heap_1 w.params) (Str.ofString "TooMany")) 73 A B = B := hd_miss g_TooMany xxm_Again_TooMany
theorem xxm_Again_Again {w : World} : exmOne (hd.heap_1 w.params) (.ref 73) (.ref 73) = some true := by kernel_rfl
theorem xm_Again_Again {w : World} {A B : Prop} : hdK (hd.heap_1 w.params) (gval (hd.heap_1 w.params) (Str.ofString "Again")) 73 A B = A := hd_fact g_Again xxm_Again_Again
theorem xxm_NotHeld_TooMany {w : World} : exmOne (hd.heap_1 w.params) (.ref 85) (.ref 37) = some false := by kernel_rfl
theorem xm_NotHeld_TooMany {w : World} {A B : Prop} : hdK (hd.heap_1 w.params) (gval (hd.heap_1 w.params) (Str.ofString "TooMany")) 85 A B = B := hd_miss g_TooMany xxm_NotHeld_TooMany
theorem xxm_NotHeld_Again {w : World} : exmOne (hd.heap_1 w.params) (.ref 85) (.ref 73) = some false := by kernel_rfl
theorem xm_NotHeld_Again {w : World} {A B : Prop} : hdK (hd.heap_1 w.params) (gval (hd.heap_1 w.params) (Str.ofString "Again")) 85 A B = B := hd_miss g_Again xxm_NotHeld_Again
theorem xxm_NotHeld_NotHeld {w : World} : exmOne (hd.heap_1 w.params) (.ref 85) (.ref 85) = some true := by kernel_rfl
theorem xm_NotHeld_NotHeld {w : World} {A B : Prop} : hdK (hd.heap_1 w.params) (gval (hd.heap_1 w.params) (Str.ofString "NotHeld")) 85 A B = A := hd_fact g_NotHeld xxm_NotHeld_NotHeld
theorem kall {w : World} : kitAll (hd.heap_1 w.params) = true := by kernel_rfl
theorem isi_none_tuple {w : World} {H : AHeap} : isiA (hd.heap_1 w.params) H (.none) (.type "tuple") = some false := (isi_ty (s := "NoneType") (t := "tuple") kall rfl (by decide)).trans (by decide)
theorem isi_none_str {w : World} {H : AHeap} : isiA (hd.heap_1 w.params) H (.none) (.type "str") = some false := (isi_ty (s := "NoneType") (t := "str") kall rfl (by decide)).trans (by decide)
theorem isi_none_int {w : World} {H : AHeap} : isiA (hd.heap_1 w.params) H (.none) (.type "int") = some false := (isi_ty (s := "NoneType") (t := "int") kall rfl (by decide)).trans (by decide)
theorem isi_none_bool {w : World} {H : AHeap} : isiA (hd.heap_1 w.params) H (.none) (.type "bool") = some false := (isi_ty (s := "NoneType") (t := "bool") kall rfl (by decide)).trans (by decide)
theorem isi_none_list {w : World} {H : AHeap} : isiA (hd.heap_1 w.params) H (.none) (.type "list") = some false := (isi_ty (s := "NoneType") (t := "list") kall rfl (by decide)).trans (by decide)
theorem isi_bool_tuple {w : World} {H : AHeap} {x : Bool} : isiA (hd.heap_1 w.params) H (.bool x) (.type "tuple") = some false := (isi_ty (s := "bool") (t := "tuple") kall rfl (by decide)).trans (by decide)
theorem isi_bool_str {w : World} {H : AHeap} {x : Bool} : isiA (hd.heap_1 w.params) H (.bool x) (.type "str") = some false := (isi_ty (s := "bool") (t := "str") kall rfl (by decide)).trans (by decide)
theorem isi_bool_int {w : World} {H : AHeap} {x : Bool} : isiA (hd.heap_1 w.params) H (.bool x) (.type "int") = some true := (isi_ty (s := "bool") (t := "int") kall rfl (by decide)).trans (by decide)
theorem isi_bool_bool {w : World} {H : AHeap} {x : Bool} : isiA (hd.heap_1 w.params) H (.bool x) (.type "bool") = some true := (isi_ty (s := "bool") (t := "bool") kall rfl (by decide)).trans (by decide)
theorem isi_bool_list {w : World} {H : AHeap} {x : Bool} : isiA (hd.heap_1 w.params) H (.bool x) (.type "list") = some false := (isi_ty (s := "bool") (t := "list") kall rfl (by decide)).trans (by decide)
theorem isi_int_tuple {w : World} {H : AHeap} {x : Int} : isiA (hd.heap_1 w.params) H (.int x) (.type "tuple") = some false := (isi_ty (s := "int") (t := "tuple") kall rfl (by decide)).trans (by decide)
theorem isi_int_str {w : World} {H : AHeap} {x : Int} : isiA (hd.heap_1 w.params) H (.int x) (.type "str") = some false := (isi_ty (s := "int") (t := "str") kall rfl (by decide)).trans (by decide)
theorem isi_int_int {w : World} {H : AHeap} {x : Int} : isiA (hd.heap_1 w.params) H (.int x) (.type "int") = some true := (isi_ty (s := "int") (t := "int") kall rfl (by decide)).trans (by decide)
theorem isi_int_bool {w : World} {H : AHeap} {x : Int} : isiA (hd.heap_1 w.params) H (.int x) (.type "bool") = some false := (isi_ty (s := "int") (t := "bool") kall rfl (by decide)).trans (by decide)
theorem isi_int_list {w : World} {H : AHeap} {x : Int} : isiA (hd.heap_1 w.params) H (.int x) (.type "list") = some false := (isi_ty (s := "int") (t := "list") kall rfl (by decide)).trans (by decide)
theorem isi_str_tuple {w : World} {H : AHeap} {x : Str} : isiA (hd.heap_1 w.params) H (.str x) (.type "tuple") = some false := (isi_ty (s := "str") (t := "tuple") kall rfl (by decide)).trans (by decide)
theorem isi_str_str {w : World} {H : AHeap} {x : Str} : isiA (hd.heap_1 w.params) H (.str x) (.type "str") = some true := (isi_ty (s := "str") (t := "str") kall rfl (by decide)).trans (by decide)
theorem isi_str_int {w : World} {H : AHeap} {x : Str} : isiA (hd.heap_1 w.params) H (.str x) (.type "int") = some false := (isi_ty (s := "str") (t := "int") kall rfl (by decide)).trans (by decide)
theorem isi_str_bool {w : World} {H : AHeap} {x : Str} : isiA (hd.heap_1 w.params) H (.str x) (.type "bool") = some false := (isi_ty (s := "str") (t := "bool") kall rfl (by decide)).trans (by decide)
theorem isi_str_list {w : World} {H : AHeap} {x : Str} : isiA (hd.heap_1 w.params) H (.str x) (.type "list") = some false := (isi_ty (s := "str") (t := "list") kall rfl (by decide)).trans (by decide)
theorem isi_tup_tuple {w : World} {H : AHeap} {x : List AVal} : isiA (hd.heap_1 w.params) H (.tup x) (.type "tuple") = some true := (isi_ty (s := "tuple") (t := "tuple") kall rfl (by decide)).trans (by decide)
theorem isi_tup_str {w : World} {H : AHeap} {x : List AVal} : isiA (hd.heap_1 w.params) H (.tup x) (.type "str") = some false := (isi_ty (s := "tuple") (t := "str") kall rfl (by decide)).trans (by decide)
theorem isi_tup_int {w : World} {H : AHeap} {x : List AVal} : isiA (hd.heap_1 w.params) H (.tup x) (.type "int") = some false := (isi_ty (s := "tuple") (t := "int") kall rfl (by decide)).trans (by decide)
theorem isi_tup_bool {w : World} {H : AHeap} {x : List AVal} : isiA (hd.heap_1 w.params) H (.tup x) (.type "bool") = some false := (isi_ty (s := "tuple") (t := "bool") kall rfl (by decide)).trans (by decide)
theorem isi_tup_list {w : World} {H : AHeap} {x : List AVal} : isiA (hd.heap_1 w.params) H (.tup x) (.type "list") = some false := (isi_ty (s := "tuple") (t := "list") kall rfl (by decide)).trans (by decide)
noncomputable def Ewhole (v0 : Option AVal) : Loc := env [(Str.ofString "thing", v0)]
theorem bEwhole {x0 : AVal} : bindA [Str.ofString "thing"] [x0] = Ewhole (some x0) :=
  (bind_put bind_nil).trans ((env_pads _ []).trans (show _ = Ewhole (some x0) by kernel_rfl))
theorem lEwhole0 {K : Frag} {y : AVal} {k : AVal → Prop} : nmA K (Ewhole  (some y) ) (Str.ofString "thing") k = k y := by kernel_rfl
theorem uEwhole0 {v0 : Option AVal} {y : AVal} : upd (Ewhole v0) (Str.ofString "thing") y = Ewhole  (some y)  := (upd_env _ _ _).trans (congrArg env (by kernel_rfl))
theorem gEwhole_bool {w : World} {v0 : Option AVal} {k : AVal → Prop} : nmA (hd.heap_1 w.params) (Ewhole v0) (Str.ofString "bool") k = k (.val (.type "bool")) := (show _ = gvA (gval (hd.heap_1 w.params) (Str.ofString "bool")) k by kernel_rfl).trans n_bool
theorem gEwhole_int {w : World} {v0 : Option AVal} {k : AVal → Prop} : nmA (hd.heap_1 w.params) (Ewhole v0) (Str.ofString "int") k = k (.val (.type "int")) := (show _ = gvA (gval (hd.heap_1 w.params) (Str.ofString "int")) k by kernel_rfl).trans n_int
theorem gEwhole_isinstance {w : World} {v0 : Option AVal} {k : AVal → Prop} : nmA (hd.heap_1 w.params) (Ewhole v0) (Str.ofString "isinstance") k = k (.val (.builtin "isinstance")) := (show _ = gvA (gval (hd.heap_1 w.params) (Str.ofString "isinstance")) k by kernel_rfl).trans n_isinstance
theorem gEwhole_len {w : World} {v0 : Option AVal} {k : AVal → Prop} : nmA (hd.heap_1 w.params) (Ewhole v0) (Str.ofString "len") k = k (.val (.builtin "len")) := (show _ = gvA (gval (hd.heap_1 w.params) (Str.ofString "len")) k by kernel_rfl).trans n_len
theorem gEwhole_str {w : World} {v0 : Option AVal} {k : AVal → Prop} : nmA (hd.heap_1 w.params) (Ewhole v0) (Str.ofString "str") k = k (.val (.type "str")) := (show _ = gvA (gval (hd.heap_1 w.params) (Str.ofString "str")) k by kernel_rfl).trans n_str
theorem gEwhole_tuple {w : World} {v0 : Option AVal} {k : AVal → Prop} : nmA (hd.heap_1 w.params) (Ewhole v0) (Str.ofString "tuple") k = k (.val (.type "tuple")) := (show _ = gvA (gval (hd.heap_1 w.params) (Str.ofString "tuple")) k by kernel_rfl).trans n_tuple
theorem gEwhole_whole {w : World} {v0 : Option AVal} {k : AVal → Prop} : nmA (hd.heap_1 w.params) (Ewhole v0) (Str.ofString "whole") k = k (.val (.ref 118)) := (show _ = gvA (gval (hd.heap_1 w.params) (Str.ofString "whole")) k by kernel_rfl).trans n_whole
noncomputable def Eof_box (v0 : Option AVal) : Loc := env [(Str.ofString "step", v0)]
theorem bEof_box {x0 : AVal} : bindA [Str.ofString "step"] [x0] = Eof_box (some x0) :=
  (bind_put bind_nil).trans ((env_pads _ []).trans (show _ = Eof_box (some x0) by kernel_rfl))
theorem lEof_box0 {K : Frag} {y : AVal} {k : AVal → Prop} : nmA K (Eof_box  (some y) ) (Str.ofString "step") k = k y := by kernel_rfl
theorem uEof_box0 {v0 : Option AVal} {y : AVal} : upd (Eof_box v0) (Str.ofString "step") y = Eof_box  (some y)  := (upd_env _ _ _).trans (congrArg env (by kernel_rfl))
noncomputable def Eneed_row (v0 v1 v2 : Option AVal) : Loc := env [(Str.ofString "many", v1), (Str.ofString "row", v0), (Str.ofString "step", v2)]
theorem bEneed_row {x0 x1 : AVal} : bindA [Str.ofString "row", Str.ofString "many"] [x0, x1] = Eneed_row (some x0) (some x1) none :=
  (bind_put (bind_put bind_nil)).trans ((env_pads _ [Str.ofString "step"]).trans (show _ = Eneed_row (some x0) (some x1) none by kernel_rfl))
theorem lEneed_row0 {K : Frag} {v1 v2 : Option AVal} {y : AVal} {k : AVal → Prop} : nmA K (Eneed_row  (some y) v1 v2) (Str.ofString "row") k = k y := by kernel_rfl
theorem uEneed_row0 {v0 v1 v2 : Option AVal} {y : AVal} : upd (Eneed_row v0 v1 v2) (Str.ofString "row") y = Eneed_row  (some y) v1 v2 := (upd_env _ _ _).trans (congrArg env (by kernel_rfl))
theorem lEneed_row1 {K : Frag} {v0 v2 : Option AVal} {y : AVal} {k : AVal → Prop} : nmA K (Eneed_row v0 (some y) v2) (Str.ofString "many") k = k y := by kernel_rfl
theorem uEneed_row1 {v0 v1 v2 : Option AVal} {y : AVal} : upd (Eneed_row v0 v1 v2) (Str.ofString "many") y = Eneed_row v0 (some y) v2 := (upd_env _ _ _).trans (congrArg env (by kernel_rfl))
theorem lEneed_row2 {K : Frag} {v0 v1 : Option AVal} {y : AVal} {k : AVal → Prop} : nmA K (Eneed_row v0 v1 (some y) ) (Str.ofString "step") k = k y := by kernel_rfl
theorem uEneed_row2 {v0 v1 v2 : Option AVal} {y : AVal} : upd (Eneed_row v0 v1 v2) (Str.ofString "step") y = Eneed_row v0 v1 (some y)  := (upd_env _ _ _).trans (congrArg env (by kernel_rfl))
theorem gEneed_row_BadBox {w : World} {v0 v1 v2 : Option AVal} {k : AVal → Prop} : nmA (hd.heap_1 w.params) (Eneed_row v0 v1 v2) (Str.ofString "BadBox") k = k (.val (.ref 61)) := (show _ = gvA (gval (hd.heap_1 w.params) (Str.ofString "BadBox")) k by kernel_rfl).trans n_BadBox
theorem gEneed_row_BadStep {w : World} {v0 v1 v2 : Option AVal} {k : AVal → Prop} : nmA (hd.heap_1 w.params) (Eneed_row v0 v1 v2) (Str.ofString "BadStep") k = k (.val (.ref 49)) := (show _ = gvA (gval (hd.heap_1 w.params) (Str.ofString "BadStep")) k by kernel_rfl).trans n_BadStep
theorem gEneed_row_MOST_STEPS {w : World} {v0 v1 v2 : Option AVal} {k : AVal → Prop} : nmA (hd.heap_1 w.params) (Eneed_row v0 v1 v2) (Str.ofString "MOST_STEPS") k = k (.int 60) := (show _ = gvA (gval (hd.heap_1 w.params) (Str.ofString "MOST_STEPS")) k by kernel_rfl).trans n_MOST_STEPS
theorem gEneed_row_TooMany {w : World} {v0 v1 v2 : Option AVal} {k : AVal → Prop} : nmA (hd.heap_1 w.params) (Eneed_row v0 v1 v2) (Str.ofString "TooMany") k = k (.val (.ref 37)) := (show _ = gvA (gval (hd.heap_1 w.params) (Str.ofString "TooMany")) k by kernel_rfl).trans n_TooMany
theorem gEneed_row_is_step {w : World} {v0 v1 v2 : Option AVal} {k : AVal → Prop} : nmA (hd.heap_1 w.params) (Eneed_row v0 v1 v2) (Str.ofString "is_step") k = k (.val (.ref 125)) := (show _ = gvA (gval (hd.heap_1 w.params) (Str.ofString "is_step")) k by kernel_rfl).trans n_is_step
theorem gEneed_row_len {w : World} {v0 v1 v2 : Option AVal} {k : AVal → Prop} : nmA (hd.heap_1 w.params) (Eneed_row v0 v1 v2) (Str.ofString "len") k = k (.val (.builtin "len")) := (show _ = gvA (gval (hd.heap_1 w.params) (Str.ofString "len")) k by kernel_rfl).trans n_len
theorem gEneed_row_of_box {w : World} {v0 v1 v2 : Option AVal} {k : AVal → Prop} : nmA (hd.heap_1 w.params) (Eneed_row v0 v1 v2) (Str.ofString "of_box") k = k (.val (.ref 132)) := (show _ = gvA (gval (hd.heap_1 w.params) (Str.ofString "of_box")) k by kernel_rfl).trans n_of_box
theorem eEneed_row_TooMany {v0 v1 v2 : Option AVal} : Eneed_row v0 v1 v2 (Str.ofString "TooMany") = none := by kernel_rfl
theorem eEneed_row_BadStep {v0 v1 v2 : Option AVal} : Eneed_row v0 v1 v2 (Str.ofString "BadStep") = none := by kernel_rfl
theorem eEneed_row_BadBox {v0 v1 v2 : Option AVal} : Eneed_row v0 v1 v2 (Str.ofString "BadBox") = none := by kernel_rfl
noncomputable def ELoom_init (v0 v1 v2 v3 : Option AVal) : Loc := env [(Str.ofString "boxes", v3), (Str.ofString "others", v2), (Str.ofString "ones", v1), (Str.ofString "self", v0)]
theorem bELoom_init {x0 x1 x2 x3 : AVal} : bindA [Str.ofString "self", Str.ofString "ones", Str.ofString "others", Str.ofString "boxes"] [x0, x1, x2, x3] = ELoom_init (some x0) (some x1) (some x2) (some x3) :=
  (bind_put (bind_put (bind_put (bind_put bind_nil)))).trans ((env_pads _ []).trans (show _ = ELoom_init (some x0) (some x1) (some x2) (some x3) by kernel_rfl))
theorem lELoom_init0 {K : Frag} {v1 v2 v3 : Option AVal} {y : AVal} {k : AVal → Prop} : nmA K (ELoom_init  (some y) v1 v2 v3) (Str.ofString "self") k = k y := by kernel_rfl
theorem uELoom_init0 {v0 v1 v2 v3 : Option AVal} {y : AVal} : upd (ELoom_init v0 v1 v2 v3) (Str.ofString "self") y = ELoom_init  (some y) v1 v2 v3 := (upd_env _ _ _).trans (congrArg env (by kernel_rfl))
theorem lELoom_init1 {K : Frag} {v0 v2 v3 : Option AVal} {y : AVal} {k : AVal → Prop} : nmA K (ELoom_init v0 (some y) v2 v3) (Str.ofString "ones") k = k y := by kernel_rfl
theorem uELoom_init1 {v0 v1 v2 v3 : Option AVal} {y : AVal} : upd (ELoom_init v0 v1 v2 v3) (Str.ofString "ones") y = ELoom_init v0 (some y) v2 v3 := (upd_env _ _ _).trans (congrArg env (by kernel_rfl))
theorem lELoom_init2 {K : Frag} {v0 v1 v3 : Option AVal} {y : AVal} {k : AVal → Prop} : nmA K (ELoom_init v0 v1 (some y) v3) (Str.ofString "others") k = k y := by kernel_rfl
theorem uELoom_init2 {v0 v1 v2 v3 : Option AVal} {y : AVal} : upd (ELoom_init v0 v1 v2 v3) (Str.ofString "others") y = ELoom_init v0 v1 (some y) v3 := (upd_env _ _ _).trans (congrArg env (by kernel_rfl))
theorem lELoom_init3 {K : Frag} {v0 v1 v2 : Option AVal} {y : AVal} {k : AVal → Prop} : nmA K (ELoom_init v0 v1 v2 (some y) ) (Str.ofString "boxes") k = k y := by kernel_rfl
theorem uELoom_init3 {v0 v1 v2 v3 : Option AVal} {y : AVal} : upd (ELoom_init v0 v1 v2 v3) (Str.ofString "boxes") y = ELoom_init v0 v1 v2 (some y)  := (upd_env _ _ _).trans (congrArg env (by kernel_rfl))
theorem gELoom_init_len {w : World} {v0 v1 v2 v3 : Option AVal} {k : AVal → Prop} : nmA (hd.heap_1 w.params) (ELoom_init v0 v1 v2 v3) (Str.ofString "len") k = k (.val (.builtin "len")) := (show _ = gvA (gval (hd.heap_1 w.params) (Str.ofString "len")) k by kernel_rfl).trans n_len
theorem gELoom_init_list {w : World} {v0 v1 v2 v3 : Option AVal} {k : AVal → Prop} : nmA (hd.heap_1 w.params) (ELoom_init v0 v1 v2 v3) (Str.ofString "list") k = k (.val (.type "list")) := (show _ = gvA (gval (hd.heap_1 w.params) (Str.ofString "list")) k by kernel_rfl).trans n_list
theorem gELoom_init_need_row {w : World} {v0 v1 v2 v3 : Option AVal} {k : AVal → Prop} : nmA (hd.heap_1 w.params) (ELoom_init v0 v1 v2 v3) (Str.ofString "need_row") k = k (.val (.ref 139)) := (show _ = gvA (gval (hd.heap_1 w.params) (Str.ofString "need_row")) k by kernel_rfl).trans n_need_row
noncomputable def ELoom_over (v0 v1 v2 : Option AVal) : Loc := env [(Str.ofString "hand", v1), (Str.ofString "self", v0), (Str.ofString "step", v2)]
theorem bELoom_over {x0 x1 : AVal} : bindA [Str.ofString "self", Str.ofString "hand"] [x0, x1] = ELoom_over (some x0) (some x1) none :=
  (bind_put (bind_put bind_nil)).trans ((env_pads _ [Str.ofString "step"]).trans (show _ = ELoom_over (some x0) (some x1) none by kernel_rfl))
theorem lELoom_over0 {K : Frag} {v1 v2 : Option AVal} {y : AVal} {k : AVal → Prop} : nmA K (ELoom_over  (some y) v1 v2) (Str.ofString "self") k = k y := by kernel_rfl
theorem uELoom_over0 {v0 v1 v2 : Option AVal} {y : AVal} : upd (ELoom_over v0 v1 v2) (Str.ofString "self") y = ELoom_over  (some y) v1 v2 := (upd_env _ _ _).trans (congrArg env (by kernel_rfl))
theorem lELoom_over1 {K : Frag} {v0 v2 : Option AVal} {y : AVal} {k : AVal → Prop} : nmA K (ELoom_over v0 (some y) v2) (Str.ofString "hand") k = k y := by kernel_rfl
theorem uELoom_over1 {v0 v1 v2 : Option AVal} {y : AVal} : upd (ELoom_over v0 v1 v2) (Str.ofString "hand") y = ELoom_over v0 (some y) v2 := (upd_env _ _ _).trans (congrArg env (by kernel_rfl))
theorem lELoom_over2 {K : Frag} {v0 v1 : Option AVal} {y : AVal} {k : AVal → Prop} : nmA K (ELoom_over v0 v1 (some y) ) (Str.ofString "step") k = k y := by kernel_rfl
theorem uELoom_over2 {v0 v1 v2 : Option AVal} {y : AVal} : upd (ELoom_over v0 v1 v2) (Str.ofString "step") y = ELoom_over v0 v1 (some y)  := (upd_env _ _ _).trans (congrArg env (by kernel_rfl))
theorem gELoom_over_Again {w : World} {v0 v1 v2 : Option AVal} {k : AVal → Prop} : nmA (hd.heap_1 w.params) (ELoom_over v0 v1 v2) (Str.ofString "Again") k = k (.val (.ref 73)) := (show _ = gvA (gval (hd.heap_1 w.params) (Str.ofString "Again")) k by kernel_rfl).trans n_Again
theorem gELoom_over_NoTurn {w : World} {v0 v1 v2 : Option AVal} {k : AVal → Prop} : nmA (hd.heap_1 w.params) (ELoom_over v0 v1 v2) (Str.ofString "NoTurn") k = k (.val (.ref 97)) := (show _ = gvA (gval (hd.heap_1 w.params) (Str.ofString "NoTurn")) k by kernel_rfl).trans n_NoTurn
theorem gELoom_over_NotHeld {w : World} {v0 v1 v2 : Option AVal} {k : AVal → Prop} : nmA (hd.heap_1 w.params) (ELoom_over v0 v1 v2) (Str.ofString "NotHeld") k = k (.val (.ref 85)) := (show _ = gvA (gval (hd.heap_1 w.params) (Str.ofString "NotHeld")) k by kernel_rfl).trans n_NotHeld
theorem gELoom_over_Waits {w : World} {v0 v1 v2 : Option AVal} {k : AVal → Prop} : nmA (hd.heap_1 w.params) (ELoom_over v0 v1 v2) (Str.ofString "Waits") k = k (.val (.ref 109)) := (show _ = gvA (gval (hd.heap_1 w.params) (Str.ofString "Waits")) k by kernel_rfl).trans n_Waits
theorem gELoom_over_len {w : World} {v0 v1 v2 : Option AVal} {k : AVal → Prop} : nmA (hd.heap_1 w.params) (ELoom_over v0 v1 v2) (Str.ofString "len") k = k (.val (.builtin "len")) := (show _ = gvA (gval (hd.heap_1 w.params) (Str.ofString "len")) k by kernel_rfl).trans n_len
theorem eELoom_over_NoTurn {v0 v1 v2 : Option AVal} : ELoom_over v0 v1 v2 (Str.ofString "NoTurn") = none := by kernel_rfl
theorem eELoom_over_Waits {v0 v1 v2 : Option AVal} : ELoom_over v0 v1 v2 (Str.ofString "Waits") = none := by kernel_rfl
theorem eELoom_over_Again {v0 v1 v2 : Option AVal} : ELoom_over v0 v1 v2 (Str.ofString "Again") = none := by kernel_rfl
theorem eELoom_over_NotHeld {v0 v1 v2 : Option AVal} : ELoom_over v0 v1 v2 (Str.ofString "NotHeld") = none := by kernel_rfl
noncomputable def ELoom_work (v0 v1 v2 v3 : Option AVal) : Loc := env [(Str.ofString "step", v2), (Str.ofString "hand", v1), (Str.ofString "self", v0), (Str.ofString "word", v3)]
theorem bELoom_work {x0 x1 x2 : AVal} : bindA [Str.ofString "self", Str.ofString "hand", Str.ofString "step"] [x0, x1, x2] = ELoom_work (some x0) (some x1) (some x2) none :=
  (bind_put (bind_put (bind_put bind_nil))).trans ((env_pads _ [Str.ofString "word"]).trans (show _ = ELoom_work (some x0) (some x1) (some x2) none by kernel_rfl))
theorem lELoom_work0 {K : Frag} {v1 v2 v3 : Option AVal} {y : AVal} {k : AVal → Prop} : nmA K (ELoom_work  (some y) v1 v2 v3) (Str.ofString "self") k = k y := by kernel_rfl
theorem uELoom_work0 {v0 v1 v2 v3 : Option AVal} {y : AVal} : upd (ELoom_work v0 v1 v2 v3) (Str.ofString "self") y = ELoom_work  (some y) v1 v2 v3 := (upd_env _ _ _).trans (congrArg env (by kernel_rfl))
theorem lELoom_work1 {K : Frag} {v0 v2 v3 : Option AVal} {y : AVal} {k : AVal → Prop} : nmA K (ELoom_work v0 (some y) v2 v3) (Str.ofString "hand") k = k y := by kernel_rfl
theorem uELoom_work1 {v0 v1 v2 v3 : Option AVal} {y : AVal} : upd (ELoom_work v0 v1 v2 v3) (Str.ofString "hand") y = ELoom_work v0 (some y) v2 v3 := (upd_env _ _ _).trans (congrArg env (by kernel_rfl))
theorem lELoom_work2 {K : Frag} {v0 v1 v3 : Option AVal} {y : AVal} {k : AVal → Prop} : nmA K (ELoom_work v0 v1 (some y) v3) (Str.ofString "step") k = k y := by kernel_rfl
theorem uELoom_work2 {v0 v1 v2 v3 : Option AVal} {y : AVal} : upd (ELoom_work v0 v1 v2 v3) (Str.ofString "step") y = ELoom_work v0 v1 (some y) v3 := (upd_env _ _ _).trans (congrArg env (by kernel_rfl))
theorem lELoom_work3 {K : Frag} {v0 v1 v2 : Option AVal} {y : AVal} {k : AVal → Prop} : nmA K (ELoom_work v0 v1 v2 (some y) ) (Str.ofString "word") k = k y := by kernel_rfl
theorem uELoom_work3 {v0 v1 v2 v3 : Option AVal} {y : AVal} : upd (ELoom_work v0 v1 v2 v3) (Str.ofString "word") y = ELoom_work v0 v1 v2 (some y)  := (upd_env _ _ _).trans (congrArg env (by kernel_rfl))
noncomputable def ELoom_twin (v0 v1 : Option AVal) : Loc := env [(Str.ofString "self", v0), (Str.ofString "found", v1)]
theorem bELoom_twin {x0 : AVal} : bindA [Str.ofString "self"] [x0] = ELoom_twin (some x0) none :=
  (bind_put bind_nil).trans ((env_pads _ [Str.ofString "found"]).trans (show _ = ELoom_twin (some x0) none by kernel_rfl))
theorem lELoom_twin0 {K : Frag} {v1 : Option AVal} {y : AVal} {k : AVal → Prop} : nmA K (ELoom_twin  (some y) v1) (Str.ofString "self") k = k y := by kernel_rfl
theorem uELoom_twin0 {v0 v1 : Option AVal} {y : AVal} : upd (ELoom_twin v0 v1) (Str.ofString "self") y = ELoom_twin  (some y) v1 := (upd_env _ _ _).trans (congrArg env (by kernel_rfl))
theorem lELoom_twin1 {K : Frag} {v0 : Option AVal} {y : AVal} {k : AVal → Prop} : nmA K (ELoom_twin v0 (some y) ) (Str.ofString "found") k = k y := by kernel_rfl
theorem uELoom_twin1 {v0 v1 : Option AVal} {y : AVal} : upd (ELoom_twin v0 v1) (Str.ofString "found") y = ELoom_twin v0 (some y)  := (upd_env _ _ _).trans (congrArg env (by kernel_rfl))
theorem gELoom_twin_Loom {w : World} {v0 v1 : Option AVal} {k : AVal → Prop} : nmA (hd.heap_1 w.params) (ELoom_twin v0 v1) (Str.ofString "Loom") k = k (.val (.ref 191)) := (show _ = gvA (gval (hd.heap_1 w.params) (Str.ofString "Loom")) k by kernel_rfl).trans n_Loom
theorem gELoom_twin_list {w : World} {v0 v1 : Option AVal} {k : AVal → Prop} : nmA (hd.heap_1 w.params) (ELoom_twin v0 v1) (Str.ofString "list") k = k (.val (.type "list")) := (show _ = gvA (gval (hd.heap_1 w.params) (Str.ofString "list")) k by kernel_rfl).trans n_list
noncomputable def Ealone (v0 v1 v2 : Option AVal) : Loc := env [(Str.ofString "boxes", v1), (Str.ofString "row", v0), (Str.ofString "loom", v2)]
theorem bEalone {x0 x1 : AVal} : bindA [Str.ofString "row", Str.ofString "boxes"] [x0, x1] = Ealone (some x0) (some x1) none :=
  (bind_put (bind_put bind_nil)).trans ((env_pads _ [Str.ofString "loom"]).trans (show _ = Ealone (some x0) (some x1) none by kernel_rfl))
theorem lEalone0 {K : Frag} {v1 v2 : Option AVal} {y : AVal} {k : AVal → Prop} : nmA K (Ealone  (some y) v1 v2) (Str.ofString "row") k = k y := by kernel_rfl
theorem uEalone0 {v0 v1 v2 : Option AVal} {y : AVal} : upd (Ealone v0 v1 v2) (Str.ofString "row") y = Ealone  (some y) v1 v2 := (upd_env _ _ _).trans (congrArg env (by kernel_rfl))
theorem lEalone1 {K : Frag} {v0 v2 : Option AVal} {y : AVal} {k : AVal → Prop} : nmA K (Ealone v0 (some y) v2) (Str.ofString "boxes") k = k y := by kernel_rfl
theorem uEalone1 {v0 v1 v2 : Option AVal} {y : AVal} : upd (Ealone v0 v1 v2) (Str.ofString "boxes") y = Ealone v0 (some y) v2 := (upd_env _ _ _).trans (congrArg env (by kernel_rfl))
theorem lEalone2 {K : Frag} {v0 v1 : Option AVal} {y : AVal} {k : AVal → Prop} : nmA K (Ealone v0 v1 (some y) ) (Str.ofString "loom") k = k y := by kernel_rfl
theorem uEalone2 {v0 v1 v2 : Option AVal} {y : AVal} : upd (Ealone v0 v1 v2) (Str.ofString "loom") y = Ealone v0 v1 (some y)  := (upd_env _ _ _).trans (congrArg env (by kernel_rfl))
theorem gEalone_Loom {w : World} {v0 v1 v2 : Option AVal} {k : AVal → Prop} : nmA (hd.heap_1 w.params) (Ealone v0 v1 v2) (Str.ofString "Loom") k = k (.val (.ref 191)) := (show _ = gvA (gval (hd.heap_1 w.params) (Str.ofString "Loom")) k by kernel_rfl).trans n_Loom
noncomputable def Ewalked (v0 v1 v2 v3 v4 v5 : Option AVal) : Loc := env [(Str.ofString "order", v3), (Str.ofString "boxes", v2), (Str.ofString "others", v1), (Str.ofString "ones", v0), (Str.ofString "loom", v4), (Str.ofString "hand", v5)]
theorem bEwalked {x0 x1 x2 x3 : AVal} : bindA [Str.ofString "ones", Str.ofString "others", Str.ofString "boxes", Str.ofString "order"] [x0, x1, x2, x3] = Ewalked (some x0) (some x1) (some x2) (some x3) none none :=
  (bind_put (bind_put (bind_put (bind_put bind_nil)))).trans ((env_pads _ [Str.ofString "loom", Str.ofString "hand"]).trans (show _ = Ewalked (some x0) (some x1) (some x2) (some x3) none none by kernel_rfl))
theorem lEwalked0 {K : Frag} {v1 v2 v3 v4 v5 : Option AVal} {y : AVal} {k : AVal → Prop} : nmA K (Ewalked  (some y) v1 v2 v3 v4 v5) (Str.ofString "ones") k = k y := by kernel_rfl
theorem uEwalked0 {v0 v1 v2 v3 v4 v5 : Option AVal} {y : AVal} : upd (Ewalked v0 v1 v2 v3 v4 v5) (Str.ofString "ones") y = Ewalked  (some y) v1 v2 v3 v4 v5 := (upd_env _ _ _).trans (congrArg env (by kernel_rfl))
theorem lEwalked1 {K : Frag} {v0 v2 v3 v4 v5 : Option AVal} {y : AVal} {k : AVal → Prop} : nmA K (Ewalked v0 (some y) v2 v3 v4 v5) (Str.ofString "others") k = k y := by kernel_rfl
theorem uEwalked1 {v0 v1 v2 v3 v4 v5 : Option AVal} {y : AVal} : upd (Ewalked v0 v1 v2 v3 v4 v5) (Str.ofString "others") y = Ewalked v0 (some y) v2 v3 v4 v5 := (upd_env _ _ _).trans (congrArg env (by kernel_rfl))
theorem lEwalked2 {K : Frag} {v0 v1 v3 v4 v5 : Option AVal} {y : AVal} {k : AVal → Prop} : nmA K (Ewalked v0 v1 (some y) v3 v4 v5) (Str.ofString "boxes") k = k y := by kernel_rfl
theorem uEwalked2 {v0 v1 v2 v3 v4 v5 : Option AVal} {y : AVal} : upd (Ewalked v0 v1 v2 v3 v4 v5) (Str.ofString "boxes") y = Ewalked v0 v1 (some y) v3 v4 v5 := (upd_env _ _ _).trans (congrArg env (by kernel_rfl))
theorem lEwalked3 {K : Frag} {v0 v1 v2 v4 v5 : Option AVal} {y : AVal} {k : AVal → Prop} : nmA K (Ewalked v0 v1 v2 (some y) v4 v5) (Str.ofString "order") k = k y := by kernel_rfl
theorem uEwalked3 {v0 v1 v2 v3 v4 v5 : Option AVal} {y : AVal} : upd (Ewalked v0 v1 v2 v3 v4 v5) (Str.ofString "order") y = Ewalked v0 v1 v2 (some y) v4 v5 := (upd_env _ _ _).trans (congrArg env (by kernel_rfl))
theorem lEwalked4 {K : Frag} {v0 v1 v2 v3 v5 : Option AVal} {y : AVal} {k : AVal → Prop} : nmA K (Ewalked v0 v1 v2 v3 (some y) v5) (Str.ofString "loom") k = k y := by kernel_rfl
theorem uEwalked4 {v0 v1 v2 v3 v4 v5 : Option AVal} {y : AVal} : upd (Ewalked v0 v1 v2 v3 v4 v5) (Str.ofString "loom") y = Ewalked v0 v1 v2 v3 (some y) v5 := (upd_env _ _ _).trans (congrArg env (by kernel_rfl))
theorem lEwalked5 {K : Frag} {v0 v1 v2 v3 v4 : Option AVal} {y : AVal} {k : AVal → Prop} : nmA K (Ewalked v0 v1 v2 v3 v4 (some y) ) (Str.ofString "hand") k = k y := by kernel_rfl
theorem uEwalked5 {v0 v1 v2 v3 v4 v5 : Option AVal} {y : AVal} : upd (Ewalked v0 v1 v2 v3 v4 v5) (Str.ofString "hand") y = Ewalked v0 v1 v2 v3 v4 (some y)  := (upd_env _ _ _).trans (congrArg env (by kernel_rfl))
theorem gEwalked_Loom {w : World} {v0 v1 v2 v3 v4 v5 : Option AVal} {k : AVal → Prop} : nmA (hd.heap_1 w.params) (Ewalked v0 v1 v2 v3 v4 v5) (Str.ofString "Loom") k = k (.val (.ref 191)) := (show _ = gvA (gval (hd.heap_1 w.params) (Str.ofString "Loom")) k by kernel_rfl).trans n_Loom
theorem gEwalked_Waits {w : World} {v0 v1 v2 v3 v4 v5 : Option AVal} {k : AVal → Prop} : nmA (hd.heap_1 w.params) (Ewalked v0 v1 v2 v3 v4 v5) (Str.ofString "Waits") k = k (.val (.ref 109)) := (show _ = gvA (gval (hd.heap_1 w.params) (Str.ofString "Waits")) k by kernel_rfl).trans n_Waits
theorem gEwalked_walked {w : World} {v0 v1 v2 v3 v4 v5 : Option AVal} {k : AVal → Prop} : nmA (hd.heap_1 w.params) (Ewalked v0 v1 v2 v3 v4 v5) (Str.ofString "walked") k = k (.val (.ref 209)) := (show _ = gvA (gval (hd.heap_1 w.params) (Str.ofString "walked")) k by kernel_rfl).trans n_walked
theorem eEwalked_Waits {v0 v1 v2 v3 v4 v5 : Option AVal} : Ewalked v0 v1 v2 v3 v4 v5 (Str.ofString "Waits") = none := by kernel_rfl
noncomputable def Estrange (v0 v1 v2 v3 v4 v5 v6 v7 v8 v9 v10 v11 v12 : Option AVal) : Loc := env [(Str.ofString "boxes", v2), (Str.ofString "others", v1), (Str.ofString "ones", v0), (Str.ofString "loom", v3), (Str.ofString "step", v4), (Str.ofString "first", v5), (Str.ofString "second", v6), (Str.ofString "known", v7), (Str.ofString "todo", v8), (Str.ofString "here", v9), (Str.ofString "order", v10), (Str.ofString "hand", v11), (Str.ofString "next_one", v12)]
theorem bEstrange {x0 x1 x2 : AVal} : bindA [Str.ofString "ones", Str.ofString "others", Str.ofString "boxes"] [x0, x1, x2] = Estrange (some x0) (some x1) (some x2) none none none none none none none none none none :=
  (bind_put (bind_put (bind_put bind_nil))).trans ((env_pads _ [Str.ofString "loom", Str.ofString "step", Str.ofString "first", Str.ofString "second", Str.ofString "known", Str.ofString "todo", Str.ofString "here", Str.ofString "order", Str.ofString "hand", Str.ofString "next_one"]).trans (show _ = Estrange (some x0) (some x1) (some x2) none none none none none none none none none none by kernel_rfl))
theorem lEstrange0 {K : Frag} {v1 v2 v3 v4 v5 v6 v7 v8 v9 v10 v11 v12 : Option AVal} {y : AVal} {k : AVal → Prop} : nmA K (Estrange  (some y) v1 v2 v3 v4 v5 v6 v7 v8 v9 v10 v11 v12) (Str.ofString "ones") k = k y := by kernel_rfl
theorem uEstrange0 {v0 v1 v2 v3 v4 v5 v6 v7 v8 v9 v10 v11 v12 : Option AVal} {y : AVal} : upd (Estrange v0 v1 v2 v3 v4 v5 v6 v7 v8 v9 v10 v11 v12) (Str.ofString "ones") y = Estrange  (some y) v1 v2 v3 v4 v5 v6 v7 v8 v9 v10 v11 v12 := (upd_env _ _ _).trans (congrArg env (by kernel_rfl))
theorem lEstrange1 {K : Frag} {v0 v2 v3 v4 v5 v6 v7 v8 v9 v10 v11 v12 : Option AVal} {y : AVal} {k : AVal → Prop} : nmA K (Estrange v0 (some y) v2 v3 v4 v5 v6 v7 v8 v9 v10 v11 v12) (Str.ofString "others") k = k y := by kernel_rfl
theorem uEstrange1 {v0 v1 v2 v3 v4 v5 v6 v7 v8 v9 v10 v11 v12 : Option AVal} {y : AVal} : upd (Estrange v0 v1 v2 v3 v4 v5 v6 v7 v8 v9 v10 v11 v12) (Str.ofString "others") y = Estrange v0 (some y) v2 v3 v4 v5 v6 v7 v8 v9 v10 v11 v12 := (upd_env _ _ _).trans (congrArg env (by kernel_rfl))
theorem lEstrange2 {K : Frag} {v0 v1 v3 v4 v5 v6 v7 v8 v9 v10 v11 v12 : Option AVal} {y : AVal} {k : AVal → Prop} : nmA K (Estrange v0 v1 (some y) v3 v4 v5 v6 v7 v8 v9 v10 v11 v12) (Str.ofString "boxes") k = k y := by kernel_rfl
theorem uEstrange2 {v0 v1 v2 v3 v4 v5 v6 v7 v8 v9 v10 v11 v12 : Option AVal} {y : AVal} : upd (Estrange v0 v1 v2 v3 v4 v5 v6 v7 v8 v9 v10 v11 v12) (Str.ofString "boxes") y = Estrange v0 v1 (some y) v3 v4 v5 v6 v7 v8 v9 v10 v11 v12 := (upd_env _ _ _).trans (congrArg env (by kernel_rfl))
theorem lEstrange3 {K : Frag} {v0 v1 v2 v4 v5 v6 v7 v8 v9 v10 v11 v12 : Option AVal} {y : AVal} {k : AVal → Prop} : nmA K (Estrange v0 v1 v2 (some y) v4 v5 v6 v7 v8 v9 v10 v11 v12) (Str.ofString "loom") k = k y := by kernel_rfl
theorem uEstrange3 {v0 v1 v2 v3 v4 v5 v6 v7 v8 v9 v10 v11 v12 : Option AVal} {y : AVal} : upd (Estrange v0 v1 v2 v3 v4 v5 v6 v7 v8 v9 v10 v11 v12) (Str.ofString "loom") y = Estrange v0 v1 v2 (some y) v4 v5 v6 v7 v8 v9 v10 v11 v12 := (upd_env _ _ _).trans (congrArg env (by kernel_rfl))
theorem lEstrange4 {K : Frag} {v0 v1 v2 v3 v5 v6 v7 v8 v9 v10 v11 v12 : Option AVal} {y : AVal} {k : AVal → Prop} : nmA K (Estrange v0 v1 v2 v3 (some y) v5 v6 v7 v8 v9 v10 v11 v12) (Str.ofString "step") k = k y := by kernel_rfl
theorem uEstrange4 {v0 v1 v2 v3 v4 v5 v6 v7 v8 v9 v10 v11 v12 : Option AVal} {y : AVal} : upd (Estrange v0 v1 v2 v3 v4 v5 v6 v7 v8 v9 v10 v11 v12) (Str.ofString "step") y = Estrange v0 v1 v2 v3 (some y) v5 v6 v7 v8 v9 v10 v11 v12 := (upd_env _ _ _).trans (congrArg env (by kernel_rfl))
theorem lEstrange5 {K : Frag} {v0 v1 v2 v3 v4 v6 v7 v8 v9 v10 v11 v12 : Option AVal} {y : AVal} {k : AVal → Prop} : nmA K (Estrange v0 v1 v2 v3 v4 (some y) v6 v7 v8 v9 v10 v11 v12) (Str.ofString "first") k = k y := by kernel_rfl
theorem uEstrange5 {v0 v1 v2 v3 v4 v5 v6 v7 v8 v9 v10 v11 v12 : Option AVal} {y : AVal} : upd (Estrange v0 v1 v2 v3 v4 v5 v6 v7 v8 v9 v10 v11 v12) (Str.ofString "first") y = Estrange v0 v1 v2 v3 v4 (some y) v6 v7 v8 v9 v10 v11 v12 := (upd_env _ _ _).trans (congrArg env (by kernel_rfl))
theorem lEstrange6 {K : Frag} {v0 v1 v2 v3 v4 v5 v7 v8 v9 v10 v11 v12 : Option AVal} {y : AVal} {k : AVal → Prop} : nmA K (Estrange v0 v1 v2 v3 v4 v5 (some y) v7 v8 v9 v10 v11 v12) (Str.ofString "second") k = k y := by kernel_rfl
theorem uEstrange6 {v0 v1 v2 v3 v4 v5 v6 v7 v8 v9 v10 v11 v12 : Option AVal} {y : AVal} : upd (Estrange v0 v1 v2 v3 v4 v5 v6 v7 v8 v9 v10 v11 v12) (Str.ofString "second") y = Estrange v0 v1 v2 v3 v4 v5 (some y) v7 v8 v9 v10 v11 v12 := (upd_env _ _ _).trans (congrArg env (by kernel_rfl))
theorem lEstrange7 {K : Frag} {v0 v1 v2 v3 v4 v5 v6 v8 v9 v10 v11 v12 : Option AVal} {y : AVal} {k : AVal → Prop} : nmA K (Estrange v0 v1 v2 v3 v4 v5 v6 (some y) v8 v9 v10 v11 v12) (Str.ofString "known") k = k y := by kernel_rfl
theorem uEstrange7 {v0 v1 v2 v3 v4 v5 v6 v7 v8 v9 v10 v11 v12 : Option AVal} {y : AVal} : upd (Estrange v0 v1 v2 v3 v4 v5 v6 v7 v8 v9 v10 v11 v12) (Str.ofString "known") y = Estrange v0 v1 v2 v3 v4 v5 v6 (some y) v8 v9 v10 v11 v12 := (upd_env _ _ _).trans (congrArg env (by kernel_rfl))
theorem lEstrange8 {K : Frag} {v0 v1 v2 v3 v4 v5 v6 v7 v9 v10 v11 v12 : Option AVal} {y : AVal} {k : AVal → Prop} : nmA K (Estrange v0 v1 v2 v3 v4 v5 v6 v7 (some y) v9 v10 v11 v12) (Str.ofString "todo") k = k y := by kernel_rfl
theorem uEstrange8 {v0 v1 v2 v3 v4 v5 v6 v7 v8 v9 v10 v11 v12 : Option AVal} {y : AVal} : upd (Estrange v0 v1 v2 v3 v4 v5 v6 v7 v8 v9 v10 v11 v12) (Str.ofString "todo") y = Estrange v0 v1 v2 v3 v4 v5 v6 v7 (some y) v9 v10 v11 v12 := (upd_env _ _ _).trans (congrArg env (by kernel_rfl))
theorem lEstrange9 {K : Frag} {v0 v1 v2 v3 v4 v5 v6 v7 v8 v10 v11 v12 : Option AVal} {y : AVal} {k : AVal → Prop} : nmA K (Estrange v0 v1 v2 v3 v4 v5 v6 v7 v8 (some y) v10 v11 v12) (Str.ofString "here") k = k y := by kernel_rfl
theorem uEstrange9 {v0 v1 v2 v3 v4 v5 v6 v7 v8 v9 v10 v11 v12 : Option AVal} {y : AVal} : upd (Estrange v0 v1 v2 v3 v4 v5 v6 v7 v8 v9 v10 v11 v12) (Str.ofString "here") y = Estrange v0 v1 v2 v3 v4 v5 v6 v7 v8 (some y) v10 v11 v12 := (upd_env _ _ _).trans (congrArg env (by kernel_rfl))
theorem lEstrange10 {K : Frag} {v0 v1 v2 v3 v4 v5 v6 v7 v8 v9 v11 v12 : Option AVal} {y : AVal} {k : AVal → Prop} : nmA K (Estrange v0 v1 v2 v3 v4 v5 v6 v7 v8 v9 (some y) v11 v12) (Str.ofString "order") k = k y := by kernel_rfl
theorem uEstrange10 {v0 v1 v2 v3 v4 v5 v6 v7 v8 v9 v10 v11 v12 : Option AVal} {y : AVal} : upd (Estrange v0 v1 v2 v3 v4 v5 v6 v7 v8 v9 v10 v11 v12) (Str.ofString "order") y = Estrange v0 v1 v2 v3 v4 v5 v6 v7 v8 v9 (some y) v11 v12 := (upd_env _ _ _).trans (congrArg env (by kernel_rfl))
theorem lEstrange11 {K : Frag} {v0 v1 v2 v3 v4 v5 v6 v7 v8 v9 v10 v12 : Option AVal} {y : AVal} {k : AVal → Prop} : nmA K (Estrange v0 v1 v2 v3 v4 v5 v6 v7 v8 v9 v10 (some y) v12) (Str.ofString "hand") k = k y := by kernel_rfl
theorem uEstrange11 {v0 v1 v2 v3 v4 v5 v6 v7 v8 v9 v10 v11 v12 : Option AVal} {y : AVal} : upd (Estrange v0 v1 v2 v3 v4 v5 v6 v7 v8 v9 v10 v11 v12) (Str.ofString "hand") y = Estrange v0 v1 v2 v3 v4 v5 v6 v7 v8 v9 v10 (some y) v12 := (upd_env _ _ _).trans (congrArg env (by kernel_rfl))
theorem lEstrange12 {K : Frag} {v0 v1 v2 v3 v4 v5 v6 v7 v8 v9 v10 v11 : Option AVal} {y : AVal} {k : AVal → Prop} : nmA K (Estrange v0 v1 v2 v3 v4 v5 v6 v7 v8 v9 v10 v11 (some y) ) (Str.ofString "next_one") k = k y := by kernel_rfl
theorem uEstrange12 {v0 v1 v2 v3 v4 v5 v6 v7 v8 v9 v10 v11 v12 : Option AVal} {y : AVal} : upd (Estrange v0 v1 v2 v3 v4 v5 v6 v7 v8 v9 v10 v11 v12) (Str.ofString "next_one") y = Estrange v0 v1 v2 v3 v4 v5 v6 v7 v8 v9 v10 v11 (some y)  := (upd_env _ _ _).trans (congrArg env (by kernel_rfl))
theorem gEstrange_Loom {w : World} {v0 v1 v2 v3 v4 v5 v6 v7 v8 v9 v10 v11 v12 : Option AVal} {k : AVal → Prop} : nmA (hd.heap_1 w.params) (Estrange v0 v1 v2 v3 v4 v5 v6 v7 v8 v9 v10 v11 v12) (Str.ofString "Loom") k = k (.val (.ref 191)) := (show _ = gvA (gval (hd.heap_1 w.params) (Str.ofString "Loom")) k by kernel_rfl).trans n_Loom
theorem gEstrange_MOST_LOOKED {w : World} {v0 v1 v2 v3 v4 v5 v6 v7 v8 v9 v10 v11 v12 : Option AVal} {k : AVal → Prop} : nmA (hd.heap_1 w.params) (Estrange v0 v1 v2 v3 v4 v5 v6 v7 v8 v9 v10 v11 v12) (Str.ofString "MOST_LOOKED") k = k (.int 5) := (show _ = gvA (gval (hd.heap_1 w.params) (Str.ofString "MOST_LOOKED")) k by kernel_rfl).trans n_MOST_LOOKED
theorem gEstrange_TooMany {w : World} {v0 v1 v2 v3 v4 v5 v6 v7 v8 v9 v10 v11 v12 : Option AVal} {k : AVal → Prop} : nmA (hd.heap_1 w.params) (Estrange v0 v1 v2 v3 v4 v5 v6 v7 v8 v9 v10 v11 v12) (Str.ofString "TooMany") k = k (.val (.ref 37)) := (show _ = gvA (gval (hd.heap_1 w.params) (Str.ofString "TooMany")) k by kernel_rfl).trans n_TooMany
theorem gEstrange_alone {w : World} {v0 v1 v2 v3 v4 v5 v6 v7 v8 v9 v10 v11 v12 : Option AVal} {k : AVal → Prop} : nmA (hd.heap_1 w.params) (Estrange v0 v1 v2 v3 v4 v5 v6 v7 v8 v9 v10 v11 v12) (Str.ofString "alone") k = k (.val (.ref 202)) := (show _ = gvA (gval (hd.heap_1 w.params) (Str.ofString "alone")) k by kernel_rfl).trans n_alone
theorem gEstrange_len {w : World} {v0 v1 v2 v3 v4 v5 v6 v7 v8 v9 v10 v11 v12 : Option AVal} {k : AVal → Prop} : nmA (hd.heap_1 w.params) (Estrange v0 v1 v2 v3 v4 v5 v6 v7 v8 v9 v10 v11 v12) (Str.ofString "len") k = k (.val (.builtin "len")) := (show _ = gvA (gval (hd.heap_1 w.params) (Str.ofString "len")) k by kernel_rfl).trans n_len
theorem gEstrange_plain {w : World} {v0 v1 v2 v3 v4 v5 v6 v7 v8 v9 v10 v11 v12 : Option AVal} {k : AVal → Prop} : nmA (hd.heap_1 w.params) (Estrange v0 v1 v2 v3 v4 v5 v6 v7 v8 v9 v10 v11 v12) (Str.ofString "plain") k = k (.val (.ref 216)) := (show _ = gvA (gval (hd.heap_1 w.params) (Str.ofString "plain")) k by kernel_rfl).trans n_plain
theorem eEstrange_TooMany {v0 v1 v2 v3 v4 v5 v6 v7 v8 v9 v10 v11 v12 : Option AVal} : Estrange v0 v1 v2 v3 v4 v5 v6 v7 v8 v9 v10 v11 v12 (Str.ofString "TooMany") = none := by kernel_rfl
noncomputable def Elaw_cell_at (v0 v1 : Option AVal) : Loc := env [(Str.ofString "_law_k", v1), (Str.ofString "_law_script", v0)]
theorem bElaw_cell_at {x0 x1 : AVal} : bindA [Str.ofString "_law_script", Str.ofString "_law_k"] [x0, x1] = Elaw_cell_at (some x0) (some x1) :=
  (bind_put (bind_put bind_nil)).trans ((env_pads _ []).trans (show _ = Elaw_cell_at (some x0) (some x1) by kernel_rfl))
theorem lElaw_cell_at0 {K : Frag} {v1 : Option AVal} {y : AVal} {k : AVal → Prop} : nmA K (Elaw_cell_at  (some y) v1) (Str.ofString "_law_script") k = k y := by kernel_rfl
theorem uElaw_cell_at0 {v0 v1 : Option AVal} {y : AVal} : upd (Elaw_cell_at v0 v1) (Str.ofString "_law_script") y = Elaw_cell_at  (some y) v1 := (upd_env _ _ _).trans (congrArg env (by kernel_rfl))
theorem lElaw_cell_at1 {K : Frag} {v0 : Option AVal} {y : AVal} {k : AVal → Prop} : nmA K (Elaw_cell_at v0 (some y) ) (Str.ofString "_law_k") k = k y := by kernel_rfl
theorem uElaw_cell_at1 {v0 v1 : Option AVal} {y : AVal} : upd (Elaw_cell_at v0 v1) (Str.ofString "_law_k") y = Elaw_cell_at v0 (some y)  := (upd_env _ _ _).trans (congrArg env (by kernel_rfl))
theorem gElaw_cell_at_len {w : World} {v0 v1 : Option AVal} {k : AVal → Prop} : nmA (hd.heap_1 w.params) (Elaw_cell_at v0 v1) (Str.ofString "len") k = k (.val (.builtin "len")) := (show _ = gvA (gval (hd.heap_1 w.params) (Str.ofString "len")) k by kernel_rfl).trans n_len
noncomputable def Elaw_number_by (v0 : Option AVal) : Loc := env [(Str.ofString "_law_cell", v0)]
theorem bElaw_number_by {x0 : AVal} : bindA [Str.ofString "_law_cell"] [x0] = Elaw_number_by (some x0) :=
  (bind_put bind_nil).trans ((env_pads _ []).trans (show _ = Elaw_number_by (some x0) by kernel_rfl))
theorem lElaw_number_by0 {K : Frag} {y : AVal} {k : AVal → Prop} : nmA K (Elaw_number_by  (some y) ) (Str.ofString "_law_cell") k = k y := by kernel_rfl
theorem uElaw_number_by0 {v0 : Option AVal} {y : AVal} : upd (Elaw_number_by v0) (Str.ofString "_law_cell") y = Elaw_number_by  (some y)  := (upd_env _ _ _).trans (congrArg env (by kernel_rfl))
noncomputable def Elaw_step_by (v0 v1 v2 v3 : Option AVal) : Loc := env [(Str.ofString "_law_held", v2), (Str.ofString "_law_many", v1), (Str.ofString "_law_cell", v0), (Str.ofString "_law_word", v3)]
theorem bElaw_step_by {x0 x1 x2 : AVal} : bindA [Str.ofString "_law_cell", Str.ofString "_law_many", Str.ofString "_law_held"] [x0, x1, x2] = Elaw_step_by (some x0) (some x1) (some x2) none :=
  (bind_put (bind_put (bind_put bind_nil))).trans ((env_pads _ [Str.ofString "_law_word"]).trans (show _ = Elaw_step_by (some x0) (some x1) (some x2) none by kernel_rfl))
theorem lElaw_step_by0 {K : Frag} {v1 v2 v3 : Option AVal} {y : AVal} {k : AVal → Prop} : nmA K (Elaw_step_by  (some y) v1 v2 v3) (Str.ofString "_law_cell") k = k y := by kernel_rfl
theorem uElaw_step_by0 {v0 v1 v2 v3 : Option AVal} {y : AVal} : upd (Elaw_step_by v0 v1 v2 v3) (Str.ofString "_law_cell") y = Elaw_step_by  (some y) v1 v2 v3 := (upd_env _ _ _).trans (congrArg env (by kernel_rfl))
theorem lElaw_step_by1 {K : Frag} {v0 v2 v3 : Option AVal} {y : AVal} {k : AVal → Prop} : nmA K (Elaw_step_by v0 (some y) v2 v3) (Str.ofString "_law_many") k = k y := by kernel_rfl
theorem uElaw_step_by1 {v0 v1 v2 v3 : Option AVal} {y : AVal} : upd (Elaw_step_by v0 v1 v2 v3) (Str.ofString "_law_many") y = Elaw_step_by v0 (some y) v2 v3 := (upd_env _ _ _).trans (congrArg env (by kernel_rfl))
theorem lElaw_step_by2 {K : Frag} {v0 v1 v3 : Option AVal} {y : AVal} {k : AVal → Prop} : nmA K (Elaw_step_by v0 v1 (some y) v3) (Str.ofString "_law_held") k = k y := by kernel_rfl
theorem uElaw_step_by2 {v0 v1 v2 v3 : Option AVal} {y : AVal} : upd (Elaw_step_by v0 v1 v2 v3) (Str.ofString "_law_held") y = Elaw_step_by v0 v1 (some y) v3 := (upd_env _ _ _).trans (congrArg env (by kernel_rfl))
theorem lElaw_step_by3 {K : Frag} {v0 v1 v2 : Option AVal} {y : AVal} {k : AVal → Prop} : nmA K (Elaw_step_by v0 v1 v2 (some y) ) (Str.ofString "_law_word") k = k y := by kernel_rfl
theorem uElaw_step_by3 {v0 v1 v2 v3 : Option AVal} {y : AVal} : upd (Elaw_step_by v0 v1 v2 v3) (Str.ofString "_law_word") y = Elaw_step_by v0 v1 v2 (some y)  := (upd_env _ _ _).trans (congrArg env (by kernel_rfl))
theorem gElaw_step_by_law_number_by {w : World} {v0 v1 v2 v3 : Option AVal} {k : AVal → Prop} : nmA (hd.heap_1 w.params) (Elaw_step_by v0 v1 v2 v3) (Str.ofString "_law_number_by") k = k (.val (.ref 235)) := (show _ = gvA (gval (hd.heap_1 w.params) (Str.ofString "_law_number_by")) k by kernel_rfl).trans n_law_number_by
theorem gElaw_step_by_int {w : World} {v0 v1 v2 v3 : Option AVal} {k : AVal → Prop} : nmA (hd.heap_1 w.params) (Elaw_step_by v0 v1 v2 v3) (Str.ofString "int") k = k (.val (.type "int")) := (show _ = gvA (gval (hd.heap_1 w.params) (Str.ofString "int")) k by kernel_rfl).trans n_int
noncomputable def Elaw_cells (v0 v1 v2 v3 : Option AVal) : Loc := env [(Str.ofString "_law_size", v2), (Str.ofString "_law_start", v1), (Str.ofString "_law_script", v0), (Str.ofString "_law_k", v3)]
theorem bElaw_cells {x0 x1 x2 : AVal} : bindA [Str.ofString "_law_script", Str.ofString "_law_start", Str.ofString "_law_size"] [x0, x1, x2] = Elaw_cells (some x0) (some x1) (some x2) none :=
  (bind_put (bind_put (bind_put bind_nil))).trans ((env_pads _ [Str.ofString "_law_k"]).trans (show _ = Elaw_cells (some x0) (some x1) (some x2) none by kernel_rfl))
theorem lElaw_cells0 {K : Frag} {v1 v2 v3 : Option AVal} {y : AVal} {k : AVal → Prop} : nmA K (Elaw_cells  (some y) v1 v2 v3) (Str.ofString "_law_script") k = k y := by kernel_rfl
theorem uElaw_cells0 {v0 v1 v2 v3 : Option AVal} {y : AVal} : upd (Elaw_cells v0 v1 v2 v3) (Str.ofString "_law_script") y = Elaw_cells  (some y) v1 v2 v3 := (upd_env _ _ _).trans (congrArg env (by kernel_rfl))
theorem lElaw_cells1 {K : Frag} {v0 v2 v3 : Option AVal} {y : AVal} {k : AVal → Prop} : nmA K (Elaw_cells v0 (some y) v2 v3) (Str.ofString "_law_start") k = k y := by kernel_rfl
theorem uElaw_cells1 {v0 v1 v2 v3 : Option AVal} {y : AVal} : upd (Elaw_cells v0 v1 v2 v3) (Str.ofString "_law_start") y = Elaw_cells v0 (some y) v2 v3 := (upd_env _ _ _).trans (congrArg env (by kernel_rfl))
theorem lElaw_cells2 {K : Frag} {v0 v1 v3 : Option AVal} {y : AVal} {k : AVal → Prop} : nmA K (Elaw_cells v0 v1 (some y) v3) (Str.ofString "_law_size") k = k y := by kernel_rfl
theorem uElaw_cells2 {v0 v1 v2 v3 : Option AVal} {y : AVal} : upd (Elaw_cells v0 v1 v2 v3) (Str.ofString "_law_size") y = Elaw_cells v0 v1 (some y) v3 := (upd_env _ _ _).trans (congrArg env (by kernel_rfl))
theorem lElaw_cells3 {K : Frag} {v0 v1 v2 : Option AVal} {y : AVal} {k : AVal → Prop} : nmA K (Elaw_cells v0 v1 v2 (some y) ) (Str.ofString "_law_k") k = k y := by kernel_rfl
theorem uElaw_cells3 {v0 v1 v2 v3 : Option AVal} {y : AVal} : upd (Elaw_cells v0 v1 v2 v3) (Str.ofString "_law_k") y = Elaw_cells v0 v1 v2 (some y)  := (upd_env _ _ _).trans (congrArg env (by kernel_rfl))
theorem gElaw_cells_law_cell_at {w : World} {v0 v1 v2 v3 : Option AVal} {k : AVal → Prop} : nmA (hd.heap_1 w.params) (Elaw_cells v0 v1 v2 v3) (Str.ofString "_law_cell_at") k = k (.val (.ref 228)) := (show _ = gvA (gval (hd.heap_1 w.params) (Str.ofString "_law_cell_at")) k by kernel_rfl).trans n_law_cell_at
theorem gElaw_cells_range {w : World} {v0 v1 v2 v3 : Option AVal} {k : AVal → Prop} : nmA (hd.heap_1 w.params) (Elaw_cells v0 v1 v2 v3) (Str.ofString "range") k = k (.val (.type "range")) := (show _ = gvA (gval (hd.heap_1 w.params) (Str.ofString "range")) k by kernel_rfl).trans n_range
noncomputable def Elaw_row_by (v0 v1 v2 v3 v4 v5 v6 : Option AVal) : Loc := env [(Str.ofString "_law_keeps", v2), (Str.ofString "_law_many", v1), (Str.ofString "_law_cells_here", v0), (Str.ofString "_law_row", v3), (Str.ofString "_law_held", v4), (Str.ofString "_law_cell", v5), (Str.ofString "_law_step", v6)]
theorem bElaw_row_by {x0 x1 x2 : AVal} : bindA [Str.ofString "_law_cells_here", Str.ofString "_law_many", Str.ofString "_law_keeps"] [x0, x1, x2] = Elaw_row_by (some x0) (some x1) (some x2) none none none none :=
  (bind_put (bind_put (bind_put bind_nil))).trans ((env_pads _ [Str.ofString "_law_row", Str.ofString "_law_held", Str.ofString "_law_cell", Str.ofString "_law_step"]).trans (show _ = Elaw_row_by (some x0) (some x1) (some x2) none none none none by kernel_rfl))
theorem lElaw_row_by0 {K : Frag} {v1 v2 v3 v4 v5 v6 : Option AVal} {y : AVal} {k : AVal → Prop} : nmA K (Elaw_row_by  (some y) v1 v2 v3 v4 v5 v6) (Str.ofString "_law_cells_here") k = k y := by kernel_rfl
theorem uElaw_row_by0 {v0 v1 v2 v3 v4 v5 v6 : Option AVal} {y : AVal} : upd (Elaw_row_by v0 v1 v2 v3 v4 v5 v6) (Str.ofString "_law_cells_here") y = Elaw_row_by  (some y) v1 v2 v3 v4 v5 v6 := (upd_env _ _ _).trans (congrArg env (by kernel_rfl))
theorem lElaw_row_by1 {K : Frag} {v0 v2 v3 v4 v5 v6 : Option AVal} {y : AVal} {k : AVal → Prop} : nmA K (Elaw_row_by v0 (some y) v2 v3 v4 v5 v6) (Str.ofString "_law_many") k = k y := by kernel_rfl
theorem uElaw_row_by1 {v0 v1 v2 v3 v4 v5 v6 : Option AVal} {y : AVal} : upd (Elaw_row_by v0 v1 v2 v3 v4 v5 v6) (Str.ofString "_law_many") y = Elaw_row_by v0 (some y) v2 v3 v4 v5 v6 := (upd_env _ _ _).trans (congrArg env (by kernel_rfl))
theorem lElaw_row_by2 {K : Frag} {v0 v1 v3 v4 v5 v6 : Option AVal} {y : AVal} {k : AVal → Prop} : nmA K (Elaw_row_by v0 v1 (some y) v3 v4 v5 v6) (Str.ofString "_law_keeps") k = k y := by kernel_rfl
theorem uElaw_row_by2 {v0 v1 v2 v3 v4 v5 v6 : Option AVal} {y : AVal} : upd (Elaw_row_by v0 v1 v2 v3 v4 v5 v6) (Str.ofString "_law_keeps") y = Elaw_row_by v0 v1 (some y) v3 v4 v5 v6 := (upd_env _ _ _).trans (congrArg env (by kernel_rfl))
theorem lElaw_row_by3 {K : Frag} {v0 v1 v2 v4 v5 v6 : Option AVal} {y : AVal} {k : AVal → Prop} : nmA K (Elaw_row_by v0 v1 v2 (some y) v4 v5 v6) (Str.ofString "_law_row") k = k y := by kernel_rfl
theorem uElaw_row_by3 {v0 v1 v2 v3 v4 v5 v6 : Option AVal} {y : AVal} : upd (Elaw_row_by v0 v1 v2 v3 v4 v5 v6) (Str.ofString "_law_row") y = Elaw_row_by v0 v1 v2 (some y) v4 v5 v6 := (upd_env _ _ _).trans (congrArg env (by kernel_rfl))
theorem lElaw_row_by4 {K : Frag} {v0 v1 v2 v3 v5 v6 : Option AVal} {y : AVal} {k : AVal → Prop} : nmA K (Elaw_row_by v0 v1 v2 v3 (some y) v5 v6) (Str.ofString "_law_held") k = k y := by kernel_rfl
theorem uElaw_row_by4 {v0 v1 v2 v3 v4 v5 v6 : Option AVal} {y : AVal} : upd (Elaw_row_by v0 v1 v2 v3 v4 v5 v6) (Str.ofString "_law_held") y = Elaw_row_by v0 v1 v2 v3 (some y) v5 v6 := (upd_env _ _ _).trans (congrArg env (by kernel_rfl))
theorem lElaw_row_by5 {K : Frag} {v0 v1 v2 v3 v4 v6 : Option AVal} {y : AVal} {k : AVal → Prop} : nmA K (Elaw_row_by v0 v1 v2 v3 v4 (some y) v6) (Str.ofString "_law_cell") k = k y := by kernel_rfl
theorem uElaw_row_by5 {v0 v1 v2 v3 v4 v5 v6 : Option AVal} {y : AVal} : upd (Elaw_row_by v0 v1 v2 v3 v4 v5 v6) (Str.ofString "_law_cell") y = Elaw_row_by v0 v1 v2 v3 v4 (some y) v6 := (upd_env _ _ _).trans (congrArg env (by kernel_rfl))
theorem lElaw_row_by6 {K : Frag} {v0 v1 v2 v3 v4 v5 : Option AVal} {y : AVal} {k : AVal → Prop} : nmA K (Elaw_row_by v0 v1 v2 v3 v4 v5 (some y) ) (Str.ofString "_law_step") k = k y := by kernel_rfl
theorem uElaw_row_by6 {v0 v1 v2 v3 v4 v5 v6 : Option AVal} {y : AVal} : upd (Elaw_row_by v0 v1 v2 v3 v4 v5 v6) (Str.ofString "_law_step") y = Elaw_row_by v0 v1 v2 v3 v4 v5 (some y)  := (upd_env _ _ _).trans (congrArg env (by kernel_rfl))
theorem gElaw_row_by_law_step_by {w : World} {v0 v1 v2 v3 v4 v5 v6 : Option AVal} {k : AVal → Prop} : nmA (hd.heap_1 w.params) (Elaw_row_by v0 v1 v2 v3 v4 v5 v6) (Str.ofString "_law_step_by") k = k (.val (.ref 242)) := (show _ = gvA (gval (hd.heap_1 w.params) (Str.ofString "_law_step_by")) k by kernel_rfl).trans n_law_step_by
noncomputable def Elaw_can (v0 v1 v2 v3 v4 : Option AVal) : Loc := env [(Str.ofString "_law_hand", v1), (Str.ofString "_law_stand", v0), (Str.ofString "_law_row", v2), (Str.ofString "_law_word", v3), (Str.ofString "_law_step", v4)]
theorem bElaw_can {x0 x1 : AVal} : bindA [Str.ofString "_law_stand", Str.ofString "_law_hand"] [x0, x1] = Elaw_can (some x0) (some x1) none none none :=
  (bind_put (bind_put bind_nil)).trans ((env_pads _ [Str.ofString "_law_row", Str.ofString "_law_word", Str.ofString "_law_step"]).trans (show _ = Elaw_can (some x0) (some x1) none none none by kernel_rfl))
theorem lElaw_can0 {K : Frag} {v1 v2 v3 v4 : Option AVal} {y : AVal} {k : AVal → Prop} : nmA K (Elaw_can  (some y) v1 v2 v3 v4) (Str.ofString "_law_stand") k = k y := by kernel_rfl
theorem uElaw_can0 {v0 v1 v2 v3 v4 : Option AVal} {y : AVal} : upd (Elaw_can v0 v1 v2 v3 v4) (Str.ofString "_law_stand") y = Elaw_can  (some y) v1 v2 v3 v4 := (upd_env _ _ _).trans (congrArg env (by kernel_rfl))
theorem lElaw_can1 {K : Frag} {v0 v2 v3 v4 : Option AVal} {y : AVal} {k : AVal → Prop} : nmA K (Elaw_can v0 (some y) v2 v3 v4) (Str.ofString "_law_hand") k = k y := by kernel_rfl
theorem uElaw_can1 {v0 v1 v2 v3 v4 : Option AVal} {y : AVal} : upd (Elaw_can v0 v1 v2 v3 v4) (Str.ofString "_law_hand") y = Elaw_can v0 (some y) v2 v3 v4 := (upd_env _ _ _).trans (congrArg env (by kernel_rfl))
theorem lElaw_can2 {K : Frag} {v0 v1 v3 v4 : Option AVal} {y : AVal} {k : AVal → Prop} : nmA K (Elaw_can v0 v1 (some y) v3 v4) (Str.ofString "_law_row") k = k y := by kernel_rfl
theorem uElaw_can2 {v0 v1 v2 v3 v4 : Option AVal} {y : AVal} : upd (Elaw_can v0 v1 v2 v3 v4) (Str.ofString "_law_row") y = Elaw_can v0 v1 (some y) v3 v4 := (upd_env _ _ _).trans (congrArg env (by kernel_rfl))
theorem lElaw_can3 {K : Frag} {v0 v1 v2 v4 : Option AVal} {y : AVal} {k : AVal → Prop} : nmA K (Elaw_can v0 v1 v2 (some y) v4) (Str.ofString "_law_word") k = k y := by kernel_rfl
theorem uElaw_can3 {v0 v1 v2 v3 v4 : Option AVal} {y : AVal} : upd (Elaw_can v0 v1 v2 v3 v4) (Str.ofString "_law_word") y = Elaw_can v0 v1 v2 (some y) v4 := (upd_env _ _ _).trans (congrArg env (by kernel_rfl))
theorem lElaw_can4 {K : Frag} {v0 v1 v2 v3 : Option AVal} {y : AVal} {k : AVal → Prop} : nmA K (Elaw_can v0 v1 v2 v3 (some y) ) (Str.ofString "_law_step") k = k y := by kernel_rfl
theorem uElaw_can4 {v0 v1 v2 v3 v4 : Option AVal} {y : AVal} : upd (Elaw_can v0 v1 v2 v3 v4) (Str.ofString "_law_step") y = Elaw_can v0 v1 v2 v3 (some y)  := (upd_env _ _ _).trans (congrArg env (by kernel_rfl))
theorem gElaw_can_len {w : World} {v0 v1 v2 v3 v4 : Option AVal} {k : AVal → Prop} : nmA (hd.heap_1 w.params) (Elaw_can v0 v1 v2 v3 v4) (Str.ofString "len") k = k (.val (.builtin "len")) := (show _ = gvA (gval (hd.heap_1 w.params) (Str.ofString "len")) k by kernel_rfl).trans n_len
noncomputable def Elaw_end (v0 v1 v2 v3 v4 : Option AVal) : Loc := env [(Str.ofString "_law_order", v2), (Str.ofString "_law_rows", v1), (Str.ofString "_law_boxes", v0), (Str.ofString "_law_stand", v3), (Str.ofString "_law_hand", v4)]
theorem bElaw_end {x0 x1 x2 : AVal} : bindA [Str.ofString "_law_boxes", Str.ofString "_law_rows", Str.ofString "_law_order"] [x0, x1, x2] = Elaw_end (some x0) (some x1) (some x2) none none :=
  (bind_put (bind_put (bind_put bind_nil))).trans ((env_pads _ [Str.ofString "_law_stand", Str.ofString "_law_hand"]).trans (show _ = Elaw_end (some x0) (some x1) (some x2) none none by kernel_rfl))
theorem lElaw_end0 {K : Frag} {v1 v2 v3 v4 : Option AVal} {y : AVal} {k : AVal → Prop} : nmA K (Elaw_end  (some y) v1 v2 v3 v4) (Str.ofString "_law_boxes") k = k y := by kernel_rfl
theorem uElaw_end0 {v0 v1 v2 v3 v4 : Option AVal} {y : AVal} : upd (Elaw_end v0 v1 v2 v3 v4) (Str.ofString "_law_boxes") y = Elaw_end  (some y) v1 v2 v3 v4 := (upd_env _ _ _).trans (congrArg env (by kernel_rfl))
theorem lElaw_end1 {K : Frag} {v0 v2 v3 v4 : Option AVal} {y : AVal} {k : AVal → Prop} : nmA K (Elaw_end v0 (some y) v2 v3 v4) (Str.ofString "_law_rows") k = k y := by kernel_rfl
theorem uElaw_end1 {v0 v1 v2 v3 v4 : Option AVal} {y : AVal} : upd (Elaw_end v0 v1 v2 v3 v4) (Str.ofString "_law_rows") y = Elaw_end v0 (some y) v2 v3 v4 := (upd_env _ _ _).trans (congrArg env (by kernel_rfl))
theorem lElaw_end2 {K : Frag} {v0 v1 v3 v4 : Option AVal} {y : AVal} {k : AVal → Prop} : nmA K (Elaw_end v0 v1 (some y) v3 v4) (Str.ofString "_law_order") k = k y := by kernel_rfl
theorem uElaw_end2 {v0 v1 v2 v3 v4 : Option AVal} {y : AVal} : upd (Elaw_end v0 v1 v2 v3 v4) (Str.ofString "_law_order") y = Elaw_end v0 v1 (some y) v3 v4 := (upd_env _ _ _).trans (congrArg env (by kernel_rfl))
theorem lElaw_end3 {K : Frag} {v0 v1 v2 v4 : Option AVal} {y : AVal} {k : AVal → Prop} : nmA K (Elaw_end v0 v1 v2 (some y) v4) (Str.ofString "_law_stand") k = k y := by kernel_rfl
theorem uElaw_end3 {v0 v1 v2 v3 v4 : Option AVal} {y : AVal} : upd (Elaw_end v0 v1 v2 v3 v4) (Str.ofString "_law_stand") y = Elaw_end v0 v1 v2 (some y) v4 := (upd_env _ _ _).trans (congrArg env (by kernel_rfl))
theorem lElaw_end4 {K : Frag} {v0 v1 v2 v3 : Option AVal} {y : AVal} {k : AVal → Prop} : nmA K (Elaw_end v0 v1 v2 v3 (some y) ) (Str.ofString "_law_hand") k = k y := by kernel_rfl
theorem uElaw_end4 {v0 v1 v2 v3 v4 : Option AVal} {y : AVal} : upd (Elaw_end v0 v1 v2 v3 v4) (Str.ofString "_law_hand") y = Elaw_end v0 v1 v2 v3 (some y)  := (upd_env _ _ _).trans (congrArg env (by kernel_rfl))
theorem gElaw_end_law_can {w : World} {v0 v1 v2 v3 v4 : Option AVal} {k : AVal → Prop} : nmA (hd.heap_1 w.params) (Elaw_end v0 v1 v2 v3 v4) (Str.ofString "_law_can") k = k (.val (.ref 259)) := (show _ = gvA (gval (hd.heap_1 w.params) (Str.ofString "_law_can")) k by kernel_rfl).trans n_law_can
theorem gElaw_end_law_done {w : World} {v0 v1 v2 v3 v4 : Option AVal} {k : AVal → Prop} : nmA (hd.heap_1 w.params) (Elaw_end v0 v1 v2 v3 v4) (Str.ofString "_law_done") k = k (.val (.ref 266)) := (show _ = gvA (gval (hd.heap_1 w.params) (Str.ofString "_law_done")) k by kernel_rfl).trans n_law_done
theorem gElaw_end_bool {w : World} {v0 v1 v2 v3 v4 : Option AVal} {k : AVal → Prop} : nmA (hd.heap_1 w.params) (Elaw_end v0 v1 v2 v3 v4) (Str.ofString "bool") k = k (.val (.type "bool")) := (show _ = gvA (gval (hd.heap_1 w.params) (Str.ofString "bool")) k by kernel_rfl).trans n_bool
theorem gElaw_end_int {w : World} {v0 v1 v2 v3 v4 : Option AVal} {k : AVal → Prop} : nmA (hd.heap_1 w.params) (Elaw_end v0 v1 v2 v3 v4) (Str.ofString "int") k = k (.val (.type "int")) := (show _ = gvA (gval (hd.heap_1 w.params) (Str.ofString "int")) k by kernel_rfl).trans n_int
theorem gElaw_end_isinstance {w : World} {v0 v1 v2 v3 v4 : Option AVal} {k : AVal → Prop} : nmA (hd.heap_1 w.params) (Elaw_end v0 v1 v2 v3 v4) (Str.ofString "isinstance") k = k (.val (.builtin "isinstance")) := (show _ = gvA (gval (hd.heap_1 w.params) (Str.ofString "isinstance")) k by kernel_rfl).trans n_isinstance
theorem gElaw_end_len {w : World} {v0 v1 v2 v3 v4 : Option AVal} {k : AVal → Prop} : nmA (hd.heap_1 w.params) (Elaw_end v0 v1 v2 v3 v4) (Str.ofString "len") k = k (.val (.builtin "len")) := (show _ = gvA (gval (hd.heap_1 w.params) (Str.ofString "len")) k by kernel_rfl).trans n_len
theorem gElaw_end_list {w : World} {v0 v1 v2 v3 v4 : Option AVal} {k : AVal → Prop} : nmA (hd.heap_1 w.params) (Elaw_end v0 v1 v2 v3 v4) (Str.ofString "list") k = k (.val (.type "list")) := (show _ = gvA (gval (hd.heap_1 w.params) (Str.ofString "list")) k by kernel_rfl).trans n_list
noncomputable def Elaw_order_by (v0 v1 v2 v3 v4 v5 v6 v7 : Option AVal) : Loc := env [(Str.ofString "_law_rows", v2), (Str.ofString "_law_boxes", v1), (Str.ofString "_law_cells_here", v0), (Str.ofString "_law_stand", v3), (Str.ofString "_law_order", v4), (Str.ofString "_law_cell", v5), (Str.ofString "_law_hand", v6), (Str.ofString "_law_turn", v7)]
theorem bElaw_order_by {x0 x1 x2 : AVal} : bindA [Str.ofString "_law_cells_here", Str.ofString "_law_boxes", Str.ofString "_law_rows"] [x0, x1, x2] = Elaw_order_by (some x0) (some x1) (some x2) none none none none none :=
  (bind_put (bind_put (bind_put bind_nil))).trans ((env_pads _ [Str.ofString "_law_stand", Str.ofString "_law_order", Str.ofString "_law_cell", Str.ofString "_law_hand", Str.ofString "_law_turn"]).trans (show _ = Elaw_order_by (some x0) (some x1) (some x2) none none none none none by kernel_rfl))
theorem lElaw_order_by0 {K : Frag} {v1 v2 v3 v4 v5 v6 v7 : Option AVal} {y : AVal} {k : AVal → Prop} : nmA K (Elaw_order_by  (some y) v1 v2 v3 v4 v5 v6 v7) (Str.ofString "_law_cells_here") k = k y := by kernel_rfl
theorem uElaw_order_by0 {v0 v1 v2 v3 v4 v5 v6 v7 : Option AVal} {y : AVal} : upd (Elaw_order_by v0 v1 v2 v3 v4 v5 v6 v7) (Str.ofString "_law_cells_here") y = Elaw_order_by  (some y) v1 v2 v3 v4 v5 v6 v7 := (upd_env _ _ _).trans (congrArg env (by kernel_rfl))
theorem lElaw_order_by1 {K : Frag} {v0 v2 v3 v4 v5 v6 v7 : Option AVal} {y : AVal} {k : AVal → Prop} : nmA K (Elaw_order_by v0 (some y) v2 v3 v4 v5 v6 v7) (Str.ofString "_law_boxes") k = k y := by kernel_rfl
theorem uElaw_order_by1 {v0 v1 v2 v3 v4 v5 v6 v7 : Option AVal} {y : AVal} : upd (Elaw_order_by v0 v1 v2 v3 v4 v5 v6 v7) (Str.ofString "_law_boxes") y = Elaw_order_by v0 (some y) v2 v3 v4 v5 v6 v7 := (upd_env _ _ _).trans (congrArg env (by kernel_rfl))
theorem lElaw_order_by2 {K : Frag} {v0 v1 v3 v4 v5 v6 v7 : Option AVal} {y : AVal} {k : AVal → Prop} : nmA K (Elaw_order_by v0 v1 (some y) v3 v4 v5 v6 v7) (Str.ofString "_law_rows") k = k y := by kernel_rfl
theorem uElaw_order_by2 {v0 v1 v2 v3 v4 v5 v6 v7 : Option AVal} {y : AVal} : upd (Elaw_order_by v0 v1 v2 v3 v4 v5 v6 v7) (Str.ofString "_law_rows") y = Elaw_order_by v0 v1 (some y) v3 v4 v5 v6 v7 := (upd_env _ _ _).trans (congrArg env (by kernel_rfl))
theorem lElaw_order_by3 {K : Frag} {v0 v1 v2 v4 v5 v6 v7 : Option AVal} {y : AVal} {k : AVal → Prop} : nmA K (Elaw_order_by v0 v1 v2 (some y) v4 v5 v6 v7) (Str.ofString "_law_stand") k = k y := by kernel_rfl
theorem uElaw_order_by3 {v0 v1 v2 v3 v4 v5 v6 v7 : Option AVal} {y : AVal} : upd (Elaw_order_by v0 v1 v2 v3 v4 v5 v6 v7) (Str.ofString "_law_stand") y = Elaw_order_by v0 v1 v2 (some y) v4 v5 v6 v7 := (upd_env _ _ _).trans (congrArg env (by kernel_rfl))
theorem lElaw_order_by4 {K : Frag} {v0 v1 v2 v3 v5 v6 v7 : Option AVal} {y : AVal} {k : AVal → Prop} : nmA K (Elaw_order_by v0 v1 v2 v3 (some y) v5 v6 v7) (Str.ofString "_law_order") k = k y := by kernel_rfl
theorem uElaw_order_by4 {v0 v1 v2 v3 v4 v5 v6 v7 : Option AVal} {y : AVal} : upd (Elaw_order_by v0 v1 v2 v3 v4 v5 v6 v7) (Str.ofString "_law_order") y = Elaw_order_by v0 v1 v2 v3 (some y) v5 v6 v7 := (upd_env _ _ _).trans (congrArg env (by kernel_rfl))
theorem lElaw_order_by5 {K : Frag} {v0 v1 v2 v3 v4 v6 v7 : Option AVal} {y : AVal} {k : AVal → Prop} : nmA K (Elaw_order_by v0 v1 v2 v3 v4 (some y) v6 v7) (Str.ofString "_law_cell") k = k y := by kernel_rfl
theorem uElaw_order_by5 {v0 v1 v2 v3 v4 v5 v6 v7 : Option AVal} {y : AVal} : upd (Elaw_order_by v0 v1 v2 v3 v4 v5 v6 v7) (Str.ofString "_law_cell") y = Elaw_order_by v0 v1 v2 v3 v4 (some y) v6 v7 := (upd_env _ _ _).trans (congrArg env (by kernel_rfl))
theorem lElaw_order_by6 {K : Frag} {v0 v1 v2 v3 v4 v5 v7 : Option AVal} {y : AVal} {k : AVal → Prop} : nmA K (Elaw_order_by v0 v1 v2 v3 v4 v5 (some y) v7) (Str.ofString "_law_hand") k = k y := by kernel_rfl
theorem uElaw_order_by6 {v0 v1 v2 v3 v4 v5 v6 v7 : Option AVal} {y : AVal} : upd (Elaw_order_by v0 v1 v2 v3 v4 v5 v6 v7) (Str.ofString "_law_hand") y = Elaw_order_by v0 v1 v2 v3 v4 v5 (some y) v7 := (upd_env _ _ _).trans (congrArg env (by kernel_rfl))
theorem lElaw_order_by7 {K : Frag} {v0 v1 v2 v3 v4 v5 v6 : Option AVal} {y : AVal} {k : AVal → Prop} : nmA K (Elaw_order_by v0 v1 v2 v3 v4 v5 v6 (some y) ) (Str.ofString "_law_turn") k = k y := by kernel_rfl
theorem uElaw_order_by7 {v0 v1 v2 v3 v4 v5 v6 v7 : Option AVal} {y : AVal} : upd (Elaw_order_by v0 v1 v2 v3 v4 v5 v6 v7) (Str.ofString "_law_turn") y = Elaw_order_by v0 v1 v2 v3 v4 v5 v6 (some y)  := (upd_env _ _ _).trans (congrArg env (by kernel_rfl))
theorem gElaw_order_by_law_can {w : World} {v0 v1 v2 v3 v4 v5 v6 v7 : Option AVal} {k : AVal → Prop} : nmA (hd.heap_1 w.params) (Elaw_order_by v0 v1 v2 v3 v4 v5 v6 v7) (Str.ofString "_law_can") k = k (.val (.ref 259)) := (show _ = gvA (gval (hd.heap_1 w.params) (Str.ofString "_law_can")) k by kernel_rfl).trans n_law_can
theorem gElaw_order_by_law_done {w : World} {v0 v1 v2 v3 v4 v5 v6 v7 : Option AVal} {k : AVal → Prop} : nmA (hd.heap_1 w.params) (Elaw_order_by v0 v1 v2 v3 v4 v5 v6 v7) (Str.ofString "_law_done") k = k (.val (.ref 266)) := (show _ = gvA (gval (hd.heap_1 w.params) (Str.ofString "_law_done")) k by kernel_rfl).trans n_law_done
theorem gElaw_order_by_int {w : World} {v0 v1 v2 v3 v4 v5 v6 v7 : Option AVal} {k : AVal → Prop} : nmA (hd.heap_1 w.params) (Elaw_order_by v0 v1 v2 v3 v4 v5 v6 v7) (Str.ofString "int") k = k (.val (.type "int")) := (show _ = gvA (gval (hd.heap_1 w.params) (Str.ofString "int")) k by kernel_rfl).trans n_int
theorem gElaw_order_by_len {w : World} {v0 v1 v2 v3 v4 v5 v6 v7 : Option AVal} {k : AVal → Prop} : nmA (hd.heap_1 w.params) (Elaw_order_by v0 v1 v2 v3 v4 v5 v6 v7) (Str.ofString "len") k = k (.val (.builtin "len")) := (show _ = gvA (gval (hd.heap_1 w.params) (Str.ofString "len")) k by kernel_rfl).trans n_len
theorem gElaw_order_by_list {w : World} {v0 v1 v2 v3 v4 v5 v6 v7 : Option AVal} {k : AVal → Prop} : nmA (hd.heap_1 w.params) (Elaw_order_by v0 v1 v2 v3 v4 v5 v6 v7) (Str.ofString "list") k = k (.val (.type "list")) := (show _ = gvA (gval (hd.heap_1 w.params) (Str.ofString "list")) k by kernel_rfl).trans n_list
theorem gElaw_order_by_range {w : World} {v0 v1 v2 v3 v4 v5 v6 v7 : Option AVal} {k : AVal → Prop} : nmA (hd.heap_1 w.params) (Elaw_order_by v0 v1 v2 v3 v4 v5 v6 v7) (Str.ofString "range") k = k (.val (.type "range")) := (show _ = gvA (gval (hd.heap_1 w.params) (Str.ofString "range")) k by kernel_rfl).trans n_range
noncomputable def Elaw_all_plain (v0 v1 v2 v3 v4 v5 v6 : Option AVal) : Loc := env [(Str.ofString "_law_due", v3), (Str.ofString "_law_rows", v2), (Str.ofString "_law_boxes", v1), (Str.ofString "_law_cells_here", v0), (Str.ofString "_law_turn", v4), (Str.ofString "_law_end_here", v5), (Str.ofString "_law_cell", v6)]
theorem bElaw_all_plain {x0 x1 x2 x3 : AVal} : bindA [Str.ofString "_law_cells_here", Str.ofString "_law_boxes", Str.ofString "_law_rows", Str.ofString "_law_due"] [x0, x1, x2, x3] = Elaw_all_plain (some x0) (some x1) (some x2) (some x3) none none none :=
  (bind_put (bind_put (bind_put (bind_put bind_nil)))).trans ((env_pads _ [Str.ofString "_law_turn", Str.ofString "_law_end_here", Str.ofString "_law_cell"]).trans (show _ = Elaw_all_plain (some x0) (some x1) (some x2) (some x3) none none none by kernel_rfl))
theorem lElaw_all_plain0 {K : Frag} {v1 v2 v3 v4 v5 v6 : Option AVal} {y : AVal} {k : AVal → Prop} : nmA K (Elaw_all_plain  (some y) v1 v2 v3 v4 v5 v6) (Str.ofString "_law_cells_here") k = k y := by kernel_rfl
theorem uElaw_all_plain0 {v0 v1 v2 v3 v4 v5 v6 : Option AVal} {y : AVal} : upd (Elaw_all_plain v0 v1 v2 v3 v4 v5 v6) (Str.ofString "_law_cells_here") y = Elaw_all_plain  (some y) v1 v2 v3 v4 v5 v6 := (upd_env _ _ _).trans (congrArg env (by kernel_rfl))
theorem lElaw_all_plain1 {K : Frag} {v0 v2 v3 v4 v5 v6 : Option AVal} {y : AVal} {k : AVal → Prop} : nmA K (Elaw_all_plain v0 (some y) v2 v3 v4 v5 v6) (Str.ofString "_law_boxes") k = k y := by kernel_rfl
theorem uElaw_all_plain1 {v0 v1 v2 v3 v4 v5 v6 : Option AVal} {y : AVal} : upd (Elaw_all_plain v0 v1 v2 v3 v4 v5 v6) (Str.ofString "_law_boxes") y = Elaw_all_plain v0 (some y) v2 v3 v4 v5 v6 := (upd_env _ _ _).trans (congrArg env (by kernel_rfl))
theorem lElaw_all_plain2 {K : Frag} {v0 v1 v3 v4 v5 v6 : Option AVal} {y : AVal} {k : AVal → Prop} : nmA K (Elaw_all_plain v0 v1 (some y) v3 v4 v5 v6) (Str.ofString "_law_rows") k = k y := by kernel_rfl
theorem uElaw_all_plain2 {v0 v1 v2 v3 v4 v5 v6 : Option AVal} {y : AVal} : upd (Elaw_all_plain v0 v1 v2 v3 v4 v5 v6) (Str.ofString "_law_rows") y = Elaw_all_plain v0 v1 (some y) v3 v4 v5 v6 := (upd_env _ _ _).trans (congrArg env (by kernel_rfl))
theorem lElaw_all_plain3 {K : Frag} {v0 v1 v2 v4 v5 v6 : Option AVal} {y : AVal} {k : AVal → Prop} : nmA K (Elaw_all_plain v0 v1 v2 (some y) v4 v5 v6) (Str.ofString "_law_due") k = k y := by kernel_rfl
theorem uElaw_all_plain3 {v0 v1 v2 v3 v4 v5 v6 : Option AVal} {y : AVal} : upd (Elaw_all_plain v0 v1 v2 v3 v4 v5 v6) (Str.ofString "_law_due") y = Elaw_all_plain v0 v1 v2 (some y) v4 v5 v6 := (upd_env _ _ _).trans (congrArg env (by kernel_rfl))
theorem lElaw_all_plain4 {K : Frag} {v0 v1 v2 v3 v5 v6 : Option AVal} {y : AVal} {k : AVal → Prop} : nmA K (Elaw_all_plain v0 v1 v2 v3 (some y) v5 v6) (Str.ofString "_law_turn") k = k y := by kernel_rfl
theorem uElaw_all_plain4 {v0 v1 v2 v3 v4 v5 v6 : Option AVal} {y : AVal} : upd (Elaw_all_plain v0 v1 v2 v3 v4 v5 v6) (Str.ofString "_law_turn") y = Elaw_all_plain v0 v1 v2 v3 (some y) v5 v6 := (upd_env _ _ _).trans (congrArg env (by kernel_rfl))
theorem lElaw_all_plain5 {K : Frag} {v0 v1 v2 v3 v4 v6 : Option AVal} {y : AVal} {k : AVal → Prop} : nmA K (Elaw_all_plain v0 v1 v2 v3 v4 (some y) v6) (Str.ofString "_law_end_here") k = k y := by kernel_rfl
theorem uElaw_all_plain5 {v0 v1 v2 v3 v4 v5 v6 : Option AVal} {y : AVal} : upd (Elaw_all_plain v0 v1 v2 v3 v4 v5 v6) (Str.ofString "_law_end_here") y = Elaw_all_plain v0 v1 v2 v3 v4 (some y) v6 := (upd_env _ _ _).trans (congrArg env (by kernel_rfl))
theorem lElaw_all_plain6 {K : Frag} {v0 v1 v2 v3 v4 v5 : Option AVal} {y : AVal} {k : AVal → Prop} : nmA K (Elaw_all_plain v0 v1 v2 v3 v4 v5 (some y) ) (Str.ofString "_law_cell") k = k y := by kernel_rfl
theorem uElaw_all_plain6 {v0 v1 v2 v3 v4 v5 v6 : Option AVal} {y : AVal} : upd (Elaw_all_plain v0 v1 v2 v3 v4 v5 v6) (Str.ofString "_law_cell") y = Elaw_all_plain v0 v1 v2 v3 v4 v5 (some y)  := (upd_env _ _ _).trans (congrArg env (by kernel_rfl))
theorem gElaw_all_plain_law_end {w : World} {v0 v1 v2 v3 v4 v5 v6 : Option AVal} {k : AVal → Prop} : nmA (hd.heap_1 w.params) (Elaw_all_plain v0 v1 v2 v3 v4 v5 v6) (Str.ofString "_law_end") k = k (.val (.ref 273)) := (show _ = gvA (gval (hd.heap_1 w.params) (Str.ofString "_law_end")) k by kernel_rfl).trans n_law_end
theorem gElaw_all_plain_law_order_by {w : World} {v0 v1 v2 v3 v4 v5 v6 : Option AVal} {k : AVal → Prop} : nmA (hd.heap_1 w.params) (Elaw_all_plain v0 v1 v2 v3 v4 v5 v6) (Str.ofString "_law_order_by") k = k (.val (.ref 280)) := (show _ = gvA (gval (hd.heap_1 w.params) (Str.ofString "_law_order_by")) k by kernel_rfl).trans n_law_order_by
theorem gElaw_all_plain_range {w : World} {v0 v1 v2 v3 v4 v5 v6 : Option AVal} {k : AVal → Prop} : nmA (hd.heap_1 w.params) (Elaw_all_plain v0 v1 v2 v3 v4 v5 v6) (Str.ofString "range") k = k (.val (.type "range")) := (show _ = gvA (gval (hd.heap_1 w.params) (Str.ofString "range")) k by kernel_rfl).trans n_range
noncomputable def Elaw_refused (v0 v1 v2 : Option AVal) : Loc := env [(Str.ofString "_law_boxes", v2), (Str.ofString "_law_others", v1), (Str.ofString "_law_ones", v0)]
theorem bElaw_refused {x0 x1 x2 : AVal} : bindA [Str.ofString "_law_ones", Str.ofString "_law_others", Str.ofString "_law_boxes"] [x0, x1, x2] = Elaw_refused (some x0) (some x1) (some x2) :=
  (bind_put (bind_put (bind_put bind_nil))).trans ((env_pads _ []).trans (show _ = Elaw_refused (some x0) (some x1) (some x2) by kernel_rfl))
theorem lElaw_refused0 {K : Frag} {v1 v2 : Option AVal} {y : AVal} {k : AVal → Prop} : nmA K (Elaw_refused  (some y) v1 v2) (Str.ofString "_law_ones") k = k y := by kernel_rfl
theorem uElaw_refused0 {v0 v1 v2 : Option AVal} {y : AVal} : upd (Elaw_refused v0 v1 v2) (Str.ofString "_law_ones") y = Elaw_refused  (some y) v1 v2 := (upd_env _ _ _).trans (congrArg env (by kernel_rfl))
theorem lElaw_refused1 {K : Frag} {v0 v2 : Option AVal} {y : AVal} {k : AVal → Prop} : nmA K (Elaw_refused v0 (some y) v2) (Str.ofString "_law_others") k = k y := by kernel_rfl
theorem uElaw_refused1 {v0 v1 v2 : Option AVal} {y : AVal} : upd (Elaw_refused v0 v1 v2) (Str.ofString "_law_others") y = Elaw_refused v0 (some y) v2 := (upd_env _ _ _).trans (congrArg env (by kernel_rfl))
theorem lElaw_refused2 {K : Frag} {v0 v1 : Option AVal} {y : AVal} {k : AVal → Prop} : nmA K (Elaw_refused v0 v1 (some y) ) (Str.ofString "_law_boxes") k = k y := by kernel_rfl
theorem uElaw_refused2 {v0 v1 v2 : Option AVal} {y : AVal} : upd (Elaw_refused v0 v1 v2) (Str.ofString "_law_boxes") y = Elaw_refused v0 v1 (some y)  := (upd_env _ _ _).trans (congrArg env (by kernel_rfl))
theorem gElaw_refused_Again {w : World} {v0 v1 v2 : Option AVal} {k : AVal → Prop} : nmA (hd.heap_1 w.params) (Elaw_refused v0 v1 v2) (Str.ofString "Again") k = k (.val (.ref 73)) := (show _ = gvA (gval (hd.heap_1 w.params) (Str.ofString "Again")) k by kernel_rfl).trans n_Again
theorem gElaw_refused_NotHeld {w : World} {v0 v1 v2 : Option AVal} {k : AVal → Prop} : nmA (hd.heap_1 w.params) (Elaw_refused v0 v1 v2) (Str.ofString "NotHeld") k = k (.val (.ref 85)) := (show _ = gvA (gval (hd.heap_1 w.params) (Str.ofString "NotHeld")) k by kernel_rfl).trans n_NotHeld
theorem gElaw_refused_TooMany {w : World} {v0 v1 v2 : Option AVal} {k : AVal → Prop} : nmA (hd.heap_1 w.params) (Elaw_refused v0 v1 v2) (Str.ofString "TooMany") k = k (.val (.ref 37)) := (show _ = gvA (gval (hd.heap_1 w.params) (Str.ofString "TooMany")) k by kernel_rfl).trans n_TooMany
theorem gElaw_refused_strange {w : World} {v0 v1 v2 : Option AVal} {k : AVal → Prop} : nmA (hd.heap_1 w.params) (Elaw_refused v0 v1 v2) (Str.ofString "strange") k = k (.val (.ref 221)) := (show _ = gvA (gval (hd.heap_1 w.params) (Str.ofString "strange")) k by kernel_rfl).trans n_strange
theorem eElaw_refused_TooMany {v0 v1 v2 : Option AVal} : Elaw_refused v0 v1 v2 (Str.ofString "TooMany") = none := by kernel_rfl
theorem eElaw_refused_Again {v0 v1 v2 : Option AVal} : Elaw_refused v0 v1 v2 (Str.ofString "Again") = none := by kernel_rfl
theorem eElaw_refused_NotHeld {v0 v1 v2 : Option AVal} : Elaw_refused v0 v1 v2 (Str.ofString "NotHeld") = none := by kernel_rfl
noncomputable def Elaw_wrong (v0 v1 v2 : Option AVal) : Loc := env [(Str.ofString "_law_row", v0), (Str.ofString "_law_held", v1), (Str.ofString "_law_step", v2)]
theorem bElaw_wrong {x0 : AVal} : bindA [Str.ofString "_law_row"] [x0] = Elaw_wrong (some x0) none none :=
  (bind_put bind_nil).trans ((env_pads _ [Str.ofString "_law_held", Str.ofString "_law_step"]).trans (show _ = Elaw_wrong (some x0) none none by kernel_rfl))
theorem lElaw_wrong0 {K : Frag} {v1 v2 : Option AVal} {y : AVal} {k : AVal → Prop} : nmA K (Elaw_wrong  (some y) v1 v2) (Str.ofString "_law_row") k = k y := by kernel_rfl
theorem uElaw_wrong0 {v0 v1 v2 : Option AVal} {y : AVal} : upd (Elaw_wrong v0 v1 v2) (Str.ofString "_law_row") y = Elaw_wrong  (some y) v1 v2 := (upd_env _ _ _).trans (congrArg env (by kernel_rfl))
theorem lElaw_wrong1 {K : Frag} {v0 v2 : Option AVal} {y : AVal} {k : AVal → Prop} : nmA K (Elaw_wrong v0 (some y) v2) (Str.ofString "_law_held") k = k y := by kernel_rfl
theorem uElaw_wrong1 {v0 v1 v2 : Option AVal} {y : AVal} : upd (Elaw_wrong v0 v1 v2) (Str.ofString "_law_held") y = Elaw_wrong v0 (some y) v2 := (upd_env _ _ _).trans (congrArg env (by kernel_rfl))
theorem lElaw_wrong2 {K : Frag} {v0 v1 : Option AVal} {y : AVal} {k : AVal → Prop} : nmA K (Elaw_wrong v0 v1 (some y) ) (Str.ofString "_law_step") k = k y := by kernel_rfl
theorem uElaw_wrong2 {v0 v1 v2 : Option AVal} {y : AVal} : upd (Elaw_wrong v0 v1 v2) (Str.ofString "_law_step") y = Elaw_wrong v0 v1 (some y)  := (upd_env _ _ _).trans (congrArg env (by kernel_rfl))
noncomputable def Elaw_guards (v0 v1 v2 v3 v4 v5 : Option AVal) : Loc := env [(Str.ofString "_law_seed", v1), (Str.ofString "_law_handed", v0), (Str.ofString "_law_hand", v2), (Str.ofString "_law_at", v3), (Str.ofString "_law_row", v4), (Str.ofString "_law_due", v5)]
theorem bElaw_guards {x0 x1 : AVal} : bindA [Str.ofString "_law_handed", Str.ofString "_law_seed"] [x0, x1] = Elaw_guards (some x0) (some x1) none none none none :=
  (bind_put (bind_put bind_nil)).trans ((env_pads _ [Str.ofString "_law_hand", Str.ofString "_law_at", Str.ofString "_law_row", Str.ofString "_law_due"]).trans (show _ = Elaw_guards (some x0) (some x1) none none none none by kernel_rfl))
theorem lElaw_guards0 {K : Frag} {v1 v2 v3 v4 v5 : Option AVal} {y : AVal} {k : AVal → Prop} : nmA K (Elaw_guards  (some y) v1 v2 v3 v4 v5) (Str.ofString "_law_handed") k = k y := by kernel_rfl
theorem uElaw_guards0 {v0 v1 v2 v3 v4 v5 : Option AVal} {y : AVal} : upd (Elaw_guards v0 v1 v2 v3 v4 v5) (Str.ofString "_law_handed") y = Elaw_guards  (some y) v1 v2 v3 v4 v5 := (upd_env _ _ _).trans (congrArg env (by kernel_rfl))
theorem lElaw_guards1 {K : Frag} {v0 v2 v3 v4 v5 : Option AVal} {y : AVal} {k : AVal → Prop} : nmA K (Elaw_guards v0 (some y) v2 v3 v4 v5) (Str.ofString "_law_seed") k = k y := by kernel_rfl
theorem uElaw_guards1 {v0 v1 v2 v3 v4 v5 : Option AVal} {y : AVal} : upd (Elaw_guards v0 v1 v2 v3 v4 v5) (Str.ofString "_law_seed") y = Elaw_guards v0 (some y) v2 v3 v4 v5 := (upd_env _ _ _).trans (congrArg env (by kernel_rfl))
theorem lElaw_guards2 {K : Frag} {v0 v1 v3 v4 v5 : Option AVal} {y : AVal} {k : AVal → Prop} : nmA K (Elaw_guards v0 v1 (some y) v3 v4 v5) (Str.ofString "_law_hand") k = k y := by kernel_rfl
theorem uElaw_guards2 {v0 v1 v2 v3 v4 v5 : Option AVal} {y : AVal} : upd (Elaw_guards v0 v1 v2 v3 v4 v5) (Str.ofString "_law_hand") y = Elaw_guards v0 v1 (some y) v3 v4 v5 := (upd_env _ _ _).trans (congrArg env (by kernel_rfl))
theorem lElaw_guards3 {K : Frag} {v0 v1 v2 v4 v5 : Option AVal} {y : AVal} {k : AVal → Prop} : nmA K (Elaw_guards v0 v1 v2 (some y) v4 v5) (Str.ofString "_law_at") k = k y := by kernel_rfl
theorem uElaw_guards3 {v0 v1 v2 v3 v4 v5 : Option AVal} {y : AVal} : upd (Elaw_guards v0 v1 v2 v3 v4 v5) (Str.ofString "_law_at") y = Elaw_guards v0 v1 v2 (some y) v4 v5 := (upd_env _ _ _).trans (congrArg env (by kernel_rfl))
theorem lElaw_guards4 {K : Frag} {v0 v1 v2 v3 v5 : Option AVal} {y : AVal} {k : AVal → Prop} : nmA K (Elaw_guards v0 v1 v2 v3 (some y) v5) (Str.ofString "_law_row") k = k y := by kernel_rfl
theorem uElaw_guards4 {v0 v1 v2 v3 v4 v5 : Option AVal} {y : AVal} : upd (Elaw_guards v0 v1 v2 v3 v4 v5) (Str.ofString "_law_row") y = Elaw_guards v0 v1 v2 v3 (some y) v5 := (upd_env _ _ _).trans (congrArg env (by kernel_rfl))
theorem lElaw_guards5 {K : Frag} {v0 v1 v2 v3 v4 : Option AVal} {y : AVal} {k : AVal → Prop} : nmA K (Elaw_guards v0 v1 v2 v3 v4 (some y) ) (Str.ofString "_law_due") k = k y := by kernel_rfl
theorem uElaw_guards5 {v0 v1 v2 v3 v4 v5 : Option AVal} {y : AVal} : upd (Elaw_guards v0 v1 v2 v3 v4 v5) (Str.ofString "_law_due") y = Elaw_guards v0 v1 v2 v3 v4 (some y)  := (upd_env _ _ _).trans (congrArg env (by kernel_rfl))
theorem gElaw_guards_law_refused {w : World} {v0 v1 v2 v3 v4 v5 : Option AVal} {k : AVal → Prop} : nmA (hd.heap_1 w.params) (Elaw_guards v0 v1 v2 v3 v4 v5) (Str.ofString "_law_refused") k = k (.val (.ref 292)) := (show _ = gvA (gval (hd.heap_1 w.params) (Str.ofString "_law_refused")) k by kernel_rfl).trans n_law_refused
theorem gElaw_guards_law_wrong {w : World} {v0 v1 v2 v3 v4 v5 : Option AVal} {k : AVal → Prop} : nmA (hd.heap_1 w.params) (Elaw_guards v0 v1 v2 v3 v4 v5) (Str.ofString "_law_wrong") k = k (.val (.ref 299)) := (show _ = gvA (gval (hd.heap_1 w.params) (Str.ofString "_law_wrong")) k by kernel_rfl).trans n_law_wrong
theorem gElaw_guards_range {w : World} {v0 v1 v2 v3 v4 v5 : Option AVal} {k : AVal → Prop} : nmA (hd.heap_1 w.params) (Elaw_guards v0 v1 v2 v3 v4 v5) (Str.ofString "range") k = k (.val (.type "range")) := (show _ = gvA (gval (hd.heap_1 w.params) (Str.ofString "range")) k by kernel_rfl).trans n_range
noncomputable def Elaw (v0 v1 v2 v3 v4 v5 v6 v7 v8 v9 v10 v11 v12 v13 v14 v15 v16 : Option AVal) : Loc := env [(Str.ofString "_law_script", v0), (Str.ofString "_law_seed", v1), (Str.ofString "_law_many", v2), (Str.ofString "_law_k", v3), (Str.ofString "_law_boxes", v4), (Str.ofString "_law_sizes", v5), (Str.ofString "_law_keeps", v6), (Str.ofString "_law_starts", v7), (Str.ofString "_law_hand", v8), (Str.ofString "_law_rows", v9), (Str.ofString "_law_behind", v10), (Str.ofString "_law_handed", v11), (Str.ofString "_law_found", v12), (Str.ofString "_law_first", v13), (Str.ofString "_law_second", v14), (Str.ofString "_law_due", v15), (Str.ofString "_law_end_here", v16)]
theorem bElaw {x0 : AVal} : bindA [Str.ofString "_law_script"] [x0] = Elaw (some x0) none none none none none none none none none none none none none none none none :=
  (bind_put bind_nil).trans ((env_pads _ [Str.ofString "_law_seed", Str.ofString "_law_many", Str.ofString "_law_k", Str.ofString "_law_boxes", Str.ofString "_law_sizes", Str.ofString "_law_keeps", Str.ofString "_law_starts", Str.ofString "_law_hand", Str.ofString "_law_rows", Str.ofString "_law_behind", Str.ofString "_law_handed", Str.ofString "_law_found", Str.ofString "_law_first", Str.ofString "_law_second", Str.ofString "_law_due", Str.ofString "_law_end_here"]).trans (show _ = Elaw (some x0) none none none none none none none none none none none none none none none none by kernel_rfl))
theorem lElaw0 {K : Frag} {v1 v2 v3 v4 v5 v6 v7 v8 v9 v10 v11 v12 v13 v14 v15 v16 : Option AVal} {y : AVal} {k : AVal → Prop} : nmA K (Elaw  (some y) v1 v2 v3 v4 v5 v6 v7 v8 v9 v10 v11 v12 v13 v14 v15 v16) (Str.ofString "_law_script") k = k y := by kernel_rfl
theorem uElaw0 {v0 v1 v2 v3 v4 v5 v6 v7 v8 v9 v10 v11 v12 v13 v14 v15 v16 : Option AVal} {y : AVal} : upd (Elaw v0 v1 v2 v3 v4 v5 v6 v7 v8 v9 v10 v11 v12 v13 v14 v15 v16) (Str.ofString "_law_script") y = Elaw  (some y) v1 v2 v3 v4 v5 v6 v7 v8 v9 v10 v11 v12 v13 v14 v15 v16 := (upd_env _ _ _).trans (congrArg env (by kernel_rfl))
theorem lElaw1 {K : Frag} {v0 v2 v3 v4 v5 v6 v7 v8 v9 v10 v11 v12 v13 v14 v15 v16 : Option AVal} {y : AVal} {k : AVal → Prop} : nmA K (Elaw v0 (some y) v2 v3 v4 v5 v6 v7 v8 v9 v10 v11 v12 v13 v14 v15 v16) (Str.ofString "_law_seed") k = k y := by kernel_rfl
theorem uElaw1 {v0 v1 v2 v3 v4 v5 v6 v7 v8 v9 v10 v11 v12 v13 v14 v15 v16 : Option AVal} {y : AVal} : upd (Elaw v0 v1 v2 v3 v4 v5 v6 v7 v8 v9 v10 v11 v12 v13 v14 v15 v16) (Str.ofString "_law_seed") y = Elaw v0 (some y) v2 v3 v4 v5 v6 v7 v8 v9 v10 v11 v12 v13 v14 v15 v16 := (upd_env _ _ _).trans (congrArg env (by kernel_rfl))
theorem lElaw2 {K : Frag} {v0 v1 v3 v4 v5 v6 v7 v8 v9 v10 v11 v12 v13 v14 v15 v16 : Option AVal} {y : AVal} {k : AVal → Prop} : nmA K (Elaw v0 v1 (some y) v3 v4 v5 v6 v7 v8 v9 v10 v11 v12 v13 v14 v15 v16) (Str.ofString "_law_many") k = k y := by kernel_rfl
theorem uElaw2 {v0 v1 v2 v3 v4 v5 v6 v7 v8 v9 v10 v11 v12 v13 v14 v15 v16 : Option AVal} {y : AVal} : upd (Elaw v0 v1 v2 v3 v4 v5 v6 v7 v8 v9 v10 v11 v12 v13 v14 v15 v16) (Str.ofString "_law_many") y = Elaw v0 v1 (some y) v3 v4 v5 v6 v7 v8 v9 v10 v11 v12 v13 v14 v15 v16 := (upd_env _ _ _).trans (congrArg env (by kernel_rfl))
theorem lElaw3 {K : Frag} {v0 v1 v2 v4 v5 v6 v7 v8 v9 v10 v11 v12 v13 v14 v15 v16 : Option AVal} {y : AVal} {k : AVal → Prop} : nmA K (Elaw v0 v1 v2 (some y) v4 v5 v6 v7 v8 v9 v10 v11 v12 v13 v14 v15 v16) (Str.ofString "_law_k") k = k y := by kernel_rfl
theorem uElaw3 {v0 v1 v2 v3 v4 v5 v6 v7 v8 v9 v10 v11 v12 v13 v14 v15 v16 : Option AVal} {y : AVal} : upd (Elaw v0 v1 v2 v3 v4 v5 v6 v7 v8 v9 v10 v11 v12 v13 v14 v15 v16) (Str.ofString "_law_k") y = Elaw v0 v1 v2 (some y) v4 v5 v6 v7 v8 v9 v10 v11 v12 v13 v14 v15 v16 := (upd_env _ _ _).trans (congrArg env (by kernel_rfl))
theorem lElaw4 {K : Frag} {v0 v1 v2 v3 v5 v6 v7 v8 v9 v10 v11 v12 v13 v14 v15 v16 : Option AVal} {y : AVal} {k : AVal → Prop} : nmA K (Elaw v0 v1 v2 v3 (some y) v5 v6 v7 v8 v9 v10 v11 v12 v13 v14 v15 v16) (Str.ofString "_law_boxes") k = k y := by kernel_rfl
theorem uElaw4 {v0 v1 v2 v3 v4 v5 v6 v7 v8 v9 v10 v11 v12 v13 v14 v15 v16 : Option AVal} {y : AVal} : upd (Elaw v0 v1 v2 v3 v4 v5 v6 v7 v8 v9 v10 v11 v12 v13 v14 v15 v16) (Str.ofString "_law_boxes") y = Elaw v0 v1 v2 v3 (some y) v5 v6 v7 v8 v9 v10 v11 v12 v13 v14 v15 v16 := (upd_env _ _ _).trans (congrArg env (by kernel_rfl))
theorem lElaw5 {K : Frag} {v0 v1 v2 v3 v4 v6 v7 v8 v9 v10 v11 v12 v13 v14 v15 v16 : Option AVal} {y : AVal} {k : AVal → Prop} : nmA K (Elaw v0 v1 v2 v3 v4 (some y) v6 v7 v8 v9 v10 v11 v12 v13 v14 v15 v16) (Str.ofString "_law_sizes") k = k y := by kernel_rfl
theorem uElaw5 {v0 v1 v2 v3 v4 v5 v6 v7 v8 v9 v10 v11 v12 v13 v14 v15 v16 : Option AVal} {y : AVal} : upd (Elaw v0 v1 v2 v3 v4 v5 v6 v7 v8 v9 v10 v11 v12 v13 v14 v15 v16) (Str.ofString "_law_sizes") y = Elaw v0 v1 v2 v3 v4 (some y) v6 v7 v8 v9 v10 v11 v12 v13 v14 v15 v16 := (upd_env _ _ _).trans (congrArg env (by kernel_rfl))
theorem lElaw6 {K : Frag} {v0 v1 v2 v3 v4 v5 v7 v8 v9 v10 v11 v12 v13 v14 v15 v16 : Option AVal} {y : AVal} {k : AVal → Prop} : nmA K (Elaw v0 v1 v2 v3 v4 v5 (some y) v7 v8 v9 v10 v11 v12 v13 v14 v15 v16) (Str.ofString "_law_keeps") k = k y := by kernel_rfl
theorem uElaw6 {v0 v1 v2 v3 v4 v5 v6 v7 v8 v9 v10 v11 v12 v13 v14 v15 v16 : Option AVal} {y : AVal} : upd (Elaw v0 v1 v2 v3 v4 v5 v6 v7 v8 v9 v10 v11 v12 v13 v14 v15 v16) (Str.ofString "_law_keeps") y = Elaw v0 v1 v2 v3 v4 v5 (some y) v7 v8 v9 v10 v11 v12 v13 v14 v15 v16 := (upd_env _ _ _).trans (congrArg env (by kernel_rfl))
theorem lElaw7 {K : Frag} {v0 v1 v2 v3 v4 v5 v6 v8 v9 v10 v11 v12 v13 v14 v15 v16 : Option AVal} {y : AVal} {k : AVal → Prop} : nmA K (Elaw v0 v1 v2 v3 v4 v5 v6 (some y) v8 v9 v10 v11 v12 v13 v14 v15 v16) (Str.ofString "_law_starts") k = k y := by kernel_rfl
theorem uElaw7 {v0 v1 v2 v3 v4 v5 v6 v7 v8 v9 v10 v11 v12 v13 v14 v15 v16 : Option AVal} {y : AVal} : upd (Elaw v0 v1 v2 v3 v4 v5 v6 v7 v8 v9 v10 v11 v12 v13 v14 v15 v16) (Str.ofString "_law_starts") y = Elaw v0 v1 v2 v3 v4 v5 v6 (some y) v8 v9 v10 v11 v12 v13 v14 v15 v16 := (upd_env _ _ _).trans (congrArg env (by kernel_rfl))
theorem lElaw8 {K : Frag} {v0 v1 v2 v3 v4 v5 v6 v7 v9 v10 v11 v12 v13 v14 v15 v16 : Option AVal} {y : AVal} {k : AVal → Prop} : nmA K (Elaw v0 v1 v2 v3 v4 v5 v6 v7 (some y) v9 v10 v11 v12 v13 v14 v15 v16) (Str.ofString "_law_hand") k = k y := by kernel_rfl
theorem uElaw8 {v0 v1 v2 v3 v4 v5 v6 v7 v8 v9 v10 v11 v12 v13 v14 v15 v16 : Option AVal} {y : AVal} : upd (Elaw v0 v1 v2 v3 v4 v5 v6 v7 v8 v9 v10 v11 v12 v13 v14 v15 v16) (Str.ofString "_law_hand") y = Elaw v0 v1 v2 v3 v4 v5 v6 v7 (some y) v9 v10 v11 v12 v13 v14 v15 v16 := (upd_env _ _ _).trans (congrArg env (by kernel_rfl))
theorem lElaw9 {K : Frag} {v0 v1 v2 v3 v4 v5 v6 v7 v8 v10 v11 v12 v13 v14 v15 v16 : Option AVal} {y : AVal} {k : AVal → Prop} : nmA K (Elaw v0 v1 v2 v3 v4 v5 v6 v7 v8 (some y) v10 v11 v12 v13 v14 v15 v16) (Str.ofString "_law_rows") k = k y := by kernel_rfl
theorem uElaw9 {v0 v1 v2 v3 v4 v5 v6 v7 v8 v9 v10 v11 v12 v13 v14 v15 v16 : Option AVal} {y : AVal} : upd (Elaw v0 v1 v2 v3 v4 v5 v6 v7 v8 v9 v10 v11 v12 v13 v14 v15 v16) (Str.ofString "_law_rows") y = Elaw v0 v1 v2 v3 v4 v5 v6 v7 v8 (some y) v10 v11 v12 v13 v14 v15 v16 := (upd_env _ _ _).trans (congrArg env (by kernel_rfl))
theorem lElaw10 {K : Frag} {v0 v1 v2 v3 v4 v5 v6 v7 v8 v9 v11 v12 v13 v14 v15 v16 : Option AVal} {y : AVal} {k : AVal → Prop} : nmA K (Elaw v0 v1 v2 v3 v4 v5 v6 v7 v8 v9 (some y) v11 v12 v13 v14 v15 v16) (Str.ofString "_law_behind") k = k y := by kernel_rfl
theorem uElaw10 {v0 v1 v2 v3 v4 v5 v6 v7 v8 v9 v10 v11 v12 v13 v14 v15 v16 : Option AVal} {y : AVal} : upd (Elaw v0 v1 v2 v3 v4 v5 v6 v7 v8 v9 v10 v11 v12 v13 v14 v15 v16) (Str.ofString "_law_behind") y = Elaw v0 v1 v2 v3 v4 v5 v6 v7 v8 v9 (some y) v11 v12 v13 v14 v15 v16 := (upd_env _ _ _).trans (congrArg env (by kernel_rfl))
theorem lElaw11 {K : Frag} {v0 v1 v2 v3 v4 v5 v6 v7 v8 v9 v10 v12 v13 v14 v15 v16 : Option AVal} {y : AVal} {k : AVal → Prop} : nmA K (Elaw v0 v1 v2 v3 v4 v5 v6 v7 v8 v9 v10 (some y) v12 v13 v14 v15 v16) (Str.ofString "_law_handed") k = k y := by kernel_rfl
theorem uElaw11 {v0 v1 v2 v3 v4 v5 v6 v7 v8 v9 v10 v11 v12 v13 v14 v15 v16 : Option AVal} {y : AVal} : upd (Elaw v0 v1 v2 v3 v4 v5 v6 v7 v8 v9 v10 v11 v12 v13 v14 v15 v16) (Str.ofString "_law_handed") y = Elaw v0 v1 v2 v3 v4 v5 v6 v7 v8 v9 v10 (some y) v12 v13 v14 v15 v16 := (upd_env _ _ _).trans (congrArg env (by kernel_rfl))
theorem lElaw12 {K : Frag} {v0 v1 v2 v3 v4 v5 v6 v7 v8 v9 v10 v11 v13 v14 v15 v16 : Option AVal} {y : AVal} {k : AVal → Prop} : nmA K (Elaw v0 v1 v2 v3 v4 v5 v6 v7 v8 v9 v10 v11 (some y) v13 v14 v15 v16) (Str.ofString "_law_found") k = k y := by kernel_rfl
theorem uElaw12 {v0 v1 v2 v3 v4 v5 v6 v7 v8 v9 v10 v11 v12 v13 v14 v15 v16 : Option AVal} {y : AVal} : upd (Elaw v0 v1 v2 v3 v4 v5 v6 v7 v8 v9 v10 v11 v12 v13 v14 v15 v16) (Str.ofString "_law_found") y = Elaw v0 v1 v2 v3 v4 v5 v6 v7 v8 v9 v10 v11 (some y) v13 v14 v15 v16 := (upd_env _ _ _).trans (congrArg env (by kernel_rfl))
theorem lElaw13 {K : Frag} {v0 v1 v2 v3 v4 v5 v6 v7 v8 v9 v10 v11 v12 v14 v15 v16 : Option AVal} {y : AVal} {k : AVal → Prop} : nmA K (Elaw v0 v1 v2 v3 v4 v5 v6 v7 v8 v9 v10 v11 v12 (some y) v14 v15 v16) (Str.ofString "_law_first") k = k y := by kernel_rfl
theorem uElaw13 {v0 v1 v2 v3 v4 v5 v6 v7 v8 v9 v10 v11 v12 v13 v14 v15 v16 : Option AVal} {y : AVal} : upd (Elaw v0 v1 v2 v3 v4 v5 v6 v7 v8 v9 v10 v11 v12 v13 v14 v15 v16) (Str.ofString "_law_first") y = Elaw v0 v1 v2 v3 v4 v5 v6 v7 v8 v9 v10 v11 v12 (some y) v14 v15 v16 := (upd_env _ _ _).trans (congrArg env (by kernel_rfl))
theorem lElaw14 {K : Frag} {v0 v1 v2 v3 v4 v5 v6 v7 v8 v9 v10 v11 v12 v13 v15 v16 : Option AVal} {y : AVal} {k : AVal → Prop} : nmA K (Elaw v0 v1 v2 v3 v4 v5 v6 v7 v8 v9 v10 v11 v12 v13 (some y) v15 v16) (Str.ofString "_law_second") k = k y := by kernel_rfl
theorem uElaw14 {v0 v1 v2 v3 v4 v5 v6 v7 v8 v9 v10 v11 v12 v13 v14 v15 v16 : Option AVal} {y : AVal} : upd (Elaw v0 v1 v2 v3 v4 v5 v6 v7 v8 v9 v10 v11 v12 v13 v14 v15 v16) (Str.ofString "_law_second") y = Elaw v0 v1 v2 v3 v4 v5 v6 v7 v8 v9 v10 v11 v12 v13 (some y) v15 v16 := (upd_env _ _ _).trans (congrArg env (by kernel_rfl))
theorem lElaw15 {K : Frag} {v0 v1 v2 v3 v4 v5 v6 v7 v8 v9 v10 v11 v12 v13 v14 v16 : Option AVal} {y : AVal} {k : AVal → Prop} : nmA K (Elaw v0 v1 v2 v3 v4 v5 v6 v7 v8 v9 v10 v11 v12 v13 v14 (some y) v16) (Str.ofString "_law_due") k = k y := by kernel_rfl
theorem uElaw15 {v0 v1 v2 v3 v4 v5 v6 v7 v8 v9 v10 v11 v12 v13 v14 v15 v16 : Option AVal} {y : AVal} : upd (Elaw v0 v1 v2 v3 v4 v5 v6 v7 v8 v9 v10 v11 v12 v13 v14 v15 v16) (Str.ofString "_law_due") y = Elaw v0 v1 v2 v3 v4 v5 v6 v7 v8 v9 v10 v11 v12 v13 v14 (some y) v16 := (upd_env _ _ _).trans (congrArg env (by kernel_rfl))
theorem lElaw16 {K : Frag} {v0 v1 v2 v3 v4 v5 v6 v7 v8 v9 v10 v11 v12 v13 v14 v15 : Option AVal} {y : AVal} {k : AVal → Prop} : nmA K (Elaw v0 v1 v2 v3 v4 v5 v6 v7 v8 v9 v10 v11 v12 v13 v14 v15 (some y) ) (Str.ofString "_law_end_here") k = k y := by kernel_rfl
theorem uElaw16 {v0 v1 v2 v3 v4 v5 v6 v7 v8 v9 v10 v11 v12 v13 v14 v15 v16 : Option AVal} {y : AVal} : upd (Elaw v0 v1 v2 v3 v4 v5 v6 v7 v8 v9 v10 v11 v12 v13 v14 v15 v16) (Str.ofString "_law_end_here") y = Elaw v0 v1 v2 v3 v4 v5 v6 v7 v8 v9 v10 v11 v12 v13 v14 v15 (some y)  := (upd_env _ _ _).trans (congrArg env (by kernel_rfl))
theorem gElaw_law_all_plain {w : World} {v0 v1 v2 v3 v4 v5 v6 v7 v8 v9 v10 v11 v12 v13 v14 v15 v16 : Option AVal} {k : AVal → Prop} : nmA (hd.heap_1 w.params) (Elaw v0 v1 v2 v3 v4 v5 v6 v7 v8 v9 v10 v11 v12 v13 v14 v15 v16) (Str.ofString "_law_all_plain") k = k (.val (.ref 285)) := (show _ = gvA (gval (hd.heap_1 w.params) (Str.ofString "_law_all_plain")) k by kernel_rfl).trans n_law_all_plain
theorem gElaw_law_cell_at {w : World} {v0 v1 v2 v3 v4 v5 v6 v7 v8 v9 v10 v11 v12 v13 v14 v15 v16 : Option AVal} {k : AVal → Prop} : nmA (hd.heap_1 w.params) (Elaw v0 v1 v2 v3 v4 v5 v6 v7 v8 v9 v10 v11 v12 v13 v14 v15 v16) (Str.ofString "_law_cell_at") k = k (.val (.ref 228)) := (show _ = gvA (gval (hd.heap_1 w.params) (Str.ofString "_law_cell_at")) k by kernel_rfl).trans n_law_cell_at
theorem gElaw_law_cells {w : World} {v0 v1 v2 v3 v4 v5 v6 v7 v8 v9 v10 v11 v12 v13 v14 v15 v16 : Option AVal} {k : AVal → Prop} : nmA (hd.heap_1 w.params) (Elaw v0 v1 v2 v3 v4 v5 v6 v7 v8 v9 v10 v11 v12 v13 v14 v15 v16) (Str.ofString "_law_cells") k = k (.val (.ref 247)) := (show _ = gvA (gval (hd.heap_1 w.params) (Str.ofString "_law_cells")) k by kernel_rfl).trans n_law_cells
theorem gElaw_law_end {w : World} {v0 v1 v2 v3 v4 v5 v6 v7 v8 v9 v10 v11 v12 v13 v14 v15 v16 : Option AVal} {k : AVal → Prop} : nmA (hd.heap_1 w.params) (Elaw v0 v1 v2 v3 v4 v5 v6 v7 v8 v9 v10 v11 v12 v13 v14 v15 v16) (Str.ofString "_law_end") k = k (.val (.ref 273)) := (show _ = gvA (gval (hd.heap_1 w.params) (Str.ofString "_law_end")) k by kernel_rfl).trans n_law_end
theorem gElaw_law_guards {w : World} {v0 v1 v2 v3 v4 v5 v6 v7 v8 v9 v10 v11 v12 v13 v14 v15 v16 : Option AVal} {k : AVal → Prop} : nmA (hd.heap_1 w.params) (Elaw v0 v1 v2 v3 v4 v5 v6 v7 v8 v9 v10 v11 v12 v13 v14 v15 v16) (Str.ofString "_law_guards") k = k (.val (.ref 306)) := (show _ = gvA (gval (hd.heap_1 w.params) (Str.ofString "_law_guards")) k by kernel_rfl).trans n_law_guards
theorem gElaw_law_number_by {w : World} {v0 v1 v2 v3 v4 v5 v6 v7 v8 v9 v10 v11 v12 v13 v14 v15 v16 : Option AVal} {k : AVal → Prop} : nmA (hd.heap_1 w.params) (Elaw v0 v1 v2 v3 v4 v5 v6 v7 v8 v9 v10 v11 v12 v13 v14 v15 v16) (Str.ofString "_law_number_by") k = k (.val (.ref 235)) := (show _ = gvA (gval (hd.heap_1 w.params) (Str.ofString "_law_number_by")) k by kernel_rfl).trans n_law_number_by
theorem gElaw_law_refused {w : World} {v0 v1 v2 v3 v4 v5 v6 v7 v8 v9 v10 v11 v12 v13 v14 v15 v16 : Option AVal} {k : AVal → Prop} : nmA (hd.heap_1 w.params) (Elaw v0 v1 v2 v3 v4 v5 v6 v7 v8 v9 v10 v11 v12 v13 v14 v15 v16) (Str.ofString "_law_refused") k = k (.val (.ref 292)) := (show _ = gvA (gval (hd.heap_1 w.params) (Str.ofString "_law_refused")) k by kernel_rfl).trans n_law_refused
theorem gElaw_law_row_by {w : World} {v0 v1 v2 v3 v4 v5 v6 v7 v8 v9 v10 v11 v12 v13 v14 v15 v16 : Option AVal} {k : AVal → Prop} : nmA (hd.heap_1 w.params) (Elaw v0 v1 v2 v3 v4 v5 v6 v7 v8 v9 v10 v11 v12 v13 v14 v15 v16) (Str.ofString "_law_row_by") k = k (.val (.ref 252)) := (show _ = gvA (gval (hd.heap_1 w.params) (Str.ofString "_law_row_by")) k by kernel_rfl).trans n_law_row_by
theorem gElaw_isinstance {w : World} {v0 v1 v2 v3 v4 v5 v6 v7 v8 v9 v10 v11 v12 v13 v14 v15 v16 : Option AVal} {k : AVal → Prop} : nmA (hd.heap_1 w.params) (Elaw v0 v1 v2 v3 v4 v5 v6 v7 v8 v9 v10 v11 v12 v13 v14 v15 v16) (Str.ofString "isinstance") k = k (.val (.builtin "isinstance")) := (show _ = gvA (gval (hd.heap_1 w.params) (Str.ofString "isinstance")) k by kernel_rfl).trans n_isinstance
theorem gElaw_len {w : World} {v0 v1 v2 v3 v4 v5 v6 v7 v8 v9 v10 v11 v12 v13 v14 v15 v16 : Option AVal} {k : AVal → Prop} : nmA (hd.heap_1 w.params) (Elaw v0 v1 v2 v3 v4 v5 v6 v7 v8 v9 v10 v11 v12 v13 v14 v15 v16) (Str.ofString "len") k = k (.val (.builtin "len")) := (show _ = gvA (gval (hd.heap_1 w.params) (Str.ofString "len")) k by kernel_rfl).trans n_len
theorem gElaw_list {w : World} {v0 v1 v2 v3 v4 v5 v6 v7 v8 v9 v10 v11 v12 v13 v14 v15 v16 : Option AVal} {k : AVal → Prop} : nmA (hd.heap_1 w.params) (Elaw v0 v1 v2 v3 v4 v5 v6 v7 v8 v9 v10 v11 v12 v13 v14 v15 v16) (Str.ofString "list") k = k (.val (.type "list")) := (show _ = gvA (gval (hd.heap_1 w.params) (Str.ofString "list")) k by kernel_rfl).trans n_list
theorem gElaw_min {w : World} {v0 v1 v2 v3 v4 v5 v6 v7 v8 v9 v10 v11 v12 v13 v14 v15 v16 : Option AVal} {k : AVal → Prop} : nmA (hd.heap_1 w.params) (Elaw v0 v1 v2 v3 v4 v5 v6 v7 v8 v9 v10 v11 v12 v13 v14 v15 v16) (Str.ofString "min") k = k (.val (.builtin "min")) := (show _ = gvA (gval (hd.heap_1 w.params) (Str.ofString "min")) k by kernel_rfl).trans n_min
theorem gElaw_range {w : World} {v0 v1 v2 v3 v4 v5 v6 v7 v8 v9 v10 v11 v12 v13 v14 v15 v16 : Option AVal} {k : AVal → Prop} : nmA (hd.heap_1 w.params) (Elaw v0 v1 v2 v3 v4 v5 v6 v7 v8 v9 v10 v11 v12 v13 v14 v15 v16) (Str.ofString "range") k = k (.val (.type "range")) := (show _ = gvA (gval (hd.heap_1 w.params) (Str.ofString "range")) k by kernel_rfl).trans n_range
theorem gElaw_strange {w : World} {v0 v1 v2 v3 v4 v5 v6 v7 v8 v9 v10 v11 v12 v13 v14 v15 v16 : Option AVal} {k : AVal → Prop} : nmA (hd.heap_1 w.params) (Elaw v0 v1 v2 v3 v4 v5 v6 v7 v8 v9 v10 v11 v12 v13 v14 v15 v16) (Str.ofString "strange") k = k (.val (.ref 221)) := (show _ = gvA (gval (hd.heap_1 w.params) (Str.ofString "strange")) k by kernel_rfl).trans n_strange




section
variable {w : World} {b : Heap} {os : OsState} {n : Nat} {q : Bool} {H : AHeap} {Q : PV} {E : PE}
noncomputable def cellAt (xs : List Int) (k : Int) : Int := xs.getD k.toNat 0
theorem cell_at (wo : WOk (WL w b os)) {a : Addr} {ro : Bool} {xs : List Int} {k : Int} (ha : H a = some (.list ro (xs.map .int))) (hk : 0 ≤ k) (h : Q (.int (cellAt xs k)) H) :
    CallOk (WL w b os) (n + 1) q (.ref 228) [.ref a, .int k] H Q E := by
  refine def_ok wo rfl (by kernel_rfl) rfl (by (repeat intro _); change _ = _; kernel_rfl) ?_
  simp only [fnBody, fnPars, List.map, ↓bElaw_cell_at, ↓q_cons, ↓q_if, ↓vt_cmp, ↓v_name, ↓lElaw_cell_at1, ↓q_c1, ↓v_calln, ↓gElaw_cell_at_len, ↓q_gbi, ↓vs_name, ↓lElaw_cell_at0, ↓vs_nil, ↓q_flen, ↓q_ret, ↓v_sub_name, ↓q_nil, true_and]
  refine bi_len (seq_ref ha) ?_
  simp only [↓q_lt]
  rw [List.length_map]
  refine ifK_dec (fun hlt => ?_) fun hlt => ?_
  · refine sb_list ha hk (v := .int (cellAt xs k)) ?_ h
    unfold cellAt; rw [List.getElem?_map, List.getElem?_eq_getElem (by omega)]; simp [List.getD_eq_getElem?_getD, List.getElem?_eq_getElem (show k.toNat < xs.length by omega)]
  · have : cellAt xs k = 0 := by unfold cellAt; simp [List.getD_eq_getElem?_getD, List.getElem?_eq_none (show xs.length ≤ k.toNat by omega)]
    rw [q_cnext]; simp only [↓q_cons, ↓q_ret, ↓v_intc, ↓q_retS, ↓q_cret, ↓q_rret]
    rw [this] at h; exact h
theorem bits_cell {xs : List Int} (hb : ∀ x ∈ xs, Builtin.Int.intBits x ≤ 2 ^ 20) (k : Int) : Builtin.Int.intBits (cellAt xs k) ≤ 2 ^ 20 := by
  unfold cellAt
  rw [List.getD_eq_getElem?_getD]
  cases e : xs[k.toNat]? with
  | none => simp; decide +kernel
  | some x => exact hb x (List.mem_of_getElem? e)
theorem bits_div {c m : Int} {B : Nat} (hm : 0 < m) (h : Builtin.Int.intBits c ≤ B) : Builtin.Int.intBits (c / m) ≤ B := by
  refine intBits_le_of_natAbs (y := c) ?_ h
  rcases Int.le_total 0 c with h0 | h0
  · have h1 := Int.ediv_nonneg h0 (Int.le_of_lt hm)
    have h2 := Int.ediv_le_self m h0
    omega
  · have h1 : c ≤ c / m := by
      rw [Int.le_ediv_iff_mul_le hm]
      have : c * m ≤ c * 1 := Int.mul_le_mul_of_nonpos_left h0 (by omega)
      omega
    have h2 : c / m ≤ 0 := by
      have := Int.ediv_le_ediv hm h0
      simpa using this
    omega
noncomputable def numberBy (c : Int) : Int := if c % 6 = 1 then c * (10 ^ 59 + 7) % 10 ^ 60 * (1 - 2 * (c / 6 % 2)) else c / 6 % 5 - 2
theorem number_by (wo : WOk (WL w b os)) {c : Int} (hc : Builtin.Int.intBits c ≤ 2 ^ 21) (h : Q (.int (numberBy c)) H) :
    CallOk (WL w b os) (n + 1) q (.ref 235) [.int c] H Q E := by
  refine def_ok wo rfl (by kernel_rfl) rfl (by (repeat intro _); change _ = _; kernel_rfl) ?_
  simp only [fnBody, fnPars, List.map, ↓bElaw_number_by, ↓q_cons, ↓q_if, ↓vt_cmp, ↓v_bin, ↓v_name, ↓lElaw_number_by0, ↓v_intc, ↓q_mod, Int.reduceLT, ↓q_c1, ↓q_eq, ↓q_ret, ↓q_p59, ↓q_add, ↓q_mul, ↓q_p60, ↓q_div, and_true, ↓q_sub, ↓q_retS, ↓q_cret, ↓q_rret, true_and, ↓q_nil]
  unfold numberBy at h
  refine ifK_dec (fun h1 => ?_) fun h1 => ?_
  · rw [if_pos h1] at h
    refine ⟨IntMulOk.of_le (m := 2097152) (n := 1024) hc (by decide +kernel) (by decide), by decide +kernel, IntMulOk.of_left (by decide +kernel), IntMulOk.of_right (intBits_le_64 (by omega) (by omega)), h⟩
  · rw [if_neg h1] at h
    rw [q_cnext]; simp only [↓q_cons, ↓q_ret, ↓v_bin, ↓v_name, ↓lElaw_number_by0, ↓v_intc, ↓q_div, Int.reduceLT, and_true, ↓q_mod, ↓q_sub, ↓q_retS, ↓q_cret, ↓q_rret, true_and]
    exact h
noncomputable def isTgd : Stp → Bool
  | .twice | .take | .free => true
  | _ => false
theorem wd_tgd (s : Stp) : inW s.w [Str.ofString "twice", Str.ofString "take", Str.ofString "free"] = isTgd s := by cases s <;> simp [Stp.w, isTgd, inW_cons, inW_nil, ofs_eq]
theorem wd_four {s : Stp} (h : isTgd s = false) : inW s.w [Str.ofString "load", Str.ofString "plus", Str.ofString "store", Str.ofString "add"] = true := by cases s <;> first | (cases h; done) | simp [Stp.w, inW_cons, inW_nil, ofs_eq]
theorem ln_lt (s : Stp) : decide (s.ln < 1) = false := by cases s <;> rfl
theorem ln_1 {s : Stp} (h : isTgd s = true) : decide (s.ln = 1) = true := by cases s <;> first | (cases h; done) | rfl
theorem ln_2 {s : Stp} (h : isTgd s = false) : decide (s.ln = 2) = true := by cases s <;> first | (cases h; done) | rfl
theorem sv_1 {s : Stp} (h : isTgd s = false) : ∃ i, ∀ Q : PV, subA s.v (.int 1) H Q = Q (.int i) H := by cases s <;> first | (cases h; done) | exact ⟨_, fun Q => q_sub1⟩
theorem whole_i (wo : WOk (WL w b os)) {i : Int} (h : Q (.bool true) H) : CallOk (WL w b os) (n + 1) q (.ref 118) [.int i] H Q E := by
  refine def_ok wo rfl (by kernel_rfl) rfl (by (repeat intro _); change _ = _; kernel_rfl) ?_
  simp only [fnBody, fnPars, List.map, ↓bEwhole, ↓q_cons, ↓q_ret, ↓v_boolop, ↓q_bA, ↓v_calln, ↓gEwhole_isinstance, ↓q_gbi, ↓vs_name, ↓v_name, ↓lEwhole0, ↓gEwhole_int, ↓vs_nil, ↓q_fisinstance, ↓q_isi, isi_int_int, ↓q_bool, ↓q_t, ↓q_b1, ↓v_not, ↓gEwhole_bool, isi_int_bool, ↓q_retS, ↓q_cret, ↓q_rret, Bool.not_false, true_and]
  exact h
theorem is_step_ok (wo : WOk (WL w b os)) (s : Stp) (h : Q (.bool true) H) : CallOk (WL w b os) (n + 2) q (.ref 125) [s.v] H Q E := by
  refine def_ok wo rfl (by kernel_rfl) rfl (by (repeat intro _); change _ = _; kernel_rfl) ?_
  simp only [fnBody, fnPars, List.map, ↓bEwhole, ↓q_cons, ↓q_if, ↓vt_boolop, ↓q_tBO, ↓q_not, ↓vt_call, ↓v_calln, ↓gEwhole_isinstance, ↓q_gbi, ↓vs_name, ↓v_name, ↓lEwhole0, ↓gEwhole_tuple, ↓vs_nil, ↓q_fisinstance, ↓q_isi, ↓q_bool, ↓q_ifn, ↓vt_cmp, ↓gEwhole_len, ↓q_flen, ↓q_c1, ↓v_intc, ↓q_t, ↓q_ret, ↓v_boolc, ↓q_retS, ↓q_cret, ↓q_rret, ↓vs_sub, ↓v_sub_const, ↓sv_sub0, ↓gEwhole_str, isi_str_str, ↓q_tB0', ↓q_f, ↓q_nil, true_and, sv_len, ↓q_lt]
  rw [isi_ty kall (sv_ty s) (by decide), show subT "tuple" "tuple" = true from rfl]
  try simp only [↓q_t]
  rw [ln_lt]
  try simp only [↓q_f]
  rw [q_cnext]; simp only [↓q_cons, ↓q_if, ↓vt_cmp, ↓v_sub_const, ↓v_name, ↓lEwhole0, ↓v_intc, ↓sv_sub0, ↓q_c1, ↓v_tuple, ↓vs_const, ↓v_strc, ↓vs_nil, List.length_cons, List.length_nil, Nat.reduceAdd, bigL, Nat.reduceLeDiff, ↓q_in3, ↓q_ret, ↓v_cmp, ↓v_calln, ↓gEwhole_len, ↓q_gbi, ↓vs_name, ↓q_flen, ↓q_retS, ↓q_cret, ↓q_rret, sv_len, ↓q_eq, true_and, ↓q_nil]
  rw [wd_tgd]
  refine ifK_split (fun e => ?_) fun e => ?_
  · skip
    rw [ln_1 e]; exact h
  · rw [q_cnext]; simp only [↓q_cons, ↓q_if, ↓vt_cmp, ↓v_sub_const, ↓v_name, ↓lEwhole0, ↓v_intc, ↓sv_sub0, ↓q_c1, ↓v_tuple, ↓vs_const, ↓v_strc, ↓vs_nil, List.length_cons, List.length_nil, Nat.reduceAdd, bigL, Nat.reduceLeDiff, ↓q_in4, ↓q_ret, ↓v_boolop, ↓q_bA, ↓v_cmp, ↓v_calln, ↓gEwhole_len, ↓q_gbi, ↓vs_name, ↓q_flen, ↓q_bool, ↓q_b1, ↓gEwhole_whole, ↓q_gref, kp118, ↓vs_sub, ↓q_fref, true_and, ↓q_retS, ↓q_cret, ↓q_rret, sv_len, ↓q_eq, ↓q_nil]
    rw [wd_four e]
    try simp only [↓q_t]
    rw [ln_2 e]
    try simp only [↓q_t]
    obtain ⟨i, hi⟩ := sv_1 (H := H) e
    rw [hi]
    refine whole_i wo ?_
    exact h
theorem of_box_ (wo : WOk (WL w b os)) (s : Stp) (h : Q (.bool s.isBox) H) : CallOk (WL w b os) (n + 1) q (.ref 132) [s.v] H Q E := by
  refine def_ok wo rfl (by kernel_rfl) rfl (by (repeat intro _); change _ = _; kernel_rfl) ?_
  simp only [fnBody, fnPars, List.map, ↓bEof_box, ↓q_cons, ↓q_ret, ↓v_cmp, ↓v_sub_const, ↓v_name, ↓lEof_box0, ↓v_intc, ↓sv_sub0, ↓q_c1, ↓v_tuple, ↓vs_const, ↓v_strc, ↓vs_nil, List.length_cons, List.length_nil, Nat.reduceAdd, bigL, Nat.reduceLeDiff, ↓q_in3, ↓q_retS, ↓q_cret, ↓q_rret, wd_box, true_and]
  exact h
theorem need_int (wo : WOk (WL w b os)) {a : Addr} {ro : Bool} {row : List Stp} {m : Int} (ha : H a = some (.list ro (row.map Stp.v))) (hl : row.length ≤ 60) (ok : ∀ t ∈ row, ∀ k, t.at? = some k → 0 ≤ k ∧ k < m) (h : Q .none H) : CallOk (WL w b os) (n + 3) true (.ref 139) [.ref a, .int m] H Q E := by
  refine def_ok wo rfl (by kernel_rfl) rfl (by (repeat intro _); change _ = _; kernel_rfl) ?_
  simp only [fnBody, fnPars, List.map, ↓bEneed_row, ↓q_cons, ↓q_if, ↓vt_cmp, ↓v_calln, ↓gEneed_row_len, ↓q_gbi, ↓vs_name, ↓v_name, ↓lEneed_row0, ↓vs_nil, ↓q_flen, ↓q_c1, ↓gEneed_row_MOST_STEPS, ↓q_raise, g_TooMany, eEneed_row_TooMany, xk37, true_and, ↓q_nil]
  refine bi_len (seq_ref ha) ?_
  simp only [↓q_gt]
  rw [List.length_map]
  refine ifK_dec (fun h1 => absurd h1 (by omega)) fun _ => ?_
  rw [q_cnext]; simp only [↓q_cons, ↓q_for, ↓v_name, ↓lEneed_row0, true_and]
  refine ⟨_, _, it_list ha, ?_⟩
  refine for_map (f := Stp.v) (fun pre suf σ H' => H' = H ∧ (∀ t ∈ suf, ∀ k, t.at? = some k → 0 ≤ k ∧ k < m) ∧ ∃ o, σ = Eneed_row (some (.ref a)) (some (.int m)) (o)) ?_ ?_ row [] _ _ ⟨rfl, ok, none, rfl⟩
  · rintro pre s suf σ H' ⟨rfl, ok, o, rfl⟩ N n1 n2 n3
    have ok1 := ok s List.mem_cons_self
    have ok2 : ∀ t ∈ suf, ∀ k, t.at? = some k → 0 ≤ k ∧ k < m := fun t ht => ok t (List.mem_cons_of_mem _ ht)
    simp only [↓q_body, ↓q_cons, ↓q_if, ↓q_not, ↓vt_call, ↓v_calln, uEneed_row2, ↓vs_name, ↓v_name, ↓vs_nil, ↓q_ifn, ↓q_nil, ↓q_raise, g_BadStep, eEneed_row_BadStep, xk49, true_and, ↓lEneed_row2, ↓gEneed_row_is_step, ↓q_gref, kp125, ↓q_fref]
    refine is_step_ok wo s ?_
    simp only [↓q_bool, ↓q_t]
    rw [q_cnext]; simp only [↓q_cons, ↓q_if, ↓vt_boolop, ↓q_tBA, ↓vt_cmp, ↓v_name, ↓lEneed_row1, ↓q_c1, ↓v_none, ↓q_isn_i, ↓q_t, ↓vt_call, ↓v_calln, ↓gEneed_row_of_box, ↓q_gref, kp132, ↓vs_name, ↓lEneed_row2, ↓vs_nil, ↓q_fref, ↓q_not, ↓v_intc, ↓q_c2, ↓v_sub_const, ↓q_ifn, ↓q_f, ↓q_nil, ↓q_tB0, ↓q_raise, g_BadBox, eEneed_row_BadBox, xk61, true_and]
    refine of_box_ wo s ?_
    cases s with
    | load k => obtain ⟨h1, h2⟩ := ok1 k rfl; simp only [↓q_bool, cisBox_load, ↓sv_sub1l, ↓q_le, ↓q_lt, ↓q_t]; rw [decide_eq_true h1]; simp only [↓q_t]; rw [decide_eq_true h2]; exact n1 _ _ ha ⟨rfl, ok2, _, rfl⟩
    | plus k => obtain ⟨h1, h2⟩ := ok1 k rfl; simp only [↓q_bool, cisBox_plus, ↓sv_sub1p, ↓q_le, ↓q_lt, ↓q_t]; rw [decide_eq_true h1]; simp only [↓q_t]; rw [decide_eq_true h2]; exact n1 _ _ ha ⟨rfl, ok2, _, rfl⟩
    | store k => obtain ⟨h1, h2⟩ := ok1 k rfl; simp only [↓q_bool, cisBox_store, ↓sv_sub1s, ↓q_le, ↓q_lt, ↓q_t]; rw [decide_eq_true h1]; simp only [↓q_t]; rw [decide_eq_true h2]; exact n1 _ _ ha ⟨rfl, ok2, _, rfl⟩
    | _ => simp only [↓q_bool, cisBox_add, ↓sv_sub1a, ↓q_le, ↓q_lt, ↓q_f, cisBox_twice, cisBox_take, cisBox_free]; exact n1 _ _ ha ⟨rfl, ok2, _, rfl⟩
  · rintro pre σ H' ⟨rfl, _, o, rfl⟩
    rw [q_cnext, q_nil, q_rnext]; exact h
theorem at_rows {w : World} : attrOk (hd.heap_1 w.params) 191 (Str.ofString "rows") = true := by kernel_rfl
theorem so_rows {w : World} : storeOk (hd.heap_1 w.params) 191 (Str.ofString "rows") = true := by kernel_rfl
theorem at_boxes {w : World} : attrOk (hd.heap_1 w.params) 191 (Str.ofString "boxes") = true := by kernel_rfl
theorem so_boxes {w : World} : storeOk (hd.heap_1 w.params) 191 (Str.ofString "boxes") = true := by kernel_rfl
theorem at_numbers {w : World} : attrOk (hd.heap_1 w.params) 191 (Str.ofString "numbers") = true := by kernel_rfl
theorem so_numbers {w : World} : storeOk (hd.heap_1 w.params) 191 (Str.ofString "numbers") = true := by kernel_rfl
theorem at_places {w : World} : attrOk (hd.heap_1 w.params) 191 (Str.ofString "places") = true := by kernel_rfl
theorem so_places {w : World} : storeOk (hd.heap_1 w.params) 191 (Str.ofString "places") = true := by kernel_rfl
theorem at_holder {w : World} : attrOk (hd.heap_1 w.params) 191 (Str.ofString "holder") = true := by kernel_rfl
theorem so_holder {w : World} : storeOk (hd.heap_1 w.params) 191 (Str.ofString "holder") = true := by kernel_rfl
theorem mt_over {w : World} : methOk (hd.heap_1 w.params) 191 (Str.ofString "over") 160 = true := by kernel_rfl
theorem mt_waits {w : World} : methOk (hd.heap_1 w.params) 191 (Str.ofString "waits") 167 = true := by kernel_rfl
theorem mt_go {w : World} : methOk (hd.heap_1 w.params) 191 (Str.ofString "go") 174 = true := by kernel_rfl
theorem mt_work {w : World} : methOk (hd.heap_1 w.params) 191 (Str.ofString "work") 181 = true := by kernel_rfl
theorem mk_loom {w : World} : makesIn (hd.heap_1 w.params) 191 = true := by kernel_rfl
theorem in_loom {w : World} : findIn (hd.heap_1 w.params) (.ref 191) "__init__" = some (some (.ref 153)) := by kernel_rfl
theorem tf_loom {w : World} : typeIn (hd.heap_1 w.params) (.ref 153) = some (.type "function") := by kernel_rfl
noncomputable def eAddr : Bad → Addr
  | .turn => 97
  | .waits => 109
  | .again => 73
  | .held => 85
section
variable {l : LA} {rows : Bool → List Stp} {s : St}
theorem over_ (wo : WOk (WL w b os)) (lo : LoomAt 191 H l rows s) (hd : Bool) (h : Q (.bool (decide ((rows hd).length ≤ s.pl hd))) H) : CallOk (WL w b os) (n + 1) q (.ref 160) [.ref l.L, .int (hv hd)] H Q E := by
  refine def_ok wo rfl (by kernel_rfl) rfl (by (repeat intro _); change _ = _; kernel_rfl) ?_
  simp only [fnBody, fnPars, List.map, ↓bELoom_over, ↓q_cons, ↓q_ret, ↓v_cmp, ↓v_sub_name, ↓v_attr, ↓v_name, ↓lELoom_over0, ↓lELoom_over1, ↓q_c1, ↓v_calln, ↓gELoom_over_len, ↓q_gbi, ↓vs_sub, ↓vs_nil, ↓q_flen, ↓q_retS, ↓q_cret, ↓q_rret, true_and]
  refine attr_of lo.L lo.d at_places lk_places trivial ?_
  refine sb_nat2 lo.P ?_
  refine attr_of lo.L lo.d at_rows lk_rows trivial ?_
  refine sb_ref2 lo.Rr ?_
  refine bi_len (seq_ref (lo.Rx hd)) ?_
  try simp only [↓q_ge]
  rw [List.length_map, dec_cast]; exact h
theorem waits_ (wo : WOk (WL w b os)) (lo : LoomAt 191 H l rows s) (hd : Bool) (h : Q (.bool (waitsS rows s hd)) H) : CallOk (WL w b os) (n + 2) q (.ref 167) [.ref l.L, .int (hv hd)] H Q E := by
  refine def_ok wo rfl (by kernel_rfl) rfl (by (repeat intro _); change _ = _; kernel_rfl) ?_
  simp only [fnBody, fnPars, List.map, ↓bELoom_over, ↓q_cons, ↓q_if, ↓vt_call, ↓v_calla, ↓v_name, ↓lELoom_over0, ↓vs_name, ↓lELoom_over1, ↓vs_nil, ↓q_ret, ↓v_boolc, ↓q_retS, ↓q_cret, ↓q_rret, ↓q_nil]
  refine meth_of lo.L lo.d lk_over mt_over ?_
  try simp only [↓q_um]
  refine over_ wo lo hd ?_
  try simp only [↓q_bool]
  refine ifK_dec (fun h1 => ?_) fun h1 => ?_
  · rw [waits_none (List.getElem?_eq_none h1)] at h; exact h
  · rw [q_cnext]; simp only [↓q_cons, ↓q_ret, ↓v_boolop, ↓q_bA, ↓v_cmp, ↓v_sub_const, ↓v_sub_sub, ↓v_sub_name, ↓v_attr, ↓v_name, ↓lELoom_over0, ↓lELoom_over1, ↓v_intc, ↓q_c1, ↓v_strc, ↓q_bool, ↓q_b1, ↓v_bin, ↓q_sub, hv_not, ↓q_retS, ↓q_cret, ↓q_rret]
    obtain ⟨t, ht⟩ : ∃ t, (rows hd)[s.pl hd]? = some t := ⟨_, List.getElem?_eq_getElem (by omega)⟩
    rw [waits_some ht] at h
    refine attr_of lo.L lo.d at_rows lk_rows trivial ?_
    refine sb_ref2 lo.Rr ?_
    refine attr_of lo.L lo.d at_places lk_places trivial ?_
    refine sb_nat2 lo.P ?_
    refine sb_row (lo.Rx hd) ht ?_
    try simp only [↓sv_sub0, ↓q_seq, wd_take]
    refine ifK_split (fun h2 => ?_) fun h2 => ?_
    · rw [h2] at h
      refine attr_of lo.L lo.d at_holder lk_holder (nv_ho _) ?_
      refine ho_eq ?_
      exact h
    · rw [h2] at h; exact h
set_option maxHeartbeats 2000000 in
theorem work_ (wo : WOk (WL w b os)) (lo : LoomAt 191 H l rows s) (hd : Bool) (t : Stp) (ok : ∀ k, t.at? = some k → 0 ≤ k ∧ k < (s.bx.length : Int)) (h : ∀ H', Same l.all H H' → LoomAt 191 H' l rows (t.on hd s) → Q .none H') :
    CallOk (WL w b os) (n + 1) q (.ref 181) [.ref l.L, .int (hv hd), t.v] H Q E := by
  refine def_ok wo rfl (by kernel_rfl) rfl (by (repeat intro _); change _ = _; kernel_rfl) ?_
  simp only [fnBody, fnPars, List.map, ↓bELoom_work, ↓q_cons, ↓q_asg, ↓v_sub_const, ↓v_name, ↓lELoom_work2, ↓v_intc, ↓sv_sub0, ↓q_aname, uELoom_work3]
  rw [q_cnext]; simp only [↓q_cons, ↓q_if, ↓vt_cmp, ↓v_name, ↓lELoom_work3, ↓q_c1, ↓v_strc, ↓q_seq, wd_load, ↓q_asg, ↓v_sub_sub, ↓v_attr, ↓lELoom_work0, ↓v_sub_const, ↓lELoom_work2, ↓v_intc, ↓q_asub, ↓lELoom_work1, wd_plus, ↓v_bin, ↓v_sub_name, wd_store, wd_add, wd_twice, wd_take, ↓q_aattr, ↓v_none]
  have fin : ∀ o a, a ∈ l.all → LoomAt 191 (hset H a o) l rows (t.on hd s) → Q .none (hset H a o) := fun o a ha lo' => h _ ((Same.refl _ _).set ha) lo'
  clear h
  cases t with
  | load k =>
    obtain ⟨h1, h2⟩ := ok k rfl
    simp only [cisLoad_load, ↓sv_sub1l, cisPlus_load, cisStore_load, cisAdd_load, cisTwice_load, cisTake_load, ↓q_f, ↓q_t]
    refine attr_of lo.L lo.d at_boxes lk_boxes trivial ?_
    refine sb_box lo.B h1 h2 ?_
    refine attr_of lo.L lo.d at_numbers lk_numbers trivial ?_
    refine st_int2 lo.N ?_
    exact fin _ _ (by simp [LA.all]) (lo.setN _)
  | plus k =>
    obtain ⟨h1, h2⟩ := ok k rfl
    simp only [cisLoad_plus, ↓sv_sub1p, cisPlus_plus, cisStore_plus, cisAdd_plus, cisTwice_plus, cisTake_plus, ↓q_f, ↓q_t]
    refine attr_of lo.L lo.d at_numbers lk_numbers trivial ?_
    refine sb_int2 lo.N ?_
    refine attr_of lo.L lo.d at_boxes lk_boxes trivial ?_
    refine sb_box lo.B h1 h2 ?_
    try simp only [↓q_add]
    refine attr_of lo.L lo.d at_numbers lk_numbers trivial ?_
    refine st_int2 lo.N ?_
    exact fin _ _ (by simp [LA.all]) (lo.setN _)
  | store k =>
    obtain ⟨h1, h2⟩ := ok k rfl
    simp only [cisLoad_store, ↓sv_sub1s, cisPlus_store, cisStore_store, cisAdd_store, cisTwice_store, cisTake_store, ↓q_f, ↓q_t]
    refine attr_of lo.L lo.d at_numbers lk_numbers trivial ?_
    refine sb_int2 lo.N ?_
    refine attr_of lo.L lo.d at_boxes lk_boxes trivial ?_
    refine st_box lo.B h1 h2 ?_
    exact fin _ _ (by simp [LA.all]) (lo.setBx _)
  | add k =>
    simp only [cisLoad_add, ↓sv_sub1a, cisPlus_add, cisStore_add, cisAdd_add, cisTwice_add, cisTake_add, ↓q_f, ↓q_t]
    refine attr_of lo.L lo.d at_numbers lk_numbers trivial ?_
    refine sb_int2 lo.N ?_
    try simp only [↓q_add]
    refine attr_of lo.L lo.d at_numbers lk_numbers trivial ?_
    refine st_int2 lo.N ?_
    exact fin _ _ (by simp [LA.all]) (lo.setN _)
  | twice =>
    simp only [cisLoad_twice, cisPlus_twice, cisStore_twice, cisAdd_twice, cisTwice_twice, cisTake_twice, ↓q_f, ↓q_t]
    refine attr_of lo.L lo.d at_numbers lk_numbers trivial ?_
    refine sb_int2 lo.N ?_
    try simp only [↓q_mul]
    refine ⟨IntMulOk.of_left (by decide +kernel), ?_⟩
    refine attr_of lo.L lo.d at_numbers lk_numbers trivial ?_
    refine st_int2 lo.N ?_
    exact fin _ _ (by simp [LA.all]) (lo.setN _)
  | take =>
    simp only [cisLoad_take, cisPlus_take, cisStore_take, cisAdd_take, cisTwice_take, cisTake_take, ↓q_t, ↓q_f]
    refine sat_of lo.L lo.d so_holder (by simp [lDict]) ?_
    rw [show (AVal.int (hv hd)) = hoV (some hd) from rfl, pt_holder]
    exact fin _ _ (by simp [LA.all]) (lo.setHo _)
  | free =>
    simp only [cisLoad_free, cisPlus_free, cisStore_free, cisAdd_free, cisTwice_free, cisTake_free, ↓q_f]
    refine sat_of lo.L lo.d so_holder (by simp [lDict]) ?_
    rw [show AVal.none = hoV none from rfl, pt_holder]
    exact fin _ _ (by simp [LA.all]) (lo.setHo _)
set_option maxHeartbeats 2000000 in
theorem go_ (wo : WOk (WL w b os)) (lo : LoomAt 191 H l rows s) (hd : Bool) (ok : ∀ t, s.next rows hd = some t → ∀ k, t.at? = some k → 0 ≤ k ∧ k < (s.bx.length : Int)) (hE : ∀ e, bad rows s hd = some e → E (eAddr e) H)
    (hQ : bad rows s hd = none → ∀ H', Same l.all H H' → LoomAt 191 H' l rows (goS rows s hd) → Q .none H') : CallOk (WL w b os) (n + 3) true (.ref 174) [.ref l.L, .int (hv hd)] H Q E := by
  refine def_ok wo rfl (by kernel_rfl) rfl (by (repeat intro _); change _ = _; kernel_rfl) ?_
  simp only [fnBody, fnPars, List.map, ↓bELoom_over, ↓q_cons, ↓q_if, ↓vt_call, ↓v_calla, ↓v_name, ↓lELoom_over0, ↓vs_name, ↓lELoom_over1, ↓vs_nil, ↓q_raise, g_NoTurn, eELoom_over_NoTurn, xk97, true_and, ↓q_nil]
  refine meth_of lo.L lo.d lk_over mt_over ?_
  try simp only [↓q_um]
  refine over_ wo lo hd ?_
  try simp only [↓q_bool]
  refine ifK_dec (fun h1 => ?_) fun h1 => ?_
  · skip
    exact hE .turn (bad_turn (List.getElem?_eq_none h1))
  rw [q_cnext]; simp only [↓q_cons, ↓q_if, ↓vt_call, ↓v_calla, ↓v_name, ↓lELoom_over0, ↓vs_name, ↓lELoom_over1, ↓vs_nil, ↓q_raise, g_Waits, eELoom_over_Waits, xk109, true_and, ↓q_nil]
  obtain ⟨t, ht⟩ : ∃ t, (rows hd)[s.pl hd]? = some t := ⟨_, List.getElem?_eq_getElem (by omega)⟩
  have hn : s.next rows hd = some t := ht
  refine meth_of lo.L lo.d lk_waits mt_waits ?_
  try simp only [↓q_um]
  refine waits_ wo lo hd ?_
  rw [waits_some ht]
  try simp only [↓q_bool]
  refine ifK_split (fun h2 => ?_) fun h2 => ?_
  · skip
    exact hE .waits (bad_waits hn h2)
  rw [q_cnext]; simp only [↓q_cons, ↓q_asg, ↓v_sub_sub, ↓v_sub_name, ↓v_attr, ↓v_name, ↓lELoom_over0, ↓lELoom_over1, ↓q_aname, uELoom_over2]
  refine attr_of lo.L lo.d at_rows lk_rows trivial ?_
  refine sb_ref2 lo.Rr ?_
  refine attr_of lo.L lo.d at_places lk_places trivial ?_
  refine sb_nat2 lo.P ?_
  refine sb_row (lo.Rx hd) ht ?_
  rw [q_cnext]
  refine s_join (J := fun σ' H' => H' = H ∧ σ' = ELoom_over (some (.ref l.L)) (some (.int (hv hd))) (some t.v) ∧ (isTake t = true → ¬ s.ho = some hd)) (fun N hN hR => ?_) (fun σ' H' hJ => ?_)
  · simp only [↓q_if, ↓vt_boolop, ↓q_tBA, ↓vt_cmp, ↓v_sub_const, ↓v_name, ↓lELoom_over2, ↓v_intc, ↓sv_sub0, ↓q_c1, ↓v_strc, ↓q_seq, wd_take, ↓v_attr, ↓lELoom_over0, ↓lELoom_over1, ↓q_tB0, ↓q_t, ↓q_cons, ↓q_raise, g_Again, eELoom_over_Again, xk73, true_and, ↓q_f, ↓q_nil]
    refine ifK_split (fun h3 => ?_) fun h3 => ?_
    · refine attr_of lo.L lo.d at_holder lk_holder (nv_ho _) ?_
      refine ho_eq ?_
      refine ifK_dec (fun h4 => ?_) fun h4 => ?_
      · skip
        exact hE .again (bad_again hn h3 h4)
      · exact hN _ _ ⟨rfl, rfl, fun _ => h4⟩
    · exact hN _ _ ⟨rfl, rfl, fun z => absurd z (by rw [h3]; decide)⟩
  obtain ⟨rfl, rfl, h3⟩ := hJ
  refine s_join (J := fun σ' H'' => H'' = H' ∧ σ' = ELoom_over (some (.ref l.L)) (some (.int (hv hd))) (some t.v) ∧ (isFree t = true → s.ho = some hd)) (fun N hN hR => ?_) (fun σ' H'' hJ => ?_)
  · simp only [↓q_if, ↓vt_boolop, ↓q_tBA, ↓vt_cmp, ↓v_sub_const, ↓v_name, ↓lELoom_over2, ↓v_intc, ↓sv_sub0, ↓q_c1, ↓v_strc, ↓q_seq, wd_free, ↓v_attr, ↓lELoom_over0, ↓lELoom_over1, ↓q_tB0, ↓q_t, ↓q_cons, ↓q_raise, g_NotHeld, eELoom_over_NotHeld, xk85, true_and, ↓q_f, ↓q_nil]
    refine ifK_split (fun h4 => ?_) fun h4 => ?_
    · refine attr_of lo.L lo.d at_holder lk_holder (nv_ho _) ?_
      refine ho_ne ?_
      refine ifK_ndec (fun h5 => ?_) fun h5 => ?_
      · skip
        exact hE .held (bad_held hn h4 h5)
      · exact hN _ _ ⟨rfl, rfl, fun _ => h5⟩
    · exact hN _ _ ⟨rfl, rfl, fun z => absurd z (by rw [h4]; decide)⟩
  obtain ⟨rfl, rfl, h4⟩ := hJ
  simp only [↓q_cons, ↓q_expr, ↓v_calla, ↓v_name, ↓lELoom_over0, ↓vs_name, ↓lELoom_over1, ↓lELoom_over2, ↓vs_nil]
  refine meth_of lo.L lo.d lk_work mt_work ?_
  try simp only [↓q_um]
  refine work_ wo lo hd t (ok t hn) fun H1 sm lo1 => ?_
  rw [q_nextS, q_cnext]; simp only [↓q_cons, ↓q_asg, ↓v_bin, ↓v_sub_name, ↓v_attr, ↓v_name, ↓lELoom_over0, ↓lELoom_over1, ↓v_intc, ↓q_asub]
  refine attr_of lo1.L lo1.d at_places lk_places trivial ?_
  refine sb_nat2 lo1.P ?_
  try simp only [↓q_add]
  refine attr_of lo1.L lo1.d at_places lk_places trivial ?_
  refine st_nat2 lo1.P ?_
  refine hQ (bad_none hn h2 h3 h4) _ (sm.set (by simp [LA.all])) ?_
  rw [goS_of hn]; exact lo1.setP _
set_option maxHeartbeats 2000000 in
theorem loom_new (wo : WOk (WL w b os)) {A : Bool → Addr} {ba : Addr} {rr : Bool → Bool} {rb : Bool} {bx : List Int} (hA : ∀ h, H (A h) = some (.list (rr h) ((rows h).map Stp.v))) (hB : H ba = some (.list rb (bx.map .int))) (hl : ∀ h, (rows h).length ≤ 60)
    (ok : ∀ h, ∀ t ∈ rows h, ∀ k, t.at? = some k → 0 ≤ k ∧ k < (bx.length : Int)) (h : ∀ l H', Grow H H' → (∀ x ∈ l.all, H x = none) → LoomAt 191 H' l rows (St.new bx) → Q (.ref l.L) H') :
    CallOk (WL w b os) (n + 5) true (.ref 191) [.ref (A false), .ref (A true), .ref ba] H Q E := by
  refine cls_ok wo mk_loom in_loom tf_loom fun x d nx nd hne => ?_
  refine def_code wo rfl (by kernel_rfl) rfl (by (repeat intro _); change _ = _; kernel_rfl) ?_
  have nx' : hset H d (.dict []) x = none := hs_ne hne nx
  have g1 : Grow H (hset (hset H d (.dict [])) x (.inst 191 d)) := (Grow.new nd).trans (Grow.new nx')
  have fx : hset (hset H d (.dict [])) x (.inst 191 d) x = some (.inst 191 d) := hs_same
  have fd : hset (hset H d (.dict [])) x (.inst 191 d) d = some (.dict []) := hs_ne (Ne.symm hne) hs_same
  generalize hset (hset H d (.dict [])) x (.inst 191 d) = H1 at g1 fx fd ⊢
  have lv : Live [x, d] H1 := ⟨by simp [hne], fun y hy => by
    simp only [List.mem_cons, List.not_mem_nil, or_false] at hy
    rcases hy with rfl | rfl
    · rw [fx]; exact fun z => nomatch z
    · rw [fd]; exact fun z => nomatch z⟩
  have fA := fun h => g1 _ _ (hA h)
  have fB := g1 _ _ hB
  simp only [fnBody, fnPars, List.map, ↓bELoom_init, ↓q_cons, ↓q_expr, ↓v_calln, ↓gELoom_init_need_row, ↓q_gref, kp139, ↓vs_name, ↓v_name, ↓lELoom_init1, ↓vs_call, ↓gELoom_init_len, ↓q_gbi, ↓lELoom_init3, ↓vs_nil, ↓q_flen, ↓q_fref, true_and]
  refine bi_len (seq_ref fB) ?_
  rw [List.length_map]
  refine need_int wo (fA false) (hl false) (ok false) ?_
  rw [q_nextS, q_cnext]; simp only [↓q_cons, ↓q_expr, ↓v_calln, ↓gELoom_init_need_row, ↓q_gref, kp139, ↓vs_name, ↓v_name, ↓lELoom_init2, ↓vs_call, ↓gELoom_init_len, ↓q_gbi, ↓lELoom_init3, ↓vs_nil, ↓q_flen, ↓q_fref, true_and]
  refine bi_len (seq_ref fB) ?_
  rw [List.length_map]
  refine need_int wo (fA true) (hl true) (ok true) ?_
  rw [q_nextS, q_cnext]; simp only [↓q_cons, ↓q_asg, ↓v_list, ↓vs_call, ↓v_calln, ↓gELoom_init_list, ↓q_gty, ↓vs_name, ↓v_name, ↓lELoom_init1, ↓vs_nil, ↓q_flist, ↓lELoom_init2, List.length_cons, List.length_nil, Nat.reduceAdd, bigL, Nat.reduceLeDiff, ↓q_aattr, ↓lELoom_init0, true_and]
  refine ty_list (fA false) (new_of fun R0 H2 g2 n2 _ f2 => ?_)
  have lv := lv.new n2 g2 f2
  refine ty_list (g2 _ _ (fA true)) (new_of fun R1 H3 g3 n3 _ f3 => ?_)
  have lv := lv.new n3 g3 f3
  refine new_of fun R H4 g4 n4 _ f4 => ?_
  have lv := lv.new n4 g4 f4
  have g14 := (g2.trans g3).trans g4
  refine sat_x (g14 _ _ fx) (g14 _ _ fd) (fs' := [(Str.ofString "rows", .ref R)]) so_rows (by decide) (by rfl) fun H5 x5 d5 => ?_
  have lv := lv.x x5 d5
  have hxd : x ≠ d := hne
  have x15 := (g14.x d).trans x5
  rw [q_cnext]; simp only [↓q_cons, ↓q_asg, ↓v_calln, ↓gELoom_init_list, ↓q_gty, ↓vs_name, ↓v_name, ↓lELoom_init3, ↓vs_nil, ↓q_flist, ↓q_aattr, ↓lELoom_init0, true_and]
  have hbd : ba ≠ d := ne_new hB nd
  refine ty_list (x15 _ _ hbd fB) (new_of fun B H6 g6 n6 _ f6 => ?_)
  have lv := lv.new n6 g6 f6
  refine sat_x (g6 _ _ (x15 _ _ hxd fx)) (g6 _ _ d5) so_boxes (by simp) (by simp [putF, ofs_eq]; rfl) fun H7 x7 d7 => ?_
  have lv := lv.x x7 d7
  have x17 := (x15.trans (g6.x d)).trans x7
  rw [q_cnext]; simp only [↓q_cons, ↓q_asg, ↓v_list, ↓vs_const, ↓v_intc, ↓vs_nil, List.length_cons, List.length_nil, Nat.reduceAdd, bigL, Nat.reduceLeDiff, ↓q_aattr, ↓v_name, ↓lELoom_init0, true_and]
  refine new_of fun N H8 g8 n8 _ f8 => ?_
  have lv := lv.new n8 g8 f8
  refine sat_x (g8 _ _ (x17 _ _ hxd fx)) (g8 _ _ d7) so_numbers (by simp) (by simp [putF, ofs_eq]; rfl) fun H9 x9 d9 => ?_
  have lv := lv.x x9 d9
  have x19 := (x17.trans (g8.x d)).trans x9
  rw [q_cnext]; simp only [↓q_cons, ↓q_asg, ↓v_list, ↓vs_const, ↓v_intc, ↓vs_nil, List.length_cons, List.length_nil, Nat.reduceAdd, bigL, Nat.reduceLeDiff, ↓q_aattr, ↓v_name, ↓lELoom_init0, true_and]
  refine new_of fun P H10 g10 n10 _ f10 => ?_
  have lv := lv.new n10 g10 f10
  refine sat_x (g10 _ _ (x19 _ _ hxd fx)) (g10 _ _ d9) so_places (by simp) (by simp [putF, ofs_eq]; rfl) fun H11 x11 d11 => ?_
  have lv := lv.x x11 d11
  have x1b := (x19.trans (g10.x d)).trans x11
  rw [q_cnext]; simp only [↓q_cons, ↓q_asg, ↓v_none, ↓q_aattr, ↓v_name, ↓lELoom_init0]
  refine sat_x (x1b _ _ hxd fx) d11 so_holder (by simp) (by simp [putF, ofs_eq]; rfl) fun H12 x12 d12 => ?_
  have lv := lv.x x12 d12
  have x1c := x1b.trans x12
  have nb := lv.1
  have ne : ∀ y ∈ [P, N, B, R, R1, R0, x], y ≠ d := by
    intro y hy e
    subst e
    have : [P, N, B, R, R1, R0, x] ++ [y] = [P, N, B, R, R1, R0, x, y] := rfl
    rw [← this] at nb
    exact (List.nodup_append.mp nb).2.2 y hy y (by simp) rfl
  have xbc := x11.trans x12
  have x9c := (((g10.x d).trans x11).trans x12)
  have x8c := (((x9.trans (g10.x d)).trans x11).trans x12)
  have x7c := (g8.x d).trans x8c
  have x6c := x7.trans x7c
  have x5c := (g6.x d).trans x6c
  have x4c := x5.trans x5c
  have x3c := (g4.x d).trans x4c
  have x2c := (g3.x d).trans x3c
  have gA := (((g1.x d).trans x1c).grow nd)
  refine ⟨rfl, ?_⟩
  refine h ⟨x, d, R, B, N, P, R0, R1⟩ H12 gA ?_ ⟨x1c _ _ hxd fx, d12, x4c _ _ (ne _ (by simp)) f4, x6c _ _ (ne _ (by simp)) f6, x8c _ _ (ne _ (by simp)) f8, xbc _ _ (ne _ (by simp)) f10, x2c _ _ (ne _ (by simp)) f2, x3c _ _ (ne _ (by simp)) f3, nb⟩
  have gg1 := g1.x d
  intro y hy
  simp only [LA.all, List.mem_cons, List.not_mem_nil, or_false] at hy
  rcases hy with rfl | rfl | rfl | rfl | rfl | rfl | rfl | rfl
  · exact (gg1.trans x19).non nd n10
  · exact (gg1.trans x17).non nd n8
  · exact (gg1.trans x15).non nd n6
  · exact (gg1.trans ((g2.trans g3).x d)).non nd n4
  · exact (gg1.trans (g2.x d)).non nd n3
  · exact gg1.non nd n2
  · exact nx
  · exact nd
end
set_option maxHeartbeats 1000000 in
theorem walked_ (wo : WOk (WL w b os)) {rows : Bool → List Stp} {ord : List Bool} {bx : List Int} {A : Bool → Addr} {ba ao : Addr} {rr : Bool → Bool} {rb r2 : Bool} (hA : ∀ h, H (A h) = some (.list (rr h) ((rows h).map Stp.v))) (hB : H ba = some (.list rb (bx.map .int))) (ho : H ao = some (.list r2 (ord.map hvV)))
    (hl : ∀ h, (rows h).length ≤ 60) (ok : ∀ h, ∀ t ∈ rows h, okS bx.length t)
    (hE : ∀ s' e, runS rows ord (St.new bx) = (s', some e) → ∀ H', Grow H H' → E (eAddr e) H')
    (hQ : ∀ s', runS rows ord (St.new bx) = (s', none) → ∀ (l : LA) H', Grow H H' → (∀ x ∈ l.all, H x = none) → LoomAt 191 H' l rows s' → Q (.tup [.ref l.B, .ref l.N]) H') :
    CallOk (WL w b os) (n + 6) true (.ref 209) [.ref (A false), .ref (A true), .ref ba, .ref ao] H Q E := by
  refine def_ok wo rfl (by kernel_rfl) rfl (by (repeat intro _); change _ = _; kernel_rfl) ?_
  simp only [fnBody, fnPars, List.map, ↓bEwalked, ↓q_cons, ↓q_asg, ↓v_calln, ↓gEwalked_Loom, ↓q_gref, kp191, ↓vs_name, ↓v_name, ↓lEwalked0, ↓lEwalked1, ↓lEwalked2, ↓vs_nil, ↓q_fref, ↓q_aname, uEwalked4, true_and]
  refine loom_new (A := A) wo hA hB hl ok fun l H1 g1 fr lo => ?_
  rw [q_cnext]; simp only [↓q_cons, ↓q_for, ↓v_name, ↓lEwalked3, true_and]
  refine ⟨_, _, it_list (g1 _ _ ho), ?_⟩
  refine for_map (f := hvV) (fun pre suf σ H' => ∃ (s : St) (o : Option AVal), LoomAt 191 H' l rows s ∧ s.bx.length = bx.length ∧ runS rows ord (St.new bx) = runS rows suf s ∧ Grow H H' ∧
    σ = Ewalked (some (.ref (A false))) (some (.ref (A true))) (some (.ref ba)) (some (.ref ao)) (some (.ref l.L)) (o)) ?_ ?_ ord [] _ _ ⟨St.new bx, none, lo, rfl, rfl, g1, rfl⟩
  · rintro pre a suf σ H' ⟨s, o, lo, hbx, hrun, g, rfl⟩ N n1 n2 n3
    unfold hvV
    simp only [↓q_body, ↓q_cons, ↓q_expr, ↓v_calla, ↓v_name, uEwalked5, ↓vs_name, ↓vs_nil, ↓lEwalked5, ↓lEwalked4]
    refine meth_of lo.L lo.d lk_go mt_go ?_
    try simp only [↓q_um]
    refine go_ wo lo a (fun t ht => by rw [hbx]; exact ok a t (List.mem_of_getElem? ht)) (fun e he => ?_) fun hb H2 sm lo2 => ?_
    · try simp only [↓q_after]
      exact hE s e (by rw [hrun]; unfold runS; rw [he]) _ g
    · try simp only [↓q_nextS]
      have g' := g.same fr sm
      refine n1 _ _ (g' _ _ ho) ⟨goS rows s a, _, lo2, by rw [goS_len]; exact hbx, ?_, g', rfl⟩
      rw [hrun]; conv => lhs; unfold runS
      rw [hb]
  · rintro pre σ H' ⟨s, o, lo, hbx, hrun, g, rfl⟩
    rw [q_cnext]; simp only [↓q_cons, ↓q_ret, ↓v_tuple, ↓vs_attr, ↓v_attr, ↓v_name, ↓lEwalked4, ↓vs_nil, List.length_cons, List.length_nil, Nat.reduceAdd, bigL, Nat.reduceLeDiff, ↓q_retS, ↓q_cret, ↓q_rret, true_and]
    refine attr_of lo.L lo.d at_boxes lk_boxes trivial ?_
    refine attr_of lo.L lo.d at_numbers lk_numbers trivial ?_
    exact hQ s (by rw [hrun]; rfl) l _ g fr lo
noncomputable def aloneR (row : List Stp) (bx : List Int) : St × Option Bad := runS (bsel row []) (List.replicate row.length false) (St.new bx)
theorem alone_bad {rows : Bool → List Stp} : ∀ (n : Nat) (s s' : St) (e : Bad), s.pl false + n ≤ (rows false).length → s.ho ≠ some true → runS rows (List.replicate n false) s = (s', some e) → e = .again ∨ e = .held
  | 0, s, s', e, _, _, h => by cases h
  | n + 1, s, s', e, hl, ho, h => by
    rw [List.replicate_succ] at h
    unfold runS at h
    obtain ⟨t, ht⟩ : ∃ t, (rows false)[s.pl false]? = some t := ⟨_, List.getElem?_eq_getElem (by omega)⟩
    have hn : s.next rows false = some t := ht
    cases hb : bad rows s false with
    | some e' =>
      rw [hb] at h
      cases h
      unfold bad at hb
      rw [hn] at hb
      cases t <;> first | (cases hb; done) | skip
      · cases e1 : s.ho with
        | none => rw [e1] at hb; cases hb
        | some g =>
          rw [e1] at hb ho
          cases g
          · cases hb; exact .inl rfl
          · exact absurd rfl ho
      · by_cases e1 : s.ho = some false
        · simp [e1] at hb
        · simp [e1] at hb; exact .inr hb.symm
    | none =>
      rw [hb] at h
      refine alone_bad n _ _ _ ?_ ?_ h
      · rw [goS_pl hn, setB_same]; omega
      · rw [goS_of hn]
        cases t <;> first | exact ho | exact fun z => nomatch z
set_option maxHeartbeats 2000000 in
theorem alone_ (wo : WOk (WL w b os)) {ra ba : Addr} {rr rb : Bool} (hr : H ra = some (.list rr (row.map Stp.v))) (hB : H ba = some (.list rb (bx.map .int))) (hl : row.length ≤ 60) (ok : ∀ t ∈ row, okS bx.length t)
    (hE : ∀ s' e, aloneR row bx = (s', some e) → ∀ H', Grow H H' → E (eAddr e) H')
    (hQ : ∀ s', aloneR row bx = (s', none) → ∀ (l : LA) H', Grow H H' → LoomAt 191 H' l (bsel row []) s' → Q (.tup [.ref l.B, .int (s'.num false)]) H') :
    CallOk (WL w b os) (n + 6) true (.ref 202) [.ref ra, .ref ba] H Q E := by
  refine def_ok wo rfl (by kernel_rfl) rfl (by (repeat intro _); change _ = _; kernel_rfl) ?_
  simp only [fnBody, fnPars, List.map, ↓bEalone, ↓q_cons, ↓q_asg, ↓v_calln, ↓gEalone_Loom, ↓q_gref, kp191, ↓vs_name, ↓v_name, ↓lEalone0, ↓vs_list, ↓v_list, ↓vs_nil, List.length_nil, bigL, Nat.reduceLeDiff, ↓lEalone1, ↓q_fref, ↓q_aname, uEalone2, true_and]
  refine new_of fun e H1 g1 ne _ fe => ?_
  refine loom_new (A := bsel ra e) (rr := bsel rr false) (rows := bsel row []) wo (fun h => by cases h; exact g1 _ _ hr; exact fe) (g1 _ _ hB) (fun h => by cases h; exact hl; exact Nat.zero_le _) (fun h => by cases h; exact ok; exact fun t ht => nomatch ht) fun l H2 g2 fr lo => ?_
  rw [q_cnext]; simp only [↓q_cons, ↓q_while]
  have fr0 : ∀ x ∈ l.all, H x = none := fun x hx => g1.non (fr x hx)
  refine ⟨row.length + 1, wh_ind (fun m σ H' => ∃ s, LoomAt 191 H' l (bsel row []) s ∧ row.length = s.pl false + m ∧ s.bx.length = bx.length ∧ aloneR row bx = runS (bsel row []) (List.replicate m false) s ∧ Grow H H' ∧
    σ = Ealone (some (.ref ra)) (some (.ref ba)) (some (.ref l.L))) ?_ _ row.length _ _ (by omega) ⟨St.new bx, lo, by simp [St.new], rfl, rfl, g1.trans g2, rfl⟩⟩
  rintro m σ H' ⟨s, lo, hm, hbx, hrun, g, rfl⟩ N n1 n2
  simp only [↓q_test, ↓q_not, ↓vt_call, ↓v_calla, ↓v_name, ↓lEalone2, ↓vs_const, ↓v_intc, ↓vs_nil, ↓q_ifn, ↓q_body, ↓q_cons, ↓q_expr]
  refine meth_of lo.L lo.d lk_over mt_over ?_
  try simp only [↓q_um]
  refine over_ wo lo false ?_
  try simp only [↓q_bool]
  refine ifK_dec (fun h1 => ?_) fun h1 => ?_
  · have h1 : row.length ≤ s.pl false := h1
    obtain rfl : m = 0 := by omega
    rw [q_cnext]; simp only [↓q_cons, ↓q_ret, ↓v_tuple, ↓vs_attr, ↓v_attr, ↓v_name, ↓lEalone2, ↓vs_sub, ↓v_sub_const, ↓v_intc, ↓vs_nil, List.length_cons, List.length_nil, Nat.reduceAdd, bigL, Nat.reduceLeDiff, ↓q_retS, ↓q_cret, ↓q_rret, true_and]
    refine attr_of lo.L lo.d at_boxes lk_boxes trivial ?_
    refine attr_of lo.L lo.d at_numbers lk_numbers trivial ?_
    refine sb_list lo.N (by decide) rfl ?_
    exact hQ s (by rw [hrun]; rfl) l _ g lo
  · have h1 : ¬ row.length ≤ s.pl false := h1
    obtain ⟨m, rfl⟩ : ∃ m', m = m' + 1 := ⟨m - 1, by omega⟩
    obtain ⟨t, ht⟩ : ∃ t, row[s.pl false]? = some t := ⟨_, List.getElem?_eq_getElem (by omega)⟩
    have hn : s.next (bsel row []) false = some t := ht
    refine meth_of lo.L lo.d lk_go mt_go ?_
    try simp only [↓q_um]
    refine go_ wo lo false (fun t' ht' => ?_) (fun e he => ?_) fun hb H3 sm lo3 => ?_
    · rw [hbx]; exact ok t' (List.mem_of_getElem? (show row[s.pl false]? = some t' from ht'))
    · try simp only [↓q_after]
      refine hE s e ?_ _ g
      rw [hrun, List.replicate_succ]; unfold runS; rw [he]
    · try simp only [↓q_nextS]
      refine n1 m _ _ (Nat.lt_succ_self m) ⟨goS (bsel row []) s false, lo3, ?_, ?_, ?_, g.same fr0 sm, rfl⟩
      · rw [goS_pl hn, setB_same]; omega
      · rw [goS_len]; exact hbx
      · rw [hrun, List.replicate_succ]; conv => lhs; unfold runS
        rw [hb]
theorem hand_of (x : Int) : ∃ h : Bool, x % 2 = hv h := by
  rcases (by omega : x % 2 = 0 ∨ x % 2 = 1) with e | e
  · exact ⟨false, e⟩
  · exact ⟨true, e⟩
theorem hvs (ord : List Bool) : ord.map hvV = (ord.map hv).map .int := by rw [List.map_map]; rfl
theorem pl_le {rows : Bool → List Stp} {s : St} {a : Bool} {t : Stp} (hn : s.next rows a = some t) (hp : ∀ h, s.pl h ≤ (rows h).length) : ∀ h, (goS rows s a).pl h ≤ (rows h).length := fun h => by
  rw [goS_pl hn]; unfold setB; split
  · rename_i e; subst e
    have := (List.getElem?_eq_some_iff.mp (show (rows h)[s.pl h]? = some t from hn)).1
    omega
  · exact hp h
theorem mt_twin {w : World} : methOk (hd.heap_1 w.params) 191 (Str.ofString "twin") 188 = true := by kernel_rfl
set_option maxHeartbeats 2000000 in
theorem twin_ (wo : WOk (WL w b os)) {l : LA} {rows : Bool → List Stp} {s : St} (lo : LoomAt 191 H l rows s) (hl : ∀ h, (rows h).length ≤ 60) (ok : ∀ h, ∀ t ∈ rows h, okS s.bx.length t)
    (h : ∀ l2 H', Grow H H' → (∀ x ∈ l2.all, H x = none) → LoomAt 191 H' l2 rows s → Q (.ref l2.L) H') :
    CallOk (WL w b os) (n + 6) true (.ref 188) [.ref l.L] H Q E := by
  refine def_ok wo rfl (by kernel_rfl) rfl (by (repeat intro _); change _ = _; kernel_rfl) ?_
  simp only [fnBody, fnPars, List.map, ↓bELoom_twin, ↓q_cons, ↓q_asg, ↓v_calln, ↓gELoom_twin_Loom, ↓q_gref, kp191, ↓vs_sub, ↓v_sub_const, ↓v_attr, ↓v_name, ↓lELoom_twin0, ↓v_intc, ↓vs_attr, ↓vs_nil, ↓q_fref, ↓q_aname, uELoom_twin1, true_and]
  refine attr_of lo.L lo.d at_rows lk_rows trivial ?_
  refine sb_list lo.R (by decide) rfl ?_
  refine attr_of lo.L lo.d at_rows lk_rows trivial ?_
  refine sb_list lo.R (by decide) rfl ?_
  refine attr_of lo.L lo.d at_boxes lk_boxes trivial ?_
  refine loom_new (A := bsel l.R0 l.R1) (rr := fun _ => false) (rows := rows) wo (fun h => by cases h; exact lo.R0; exact lo.R1) lo.B hl ok fun l2 H1 g1 fr lo1 => ?_
  have lo0 := lo
  have lo := lo.grow g1
  have lv : Live [l2.B, l2.R, l2.R1, l2.R0, l2.L, l2.d] H1 := by
    refine ⟨?_, fun y hy => lo1.live y ?_⟩
    · have := lo1.nd
      exact (List.nodup_cons.mp (List.nodup_cons.mp this).2).2
    · exact List.mem_cons_of_mem _ (List.mem_cons_of_mem _ hy)
  have out : ∀ y ∈ l.all, y ≠ l2.d := fun y hy e => by
    have := fr l2.d (by simp [LA.all])
    rw [← e] at this
    exact lo0.live y hy this
  rw [q_cnext]; simp only [↓q_cons, ↓q_asg, ↓v_calln, ↓gELoom_twin_list, ↓q_gty, ↓vs_attr, ↓v_attr, ↓v_name, ↓lELoom_twin0, ↓vs_nil, ↓q_flist, ↓q_aattr, ↓lELoom_twin1, true_and]
  refine attr_of lo.L lo.d at_numbers lk_numbers trivial ?_
  refine ty_list lo.N (new_of fun N H2 g2 n2 _ f2 => ?_)
  have lv := lv.new n2 g2 f2
  refine sat_x (g2 _ _ lo1.L) (g2 _ _ lo1.d) (fs' := lDict { l2 with N := N } none) so_numbers (by simp [lDict]) (by first | (simp [putF, lDict, ofs_eq]; done) | (simp [putF, lDict, ofs_eq]; rfl)) fun H3 x3 d3 => ?_
  have lv := lv.x x3 d3
  have x13 := (g2.x l2.d).trans x3
  have kl : ∀ y o, y ∈ l.all → H1 y = some o → H3 y = some o := fun y o hy e => x13 _ _ (out y hy) e
  rw [q_cnext]; simp only [↓q_cons, ↓q_asg, ↓v_calln, ↓gELoom_twin_list, ↓q_gty, ↓vs_attr, ↓v_attr, ↓v_name, ↓lELoom_twin0, ↓vs_nil, ↓q_flist, ↓q_aattr, ↓lELoom_twin1, true_and]
  refine attr_of (kl _ _ (by simp [LA.all]) lo.L) (kl _ _ (by simp [LA.all]) lo.d) at_places lk_places trivial ?_
  refine ty_list (kl _ _ (by simp [LA.all]) lo.P) (new_of fun P H4 g4 n4 _ f4 => ?_)
  have lv := lv.new n4 g4 f4
  have hLd : l2.L ≠ l2.d := fun e => by
    have := lo1.nd
    simp [LA.all, e] at this
  refine sat_x (g4 _ _ (x13 _ _ hLd lo1.L)) (g4 _ _ d3) (fs' := lDict { l2 with N := N, P := P } none) so_places (by simp [lDict]) (by first | (simp [putF, lDict, ofs_eq]; done) | (simp [putF, lDict, ofs_eq]; rfl)) fun H5 x5 d5 => ?_
  have lv := lv.x x5 d5
  have x35 := (g4.x l2.d).trans x5
  have x15 := x13.trans x35
  have kl : ∀ y o, y ∈ l.all → H1 y = some o → H5 y = some o := fun y o hy e => x15 _ _ (out y hy) e
  rw [q_cnext]; simp only [↓q_cons, ↓q_asg, ↓v_attr, ↓v_name, ↓lELoom_twin0, ↓q_aattr, ↓lELoom_twin1]
  refine attr_of (kl _ _ (by simp [LA.all]) lo.L) (kl _ _ (by simp [LA.all]) lo.d) at_holder lk_holder (by cases s.ho <;> trivial) ?_
  refine sat_x (x15 _ _ hLd lo1.L) d5 (fs' := lDict { l2 with N := N, P := P } s.ho) so_holder (by simp [lDict]) (by first | (simp [putF, lDict, ofs_eq]; done) | (simp [putF, lDict, ofs_eq]; rfl)) fun H6 x6 d6 => ?_
  have lv := lv.x x6 d6
  have x16 := x15.trans x6
  rw [q_cnext]; simp only [↓q_cons, ↓q_ret, ↓v_name, ↓lELoom_twin1, ↓q_retS, ↓q_cret, ↓q_rret]
  have nb := lv.1
  have ne : ∀ y ∈ [P, N, l2.B, l2.R, l2.R1, l2.R0, l2.L], y ≠ l2.d := by
    intro y hy e
    subst e
    have : [P, N, l2.B, l2.R, l2.R1, l2.R0, l2.L] ++ [l2.d] = [P, N, l2.B, l2.R, l2.R1, l2.R0, l2.L, l2.d] := rfl
    rw [← this] at nb
    exact (List.nodup_append.mp nb).2.2 _ hy _ (by simp) rfl
  have nd0 : H l2.d = none := fr _ (by simp [LA.all])
  refine h { l2 with N := N, P := P } H6 (((g1.x l2.d).trans x16).grow nd0) ?_ ⟨x16 _ _ (ne _ (by simp)) lo1.L, d6, x16 _ _ (ne _ (by simp)) lo1.R, x16 _ _ (ne _ (by simp)) lo1.B, ((x3.trans x35).trans x6) _ _ (ne _ (by simp)) f2, (x5.trans x6) _ _ (ne _ (by simp)) f4, x16 _ _ (ne _ (by simp)) lo1.R0, x16 _ _ (ne _ (by simp)) lo1.R1, nb⟩
  intro y hy
  simp only [LA.all, List.mem_cons, List.not_mem_nil, or_false] at hy
  rcases hy with rfl | rfl | hy
  · exact ((g1.x l2.d).trans x13).non nd0 n4
  · exact g1.non n2
  · exact fr y (by simp only [LA.all, List.mem_cons, List.not_mem_nil, or_false]; exact .inr (.inr hy))
theorem plain_ (wo : WOk (WL w b os)) {rows : Bool → List Stp} {ord : List Bool} {bx : List Int} {A : Bool → Addr} {ba ao : Addr} {rr : Bool → Bool} {rb r2 : Bool} (hA : ∀ h, H (A h) = some (.list (rr h) ((rows h).map Stp.v))) (hB : H ba = some (.list rb (bx.map .int))) (ho : H ao = some (.list r2 (ord.map hvV)))
    (hl : ∀ h, (rows h).length ≤ 60) (ok : ∀ h, ∀ t ∈ rows h, okS bx.length t) (hw : ∀ s' e, runS rows ord (St.new bx) = (s', some e) → e = .waits) (h : ∀ v H', Grow H H' → KAt H' v (endS rows bx ord) → Q v H') :
    CallOk (WL w b os) (n + 7) true (.ref 216) [.ref (A false), .ref (A true), .ref ba, .ref ao] H Q E := by
  refine def_ok wo rfl (by kernel_rfl) rfl (by (repeat intro _); change _ = _; kernel_rfl) ?_
  simp only [fnBody, fnPars, List.map, ↓bEwalked, ↓q_cons, ↓q_try, ↓q_ret, ↓v_calln, ↓gEwalked_walked, ↓q_gref, kp209, ↓vs_name, ↓v_name, ↓lEwalked0, ↓lEwalked1, ↓lEwalked2, ↓lEwalked3, ↓vs_nil, ↓q_fref, true_and]
  refine walked_ wo hA hB ho hl ok (fun s' e he H' g => ?_) fun s' hs l H' g fr lo => ?_
  · obtain rfl := hw s' e he
    have h := h .none H' g (by unfold endS; rw [he]; rfl)
    rw [show eAddr .waits = 109 from rfl]
    simp only [↓q_after, ↓q_hdn, eEwalked_Waits, ↓xm_Waits_Waits, ↓q_cons, ↓q_ret, ↓v_none, ↓q_retS, ↓q_cret, ↓q_rret, true_and]
    exact h
  · try simp only [↓q_retS, ↓q_cret, ↓q_rret]
    exact h _ H' g (by unfold endS; rw [hs]; exact ⟨l.B, l.N, rfl, lo.B, lo.N⟩)
set_option maxHeartbeats 8000000 in
theorem strange_ (wo : WOk (WL w b os)) {rows : Bool → List Stp} {bx : List Int} {A : Bool → Addr} {ba : Addr} {rr : Bool → Bool} {rb : Bool} (hA : ∀ h, H (A h) = some (.list (rr h) ((rows h).map Stp.v))) (hB : H ba = some (.list rb (bx.map .int)))
    (hl : ∀ h, (rows h).length ≤ 5) (ok : ∀ h, ∀ t ∈ rows h, okS bx.length t) (ha : ∀ h, altS false (rows h) = true)
    (hN : (∀ ord s, runS rows ord (St.new bx) = (s, none) → (∀ h, s.pl h = (rows h).length) → inK rows bx s = true) → ∀ H', Grow H H' → Q .none H')
    (hF : ∀ ord s O H', runS rows ord (St.new bx) = (s, none) → (∀ h, s.pl h = (rows h).length) → inK rows bx s = false → Grow H H' → H' O = some (.list false (ord.map hvV)) → ord.length ≤ 10 → Q (.ref O) H') :
    CallOk (WL w b os) (n + 8) true (.ref 221) [.ref (A false), .ref (A true), .ref ba] H Q E := by
  have hl60 : ∀ h, (rows h).length ≤ 60 := fun h => Nat.le_trans (hl h) (by decide)
  refine def_ok wo rfl (by kernel_rfl) rfl (by (repeat intro _); change _ = _; kernel_rfl) ?_
  simp only [fnBody, fnPars, List.map, ↓bEstrange, ↓q_cons, ↓q_asg, ↓v_calln, ↓gEstrange_Loom, ↓q_gref, kp191, ↓vs_name, ↓v_name, ↓lEstrange0, ↓lEstrange1, ↓lEstrange2, ↓vs_nil, ↓q_fref, ↓q_aname, uEstrange3, true_and]
  refine loom_new (A := A) wo hA hB hl60 ok fun l0 H1 g1 fr0 lo0 => ?_
  rw [q_cnext]; simp only [↓q_cons, ↓q_if, ↓vt_boolop, ↓q_tBO, ↓vt_cmp, ↓v_calln, ↓gEstrange_len, ↓q_gbi, ↓vs_name, ↓v_name, ↓lEstrange0, ↓vs_nil, ↓q_flen, ↓q_c1, ↓gEstrange_MOST_LOOKED, ↓q_t, ↓q_raise, g_TooMany, eEstrange_TooMany, xk37, true_and, ↓lEstrange1, ↓q_tB0', ↓q_f, ↓q_nil]
  refine bi_len (seq_ref (g1 _ _ (hA false))) ?_
  rw [List.length_map]
  try simp only [↓q_gt]
  rw [decide_eq_false (show ¬ ((5 : Int) < ((rows false).length : Nat)) by have := hl false; omega)]
  try simp only [↓q_f]
  refine bi_len (seq_ref (g1 _ _ (hA true))) ?_
  rw [List.length_map]
  try simp only [↓q_gt]
  rw [decide_eq_false (show ¬ ((5 : Int) < ((rows true).length : Nat)) by have := hl true; omega)]
  try simp only [↓q_f]
  rw [q_cnext]; simp only [↓q_cons, ↓q_expr, ↓v_calln, ↓gEstrange_alone, ↓q_gref, kp202, ↓vs_name, ↓v_name, ↓lEstrange0, ↓lEstrange2, ↓vs_nil, ↓q_fref, true_and]
  have noE : ∀ (h : Bool) (s' : St) (e : Bad), aloneR (rows h) bx = (s', some e) → False := fun h s' e he => by
    have e1 := alone_alt (bx := bx) (ha h) s' e he
    rcases alone_bad _ _ _ _ (by simp [bsel, St.new]) (show (none : Option Bool) ≠ some true from fun z => nomatch z) he with z | z <;> rw [e1] at z <;> cases z
  refine alone_ wo (g1 _ _ (hA false)) (g1 _ _ hB) (hl60 false) (ok false) (fun s' e he => (noE false s' e he).elim) fun _ _ _ H2 g2 _ => ?_
  rw [q_nextS, q_cnext]; simp only [↓q_cons, ↓q_expr, ↓v_calln, ↓gEstrange_alone, ↓q_gref, kp202, ↓vs_name, ↓v_name, ↓lEstrange1, ↓lEstrange2, ↓vs_nil, ↓q_fref, true_and]
  refine alone_ wo ((g1.trans g2) _ _ (hA true)) ((g1.trans g2) _ _ hB) (hl60 true) (ok true) (fun s' e he => (noE true s' e he).elim) fun _ _ _ H3 g3 _ => ?_
  have g13 := g2.trans g3
  have g := g1.trans g13
  have lo := lo0.grow g13
  clear g2 g3 noE
  rw [q_nextS, q_cnext]; simp only [↓q_cons, ↓q_asg, ↓q_comp, ↓v_name, ↓lEstrange0, bigL, true_and, ↓q_aname, uEstrange5]
  refine ⟨_, _, it_list (g _ _ (hA false)), ?_⟩
  refine ⟨by simp [bigL]; have := hl false; omega, ?_⟩
  refine comp_map (f := Stp.v) (fun pre suf acc H' => H' = H3 ∧ pre ++ suf = rows false ∧ acc = (List.replicate pre.length false).map hvV) ?_ ?_ (rows false) [] [] _ ⟨rfl, rfl, rfl⟩
  · rintro pre x suf acc H' ⟨rfl, hp, rfl⟩ M L m1 m2
    try simp only [↓q_ifs0, ↓q_t, ↓q_elt, ↓v_intc]
    refine m1 _ _ (g _ _ (hA false)) ⟨rfl, by rw [← hp]; simp, ?_⟩
    rw [List.length_append, List.length_cons, List.length_nil, Nat.zero_add, List.replicate_succ', List.map_append]; rfl
  rintro pre acc H' ⟨rfl, hp, rfl⟩
  rw [List.append_nil] at hp
  subst hp
  refine new_of fun F0 H4 g4 _ _ fF0 => ?_
  rw [q_cnext]; simp only [↓q_cons, ↓q_asg, ↓q_comp, ↓v_name, ↓lEstrange1, bigL, true_and, ↓q_aname, uEstrange6]
  refine ⟨_, _, it_list ((g.trans g4) _ _ (hA true)), ?_⟩
  refine ⟨by simp [bigL]; have := hl true; omega, ?_⟩
  refine comp_map (f := Stp.v) (fun pre suf acc H' => H' = H4 ∧ pre ++ suf = rows true ∧ acc = (List.replicate pre.length true).map hvV) ?_ ?_ (rows true) [] [] _ ⟨rfl, rfl, rfl⟩
  · rintro pre x suf acc H' ⟨rfl, hp, rfl⟩ M L m1 m2
    try simp only [↓q_ifs0, ↓q_t, ↓q_elt, ↓v_intc]
    refine m1 _ _ ((g.trans g4) _ _ (hA true)) ⟨rfl, by rw [← hp]; simp, ?_⟩
    rw [List.length_append, List.length_cons, List.length_nil, Nat.zero_add, List.replicate_succ', List.map_append]; rfl
  rintro pre acc H' ⟨rfl, hp, rfl⟩
  rw [List.append_nil] at hp
  subst hp
  refine new_of fun F1 H5 g5 _ _ fF1 => ?_
  have fF0 := g5 _ _ fF0
  have g35 := g4.trans g5
  have g := g.trans g35
  have lo := lo.grow g35
  have l0' := hl false
  have l1' := hl true
  clear g4 g5 g35
  rw [q_cnext]; simp only [↓q_cons, ↓q_asg, ↓v_list, ↓vs_call, ↓v_calln, ↓gEstrange_plain, ↓q_gref, kp216, ↓vs_name, ↓v_name, ↓lEstrange0, ↓lEstrange1, ↓lEstrange2, ↓vs_bin, ↓v_bin, ↓lEstrange5, ↓lEstrange6, ↓vs_nil, ↓q_fref, List.length_cons, List.length_nil, Nat.reduceAdd, bigL, Nat.reduceLeDiff, ↓q_aname, uEstrange7, true_and]
  refine b_cat fF0 fF1 (by simp [bigL]; omega) (new_of fun O1 H6 g6 _ _ fO1 => ?_)
  rw [← List.map_append] at fO1
  refine plain_ (ord := serO rows false) wo (fun h => (g.trans g6) _ _ (hA h)) ((g.trans g6) _ _ hB) fO1 hl60 ok (ser_err ha) fun v0 H7 g7 k0 => ?_
  have g57 := g6.trans g7
  refine b_cat (g57 _ _ fF1) (g57 _ _ fF0) (by simp [bigL]; omega) (new_of fun O2 H8 g8 _ _ fO2 => ?_)
  rw [← List.map_append] at fO2
  have g58 := g57.trans g8
  refine plain_ (ord := serO rows true) wo (fun h => (g.trans g58) _ _ (hA h)) ((g.trans g58) _ _ hB) fO2 hl60 ok (ser_err ha) fun v1 H9 g9 k1 => ?_
  have k0 := k0.grow (g8.trans g9)
  refine new_of fun KN HA gA _ _ fKN => ?_
  have g5A := (g58.trans g9).trans gA
  have g := g.trans g5A
  have lo := lo.grow g5A
  have k0 := k0.grow gA
  have k1 := k1.grow gA
  clear g6 g7 g8 g9 gA g57 g58 g5A fO1 fO2 fF0 fF1
  rw [q_cnext]; simp only [↓q_cons, ↓q_asg, ↓v_list, ↓vs_tup, ↓v_tuple, ↓vs_name, ↓v_name, ↓lEstrange3, ↓vs_list, ↓vs_nil, List.length_nil, bigL, Nat.reduceLeDiff, List.length_cons, Nat.reduceAdd, ↓q_aname, uEstrange8, true_and]
  refine new_of fun O0 HB gB nO0 _ fO0 => ?_
  refine new_of fun TD HC gC nTD _ fTD => ?_
  have gHB := g.trans gB
  have zTD := gHB.non nTD
  have g := gHB.trans gC
  have hTDl : TD ∉ l0.all := fun hx => (lo.grow gB).live TD hx nTD
  have GB : Grow HB (hout [TD] HC) := fun x o e => hout_in (by simp; exact ne_new e nTD) (gC _ _ e)
  have lo := (lo.grow gB).grow GB
  have k0 := (k0.grow gB).grow GB
  have k1 := (k1.grow gB).grow GB
  have fKN := GB _ _ (gB _ _ fKN)
  have fO0 := GB _ _ fO0
  have tot0 : totS rows (St.new bx) ≤ 10 := by unfold totS remS; omega
  clear gHB gB gC GB hTDl nO0 nTD
  rw [q_cnext]
  refine s_join (J := fun σ' H' => Grow H H' ∧ (∀ ord s, runS rows ord (St.new bx) = (s, none) → (∀ h, s.pl h = (rows h).length) → inK rows bx s = true) ∧ ∃ z1 z2 z3 z4 : Option AVal, σ' = Estrange (some (.ref (A false))) (some (.ref (A true))) (some (.ref ba)) (some (.ref l0.L)) none (some (.ref F0)) (some (.ref F1)) (some (.ref KN)) (some (.ref TD)) (z1) (z2) (z3) (z4)) (fun N hN' hR => ?_) (fun σ' H' hJ => ?_)
  · simp only [↓q_while]
    refine ⟨wgt rows [⟨l0, O0, St.new bx, []⟩] + 1, wh_ind (fun j σ' H' => ∃ (its : List It) (z1 z2 z3 z4 : Option AVal), j = wgt rows its ∧ wgt rows its ≤ 59049 ∧ Grow H H' ∧ H' TD = some (.list false (its.map It.v)) ∧ (∀ x ∈ its, ItOk 191 rows bx (hout [TD] H') x) ∧ hout [TD] H' KN = some (.list false [v0, v1]) ∧ KAt (hout [TD] H') v0 (endS rows bx (serO rows false)) ∧ KAt (hout [TD] H') v1 (endS rows bx (serO rows true)) ∧ Cov rows bx (fun o => ∃ x ∈ its, x.ord = o) ∧ σ' = Estrange (some (.ref (A false))) (some (.ref (A true))) (some (.ref ba)) (some (.ref l0.L)) none (some (.ref F0)) (some (.ref F1)) (some (.ref KN)) (some (.ref TD)) (z1) (z2) (z3) (z4)) ?_ _ (wgt rows [⟨l0, O0, St.new bx, []⟩]) _ _ (Nat.lt_succ_self _) ⟨[⟨l0, O0, St.new bx, []⟩], none, none, none, none, rfl, ?_, g, fTD, ?_, fKN, k0, k1, ?_, rfl⟩⟩
    · clear lo k0 k1 fKN fO0 fTD g
      rintro j σ' H' ⟨its, z1, z2, z3, z4, rfl, hb, g, kTD, hI, kKN, k0, k1, cov, rfl⟩ N' n1 n2
      simp only [↓q_test, ↓vt_cmp, ↓v_calln, ↓gEstrange_len, ↓q_gbi, ↓vs_name, ↓v_name, ↓lEstrange8, ↓vs_nil, ↓q_flen, ↓q_c1, ↓v_intc, ↓q_body, ↓q_cons, ↓q_asg, ↓v_calla, true_and]
      refine bi_len (seq_ref kTD) ?_
      rw [List.length_map]
      try simp only [↓q_gt]
      by_cases hn : its = []
      · subst hn
        exact hN' _ _ ⟨g, fun ord s hr hd => (cov ord s hr hd).elim id (fun ⟨o, r, ⟨x, hx, _⟩, _⟩ => nomatch hx), z1, z2, z3, z4, rfl⟩
      obtain ⟨ys, x, rfl⟩ : ∃ ys x, its = ys ++ [x] := ⟨its.dropLast, its.getLast hn, (List.dropLast_concat_getLast hn).symm⟩
      rw [decide_eq_true (show (0 : Int) < (((ys ++ [x]).length : Nat) : Int) by first | (simp; done) | (simp; omega))]
      try simp only [↓q_t]
      rw [List.map_append] at kTD
      refine meth_l kTD (by simp) ?_
      refine pop_of kTD ?_
      rw [show It.v x = .tup [.ref x.l.L, .ref x.O] from rfl]
      try simp only [↓q_atup, uEstrange9, uEstrange10, true_and]
      have G1 : hout [TD] (hset H' TD (.list false (ys.map It.v))) = hout [TD] H' := hout_same ((Same.refl _ _).set (by simp))
      have kT1 : hset H' TD (.list false (ys.map It.v)) TD = some (.list false (ys.map It.v)) := hs_same
      have gg := g.set (o := .list false (ys.map It.v)) zTD
      generalize hset H' TD (.list false (ys.map It.v)) = H1 at G1 kT1 gg ⊢
      rw [← G1] at hI kKN k0 k1
      have xo := hI x (by simp)
      have hI := fun y hy => hI y (List.mem_append_left _ hy)
      clear G1 kTD g
      rw [q_cnext]
      refine s_join (J := fun σ' H'' => H'' = H1 ∧ ((∀ h, x.s.pl h = (rows h).length) → inK rows bx x.s = true) ∧ σ' = Estrange (some (.ref (A false))) (some (.ref (A true))) (some (.ref ba)) (some (.ref l0.L)) none (some (.ref F0)) (some (.ref F1)) (some (.ref KN)) (some (.ref TD)) (some (.ref x.l.L)) (some (.ref x.O)) (z3) (z4)) (fun N2 hN2 hR2 => ?_) (fun σ' H'' hJ => ?_)
      · have lo := xo.lo.grow hout_le
        simp only [↓q_if, ↓vt_boolop, ↓q_tBA, ↓vt_call, ↓v_calla, ↓v_name, ↓lEstrange9, ↓vs_const, ↓v_intc, ↓vs_nil, ↓vt_cmp, ↓v_tuple, ↓vs_attr, ↓v_attr, List.length_cons, List.length_nil, Nat.reduceAdd, bigL, Nat.reduceLeDiff, ↓q_c1, ↓lEstrange7, ↓q_tB0, ↓q_t, ↓q_cons, ↓q_ret, ↓lEstrange10, ↓q_retS, ↓q_cret, ↓q_f, ↓q_nil, true_and]
        refine meth_of lo.L lo.d lk_over mt_over ?_
        try simp only [↓q_um]
        refine over_ wo lo false ?_
        try simp only [↓q_bool]
        refine ifK_dec (fun h0 => ?_) fun h0 => ?_
        · refine meth_of lo.L lo.d lk_over mt_over ?_
          try simp only [↓q_um]
          refine over_ wo lo true ?_
          try simp only [↓q_bool]
          refine ifK_dec (fun h1 => ?_) fun h1 => ?_
          · have hd := over_both xo.le (fun h => by cases h; exact h0; exact h1)
            refine attr_of lo.L lo.d at_boxes lk_boxes trivial ?_
            refine attr_of lo.L lo.d at_numbers lk_numbers trivial ?_
            rw [known_in (s := x.s) lo.B lo.N (hout_le _ _ kKN) (k0.grow hout_le) (k1.grow hout_le)]
            cases hk : (kq (endS rows bx (serO rows false)) x.s || kq (endS rows bx (serO rows true)) x.s) with
            | true => exact hN2 _ _ ⟨rfl, fun _ => hk, rfl⟩
            | false =>
              try simp only [↓q_ifn, ↓q_f]
              refine hR2 _ _ _ (n2 _ _ _ (hR _ _ _ ?_))
              try simp only [↓q_rret]
              exact hF x.ord x.s x.O _ xo.run hd hk gg (hout_le _ _ xo.O) (by have := xo.len; omega)
          · exact hN2 _ _ ⟨rfl, (fun hd => absurd (hd true) (by omega)), rfl⟩
        · exact hN2 _ _ ⟨rfl, (fun hd => absurd (hd false) (by omega)), rfl⟩
      obtain ⟨rfl, hkx, rfl⟩ := hJ
      simp only [↓q_cons, ↓q_for, ↓v_tuple, ↓vs_const, ↓v_intc, ↓vs_nil, List.length_cons, List.length_nil, Nat.reduceAdd, bigL, Nat.reduceLeDiff, true_and]
      refine ⟨_, _, it_tup, ?_⟩
      obtain ⟨w, hw1, hw2⟩ := wgt_go (rows := rows) x.s
      have hwx : wgt rows (ys ++ [x]) = wgt rows ys + 3 ^ totS rows x.s := by rw [wgt_append]; rfl
      refine for_map (f := hvV) (fun pre suf σ' H'' => ∃ (its2 : List It) (z3 z4 : Option AVal), wgt rows its2 + suf.length * w ≤ wgt rows ys + 2 * w ∧ Grow H H'' ∧ H'' TD = some (.list false (its2.map It.v)) ∧ (∀ y ∈ its2, ItOk 191 rows bx (hout [TD] H'') y) ∧ ItOk 191 rows bx (hout [TD] H'') x ∧ hout [TD] H'' KN = some (.list false [v0, v1]) ∧ KAt (hout [TD] H'') v0 (endS rows bx (serO rows false)) ∧ KAt (hout [TD] H'') v1 (endS rows bx (serO rows true)) ∧ Cov rows bx (fun o => (∃ y ∈ its2, y.ord = o) ∨ ∃ h ∈ suf, o = x.ord ++ [h]) ∧ σ' = Estrange (some (.ref (A false))) (some (.ref (A true))) (some (.ref ba)) (some (.ref l0.L)) none (some (.ref F0)) (some (.ref F1)) (some (.ref KN)) (some (.ref TD)) (some (.ref x.l.L)) (some (.ref x.O)) (z3) (z4)) ?_ ?_ [false, true] [] _ _ ⟨ys, z3, z4, Nat.le_refl _, gg, kT1, hI, xo, kKN, k0, k1, ?_, rfl⟩
      · clear gg kT1 hI xo kKN k0 k1 cov
        rintro pre hd suf σ' H2 ⟨its2, z3, z4, hw, gg, kT, hI, xo, kKN, k0, k1, cov, rfl⟩ N3 m1 m2 m3
        have hw' : wgt rows its2 + suf.length * w + w ≤ wgt rows ys + 2 * w := by
          have : (hd :: suf).length * w = suf.length * w + w := by rw [List.length_cons, Nat.succ_mul]
          omega
        have skp : goesS rows x.s hd = false → Cov rows bx (fun o => (∃ y ∈ its2, y.ord = o) ∨ ∃ h ∈ suf, o = x.ord ++ [h]) := fun hg ord s hr hdn => by
          rcases cov ord s hr hdn with z | ⟨o, r, z, e⟩
          · exact .inl z
          · rcases z with z | ⟨h', hm, rfl⟩
            · exact .inr ⟨o, r, .inl z, e⟩
            · rcases List.mem_cons.mp hm with rfl | hm
              · exfalso
                subst e
                rw [List.append_assoc] at hr
                have h2 := run_pre hr xo.run
                have h2 : runS rows (h' :: r) x.s = (s, none) := h2
                unfold runS at h2
                split at h2
                · cases h2
                · rename_i hbn; rw [bad_goes hbn] at hg; cases hg
              · exact .inr ⟨_, r, .inr ⟨h', hm, rfl⟩, e⟩
        have lo := xo.lo.grow hout_le
        unfold hvV
        simp only [↓q_body, ↓q_cons, ↓q_if, ↓vt_boolop, ↓q_tBA, ↓q_not, ↓vt_call, ↓v_calla, ↓v_name, uEstrange11, ↓vs_name, ↓vs_nil, ↓q_ifn, ↓q_f, ↓q_nil, ↓q_tB0, ↓q_t, ↓q_asg, ↓q_aname, uEstrange12, ↓lEstrange9, ↓lEstrange11]
        refine meth_of lo.L lo.d lk_over mt_over ?_
        try simp only [↓q_um]
        refine over_ wo lo hd ?_
        try simp only [↓q_bool]
        refine ifK_dec (fun h0 => ?_) fun h0 => ?_
        · have hg : goesS rows x.s hd = false := by rw [goes_eq]; unfold overS; rw [decide_eq_true h0]; rfl
          exact m1 _ _ trivial ⟨its2, _, z4, by omega, gg, kT, hI, xo, kKN, k0, k1, skp hg, rfl⟩
        · refine meth_of lo.L lo.d lk_waits mt_waits ?_
          try simp only [↓q_um]
          refine waits_ wo lo hd ?_
          try simp only [↓q_bool]
          refine ifK_split (fun h1 => ?_) fun h1 => ?_
          · have hg : goesS rows x.s hd = false := by rw [goes_eq, h1]; simp
            exact m1 _ _ trivial ⟨its2, _, z4, by omega, gg, kT, hI, xo, kKN, k0, k1, skp hg, rfl⟩
          · have hg : goesS rows x.s hd = true := by rw [goes_eq, h1]; unfold overS; rw [decide_eq_false h0]; rfl
            have hbn := alt_goes xo.alt hg
            obtain ⟨t, ht⟩ := goes_next hg
            have hwn := hw2 hd hg
            refine meth_of lo.L lo.d lk_twin mt_twin ?_
            try simp only [↓q_um]
            refine twin_ wo lo hl60 (by rw [xo.bx]; exact ok) fun l2 H3 g3 fr2 lo3 => ?_
            rw [q_cnext]; simp only [↓q_cons, ↓q_expr, ↓v_calla, ↓v_name, ↓lEstrange12, ↓vs_name, ↓lEstrange11, ↓vs_nil]
            refine meth_of lo3.L lo3.d lk_go mt_go ?_
            try simp only [↓q_um]
            refine go_ wo lo3 hd (fun t' ht' => by rw [xo.bx]; exact ok hd t' (List.mem_of_getElem? ht')) (fun e he => by rw [hbn] at he; cases he) fun _ H4 sm lo4 => ?_
            rw [q_nextS, q_cnext]; simp only [↓q_cons, ↓q_expr, ↓v_calla, ↓v_name, ↓lEstrange8, ↓vs_tup, ↓v_tuple, ↓vs_name, ↓lEstrange12, ↓vs_bin, ↓v_bin, ↓lEstrange10, ↓v_list, ↓lEstrange11, ↓vs_nil, List.length_cons, List.length_nil, Nat.reduceAdd, bigL, Nat.reduceLeDiff, true_and]
            have hTl : TD ∉ l2.all := fun hx => by rw [fr2 TD hx] at kT; cases kT
            have kT4 := sm.at hTl (g3 _ _ kT)
            have G24 : ∀ y o, H2 y = some o → H4 y = some o := fun y o e => sm.at (fun hx => by rw [fr2 y hx] at e; cases e) (g3 _ _ e)
            refine meth_l kT4 (by simp) ?_
            refine new_of fun c1 H5 g5 _ _ fc1 => ?_
            refine b_cat (g5 _ _ (G24 _ _ (hout_le _ _ xo.O))) fc1 (by have := xo.len; simp [bigL]; omega) (new_of fun O2 H6 g6 nO2 _ fO2 => ?_)
            have g46 := g5.trans g6
            have hlen2 : its2.length < 1000000 := by
              have := wgt_len rows its2
              omega
            refine app_of (g46 _ _ kT4) (by rw [List.length_map]; unfold bigL; exact hlen2) ?_
            try simp only [↓q_nextS]
            have nOT : O2 ≠ TD := fun z => by rw [z, g5 _ _ kT4] at nO2; cases nO2
            have hsm : Same [TD] H6 (hset H6 TD (.list false (its2.map It.v ++ [.tup [.ref l2.L, .ref O2]]))) := (Same.refl _ _).set (by simp)
            have F : Grow (hout [TD] H2) (hout [TD] (hset H6 TD (.list false (its2.map It.v ++ [.tup [.ref l2.L, .ref O2]])))) := fun y o e => by
              obtain ⟨e1, e2⟩ := hout_of e
              exact hout_in e1 (hsm.at e1 (g46 _ _ (G24 _ _ e2)))
            have gN : Grow H (hset H6 TD (.list false (its2.map It.v ++ [.tup [.ref l2.L, .ref O2]]))) := fun y o e => hsm.at (by simp; exact ne_new e zTD) (g46 _ _ (G24 _ _ (gg _ _ e)))
            have hl2T : ∀ y ∈ l2.all, y ∉ [TD] := fun y hy => by simp; rintro rfl; exact hTl hy
            have yo : ItOk 191 rows bx (hout [TD] (hset H6 TD (.list false (its2.map It.v ++ [.tup [.ref l2.L, .ref O2]])))) ⟨l2, O2, goS rows x.s hd, x.ord ++ [hd]⟩ := by
              refine ⟨((lo4.grow g46).move hsm hl2T).move same_out hl2T, hout_in (by simp [nOT]) (hsm.at (by simp [nOT]) ?_), run_snoc xo.run hbn, by show (goS rows x.s hd).bx.length = _; rw [goS_len]; exact xo.bx, ?_, alt_go xo.alt ht hbn, pl_le ht xo.le⟩
              · rw [List.map_append]; exact fO2
              · have h1 := xo.len
                have h2 := tot_go ht
                show (x.ord ++ [hd]).length + totS rows (goS rows x.s hd) ≤ 10
                simp; omega
            refine m1 _ _ trivial ⟨its2 ++ [⟨l2, O2, goS rows x.s hd, x.ord ++ [hd]⟩], _, _, ?_, gN, ?_, fun y hy => ?_, xo.grow F, F _ _ kKN, k0.grow F, k1.grow F, fun ord s hr hdn => ?_, rfl⟩
            · rw [wgt_append]
              show wgt rows its2 + (3 ^ totS rows (goS rows x.s hd) + 0) + suf.length * w ≤ _
              omega
            · rw [List.map_append]; exact hs_same
            · rcases List.mem_append.mp hy with z | z
              · exact (hI y z).grow F
              · cases List.mem_singleton.mp z; exact yo
            · rcases cov ord s hr hdn with z | ⟨o, r, z, e⟩
              · exact .inl z
              · rcases z with ⟨y, hy, e1⟩ | ⟨h', hm, rfl⟩
                · exact .inr ⟨o, r, .inl ⟨y, List.mem_append_left _ hy, e1⟩, e⟩
                · rcases List.mem_cons.mp hm with rfl | hm
                  · exact .inr ⟨_, r, .inl ⟨_, List.mem_append_right _ (List.mem_singleton.mpr rfl), rfl⟩, e⟩
                  · exact .inr ⟨_, r, .inr ⟨h', hm, rfl⟩, e⟩
      · clear gg kT1 hI xo kKN k0 k1 cov
        rintro pre σ' H2 ⟨its2, z3, z4, hw, gg, kT, hI, xo, kKN, k0, k1, cov, rfl⟩
        have hw : wgt rows its2 + 0 * w ≤ wgt rows ys + 2 * w := hw
        refine n1 (wgt rows its2) _ _ (by omega) ⟨its2, _, _, z3, z4, rfl, by omega, gg, kT, hI, kKN, k0, k1, fun ord s hr hdn => ?_, rfl⟩
        rcases cov ord s hr hdn with z | ⟨o, r, z, e⟩
        · exact .inl z
        · rcases z with z | ⟨h', hm, _⟩
          · exact .inr ⟨o, r, z, e⟩
          · cases hm
      · intro ord s hr hdn
        rcases cov ord s hr hdn with z | ⟨o, r, ⟨y, hy, rfl⟩, rfl⟩
        · exact .inl z
        · rcases List.mem_append.mp hy with z | z
          · exact .inr ⟨_, r, .inl ⟨y, z, rfl⟩, rfl⟩
          · cases List.mem_singleton.mp z
            cases r with
            | nil =>
              rw [List.append_nil, xo.run] at hr
              cases hr
              exact .inl (hkx hdn)
            | cons h' r => exact .inr ⟨x.ord ++ [h'], r, .inr ⟨h', by cases h' <;> simp, rfl⟩, by simp⟩
    · show 3 ^ totS rows (St.new bx) + 0 ≤ 59049
      exact Nat.pow_le_pow_right (by decide) tot0
    · intro x hx
      cases List.mem_singleton.mp hx
      exact ⟨lo, fO0, rfl, rfl, by simpa using tot0, alt_new ha, fun _ => Nat.zero_le _⟩
    · exact fun ord s hr hdn => .inr ⟨[], ord, ⟨_, List.mem_singleton.mpr rfl, rfl⟩, rfl⟩
  obtain ⟨g, hk, z1, z2, z3, z4, rfl⟩ := hJ
  simp only [↓q_cons, ↓q_ret, ↓v_none, ↓q_retS, ↓q_cret, ↓q_rret]
  exact hN hk _ g
section
variable {l : SA} {rows : Bool → List Stp} {s : St}
set_option maxHeartbeats 2000000 in
theorem done_ (wo : WOk (WL w b os)) (st : StandAt H l rows s) (hd : Bool) {t : Stp} (hn : s.next rows hd = some t) (ok : ∀ k, t.at? = some k → 0 ≤ k ∧ k < (s.bx.length : Int)) (h : ∀ H', Same l.mut H H' → StandAt H' l rows (goS rows s hd) → Q .none H') :
    CallOk (WL w b os) (n + 1) q (.ref 266) [.ref l.S, .int (hv hd)] H Q E := by
  refine def_ok wo rfl (by kernel_rfl) rfl (by (repeat intro _); change _ = _; kernel_rfl) ?_
  simp only [fnBody, fnPars, List.map, ↓bElaw_can, ↓q_cons, ↓q_asg, ↓v_sub_sub, ↓v_sub_name, ↓v_sub_const, ↓v_name, ↓lElaw_can0, ↓v_intc, ↓lElaw_can1, ↓q_aname, uElaw_can4]
  refine sb_list st.S (by decide) rfl ?_
  refine sb_ref2 st.RR ?_
  refine sb_list st.S (by decide) rfl ?_
  refine sb_nat2 st.P ?_
  refine sb_row (st.R hd) hn ?_
  rw [q_cnext]
  refine s_join (J := fun σ' H' => Same l.mut H H' ∧ StandAt H' l rows (t.on hd s) ∧ σ' = Elaw_can (some (.ref l.S)) (some (.int (hv hd))) none none (some t.v)) (fun N hN hR => ?_) (fun σ' H' hJ => ?_)
  · simp only [↓q_if, ↓vt_cmp, ↓v_sub_const, ↓v_name, ↓lElaw_can4, ↓v_intc, ↓sv_sub0, ↓q_c1, ↓v_strc, ↓q_seq, wd_take, ↓q_cons, ↓q_asg, ↓lElaw_can1, ↓q_asub, ↓lElaw_can0, wd_free, ↓v_none, wd_load, ↓v_sub_sub, wd_plus, ↓v_bin, ↓v_sub_name, wd_store, wd_add]
    have fin : ∀ o a, a ∈ l.mut → StandAt (hset H a o) l rows (t.on hd s) → N .next (Elaw_can (some (.ref l.S)) (some (.int (hv hd))) none none (some t.v)) (hset H a o) := fun o a ha st' => hN _ _ ⟨(Same.refl _ _).set ha, st', rfl⟩
    clear hN hR h
    cases t with
    | take =>
      simp only [cisTake_take, cisFree_take, cisLoad_take, cisPlus_take, cisStore_take, cisAdd_take, ↓q_f, ↓q_t]
      refine st_list st.S (by decide) (by simp) ?_
      exact fin _ _ (by simp [SA.mut]) (st.setHo (some hd))
    | free =>
      simp only [cisTake_free, cisFree_free, cisLoad_free, cisPlus_free, cisStore_free, cisAdd_free, ↓q_f, ↓q_t]
      refine st_list st.S (by decide) (by simp) ?_
      exact fin _ _ (by simp [SA.mut]) (st.setHo none)
    | load k =>
      obtain ⟨h1, h2⟩ := ok k rfl
      simp only [cisTake_load, cisFree_load, cisLoad_load, ↓sv_sub1l, cisPlus_load, cisStore_load, cisAdd_load, ↓q_f, ↓q_t]
      refine sb_list st.S (by decide) rfl ?_
      refine sb_box st.B h1 h2 ?_
      refine sb_list st.S (by decide) rfl ?_
      refine st_int2 st.N ?_
      exact fin _ _ (by simp [SA.mut]) (st.setN _)
    | plus k =>
      obtain ⟨h1, h2⟩ := ok k rfl
      simp only [cisTake_plus, cisFree_plus, cisLoad_plus, ↓sv_sub1p, cisPlus_plus, cisStore_plus, cisAdd_plus, ↓q_f, ↓q_t]
      refine sb_list st.S (by decide) rfl ?_
      refine sb_int2 st.N ?_
      refine sb_list st.S (by decide) rfl ?_
      refine sb_box st.B h1 h2 ?_
      try simp only [↓q_add]
      refine sb_list st.S (by decide) rfl ?_
      refine st_int2 st.N ?_
      exact fin _ _ (by simp [SA.mut]) (st.setN _)
    | store k =>
      obtain ⟨h1, h2⟩ := ok k rfl
      simp only [cisTake_store, cisFree_store, cisLoad_store, ↓sv_sub1s, cisPlus_store, cisStore_store, cisAdd_store, ↓q_f, ↓q_t]
      refine sb_list st.S (by decide) rfl ?_
      refine sb_int2 st.N ?_
      refine sb_list st.S (by decide) rfl ?_
      refine st_box st.B h1 h2 ?_
      exact fin _ _ (by simp [SA.mut]) (st.setBx _)
    | add k =>
      simp only [cisTake_add, cisFree_add, cisLoad_add, ↓sv_sub1a, cisPlus_add, cisStore_add, cisAdd_add, ↓q_t, ↓q_f]
      refine sb_list st.S (by decide) rfl ?_
      refine sb_int2 st.N ?_
      try simp only [↓q_add]
      refine sb_list st.S (by decide) rfl ?_
      refine st_int2 st.N ?_
      exact fin _ _ (by simp [SA.mut]) (st.setN _)
    | twice =>
      simp only [cisTake_twice, cisFree_twice, cisLoad_twice, cisPlus_twice, cisStore_twice, cisAdd_twice, ↓q_f]
      refine sb_list st.S (by decide) rfl ?_
      refine sb_int2 st.N ?_
      try simp only [↓q_mul]
      refine ⟨IntMulOk.of_right (by decide +kernel), ?_⟩
      rw [Int.mul_comm]
      refine sb_list st.S (by decide) rfl ?_
      refine st_int2 st.N ?_
      exact fin _ _ (by simp [SA.mut]) (st.setN _)
  obtain ⟨sm, st1, rfl⟩ := hJ
  simp only [↓q_cons, ↓q_asg, ↓v_bin, ↓v_sub_name, ↓v_sub_const, ↓v_name, ↓lElaw_can0, ↓v_intc, ↓lElaw_can1, ↓q_asub]
  refine sb_list st1.S (by decide) rfl ?_
  refine sb_nat2 st1.P ?_
  try simp only [↓q_add]
  refine sb_list st1.S (by decide) rfl ?_
  refine st_nat2 st1.P ?_
  refine h _ (sm.set (by simp [SA.mut])) ?_
  rw [goS_of hn]; exact st1.setP _
end
section
variable {l : SA} {rows : Bool → List Stp} {s : St}
theorem can_ (wo : WOk (WL w b os)) (st : StandAt H l rows s) (hd : Bool) (hp : s.pl hd ≤ (rows hd).length) (h : Q (.bool (canS rows s hd)) H) :
    CallOk (WL w b os) (n + 1) q (.ref 259) [.ref l.S, .int (hv hd)] H Q E := by
  refine def_ok wo rfl (by kernel_rfl) rfl (by (repeat intro _); change _ = _; kernel_rfl) ?_
  simp only [fnBody, fnPars, List.map, ↓bElaw_can, ↓q_cons, ↓q_asg, ↓v_sub_name, ↓v_sub_const, ↓v_name, ↓lElaw_can0, ↓v_intc, ↓lElaw_can1, ↓q_aname, uElaw_can2]
  refine sb_list st.S (by decide) rfl ?_
  refine sb_ref2 st.RR ?_
  rw [q_cnext]; simp only [↓q_cons, ↓q_if, ↓vt_cmp, ↓v_sub_name, ↓v_sub_const, ↓v_name, ↓lElaw_can0, ↓v_intc, ↓lElaw_can1, ↓q_c1, ↓v_calln, ↓gElaw_can_len, ↓q_gbi, ↓vs_name, ↓lElaw_can2, ↓vs_nil, ↓q_flen, ↓q_ret, ↓v_boolc, ↓q_retS, ↓q_cret, ↓q_rret, ↓q_nil, true_and]
  refine sb_list st.S (by decide) rfl ?_
  refine sb_nat2 st.P ?_
  refine bi_len (seq_ref (st.R hd)) ?_
  rw [List.length_map]
  try simp only [↓q_ge]
  refine ifK_dec (fun h1 => ?_) fun h1 => ?_
  · have e : canS rows s hd = false := by unfold canS St.next; rw [List.getElem?_eq_none (by omega)]
    rw [e] at h; exact h
  · obtain ⟨t, ht⟩ : ∃ t, (rows hd)[s.pl hd]? = some t := ⟨_, List.getElem?_eq_getElem (by omega)⟩
    have e : canS rows s hd = (!isTake t || s.ho.isNone) := by unfold canS St.next; rw [ht]
    rw [e] at h
    rw [q_cnext]; simp only [↓q_cons, ↓q_asg, ↓v_sub_const, ↓v_sub_sub, ↓v_name, ↓lElaw_can2, ↓v_sub_name, ↓lElaw_can0, ↓v_intc, ↓lElaw_can1, ↓q_aname, uElaw_can3]
    refine sb_list st.S (by decide) rfl ?_
    refine sb_nat2 st.P ?_
    refine sb_row (st.R hd) ht ?_
    try simp only [↓sv_sub0]
    rw [q_cnext]; simp only [↓q_cons, ↓q_ret, ↓v_boolop, ↓q_bO, ↓v_cmp, ↓v_name, ↓lElaw_can3, ↓q_c1, ↓v_strc, ↓q_sne, ↓q_bool, ↓q_ifn, wd_take, ↓q_b1, ↓v_sub_const, ↓lElaw_can0, ↓v_intc, ↓v_none, ↓q_retS, ↓q_cret, ↓q_rret]
    refine ifK_split (fun h2 => ?_) fun h2 => ?_
    · rw [h2] at h
      refine sb_list st.S (by decide) rfl ?_
      refine ho_is ?_
      exact h
    · rw [h2] at h; exact h
end
theorem cells_ (wo : WOk (WL w b os)) {a : Addr} {ro : Bool} {xs : List Int} {st sz : Int} (ha : H a = some (.list ro (xs.map .int))) (hb : ∀ x ∈ xs, Builtin.Int.intBits x ≤ 2 ^ 20) (h0 : 0 ≤ st) (hs : 0 ≤ sz ∧ sz ≤ 60)
    (h : ∀ (c : Addr) (cs : List Int) H', Grow H H' → H' c = some (.list false (cs.map .int)) → cs.length = sz.toNat → (∀ x ∈ cs, Builtin.Int.intBits x ≤ 2 ^ 20 + 1) → Q (.ref c) H') :
    CallOk (WL w b os) (n + 2) true (.ref 247) [.ref a, .int st, .int sz] H Q E := by
  refine def_ok wo rfl (by kernel_rfl) rfl (by (repeat intro _); change _ = _; kernel_rfl) ?_
  simp only [fnBody, fnPars, List.map, ↓bElaw_cells, ↓q_cons, ↓q_ret, ↓q_comp, ↓v_calln, ↓gElaw_cells_range, ↓q_gty, ↓vs_name, ↓v_name, ↓lElaw_cells2, ↓vs_nil, ↓q_frange, bigL, true_and]
  refine ty_range1 (by omega) ?_
  refine ⟨_, _, it_range, ?_⟩
  refine ⟨by simp [bigL]; omega, ?_⟩
  rw [show (sz - 0).toNat = sz.toNat by omega]
  refine comp_range (fun k acc H' => H' = H ∧ ∃ cs : List Int, acc = cs.map .int ∧ cs.length = k ∧ ∀ x ∈ cs, Builtin.Int.intBits x ≤ 2 ^ 20 + 1) ?_ ?_ _ ⟨rfl, [], rfl, rfl, (fun x hx => nomatch hx)⟩
  · rintro k acc H' hk ⟨rfl, cs, rfl, hl, hc⟩ M L m1 m2
    try simp only [↓q_ifs0, ↓q_t, ↓q_elt, ↓v_bin, ↓v_calln, uElaw_cells3, ↓vs_name, ↓v_name, ↓vs_bin, ↓v_intc, ↓vs_nil, ↓lElaw_cells3, ↓q_div, Int.reduceLT, and_true, ↓q_mul, true_and, ↓q_mod, ↓lElaw_cells1, ↓q_add, ↓lElaw_cells0, ↓gElaw_cells_law_cell_at, ↓q_gref, kp228, ↓q_fref]
    refine cell_at wo ha (by omega) ?_
    try simp only [↓q_add]
    refine ⟨IntMulOk.of_left (by decide +kernel), ?_⟩
    refine m1 _ _ ⟨rfl, cs ++ [cellAt xs (st + (0 + (k : Int)) % 20) + 11 * ((0 + (k : Int)) / 20)], by rw [List.map_append]; rfl, by simp [hl], fun x hx => ?_⟩
    rcases List.mem_append.mp hx with z | z
    · exact hc x z
    · cases List.mem_singleton.mp z
      exact intBits_add_le (bits_cell hb _) (intBits_le_64 (by omega) (by omega))
  · rintro acc H' ⟨rfl, cs, rfl, hl, hc⟩
    refine new_of fun c H2 g2 _ _ fc => ?_
    try simp only [↓q_retS, ↓q_cret, ↓q_rret]
    exact h c cs _ g2 fc hl hc
-- EXM Waits:Waits=1 TooMany:TooMany=1 Again:TooMany=0 Again:Again=1 NotHeld:TooMany=0 NotHeld:Again=0 NotHeld:NotHeld=1
noncomputable def words : List String := ["load", "plus", "store", "add", "twice", "guard", "store"]
set_option maxHeartbeats 1000000 in
theorem step_by (wo : WOk (WL w b os)) {c m : Int} {hd : Bool} (hc : Builtin.Int.intBits c ≤ 2 ^ 20 + 1) (h : ∀ t H', Grow H H' → okS m t → (t.isGd = true → t = gdOf hd) → Q (Stp.v t) H') :
    CallOk (WL w b os) (n + 2) q (.ref 242) [.int c, .int m, .bool hd] H Q E := by
  have hc7 : Builtin.Int.intBits (c / 7) ≤ 2 ^ 21 := Nat.le_trans (bits_div (by decide) hc) (by decide)
  refine def_ok wo rfl (by kernel_rfl) rfl (by (repeat intro _); change _ = _; kernel_rfl) ?_
  simp only [fnBody, fnPars, List.map, ↓bElaw_step_by, ↓q_cons, ↓q_asg, ↓v_sub_bin, ↓v_list, ↓vs_const, ↓v_strc, ↓vs_nil, List.length_cons, List.length_nil, Nat.reduceAdd, bigL, Nat.reduceLeDiff, ↓v_bin, ↓v_name, ↓lElaw_step_by0, ↓v_intc, ↓q_mod, Int.reduceLT, ↓q_aname, uElaw_step_by3, true_and]
  refine new_of fun a H1 g _ _ fa => ?_
  refine wd_at words fa (by omega) (by show c % 7 < 7; omega) ?_
  generalize wd words (c % 7) = u
  rw [q_cnext]; simp only [↓q_cons, ↓q_if, ↓vt_cmp, ↓v_name, ↓lElaw_step_by3, ↓q_c1, ↓v_strc, ↓q_seq, ↓q_ret, ↓v_tuple, ↓vs_sub, ↓v_sub_call, ↓v_list, ↓vs_const, ↓vs_nil, List.length_cons, List.length_nil, Nat.reduceAdd, bigL, Nat.reduceLeDiff, ↓v_calln, ↓gElaw_step_by_int, ↓q_gty, ↓vs_name, ↓lElaw_step_by2, ↓q_fint, ↓q_retS, ↓q_cret, ↓q_rret, true_and, ↓q_nil]
  refine ifK_dec (fun e1 => ?_) fun e1 => ?_
  · skip
    refine new_of fun a2 H2 g2 _ _ fa2 => ?_
    refine ty_int ?_
    have h := h (gdOf hd) H2 (g.trans g2) (okS.non (by cases hd <;> rfl)) fun _ => rfl
    cases hd <;> (refine sb_list fa2 (by decide) rfl ?_) <;> exact h
  rw [q_cnext]
  have h := fun t => h t H1 g
  refine s_join (J := fun σ' H'' => H'' = H1 ∧ σ' = Elaw_step_by (some (.int c)) (some (.int m)) (some (.bool hd)) (some (.str u))) (fun N hN hR => ?_) (fun σ' H'' hJ => ?_)
  · simp only [↓q_if, ↓vt_boolop, ↓q_tBA, ↓vt_cmp, ↓v_name, ↓lElaw_step_by3, ↓q_c1, ↓v_tuple, ↓vs_const, ↓v_strc, ↓vs_nil, List.length_cons, List.length_nil, Nat.reduceAdd, bigL, Nat.reduceLeDiff, ↓q_in3, ↓lElaw_step_by1, ↓v_intc, ↓q_gt, ↓q_tB0, ↓q_t, ↓q_cons, ↓q_ret, ↓vs_name, ↓vs_bin, ↓v_bin, ↓lElaw_step_by0, ↓q_div, Int.reduceLT, and_true, ↓q_mod, ↓q_retS, ↓q_cret, true_and, ↓q_f, ↓q_nil]
    refine ifK_split (fun e2 => ?_) fun e2 => ?_
    · refine ifK_dec (fun hm => ?_) fun hm => ?_
      · skip
        refine ⟨hm, hR _ _ _ ?_⟩
        obtain ⟨t, e, a, ng⟩ := boxw e2 (c / 7 % m)
        have z := h t (okS.som a (Int.emod_nonneg _ (by omega)) (Int.emod_lt_of_pos _ hm)) (fun z => by rw [ng] at z; cases z)
        rw [e] at z; exact z
      · exact hN _ _ ⟨rfl, rfl⟩
    · exact hN _ _ ⟨rfl, rfl⟩
  obtain ⟨rfl, rfl⟩ := hJ
  simp only [↓q_cons, ↓q_if, ↓vt_cmp, ↓v_name, ↓lElaw_step_by3, ↓q_c1, ↓v_strc, ↓q_seq, ↓q_ret, ↓v_tuple, ↓vs_name, ↓vs_nil, List.length_cons, List.length_nil, Nat.reduceAdd, bigL, Nat.reduceLeDiff, ↓q_retS, ↓q_cret, ↓q_rret, true_and, ↓q_nil]
  refine ifK_dec (fun e3 => ?_) fun e3 => ?_
  · subst e3
    exact h .twice (okS.non rfl) fun z => nomatch z
  · rw [q_cnext]; simp only [↓q_cons, ↓q_ret, ↓v_tuple, ↓vs_const, ↓v_strc, ↓vs_call, ↓v_calln, ↓gElaw_step_by_law_number_by, ↓q_gref, kp235, ↓vs_bin, ↓v_bin, ↓v_name, ↓lElaw_step_by0, ↓v_intc, ↓q_div, Int.reduceLT, and_true, ↓vs_nil, ↓q_fref, List.length_cons, List.length_nil, Nat.reduceAdd, bigL, Nat.reduceLeDiff, ↓q_retS, ↓q_cret, ↓q_rret, true_and]
    refine number_by wo hc7 ?_
    exact h (.add (numberBy (c / 7))) (okS.non rfl) fun z => nomatch z
theorem plain_altS : ∀ (r : List Stp) (h : Bool), (∀ t ∈ r, t.isGd = false) → altS h r = true
  | [], _, _ => rfl
  | t :: r, h, hg => by
    have := hg t List.mem_cons_self
    have ih := plain_altS r h fun x hx => hg x (List.mem_cons_of_mem _ hx)
    cases t <;> first | (cases this; done) | exact ih
set_option maxHeartbeats 1000000 in
theorem row_by (wo : WOk (WL w b os)) {a : Addr} {ro kp : Bool} {cs : List Int} {m : Int} (ha : H a = some (.list ro (cs.map .int))) (hb : ∀ x ∈ cs, Builtin.Int.intBits x ≤ 2 ^ 20 + 1) (hl : cs.length ≤ 60)
    (h : ∀ (r : Addr) (row : List Stp) H', Grow H H' → H r = none → H' r = some (.list false (row.map Stp.v)) → row.length ≤ 60 → (∀ t ∈ row, okS m t) → altS false row = true → Q (.ref r) H') : CallOk (WL w b os) (n + 3) true (.ref 252) [.ref a, .int m, .bool kp] H Q E := by
  refine def_ok wo rfl (by kernel_rfl) rfl (by (repeat intro _); change _ = _; kernel_rfl) ?_
  simp only [fnBody, fnPars, List.map, ↓bElaw_row_by, ↓q_cons, ↓q_asg, ↓v_list, ↓vs_nil, List.length_nil, bigL, Nat.reduceLeDiff, ↓q_aname, uElaw_row_by3, true_and]
  refine new_of fun r H1 g1 nr _ fr => ?_
  have har : a ≠ r := ne_new ha nr
  rw [q_cnext]; simp only [↓q_cons, ↓q_asg, ↓v_boolc, ↓q_aname, uElaw_row_by4]
  rw [q_cnext]
  refine s_join (J := fun σ H' => ∃ (row : List Stp) (hd : Bool) (o1 o2 : Option AVal), Grow H H' ∧ H' r = some (.list false (row.map Stp.v)) ∧ row.length ≤ 60 ∧ (∀ t ∈ row, okS m t) ∧ (∀ r, altS false (row ++ r) = altS hd r) ∧ σ = Elaw_row_by (some (.ref a)) (some (.int m)) (some (.bool kp)) (some (.ref r)) (some (.bool hd)) (o1) (o2)) (fun N hN hR => ?_) (fun σ' H' hJ => ?_)
  · simp only [↓q_for, ↓v_name, ↓lElaw_row_by0, true_and]
    refine ⟨_, _, it_list (g1 _ _ ha), ?_⟩
    refine for_map (f := AVal.int) (fun pre suf σ H' => ∃ (row : List Stp) (hd : Bool) (o1 o2 : Option AVal), pre ++ suf = cs ∧ Grow H H' ∧ H' r = some (.list false (row.map Stp.v)) ∧ row.length = pre.length ∧ (∀ t ∈ row, okS m t) ∧ (∀ r, altS false (row ++ r) = altS hd r) ∧ σ = Elaw_row_by (some (.ref a)) (some (.int m)) (some (.bool kp)) (some (.ref r)) (some (.bool hd)) (o1) (o2)) ?_ ?_ cs [] _ _ ⟨[], false, none, none, rfl, g1, fr, rfl, (fun t ht => nomatch ht), (fun r => rfl), rfl⟩
    · rintro pre x suf σ H' ⟨row, hd, o1, o2, hp, g, kr, hrl, ok, alt, rfl⟩ N n1 n2 n3
      simp only [↓q_body, ↓q_cons, ↓q_asg, ↓v_calln, uElaw_row_by5, ↓vs_name, ↓v_name, ↓vs_nil, ↓q_aname, uElaw_row_by6, ↓lElaw_row_by4, ↓lElaw_row_by1, ↓lElaw_row_by5, ↓gElaw_row_by_law_step_by, ↓q_gref, kp242, ↓q_fref, true_and]
      refine step_by wo (hb x (by rw [← hp]; simp)) fun t H2 g2 okt gdt => ?_
      have g' := g.trans g2
      have kr' := g2 _ _ kr
      rw [q_cnext]
      refine s_join (J := fun σ' H' => H' = H2 ∧ σ' = Elaw_row_by (some (.ref a)) (some (.int m)) (some (.bool kp)) (some (.ref r)) (some (.bool (heldBy hd t))) (some (.int x)) (some t.v)) (fun N hN hR => ?_) (fun σ' H'' hJ => ?_)
      · simp only [↓q_if, ↓vt_cmp, ↓v_sub_const, ↓v_name, ↓lElaw_row_by6, ↓v_intc, ↓sv_sub0, ↓q_c1, ↓v_tuple, ↓vs_const, ↓v_strc, ↓vs_nil, List.length_cons, List.length_nil, Nat.reduceAdd, bigL, Nat.reduceLeDiff, ↓q_in2, wd_gd, ↓q_cons, ↓q_asg, ↓v_cmp, ↓q_seq, ↓q_aname, wd_take, uElaw_row_by4, ↓q_nil, true_and]
        refine ifK_split (fun e => ?_) fun e => ?_
        · skip
          exact hN _ _ ⟨rfl, by unfold heldBy; rw [e]; rfl⟩
        · exact hN _ _ ⟨rfl, by unfold heldBy; rw [e]; rfl⟩
      obtain ⟨rfl, rfl⟩ := hJ
      simp only [↓q_cons, ↓q_expr, ↓v_calla, ↓v_name, ↓lElaw_row_by3, ↓vs_name, ↓lElaw_row_by6, ↓vs_nil]
      refine meth_l kr' (by simp) ?_
      refine app_of kr' (by rw [List.length_map, hrl]; have := congrArg List.length hp; simp at this; unfold bigL; omega) ?_
      try simp only [↓q_nextS]
      refine n1 _ _ (hs_ne har (g' _ _ ha)) ⟨row ++ [t], heldBy hd t, _, _, by rw [← hp]; simp, g'.set nr, ?_, by simp [hrl], fun t' ht' => ?_, alt_snoc alt gdt, rfl⟩
      · rw [List.map_append]; exact hs_same
      · rcases List.mem_append.mp ht' with z | z
        · exact ok t' z
        · cases List.mem_singleton.mp z; exact okt
    · rintro pre σ H' ⟨row, hd, o1, o2, hp, g, kr, hrl, ok, alt, rfl⟩
      exact hN _ _ ⟨row, hd, o1, o2, g, kr, by rw [List.append_nil] at hp; rw [hrl, hp]; exact hl, ok, alt, rfl⟩
  obtain ⟨row, hd, o1, o2, g, kr, hrl, ok, alt, rfl⟩ := hJ
  have fin : H r = none → ∀ K, Grow H' K → K r = some (.list false (row.map Stp.v)) → Q (.ref r) K := fun nr K gK kK => h r row K (g.trans gK) nr kK hrl ok (by have := alt []; rw [List.append_nil] at this; rw [this]; cases hd <;> rfl)
  refine s_join (J := fun σ K => (∃ r, σ = Elaw_row_by (some (.ref a)) (some (.int m)) (some (.bool kp)) (some (.ref r)) (some (.bool hd)) (o1) (o2) ∧ Q (.ref r) K)) (fun N hN hR => ?_) (fun σ' K hJ => ?_)
  · have keep := hN _ _ ⟨r, rfl, fin nr H' (Grow.refl _) kr⟩
    simp only [↓q_if, ↓vt_boolop, ↓q_tBA, ↓vt_name, ↓v_name, ↓lElaw_row_by4, ↓q_bool, ↓q_not, ↓lElaw_row_by2, ↓q_ifn, ↓q_f, ↓q_nil, ↓q_tB0, ↓q_t, ↓q_cons, ↓q_asg, ↓q_comp, ↓lElaw_row_by3, bigL, true_and, ↓q_aname, uElaw_row_by3]
    refine ifK_split (fun _ => ?_) fun _ => ?_
    · refine ifK_split (fun _ => ?_) fun _ => ?_
      · exact keep
      · skip
        refine ⟨_, _, it_list kr, ?_⟩
        refine ⟨by simp [bigL]; omega, ?_⟩
        refine comp_map (f := Stp.v) (fun pre suf acc K => K = H' ∧ pre ++ suf = row ∧ ∃ l : List Stp, acc = l.map Stp.v ∧ l.length ≤ pre.length ∧ (∀ t ∈ l, t ∈ row ∧ t.isGd = false)) ?_ ?_ row [] [] _ ⟨rfl, rfl, [], rfl, Nat.le_refl _, (fun t ht => nomatch ht)⟩
        · rintro pre s suf acc K ⟨rfl, hp, l, rfl, hll, hlm⟩ M L m1 m2
          try simp only [↓q_ifs1, ↓vt_cmp, ↓v_sub_const, ↓v_name, uElaw_row_by6, ↓v_intc, ↓q_c1, ↓v_tuple, ↓vs_const, ↓v_strc, ↓vs_nil, List.length_cons, List.length_nil, Nat.reduceAdd, bigL, Nat.reduceLeDiff, ↓q_elt, ↓lElaw_row_by6, true_and, ↓sv_sub0, ↓q_nin2, ↓q_ifn, wd_gd]
          refine ifK_split (fun e => ?_) fun e => ?_
          · exact m2 _ kr ⟨rfl, by rw [← hp]; simp, l, rfl, by simp; omega, hlm⟩
          · skip
            refine m1 _ _ kr ⟨rfl, by rw [← hp]; simp, l ++ [s], by rw [List.map_append]; rfl, by simp; omega, fun t ht => ?_⟩
            rcases List.mem_append.mp ht with z | z
            · exact hlm t z
            · cases List.mem_singleton.mp z; exact ⟨by rw [← hp]; simp, e⟩
        rintro pre acc K ⟨rfl, hp, l, rfl, hll, hlm⟩
        refine new_of fun r2 H2 g2 n2 _ f2 => ?_
        refine hN _ _ ⟨r2, rfl, h r2 l H2 (g.trans g2) (g.non n2) f2 ?_ (fun t ht => ok t (hlm t ht).1) (plain_altS l false fun t ht => (hlm t ht).2)⟩
        have := congrArg List.length hp
        simp at this
        omega
    · exact keep
  obtain ⟨r', rfl, hq⟩ := hJ
  simp only [↓q_cons, ↓q_ret, ↓v_name, ↓lElaw_row_by3, ↓q_retS, ↓q_cret, ↓q_rret]
  exact hq
noncomputable def endC (rows : Bool → List Stp) (bx : List Int) (ord : List Bool) : Option (List Int × (Bool → Int)) := match runS rows ord (St.new bx) with
  | (s, none) => if (overS rows s false && overS rows s true) then some (s.bx, s.num) else none
  | _ => none
theorem endC_run {rows : Bool → List Stp} {bx : List Int} {ord : List Bool} {s : St} (hr : runS rows ord (St.new bx) = (s, none)) (hd : ∀ h, s.pl h = (rows h).length) : endC rows bx ord = some (s.bx, s.num) := by
  unfold endC; rw [hr]; dsimp only
  rw [if_pos (by unfold overS; rw [hd, hd]; simp)]
theorem endC_ser {rows : Bool → List Stp} {bx : List Int} {lead : Bool} : endC rows bx (serO rows lead) = endS rows bx (serO rows lead) := by
  unfold endC endS
  cases e : runS rows (serO rows lead) (St.new bx) with
  | mk s o =>
    cases o with
    | some x => rfl
    | none =>
      dsimp only
      have hd : ∀ h, s.pl h = (rows h).length := fun h => by
        rw [run_pl _ _ _ e h, serO_count]; exact Nat.zero_add _
      rw [if_pos (by unfold overS; rw [hd, hd]; simp)]
theorem endC_some {rows : Bool → List Stp} {bx : List Int} {ord : List Bool} {p : List Int × (Bool → Int)} (hp : ∀ ord s, runS rows ord (St.new bx) = (s, none) → ∀ h, s.pl h ≤ (rows h).length) (he : endC rows bx ord = some p) : ∃ s, runS rows ord (St.new bx) = (s, none) ∧ (∀ h, s.pl h = (rows h).length) ∧ p = (s.bx, s.num) := by
  unfold endC at he
  cases e : runS rows ord (St.new bx) with
  | mk s o =>
    rw [e] at he
    cases o with
    | some x => cases he
    | none =>
      dsimp only at he
      by_cases z : (overS rows s false && overS rows s true) = true
      · rw [if_pos z] at he
        cases he
        unfold overS at z
        simp only [Bool.and_eq_true, decide_eq_true_eq] at z
        have := hp ord s e
        exact ⟨s, rfl, fun h => Nat.le_antisymm (this h) (by cases h; exact z.1; exact z.2), rfl⟩
      · rw [if_neg z] at he; cases he
set_option maxHeartbeats 2000000 in
theorem end_ (wo : WOk (WL w b os)) {B RR ao : Addr} {R : Bool → Addr} {rb r2 : Bool} {rows : Bool → List Stp} {bx : List Int} {ord : List Bool} (fB : H B = some (.list rb (bx.map .int))) (fRR : H RR = some (.list false [.ref (R false), .ref (R true)])) (fX : ∀ h, H (R h) = some (.list false ((rows h).map Stp.v))) (fo : H ao = some (.list r2 (ord.map hvV)))
    (ok : ∀ h, ∀ t ∈ rows h, okS bx.length t) (ha : ∀ h, altS false (rows h) = true) (h : ∀ v H', Grow H H' → KAt H' v (endC rows bx ord) → Q v H') :
    CallOk (WL w b os) (n + 2) true (.ref 273) [.ref B, .ref RR, .ref ao] H Q E := by
  refine def_ok wo rfl (by kernel_rfl) rfl (by (repeat intro _); change _ = _; kernel_rfl) ?_
  simp only [fnBody, fnPars, List.map, ↓bElaw_end, ↓q_cons, ↓q_asg, ↓v_list, ↓vs_call, ↓v_calln, ↓gElaw_end_list, ↓q_gty, ↓vs_name, ↓v_name, ↓lElaw_end0, ↓vs_nil, ↓q_flist, ↓vs_list, ↓vs_const, ↓v_intc, List.length_cons, List.length_nil, Nat.reduceAdd, bigL, Nat.reduceLeDiff, ↓v_none, ↓lElaw_end1, ↓q_aname, uElaw_end3, true_and]
  refine stand_of (R := R) (rows := rows) fB fRR fX fun l H1 eRR eR g1 fm st => ?_
  have out : ∀ x o, H x = some o → x ∉ l.mut := fun x o e hx => by rw [(fm x hx).1] at e; cases e
  have gs : ∀ K, Same l.mut H1 K → Grow H K := fun K sm => g1.same (fun x hx => (fm x hx).1) sm
  rw [q_cnext]; simp only [↓q_cons, ↓q_for, ↓v_name, ↓lElaw_end2, true_and]
  refine ⟨_, _, it_list (g1 _ _ fo), ?_⟩
  refine for_map (f := hvV) (fun pre suf σ H' => ∃ (s : St) (z : Option AVal), StandAt H' l rows s ∧ runS rows ord (St.new bx) = runS rows suf s ∧ altOk rows s ∧ s.bx.length = bx.length ∧ (∀ h, s.pl h ≤ (rows h).length) ∧ Same l.mut H1 H' ∧ σ = Elaw_end (some (.ref B)) (some (.ref RR)) (some (.ref ao)) (some (.ref l.S)) (z)) ?_ ?_ ord [] _ _ ⟨St.new bx, none, st, rfl, alt_new ha, rfl, (fun _ => Nat.zero_le _), Same.refl _ _, rfl⟩
  · rintro pre a suf σ H' ⟨s, z, st, hr, halt, hbx, hpl, sm, rfl⟩ N n1 n2 n3
    unfold hvV
    simp only [↓q_body, ↓q_cons, ↓q_if, ↓vt_boolop, ↓q_tBO, ↓q_not, ↓vt_call, ↓v_calln, uElaw_end4, ↓vs_name, ↓v_name, ↓vs_nil, ↓q_ifn, ↓q_t, ↓q_ret, ↓v_none, ↓q_retS, ↓q_cret, ↓vt_cmp, ↓q_c1, ↓v_intc, ↓q_tB0', ↓q_f, ↓q_nil, ↓lElaw_end4, ↓lElaw_end3, ↓gElaw_end_law_can, ↓q_gref, kp259, ↓q_fref, true_and, ↓q_gt, ↓q_lt, ↓gElaw_end_bool, ↓gElaw_end_isinstance, ↓q_gbi, ↓q_fisinstance, ↓q_isi, isi_int_bool, ↓q_bool, ↓gElaw_end_int, isi_int_int]
    rw [show decide (hv a < 0) = false by cases a <;> rfl]
    try simp only [↓q_f]
    rw [show decide (1 < hv a) = false by cases a <;> rfl]
    try simp only [↓q_f]
    refine can_ wo st a (hpl a) ?_
    cases hc : canS rows s a with
    | false =>
      try simp only [↓q_bool, ↓q_f]
      refine n3 _ _ _ (h .none H' (gs _ sm) ?_)
      have : endC rows bx ord = none := by
        unfold endC; rw [hr]; unfold runS
        cases hb : bad rows s a with
        | none => rw [bad_can hb] at hc; cases hc
        | some e => rfl
      rw [this]; rfl
    | true =>
      have hb := alt_can halt hc
      obtain ⟨t, ht⟩ := bad_next hb
      try simp only [↓q_bool, ↓q_t]
      rw [q_cnext]; simp only [↓q_cons, ↓q_expr, ↓v_calln, ↓gElaw_end_law_done, ↓q_gref, kp266, ↓vs_name, ↓v_name, ↓lElaw_end3, ↓lElaw_end4, ↓vs_nil, ↓q_fref, true_and]
      refine done_ wo st a ht (by rw [hbx]; exact ok a t (List.mem_of_getElem? ht)) fun H3 sm3 st3 => ?_
      try simp only [↓q_nextS]
      have sm' := sm.trans sm3
      refine n1 _ _ (sm'.at (out _ _ fo) (g1 _ _ fo)) ⟨goS rows s a, _, st3, ?_, alt_go halt ht hb, by rw [goS_len]; exact hbx, pl_le ht hpl, sm', rfl⟩
      rw [hr]; conv => lhs; unfold runS
      rw [hb]
  · rintro pre σ H' ⟨s, z, st, hr, halt, hbx, hpl, sm, rfl⟩
    have hr : runS rows ord (St.new bx) = (s, none) := hr
    have g := gs _ sm
    have no : ∀ x : Bool, overS rows s x = false → endC rows bx ord = none := fun x hx => by
      unfold endC; rw [hr]; dsimp only
      cases x
      · rw [hx]; rfl
      · rw [hx, Bool.and_false]; rfl
    rw [q_cnext]; simp only [↓q_cons, ↓q_if, ↓vt_boolop, ↓q_tBO, ↓vt_cmp, ↓v_sub_const, ↓v_name, ↓lElaw_end3, ↓v_intc, ↓q_c1, ↓v_calln, ↓gElaw_end_len, ↓q_gbi, ↓vs_sub, ↓lElaw_end1, ↓vs_nil, ↓q_flen, ↓q_t, ↓q_ret, ↓v_none, ↓q_retS, ↓q_cret, ↓q_rret, ↓q_tB0', ↓q_f, ↓q_nil, true_and]
    refine sb_list st.S (by decide) rfl ?_
    refine sb_list st.P (by decide) rfl ?_
    refine sb_list (g _ _ fRR) (by decide) rfl ?_
    refine bi_len (seq_ref (g _ _ (fX false))) ?_
    rw [List.length_map]
    try simp only [↓q_lt]
    refine ifK_dec (fun h0 => ?_) fun h0 => ?_
    · skip
      refine h .none H' g ?_
      rw [no false (by unfold overS; exact decide_eq_false (by omega))]; rfl
    · refine sb_list st.S (by decide) rfl ?_
      refine sb_list st.P (by decide) rfl ?_
      refine sb_list (g _ _ fRR) (by decide) rfl ?_
      refine bi_len (seq_ref (g _ _ (fX true))) ?_
      rw [List.length_map]
      try simp only [↓q_lt]
      refine ifK_dec (fun h1 => ?_) fun h1 => ?_
      · skip
        refine h .none H' g ?_
        rw [no true (by unfold overS; exact decide_eq_false (by omega))]; rfl
      · rw [q_cnext]; simp only [↓q_cons, ↓q_ret, ↓v_tuple, ↓vs_sub, ↓v_sub_const, ↓v_name, ↓lElaw_end3, ↓v_intc, ↓vs_nil, List.length_cons, List.length_nil, Nat.reduceAdd, bigL, Nat.reduceLeDiff, ↓q_retS, ↓q_cret, ↓q_rret, true_and]
        refine sb_list st.S (by decide) rfl ?_
        refine sb_list st.S (by decide) rfl ?_
        refine h _ H' g ?_
        rw [endC_run hr (fun h => Nat.le_antisymm (hpl h) (by cases h <;> omega))]
        exact ⟨l.B, l.N, rfl, st.B, st.N⟩
set_option maxHeartbeats 2000000 in
theorem order_by (wo : WOk (WL w b os)) {B RR c : Addr} {R : Bool → Addr} {rb rc : Bool} {rows : Bool → List Stp} {bx cs : List Int} (fB : H B = some (.list rb (bx.map .int))) (fRR : H RR = some (.list false [.ref (R false), .ref (R true)])) (fX : ∀ h, H (R h) = some (.list false ((rows h).map Stp.v))) (fc : H c = some (.list rc (cs.map .int)))
    (hl : ∀ h, (rows h).length ≤ 60) (ok : ∀ h, ∀ t ∈ rows h, okS bx.length t) (ha : ∀ h, altS false (rows h) = true) (h : ∀ (O : Addr) (o : List Bool) H', Grow H H' → H' O = some (.list false (o.map hvV)) → Q (.ref O) H') :
    CallOk (WL w b os) (n + 2) true (.ref 280) [.ref c, .ref B, .ref RR] H Q E := by
  refine def_ok wo rfl (by kernel_rfl) rfl (by (repeat intro _); change _ = _; kernel_rfl) ?_
  simp only [fnBody, fnPars, List.map, ↓bElaw_order_by, ↓q_cons, ↓q_asg, ↓v_list, ↓vs_call, ↓v_calln, ↓gElaw_order_by_list, ↓q_gty, ↓vs_name, ↓v_name, ↓lElaw_order_by1, ↓vs_nil, ↓q_flist, ↓vs_list, ↓vs_const, ↓v_intc, List.length_cons, List.length_nil, Nat.reduceAdd, bigL, Nat.reduceLeDiff, ↓v_none, ↓lElaw_order_by2, ↓q_aname, uElaw_order_by3, true_and]
  refine stand_of (R := R) (rows := rows) fB fRR fX fun l H1 eRR eR g1 fm st => ?_
  rw [q_cnext]; simp only [↓q_cons, ↓q_asg, ↓v_list, ↓vs_nil, List.length_nil, bigL, Nat.reduceLeDiff, ↓q_aname, uElaw_order_by4, true_and]
  refine new_of fun O H2 g2 nO _ fO => ?_
  have zO := g1.non nO
  have hOx : ∀ x o, H1 x = some o → x ∉ [O] := fun x o e => by simp; exact ne_new e nO
  have hOn : ∀ x ∈ l.RR :: l.R false :: l.R true :: l.mut, x ∉ [O] := by
    intro x hx
    simp only [List.mem_cons, SA.mut, List.not_mem_nil, or_false] at hx
    rcases hx with rfl | rfl | rfl | rfl | rfl | rfl | rfl
    · exact hOx _ _ st.RR
    · exact hOx _ _ (st.R false)
    · exact hOx _ _ (st.R true)
    · exact hOx _ _ st.S
    · exact hOx _ _ st.B
    · exact hOx _ _ st.N
    · exact hOx _ _ st.P
  have hOm : O ∉ l.mut := fun hx => hOn O (by simp [hx]) (by simp)
  have tot0 : totS rows (St.new bx) ≤ 120 := by
    have h0 := hl false
    have h1 := hl true
    unfold totS remS; omega
  have st := st.grow g2
  have g := g1.trans g2
  have fr : ∀ x ∈ l.mut, H x = none := fun x hx => (fm x hx).1
  have stp : ∀ (s : St) (o : List Bool) (a : Bool) (t : Stp) (Hx Hy : AHeap), s.next rows a = some t → bad rows s a = none → altOk rows s → s.bx.length = bx.length → (∀ h, s.pl h ≤ (rows h).length) → o.length + totS rows s ≤ 120 → Grow H Hx → Hx O = some (.list false ((o ++ [a]).map hvV)) → Same l.mut Hx Hy → StandAt Hy l rows (goS rows s a) →
      StandAt Hy l rows (goS rows s a) ∧ altOk rows (goS rows s a) ∧ (goS rows s a).bx.length = bx.length ∧ (∀ h, (goS rows s a).pl h ≤ (rows h).length) ∧ Hy O = some (.list false ((o ++ [a]).map hvV)) ∧ (o ++ [a]).length + totS rows (goS rows s a) ≤ 120 ∧ Grow H Hy := by
    intro s o a t Hx Hy ht hb halt hbx hpl htot g kO sm st
    refine ⟨st, alt_go halt ht hb, by rw [goS_len]; exact hbx, pl_le ht hpl, sm.at hOm kO, ?_, g.same fr sm⟩
    have := tot_go ht
    simp; omega
  rw [q_cnext]
  refine s_join (J := fun σ H' => ∃ (s : St) (o : List Bool) (z1 z2 z3 : Option AVal), (StandAt H' l rows s ∧ altOk rows s ∧ s.bx.length = bx.length ∧ (∀ h, s.pl h ≤ (rows h).length) ∧ H' O = some (.list false (o.map hvV)) ∧ o.length + totS rows s ≤ 120 ∧ Grow H H') ∧ σ = Elaw_order_by (some (.ref c)) (some (.ref B)) (some (.ref RR)) (some (.ref l.S)) (some (.ref O)) (z1) (z2) (z3)) (fun N hN hR => ?_) (fun σ H' hJ => ?_)
  · simp only [↓q_for, ↓v_name, ↓lElaw_order_by0, true_and]
    refine ⟨_, _, it_list (g _ _ fc), ?_⟩
    refine for_map (f := AVal.int) (fun pre suf σ H' => ∃ (s : St) (o : List Bool) (z1 z2 z3 : Option AVal), (StandAt H' l rows s ∧ altOk rows s ∧ s.bx.length = bx.length ∧ (∀ h, s.pl h ≤ (rows h).length) ∧ H' O = some (.list false (o.map hvV)) ∧ o.length + totS rows s ≤ 120 ∧ Grow H H') ∧ σ = Elaw_order_by (some (.ref c)) (some (.ref B)) (some (.ref RR)) (some (.ref l.S)) (some (.ref O)) (z1) (z2) (z3)) ?_ ?_ cs [] _ _ ⟨St.new bx, [], none, none, none, ⟨st, alt_new ha, rfl, (fun _ => Nat.zero_le _), fO, by simpa using tot0, g⟩, rfl⟩
    · clear st fO g
      rintro pre x suf σ H' ⟨s, o, z1, z2, z3, ⟨st, halt, hbx, hpl, kO, htot, g⟩, rfl⟩ N' n1 n2 n3
      obtain ⟨a, hh⟩ := hand_of x
      simp only [↓q_body, ↓q_cons, ↓q_asg, ↓v_bin, ↓v_name, uElaw_order_by5, ↓v_intc, ↓q_aname, uElaw_order_by6, ↓lElaw_order_by5, ↓q_mod, Int.reduceLT, true_and]
      rw [hh]
      rw [q_cnext]; simp only [↓q_cons, ↓q_if, ↓vt_call, ↓v_calln, ↓gElaw_order_by_law_can, ↓q_gref, kp259, ↓vs_name, ↓v_name, ↓lElaw_order_by3, ↓lElaw_order_by6, ↓vs_nil, ↓q_fref, ↓q_expr, ↓v_calla, ↓lElaw_order_by4, ↓q_nil, true_and]
      refine can_ wo st a (hpl a) ?_
      try simp only [↓q_bool]
      refine ifK_split (fun hc => ?_) fun hc => ?_
      · have hb := alt_can halt hc
        obtain ⟨t, ht⟩ := bad_next hb
        refine meth_l kO (by simp) ?_
        refine app_of kO (by rw [List.length_map]; unfold bigL; omega) ?_
        rw [q_nextS, q_cnext]; simp only [↓q_cons, ↓q_expr, ↓v_calln, ↓gElaw_order_by_law_done, ↓q_gref, kp266, ↓vs_name, ↓v_name, ↓lElaw_order_by3, ↓lElaw_order_by6, ↓vs_nil, ↓q_fref, true_and]
        have st' := st.move ((Same.refl [O] _).set (a := O) (o := .list false (o.map hvV ++ [.int (hv a)])) (by simp)) hOn
        have kO' : hset H' O (.list false (o.map hvV ++ [.int (hv a)])) O = some (.list false ((o ++ [a]).map hvV)) := by rw [List.map_append]; exact hs_same
        refine done_ wo st' a ht (by rw [hbx]; exact ok a t (List.mem_of_getElem? ht)) fun H3 sm3 st3 => ?_
        have S := stp s o a t _ H3 ht hb halt hbx hpl htot (g.set zO) kO' sm3 st3
        try simp only [↓q_nextS]
        exact n1 _ _ (S.2.2.2.2.2.2 _ _ fc) ⟨goS rows s a, o ++ [a], _, _, z3, S, rfl⟩
      · exact n1 _ _ (g _ _ fc) ⟨s, o, _, _, z3, ⟨st, halt, hbx, hpl, kO, htot, g⟩, rfl⟩
    · rintro pre σ H' ⟨s, o, z1, z2, z3, I, rfl⟩
      exact hN _ _ ⟨s, o, z1, z2, z3, I, rfl⟩
  clear st fO g
  obtain ⟨s0, o0, z1, z2, z3, I0, rfl⟩ := hJ
  refine s_join (J := fun σ H' => ∃ (s : St) (o : List Bool) (z1 z2 z3 : Option AVal), (StandAt H' l rows s ∧ altOk rows s ∧ s.bx.length = bx.length ∧ (∀ h, s.pl h ≤ (rows h).length) ∧ H' O = some (.list false (o.map hvV)) ∧ o.length + totS rows s ≤ 120 ∧ Grow H H') ∧ σ = Elaw_order_by (some (.ref c)) (some (.ref B)) (some (.ref RR)) (some (.ref l.S)) (some (.ref O)) (z1) (z2) (z3)) (fun N hN hR => ?_) (fun σ H' hJ => ?_)
  · have g := I0.2.2.2.2.2.2
    simp only [↓q_for, ↓v_calln, ↓gElaw_order_by_range, ↓q_gty, ↓vs_bin, ↓v_bin, ↓gElaw_order_by_len, ↓q_gbi, ↓vs_sub, ↓v_sub_const, ↓v_name, ↓lElaw_order_by2, ↓v_intc, ↓vs_nil, ↓q_flen, ↓q_frange, true_and]
    refine sb_list (g _ _ fRR) (by decide) rfl ?_
    refine bi_len (seq_ref (g _ _ (fX false))) ?_
    rw [List.length_map]
    refine sb_list (g _ _ fRR) (by decide) rfl ?_
    refine bi_len (seq_ref (g _ _ (fX true))) ?_
    rw [List.length_map]
    try simp only [↓q_add]
    have l0 := hl false
    have l1 := hl true
    refine ty_range1 (by omega) ?_
    refine ⟨_, _, it_range, ?_⟩
    refine for_range (fun k σ H' => ∃ (s : St) (o : List Bool) (z1 z2 z3 : Option AVal), (StandAt H' l rows s ∧ altOk rows s ∧ s.bx.length = bx.length ∧ (∀ h, s.pl h ≤ (rows h).length) ∧ H' O = some (.list false (o.map hvV)) ∧ o.length + totS rows s ≤ 120 ∧ Grow H H') ∧ σ = Elaw_order_by (some (.ref c)) (some (.ref B)) (some (.ref RR)) (some (.ref l.S)) (some (.ref O)) (z1) (z2) (z3)) ?_ ?_ _ _ ⟨s0, o0, z1, z2, z3, I0, rfl⟩
    · clear I0 g
      rintro k σ H' hk ⟨s, o, z1, z2, z3, ⟨st, halt, hbx, hpl, kO, htot, g⟩, rfl⟩ N' n1 n2 n3
      simp only [↓q_body, ↓q_cons, ↓q_asg, ↓v_calln, uElaw_order_by7, ↓vs_un, ↓v_not, ↓vs_name, ↓v_name, ↓vs_const, ↓v_intc, ↓vs_nil, ↓q_aname, uElaw_order_by6, ↓lElaw_order_by3, ↓gElaw_order_by_law_can, ↓q_gref, kp259, ↓q_fref, true_and, ↓gElaw_order_by_int, ↓q_gty, ↓q_fint]
      refine can_ wo st false (hpl false) ?_
      try simp only [↓q_bool]
      refine ty_int ?_
      rw [show (if (!canS rows s false) = true then (1 : Int) else 0) = hv (!canS rows s false) from rfl]
      generalize (!canS rows s false) = a
      rw [q_cnext]; simp only [↓q_cons, ↓q_if, ↓vt_call, ↓v_calln, ↓gElaw_order_by_law_can, ↓q_gref, kp259, ↓vs_name, ↓v_name, ↓lElaw_order_by3, ↓lElaw_order_by6, ↓vs_nil, ↓q_fref, ↓q_expr, ↓v_calla, ↓lElaw_order_by4, ↓q_nil, true_and]
      refine can_ wo st a (hpl a) ?_
      try simp only [↓q_bool]
      refine ifK_split (fun hc => ?_) fun hc => ?_
      · have hb := alt_can halt hc
        obtain ⟨t, ht⟩ := bad_next hb
        refine meth_l kO (by simp) ?_
        refine app_of kO (by rw [List.length_map]; unfold bigL; omega) ?_
        rw [q_nextS, q_cnext]; simp only [↓q_cons, ↓q_expr, ↓v_calln, ↓gElaw_order_by_law_done, ↓q_gref, kp266, ↓vs_name, ↓v_name, ↓lElaw_order_by3, ↓lElaw_order_by6, ↓vs_nil, ↓q_fref, true_and]
        have st' := st.move ((Same.refl [O] _).set (a := O) (o := .list false (o.map hvV ++ [.int (hv a)])) (by simp)) hOn
        have kO' : hset H' O (.list false (o.map hvV ++ [.int (hv a)])) O = some (.list false ((o ++ [a]).map hvV)) := by rw [List.map_append]; exact hs_same
        refine done_ wo st' a ht (by rw [hbx]; exact ok a t (List.mem_of_getElem? ht)) fun H3 sm3 st3 => ?_
        have S := stp s o a t _ H3 ht hb halt hbx hpl htot (g.set zO) kO' sm3 st3
        try simp only [↓q_nextS]
        exact n1 _ _ ⟨goS rows s a, o ++ [a], z1, _, _, S, rfl⟩
      · exact n1 _ _ ⟨s, o, z1, _, _, ⟨st, halt, hbx, hpl, kO, htot, g⟩, rfl⟩
    · rintro σ H' ⟨s, o, z1, z2, z3, I, rfl⟩
      exact hN _ _ ⟨s, o, z1, z2, z3, I, rfl⟩
  clear I0
  obtain ⟨s, o, z1, z2, z3, ⟨st, halt, hbx, hpl, kO, htot, g⟩, rfl⟩ := hJ
  simp only [↓q_cons, ↓q_ret, ↓v_name, ↓lElaw_order_by4, ↓q_retS, ↓q_cret, ↓q_rret]
  exact h O o _ g kO
theorem eqv_endr (b : List Int) (f : Bool → Int) (s : St) : PyData.eqv (endD s.bx s.num) (endD b f) = kq (some (b, f)) s := by
  unfold endD kq
  simp only [PyData.eqv, PyData.eqvAll, eqv_ints, Bool.and_true]
  have e1 : decide (s.bx = b) = decide (b = s.bx) := by
    by_cases z : b = s.bx
    · simp [z]
    · rw [decide_eq_false z, decide_eq_false (fun q => z q.symm)]
  rw [e1]
  congr 1
  by_cases h1 : f false = s.num false
  · by_cases h2 : f true = s.num true
    · simp [h1, h2]
    · have : ¬ s.num true = f true := fun q => h2 q.symm
      simp [h1, h2, this]
  · have : ¬ s.num false = f false := fun q => h1 q.symm
    simp [h1, this]
theorem known_ne {B N : Addr} {r1 r2 : Bool} {v0 : AVal} {k0 : Option (List Int × (Bool → Int))} {s : St} {k : Bool → Prop} (hB : H B = some (.list r1 (s.bx.map .int))) (hN : H N = some (.list r2 [.int (s.num false), .int (s.num true)])) (x0 : KAt H v0 k0) :
    cmpK .NotEq (.tup [.ref B, .ref N]) v0 H k = k (!kq k0 s) := by
  have e : eqA H (.tup [.ref B, .ref N]) v0 = some (kq k0 s) := by
    unfold eqA
    rw [dat_end hB hN]
    cases k0 with
    | none =>
      have x0 : v0 = .none := x0
      subst x0
      show some (PyData.eqv (endD s.bx s.num) .none) = _
      simp [endD, PyData.eqv, kq]
    | some p =>
      obtain ⟨B', N', rfl, h1, h2⟩ := x0
      rw [dat_end h1 h2]
      show some (PyData.eqv (endD s.bx s.num) (endD p.1 p.2)) = _
      rw [eqv_endr]
  unfold cmpK
  rw [show cmpA .NotEq (.tup [.ref B, .ref N]) v0 H = some (!kq k0 s) from congrArg (Option.map (!·)) e]
theorem run_all_le {rows : Bool → List Stp} {bx : List Int} : ∀ ord s, runS rows ord (St.new bx) = (s, none) → ∀ h, s.pl h ≤ (rows h).length := fun ord s hr => run_le ord _ _ hr fun _ => Nat.zero_le _
set_option maxHeartbeats 2000000 in
theorem all_plain (wo : WOk (WL w b os)) {B RR DU c : Addr} {R : Bool → Addr} {rb rc rd : Bool} {rows : Bool → List Stp} {bx cs : List Int} {v0 v1 : AVal} (fB : H B = some (.list rb (bx.map .int))) (fRR : H RR = some (.list false [.ref (R false), .ref (R true)])) (fX : ∀ h, H (R h) = some (.list false ((rows h).map Stp.v))) (fc : H c = some (.list rc (cs.map .int))) (hcl : cs.length ≤ 63)
    (hl : ∀ h, (rows h).length ≤ 60) (ok : ∀ h, ∀ t ∈ rows h, okS bx.length t) (ha : ∀ h, altS false (rows h) = true) (fD : H DU = some (.list rd [v0, v1])) (k0 : KAt H v0 (endS rows bx (serO rows false))) (k1 : KAt H v1 (endS rows bx (serO rows true)))
    (hK : ∀ ord s, runS rows ord (St.new bx) = (s, none) → (∀ h, s.pl h = (rows h).length) → inK rows bx s = true) (h : ∀ H', Grow H H' → Q (.bool true) H') :
    CallOk (WL w b os) (n + 3) true (.ref 285) [.ref c, .ref B, .ref RR, .ref DU] H Q E := by
  refine def_ok wo rfl (by kernel_rfl) rfl (by (repeat intro _); change _ = _; kernel_rfl) ?_
  simp only [fnBody, fnPars, List.map, ↓bElaw_all_plain, ↓q_cons, ↓q_for, ↓v_calln, ↓gElaw_all_plain_range, ↓q_gty, ↓vs_const, ↓v_intc, ↓vs_nil, ↓q_frange, true_and]
  refine ty_range1 (by decide) ?_
  refine ⟨_, _, it_range, ?_⟩
  refine for_range (fun k σ H' => ∃ (c : Addr) (rc : Bool) (cs : List Int) (z1 z2 : Option AVal), H' c = some (.list rc (cs.map .int)) ∧ cs.length ≤ 63 ∧ Grow H H' ∧ σ = Elaw_all_plain (some (.ref c)) (some (.ref B)) (some (.ref RR)) (some (.ref DU)) (z1) (z2) none) ?_ ?_ _ _ ⟨c, rc, cs, none, none, fc, hcl, Grow.refl _, rfl⟩
  · rintro k σ H' hk ⟨c, rc, cs, z1, z2, fc, hcl, g, rfl⟩ N n1 n2 n3
    simp only [↓q_body, ↓q_cons, ↓q_asg, ↓v_calln, uElaw_all_plain4, ↓vs_name, ↓v_name, ↓vs_call, ↓vs_nil, ↓q_aname, uElaw_all_plain5, ↓lElaw_all_plain2, ↓lElaw_all_plain1, ↓lElaw_all_plain0, ↓gElaw_all_plain_law_order_by, ↓q_gref, kp280, ↓q_fref, true_and, ↓gElaw_all_plain_law_end, kp273]
    refine order_by wo (g _ _ fB) (g _ _ fRR) (fun h => g _ _ (fX h)) fc hl ok ha fun O o H2 g2 fO => ?_
    have g := g.trans g2
    refine end_ wo (g _ _ fB) (g _ _ fRR) (fun h => g _ _ (fX h)) fO ok ha fun v H3 g3 kv => ?_
    have fc := (g2.trans g3) _ _ fc
    have g := g.trans g3
    rw [q_cnext]
    refine s_join (J := fun σ K => ∃ z1 z2 : Option AVal, K = H3 ∧ σ = Elaw_all_plain (some (.ref c)) (some (.ref B)) (some (.ref RR)) (some (.ref DU)) (z1) (z2) none) (fun N' hN hR => ?_) (fun σ K hJ => ?_)
    · cases e : endC rows bx o with
      | none =>
        rw [e] at kv
        have kv : v = .none := kv
        subst kv
        simp only [↓q_if, ↓vt_boolop, ↓q_tBA, ↓vt_cmp, ↓v_name, ↓lElaw_all_plain5, ↓q_c1, ↓v_none, ↓q_isn_n, ↓q_f, ↓q_nil]
        exact hN _ _ ⟨_, _, rfl, rfl⟩
      | some p =>
        obtain ⟨s, hr, hd, rfl⟩ := endC_some run_all_le e
        rw [e] at kv
        obtain ⟨B', N', rfl, hB', hN'⟩ := kv
        have hk := hK o s hr hd
        unfold inK at hk
        simp only [↓q_if, ↓vt_boolop, ↓q_tBA, ↓vt_cmp, ↓v_name, ↓lElaw_all_plain5, ↓q_c1, ↓v_none, ↓q_isn_t, ↓q_t, ↓v_sub_const, ↓lElaw_all_plain3, ↓v_intc, ↓q_tB0, ↓q_cons, ↓q_ret, ↓v_boolc, ↓q_retS, ↓q_cret, ↓q_f, ↓q_nil]
        refine sb_list (g _ _ fD) (by decide) rfl ?_
        rw [known_ne hB' hN' (k0.grow g)]
        try simp only [↓q_ifn]
        refine ifK_split (fun e0 => ?_) fun e0 => ?_
        · exact hN _ _ ⟨_, _, rfl, rfl⟩
        · refine sb_list (g _ _ fD) (by decide) rfl ?_
          rw [known_ne hB' hN' (k1.grow g)]
          rw [e0, Bool.false_or] at hk
          rw [hk]
          try simp only [↓q_ifn, ↓q_t]
          exact hN _ _ ⟨_, _, rfl, rfl⟩
    obtain ⟨y1, y2, rfl, rfl⟩ := hJ
    simp only [↓q_cons, ↓q_asg, ↓q_comp, ↓v_name, ↓lElaw_all_plain0, bigL, true_and, ↓q_aname, uElaw_all_plain0]
    refine ⟨_, _, it_list fc, ?_⟩
    refine ⟨by simp [bigL]; omega, ?_⟩
    refine comp_map (f := AVal.int) (fun pre suf acc K' => K' = K ∧ pre ++ suf = cs ∧ ∃ ds : List Int, acc = ds.map .int ∧ ds.length = pre.length) ?_ ?_ cs [] [] _ ⟨rfl, rfl, [], rfl, rfl⟩
    · rintro pre x suf acc K' ⟨rfl, hp, ds, rfl, hds⟩ M L m1 m2
      try simp only [↓q_ifs0, ↓q_t, ↓q_elt, ↓v_bin, ↓v_name, uElaw_all_plain6, ↓v_intc, ↓lElaw_all_plain6, ↓q_div, Int.reduceLT, and_true, true_and]
      exact m1 _ _ fc ⟨rfl, by rw [← hp]; simp, ds ++ [x / 2], by rw [List.map_append]; rfl, by simp [hds]⟩
    rintro pre acc K' ⟨rfl, hp, ds, rfl, hds⟩
    refine new_of fun c2 H4 g4 _ _ fc2 => ?_
    rw [List.append_nil] at hp
    exact n1 _ _ ⟨c2, false, ds, y1, y2, fc2, by rw [hds, hp]; exact hcl, g.trans g4, rfl⟩
  · rintro σ H' ⟨c, rc, cs, z1, z2, fc, hcl, g, rfl⟩
    rw [q_cnext]; simp only [↓q_cons, ↓q_ret, ↓v_boolc, ↓q_retS, ↓q_cret, ↓q_rret]
    exact h _ g
section
variable {A : Bool → Addr} {ba : Addr} {rr : Bool → Bool} {rb : Bool} {bx : List Int}
theorem strange_long (wo : WOk (WL w b os)) {rows : Bool → List Stp} (hA : ∀ h, H (A h) = some (.list (rr h) ((rows h).map Stp.v))) (hB : H ba = some (.list rb (bx.map .int))) (hl : ∀ h, (rows h).length ≤ 60) (ok : ∀ h, ∀ t ∈ rows h, okS bx.length t)
    (hlong : 5 < (rows false).length ∨ 5 < (rows true).length) (h : ∀ H', Grow H H' → E 37 H') :
    CallOk (WL w b os) (n + 6) true (.ref 221) [.ref (A false), .ref (A true), .ref ba] H Q E := by
  refine def_ok wo rfl (by kernel_rfl) rfl (by (repeat intro _); change _ = _; kernel_rfl) ?_
  simp only [fnBody, fnPars, List.map, ↓bEstrange, ↓q_cons, ↓q_asg, ↓v_calln, ↓gEstrange_Loom, ↓q_gref, kp191, ↓vs_name, ↓v_name, ↓lEstrange0, ↓lEstrange1, ↓lEstrange2, ↓vs_nil, ↓q_fref, ↓q_aname, uEstrange3, true_and]
  refine loom_new (A := A) wo hA hB hl ok fun l0 H1 g1 fr0 lo0 => ?_
  have h := h H1 g1
  rw [q_cnext]; simp only [↓q_cons, ↓q_if, ↓vt_boolop, ↓q_tBO, ↓vt_cmp, ↓v_calln, ↓gEstrange_len, ↓q_gbi, ↓vs_name, ↓v_name, ↓lEstrange0, ↓vs_nil, ↓q_flen, ↓q_c1, ↓gEstrange_MOST_LOOKED, ↓q_t, ↓q_raise, g_TooMany, eEstrange_TooMany, xk37, true_and, ↓lEstrange1, ↓q_tB0', ↓q_f, ↓q_nil]
  refine bi_len (seq_ref (g1 _ _ (hA false))) ?_
  rw [List.length_map]
  try simp only [↓q_gt]
  refine ifK_dec (fun h0 => ?_) fun h0 => ?_
  · skip
    exact h
  · refine bi_len (seq_ref (g1 _ _ (hA true))) ?_
    rw [List.length_map]
    try simp only [↓q_gt]
    rw [decide_eq_true (by omega)]
    try simp only [↓q_t]
    exact h
end
noncomputable def wrS : Bool → List Stp → Option Bad
  | _, [] => none
  | h, .take :: r => if h then some .again else wrS true r
  | h, .free :: r => if h then wrS false r else some .held
  | h, .load _ :: r => wrS h r
  | h, .plus _ :: r => wrS h r
  | h, .store _ :: r => wrS h r
  | h, .add _ :: r => wrS h r
  | h, .twice :: r => wrS h r
theorem wr_run {row : List Stp} : ∀ (n : Nat) (s : St) (hd : Bool), s.pl false + n = row.length → s.ho = (if hd then some false else none) → (runS (bsel row []) (List.replicate n false) s).2 = wrS hd (row.drop (s.pl false))
  | 0, s, hd, hp, ho => by
    rw [List.drop_eq_nil_of_le (by omega)]; rfl
  | n + 1, s, hd, hp, ho => by
    obtain ⟨t, ht⟩ : ∃ t, row[s.pl false]? = some t := ⟨_, List.getElem?_eq_getElem (by omega)⟩
    have hn : s.next (bsel row []) false = some t := ht
    have hdr : row.drop (s.pl false) = t :: row.drop (s.pl false + 1) := drop_next (rows := bsel row []) hn
    have hpl := goS_pl hn
    have ih := fun hd' (z : (goS (bsel row []) s false).ho = (if hd' then some false else none)) => wr_run (row := row) n (goS (bsel row []) s false) hd' (by rw [hpl, setB_same]; omega) z
    rw [hpl, setB_same] at ih
    rw [hdr, List.replicate_succ]
    unfold runS bad
    rw [hn]
    have hgo := goS_of hn
    cases t with
    | take =>
      cases hd with
      | true => dsimp only; rw [ho]; rfl
      | false => dsimp only; rw [ho]; exact ih true (by rw [hgo]; rfl)
    | free =>
      cases hd with
      | true => dsimp only; rw [ho]; exact ih false (by rw [hgo]; rfl)
      | false => dsimp only; rw [ho]; rfl
    | _ => exact ih hd (by rw [hgo]; exact ho)
theorem alone_wr {row : List Stp} {bx : List Int} {s' : St} {e : Option Bad} (h : aloneR row bx = (s', e)) : e = wrS false row := by
  have := wr_run (row := row) row.length (St.new bx) false (Nat.zero_add _) rfl
  unfold aloneR at h
  rw [h] at this
  exact this
theorem wrS_kind : ∀ (row : List Stp) (h : Bool) (e : Bad), wrS h row = some e → e = .again ∨ e = .held
  | [], _, _, z => by cases z
  | t :: r, h, e, z => by
    cases t with
    | take => cases h with
      | true => cases z; exact .inl rfl
      | false => exact wrS_kind r true e z
    | free => cases h with
      | true => exact wrS_kind r false e z
      | false => cases z; exact .inr rfl
    | load k => exact wrS_kind r h e z
    | plus k => exact wrS_kind r h e z
    | store k => exact wrS_kind r h e z
    | add k => exact wrS_kind r h e z
    | twice => exact wrS_kind r h e z
noncomputable def strW : Option Bad → Str
  | none => Str.ofString ""
  | some .again => Str.ofString "again"
  | some .held => Str.ofString "not held"
  | some _ => Str.ofString "other"
theorem sw_nil {e : Option Bad} (h : ∀ x, e = some x → x = .again ∨ x = .held) : decide (strW e = Str.ofString "") = e.isNone := by
  cases e with
  | none => simp [strW]
  | some x => rcases h x rfl with rfl | rfl <;> simp [strW, ofs_eq]
noncomputable def wr2 (rows : Bool → List Stp) : Option Bad := match wrS false (rows false) with
  | some e => some e
  | none => wrS false (rows true)
section
variable {A : Bool → Addr} {ba : Addr} {rr : Bool → Bool} {rb : Bool} {bx : List Int} {rows : Bool → List Stp}
set_option maxHeartbeats 2000000 in
theorem strange_wrong (wo : WOk (WL w b os)) {e : Bad} (hA : ∀ h, H (A h) = some (.list (rr h) ((rows h).map Stp.v))) (hB : H ba = some (.list rb (bx.map .int))) (hl : ∀ h, (rows h).length ≤ 5) (ok : ∀ h, ∀ t ∈ rows h, okS bx.length t) (he : wr2 rows = some e) (h : ∀ H', Grow H H' → E (eAddr e) H') :
    CallOk (WL w b os) (n + 7) true (.ref 221) [.ref (A false), .ref (A true), .ref ba] H Q E := by
  have hl60 : ∀ h, (rows h).length ≤ 60 := fun h => Nat.le_trans (hl h) (by decide)
  refine def_ok wo rfl (by kernel_rfl) rfl (by (repeat intro _); change _ = _; kernel_rfl) ?_
  simp only [fnBody, fnPars, List.map, ↓bEstrange, ↓q_cons, ↓q_asg, ↓v_calln, ↓gEstrange_Loom, ↓q_gref, kp191, ↓vs_name, ↓v_name, ↓lEstrange0, ↓lEstrange1, ↓lEstrange2, ↓vs_nil, ↓q_fref, ↓q_aname, uEstrange3, true_and]
  refine loom_new (A := A) wo hA hB hl60 ok fun l0 H1 g1 fr0 lo0 => ?_
  rw [q_cnext]; simp only [↓q_cons, ↓q_if, ↓vt_boolop, ↓q_tBO, ↓vt_cmp, ↓v_calln, ↓gEstrange_len, ↓q_gbi, ↓vs_name, ↓v_name, ↓lEstrange0, ↓vs_nil, ↓q_flen, ↓q_c1, ↓gEstrange_MOST_LOOKED, ↓q_t, ↓q_raise, g_TooMany, eEstrange_TooMany, xk37, true_and, ↓lEstrange1, ↓q_tB0', ↓q_f, ↓q_nil]
  refine bi_len (seq_ref (g1 _ _ (hA false))) ?_
  rw [List.length_map]
  try simp only [↓q_gt]
  rw [decide_eq_false (show ¬ ((5 : Int) < ((rows false).length : Nat)) by have := hl false; omega)]
  try simp only [↓q_f]
  refine bi_len (seq_ref (g1 _ _ (hA true))) ?_
  rw [List.length_map]
  try simp only [↓q_gt]
  rw [decide_eq_false (show ¬ ((5 : Int) < ((rows true).length : Nat)) by have := hl true; omega)]
  try simp only [↓q_f]
  rw [q_cnext]; simp only [↓q_cons, ↓q_expr, ↓v_calln, ↓gEstrange_alone, ↓q_gref, kp202, ↓vs_name, ↓v_name, ↓lEstrange0, ↓lEstrange2, ↓vs_nil, ↓q_fref, true_and]
  unfold wr2 at he
  refine alone_ wo (g1 _ _ (hA false)) (g1 _ _ hB) (hl60 false) (ok false) (fun s' e' hr H' g' => ?_) fun s' hr _ H2 g2 _ => ?_
  · have z := alone_wr hr
    rw [← z] at he
    cases he
    exact h _ (g1.trans g')
  have z := alone_wr hr
  rw [← z] at he
  rw [q_nextS, q_cnext]; simp only [↓q_cons, ↓q_expr, ↓v_calln, ↓gEstrange_alone, ↓q_gref, kp202, ↓vs_name, ↓v_name, ↓lEstrange1, ↓lEstrange2, ↓vs_nil, ↓q_fref, true_and]
  refine alone_ wo ((g1.trans g2) _ _ (hA true)) ((g1.trans g2) _ _ hB) (hl60 true) (ok true) (fun s' e' hr H' g' => ?_) fun s' hr _ H3 g3 _ => ?_
  · have z := alone_wr hr
    rw [← z] at he
    cases he
    exact h _ ((g1.trans g2).trans g')
  · have z := alone_wr hr
    rw [← z] at he
    cases he
theorem refused_wrong (wo : WOk (WL w b os)) {e : Bad} (hA : ∀ h, H (A h) = some (.list (rr h) ((rows h).map Stp.v))) (hB : H ba = some (.list rb (bx.map .int))) (hl : ∀ h, (rows h).length ≤ 5) (ok : ∀ h, ∀ t ∈ rows h, okS bx.length t) (he : wr2 rows = some e) (hk : e = .again ∨ e = .held) (h : ∀ H', Grow H H' → Q (.str (strW (some e))) H') :
    CallOk (WL w b os) (n + 8) true (.ref 292) [.ref (A false), .ref (A true), .ref ba] H Q E := by
  refine def_ok wo rfl (by kernel_rfl) rfl (by (repeat intro _); change _ = _; kernel_rfl) ?_
  simp only [fnBody, fnPars, List.map, ↓bElaw_refused, ↓q_cons, ↓q_try, ↓q_expr, ↓v_calln, ↓gElaw_refused_strange, ↓q_gref, kp221, ↓vs_name, ↓v_name, ↓lElaw_refused0, ↓lElaw_refused1, ↓lElaw_refused2, ↓vs_nil, ↓q_fref, true_and]
  refine strange_wrong (A := A) wo hA hB hl ok he fun H1 g1 => ?_
  have z := h H1 g1
  rcases hk with rfl | rfl
  · rw [show eAddr .again = 73 from rfl]; simp only [↓q_after, ↓q_hdn, eElaw_refused_TooMany, ↓xm_Again_TooMany, eElaw_refused_Again, ↓xm_Again_Again, ↓q_cons, ↓q_ret, ↓v_strc, ↓q_retS, ↓q_cret, ↓q_rret, true_and]; exact z
  · rw [show eAddr .held = 85 from rfl]; simp only [↓q_after, ↓q_hdn, eElaw_refused_TooMany, ↓xm_NotHeld_TooMany, eElaw_refused_Again, ↓xm_NotHeld_Again, eElaw_refused_NotHeld, ↓xm_NotHeld_NotHeld, ↓q_cons, ↓q_ret, ↓v_strc, ↓q_retS, ↓q_cret, ↓q_rret, true_and]; exact z
theorem refused_long (wo : WOk (WL w b os)) (hA : ∀ h, H (A h) = some (.list (rr h) ((rows h).map Stp.v))) (hB : H ba = some (.list rb (bx.map .int))) (hl : ∀ h, (rows h).length ≤ 60) (ok : ∀ h, ∀ t ∈ rows h, okS bx.length t) (hlong : 5 < (rows false).length ∨ 5 < (rows true).length) (h : ∀ H', Q (.str (Str.ofString "too many")) H') :
    CallOk (WL w b os) (n + 8) true (.ref 292) [.ref (A false), .ref (A true), .ref ba] H Q E := by
  refine def_ok wo rfl (by kernel_rfl) rfl (by (repeat intro _); change _ = _; kernel_rfl) ?_
  simp only [fnBody, fnPars, List.map, ↓bElaw_refused, ↓q_cons, ↓q_try, ↓q_expr, ↓v_calln, ↓gElaw_refused_strange, ↓q_gref, kp221, ↓vs_name, ↓v_name, ↓lElaw_refused0, ↓lElaw_refused1, ↓lElaw_refused2, ↓vs_nil, ↓q_fref, true_and]
  refine strange_long (A := A) wo hA hB hl ok hlong fun H1 g1 => ?_
  have z := h H1
  simp only [↓q_after, ↓q_hdn, eElaw_refused_TooMany, ↓xm_TooMany_TooMany, ↓q_cons, ↓q_ret, ↓v_strc, ↓q_retS, ↓q_cret, ↓q_rret, true_and]
  exact z
end
set_option maxHeartbeats 1000000 in
theorem wrong_ (wo : WOk (WL w b os)) {r : Addr} {ro : Bool} {row : List Stp} (hr : H r = some (.list ro (row.map Stp.v))) (h : Q (.str (strW (wrS false row))) H) :
    CallOk (WL w b os) (n + 1) true (.ref 299) [.ref r] H Q E := by
  refine def_ok wo rfl (by kernel_rfl) rfl (by (repeat intro _); change _ = _; kernel_rfl) ?_
  simp only [fnBody, fnPars, List.map, ↓bElaw_wrong, ↓q_cons, ↓q_asg, ↓v_boolc, ↓q_aname, uElaw_wrong1]
  rw [q_cnext]; simp only [↓q_cons, ↓q_for, ↓v_name, ↓lElaw_wrong0, true_and]
  refine ⟨_, _, it_list hr, ?_⟩
  refine for_map (f := Stp.v) (fun pre suf σ H' => ∃ (hd : Bool) (z : Option AVal), H' = H ∧ wrS false row = wrS hd suf ∧ σ = Elaw_wrong (some (.ref r)) (some (.bool hd)) (z)) ?_ ?_ row [] _ _ ⟨false, none, rfl, rfl, rfl⟩
  · rintro pre s suf σ H' ⟨hd, z, rfl, he, rfl⟩ N n1 n2 n3
    have ret : ∀ e σ1, wrS false row = some e → N (.ret (.str (strW (some e)))) σ1 H' := fun e σ1 z => by rw [← z]; exact n3 _ _ _ h
    refine s_join (J := fun σ' K => ∃ hd2 : Bool, K = H' ∧ (isTake s = true → hd = false ∧ hd2 = true) ∧ (isTake s = false → hd2 = hd) ∧ σ' = Elaw_wrong (some (.ref r)) (some (.bool hd2)) (some s.v)) (fun N' hN hR => ?_) (fun σ' K hJ => ?_)
    · simp only [↓q_if, ↓vt_cmp, ↓v_sub_const, ↓v_name, uElaw_wrong2, ↓v_intc, ↓q_c1, ↓v_strc, ↓q_cons, ↓vt_name, ↓q_ret, ↓q_retS, ↓q_cret, ↓q_nil, ↓lElaw_wrong1, ↓q_bool, ↓lElaw_wrong2, ↓sv_sub0, ↓q_seq, wd_take]
      refine ifK_split (fun e => ?_) fun e => ?_
      · refine ifK_split (fun e2 => ?_) fun e2 => ?_
        · skip
          refine hR _ _ _ (ret .again _ ?_)
          rw [he, e2]; cases s <;> first | rfl | (cases e; done)
        · skip
          rw [q_cnext]; simp only [↓q_cons, ↓q_asg, ↓v_boolc, ↓q_aname, uElaw_wrong1]
          exact hN _ _ ⟨true, rfl, fun _ => ⟨e2, rfl⟩, (fun z => by rw [e] at z; cases z), rfl⟩
      · exact hN _ _ ⟨hd, rfl, (fun z => by rw [e] at z; cases z), fun _ => rfl, rfl⟩
    obtain ⟨hd2, rfl, t1, t2, rfl⟩ := hJ
    simp only [↓q_cons, ↓q_if, ↓vt_cmp, ↓v_sub_const, ↓v_name, ↓lElaw_wrong2, ↓v_intc, ↓sv_sub0, ↓q_c1, ↓v_strc, ↓q_seq, wd_free, ↓q_not, ↓vt_name, ↓lElaw_wrong1, ↓q_bool, ↓q_ifn, ↓q_nil, ↓q_ret, ↓q_retS, ↓q_cret]
    refine ifK_split (fun e => ?_) fun e => ?_
    · have ht : isTake s = false := by cases s <;> first | rfl | (cases e; done)
      have hd2e := t2 ht
      subst hd2e
      refine ifK_split (fun e2 => ?_) fun e2 => ?_
      · rw [q_cnext]; simp only [↓q_cons, ↓q_asg, ↓v_boolc, ↓q_aname, uElaw_wrong1]
        refine n1 _ _ hr ⟨false, _, rfl, ?_, rfl⟩
        rw [he, e2]; cases s <;> first | rfl | (cases e; done)
      · skip
        refine ret .held _ ?_
        rw [he, e2]; cases s <;> first | rfl | (cases e; done)
    · refine n1 _ _ hr ⟨hd2, _, rfl, ?_, rfl⟩
      rw [he]
      cases ht : isTake s with
      | true =>
        obtain ⟨a1, a2⟩ := t1 ht
        rw [a1, a2]; cases s <;> first | rfl | (cases ht; done)
      | false =>
        rw [t2 ht]; cases s <;> first | rfl | (cases ht; done) | (cases e; done)
  · rintro pre σ H' ⟨hd, z, rfl, he, rfl⟩
    rw [q_cnext]; simp only [↓q_cons, ↓q_ret, ↓v_strc, ↓q_retS, ↓q_cret, ↓q_rret]
    rw [he] at h
    exact h
set_option maxHeartbeats 4000000 in
theorem guards_ (wo : WOk (WL w b os)) {HD h2 : Addr} {R : Bool → Addr} {rows : Bool → List Stp} {bx : List Int} {sd : Int} (fH : H HD = some (.list false [.ref (R false), .ref (R true), .ref h2])) (fX : ∀ h, H (R h) = some (.list false ((rows h).map Stp.v))) (fB : H h2 = some (.list false (bx.map .int)))
    (nX : ∀ h, R h ≠ HD) (nB : h2 ≠ HD) (hl : ∀ h, (rows h).length ≤ 5) (ok : ∀ h, ∀ t ∈ rows h, okS bx.length t) (h : ∀ H', Q (.bool true) H') :
    CallOk (WL w b os) (n + 9) true (.ref 306) [.ref HD, .int sd] H Q E := by
  refine def_ok wo rfl (by kernel_rfl) rfl (by (repeat intro _); change _ = _; kernel_rfl) ?_
  refine s_join (J := fun σ H' => ∃ (R : Bool → Addr) (rows : Bool → List Stp) (z1 z2 z3 : Option AVal), (H' HD = some (.list false [.ref (R false), .ref (R true), .ref h2]) ∧ (∀ h, hout [HD] H' (R h) = some (.list false ((rows h).map Stp.v))) ∧ hout [HD] H' h2 = some (.list false (bx.map .int)) ∧ (∀ h, (rows h).length ≤ 5) ∧ (∀ h, ∀ t ∈ rows h, okS bx.length t)) ∧ σ = Elaw_guards (some (.ref HD)) (some (.int sd)) (z1) (z2) (z3) none) (fun N hN hR => ?_) (fun σ H' hJ => ?_)
  · simp only [↓q_for, ↓v_calln, fnPars, List.map, ↓bElaw_guards, ↓vs_const, ↓v_intc, ↓vs_nil, true_and, ↓gElaw_guards_range, ↓q_gty, ↓q_frange]
    refine ty_range1 (by decide) ?_
    refine ⟨_, _, it_range, ?_⟩
    rw [show ((2 : Int) - 0).toNat = 2 from rfl]
    refine for_range (fun k σ H' => ∃ (R : Bool → Addr) (rows : Bool → List Stp) (z1 z2 z3 : Option AVal), (H' HD = some (.list false [.ref (R false), .ref (R true), .ref h2]) ∧ (∀ h, hout [HD] H' (R h) = some (.list false ((rows h).map Stp.v))) ∧ hout [HD] H' h2 = some (.list false (bx.map .int)) ∧ (∀ h, (rows h).length ≤ 5) ∧ (∀ h, ∀ t ∈ rows h, okS bx.length t)) ∧ σ = Elaw_guards (some (.ref HD)) (some (.int sd)) (z1) (z2) (z3) none) ?_ ?_ _ _ ⟨R, rows, none, none, none, ⟨fH, fun h => hout_in (by simp [nX h]) (fX h), hout_in (by simp [nB]) fB, hl, ok⟩, by first | rfl | simp only [↓q_nil, ↓q_cons, ↓q_cret, ↓q_ccont, ↓q_rret, ↓q_rnext, ↓q_after, ↓q_nextS, ↓q_retS, ↓q_expr, ↓q_pass, ↓q_cont, ↓q_ret, ↓q_asg, ↓q_if, ↓q_for, ↓q_while, ↓q_try, ↓q_raise, ↓q_hd0, ↓q_hdn, ↓q_hds, ↓q_clr, ↓pv_0, ↓pv_1, hv_inj, hv_not, ↓q_aname, ↓q_atup, ↓q_asub, ↓q_aattr, ↓q_comp, ↓q_b1, ↓q_bA, ↓q_bO, ↓q_tB0, ↓q_tB0', ↓q_tBA, ↓q_tBO, ↓q_c1, ↓q_c2, ↓q_not, ↓q_bool, ↓q_int, ↓q_t, ↓q_f, ↓q_ifn, ↓q_add, ↓q_sub, ↓q_mul, ↓q_div, ↓q_mod, ↓q_p20, ↓q_p30, ↓q_p59, ↓q_p60, ↓q_lt, ↓q_le, ↓q_gt, ↓q_ge, ↓q_eq, ↓q_ne, ↓q_seq, ↓q_sne, ↓q_beq, ↓q_bne, ↓q_in2, ↓q_in3, ↓q_in4, ↓q_nin2, ↓q_nin3, ↓q_nin4, ↓q_fref, ↓q_flen, ↓q_fisinstance, ↓q_fmin, ↓q_fmax, ↓q_fall, ↓q_flist, ↓q_frange, ↓q_fint, ↓q_fstr, ↓q_gbi, ↓q_gty, ↓q_gref, ↓q_sub0, ↓q_sub1, ↓q_sub2, ↓q_isi, ↓q_lent, ↓sv_sub0, wd_box, wd_gd, wd_take, wd_free, wd_load, wd_plus, wd_store, wd_add, wd_twice, ↓sv_sub1l, ↓sv_sub1p, ↓sv_sub1s, ↓sv_sub1a, sv_len, sv_eq, sv_ne, cisBox_load, cisBox_plus, cisBox_store, cisBox_add, cisBox_twice, cisBox_take, cisBox_free, cisGd_load, cisGd_plus, cisGd_store, cisGd_add, cisGd_twice, cisGd_take, cisGd_free, cisTake_load, cisTake_plus, cisTake_store, cisTake_add, cisTake_twice, cisTake_take, cisTake_free, cisFree_load, cisFree_plus, cisFree_store, cisFree_add, cisFree_twice, cisFree_take, cisFree_free, cisLoad_load, cisLoad_plus, cisLoad_store, cisLoad_add, cisLoad_twice, cisLoad_take, cisLoad_free, cisPlus_load, cisPlus_plus, cisPlus_store, cisPlus_add, cisPlus_twice, cisPlus_take, cisPlus_free, cisStore_load, cisStore_plus, cisStore_store, cisStore_add, cisStore_twice, cisStore_take, cisStore_free, cisAdd_load, cisAdd_plus, cisAdd_store, cisAdd_add, cisAdd_twice, cisAdd_take, cisAdd_free, cisTwice_load, cisTwice_plus, cisTwice_store, cisTwice_add, cisTwice_twice, cisTwice_take, cisTwice_free, cln_load, cln_plus, cln_store, cln_add, cln_twice, cln_take, cln_free, ↓q_is_n, ↓q_is_i, ↓q_is_r, ↓q_is_t, ↓q_isn_n, ↓q_isn_i, ↓q_isn_r, ↓q_isn_t, ↓q_eq_ni, ↓q_ne_ni, ↓q_um, hv_f, hv_t, ↓q_body, ↓q_test, ↓q_elt, ↓q_ifs0, ↓q_ifs1, ↓v_none, ↓v_boolc, ↓v_intc, ↓v_strc, ↓v_name, ↓v_boolop, ↓v_not, ↓v_usub, ↓v_bin, ↓v_cmp, ↓v_calla, ↓v_calln, ↓v_attr, ↓v_cut, ↓v_sub_name, ↓v_sub_const, ↓v_sub_bin, ↓v_sub_sub, ↓v_sub_call, ↓v_sub_un, ↓v_sub_attr, ↓v_tuple, ↓v_list, ↓vt_not, ↓vt_boolop, ↓vt_cmp, ↓vt_name, ↓vt_const, ↓vt_sub, ↓vt_call, ↓vt_attr, ↓vs_nil, ↓vs_name, ↓vs_const, ↓vs_bin, ↓vs_sub, ↓vs_call, ↓vs_un, ↓vs_attr, ↓vs_tup, ↓vs_list, ↓vs_cmp, ↓vs_bo, ↓vs_comp, ↓vO_none, ↓vO_some, ↓gv_some, ne_eq, not_false_eq_true, ofs_eq, fnBody, fnPars, List.map, if_true, if_false, reduceIte, Bool.or_false, Bool.or_true, Bool.true_or, Bool.false_or, decide_true, decide_false, true_and, and_true, Bool.not_true, Bool.not_false, String.reduceEq, Int.reduceLT, Int.reduceLE, Int.reduceEq, reduceCtorEq, List.length_cons, List.length_nil, Nat.reduceAdd, bigL, Nat.reduceLeDiff, ct0, ct1, ct2, ct3, beq_self_eq_true, g_len, ↓n_len, g_isinstance, ↓n_isinstance, g_min, ↓n_min, g_list, ↓n_list, g_range, ↓n_range, g_int, ↓n_int, g_str, ↓n_str, g_bool, ↓n_bool, g_tuple, ↓n_tuple, g_ValueError, ↓n_ValueError, g_MOST_STEPS, ↓n_MOST_STEPS, g_MOST_LOOKED, ↓n_MOST_LOOKED, g_WeaveError, ↓n_WeaveError, g_TooMany, ↓n_TooMany, g_BadStep, ↓n_BadStep, g_BadBox, ↓n_BadBox, g_Again, ↓n_Again, g_NotHeld, ↓n_NotHeld, g_NoTurn, ↓n_NoTurn, g_Waits, ↓n_Waits, g_Loom, ↓n_Loom, kp191, g_whole, ↓n_whole, kp118, g_is_step, ↓n_is_step, kp125, g_of_box, ↓n_of_box, kp132, g_need_row, ↓n_need_row, kp139, g_alone, ↓n_alone, kp202, g_walked, ↓n_walked, kp209, g_plain, ↓n_plain, kp216, g_strange, ↓n_strange, kp221, g_law_cell_at, ↓n_law_cell_at, kp228, g_law_number_by, ↓n_law_number_by, kp235, g_law_step_by, ↓n_law_step_by, kp242, g_law_cells, ↓n_law_cells, kp247, g_law_row_by, ↓n_law_row_by, kp252, g_law_can, ↓n_law_can, kp259, g_law_done, ↓n_law_done, kp266, g_law_end, ↓n_law_end, kp273, g_law_order_by, ↓n_law_order_by, kp280, g_law_all_plain, ↓n_law_all_plain, kp285, g_law_refused, ↓n_law_refused, kp292, g_law_wrong, ↓n_law_wrong, kp299, g_law_guards, ↓n_law_guards, kp306, g_law, ↓n_law, kp311, xk24, xk37, xk49, xk61, xk73, xk85, xk97, xk109, ↓xm_Waits_Waits, ↓xm_TooMany_TooMany, ↓xm_Again_TooMany, ↓xm_Again_Again, ↓xm_NotHeld_TooMany, ↓xm_NotHeld_Again, ↓xm_NotHeld_NotHeld, isi_none_tuple, isi_none_str, isi_none_int, isi_none_bool, isi_none_list, isi_bool_tuple, isi_bool_str, isi_bool_int, isi_bool_bool, isi_bool_list, isi_int_tuple, isi_int_str, isi_int_int, isi_int_bool, isi_int_list, isi_str_tuple, isi_str_str, isi_str_int, isi_str_bool, isi_str_list, isi_tup_tuple, isi_tup_str, isi_tup_int, isi_tup_bool, isi_tup_list, ↓bEwhole, ↓lEwhole0, uEwhole0, ↓gEwhole_bool, ↓gEwhole_int, ↓gEwhole_isinstance, ↓gEwhole_len, ↓gEwhole_str, ↓gEwhole_tuple, ↓gEwhole_whole, ↓bEof_box, ↓lEof_box0, uEof_box0, ↓bEneed_row, ↓lEneed_row0, uEneed_row0, ↓lEneed_row1, uEneed_row1, ↓lEneed_row2, uEneed_row2, ↓gEneed_row_BadBox, ↓gEneed_row_BadStep, ↓gEneed_row_MOST_STEPS, ↓gEneed_row_TooMany, ↓gEneed_row_is_step, ↓gEneed_row_len, ↓gEneed_row_of_box, eEneed_row_TooMany, eEneed_row_BadStep, eEneed_row_BadBox, ↓bELoom_init, ↓lELoom_init0, uELoom_init0, ↓lELoom_init1, uELoom_init1, ↓lELoom_init2, uELoom_init2, ↓lELoom_init3, uELoom_init3, ↓gELoom_init_len, ↓gELoom_init_list, ↓gELoom_init_need_row, ↓bELoom_over, ↓lELoom_over0, uELoom_over0, ↓lELoom_over1, uELoom_over1, ↓lELoom_over2, uELoom_over2, ↓gELoom_over_Again, ↓gELoom_over_NoTurn, ↓gELoom_over_NotHeld, ↓gELoom_over_Waits, ↓gELoom_over_len, eELoom_over_NoTurn, eELoom_over_Waits, eELoom_over_Again, eELoom_over_NotHeld, ↓bELoom_work, ↓lELoom_work0, uELoom_work0, ↓lELoom_work1, uELoom_work1, ↓lELoom_work2, uELoom_work2, ↓lELoom_work3, uELoom_work3, ↓bELoom_twin, ↓lELoom_twin0, uELoom_twin0, ↓lELoom_twin1, uELoom_twin1, ↓gELoom_twin_Loom, ↓gELoom_twin_list, ↓bEalone, ↓lEalone0, uEalone0, ↓lEalone1, uEalone1, ↓lEalone2, uEalone2, ↓gEalone_Loom, ↓bEwalked, ↓lEwalked0, uEwalked0, ↓lEwalked1, uEwalked1, ↓lEwalked2, uEwalked2, ↓lEwalked3, uEwalked3, ↓lEwalked4, uEwalked4, ↓lEwalked5, uEwalked5, ↓gEwalked_Loom, ↓gEwalked_Waits, ↓gEwalked_walked, eEwalked_Waits, ↓bEstrange, ↓lEstrange0, uEstrange0, ↓lEstrange1, uEstrange1, ↓lEstrange2, uEstrange2, ↓lEstrange3, uEstrange3, ↓lEstrange4, uEstrange4, ↓lEstrange5, uEstrange5, ↓lEstrange6, uEstrange6, ↓lEstrange7, uEstrange7, ↓lEstrange8, uEstrange8, ↓lEstrange9, uEstrange9, ↓lEstrange10, uEstrange10, ↓lEstrange11, uEstrange11, ↓lEstrange12, uEstrange12, ↓gEstrange_Loom, ↓gEstrange_MOST_LOOKED, ↓gEstrange_TooMany, ↓gEstrange_alone, ↓gEstrange_len, ↓gEstrange_plain, eEstrange_TooMany, ↓bElaw_cell_at, ↓lElaw_cell_at0, uElaw_cell_at0, ↓lElaw_cell_at1, uElaw_cell_at1, ↓gElaw_cell_at_len, ↓bElaw_number_by, ↓lElaw_number_by0, uElaw_number_by0, ↓bElaw_step_by, ↓lElaw_step_by0, uElaw_step_by0, ↓lElaw_step_by1, uElaw_step_by1, ↓lElaw_step_by2, uElaw_step_by2, ↓lElaw_step_by3, uElaw_step_by3, ↓gElaw_step_by_law_number_by, ↓gElaw_step_by_int, ↓bElaw_cells, ↓lElaw_cells0, uElaw_cells0, ↓lElaw_cells1, uElaw_cells1, ↓lElaw_cells2, uElaw_cells2, ↓lElaw_cells3, uElaw_cells3, ↓gElaw_cells_law_cell_at, ↓gElaw_cells_range, ↓bElaw_row_by, ↓lElaw_row_by0, uElaw_row_by0, ↓lElaw_row_by1, uElaw_row_by1, ↓lElaw_row_by2, uElaw_row_by2, ↓lElaw_row_by3, uElaw_row_by3, ↓lElaw_row_by4, uElaw_row_by4, ↓lElaw_row_by5, uElaw_row_by5, ↓lElaw_row_by6, uElaw_row_by6, ↓gElaw_row_by_law_step_by, ↓bElaw_can, ↓lElaw_can0, uElaw_can0, ↓lElaw_can1, uElaw_can1, ↓lElaw_can2, uElaw_can2, ↓lElaw_can3, uElaw_can3, ↓lElaw_can4, uElaw_can4, ↓gElaw_can_len, ↓bElaw_end, ↓lElaw_end0, uElaw_end0, ↓lElaw_end1, uElaw_end1, ↓lElaw_end2, uElaw_end2, ↓lElaw_end3, uElaw_end3, ↓lElaw_end4, uElaw_end4, ↓gElaw_end_law_can, ↓gElaw_end_law_done, ↓gElaw_end_bool, ↓gElaw_end_int, ↓gElaw_end_isinstance, ↓gElaw_end_len, ↓gElaw_end_list, ↓bElaw_order_by, ↓lElaw_order_by0, uElaw_order_by0, ↓lElaw_order_by1, uElaw_order_by1, ↓lElaw_order_by2, uElaw_order_by2, ↓lElaw_order_by3, uElaw_order_by3, ↓lElaw_order_by4, uElaw_order_by4, ↓lElaw_order_by5, uElaw_order_by5, ↓lElaw_order_by6, uElaw_order_by6, ↓lElaw_order_by7, uElaw_order_by7, ↓gElaw_order_by_law_can, ↓gElaw_order_by_law_done, ↓gElaw_order_by_int, ↓gElaw_order_by_len, ↓gElaw_order_by_list, ↓gElaw_order_by_range, ↓bElaw_all_plain, ↓lElaw_all_plain0, uElaw_all_plain0, ↓lElaw_all_plain1, uElaw_all_plain1, ↓lElaw_all_plain2, uElaw_all_plain2, ↓lElaw_all_plain3, uElaw_all_plain3, ↓lElaw_all_plain4, uElaw_all_plain4, ↓lElaw_all_plain5, uElaw_all_plain5, ↓lElaw_all_plain6, uElaw_all_plain6, ↓gElaw_all_plain_law_end, ↓gElaw_all_plain_law_order_by, ↓gElaw_all_plain_range, ↓bElaw_refused, ↓lElaw_refused0, uElaw_refused0, ↓lElaw_refused1, uElaw_refused1, ↓lElaw_refused2, uElaw_refused2, ↓gElaw_refused_Again, ↓gElaw_refused_NotHeld, ↓gElaw_refused_TooMany, ↓gElaw_refused_strange, eElaw_refused_TooMany, eElaw_refused_Again, eElaw_refused_NotHeld, ↓bElaw_wrong, ↓lElaw_wrong0, uElaw_wrong0, ↓lElaw_wrong1, uElaw_wrong1, ↓lElaw_wrong2, uElaw_wrong2, ↓bElaw_guards, ↓lElaw_guards0, uElaw_guards0, ↓lElaw_guards1, uElaw_guards1, ↓lElaw_guards2, uElaw_guards2, ↓lElaw_guards3, uElaw_guards3, ↓lElaw_guards4, uElaw_guards4, ↓lElaw_guards5, uElaw_guards5, ↓gElaw_guards_law_refused, ↓gElaw_guards_law_wrong, ↓gElaw_guards_range, ↓bElaw, ↓lElaw0, uElaw0, ↓lElaw1, uElaw1, ↓lElaw2, uElaw2, ↓lElaw3, uElaw3, ↓lElaw4, uElaw4, ↓lElaw5, uElaw5, ↓lElaw6, uElaw6, ↓lElaw7, uElaw7, ↓lElaw8, uElaw8, ↓lElaw9, uElaw9, ↓lElaw10, uElaw10, ↓lElaw11, uElaw11, ↓lElaw12, uElaw12, ↓lElaw13, uElaw13, ↓lElaw14, uElaw14, ↓lElaw15, uElaw15, ↓lElaw16, uElaw16, ↓gElaw_law_all_plain, ↓gElaw_law_cell_at, ↓gElaw_law_cells, ↓gElaw_law_end, ↓gElaw_law_guards, ↓gElaw_law_number_by, ↓gElaw_law_refused, ↓gElaw_law_row_by, ↓gElaw_isinstance, ↓gElaw_len, ↓gElaw_list, ↓gElaw_min, ↓gElaw_range, ↓gElaw_strange]⟩
    · clear fH fX fB nX nB hl ok
      rintro k σ H' hk ⟨R, rows, z1, z2, z3, ⟨fH, fX, fB, hl, ok⟩, rfl⟩ N' n1 n2 n3
      obtain ⟨hd, rfl⟩ : ∃ hd : Bool, k = (hv hd).toNat := by
        rcases (by omega : k = 0 ∨ k = 1) with rfl | rfl
        · exact ⟨false, rfl⟩
        · exact ⟨true, rfl⟩
      rw [show (0 : Int) + (((hv hd).toNat : Nat) : Int) = hv hd by cases hd <;> rfl]
      have at3 : [AVal.ref (R false), .ref (R true), .ref h2][(hv hd).toNat]? = some (.ref (R hd)) := by cases hd <;> rfl
      have hvn := hv_nn hd
      simp only [↓q_body, ↓q_cons, ↓q_asg, ↓v_bin, ↓v_name, uElaw_guards2, ↓v_intc, ↓q_aname, uElaw_guards3, ↓lElaw_guards2, ↓q_add, ↓lElaw_guards1, ↓q_mod]
      refine ⟨by omega, ?_⟩
      have b0 := Int.emod_nonneg sd (show hv hd + 2 ≠ 0 by omega)
      generalize sd % (hv hd + 2) = j at b0 ⊢
      rw [q_cnext]; simp only [↓q_cons, ↓q_asg, ↓v_bin, ↓v_cut, ↓v_sub_name, ↓v_name, ↓lElaw_guards0, ↓lElaw_guards2, ↓vO_none, ↓vO_some, ↓lElaw_guards3, ↓q_int, ↓v_list, ↓vs_tup, ↓v_tuple, ↓vs_sub, ↓v_sub_bin, ↓vs_const, ↓v_strc, ↓vs_nil, List.length_cons, List.length_nil, Nat.reduceAdd, bigL, Nat.reduceLeDiff, ↓lElaw_guards1, ↓v_intc, ↓q_mod, Int.reduceLT, ↓q_aname, uElaw_guards4, true_and]
      refine sb_list fH hvn at3 ?_
      have fR := hout_le _ _ (fX hd)
      refine cut_of fR (fun q hq => by cases hq) (fun q hq => by cases hq; omega) ?_
      rw [cut_map]
      refine new_of fun c1 H1 g1 _ _ f1 => ?_
      refine new_of fun c2 H2 g2 _ _ f2 => ?_
      have e1 : cutL none (some j) (rows hd) = (rows hd).take j.toNat := rfl
      have e2 : cutL (some j) none (rows hd) = (rows hd).drop j.toNat := rfl
      rw [e1] at f1
      obtain ⟨t, ht1, ht2⟩ : ∃ t : Stp, [AVal.str (Str.ofString "take"), .str (Str.ofString "free")][(sd % 2).toNat]? = some (.str t.w) ∧ (t = .take ∨ t = .free) := by
        rcases (by omega : sd % 2 = 0 ∨ sd % 2 = 1) with e | e <;> rw [e]
        · exact ⟨.take, rfl, .inl rfl⟩
        · exact ⟨.free, rfl, .inr rfl⟩
      have htv : AVal.tup [.str t.w] = t.v := by rcases ht2 with rfl | rfl <;> rfl
      have hta : t.at? = none := by rcases ht2 with rfl | rfl <;> rfl
      refine sb_list f2 (by omega) ht1 ?_
      refine new_of fun c3 H3 g3 _ _ f3 => ?_
      rw [htv] at f3
      refine b_cat ((g2.trans g3) _ _ f1) f3 (by have := hl hd; simp [bigL]; omega) (new_of fun c4 H4 g4 _ _ f4 => ?_)
      have g14 := ((g1.trans g2).trans g3).trans g4
      refine sb_list (g14 _ _ fH) hvn at3 ?_
      refine cut_of (g14 _ _ fR) (fun q hq => by cases hq; omega) (fun q hq => by cases hq) ?_
      rw [cut_map, e2]
      refine new_of fun c5 H5 g5 _ _ f5 => ?_
      refine b_cat (g5 _ _ f4) f5 (by have := hl hd; simp [bigL]; omega) (new_of fun c6 H6 g6 _ _ f6 => ?_)
      have f6 : H6 c6 = some (.list false ((((rows hd).take j.toNat ++ [t]) ++ (rows hd).drop j.toNat).map Stp.v)) := by rw [f6]; simp only [List.map_append]; rfl
      rw [q_cnext]; simp only [↓q_cons, ↓q_asg, ↓v_cut, ↓v_name, ↓lElaw_guards4, ↓vO_none, ↓vO_some, ↓v_intc, ↓q_int, ↓q_asub, ↓lElaw_guards0, ↓lElaw_guards2]
      refine cut_of f6 (fun q hq => by cases hq) (fun q hq => by cases hq; omega) ?_
      rw [cut_map]
      have e3 : ∀ l : List Stp, cutL none (some 5) l = l.take 5 := fun l => rfl
      rw [e3]
      refine new_of fun c7 H7 g7 n7 _ f7 => ?_
      have g17 := ((g14.trans g5).trans g6).trans g7
      have fH7 := g17 _ _ fH
      have n7D : c7 ≠ HD := fun z => by
        rw [z, ((g14.trans g5).trans g6) _ _ fH] at n7; cases n7
      refine st_list fH7 hvn (by simp; cases hd <;> decide) ?_
      have eS : hset H7 HD (.list false ([AVal.ref (R false), .ref (R true), .ref h2].set (hv hd).toNat (.ref c7))) HD = some (.list false [.ref (setB R hd c7 false), .ref (setB R hd c7 true), .ref h2]) := by rw [hs_same]; cases hd <;> rfl
      have eG : hout [HD] (hset H7 HD (.list false ([AVal.ref (R false), .ref (R true), .ref h2].set (hv hd).toNat (.ref c7)))) = hout [HD] H7 := hout_same ((Same.refl _ _).set (by simp))
      generalize hset H7 HD (.list false ([AVal.ref (R false), .ref (R true), .ref h2].set (hv hd).toNat (.ref c7))) = H8 at eS eG ⊢
      have F : Grow (hout [HD] H') (hout [HD] H8) := by rw [eG]; exact hout_up g17
      refine n1 _ _ ⟨setB R hd c7, setB rows hd ((((rows hd).take j.toNat ++ [t]) ++ (rows hd).drop j.toNat).take 5), _, _, _, ⟨eS, fun h => ?_, F _ _ fB, fun h => ?_, fun h t' ht' => ?_⟩, rfl⟩
      · by_cases e : h = hd
        · subst e; rw [setB_same, setB_same, eG]; exact hout_in (by simp [n7D]) f7
        · have e1 : setB R hd c7 h = R h := by unfold setB; rw [if_neg e]
          rw [e1, show setB rows hd ((((rows hd).take j.toNat ++ [t]) ++ (rows hd).drop j.toNat).take 5) h = rows h by unfold setB; rw [if_neg e]]
          exact F _ _ (fX h)
      · by_cases e : h = hd
        · subst e; rw [setB_same]; exact List.length_take_le _ _
        · rw [show setB rows hd ((((rows hd).take j.toNat ++ [t]) ++ (rows hd).drop j.toNat).take 5) h = rows h by unfold setB; rw [if_neg e]]
          exact hl h
      · by_cases e : h = hd
        · subst e
          rw [setB_same] at ht'
          rcases List.mem_append.mp (List.mem_of_mem_take ht') with z | z
          · rcases List.mem_append.mp z with z | z
            · exact ok h t' (List.mem_of_mem_take z)
            · cases List.mem_singleton.mp z; exact okS.non hta
          · exact ok h t' (List.mem_of_mem_drop z)
        · rw [show setB rows hd ((((rows hd).take j.toNat ++ [t]) ++ (rows hd).drop j.toNat).take 5) h = rows h by unfold setB; rw [if_neg e]] at ht'
          exact ok h t' ht'
    · rintro σ H' ⟨R, rows, z1, z2, z3, I, rfl⟩
      exact hN _ _ ⟨R, rows, z1, z2, z3, I, rfl⟩
  clear fH fX fB nX nB hl ok
  obtain ⟨R, rows, z1, z2, z3, ⟨fH, fX, fB, hl, ok⟩, rfl⟩ := hJ
  have fX := fun h => hout_le _ _ (fX h)
  have fB := hout_le _ _ fB
  simp only [↓q_cons, ↓q_asg, ↓v_calln, ↓vs_sub, ↓v_sub_const, ↓v_name, ↓lElaw_guards0, ↓v_intc, ↓vs_nil, ↓q_aname, uElaw_guards5, ↓gElaw_guards_law_wrong, ↓q_gref, kp299, ↓q_fref, true_and]
  refine sb_list fH (by decide) rfl ?_
  refine wrong_ wo (fX false) ?_
  rw [q_cnext]
  refine s_join (J := fun σ K => ∃ d : Option Bad, d = wr2 rows ∧ K = H' ∧ σ = Elaw_guards (some (.ref HD)) (some (.int sd)) (z1) (z2) (z3) (some (.str (strW d)))) (fun N hN hR => ?_) (fun σ K hJ => ?_)
  · simp only [↓q_if, ↓vt_cmp, ↓v_name, ↓lElaw_guards5, ↓q_c1, ↓v_strc, ↓q_seq, ↓q_cons, ↓q_asg, ↓v_calln, ↓gElaw_guards_law_wrong, ↓q_gref, kp299, ↓vs_sub, ↓v_sub_const, ↓lElaw_guards0, ↓v_intc, ↓vs_nil, ↓q_fref, ↓q_aname, uElaw_guards5, true_and, ↓q_nil]
    rw [sw_nil (fun x hx => wrS_kind _ _ _ hx)]
    cases e : wrS false (rows false) with
    | some x => exact hN _ _ ⟨some x, by unfold wr2; rw [e], rfl, rfl⟩
    | none =>
      rw [show (none : Option Bad).isNone = true from rfl, q_t]
      refine sb_list fH (by decide) rfl ?_
      refine wrong_ wo (fX true) ?_
      exact hN _ _ ⟨_, by unfold wr2; rw [e], rfl, rfl⟩
  obtain ⟨d, hd, rfl, rfl⟩ := hJ
  have hk : ∀ x, d = some x → x = .again ∨ x = .held := fun x hx => by
    rw [hx] at hd
    unfold wr2 at hd
    cases e : wrS false (rows false) with
    | some y => rw [e] at hd; cases hd; exact wrS_kind _ _ _ e
    | none => rw [e] at hd; exact wrS_kind _ _ _ hd.symm
  simp only [↓q_cons, ↓q_ret, ↓v_boolop, ↓q_bO, ↓v_cmp, ↓v_name, ↓lElaw_guards5, ↓q_c1, ↓v_strc, ↓q_seq, ↓q_bool, ↓q_retS, ↓q_cret, ↓q_rret, ↓q_b1, ↓v_calln, ↓gElaw_guards_law_refused, ↓q_gref, kp292, ↓vs_sub, ↓v_sub_const, ↓lElaw_guards0, ↓v_intc, ↓vs_nil, ↓q_fref, true_and]
  rw [sw_nil hk]
  cases e : d with
  | none => exact h _
  | some x =>
    rw [show (some x : Option Bad).isNone = false from rfl, q_f]
    refine sb_list fH (by decide) rfl ?_
    refine sb_list fH (by decide) rfl ?_
    refine sb_list fH (by decide) rfl ?_
    refine refused_wrong (A := R) (rr := fun _ => false) wo fX fB hl ok (by rw [← hd, e]) (hk x e) fun H2 g2 => ?_
    try simp only [↓q_seq, decide_true]
    exact h _
-- LAW AT 311
noncomputable def boxesBy (c : Int) (k : Nat) : List Int := (List.range k).map fun (i : Nat) => numberBy (c + 5 * (i : Int))
theorem boxesBy_succ (c : Int) (k : Nat) : boxesBy c (k + 1) = boxesBy c k ++ [numberBy (c + 5 * (k : Int))] := by
  unfold boxesBy; rw [List.range_succ, List.map_append]; rfl
theorem map_rep (k : Nat) (x : Bool) : List.replicate k (AVal.int (hv x)) = (List.replicate k x).map hvV := by rw [List.map_replicate]; rfl
set_option maxHeartbeats 16000000 in
theorem law_ok (wo : WOk (WL w b os)) {a : Addr} {xs : List Int} (hb : ∀ x ∈ xs, Builtin.Int.intBits x ≤ 2 ^ 20) (hlen : xs.length ≤ 63) :
    CallOk (WL w b os) 20 true (.ref 311) [.ref a] (H0 a xs) (fun av _ => av = .bool true) (fun _ _ => False) := by
  refine def_ok wo rfl (by kernel_rfl) rfl (by (repeat intro _); change _ = _; kernel_rfl) ?_
  have ha : H0 a xs a = some (.list true (xs.map .int)) := hs_same
  generalize H0 a xs = H at ha ⊢
  simp only [fnBody, fnPars, List.map, ↓bElaw, ↓q_cons, ↓q_asg, ↓v_calln, ↓gElaw_law_cell_at, ↓q_gref, kp228, ↓vs_name, ↓v_name, ↓lElaw0, ↓vs_const, ↓v_intc, ↓vs_nil, ↓q_fref, ↓q_aname, uElaw1, true_and]
  refine cell_at wo ha (by decide) ?_
  generalize cellAt xs 3 = sd
  rw [q_cnext]; simp only [↓q_cons, ↓q_asg, ↓v_bin, ↓v_intc, ↓v_calln, ↓gElaw_law_cell_at, ↓q_gref, kp228, ↓vs_name, ↓v_name, ↓lElaw0, ↓vs_const, ↓vs_nil, ↓q_fref, ↓q_aname, uElaw2, true_and]
  refine cell_at wo ha (by decide) ?_
  try simp only [↓q_mod, Int.reduceLT, ↓q_add, true_and]
  rw [q_cnext]
  refine s_join (J := fun σ' H' => ∃ m : Int, (0 ≤ m ∧ m ≤ 10) ∧ H' = H ∧ σ' = Elaw (some (.ref a)) (some (.int sd)) (some (.int m)) none none none none none none none none none none none none none none) (fun N hN hR => ?_) (fun σ' H' hJ => ?_)
  · simp only [↓q_if, ↓vt_cmp, ↓v_bin, ↓v_calln, ↓gElaw_law_cell_at, ↓q_gref, kp228, ↓vs_name, ↓v_name, ↓lElaw0, ↓vs_const, ↓v_intc, ↓vs_nil, ↓q_fref, ↓q_c1, ↓q_cons, ↓q_asg, ↓q_aname, uElaw2, true_and, ↓q_nil]
    refine cell_at wo ha (by decide) ?_
    try simp only [↓q_mod, Int.reduceLT, ↓q_eq, true_and]
    refine ifK_split (fun _ => ?_) fun _ => ?_
    · skip
      refine cell_at wo ha (by decide) ?_
      try simp only [↓q_div, Int.reduceLT, and_true, ↓q_mod, true_and]
      exact hN _ _ ⟨_, by omega, rfl, rfl⟩
    · exact hN _ _ ⟨_, by omega, rfl, rfl⟩
  obtain ⟨m, z0, rfl, rfl⟩ := hJ
  simp only [↓q_cons, ↓q_asg, ↓q_comp, ↓v_calln, ↓gElaw_range, ↓q_gty, ↓vs_name, ↓v_name, ↓lElaw2, ↓vs_nil, ↓q_frange, bigL, true_and, ↓q_aname, uElaw4]
  refine ty_range1 (by omega) ?_
  refine ⟨_, _, it_range, ?_⟩
  refine ⟨by simp [bigL]; omega, ?_⟩
  rw [show (m - 0).toNat = m.toNat by omega]
  refine comp_range (fun k acc K => K = H' ∧ acc = (boxesBy (cellAt xs 0 / 2) k).map .int) ?_ ?_ _ ⟨rfl, rfl⟩
  · rintro k acc K hk ⟨rfl, rfl⟩ M L m1 m2
    try simp only [↓q_ifs0, ↓q_t, ↓q_elt, ↓v_calln, uElaw3, ↓vs_bin, ↓v_bin, ↓vs_name, ↓v_name, ↓vs_const, ↓v_intc, ↓vs_nil, ↓lElaw3, ↓q_mul, ↓lElaw0, ↓gElaw_law_cell_at, ↓q_gref, kp228, ↓q_fref, true_and, ↓gElaw_law_number_by, kp235]
    refine cell_at wo ha (by decide) ?_
    try simp only [↓q_div, Int.reduceLT, and_true, ↓q_add, true_and]
    refine ⟨IntMulOk.of_left (by decide +kernel), ?_⟩
    refine number_by wo (Nat.le_trans (intBits_add_le (bits_div (by decide) (bits_cell hb _)) (intBits_le_64 (by omega) (by omega))) (by decide)) ?_
    refine m1 _ _ ⟨rfl, ?_⟩
    rw [boxesBy_succ, List.map_append, Int.zero_add]; rfl
  rintro acc K ⟨rfl, rfl⟩
  have hbl : (boxesBy (cellAt xs 0 / 2) m.toNat).length = m.toNat := by unfold boxesBy; simp
  generalize boxesBy (cellAt xs 0 / 2) m.toNat = bx at hbl ⊢
  refine new_of fun B H2 g2 nB _ fB => ?_
  have fa := g2 _ _ ha
  clear ha g2 nB
  rw [q_cnext]; simp only [↓q_cons, ↓q_asg, ↓v_list, ↓vs_bin, ↓v_bin, ↓v_calln, ↓gElaw_law_cell_at, ↓q_gref, kp228, ↓vs_name, ↓v_name, ↓lElaw0, ↓vs_const, ↓v_intc, ↓vs_nil, ↓q_fref, List.length_cons, List.length_nil, Nat.reduceAdd, bigL, Nat.reduceLeDiff, ↓q_aname, uElaw5, true_and]
  refine cell_at wo fa (by decide) ?_
  try simp only [↓q_mod, Int.reduceLT, true_and]
  refine cell_at wo fa (by decide) ?_
  try simp only [↓q_mod, Int.reduceLT, true_and]
  refine new_of fun Z H3 g3 nZ _ fZ => ?_
  have y0 : 0 ≤ cellAt xs 1 % 5 ∧ cellAt xs 1 % 5 ≤ 60 := by omega
  have y1 : 0 ≤ cellAt xs 2 % 5 ∧ cellAt xs 2 % 5 ≤ 60 := by omega
  have fZ2 : H3 Z = some (.list false [.int (bsel (cellAt xs 1 % 5) (cellAt xs 2 % 5) false), .int (bsel (cellAt xs 1 % 5) (cellAt xs 2 % 5) true)]) := fZ
  have yz : ∀ h, 0 ≤ bsel (cellAt xs 1 % 5) (cellAt xs 2 % 5) h ∧ bsel (cellAt xs 1 % 5) (cellAt xs 2 % 5) h ≤ 60 := fun h => by cases h; exact y0; exact y1
  generalize bsel (cellAt xs 1 % 5) (cellAt xs 2 % 5) = zs at fZ2 yz
  clear fZ y0 y1
  have set1 : ∀ (zs : Bool → Int) (h : Bool) (v : Int), (0 ≤ v ∧ v ≤ 60) → (∀ h, 0 ≤ zs h ∧ zs h ≤ 60) → ∀ h', 0 ≤ setB zs h v h' ∧ setB zs h v h' ≤ 60 := fun zs h v hv' hz h' => by
    unfold setB; split
    · exact hv'
    · exact hz h'
  rw [q_cnext]
  refine s_join (J := fun σ' H' => ∃ zs : Bool → Int, (∀ h, 0 ≤ zs h ∧ zs h ≤ 60) ∧ Grow H2 H' ∧ H' Z = some (.list false [.int (zs false), .int (zs true)]) ∧ σ' = Elaw (some (.ref a)) (some (.int sd)) (some (.int m)) none (some (.ref B)) (some (.ref Z)) none none none none none none none none none none none) (fun N hN hR => ?_) (fun σ' H' hJ => ?_)
  · simp only [↓q_if, ↓vt_cmp, ↓v_bin, ↓v_name, ↓lElaw1, ↓v_intc, ↓q_mod, Int.reduceLT, ↓q_c1, ↓q_eq, ↓q_cons, ↓q_asg, ↓q_asub, ↓lElaw5, ↓q_div, and_true, true_and, ↓q_nil]
    refine ifK_split (fun _ => ?_) fun _ => ?_
    · skip
      obtain ⟨h1, e1⟩ := hand_of (sd / 9)
      obtain ⟨h2, e2⟩ := hand_of (sd / 18)
      rw [e1]
      refine st_int2 fZ2 ?_
      rw [q_cnext]; simp only [↓q_cons, ↓q_asg, ↓v_intc, ↓q_asub, ↓v_name, ↓lElaw5, ↓v_bin, ↓lElaw1, ↓q_div, Int.reduceLT, and_true, ↓q_mod, true_and]
      rw [e2]
      refine st_int2 hs_same ?_
      exact hN _ _ ⟨_, set1 _ _ _ (by decide) (set1 _ _ _ (by decide) yz), (g3.set nZ).set nZ, hs_same, rfl⟩
    · exact hN _ _ ⟨zs, yz, g3, fZ2, rfl⟩
  clear fZ2 yz g3
  obtain ⟨zs, yz, g3, fZ2, rfl⟩ := hJ
  refine s_join (J := fun σ' H' => ∃ zs : Bool → Int, (∀ h, 0 ≤ zs h ∧ zs h ≤ 60) ∧ Grow H2 H' ∧ H' Z = some (.list false [.int (zs false), .int (zs true)]) ∧ σ' = Elaw (some (.ref a)) (some (.int sd)) (some (.int m)) none (some (.ref B)) (some (.ref Z)) none none none none none none none none none none none) (fun N hN hR => ?_) (fun σ' H' hJ => ?_)
  · simp only [↓q_if, ↓vt_cmp, ↓v_bin, ↓v_name, ↓lElaw1, ↓v_intc, ↓q_mod, Int.reduceLT, ↓q_c1, ↓q_eq, ↓q_cons, ↓q_asg, ↓q_div, and_true, ↓q_add, ↓q_asub, ↓lElaw5, true_and, ↓q_nil]
    refine ifK_split (fun _ => ?_) fun _ => ?_
    · skip
      obtain ⟨h1, e1⟩ := hand_of (sd / 9)
      rw [e1]
      refine st_int2 fZ2 ?_
      exact hN _ _ ⟨_, set1 _ _ _ (by omega) yz, g3.set nZ, hs_same, rfl⟩
    · exact hN _ _ ⟨zs, yz, g3, fZ2, rfl⟩
  clear fZ2 yz g3
  obtain ⟨zs, yz, g3, fZ2, rfl⟩ := hJ
  have fa := g3 _ _ fa
  have fB := g3 _ _ fB
  clear g3 nZ set1
  simp only [↓q_cons, ↓q_asg, ↓v_cmp, ↓v_bin, ↓v_calln, ↓gElaw_law_cell_at, ↓q_gref, kp228, ↓vs_name, ↓v_name, ↓lElaw0, ↓vs_const, ↓v_intc, ↓vs_nil, ↓q_fref, ↓q_c1, ↓q_aname, uElaw6, true_and]
  refine cell_at wo fa (by decide) ?_
  try simp only [↓q_mod, Int.reduceLT, ↓q_eq, true_and]
  generalize decide (cellAt xs 5 % 3 = 1) = kp
  rw [q_cnext]; simp only [↓q_cons, ↓q_asg, ↓v_list, ↓vs_const, ↓v_intc, ↓vs_bin, ↓v_bin, ↓v_calln, ↓gElaw_min, ↓q_gbi, ↓vs_sub, ↓v_sub_const, ↓v_name, ↓lElaw5, ↓vs_nil, ↓q_fmin, List.length_cons, List.length_nil, Nat.reduceAdd, bigL, Nat.reduceLeDiff, ↓q_aname, uElaw7, true_and]
  refine sb_list fZ2 (by decide) rfl ?_
  refine bi_min rfl ?_
  try simp only [↓q_add]
  have v0 := yz false
  have v1 := yz true
  have y2 : 7 ≤ 7 + min (zs false) 20 := by omega
  generalize 7 + min (zs false) 20 = stt at y2 ⊢
  refine new_of fun SS H4 g4 _ _ fSS => ?_
  have fa := g4 _ _ fa
  have fB := g4 _ _ fB
  have fZ2 := g4 _ _ fZ2
  have fS2 : H4 SS = some (.list false [.int (bsel 7 stt false), .int (bsel 7 stt true)]) := fSS
  clear g4 fSS
  rw [q_cnext]; simp only [↓q_cons, ↓q_asg, ↓q_comp, ↓v_calln, ↓gElaw_range, ↓q_gty, ↓vs_const, ↓v_intc, ↓vs_nil, ↓q_frange, bigL, true_and, ↓q_aname, uElaw9]
  refine ty_range1 (by decide) ?_
  refine ⟨_, _, it_range, ?_⟩
  refine ⟨by simp [bigL], ?_⟩
  rw [show ((2 : Int) - 0).toNat = 2 from rfl]
  refine comp_range (fun k acc K => ∃ (R : Bool → Addr) (rows : Bool → List Stp), Grow H4 K ∧ acc = ([AVal.ref (R false), AVal.ref (R true)]).take k ∧ ∀ h : Bool, (hv h).toNat < k → K (R h) = some (.list false ((rows h).map Stp.v)) ∧ (rows h).length ≤ 60 ∧ (∀ t ∈ rows h, okS m t) ∧ altS false (rows h) = true) ?_ ?_ _ ⟨fun _ => 0, fun _ => [], (fun _ _ e => e), rfl, fun h hh => absurd hh (Nat.not_lt_zero _)⟩
  · rintro k acc K hk ⟨R, rows, g, rfl, hR⟩ M L m1 m2
    obtain ⟨hd, rfl⟩ : ∃ hd : Bool, k = (hv hd).toNat := by
      rcases (by omega : k = 0 ∨ k = 1) with rfl | rfl
      · exact ⟨false, rfl⟩
      · exact ⟨true, rfl⟩
    rw [show (0 : Int) + (((hv hd).toNat : Nat) : Int) = hv hd by cases hd <;> rfl]
    try simp only [↓q_ifs0, ↓q_t, ↓q_elt, ↓v_calln, uElaw8, ↓vs_call, ↓vs_name, ↓v_name, ↓vs_sub, ↓v_sub_name, ↓vs_nil, ↓lElaw6, ↓lElaw2, ↓lElaw8, ↓lElaw5, ↓lElaw7, ↓lElaw0, ↓gElaw_law_cells, ↓q_gref, kp247, ↓q_fref, true_and, ↓gElaw_law_row_by, kp252]
    refine sb_int2 (g _ _ fS2) ?_
    refine sb_int2 (g _ _ fZ2) ?_
    refine cells_ wo (g _ _ fa) hb (by cases hd <;> simp [bsel]; omega) (yz hd) fun c0 cs0 K1 j1 fc0 hl0 hb0 => ?_
    refine row_by wo fc0 hb0 (by have := yz hd; omega) fun r row K2 j2 _ fr hl ok al => ?_
    have g' := j1.trans j2
    refine m1 _ _ ⟨setB R hd r, setB rows hd row, g.trans g', by cases hd <;> rfl, fun h hh => ?_⟩
    by_cases hx : h = hd
    · subst hx
      rw [setB_same, setB_same]
      exact ⟨fr, hl, ok, al⟩
    · have hn : setB R hd r h = R h ∧ setB rows hd row h = rows h := by unfold setB; rw [if_neg hx, if_neg hx]; exact ⟨rfl, rfl⟩
      rw [hn.1, hn.2]
      obtain ⟨e1, e2⟩ := hR h (by cases h <;> cases hd <;> first | exact absurd rfl hx | (simp [hv] at hh ⊢))
      exact ⟨g' _ _ e1, e2⟩
  rintro acc H5 ⟨R, rows, g5, rfl, hR⟩
  have hR := fun h => hR h (by cases h <;> decide)
  rw [show List.take 2 [AVal.ref (R false), AVal.ref (R true)] = [.ref (R false), .ref (R true)] from rfl]
  refine new_of fun RR H6 g6 _ _ fRR => ?_
  have g46 := g5.trans g6
  have fa := g46 _ _ fa
  have fB := g46 _ _ fB
  have fZ2 := g46 _ _ fZ2
  have fS2 := g46 _ _ fS2
  have fX := fun h => g6 _ _ (hR h).1
  have hrl : ∀ h, (rows h).length ≤ 60 := fun h => (hR h).2.1
  have okr : ∀ h, ∀ t ∈ rows h, okS bx.length t := fun h t ht k hk => by have := (hR h).2.2.1 t ht k hk; omega
  have al := fun h => (hR h).2.2.2
  clear hR g5 g6 g46
  rw [q_cnext]; simp only [↓q_cons, ↓q_asg, ↓v_cut, ↓v_name, ↓lElaw0, ↓vO_some, ↓v_bin, ↓v_sub_const, ↓lElaw7, ↓v_intc, ↓v_calln, ↓gElaw_min, ↓q_gbi, ↓vs_sub, ↓lElaw5, ↓vs_const, ↓vs_nil, ↓q_fmin, ↓vO_none, ↓q_aname, uElaw10, true_and]
  refine sb_list fS2 (by decide) rfl ?_
  refine sb_list fZ2 (by decide) rfl ?_
  refine bi_min rfl ?_
  try simp only [↓q_add, ↓q_int]
  refine cut_of fa (fun k hk => by cases hk; show 0 ≤ stt + min (zs true) 20; omega) (fun k hk => by cases hk) ?_
  rw [cut_ints]
  refine new_of fun c H7 g7 _ _ fc => ?_
  have hcl : (cutL (some (bsel 7 stt true + min (zs true) 20)) none xs).length ≤ 63 := Nat.le_trans cut_le hlen
  generalize cutL (some (bsel 7 stt true + min (zs true) 20)) none xs = cs at hcl fc ⊢
  have fa := g7 _ _ fa
  have fB := g7 _ _ fB
  have fRR := g7 _ _ fRR
  have fX := fun h => g7 _ _ (fX h)
  clear g7 fZ2 fS2
  rw [q_cnext]; simp only [↓q_cons, ↓q_asg, ↓v_list, ↓vs_call, ↓v_calln, ↓gElaw_len, ↓q_gbi, ↓vs_sub, ↓v_sub_const, ↓v_name, ↓lElaw9, ↓v_intc, ↓vs_nil, ↓q_flen, List.length_cons, List.length_nil, Nat.reduceAdd, bigL, Nat.reduceLeDiff, ↓q_aname, uElaw5, true_and]
  refine sb_list fRR (by decide) rfl ?_
  refine bi_len (seq_ref (fX false)) ?_
  rw [List.length_map]
  refine sb_list fRR (by decide) rfl ?_
  refine bi_len (seq_ref (fX true)) ?_
  rw [List.length_map]
  refine new_of fun Z2 H8 g8 _ _ fZ => ?_
  have fa := g8 _ _ fa
  have fB := g8 _ _ fB
  have fRR := g8 _ _ fRR
  have fX := fun h => g8 _ _ (fX h)
  have fc := g8 _ _ fc
  clear g8
  rw [q_cnext]; simp only [↓q_cons, ↓q_asg, ↓v_list, ↓vs_call, ↓v_calln, ↓gElaw_list, ↓q_gty, ↓vs_sub, ↓v_sub_const, ↓v_name, ↓lElaw9, ↓v_intc, ↓vs_nil, ↓q_flist, ↓vs_name, ↓lElaw4, List.length_cons, List.length_nil, Nat.reduceAdd, bigL, Nat.reduceLeDiff, ↓q_aname, uElaw11, true_and]
  refine sb_list fRR (by decide) rfl ?_
  refine ty_list (fX false) (new_of fun L1 K1 j1 _ _ f1 => ?_)
  refine sb_list (j1 _ _ fRR) (by decide) rfl ?_
  refine ty_list (j1 _ _ (fX true)) (new_of fun L2 K2 j2 _ _ f2 => ?_)
  refine ty_list ((j1.trans j2) _ _ fB) (new_of fun L3 K3 j3 _ _ f3 => ?_)
  have f1 := (j2.trans j3) _ _ f1
  have f2 := j3 _ _ f2
  refine new_of fun HD K4 j4 nHD _ fHD => ?_
  have nX : ∀ h, bsel L1 L2 h ≠ HD := fun h => by cases h; exact ne_new f1 nHD; exact ne_new f2 nHD
  have nB : L3 ≠ HD := ne_new f3 nHD
  have j14 := ((j1.trans j2).trans j3).trans j4
  have f1 := j4 _ _ f1
  have f2 := j4 _ _ f2
  have f3 := j4 _ _ f3
  have fa := j14 _ _ fa
  have fB := j14 _ _ fB
  have fRR := j14 _ _ fRR
  have fX := fun h => j14 _ _ (fX h)
  have fc := j14 _ _ fc
  have fZ := j14 _ _ fZ
  have fA : ∀ h, K4 (bsel L1 L2 h) = some (.list false ((rows h).map Stp.v)) := fun h => by cases h; exact f1; exact f2
  have fHD : K4 HD = some (.list false [.ref (bsel L1 L2 false), .ref (bsel L1 L2 true), .ref L3]) := fHD
  clear j1 j2 j3 j4 j14 nHD
  rw [q_cnext]
  have long : (5 < (rows false).length ∨ 5 < (rows true).length) → ∀ (N : PV), N (.bool true) K4 → True := fun _ _ _ => trivial
  refine s_join (J := fun σ' K => (∀ h, (rows h).length ≤ 5) ∧ K = K4 ∧ σ' = Elaw (some (.ref a)) (some (.int sd)) (some (.int m)) none (some (.ref B)) (some (.ref Z2)) (some (.bool kp)) (some (.ref SS)) none (some (.ref RR)) (some (.ref c)) (some (.ref HD)) none none none none none) (fun N hN hR => ?_) (fun σ' K hJ => ?_)
  · simp only [↓q_if, ↓vt_boolop, ↓q_tBO, ↓vt_cmp, ↓v_sub_const, ↓v_name, ↓lElaw5, ↓v_intc, ↓q_c1, ↓q_t, ↓q_cons, ↓q_ret, ↓v_cmp, ↓v_calln, ↓gElaw_law_refused, ↓q_gref, kp292, ↓vs_sub, ↓lElaw11, ↓vs_nil, ↓q_fref, ↓v_strc, ↓q_retS, ↓q_cret, true_and, ↓q_tB0', ↓q_f, ↓q_nil]
    refine sb_list fZ (by decide) rfl ?_
    try simp only [↓q_gt]
    refine ifK_dec (fun h0 => ?_) fun h0 => ?_
    · skip
      refine sb_list fHD (by decide) rfl ?_
      refine sb_list fHD (by decide) rfl ?_
      refine sb_list fHD (by decide) rfl ?_
      refine refused_long (A := bsel L1 L2) (rr := fun _ => false) wo fA f3 hrl okr (.inl (by omega)) fun K5 => ?_
      try simp only [↓q_seq, decide_true]
      refine hR _ _ _ ?_
      all_goals first | rfl | trivial
    · refine sb_list fZ (by decide) rfl ?_
      try simp only [↓q_gt]
      refine ifK_dec (fun h1 => ?_) fun h1 => ?_
      · skip
        refine sb_list fHD (by decide) rfl ?_
        refine sb_list fHD (by decide) rfl ?_
        refine sb_list fHD (by decide) rfl ?_
        refine refused_long (A := bsel L1 L2) (rr := fun _ => false) wo fA f3 hrl okr (.inr (by omega)) fun K5 => ?_
        try simp only [↓q_seq, decide_true]
        refine hR _ _ _ ?_
        all_goals first | rfl | trivial
      · exact hN _ _ ⟨(fun h => by cases h <;> omega), rfl, rfl⟩
  obtain ⟨hl5, rfl, rfl⟩ := hJ
  refine s_join (J := fun σ' K' => K' = K ∧ σ' = Elaw (some (.ref a)) (some (.int sd)) (some (.int m)) none (some (.ref B)) (some (.ref Z2)) (some (.bool kp)) (some (.ref SS)) none (some (.ref RR)) (some (.ref c)) (some (.ref HD)) none none none none none) (fun N hN hR => ?_) (fun σ' K' hJ => ?_)
  · simp only [↓q_if, ↓vt_cmp, ↓v_bin, ↓v_name, ↓lElaw1, ↓v_intc, ↓q_mod, Int.reduceLT, ↓q_c1, ↓q_eq, ↓q_cons, ↓q_ret, ↓v_calln, ↓gElaw_law_guards, ↓q_gref, kp306, ↓vs_name, ↓lElaw11, ↓vs_call, ↓gElaw_law_cell_at, kp228, ↓lElaw0, ↓vs_const, ↓vs_nil, ↓q_fref, true_and, ↓q_nil]
    refine ifK_split (fun _ => ?_) fun _ => ?_
    · skip
      refine cell_at wo fa (by decide) ?_
      refine guards_ (R := bsel L1 L2) (rows := rows) wo fHD fA f3 nX nB hl5 okr fun K5 => ?_
      try simp only [↓q_retS, ↓q_cret]
      refine hR _ _ _ ?_
      all_goals first | rfl | trivial
    · exact hN _ _ ⟨rfl, rfl⟩
  obtain ⟨rfl, rfl⟩ := hJ
  refine s_join (J := fun σ' K => ∃ fv : AVal, Grow K' K ∧ ((fv = .none ∧ ∀ ord s, runS rows ord (St.new bx) = (s, none) → (∀ h, s.pl h = (rows h).length) → inK rows bx s = true) ∨ ∃ ord s O, fv = .ref O ∧ runS rows ord (St.new bx) = (s, none) ∧ (∀ h, s.pl h = (rows h).length) ∧ inK rows bx s = false ∧ K O = some (.list false (ord.map hvV))) ∧ σ' = Elaw (some (.ref a)) (some (.int sd)) (some (.int m)) none (some (.ref B)) (some (.ref Z2)) (some (.bool kp)) (some (.ref SS)) none (some (.ref RR)) (some (.ref c)) (some (.ref HD)) (some fv) none none none none) (fun N hN hR => ?_) (fun σ' K hJ => ?_)
  · simp only [↓q_asg, ↓v_calln, ↓gElaw_strange, ↓q_gref, kp221, ↓vs_sub, ↓v_sub_const, ↓v_name, ↓lElaw11, ↓v_intc, ↓vs_nil, ↓q_fref, ↓q_aname, uElaw12, true_and]
    refine sb_list fHD (by decide) rfl ?_
    refine sb_list fHD (by decide) rfl ?_
    refine sb_list fHD (by decide) rfl ?_
    refine strange_ (A := bsel L1 L2) (rr := fun _ => false) (rows := rows) wo fA f3 hl5 okr al (fun hk K5 j5 => ?_) fun ord s O K5 hr hd hk j5 fO _ => ?_
    · skip
      exact hN _ _ ⟨_, j5, .inl ⟨rfl, hk⟩, rfl⟩
    · skip
      exact hN _ _ ⟨_, j5, .inr ⟨ord, s, O, rfl, hr, hd, hk, fO⟩, rfl⟩
  obtain ⟨fv, j, hfv, rfl⟩ := hJ
  have fB := j _ _ fB
  have fRR := j _ _ fRR
  have fX := fun h => j _ _ (fX h)
  have fc := j _ _ fc
  have fZ := j _ _ fZ
  have fHD := j _ _ fHD
  have f1 := j _ _ f1
  have f2 := j _ _ f2
  have f3 := j _ _ f3
  clear j fa fA nX nB
  simp only [↓q_cons, ↓q_if, ↓vt_boolop, ↓q_tBO, ↓vt_cmp, ↓v_sub_const, ↓v_name, ↓lElaw11, ↓v_intc, ↓q_c1, ↓lElaw9, ↓q_t, ↓q_ret, ↓v_boolc, ↓q_retS, ↓q_cret, ↓q_rret, ↓lElaw4, ↓q_tB0', ↓q_f, ↓q_nil]
  refine sb_list fHD (by decide) rfl ?_
  refine sb_list fRR (by decide) rfl ?_
  refine rows_ne f1 (fX false) ?_
  try simp only [↓q_f]
  refine sb_list fHD (by decide) rfl ?_
  refine sb_list fRR (by decide) rfl ?_
  refine rows_ne f2 (fX true) ?_
  try simp only [↓q_f]
  refine sb_list fHD (by decide) rfl ?_
  refine ints_ne f3 fB ?_
  try simp only [↓q_f]
  clear fHD f1 f2 f3
  rw [q_cnext]; simp only [↓q_cons, ↓q_asg, ↓v_bin, ↓v_list, ↓vs_const, ↓v_intc, ↓vs_nil, List.length_cons, List.length_nil, Nat.reduceAdd, bigL, Nat.reduceLeDiff, ↓v_sub_const, ↓v_name, ↓lElaw5, ↓q_aname, uElaw13, true_and]
  refine new_of fun c1 K1 j1 _ _ fc1 => ?_
  refine sb_list (j1 _ _ fZ) (by decide) rfl ?_
  have l0 := hl5 false
  have l1 := hl5 true
  refine b_rep fc1 (by omega) (new_of fun F0 K2 j2 _ _ fF0 => ?_)
  have j12 := j1.trans j2
  rw [q_cnext]; simp only [↓q_cons, ↓q_asg, ↓v_bin, ↓v_list, ↓vs_const, ↓v_intc, ↓vs_nil, List.length_cons, List.length_nil, Nat.reduceAdd, bigL, Nat.reduceLeDiff, ↓v_sub_const, ↓v_name, ↓lElaw5, ↓q_aname, uElaw14, true_and]
  refine new_of fun c2 K3 j3 _ _ fc2 => ?_
  refine sb_list ((j12.trans j3) _ _ fZ) (by decide) rfl ?_
  refine b_rep fc2 (by omega) (new_of fun F1 K4 j4 _ _ fF1 => ?_)
  have j14 := (j12.trans j3).trans j4
  have fF0 : K4 F0 = some (.list false ((List.replicate (rows false).length false).map hvV)) := by rw [(j3.trans j4) _ _ fF0, ← map_rep]; rfl
  have fF1 : K4 F1 = some (.list false ((List.replicate (rows true).length true).map hvV)) := by rw [fF1, ← map_rep]; rfl
  have fB := j14 _ _ fB
  have fRR := j14 _ _ fRR
  have fX := fun h => j14 _ _ (fX h)
  have fc := j14 _ _ fc
  have hfv : (fv = .none ∧ ∀ ord s, runS rows ord (St.new bx) = (s, none) → (∀ h, s.pl h = (rows h).length) → inK rows bx s = true) ∨ ∃ ord s O, fv = .ref O ∧ runS rows ord (St.new bx) = (s, none) ∧ (∀ h, s.pl h = (rows h).length) ∧ inK rows bx s = false ∧ K4 O = some (.list false (ord.map hvV)) := by
    rcases hfv with z | ⟨ord, s, O, e1, e2, e3, e4, e5⟩
    · exact .inl z
    · exact .inr ⟨ord, s, O, e1, e2, e3, e4, j14 _ _ e5⟩
  clear j1 j2 j3 j4 j12 j14 fc1 fc2 fZ
  rw [q_cnext]; simp only [↓q_cons, ↓q_asg, ↓v_list, ↓vs_call, ↓v_calln, ↓gElaw_law_end, ↓q_gref, kp273, ↓vs_name, ↓v_name, ↓lElaw4, ↓lElaw9, ↓vs_bin, ↓v_bin, ↓lElaw13, ↓lElaw14, ↓vs_nil, ↓q_fref, List.length_cons, List.length_nil, Nat.reduceAdd, bigL, Nat.reduceLeDiff, ↓q_aname, uElaw15, true_and]
  refine b_cat fF0 fF1 (by simp [bigL]; omega) (new_of fun O1 K5 j5 _ _ fO1 => ?_)
  rw [← List.map_append] at fO1
  refine end_ (ord := serO rows false) wo (j5 _ _ fB) (j5 _ _ fRR) (fun h => j5 _ _ (fX h)) fO1 okr al fun v0 K6 j6 k0 => ?_
  have j46 := j5.trans j6
  refine b_cat (j46 _ _ fF1) (j46 _ _ fF0) (by simp [bigL]; omega) (new_of fun O2 K7 j7 _ _ fO2 => ?_)
  rw [← List.map_append] at fO2
  have j47 := j46.trans j7
  refine end_ (ord := serO rows true) wo (j47 _ _ fB) (j47 _ _ fRR) (fun h => j47 _ _ (fX h)) fO2 okr al fun v1 K8 j8 k1 => ?_
  refine new_of fun DU K9 j9 _ _ fDU => ?_
  rw [endC_ser] at k0 k1
  have k0 := k0.grow ((j7.trans j8).trans j9)
  have k1 := k1.grow j9
  have j := (j47.trans j8).trans j9
  rw [q_cnext]
  rcases hfv with ⟨rfl, hK⟩ | ⟨ord, s, O, rfl, hr, hd, hk, fO⟩
  · simp only [↓q_cons, ↓q_if, ↓vt_cmp, ↓v_name, ↓lElaw12, ↓q_c1, ↓v_none, ↓q_is_n, ↓q_t, ↓q_ret, ↓v_calln, ↓gElaw_law_all_plain, ↓q_gref, kp285, ↓vs_name, ↓lElaw10, ↓lElaw4, ↓lElaw9, ↓lElaw15, ↓vs_nil, ↓q_fref, true_and]
    refine all_plain wo (j _ _ fB) (j _ _ fRR) (fun h => j _ _ (fX h)) (j _ _ fc) hcl hrl okr al fDU k0 k1 hK fun KA jA => ?_
    all_goals first | rfl | trivial
  · simp only [↓q_cons, ↓q_if, ↓vt_cmp, ↓v_name, ↓lElaw12, ↓q_c1, ↓v_none, ↓q_is_r, ↓q_f, ↓q_nil]
    rw [q_cnext]; simp only [↓q_cons, ↓q_if, ↓q_not, ↓vt_call, ↓v_calln, ↓gElaw_isinstance, ↓q_gbi, ↓vs_name, ↓v_name, ↓lElaw12, ↓gElaw_list, ↓vs_nil, ↓q_fisinstance, ↓q_isi, ↓q_bool, ↓q_ifn, ↓q_nil, ↓q_ret, ↓v_boolc, ↓q_retS, ↓q_cret, ↓q_rret, true_and]
    rw [isi_ty kall (ty_ref (j _ _ fO)) (by decide), show subT "list" "list" = true from rfl]
    try simp only [↓q_t]
    rw [q_cnext]; simp only [↓q_cons, ↓q_asg, ↓v_calln, ↓gElaw_law_end, ↓q_gref, kp273, ↓vs_name, ↓v_name, ↓lElaw4, ↓lElaw9, ↓lElaw12, ↓vs_nil, ↓q_fref, ↓q_aname, uElaw16, true_and]
    refine end_ wo (j _ _ fB) (j _ _ fRR) (fun h => j _ _ (fX h)) (j _ _ fO) okr al fun v KA jA kv => ?_
    rw [endC_run hr hd] at kv
    obtain ⟨B', N', rfl, hB', hN'⟩ := kv
    unfold inK at hk
    rw [Bool.or_eq_false_iff] at hk
    rw [q_cnext]; simp only [↓q_cons, ↓q_ret, ↓v_boolop, ↓q_bA, ↓v_cmp, ↓v_name, ↓lElaw16, ↓q_c1, ↓v_none, ↓q_isn_t, ↓q_bool, ↓q_t, ↓v_sub_const, ↓lElaw15, ↓v_intc, ↓q_b1, ↓q_retS, ↓q_cret, ↓q_rret]
    refine sb_list (jA _ _ fDU) (by decide) rfl ?_
    rw [known_ne hB' hN' (k0.grow jA), hk.1]
    try simp only [↓q_ifn, ↓q_f]
    refine sb_list (jA _ _ fDU) (by decide) rfl ?_
    rw [known_ne hB' hN' (k1.grow jA), hk.2]
    all_goals first | rfl | trivial
end
end Mine

open PySem PySem.Calls PyProof.Rows PySem.W
set_option maxHeartbeats 8000000 in
theorem PySem.Challenge.cw_uf050035_12_holds : PySem.Challenge.rw_uf050035_12.Holds := by
  refine Mine.h_open (by rfl) (by rfl) (by rfl) ?_
  intro w s₀ s₁ mg mb G Y fa o pm cd doc dV kV ho hd hcd hD hmg hg args vals as hpre hlay hrd hwl hlo
  have KX := kIn_of Y
  refine Ground.open G ?_
  intro T B D TE TW
  have hfa := Mine.law_addr KX T (x := Str.ofString "law") (f := 311) (by kernel_rfl) hmg
  subst hfa
  clear Y hd hcd hD ho hmg
  wrow_args hpre hlay hrd hwl hlo
  rename_i xs _ _ hlay1 _ _ _ _ a vs _ hL _ _ _ hI _ h63 _
  exact Mine.law_end hg hL hI (by omega) (fun _ => rfl) (by kernel_rfl) (Mine.law_ok (Mine.wok KX T) (fun x hx => PyData.bits_item_of_ints hlay1 hx) (by omega))

