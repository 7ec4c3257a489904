import PyProof.Rows.All
import Wide.All
import OpenK.AllK
import Wide.FinOn
import PySem.Challenge.RW_pq0299_01
open PySem PySem.W PyProof.Rows
set_option Elab.async false
set_option maxRecDepth 100000
set_option maxHeartbeats 8000000
set_option linter.all false
set_option genSizeOf false
set_option genSizeOfSpec false
set_option genInjectivity false
set_option bootstrap.genMatcherCode false
set_option tactic.hygienic false
namespace Mine
inductive BF where
 | len | ord | abs | min | sum | all | list | range
noncomputable def BF.val : BF → Value
 | .len => .builtin "len"
 | .ord => .builtin "ord"
 | .abs => .builtin "abs"
 | .min => .builtin "min"
 | .sum => .builtin "sum"
 | .all => .builtin "all"
 | .list => .type "list"
 | .range => .type "range"
inductive SV where
 | none | bool (b : Bool) | int (i : Int) | str (s : Str)
 | top (v : Value)
 | obj (i : Nat)
 | ins (C : Addr) (i : Nat)
 | imm (C : Addr) (fs : List (Str × SV))
 | tup (vs : List SV)
 | lst (vs : List SV)
 | dct (es : List (Int × SV))
 | sdct (es : List (Str × SV))
 | rng (n : Int)
 | bf (f : BF)
 | exc (sym : Str)
inductive SO where
 | seq (vs : List SV)
 | fields (fs : List (Str × SV))
 | idict (es : List (Int × SV)) (n : Nat)
structure SS where
 loc : List (Str × SV)
 H : List SO
inductive Out where
 | next | brk | cont | ret (v : SV)
structure FI where
 params : List Str
 dfl : List (Nat × List SV)
 body : List Stmt
 sc : Scope
structure Loop where
 σ : Type
 st : σ → SS
 P : List SV → σ → Prop
 ms : σ → Nat
 gc : Bool := false
noncomputable abbrev Spec := List SV → (SV → Prop) → Prop → Prop
structure Tab where
 glob : Str → Option SV
 fn : Addr → Option FI
 cls : Addr → Option Addr
 meth : Addr → Str → Option Addr
 attr : Addr → Str → Bool
 sets : Addr → Str → Bool
 spec : Addr → Option (Nat × Spec)
 cells : List Nat
 tr : Bool
structure FC where
 sc : Scope
 d : Nat
 lp : Nat → List (Str × SV) → Option Loop
 Er : Prop
 tr : Bool
noncomputable abbrev KV := SV → SS → Prop
noncomputable abbrev KO := Out → SS → Prop
structure Bd where
 ev : FC → Expr → SS → (SV → SS → Prop) → Prop
 ts : FC → Expr → SS → (Bool → SS → Prop) → Prop
 ex : FC → Stmt → SS → (Out → SS → Prop) → Prop
set_option backward.match.sparseCases false in
noncomputable def natsEq : List Nat → List Nat → Bool
 | [], [] => true
 | a :: r, b :: t => match Nat.beq a b with
  | true => natsEq r t
  | false => false
 | _, _ => false
noncomputable def sEq (a b : Str) : Bool := natsEq a.cps.toList b.cps.toList
noncomputable def lk {α : Type} : List (Str × α) → Str → Option α
 | [], _ => none
 | (y, v) :: r, x => match sEq y x with
  | true => some v
  | false => lk r x
noncomputable def lset {α : Type} : List (Str × α) → Str → α → List (Str × α)
 | [], x, v => [(x, v)]
 | (y, u) :: r, x, v => match sEq y x with
  | true => (y, v) :: r
  | false => (y, u) :: lset r x v
noncomputable def ldel {α : Type} : List (Str × α) → Str → List (Str × α)
 | [], _ => []
 | (y, u) :: r, x => match sEq y x with
  | true => ldel r x
  | false => (y, u) :: ldel r x
noncomputable def memN : List Nat → Nat → Bool
 | [], _ => false
 | a :: r, x => match Nat.beq a x with
  | true => true
  | false => memN r x
noncomputable def BR (b : Bool) (p q : Prop) : Prop := @Bool.rec (fun _ => Prop) q p b
noncomputable def OM {α : Type} (o : Option α) (k : α → Prop) : Prop := @Option.rec α (fun _ => Prop) False k o
theorem zaI {b : Bool} {p q : Prop} (h1 : b = true → p) (h2 : b = false → q) : BR b p q := by
 cases b
 ·exact h2 rfl
 ·exact h1 rfl
theorem zjH {b : Bool} {p q : Prop} (h : BR b p q) : (b = true → p) ∧ (b = false → q) := by
 cases b
 ·exact ⟨fun e => (nomatch e), fun _ => h⟩
 ·exact ⟨fun _ => h, fun e => (nomatch e)⟩
theorem zaE {α : Type} {o : Option α} {k : α → Prop} {a : α} (e : o = some a) (h : k a) : OM o k := by subst e; exact h
noncomputable def CK (b : Bool) (p : Prop) : Prop := @Bool.rec (fun _ => Prop) False p b
theorem zaB {b : Bool} {p : Prop} (e : b = true) (h : p) : CK b p := by subst e; exact h
theorem zjG {b : Bool} {p : Prop} (h : CK b p) : b = true ∧ p := by
 cases b
 ·exact h.elim
 ·exact ⟨rfl, h⟩
theorem zdS {α : Type} {o : Option α} {k : α → Prop} {P : Prop} (h : OM o k) (f : ∀ a, o = some a → k a → P) : P := match o, h, f with
 | some a, h, f => f a rfl h
theorem OM_e {α : Type} {o : Option α} {k : α → Prop} {P : Prop} (f : ∀ a, o = some a → k a → P) (h : OM o k) : P := zdS h f
theorem CK_l {b : Bool} {p : Prop} (h : CK b p) : b = true := (zjG h).1
theorem CK_r {b : Bool} {p : Prop} (h : CK b p) : p := (zjG h).2
theorem BR_l {b : Bool} {p q : Prop} (h : BR b p q) : b = true → p := (zjH h).1
theorem BR_r {b : Bool} {p q : Prop} (h : BR b p q) : b = false → q := (zjH h).2
noncomputable def ltB (a b : Int) : Bool := decide (a < b)
noncomputable def leB (a b : Int) : Bool := decide (a ≤ b)
noncomputable def eqB (a b : Int) : Bool := decide (a = b)
noncomputable def eqS (a b : Str) : Bool := sEq a b
set_option backward.match.sparseCases false in
noncomputable def intO : SV → Option Int
 | .int k => some k
 | _ => none
set_option backward.match.sparseCases false in
noncomputable def strO : SV → Option Str
 | .str k => some k
 | _ => none
noncomputable def eqLI : List SV → List SV → Option Bool
 | [] => fun ws => some ws.isEmpty
 | a :: r => fun ws => match ws with
  | [] => some false
  | b :: t => (intO a).bind fun x => (intO b).bind fun y => (eqLI r t).map (eqB x y && ·)
set_option backward.match.sparseCases false in
noncomputable def seqOf (st : SS) : SV → Option (List SV)
 | .lst vs => some vs
 | .tup vs => some vs
 | .obj i => match st.H[i]? with
  | some (.seq vs) => some vs
  | _ => none
 | _ => none
noncomputable def byVal : Nat → SV → Bool
 | _, .obj _ => false
 | _, .ins _ _ => false
 | n + 1, .tup vs => allV (byVal n) vs
 | 0, .tup _ => false
 | _, _ => true
where allV (p : SV → Bool) : List SV → Bool
 | [] => true
 | v :: r => match p v with
  | true => allV p r
  | false => false
set_option backward.match.sparseCases false in
noncomputable def lstOf (st : SS) : SV → Option (List SV)
 | .lst vs => some vs
 | .obj i => match st.H[i]? with
  | some (.seq vs) => some vs
  | _ => none
 | _ => none
set_option backward.match.sparseCases false in
noncomputable def plainS : SV → Bool
 | .top _ => false
 | .bf _ => false
 | _ => true
set_option backward.match.sparseCases false in
noncomputable def dictOfS (st : SS) : SV → Option (List (Int × SV))
 | .dct es => some es
 | .obj i => match st.H[i]? with
  | some (.idict es _) => some es
  | _ => none
 | _ => none
noncomputable def ilk : List (Int × SV) → Int → Option SV
 | [], _ => none
 | (k, v) :: r, x => match eqB k x with
  | true => some v
  | false => ilk r x
noncomputable def iset : List (Int × SV) → Int → SV → List (Int × SV)
 | [], x, v => [(x, v)]
 | (k, u) :: r, x, v => match eqB k x with
  | true => (k, v) :: r
  | false => (k, u) :: iset r x v
set_option backward.match.sparseCases false in
noncomputable def fieldsOf (st : SS) : SV → Option (Addr × List (Str × SV))
 | .imm C fs => some (C, fs)
 | .ins C i => match st.H[i]? with
  | some (.fields fs) => some (C, fs)
  | _ => none
 | _ => none
noncomputable def place (k : Int) (n : Nat) : Option Nat := match leB 0 k with
 | true => match ltB k n with
  | true => some k.toNat
  | false => none
 | false => match leB 0 (k + n) with
  | true => some (k + n).toNat
  | false => none
set_option backward.match.sparseCases false in
noncomputable def eqV (st : SS) : SV → SV → Option Bool
 | .int a, .int b => some (eqB a b)
 | .str a, .str b => some (eqS a b)
 | .none, .none => some true
 | .none, .int _ => some false
 | .int _, .none => some false
 | .none, .str _ => some false
 | .str _, .none => some false
 | .int _, .str _ => some false
 | .str _, .int _ => some false
 | .bool a, .bool b => some (a == b)
 | a, b => match lstOf st a with
  | some vs => (match lstOf st b with
   | some ws => eqLI vs ws
   | none => none)
  | none => none
set_option backward.match.sparseCases false in
noncomputable def isNone : SV → Bool
 | .none => true
 | _ => false
noncomputable def strIn (x : Str) : List SV → Option Bool
 | [] => some false
 | v :: r => (strO v).bind fun y => (strIn x r).map (eqS y x || ·)
noncomputable def intIn (x : Int) : List SV → Option Bool
 | [] => some false
 | v :: r => (intO v).bind fun y => (intIn x r).map (eqB y x || ·)
noncomputable def inV (st : SS) : SV → SV → Option Bool
 | .str a, .str b => match a.cps.toList with
  | [c] => some (memN b.cps.toList c)
  | _ => match ltB b.cps.size a.cps.size with
   | true => some false
   | false => none
 | .str a, .tup vs => strIn a vs
 | .int a, .tup vs => intIn a vs
 | .int a, b => match dictOfS st b with
  | some es => some (ilk es a).isSome
  | none => none
 | _, _ => none
noncomputable def isNoneO (a : SV) : Option Bool := match plainS a with
 | true => some (isNone a)
 | false => none
noncomputable def notO : Option Bool → Option Bool
 | some b => some (!b)
 | none => none
noncomputable def cmpV (st : SS) : CmpOp → SV → SV → Option Bool
 | .Eq, a, b => eqV st a b
 | .NotEq, a, b => notO (eqV st a b)
 | .Is, a, .none => isNoneO a
 | .IsNot, a, .none => notO (isNoneO a)
 | .Lt, .int a, .int b => some (ltB a b)
 | .LtE, .int a, .int b => some (leB a b)
 | .Gt, .int a, .int b => some (ltB b a)
 | .GtE, .int a, .int b => some (leB b a)
 | .In, a, b => inV st a b
 | .NotIn, a, b => notO (inV st a b)
 | _, _, _ => none
noncomputable def inLine (n : Nat) : Bool := Nat.ble n 100000
noncomputable def unsnoc : List SV → Option (List SV × SV)
 | [] => none
 | [v] => some ([], v)
 | v :: r => match unsnoc r with
  | some (l, u) => some (v :: l, u)
  | none => none
noncomputable def uncons : List SV → Option (SV × List SV)
 | [] => none
 | v :: r => some (v, r)
noncomputable def addLs (st : SS) (a b : SV) (K : SV → Prop) : Prop := match lstOf st a with
  | some vs => (match lstOf st b with
   | some ws => CK ((inLine vs.length && inLine ws.length) && (byVal.allV (byVal 2) vs && byVal.allV (byVal 2) ws)) (K (.lst (vs ++ ws)))
   | none => False)
  | none => False
noncomputable def addV (st : SS) (a b : SV) (K : SV → Prop) : Prop := match a with
 | .int x => OM (intO b) fun y => K (.int (x + y))
 | .str x => OM (strO b) fun y => CK (inLine x.cps.size && inLine y.cps.size) (K (.str (x ++ y)))
 | a => addLs st a b K
set_option backward.match.sparseCases false in
noncomputable def binI (op : Operator) (x y : Int) (K : SV → Prop) : Prop := match op with
 | .Sub => K (.int (x - y))
 | .Mult => CK ((ltB (-1152921504606846976) x && ltB x 1152921504606846976) && (ltB (-1152921504606846976) y && ltB y 1152921504606846976)) (K (.int (x * y)))
 | .FloorDiv => CK (ltB 0 y && leB y 100000) (K (.int (x.fdiv y)))
 | .Mod => CK (ltB 0 y) (K (.int (x.fmod y)))
 | .Pow => CK (eqB x 10 && (leB 0 y && leB y 90)) (K (.int (x ^ y.toNat)))
 | _ => False
set_option backward.match.sparseCases false in
noncomputable def isAdd : Operator → Bool
 | .Add => true
 | _ => false
noncomputable def binV (st : SS) (op : Operator) (a b : SV) (K : SV → Prop) : Prop := match isAdd op with
 | true => addV st a b K
 | false => OM (intO a) fun x => OM (intO b) fun y => binI op x y K
noncomputable def getA (T : Tab) (a : Str) (o : SV) (st : SS) (K : KV) : Prop := match fieldsOf st o with
 | some (C, fs) => (match lk fs a with
  | some v => CK (T.attr C a && plainS v) (K v st)
  | none => False)
 | none => False
noncomputable def strItem (s : Str) (k : Nat) : Str := ⟨#[s.cps.toList.getD k 0]⟩
noncomputable def getI0 (o i : SV) (st : SS) (K : KV) : Prop := match i with
 | .int k => (match o with
  | .str s => CK (inLine s.cps.size) (OM (place k s.cps.size) fun j => K (.str (strItem s j)) st)
  | o => match dictOfS st o with
   | some es => OM (ilk es k) fun v => K v st
   | none => match seqOf st o with
    | some vs => CK (inLine vs.length) (OM (place k vs.length) fun j => OM (vs[j]?) fun v => K v st)
    | none => False)
 | .str k => (match o with
  | .sdct es => OM (lk es k) fun v => K v st
  | _ => False)
 | _ => False
theorem noS {α : Type} {x : α} {P : Prop} (h : none = some x) : P := nomatch h
theorem ft {P : Prop} (h : false = true) : P := nomatch h
theorem zaP {v : SV} {k : Int} (h : intO v = some k) : v = .int k := by
 cases v <;> first | exact noS h | (cases h; rfl)
theorem zcB {v : SV} {k : Str} (h : strO v = some k) : v = .str k := by
 cases v <;> first | exact noS h | (cases h; rfl)
set_option backward.match.sparseCases false in
noncomputable def getI (o i : SV) (st : SS) (K : KV) : Prop := match o with
 | .dct es => OM (intO i) fun k => getI0 (.dct es) (.int k) st K
 | o => getI0 o i st K
theorem zl1 {o i : SV} {st : SS} {K : KV} (h : getI o i st K) : getI0 o i st K := by
 unfold getI at h
 split at h
 ·refine zdS h fun k e h' => ?_
  rw [zaP e]; exact h'
 ·exact h
noncomputable def getO (st : SS) (o : SV) (k : Int) : Option SV := match dictOfS st o with
 | some es => ilk es k
 | none => match seqOf st o with
  | some vs => (match leB (-100000) k && leB k 100000 with
   | true => (match leB 0 k with
    | true => vs[k.toNat]?
    | false => (match place k vs.length with
     | some j => vs[j]?
     | none => none))
   | false => none)
  | none => none
set_option backward.match.sparseCases false in
noncomputable def getP (o i : SV) (st : SS) (K : KV) : Prop := match i with
 | .int k => OM (getO st o k) fun v => K v st
 | _ => False
set_option backward.match.sparseCases false in
noncomputable def nestE : Expr → Bool
 | .Subscript .. => true
 | .Call .. => true
 | _ => false
noncomputable def getJ (b : Bool) (o i : SV) (st : SS) (K : KV) : Prop := match b with
 | true => getP o i st K
 | false => getI o i st K
theorem zeR {st : SS} {o v : SV} {k : Int} (h : getO st o k = some v) : (∃ es, dictOfS st o = some es ∧ ilk es k = some v) ∨
  ∃ vs j, dictOfS st o = none ∧ seqOf st o = some vs ∧ place k vs.length = some j ∧ vs[j]? = some v ∧ -100000 ≤ k ∧ k ≤ 100000 := by
 unfold getO at h
 cases w : dictOfS st o with
 | some es => rw [w] at h; exact .inl ⟨es, rfl, h⟩
 | none =>
  rw [w] at h
  cases w2 : seqOf st o with
  | none => rw [w2] at h; cases h
  | some vs =>
   rw [w2] at h
   dsimp only at h
   cases w3 : leB (-100000) k && leB k 100000 with
   | false => rw [w3] at h; cases h
   | true =>
    rw [w3] at h
    dsimp only at h
    have hb : -100000 ≤ k ∧ k ≤ 100000 := by
     unfold leB at w3
     simp at w3
     exact w3
    cases w4 : leB 0 k with
    | true =>
     rw [w4] at h
     dsimp only at h
     have h0 : 0 ≤ k := of_decide_eq_true w4
     obtain ⟨hlt, _⟩ := List.getElem?_eq_some_iff.mp h
     refine .inr ⟨vs, k.toNat, rfl, rfl, ?_, h, hb⟩
     unfold place
     rw [w4]
     dsimp only
     rw [show ltB k (vs.length : Int) = true from decide_eq_true (by lia)]
    | false =>
     rw [w4] at h
     dsimp only at h
     cases w5 : place k vs.length with
     | none => rw [w5] at h; cases h
     | some j => rw [w5] at h; exact .inr ⟨vs, j, rfl, rfl, w5, h, hb⟩
noncomputable def strCut (s : Str) (lo hi : Nat) : Str := ⟨((s.cps.toList.drop lo).take (hi - lo)).toArray⟩
noncomputable def sliceV (lo hi : Option SV) (o : SV) (st : SS) (K : KV) : Prop := match lo, hi with
 | some (.int l), some (.int h) => (match o with
  | .str s => CK ((leB 0 l && leB 0 h) && inLine s.cps.size) (K (.str (strCut s l.toNat h.toNat)) st)
  | _ => False)
 | some (.int l), none => (match o with
  | .str s => CK (leB 0 l && inLine s.cps.size) (K (.str (strCut s l.toNat s.cps.size)) st)
  | o => match lstOf st o with
   | some vs => CK ((eqB l (-1) && inLine vs.length) && byVal.allV (byVal 2) vs) (K (.lst (vs.drop (vs.length - 1))) st)
   | none => False)
 | none, some (.int h) => (match lstOf st o with
   | some vs => CK ((leB 0 h && inLine vs.length) && byVal.allV (byVal 2) vs) (K (.lst (vs.take h.toNat)) st)
   | none => False)
 | _, _ => False
noncomputable def sumI : List SV → Option Int
 | [] => some 0
 | v :: r => (intO v).bind fun a => (sumI r).map (a + ·)
set_option backward.match.sparseCases false in
noncomputable def boolO : SV → Option Bool
 | .bool b => some b
 | _ => none
noncomputable def allB : List SV → Option Bool
 | [] => some true
 | v :: r => (boolO v).bind fun a => (allB r).map (a && ·)
noncomputable def strsOf : List SV → Option (List Str)
 | [] => some []
 | v :: r => (strO v).bind fun a => (strsOf r).map (a :: ·)
noncomputable def joinS : List Str → List Nat
 | [] => []
 | a :: r => a.cps.toList ++ joinS r
noncomputable def itemsOf : SV → Option (List SV)
 | .str s => some (s.cps.toList.map fun c => .str ⟨#[c]⟩)
 | .rng n => some ((List.range n.toNat).map fun (i : Nat) => SV.int (i : Int))
 | .tup vs => some vs
 | .lst vs => some vs
 | _ => none
noncomputable def mkList (T : Tab) (line : Nat) (vs : List SV) (st : SS) (K : KV) : Prop := match memN T.cells line with
 | true => K (.obj st.H.length) ⟨st.loc, st.H ++ [.seq vs]⟩
 | false => CK (byVal.allV (byVal 2) vs) (K (.lst vs) st)
noncomputable def callB1 (T : Tab) (line : Nat) (f : BF) (o : SV) (st : SS) (K : KV) : Prop := match f with
 | .len => (match o with
  | .str s => CK (inLine s.cps.size) (K (.int s.cps.size) st)
  | o => OM (seqOf st o) fun vs => CK (inLine vs.length) (K (.int vs.length) st))
 | .ord => OM (strO o) fun s => (match s.cps.toList with
  | [c] => K (.int c) st
  | _ => False)
 | .abs => OM (intO o) fun a => K (.int a.natAbs) st
 | .sum => OM (lstOf st o) fun vs => CK (inLine vs.length) (OM (sumI vs) fun a => K (.int a) st)
 | .all => OM (lstOf st o) fun vs => CK (inLine vs.length) (OM (allB vs) fun a => K (.bool a) st)
 | .list => OM (seqOf st o) fun vs => CK (inLine vs.length) (mkList T line vs st K)
 | .range => OM (intO o) fun n => CK (leB 0 n && leB n 1000) (K (.rng n) st)
 | .min => False
noncomputable def callB2 (f : BF) (a b : SV) (st : SS) (K : KV) : Prop := match f with
 | .min => OM (intO a) fun a => OM (intO b) fun b => K (.int (if b < a then b else a)) st
 | _ => False
noncomputable def callB (T : Tab) (line : Nat) (f : BF) (vs : List SV) (st : SS) (K : KV) : Prop := match vs with
 | [o] => callB1 T line f o st K
 | [a, b] => callB2 f a b st K
 | _ => False
inductive Meth where
 | fn (a : Addr) (self : SV)
 | app (i : Nat)
 | pop (i : Nat)
 | get (o : SV)
 | join (s : Str)
 | bad
noncomputable def goodM : Meth → Bool
 | .bad => false
 | _ => true
set_option backward.match.sparseCases false in
noncomputable def methOf (T : Tab) (o : SV) (m : Str) (st : SS) : Meth := match fieldsOf st o with
 | some (C, fs) => (match lk fs m with
  | some _ => .bad
  | none => match T.meth C m with
   | some a => .fn a o
   | none => .bad)
 | none => match o with
  | .str s => (match sEq m "join" with | true => .join s | false => .bad)
  | .obj i => (match st.H[i]? with
   | some (.seq _) => (match sEq m "append" with
    | true => .app i
    | false => match sEq m "pop" with
     | true => .pop i
     | false => .bad)
   | some (.idict _ _) => (match sEq m "get" with | true => .get o | false => .bad)
   | _ => .bad)
  | .dct _ => (match sEq m "get" with | true => .get o | false => .bad)
  | _ => .bad
noncomputable def zipS : List Str → List SV → Option (List (Str × SV))
 | [], [] => some []
 | x :: xs, v :: vs => match zipS xs vs with
  | some l => some ((x, v) :: l)
  | none => none
 | _, _ => none
noncomputable def lkN {α : Type} : List (Nat × α) → Nat → Option α
 | [], _ => none
 | (b, v) :: r, a => match Nat.beq b a with
  | true => some v
  | false => lkN r a
noncomputable def bindArgsS (ps : List Str) (d : List (Nat × List SV)) (vs : List SV) : Option (List (Str × SV)) := match lkN d vs.length with
 | some us => zipS ps (vs ++ us)
 | none => none
section
variable (T : Tab) (r : Bd)
noncomputable def exs (fc : FC) : List Stmt → SS → KO → Prop
 | [], st, K => K .next st
 | s :: rest, st, K => r.ex fc s st fun o st' => match o with
  | .next => exs fc rest st' K
  | .brk => K .brk st'
  | .cont => K .cont st'
  | .ret v => K (.ret v) st'
set_option backward.match.sparseCases false in
noncomputable def isStar : Expr → Bool
 | .Starred .. => true
 | _ => false
noncomputable def noStars : List Expr → Bool
 | [] => true
 | e :: r => match isStar e with
  | true => false
  | false => noStars r
noncomputable def evs (fc : FC) : List Expr → SS → (List SV → SS → Prop) → Prop
 | [], st, K => K [] st
 | e :: rest, st, K => match isStar e with
  | true => False
  | false => r.ev fc e st fun v st1 => evs fc rest st1 fun vs st2 => K (v :: vs) st2
noncomputable def callF (fc : FC) (a : Addr) (vs : List SV) (st : SS) (K : KV) : Prop := match fc.d with
 | 0 => False
 | d + 1 => match T.spec a with
  | some sp => (match (byVal.allV (byVal 2) vs && Nat.ble sp.1 d) && (!T.tr || fc.tr) with
   | true => sp.2 vs (fun v => K v st) fc.Er
   | false => False)
  | none => match T.fn a with
   | some fi => (match bindArgsS fi.params fi.dfl vs with
    | some l => exs r { fc with sc := fi.sc, d := d } fi.body ⟨l, st.H⟩ fun o st' => match o with
     | .next => K .none ⟨st.loc, st'.H⟩
     | .ret v => K v ⟨st.loc, st'.H⟩
     | _ => False
    | none => False)
   | none => False
noncomputable def callV (fc : FC) (line : Nat) (f : SV) (vs : List SV) (st : SS) (K : KV) : Prop := match f with
 | .top (.ref a) => (match T.spec a with
  | some sp => (match (byVal.allV (byVal 2) vs && Nat.ble sp.1 (Nat.pred fc.d)) && (!T.tr || fc.tr) with
   | true => sp.2 vs (fun v => K v st) fc.Er
   | false => False)
  | none => match T.cls a with
   | some init => callF T r { fc with Er := False, tr := false } init (.ins a st.H.length :: vs) ⟨st.loc, st.H ++ [.fields []]⟩ fun v st' => match v with
    | .none => K (.ins a st.H.length) st'
    | _ => False
   | none => callF T r fc a vs st K)
 | .bf f => callB T line f vs st K
 | _ => False
noncomputable def seqC (st : SS) (i : Nat) : Option (List SV) := match st.H[i]? with
 | some (.seq us) => some us
 | _ => none
noncomputable def appM (i : Nat) (vs : List SV) (st : SS) (K : KV) : Prop := match vs with
 | [v] => OM (seqC st i) fun us => CK (inLine us.length) (K .none ⟨st.loc, st.H.set i (.seq (us ++ [v]))⟩)
 | _ => False
noncomputable def popM (i : Nat) (vs : List SV) (st : SS) (K : KV) : Prop := match vs with
 | [] => OM (seqC st i) fun us => CK (inLine us.length) (OM (unsnoc us) fun p => K p.2 ⟨st.loc, st.H.set i (.seq p.1)⟩)
 | [k] => OM (intO k) fun k => OM (seqC st i) fun us => CK (eqB k 0 && inLine us.length) (OM (uncons us) fun p => K p.1 ⟨st.loc, st.H.set i (.seq p.2)⟩)
 | _ => False
noncomputable def getM (o : SV) (vs : List SV) (st : SS) (K : KV) : Prop := match vs with
 | [k, d] => OM (intO k) fun k => CK (isNone d) (OM (dictOfS st o) fun es => (match ilk es k with
   | some v => K v st
   | none => K .none st))
 | _ => False
noncomputable def joinM (s : Str) (vs : List SV) (st : SS) (K : KV) : Prop := match vs with
 | [o] => OM (lstOf st o) fun us => CK (Nat.beq s.cps.size 0 && inLine us.length) (OM (strsOf us) fun xs => CK (inLine (joinS xs).length) (K (.str ⟨(joinS xs).toArray⟩) st))
 | _ => False
noncomputable def callM (fc : FC) (m : Meth) (vs : List SV) (st : SS) (K : KV) : Prop := match m with
 | .fn a self => callF T r fc a (self :: vs) st K
 | .app i => appM i vs st K
 | .pop i => popM i vs st K
 | .get o => getM o vs st K
 | .join s => joinM s vs st K
 | .bad => False
set_option backward.match.sparseCases false in
noncomputable def okBase : Expr → Bool
 | .Name .. => true
 | .Attribute .. => true
 | .Constant .. => true
 | .Subscript .. => true
 | _ => false
noncomputable def chainE (fc : FC) : List Expr → SV → List CmpOp → SS → (Bool → SS → Prop) → Prop
 | [] => fun _ _ _ _ => False
 | e :: es => fun a ops st K => match ops with
  | [] => False
  | op :: ops => match ops with
   | [] => (match es with
    | [] => r.ev fc e st fun b st1 => OM (cmpV st1 op a b) fun c => K c st1
    | _ :: _ => False)
   | op2 :: ops => (match es with
    | [] => False
    | _ :: _ => r.ev fc e st fun b st1 => OM (cmpV st1 op a b) fun c => BR c (chainE fc es b (op2 :: ops) st1 K) (K false st1))
noncomputable def chainS (fc : FC) (a : SV) (ops : List CmpOp) (es : List Expr) (st : SS) (K : Bool → SS → Prop) : Prop := chainE r fc es a ops st K
noncomputable def andS (fc : FC) : List Expr → SS → (Bool → SS → Prop) → Prop
 | [], st, K => K true st
 | e :: es, st, K => r.ts fc e st fun b st1 => BR b (andS fc es st1 K) (K false st1)
noncomputable def orS (fc : FC) : List Expr → SS → (Bool → SS → Prop) → Prop
 | [], st, K => K false st
 | e :: es, st, K => r.ts fc e st fun b st1 => BR b (K true st1) (orS fc es st1 K)
noncomputable def boolS (fc : FC) (op : BoolOp) : List Expr → SS → KV → Prop
 | [], _, _ => False
 | [e], st, K => r.ev fc e st fun v st1 => match v with
  | .bool b => K (.bool b) st1
  | _ => False
 | e :: es, st, K => r.ev fc e st fun v st1 => match v with
  | .bool b => (match op with
   | .And => BR b (boolS fc op es st1 K) (K (.bool false) st1)
   | .Or => BR b (K (.bool true) st1) (boolS fc op es st1 K))
  | _ => False
set_option backward.match.sparseCases false in
noncomputable def isLoc (sc : Scope) (x : Str) : Bool := match lk sc.names x with
 | some .local => true
 | some .cell => true
 | _ => false
set_option backward.match.sparseCases false in
noncomputable def isLoc1 (sc : Scope) (x : Str) : Bool := match lk sc.names x with
 | some .local => true
 | _ => false
set_option backward.match.sparseCases false in
noncomputable def isGlob (sc : Scope) (x : Str) : Bool := match lk sc.names x with
 | some .globalImplicit => true
 | _ => false
noncomputable def nmP : Expr → Option (Str × Pos)
 | .Name x p => some (x, p)
 | _ => none
noncomputable def nmsE : List Expr → Option (List Str)
 | [] => some []
 | e :: r => match nmP e with
  | some q => (match nmsE r with
   | some l => some (q.1 :: l)
   | none => none)
  | none => none
set_option backward.match.sparseCases false in
noncomputable def tupE : Expr → Option (List Expr)
 | .Tuple ts _ _ => some ts
 | _ => none
noncomputable def strE : Expr → Option Str
 | .Constant c _ _ => (match c with
  | .str k => some k
  | _ => none)
 | _ => none
set_option backward.match.sparseCases false in
noncomputable def callE : Expr → Option (Expr × List Expr × List Keyword)
 | .Call f as ks _ => some (f, as, ks)
 | _ => none
set_option backward.match.sparseCases false in
noncomputable def attE : Expr → Option (Expr × Str)
 | .Attribute o a _ => some (o, a)
 | _ => none
set_option backward.match.sparseCases false in
noncomputable def asgS : Stmt → Option (Expr × Expr)
 | .Assign ts e _ => (match ts with
  | [t] => some (t, e)
  | _ => none)
 | _ => none
noncomputable def hdl : ExceptHandler → Option (Expr × Str × Stmt)
 | .ExceptHandler (some c) (some n) [s] _ => some (c, n, s)
 | _ => none
noncomputable def bindT3 (sc : Scope) (xs : List Str) (vs : List SV) (st : SS) (K : SS → Prop) : Prop := match xs, vs with
 | [x, y], [v, u] => CK (isLoc sc x && isLoc sc y) (K ⟨lset (lset st.loc x v) y u, st.H⟩)
 | _, _ => False
noncomputable def bindT2 (sc : Scope) (xs : List Str) (v : SV) (st : SS) (K : SS → Prop) : Prop := match v with
 | .tup vs => bindT3 sc xs vs st K
 | _ => False
noncomputable def bindT (sc : Scope) (t : Expr) (v : SV) (st : SS) (K : SS → Prop) : Prop := match nmP t with
 | some q => CK (isLoc sc q.1) (K ⟨lset st.loc q.1 v, st.H⟩)
 | none => OM (tupE t) fun ts => OM (nmsE ts) fun xs => bindT2 sc xs v st K
noncomputable def dbgN : Str := Str.mk #[95, 95, 100, 101, 98, 117, 103, 95, 95]
noncomputable def clsN : Str := Str.mk #[95, 95, 99, 108, 97, 115, 115, 100, 105, 99, 116, 95, 95]
noncomputable def noDup : List (Str × NameKind) → Bool
 | [] => true
 | (x, _) :: r => match lk r x with
  | some _ => false
  | none => noDup r
noncomputable def okNames (p : Str → NameKind → Bool) : List (Str × NameKind) → Bool
 | [] => true
 | (x, k) :: r => match sEq x dbgN || sEq x clsN with
  | true => false
  | false => match p x k with
   | true => okNames p r
   | false => false
noncomputable def compOk (out sc : Scope) : Bool := (match sc.kind with | .function => true | _ => false) && (noDup sc.names && okNames (fun x k => match k with
 | .local => true
 | .globalImplicit => true
 | .free => (match lk out.names x with | some .cell => true | _ => false)
 | _ => false) sc.names)
set_option backward.match.sparseCases false in
noncomputable def isSetE : Expr → Bool
 | .Set .. => true
 | _ => false
noncomputable def noSet : List Expr → Bool
 | [] => true
 | e :: r => match isSetE e with
  | true => false
  | false => noSet r
noncomputable def okGens (gens : List Comprehension) : Bool := match gens with
 | [c] => eqB c.is_async 0
 | _ => false
set_option backward.match.sparseCases false in
noncomputable def okVal : Expr → Bool
 | .SetComp .. => false
 | .DictComp .. => false
 | .ListComp _ gens _ _ => okGens gens
 | _ => true
set_option backward.match.sparseCases false in
noncomputable def swapOk : Expr → Bool
 | .Tuple vs _ _ => vs.all (foldedForSure 8) || !vs.all (constantsAlone 8)
 | _ => true
noncomputable def locOut (fc : FC) (sc : Scope) : List (Str × SV) → List (Str × SV)
 | [] => []
 | (x, v) :: l => match lk sc.names x with
  | some .free => (match lk fc.sc.names x with
   | some .cell => (x, v) :: locOut fc sc l
   | _ => locOut fc sc l)
  | _ => locOut fc sc l
noncomputable def ifsS (fc : FC) : List Expr → SS → (Bool → SS → Prop) → Prop
 | [], st, K => K true st
 | e :: es, st, K => r.ts fc e st fun b st1 => BR b (ifsS fc es st1 K) (K false st1)
noncomputable def turnC (fc fc' : FC) (target elt : Expr) (ifs : List Expr) (v : SV) (st : SS) (K : Option SV → List SO → Prop) : Prop :=
 bindT fc'.sc target v ⟨locOut fc fc'.sc st.loc, st.H⟩ fun st1 => ifsS r fc' ifs st1 fun b st2 => BR b (r.ev fc' elt st2 fun u st3 => K (some u) st3.H) (K none st2.H)
noncomputable def compL (fc fc' : FC) (target elt : Expr) (ifs : List Expr) : List SV → List SV → SS → (List SV → SS → Prop) → Prop
 | [], acc, st, K => K acc st
 | v :: vs, acc, st, K => turnC r fc fc' target elt ifs v st fun u H => match u with
  | some u => compL fc fc' target elt ifs vs (acc ++ [u]) ⟨st.loc, H⟩ K
  | none => compL fc fc' target elt ifs vs acc ⟨st.loc, H⟩ K
noncomputable def key (p : Pos) : Nat := p.line * 1000 + p.col
noncomputable def Fits (L : Loop) (x : L.σ) (st : SS) : Prop := locIn (L.st x).loc st.loc ∧ st.H = (L.st x).H
where locIn : List (Str × SV) → List (Str × SV) → Prop
 | [], _ => True
 | (y, v) :: l, m => lk m y = some v ∧ locIn l m
noncomputable def allBV : List (Str × SV) → Bool
 | [] => true
 | (_, v) :: r => match byVal 2 v with
  | true => allBV r
  | false => false
noncomputable def noH : List SO → Bool
 | [] => true
 | _ :: _ => false
noncomputable def FitD (L : Loop) (x : L.σ) (st : SS) : Prop := Fits.locIn (L.st x).loc st.loc ∧ (L.st x).H = [] ∧ allBV (L.st x).loc = true
noncomputable def accN : Str := Str.mk #[46, 97]
noncomputable def CW (L : Loop) (x : L.σ) (loc : List (Str × SV)) (acc : List SV) (H : List SO) : Prop := match L.gc with
 | false => L.st x = ⟨[(accN, .lst acc)], H⟩
 | true => Fits L x ⟨(accN, .lst acc) :: loc, H⟩
set_option backward.match.sparseCases false in
noncomputable def flatV : SV → Bool
 | .int _ => true
 | .none => true
 | _ => false
noncomputable def flatL : List SV → Bool
 | [] => true
 | v :: r => match flatV v with
  | true => flatL r
  | false => false
set_option backward.match.sparseCases false in
noncomputable def cellIts (st : SS) : SV → Option (Nat × List SV)
 | .obj k => match st.H[k]? with
  | some (.seq vs) => some (k, vs)
  | _ => none
 | _ => none
noncomputable def compS (fc : FC) (target elt iter : Expr) (ifs : List Expr) (sc : Scope) (pos : Pos) (st : SS) (K : KV) : Prop :=
 CK (compOk fc.sc sc && noSet [iter]) <| r.ev fc iter st fun it st1 => match itemsOf it with
  | some its => CK (inLine its.length) (match fc.lp (key pos) st1.loc with
   | none => compL r fc { fc with sc := sc, Er := False, tr := false } target elt ifs its [] st1 fun acc st2 => mkList T pos.line acc st2 K
   | some L => (∃ x0, L.P [] x0 ∧ CW L x0 st1.loc [] st1.H) ∧
    (∀ x pre v post acc H, its = pre ++ v :: post → L.P pre x → CW L x st1.loc acc H → turnC r fc { fc with sc := sc, Er := False, tr := false } target elt ifs v ⟨st1.loc, H⟩ fun u H' =>
     ∃ x', L.P (pre ++ [v]) x' ∧ CW L x' st1.loc (match u with | some u => acc ++ [u] | none => acc) H') ∧
    (∀ x acc H, L.P its x → CW L x st1.loc acc H → mkList T pos.line acc ⟨st1.loc, H⟩ K))
  | none => (match cellIts st1 it with
   | some p => CK (inLine p.2.length && flatL p.2) (match fc.lp (key pos) st1.loc with
    | none => False
    | some L => (∃ x0, L.P [] x0 ∧ CW L x0 st1.loc [] st1.H) ∧
     (∀ x pre v post acc H, p.2 = pre ++ v :: post → L.P pre x → CW L x st1.loc acc H → turnC r fc { fc with sc := sc, Er := False, tr := false } target elt ifs v ⟨st1.loc, H⟩ fun u H' =>
      H'[p.1]? = some (.seq p.2) ∧ ∃ x', L.P (pre ++ [v]) x' ∧ CW L x' st1.loc (match u with | some u => acc ++ [u] | none => acc) H') ∧
     (∀ x acc H, L.P p.2 x → CW L x st1.loc acc H → mkList T pos.line acc ⟨st1.loc, H⟩ K))
   | none => False)
noncomputable def evO (fc : FC) : Option Expr → SS → (Option SV → SS → Prop) → Prop
 | none, st, K => K none st
 | some e, st, K => r.ev fc e st fun v st1 => K (some v) st1
noncomputable def dictS (fc : FC) (ks : List (Option Expr)) (vs : List Expr) (st : SS) (K : List (Str × SV) → SS → Prop) : Prop := match ks, vs with
 | [some a, some b], [c, d] => OM (strE a) fun k => OM (strE b) fun k2 => OM (strE c) fun v => OM (strE d) fun v2 => CK (!sEq k k2) (K [(k, .str v), (k2, .str v2)] st)
 | _, _ => False
noncomputable def evConst (c : Const) (st : SS) (K : KV) : Prop := match c with
 | .none => K .none st
 | .bool b => K (.bool b) st
 | .int i => K (.int i) st
 | .str s => K (.str s) st
 | _ => False
noncomputable def evName (fc : FC) (x : Str) (st : SS) (K : KV) : Prop := match lk st.loc x with
 | some v => K v st
 | none => match lk fc.sc.names x with
  | some .globalImplicit => (match T.glob x with
   | some v => K v st
   | none => False)
  | _ => False
noncomputable def evAttr (fc : FC) (o : Expr) (a : Str) (st : SS) (K : KV) : Prop := match okBase o with
 | true => r.ev fc o st fun ov st1 => getA T a ov st1 K
 | false => False
noncomputable def evMeth (fc : FC) (o : Expr) (m : Str) (ap : Pos) (args : List Expr) (pos : Pos) (st : SS) (K : KV) : Prop := match okBase o && (Nat.ble args.length 20 && Nat.beq ap.endLine pos.line) with
 | true => r.ev fc o st fun ov st1 => CK (goodM (methOf T ov m st1)) (evs r fc args st1 fun vs st2 => callM T r fc (methOf T ov m st1) vs st2 K)
 | false => False
set_option backward.match.sparseCases false in
noncomputable def evCall0 (fc : FC) (f : Expr) (args : List Expr) (pos : Pos) (st : SS) (K : KV) : Prop := match f with
 | .Attribute o m ap => evMeth T r fc o m ap args pos st K
 | .Name x p => r.ev fc (.Name x p) st fun fv st1 => evs r fc args st1 fun vs st2 => callV T r fc pos.line fv vs st2 K
 | _ => False
noncomputable def evCall (fc : FC) (f : Expr) (args : List Expr) (kw : List Keyword) (pos : Pos) (st : SS) (K : KV) : Prop := CK (noStars args) (match kw with
 | [] => evCall0 T r fc f args pos st K
 | _ :: _ => False)
noncomputable def evSlice (fc : FC) (v : Expr) (lo hi step : Option Expr) (st : SS) (K : KV) : Prop := match step with
 | none => r.ev fc v st fun o st1 => evO r fc lo st1 fun l st2 => evO r fc hi st2 fun h st3 => sliceV l h o st3 K
 | some _ => False
noncomputable def evSub (fc : FC) (v s : Expr) (st : SS) (K : KV) : Prop := match s with
 | .Slice lo hi step _ => evSlice r fc v lo hi step st K
 | s => r.ev fc v st fun o st1 => r.ev fc s st1 fun i st2 => getJ (nestE v) o i st2 K
noncomputable def evNot (fc : FC) (e : Expr) (st : SS) (K : KV) : Prop := r.ev fc e st fun v st1 => match v with
 | .bool b => K (.bool (!b)) st1
 | _ => False
set_option backward.match.sparseCases false in
noncomputable def evNegC (c : Const) (st : SS) (K : KV) : Prop := match c with
 | .int i => K (.int (-i)) st
 | _ => False
noncomputable def evNeg (e : Expr) (st : SS) (K : KV) : Prop := match e with
 | .Constant c _ _ => evNegC c st K
 | _ => False
set_option backward.match.sparseCases false in
noncomputable def evUn (fc : FC) (op : UnaryOp) (e : Expr) (st : SS) (K : KV) : Prop := match op with
 | .Not => evNot r fc e st K
 | .USub => evNeg e st K
 | _ => False
noncomputable def evDict (fc : FC) (ks : List (Option Expr)) (vs : List Expr) (st : SS) (K : KV) : Prop := match ks with
 | [] => (match vs with
  | [] => K (.obj st.H.length) ⟨st.loc, st.H ++ [.idict [] 0]⟩
  | _ :: _ => False)
 | k :: ks => dictS fc (k :: ks) vs st fun l st1 => K (.sdct l) st1
noncomputable def evComp1 (fc : FC) (elt : Expr) (c : Comprehension) (sc : Scope) (pos : Pos) (st : SS) (K : KV) : Prop := match c with
 | ⟨target, iter, ifs, a⟩ => (match eqB a 0 with
  | true => compS T r fc target elt iter ifs sc pos st K
  | false => False)
noncomputable def evComp (fc : FC) (elt : Expr) (gens : List Comprehension) (sc : Scope) (pos : Pos) (st : SS) (K : KV) : Prop := match gens with
 | [c] => evComp1 T r fc elt c sc pos st K
 | _ => False
set_option backward.match.sparseCases false in
noncomputable def evStep (fc : FC) (e : Expr) (st : SS) (K : KV) : Prop := match e with
 | .Constant c _ _ => evConst c st K
 | .Name x _ => evName T fc x st K
 | .Attribute o a _ => evAttr T r fc o a st K
 | .Call f args kw pos => evCall T r fc f args kw pos st K
 | .Subscript v s _ => evSub r fc v s st K
 | .Compare l ops es _ => CK (noSet es) (r.ev fc l st fun a st1 => chainS r fc a ops es st1 fun b st2 => K (.bool b) st2)
 | .BoolOp op es _ => boolS r fc op es st K
 | .UnaryOp op e _ => evUn r fc op e st K
 | .IfExp t a b _ => r.ts fc t st fun c st1 => BR c (r.ev fc a st1 K) (r.ev fc b st1 K)
 | .BinOp l op m _ => r.ev fc l st fun a st1 => r.ev fc m st1 fun b st2 => binV st2 op a b fun v => K v st2
 | .Tuple es _ _ => evs r fc es st fun vs st1 => CK (inLine vs.length) (K (.tup vs) st1)
 | .List es pos => evs r fc es st fun vs st1 => CK (inLine vs.length) (mkList T pos.line vs st1 K)
 | .Dict ks vs _ => evDict fc ks vs st K
 | .ListComp elt gens sc pos => evComp T r fc elt gens sc pos st K
 | _ => False
noncomputable def tsStep (fc : FC) (e : Expr) (st : SS) (K : Bool → SS → Prop) : Prop := match e with
 | .UnaryOp .Not x _ => r.ts fc x st fun b st1 => K (!b) st1
 | .BoolOp .And es _ => andS r fc es st K
 | .BoolOp .Or es _ => orS r fc es st K
 | .IfExp .. => False
 | .Compare l ops es _ => CK (noSet es) (r.ev fc l st fun a st1 => chainS r fc a ops es st1 K)
 | e => r.ev fc e st fun v st1 => match v with
  | .bool b => K b st1
  | _ => False
set_option backward.match.sparseCases false in
noncomputable def setA (T : Tab) (o : SV) (a : Str) (v : SV) (st : SS) (K : KO) : Prop := match o with
 | .ins C i => (match st.H[i]? with
  | some (.fields fs) => CK (Nat.ble fs.length 100 && T.sets C a) (K .next ⟨st.loc, st.H.set i (.fields (lset fs a v))⟩)
  | _ => False)
 | _ => False
set_option backward.match.sparseCases false in
noncomputable def setI (o i v : SV) (st : SS) (K : KO) : Prop := match o with
 | .obj j => (match st.H[j]? with
  | some (.seq vs) => OM (intO i) fun k => CK ((leB 0 k && ltB k vs.length) && inLine vs.length) (K .next ⟨st.loc, st.H.set j (.seq (vs.set k.toNat v))⟩)
  | some (.idict es n) => OM (intO i) fun k => CK (Nat.ble n 1000) (K .next ⟨st.loc, st.H.set j (.idict (iset es k v) (n + 1))⟩)
  | _ => False)
 | _ => False
noncomputable def forL (fc : FC) (target : Expr) (body : List Stmt) : List SV → SS → KO → Prop
 | [], st, K => K .next st
 | v :: vs, st, K => bindT fc.sc target v st fun st1 => exs r fc body st1 fun o st2 => match o with
  | .next => forL fc target body vs st2 K
  | .cont => forL fc target body vs st2 K
  | .brk => K .next st2
  | .ret v => K (.ret v) st2
noncomputable def lsets (l : List (Str × SV)) (xs : List Str) (vs : List SV) : Option (List (Str × SV)) := match xs with
 | [] => (match vs with
  | [] => some l
  | _ :: _ => none)
 | x :: xs => (match vs with
  | [] => none
  | v :: vs => lsets (lset l x v) xs vs)
noncomputable def freshS (x : Str) : List Str → Bool
 | [] => true
 | y :: r => !sEq x y && freshS x r
noncomputable def distS : List Str → Bool
 | [] => true
 | x :: r => freshS x r && distS r
noncomputable def allLoc (sc : Scope) : List Str → Bool
 | [] => true
 | x :: r => isLoc sc x && allLoc sc r
noncomputable def bindN (sc : Scope) (xs : List Str) (vs : List SV) (st : SS) (K : KO) : Prop := CK (distS xs && allLoc sc xs) (OM (lsets st.loc xs vs) fun l => K .next ⟨l, st.H⟩)
noncomputable def bindTs (sc : Scope) (ts : List Expr) (v : SV) (st : SS) (K : KO) : Prop := OM (nmsE ts) fun xs => match v with
 | .tup vs => bindN sc xs vs st K
 | _ => False
set_option backward.match.sparseCases false in
noncomputable def isComp : Expr → Bool
 | .ListComp .. => true
 | .SetComp .. => true
 | .DictComp .. => true
 | _ => false
set_option backward.match.sparseCases false in
noncomputable def exAssign1 (fc : FC) (t e : Expr) (st : SS) (K : KO) : Prop := match t with
 | .Name x _ => CK (isLoc fc.sc x && okVal e) (r.ev fc e st fun v st1 => K .next ⟨lset st1.loc x v, st1.H⟩)
 | .Attribute o a _ => CK (!isComp e && okBase o) (r.ev fc e st fun v st1 => r.ev fc o st1 fun ov st2 => setA T ov a v st2 K)
 | .Subscript o i _ => CK (!isComp e) (r.ev fc e st fun v st1 => r.ev fc o st1 fun ov st2 => r.ev fc i st2 fun iv st3 => setI ov iv v st3 K)
 | .Tuple ts _ _ => CK (!isComp e && swapOk e) (r.ev fc e st fun v st1 => bindTs fc.sc ts v st1 K)
 | _ => False
noncomputable def exAssign (fc : FC) (ts : List Expr) (e : Expr) (st : SS) (K : KO) : Prop := match ts with
 | [t] => exAssign1 T r fc t e st K
 | _ => False
noncomputable def exReturn (fc : FC) (e : Option Expr) (st : SS) (K : KO) : Prop := match e with
 | some e => r.ev fc e st fun v st1 => K (.ret v) st1
 | none => K (.ret .none) st
set_option backward.match.sparseCases false in
noncomputable def isCall : Expr → Bool
 | .Call .. => true
 | _ => false
noncomputable def exWhile (fc : FC) (t : Expr) (body orelse : List Stmt) (pos : Pos) (st : SS) (K : KO) : Prop := match orelse with
 | [] => (match fc.lp (key pos) [] with
  | none => r.ts fc t st fun c st1 => BR c (exs r fc body st1 fun o st2 => match o with
    | .next => r.ex fc (.While t body [] pos) st2 K
    | .cont => r.ex fc (.While t body [] pos) st2 K
    | .brk => K .next st2
    | .ret v => K (.ret v) st2) (K .next st1)
  | some L => (∃ x0, Fits L x0 st ∧ L.P [] x0) ∧ ∀ x, L.P [] x → r.ts fc t (L.st x) fun c st1 => BR c (exs r fc body st1 fun o st2 => match o with
    | .next => ∃ x', Fits L x' st2 ∧ L.P [] x' ∧ L.ms x' < L.ms x
    | .cont => ∃ x', Fits L x' st2 ∧ L.P [] x' ∧ L.ms x' < L.ms x
    | .brk => K .next st2
    | .ret v => K (.ret v) st2) (K .next st1))
 | _ :: _ => False
noncomputable def exFor (fc : FC) (target iter : Expr) (body orelse : List Stmt) (pos : Pos) (st : SS) (K : KO) : Prop := match orelse with
 | [] => CK (noSet [iter]) <| r.ev fc iter st fun it st1 => (match itemsOf it with
  | some its => CK (inLine its.length) (match fc.lp (key pos) st1.loc with
   | none => forL r fc target body its st1 K
   | some L => match L.gc with
    | false => (∃ x0, Fits L x0 st1 ∧ L.P [] x0) ∧
    (∀ x pre v post, its = pre ++ v :: post → L.P pre x → bindT fc.sc target v (L.st x) fun st2 => exs r fc body st2 fun o st3 => match o with
     | .next => ∃ x', Fits L x' st3 ∧ L.P (pre ++ [v]) x'
     | .cont => ∃ x', Fits L x' st3 ∧ L.P (pre ++ [v]) x'
     | .brk => K .next st3
     | .ret v => K (.ret v) st3) ∧
    (∀ x, L.P its x → K .next (L.st x))
    | true => CK (noH st1.H) ((∃ x0, Fits L x0 st1 ∧ L.P [] x0) ∧
    (∀ x pre v post, its = pre ++ v :: post → L.P pre x → bindT fc.sc target v (L.st x) fun st2 => exs r fc body st2 fun o st3 => match o with
     | .next => ∃ x', FitD L x' st3 ∧ L.P (pre ++ [v]) x'
     | .cont => ∃ x', FitD L x' st3 ∧ L.P (pre ++ [v]) x'
     | .brk => K .next st3
     | .ret v => K (.ret v) st3) ∧
    (∀ x, L.P its x → K .next (L.st x))))
  | none => False)
 | _ :: _ => False
noncomputable def exRaise2 (fc : FC) (x : Str) (p : Pos) (a b : Expr) (st : SS) : Prop := CK (noStars [a, b] && Nat.ble 1 fc.d) <| r.ev fc (.Name x p) st fun fv st1 => (match fv with
  | .top (.ref C) => CK (Nat.beq C 96) (evs r fc [a, b] st1 fun vs _ => match vs with
   | [.str _, _] => fc.Er
   | _ => False)
  | _ => False)
noncomputable def exRaise1 (fc : FC) (f : Expr) (as : List Expr) (ks : List Keyword) (st : SS) : Prop := match as, ks with
 | [a, b], [] => OM (nmP f) fun q => exRaise2 r fc q.1 q.2 a b st
 | _, _ => False
noncomputable def exRaise (fc : FC) (e c : Option Expr) (st : SS) : Prop := match e, c with
 | some e, none => OM (callE e) fun q => exRaise1 r fc q.1 q.2.1 q.2.2 st
 | _, _ => False
noncomputable def symN : Str := Str.mk #[115, 121, 109, 98, 111, 108]
noncomputable def exTry1 (fc : FC) (x : Str) (f : Str) (fp : Pos) (args : List Expr) (c n y n2 a : Str) (st : SS) (K : KO) : Prop :=
 CK (((T.tr && fc.tr) && (noStars args && (isLoc1 fc.sc x && (isLoc1 fc.sc n && isLoc1 fc.sc y)))) && ((sEq n n2 && sEq a symN) && (!sEq n y && isGlob fc.sc c))) <|
 OM (T.glob c) fun cv => (match cv with
  | .top (.ref C) => CK (Nat.beq C 96) (r.ev { fc with Er := False } (.Name f fp) st fun fv st0 => evs r { fc with Er := False } args st0 fun vs st1 => (match lk st1.loc c with
   | some _ => False
   | none => (match fv with
    | .top (.ref a) => (match T.spec a with
     | some sp => (match (byVal.allV (byVal 2) vs && Nat.ble sp.1 (Nat.pred fc.d)) && (!T.tr || fc.tr) with
      | true => sp.2 vs (fun v => K .next ⟨lset st1.loc x v, st1.H⟩) (∀ sy : Str, K .next ⟨lset (ldel st1.loc n) y (.str sy), st1.H⟩)
      | false => False)
     | none => False)
    | _ => False)))
  | _ => False)
noncomputable def exTry2 (fc : FC) (p : Expr × Expr) (q : Expr × Str × Stmt) (st : SS) (K : KO) : Prop :=
 OM (nmP p.1) fun x => OM (callE p.2) fun cl => OM (nmP cl.1) fun f => OM (nmP q.1) fun c => OM (asgS q.2.2) fun p2 => OM (nmP p2.1) fun y => OM (attE p2.2) fun at' => OM (nmP at'.1) fun n2 => (match cl.2.2 with
  | [] => exTry1 T r fc x.1 f.1 f.2 cl.2.1 c.1 q.2.1 y.1 n2.1 at'.2 st K
  | _ :: _ => False)
noncomputable def exTry (fc : FC) (b : List Stmt) (hs : List ExceptHandler) (el fi : List Stmt) (st : SS) (K : KO) : Prop := match b, hs, el, fi with
 | [s], [h], [], [] => OM (asgS s) fun p => OM (hdl h) fun q => exTry2 T r fc p q st K
 | _, _, _, _ => False
set_option backward.match.sparseCases false in
noncomputable def exStep (fc : FC) (s : Stmt) (st : SS) (K : KO) : Prop := match s with
 | .Assign ts e _ => exAssign T r fc ts e st K
 | .Return e _ => exReturn r fc e st K
 | .If t a b _ => r.ts fc t st fun c st1 => BR c (exs r fc a st1 K) (exs r fc b st1 K)
 | .Expr e _ => CK (isCall e) (r.ev fc e st fun _ st1 => K .next st1)
 | .While t body orelse pos => exWhile r fc t body orelse pos st K
 | .For target iter body orelse pos => exFor r fc target iter body orelse pos st K
 | .Raise e c _ => exRaise r fc e c st
 | .Try b hs el fi _ => exTry T r fc b hs el fi st K
 | .Pass _ => K .next st
 | _ => False
noncomputable def bdStep : Bd := ⟨evStep T r, tsStep r, exStep T r⟩
end
noncomputable def frzL (f : SV → Option SV) : List SV → Option (List SV)
 | [] => some []
 | v :: r => (f v).bind fun u => (frzL f r).map (u :: ·)
noncomputable def frzD {α : Type} (f : SV → Option SV) : List (α × SV) → Option (List (α × SV))
 | [] => some []
 | p :: r => (f p.2).bind fun u => (frzD f r).map ((p.1, u) :: ·)
noncomputable def soF (f : List SV → Option SV) (g : List (Int × SV) → Option SV) (h : List (Str × SV) → Option SV) : SO → Option SV
 | .seq vs => f vs
 | .idict es _ => g es
 | .fields fs => h fs
noncomputable def frzS (H : List SO) (f : SV → Option SV) : SV → Option SV
 | .obj i => H[i]?.bind (soF (fun vs => (frzL f vs).map .lst) (fun es => (frzD f es).map .dct) fun _ => none)
 | .ins C i => H[i]?.bind (soF (fun _ => none) (fun _ => none) fun fs => (frzD f fs).map (.imm C))
 | .tup vs => (frzL f vs).map .tup
 | v => some v
noncomputable def frz (H : List SO) : Nat → SV → Option SV
 | 0 => fun _ => none
 | n + 1 => frzS H (frz H n)
noncomputable def bdBot : Bd := ⟨fun _ _ _ _ => False, fun _ _ _ _ => False, fun _ _ _ _ => False⟩
noncomputable def bdOf (T : Tab) (n : Nat) : Bd := @Nat.rec (fun _ => Bd) bdBot (fun _ r => bdStep T r) n
theorem zc5 {st : SS} {i : Nat} {us : List SV} (h : seqC st i = some us) : st.H[i]? = some (.seq us) := by
 unfold seqC at h
 cases q : st.H[i]? with
 | none => rw [q] at h; exact noS h
 | some so =>
  rw [q] at h
  cases so with
  | seq vs => cases h; rfl
  | _ => exact noS h
theorem zfA {d : SV} (h : isNone d = true) : d = .none := by cases d <;> first | rfl | exact ft h
theorem zbJ {e : Expr} {q : Str × Pos} (h : nmP e = some q) : e = .Name q.1 q.2 := by
 cases e <;> first | exact noS h | (cases h; rfl)
theorem zhK {e : Expr} {ts : List Expr} (h : tupE e = some ts) : ∃ k p, e = .Tuple ts k p := by
 cases e <;> first | exact noS h | (cases h; exact ⟨_, _, rfl⟩)
set_option tactic.hygienic true in
theorem zcC {e : Expr} {k : Str} (h : strE e = some k) : ∃ a p, e = .Constant (.str k) a p := by
 cases e <;> first | exact noS h | skip
 rename_i c _ _
 cases c <;> first | exact noS h | (cases h; exact ⟨_, _, rfl⟩)
theorem zd4 {e : Expr} {q : Expr × List Expr × List Keyword} (h : callE e = some q) : ∃ p, e = .Call q.1 q.2.1 q.2.2 p := by
 cases e <;> first | exact noS h | (cases h; exact ⟨_, rfl⟩)
theorem zjC {e : Expr} {q : Expr × Str} (h : attE e = some q) : ∃ p, e = .Attribute q.1 q.2 p := by
 cases e <;> first | exact noS h | (cases h; exact ⟨_, rfl⟩)
set_option tactic.hygienic true in
theorem zeX {s : Stmt} {q : Expr × Expr} (h : asgS s = some q) : ∃ p, s = .Assign [q.1] q.2 p := by
 cases s <;> first | exact noS h | skip
 rename_i ts _ _
 rcases ts with _ | ⟨t, _ | _⟩ <;> first | exact noS h | (cases h; exact ⟨_, rfl⟩)
theorem zk0 {x : ExceptHandler} {q : Expr × Str × Stmt} (h : hdl x = some q) : ∃ p, x = .ExceptHandler (some q.1) (some q.2.1) [q.2.2] p := by
 obtain ⟨_ | c, _ | n, _ | ⟨s, _ | _⟩, p⟩ := x <;> first | exact noS h | (cases h; exact ⟨_, rfl⟩)
theorem zf0 {ts : List Expr} (h : nmsE ts = some []) : ts = [] := by
 cases ts with
 | nil => rfl
 | cons e r =>
  unfold nmsE at h
  cases q : nmP e with
  | none => rw [q] at h; exact noS h
  | some w =>
   rw [q] at h
   cases q2 : nmsE r with
   | none => rw [q2] at h; exact noS h
   | some l => rw [q2] at h; cases h
theorem zc8 {ts : List Expr} {x : Str} {xs : List Str} (h : nmsE ts = some (x :: xs)) : ∃ p r, ts = .Name x p :: r ∧ nmsE r = some xs := by
 cases ts with
 | nil => cases h
 | cons e r =>
  unfold nmsE at h
  cases q : nmP e with
  | none => rw [q] at h; exact noS h
  | some w =>
   rw [q] at h
   cases q2 : nmsE r with
   | none => rw [q2] at h; exact noS h
   | some l =>
    rw [q2] at h
    cases h
    rw [zbJ q]
    exact ⟨_, _, rfl, q2⟩
noncomputable def A1 (vs : List SV) (f : SV → Prop) : Prop := match vs with
 | [a] => f a
 | _ => False
theorem zeG {vs : List SV} {f : SV → Prop} (h : A1 vs f) : ∃ a, vs = [a] ∧ f a := by
 rcases vs with _ | ⟨a, _ | ⟨_, _⟩⟩ <;> first | exact False.elim h | exact ⟨_, rfl, h⟩
noncomputable def A2 (vs : List SV) (f : SV → SV → Prop) : Prop := match vs with
 | [a, b] => f a b
 | _ => False
theorem zcA {vs : List SV} {f : SV → SV → Prop} (h : A2 vs f) : ∃ a b, vs = [a, b] ∧ f a b := by
 rcases vs with _ | ⟨a, _ | ⟨b, _ | ⟨_, _⟩⟩⟩ <;> first | exact False.elim h | exact ⟨_, _, rfl, h⟩
noncomputable def A3 (vs : List SV) (f : SV → SV → SV → Prop) : Prop := match vs with
 | [a, b, c] => f a b c
 | _ => False
theorem zbI {vs : List SV} {f : SV → SV → SV → Prop} (h : A3 vs f) : ∃ a b c, vs = [a, b, c] ∧ f a b c := by
 rcases vs with _ | ⟨a, _ | ⟨b, _ | ⟨c, _ | ⟨_, _⟩⟩⟩⟩ <;> first | exact False.elim h | exact ⟨_, _, _, rfl, h⟩
noncomputable def A4 (vs : List SV) (f : SV → SV → SV → SV → Prop) : Prop := match vs with
 | [a, b, c, d] => f a b c d
 | _ => False
theorem zfS {vs : List SV} {f : SV → SV → SV → SV → Prop} (h : A4 vs f) : ∃ a b c d, vs = [a, b, c, d] ∧ f a b c d := by
 rcases vs with _ | ⟨a, _ | ⟨b, _ | ⟨c, _ | ⟨d, _ | ⟨_, _⟩⟩⟩⟩⟩ <;> first | exact False.elim h | exact ⟨_, _, _, _, rfl, h⟩
noncomputable def A5 (vs : List SV) (f : SV → SV → SV → SV → SV → Prop) : Prop := match vs with
 | [a, b, c, d, e] => f a b c d e
 | _ => False
theorem zjI {vs : List SV} {f : SV → SV → SV → SV → SV → Prop} (h : A5 vs f) : ∃ a b c d e, vs = [a, b, c, d, e] ∧ f a b c d e := by
 rcases vs with _ | ⟨a, _ | ⟨b, _ | ⟨c, _ | ⟨d, _ | ⟨e, _ | ⟨_, _⟩⟩⟩⟩⟩⟩ <;> first | exact False.elim h | exact ⟨_, _, _, _, _, rfl, h⟩
noncomputable def OI (v : SV) (f : Int → Prop) : Prop := match v with
 | .int i => f i
 | _ => False
theorem zaS {v : SV} {f : Int → Prop} (h : OI v f) : ∃ i, v = .int i ∧ f i := by
 cases v <;> first | exact False.elim h | exact ⟨_, rfl, h⟩
noncomputable def OL (v : SV) (f : List SV → Prop) : Prop := match v with
 | .lst i => f i
 | _ => False
theorem zdP {v : SV} {f : List SV → Prop} (h : OL v f) : ∃ i, v = .lst i ∧ f i := by
 cases v <;> first | exact False.elim h | exact ⟨_, rfl, h⟩
noncomputable def OT (v : SV) (f : Str → Prop) : Prop := match v with
 | .str i => f i
 | _ => False
theorem zjE {v : SV} {f : Str → Prop} (h : OT v f) : ∃ i, v = .str i ∧ f i := by
 cases v <;> first | exact False.elim h | exact ⟨_, rfl, h⟩
noncomputable def OB (v : SV) (f : Bool → Prop) : Prop := match v with
 | .bool i => f i
 | _ => False
theorem zoQ {v : SV} {f : Bool → Prop} (h : OB v f) : ∃ i, v = .bool i ∧ f i := by
 cases v <;> first | exact False.elim h | exact ⟨_, rfl, h⟩
set_option backward.match.sparseCases false in
noncomputable def OD (v : SV) (f : List (Int × SV) → Prop) : Prop := match v with
 | .dct i => f i
 | _ => False
theorem zoP {v : SV} {f : List (Int × SV) → Prop} (h : OD v f) : ∃ i, v = .dct i ∧ f i := by
 cases v <;> first | exact False.elim h | exact ⟨_, rfl, h⟩
theorem zdH {r : Bd} {fc : FC} {e c : Option Expr} {st : SS} {P : Prop} (hk : exRaise r fc e c st) (H : ∀ x p a b p2, e = some (.Call (.Name x p) [a, b] [] p2) → c = none → exRaise2 r fc x p a b st → P) : P := by
 cases e with
 | none => exact False.elim hk
 | some e =>
  cases c with
  | some c => exact False.elim hk
  | none =>
   revert hk
   refine OM_e fun zz q hk => ?_
   obtain ⟨f, as, ks⟩ := zz
   obtain ⟨p2, rfl⟩ := zd4 q
   rcases as with _ | ⟨a, _ | ⟨b, _ | ⟨_, _⟩⟩⟩ <;> first | exact False.elim hk | skip
   rcases ks with _ | ⟨_, _⟩
   ·revert hk
    refine OM_e fun zz q2 hk => ?_
    obtain ⟨x, p⟩ := zz
    obtain rfl := zbJ q2
    exact H _ _ _ _ _ rfl rfl hk
   ·exact False.elim hk
theorem zeT {T : Tab} {r : Bd} {fc : FC} {b el fi : List Stmt} {hs : List ExceptHandler} {st : SS} {K : KO} {P : Prop} (hk : exTry T r fc b hs el fi st K)
  (H : ∀ x xp f fp args cpos apos c cp n y yp n2 np a atp asp hpp, b = [.Assign [.Name x xp] (.Call (.Name f fp) args [] cpos) apos] → hs = [.ExceptHandler (some (.Name c cp)) (some n) [.Assign [.Name y yp] (.Attribute (.Name n2 np) a atp) asp] hpp] → el = [] → fi = [] → exTry1 T r fc x f fp args c n y n2 a st K → P) : P := by
 rcases b with _ | ⟨s1, _ | ⟨_, _⟩⟩ <;> first | exact False.elim hk | skip
 rcases hs with _ | ⟨h1, _ | ⟨_, _⟩⟩ <;> first | exact False.elim hk | skip
 rcases el with _ | ⟨_, _⟩ <;> first | exact False.elim hk | skip
 rcases fi with _ | ⟨_, _⟩ <;> first | exact False.elim hk | skip
 revert hk
 refine OM_e fun zz q1 hk => ?_
 obtain ⟨t, e⟩ := zz
 revert hk
 refine OM_e fun zz q2 hk => ?_
 obtain ⟨ce, n, s2⟩ := zz
 revert hk
 refine OM_e fun zz q3 hk => ?_
 obtain ⟨x, xp⟩ := zz
 revert hk
 refine OM_e fun zz q4 hk => ?_
 obtain ⟨fe, args, ks⟩ := zz
 revert hk
 refine OM_e fun zz q5 hk => ?_
 obtain ⟨f, fp⟩ := zz
 revert hk
 refine OM_e fun zz q6 hk => ?_
 obtain ⟨c, cp⟩ := zz
 revert hk
 refine OM_e fun zz q7 hk => ?_
 obtain ⟨t2, e2⟩ := zz
 revert hk
 refine OM_e fun zz q8 hk => ?_
 obtain ⟨y, yp⟩ := zz
 revert hk
 refine OM_e fun zz q9 hk => ?_
 obtain ⟨ne, a⟩ := zz
 revert hk
 refine OM_e fun zz q10 hk => ?_
 obtain ⟨n2, np⟩ := zz
 rcases ks with _ | ⟨_, _⟩
 ·have e1 := zbJ q3
  have e2 := zbJ q5
  have e3 := zbJ q6
  have e4 := zbJ q8
  have e5 := zbJ q10
  dsimp only at e1 e2 e3 e4 e5 q4 q7 q9
  subst e1 e2 e3 e4 e5
  obtain ⟨apos, rfl⟩ := zeX q1
  obtain ⟨hpp, rfl⟩ := zk0 q2
  obtain ⟨cpos, e6⟩ := zd4 q4
  obtain ⟨asp, e7⟩ := zeX q7
  obtain ⟨atp, e8⟩ := zjC q9
  dsimp only at e6 e7 e8
  subst e6 e8 e7
  exact H _ _ _ _ _ _ _ _ _ _ _ _ _ _ _ _ _ _ rfl rfl rfl rfl hk
 ·exact False.elim hk
noncomputable def stm (i : Nat) : Option Stmt := PySem.Challenge.pw_pq0299_01.main.body[i]?
set_option backward.match.sparseCases false in
noncomputable def fiOf (d : List (Nat × List SV)) : Option Stmt → Option FI
 | some (.FunctionDef _ a b _ _ _ sc _ _ _) => some ⟨a.args.map (·.arg), (match d with | [] => [(a.args.length, [])] | d => d), b, sc⟩
 | _ => none
set_option backward.match.sparseCases false in
noncomputable def mstm (i j : Nat) : Option Stmt := match stm i with
 | some (.ClassDef _ _ _ b _ _ _ _ _ _ _) => b[j]?
 | _ => none
noncomputable def alk {α : Type} : List (Nat × α) → Nat → Option α
 | [], _ => none
 | (b, v) :: r, a => match Nat.beq b a with
  | true => some v
  | false => alk r a
noncomputable def fnRows : List (Nat × Option FI) := [
 (21, fiOf [] (stm 0)),
 (37, fiOf [(1, [.tup [], .int 0, .int 0, .none, .none, .none, .int 0, .str (Str.ofString ""), .bool false, .none, .bool false, .str (Str.ofString "")])] (mstm 2 0)),
 (44, fiOf [] (mstm 2 1)),
 (65, fiOf [] (mstm 2 4)),
 (79, fiOf [] (stm 3)),
 (93, fiOf [] (mstm 5 0)),
 (113, fiOf [] (mstm 25 0)),
 (120, fiOf [] (mstm 25 1)),
 (127, fiOf [] (mstm 25 2)),
 (134, fiOf [] (mstm 25 3)),
 (141, fiOf [] (mstm 25 4)),
 (153, fiOf [] (stm 26)),
 (158, fiOf [] (stm 27)),
 (173, fiOf [(1, [.none]), (2, [])] (mstm 28 0)),
 (187, fiOf [] (mstm 28 2)),
 (201, fiOf [] (mstm 28 4)),
 (208, fiOf [] (mstm 28 5)),
 (236, fiOf [] (stm 29)),
 (243, fiOf [] (stm 30)),
 (250, fiOf [] (stm 31)),
 (264, fiOf [] (mstm 33 0)),
 (278, fiOf [] (stm 34)),
 (285, fiOf [] (stm 35)),
 (292, fiOf [] (stm 36)),
 (299, fiOf [] (stm 37)),
 (306, fiOf [] (stm 38)),
 (313, fiOf [] (stm 39)),
 (327, fiOf [] (mstm 41 0)),
 (334, fiOf [] (mstm 41 1)),
 (341, fiOf [] (mstm 41 2)),
 (348, fiOf [] (mstm 41 3)),
 (355, fiOf [] (mstm 41 4)),
 (362, fiOf [] (mstm 41 5)),
 (369, fiOf [] (mstm 41 6)),
 (376, fiOf [] (mstm 41 7)),
 (383, fiOf [] (mstm 41 8)),
 (390, fiOf [] (mstm 41 9)),
 (397, fiOf [] (mstm 41 10)),
 (404, fiOf [] (mstm 41 11)),
 (411, fiOf [] (mstm 41 12)),
 (418, fiOf [] (mstm 41 13)),
 (425, fiOf [] (mstm 41 14)),
 (432, fiOf [] (mstm 41 15)),
 (439, fiOf [] (mstm 41 16)),
 (446, fiOf [] (mstm 41 17)),
 (460, fiOf [] (stm 43)),
 (467, fiOf [] (stm 44)),
 (481, fiOf [] (mstm 48 0)),
 (488, fiOf [] (mstm 48 1)),
 (495, fiOf [] (mstm 48 2)),
 (502, fiOf [] (mstm 48 3)),
 (509, fiOf [] (mstm 48 4)),
 (516, fiOf [] (mstm 48 5)),
 (530, fiOf [] (stm 49)),
 (537, fiOf [] (stm 50)),
 (544, fiOf [] (stm 51)),
 (551, fiOf [] (stm 52)),
 (558, fiOf [] (stm 53)),
 (565, fiOf [] (stm 54)),
 (572, fiOf [] (stm 55)),
 (579, fiOf [] (stm 56)),
 (586, fiOf [] (stm 57)),
 (593, fiOf [] (stm 58)),
 (600, fiOf [] (stm 59)),
 (607, fiOf [] (stm 62)),
 (614, fiOf [] (stm 63)),
 (621, fiOf [] (stm 64)),
 (626, fiOf [] (stm 65)),
 (633, fiOf [] (stm 66)),
 (638, fiOf [] (stm 67)),
 (653, fiOf [(2, [.int 1])] (mstm 69 0)),
 (660, fiOf [] (mstm 69 1)),
 (667, fiOf [] (mstm 69 2)),
 (674, fiOf [] (mstm 69 3)),
 (686, fiOf [] (stm 71)),
 (693, fiOf [] (stm 72)),
 (698, fiOf [] (stm 73)),
 (703, fiOf [] (stm 74)),
 (710, fiOf [] (stm 75)),
 (717, fiOf [] (stm 76)),
 (724, fiOf [] (stm 77)),
 (729, fiOf [] (stm 78)),
 (734, fiOf [] (stm 79))]
noncomputable def clsRows : List (Nat × Nat) := [(68, 37), (144, 113), (225, 173), (267, 264), (449, 327), (519, 481), (677, 653)]
noncomputable def methRows : List (Nat × List (Str × Nat)) := [
 (68, [(Str.ofString "depth", 44), (Str.ofString "items", 65)]),
 (144, [(Str.ofString "has", 120), (Str.ofString "is_escape", 127), (Str.ofString "is_word_part", 134), (Str.ofString "style", 141)]),
 (225, [(Str.ofString "modify_all", 187), (Str.ofString "own", 201), (Str.ofString "at", 208)]),
 (267, []),
 (449, [(Str.ofString "state", 334), (Str.ofString "depth", 341), (Str.ofString "end_word", 348), (Str.ofString "begin_word", 355), (Str.ofString "open_at", 362), (Str.ofString "close", 369), (Str.ofString "begin_comment", 376), (Str.ofString "leave_comment", 383), (Str.ofString "begin_string", 390), (Str.ofString "end_string", 397), (Str.ofString "take", 404), (Str.ofString "step_in_comment", 411), (Str.ofString "step_in_string", 418), (Str.ofString "finish_half", 425), (Str.ofString "step_plain", 432), (Str.ofString "step_by_kind", 439), (Str.ofString "step", 446)]),
 (519, [(Str.ofString "counts", 488), (Str.ofString "lost", 495), (Str.ofString "deeper", 502), (Str.ofString "shallower", 509), (Str.ofString "pair", 516)]),
 (677, [(Str.ofString "begin", 660), (Str.ofString "end", 667), (Str.ofString "code_at", 674)])]
noncomputable def globRows : List (Str × SV) := [
 (Str.ofString "WHITESPACE", .str (Str.ofString " ")),
 (Str.ofString "WORD", .str (Str.ofString "w")),
 (Str.ofString "SYMBOL", .str (Str.ofString "_")),
 (Str.ofString "PUNCTUATION", .str (Str.ofString ".")),
 (Str.ofString "OPENS", .str (Str.ofString "(")),
 (Str.ofString "CLOSES", .str (Str.ofString ")")),
 (Str.ofString "PREFIX", .str (Str.ofString "'")),
 (Str.ofString "STRING", .str (Str.ofString "\"")),
 (Str.ofString "ESCAPE", .str (Str.ofString "\\")),
 (Str.ofString "QUOTES", .str (Str.ofString "/")),
 (Str.ofString "PAIRED", .str (Str.ofString "$")),
 (Str.ofString "BEGINS", .str (Str.ofString "<")),
 (Str.ofString "ENDS", .str (Str.ofString ">")),
 (Str.ofString "INHERITS", .str (Str.ofString "@")),
 (Str.ofString "COMMENT_FENCE", .str (Str.ofString "!")),
 (Str.ofString "STRING_FENCE", .str (Str.ofString "|")),
 (Str.ofString "KINDS", .str (Str.ofString " w_.()'\"\\/$<>@!|")),
 (Str.ofString "FLAGS", .str (Str.ofString "1234bcnp")),
 (Str.ofString "ENDS_TOO_SOON", .str (Str.ofString "Containing expression ends prematurely")),
 (Str.ofString "UNBALANCED", .str (Str.ofString "Unbalanced parentheses")),
 (Str.ofString "NEW_LINE", .int 10),
 (Str.ofString "ParseState", .top (.ref 68)),
 (Str.ofString "LispSignal", .top (.ref 96)),
 (Str.ofString "Syntax", .top (.ref 144)),
 (Str.ofString "SyntaxTable", .top (.ref 225)),
 (Str.ofString "Mark", .top (.ref 267)),
 (Str.ofString "Walk", .top (.ref 449)),
 (Str.ofString "Scan", .top (.ref 519)),
 (Str.ofString "TextRow", .top (.ref 677)),
 (Str.ofString "state_of", .top (.ref 79)),
 (Str.ofString "sorted_flags", .top (.ref 153)),
 (Str.ofString "read_syntax", .top (.ref 158)),
 (Str.ofString "letters", .top (.ref 236)),
 (Str.ofString "standard_table", .top (.ref 243)),
 (Str.ofString "lisp_table", .top (.ref 250)),
 (Str.ofString "syntax_at", .top (.ref 278)),
 (Str.ofString "pair_style", .top (.ref 285)),
 (Str.ofString "begin_mark", .top (.ref 292)),
 (Str.ofString "end_mark", .top (.ref 299)),
 (Str.ofString "fits", .top (.ref 306)),
 (Str.ofString "is_quoted", .top (.ref 313)),
 (Str.ofString "comment_end", .top (.ref 460)),
 (Str.ofString "spans_to", .top (.ref 467)),
 (Str.ofString "string_end", .top (.ref 530)),
 (Str.ofString "word_end", .top (.ref 537)),
 (Str.ofString "step_forward", .top (.ref 544)),
 (Str.ofString "take_kind", .top (.ref 551)),
 (Str.ofString "forward_one", .top (.ref 558)),
 (Str.ofString "string_begin", .top (.ref 565)),
 (Str.ofString "word_begin", .top (.ref 572)),
 (Str.ofString "step_backward", .top (.ref 579)),
 (Str.ofString "backward_one", .top (.ref 586)),
 (Str.ofString "scan_by", .top (.ref 593)),
 (Str.ofString "scan_sexps", .top (.ref 600)),
 (Str.ofString "are_pair", .top (.ref 607)),
 (Str.ofString "first_unbalanced", .top (.ref 614)),
 (Str.ofString "defun_starts", .top (.ref 621)),
 (Str.ofString "defun_start", .top (.ref 626)),
 (Str.ofString "line_behind", .top (.ref 633)),
 (Str.ofString "defun_end", .top (.ref 638)),
 (Str.ofString "_law_deck", .top (.ref 686)),
 (Str.ofString "_law_draw", .top (.ref 693)),
 (Str.ofString "_law_many", .top (.ref 698)),
 (Str.ofString "_law_text", .top (.ref 703)),
 (Str.ofString "_law_signs", .top (.ref 710)),
 (Str.ofString "_law_due", .top (.ref 717)),
 (Str.ofString "_law_behind", .top (.ref 724)),
 (Str.ofString "_law_defuns_right", .top (.ref 729)),
 (Str.ofString "law", .top (.ref 734))]
noncomputable def bfRows : List (Str × BF) := [(Str.ofString "len", .len), (Str.ofString "ord", .ord), (Str.ofString "abs", .abs), (Str.ofString "min", .min), (Str.ofString "sum", .sum), (Str.ofString "all", .all), (Str.ofString "list", .list), (Str.ofString "range", .range)]
noncomputable def globOf (x : Str) : Option SV := match lk globRows x with
 | some v => some v
 | none => match lk bfRows x with
  | some f => some (.bf f)
  | none => none
noncomputable def fnOfA (a : Nat) : Option FI := match alk fnRows a with
 | some x => x
 | none => none
noncomputable def methOfA (C : Nat) (m : Str) : Option Nat := match alk methRows C with
 | some l => lk l m
 | none => none
noncomputable def attrRows : List (Nat × List Str) := [
 (68, [Str.ofString "opens", Str.ofString "below", Str.ofString "least", Str.ofString "whole", Str.ofString "word", Str.ofString "string", Str.ofString "comment", Str.ofString "style", Str.ofString "nests", Str.ofString "start", Str.ofString "quoted", Str.ofString "half"]),
 (144, [Str.ofString "kind", Str.ofString "match", Str.ofString "flags"]),
 (225, [Str.ofString "parent", Str.ofString "rows"]),
 (267, [Str.ofString "length", Str.ofString "style", Str.ofString "nests", Str.ofString "is_fence"]),
 (449, [Str.ofString "view", Str.ofString "table", Str.ofString "place", Str.ofString "opens", Str.ofString "below", Str.ofString "least", Str.ofString "whole", Str.ofString "word", Str.ofString "string", Str.ofString "comment", Str.ofString "style", Str.ofString "nests", Str.ofString "start", Str.ofString "quoted", Str.ofString "half"]),
 (519, [Str.ofString "view", Str.ofString "table", Str.ofString "place", Str.ofString "depth", Str.ofString "least", Str.ofString "good", Str.ofString "is_expression", Str.ofString "is_paired", Str.ofString "is_done"]),
 (677, [Str.ofString "codes", Str.ofString "place"])]
noncomputable def memS : List Str → Str → Bool
 | [], _ => false
 | y :: r, x => match sEq y x with
  | true => true
  | false => memS r x
noncomputable def attrOf (C : Nat) (a : Str) : Bool := match alk attrRows C with
 | some l => memS l a
 | none => false
noncomputable def tab (cells : List Nat) (spec : Nat → Option (Nat × Spec)) (tr : Bool) : Tab := ⟨globOf, fnOfA, alk clsRows, methOfA, attrOf, attrOf, spec, cells, tr⟩
noncomputable abbrev Sto := Addr → Option Obj
noncomputable abbrev tupO (vs : List Value) (n : Nat) : Obj := { cls := .type "tuple", data := .seq vs.toArray n }
noncomputable abbrev lstO (vs : List Value) (n : Nat) : Obj := { cls := .type "list", data := .seq vs.toArray n }
structure Gl where
 prog : Program
 w : World
 K : Frag
 h0 : Heap
 p : Program
 loose : List Str
 mg : Str → Option Value
 mb : Str → Option Value
 X : K.In h0
 T : TopRead p loose mg mb h0
 big : ∃ a o, sysModules < a ∧ h0.get? a = some o
section
variable (g : Gl)
noncomputable def MapO (o : Obj) (f : Int → Option Value) : Prop := o.ExactDict ∧ ∃ es ep, o.data = .dict es ep ∧ KeysOf (PySem.intKind g.prog g.w) es ∧ ∀ k, findBy (PySem.intKind g.prog g.w).is es k = f k
noncomputable def SMapO (o : Obj) (f : Str → Option Value) : Prop := o.ExactDict ∧ ∃ es ep, o.data = .dict es ep ∧ KeysOf (PySem.strKind g.prog g.w) es ∧ ∀ k, findBy (PySem.strKind g.prog g.w).is es k = f k
noncomputable def KeyOk (e : DictEntry) (x : Str) : Prop := e.hash = PyData.keyHash g.w.params x ∧ ∃ t, e.key = .str x t
mutual
noncomputable def VR (G : Sto) (rs : List Addr) : SV → Value → Prop
 | .none, v => v = .none
 | .bool b, v => v = .bool b
 | .int i, v => ∃ t, v = .int i t
 | .str s, v => ∃ t, v = .str s t
 | .top u, v => v = u
 | .bf f, v => v = f.val
 | .obj i, v => ∃ a, rs[i]? = some a ∧ v = .ref a
 | .ins C i, v => ∃ x d, rs[i]? = some d ∧ G x = some (instObj C d) ∧ v = .ref x
 | .imm C fs, v => ∃ x d es n, v = .ref x ∧ G x = some (instObj C d) ∧ G d = some (dictOf es n) ∧ FRl G [] fs es
 | .tup svs, v => ∃ a vs n, v = .ref a ∧ G a = some (tupO vs n) ∧ VRl G rs svs vs
 | .lst svs, v => ∃ a vs n, v = .ref a ∧ G a = some (lstO vs n) ∧ VRl G [] svs vs
 | .dct es, v => ∃ a o f, v = .ref a ∧ G a = some o ∧ MapO g o f ∧ (a == sysModules) = false ∧ DRl G [] es f
 | .sdct es, v => ∃ a o f, v = .ref a ∧ G a = some o ∧ SMapO g o f ∧ SRl G [] es f
 | .rng n, v => 0 ≤ n ∧ n ≤ 1000 ∧ ∃ a o t1 t2 t3, v = .ref a ∧ G a = some o ∧ o = { cls := .type "range", data := .fields #[.int 0 t1, .int n t2, .int 1 t3] }
 | .exc sy, v => ∃ x o C d es n t, v = .ref x ∧ G x = some o ∧ o.cls = .ref C ∧ C = 96 ∧ o.dict = some d ∧ G d = some (dictOf es n) ∧ getL (Str.ofString "symbol") es = some (some (.str sy t))
noncomputable def VRl (G : Sto) (rs : List Addr) : List SV → List Value → Prop
 | [], vs => vs = []
 | sv :: r, vs => ∃ v t, vs = v :: t ∧ VR G rs sv v ∧ VRl G rs r t
noncomputable def FRl (G : Sto) (rs : List Addr) : List (Str × SV) → List DictEntry → Prop
 | [], es => es = []
 | (x, sv) :: r, es => ∃ e t, es = e :: t ∧ KeyOk g e x ∧ VR G rs sv e.val ∧ FRl G rs r t
noncomputable def DRl (G : Sto) (rs : List Addr) : List (Int × SV) → (Int → Option Value) → Prop
 | [], f => ∀ k, f k = none
 | (k, sv) :: r, f => ∃ v f', (∀ x, f x = if x = k then some v else f' x) ∧ VR G rs sv v ∧ DRl G rs r f'
noncomputable def SRl (G : Sto) (rs : List Addr) : List (Str × SV) → (Str → Option Value) → Prop
 | [], f => ∀ k, f k = none
 | (k, sv) :: r, f => ∃ v f', (∀ x, f x = if x = k then some v else f' x) ∧ VR G rs sv v ∧ SRl G rs r f'
end
end
structure Ext (G : Sto) (rs : List Addr) (G' : Sto) (rs' : List Addr) : Prop where
 g : ∀ b o, G b = some o → G' b = some o
 r : ∃ more, rs' = rs ++ more
theorem Ext.refl {G : Sto} {rs : List Addr} : Ext G rs G rs := ⟨fun _ _ e => e, [], by simp⟩
theorem Ext.nil {G G' : Sto} {rs rs' : List Addr} (x : Ext G rs G' rs') : Ext G [] G' [] := ⟨x.g, [], by simp⟩
theorem Ext.ofNil {G : Sto} {rs : List Addr} : Ext G [] G rs := ⟨fun _ _ e => e, rs, by simp⟩
theorem Ext.trans {G G' G'' : Sto} {rs rs' rs'' : List Addr} (x : Ext G rs G' rs') (y : Ext G' rs' G'' rs'') : Ext G rs G'' rs'' := by
 obtain ⟨m, rfl⟩ := x.r
 obtain ⟨m', rfl⟩ := y.r
 exact ⟨fun b o e => y.g b o (x.g b o e), m ++ m', by simp⟩
theorem Ext.at {G G' : Sto} {rs rs' : List Addr} (x : Ext G rs G' rs') {i : Nat} {a : Addr} (e : rs[i]? = some a) : rs'[i]? = some a := by
 obtain ⟨m, rfl⟩ := x.r
 rw [List.getElem?_append_left (List.getElem?_eq_some_iff.mp e).1]; exact e
section
variable {g : Gl} {G G' : Sto}
mutual
theorem VR.mono {rs rs' : List Addr} (x : Ext G rs G' rs') : ∀ {sv : SV} {v : Value}, VR g G rs sv v → VR g G' rs' sv v
 | .none, _, h => h
 | .bool b, _, h => h
 | .int i, _, h => h
 | .str s, _, h => h
 | .top u, _, h => h
 | .bf f, _, h => h
 | .obj i, _, h => by
  obtain ⟨a, e, r⟩ := h
  exact ⟨a, x.at e, r⟩
 | .ins C i, _, h => by
  obtain ⟨y, d, e, e2, r⟩ := h
  exact ⟨y, d, x.at e, x.g _ _ e2, r⟩
 | .imm C fs, _, h => by
  obtain ⟨y, d, es, n, e, e2, e3, r⟩ := h
  exact ⟨y, d, es, n, e, x.g _ _ e2, x.g _ _ e3, FRl.mono x.nil r⟩
 | .tup svs, _, h => by
  obtain ⟨a, vs, n, e, e2, r⟩ := h
  exact ⟨a, vs, n, e, x.g _ _ e2, VRl.mono x r⟩
 | .lst svs, _, h => by
  obtain ⟨a, vs, n, e, e2, r⟩ := h
  exact ⟨a, vs, n, e, x.g _ _ e2, VRl.mono x.nil r⟩
 | .dct es, _, h => by
  obtain ⟨a, o, f, e, e2, e3, e4, r⟩ := h
  exact ⟨a, o, f, e, x.g _ _ e2, e3, e4, DRl.mono x.nil r⟩
 | .sdct es, _, h => by
  obtain ⟨a, o, f, e, e2, e3, r⟩ := h
  exact ⟨a, o, f, e, x.g _ _ e2, e3, SRl.mono x.nil r⟩
 | .rng n, _, h => by
  obtain ⟨n1, n2, a, o, t1, t2, t3, e, e2, e3⟩ := h
  exact ⟨n1, n2, a, o, t1, t2, t3, e, x.g _ _ e2, e3⟩
 | .exc sy, _, h => by
  obtain ⟨y, o, C, d, es, n, t, e, e2, e3, e4, e5, e6, e7⟩ := h
  exact ⟨y, o, C, d, es, n, t, e, x.g _ _ e2, e3, e4, e5, x.g _ _ e6, e7⟩
theorem VRl.mono {rs rs' : List Addr} (x : Ext G rs G' rs') : ∀ {svs : List SV} {vs : List Value}, VRl g G rs svs vs → VRl g G' rs' svs vs
 | [], _, h => h
 | sv :: r, _, h => by
  obtain ⟨v, t, e, h1, h2⟩ := h
  exact ⟨v, t, e, VR.mono x h1, VRl.mono x h2⟩
theorem FRl.mono {rs rs' : List Addr} (x : Ext G rs G' rs') : ∀ {fs : List (Str × SV)} {es : List DictEntry}, FRl g G rs fs es → FRl g G' rs' fs es
 | [], _, h => h
 | (y, sv) :: r, _, h => by
  obtain ⟨v, t, e, h0, h1, h2⟩ := h
  exact ⟨v, t, e, h0, VR.mono x h1, FRl.mono x h2⟩
theorem DRl.mono {rs rs' : List Addr} (x : Ext G rs G' rs') : ∀ {fs : List (Int × SV)} {f : Int → Option Value}, DRl g G rs fs f → DRl g G' rs' fs f
 | [], _, h => h
 | (y, sv) :: r, _, h => by
  obtain ⟨v, t, e, h1, h2⟩ := h
  exact ⟨v, t, e, VR.mono x h1, DRl.mono x h2⟩
theorem SRl.mono {rs rs' : List Addr} (x : Ext G rs G' rs') : ∀ {fs : List (Str × SV)} {f : Str → Option Value}, SRl g G rs fs f → SRl g G' rs' fs f
 | [], _, h => h
 | (y, sv) :: r, _, h => by
  obtain ⟨v, t, e, h1, h2⟩ := h
  exact ⟨v, t, e, VR.mono x h1, SRl.mono x h2⟩
end
end
theorem zdY : ∀ {a b : List Nat}, natsEq a b = true ↔ a = b
 | [], [] => by simp [natsEq]
 | [], _ :: _ => by simp [natsEq]
 | _ :: _, [] => by simp [natsEq]
 | x :: r, y :: t => by
  unfold natsEq
  cases q : Nat.beq x y with
  | true => simp [Nat.eq_of_beq_eq_true q, zdY (a := r) (b := t)]
  | false => simp [Nat.ne_of_beq_eq_false q]
theorem sEq_iff {a b : Str} : sEq a b = true ↔ a = b := by
 unfold sEq
 rw [zdY]
 constructor
 ·intro h
  cases a; cases b
  exact congrArg _ (Array.toList_inj.mp h)
 ·rintro rfl; rfl
theorem sEq_false {a b : Str} : sEq a b = false ↔ a ≠ b := by
 rw [← Bool.not_eq_true, sEq_iff]
theorem zaR {α : Type} {y : Str} {v : α} {r : List (Str × α)} {x : Str} : lk ((y, v) :: r) x = if y = x then some v else lk r x := by
 show (match sEq y x with | true => some v | false => lk r x) = _
 by_cases h : y = x
 ·rw [sEq_iff.mpr h, if_pos h]
 ·rw [sEq_false.mpr h, if_neg h]
theorem zbP {α : Type} : ∀ {l : List (Str × α)} {x : Str}, lk l x = l.lookup x
 | [], _ => rfl
 | (y, v) :: r, x => by
  rw [zaR, List.lookup_cons, zbP (l := r)]
  by_cases h : y = x
  ·subst h; simp
  ·have : (x == y) = false := beq_eq_false_iff_ne.mpr fun e => h e.symm
   rw [if_neg h, this]
theorem zdB {α : Type} {y : Str} {u v : α} {r : List (Str × α)} {x : Str} : lset ((y, u) :: r) x v = if y = x then (y, v) :: r else (y, u) :: lset r x v := by
 show (match sEq y x with | true => (y, v) :: r | false => (y, u) :: lset r x v) = _
 by_cases h : y = x
 ·rw [sEq_iff.mpr h, if_pos h]
 ·rw [sEq_false.mpr h, if_neg h]
theorem zbL {α : Type} : ∀ {l : List (Str × α)} {x y : Str} {v : α}, lk (lset l x v) y = if x = y then some v else lk l y
 | [], x, y, v => by show lk [(x, v)] y = _; rw [zaR]
 | (z, u) :: r, x, y, v => by
  rw [zdB]
  by_cases h : z = x
  ·subst h
   rw [if_pos rfl, zaR, zaR]
   by_cases q : z = y <;> simp [q]
  ·rw [if_neg h, zaR, zbL (l := r), zaR]
   by_cases q : z = y
   ·subst q
    rw [if_pos rfl, if_neg (fun e => h e.symm), if_pos rfl]
   ·rw [if_neg q, if_neg q]
section
variable {g : Gl} {G : Sto} {rs : List Addr}
theorem VRl.length : ∀ {svs : List SV} {vs : List Value}, VRl g G rs svs vs → vs.length = svs.length
 | [], _, h => by simp only [VRl] at h; subst h; rfl
 | sv :: r, _, h => by
  obtain ⟨v, t, rfl, _, h2⟩ := h
  simp [VRl.length h2]
theorem VRl.get : ∀ {svs : List SV} {vs : List Value}, VRl g G rs svs vs → ∀ {i : Nat} {sv : SV}, svs[i]? = some sv → ∃ v, vs[i]? = some v ∧ VR g G rs sv v
 | [], _, h, i, sv, e => by simp at e
 | s :: r, _, h, i, sv, e => by
  obtain ⟨v, t, rfl, h1, h2⟩ := h
  cases i with
  | zero => simp at e; subst e; exact ⟨v, rfl, h1⟩
  | succ i => simp at e; obtain ⟨u, q, z⟩ := VRl.get h2 e; exact ⟨u, by simpa using q, z⟩
theorem VRl.get' : ∀ {svs : List SV} {vs : List Value}, VRl g G rs svs vs → ∀ {i : Nat} {v : Value}, vs[i]? = some v → ∃ sv, svs[i]? = some sv ∧ VR g G rs sv v
 | [], _, h, i, v, e => by simp only [VRl] at h; subst h; simp at e
 | s :: r, _, h, i, u, e => by
  obtain ⟨v, t, rfl, h1, h2⟩ := h
  cases i with
  | zero => simp at e; subst e; exact ⟨s, rfl, h1⟩
  | succ i => simp at e; obtain ⟨u', q, z⟩ := VRl.get' h2 e; exact ⟨u', by simpa using q, z⟩
theorem VRl.append : ∀ {svs tvs : List SV} {vs ws : List Value}, VRl g G rs svs vs → VRl g G rs tvs ws → VRl g G rs (svs ++ tvs) (vs ++ ws)
 | [], _, _, _, h, h' => by simp only [VRl] at h; subst h; exact h'
 | s :: r, _, _, _, h, h' => by
  obtain ⟨v, t, rfl, h1, h2⟩ := h
  show VRl g G rs (s :: (r ++ _)) (v :: (t ++ _))
  exact ⟨v, _, rfl, h1, VRl.append h2 h'⟩
theorem VRl.cons {sv : SV} {svs : List SV} {v : Value} {vs : List Value} (h : VR g G rs sv v) (h' : VRl g G rs svs vs) : VRl g G rs (sv :: svs) (v :: vs) := by
 simp only [VRl]; exact ⟨v, vs, rfl, h, h'⟩
theorem VRl.nil : VRl g G rs [] [] := rfl
theorem VRl.one {sv : SV} {v : Value} (h : VR g G rs sv v) : VRl g G rs [sv] [v] := VRl.cons h VRl.nil
theorem VRl.uncons {sv : SV} {svs : List SV} {vs : List Value} (h : VRl g G rs (sv :: svs) vs) : ∃ v t, vs = v :: t ∧ VR g G rs sv v ∧ VRl g G rs svs t := h
theorem VRl.unnil {vs : List Value} (h : VRl g G rs [] vs) : vs = [] := h
theorem VRl.split : ∀ {svs tvs : List SV} {vs : List Value}, VRl g G rs (svs ++ tvs) vs → ∃ v w, vs = v ++ w ∧ VRl g G rs svs v ∧ VRl g G rs tvs w
 | [], _, vs, h => ⟨[], vs, rfl, VRl.nil, h⟩
 | s :: r, _, vs, h => by
  obtain ⟨v, t, rfl, h1, h2⟩ := VRl.uncons (show VRl g G rs (s :: (r ++ _)) vs from h)
  obtain ⟨a, b, rfl, h3, h4⟩ := VRl.split h2
  exact ⟨v :: a, b, rfl, VRl.cons h1 h3, h4⟩
theorem VRl.take : ∀ {svs : List SV} {vs : List Value} (n : Nat), VRl g G rs svs vs → VRl g G rs (svs.take n) (vs.take n)
 | _, _, 0, _ => by simp [VRl]
 | [], _, n + 1, h => by rw [VRl.unnil h]; simpa using VRl.nil
 | s :: r, _, n + 1, h => by
  obtain ⟨v, t, rfl, h1, h2⟩ := VRl.uncons h
  exact VRl.cons h1 (VRl.take n h2)
theorem VRl.drop : ∀ {svs : List SV} {vs : List Value} (n : Nat), VRl g G rs svs vs → VRl g G rs (svs.drop n) (vs.drop n)
 | _, _, 0, h => by simpa using h
 | [], _, n + 1, h => by rw [VRl.unnil h]; simpa using VRl.nil
 | s :: r, _, n + 1, h => by
  obtain ⟨v, t, rfl, h1, h2⟩ := VRl.uncons h
  exact VRl.drop n h2
theorem VRl.set : ∀ {svs : List SV} {vs : List Value} (n : Nat) {sv : SV} {v : Value}, VRl g G rs svs vs → VR g G rs sv v → VRl g G rs (svs.set n sv) (vs.set n v)
 | [], _, _, _, _, h, _ => by rw [VRl.unnil h]; simpa using VRl.nil
 | s :: r, _, 0, _, _, h, h' => by
  obtain ⟨v, t, rfl, h1, h2⟩ := VRl.uncons h
  exact VRl.cons h' h2
 | s :: r, _, n + 1, _, _, h, h' => by
  obtain ⟨v, t, rfl, h1, h2⟩ := VRl.uncons h
  exact VRl.cons h1 (VRl.set n h2 h')
theorem FRl.find : ∀ {fs : List (Str × SV)} {es : List DictEntry}, FRl g G rs fs es → ∀ {x : Str} {sv : SV}, lk fs x = some sv → ∃ v, getL x es = some (some v) ∧ VR g G rs sv v
 | [], _, h, x, sv, e => by cases e
 | (y, s) :: r, _, h, x, sv, e => by
  obtain ⟨d, t, rfl, ⟨_, tk, hk⟩, h1, h2⟩ := h
  rw [zaR] at e
  have hb : d.key.isStr x = decide (y = x) := by
   rw [hk]
   show (y == x) = _
   by_cases q : y = x
   ·subst q; simp
   ·simp [q]
  by_cases q : y = x
  ·rw [if_pos q] at e
   cases e
   refine ⟨d.val, ?_, h1⟩
   unfold getL
   rw [List.find?_cons, hb, decide_eq_true q]
  ·rw [if_neg q] at e
   obtain ⟨v, hv, z⟩ := FRl.find h2 e
   refine ⟨v, ?_, z⟩
   unfold getL at hv ⊢
   rw [List.find?_cons, hb, decide_eq_false q]
   cases w : List.find? (fun x_1 => x_1.key.isStr x) t with
   | some e' => rw [w] at hv; exact hv
   | none => rw [w] at hv; dsimp only at hv; split at hv <;> cases hv
theorem FRl.noRef : ∀ {fs : List (Str × SV)} {es : List DictEntry}, FRl g G rs fs es → es.any (·.refKey) = false
 | [], _, h => by simp only [FRl] at h; subst h; rfl
 | (y, s) :: r, _, h => by
  obtain ⟨d, t, rfl, ⟨_, tk, hk⟩, h1, h2⟩ := h
  rw [List.any_cons, FRl.noRef h2]
  simp [DictEntry.refKey, hk]
theorem FRl.none : ∀ {fs : List (Str × SV)} {es : List DictEntry}, FRl g G rs fs es → ∀ {x : Str}, lk fs x = Option.none → getL x es = some Option.none
 | [], _, h, x, e => by simp only [FRl] at h; subst h; rfl
 | (y, s) :: r, _, h, x, e => by
  have hn := FRl.noRef h
  obtain ⟨d, t, rfl, ⟨_, tk, hk⟩, h1, h2⟩ := h
  rw [zaR] at e
  have hb : d.key.isStr x = decide (y = x) := by
   rw [hk]
   show (y == x) = _
   by_cases q : y = x
   ·subst q; simp
   ·simp [q]
  by_cases q : y = x
  ·rw [if_pos q] at e; cases e
  ·rw [if_neg q] at e
   have ih := FRl.none h2 e
   unfold getL at ih ⊢
   rw [List.find?_cons, hb, decide_eq_false q, hn]
   cases w : List.find? (fun x_1 => x_1.key.isStr x) t with
   | some e' => rw [w] at ih; cases ih
   | none => rfl
theorem FRl.put : ∀ {fs : List (Str × SV)} {es : List DictEntry}, FRl g G rs fs es → ∀ {x : Str} {sv : SV} {v : Value} {t : Tok}, VR g G rs sv v → FRl g G rs (lset fs x sv) (putL x (PyData.keyHash g.w.params x) (.str x t) v es)
 | [], _, h, x, sv, v, t, hv => by
  simp only [FRl] at h; subst h
  show FRl g G rs [(x, sv)] [_]
  exact ⟨_, [], rfl, ⟨rfl, t, rfl⟩, hv, rfl⟩
 | (y, s) :: r, _, h, x, sv, v, t, hv => by
  obtain ⟨d, tl, rfl, ⟨hh, tk, hk⟩, h1, h2⟩ := h
  have hb : d.key.isStr x = decide (y = x) := by
   rw [hk]
   show (y == x) = _
   by_cases q : y = x
   ·subst q; simp
   ·simp [q]
  rw [zdB]
  unfold putL
  rw [hb]
  by_cases q : y = x
  ·simp only [q, decide_true, if_true]
   exact ⟨_, tl, rfl, ⟨q ▸ hh, tk, q ▸ hk⟩, hv, h2⟩
  ·simp only [q, decide_false, Bool.false_eq_true, if_false]
   exact ⟨d, _, rfl, ⟨hh, tk, hk⟩, h1, FRl.put h2 hv⟩
theorem FRl.length : ∀ {fs : List (Str × SV)} {es : List DictEntry}, FRl g G rs fs es → es.length = fs.length
 | [], _, h => by simp only [FRl] at h; subst h; rfl
 | (y, s) :: r, _, h => by
  obtain ⟨d, t, rfl, _, h1, h2⟩ := h
  simp [FRl.length h2]
theorem zf5 {α : Type} : ∀ (l : List (Str × α)) (x : Str) (v : α), (lset l x v).length ≤ l.length + 1
 | [], _, _ => by simp [lset]
 | (y, u) :: r, x, v => by
  rw [zdB]
  by_cases q : y = x
  ·rw [if_pos q]; simp
  ·rw [if_neg q]; simp [zf5 r]
theorem DRl.some : ∀ {es : List (Int × SV)} {f : Int → Option Value}, DRl g G rs es f → ∀ {k : Int} {sv : SV}, ilk es k = some sv → ∃ v, f k = some v ∧ VR g G rs sv v
 | [], _, h, k, sv, e => by cases e
 | (y, s) :: r, f, h, k, sv, e => by
  obtain ⟨v, f', hf, h1, h2⟩ := h
  have e' : (match eqB y k with | true => Option.some s | false => ilk r k) = Option.some sv := e
  by_cases q : y = k
  ·rw [show eqB y k = true from decide_eq_true q] at e'
   cases e'
   exact ⟨v, by rw [hf, if_pos q.symm], h1⟩
  ·rw [show eqB y k = false from decide_eq_false q] at e'
   obtain ⟨u, hu, z⟩ := DRl.some h2 e'
   exact ⟨u, by rw [hf, if_neg fun w => q w.symm]; exact hu, z⟩
theorem DRl.none : ∀ {es : List (Int × SV)} {f : Int → Option Value}, DRl g G rs es f → ∀ {k : Int}, ilk es k = Option.none → f k = Option.none
 | [], _, h, k, e => by simp only [DRl] at h; exact h k
 | (y, s) :: r, f, h, k, e => by
  obtain ⟨v, f', hf, h1, h2⟩ := h
  have e' : (match eqB y k with | true => Option.some s | false => ilk r k) = Option.none := e
  by_cases q : y = k
  ·rw [show eqB y k = true from decide_eq_true q] at e'
   cases e'
  ·rw [show eqB y k = false from decide_eq_false q] at e'
   rw [hf, if_neg fun w => q w.symm]
   exact DRl.none h2 e'
theorem DRl.set : ∀ {es : List (Int × SV)} {f : Int → Option Value}, DRl g G rs es f → ∀ {k : Int} {sv : SV} {v : Value}, VR g G rs sv v → DRl g G rs (iset es k sv) (fun x => if x = k then Option.some v else f x)
 | [], f, h, k, sv, v, hv => by
  show DRl g G rs [(k, sv)] _
  exact ⟨v, f, fun _ => rfl, hv, h⟩
 | (y, s) :: r, f, h, k, sv, v, hv => by
  obtain ⟨u, f', hf, h1, h2⟩ := h
  show DRl g G rs (match eqB y k with | true => (y, sv) :: r | false => (y, s) :: iset r k sv) _
  by_cases q : y = k
  ·rw [show eqB y k = true from decide_eq_true q]
   refine ⟨v, f', fun x => ?_, hv, h2⟩
   dsimp only
   rw [hf]
   by_cases z : x = k
   ·rw [if_pos z, if_pos (z.trans q.symm)]
   ·rw [if_neg z, if_neg (fun w => z (w.trans q)), if_neg (fun w => z (w.trans q))]
  ·rw [show eqB y k = false from decide_eq_false q]
   refine ⟨u, fun x => if x = k then Option.some v else f' x, fun x => ?_, h1, DRl.set h2 hv⟩
   dsimp only
   rw [hf]
   by_cases z : x = y
   ·subst z
    rw [if_neg q, if_pos rfl, if_pos rfl]
   ·rw [if_neg z, if_neg z]
theorem SRl.some : ∀ {es : List (Str × SV)} {f : Str → Option Value}, SRl g G rs es f → ∀ {k : Str} {sv : SV}, lk es k = some sv → ∃ v, f k = some v ∧ VR g G rs sv v
 | [], _, h, k, sv, e => by cases e
 | (y, s) :: r, f, h, k, sv, e => by
  obtain ⟨v, f', hf, h1, h2⟩ := h
  rw [zaR] at e
  by_cases q : y = k
  ·rw [if_pos q] at e
   cases e
   exact ⟨v, by rw [hf, if_pos q.symm], h1⟩
  ·rw [if_neg q] at e
   obtain ⟨u, hu, z⟩ := SRl.some h2 e
   exact ⟨u, by rw [hf, if_neg fun w => q w.symm]; exact hu, z⟩
end
structure Cx where
 A : Around
 env : Env
 hs : Heap
 G0 : Sto
 own : List Addr
 wr : List Addr
 gg : Array GenState
 dd : Drawn
 os : OsState
 frs : List Addr
noncomputable abbrev Cx.sh (X : Cx) (h : Heap) (tk : Nat) : Shared := ⟨h, X.gg, X.dd, tk, X.os⟩
noncomputable def Cx.fc (X : Cx) : List Addr := X.env.locals :: X.env.cells.map (·.2)
noncomputable def Cx.fs (X : Cx) : List Addr := X.env.locals :: X.frs
noncomputable def Cx.fa (X : Cx) : List Addr := X.env.locals :: (X.env.cells.map (·.2) ++ X.frs)
theorem Cx.fa_loc {X : Cx} : X.env.locals ∈ X.fa := List.mem_cons_self
theorem Cx.fa_cell {X : Cx} {p : Str × Addr} (hp : p ∈ X.env.cells) : p.2 ∈ X.fa := List.mem_cons_of_mem _ (List.mem_append_left _ (List.mem_map_of_mem hp))
theorem Cx.fa_fs {X : Cx} {a : Addr} (h : a ∈ X.fs) : a ∈ X.fa := by
 rcases List.mem_cons.mp h with rfl | q
 ·exact List.mem_cons_self
 ·exact List.mem_cons_of_mem _ (List.mem_append_right _ q)
theorem Cx.fa_fc {X : Cx} {a : Addr} (h : a ∈ X.fc) : a ∈ X.fa := by
 rcases List.mem_cons.mp h with rfl | q
 ·exact List.mem_cons_self
 ·exact List.mem_cons_of_mem _ (List.mem_append_left _ q)
theorem Cx.fa_cases {X : Cx} {a : Addr} (h : a ∈ X.fa) : a = X.env.locals ∨ a ∈ X.env.cells.map (·.2) ∨ a ∈ X.frs := by
 rcases List.mem_cons.mp h with rfl | q
 ·exact .inl rfl
 ·exact .inr (List.mem_append.mp q)
noncomputable def NameAt (env : Env) (h : Heap) (x : Str) (v : Value) : Prop :=
 (env.kindOf x = some .local ∧ ∃ m, h.Ns env.locals m ∧ m x = some v) ∨
 ((env.kindOf x = some .cell ∨ env.kindOf x = some .free) ∧ ∃ c, env.cells.lookup x = some c ∧ h.IsCell c (some v))
noncomputable def CellR (g : Gl) (G : Sto) (rs : List Addr) (h : Heap) (a : Addr) : SO → Prop
 | .seq svs => ∃ vs n, h.get? a = some (lstO vs n) ∧ VRl g G rs svs vs
 | .fields fs => ∃ es n, h.get? a = some (dictOf es n) ∧ FRl g G rs fs es
 | .idict es k => ∃ o f ds ep, h.get? a = some o ∧ MapO g o f ∧ o.data = .dict ds ep ∧ ds.size ≤ k ∧ (a == sysModules) = false ∧ DRl g G rs es f
structure Rel (g : Gl) (X : Cx) (G : Sto) (rs : List Addr) (st : SS) (h : Heap) : Prop where
 sto : ∀ b o, G b = some o → h.get? b = some o
 base : ∀ b o, g.h0.get? b = some o → G b = some o
 ns : ∃ m, h.Ns X.env.locals m
 cels : ∀ p ∈ X.env.cells, ∃ v, h.IsCell p.2 v
 loc : ∀ x sv, lk st.loc x = some sv → ∃ v, VR g G rs sv v ∧ NameAt X.env h x v
 len : rs.length = st.H.length
 cell : ∀ (i : Nat) a so, rs[i]? = some a → st.H[i]? = some so → CellR g G rs h a so
 nd : (∀ a ∈ X.fa, a ∉ rs) ∧ rs.Nodup
 fresh : ∀ a ∈ X.fa ++ rs, G a = none
 own : ∀ a ∈ X.wr ++ rs, a ∈ X.own ∨ X.hs.get? a = none
 wfa : ∀ a ∈ X.wr, a ∈ X.fc
 ownl : ∀ a ∈ X.own, ∃ o, h.get? a = some o
 old : ∀ b o, X.hs.get? b = some o → b ∉ X.own → b ∉ X.fs → h.get? b = some o
 olds : ∀ b o, X.hs.get? b = some o → b ∉ X.own → b ∈ X.fs → ∃ sl, h.get? b = some { o with slots := sl }
 fo : ∀ a ∈ X.frs, a ∉ X.fc ∧ ∃ o, h.get? a = some o ∧ ∀ vs, o.data ≠ .fields vs
 lc : X.env.locals ∉ X.env.cells.map (·.2)
 gnew : ∀ b o, G b = some o → X.G0 b = some o ∨ X.hs.get? b = none
theorem Ns.at_eq {h : Heap} {a : Addr} {m m' : Str → Option Value} (x : h.Ns a m) (y : h.Ns a m') : m = m' := by
 obtain ⟨o, es, ep, ho, hd, _, hf⟩ := x
 obtain ⟨o', es', ep', ho', hd', _, hf'⟩ := y
 rw [ho] at ho'
 cases ho'
 rw [hd] at hd'
 cases hd'
 funext n
 rw [← hf, hf']
section
variable {g : Gl} {X : Cx} {G G' : Sto} {rs : List Addr} {st : SS} {h h' : Heap}
theorem NameAt.keep {env : Env} {x : Str} {v : Value} (n : NameAt env h x v) (k : ∀ b o, (b = env.locals ∨ b ∈ env.cells.map (·.2)) → h.get? b = some o → h'.get? b = some o) : NameAt env h' x v := by
 rcases n with ⟨hk, m, hn, hv⟩ | ⟨hk, c, hc, o, ho, hd⟩
 ·obtain ⟨o, es, ep, ho, r⟩ := hn
  exact .inl ⟨hk, m, ⟨o, es, ep, k _ _ (.inl rfl) ho, r⟩, hv⟩
 ·exact .inr ⟨hk, c, hc, o, k _ _ (.inr (List.mem_map.mpr ⟨(x, c), mem_of_lookup hc, rfl⟩)) ho, hd⟩
theorem CellR.keep {a : Addr} {so : SO} (c : CellR g G rs h a so) (k : ∀ o, h.get? a = some o → h'.get? a = some o) : CellR g G rs h' a so := by
 cases so with
 | seq svs => obtain ⟨vs, n, e, r⟩ := c; exact ⟨vs, n, k _ e, r⟩
 | fields fs => obtain ⟨vs, n, e, r⟩ := c; exact ⟨vs, n, k _ e, r⟩
 | idict es n => obtain ⟨o, f, ds, ep, e, r⟩ := c; exact ⟨o, f, ds, ep, k _ e, r⟩
theorem CellR.mono {a : Addr} {so : SO} {rs' : List Addr} (x : Ext G rs G' rs') (c : CellR g G rs h a so) : CellR g G' rs' h a so := by
 cases so with
 | seq svs => obtain ⟨vs, n, e, r⟩ := c; exact ⟨vs, n, e, VRl.mono x r⟩
 | fields fs => obtain ⟨vs, n, e, r⟩ := c; exact ⟨vs, n, e, FRl.mono x r⟩
 | idict es n => obtain ⟨o, f, ds, ep, e, m, hd, hz, hs, r⟩ := c; exact ⟨o, f, ds, ep, e, m, hd, hz, hs, DRl.mono x r⟩
theorem CellR.live {a : Addr} {so : SO} (c : CellR g G rs h a so) : ∃ o, h.get? a = some o := by
 cases so with
 | seq svs => obtain ⟨vs, n, e, _⟩ := c; exact ⟨_, e⟩
 | fields fs => obtain ⟨vs, n, e, _⟩ := c; exact ⟨_, e⟩
 | idict es n => obtain ⟨o, f, ds, ep, e, _⟩ := c; exact ⟨_, e⟩
theorem Rel.keeps (R : Rel g X G rs st h) (k : ∀ b o, h.get? b = some o → h'.get? b = some o) : Rel g X G rs st h' where
 sto := fun b o e => k _ _ (R.sto b o e)
 base := R.base
 ns := let ⟨m, hn⟩ := R.ns; ⟨m, hn.keeps k⟩
 cels := fun p hp => let ⟨v, hv⟩ := R.cels p hp; ⟨v, hv.keeps k⟩
 loc := fun x sv e => let ⟨v, a, b⟩ := R.loc x sv e; ⟨v, a, b.keep fun b o _ => k b o⟩
 len := R.len
 cell := fun i a so e1 e2 => (R.cell i a so e1 e2).keep fun o => k a o
 nd := R.nd
 fresh := R.fresh
 own := R.own
 wfa := R.wfa
 ownl := fun a ha => let ⟨o, e⟩ := R.ownl a ha; ⟨o, k _ _ e⟩
 old := fun b o e n n2 => k _ _ (R.old b o e n n2)
 olds := fun b o e n n2 => let ⟨sl, q⟩ := R.olds b o e n n2; ⟨sl, k _ _ q⟩
 fo := fun a ha => let ⟨q, o, e, d⟩ := R.fo a ha; ⟨q, o, k _ _ e, d⟩
 lc := R.lc
 gnew := R.gnew
theorem Rel.oldl (R : Rel g X G rs st h) {b : Addr} {o : Obj} (e : X.hs.get? b = some o) (n : b ∉ X.own) : ∃ o', h.get? b = some o' := by
 by_cases q : b ∈ X.fs
 ·obtain ⟨sl, z⟩ := R.olds b o e n q; exact ⟨_, z⟩
 ·exact ⟨o, R.old b o e n q⟩
theorem Rel.live (R : Rel g X G rs st h) {a : Addr} (ha : a ∈ X.fa ++ rs) : ∃ o, h.get? a = some o := by
 rcases List.mem_append.mp ha with q | q
 ·rcases Cx.fa_cases q with rfl | q | q
  ·obtain ⟨m, o, _, _, ho, _⟩ := R.ns; exact ⟨o, ho⟩
  ·obtain ⟨p, hp, rfl⟩ := List.mem_map.mp q
   obtain ⟨v, o, ho, _⟩ := R.cels p hp; exact ⟨o, ho⟩
  ·obtain ⟨_, o, ho, _⟩ := R.fo a q; exact ⟨o, ho⟩
 ·obtain ⟨i, hi, e⟩ := List.mem_iff_getElem.mp q
  have e1 : rs[i]? = some a := List.getElem?_eq_some_iff.mpr ⟨hi, e⟩
  have hi' : i < st.H.length := R.len ▸ hi
  have c := R.cell i a st.H[i] e1 (List.getElem?_eq_getElem hi')
  cases w : st.H[i] with
  | seq svs => rw [w] at c; obtain ⟨vs, n, e, _⟩ := c; exact ⟨_, e⟩
  | fields fs => rw [w] at c; obtain ⟨vs, n, e, _⟩ := c; exact ⟨_, e⟩
  | idict es n => rw [w] at c; obtain ⟨o, f, ds, ep, e, _⟩ := c; exact ⟨_, e⟩
theorem Rel.lt (R : Rel g X G rs st h) {a : Addr} (ha : a ∈ X.fa ++ rs) : a < h.objs.size := let ⟨_, e⟩ := R.live ha; Heap.lt_size e
theorem Rel.newAt (R : Rel g X G rs st h) {a : Addr} (hlt : h.objs.size ≤ a) (hown : a ∉ X.own) : a ∉ X.fa ++ rs ∧ G a = none ∧ X.hs.get? a = none := by
 refine ⟨fun q => absurd (R.lt q) (Nat.not_lt.mpr hlt), ?_, ?_⟩
 ·cases q : G a with
  | none => rfl
  | some o => exact absurd (Heap.lt_size (R.sto _ _ q)) (Nat.not_lt.mpr hlt)
 ·cases q : X.hs.get? a with
  | none => rfl
  | some o => obtain ⟨o', e⟩ := R.oldl q hown; exact absurd (Heap.lt_size e) (Nat.not_lt.mpr hlt)
noncomputable def addG (G : Sto) (a : Addr) (o : Obj) : Sto := fun b => if b = a then some o else G b
theorem za8 (G : Sto) (a : Addr) (o : Obj) : addG G a o a = some o := if_pos rfl
theorem zbB {a : Addr} {o : Obj} (hn : G a = none) : Ext G rs (addG G a o) rs := ⟨fun b o' e => by
 unfold addG
 by_cases q : b = a
 ·subst q; rw [hn] at e; cases e
 ·rw [if_neg q]; exact e, [], by simp⟩
theorem Rel.addG (R : Rel g X G rs st h) {a : Addr} {o : Obj} (ha : h.get? a = some o) (hn : a ∉ X.fa ++ rs) (hG : G a = none) (hx : X.hs.get? a = none) : Rel g X (Mine.addG G a o) rs st h := by
 have x : Ext G rs (Mine.addG G a o) rs := zbB hG
 refine ⟨fun b o' e => ?_, fun b o' e => x.g _ _ (R.base b o' e), R.ns, R.cels, fun y sv e => let ⟨v, p, q⟩ := R.loc y sv e; ⟨v, p.mono x, q⟩, R.len, fun i b so e1 e2 => (R.cell i b so e1 e2).mono x, R.nd, fun b hb => ?_, R.own, R.wfa, R.ownl, R.old, R.olds, R.fo, R.lc, fun b o' e => ?_⟩
 ·unfold Mine.addG at e
  by_cases q : b = a
  ·rw [if_pos q] at e; cases e; subst q; exact ha
  ·rw [if_neg q] at e; exact R.sto _ _ e
 ·unfold Mine.addG
  have hne : b ≠ a := fun q => hn (by rw [← q]; exact hb)
  rw [if_neg hne]
  exact R.fresh b hb
 ·unfold Mine.addG at e
  by_cases q : b = a
  ·subst q; exact .inr hx
  ·rw [if_neg q] at e; exact R.gnew _ _ e
theorem Rel.pushG (R : Rel g X G rs st h) (o : Obj) (hf : o.isFreed = false) : Ext G rs (Mine.addG G h.objs.size o) rs ∧ Rel g X (Mine.addG G h.objs.size o) rs st (h.push o) := by
 obtain ⟨a, b, c⟩ := R.newAt (Nat.le_refl _) fun q => let ⟨_, e⟩ := R.ownl _ q; Nat.lt_irrefl _ (Heap.lt_size e)
 exact ⟨zbB b, (R.keeps fun b o' e => Heap.get?_push_of_some _ e).addG (Heap.get?_push_size _ hf) a b c⟩
theorem Rel.newCell (R : Rel g X G rs st h) {a : Addr} {so : SO} (hc : CellR g G (rs ++ [a]) h a so) (hn : a ∉ X.fa ++ rs) (hG : G a = none) (hx : X.hs.get? a = none) :
  Ext G rs G (rs ++ [a]) ∧ Rel g X G (rs ++ [a]) ⟨st.loc, st.H ++ [so]⟩ h := by
 have x : Ext G rs G (rs ++ [a]) := ⟨fun _ _ e => e, [a], rfl⟩
 have mem : ∀ b, b ∈ X.fa ++ (rs ++ [a]) → b ∈ X.fa ++ rs ∨ b = a := fun b hb => by
  rw [← List.append_assoc] at hb
  rcases List.mem_append.mp hb with q | q
  ·exact .inl q
  ·exact .inr (List.mem_singleton.mp q)
 refine ⟨x, R.sto, R.base, R.ns, R.cels, fun y sv e => let ⟨v, p, q⟩ := R.loc y sv e; ⟨v, p.mono x, q⟩, ?_, fun i b so' e1 e2 => ?_, ?_, fun b hb => ?_, fun b hb => ?_, R.wfa, R.ownl, R.old, R.olds, R.fo, R.lc, R.gnew⟩
 ·simp [R.len]
 ·by_cases q : i < rs.length
  ·rw [List.getElem?_append_left q] at e1
   rw [List.getElem?_append_left (R.len ▸ q)] at e2
   exact (R.cell i b so' e1 e2).mono x
  ·have q' := Nat.not_lt.mp q
   rw [List.getElem?_append_right q'] at e1
   rw [List.getElem?_append_right (R.len ▸ q')] at e2
   rw [R.len] at e1
   cases w : i - st.H.length with
   | zero => rw [w] at e1 e2; simp at e1 e2; subst e1 e2; exact hc
   | succ n => rw [w] at e1; simp at e1
 ·refine ⟨fun b hb q => ?_, List.nodup_append.mpr ⟨R.nd.2, List.nodup_cons.mpr ⟨List.not_mem_nil, List.nodup_nil⟩, fun b hb c hc' => ?_⟩⟩
  ·rcases List.mem_append.mp q with q | q
   ·exact R.nd.1 b hb q
   ·rw [List.mem_singleton.mp q] at hb; exact hn (List.mem_append_left _ hb)
  ·rw [List.mem_singleton.mp hc']
   rintro rfl; exact hn (List.mem_append_right _ hb)
 ·rcases mem b hb with q | rfl
  ·exact R.fresh b q
  ·exact hG
 ·rw [← List.append_assoc] at hb
  rcases List.mem_append.mp hb with q | q
  ·exact R.own b q
  ·rw [List.mem_singleton.mp q]; exact .inr hx
theorem Rel.setCell (R : Rel g X G rs st h) {i : Nat} {a : Addr} {so : SO} (hr : rs[i]? = some a) (k : ∀ b o, b ≠ a → h.get? b = some o → h'.get? b = some o) (hc : CellR g G rs h' a so) :
  Rel g X G rs ⟨st.loc, st.H.set i so⟩ h' := by
 have hm : a ∈ rs := List.mem_of_getElem? hr
 have ha : a ∈ X.fa ++ rs := List.mem_append_right _ hm
 have n2 := R.nd.2
 have n3 : ∀ a ∈ X.fa, ∀ b ∈ rs, a ≠ b := fun a ha b hb q => R.nd.1 a ha (by rw [q]; exact hb)
 have nf : ∀ b ∈ X.fa, b ≠ a := fun b hb => n3 b hb a hm
 have neold : ∀ b o, X.hs.get? b = some o → b ∉ X.own → b ≠ a := fun b o e n => by
  rintro rfl
  rcases R.own b (List.mem_append_right _ hm) with q | q
  ·exact n q
  ·rw [q] at e; cases e
 have hil : i < rs.length := (List.getElem?_eq_some_iff.mp hr).1
 refine ⟨fun b o e => k b o (fun q => ?_) (R.sto b o e), R.base, ?_, fun p hp => ?_, fun y sv e => ?_, by rw [List.length_set]; exact R.len, fun j b so' e1 e2 => ?_, R.nd, R.fresh, R.own, R.wfa, fun b hb => ?_, fun b o e n n2 => k b o (neold b o e n) (R.old b o e n n2), fun b o e n n2 => let ⟨sl, q⟩ := R.olds b o e n n2; ⟨sl, k _ _ (neold b o e n) q⟩, fun b hb => let ⟨q, o, e, d⟩ := R.fo b hb; ⟨q, o, k _ _ (nf _ (Cx.fa_fs (List.mem_cons_of_mem _ hb))) e, d⟩, R.lc, R.gnew⟩
 ·subst q; rw [R.fresh b ha] at e; cases e
 ·obtain ⟨m, o, es, ep, ho, r⟩ := R.ns
  exact ⟨m, o, es, ep, k _ _ (nf _ Cx.fa_loc) ho, r⟩
 ·obtain ⟨v, o, ho, hd⟩ := R.cels p hp
  exact ⟨v, o, k _ _ (nf _ (Cx.fa_cell hp)) ho, hd⟩
 ·obtain ⟨v, p, q⟩ := R.loc y sv e
  refine ⟨v, p, q.keep fun b o hb => k b o ?_⟩
  rcases hb with rfl | hb
  ·exact nf _ Cx.fa_loc
  ·exact nf _ (Cx.fa_fc (List.mem_cons_of_mem _ hb))
 ·by_cases q : i = j
  ·subst q
   rw [hr] at e1; cases e1
   rw [List.getElem?_set_self (R.len ▸ hil)] at e2
   cases e2; exact hc
  ·rw [List.getElem?_set_ne q] at e2
   refine (R.cell j b so' e1 e2).keep fun o => k b o fun z => q ?_
   subst z
   obtain ⟨hj, ej⟩ := List.getElem?_eq_some_iff.mp e1
   obtain ⟨hi, ei⟩ := List.getElem?_eq_some_iff.mp hr
   exact (List.getElem_inj n2).mp (ei.trans ej.symm)
 ·by_cases q : b = a
  ·subst q
   exact hc.live
  ·obtain ⟨o, e⟩ := R.ownl b hb
   exact ⟨o, k b o q e⟩
theorem Rel.bind (R : Rel g X G rs st h) {x : Str} {sv : SV} {v : Value} {a : Addr} (hw : a ∈ X.wr) (k : ∀ b o, b ≠ a → h.get? b = some o → h'.get? b = some o)
  (hv : VR g G rs sv v) (hns : ∃ m, h'.Ns X.env.locals m) (hcels : ∀ p ∈ X.env.cells, ∃ v, h'.IsCell p.2 v) (hx : NameAt X.env h' x v) (ho : ∀ y u, y ≠ x → NameAt X.env h y u → NameAt X.env h' y u) :
  Rel g X G rs ⟨lset st.loc x sv, st.H⟩ h' := by
 have hac : a ∈ X.fc := R.wfa a hw
 have ha : a ∈ X.fa := Cx.fa_fc hac
 have neold : ∀ b o, X.hs.get? b = some o → b ∉ X.own → b ≠ a := fun b o e n => by
  rintro rfl
  rcases R.own b (List.mem_append_left _ hw) with q | q
  ·exact n q
  ·rw [q] at e; cases e
 have ha' : a ∈ X.fa ++ rs := List.mem_append_left _ ha
 have n2 := R.nd.2
 have n3 : ∀ a ∈ X.fa, ∀ b ∈ rs, a ≠ b := fun a ha b hb q => R.nd.1 a ha (by rw [q]; exact hb)
 refine ⟨fun b o e => k b o (fun q => ?_) (R.sto b o e), R.base, hns, hcels, fun y s e => ?_, R.len, fun i b so e1 e2 => ?_, R.nd, R.fresh, R.own, R.wfa, fun b hb => ?_, fun b o e n n2 => k b o (neold b o e n) (R.old b o e n n2), fun b o e n n2 => let ⟨sl, q⟩ := R.olds b o e n n2; ⟨sl, k _ _ (neold b o e n) q⟩, fun b hb => let ⟨q, o, e, d⟩ := R.fo b hb; ⟨q, o, k _ _ (fun z => q (by rw [z]; exact hac)) e, d⟩, R.lc, R.gnew⟩
 ·subst q; rw [R.fresh b ha'] at e; cases e
 ·have e' : lk (lset st.loc x sv) y = some s := e
  rw [zbL] at e'
  by_cases q : x = y
  ·rw [if_pos q] at e'; cases e'; subst q; exact ⟨v, hv, hx⟩
  ·rw [if_neg q] at e'
   obtain ⟨u, p, z⟩ := R.loc y s e'
   exact ⟨u, p, ho y u (fun w => q w.symm) z⟩
 ·exact (R.cell i b so e1 e2).keep fun o => k b o fun z => n3 a ha b (List.mem_of_getElem? e1) z.symm
 ·by_cases q : b = a
  ·subst q
   rcases List.mem_cons.mp hac with rfl | q
   ·obtain ⟨m, o, es, ep, ho, r⟩ := hns; exact ⟨o, ho⟩
   ·obtain ⟨p, hp, rfl⟩ := List.mem_map.mp q
    obtain ⟨v, o, ho, hd⟩ := hcels p hp; exact ⟨o, ho⟩
  ·obtain ⟨o, e⟩ := R.ownl b hb
   exact ⟨o, k b o q e⟩
theorem Rel.keepsF (R : Rel g X G rs st h) (k : ∀ b o, b ∉ X.fs → h.get? b = some o → h'.get? b = some o) (ks : ∀ b o, b ∈ X.fs → h.get? b = some o → ∃ sl, h'.get? b = some { o with slots := sl }) : Rel g X G rs st h' := by
 have hl : ∀ b o, h.get? b = some o → ∃ o', h'.get? b = some o' := fun b o e => by
  by_cases q : b ∈ X.fs
  ·obtain ⟨sl, z⟩ := ks b o q e; exact ⟨_, z⟩
  ·exact ⟨o, k b o q e⟩
 have cn : ∀ p ∈ X.env.cells, p.2 ∉ X.fs := fun p hp q => by
  rcases List.mem_cons.mp q with z | z
  ·exact R.lc (by rw [← z]; exact List.mem_map_of_mem hp)
  ·exact (R.fo _ z).1 (List.mem_cons_of_mem _ (List.mem_map_of_mem hp))
 have nsk : ∀ m, h.Ns X.env.locals m → h'.Ns X.env.locals m := fun m hn => by
  obtain ⟨o, es, ep, ho, hd, r⟩ := hn
  obtain ⟨sl, z⟩ := ks _ _ List.mem_cons_self ho
  exact ⟨_, es, ep, z, hd, r⟩
 refine ⟨fun b o e => k b o (fun q => ?_) (R.sto b o e), R.base, ?_, fun p hp => ?_, fun y sv e => ?_, R.len, fun i a so e1 e2 => (R.cell i a so e1 e2).keep fun o => k a o fun q => R.nd.1 a (Cx.fa_fs q) (List.mem_of_getElem? e1), R.nd, R.fresh, R.own, R.wfa, fun a ha => ?_, fun b o e n n2 => k b o n2 (R.old b o e n n2), fun b o e n n2 => ?_, fun a ha => ?_, R.lc, R.gnew⟩
 ·rw [R.fresh b (List.mem_append_left _ (Cx.fa_fs q))] at e; cases e
 ·obtain ⟨m, hn⟩ := R.ns; exact ⟨m, nsk m hn⟩
 ·obtain ⟨v, o, e, r⟩ := R.cels p hp
  exact ⟨v, o, k _ _ (cn p hp) e, r⟩
 ·obtain ⟨v, p, q⟩ := R.loc y sv e
  refine ⟨v, p, ?_⟩
  rcases q with ⟨k1, m, n1, n2⟩ | ⟨k1, c, c1, o, c2, c3⟩
  ·exact .inl ⟨k1, m, nsk m n1, n2⟩
  ·exact .inr ⟨k1, c, c1, o, k _ _ (cn (y, c) (mem_of_lookup c1)) c2, c3⟩
 ·obtain ⟨o, e⟩ := R.ownl a ha; exact hl _ _ e
 ·obtain ⟨sl, z⟩ := R.olds b o e n n2
  obtain ⟨sl', z'⟩ := ks b _ n2 z
  exact ⟨sl', z'⟩
 ·obtain ⟨q, o, e, d⟩ := R.fo a ha
  obtain ⟨sl, z⟩ := ks a o (List.mem_cons_of_mem _ ha) e
  exact ⟨q, _, z, d⟩
theorem Rel.back {X' : Cx} {rs' : List Addr} {st' : SS} (R : Rel g X G rs st h) (R' : Rel g X' G' rs' st' h') (hh : X'.hs = h) (ho : X'.own = rs) (hg : X'.G0 = G) (hf : X'.frs = X.fs) (hw : X'.env.locals ∈ X'.wr) (x : Ext G rs G' rs') : Rel g X G' rs' ⟨st.loc, st'.H⟩ h' := by
 obtain ⟨more, rfl⟩ := x.r
 have n2 := R.nd.2
 have n3 : ∀ a ∈ X.fa, ∀ b ∈ rs, a ≠ b := fun a ha b hb q => R.nd.1 a ha (by rw [q]; exact hb)
 have newL : h.get? X'.env.locals = none := by
  rcases R'.own _ (List.mem_append_left _ hw) with q | q
  ·rw [ho] at q
   exact absurd (List.mem_append_left _ q) (R'.nd.1 _ Cx.fa_loc)
  ·rw [hh] at q; exact q
 have fsd : ∀ b o, h.get? b = some o → b ∉ X.fs → b ∉ X'.fs := fun b o e n q => by
  rcases List.mem_cons.mp q with z | z
  ·rw [z, newL] at e; cases e
  ·rw [hf] at z; exact n z
 have fsi : ∀ b, b ∈ X.fs → b ∈ X'.fs := fun b q => List.mem_cons_of_mem _ (by rw [hf]; exact q)
 have keep : ∀ b o, b ∉ rs → b ∉ X.fs → h.get? b = some o → h'.get? b = some o := fun b o hb n e => R'.old b o (by rw [hh]; exact e) (by rw [ho]; exact hb) (fsd b o e n)
 have keeps : ∀ b o, b ∈ X.fs → h.get? b = some o → ∃ sl, h'.get? b = some { o with slots := sl } := fun b o hb e => R'.olds b o (by rw [hh]; exact e) (by rw [ho]; exact R.nd.1 b (Cx.fa_fs hb)) (fsi b hb)
 have keepl : ∀ b o, b ∉ rs → h.get? b = some o → ∃ o', h'.get? b = some o' := fun b o hb e => R'.oldl (by rw [hh]; exact e) (by rw [ho]; exact hb)
 have newr : ∀ a ∈ rs ++ more, a ∈ rs ∨ h.get? a = none := fun a ha => by
  have := R'.own a (List.mem_append_right _ ha)
  rwa [ho, hh] at this
 have fa_live : ∀ a ∈ X.fa, ∃ o, h.get? a = some o := fun a ha => R.live (List.mem_append_left _ ha)
 have fr : ∀ a ∈ X.fa, a ∉ rs := fun a ha hr => n3 a ha a hr rfl
 have cn : ∀ p ∈ X.env.cells, p.2 ∉ X.fs := fun p hp q => by
  rcases List.mem_cons.mp q with z | z
  ·exact R.lc (by rw [← z]; exact List.mem_map_of_mem hp)
  ·exact (R.fo _ z).1 (List.mem_cons_of_mem _ (List.mem_map_of_mem hp))
 have nsk : ∀ m, h.Ns X.env.locals m → h'.Ns X.env.locals m := fun m hn => by
  obtain ⟨o, es, ep, ho, hd, r⟩ := hn
  obtain ⟨sl, z⟩ := keeps _ _ List.mem_cons_self ho
  exact ⟨_, es, ep, z, hd, r⟩
 refine ⟨R'.sto, R'.base, ?_, fun p hp => ?_, fun y sv e => ?_, R'.len, R'.cell, ?_, fun a ha => ?_, fun a ha => ?_, R.wfa, fun a ha => ?_, fun b o e n n2 => ?_, fun b o e n n2 => ?_, fun a ha => ?_, R.lc, fun b o e => ?_⟩
 ·obtain ⟨m, hn⟩ := R.ns; exact ⟨m, nsk m hn⟩
 ·obtain ⟨v, o, e, r⟩ := R.cels p hp
  exact ⟨v, o, keep _ _ (fr _ (Cx.fa_cell hp)) (cn p hp) e, r⟩
 ·obtain ⟨v, p, q⟩ := R.loc y sv e
  refine ⟨v, p.mono x, ?_⟩
  rcases q with ⟨k1, m, n1, n2⟩ | ⟨k1, c, c1, o, c2, c3⟩
  ·exact .inl ⟨k1, m, nsk m n1, n2⟩
  ·have hm : (y, c) ∈ X.env.cells := mem_of_lookup c1
   exact .inr ⟨k1, c, c1, o, keep _ _ (fr _ (Cx.fa_cell hm)) (cn _ hm) c2, c3⟩
 ·refine ⟨fun a ha hb => ?_, R'.nd.2⟩
  rcases newr a hb with q | q
  ·exact fr a ha q
  ·obtain ⟨o, e⟩ := fa_live a ha; rw [e] at q; cases q
 ·rcases List.mem_append.mp ha with q | q
  ·cases w : G' a with
   | none => rfl
   | some o =>
    rcases R'.gnew a o w with z | z
    ·rw [hg, R.fresh a (List.mem_append_left _ q)] at z; cases z
    ·rw [hh] at z; obtain ⟨o, e⟩ := fa_live a q; rw [e] at z; cases z
  ·exact R'.fresh a (List.mem_append_right _ q)
 ·rcases List.mem_append.mp ha with q | q
  ·exact R.own a (List.mem_append_left _ q)
  ·rcases newr a q with z | z
   ·exact R.own a (List.mem_append_right _ z)
   ·by_cases w : a ∈ X.own
    ·exact .inl w
    ·right
     cases u : X.hs.get? a with
     | none => rfl
     | some o => obtain ⟨o', e⟩ := R.oldl u w; rw [e] at z; cases z
 ·obtain ⟨o, e⟩ := R.ownl a ha
  by_cases q : a ∈ rs
  ·exact R'.ownl a (by rw [ho]; exact q)
  ·exact keepl a o q e
 ·refine keep b o (fun q => ?_) n2 (R.old b o e n n2)
  rcases R.own b (List.mem_append_right _ q) with z | z
  ·exact n z
  ·rw [z] at e; cases e
 ·obtain ⟨sl, z⟩ := R.olds b o e n n2
  obtain ⟨sl', z'⟩ := keeps b _ n2 z
  exact ⟨sl', z'⟩
 ·obtain ⟨q, o, e, d⟩ := R.fo a ha
  obtain ⟨sl, z⟩ := keeps a o (List.mem_cons_of_mem _ ha) e
  exact ⟨q, _, z, d⟩
 ·rcases R'.gnew b o e with z | z
  ·rw [hg] at z; exact R.gnew b o z
  ·rw [hh] at z
   cases u : X.hs.get? b with
   | none => exact .inr rfl
   | some o' =>
    by_cases w : b ∈ X.own
    ·obtain ⟨o2, e2⟩ := R.ownl b w; rw [e2] at z; cases z
    ·obtain ⟨o2, e2⟩ := R.oldl u w; rw [e2] at z; cases z
theorem Rel.back0 {X' : Cx} {rs' : List Addr} {st' : SS} (R : Rel g X G rs st h) (R' : Rel g X' G' rs' st' h') (hh : X'.hs = h) (ho : X'.own = []) (hg : X'.G0 = G) (hf : X'.fs = X.fs) (x : Ext G [] G' []) : Rel g X G' rs st h' := by
 have x' : Ext G rs G' rs := ⟨x.g, [], by simp⟩
 have K : Rel g X G rs st h' := R.keepsF (fun b o n e => R'.old b o (by rw [hh]; exact e) (by rw [ho]; exact List.not_mem_nil) (by rw [hf]; exact n)) fun b o n e => R'.olds b o (by rw [hh]; exact e) (by rw [ho]; exact List.not_mem_nil) (by rw [hf]; exact n)
 refine ⟨R'.sto, R'.base, K.ns, K.cels, fun y sv e => let ⟨v, p, q⟩ := K.loc y sv e; ⟨v, p.mono x', q⟩, K.len, fun i b so e1 e2 => (K.cell i b so e1 e2).mono x', K.nd, fun a ha => ?_, K.own, K.wfa, K.ownl, K.old, K.olds, K.fo, K.lc, fun b o e => ?_⟩
 ·cases w : G' a with
  | none => rfl
  | some o =>
   rcases R'.gnew a o w with z | z
   ·rw [hg, R.fresh a ha] at z; cases z
   ·rw [hh] at z; obtain ⟨o, e⟩ := R.live ha; rw [e] at z; cases z
 ·rcases R'.gnew b o e with z | z
  ·rw [hg] at z; exact R.gnew b o z
  ·rw [hh] at z
   cases u : X.hs.get? b with
   | none => exact .inr rfl
   | some o' =>
    by_cases w : b ∈ X.own
    ·obtain ⟨o2, e2⟩ := R.ownl b w; rw [e2] at z; cases z
    ·obtain ⟨o2, e2⟩ := R.oldl u w; rw [e2] at z; cases z
theorem Rel.locEq {l : List (Str × SV)} (R : Rel g X G rs st h) (e : ∀ y sv, lk l y = some sv → lk st.loc y = some sv) : Rel g X G rs ⟨l, st.H⟩ h :=
 ⟨R.sto, R.base, R.ns, R.cels, fun y sv q => R.loc y sv (e y sv q), R.len, R.cell, R.nd, R.fresh, R.own, R.wfa, R.ownl, R.old, R.olds, R.fo, R.lc, R.gnew⟩
structure Apart (X : Cx) (G : Sto) (rs : List Addr) (a : Addr) : Prop where
 n1 : a ∉ X.fa ++ rs
 n2 : G a = none
 n3 : X.hs.get? a = none
 n4 : a ∉ X.own
theorem Rel.apart (R : Rel g X G rs st h) {a : Addr} (hlt : h.objs.size ≤ a) : Apart X G rs a := by
 have ho : a ∉ X.own := fun q => by
  obtain ⟨o, e⟩ := R.ownl a q
  exact Nat.lt_irrefl _ (Nat.lt_of_lt_of_le (Heap.lt_size e) hlt)
 obtain ⟨n1, n2, n3⟩ := R.newAt hlt ho
 exact ⟨n1, n2, n3, ho⟩
theorem Rel.touch (R : Rel g X G rs st h) (p : Addr → Prop) (hp : ∀ a, p a → Apart X G rs a) (k : ∀ b o, ¬ p b → h.get? b = some o → h'.get? b = some o) : Rel g X G rs st h' := by
 have nf : ∀ a ∈ X.fa, ¬ p a := fun a ha q => (hp a q).n1 (List.mem_append_left _ ha)
 have nr : ∀ a ∈ rs, ¬ p a := fun a ha q => (hp a q).n1 (List.mem_append_right _ ha)
 refine ⟨fun b o e => k b o (fun q => by have := (hp b q).n2; rw [e] at this; cases this) (R.sto b o e), R.base, ?_, fun q hq => ?_, fun y sv e => ?_, R.len, fun i b so e1 e2 => (R.cell i b so e1 e2).keep fun o => k b o (nr b (List.mem_of_getElem? e1)), R.nd, R.fresh, R.own, R.wfa, fun a ha => ?_, fun b o e n n2 => k b o (fun q => by have := (hp b q).n3; rw [e] at this; cases this) (R.old b o e n n2), fun b o e n n2 => let ⟨sl, z⟩ := R.olds b o e n n2; ⟨sl, k b _ (nf b (Cx.fa_fs n2)) z⟩, fun a ha => let ⟨q, o, e, d⟩ := R.fo a ha; ⟨q, o, k _ _ (nf a (Cx.fa_fs (List.mem_cons_of_mem _ ha))) e, d⟩, R.lc, R.gnew⟩
 ·obtain ⟨m, o, es, ep, e, r⟩ := R.ns
  exact ⟨m, o, es, ep, k _ _ (nf _ Cx.fa_loc) e, r⟩
 ·obtain ⟨v, o, e, r⟩ := R.cels q hq
  exact ⟨v, o, k _ _ (nf _ (Cx.fa_cell hq)) e, r⟩
 ·obtain ⟨v, a, b⟩ := R.loc y sv e
  refine ⟨v, a, b.keep fun c o hc => k c o (nf c ?_)⟩
  rcases hc with rfl | hc
  ·exact Cx.fa_loc
  ·exact Cx.fa_fc (List.mem_cons_of_mem _ hc)
 ·obtain ⟨o, e⟩ := R.ownl a ha
  exact ⟨o, k a o (fun q => (hp a q).n4 ha) e⟩
noncomputable def Cx.now (X : Cx) (G : Sto) (rs : List Addr) (h : Heap) : Cx := { X with hs := h, own := X.wr ++ rs, G0 := G }
theorem Rel.now (R : Rel g X G rs st h) : Rel g (X.now G rs h) G rs st h :=
 ⟨R.sto, R.base, R.ns, R.cels, R.loc, R.len, R.cell, R.nd, R.fresh, fun a ha => .inl ha, R.wfa, fun a ha => by
  rcases List.mem_append.mp ha with q | q
  ·exact R.live (List.mem_append_left _ (Cx.fa_fc (R.wfa a q)))
  ·exact R.live (List.mem_append_right _ q), fun b o e _ _ => e, fun b o e _ _ => ⟨o.slots, e⟩, R.fo, R.lc, fun b o e => .inl e⟩
theorem Rel.unnow {rs' : List Addr} {st' : SS} (R : Rel g X G rs st h) (R' : Rel g (X.now G rs h) G' rs' st' h') (x : Ext G rs G' rs') : Rel g X G' rs' st' h' := by
 have hsz : ∀ a, h.get? a = none → X.hs.get? a = none ∨ a ∈ X.own := fun a e => by
  by_cases w : a ∈ X.own
  ·exact .inr w
  ·cases u : X.hs.get? a with
   | none => exact .inl rfl
   | some o => obtain ⟨o', z⟩ := R.oldl u w; rw [z] at e; cases e
 have nn : ∀ b o, X.hs.get? b = some o → b ∉ X.own → b ∉ X.wr ++ rs := fun b o e n q => by
  rcases R.own b q with z | z
  ·exact n z
  ·rw [z] at e; cases e
 refine ⟨R'.sto, R'.base, R'.ns, R'.cels, R'.loc, R'.len, R'.cell, R'.nd, R'.fresh, fun a ha => ?_, R.wfa, fun a ha => ?_, fun b o e n n2 => R'.old b o (R.old b o e n n2) (nn b o e n) n2, fun b o e n n2 => ?_, R'.fo, R.lc, fun b o e => ?_⟩
 ·rcases R'.own a ha with q | q
  ·exact R.own a q
  ·exact (hsz a q).elim .inr .inl
 ·obtain ⟨o, e⟩ := R.ownl a ha
  by_cases q : a ∈ X.wr ++ rs
  ·exact R'.ownl a q
  ·exact R'.oldl e q
 ·obtain ⟨sl, z⟩ := R.olds b o e n n2
  obtain ⟨sl', z'⟩ := R'.olds b _ z (nn b o e n) n2
  exact ⟨sl', z'⟩
 ·rcases R'.gnew b o e with z | z
  ·exact R.gnew b o z
  ·rcases hsz b z with w | w
   ·exact .inr w
   ·obtain ⟨o, e⟩ := R.ownl b w; rw [show h.get? b = none from z] at e; cases e
noncomputable def Cx.virt (X : Cx) (G : Sto) (h : Heap) : Cx := { X with hs := h, own := [], wr := [], G0 := G }
theorem Rel.virt (R : Rel g X G rs st h) : Rel g (X.virt G h) G [] ⟨[], []⟩ h := by
 refine ⟨R.sto, R.base, R.ns, R.cels, (fun _ _ e => nomatch e), rfl, (fun i a so e => by simp at e), ⟨fun _ _ => List.not_mem_nil, List.nodup_nil⟩, fun a ha => ?_, fun a ha => ?_, fun a ha => ?_, fun a ha => ?_, fun b o e _ _ => e, fun b o e _ _ => ⟨o.slots, e⟩, R.fo, R.lc, fun b o e => .inl e⟩
 ·rcases List.mem_append.mp ha with q | q
  ·exact R.fresh a (List.mem_append_left _ q)
  ·cases q
 ·cases ha
 ·cases ha
 ·cases ha
theorem Rel.strange {rs' : List Addr} {st' : SS} {a : Addr} (R' : Rel g (X.now G rs h) G' rs' st' h') (A : Apart X G rs a) (hw : ∀ b ∈ X.wr, b ∈ X.fc) {o : Obj} (ha : h.get? a = some o) : Apart X G' rs' a ∧ h'.get? a = some o := by
 have no : a ∉ X.wr ++ rs := fun q => by
  rcases List.mem_append.mp q with q | q
  ·exact A.n1 (List.mem_append_left _ (Cx.fa_fc (hw a q)))
  ·exact A.n1 (List.mem_append_right _ q)
 refine ⟨⟨fun q => ?_, ?_, A.n3, A.n4⟩, R'.old a o ha no fun q => A.n1 (List.mem_append_left _ (Cx.fa_fs q))⟩
 ·rcases List.mem_append.mp q with q | q
  ·exact A.n1 (List.mem_append_left _ q)
  ·rcases R'.own a (List.mem_append_right _ q) with z | z
   ·exact no z
   ·rw [show h.get? a = none from z] at ha; cases ha
 ·cases q : G' a with
  | none => rfl
  | some o' =>
   rcases R'.gnew a o' q with z | z
   ·have := A.n2; rw [show G a = some o' from z] at this; cases this
   ·rw [show h.get? a = none from z] at ha; cases ha
structure EnvOk (X : Cx) : Prop where
 kind : X.env.scope.kind = .function
 loc : X.env.locals ∉ X.env.cells.map (·.2)
 cap : ∀ p ∈ X.env.cells, ∀ q ∈ X.env.cells, p.2 ∈ X.wr → p.1 ≠ q.1 → p.2 ≠ q.2
 wl : X.env.locals ∈ X.wr
theorem Rel.store (R : Rel g X G rs st h) (V : EnvOk X) {x : Str} {sv : SV} {v : Value} {tk : Nat} {E : Value → Shared → Prop} {Q : Unit → Shared → Prop}
  (hk : X.env.kindOf x = some .local ∨ (X.env.kindOf x = some .cell ∧ ∃ c, X.env.cells.lookup x = some c ∧ c ∈ X.wr)) (hv : VR g G rs sv v)
  (hq : ∀ h' tk', Rel g X G rs ⟨lset st.loc x sv, st.H⟩ h' → Q () (X.sh h' tk')) : wpAny (model g.prog g.w) X.A (storeName X.env x v) Q E (X.sh h tk) := by
 have hp : (X.env.scope.kind == .class || (X.env.scope.kind == .module && X.env.locals != X.env.globals)) = false := by rw [V.kind]; rfl
 rcases hk with hk | ⟨hk, c, hc, hw⟩
 ·obtain ⟨m, hn⟩ := R.ns
  refine wpAny_storeName_local hk hn (fun h' hn' hs => hq _ _ ?_) hp
  have hs' : Heap.SameBut X.env.locals h h' := hs
  refine R.bind (a := X.env.locals) V.wl (fun b o hb e => (hs'.2 b hb).trans e) hv ⟨_, hn'⟩ (fun p hp => ?_) (.inl ⟨hk, _, hn', if_pos rfl⟩) fun y u hy n => ?_
  ·obtain ⟨u, hu⟩ := R.cels p hp
   obtain ⟨o, e, d⟩ := hu
   exact ⟨u, o, (hs'.2 p.2 fun q => V.loc (by rw [← q]; exact List.mem_map_of_mem hp)).trans e, d⟩
  ·rcases n with ⟨k1, m1, n1, n2⟩ | ⟨k1, c, c1, o, e, d⟩
   ·have := Ns.at_eq n1 hn
    subst this
    exact .inl ⟨k1, _, hn', by show (if y = x then some v else m1 y) = _; rw [if_neg hy]; exact n2⟩
   ·exact .inr ⟨k1, c, c1, o, (hs'.2 c fun q => V.loc (by rw [← q]; exact List.mem_map.mpr ⟨(y, c), mem_of_lookup c1, rfl⟩)).trans e, d⟩
 ·obtain ⟨u0, hu0⟩ := R.cels (x, c) (mem_of_lookup hc)
  refine wpAny_storeName_cell V.kind hk hc hu0 fun h' hc' hs => hq _ _ ?_
  have hs' : Heap.SameBut c h h' := hs
  obtain ⟨m, hn⟩ := R.ns
  have hne : X.env.locals ≠ c := fun q => V.loc (by rw [q]; exact List.mem_map.mpr ⟨(x, c), mem_of_lookup hc, rfl⟩)
  refine R.bind (a := c) hw (fun b o hb e => (hs'.2 b hb).trans e) hv ⟨m, ?_⟩ (fun p hp => ?_) (.inr ⟨.inl hk, c, hc, hc'⟩) fun y u hy n => ?_
  ·exact hn.sameBut hs' hne
  ·by_cases q : p.2 = c
   ·rw [q]; exact ⟨_, hc'⟩
   ·obtain ⟨u, o, e, d⟩ := R.cels p hp
    exact ⟨u, o, (hs'.2 _ q).trans e, d⟩
  ·rcases n with ⟨k1, m1, n1, n2⟩ | ⟨k1, c2, c1, o, e, d⟩
   ·exact .inl ⟨k1, m1, n1.sameBut hs' hne, n2⟩
   ·refine .inr ⟨k1, c2, c1, o, (hs'.2 c2 fun q => ?_).trans e, d⟩
    exact V.cap (x, c) (mem_of_lookup hc) (y, c2) (mem_of_lookup c1) hw (fun z => hy z.symm) q.symm
end
end Mine
section
open Builtin.ObjectAttr
namespace Mine
noncomputable def AttrOk (K : Frag) (C : Addr) (a : Str) : Prop := plainGet K C a = true ∧ hasDictIn K C = true ∧ findIn K (.ref C) a = some none
noncomputable def MethOk (K : Frag) (C : Addr) (m : Str) (f : Addr) : Prop := plainGet K C m = true ∧ findIn K (.ref C) m = some (some (.ref f)) ∧ isFn K (.ref f) = true
noncomputable def SetOk (K : Frag) (C : Addr) (a : Str) : Prop := findIn K (.ref C) "__setattr__" = some (some (.builtin "object.__setattr__")) ∧ plainOver K C = true ∧ takerIn K C a = some none ∧ hasDictIn K C = true
section
variable {g : Gl} {X : Cx} {G : Sto} {rs : List Addr} {st : SS} {h : Heap} {tk : Nat} {E : Value → Shared → Prop}
theorem Rel.keepsBase (R : Rel g X G rs st h) : ∀ b o, g.h0.get? b = some o → h.get? b = some o := fun b o e => R.sto _ _ (R.base _ _ e)
theorem Rel.kin (R : Rel g X G rs st h) : g.K.In h := g.X.keeps R.keepsBase
theorem Rel.top (R : Rel g X G rs st h) : TopRead g.p g.loose g.mg g.mb h := g.T.keeps R.keepsBase
set_option tactic.hygienic true in
theorem Rel.seqAt (R : Rel g X G rs st h) {sv : SV} {v : Value} {svs : List SV} (hv : VR g G rs sv v) (e : seqOf st sv = some svs) :
  ∃ a vs n, v = .ref a ∧ VRl g G rs svs vs ∧ (h.get? a = some (lstO vs n) ∨ h.get? a = some (tupO vs n)) := by
 cases sv <;> try (simp [seqOf] at e; done)
 case obj i =>
  obtain ⟨a, hr, rfl⟩ := hv
  simp only [seqOf] at e
  split at e
  ·rename_i us q
   cases e
   obtain ⟨vs, n, e1, e2⟩ := R.cell i a _ hr q
   exact ⟨a, vs, n, rfl, e2, .inl e1⟩
  ·cases e
 case tup us =>
  simp only [seqOf] at e
  cases e
  obtain ⟨a, vs, n, rfl, e1, e2⟩ := hv
  exact ⟨a, vs, n, rfl, e2, .inr (R.sto _ _ e1)⟩
 case lst us =>
  simp only [seqOf] at e
  cases e
  obtain ⟨a, vs, n, rfl, e1, e2⟩ := hv
  exact ⟨a, vs, n, rfl, VRl.mono Ext.ofNil e2, .inl (R.sto _ _ e1)⟩
set_option tactic.hygienic true in
theorem Rel.dictAt (R : Rel g X G rs st h) {sv : SV} {v : Value} {es : List (Int × SV)} (hv : VR g G rs sv v) (e : dictOfS st sv = some es) :
  ∃ a f, v = .ref a ∧ h.MapOf (PySem.intKind g.prog g.w) a f ∧ DRl g G rs es f ∧ (a == sysModules) = false := by
 cases sv <;> try (simp [dictOfS] at e; done)
 case obj i =>
  obtain ⟨a, hr, rfl⟩ := hv
  simp only [dictOfS] at e
  split at e
  ·rename_i us n q
   cases e
   obtain ⟨o, f, ds, ep, e1, ⟨m1, es', ep', m2, m3, m4⟩, hd, hz, hs, e2⟩ := R.cell i a _ hr q
   exact ⟨a, f, rfl, ⟨o, es', ep', e1, m1, m2, m3, m4⟩, e2, hs⟩
  ·cases e
 case dct us =>
  simp only [dictOfS] at e
  cases e
  obtain ⟨a, o, f, rfl, e1, ⟨m1, es', ep', m2, m3, m4⟩, hs, e2⟩ := hv
  exact ⟨a, f, rfl, ⟨o, es', ep', R.sto _ _ e1, m1, m2, m3, m4⟩, DRl.mono Ext.ofNil e2, hs⟩
set_option tactic.hygienic true in
theorem Rel.instAt (R : Rel g X G rs st h) {sv : SV} {v : Value} {C : Addr} {fs : List (Str × SV)} (hv : VR g G rs sv v) (e : Mine.fieldsOf st sv = some (C, fs)) :
  ∃ x d es n, v = .ref x ∧ h.get? x = some (instObj C d) ∧ h.get? d = some (dictOf es n) ∧ FRl g G rs fs es := by
 cases sv <;> try (simp [Mine.fieldsOf] at e; done)
 case ins C' i =>
  obtain ⟨x, d, hr, hx, rfl⟩ := hv
  simp only [Mine.fieldsOf] at e
  split at e
  ·rename_i us q
   cases e
   obtain ⟨es, n, e1, e2⟩ := R.cell i d _ hr q
   exact ⟨x, d, es, n, rfl, R.sto _ _ hx, e1, e2⟩
  ·cases e
 case imm C' us =>
  simp only [Mine.fieldsOf] at e
  cases e
  obtain ⟨x, d, es, n, rfl, hx, hd, e2⟩ := hv
  exact ⟨x, d, es, n, rfl, R.sto _ _ hx, R.sto _ _ hd, FRl.mono Ext.ofNil e2⟩
theorem zd9 {x d C : Addr} {es : List DictEntry} {n : Nat} (hx : h.get? x = some (instObj C d)) (hd : h.get? d = some (dictOf es n)) : InstAt h x (instObj C d) C (some (dictOf es n)) := ⟨hx, rfl, rfl, hd⟩
theorem ziE {sv : SV} {v : Value} (hv : VR g G rs sv v) (hp : plainS sv = true) : handedIn v = true := by
 cases sv <;> first
  | (obtain rfl := show v = _ from hv; rfl)
  | (obtain ⟨t, rfl⟩ := hv; rfl)
  | (obtain ⟨a, _, rfl⟩ := hv; rfl)
  | (obtain ⟨a, b, _, _, rfl⟩ := hv; rfl)
  | (obtain ⟨a, b, c, rfl, _⟩ := hv; rfl)
  | (obtain ⟨a, b, c, d, rfl, _⟩ := hv; rfl)
  | (obtain ⟨a, b, c, d, e, rfl, _⟩ := hv; rfl)
  | (obtain ⟨a, b, c, d, e, f, g, rfl, _⟩ := hv; rfl)
  | (obtain ⟨m1, m2, a, b, c, d, e, rfl, _⟩ := hv; rfl)
  | cases hp
theorem Rel.getAttr (R : Rel g X G rs st h) {sv u : SV} {v : Value} {C : Addr} {fs : List (Str × SV)} {a : Str} (hv : VR g G rs sv v) (e : Mine.fieldsOf st sv = some (C, fs)) (hl : lk fs a = some u) (hp : plainS u = true) (ha : AttrOk g.K C a) :
  ∃ w, VR g G rs u w ∧ ∀ {ex : Bool} {Q : Value → Shared → Prop}, Q w (X.sh h (tk + 1)) → wpAny (model g.prog g.w) X.A (PySem.getAttr v a ex) Q E (X.sh h tk) := by
 obtain ⟨x, d, es, n, rfl, hx, hd, hf⟩ := R.instAt hv e
 obtain ⟨w, hw, hwr⟩ := hf.find hl
 refine ⟨w, hwr, fun hq => ?_⟩
 exact get_value (s := X.sh h tk) R.kin (zd9 hx hd) (plainGet_of ha.1).1 (findObj_own ha.2.1 ha.2.2 rfl hw) (ziE hwr hp) hq
theorem Rel.getMeth (R : Rel g X G rs st h) {sv : SV} {v : Value} {C f : Addr} {fs : List (Str × SV)} {a : Str} (hv : VR g G rs sv v) (e : Mine.fieldsOf st sv = some (C, fs)) (hl : lk fs a = none) (ha : MethOk g.K C a f) :
  ∀ {pl : Sem Bool} {Q : Value × List Value → Shared → Prop}, Q (.ref f, [v]) (X.sh h tk) → wpAny (model g.prog g.w) X.A (getMethod v a pl) Q E (X.sh h tk) := by
 obtain ⟨x, d, es, n, rfl, hx, hd, hf⟩ := R.instAt hv e
 intro pl Q hq
 exact method_fn (s := X.sh h tk) R.kin (zd9 hx hd) (plainGet_of ha.1).1 (plainGet_of ha.1).2 ha.2.1 (beq_iff_eq.mp ha.2.2) (by show (lookIn a (dictOf es n)).map _ = _; rw [lookIn_dict, hf.none hl]; rfl) hq
end
section
variable {prog : Program} {w : World} {A : Around} {s : Shared} {K : Frag} {R : Result → Shared → Prop}
theorem znE {x C dx : Addr} {es : List DictEntry} {n : Nat} {name : Str} {tk : Tok} {v : Value} (X : K.In s.heap) (hx : s.heap.get? x = some (instObj C dx)) (hD : s.heap.get? dx = some (dictOf es n))
  (hp : plainOver K C = true) (ht : takerIn K C name = some none) (hh : hasDictIn K C = true) (hr : es.any (·.refKey) = false)
  (hz : (putL name (PyData.keyHash w.params name) (.str name s.toks) v es).length ≤ 1000)
  (h : R (.ok (.ret .none)) { s with heap := s.heap.update dx (Obj.putName name (PyData.keyHash w.params name) (.str name s.toks) v), toks := s.toks + 1 }) :
  codeAny (model prog w) A (.call (.builtin "object.__setattr__") ⟨[.ref x, .str name tk, v], []⟩) R s := by
 refine osa_open X (zd9 hx hD) hp ht fun b => ?_
 obtain ⟨cd, hc, hd'⟩ := any_some hh
 refine wpAny_bind (wpAny_pure (wpAny_bind (wpAny_bind (wpAny_loadPart hx (wpAny_bind ((looks_clsIn X hc).here ?_))))))
 rw [hd']
 refine wpAny_pure (a := some dx) (wpAny_bind (wpAny_pure (wpAny_bind ?_)))
 unfold nsSet
 refine wpAny_bind (wpAny_bind (wpAny_askSetting (wpAny_pure (wpAny_bind (wpAny_mkText (wpAny_bind (wpAny_loadPart hD ?_)))))))
 have c : (!es.toArray.any (·.key.isStr name) && es.toArray.any (·.refKey)) = false := by
  rw [List.any_toArray, List.any_toArray, hr, Bool.and_false]
 dsimp only
 rw [aRefKeyMayBeTheName_at, c]
 refine wpAny_updatePart hD ?_
 have e : Obj.putName name (PyData.keyHash w.params name) (.str name s.toks) v (dictOf es n) = dictOf (putL name (PyData.keyHash w.params name) (.str name s.toks) v es) (putN name es n) := putName_dict _ _ _ _ _ _
 have D' : (s.heap.update dx (Obj.putName name (PyData.keyHash w.params name) (.str name s.toks) v)).get? dx = some (dictOf (putL name (PyData.keyHash w.params name) (.str name s.toks) v es) (putN name es n)) := by
  rw [← e]; exact Heap.get?_update_self _ hD (by rw [e]; rfl)
 refine wpAny_bind (wpAny_lookBehind D' (pastItsLine_dict (by rw [List.size_toArray, sizeLine_eq]; lia)) ?_)
 exact wpAny_pure h
end
section
variable {g : Gl} {X : Cx} {G : Sto} {rs : List Addr} {st : SS} {h : Heap} {tk : Nat} {E : Value → Shared → Prop}
theorem Rel.setAttr (R : Rel g X G rs st h) {C : Addr} {i : Nat} {fs : List (Str × SV)} {v w : Value} {sw : SV} {a : Str} (hv : VR g G rs (.ins C i) v) (e : st.H[i]? = some (.fields fs)) (hl : fs.length ≤ 100) (hw : VR g G rs sw w) (ha : SetOk g.K C a) :
  ∀ {Q : Unit → Shared → Prop}, (∀ h', Rel g X G rs ⟨st.loc, st.H.set i (.fields (lset fs a sw))⟩ h' → Q () (X.sh h' (tk + 2))) → wpAny (model g.prog g.w) X.A (PySem.setAttr v a w) Q E (X.sh h tk) := by
 intro Q hq
 obtain ⟨x, d, hr, hx, rfl⟩ := hv
 obtain ⟨es, n, hd, hf⟩ := R.cell i d _ hr e
 have hx' := R.sto _ _ hx
 have hput : ∀ t, FRl g G rs (lset fs a sw) (putL a (PyData.keyHash g.w.params a) (.str a t) w es) := fun t => hf.put hw
 refine set_plain (s := X.sh h tk) R.kin (zd9 hx' hd) ha.1 (znE (s := X.sh h (tk + 1)) R.kin hx' hd ha.2.1 ha.2.2.1 ha.2.2.2 hf.noRef ?_ ?_)
 ·rw [(hput _).length]
  have := zf5 fs a sw
  lia
 ·refine hq _ (R.setCell hr (fun b o hb eb => (Heap.get?_update_other h _ (Ne.symm hb)).trans eb) ⟨_, putN a es n, ?_, hput (tk + 1)⟩)
  have e' : Obj.putName a (PyData.keyHash g.w.params a) (.str a (tk + 1)) w (dictOf es n) = dictOf (putL a (PyData.keyHash g.w.params a) (.str a (tk + 1)) w es) (putN a es n) := putName_dict _ _ _ _ _ _
  rw [← e']
  exact Heap.get?_update_self _ hd (by rw [e']; rfl)
end
end Mine
end
section
open PySem.SeqAt PySem.EqBoolInt
namespace Mine
theorem ziS (a b : Int) : eqB a b = (a == b) := by unfold eqB; rw [Bool.eq_iff_iff]; simp
theorem ziP (a b : Str) : eqS a b = (a == b) := by
 unfold eqS
 rw [Bool.eq_iff_iff, sEq_iff]; simp
section
variable {g : Gl} {X : Cx} {G : Sto} {rs : List Addr} {st : SS} {h : Heap} {tk : Nat} {E : Value → Shared → Prop} {Q : Value → Shared → Prop} {A : Around}
set_option tactic.hygienic true in
theorem Rel.lstAt (R : Rel g X G rs st h) {sv : SV} {v : Value} {svs : List SV} (hv : VR g G rs sv v) (e : lstOf st sv = some svs) :
  ∃ a vs n, v = .ref a ∧ VRl g G rs svs vs ∧ h.get? a = some (lstO vs n) := by
 cases sv <;> try (simp [lstOf] at e; done)
 case obj i =>
  obtain ⟨a, hr, rfl⟩ := hv
  simp only [lstOf] at e
  split at e
  ·rename_i us q
   cases e
   obtain ⟨vs, n, e1, e2⟩ := R.cell i a _ hr q
   exact ⟨a, vs, n, rfl, e2, e1⟩
  ·cases e
 case lst us =>
  simp only [lstOf] at e
  cases e
  obtain ⟨a, vs, n, rfl, e1, e2⟩ := hv
  exact ⟨a, vs, n, rfl, VRl.mono Ext.ofNil e2, R.sto _ _ e1⟩
theorem zaJ {a : Addr} {vs : List Value} {n : Nat} (e : h.get? a = some (lstO vs n)) : h.IsList a vs.toArray := ⟨_, e, rfl, n, rfl⟩
theorem za3 {a : Addr} {vs : List Value} {n : Nat} (e : h.get? a = some (tupO vs n)) : h.IsTuple a vs.toArray := ⟨_, e, rfl, n, rfl⟩
theorem ziR {a b : SV} {r t : List SV} {c : Bool} (e : eqLI (a :: r) (b :: t) = some c) : ∃ x y d, a = .int x ∧ b = .int y ∧ eqLI r t = some d ∧ c = (eqB x y && d) := by
 obtain ⟨x, q, e⟩ := Option.bind_eq_some_iff.mp e
 obtain ⟨y, q2, e⟩ := Option.bind_eq_some_iff.mp e
 obtain ⟨d, q3, rfl⟩ := Option.map_eq_some_iff.mp e
 exact ⟨x, y, d, zaP q, zaP q2, q3, rfl⟩
theorem zg4 {vs : List SV} : ∀ {ws : List SV} {xs ys : List Value} {c : Bool}, eqLI vs ws = some c → VRl g G rs vs xs → VRl g G rs ws ys →
  (∃ ns ms, IntsAre xs ns ∧ IntsAre ys ms ∧ c = decide (ns = ms)) ∨ (c = false ∧ xs.length ≠ ys.length) := by
 induction vs with
 | nil =>
  intro ws xs ys c e hx hy
  cases e
  cases ws with
  | nil =>
   rw [hx.unnil, hy.unnil]
   exact .inl ⟨[], [], .nil, .nil, rfl⟩
  | cons _ _ =>
   rw [hx.length, hy.length]
   exact .inr ⟨rfl, nofun⟩
 | cons v vs ih =>
  intro ws xs ys c e hx hy
  cases ws with
  | nil =>
   cases e
   rw [hx.length, hy.length]
   exact .inr ⟨rfl, nofun⟩
  | cons w ws =>
   obtain ⟨a, b, d, rfl, rfl, q, rfl⟩ := ziR e
   obtain ⟨x, xs', rfl, ⟨t1, rfl⟩, hx2⟩ := hx
   obtain ⟨y, ys', rfl, ⟨t2, rfl⟩, hy2⟩ := hy
   rcases ih q hx2 hy2 with ⟨ns, ms, i1, i2, rfl⟩ | ⟨rfl, hn⟩
   ·refine .inl ⟨a :: ns, b :: ms, .cons _ _ i1, .cons _ _ i2, ?_⟩
    rw [Bool.eq_iff_iff]; simp [eqB]
   ·exact .inr ⟨Bool.and_false _, fun q => hn (Nat.succ.inj q)⟩
theorem Rel.eqRl (R : Rel g X G rs st h) {a b : SV} {v w : Value} {c : Bool} {vs ws : List SV} (hu : A.units + 64 < cLine) (q1 : lstOf st a = some vs) (q2 : lstOf st b = some ws) (e : eqLI vs ws = some c) (ha : VR g G rs a v) (hb : VR g G rs b w) :
  (∀ {Q : Value → Shared → Prop}, Q (.bool c) (X.sh h tk) → wpAny (model g.prog g.w) A (compareOp .Eq v w) Q E (X.sh h tk)) ∧ (∀ {Q : Value → Shared → Prop}, Q (.bool (!c)) (X.sh h tk) → wpAny (model g.prog g.w) A (compareOp .NotEq v w) Q E (X.sh h tk)) := by
 have hu' : A.units < cLine := Nat.lt_of_le_of_lt (Nat.le_add_right _ _) hu
 obtain ⟨x, xs, n, rfl, hx, ex⟩ := R.lstAt ha q1
 obtain ⟨y, ys, m, rfl, hy, ey⟩ := R.lstAt hb q2
 rcases zg4 e hx hy with ⟨ns, ms, i1, i2, rfl⟩ | ⟨rfl, hn⟩
 ·exact ⟨eq_intsK (zaJ ex) i1 (zaJ ey) i2 hu, ne_intsK (zaJ ex) i1 (zaJ ey) i2 hu⟩
 ·have hsz : (xs.toArray.size != ys.toArray.size) = true := by simpa using hn
  exact ⟨of_rc (RcAt.lists_lengths (zaJ ex) (zaJ ey) hsz hu'), of_rcne (RcNeAt.lists_lengths (zaJ ex) (zaJ ey) hsz hu')⟩
noncomputable def eqLs (st : SS) (a b : SV) : Option Bool := match lstOf st a with
  | some vs => (match lstOf st b with
   | some ws => eqLI vs ws
   | none => none)
  | none => none
theorem zeU {st : SS} {a b : SV} {c : Bool} (e : eqLs st a b = some c) : ∃ vs ws, lstOf st a = some vs ∧ lstOf st b = some ws ∧ eqLI vs ws = some c := by
 unfold eqLs at e
 cases q1 : lstOf st a with
 | none => rw [q1] at e; exact noS e
 | some vs =>
  rw [q1] at e
  cases q2 : lstOf st b with
  | none => rw [q2] at e; exact noS e
  | some ws => rw [q2] at e; exact ⟨_, _, rfl, rfl, e⟩
theorem Rel.eqR (R : Rel g X G rs st h) {a b : SV} {v w : Value} {c : Bool} (hu : A.units + 64 < cLine) (e : eqV st a b = some c) (ha : VR g G rs a v) (hb : VR g G rs b w) :
  (∀ {Q : Value → Shared → Prop}, Q (.bool c) (X.sh h tk) → wpAny (model g.prog g.w) A (compareOp .Eq v w) Q E (X.sh h tk)) ∧ (∀ {Q : Value → Shared → Prop}, Q (.bool (!c)) (X.sh h tk) → wpAny (model g.prog g.w) A (compareOp .NotEq v w) Q E (X.sh h tk)) := by
 cases a with
 | int i =>
  obtain ⟨t, rfl⟩ := ha
  cases b with
  | int j => obtain ⟨u, rfl⟩ := hb; cases e; exact ⟨of_rc (ziS i j ▸ RcAt.int_int _ _ _ _), of_rcne (ziS i j ▸ RcNeAt.int_int _ _ _ _)⟩
  | none => cases hb; cases e; exact ⟨of_rc (RcAt.int_none _ _), of_rcne (RcNeAt.int_none _ _)⟩
  | str s => obtain ⟨u, rfl⟩ := hb; cases e; exact ⟨of_rc (RcAt.int_str _ _ _ _), of_rcne (RcNeAt.int_str _ _ _ _)⟩
  | _ => exact noS e
 | str s =>
  obtain ⟨t, rfl⟩ := ha
  cases b with
  | int j => obtain ⟨u, rfl⟩ := hb; cases e; exact ⟨of_rc (RcAt.str_int _ _ _ _), of_rcne (RcNeAt.str_int _ _ _ _)⟩
  | none => cases hb; cases e; exact ⟨of_rc (RcAt.str_none _ _), of_rcne (RcNeAt.str_none _ _)⟩
  | str u => obtain ⟨u, rfl⟩ := hb; cases e; exact ⟨of_rc (ziP _ _ ▸ RcAt.str_str _ _ _ _), of_rcne (ziP _ _ ▸ RcNeAt.str_str _ _ _ _)⟩
  | _ => exact noS e
 | none =>
  cases ha
  cases b with
  | int j => obtain ⟨u, rfl⟩ := hb; cases e; exact ⟨of_rc (RcAt.none_int _ _), of_rcne (RcNeAt.none_int _ _)⟩
  | none => cases hb; cases e; exact ⟨of_rc RcAt.none_none, of_rcne RcNeAt.none_none⟩
  | str s => obtain ⟨u, rfl⟩ := hb; cases e; exact ⟨of_rc (RcAt.none_str _ _), of_rcne (RcNeAt.none_str _ _)⟩
  | _ => exact noS e
 | bool x =>
  cases ha
  cases b with
  | bool y => cases hb; cases e; exact ⟨of_rc (RcAt.bool_bool _ _), of_rcne (RcNeAt.bool_bool _ _)⟩
  | _ => exact noS e
 | lst l => obtain ⟨vs, ws, q1, q2, e⟩ := zeU (show eqLs st (.lst l) b = some c from e); exact R.eqRl hu q1 q2 e ha hb
 | obj i => obtain ⟨vs, ws, q1, q2, e⟩ := zeU (show eqLs st (.obj i) b = some c from e); exact R.eqRl hu q1 q2 e ha hb
 | _ => exact noS e
end
end Mine
end
section
open PySem.SeqAt PySem.EqBoolInt
namespace Mine
noncomputable def Fin (g : Gl) (X : Cx) (G : Sto) (rs : List Addr) (K : SV → SS → Prop) (Q : Value → Shared → Prop) : Prop :=
 ∀ G' rs' st' sv v h' tk', Ext G rs G' rs' → Rel g X G' rs' st' h' → VR g G' rs' sv v → K sv st' → Q v (X.sh h' tk')
theorem VR.tok_int {g : Gl} {G : Sto} {rs : List Addr} (i : Int) (t : Tok) : VR g G rs (.int i) (.int i t) := ⟨t, rfl⟩
theorem VR.tok_str {g : Gl} {G : Sto} {rs : List Addr} (s : Str) (t : Tok) : VR g G rs (.str s) (.str s t) := ⟨t, rfl⟩
theorem VR.tok_bool {g : Gl} {G : Sto} {rs : List Addr} (b : Bool) : VR g G rs (.bool b) (.bool b) := rfl
theorem VR.none {g : Gl} {G : Sto} {rs : List Addr} : VR g G rs .none .none := rfl
section
variable {g : Gl} {X : Cx} {G : Sto} {rs : List Addr} {st : SS} {h : Heap} {tk : Nat} {E : Value → Shared → Prop} {Q : Value → Shared → Prop} {K : SV → SS → Prop}
theorem Fin.here (F : Fin g X G rs K Q) (R : Rel g X G rs st h) {sv : SV} {v : Value} (hv : VR g G rs sv v) (k : K sv st) (tk : Nat) : Q v (X.sh h tk) := F G rs st sv v h tk Ext.refl R hv k
theorem Rel.dct_ne (R : Rel g X G rs st h) : sysModules < h.objs.size := by
 obtain ⟨a, o, hlt, e⟩ := g.big
 exact Nat.lt_trans hlt (Heap.lt_size (R.keepsBase _ _ e))
set_option backward.match.sparseCases false in
noncomputable def isS (x : Str) : Value → Bool
 | .str z _ => z == x
 | _ => false
set_option backward.match.sparseCases false in
noncomputable def isI (x : Int) : Value → Bool
 | .int z _ => z == x
 | _ => false
theorem ze3 {x : Str} {svs : List SV} : ∀ {vs : List Value} {b : Bool}, strIn x svs = some b → VRl g G rs svs vs →
  (∀ y ∈ vs, ∃ z t, y = .str z t) ∧ vs.any (isS x) = b := by
 induction svs with
 | nil =>
  intro vs b e hv
  cases e
  rw [hv.unnil]
  exact ⟨fun y hy => absurd hy List.not_mem_nil, rfl⟩
 | cons sv r ih =>
  intro vs b e hv
  obtain ⟨v, t, rfl, h1, h2⟩ := hv
  obtain ⟨y, q, e⟩ := Option.bind_eq_some_iff.mp e
  obtain ⟨c, q2, rfl⟩ := Option.map_eq_some_iff.mp e
  cases zcB q
  obtain ⟨u, rfl⟩ := h1
  obtain ⟨hf, hb⟩ := ih q2 h2
  refine ⟨fun z hz => ?_, ?_⟩
  ·rcases List.mem_cons.mp hz with rfl | hz
   ·exact ⟨_, _, rfl⟩
   ·exact hf z hz
  ·rw [List.any_cons, ziP, hb]; rfl
theorem zfB {x : Int} {svs : List SV} : ∀ {vs : List Value} {b : Bool}, intIn x svs = some b → VRl g G rs svs vs →
  (∀ y ∈ vs, ∃ z t, y = .int z t) ∧ vs.any (isI x) = b := by
 induction svs with
 | nil =>
  intro vs b e hv
  cases e
  rw [hv.unnil]
  exact ⟨fun y hy => absurd hy List.not_mem_nil, rfl⟩
 | cons sv r ih =>
  intro vs b e hv
  obtain ⟨v, t, rfl, h1, h2⟩ := hv
  obtain ⟨y, q, e⟩ := Option.bind_eq_some_iff.mp e
  obtain ⟨c, q2, rfl⟩ := Option.map_eq_some_iff.mp e
  cases zaP q
  obtain ⟨u, rfl⟩ := h1
  obtain ⟨hf, hb⟩ := ih q2 h2
  refine ⟨fun z hz => ?_, ?_⟩
  ·rcases List.mem_cons.mp hz with rfl | hz
   ·exact ⟨_, _, rfl⟩
   ·exact hf z hz
  ·rw [List.any_cons, ziS, hb]; rfl
theorem zh1 : ∀ {l : List Nat} {x : Nat}, memN l x = decide (x ∈ l)
 | [], x => by simp [memN]
 | a :: r, x => by
  unfold memN
  cases q : Nat.beq a x with
  | true => simp [Nat.eq_of_beq_eq_true q]
  | false =>
   have := Nat.ne_of_beq_eq_false q
   simp [zh1 (l := r), Ne.symm this]
theorem zaN {a b : Int} (h : ltB a b = true) : a < b := of_decide_eq_true h
theorem zaU {a b : Int} (h : leB a b = true) : a ≤ b := of_decide_eq_true h
theorem zaQ {a b : Int} (h : ltB a b = false) : b ≤ a := Int.not_lt.mp (of_decide_eq_false h)
theorem zdF {a b : Int} (h : leB a b = false) : b < a := Int.not_le.mp (of_decide_eq_false h)
theorem zb3 {a b : Int} (h : eqB a b = true) : a = b := of_decide_eq_true h
theorem zaL {n : Nat} (h : inLine n = true) : n ≤ 100000 := Nat.le_of_ble_eq_true h
set_option tactic.hygienic true in
theorem znH {a b : Str} {c : Bool} (e : (match a.cps.toList with
  | [c] => some (memN b.cps.toList c)
  | _ => match ltB b.cps.size a.cps.size with
   | true => some false
   | false => Option.none) = some c) : (!(Builtin.Str.occurrences b a 0 b.length 1).isEmpty) = c := by
 split at e
 ·rename_i k q
  cases e
  have : a = ⟨#[k]⟩ := by
   cases a
   congr 1
   exact Array.toList_inj.mp q
  rw [this, StrLaws.found_one, zh1]
 ·split at e
  ·rename_i q
   cases e
   have hlt := zaN q
   rw [← Bool.not_eq_true, StrLaws.found_iff]
   rintro ⟨i, h1, _⟩
   simp only [Str.length] at h1
   lia
  ·cases e
theorem Rel.inD (R : Rel g X G rs st h) {x : Int} {t : Tok} {b : SV} {w : Value} {c : Bool} {es : List (Int × SV)} (q : dictOfS st b = some es) (e : some (ilk es x).isSome = some c) (hb : VR g G rs b w) :
  (∀ {Q : Value → Shared → Prop}, (∀ k, Q (.bool c) (X.sh h k)) → wpAny (model g.prog g.w) X.A (compareOp .In (.int x t) w) Q E (X.sh h tk)) ∧ (∀ {Q : Value → Shared → Prop}, (∀ k, Q (.bool (!c)) (X.sh h k)) → wpAny (model g.prog g.w) X.A (compareOp .NotIn (.int x t) w) Q E (X.sh h tk)) := by
 cases e
 obtain ⟨d, f, rfl, hm, hd, hs⟩ := R.dictAt hb q
 have hf : (f x).isSome = (ilk es x).isSome := by
  cases q2 : ilk es x with
  | none => rw [hd.none q2]; rfl
  | some sv => obtain ⟨v, hv, _⟩ := hd.some q2; rw [hv]; rfl
 rw [← hf]
 exact ⟨fun hq => wpAny_in_of (knd := PySem.intKind g.prog g.w) (key := .int x t) (by show (x == x) = true; simp) hs hm (hq _), fun hq => wpAny_notIn_of (knd := PySem.intKind g.prog g.w) (key := .int x t) (by show (x == x) = true; simp) hs hm (hq _)⟩
theorem Rel.inR (R : Rel g X G rs st h) {a b : SV} {v w : Value} {c : Bool} (e : inV st a b = some c) (ha : VR g G rs a v) (hb : VR g G rs b w) :
  (∀ {Q : Value → Shared → Prop}, (∀ k, Q (.bool c) (X.sh h k)) → wpAny (model g.prog g.w) X.A (compareOp .In v w) Q E (X.sh h tk)) ∧ (∀ {Q : Value → Shared → Prop}, (∀ k, Q (.bool (!c)) (X.sh h k)) → wpAny (model g.prog g.w) X.A (compareOp .NotIn v w) Q E (X.sh h tk)) := by
 cases a with
 | str x =>
  obtain ⟨t, rfl⟩ := ha
  cases b with
  | str y =>
   obtain ⟨u, rfl⟩ := hb
   rw [← znH e]
   exact ⟨fun hq => in_str (hq _), fun hq => notIn_str (hq _)⟩
  | tup svs =>
   obtain ⟨l, vs, n, rfl, hl, hv⟩ := hb
   obtain ⟨h1, rfl⟩ := ze3 e hv
   have he : ∀ y, y ∈ vs.toArray → EqAt X.A.in1 (X.sh h tk) y (.str x t) (isS x y) := fun y hy => by
    obtain ⟨z, t', rfl⟩ := h1 y (by simpa using hy)
    exact EqAt.str_str _ _ _ _
   exact ⟨fun hq => in_tupleAt (isS x) (za3 (R.sto _ _ hl)) he (by simpa using hq _), fun hq => notIn_tupleAt (isS x) (za3 (R.sto _ _ hl)) he (by simpa using hq _)⟩
  | _ => exact noS e
 | int x =>
  obtain ⟨t, rfl⟩ := ha
  cases b with
  | tup svs =>
   obtain ⟨l, vs, n, rfl, hl, hv⟩ := hb
   obtain ⟨h1, rfl⟩ := zfB e hv
   have he : ∀ y, y ∈ vs.toArray → EqAt X.A.in1 (X.sh h tk) y (.int x t) (isI x y) := fun y hy => by
    obtain ⟨z, t', rfl⟩ := h1 y (by simpa using hy)
    exact EqAt.int_int _ _ _ _
   exact ⟨fun hq => in_tupleAt (isI x) (za3 (R.sto _ _ hl)) he (by simpa using hq _), fun hq => notIn_tupleAt (isI x) (za3 (R.sto _ _ hl)) he (by simpa using hq _)⟩
  | dct es => exact R.inD rfl e hb
  | obj i =>
   cases q : dictOfS st (.obj i) with
   | none =>
    change (match dictOfS st (.obj i) with
     | some es => some (ilk es x).isSome
     | none => none) = some c at e
    rw [q] at e; exact noS e
   | some es =>
    change (match dictOfS st (.obj i) with
     | some es => some (ilk es x).isSome
     | none => none) = some c at e
    rw [q] at e; exact R.inD q e hb
  | _ => exact noS e
 | _ => exact noS e
theorem ziA {a : SV} {v : Value} (hp : plainS a = true) (ha : VR g G rs a v) : (v == Value.none) = isNone a := by
 cases a with
 | none => cases ha; rfl
 | bool b => cases ha; rfl
 | int i => obtain ⟨_, rfl⟩ := ha; rfl
 | str s => obtain ⟨_, rfl⟩ := ha; rfl
 | top v => exact ft hp
 | bf f => exact ft hp
 | obj i => obtain ⟨_, _, rfl⟩ := ha; rfl
 | ins C i => obtain ⟨_, _, _, _, rfl⟩ := ha; rfl
 | imm C fs => obtain ⟨_, _, _, _, rfl, _⟩ := ha; rfl
 | tup l => obtain ⟨_, _, _, rfl, _⟩ := ha; rfl
 | lst l => obtain ⟨_, _, _, rfl, _⟩ := ha; rfl
 | dct l => obtain ⟨_, _, _, rfl, _⟩ := ha; rfl
 | sdct l => obtain ⟨_, _, _, rfl, _⟩ := ha; rfl
 | rng n => obtain ⟨_, _, _, _, _, _, _, rfl, _⟩ := ha; rfl
 | exc y => obtain ⟨_, _, _, _, _, _, _, rfl, _⟩ := ha; rfl
theorem zeP {a : SV} {v : Value} {c : Bool} (e : isNoneO a = some c) (ha : VR g G rs a v) : (v == Value.none) = c := by
 unfold isNoneO at e
 cases q : plainS a with
 | false => rw [q] at e; exact noS e
 | true => rw [q] at e; exact (ziA q ha).trans (Option.some.inj e)
theorem Rel.cmp (R : Rel g X G rs st h) (hu : X.A.units + 64 < cLine) {op : CmpOp} {a b : SV} {v w : Value} {c : Bool} (e : cmpV st op a b = some c) (ha : VR g G rs a v) (hb : VR g G rs b w)
  (hq : ∀ k, Q (.bool c) (X.sh h k)) : wpAny (model g.prog g.w) X.A (compareOp op v w) Q E (X.sh h tk) := by
 have nn : ∀ {o : Option Bool} {c : Bool}, notO o = some c → ∃ d, o = some d ∧ c = !d := fun {o c} q => by
  cases o with
  | none => cases q
  | some d => cases q; exact ⟨d, rfl, rfl⟩
 cases op with
 | Eq => exact (R.eqR hu e ha hb).1 (hq _)
 | NotEq => obtain ⟨d, e1, rfl⟩ := nn e; exact (R.eqR hu e1 ha hb).2 (hq _)
 | In => exact (R.inR e ha hb).1 hq
 | NotIn => obtain ⟨d, e1, rfl⟩ := nn e; exact (R.inR e1 ha hb).2 hq
 | Is =>
  cases b with
  | none => cases hb; rw [← zeP e ha] at hq; exact is_none (hq _)
  | _ => exact noS e
 | IsNot =>
  cases b with
  | none => cases hb; obtain ⟨d, e1, rfl⟩ := nn e; rw [← zeP e1 ha] at hq; exact isNot_none (hq _)
  | _ => exact noS e
 | Lt =>
  cases a with
  | int i => obtain ⟨t, rfl⟩ := ha; cases b with
   | int j => obtain ⟨u, rfl⟩ := hb; cases e; exact lt_int (hq _)
   | _ => exact noS e
  | _ => exact noS e
 | LtE =>
  cases a with
  | int i => obtain ⟨t, rfl⟩ := ha; cases b with
   | int j => obtain ⟨u, rfl⟩ := hb; cases e; exact le_int (hq _)
   | _ => exact noS e
  | _ => exact noS e
 | Gt =>
  cases a with
  | int i => obtain ⟨t, rfl⟩ := ha; cases b with
   | int j => obtain ⟨u, rfl⟩ := hb; cases e; exact gt_int (hq _)
   | _ => exact noS e
  | _ => exact noS e
 | GtE =>
  cases a with
  | int i => obtain ⟨t, rfl⟩ := ha; cases b with
   | int j => obtain ⟨u, rfl⟩ := hb; cases e; exact ge_int (hq _)
   | _ => exact noS e
  | _ => exact noS e
end
end Mine
end
section
open PySem.SeqAt PySem.EqBoolInt
namespace Mine
theorem and_true {a b : Bool} (h : (a && b) = true) : a = true ∧ b = true := by simpa using h
theorem zaH {a b : Bool} (h : (a && b) = true) : a = true := (and_true h).1
theorem zaG {a b : Bool} (h : (a && b) = true) : b = true := (and_true h).2
theorem zp1 {x y : Int} (h0 : 0 < y) (h1 : y ≤ 100000) : Builtin.divisionGoesByPylong x y = false := by
 unfold Builtin.divisionGoesByPylong
 have hl : y.natAbs.log2 < 17 := (Nat.log2_lt (by omega)).mpr (by omega)
 have : ¬ ((if y == 0 then 0 else y.natAbs.log2 / 30 + 1) > 300) := by
  split
  ·omega
  ·omega
 show (decide ((if y == 0 then 0 else y.natAbs.log2 / 30 + 1) > 300) && _) = false
 rw [decide_eq_false this, Bool.false_and]
section
variable {g : Gl} {X : Cx} {G : Sto} {rs : List Addr} {st : SS} {h : Heap} {tk : Nat} {E : Value → Shared → Prop} {Q : Value → Shared → Prop} {K : SV → SS → Prop}
theorem zaX {n : Nat} (h : n ≤ 200000) : n ≤ sizeLine := Nat.le_trans h (by decide)
theorem byVal_nil : ∀ {n : Nat} {sv : SV} {v : Value}, byVal n sv = true → VR g G rs sv v → VR g G [] sv v
 | n, .none, _, _, h => h
 | n, .bool b, _, _, h => h
 | n, .int i, _, _, h => h
 | n, .str s, _, _, h => h
 | n, .top u, _, _, h => h
 | n, .bf f, _, _, h => h
 | n, .imm C fs, _, _, h => h
 | n, .lst vs, _, _, h => h
 | n, .dct es, _, _, h => h
 | n, .sdct es, _, _, h => h
 | n, .rng k, _, _, h => h
 | n, .exc s, _, _, h => h
 | n, .obj i, _, e, _ => by cases n <;> exact ft e
 | n, .ins C i, _, e, _ => by cases n <;> exact ft e
 | 0, .tup vs, _, e, _ => ft e
 | n + 1, .tup vs, _, e, h => by
  obtain ⟨a, us, m, e1, e2, r⟩ := h
  simp only [byVal] at e
  exact ⟨a, us, m, e1, e2, allV_nil (n := n) (fun hb hv => byVal_nil hb hv) e r⟩
where
 allV_nil : ∀ {n : Nat} (ih : ∀ {sv : SV} {v : Value}, byVal n sv = true → VR g G rs sv v → VR g G [] sv v) {svs : List SV} {vs : List Value}, byVal.allV (byVal n) svs = true → VRl g G rs svs vs → VRl g G [] svs vs
  | n, ih, [], _, _, h => by rw [h.unnil]; exact VRl.nil
  | n, ih, s :: r, _, e, h => by
   obtain ⟨v, t, rfl, h1, h2⟩ := h.uncons
   unfold byVal.allV at e
   split at e
   ·rename_i q
    exact VRl.cons (ih q h1) (allV_nil ih e h2)
   ·cases e
theorem allV_nil {n : Nat} {svs : List SV} {vs : List Value} (e : byVal.allV (byVal n) svs = true) (h : VRl g G rs svs vs) : VRl g G [] svs vs := byVal_nil.allV_nil (n := n) (fun hb hv => byVal_nil hb hv) e h
theorem Rel.newLst (R : Rel g X G rs st h) {svs : List SV} {vs : List Value} (n : Nat) (hv : VRl g G [] svs vs) :
  ∃ G', Ext G rs G' rs ∧ Rel g X G' rs st (h.push (lstO vs n)) ∧ VR g G' rs (.lst svs) (.ref h.objs.size) := by
 obtain ⟨x, R'⟩ := R.pushG (lstO vs n) rfl
 refine ⟨_, x, R', ?_⟩
 exact ⟨_, vs, n, rfl, za8 _ _ _, VRl.mono x.nil hv⟩
theorem Rel.addL (R : Rel g X G rs st h) {a b : SV} {v w : Value} (hk : addLs st a b (fun u => K u st)) (ha : VR g G rs a v) (hb : VR g G rs b w) (F : Fin g X G rs K Q) :
  wpAny (model g.prog g.w) X.A (binaryOp .Add v w) Q E (X.sh h tk) := by
 unfold addLs at hk
 cases q1 : lstOf st a with
 | none => rw [q1] at hk; exact hk.elim
 | some us =>
  rw [q1] at hk
  cases q2 : lstOf st b with
  | none => rw [q2] at hk; exact hk.elim
  | some ws =>
   rw [q2] at hk
   have c := CK_l hk
   replace hk := CK_r hk
   have c2 := zaG c
   have c1 := zaH c
   have c4 := zaG c1
   have c3 := zaH c1
   have c6 := zaG c2
   have c5 := zaH c2
   obtain ⟨x, xs, n, rfl, hx, ex⟩ := R.lstAt ha q1
   obtain ⟨y, ys, m, rfl, hy, ey⟩ := R.lstAt hb q2
   obtain ⟨G', x', R', hv⟩ := R.newLst 0 ((allV_nil c5 hx).append (allV_nil c6 hy))
   refine P.add_list (items := xs.toArray) (items2 := ys.toArray) ex ey ?_ (zaX ?_)
   ·rw [List.append_toArray]
    exact F _ _ _ _ _ _ _ x' R' hv hk
   ·have h1 := zaL c3
    have h2 := zaL c4
    rw [← hx.length] at h1
    rw [← hy.length] at h2
    exact Nat.le_trans (Nat.add_le_add h1 h2) (by decide)
theorem Rel.bin (R : Rel g X G rs st h) {op : Operator} {a b : SV} {v w : Value} (hk : binV st op a b (fun u => K u st)) (ha : VR g G rs a v) (hb : VR g G rs b w) (F : Fin g X G rs K Q) :
  wpAny (model g.prog g.w) X.A (binaryOp op v w) Q E (X.sh h tk) := by
 unfold binV at hk
 cases q : isAdd op with
 | true =>
  rw [q] at hk
  have e : op = .Add := by cases op <;> first | rfl | exact ft q
  subst e
  cases a with
  | int x =>
   revert hk
   refine OM_e fun y q hk => ?_
   obtain rfl := zaP q
   obtain ⟨t, rfl⟩ := ha; obtain ⟨u, rfl⟩ := hb
   exact add_int (F.here R (VR.tok_int _ _) hk _)
  | str x =>
   revert hk
   refine OM_e fun y q hk => ?_
   obtain rfl := zcB q
   obtain ⟨t, rfl⟩ := ha; obtain ⟨u, rfl⟩ := hb
   have c := CK_l hk
   replace hk := CK_r hk
   have c2 := zaG c
   have c1 := zaH c
   exact SB.add (fun t' k => F.here R (VR.tok_str _ _) hk _) (zaX (Nat.le_trans (Nat.add_le_add (zaL c1) (zaL c2)) (by decide)))
  | lst l => exact R.addL (a := .lst l) (b := b) hk ha hb F
  | obj i => exact R.addL (a := .obj i) (b := b) hk ha hb F
  | _ => exact False.elim hk
 | false =>
  rw [q] at hk
  revert hk
  refine OM_e fun x q1 hk => ?_
  revert hk
  refine OM_e fun y q2 hk => ?_
  obtain rfl := zaP q1
  obtain rfl := zaP q2
  obtain ⟨t, rfl⟩ := ha; obtain ⟨u, rfl⟩ := hb
  cases op with
  | Sub => exact sub_int (F.here R (VR.tok_int _ _) hk _)
  | Mult =>
   have c := CK_l hk
   replace hk := CK_r hk
   have c2 := zaG c
   have c1 := zaH c
   have c4 := zaG c1
   have c3 := zaH c1
   exact mul_int (F.here R (VR.tok_int _ _) hk _) (IntMulOk.of_left (intBits_le_64 (Int.le_of_lt (Int.lt_of_le_of_lt (by decide) (zaN c3))) (Int.lt_of_lt_of_le (zaN c4) (by decide))))
  | FloorDiv =>
   have c := CK_l hk
   replace hk := CK_r hk
   have c2 := zaG c
   have c1 := zaH c
   have h0 := zaN c1
   exact floordiv_int (Int.ne_of_gt h0) (F.here R (VR.tok_int _ _) hk _) (.inl (zp1 h0 (zaU c2)))
  | Mod =>
   have c := CK_l hk
   replace hk := CK_r hk
   exact mod_int' (Int.ne_of_gt (zaN c)) (F.here R (VR.tok_int _ _) hk _)
  | Pow =>
   have c := CK_l hk
   replace hk := CK_r hk
   have c2 := zaG c
   have c1 := zaH c
   have c4 := zaG c2
   have c3 := zaH c2
   have e := zb3 c1
   subst e
   have h0 := zaU c3
   have h1 := zaU c4
   refine pow_int h0 ?_ (F.here R (VR.tok_int _ _) hk _)
   have : Builtin.Int.intBits 10 = 4 := by decide
   rw [this]
   lia
  | Add => exact ft q.symm
  | _ => exact False.elim hk
set_option tactic.hygienic true in
theorem zcD {k : Int} {n j : Nat} (e : place k n = some j) : seqIndex? k n = some j ∧ j < n ∧ (0 ≤ k → j = k.toNat ∧ k < n) ∧ (k < 0 → j = (k + n).toNat ∧ -(n : Int) ≤ k) := by
 unfold place at e
 unfold seqIndex?
 split at e
 ·rename_i q
  have h0 := zaU q
  split at e
  ·rename_i q2
   have h2 := zaN q2
   cases e
   have e0 : (if k < 0 then k + (n : Int) else k) = k := if_neg (by lia)
   have c : (decide (0 ≤ k) && decide (k < (n : Int))) = true := by simp; lia
   simp only [e0, c, if_true]
   exact ⟨trivial, by lia, fun _ => ⟨trivial, h2⟩, fun q => by lia⟩
  ·cases e
 ·rename_i q
  have h0 := zdF q
  split at e
  ·rename_i q2
   have h2 := zaU q2
   cases e
   have e0 : (if k < 0 then k + (n : Int) else k) = k + n := if_pos h0
   have c : (decide (0 ≤ k + (n : Int)) && decide (k + (n : Int) < (n : Int))) = true := by simp; lia
   simp only [e0, c, if_true]
   exact ⟨trivial, by lia, fun q => by lia, fun _ => ⟨trivial, by lia⟩⟩
  ·cases e
theorem zdU {k : Int} {n j : Nat} (e : place k n = some j) (hn : n < 2 ^ 62) : -(2 ^ 63) ≤ k ∧ k < 2 ^ 63 := by
 obtain ⟨_, h1, h2, h3⟩ := zcD e
 by_cases q : 0 ≤ k
 ·have := h2 q; lia
 ·have := h3 (by lia); lia
set_option tactic.hygienic true in
theorem Rel.item (R : Rel g X G rs st h) {o i : SV} {v w : Value} (hk : getI0 o i st K) (ho : VR g G rs o v) (hi : VR g G rs i w) (F : Fin g X G rs K Q) :
  wpAny (model g.prog g.w) X.A (getItem v w) Q E (X.sh h tk) := by
 unfold getI0 at hk
 split at hk
 ·rename_i k
  obtain ⟨t, rfl⟩ := hi
  split at hk
  ·rename_i s
   obtain ⟨u, rfl⟩ := ho
   have c := CK_l hk
   replace hk := CK_r hk
   have hl := zaL c
   revert hk
   refine OM_e fun j e hk => ?_
   obtain ⟨e1, e2, _⟩ := zcD e
   obtain ⟨f1, f2⟩ := zdU e (by lia)
   refine P.getItem_str (c := s.cps.toList.getD j 0) (by simp; lia) ?_ (F.here R (VR.tok_str _ _) hk _)
   show (seqIndex? k s.cps.size).bind _ = _
   rw [e1]
   show s.cps[j]? = _
   rw [List.getD_eq_getElem?_getD, Array.getElem?_toList, Array.getElem?_eq_getElem e2]; rfl
  ·split at hk
   ·rename_i es q
    revert hk
    refine OM_e fun sv e hk => ?_
    obtain ⟨d, f, rfl, hm, hd, hs⟩ := R.dictAt ho q
    obtain ⟨x, hx, hv⟩ := hd.some e
    exact wpAny_getItem_of (knd := PySem.intKind g.prog g.w) (key := .int k t) (by show (k == k) = true; simp) hm hx (F.here R hv hk _)
   ·split at hk
    ·rename_i svs q
     have c := CK_l hk
     replace hk := CK_r hk
     have hl := zaL c
     revert hk
     refine OM_e fun j e hk => ?_
     revert hk
     refine OM_e fun sv e' hk => ?_
     obtain ⟨e1, e2, e3, e4⟩ := zcD e
     obtain ⟨f1, f2⟩ := zdU e (by lia)
     obtain ⟨a, vs, n, rfl, hv, ha⟩ := R.seqAt ho q
     obtain ⟨x, hx, hr⟩ := hv.get e'
     have hlen := hv.length
     have hx' : vs.toArray[j]? = some x := by simpa using hx
     have hq := F.here R hr hk tk
     rcases ha with ha | ha
     ·by_cases q : 0 ≤ k
      ·obtain ⟨rfl, q2⟩ := e3 q
       exact wpAny_getItem_list (zaJ ha) q f2 hx' hq
      ·have q3 : k < 0 := by lia
       obtain ⟨rfl, q2⟩ := e4 q3
       refine wpAny_getItem_list_neg (zaJ ha) q3 ?_ f1 ?_ hq
       ·simp only [List.size_toArray]; lia
       ·simp only [List.size_toArray]; rw [hlen]; exact hx'
     ·refine getItem_tuple (za3 ha) f1 f2 ?_ hx' hq
      simp only [List.size_toArray]; rw [hlen]; exact e1
    ·exact hk.elim
 ·rename_i k
  obtain ⟨t, rfl⟩ := hi
  split at hk
  ·rename_i es
   revert hk
   refine OM_e fun sv e hk => ?_
   obtain ⟨d, o, f, rfl, ho, ⟨m1, es', ep', m2, m3, m4⟩, hd⟩ := ho
   obtain ⟨x, hx, hv⟩ := hd.some e
   exact wpAny_getItem_of (knd := PySem.strKind g.prog g.w) (key := .str k t) (by show (k == k) = true; simp) ⟨o, es', ep', R.sto _ _ ho, m1, m2, m3, m4⟩ hx (F.here R (VR.mono Ext.ofNil hv) hk _)
  ·exact hk.elim
 ·exact hk.elim
set_option tactic.hygienic true in
theorem Rel.itemJ (R : Rel g X G rs st h) {b : Bool} {o i : SV} {v w : Value} (hk : getJ b o i st K) (ho : VR g G rs o v) (hi : VR g G rs i w) (F : Fin g X G rs K Q) :
  wpAny (model g.prog g.w) X.A (getItem v w) Q E (X.sh h tk) := by
 cases b with
 | false => exact R.item (zl1 hk) ho hi F
 | true =>
  have hk' : getP o i st K := hk
  unfold getP at hk'
  split at hk'
  ·rename_i k
   obtain ⟨t, rfl⟩ := hi
   revert hk'
   refine OM_e fun sv e hk' => ?_
   rcases zeR e with ⟨es, q, e⟩ | ⟨svs, j, q0, q, e, e', b1, b2⟩
   ·obtain ⟨d, f, rfl, hm, hd, hs⟩ := R.dictAt ho q
    obtain ⟨x, hx, hv⟩ := hd.some e
    exact wpAny_getItem_of (knd := PySem.intKind g.prog g.w) (key := .int k t) (by show (k == k) = true; simp) hm hx (F.here R hv hk' _)
   ·obtain ⟨e1, e2, e3, e4⟩ := zcD e
    obtain ⟨a, vs, n, rfl, hv, ha⟩ := R.seqAt ho q
    obtain ⟨x, hx, hr⟩ := hv.get e'
    have hlen := hv.length
    have hx' : vs.toArray[j]? = some x := by simpa using hx
    have hq := F.here R hr hk' tk
    rcases ha with ha | ha
    ·by_cases q : 0 ≤ k
     ·obtain ⟨rfl, q2⟩ := e3 q
      exact wpAny_getItem_list (zaJ ha) q (by lia) hx' hq
     ·have q3 : k < 0 := by lia
      obtain ⟨rfl, q2⟩ := e4 q3
      refine wpAny_getItem_list_neg (zaJ ha) q3 ?_ (by lia) ?_ hq
      ·simp only [List.size_toArray]; lia
      ·simp only [List.size_toArray]; rw [hlen]; exact hx'
    ·refine getItem_tuple (za3 ha) (by lia) (by lia) ?_ hx' hq
     simp only [List.size_toArray]; rw [hlen]; exact e1
  ·exact hk'.elim
end
end Mine
end
section
open PySem.SeqAt PySem.EqBoolInt
namespace Mine
section
variable {prog : Program} {w : World} {A : Around} {E : Value → Shared → Prop} {s : Shared}
theorem zgS {l : Addr} {vs : List Value} {n : Nat} {k : Int} {t : Tok} {v : Value} {Q : Unit → Shared → Prop} (ho : s.heap.get? l = some (lstO vs n))
  (h0 : 0 ≤ k) (hfit : k < 2 ^ 63) (hn : k < vs.length)
  (hQ : Q () { s with heap := s.heap.update l (Obj.mapSeq (·.setIfInBounds k.toNat v)) }) :
  wpAny (model prog w) A (setItem (.ref l) (.int k t) v) Q E s := by
 have hl : s.heap.IsList l vs.toArray := ⟨_, ho, rfl, n, rfl⟩
 have hd : (lstO vs n).data = .seq vs.toArray n := rfl
 unfold setItem
 refine wpAny_holding ?_
 refine wpAny_bind (wpAny_sequenceKey hl.typeIs (by decide) ?_)
 refine wpAny_bind (wpAny_callSpecial?_slot (name := Str.ofString "__setitem__") hl.typeIs slot_list_setitem
  (wpAny_call_entry slot_list_setitem hl.typeIs entry_list_setitem ?_ (args_list_setitem _ _ _)))
 show wpAny _ _ (Builtin.List.listSubscript? (.int k t) >>= _) _ _ s
 refine wpAny_bind (wpAny_listSubscript_int (fitsIndex_of h0 hfit) ?_)
 clear hfit
 obtain ⟨j, rfl⟩ := Int.eq_ofNat_of_zero_le h0
 have hj : j < vs.toArray.size := by simp only [List.size_toArray]; lia
 have hx' : vs.toArray[j]? = some vs.toArray[j] := Array.getElem?_eq_getElem hj
 show wpAny _ _ ((seqItemAt l j >>= fun r => pure (r.map (j, ·))) >>= _) _ _ s
 refine wpAny_bind (wpAny_bind (wpAny_seqItemAt ho hd (wpAny_pure ?_)))
 rw [hx']
 show wpAny _ _ (setSeqItemAt l j v >>= _) _ _ s
 refine wpAny_bind (wpAny_setSeqItemAt ho hd ?_)
 first
  | exact wpAny_bind (wpAny_pure (wpAny_pure ⟨.none, rfl, wpAny_pure hQ⟩))
  | exact wpAny_pure ⟨.none, rfl, wpAny_pure hQ⟩
theorem zeK {K : Type} [DecidableEq K] {knd : PySem.KeyKind prog w K} {d : Addr} {f : K → Option Value} {k : K} {key v : Value} {o : Obj} {es : Array DictEntry} {ep : Nat} {Q : Unit → Shared → Prop} (hkey : knd.is k key = true)
  (ho : s.heap.get? d = some o) (hc : o.ExactDict) (hd : o.data = .dict es ep) (hk : KeysOf knd es) (hf : ∀ k, findBy knd.is es k = f k) (hz : es.size ≤ sizeLine)
  (hQ : ∀ h' o' es' ep', h'.get? d = some o' → o'.ExactDict → o'.data = .dict es' ep' → KeysOf knd es' → (∀ x, findBy knd.is es' x = if x = k then some v else f x) → es'.size ≤ es.size + 1 → Heap.SameBut d s.heap h' → Q () { s with heap := h', toks := s.toks + 1 }) :
  wpAny (model prog w) A (setItem (.ref d) key v) Q E s := by
 have hm : s.heap.MapOf knd d f := ⟨o, es, ep, ho, hc, hd, hk, hf⟩
 unfold setItem
 refine wpAny_holding ?_
 refine wpAny_bind (wpAny_sequenceKey hm.typeIs (by decide) ?_)
 refine wpAny_bind (wpAny_callSpecial?_slot (name := Str.ofString "__setitem__") hm.typeIs slot_dict_setitem
  (wpAny_call_entry slot_dict_setitem hm.typeIs entry_dict_setitem ?_ (args_dict_setitem _ _ _)))
 show wpAny _ _ (Builtin.Dict.notOrdered "__setitem__" ⟨[.ref d, key, v], []⟩ >>= _) _ _ s
 refine wpAny_bind (wpAny_notOrdered_dict hm.typeIs ?_)
 show wpAny _ _ (dictSet d key v >>= _) _ _ s
 refine wpAny_bind ?_
 unfold dictSet
 try with_reducible refine wpAny_holding ?_
 refine wpAny_bind (knd.pyHash hkey ?_)
 unfold dictSetHashed
 try with_reducible refine wpAny_holding ?_
 refine wpAny_bind (wpAny_dictFind_of (s := { s with toks := s.toks + 1 }) hkey ho hd hk ?_)
 cases hi : es.findIdx? fun e => knd.is k e.key with
 | some i =>
  refine wpAny_bind (wpAny_rule (wpAny_bind (wpAny_updateDict (s := { s with toks := s.toks + 1 }) ho hd (wpAny_point (wpAny_pure ⟨.none, rfl, wpAny_pure (hQ _ _ _ ep (Heap.get?_update_self _ ho (Obj.isFreed_of_dict (Obj.data_mapDict hd _)))
   (hc.mapDict _) (Obj.data_mapDict hd _) (hk.modify _ _) (fun x => ?_) (by rw [Array.size_modify]; lia) (Heap.SameBut.update ..))⟩)))))
  rw [findBy_modify knd.is knd.inj es k x v i hi, hf]
 | none =>
  refine wpAny_bind (wpAny_rule (wpAny_updateDictKeys (hz := hz) (s := { s with toks := s.toks + 1 }) ho hd (wpAny_pure ⟨.none, rfl, wpAny_pure (hQ _ _ _ (ep + 1) (Heap.get?_update_self _ ho (Obj.isFreed_of_dict (Obj.data_mapDictKeys hd _)))
   (hc.mapDictKeys _) (Obj.data_mapDictKeys hd _) (hk.push hkey _) (fun x => ?_) (by rw [Array.size_push]; lia) (Heap.SameBut.update ..))⟩)))
  rw [findBy_push knd.is es k x _ _ v (KeyKind.is_eq_decide hkey) hi, hf]
end
section
variable {g : Gl} {X : Cx} {G : Sto} {rs : List Addr} {st : SS} {h : Heap} {tk : Nat} {E : Value → Shared → Prop} {Q : Value → Shared → Prop} {K : SV → SS → Prop}
theorem zgY (f : Array Value → Array Value) (vs : List Value) (n : Nat) : ∃ m, Obj.mapSeq f (lstO vs n) = { cls := .type "list", data := .seq (f vs.toArray) m } := ⟨_, rfl⟩
theorem Rel.updSeq (R : Rel g X G rs st h) {i : Nat} {a : Addr} {vs us : List Value} {n : Nat} {svs : List SV} (hr : rs[i]? = some a) (ha : h.get? a = some (lstO vs n)) {f : Array Value → Array Value} (hf : f vs.toArray = us.toArray) (hv : VRl g G rs svs us) :
  Rel g X G rs ⟨st.loc, st.H.set i (.seq svs)⟩ (h.update a (Obj.mapSeq f)) := by
 refine R.setCell hr (fun b o hb eb => (Heap.get?_update_other h _ (Ne.symm hb)).trans eb) ?_
 obtain ⟨m, e⟩ := zgY f vs n
 refine ⟨us, m, ?_, hv⟩
 rw [Heap.get?_update_self _ ha (by rw [e]; rfl), e, hf]
set_option tactic.hygienic true in
theorem Rel.setI (R : Rel g X G rs st h) {o i v : SV} {vo vi w : Value} {Q : Unit → Shared → Prop} {KO : Out → SS → Prop} (hk : Mine.setI o i v st KO) (ho : VR g G rs o vo) (hi : VR g G rs i vi) (hv : VR g G rs v w)
  (F : ∀ st' h' tk', Rel g X G rs st' h' → KO .next st' → Q () (X.sh h' tk')) : wpAny (model g.prog g.w) X.A (setItem vo vi w) Q E (X.sh h tk) := by
 unfold Mine.setI at hk
 split at hk
 ·rename_i j
  obtain ⟨a, hr, rfl⟩ := ho
  split at hk
  ·rename_i svs q
   refine zdS hk fun k ek hk1 => ?_
   clear hk
   have ek := zaP ek
   subst ek
   have hk := hk1
   obtain ⟨t, rfl⟩ := hi
   have c := CK_l hk
   replace hk := CK_r hk
   have c0 := zaH c
   have c := zaG c
   have c1 := zaG c0
   have c0 := zaH c0
   have h0 := zaU c0
   have hl := zaL c
   have e5 := zaN c1
   obtain ⟨vs, n, ha, hvs⟩ := R.cell j a _ hr q
   have hlen := hvs.length
   exact zgS (s := X.sh h tk) ha h0 (by lia) (by lia) (F _ _ _ (R.updSeq hr ha (us := vs.set k.toNat w) (by simp) (hvs.set _ hv)) hk)
  ·rename_i es n q
   refine zdS hk fun k ek hk1 => ?_
   clear hk
   have ek := zaP ek
   subst ek
   have hk := hk1
   obtain ⟨t, rfl⟩ := hi
   have c := CK_l hk
   replace hk := CK_r hk
   obtain ⟨ob, f, ds, ep, ha, ⟨m1, es', ep', m2, m3, m4⟩, hd, hz, hs, hdr⟩ := R.cell j a _ hr q
   rw [m2] at hd; cases hd
   refine zeK (s := X.sh h tk) (knd := PySem.intKind g.prog g.w) (key := .int k t) (by show (k == k) = true; simp) ha m1 m2 m3 m4 (Nat.le_trans hz (zaX (by have := Nat.le_of_ble_eq_true c; lia))) fun h' o' es2 ep2 g1 g2 g3 g4 g5 g6 g7 => ?_
   have hc : CellR g G rs h' a (.idict (iset es k v) (n + 1)) := ⟨o', _, es2, ep2, g1, ⟨g2, es2, ep2, g3, g4, g5⟩, g3, by lia, hs, hdr.set hv⟩
   exact F _ _ _ (R.setCell hr (fun b o hb eb => (g7.2 b hb).trans eb) hc) hk
  ·exact hk.elim
 ·exact hk.elim
noncomputable def VRo (g : Gl) (G : Sto) (rs : List Addr) : Option SV → Value → Prop
 | none, v => v = .none
 | some sv, v => VR g G rs sv v
theorem zmA (n lo hi : Nat) : Builtin.Str.strSliceIndices (some (lo : Int)) (some (hi : Int)) 1 n = (List.range (min hi n - min lo n)).map (min lo n + ·) := by
 have h1 : ¬ ((lo : Int) < 0) := by lia
 have h2 : ¬ ((hi : Int) < 0) := by lia
 have e1 : max (0 : Int) (min (lo : Int) (n : Int)) = ((min lo n : Nat) : Int) := by lia
 have e2 : max (0 : Int) (min (hi : Int) (n : Int)) = ((min hi n : Nat) : Int) := by lia
 simp only [Builtin.Str.strSliceIndices, h1, h2, if_false, show ((1 : Int) > 0) = True from by simp, if_true, e1, e2]
 exact sliceRange_one _ _
theorem zi1 (n lo : Nat) : Builtin.Str.strSliceIndices (some (lo : Int)) none 1 n = (List.range (n - min lo n)).map (min lo n + ·) := by
 have h1 : ¬ ((lo : Int) < 0) := by lia
 have e1 : max (0 : Int) (min (lo : Int) (n : Int)) = ((min lo n : Nat) : Int) := by lia
 simp only [Builtin.Str.strSliceIndices, h1, if_false, show ((1 : Int) > 0) = True from by simp, if_true, e1]
 exact sliceRange_one _ _
theorem zl9 (l : List Nat) (lo hi : Nat) : (l.drop (min lo l.length)).take (min hi l.length - min lo l.length) = (l.drop lo).take (hi - lo) := by
 by_cases h : lo ≤ l.length
 ·rw [Nat.min_eq_left h]
  by_cases h2 : hi ≤ l.length
  ·rw [Nat.min_eq_left h2]
  ·rw [Nat.min_eq_right (by lia), List.take_of_length_le (by simp), List.take_of_length_le (by simp; lia)]
 ·have e : min lo l.length = l.length := Nat.min_eq_right (by lia)
  rw [e, List.drop_of_length_le (Nat.le_refl _), List.drop_of_length_le (show l.length ≤ lo by lia)]
  simp
set_option tactic.hygienic true in
theorem zf3 {x : Str} {t : Tok} {l u : Option (Int × Tok)} {ys : List Nat} {Q : Value → Shared → Prop} {s : Shared} (e : (slicePicked x l u none).filterMap (x.cps[·]?) = ys) (hlen : (slicePicked x l u none).length = ys.length) (hsub : ys.length = x.length → ys = x.cps.toList) (hs : ys.length ≤ sizeLine)
  (hq : ∀ t k, Q (.str ⟨ys.toArray⟩ t) { s with toks := k }) : (sliceMade x t l u none).post Q s := by
 unfold sliceMade
 split
 ·rename_i c
  have c2 : (slicePicked x l u none).length = x.length := by simpa using c
  have := hsub (by rw [← hlen]; exact c2)
  have e2 : (⟨ys.toArray⟩ : Str) = x := by rw [this]
  rw [e2] at hq
  exact hq t s.toks
 ·rw [e]
  exact ⟨by simpa [Str.length] using hs, hq _ _⟩
theorem znJ (l u n : Nat) : min u n - min l n = min u n - l := by
 rcases Nat.le_total l n with h | h
 ·rw [Nat.min_eq_left h]
 ·rw [Nat.min_eq_right h, Nat.sub_eq_zero_of_le (Nat.min_le_right u n), Nat.sub_eq_zero_of_le (Nat.le_trans (Nat.min_le_right u n) h)]
theorem zi0 {l : List Nat} {a k : Nat} (h : ((l.drop a).take k).length = l.length) : (l.drop a).take k = l :=
 ((List.take_sublist _ _).trans (List.drop_sublist _ _)).eq_of_length h
theorem ziZ (l : List Nat) (a u : Nat) : min u l.length - min a l.length = ((l.drop a).take (u - a)).length := by
 rw [List.length_take, List.length_drop, znJ, Nat.sub_min_sub_right]
theorem zl8 (l : List Nat) (a k : Nat) : ((l.drop a).take k).length ≤ l.length := ((List.take_sublist _ _).trans (List.drop_sublist _ _)).length_le
theorem zh3 {s : Str} {t : Tok} {l u : Nat} {t1 t2 : Tok} {Q : Value → Shared → Prop} {z : Shared} (hs : s.cps.size ≤ sizeLine)
  (hq : ∀ t k, Q (.str ⟨⟨(s.cps.toList.drop l).take (u - l)⟩⟩ t) { z with toks := k }) : (sliceMade s t (some ((l : Int), t1)) (some ((u : Int), t2)) none).post Q z := by
 refine zf3 (ys := (s.cps.toList.drop l).take (u - l)) ?_ ?_ (fun e => zi0 e) (Nat.le_trans (zl8 _ _ _) hs) hq
 ·show (Builtin.Str.strSliceIndices (some (l : Int)) (some (u : Int)) 1 s.cps.toList.length).filterMap _ = _
  rw [zmA, pick_run]
  exact zl9 s.cps.toList l u
 ·show (Builtin.Str.strSliceIndices (some (l : Int)) (some (u : Int)) 1 s.cps.toList.length).length = _
  rw [zmA, List.length_map, List.length_range]
  exact ziZ _ _ _
theorem zh4 {s : Str} {t : Tok} {l : Nat} {t1 : Tok} {Q : Value → Shared → Prop} {z : Shared} (hs : s.cps.size ≤ sizeLine)
  (hq : ∀ t k, Q (.str ⟨⟨(s.cps.toList.drop l).take (s.cps.size - l)⟩⟩ t) { z with toks := k }) : (sliceMade s t (some ((l : Int), t1)) none none).post Q z := by
 have e := zl9 s.cps.toList l s.cps.toList.length
 have e2 := ziZ s.cps.toList l s.cps.toList.length
 rw [Nat.min_self] at e e2
 refine zf3 (ys := (s.cps.toList.drop l).take (s.cps.size - l)) ?_ ?_ (fun e => zi0 e) (Nat.le_trans (zl8 _ _ _) hs) hq
 ·show (Builtin.Str.strSliceIndices (some (l : Int)) none 1 s.cps.toList.length).filterMap _ = _
  rw [zi1, pick_run]
  exact e
 ·show (Builtin.Str.strSliceIndices (some (l : Int)) none 1 s.cps.toList.length).length = _
  rw [zi1, List.length_map, List.length_range]
  exact e2
set_option tactic.hygienic true in
theorem Rel.slice (R : Rel g X G rs st h) {lo hi : Option SV} {o : SV} {v vl vu : Value} (hk : sliceV lo hi o st K) (ho : VR g G rs o v) (hl : VRo g G rs lo vl) (hh : VRo g G rs hi vu) (F : Fin g X G rs K Q) :
  wpAny (model g.prog g.w) X.A (getItem v (.ref h.objs.size)) Q E (X.sh (h.push { cls := .type "slice", data := .fields #[vl, vu, .none] }) tk) ∧ (∃ T, (X.sh (h.push { cls := .type "slice", data := .fields #[vl, vu, .none] }) tk).TypeIs v T ∧ ∃ id, typeLookup (.type T) "__getitem__" = pure (some (.builtin id))) := by
 have R' : Rel g X G rs st (h.push { cls := .type "slice", data := .fields #[vl, vu, .none] }) := R.keeps fun b o' e => Heap.get?_push_of_some _ e
 unfold sliceV at hk
 split at hk
 ·rename_i l' h'
  split at hk
  ·rename_i s
   have c := CK_l hk
   replace hk := CK_r hk
   have c3 := zaG c
   have c0 := zaH c
   have c2 := zaG c0
   have c1 := zaH c0
   have h0 := zaU c1
   have h1 := zaU c2
   have hz := zaL c3
   obtain ⟨t1, rfl⟩ := hl
   obtain ⟨t2, rfl⟩ := hh
   obtain ⟨t3, rfl⟩ := ho
   refine ⟨?_, "str", typeIs_str _ _ _, _, PySem.F.slot_str_getitem.lookup⟩
   obtain ⟨l, rfl⟩ := Int.eq_ofNat_of_zero_le h0
   obtain ⟨u, rfl⟩ := Int.eq_ofNat_of_zero_le h1
   refine wpAny_getItem_str_slice (l := some ((l : Int), t1)) (u := some ((u : Int), t2)) (st := none) ⟨_, Heap.get?_push_size _ rfl, rfl, rfl⟩ rfl (zh3 (zaX (Nat.le_trans hz (by decide))) fun t k => F.here R' (VR.tok_str _ _) hk _)
  ·exact hk.elim
 ·rename_i l'
  split at hk
  ·rename_i s
   have c := CK_l hk
   replace hk := CK_r hk
   have c3 := zaG c
   have c1 := zaH c
   have h0 := zaU c1
   have hz := zaL c3
   obtain ⟨t1, rfl⟩ := hl
   obtain rfl := show _ = _ from hh
   obtain ⟨t3, rfl⟩ := ho
   refine ⟨?_, "str", typeIs_str _ _ _, _, PySem.F.slot_str_getitem.lookup⟩
   obtain ⟨l, rfl⟩ := Int.eq_ofNat_of_zero_le h0
   refine wpAny_getItem_str_slice (l := some ((l : Int), t1)) (u := none) (st := none) ⟨_, Heap.get?_push_size _ rfl, rfl, rfl⟩ rfl (zh4 (zaX (Nat.le_trans hz (by decide))) fun t k => F.here R' (VR.tok_str _ _) hk _)
  ·split at hk
   ·rename_i svs q
    have c := CK_l hk
    have hk' := CK_r hk
    have c2 := zaG c
    have c0 := zaH c
    have c3 := zaG c0
    have c1 := zaH c0
    clear hk
    have e := zb3 c1
    clear c c0 c1
    subst e
    have hz := zaL c3
    obtain ⟨a, vs, n, rfl, hv, ha⟩ := R'.lstAt ho q
    obtain ⟨t1, rfl⟩ := hl
    obtain rfl := show _ = _ from hh
    refine ⟨?_, "list", (zaJ ha).typeIs, _, slot_list_getitem.lookup⟩
    obtain ⟨G', x', R2, hr⟩ := R'.newLst 0 ((allV_nil c2 hv).drop (svs.length - 1))
    have hlen := hv.length
    refine wpAny_getItem_list_slice (zaJ ha) (Heap.IsSliceOf.new ..) (.int _ _) .none .none (by simp) ?_ (zaX (by simp; lia))
    have e : slicePick vs.toArray (some (-1)) none none = (vs.drop (svs.length - 1)).toArray := by
     have := slicePick_last vs.toArray 1 (Nat.le_refl _)
     rw [show (-((1 : Nat) : Int)) = -1 from rfl] at this
     rw [this]
     simp [hlen]
    rw [e]
    exact F _ _ _ _ _ _ _ x' R2 hr hk'
   ·exact hk.elim
 ·rename_i h'
  split at hk
  ·rename_i svs q
   have c := CK_l hk
   replace hk := CK_r hk
   have c2 := zaG c
   have c0 := zaH c
   have c3 := zaG c0
   have c1 := zaH c0
   have h0 := zaU c1
   have hz := zaL c3
   obtain ⟨a, vs, n, rfl, hv, ha⟩ := R'.lstAt ho q
   obtain ⟨t2, rfl⟩ := hh
   obtain rfl := show _ = _ from hl
   refine ⟨?_, "list", (zaJ ha).typeIs, _, slot_list_getitem.lookup⟩
   obtain ⟨u, rfl⟩ := Int.eq_ofNat_of_zero_le h0
   obtain ⟨G', x', R2, hr⟩ := R'.newLst 0 ((allV_nil c2 hv).take u)
   have hlen := hv.length
   refine wpAny_getItem_list_slice (zaJ ha) (Heap.IsSliceOf.new ..) .none (.int _ _) .none (by simp) ?_ (zaX (by simp; lia))
   have e : slicePick vs.toArray none (some (u : Int)) none = (vs.take u).toArray := by
    rw [slicePick_upto']
   rw [e]
   exact F _ _ _ _ _ _ _ x' R2 hr hk
  ·exact hk.elim
 ·exact hk.elim
end
end Mine
end
section
open PySem.SeqAt PySem.EqBoolInt
namespace Mine
structure TabOk (g : Gl) (T : Tab) : Prop where
 attr : ∀ C a, T.attr C a = true → AttrOk g.K C a
 meth : ∀ C m f, T.meth C m = some f → MethOk g.K C m f
 sets : ∀ C a, T.sets C a = true → SetOk g.K C a
noncomputable def MethV (g : Gl) (G : Sto) (rs : List Addr) : Meth → Value → List Value → Prop
 | .fn a self, f, first => ∃ v, f = .ref a ∧ first = [v] ∧ VR g G rs self v
 | .app i, f, first => ∃ v, f = .builtin "list.append" ∧ first = [v] ∧ VR g G rs (.obj i) v
 | .pop i, f, first => ∃ v, f = .builtin "list.pop" ∧ first = [v] ∧ VR g G rs (.obj i) v
 | .get o, f, first => ∃ v, f = .builtin "dict.get" ∧ first = [v] ∧ VR g G rs o v
 | .join s, f, first => ∃ v, f = .builtin "str.join" ∧ first = [v] ∧ VR g G rs (.str s) v
 | .bad, _, _ => False
theorem MethV.mono {g : Gl} {G G' : Sto} {rs rs' : List Addr} (x : Ext G rs G' rs') {m : Meth} {f : Value} {first : List Value} (h : MethV g G rs m f first) : MethV g G' rs' m f first := by
 cases m with
 | bad => exact h
 | fn a s => obtain ⟨v, h1, h2, h3⟩ := h; exact ⟨v, h1, h2, h3.mono x⟩
 | app i => obtain ⟨v, h1, h2, h3⟩ := h; exact ⟨v, h1, h2, h3.mono x⟩
 | pop i => obtain ⟨v, h1, h2, h3⟩ := h; exact ⟨v, h1, h2, h3.mono x⟩
 | get i => obtain ⟨v, h1, h2, h3⟩ := h; exact ⟨v, h1, h2, h3.mono x⟩
 | join s => obtain ⟨v, h1, h2, h3⟩ := h; exact ⟨v, h1, h2, h3.mono x⟩
section
variable {g : Gl} {X : Cx} {G : Sto} {rs : List Addr} {st : SS} {h h' : Heap} {tk : Nat} {E : Value → Shared → Prop} {Q : Value → Shared → Prop} {K : SV → SS → Prop} {T : Tab}
theorem Rel.mkList (R : Rel g X G rs st h) (k : ∀ b o, h.get? b = some o → h'.get? b = some o) {a : Addr} {vs : List Value} {svs : List SV} {n line : Nat} (ea : h'.get? a = some (lstO vs n)) (hlt : h.objs.size ≤ a) (hv : VRl g G rs svs vs)
  (hk : Mine.mkList T line svs st K) (F : Fin g X G rs K Q) (tk : Nat) : Q (.ref a) (X.sh h' tk) := by
 have ho : a ∉ X.own := fun q => by
  obtain ⟨o, e⟩ := R.ownl a q
  exact Nat.lt_irrefl _ (Nat.lt_of_lt_of_le (Heap.lt_size e) hlt)
 obtain ⟨n1, n2, n3⟩ := R.newAt hlt ho
 have R' := R.keeps k
 unfold Mine.mkList at hk
 split at hk
 ·obtain ⟨x, R2⟩ := R'.newCell (so := .seq svs) ⟨vs, n, ea, hv.mono ⟨fun _ _ e => e, [a], rfl⟩⟩ n1 n2 n3
  refine F _ _ _ _ _ _ tk x R2 ?_ hk
  refine ⟨a, ?_, rfl⟩
  rw [← R.len, List.getElem?_append_right (Nat.le_refl _), Nat.sub_self]
  rfl
 ·have c := CK_l hk
  replace hk := CK_r hk
  refine F _ _ _ _ _ _ tk (zbB n2) (R'.addG ea n1 n2 n3) ?_ hk
  exact ⟨a, vs, n, rfl, za8 _ _ _, (allV_nil c hv).mono (zbB (rs := rs) n2).nil⟩
set_option tactic.hygienic true in
theorem Rel.meth (R : Rel g X G rs st h) (ok : TabOk g T) {o : SV} {v : Value} {m : Str} (hv : VR g G rs o v) (hm : methOf T o m st ≠ .bad) :
  ∃ f first, MethV g G rs (methOf T o m st) f first ∧ ∀ {pl : Sem Bool} {Q : Value × List Value → Shared → Prop}, Q (f, first) (X.sh h tk) → wpAny (model g.prog g.w) X.A (getMethod v m pl) Q E (X.sh h tk) := by
 generalize hM : methOf T o m st = M at hm
 unfold methOf at hM
 split at hM
 ·rename_i C fs q
  split at hM
  ·subst hM; exact absurd rfl hm
  ·rename_i q2
   split at hM
   ·rename_i a q3
    subst hM
    exact ⟨.ref a, [v], ⟨v, rfl, rfl, hv⟩, fun hq => R.getMeth hv q q2 (ok.meth _ _ _ q3) hq⟩
   ·subst hM; exact absurd rfl hm
 ·split at hM
  ·rename_i s _
   split at hM
   ·rename_i q2
    subst hM
    have e := sEq_iff.mp q2
    subst e
    obtain ⟨t, rfl⟩ := hv
    refine ⟨_, _, ⟨.str s t, rfl, rfl, VR.tok_str s t⟩, fun hq => ?_⟩
    exact getMethod_builtin (typeIs_str _ _ _) PySem.F.plainAttrs_str PySem.F.slot_str_join PySem.F.type_str_join (fun a e => nomatch e) hq
   ·subst hM; exact absurd rfl hm
  ·rename_i i _
   split at hM
   ·rename_i us q
    have hv' := hv
    obtain ⟨a, hr, rfl⟩ := hv'
    obtain ⟨vs, n, ha, hvs⟩ := R.cell i a _ hr q
    split at hM
    ·rename_i q2
     subst hM
     have e := sEq_iff.mp q2
     subst e
     exact ⟨_, _, ⟨_, rfl, rfl, hv⟩, fun hq => getMethod_builtin (zaJ ha).typeIs PySem.F.plainAttrs_list PySem.F.slot_list_append PySem.F.type_list_append (fun b e => by cases e; exact ⟨_, ha, rfl⟩) hq⟩
    ·split at hM
     ·rename_i q2
      subst hM
      have e := sEq_iff.mp q2
      subst e
      exact ⟨_, _, ⟨_, rfl, rfl, hv⟩, fun hq => getMethod_builtin (zaJ ha).typeIs PySem.F.plainAttrs_list PySem.F.slot_list_pop PySem.F.type_list_pop (fun b e => by cases e; exact ⟨_, ha, rfl⟩) hq⟩
     ·subst hM; exact absurd rfl hm
   ·rename_i es n q
    obtain ⟨d, f, rfl, hmm, _, _⟩ := R.dictAt (es := es) hv (by simp [dictOfS, q])
    split at hM
    ·rename_i q2
     subst hM
     have e := sEq_iff.mp q2
     subst e
     exact ⟨_, _, ⟨_, rfl, rfl, hv⟩, fun hq => getMethod_builtin hmm.typeIs PySem.F.plainAttrs_dict PySem.F.slot_dict_get PySem.F.type_dict_get hmm.noDict hq⟩
    ·subst hM; exact absurd rfl hm
   ·subst hM; exact absurd rfl hm
  ·rename_i es _
   obtain ⟨d, f, rfl, hmm, _, _⟩ := R.dictAt (es := es) hv rfl
   split at hM
   ·rename_i q2
    subst hM
    have e := sEq_iff.mp q2
    subst e
    exact ⟨_, _, ⟨_, rfl, rfl, hv⟩, fun hq => getMethod_builtin hmm.typeIs PySem.F.plainAttrs_dict PySem.F.slot_dict_get PySem.F.type_dict_get hmm.noDict hq⟩
   ·subst hM; exact absurd rfl hm
  ·subst hM; exact absurd rfl hm
end
end Mine
end
section
open PySem.SeqAt PySem.EqBoolInt
namespace Mine
set_option tactic.hygienic true in
theorem zeI : ∀ {us : List SV} {p : List SV × SV}, unsnoc us = some p → us = p.1 ++ [p.2]
 | [], p, e => by cases e
 | [v], p, e => by cases e; rfl
 | v :: w :: r, p, e => by
  unfold unsnoc at e
  split at e
  ·rename_i l u q
   cases e
   rw [zeI q]; rfl
  ·cases e
theorem zhJ : ∀ {us : List SV} {p : SV × List SV}, uncons us = some p → us = p.1 :: p.2
 | [], p, e => by cases e
 | v :: r, p, e => by cases e; rfl
section
variable {g : Gl} {X : Cx} {G : Sto} {rs : List Addr} {st : SS} {h h' : Heap} {tk : Nat} {E : Value → Shared → Prop} {Q : Value → Shared → Prop} {K : SV → SS → Prop} {T : Tab}
theorem zeJ {svs : List SV} : ∀ {vs : List Value} {xs : List Str}, strsOf svs = some xs → VRl g G rs svs vs → ∃ l : List (Str × Tok), vs = strValues l ∧ l.map (·.1) = xs := by
 induction svs with
 | nil =>
  intro vs xs e h
  cases e
  exact ⟨[], h.unnil, rfl⟩
 | cons s r ih =>
  intro vs xs e h
  obtain ⟨v, t, rfl, h1, h2⟩ := h
  obtain ⟨a, q, e⟩ := Option.bind_eq_some_iff.mp e
  obtain ⟨c, q2, rfl⟩ := Option.map_eq_some_iff.mp e
  cases zcB q
  obtain ⟨u, rfl⟩ := h1
  obtain ⟨l, rfl, rfl⟩ := ih q2 h2
  exact ⟨(a, u) :: l, rfl, rfl⟩
theorem zkX {s : Str} (hs : s.cps.size = 0) : ∀ xs : List Str, Txt.join s xs = ⟨(joinS xs).toArray⟩ := by
 have hs' : s = ⟨#[]⟩ := by cases s; simp at hs; rw [hs]
 subst hs'
 intro xs
 unfold Txt.join
 rw [StrLaws.glued_eq_join]
 induction xs with
 | nil => rfl
 | cons a r ih =>
  cases r with
  | nil => simp [Str.join, joinS]
  | cons b r =>
   show (a ++ ⟨#[]⟩ ++ Str.join ⟨#[]⟩ (b :: r) : Str) = _
   rw [ih]
   have : ∀ x y : Str, x ++ y = ⟨x.cps ++ y.cps⟩ := fun _ _ => rfl
   rw [this, this]
   simp [joinS]
theorem zeO : ∀ xs : List Str, (joinS xs).length = (xs.map (·.length)).sum
 | [] => rfl
 | a :: r => by simp [joinS, zeO r, Str.length]
theorem zh7 {s : Str} (hs : s.cps.size = 0) {xs : List Str} (h : (joinS xs).length ≤ 100000) : JoinOk s xs = true := by
 have : ∀ (xs : List Str) (n : Nat), xs.foldl (fun (n : Nat) (a : Str) => n + a.length + s.length) n = n + (xs.map (·.length)).sum := by
  intro xs
  induction xs with
  | nil => intro n; simp
  | cons a r ih =>
   intro n
   rw [List.foldl_cons, ih]
   have : s.length = 0 := hs
   simp [this]; lia
 unfold JoinOk
 rw [List.foldl_toArray', this, Nat.zero_add, ← zeO]
 ·have : Builtin.Str.tooLong (joinS xs).length = false := by
   unfold Builtin.Str.tooLong
   exact decide_eq_false (Nat.not_lt.mpr (zaX (by lia)))
  rw [this]; rfl
 ·rfl
theorem Rel.appB (R : Rel g X G rs st h) {i : Nat} {f : Value} {first vals : List Value} {svs : List SV} (hM : MethV g G rs (.app i) f first) (hv : VRl g G rs svs vals) (hk : appM i svs st K) (F : Fin g X G rs K Q) :
  wpAny (model g.prog g.w) X.A (call f (first ++ vals)) Q E (X.sh h tk) := by
 rcases svs with _ | ⟨sv, _ | ⟨_, _⟩⟩
 ·exact False.elim hk
 ·obtain ⟨v, rfl, rfl, hs⟩ := hM
  obtain ⟨w, t, rfl, h1, h2⟩ := hv.uncons
  obtain rfl := h2.unnil
  obtain ⟨a, hr, rfl⟩ := hs
  revert hk
  refine OM_e fun us q hk => ?_
  have c := CK_l hk
  replace hk := CK_r hk
  have hz := zaL c
  obtain ⟨vs, n, ha, hvs⟩ := R.cell i a _ hr (zc5 q)
  have hlen := hvs.length
  refine append_at (s := X.sh h tk) (its := vs.toArray) ha (fun h' hs ho' => ?_) (zaX (by simp; lia))
  rw [List.push_toArray] at ho'
  have hc : CellR g G rs h' a (.seq (us ++ [sv])) := ⟨_, _, ho', hvs.append (VRl.one h1)⟩
  exact F.here (R.setCell hr (fun b o hb eb => (hs.2 b hb).trans eb) hc) VR.none hk _
 ·exact False.elim hk
theorem Rel.popB (R : Rel g X G rs st h) {i : Nat} {f : Value} {first vals : List Value} {svs : List SV} (hM : MethV g G rs (.pop i) f first) (hv : VRl g G rs svs vals) (hk : popM i svs st K) (F : Fin g X G rs K Q) :
  wpAny (model g.prog g.w) X.A (call f (first ++ vals)) Q E (X.sh h tk) := by
 obtain ⟨v, rfl, rfl, hs⟩ := hM
 obtain ⟨a, hr, rfl⟩ := hs
 rcases svs with _ | ⟨k, _ | ⟨_, _⟩⟩
 ·obtain rfl := hv.unnil
  revert hk
  refine OM_e fun us q hk => ?_
  have c := CK_l hk
  replace hk := CK_r hk
  have hz := zaL c
  refine zdS hk fun p e hK => ?_
  obtain rfl := zeI e
  obtain ⟨vs, n, ha, hvs⟩ := R.cell i a _ hr (zc5 q)
  have hlen := hvs.length
  obtain ⟨v1, v2, rfl, g1, g2⟩ := hvs.split
  obtain ⟨w, t, rfl, g3, g4⟩ := g2.uncons
  rw [g4.unnil] at ha hlen
  refine call_meets PySem.F.slot_list_pop ⟨_, ha, rfl⟩ PySem.F.entry_list_pop (PySem.F.args_list_pop_1 _) (MeetsSeq.list_pop_last a (v1 ++ [w]).toArray n w (by simp) (zaX (by simp at hlen hz ⊢; lia))) ⟨ha, ?_⟩
  refine F.here (R.updSeq hr ha (us := v1) ?_ g1) g3 hK tk
  rw [List.eraseIdxIfInBounds_toArray]
  congr 1
  rw [List.size_toArray, List.length_append]
  simp [List.eraseIdx_append_of_length_le]
 ·obtain ⟨w, t, rfl, h1, h2⟩ := hv.uncons
  obtain rfl := h2.unnil
  revert hk
  refine OM_e fun k q0 hk => ?_
  obtain rfl := zaP q0
  obtain ⟨tkk, rfl⟩ := h1
  revert hk
  refine OM_e fun us q hk => ?_
  have c := CK_l hk
  have hk3 := CK_r hk
  have c2 := zaG c
  have c1 := zaH c
  have hz := zaL c2
  refine zdS hk3 fun p e hK => ?_
  clear hk hk3 c
  obtain rfl := zb3 c1
  obtain rfl := zhJ e
  obtain ⟨vs, n, ha, hvs⟩ := R.cell i a _ hr (zc5 q)
  have hlen := hvs.length
  obtain ⟨w, t, rfl, g3, g4⟩ := hvs.uncons
  refine call_meets PySem.F.slot_list_pop ⟨_, ha, rfl⟩ PySem.F.entry_list_pop (PySem.F.args_list_pop_2 _ _) (MeetsSeq.list_pop_at a (w :: t).toArray n 0 tkk 0 w (by decide) (by simp [seqIndex?]) (by simp) (zaX (by simp at hlen hz ⊢; lia))) ⟨ha, ?_⟩
  refine F.here (R.updSeq hr ha (us := t) ?_ g4) g3 hK tk
  rw [List.eraseIdxIfInBounds_toArray]
  rfl
 ·exact False.elim hk
theorem Rel.getB (R : Rel g X G rs st h) {o : SV} {f : Value} {first vals : List Value} {svs : List SV} (hM : MethV g G rs (.get o) f first) (hv : VRl g G rs svs vals) (hk : getM o svs st K) (F : Fin g X G rs K Q) :
  wpAny (model g.prog g.w) X.A (call f (first ++ vals)) Q E (X.sh h tk) := by
 rcases svs with _ | ⟨k, _ | ⟨d, _ | ⟨_, _⟩⟩⟩
 ·exact False.elim hk
 ·exact False.elim hk
 ·obtain ⟨v, rfl, rfl, hs⟩ := hM
  obtain ⟨w, t, rfl, h1, h2⟩ := hv.uncons
  obtain ⟨w2, t2, rfl, h3, h4⟩ := h2.uncons
  obtain rfl := h4.unnil
  revert hk
  refine OM_e fun k q0 hk => ?_
  obtain rfl := zaP q0
  have c := CK_l hk
  replace hk := CK_r hk
  obtain rfl := zfA c
  obtain ⟨tkk, rfl⟩ := h1
  cases h3
  revert hk
  refine OM_e fun es q hk => ?_
  obtain ⟨d, f, rfl, hm, hd, lo⟩ := R.dictAt hs q
  refine call_meetsIn PySem.F.slot_dict_get hm.typeIs PySem.F.entry_dict_get (PySem.F.args_dict_get_3 _ _ _) (meets_dict_get_default (PySem.intKind g.prog g.w) d (k := k) (key := .int k tkk) (by show (k == k) = true; simp) lo .none) ⟨f, hm, ?_⟩
  cases q2 : ilk es k with
  | some sv =>
   rw [q2] at hk
   obtain ⟨x, hx, hr⟩ := hd.some q2
   rw [hx]
   exact F.here R hr hk _
  | none =>
   rw [q2] at hk
   rw [hd.none q2]
   exact F.here R VR.none hk _
 ·exact False.elim hk
theorem Rel.joinB (R : Rel g X G rs st h) {s : Str} {f : Value} {first vals : List Value} {svs : List SV} (hM : MethV g G rs (.join s) f first) (hv : VRl g G rs svs vals) (hk : joinM s svs st K) (F : Fin g X G rs K Q) :
  wpAny (model g.prog g.w) X.A (call f (first ++ vals)) Q E (X.sh h tk) := by
 rcases svs with _ | ⟨o, _ | ⟨_, _⟩⟩
 ·exact False.elim hk
 ·obtain ⟨v, rfl, rfl, hs⟩ := hM
  obtain ⟨w, t, rfl, h1, h2⟩ := hv.uncons
  obtain rfl := h2.unnil
  obtain ⟨tks, rfl⟩ := hs
  revert hk
  refine OM_e fun us q hk => ?_
  have c := CK_l hk
  replace hk := CK_r hk
  have c2 := zaG c
  have c1 := zaH c
  revert hk
  refine OM_e fun xs e hk => ?_
  have c3 := CK_l hk
  replace hk := CK_r hk
  have hz := zaL c3
  have hs0 := Nat.eq_of_beq_eq_true c1
  obtain ⟨a, vs, n, rfl, hvs, ha⟩ := R.lstAt h1 q
  obtain ⟨l, rfl, hl⟩ := zeJ e hvs
  refine SC.join (l := l) (zaJ ha) hl (zh7 hs0 hz) fun t' k => ?_
  rw [zkX hs0]
  exact F.here R (VR.tok_str _ _) hk _
 ·exact False.elim hk
theorem Rel.callMB (R : Rel g X G rs st h) {m : Meth} {f : Value} {first vals : List Value} {svs : List SV} {r : Bd} {fc : FC} (hM : MethV g G rs m f first) (hb : ∀ a s, m ≠ .fn a s) (hv : VRl g G rs svs vals) (hk : callM T r fc m svs st K) (F : Fin g X G rs K Q) :
  wpAny (model g.prog g.w) X.A (call f (first ++ vals)) Q E (X.sh h tk) := by
 cases m with
 | fn a s => exact absurd rfl (hb _ _)
 | app i => exact R.appB hM hv hk F
 | pop i => exact R.popB hM hv hk F
 | get o => exact R.getB hM hv hk F
 | join s => exact R.joinB hM hv hk F
 | bad => exact False.elim hk
end
end Mine
end
section
open PySem.SeqAt PySem.EqBoolInt
namespace Mine
section
variable {g : Gl} {X : Cx} {G : Sto} {rs : List Addr} {st : SS} {h h' : Heap} {tk : Nat} {E : Value → Shared → Prop} {Q : Value → Shared → Prop} {K : SV → SS → Prop} {T : Tab}
theorem zgP {svs : List SV} : ∀ {vs : List Value} {a : Int}, sumI svs = some a → VRl g G rs svs vs → ∃ ns, IntsAre vs ns ∧ ns.sum = a := by
 induction svs with
 | nil =>
  intro vs a e h
  cases e
  rw [h.unnil]; exact ⟨[], .nil, rfl⟩
 | cons s r ih =>
  intro vs a e h
  obtain ⟨v, t, rfl, h1, h2⟩ := h
  obtain ⟨b, q, e⟩ := Option.bind_eq_some_iff.mp e
  obtain ⟨c, q2, rfl⟩ := Option.map_eq_some_iff.mp e
  cases zaP q
  obtain ⟨u, rfl⟩ := h1
  obtain ⟨ns, hi, rfl⟩ := ih q2 h2
  exact ⟨b :: ns, .cons _ _ hi, List.sum_cons⟩
theorem zg8 {v : SV} {k : Bool} (h : boolO v = some k) : v = .bool k := by
 cases v <;> first | exact noS h | (cases h; rfl)
theorem zhA {svs : List SV} : ∀ {vs : List Value} {a : Bool}, allB svs = some a → VRl g G rs svs vs → ∃ bs : List Bool, vs = bs.map Value.bool ∧ bs.all id = a := by
 induction svs with
 | nil =>
  intro vs a e h
  cases e
  rw [h.unnil]; exact ⟨[], rfl, rfl⟩
 | cons s r ih =>
  intro vs a e h
  obtain ⟨v, t, rfl, h1, h2⟩ := h
  obtain ⟨b, q, e⟩ := Option.bind_eq_some_iff.mp e
  obtain ⟨c, q2, rfl⟩ := Option.map_eq_some_iff.mp e
  cases zg8 q
  obtain rfl := show _ = _ from h1
  obtain ⟨ns, rfl, rfl⟩ := ih q2 h2
  exact ⟨b :: ns, rfl, rfl⟩
theorem zmW {prog : Program} {w : World} {A : Around} {s : Shared} {l : Addr} {vs : List Value} {ns : List Int} (hh : A.handled = none) (hl : s.heap.IsList l vs.toArray) (hi : IntsAre vs ns)
  (hq : ∀ h' tk t', (∀ b o, s.heap.get? b = some o → h'.get? b = some o) → Q (.int ns.sum t') { s with heap := h', toks := tk }) : wpAny (model prog w) A (call (.builtin "sum") [.ref l]) Q E s := by
 obtain ⟨xs, hx⟩ := hi.allInts.items
 have hl' : s.heap.IsList l (intItems xs) := hx ▸ hl
 refine sum_intListG hh hl' fun h' tk t' hk => ?_
 have e1 : ns = xs.toList.map (·.1) := by
  rw [← nums_intItems, ← hx]
  exact (show numsOf vs.toArray.toList = ns from hi.numsOf).symm
 have e2 : preSum (numAt xs) xs.size = ns.sum := by
  rw [preSum_eq, List.take_of_length_le (by simp), e1]
 rw [e2]
 exact hq h' tk t' hk
theorem zkS (bs : List Bool) : ((List.range bs.length).all fun i => (bs[i]?).getD true) = bs.all id := by
 rw [Bool.eq_iff_iff, List.all_eq_true, List.all_eq_true]
 constructor
 ·intro h b hb
  obtain ⟨i, hi, rfl⟩ := List.getElem_of_mem hb
  have := h i (List.mem_range.mpr hi)
  simpa [List.getElem?_eq_getElem hi] using this
 ·intro h i hi
  have hi' := List.mem_range.mp hi
  simp only [List.getElem?_eq_getElem hi', Option.getD_some]
  exact h _ (List.getElem_mem hi')
theorem zoO {prog : Program} {w : World} {A : Around} {s : Shared} {l : Addr} {vs : List Value} {bs : List Bool} (hh : A.handled = none) (hl : s.heap.IsList l vs.toArray) (hb : vs = bs.map Value.bool)
  (hq : ∀ h' tk, (∀ b o, s.heap.get? b = some o → h'.get? b = some o) → Q (.bool (bs.all id)) { s with heap := h', toks := tk }) : wpAny (model prog w) A (call (.builtin "all") [.ref l]) Q E s := by
 have hlt : l < s.heap.objs.size := by obtain ⟨_, e, _⟩ := hl; exact Heap.lt_size e
 refine call_all_walk (wpAny_pyIter_list hl ?_)
 refine ⟨s.heap.objs.size, [s.heap.objs.size, l], [s.heap.objs.size], vs.toArray.size, _, _, fun i => (bs[i]?).getD true, rfl, Walks.list (A := A.in1) hh _ l (Nat.ne_of_lt hlt) vs.toArray,
  ⟨⟨_, Heap.get?_push_size _ rfl, rfl, rfl⟩, hl.push _⟩, fun i v s' Q' E' hP hQ => ?_, fun h' tk hk => ?_⟩
 ·subst hb
  rw [List.getElem?_toArray, List.getElem?_map] at hP
  cases e : bs[i]? with
  | none => rw [e] at hP; cases hP
  | some b =>
   rw [e] at hP
   cases hP
   simp only [e, Option.getD_some] at hQ
   exact wpAny_truthy_bool hQ
 ·have e : ((List.range vs.toArray.size).all fun i => (bs[i]?).getD true) = bs.all id := by
   rw [List.size_toArray, hb, List.length_map]; exact zkS bs
  rw [e]
  exact hq h' tk fun b x e => hk b x (fun hm => by rw [List.mem_singleton.mp hm] at e; exact Nat.lt_irrefl _ (Heap.lt_size e)) (Heap.get?_push_of_some _ e)
set_option tactic.hygienic true in
theorem Rel.callB1 (R : Rel g X G rs st h) (hh : X.A.handled = none) {f : BF} {line : Nat} {v : Value} {o : SV} (h1 : VR g G rs o v) (hk : Mine.callB1 T line f o st K) (F : Fin g X G rs K Q) :
  wpAny (model g.prog g.w) X.A (call f.val [v]) Q E (X.sh h tk) := by
 cases f with
 | len =>
  have seq : OM (seqOf st o) (fun vs => CK (inLine vs.length) (K (.int vs.length) st)) → wpAny (model g.prog g.w) X.A (call BF.len.val [v]) Q E (X.sh h tk) := fun hk => by
   revert hk
   refine OM_e fun us q hk => ?_
   have c := CK_l hk
   replace hk := CK_r hk
   have hz := zaL c
   obtain ⟨a, vs, n, rfl, hvs, ha⟩ := R.seqAt h1 q
   have hlen := hvs.length
   have e : (vs.toArray.size : Int) = us.length := by simp [hlen]
   rcases ha with ha | ha
   ·exact len_list (zaJ ha) (by rw [e]; lia) (by rw [e]; exact F.here R (VR.tok_int _ _) hk _)
   ·exact len_tuple (za3 ha) (by rw [e]; lia) (by rw [e]; exact F.here R (VR.tok_int _ _) hk _)
  cases o with
  | str s =>
   have c := CK_l hk
   replace hk := CK_r hk
   have hz := zaL c
   obtain ⟨u, rfl⟩ := h1
   exact P.len_str (by simp [Str.length]; lia) (F.here R (VR.tok_int _ _) hk _)
  | _ => exact seq hk
 | ord =>
  refine zdS hk fun s q hk1 => ?_
  clear hk
  obtain rfl := zcB q
  obtain ⟨u, rfl⟩ := h1
  split at hk1
  ·rename_i c q
   have e : s = ⟨#[c]⟩ := by
    cases s
    congr 1
    exact Array.toList_inj.mp q
   subst e
   exact P.ord_of_char (F.here R (VR.tok_int _ _) hk1 _)
  ·exact hk1.elim
 | abs =>
  revert hk
  refine OM_e fun a q hk => ?_
  obtain rfl := zaP q
  obtain ⟨u, rfl⟩ := h1
  refine call_abs_int fun u tk => ?_
  have e : (if a < 0 then -a else a) = (a.natAbs : Int) := by split <;> lia
  rw [e]
  exact F.here R (VR.tok_int _ _) hk _
 | sum =>
  revert hk
  refine OM_e fun us q hk => ?_
  have c := CK_l hk
  replace hk := CK_r hk
  revert hk
  refine OM_e fun x e hk => ?_
  obtain ⟨a, vs, n, rfl, hvs, ha⟩ := R.lstAt h1 q
  obtain ⟨ns, hi, rfl⟩ := zgP e hvs
  exact zmW (s := X.sh h tk) hh (zaJ ha) hi fun h' tk t' hkp => F.here (R.keeps hkp) (VR.tok_int _ _) hk _
 | all =>
  revert hk
  refine OM_e fun us q hk => ?_
  have c := CK_l hk
  replace hk := CK_r hk
  revert hk
  refine OM_e fun x e hk => ?_
  obtain ⟨a, vs, n, rfl, hvs, ha⟩ := R.lstAt h1 q
  obtain ⟨ns, hi, rfl⟩ := zhA e hvs
  exact zoO (s := X.sh h tk) hh (zaJ ha) hi fun h' tk hkp => F.here (R.keeps hkp) (VR.tok_bool _) hk _
 | list =>
  revert hk
  refine OM_e fun us q hk => ?_
  have c := CK_l hk
  replace hk := CK_r hk
  have hz := zaL c
  obtain ⟨a, vs, n, rfl, hvs, ha⟩ := R.seqAt h1 q
  have hlen := hvs.length
  rcases ha with ha | ha
  ·exact call_list_seq (s := X.sh h tk) a (T := "list") (.inl rfl) ha rfl rfl (fun h' c' hkp ea => R.mkList hkp ea (Nat.le_refl _) hvs hk F _) (zaX (by simp; lia))
  ·exact call_list_seq (s := X.sh h tk) a (T := "tuple") (.inr rfl) ha rfl rfl (fun h' c' hkp ea => R.mkList hkp ea (Nat.le_refl _) hvs hk F _) (zaX (by simp; lia))
 | range =>
  revert hk
  refine OM_e fun n q hk => ?_
  obtain rfl := zaP q
  obtain ⟨u, rfl⟩ := h1
  have c := CK_l hk
  replace hk := CK_r hk
  refine call_range_1 ?_
  obtain ⟨x, R'⟩ := R.pushG { cls := .type "range", data := .fields #[.int 0 tk, .int n u, .int 1 (tk + 1)] } rfl
  refine F _ _ _ _ _ _ _ x R' ?_ hk
  have c2 := zaG c
  have c1 := zaH c
  exact ⟨zaU c1, zaU c2, _, _, _, _, _, rfl, za8 _ _ _, rfl⟩
 | min => exact False.elim hk
set_option tactic.hygienic true in
theorem Rel.callB (R : Rel g X G rs st h) (hh : X.A.handled = none) {f : BF} {line : Nat} {vals : List Value} {svs : List SV} (hv : VRl g G rs svs vals) (hk : Mine.callB T line f svs st K) (F : Fin g X G rs K Q) :
  wpAny (model g.prog g.w) X.A (call f.val vals) Q E (X.sh h tk) := by
 rcases svs with _ | ⟨o, _ | ⟨b, _ | ⟨_, _⟩⟩⟩
 ·exact False.elim hk
 ·obtain ⟨v, t, rfl, h1, h2⟩ := hv.uncons
  obtain rfl := h2.unnil
  exact R.callB1 hh h1 hk F
 ·obtain ⟨v, t, rfl, h1, h2⟩ := hv.uncons
  obtain ⟨v', t', rfl, h3, h4⟩ := h2.uncons
  obtain rfl := h4.unnil
  cases f with
  | min =>
   refine zdS hk fun x q hk1 => ?_
   clear hk
   refine zdS hk1 fun y q2 hk => ?_
   clear hk1
   obtain rfl := zaP q
   obtain rfl := zaP q2
   obtain ⟨u, rfl⟩ := h1
   obtain ⟨u', rfl⟩ := h3
   refine min_two_ints hh fun h' tk hkp => ?_
   split
   ·rename_i q
    rw [if_pos q] at hk
    exact F.here (R.keeps hkp) (VR.tok_int _ _) hk _
   ·rename_i q
    rw [if_neg q] at hk
    exact F.here (R.keeps hkp) (VR.tok_int _ _) hk _
  | _ => exact False.elim hk
 ·exact False.elim hk
end
end Mine
end
section
open PySem.SeqAt PySem.EqBoolInt
namespace Mine
noncomputable def FrS (X : Cx) : Prop := X.env.frame = some X.env.locals ∧ X.env.scope.kind ≠ .module ∧ ∃ outer, X.A.frames = some (X.env :: outer) ∧ ∀ e ∈ outer, e.scope.kind ≠ .module ∧ ∃ L ∈ X.frs, e.frame = some L
theorem FrS.now {X : Cx} (h : FrS X) (G : Sto) (rs : List Addr) (hp : Heap) : FrS (X.now G rs hp) := h
theorem FrS.virt {X : Cx} (h : FrS X) (G : Sto) (hp : Heap) : FrS (X.virt G hp) := h
structure Sigs (g : Gl) where
 Sg : Cx → Value → Shared → Prop
 on : Prop
 now : ∀ {X : Cx} {G : Sto} {rs : List Addr} {st : SS} {h : Heap} {e : Value} {s' : Shared}, Rel g X G rs st h → Sg (X.now G rs h) e s' → Sg X e s'
 virt : ∀ {X : Cx} {G : Sto} {rs : List Addr} {st : SS} {h : Heap} {e : Value} {s' : Shared}, Rel g X G rs st h → Sg (X.virt G h) e s' → Sg X e s'
 own : ∀ {X : Cx} {E : Value → Shared → Prop}, FrS X → (∀ e s', Sg X e s' → E e s') → ∀ e s', Sg X e s' → notedBy (model g.prog g.w) X.A X.env (cameBackBy (model g.prog g.w) X.A X.env E) e s'
structure FOk (g : Gl) (S : Sigs g) (fc : FC) (X : Cx) : Prop where
 v : EnvOk X
 gl : X.env.globals = mainGlobals
 bl : X.env.builtins = builtinsNs
 hh : X.A.handled = none
 dep : X.A.depth + 3 * fc.d ≤ 900
 un : X.A.units + 12 * fc.d ≤ 8000
 glob : ∀ x, lk fc.sc.names x = some .globalImplicit → X.env.kindOf x = some .globalImplicit
 store : ∀ x, isLoc fc.sc x = true → X.env.kindOf x = some .local ∨ (X.env.kindOf x = some .cell ∧ ∃ c, X.env.cells.lookup x = some c ∧ c ∈ X.wr)
 nd : ∀ x k, X.env.kindOf x = some k → x ≠ dbgN ∧ x ≠ clsN
 cel : ∀ x, lk fc.sc.names x = some .cell → X.env.kindOf x = some .cell ∧ ∃ c, X.env.cells.lookup x = some c
 l1 : ∀ x, isLoc1 fc.sc x = true → X.env.kindOf x = some .local
 er : fc.Er → S.on
 fr : fc.Er ∨ fc.tr = true → FrS X
theorem FOk.now {g : Gl} {S : Sigs g} {fc : FC} {X : Cx} (F : FOk g S fc X) (G : Sto) (rs : List Addr) (h : Heap) : FOk g S fc (X.now G rs h) :=
 ⟨⟨F.v.kind, F.v.loc, F.v.cap, F.v.wl⟩, F.gl, F.bl, F.hh, F.dep, F.un, F.glob, F.store, F.nd, F.cel, F.l1, F.er, F.fr⟩
structure GlobOk (g : Gl) (T : Tab) : Prop where
 tab : TabOk g T
 glob : ∀ x v, T.glob x = some v → ∃ u, (∀ G rs, VR g G rs v u) ∧ (g.mg x = some u ∨ (g.mg x = none ∧ g.mb x = some u))
 keep : ∀ a, (T.spec a).isSome = true ∨ (T.fn a).isSome = true ∨ (T.cls a).isSome = true → keepIn g.K (.ref a) = true
noncomputable def FinB (g : Gl) (X : Cx) (G : Sto) (rs : List Addr) (K : Bool → SS → Prop) (Q : Bool → Shared → Prop) : Prop :=
 ∀ G' rs' st' b h' tk', Ext G rs G' rs' → Rel g X G' rs' st' h' → K b st' → Q b (X.sh h' tk')
noncomputable def FinL (g : Gl) (X : Cx) (G : Sto) (rs : List Addr) (K : List SV → SS → Prop) (Q : List Value → Shared → Prop) : Prop :=
 ∀ G' rs' st' svs vs h' tk', Ext G rs G' rs' → Rel g X G' rs' st' h' → VRl g G' rs' svs vs → K svs st' → Q vs (X.sh h' tk')
noncomputable def FlR (g : Gl) (G : Sto) (rs : List Addr) : Out → Flow → Prop
 | .next, f => f = .next
 | .brk, f => f = .brk
 | .cont, f => f = .cont
 | .ret sv, f => ∃ v, f = .ret v ∧ VR g G rs sv v
noncomputable def FinO (g : Gl) (X : Cx) (G : Sto) (rs : List Addr) (K : Out → SS → Prop) (Q : Flow → Shared → Prop) : Prop :=
 ∀ G' rs' st' o f h' tk', Ext G rs G' rs' → Rel g X G' rs' st' h' → FlR g G' rs' o f → K o st' → Q f (X.sh h' tk')
section
variable {g : Gl} (S : Sigs g) (T : Tab)
noncomputable def EvOk (r : Bd) : Prop := ∀ {fc : FC} {X : Cx} {G : Sto} {rs : List Addr} {st : SS} {h : Heap} {tk : Nat} {E : Value → Shared → Prop} {e : Expr} {K : SV → SS → Prop} {Q : Value → Shared → Prop},
 FOk g S fc X → (fc.Er → ∀ x s', S.Sg X x s' → E x s') → Rel g X G rs st h → r.ev fc e st K → Fin g X G rs K Q → wpAny (model g.prog g.w) X.A (eval e X.env) Q E (X.sh h tk)
noncomputable def TsOk (r : Bd) : Prop := ∀ {fc : FC} {X : Cx} {G : Sto} {rs : List Addr} {st : SS} {h : Heap} {tk : Nat} {E : Value → Shared → Prop} {e : Expr} {K : Bool → SS → Prop} {Q : Bool → Shared → Prop},
 FOk g S fc X → (fc.Er → ∀ x s', S.Sg X x s' → E x s') → Rel g X G rs st h → r.ts fc e st K → FinB g X G rs K Q → wpAny (model g.prog g.w) X.A (PySem.isTrue e X.env (eval e X.env)) Q E (X.sh h tk)
noncomputable def ExOk (r : Bd) : Prop := ∀ {fc : FC} {X : Cx} {G : Sto} {rs : List Addr} {st : SS} {h : Heap} {tk : Nat} {E : Value → Shared → Prop} {s : Stmt} {K : Out → SS → Prop} {Q : Flow → Shared → Prop},
 FOk g S fc X → (fc.Er → ∀ x s', S.Sg X x s' → E x s') → Rel g X G rs st h → r.ex fc s st K → FinO g X G rs K Q → wpAny (model g.prog g.w) X.A (exec s X.env) Q E (X.sh h tk)
end
theorem zbV : (Str.ofString "__debug__") = dbgN := by decide +kernel
theorem zcR : (Str.ofString "__classdict__") = clsN := by decide +kernel
section
variable {g : Gl} {S : Sigs g} {T : Tab} {fc : FC} {X : Cx} {G : Sto} {rs : List Addr} {st : SS} {h : Heap} {tk : Nat} {E : Value → Shared → Prop} {K : SV → SS → Prop} {Q : Value → Shared → Prop} {r : Bd}
theorem Fin.ext {G' : Sto} {rs' : List Addr} (F : Fin g X G rs K Q) (x : Ext G rs G' rs') : Fin g X G' rs' K Q := fun G'' rs'' st' sv v h' tk' y => F G'' rs'' st' sv v h' tk' (x.trans y)
theorem FinB.ext {G' : Sto} {rs' : List Addr} {K : Bool → SS → Prop} {Q : Bool → Shared → Prop} (F : FinB g X G rs K Q) (x : Ext G rs G' rs') : FinB g X G' rs' K Q := fun G'' rs'' st' b h' tk' y => F G'' rs'' st' b h' tk' (x.trans y)
theorem FinL.ext {G' : Sto} {rs' : List Addr} {K : List SV → SS → Prop} {Q : List Value → Shared → Prop} (F : FinL g X G rs K Q) (x : Ext G rs G' rs') : FinL g X G' rs' K Q := fun G'' rs'' st' b v h' tk' y => F G'' rs'' st' b v h' tk' (x.trans y)
theorem FinO.ext {G' : Sto} {rs' : List Addr} {K : Out → SS → Prop} {Q : Flow → Shared → Prop} (F : FinO g X G rs K Q) (x : Ext G rs G' rs') : FinO g X G' rs' K Q := fun G'' rs'' st' o f h' tk' y => F G'' rs'' st' o f h' tk' (x.trans y)
set_option tactic.hygienic true in
theorem znI {A : Around} (ok : GlobOk g T) (V : FOk g S fc X) (R : Rel g X G rs st h) {x : Str} {pos : Pos} (hk : match lk st.loc x with
  | some v => K v st
  | none => match lk fc.sc.names x with
   | some .globalImplicit => (match T.glob x with
    | some v => K v st
    | none => False)
   | _ => False) (F : Fin g X G rs K Q) : wpAny (model g.prog g.w) A (eval (.Name x pos) X.env) Q E (X.sh h tk) := by
 have deb : ∀ k, X.env.kindOf x = some k → (x == Str.ofString "__debug__") = false := fun k e => by
  rw [zbV]; exact beq_eq_false_iff_ne.mpr (V.nd x k e).1
 split at hk
 ·rename_i sv q
  obtain ⟨v, hv, hn⟩ := R.loc x sv q
  have fin := F.here R hv hk tk
  rcases hn with ⟨k1, m, n1, n2⟩ | ⟨k1, c, c1, c2⟩
  ·exact wpAny_Name (wpAny_loadName_local V.v.kind k1 n1 n2 fin) (deb _ k1)
  ·rcases k1 with k1 | k1
   ·exact wpAny_Name (wpAny_loadName_cell V.v.kind k1 c1 c2 fin) (deb _ k1)
   ·exact wpAny_Name (wpAny_loadName_free V.v.kind k1 c1 c2 fin (by show (x == Str.ofString "__classdict__") = false; rw [zcR]; exact beq_eq_false_iff_ne.mpr (V.nd x _ k1).2)) (deb _ k1)
 ·split at hk
  ·rename_i q
   split at hk
   ·rename_i sv q2
    obtain ⟨u, hu, hm⟩ := ok.glob x sv q2
    have k1 := V.glob x q
    have fin := F.here R (hu G rs) hk tk
    have ng : (X.sh h tk).heap.Ns X.env.globals g.mg := by rw [V.gl]; exact R.top.g
    have nb : (X.sh h tk).heap.Ns X.env.builtins g.mb := by rw [V.bl]; exact R.top.b
    refine Calls.Name_function_global V.v.kind k1 ?_ (deb _ k1)
    rcases hm with hm | ⟨hm, hb⟩
    ·exact Calls.loadGlobal_global ng hm fin
    ·exact Calls.loadGlobal_builtin ng hm nb hb fin
   ·exact hk.elim
  ·exact hk.elim
set_option tactic.hygienic true in
theorem zgC (hr : EvOk S r) (V : FOk g S fc X) (hE : fc.Er → ∀ x s', S.Sg X x s' → E x s') {pos : Pos} : ∀ {es : List Expr} {G : Sto} {rs : List Addr} {st : SS} {h : Heap} {tk : Nat} {K : List SV → SS → Prop} {Q : List Value → Shared → Prop}, Rel g X G rs st h → evs r fc es st K → FinL g X G rs K Q →
  wpAny (model g.prog g.w) X.A (spliced (backTo pos (starEach es X.env))) Q E (X.sh h tk)
 | [], G, rs, st, h, tk, K, Q, R, hk, F => args_nil (F G rs st [] [] h tk Ext.refl R VRl.nil hk)
 | e :: es, G, rs, st, h, tk, K, Q, R, hk, F => by
  unfold evs at hk
  split at hk
  ·exact hk.elim
  ·rename_i q
   have hs : starEach (e :: es) X.env = (false, eval e X.env) :: starEach es X.env := by
    cases e <;> first | rfl | exact ft q.symm
   refine args_cons (hr V hE R hk fun G' rs' st' sv v h' tk' x R' hv hk' => ?_) hs
   exact zgC hr V hE R' hk' fun G'' rs'' st'' svs vs h'' tk'' y R'' hvs hk'' => F _ _ _ _ _ _ _ (x.trans y) R'' (VRl.cons (hv.mono y) hvs) hk''
set_option tactic.hygienic true in
theorem zb9 {env : Env} {pos : Pos} : ∀ {es : List Expr}, noStars es = true → (backTo pos (starEach es env)).any (·.1) = false
 | [], _ => rfl
 | e :: es, h => by
  unfold noStars at h
  split at h
  ·cases h
  ·rename_i q
   have hs : starEach (e :: es) env = (false, eval e env) :: starEach es env := by
    cases e <;> first | rfl | exact ft q.symm
   rw [hs]
   show ((false, _) :: backTo pos (starEach es env)).any (·.1) = false
   rw [List.any_cons, zb9 h]; rfl
noncomputable def KeepsP (g : Gl) (f : Value) (h : Heap) : Prop := ∃ k, (k = Keeper.frame ∨ k = Keeper.machine ∨ k = Keeper.boundFrame) ∧ Looks (model g.prog g.w) h (keeperOf f) k
set_option tactic.hygienic true in
theorem zbF (hr : EvOk S r) (V : FOk g S fc X) (hE : fc.Er → ∀ x s', S.Sg X x s' → E x s') {pos : Pos} {f : Value} {first : List Value} {es : List Expr} {K : List SV → SS → Prop} (R : Rel g X G rs st h)
  (hs : noStars es = true) (hk : evs r fc es st K)
  (F : FinL g X G rs K fun vs s₁ => KeepsP g f s₁.heap ∧ wpAny (model g.prog g.w) X.A (call f (first ++ vs)) Q E s₁) : wpAny (model g.prog g.w) X.A (callWith pos f first (backTo pos (starEach es X.env)) (backToKw pos (keywordEach [] X.env))) Q E (X.sh h tk) := by
 refine callWith_of (P := fun h => KeepsP g f h) (by rw [zb9 hs]; rfl) (fun _ p => p) ?_
 cases es with
 | nil =>
  refine evalArgs_nil3 ?_
  unfold evs at hk
  exact F _ _ _ _ _ _ _ Ext.refl R VRl.nil hk
 | cons e es =>
  have main := zgC (Q := fun vs s₁ => KeepsP g f s₁.heap ∧ wpAny (model g.prog g.w) X.A (call f (first ++ vs)) Q E s₁) (tk := tk) (pos := pos) hr V hE R hk F
  have hs' : starEach (e :: es) X.env = (false, eval e X.env) :: starEach es X.env := by
   unfold noStars at hs
   split at hs
   ·cases hs
   ·rename_i q
    cases e <;> first | rfl | exact ft q.symm
  rw [hs'] at main ⊢
  exact Calls.evalArgs_plain main
theorem zcE {M : Model} {f : Value} (hf : ∀ a, f ≠ .ref a) (h' : Heap) : ∃ k, (k = Keeper.frame ∨ k = Keeper.machine ∨ k = Keeper.boundFrame) ∧ Looks M h' (keeperOf f) k := by
 cases f <;> first | exact ⟨.machine, .inr (.inl rfl), Looks.now⟩ | exact absurd rfl (hf _)
end
end Mine
end
section
open PySem.SeqAt PySem.EqBoolInt
namespace Mine
section
variable {g : Gl} {S : Sigs g} {T : Tab} {fc : FC} {X : Cx} {G : Sto} {rs : List Addr} {st : SS} {h : Heap} {tk : Nat} {E : Value → Shared → Prop} {K : SV → SS → Prop} {Q : Value → Shared → Prop} {r : Bd}
theorem room (V : FOk g S fc X) : X.A.units + 64 < cLine := by
 have := V.un
 show _ < 9900
 lia
theorem zlA (R : Rel g X G rs st h) {c : Const} {k : Nat} {pos : Pos} (hk : match c with
  | .none => K .none st
  | .bool b => K (.bool b) st
  | .int i => K (.int i) st
  | .str s => K (.str s) st
  | _ => False) (F : Fin g X G rs K Q) : wpAny (model g.prog g.w) X.A (eval (.Constant c k pos) X.env) Q E (X.sh h tk) := by
 cases c <;> first | exact hk.elim | skip
 ·exact wpAny_Constant_none (F.here R VR.none hk _)
 ·exact wpAny_Constant_bool (F.here R (VR.tok_bool _) hk _)
 ·exact wpAny_Constant_int (F.here R (VR.tok_int _ _) hk _)
 ·exact wpAny_Constant_str (F.here R (VR.tok_str _ _) hk _)
set_option tactic.hygienic true in
theorem zoN (ok : GlobOk g T) (hr : EvOk S r) (V : FOk g S fc X) (hE : fc.Er → ∀ x s', S.Sg X x s' → E x s') (R : Rel g X G rs st h) {o : Expr} {a : Str} {pos : Pos} (hb : okBase o = true)
  (hk : r.ev fc o st fun ov st1 => getA T a ov st1 K) (F : Fin g X G rs K Q) : wpAny (model g.prog g.w) X.A (eval (.Attribute o a pos) X.env) Q E (X.sh h tk) := by
 have main : wpAny (model g.prog g.w) X.A (eval o X.env) (fun o s₁ => wpAny (model g.prog g.w) X.A (getAttr o a true) Q E s₁) E (X.sh h tk) := by
  refine hr V hE R hk fun G' rs' st' sv v h' tk' x R' hv hk' => ?_
  unfold getA at hk'
  split at hk'
  ·rename_i C fs q
   split at hk'
   ·rename_i u q2
    have c := CK_l hk'
    replace hk' := CK_r hk'
    have c2 := zaG c
    have c1 := zaH c
    obtain ⟨w, hw, hq⟩ := R'.getAttr (tk := tk') (E := E) hv q q2 c2 (ok.tab.attr _ _ c1)
    exact hq (F _ _ _ _ _ _ _ x R' hw hk')
   ·exact hk'.elim
  ·exact hk'.elim
 cases o <;> first | exact ft hb | exact Attribute_any_ main
theorem zgI (hr : EvOk S r) (V : FOk g S fc X) (hE : fc.Er → ∀ x s', S.Sg X x s' → E x s') {pos : Pos} {es : List Expr} : ∀ {ops : List CmpOp} {G : Sto} {rs : List Addr} {st : SS} {h : Heap} {tk : Nat} {a : SV} {v : Value} {K : Bool → SS → Prop}, Rel g X G rs st h → VR g G rs a v → chainE r fc es a ops st K →
  (∀ {Q : Value → Shared → Prop}, (∀ G' rs' st' b h' tk', Ext G rs G' rs' → Rel g X G' rs' st' h' → K b st' → Q (.bool b) (X.sh h' tk')) → wpAny (model g.prog g.w) X.A (compareChain pos v ops (evalEach es X.env)) Q E (X.sh h tk)) ∧
  (∀ {Q : Bool → Shared → Prop}, FinB g X G rs K Q → wpAny (model g.prog g.w) X.A (testChain pos v ops (evalEach es X.env)) Q E (X.sh h tk)) := by
 induction es with
 | nil => intro ops G rs st h tk a v K R ha hk; exact False.elim hk
 | cons e es ih =>
  intro ops G rs st h tk a v K R ha hk
  cases ops with
  | nil => exact False.elim hk
  | cons op ops =>
   cases ops with
   | nil =>
    cases es with
    | cons _ _ => exact False.elim hk
    | nil =>
     refine ⟨fun {Q} F => chain_last (hr V hE R hk fun G' rs' st' sv w h' tk' x R' hv hk' => ?_), fun {Q} F => test_last (hr V hE R hk fun G' rs' st' sv w h' tk' x R' hv hk' => ?_)⟩
     ·revert hk'
      refine OM_e fun c e1 hk' => ?_
      exact R'.cmp (room V) e1 (ha.mono x) hv fun k => F _ _ _ _ _ _ x R' hk'
     ·revert hk'
      refine OM_e fun c e1 hk' => ?_
      exact R'.cmp (room V) e1 (ha.mono x) hv fun k => wpAny_truthy_bool (F _ _ _ _ _ _ x R' hk')
   | cons op2 ops =>
    cases es with
    | nil => exact False.elim hk
    | cons e2 es =>
     refine ⟨fun {Q} F => chain_link (hr V hE R hk fun G' rs' st' sv w h' tk' x R' hv hk' => ?_), fun {Q} F => test_link (hr V hE R hk fun G' rs' st' sv w h' tk' x R' hv hk' => ?_)⟩
     ·revert hk'
      refine OM_e fun c e1 hk' => ?_
      refine R'.cmp (room V) e1 (ha.mono x) hv fun k => wpAny_truthy_bool ?_
      cases c with
      | true => exact (ih R' hv (BR_l hk' rfl)).1 fun _ _ _ _ _ _ y R'' hk'' => F _ _ _ _ _ _ (x.trans y) R'' hk''
      | false => exact F _ _ _ _ _ _ x R' (BR_r hk' rfl)
     ·revert hk'
      refine OM_e fun c e1 hk' => ?_
      refine R'.cmp (room V) e1 (ha.mono x) hv fun k => wpAny_truthy_bool ?_
      cases c with
      | true => exact (ih R' hv (BR_l hk' rfl)).2 fun _ _ _ _ _ _ y R'' hk'' => F _ _ _ _ _ _ (x.trans y) R'' hk''
      | false => exact F _ _ _ _ _ _ x R' (BR_r hk' rfl)
theorem zgW {e : Expr} {es : List Expr} (h : noSet (e :: es) = true) : isSetE e = false ∧ noSet es = true := by
 cases w : isSetE e with
 | true => rw [show noSet (e :: es) = false by unfold noSet; rw [w]] at h; cases h
 | false => rw [show noSet (e :: es) = noSet es by conv => lhs; unfold noSet; rw [w]] at h; exact ⟨rfl, h⟩
theorem zdV {es : List Expr} : ∀ {ops : List CmpOp}, noSet es = true → lastMarks ops es = false := by
 induction es with
 | nil => intro ops h; rcases ops with _ | ⟨_, _ | ⟨_, _⟩⟩ <;> rfl
 | cons e es ih =>
  intro ops h
  obtain ⟨h1, h2⟩ := zgW h
  rcases ops with _ | ⟨op, _ | ⟨op2, ops⟩⟩
  ·rfl
  ·cases es with
   | nil =>
    show behindInMarks op e = false
    cases e <;> first | rfl | exact ft h1.symm
   | cons e2 es => exact ih (ops := []) h2
  ·cases es with
   | nil => cases ops <;> rfl
   | cons e2 es => exact ih (ops := op2 :: ops) h2
theorem zg7 (hr : EvOk S r) (V : FOk g S fc X) (hE : fc.Er → ∀ x s', S.Sg X x s' → E x s') (R : Rel g X G rs st h) {l : Expr} {ops : List CmpOp} {es : List Expr} {pos : Pos} (hs : noSet es = true)
  (hk : r.ev fc l st fun a st1 => chainS r fc a ops es st1 fun b st2 => K (.bool b) st2) (F : Fin g X G rs K Q) : wpAny (model g.prog g.w) X.A (eval (.Compare l ops es pos) X.env) Q E (X.sh h tk) := by
 rw [arm_eval_Compare, markedEach_of_false _ _ _ (zdV hs)]
 refine wpAny_bind (hr V hE R hk fun G' rs' st' sv w h' tk' x R' hv hk' => ?_)
 exact (zgI hr V hE R' hv hk').1 fun _ _ _ b _ _ y R'' hk'' => F _ _ _ _ _ _ _ (x.trans y) R'' (VR.tok_bool b) hk''
theorem zfL (hr : EvOk S r) (V : FOk g S fc X) (hE : fc.Er → ∀ x s', S.Sg X x s' → E x s') (R : Rel g X G rs st h) {l : Expr} {ops : List CmpOp} {es : List Expr} {pos : Pos} {K : Bool → SS → Prop} {Q : Bool → Shared → Prop} {whole : Sem Value} (hs : noSet es = true)
  (hk : r.ev fc l st fun a st1 => chainS r fc a ops es st1 K) (F : FinB g X G rs K Q) : wpAny (model g.prog g.w) X.A (PySem.isTrue (.Compare l ops es pos) X.env whole) Q E (X.sh h tk) := by
 rw [arm_isTrue_Compare, markedEach_of_false _ _ _ (zdV hs)]
 refine wpAny_bind (hr V hE R hk fun G' rs' st' sv w h' tk' x R' hv hk' => ?_)
 exact (zgI hr V hE R' hv hk').2 fun _ _ _ b _ _ y R'' hk'' => F _ _ _ _ _ _ (x.trans y) R'' hk''
set_option tactic.hygienic true in
theorem zcQ (hr : EvOk S r) (V : FOk g S fc X) (hE : fc.Er → ∀ x s', S.Sg X x s' → E x s') {op : BoolOp} {pos : Pos} : ∀ {es : List Expr} {G : Sto} {rs : List Addr} {st : SS} {h : Heap} {tk : Nat}, Rel g X G rs st h → boolS r fc op es st K → Fin g X G rs K Q →
  wpAny (model g.prog g.w) X.A (eval (.BoolOp op es pos) X.env) Q E (X.sh h tk)
 | [], G, rs, st, h, tk, R, hk, F => by unfold boolS at hk; exact hk.elim
 | [e], G, rs, st, h, tk, R, hk, F => by
  unfold boolS at hk
  refine BoolOp_one (hr V hE R hk fun G' rs' st' sv w h' tk' x R' hv hk' => ?_)
  split at hk'
  ·exact F _ _ _ _ _ _ _ x R' hv hk'
  ·exact hk'.elim
 | e :: e2 :: es, G, rs, st, h, tk, R, hk, F => by
  unfold boolS at hk
  cases op with
  | And =>
   refine BoolOp_and (hr V hE R hk fun G' rs' st' sv w h' tk' x R' hv hk' => ?_)
   split at hk'
   ·rename_i b
    replace hv : _ = _ := hv
    subst hv
    refine wpAny_truthy_bool ?_
    have k1 := BR_l hk'
    have k2 := BR_r hk'
    cases b with
    | true => simp only [if_true]; exact zcQ hr V hE R' (k1 rfl) (F.ext x)
    | false => exact F _ _ _ _ _ _ _ x R' (VR.tok_bool _) (k2 rfl)
   ·exact hk'.elim
  | Or =>
   refine BoolOp_or (hr V hE R hk fun G' rs' st' sv w h' tk' x R' hv hk' => ?_)
   split at hk'
   ·rename_i b
    replace hv : _ = _ := hv
    subst hv
    refine wpAny_truthy_bool ?_
    have k1 := BR_l hk'
    have k2 := BR_r hk'
    cases b with
    | true => exact F _ _ _ _ _ _ _ x R' (VR.tok_bool _) (k1 rfl)
    | false => exact zcQ hr V hE R' (k2 rfl) (F.ext x)
   ·exact hk'.elim
set_option tactic.hygienic true in
theorem zp0 (hr : EvOk S r) (V : FOk g S fc X) (hE : fc.Er → ∀ x s', S.Sg X x s' → E x s') (R : Rel g X G rs st h) {e : Expr} {pos : Pos}
  (hk : r.ev fc e st fun v st1 => (match v with
  | .bool b => K (.bool (!b)) st1
  | _ => False)) (F : Fin g X G rs K Q) : wpAny (model g.prog g.w) X.A (eval (.UnaryOp .Not e pos) X.env) Q E (X.sh h tk) := by
 refine UnaryOp_ (hr V hE R hk fun G' rs' st' sv w h' tk' x R' hv hk' => ?_)
 split at hk'
 ·rename_i b
  replace hv : _ = _ := hv
  subst hv
  exact not_of (wpAny_truthy_bool (F _ _ _ _ _ _ _ x R' (VR.tok_bool _) hk'))
 ·exact hk'.elim
theorem zkZ (hr : EvOk S r) (ht : TsOk S r) (V : FOk g S fc X) (hE : fc.Er → ∀ x s', S.Sg X x s' → E x s') (R : Rel g X G rs st h) {t a b : Expr} {pos : Pos}
  (hk : r.ts fc t st fun c st1 => BR c (r.ev fc a st1 K) (r.ev fc b st1 K)) (F : Fin g X G rs K Q) : wpAny (model g.prog g.w) X.A (eval (.IfExp t a b pos) X.env) Q E (X.sh h tk) := by
 refine IfExp_ (ht V hE R hk fun G' rs' st' c h' tk' x R' hk' => ?_)
 have k1 := BR_l hk'
 have k2 := BR_r hk'
 cases c with
 | true => simp only [if_true]; exact hr V hE R' (k1 rfl) (F.ext x)
 | false => exact hr V hE R' (k2 rfl) (F.ext x)
theorem zlL (hr : EvOk S r) (V : FOk g S fc X) (hE : fc.Er → ∀ x s', S.Sg X x s' → E x s') (R : Rel g X G rs st h) {op : Operator} {l m : Expr} {pos : Pos}
  (hk : r.ev fc l st fun a st1 => r.ev fc m st1 fun b st2 => binV st2 op a b fun v => K v st2) (F : Fin g X G rs K Q) : wpAny (model g.prog g.w) X.A (eval (.BinOp l op m pos) X.env) Q E (X.sh h tk) := by
 refine wpAny_BinOp (hr V hE R hk fun G' rs' st' sv w h' tk' x R' hv hk' => ?_)
 refine hr V hE R' hk' fun G'' rs'' st'' su u h'' tk'' y R'' hu hk'' => ?_
 exact R''.bin hk'' (hv.mono y) hu (F.ext (x.trans y))
theorem zkD (hr : EvOk S r) (V : FOk g S fc X) (hE : fc.Er → ∀ x s', S.Sg X x s' → E x s') (R : Rel g X G rs st h) {es : List Expr} {k : Nat} {pos : Pos}
  (hk : evs r fc es st fun vs st1 => CK (inLine vs.length) (K (.tup vs) st1)) (F : Fin g X G rs K Q) : wpAny (model g.prog g.w) X.A (eval (.Tuple es k pos) X.env) Q E (X.sh h tk) := by
 refine wpAny_Tuple (zgC hr V hE R hk fun G' rs' st' svs vs h' tk' x R' hv hk' => ?_)
 have c := CK_l hk'
 replace hk' := CK_r hk'
 have hz := zaL c
 have hl := hv.length
 obtain ⟨y, R''⟩ := R'.pushG (tupO vs 0) rfl
 refine ⟨zaX (by lia), F _ _ _ _ _ _ _ (x.trans y) R'' ?_ hk'⟩
 exact ⟨_, vs, 0, rfl, za8 _ _ _, hv.mono y⟩
theorem znK (hr : EvOk S r) (V : FOk g S fc X) (hE : fc.Er → ∀ x s', S.Sg X x s' → E x s') (R : Rel g X G rs st h) {es : List Expr} {line : Nat} {pos : Pos}
  (hk : evs r fc es st fun vs st1 => CK (inLine vs.length) (Mine.mkList T line vs st1 K)) (F : Fin g X G rs K Q) : wpAny (model g.prog g.w) X.A (eval (.List es pos) X.env) Q E (X.sh h tk) := by
 refine wpAny_List (zgC hr V hE R hk fun G' rs' st' svs vs h' tk' x R' hv hk' => ?_)
 have c := CK_l hk'
 replace hk' := CK_r hk'
 have hz := zaL c
 have hl := hv.length
 exact ⟨zaX (by lia), R'.mkList (n := 0) (fun b o e => Heap.get?_push_of_some _ e) (Heap.get?_push_size _ rfl) (Nat.le_refl _) hv hk' (F.ext x) _⟩
theorem zl2 (hr : EvOk S r) (V : FOk g S fc X) (hE : fc.Er → ∀ x s', S.Sg X x s' → E x s') (R : Rel g X G rs st h) {o : Option Expr} {K : Option SV → SS → Prop} (hk : evO r fc o st K)
  (F : ∀ G' rs' st' sv v h' tk', Ext G rs G' rs' → Rel g X G' rs' st' h' → VRo g G' rs' sv v → K sv st' → Q v (X.sh h' tk')) : wpAny (model g.prog g.w) X.A (evalPart o X.env) Q E (X.sh h tk) := by
 cases o with
 | none => exact evalPart_none_step (F _ _ _ none _ _ _ Ext.refl R rfl hk)
 | some e => exact evalPart_some_step (hr V hE R hk fun G' rs' st' sv v h' tk' x R' hv hk' => F _ _ _ (some sv) _ _ _ x R' hv hk')
theorem VRo.mono {G' : Sto} {rs' : List Addr} (x : Ext G rs G' rs') {o : Option SV} {v : Value} (hv : VRo g G rs o v) : VRo g G' rs' o v := by
 cases o with
 | none => exact hv
 | some s => exact VR.mono x hv
theorem zgQ {s : Expr} (hs : ∀ a b c p, s ≠ .Slice a b c p) (o i : Value) : subscripted s false o i = operate [o, i] (getItem o i) := by
 cases s <;> first | rfl | exact absurd rfl (hs _ _ _ _)
set_option tactic.hygienic true in
theorem zg0 (R : Rel g X G rs st h) {o i : SV} {v : Value} (hk : getI0 o i st K) (ho : VR g G rs o v) : ∃ T, (X.sh h tk).TypeIs v T ∧ ∃ id, typeLookup (.type T) "__getitem__" = pure (some (.builtin id)) := by
 unfold getI0 at hk
 split at hk
 ·split at hk
  ·obtain ⟨u, rfl⟩ := ho
   exact ⟨"str", typeIs_str _ _ _, _, PySem.F.slot_str_getitem.lookup⟩
  ·split at hk
   ·rename_i es q
    obtain ⟨d, f, rfl, hm, _, _⟩ := R.dictAt ho q
    exact ⟨"dict", Heap.MapOf.typeIs (s := X.sh h tk) hm, _, PySem.F.slot_dict_getitem.lookup⟩
   ·split at hk
    ·rename_i svs q
     obtain ⟨a, vs, n, rfl, hv, ha⟩ := R.seqAt ho q
     rcases ha with ha | ha
     ·exact ⟨"list", ⟨_, ha, rfl⟩, _, slot_list_getitem.lookup⟩
     ·exact ⟨"tuple", ⟨_, ha, rfl⟩, _, slot_tuple_getitem.lookup⟩
    ·exact hk.elim
 ·split at hk
  ·rename_i es
   obtain ⟨d, o, f, rfl, ho, ⟨m1, _⟩, hd⟩ := ho
   exact ⟨"dict", ⟨_, R.sto _ _ ho, m1.1⟩, _, PySem.F.slot_dict_getitem.lookup⟩
  ·exact hk.elim
 ·exact hk.elim
theorem ze9 (R : Rel g X G rs st h) {b : Bool} {o i : SV} {v : Value} (hk : getJ b o i st K) (ho : VR g G rs o v) : ∃ T, (X.sh h tk).TypeIs v T ∧ ∃ id, typeLookup (.type T) "__getitem__" = pure (some (.builtin id)) := by
 cases b with
 | false => exact zg0 R (zl1 hk) ho
 | true =>
  have hk' : getP o i st K := hk
  unfold getP at hk'
  split at hk'
  ·revert hk'
   refine OM_e fun sv e hk' => ?_
   rcases zeR e with ⟨es, q, e⟩ | ⟨svs, j, q0, q, e, e', b1, b2⟩
   ·obtain ⟨d, f, rfl, hm, _, _⟩ := R.dictAt ho q
    exact ⟨"dict", Heap.MapOf.typeIs (s := X.sh h tk) hm, _, PySem.F.slot_dict_getitem.lookup⟩
   ·obtain ⟨a, vs, n, rfl, hv, ha⟩ := R.seqAt ho q
    rcases ha with ha | ha
    ·exact ⟨"list", ⟨_, ha, rfl⟩, _, slot_list_getitem.lookup⟩
    ·exact ⟨"tuple", ⟨_, ha, rfl⟩, _, slot_tuple_getitem.lookup⟩
  ·exact hk'.elim
theorem zkK (hr : EvOk S r) (V : FOk g S fc X) (hE : fc.Er → ∀ x s', S.Sg X x s' → E x s') (R : Rel g X G rs st h) {v : Expr} {lo hi : Option Expr} {p pos : Pos}
  (hk : r.ev fc v st fun o st1 => evO r fc lo st1 fun l st2 => evO r fc hi st2 fun h st3 => sliceV l h o st3 K) (F : Fin g X G rs K Q) : wpAny (model g.prog g.w) X.A (eval (.Subscript v (.Slice lo hi none p) pos) X.env) Q E (X.sh h tk) := by
 refine Subscript_ (hr V hE R hk fun G' rs' st' sv w h' tk' x R' hv hk' => wpAny_Slice ?_)
 refine zl2 hr V hE R' hk' fun G2 rs2 st2 sl vl h2 tk2 x2 R2 hl hk2 => ?_
 refine zl2 hr V hE R2 hk2 fun G3 rs3 st3 sh vh h3 tk3 x3 R3 hh hk3 => ?_
 rw [evalPart_none]
 refine wpAny_pure ?_
 obtain ⟨main, T, hT, id, hid⟩ := R3.slice (tk := tk3) (E := E) hk3 ((hv.mono x2).mono x3) (VRo.mono x3 hl) hh (F.ext ((x.trans x2).trans x3))
 exact tail_any (ops := [.ref h3.objs.size, w]) hT hid main rfl
theorem znP (hr : EvOk S r) (V : FOk g S fc X) (hE : fc.Er → ∀ x s', S.Sg X x s' → E x s') (R : Rel g X G rs st h) {v s : Expr} {pos : Pos} (hs : ∀ a b c p, s ≠ .Slice a b c p)
  (hk : r.ev fc v st fun o st1 => r.ev fc s st1 fun i st2 => getJ (nestE v) o i st2 K) (F : Fin g X G rs K Q) : wpAny (model g.prog g.w) X.A (eval (.Subscript v s pos) X.env) Q E (X.sh h tk) := by
 refine Subscript_ (hr V hE R hk fun G' rs' st' sv w h' tk' x R' hv hk' => ?_)
 refine hr V hE R' hk' fun G2 rs2 st2 si vi h2 tk2 x2 R2 hi hk2 => ?_
 have hv2 := hv.mono x2
 obtain ⟨T, hT, id, hid⟩ := ze9 (tk := tk2) R2 hk2 hv2
 exact tail_any (ops := [w, vi]) hT hid (R2.itemJ hk2 hv2 hi (F.ext (x.trans x2))) (zgQ hs _ _)
theorem zlP (ht : TsOk S r) (V : FOk g S fc X) (hE : fc.Er → ∀ x s', S.Sg X x s' → E x s') {pos : Pos} {whole : Sem Value} {K : Bool → SS → Prop} {Q : Bool → Shared → Prop} : ∀ {es : List Expr} {G : Sto} {rs : List Addr} {st : SS} {h : Heap} {tk : Nat}, Rel g X G rs st h → andS r fc es st K → FinB g X G rs K Q →
  wpAny (model g.prog g.w) X.A (PySem.isTrue (.BoolOp .And es pos) X.env whole) Q E (X.sh h tk)
 | [], G, rs, st, h, tk, R, hk, F => isTrue_and_nil (F _ _ _ _ _ _ Ext.refl R hk)
 | e :: es, G, rs, st, h, tk, R, hk, F => by
  unfold andS at hk
  refine isTrue_and (ht V hE R hk fun G' rs' st' c h' tk' x R' hk' => ?_)
  have k1 := BR_l hk'
  have k2 := BR_r hk'
  cases c with
  | true => simp only [if_true]; exact zlP ht V hE R' (k1 rfl) (F.ext x)
  | false => exact F _ _ _ _ _ _ x R' (k2 rfl)
theorem zo6 (ht : TsOk S r) (V : FOk g S fc X) (hE : fc.Er → ∀ x s', S.Sg X x s' → E x s') {pos : Pos} {whole : Sem Value} {K : Bool → SS → Prop} {Q : Bool → Shared → Prop} : ∀ {es : List Expr} {G : Sto} {rs : List Addr} {st : SS} {h : Heap} {tk : Nat}, Rel g X G rs st h → orS r fc es st K → FinB g X G rs K Q →
  wpAny (model g.prog g.w) X.A (PySem.isTrue (.BoolOp .Or es pos) X.env whole) Q E (X.sh h tk)
 | [], G, rs, st, h, tk, R, hk, F => isTrue_or_nil (F _ _ _ _ _ _ Ext.refl R hk)
 | e :: es, G, rs, st, h, tk, R, hk, F => by
  unfold orS at hk
  refine isTrue_or (ht V hE R hk fun G' rs' st' c h' tk' x R' hk' => ?_)
  have k1 := BR_l hk'
  have k2 := BR_r hk'
  cases c with
  | true => exact F _ _ _ _ _ _ x R' (k1 rfl)
  | false => exact zo6 ht V hE R' (k2 rfl) (F.ext x)
theorem zrZ (hr : EvOk S r) (ht : TsOk S r) : TsOk S (bdStep T r) := by
 intro fc X G rs st h tk E e K Q V hE R hk F
 have plain : (∀ {whole : Sem Value}, PySem.isTrue e X.env whole = (do let v ← whole; standAt e.pos; holding [v] (truthy v))) → (r.ev fc e st fun v st1 => match v with
  | .bool b => K b st1
  | _ => False) → wpAny (model g.prog g.w) X.A (PySem.isTrue e X.env (eval e X.env)) Q E (X.sh h tk) := fun he hk => by
  refine isTrue_plain (hr V hE R hk fun G' rs' st' sv w h' tk' x R' hv hk' => ?_) he
  split at hk'
  ·replace hv : _ = _ := hv
   subst hv
   exact wpAny_truthy_bool (F _ _ _ _ _ _ x R' hk')
  ·exact hk'.elim
 have hk0 : tsStep r fc e st K := hk
 cases e with
 | UnaryOp op x p =>
  cases op with
  | Not => exact isTrue_not (ht V hE R hk0 fun G' rs' st' c h' tk' x R' hk' => F _ _ _ _ _ _ x R' hk')
  | _ => exact plain rfl hk0
 | BoolOp op es p =>
  cases op with
  | And => exact zlP ht V hE R hk0 F
  | Or => exact zo6 ht V hE R hk0 F
 | IfExp t a b p => exact False.elim hk0
 | Compare l ops es p =>
  have c := CK_l hk0
  have hk1 := CK_r hk0
  exact zfL hr V hE R c hk1 F
 | _ => exact plain rfl hk0
end
end Mine
end
section
open PySem.SeqAt PySem.EqBoolInt
namespace Mine
noncomputable def callee (X : Cx) (env : Env) (h : Heap) (rs : List Addr) (G : Sto) : Cx := ⟨X.A.deeper env, env, h, G, rs, env.locals :: env.cells.map (·.2), X.gg, X.dd, X.os, X.fs⟩
structure Enters (fi : FI) (env : Env) (h : Heap) : Prop where
 sc : env.scope = fi.sc
 gl : env.globals = mainGlobals
 bl : env.builtins = builtinsNs
 fr : env.frame = some env.locals
 lo : h.objs.size ≤ env.locals
 loc : env.locals ∉ env.cells.map (·.2)
 cap : ∀ p ∈ env.cells, ∀ q ∈ env.cells, p.1 ≠ q.1 → p.2 ≠ q.2
 cel : ∀ x, fi.sc.names.lookup x = some .cell → ∃ c, env.cells.lookup x = some c
structure FnOk (g : Gl) (a : Addr) (fi : FI) : Prop where
 kind : fi.sc.kind = .function
 names : okNames (fun _ _ => true) fi.sc.names = true
 run : ∀ {X : Cx} {G : Sto} {rs : List Addr} {st : SS} {h : Heap} {tk : Nat} {vals : List Value} {svs : List SV} {l : List (Str × SV)} {R : Result → Shared → Prop},
  Rel g X G rs st h → VRl g G rs svs vals → bindArgsS fi.params fi.dfl svs = some l → X.A.depth < 1000 →
  (∀ env h₁ tk₁, Enters fi env h → Rel g (callee X env h rs G) G rs ⟨l, st.H⟩ h₁ →
   wpAny (model g.prog g.w) (X.A.deeper env) (execs fi.body env) (fun f s' => R (.ok (.ret (match f with | .ret v => v | _ => .none))) s')
    (fun e s' => wpAny (model g.prog g.w) (X.A.deeper env) (leaving env e) (fun _ s'' => R (.error e) s'') (fun e' s'' => R (.error e') s'') s') (X.sh h₁ tk₁)) →
  codeAny (model g.prog g.w) X.A (.call (.ref a) ⟨vals, []⟩) R (X.sh h tk)
set_option tactic.hygienic true in
theorem za0 : ∀ {l : List (Str × NameKind)} {p : Str → NameKind → Bool}, okNames p l = true → ∀ {x k}, l.lookup x = some k → (x ≠ dbgN ∧ x ≠ clsN) ∧ p x k = true
 | [], _, _, x, k, e => by cases e
 | (y, k0) :: r, p, h, x, k, e => by
  unfold okNames at h
  split at h
  ·cases h
  ·rename_i q
   split at h
   ·rename_i q2
    rw [List.lookup_cons] at e
    split at e
    ·rename_i q3
     cases e
     have e3 := eq_of_beq q3
     subst e3
     rw [Bool.or_eq_false_iff] at q
     exact ⟨⟨sEq_false.mp q.1, sEq_false.mp q.2⟩, q2⟩
    ·exact za0 h e
   ·cases h
section
variable {g : Gl} {S : Sigs g} {T : Tab} {fc : FC} {X : Cx} {G : Sto} {rs : List Addr} {st : SS} {h : Heap} {tk : Nat} {E : Value → Shared → Prop} {K : SV → SS → Prop} {Q : Value → Shared → Prop} {r : Bd}
structure Bud (S : Sigs g) (fc : FC) (X : Cx) : Prop where
 hh : X.A.handled = none
 room : ∀ d, fc.d = d + 1 → X.A.depth + 1 + 3 * d ≤ 900 ∧ X.A.units + 3 + 12 * d ≤ 8000
 er : fc.Er → S.on
 fr : fc.Er ∨ fc.tr = true → FrS X
theorem FOk.bud (V : FOk g S fc X) : Bud S fc X := ⟨V.hh, fun d e => by
 have := V.dep
 have := V.un
 lia, V.er, V.fr⟩
theorem FrS.enter (F : FrS X) {fi : FI} {env : Env} (en : Enters fi env h) (hk : fi.sc.kind = .function) : FrS (callee X env h rs G) := by
 obtain ⟨f1, f2, outer, f3, f4⟩ := F
 refine ⟨en.fr, by show env.scope.kind ≠ _; rw [en.sc, hk]; exact nofun, X.env :: outer, ?_, fun e he => ?_⟩
 ·show X.A.frames.map (env :: ·) = _
  rw [f3]; rfl
 ·rcases List.mem_cons.mp he with rfl | q
  ·exact ⟨f2, X.env.locals, List.mem_cons_self, f1⟩
  ·obtain ⟨k, L, hL, hf⟩ := f4 e q
   exact ⟨k, L, List.mem_cons_of_mem _ hL, hf⟩
set_option tactic.hygienic true in
theorem FOk.enter (V : Bud S fc X) {fi : FI} {a : Addr} (hf : FnOk g a fi) {env : Env} (en : Enters fi env h) {d : Nat} (hd : fc.d = d + 1) : FOk g S { fc with sc := fi.sc, d := d } (callee X env h rs G) := by
 have hk : ∀ x, env.kindOf x = lk fi.sc.names x := fun x => by
  show env.scope.names.lookup x = _
  rw [en.sc, zbP]
 refine ⟨⟨by show env.scope.kind = _; rw [en.sc]; exact hf.kind, en.loc, fun p hp q hq _ => en.cap p hp q hq, List.mem_cons_self⟩, en.gl, en.bl, V.hh, ?_, ?_, fun x e => (hk x).trans e, fun x e => ?_, fun x k e => ?_, fun x e => ?_, fun x e => ?_, V.er, fun q => FrS.enter (V.fr q) en hf.kind⟩
 ·exact (V.room d hd).1
 ·exact (V.room d hd).2
 ·show env.kindOf x = _ ∨ (env.kindOf x = _ ∧ _)
  rw [hk]
  unfold isLoc at e
  split at e
  ·rename_i q; exact .inl q
  ·rename_i q
   obtain ⟨c, hc⟩ := en.cel x (by rw [← zbP]; exact q)
   exact .inr ⟨q, c, hc, List.mem_cons_of_mem _ (List.mem_map.mpr ⟨(x, c), mem_of_lookup hc, rfl⟩)⟩
  ·cases e
 ·rw [show (callee X env h rs G).env.kindOf x = env.kindOf x from rfl, hk, zbP] at e
  exact (za0 hf.names e).1
 ·obtain ⟨c, hc⟩ := en.cel x (by rw [← zbP]; exact e)
  exact ⟨(hk x).trans e, c, hc⟩
 ·show env.kindOf x = _
  rw [hk]
  unfold isLoc1 at e
  split at e
  ·rename_i q; exact q
  ·cases e
theorem zcS (hx : ExOk S r) (V : FOk g S fc X) (hE : fc.Er → ∀ x s', S.Sg X x s' → E x s') : ∀ {b : List Stmt} {G : Sto} {rs : List Addr} {st : SS} {h : Heap} {tk : Nat} {K : Out → SS → Prop} {Q : Flow → Shared → Prop}, Rel g X G rs st h → exs r fc b st K → FinO g X G rs K Q →
  wpAny (model g.prog g.w) X.A (execs b X.env) Q E (X.sh h tk)
 | [], G, rs, st, h, tk, K, Q, R, hk, F => wpAny_execs_nil (F _ _ _ .next _ _ _ Ext.refl R rfl hk)
 | s :: b, G, rs, st, h, tk, K, Q, R, hk, F => by
  unfold exs at hk
  refine wpAny_execs_cons (hx V hE R hk fun G' rs' st' o f h' tk' x R' hf hk' => ?_)
  cases o with
  | next => obtain rfl := show _ = _ from hf; exact zcS hx V hE R' hk' (F.ext x)
  | brk => obtain rfl := show _ = _ from hf; exact F _ _ _ .brk _ _ _ x R' rfl hk'
  | cont => obtain rfl := show _ = _ from hf; exact F _ _ _ .cont _ _ _ x R' rfl hk'
  | ret sv =>
   obtain ⟨v, rfl, hv⟩ := hf
   exact F _ _ _ (.ret sv) _ _ _ x R' ⟨v, rfl, hv⟩ hk'
noncomputable def SemSpec (g : Gl) (S : Sigs g) (tr : Bool) (a : Addr) (N : Nat) (sp : Spec) : Prop := ∀ {X : Cx} {G : Sto} {rs : List Addr} {st : SS} {h : Heap} {tk : Nat} {vals : List Value} {svs : List SV} {K : SV → Prop} {Er : Prop} {R : Result → Shared → Prop},
 Rel g X G rs st h → VRl g G [] svs vals → X.A.handled = none → X.A.depth + 3 * N ≤ 900 → X.A.units + 12 * N ≤ 8000 → (Er → S.on) → (Er ∨ tr = true → FrS X) → sp svs K Er →
 (∀ G' sv v h' tk', Ext G rs G' rs → Rel g X G' rs st h' → VR g G' [] sv v → K sv → R (.ok (.ret v)) (X.sh h' tk')) → (Er → ∀ e s', S.Sg (X.virt G h) e s' → R (.error e) s') →
 codeAny (model g.prog g.w) X.A (.call (.ref a) ⟨vals, []⟩) R (X.sh h tk)
noncomputable def ClsOk (g : Gl) (C i : Addr) : Prop := makesIn g.K C = true ∧ findIn g.K (.ref C) "__init__" = some (some (.ref i)) ∧ typeIn g.K (.ref i) = some (.type "function")
structure CallOk (g : Gl) (S : Sigs g) (T : Tab) : Prop where
 glob : GlobOk g T
 fn : ∀ a fi, T.fn a = some fi → FnOk g a fi
 cls : ∀ C i, T.cls C = some i → ClsOk g C i
 spec : ∀ a N sp, T.spec a = some (N, sp) → SemSpec g S T.tr a N sp
 out : ∀ {X : Cx} {G : Sto} {rs : List Addr} {st : SS} {h : Heap} {fi : FI} {env : Env}, FrS X → fi.sc.kind = .function → Rel g X G rs st h → Enters fi env h → ∀ e s', S.Sg (callee X env h rs G) e s' →
  wpAny (model g.prog g.w) (X.A.deeper env) (leaving env e) (fun _ s'' => S.Sg X e s'') (fun e' s'' => S.Sg X e' s'') s'
theorem zo7 {a b : Bool} (c : (!a || b) = true) (h : a = true) : b = true := by subst h; simpa using c
set_option tactic.hygienic true in
theorem zcI (ok : CallOk g S T) (hx : ExOk S r) (V : Bud S fc X) {R : Result → Shared → Prop} (hE : fc.Er → ∀ e s', S.Sg X e s' → R (.error e) s') (Rl : Rel g X G rs st h) {a : Addr} {svs : List SV} {vals : List Value} (hv : VRl g G rs svs vals)
  (hk : callF T r fc a svs st K) (F : Fin g X G rs K fun v s' => R (.ok (.ret v)) s') : codeAny (model g.prog g.w) X.A (.call (.ref a) ⟨vals, []⟩) R (X.sh h tk) := by
 unfold callF at hk
 split at hk
 ·exact hk.elim
 ·rename_i d hd
  obtain ⟨hdep, hun⟩ := V.room d hd
  split at hk
  ·rename_i sp hsp
   split at hk
   ·rename_i c
    have c3 := zaG c
    have c := zaH c
    have c2 := zaG c
    have c1 := zaH c
    have hn : sp.1 ≤ d := Nat.le_of_ble_eq_true c2
    exact ok.spec a sp.1 sp.2 hsp Rl (allV_nil c1 hv) V.hh (by lia) (by lia) V.er (fun q => V.fr (q.imp id fun z => zo7 c3 z)) hk (fun G' sv v h' tk' x R' hv' k => F _ _ _ _ _ _ _ x R' (hv'.mono Ext.ofNil) k) fun q e s' hs => hE q e s' (S.virt Rl hs)
   ·exact hk.elim
  ·split at hk
   ·rename_i fi hfi
    have hfn := ok.fn a fi hfi
    split at hk
    ·rename_i l hl
     refine hfn.run Rl hv hl (by lia) fun env h₁ tk₁ en R₁ => ?_
     have V' := FOk.enter (rs := rs) (G := G) V hfn en hd
     refine zcS (X := callee X env h rs G) hx V' (E := fun e s' => wpAny (model g.prog g.w) (X.A.deeper env) (leaving env e) (fun _ s'' => R (.error e) s'') (fun e' s'' => R (.error e') s'') s') (fun hEr e s' hs => ?_) R₁ hk fun G' rs' st' o f h' tk' x R' hf hk' => ?_
     ·exact wpAny_mono (ok.out (V.fr (.inl hEr)) hfn.kind Rl en e s' hs) (fun _ s'' z => hE hEr e s'' z) fun e' s'' z => hE hEr e' s'' z
     ·have Rb := Rl.back R' rfl rfl rfl rfl List.mem_cons_self x
      cases o with
      | next => obtain rfl := show _ = _ from hf; exact F _ _ _ _ _ _ _ x Rb VR.none hk'
      | brk => exact hk'.elim
      | cont => exact hk'.elim
      | ret sv =>
       obtain ⟨v, rfl, hv'⟩ := hf
       exact F _ _ _ _ _ _ _ x Rb hv' hk'
    ·exact hk.elim
   ·exact hk.elim
end
end Mine
end
section
open PySem.SeqAt PySem.EqBoolInt
namespace Mine
section
variable {g : Gl} {S : Sigs g} {T : Tab} {fc : FC} {X : Cx} {G : Sto} {rs : List Addr} {st : SS} {h : Heap} {tk : Nat} {E : Value → Shared → Prop} {K : SV → SS → Prop} {Q : Value → Shared → Prop} {r : Bd}
noncomputable def Cx.at (X : Cx) (A : Around) : Cx := { X with A := A }
theorem Rel.at (R : Rel g X G rs st h) (A : Around) : Rel g (X.at A) G rs st h := ⟨R.sto, R.base, R.ns, R.cels, R.loc, R.len, R.cell, R.nd, R.fresh, R.own, R.wfa, R.ownl, R.old, R.olds, R.fo, R.lc, R.gnew⟩
theorem Rel.unat {A : Around} (R : Rel g (X.at A) G rs st h) : Rel g X G rs st h := ⟨R.sto, R.base, R.ns, R.cels, R.loc, R.len, R.cell, R.nd, R.fresh, R.own, R.wfa, R.ownl, R.old, R.olds, R.fo, R.lc, R.gnew⟩
theorem zbX (ok : CallOk g S T) (R : Rel g X G rs st h) {a : Addr} (hs : (T.spec a).isSome = true ∨ (T.fn a).isSome = true ∨ (T.cls a).isSome = true) : KeepsP g (.ref a) h :=
 keeps_K (ok.glob.keep a hs) h R.kin
set_option tactic.hygienic true in
theorem zdN {svs : List SV} (hk : callF T r fc a svs st K) : (T.spec a).isSome = true ∨ (T.fn a).isSome = true ∨ (T.cls a).isSome = true := by
 unfold callF at hk
 split at hk
 ·exact hk.elim
 ·split at hk
  ·rename_i q; exact .inl (by rw [q]; rfl)
  ·split at hk
   ·rename_i q; exact .inr (.inl (by rw [q]; rfl))
   ·exact hk.elim
theorem zdT (A : Around) (C : Addr) (vals : List Value) : (A.under (.builtin "type.__call__" ⟨.ref C :: vals, []⟩)).depth ≤ A.depth + 1 ∧ (A.under (.builtin "type.__call__" ⟨.ref C :: vals, []⟩)).units ≤ A.units + 4 ∧ (A.under (.builtin "type.__call__" ⟨.ref C :: vals, []⟩)).handled = A.handled := by
 have h1 : (Code.builtin "type.__call__" ⟨.ref C :: vals, []⟩).weight = 1 := by kernel_rfl
 have h2 : (Code.builtin "type.__call__" ⟨.ref C :: vals, []⟩).cUnits = 1 := by kernel_rfl
 refine ⟨?_, ?_, rfl⟩
 ·show A.depth + (Code.builtin "type.__call__" ⟨.ref C :: vals, []⟩).weight ≤ _
  lia
 ·show A.units + (Code.builtin "type.__call__" ⟨.ref C :: vals, []⟩).cUnits ≤ _
  lia
theorem zh2 (ok : CallOk g S T) (hx : ExOk S r) (vh : X.A.handled = none) (vd : X.A.depth + 3 * fc.d ≤ 900) (vu : X.A.units + 12 * fc.d ≤ 8000) {R : Result → Shared → Prop} (Rl : Rel g X G rs st h) {C i : Addr} {svs : List SV} {vals : List Value} (hc : T.cls C = some i) (hv : VRl g G rs svs vals)
  (hk : callF T r { fc with Er := False, tr := false } i (.ins C st.H.length :: svs) ⟨st.loc, st.H ++ [.fields []]⟩ fun v st' => match v with
    | .none => K (.ins C st.H.length) st'
    | _ => False) (F : Fin g X G rs K fun v s' => R (.ok (.ret v)) s') : codeAny (model g.prog g.w) X.A (.call (.ref C) ⟨vals, []⟩) R (X.sh h tk) := by
 obtain ⟨c1, c2, c3⟩ := ok.cls C i hc
 have KX := Rl.kin
 refine make_core (h := h) (makes_of KX c1) (looks_findIn KX c2) (fun self => bind_fn KX self c3) (.inl rfl) ?_
 obtain ⟨u1, u2, u3⟩ := zdT X.A C vals
 generalize X.A.under (.builtin "type.__call__" ⟨.ref C :: vals, []⟩) = A' at u1 u2 u3
 have R0 : Rel g X G rs st (h.push emptyDict) := Rl.keeps fun b o e => Heap.get?_push_of_some _ e
 have ap := Rl.apart (Nat.le_refl _)
 obtain ⟨x1, R1⟩ := R0.newCell (a := h.objs.size) (so := .fields []) ⟨[], 0, Heap.get?_push_size _ rfl, by simp [FRl]⟩ ap.n1 ap.n2 ap.n3
 obtain ⟨x2, R2⟩ := R1.pushG (instObj C h.objs.size) rfl
 rw [Heap.size_push] at x2 R2
 have hx' : VR g (Mine.addG G (h.objs.size + 1) (instObj C h.objs.size)) (rs ++ [h.objs.size]) (.ins C st.H.length) (.ref (h.objs.size + 1)) := by
  refine ⟨_, h.objs.size, ?_, za8 _ _ _, rfl⟩
  rw [← Rl.len, List.getElem?_append_right (Nat.le_refl _), Nat.sub_self]; rfl
 have hv' := VRl.cons hx' (hv.mono (x1.trans x2))
 have B : Bud S { fc with Er := False, tr := false } (X.at A') := ⟨u3.trans vh, fun d e => by
  have e' : fc.d = d + 1 := e
  show A'.depth + 1 + 3 * d ≤ 900 ∧ A'.units + 3 + 12 * d ≤ 8000
  lia, fun q => q.elim, fun q => q.elim (fun z => z.elim) nofun⟩
 refine zcI (X := X.at A') (R := InitBack (h.objs.size + 1) R) ok hx B (fun q => q.elim) (R2.at A') hv' hk fun G' rs' st' sv v h' tk' x R' hr hk' => ?_
 split at hk'
 ·replace hr : _ = _ := hr
  subst hr
  exact ⟨rfl, F _ _ _ _ _ _ _ ((x1.trans x2).trans x) R'.unat (hx'.mono x) hk'⟩
 ·exact hk'.elim
noncomputable def RetQ (Q : Value → Shared → Prop) (E : Value → Shared → Prop) : Result → Shared → Prop := fun r s' => match r with | .ok (.ret v) => Q v s' | .ok _ => False | .error e => E e s'
set_option tactic.hygienic true in
theorem zlJ (ok : CallOk g S T) (hx : ExOk S r) (V : FOk g S fc X) (hE : fc.Er → ∀ x s', S.Sg X x s' → E x s') (Rl : Rel g X G rs st h) {line : Nat} {fv : SV} {f : Value} {svs : List SV} {vals : List Value} (hf : VR g G rs fv f) (hv : VRl g G rs svs vals)
  (hk : callV T r fc line fv svs st K) (F : Fin g X G rs K Q) : KeepsP g f h ∧ wpAny (model g.prog g.w) X.A (call f vals) Q E (X.sh h tk) := by
 unfold callV at hk
 split at hk
 ·rename_i a
  replace hf : _ = _ := hf
  subst hf
  split at hk
  ·rename_i sp hsp
   split at hk
   ·rename_i c
    have c3 := zaG c
    have c := zaH c
    have c2 := zaG c
    have c1 := zaH c
    have hn : sp.1 ≤ Nat.pred fc.d := Nat.le_of_ble_eq_true c2
    have hn' : sp.1 ≤ fc.d := Nat.le_trans hn (Nat.pred_le _)
    have hdep := V.dep
    have hun := V.un
    refine ⟨zbX ok Rl (.inl (by rw [hsp]; rfl)), wpAny_call ?_⟩
    exact ok.spec a sp.1 sp.2 hsp Rl (allV_nil c1 hv) V.hh (by lia) (by lia) V.er (fun q => V.fr (q.imp id fun z => zo7 c3 z)) hk (fun G' sv v h' tk' x R' hv' k => F _ _ _ _ _ _ _ x R' (hv'.mono Ext.ofNil) k) fun q e s' hs => hE q e s' (S.virt Rl hs)
   ·exact hk.elim
  ·split at hk
   ·rename_i i hc
    exact ⟨zbX ok Rl (.inr (.inr (by rw [hc]; rfl))), wpAny_call (zh2 (R := RetQ Q E) ok hx V.hh V.dep V.un Rl hc hv hk F)⟩
   ·exact ⟨zbX ok Rl (zdN hk), wpAny_call (zcI (R := RetQ Q E) ok hx V.bud hE Rl hv hk F)⟩
 ·rename_i b
  replace hf : _ = _ := hf
  subst hf
  exact ⟨zcE (fun a => by cases b <;> exact nofun) _, Rl.callB V.hh hv hk F⟩
 ·exact hk.elim
theorem zlK (ok : CallOk g S T) (hx : ExOk S r) (V : FOk g S fc X) (hE : fc.Er → ∀ x s', S.Sg X x s' → E x s') (Rl : Rel g X G rs st h) {m : Meth} {f : Value} {first : List Value} {svs : List SV} {vals : List Value} (hf : MethV g G rs m f first) (hv : VRl g G rs svs vals)
  (hk : callM T r fc m svs st K) (F : Fin g X G rs K Q) : KeepsP g f h ∧ wpAny (model g.prog g.w) X.A (call f (first ++ vals)) Q E (X.sh h tk) := by
 by_cases hm : ∃ a s, m = .fn a s
 ·obtain ⟨a, s, rfl⟩ := hm
  obtain ⟨v, rfl, rfl, hs⟩ := hf
  have hk' : callF T r fc a (s :: svs) st K := by
   unfold callM at hk
   exact hk
  exact ⟨zbX ok Rl (zdN hk'), wpAny_call (zcI (R := RetQ Q E) ok hx V.bud hE Rl (VRl.cons hs hv) hk' F)⟩
 ·refine ⟨zcE (fun a q => ?_) _, Rl.callMB hf (fun a s q => hm ⟨a, s, q⟩) hv hk F⟩
  subst q
  cases m <;> first | exact hm ⟨_, _, rfl⟩ | exact hf.elim | (obtain ⟨v, q, _⟩ := hf; cases q)
theorem zfO (ok : CallOk g S T) (hr : EvOk S r) (hx : ExOk S r) (V : FOk g S fc X) (hE : fc.Er → ∀ x s', S.Sg X x s' → E x s') (R : Rel g X G rs st h) {o : Expr} {m : Str} {p : Pos} {args : List Expr} {pos : Pos} (hs : noStars args = true) (hb : (okBase o && (Nat.ble args.length 20 && Nat.beq p.endLine pos.line)) = true)
  (hk : r.ev fc o st fun ov st1 => CK (goodM (methOf T ov m st1)) (evs r fc args st1 fun vs st2 => callM T r fc (methOf T ov m st1) vs st2 K)) (F : Fin g X G rs K Q) : wpAny (model g.prog g.w) X.A (eval (.Call (.Attribute o m p) args [] pos) X.env) Q E (X.sh h tk) := by
 have main : ∀ {pl : Sem Bool}, wpAny (model g.prog g.w) X.A (eval o X.env) (fun ov s₁ => wpAny (model g.prog g.w) X.A (getMethod ov m pl) (fun fx s₂ => wpAny (model g.prog g.w) X.A (callWith pos fx.1 fx.2 (backTo pos (starEach args X.env)) (backToKw pos (keywordEach [] X.env))) Q E s₂) E s₁) E (X.sh h tk) := by
  intro pl
  refine hr V hE R hk fun G' rs' st' sv v h' tk' x R' hv hk' => ?_
  have hm := CK_l hk'
  replace hk' := CK_r hk'
  have hm' : methOf T sv m st' ≠ .bad := fun q => by rw [q] at hm; cases hm
  obtain ⟨f, first, hM, hq⟩ := R'.meth (tk := tk') (E := E) ok.glob.tab hv hm'
  refine hq (zbF hr V hE R' hs hk' fun G2 rs2 st2 svs vs h2 tk2 x2 R2 hvs hk2 => ?_)
  exact zlK ok hx V hE R2 (hM.mono x2) hvs hk2 (F.ext (x.trans x2))
 have hb2 := zaG hb
 have hb := zaH hb
 have hb3 := zaG hb2
 have hb2 := zaH hb2
 have hlen := Nat.le_of_ble_eq_true hb2
 have hform : methodCallForm (args.length + ([] : List Keyword).length) (backTo pos (starEach args X.env)) (backToKw pos (keywordEach [] X.env)) = true := by
  have h1 : (backTo pos (starEach args X.env)).all (fun x => !x.1) = true := by
   rw [List.all_eq_not_any_not]
   simp only [Bool.not_not]
   rw [zb9 hs]; rfl
  unfold methodCallForm
  rw [h1]
  show (true && true && decide (args.length + 0 + 0 < 30)) = true
  simp
  lia
 have hbase : attributeBase o m X.env (eval o X.env) = eval o X.env := by cases o <;> first | exact ft hb | rfl
 have hpos : (p.endLine == pos.line) = true := by rw [beq_iff_eq]; exact Nat.eq_of_beq_eq_true hb3
 rw [arm_eval_Call, hbase]
 refine wpAny_bind (wpAny_mono (main (pl := do return (← importBound o X.env).getD true)) (fun ov s₁ h₁ => wpAny_bind (wpAny_standAt ?_)) fun _ _ x => x)
 unfold methodCall
 rw [hform]
 refine wpAny_bind (wpAny_holding (wpAny_mono h₁ (fun fx s₂ h₂ => ?_) fun _ _ x => x))
 have e : methodCallPos true o X.env p pos = pure pos := by
  unfold methodCallPos
  rw [hpos]; rfl
 show wpAny _ _ (methodCallPos true o X.env p pos >>= _) _ _ _
 rw [e]
 exact wpAny_bind (wpAny_pure h₂)
theorem zfN (ok : CallOk g S T) (hr : EvOk S r) (hx : ExOk S r) (V : FOk g S fc X) (hE : fc.Er → ∀ x s', S.Sg X x s' → E x s') (R : Rel g X G rs st h) {x : Str} {p : Pos} {args : List Expr} {pos : Pos} (hs : noStars args = true)
  (hk : r.ev fc (.Name x p) st fun fv st1 => evs r fc args st1 fun vs st2 => callV T r fc pos.line fv vs st2 K) (F : Fin g X G rs K Q) : wpAny (model g.prog g.w) X.A (eval (.Call (.Name x p) args [] pos) X.env) Q E (X.sh h tk) := by
 refine wpAny_Call_ofName (hr V hE R hk fun G' rs' st' sv v h' tk' x R' hv hk' => ?_)
 refine zbF (first := []) hr V hE R' hs hk' fun G2 rs2 st2 svs vs h2 tk2 x2 R2 hvs hk2 => ?_
 exact zlJ ok hx V hE R2 (hv.mono x2) hvs hk2 (F.ext (x.trans x2))
theorem zn7 (R : Rel g X G rs st h) {k k2 v v2 : Str} {p1 p3 p5 p7 : Nat} {p2 p4 p6 p8 : Pos} {pos : Pos} (hc : (!sEq k k2) = true) (hk : K (.sdct [(k, .str v), (k2, .str v2)]) st) (F : Fin g X G rs K Q) :
  wpAny (model g.prog g.w) X.A (eval (.Dict [some (.Constant (.str k) p1 p2), some (.Constant (.str k2) p3 p4)] [.Constant (.str v) p5 p6, .Constant (.str v2) p7 p8] pos) X.env) Q E (X.sh h tk) := by
 have hne : k ≠ k2 := by
  have : sEq k k2 = false := by simpa using hc
  exact sEq_false.mp this
 refine wpAny_Dict_pairs (knd := PySem.strKind g.prog g.w) (pairs := [(eval (.Constant (.str k) p1 p2) X.env, do let x ← eval (.Constant (.str v) p5 p6) X.env; standAt pos; pure x), (eval (.Constant (.str k2) p3 p4) X.env, do let x ← eval (.Constant (.str v2) p7 p8) X.env; standAt pos; pure x)]) rfl (by simp) (by simp) ?_
 refine wpAny_bind (wpAny_Constant_str (wpAny_bind (wpAny_holding (wpAny_bind (wpAny_Constant_str (wpAny_bind (wpAny_standAt (wpAny_pure ?_))))))))
 refine wpAny_bind (wpAny_holding (wpAny_bind (wpAny_Constant_str (wpAny_bind (wpAny_holding (wpAny_bind (wpAny_Constant_str (wpAny_bind (wpAny_standAt (wpAny_pure ?_))))))))))
 refine wpAny_bind (wpAny_holding (wpAny_pure ?_))
 refine wpAny_pure (wpAny_pure ?_)
 have isk : ∀ (a : Str) (t : Tok), (PySem.strKind g.prog g.w).is a (.str a t) = true := fun a t => by show (a == a) = true; simp
 refine ⟨[(k, .str v (tk + 1)), (k2, .str v2 (tk + 1 + 1 + 1))], ⟨isk _ _, rfl, isk _ _, rfl, trivial⟩, Heap.DictOf.new _, fun h' hd hs => ?_⟩
 have hm := hd.mapOf
 obtain ⟨o, es, ep, ho, he, hd1, hk1, hf⟩ := hm
 have ap := R.apart (Nat.le_refl _)
 have R' : Rel g X G rs st h' := R.touch (· = h.objs.size) (fun a q => by rw [q]; exact ap) fun b o' hb e => (hs.2 b hb).trans (Heap.get?_push_of_some _ e)
 refine F _ _ _ _ _ _ _ (zbB (a := h.objs.size) (o := o) ap.n2) (R'.addG ho ap.n1 ap.n2 ap.n3) ?_ hk
 refine ⟨_, o, _, rfl, za8 _ _ _, ⟨he, es, ep, hd1, hk1, hf⟩, ?_⟩
 have em : merged [] [(k, Value.str v (tk + 1)), (k2, Value.str v2 (tk + 1 + 1 + 1))] = [(k, Value.str v (tk + 1)), (k2, Value.str v2 (tk + 1 + 1 + 1))] := by
  simp [merged, stored, hne]
 rw [em]
 refine ⟨.str v (tk + 1), fun x => if x = k2 then some (Value.str v2 (tk + 1 + 1 + 1)) else none, fun x => ?_, VR.tok_str _ _, .str v2 (tk + 1 + 1 + 1), fun _ => none, fun x => rfl, VR.tok_str _ _, fun _ => rfl⟩
 by_cases q : x = k
 ·subst q; simp [valueAt]
 ·have q' : ¬ k = x := fun z => q z.symm
  by_cases q2 : x = k2
  ·subst q2; simp [valueAt, q, q']
  ·have q2' : ¬ k2 = x := fun z => q2 z.symm
   simp [valueAt, q, q', q2, q2']
end
end Mine
end
section
open PySem.SeqAt PySem.EqBoolInt
namespace Mine
structure It (g : Gl) (A : Around) (G : Sto) (rs : List Addr) (I : Addr) (its : List SV) (fp : List Addr) (P : Nat → Value → Prop) (St : Nat → Heap → Prop) : Prop where
 w : Walks g.prog g.w A I fp [I] its.length P St
 fp : ∀ b ∈ fp, b = I ∨ ∃ o, G b = some o
 val : ∀ i v, i < its.length → P i v → ∃ sv, its[i]? = some sv ∧ VR g G rs sv v
 live : ∀ i h, St i h → ∃ o, h.get? I = some o
 go : ∀ (target : Expr) i j v (s : Shared) (Q : Unit → Shared → Prop) (E : Value → Shared → Prop), St i s.heap → P j v → Q () s → wpAny (model g.prog g.w) A (letOwnedTupleGo target (.ref I) v) Q E s
theorem zb1 {prog : Program} {w : World} {A : Around} {E : Value → Shared → Prop} {s : Shared} {I : Addr} {o : Obj} {n : String} {target : Expr} {v : Value} {Q : Unit → Shared → Prop} (ho : s.heap.get? I = some o) (hc : o.cls = .type n)
  (hn : (["enumerate", "zip", "dict_itemiterator", "dict_reverseitemiterator", "odict_iterator", "itertools.zip_longest", "itertools.pairwise"] : List String).contains n = false) (hq : Q () s) : wpAny (model prog w) A (letOwnedTupleGo target (.ref I) v) Q E s := by
 have t : ∀ es c p, wpAny (model prog w) A (letOwnedTupleGo (.Tuple es c p) (.ref I) v) Q E s := fun es c p => by
  cases v with
  | ref a =>
   refine wpAny_bind (wpAny_load ho ?_)
   obtain ⟨k, d, dt, sl⟩ := o
   subst hc
   cases dt with
   | fields vs =>
    show wpAny _ _ (if (_ && _) = true then _ else pure ()) Q E s
    rw [hn, Bool.false_and]
    exact wpAny_pure hq
   | _ => exact wpAny_pure hq
  | _ => exact wpAny_pure hq
 cases target with
 | Tuple es c p => exact t es c p
 | List es p => exact t es 0 p
 | _ => exact wpAny_pure hq
section
variable {g : Gl} {X : Cx} {G : Sto} {rs : List Addr} {st : SS} {h : Heap} {tk : Nat} {E : Value → Shared → Prop} {Q : Value → Shared → Prop}
set_option tactic.hygienic true in
theorem ze8 (R : Rel g X G rs st h) (hh : X.A.handled = none) {it : SV} {v : Value} {its : List SV} (hv : VR g G rs it v) (hi : itemsOf it = some its)
  (hq : ∀ o fp P St, It g X.A G rs h.objs.size its fp P St → St 0 (h.push o) → (∃ o', (h.push o).get? h.objs.size = some o') → Q (.ref h.objs.size) (X.sh (h.push o) tk)) : wpAny (model g.prog g.w) X.A (pyIter v) Q E (X.sh h tk) := by
 have hne : ∀ {a : Addr} {o : Obj}, h.get? a = some o → a ≠ h.objs.size := fun e => Nat.ne_of_lt (Heap.lt_size e)
 unfold itemsOf at hi
 split at hi
 ·rename_i s
  cases hi
  obtain ⟨t, rfl⟩ := hv
  have hval : ∀ i v, i < (s.cps.toList.map fun c => SV.str ⟨#[c]⟩).length → SignAt s i v → ∃ sv, (s.cps.toList.map fun c => SV.str ⟨#[c]⟩)[i]? = some sv ∧ VR g G rs sv v := fun i v _ ⟨c, u, e, ev⟩ => by
   subst ev
   exact ⟨.str ⟨#[c]⟩, by rw [List.getElem?_map, Array.getElem?_toList, e]; rfl, VR.tok_str _ _⟩
  have hlen : (s.cps.toList.map fun c => SV.str ⟨#[c]⟩).length = s.cps.size := by simp
  cases ha : s.cps.all (· < 128)
  ·refine wpAny_pyIter_wide ha (hq _ [h.objs.size] (SignAt s) (fun i h' => h'.IsStrIter h.objs.size "str_iterator" s t i) ⟨?_, fun b hb => .inl (List.mem_singleton.mp hb), hval, fun i h' ⟨o, e, _⟩ => ⟨o, e⟩, fun target i j v s' Q' E' ⟨o, e, ec, _⟩ _ hq' => zb1 e ec (by decide) hq'⟩ ⟨_, Heap.get?_push_size _ rfl, rfl, rfl⟩ ⟨_, Heap.get?_push_size _ rfl⟩)
   rw [hlen]; exact Walks.strWide hh _ s t
  ·refine wpAny_pyIter_ascii ha (hq _ [h.objs.size] (SignAt s) (fun i h' => h'.IsStrIter h.objs.size "str_ascii_iterator" s t i) ⟨?_, fun b hb => .inl (List.mem_singleton.mp hb), hval, fun i h' ⟨o, e, _⟩ => ⟨o, e⟩, fun target i j v s' Q' E' ⟨o, e, ec, _⟩ _ hq' => zb1 e ec (by decide) hq'⟩ ⟨_, Heap.get?_push_size _ rfl, rfl, rfl⟩ ⟨_, Heap.get?_push_size _ rfl⟩)
   rw [hlen]; exact Walks.strAscii hh _ s t
 ·rename_i n
  cases hi
  obtain ⟨n0, n1, a, o, t1, t2, t3, rfl, ho, rfl⟩ := hv
  have e1 : Builtin.Range.rangeSize 0 n 1 = n := by rw [rangeSize_nat]; lia
  have hs : Builtin.Range.small 0 n 1 = true := by
   unfold Builtin.Range.small
   rw [e1]
   simp [Builtin.Range.rangeFitsLong]
   lia
  refine wpAny_pyIter_range (R.sto _ _ ho) hs (hq _ [h.objs.size] (fun i v => ∃ t, v = .int (0 + (i : Int) * 1) t) (fun i h' => IsRangeIter h' h.objs.size (0 + (i : Int) * 1) (((n.toNat : Nat) : Int) - (i : Int)) 1) ⟨?_, fun b hb => .inl (List.mem_singleton.mp hb), ?_, fun i h' e => ⟨_, e⟩, fun target i j v s' Q' E' e _ hq' => zb1 e rfl (by decide) hq'⟩ ?_ ⟨_, Heap.get?_push_size _ rfl⟩)
  ·have := Walks.range (prog := g.prog) (w := g.w) hh h.objs.size 0 1 n.toNat
   simpa using this
  ·rintro i v hi ⟨t, rfl⟩
   have hi' : i < n.toNat := by simpa using hi
   refine ⟨.int (i : Int), ?_, ?_⟩
   ·rw [List.getElem?_map, List.getElem?_range hi']; rfl
   ·have e : (0 + (i : Int) * 1) = i := by lia
    rw [e]; exact VR.tok_int _ _
  ·rw [e1]
   have e2 : ((n.toNat : Nat) : Int) - ((0 : Nat) : Int) = n := by lia
   have e3 : (0 + ((0 : Nat) : Int) * 1) = 0 := by lia
   show IsRangeIter _ _ (0 + ((0 : Nat) : Int) * 1) (((n.toNat : Nat) : Int) - ((0 : Nat) : Int)) 1
   rw [e2, e3]
   exact Heap.get?_push_size _ rfl
 ·rename_i svs
  cases hi
  obtain ⟨a, vs, n, rfl, ho, hvs⟩ := hv
  have e := R.sto _ _ ho
  refine wpAny_pyIter_tuple (za3 e) (hq _ [h.objs.size, a] (fun i v => vs.toArray[i]? = some v) (fun i h' => h'.IsTupleIter h.objs.size a i ∧ h'.IsTuple a vs.toArray) ⟨?_, ?_, fun i v _ hi => ?_, fun i h' ⟨⟨o, e, _⟩, _⟩ => ⟨o, e⟩, fun target i j v s' Q' E' ⟨⟨o, e, ec, _⟩, _⟩ _ hq' => zb1 e ec (by decide) hq'⟩ ⟨⟨_, Heap.get?_push_size _ rfl, rfl, rfl⟩, ⟨_, Heap.get?_push_of_some _ e, rfl, n, rfl⟩⟩ ⟨_, Heap.get?_push_size _ rfl⟩)
  ·rw [← hvs.length, ← List.size_toArray]; exact Walks.tuple hh _ a (hne e) vs.toArray
  ·intro b hb
   simp only [List.mem_cons, List.mem_singleton, List.not_mem_nil, or_false] at hb
   rcases hb with rfl | rfl
   ·exact .inl rfl
   ·exact .inr ⟨_, ho⟩
  ·exact hvs.get' (by simpa using hi)
 ·rename_i svs
  cases hi
  obtain ⟨a, vs, n, rfl, ho, hvs⟩ := hv
  have e := R.sto _ _ ho
  refine wpAny_pyIter_list (zaJ e) (hq _ [h.objs.size, a] (fun i v => vs.toArray[i]? = some v) (fun i h' => h'.IsListIter h.objs.size a i ∧ h'.IsList a vs.toArray) ⟨?_, ?_, fun i v _ hi => ?_, fun i h' ⟨⟨o, e, _⟩, _⟩ => ⟨o, e⟩, fun target i j v s' Q' E' ⟨⟨o, e, ec, _⟩, _⟩ _ hq' => zb1 e ec (by decide) hq'⟩ ⟨⟨_, Heap.get?_push_size _ rfl, rfl, rfl⟩, ⟨_, Heap.get?_push_of_some _ e, rfl, n, rfl⟩⟩ ⟨_, Heap.get?_push_size _ rfl⟩)
  ·rw [← hvs.length, ← List.size_toArray]; exact Walks.list hh _ a (hne e) vs.toArray
  ·intro b hb
   simp only [List.mem_cons, List.mem_singleton, List.not_mem_nil, or_false] at hb
   rcases hb with rfl | rfl
   ·exact .inl rfl
   ·exact .inr ⟨_, ho⟩
  ·exact (hvs.mono Ext.ofNil).get' (by simpa using hi)
 ·cases hi
structure ItG (g : Gl) (A : Around) (G : Sto) (rs : List Addr) (I : Addr) (its : List SV) (kO : Option Nat) (fp : List Addr) (P : Nat → Value → Prop) (St : Nat → Heap → Prop) : Prop where
 w : Walks g.prog g.w A I fp [I] its.length P St
 fp : ∀ b ∈ fp, b = I ∨ (∃ o, G b = some o) ∨ b ∈ rs
 val : ∀ i v, i < its.length → P i v → ∃ sv, its[i]? = some sv ∧ VR g G rs sv v
 live : ∀ i h, St i h → ∃ o, h.get? I = some o
 go : ∀ (target : Expr) i j v (s : Shared) (Q : Unit → Shared → Prop) (E : Value → Shared → Prop), St i s.heap → P j v → Q () s → wpAny (model g.prog g.w) A (letOwnedTupleGo target (.ref I) v) Q E s
 frm : ∀ i h2 h4 G4 rs4, St i h2 → (∀ o, h2.get? I = some o → h4.get? I = some o) → (∀ b o, G b = some o → h2.get? b = some o) → (∀ b o, G b = some o → h4.get? b = some o) → (∀ k a, kO = some k → rs[k]? = some a → CellR g G4 rs4 h4 a (.seq its)) → St i h4
theorem It.gen {A : Around} {I : Addr} {its : List SV} {fp : List Addr} {P : Nat → Value → Prop} {St : Nat → Heap → Prop} (it : It g A G rs I its fp P St) : ItG g A G rs I its none fp P St :=
 ⟨it.w, fun b hb => (it.fp b hb).imp_right .inl, it.val, it.live, it.go, fun i h2 h4 G4 rs4 hs hI h2s h4s _ => it.w.frame i h2 h4 hs fun b hb o e => by
  rcases it.fp b hb with rfl | ⟨o', e'⟩
  ·exact hI o e
  ·have := h2s b o' e'
   rw [e] at this
   cases this
   exact h4s b o e'⟩
noncomputable def flatR : SV → Value → Prop
 | .int i, v => ∃ t, v = .int i t
 | .none, v => v = .none
 | _, _ => False
theorem znW {sv : SV} {v : Value} (h : flatR sv v) : VR g G rs sv v := by
 cases sv with
 | int i => obtain ⟨t, rfl⟩ := h; exact VR.tok_int _ _
 | none => have h' : v = .none := h; subst h'; exact VR.none
 | _ => exact h.elim
theorem zfF : ∀ {its : List SV} {vs : List Value}, flatL its = true → VRl g G rs its vs → its.length = vs.length ∧ ∀ (j : Nat) sv, its[j]? = some sv → ∃ x, vs[j]? = some x ∧ flatR sv x
 | [], vs, _, h => by
  have := h.unnil
  subst this
  exact ⟨rfl, fun j sv e => by simp at e⟩
 | s :: r, vs, hf, h => by
  obtain ⟨w1, t1, rfl, h1, h2⟩ := h.uncons
  unfold flatL at hf
  cases w : flatV s with
  | false => rw [w] at hf; cases hf
  | true =>
   rw [w] at hf
   obtain ⟨a, b⟩ := zfF hf h2
   refine ⟨by simp [a], fun j sv e => ?_⟩
   cases j with
   | zero =>
    simp at e
    subst e
    refine ⟨w1, by simp, ?_⟩
    cases s <;> first | exact h1 | exact ft w
   | succ j => simp at e ⊢; exact b j sv e
theorem zkY (R : Rel g X G rs st h) (hh : X.A.handled = none) {k : Nat} {v : Value} {its : List SV} (hv : VR g G rs (.obj k) v) (hk : st.H[k]? = some (.seq its)) (hf : flatL its = true)
  (hq : ∀ o fp P St, ItG g X.A G rs h.objs.size its (some k) fp P St → St 0 (h.push o) → (∃ o', (h.push o).get? h.objs.size = some o') → Q (.ref h.objs.size) (X.sh (h.push o) tk)) : wpAny (model g.prog g.w) X.A (pyIter v) Q E (X.sh h tk) := by
 have hne : ∀ {a : Addr} {o : Obj}, h.get? a = some o → a ≠ h.objs.size := fun e => Nat.ne_of_lt (Heap.lt_size e)
 obtain ⟨a, hr, rfl⟩ := hv
 obtain ⟨vs0, n0, e0, hvs0⟩ := R.cell k a _ hr hk
 let St : Nat → Heap → Prop := fun i h' => h'.IsListIter h.objs.size a i ∧ ∃ vs : List Value, h'.IsList a vs.toArray ∧ its.length = vs.length ∧ ∀ (j : Nat) sv, its[j]? = some sv → ∃ x, vs[j]? = some x ∧ flatR sv x
 let P : Nat → Value → Prop := fun i v => ∃ sv, its[i]? = some sv ∧ flatR sv v
 refine wpAny_pyIter_list (zaJ e0) (hq _ [h.objs.size, a] P St ⟨⟨?_, ?_, ?_, ?_, ?_⟩, ?_, ?_, ?_, ?_, ?_⟩ ⟨⟨_, Heap.get?_push_size _ rfl, rfl, rfl⟩, vs0, ⟨_, Heap.get?_push_of_some _ e0, rfl, n0, rfl⟩, zfF hf hvs0⟩ ⟨_, Heap.get?_push_size _ rfl⟩)
 ·intro b hb
  simp at hb
  simp [hb]
 ·rintro i h2 h4 ⟨s1, vs, s2, s3⟩ hkp
  exact ⟨s1.at fun o e => hkp _ (by simp) o e, vs, s2.at fun o e => hkp a (by simp) o e, s3⟩
 ·rintro i s Q' E' hi ⟨s1, vs, s2, s3, s4⟩ hQ
  have W := Walks.list (prog := g.prog) (w := g.w) hh h.objs.size a (hne e0) vs.toArray
  refine W.item i s Q' E' (by simp only [List.size_toArray]; lia) ⟨s1, s2⟩ fun v h' tk' hP hS hkp => ?_
  obtain ⟨sv, hsv⟩ : ∃ sv, its[i]? = some sv := ⟨_, List.getElem?_eq_getElem hi⟩
  obtain ⟨x, hx, hx2⟩ := s4 i sv hsv
  have hP' : vs[i]? = some v := by simpa using hP
  rw [hx] at hP'
  cases hP'
  exact hQ _ h' tk' ⟨sv, hsv, hx2⟩ ⟨hS.1, vs, hS.2, s3, s4⟩ hkp
 ·rintro s Q' E' ⟨s1, vs, s2, s3, s4⟩ hQ
  have W := Walks.list (prog := g.prog) (w := g.w) hh h.objs.size a (hne e0) vs.toArray
  exact W.done s Q' E' (by simp only [List.size_toArray]; rw [← s3]; exact ⟨s1, s2⟩) hQ
 ·rintro i s Q' E' ⟨s1, vs, s2, s3, s4⟩ hQ
  exact wpAny_pyIter_listiter s1 hQ
 ·intro b hb
  simp only [List.mem_cons, List.mem_singleton, List.not_mem_nil, or_false] at hb
  rcases hb with rfl | rfl
  ·exact .inl rfl
  ·exact .inr (.inr (List.mem_of_getElem? hr))
 ·rintro i v hi ⟨sv, e, q⟩
  exact ⟨sv, e, znW q⟩
 ·rintro i h' ⟨⟨o, e, _⟩, _⟩
  exact ⟨o, e⟩
 ·rintro target i j v s' Q' E' ⟨⟨o, e, ec, _⟩, _⟩ _ hq'
  exact zb1 e ec (by decide) hq'
 ·rintro i h2 h4 G4 rs4 ⟨s1, _⟩ hI _ _ hc
  obtain ⟨vs, n, e, hvs⟩ := hc k a rfl hr
  exact ⟨s1.at hI, vs, zaJ e, zfF hf hvs⟩
end
end Mine
end
section
open PySem.SeqAt PySem.EqBoolInt
namespace Mine
noncomputable def Sub (a b : SS) : Prop := (∀ y sv, lk a.loc y = some sv → lk b.loc y = some sv) ∧ b.H = a.H
set_option tactic.hygienic true in
theorem zbR {L : Loop} {x : L.σ} {st : SS} (f : Fits L x st) : Sub (L.st x) st := by
 refine ⟨?_, f.2⟩
 have : ∀ (l : List (Str × SV)), Fits.locIn l st.loc → ∀ y sv, lk l y = some sv → lk st.loc y = some sv := by
  intro l
  induction l with
  | nil => intro _ y sv e; cases e
  | cons p r ih =>
   obtain ⟨z, u⟩ := p
   intro ⟨h1, h2⟩ y sv e
   rw [zaR] at e
   split at e
   ·rename_i q; cases e; subst q; exact h1
   ·exact ih h2 y sv e
 exact this _ f.1
section
variable {g : Gl} {S : Sigs g} {T : Tab} {fc : FC} {X : Cx} {G : Sto} {rs : List Addr} {st : SS} {h : Heap} {tk : Nat} {E : Value → Shared → Prop} {r : Bd}
theorem Rel.sub (R : Rel g X G rs st h) {st' : SS} (s : Sub st' st) : Rel g X G rs st' h := by
 have := R.locEq s.1
 rw [s.2] at this
 exact this
theorem zgL : ∀ {l : List (Str × SV)} {y : Str} {sv : SV}, allBV l = true → lk l y = some sv → byVal 2 sv = true
 | [], _, _, _, e => by cases e
 | (z, u) :: r, y, sv, h, e => by
  unfold allBV at h
  cases w : byVal 2 u with
  | false => rw [w] at h; cases h
  | true =>
   rw [w] at h
   rw [zaR] at e
   split at e
   ·cases e; exact w
   ·exact zgL h e
theorem Rel.drop (R : Rel g X G rs st h) {loc : List (Str × SV)} (hl : ∀ y sv, lk loc y = some sv → lk st.loc y = some sv ∧ byVal 2 sv = true) : Rel g X G [] ⟨loc, []⟩ h :=
 { R with
  loc := fun x sv e => by
   obtain ⟨e1, e2⟩ := hl x sv e
   obtain ⟨v, hv, hn⟩ := R.loc x sv e1
   exact ⟨v, byVal_nil e2 hv, hn⟩
  len := rfl
  cell := fun i a so e => by simp at e
  nd := ⟨fun a _ q => by simp at q, List.nodup_nil⟩
  fresh := fun a ha => R.fresh a (by rw [List.mem_append] at ha ⊢; exact .inl (ha.resolve_right (by simp)))
  own := fun a ha => R.own a (by rw [List.mem_append] at ha ⊢; exact .inl (ha.resolve_right (by simp))) }
theorem zk3 {L : Loop} {x : L.σ} {st : SS} (f : Fits.locIn (L.st x).loc st.loc) : ∀ y sv, lk (L.st x).loc y = some sv → lk st.loc y = some sv :=
 (zbR (L := ⟨L.σ, fun z => ⟨(L.st z).loc, st.H⟩, L.P, L.ms, false⟩) (x := x) ⟨f, rfl⟩).1
theorem zbH (V : FOk g S fc X) (R : Rel g X G rs st h) {x : Str} {p : Pos} {sv : SV} {v : Value} {Q : Unit → Shared → Prop} (hl : isLoc fc.sc x = true) (hv : VR g G rs sv v)
  (hq : ∀ h' tk', Rel g X G rs ⟨lset st.loc x sv, st.H⟩ h' → Q () (X.sh h' tk')) : wpAny (model g.prog g.w) X.A (assign (.Name x p) X.env v) Q E (X.sh h tk) :=
 wpAny_assign_Name (R.store V.v (V.store x hl) hv hq)
theorem zgJ (V : FOk g S fc X) (R : Rel g X G rs st h) {target : Expr} {sv : SV} {v : Value} {K : SS → Prop} {Q : Unit → Shared → Prop} (hv : VR g G rs sv v) (hk : bindT fc.sc target sv st K)
  (hq : ∀ st' h' tk', Rel g X G rs st' h' → K st' → Q () (X.sh h' tk')) : wpAny (model g.prog g.w) X.A (assign target X.env v) Q E (X.sh h tk) := by
 unfold bindT at hk
 cases q : nmP target with
 | some x =>
  rw [q] at hk
  obtain rfl := zbJ q
  have c := CK_l hk
  replace hk := CK_r hk
  exact zbH V R c hv fun h' tk' R' => hq _ _ _ R' hk
 | none =>
  rw [q] at hk
  revert hk
  refine OM_e fun ts q1 hk => ?_
  revert hk
  refine OM_e fun xs q2 hk => ?_
  obtain ⟨k, p, rfl⟩ := zhK q1
  clear q q1
  cases sv with
  | tup svs =>
   rcases xs with _ | ⟨x, _ | ⟨y, _ | ⟨_, _⟩⟩⟩ <;> first | exact False.elim hk | skip
   rcases svs with _ | ⟨sv1, _ | ⟨sv2, _ | ⟨_, _⟩⟩⟩ <;> first | exact False.elim hk | skip
   obtain ⟨px, r, rfl, q3⟩ := zc8 q2
   obtain ⟨py, r, rfl, q4⟩ := zc8 q3
   obtain rfl := zf0 q4
   have c := CK_l hk
   replace hk := CK_r hk
   have c2 := zaG c
   have c1 := zaH c
   obtain ⟨a, vs, n, rfl, ha, hvs⟩ := hv
   obtain ⟨w1, t1, rfl, h1, h2⟩ := hvs.uncons
   obtain ⟨w2, t2, rfl, h3, h4⟩ := h2.uncons
   obtain rfl := h4.unnil
   refine wpAny_assign_Tuple V.hh (za3 (R.sto _ _ ha)) rfl rfl fun h' hx => ?_
   have R1 : Rel g X G rs st h' := R.keeps fun b o e => hx b o (Nat.ne_of_lt (Heap.lt_size e)) e
   refine wpAny_assignInOrder_more (zbH V R1 c1 h1 fun h2' tk2 R2 => ?_)
   refine wpAny_assignInOrder_more (zbH V R2 c2 h3 fun h3' tk3 R3 => ?_)
   exact wpAny_assignInOrder_none (hq _ _ _ R3 hk)
  | _ => exact False.elim hk
theorem zdW {iter : Expr} (hs : noSet [iter] = true) (env : Env) : ∀ x, foldedSetIterable iter env x = pure x := by
 intro x
 cases iter <;> first | rfl | exact ft hs
inductive ForI (g : Gl) (X : Cx) (G : Sto) (rs : List Addr) (I : Addr) (n : Nat) (St : Nat → Heap → Prop) (J : Nat → SS → Prop) (k : Nat) (s : Shared) : Prop
 | mk (i : Nat) (G' : Sto) (rs' : List Addr) (st' : SS) (h' : Heap) (tk' : Nat) (hi : i ≤ n) (ek : k = n - i) (es : s = X.sh h' tk') (x : Ext G rs G' rs') (R : Rel g X G' rs' st' h') (ap : Apart X G' rs' I) (hS : St i h') (hJ : J i st')
theorem ziN (hx : ExOk S r) (V : FOk g S fc X) (hE : fc.Er → ∀ x s', S.Sg X x s' → E x s') {target : Expr} {body : List Stmt} {its : List SV} {I : Addr} {fp : List Addr} {P : Nat → Value → Prop} {St : Nat → Heap → Prop} {K : Out → SS → Prop} {Q : Flow → Shared → Prop}
  (J Nx : Nat → SS → Prop) (step : ∀ i sv st', its[i]? = some sv → J i st' → bindT fc.sc target sv st' fun st2 => exs r fc body st2 fun o st3 => match o with
   | .next => Nx i st3
   | .cont => Nx i st3
   | .brk => K .next st3
   | .ret v => K (.ret v) st3) (hN : ∀ i st3 G' rs' h', Nx i st3 → Ext G rs G' rs' → Rel g X G' rs' st3 h' → ∃ st4 rs4, Ext G rs G' rs4 ∧ Rel g X G' rs4 st4 h' ∧ (∀ a ∈ rs4, a ∈ rs') ∧ J (i + 1) st4) (fin : ∀ st', J its.length st' → K .next st')
  (it : It g X.A G rs I its fp P St) (R : Rel g X G rs st h) (hI : Apart X G rs I) (hS : St 0 h) (hJ : J 0 st) (F : FinO g X G rs K Q) :
  codeAny (model g.prog g.w) X.A (.forLoop target (.ref I) body [] X.env) (fun r s' => match r with | .ok f => Q f s' | .error e => cameBackBy (model g.prog g.w) X.A X.env E e s') (X.sh h tk) := by
 refine codeAny_forLoop_any (ForI g X G rs I its.length St J) ?_ its.length
  ⟨0, G, rs, st, h, tk, Nat.zero_le _, rfl, rfl, Ext.refl, R, hI, hS, hJ⟩
 rintro k s ⟨i, G', rs', st', h', tk', hi, rfl, rfl, x, R', ap, hSt, hJ'⟩
 have hwr : ∀ b ∈ [I], ∀ a, a = b → a = I := fun b hb a e => by rw [e, List.mem_singleton.mp hb]
 by_cases hlt : i < its.length
 ·refine it.w.item i _ _ _ hlt hSt fun v h2 tk2 hP hSt2 hk2 => ?_
  have R2 : Rel g X G' rs' st' h2 := R'.touch (· = I) (fun a q => by rw [q]; exact ap) fun b o hb e => hk2 b o (fun q => hb (List.mem_singleton.mp q)) e
  have V2 := V.now G' rs' h2
  have Rn := R2.now
  have hE2 : fc.Er → ∀ e s', S.Sg (X.now G' rs' h2) e s' → notedBy (model g.prog g.w) X.A X.env (cameBackBy (model g.prog g.w) X.A X.env E) e s' := fun hEr e s' hs => S.own (V.fr (.inl hEr)) (hE hEr) e s' (S.now R2 hs)
  refine it.go target _ _ _ _ _ _ hSt2 hP ?_
  obtain ⟨sv, hsv, hvr⟩ := it.val i v hlt hP
  refine zgJ (X := X.now G' rs' h2) V2 Rn (hvr.mono x) (step i sv st' hsv hJ') fun st3 h3 tk3 R3 hk3 => ?_
  refine zcS (X := X.now G' rs' h2) hx V2 hE2 R3 hk3 fun G4 rs4 st4 o f h4 tk4 x4 R4 hf hk4 => ?_
  have R4' : Rel g X G4 rs4 st4 h4 := R2.unnow R4 x4
  obtain ⟨oI, hoI⟩ := it.live _ _ hSt2
  obtain ⟨ap4, hI4⟩ := Rel.strange R4 ap R'.wfa hoI
  have next : Nx i st4 → ∃ m, m < its.length - i ∧ ForI g X G rs I its.length St J m (X.sh h4 tk4) := fun hn => by
   obtain ⟨st5, rs5, x5, R5, hs5, hJ5⟩ := hN i st4 G4 rs4 h4 hn (x.trans x4) R4'
   refine ⟨its.length - (i + 1), by lia, i + 1, G4, rs5, st5, h4, tk4, hlt, rfl, rfl, x5, R5, ⟨fun q => ap4.n1 (by rw [List.mem_append] at q ⊢; exact q.imp_right (hs5 _)), ap4.n2, ap4.n3, ap4.n4⟩, ?_, hJ5⟩
   refine it.w.frame _ _ _ hSt2 fun b hb o e => ?_
   rcases it.fp b hb with rfl | ⟨o', e'⟩
   ·rw [hoI] at e; cases e; exact hI4
   ·have e2 := R2.sto b o' (x.g _ _ e')
    rw [e] at e2; cases e2
    exact R4.sto b o (x4.g _ _ (x.g _ _ e'))
  cases o with
  | next => obtain rfl := show _ = _ from hf; exact next hk4
  | cont => obtain rfl := show _ = _ from hf; exact next hk4
  | brk => obtain rfl := show _ = _ from hf; exact F _ _ _ .next _ _ _ (x.trans x4) R4' rfl hk4
  | ret sv =>
   obtain ⟨u, rfl, hu⟩ := hf
   exact F _ _ _ (.ret sv) _ _ _ (x.trans x4) R4' ⟨u, rfl, hu⟩ hk4
 ·have e : i = its.length := by lia
  subst e
  refine it.w.done _ _ _ hSt fun h2 tk2 hk2 => ?_
  have R2 : Rel g X G' rs' st' h2 := R'.touch (· = I) (fun a q => by rw [q]; exact ap) fun b o hb e => hk2 b o (fun q => hb (List.mem_singleton.mp q)) e
  exact wpAny_execs_nil (F _ _ _ .next _ _ _ x R2 rfl (fin _ hJ'))
end
end Mine
end
section
open PySem.SeqAt PySem.EqBoolInt
namespace Mine
section
variable {prog : Program} {w : World} {A : Around} {E : Value → Shared → Prop} {R : Result → Shared → Prop} {s : Shared}
theorem zlI {elt target iter : Expr} {ifs : List Expr} {scope : Scope} {pos : Pos} {it acc : Value} {env : Env} (I : Nat → Shared → Prop)
  (turn : ∀ n s, I n s → wpAny (model prog w) A (pyNext it) (fun r s₁ => match r with
   | none => R (.ok .next) s₁
   | some v => wpAny (model prog w) A (letOwnedTupleGo target it v) (fun _ s₁' => wpAny (model prog w) A (assign target env v) (fun _ s₂ =>
     wpAny (model prog w) A (forIn ifs true fun c r => if r = true then do let ok ← PySem.isTrue c env (eval c env); pure (ForInStep.yield ok) else pure (ForInStep.yield r)) (fun ok s₃ =>
      if ok = true then wpAny (model prog w) A (eval elt env) (fun x s₄ =>
       wpAny (model prog w) A (call (.builtin "list.append") [acc, x]) (fun _ s₅ => ∃ m, m < n ∧ I m s₅) (notedBy (model prog w) A env fun e s' => R (.error e) s') s₄) (notedBy (model prog w) A env fun e s' => R (.error e) s') s₃
      else ∃ m, m < n ∧ I m s₃) (notedBy (model prog w) A env fun e s' => R (.error e) s') s₂) (notedBy (model prog w) A env fun e s' => R (.error e) s') s₁') (notedBy (model prog w) A env fun e s' => R (.error e) s') s₁) (notedBy (model prog w) A env fun e s' => R (.error e) s') s)
  (n : Nat) (h : I n s) :
  codeAny (model prog w) A (.compLoop (.ListComp elt [⟨target, iter, ifs, 0⟩] scope pos) 0 it acc env) R s := by
 refine codeAny_loop rfl I (fun n s hI => ?_) n h
 show wpAny _ A ((compTurn (.ListComp elt [⟨target, iter, ifs, 0⟩] scope pos) 0 it acc env).onRaise (fun x => do noteFrame x env; theTreesLotGoes x)) _ _ s
 refine wpAny_noted ?_
 rw [compTurn_list]
 refine wpAny_bind (wpAny_standAt (wpAny_bind (wpAny_mono (turn n s hI) (fun r s₁ h₁ => ?_) fun _ _ h' => h')))
 cases r with
 | none => exact wpAny_pure h₁
 | some v =>
  refine wpAny_bind (wpAny_mono h₁ (fun _ s₁' h₁' => ?_) fun _ _ h' => h')
  refine wpAny_bind (wpAny_mono h₁' (fun _ s₂ h₂ => wpAny_bind (wpAny_mono h₂ (fun ok s₃ h₃ => ?_) fun _ _ h' => h')) fun _ _ h' => h')
  cases ok with
  | false => exact wpAny_pure ⟨rfl, h₃⟩
  | true =>
   exact wpAny_bind (wpAny_bind (wpAny_mono h₃ (fun x s₄ h₄ => wpAny_bind (wpAny_mono h₄ (fun _ s₅ h₅ => wpAny_pure (wpAny_pure ⟨rfl, h₅⟩)) fun _ _ h' => h')) fun _ _ h' => h'))
end
noncomputable def closL (env : Env) : List (Str × NameKind) → List (Str × Addr) → List (Str × Addr)
 | [], acc => acc
 | (n, k) :: r, acc => if k == .free then closL env r ((n, (env.cells.lookup n).getD 0) :: acc) else closL env r acc
theorem zeD {env : Env} : ∀ (l : List (Str × NameKind)) (acc : List (Str × Addr)), (∀ x ∈ l, x.2 = .free → ∃ c, env.cells.lookup x.1 = some c) →
  (forIn l acc (fun (x : Str × NameKind) (cs : List (Str × Addr)) => (if x.2 == .free then do let a ← cellOf env x.1; pure (.yield ((x.1, a) :: cs)) else pure (.yield cs) : Sem (ForInStep (List (Str × Addr)))))) = pure (closL env l acc)
 | [], acc, _ => rfl
 | (n, k) :: r, acc, h => by
  have hr := fun x hx => h x (List.mem_cons_of_mem _ hx)
  rw [List.forIn_cons]
  unfold closL
  by_cases hk : (k == NameKind.free) = true
  ·obtain ⟨c, hc⟩ := h (n, k) List.mem_cons_self (by simpa using hk)
   have e : cellOf env n = pure c := by
    unfold cellOf
    have hc' : env.cells.lookup n = some c := hc
    rw [hc']
   simp only [hk, if_true, e, hc, Option.getD_some]
   exact zeD r _ hr
  ·simp only [hk]
   exact zeD r _ hr
set_option tactic.hygienic true in
theorem zc0 {env : Env} : ∀ (l : List (Str × NameKind)) (acc : List (Str × Addr)), (∀ x ∈ l, x.2 = .free → ∃ c, env.cells.lookup x.1 = some c) → (∀ p ∈ acc, env.cells.lookup p.1 = some p.2) → ∀ p ∈ closL env l acc, env.cells.lookup p.1 = some p.2
 | [], acc, _, ha => ha
 | (n, k) :: r, acc, h, ha => by
  have hr := fun x hx => h x (List.mem_cons_of_mem _ hx)
  unfold closL
  split
  ·rename_i hk
   obtain ⟨c, hc⟩ := h (n, k) List.mem_cons_self (by simpa using hk)
   have hc' : env.cells.lookup n = some c := hc
   refine zc0 r _ hr fun p hp => ?_
   rcases List.mem_cons.mp hp with rfl | hp
   ·show env.cells.lookup n = some ((env.cells.lookup n).getD 0)
    rw [hc']; rfl
   ·exact ha p hp
  ·exact zc0 r _ hr ha
set_option tactic.hygienic true in
theorem zcP {env : Env} {x : Str} : ∀ (l : List (Str × NameKind)) (acc : List (Str × Addr)), ((x, NameKind.free) ∈ l ∨ (acc.lookup x).isSome = true) → ((closL env l acc).lookup x).isSome = true
 | [], acc, h => by
  rcases h with h | h
  ·cases h
  ·exact h
 | (n, k) :: r, acc, h => by
  unfold closL
  split
  ·rename_i hk
   refine zcP r _ ?_
   by_cases e : x = n
   ·right; rw [List.lookup_cons, e]; simp
   ·rcases h with h | h
    ·rcases List.mem_cons.mp h with q | q
     ·cases q; exact absurd rfl e
     ·exact .inl q
    ·right
     rw [List.lookup_cons]
     have : (x == n) = false := beq_eq_false_iff_ne.mpr e
     rw [this]; exact h
  ·rename_i hk
   refine zcP r _ ?_
   rcases h with h | h
   ·rcases List.mem_cons.mp h with q | q
    ·cases q; simp at hk
    ·exact .inl q
   ·exact .inr h
set_option tactic.hygienic true in
theorem zb5 {env : Env} : ∀ {names : List (Str × NameKind)} {x : Str},
  (names.map fun (n, k) => if (k == NameKind.free && env.scope.kind == .function && env.kindOf n == some .cell) then (n, NameKind.cell) else (n, k)).lookup x = (names.lookup x).map fun k => if (k == NameKind.free && env.scope.kind == .function && env.kindOf x == some .cell) then .cell else k
 | [], x => rfl
 | (n, k) :: r, x => by
  have ih := @zb5 env r x
  rw [List.lookup_cons]
  show List.lookup x ((if (k == NameKind.free && env.scope.kind == .function && env.kindOf n == some .cell) = true then (n, NameKind.cell) else (n, k)) :: _) = _
  by_cases e : x = n
  ·subst e
   have hb : (x == x) = true := by simp
   rw [hb]
   split
   ·rename_i hc; rw [List.lookup_cons, hb]; simp only [Option.map_some, hc, if_true]
   ·rename_i hc; rw [List.lookup_cons, hb]; simp only [Option.map_some, hc]; rfl
  ·have hb : (x == n) = false := beq_eq_false_iff_ne.mpr e
   rw [hb]
   split <;> (rw [List.lookup_cons, hb]; exact ih)
theorem zbD {sc : Scope} {cl : List (Str × Addr)} {L : Addr} {env : Env} {x : Str} : (compEnvC sc cl L env).kindOf x = (sc.names.lookup x).map fun k => if (k == NameKind.free && env.scope.kind == .function && env.kindOf x == some .cell) then .cell else k := zb5
theorem zbK {out sc : Scope} (h : compOk out sc = true) : sc.kind = .function ∧ noDup sc.names = true ∧ okNames (fun x k => match k with
 | .local => true
 | .globalImplicit => true
 | .free => (match lk out.names x with | some .cell => true | _ => false)
 | _ => false) sc.names = true := by
 unfold compOk at h
 have h2 := zaG h
 have h1 := zaH h
 have h3 := zaG h2
 have h2 := zaH h2
 refine ⟨?_, h2, h3⟩
 cases hk : sc.kind <;> rw [hk] at h1 <;> first | rfl | cases h1
set_option tactic.hygienic true in
theorem za2 : ∀ {l : List (Str × NameKind)}, noDup l = true → ∀ {x k}, (x, k) ∈ l → l.lookup x = some k
 | [], _, x, k, h => by cases h
 | (y, k0) :: r, h, x, k, hm => by
  unfold noDup at h
  split at h
  ·cases h
  ·rename_i q
   rw [List.lookup_cons]
   rcases List.mem_cons.mp hm with e | e
   ·cases e; simp
   ·have ih := za2 h e
    have hne : x ≠ y := fun z => by rw [zbP, ← z, ih] at q; cases q
    rw [beq_eq_false_iff_ne.mpr hne]
    exact ih
section
variable {g : Gl} {S : Sigs g} {T : Tab} {fc : FC} {X : Cx} {G : Sto} {rs : List Addr} {st : SS} {h : Heap} {tk : Nat} {E : Value → Shared → Prop} {r : Bd}
set_option tactic.hygienic true in
theorem zcO (V : FOk g S fc X) {sc : Scope} (hc : compOk fc.sc sc = true) : (∀ x ∈ sc.names, x.2 = .free → ∃ c, X.env.cells.lookup x.1 = some c ∧ X.env.kindOf x.1 = some .cell) ∧ closureFor sc X.env = pure (closL X.env sc.names []) := by
 obtain ⟨h1, h2, h3⟩ := zbK hc
 have key : ∀ x ∈ sc.names, x.2 = .free → ∃ c, X.env.cells.lookup x.1 = some c ∧ X.env.kindOf x.1 = some .cell := fun x hx hf => by
  obtain ⟨n, k⟩ := x
  dsimp only at hf
  subst hf
  have hl := za2 h2 hx
  have hp := (za0 h3 hl).2
  dsimp only at hp
  split at hp
  ·rename_i q
   obtain ⟨k1, c, hc⟩ := V.cel n q
   exact ⟨c, hc, k1⟩
  ·cases hp
 refine ⟨key, ?_⟩
 unfold closureFor
 have := zeD (env := X.env) sc.names [] fun x hx hf => let ⟨c, a, _⟩ := key x hx hf; ⟨c, a⟩
 simp only [this]
 rfl
set_option tactic.hygienic true in
theorem zdD {sc : Scope} : ∀ {l : List (Str × SV)} {x : Str} {sv : SV}, lk (locOut fc sc l) x = some sv → lk sc.names x = some .free ∧ lk fc.sc.names x = some .cell ∧ lk l x = some sv
 | [], x, sv, e => by cases e
 | (y, v) :: l, x, sv, e => by
  unfold locOut at e
  have drop : lk (locOut fc sc l) x = some sv → (y = x → ¬ (lk sc.names x = some .free ∧ lk fc.sc.names x = some .cell)) → lk sc.names x = some .free ∧ lk fc.sc.names x = some .cell ∧ lk ((y, v) :: l) x = some sv := fun e hn => by
   obtain ⟨a, b, c⟩ := zdD e
   refine ⟨a, b, ?_⟩
   rw [zaR, if_neg fun q => hn q ⟨a, b⟩]
   exact c
  split at e
  ·rename_i q1
   split at e
   ·rename_i q2
    rw [zaR] at e ⊢
    by_cases q : y = x
    ·rw [if_pos q] at e ⊢
     subst q
     exact ⟨q1, q2, e⟩
    ·rw [if_neg q] at e ⊢
     exact zdD e
   ·rename_i q2
    refine drop e fun q z => ?_
    subst q
    exact q2 z.2
  ·rename_i q1
   refine drop e fun q z => ?_
   subst q
   exact q1 z.1
theorem Rel.mkListX {K : SV → SS → Prop} (R : Rel g X G rs st h) {a : Addr} {vs : List Value} {svs : List SV} {n line : Nat} (ea : h.get? a = some (lstO vs n)) (ap : Apart X G rs a) (hv : VRl g G rs svs vs)
  (hk : Mine.mkList T line svs st K) : ∃ G2 rs2 st2 sv, Ext G rs G2 rs2 ∧ Rel g X G2 rs2 st2 h ∧ VR g G2 rs2 sv (.ref a) ∧ K sv st2 ∧ ∀ b, b ≠ a → Apart X G rs b → Apart X G2 rs2 b := by
 unfold Mine.mkList at hk
 split at hk
 ·obtain ⟨x, R2⟩ := R.newCell (so := .seq svs) ⟨vs, n, ea, hv.mono ⟨fun _ _ e => e, [a], rfl⟩⟩ ap.n1 ap.n2 ap.n3
  refine ⟨_, _, _, _, x, R2, ?_, hk, fun b hb A => ⟨fun q => ?_, A.n2, A.n3, A.n4⟩⟩
  ·refine ⟨a, ?_, rfl⟩
   rw [← R.len, List.getElem?_append_right (Nat.le_refl _), Nat.sub_self]
   rfl
  ·rw [← List.append_assoc] at q
   rcases List.mem_append.mp q with q | q
   ·exact A.n1 q
   ·exact hb (List.mem_singleton.mp q)
 ·have c := CK_l hk
  replace hk := CK_r hk
  refine ⟨_, _, _, _, zbB ap.n2, R.addG ea ap.n1 ap.n2 ap.n3, ?_, hk, fun b hb A => ⟨A.n1, ?_, A.n3, A.n4⟩⟩
  ·exact ⟨a, vs, n, rfl, za8 _ _ _, (allV_nil c hv).mono (zbB (rs := rs) ap.n2).nil⟩
  ·unfold Mine.addG
   rw [if_neg hb]; exact A.n2
theorem Rel.mkListA {Q : Value → Shared → Prop} {K : SV → SS → Prop} (R : Rel g X G rs st h) {a : Addr} {vs : List Value} {svs : List SV} {n line : Nat} (ea : h.get? a = some (lstO vs n)) (ap : Apart X G rs a) (hv : VRl g G rs svs vs)
  (hk : Mine.mkList T line svs st K) (F : Fin g X G rs K Q) (tk : Nat) : Q (.ref a) (X.sh h tk) := by
 unfold Mine.mkList at hk
 split at hk
 ·obtain ⟨x, R2⟩ := R.newCell (so := .seq svs) ⟨vs, n, ea, hv.mono ⟨fun _ _ e => e, [a], rfl⟩⟩ ap.n1 ap.n2 ap.n3
  refine F _ _ _ _ _ _ tk x R2 ?_ hk
  refine ⟨a, ?_, rfl⟩
  rw [← R.len, List.getElem?_append_right (Nat.le_refl _), Nat.sub_self]
  rfl
 ·have c := CK_l hk
  replace hk := CK_r hk
  refine F _ _ _ _ _ _ tk (zbB ap.n2) (R.addG ea ap.n1 ap.n2 ap.n3) ?_ hk
  exact ⟨a, vs, n, rfl, za8 _ _ _, (allV_nil c hv).mono (zbB (rs := rs) ap.n2).nil⟩
theorem zl0 (ht : TsOk S r) (V : FOk g S fc X) (hE : fc.Er → ∀ x s', S.Sg X x s' → E x s') : ∀ {es : List Expr} {G : Sto} {rs : List Addr} {st : SS} {h : Heap} {tk : Nat} {K : Bool → SS → Prop} {Q : Bool → Shared → Prop}, Rel g X G rs st h → ifsS r fc es st K → FinB g X G rs K Q →
  wpAny (model g.prog g.w) X.A (forIn es true fun c r => if r = true then do let ok ← PySem.isTrue c X.env (eval c X.env); pure (ForInStep.yield ok) else pure (ForInStep.yield r)) Q E (X.sh h tk)
 | [], G, rs, st, h, tk, K, Q, R, hk, F => by
  rw [List.forIn_nil]
  exact wpAny_pure (F _ _ _ _ _ _ Ext.refl R hk)
 | e :: es, G, rs, st, h, tk, K, Q, R, hk, F => by
  unfold ifsS at hk
  rw [List.forIn_cons]
  simp only [if_true]
  refine wpAny_bind (wpAny_bind (ht V hE R hk fun G' rs' st' c h' tk' x R' hk' => wpAny_pure ?_))
  have k1 := BR_l hk'
  have k2 := BR_r hk'
  cases c with
  | true => exact zl0 ht V hE R' (k1 rfl) (F.ext x)
  | false =>
   have all : ∀ es : List Expr, (forIn es false fun c r => if r = true then do let ok ← PySem.isTrue c X.env (eval c X.env); pure (ForInStep.yield ok) else pure (ForInStep.yield r) : Sem Bool) = pure false := fun es => by
    induction es with
    | nil => rfl
    | cons a r ih => rw [List.forIn_cons]; simp only [Bool.false_eq_true, if_false]; exact ih
   show wpAny _ _ (forIn es false _) _ _ _
   rw [all]
   exact wpAny_pure (F _ _ _ _ _ _ x R' (k2 rfl))
end
end Mine
end
section
open PySem.SeqAt PySem.EqBoolInt
namespace Mine
section
variable {g : Gl} {S : Sigs g} {T : Tab} {fc : FC} {X C : Cx} {G G' : Sto} {rs rs' : List Addr} {st : SS} {h h' : Heap} {tk : Nat} {E : Value → Shared → Prop} {r : Bd}
theorem Rel.reloc {l l' : List (Str × SV)} {H H' : List SO} (R : Rel g C G rs ⟨l, H⟩ h) (R' : Rel g (C.now G rs h) G' rs' ⟨l', H'⟩ h') (x : Ext G rs G' rs') (hl : ∀ y sv, lk l y = some sv → C.env.kindOf y ≠ some .local) (hc : ∀ p ∈ C.env.cells, p.2 ∉ C.wr) :
  Rel g (C.now G rs h) G' rs' ⟨l, H'⟩ h' := by
 refine ⟨R'.sto, R'.base, R'.ns, R'.cels, fun y sv e => ?_, R'.len, R'.cell, R'.nd, R'.fresh, R'.own, R'.wfa, R'.ownl, R'.old, R'.olds, R'.fo, R'.lc, R'.gnew⟩
 obtain ⟨v, p, q⟩ := R.loc y sv e
 refine ⟨v, p.mono x, ?_⟩
 rcases q with ⟨k1, _⟩ | ⟨k1, c, c1, o, c2, c3⟩
 ·exact absurd k1 (hl y sv e)
 ·have hm : (y, c) ∈ C.env.cells := mem_of_lookup c1
  refine .inr ⟨k1, c, c1, o, R'.old c o c2 (fun z => ?_) fun z => ?_, c3⟩
  ·rcases List.mem_append.mp z with z | z
   ·exact hc _ hm z
   ·exact R.nd.1 c (Cx.fa_cell hm) z
  ·rcases List.mem_cons.mp z with z | z
   ·exact R.lc (by rw [← show c = C.env.locals from z]; exact List.mem_map.mpr ⟨(y, c), hm, rfl⟩)
   ·exact (R.fo _ z).1 (List.mem_cons_of_mem _ (List.mem_map.mpr ⟨(y, c), hm, rfl⟩))
inductive CompI (g : Gl) (C : Cx) (G : Sto) (rs : List Addr) (lc : List (Str × SV)) (I D : Addr) (m : Nat) (St : Nat → Heap → Prop) (J : Nat → List SV → List SO → Prop) (k : Nat) (s : Shared) : Prop
 | mk (i : Nat) (G' : Sto) (rs' : List Addr) (H' : List SO) (h' : Heap) (tk' : Nat) (acc : List SV) (vs : List Value) (n : Nat) (hi : i ≤ m) (ek : k = m - i) (es : s = C.sh h' tk') (x : Ext G rs G' rs') (R : Rel g C G' rs' ⟨lc, H'⟩ h') (aI : Apart C G' rs' I) (aD : Apart C G' rs' D) (hD : h'.get? D = some (lstO vs n)) (hv : VRl g G' rs' acc vs) (hl : vs.length ≤ i) (hS : St i h') (hJ : J i acc H')
theorem zi5 (hr : EvOk S r) (ht : TsOk S r) {sc0 : FC} (V : FOk g S fc C) (hEr : ¬ fc.Er) {target elt iter : Expr} {ifs : List Expr} {sc : Scope} {pos : Pos} {its : List SV} {I D : Addr} {fp : List Addr} {P : Nat → Value → Prop} {St : Nat → Heap → Prop} {Rr : Result → Shared → Prop}
  {lc : List (Str × SV)} {H : List SO} (hl : ∀ y sv, lk lc y = some sv → C.env.kindOf y ≠ some .local) (hc : ∀ p ∈ C.env.cells, p.2 ∉ C.wr)
  (J : Nat → List SV → List SO → Prop) (Nx : Nat → List SV → Option SV → List SO → Prop)
  (step : ∀ i sv acc H, its[i]? = some sv → J i acc H → bindT fc.sc target sv ⟨lc, H⟩ fun st1 => ifsS r fc ifs st1 fun b st2 => BR b (r.ev fc elt st2 fun u st3 => Nx i acc (some u) st3.H) (Nx i acc none st2.H))
  (hN : ∀ i acc u H, Nx i acc u H → J (i + 1) (match u with | some u => acc ++ [u] | none => acc) H)
  {kO : Option Nat} (hkp : ∀ i acc u H, Nx i acc u H → ∀ k, kO = some k → H[k]? = some (.seq its)) (it : ItG g C.A G rs I its kO fp P St) (hlen : its.length ≤ 100000) (R : Rel g C G rs ⟨lc, H⟩ h) (hI : Apart C G rs I) (hD : Apart C G rs D) (hID : I ≠ D) (hDf : D ∉ fp) (hd : h.get? D = some (lstO [] 0)) (hS : St 0 h) (hJ : J 0 [] H)
  (fin : ∀ G' rs' H' h' tk' acc vs n, Ext G rs G' rs' → Rel g C G' rs' ⟨lc, H'⟩ h' → Apart C G' rs' D → h'.get? D = some (lstO vs n) → VRl g G' rs' acc vs → J its.length acc H' → Rr (.ok .next) (C.sh h' tk')) :
  codeAny (model g.prog g.w) C.A (.compLoop (.ListComp elt [⟨target, iter, ifs, 0⟩] sc pos) 0 (.ref I) (.ref D) C.env) Rr (C.sh h tk) := by
 refine zlI (CompI g C G rs lc I D its.length St J) ?_ its.length
  ⟨0, G, rs, H, h, tk, [], [], 0, Nat.zero_le _, rfl, rfl, Ext.refl, R, hI, hD, hd, VRl.nil, Nat.le_refl _, hS, hJ⟩
 rintro k s ⟨i, G', rs', H', h', tk', acc, vs, n, hi, rfl, rfl, x, R', apI, apD, hD', hvs, hvl, hSt, hJ'⟩
 by_cases hlt : i < its.length
 ·refine it.w.item i _ _ _ hlt hSt fun v h2 tk2 hP hSt2 hk2 => ?_
  have hk2' : ∀ b o, ¬ b = I → h'.get? b = some o → h2.get? b = some o := fun b o hb e => hk2 b o (fun q => hb (List.mem_singleton.mp q)) e
  have R2 : Rel g C G' rs' ⟨lc, H'⟩ h2 := R'.touch (· = I) (fun a q => by rw [q]; exact apI) hk2'
  have hD2 : h2.get? D = some (lstO vs n) := hk2' _ _ (fun q => hID q.symm) hD'
  obtain ⟨oI, hoI⟩ := it.live _ _ hSt2
  have V2 := V.now G' rs' h2
  have Rn := R2.now
  refine it.go target _ _ _ _ _ _ hSt2 hP ?_
  obtain ⟨sv, hsv, hvr⟩ := it.val i v hlt hP
  have stay : ∀ {G4 : Sto} {rs4 : List Addr} {st4 : SS} {h4 : Heap}, Ext G' rs' G4 rs4 → Rel g (C.now G' rs' h2) G4 rs4 st4 h4 → (∀ k, kO = some k → st4.H[k]? = some (.seq its)) → Rel g C G4 rs4 ⟨lc, st4.H⟩ h4 ∧ Apart C G4 rs4 I ∧ Apart C G4 rs4 D ∧ h4.get? D = some (lstO vs n) ∧ St (i + 1) h4 := fun {G4 rs4 st4 h4} x4 R4 hkq => by
   obtain ⟨a1, a2⟩ := Rel.strange R4 apI R'.wfa hoI
   obtain ⟨b1, b2⟩ := Rel.strange R4 apD R'.wfa hD2
   refine ⟨R2.unnow (Rel.reloc R2 R4 x4 hl hc) x4, a1, b1, b2, ?_⟩
   refine it.frm _ h2 h4 G4 rs4 hSt2 (fun o e => by rw [hoI] at e; cases e; exact a2) (fun b o e => R2.sto b o (x.g _ _ e)) (fun b o e => R4.sto b o (x4.g _ _ (x.g _ _ e))) fun k a hk hr => ?_
   refine R4.cell k a _ ?_ (hkq k hk)
   obtain ⟨m1, e1⟩ := x.r
   obtain ⟨m2, e2⟩ := x4.r
   rw [e2, e1, List.append_assoc, List.getElem?_append_left (List.getElem?_eq_some_iff.mp hr).1, hr]
  refine zgJ (X := C.now G' rs' h2) V2 Rn (hvr.mono x) (step i sv acc H' hsv hJ') fun st3 h3 tk3 R3 hk3 => ?_
  refine zl0 (X := C.now G' rs' h2) ht V2 (fun q => (hEr q).elim) R3 hk3 fun G4 rs4 st4 b h4 tk4 x4 R4 hk4 => ?_
  have k1 := BR_l hk4
  have k2 := BR_r hk4
  cases b with
  | true =>
   simp only [if_true]
   refine hr (X := C.now G' rs' h2) V2 (fun q => (hEr q).elim) R4 (k1 rfl) fun G5 rs5 st5 su u h5 tk5 x5 R5 hu hk5 => ?_
   obtain ⟨R6, aI, aD, hD6, hS6⟩ := stay (x4.trans x5) R5 (hkp _ _ _ _ hk5)
   have hsz : vs.length ≤ 100000 := by lia
   refine append_at (s := C.sh h5 tk5) (its := vs.toArray) hD6 (fun h7 hs7 ho7 => ?_) (zaX (by simp; lia))
   have e7 : vs.toArray.push u = (vs ++ [u]).toArray := by simp
   rw [e7] at ho7
   have hs7' : ∀ b o, ¬ b = D → h5.get? b = some o → h7.get? b = some o := fun b o hb e => (hs7.2 b hb).trans e
   have R7 : Rel g C G5 rs5 ⟨lc, st5.H⟩ h7 := R6.touch (· = D) (fun a q => by rw [q]; exact aD) hs7'
   refine ⟨its.length - (i + 1), by lia, i + 1, G5, rs5, st5.H, h7, _, acc ++ [su], vs ++ [u], n + 1, hlt, rfl, rfl, (x.trans x4).trans x5, R7, aI, aD, ho7, (hvs.mono (x4.trans x5)).append (VRl.one hu), by simp; lia, ?_, hN i acc (some su) _ hk5⟩
   exact it.w.frame _ _ _ hS6 fun b hb o e => hs7' b o (fun q => hDf (by rw [← q]; exact hb)) e
  | false =>
   obtain ⟨R6, aI, aD, hD6, hS6⟩ := stay x4 R4 (hkp _ _ _ _ (k2 rfl))
   exact ⟨its.length - (i + 1), by lia, i + 1, G4, rs4, st4.H, h4, tk4, acc, vs, n, hlt, rfl, rfl, x.trans x4, R6, aI, aD, hD6, hvs.mono x4, by lia, hS6, hN i acc none _ (k2 rfl)⟩
 ·have e : i = its.length := by lia
  subst e
  refine it.w.done _ _ _ hSt fun h2 tk2 hk2 => ?_
  have hk2' : ∀ b o, ¬ b = I → h'.get? b = some o → h2.get? b = some o := fun b o hb e => hk2 b o (fun q => hb (List.mem_singleton.mp q)) e
  have R2 : Rel g C G' rs' ⟨lc, H'⟩ h2 := R'.touch (· = I) (fun a q => by rw [q]; exact apI) hk2'
  exact fin _ _ _ _ _ _ _ _ x R2 apD (hk2' _ _ (fun q => hID q.symm) hD') hvs hJ'
end
end Mine
end
section
open PySem.SeqAt PySem.EqBoolInt
namespace Mine
section
variable {g : Gl} {S : Sigs g} {T : Tab} {fc : FC} {X : Cx} {G : Sto} {rs : List Addr} {st : SS} {h : Heap} {tk : Nat} {E : Value → Shared → Prop} {r : Bd}
noncomputable def compCx (X : Cx) (sc : Scope) (cl : List (Str × Addr)) (L : Addr) (h : Heap) (G : Sto) (rs : List Addr) : Cx := ⟨X.A, compEnvC sc cl L X.env, h, G, rs, [L], X.gg, X.dd, X.os, X.fs⟩
theorem zcX {a : Addr} (hl : h.objs.size ≤ a) : h.get? a = none := by
 cases e : h.get? a with
 | none => rfl
 | some o => exact absurd (Heap.lt_size e) (Nat.not_lt.mpr hl)
set_option tactic.hygienic true in
theorem zlG (V : FOk g S fc X) (R : Rel g X G rs st h) {sc : Scope} (hc : compOk fc.sc sc = true) {h4 : Heap} {L : Addr} {m : Str → Option Value} (hL : h.objs.size ≤ L) (k4 : ∀ b o, h.get? b = some o → h4.get? b = some o) (hn : h4.Ns L m) :
  Rel g (compCx X sc (closL X.env sc.names []) L h G rs) G rs ⟨locOut fc sc st.loc, st.H⟩ h4 ∧ FOk g S { fc with sc := sc, Er := False, tr := false } (compCx X sc (closL X.env sc.names []) L h G rs) ∧
  (∀ y sv, lk (locOut fc sc st.loc) y = some sv → (compCx X sc (closL X.env sc.names []) L h G rs).env.kindOf y ≠ some .local) ∧ (∀ p ∈ closL X.env sc.names [], p.2 ∉ [L]) := by
 obtain ⟨hfree, _⟩ := zcO V hc
 obtain ⟨o1, o2, o3⟩ := zbK hc
 have hcl : ∀ p ∈ closL X.env sc.names [], X.env.cells.lookup p.1 = some p.2 := zc0 _ _ (fun x hx hf => let ⟨c, a, _⟩ := hfree x hx hf; ⟨c, a⟩) fun p hp => by cases hp
 have hfa : ∀ p ∈ closL X.env sc.names [], p.2 ∈ X.fa := fun p hp => Cx.fa_cell (mem_of_lookup (hcl p hp))
 have hlt : ∀ a ∈ X.fa ++ rs, a ≠ L := fun a ha q => absurd (R.lt ha) (by rw [q]; exact Nat.not_lt.mpr hL)
 have hnL : ∀ p ∈ closL X.env sc.names [], p.2 ∉ [L] := fun p hp q => hlt _ (List.mem_append_left _ (hfa p hp)) (List.mem_singleton.mp q)
 have fa' : ∀ a ∈ (compCx X sc (closL X.env sc.names []) L h G rs).fa, a = L ∨ a ∈ X.fa := fun a ha => by
  rcases Cx.fa_cases ha with q | q | q
  ·exact .inl q
  ·obtain ⟨p, hp, rfl⟩ := List.mem_map.mp q
   exact .inr (hfa p hp)
  ·exact .inr (Cx.fa_fs q)
 have ap := R.apart hL
 have kfun : (X.env.scope.kind == ScopeKind.function) = true := by rw [V.v.kind]; rfl
 have freek : ∀ y sv, lk (locOut fc sc st.loc) y = some sv → sc.names.lookup y = some .free ∧ X.env.kindOf y = some .cell ∧ lk st.loc y = some sv ∧ (compEnvC sc (closL X.env sc.names []) L X.env).kindOf y = some .cell := fun y sv e => by
  obtain ⟨a, b, c⟩ := zdD e
  rw [zbP] at a
  have k1 := (V.cel y b).1
  refine ⟨a, k1, c, ?_⟩
  rw [zbD, a, kfun, k1]; rfl
 refine ⟨⟨fun b o e => k4 _ _ (R.sto b o e), R.base, ⟨m, hn⟩, fun p hp => ?_, fun y sv e => ?_, R.len, fun i a so e1 e2 => (R.cell i a so e1 e2).keep fun o => k4 a o, ⟨fun a ha hr => ?_, R.nd.2⟩, fun a ha => ?_, fun a ha => ?_, fun a ha => ?_, fun a ha => ?_, fun b o e _ _ => k4 b o e, fun b o e _ _ => ⟨o.slots, k4 b o e⟩, fun a ha => ?_, fun q => ?_, fun b o e => .inl e⟩, ?_, fun y sv e => ?_, hnL⟩
 ·obtain ⟨v, hv⟩ := R.cels (p.1, p.2) (mem_of_lookup (hcl p hp))
  exact ⟨v, hv.keeps k4⟩
 ·obtain ⟨a, k1, c, k2⟩ := freek y sv e
  obtain ⟨v, hv, hn'⟩ := R.loc y sv c
  refine ⟨v, hv, .inr ⟨.inl k2, ?_⟩⟩
  rcases hn' with ⟨k3, _⟩ | ⟨_, c', c1, c2⟩
  ·rw [k1] at k3; cases k3
  ·have hs := zcP (env := X.env) (x := y) sc.names [] (.inl (mem_of_lookup a))
   cases q : (closL X.env sc.names []).lookup y with
   | none => rw [q] at hs; cases hs
   | some c2' =>
    have := hcl _ (mem_of_lookup q)
    rw [show X.env.cells.lookup y = some c' from c1] at this
    cases this
    exact ⟨_, q, c2.keeps k4⟩
 ·rcases fa' a ha with rfl | q
  ·exact hlt a (List.mem_append_right _ hr) rfl
  ·exact R.nd.1 a q hr
 ·rcases List.mem_append.mp ha with q | q
  ·rcases fa' a q with rfl | q
   ·exact ap.n2
   ·exact R.fresh a (List.mem_append_left _ q)
  ·exact R.fresh a (List.mem_append_right _ q)
 ·rcases List.mem_append.mp ha with q | q
  ·rw [List.mem_singleton.mp q]; exact .inr (zcX hL)
  ·exact .inl q
 ·rw [List.mem_singleton.mp ha]; exact List.mem_cons_self
 ·obtain ⟨o, e⟩ := R.live (List.mem_append_right _ ha)
  exact ⟨o, k4 _ _ e⟩
 ·have live : ∃ o, h.get? a = some o ∧ ∀ vs, o.data ≠ .fields vs := by
   rcases List.mem_cons.mp ha with rfl | q
   ·obtain ⟨m, o, es, ep, ho, hd, _⟩ := R.ns
    exact ⟨o, ho, fun vs q => by rw [hd] at q; cases q⟩
   ·exact (R.fo a q).2
  obtain ⟨o, e, d⟩ := live
  refine ⟨fun q => ?_, o, k4 _ _ e, d⟩
  rcases List.mem_cons.mp q with z | z
  ·exact hlt a (List.mem_append_left _ (Cx.fa_fs ha)) z
  ·obtain ⟨p, hp, e2⟩ := List.mem_map.mp z
   have hm : (p.1, p.2) ∈ X.env.cells := mem_of_lookup (hcl p hp)
   rcases List.mem_cons.mp ha with w | w
   ·exact R.lc (by rw [← w, ← e2]; exact List.mem_map.mpr ⟨_, hm, rfl⟩)
   ·exact (R.fo a w).1 (List.mem_cons_of_mem _ (by rw [← e2]; exact List.mem_map.mpr ⟨_, hm, rfl⟩))
 ·obtain ⟨p, hp, e⟩ := List.mem_map.mp q
  exact hnL p hp (List.mem_singleton.mpr e)
 ·refine ⟨⟨o1, fun q => ?_, fun p hp q hq hw => ?_, List.mem_singleton.mpr rfl⟩, V.gl, V.bl, V.hh, V.dep, V.un, fun x e => ?_, fun x e => ?_, fun x k e => ?_, fun x e => ?_, fun x e => ?_, fun q => q.elim, fun q => q.elim (fun z => z.elim) nofun⟩
  ·obtain ⟨p, hp, e⟩ := List.mem_map.mp q
   exact hnL p hp (List.mem_singleton.mpr e)
  ·exact absurd hw (hnL p hp)
  ·rw [show (compCx X sc (closL X.env sc.names []) L h G rs).env.kindOf x = _ from zbD]
   rw [show lk sc.names x = sc.names.lookup x from zbP] at e
   rw [e]; rfl
  ·left
   rw [show (compCx X sc (closL X.env sc.names []) L h G rs).env.kindOf x = _ from zbD]
   unfold isLoc at e
   split at e
   ·rename_i q
    rw [show lk sc.names x = sc.names.lookup x from zbP] at q
    rw [q]; rfl
   ·rename_i q
    rw [show lk sc.names x = sc.names.lookup x from zbP] at q
    have := (za0 o3 q).2
    cases this
   ·cases e
  ·rw [show (compCx X sc (closL X.env sc.names []) L h G rs).env.kindOf x = _ from zbD] at e
   cases q : sc.names.lookup x with
   | none => rw [q] at e; cases e
   | some k' => exact (za0 o3 q).1
  ·have e' : sc.names.lookup x = some .cell := by rw [← zbP]; exact e
   have := (za0 o3 e').2
   cases this
  ·rw [show (compCx X sc (closL X.env sc.names []) L h G rs).env.kindOf x = _ from zbD]
   unfold isLoc1 at e
   split at e
   ·rename_i q
    rw [show lk sc.names x = sc.names.lookup x from zbP] at q
    rw [q]; rfl
   ·cases e
 ·rw [show (compCx X sc (closL X.env sc.names []) L h G rs).env.kindOf y = _ from (freek y sv e).2.2.2]
  exact nofun
theorem zdJ (hr : EvOk S r) (ht : TsOk S r) (V : FOk g S fc X) (R : Rel g X G rs st h) {target elt iter : Expr} {ifs : List Expr} {sc : Scope} {pos : Pos} {v : Value} {its : List SV} {use : Option (Value → Sem Unit)} {Q : Value → Shared → Prop} (hc : compOk fc.sc sc = true)
  {kO : Option Nat} (hiter : ∀ {Q' : Value → Shared → Prop}, (∀ o fp P St, ItG g X.A G rs h.objs.size its kO fp P St → St 0 (h.push o) → (∃ o', (h.push o).get? h.objs.size = some o') → Q' (.ref h.objs.size) (X.sh (h.push o) tk)) → wpAny (model g.prog g.w) X.A (pyIter v) Q' E (X.sh h tk)) (hlen : its.length ≤ 100000)
  (J : Nat → List SV → List SO → Prop) (Nx : Nat → List SV → Option SV → List SO → Prop)
  (step : ∀ i sv acc H, its[i]? = some sv → J i acc H → bindT sc target sv ⟨locOut fc sc st.loc, H⟩ fun st1 => ifsS r { fc with sc := sc, Er := False, tr := false } ifs st1 fun b st2 => BR b (r.ev { fc with sc := sc, Er := False, tr := false } elt st2 fun u st3 => Nx i acc (some u) st3.H) (Nx i acc none st2.H))
  (hN : ∀ i acc u H, Nx i acc u H → J (i + 1) (match u with | some u => acc ++ [u] | none => acc) H) (hkp : ∀ i acc u H, Nx i acc u H → ∀ k, kO = some k → H[k]? = some (.seq its)) (hJ : J 0 [] st.H)
  (hPost : ∀ G' rs' H' h' tk' acc vs n D L, Ext G rs G' rs' → Rel g X G' rs' ⟨st.loc, H'⟩ h' → Apart X G' rs' D → Apart X G' rs' L → D ≠ L → h'.get? D = some (lstO vs n) → (∃ m, h'.Ns L m) → VRl g G' rs' acc vs → J its.length acc H' →
   compPost (model g.prog g.w) X.A E use Q (.ref D) L (.ok .next) (X.sh h' tk')) :
  wpAny (model g.prog g.w) X.A (pyIter v) (fun it s₂ => wpAny (model g.prog g.w) X.A (newList []) (fun acc s₃ => wpAny (model g.prog g.w) X.A (newFunctionEnv sc X.env.globals (closL X.env sc.names []) [] X.env.qual none .none (some X.env)) (fun cenv s₄ =>
   codeAny (model g.prog g.w) X.A (.compStart (.ListComp elt [⟨target, iter, ifs, 0⟩] sc pos) 0 it acc { cenv with scope := relabel sc X.env }) (compPost (model g.prog g.w) X.A E use Q acc cenv.locals) s₄) E s₃) E s₂) E (X.sh h tk) := by
 obtain ⟨o1, o2, o3⟩ := zbK hc
 refine hiter fun o fp P St hIt hS0 hlive => ?_
 have hcell : ∀ x ∈ sc.names, x.2 ≠ .cell := fun x hx q => by
  obtain ⟨n, k⟩ := x
  dsimp only at q
  subst q
  have := (za0 o3 (za2 o2 hx)).2
  cases this
 refine wpAny_newObj_type (hd := by size_fits) (wpAny_newFunctionEnv hcell (by intro y hy; cases hy) (fun h4 hns hsb => ?_) o1)
 dsimp only at hns hsb ⊢
 generalize hH1 : h.push o = h1 at hS0 hlive hns hsb ⊢
 have s1 : h1.objs.size = h.objs.size + 1 := by rw [← hH1, Heap.size_push]
 have eD : (X.sh h1 tk).heap.objs.size = h.objs.size + 1 := s1
 generalize hH2 : (X.sh h1 tk).heap.push { cls := .type "list", dict := none, data := .seq ([] : List Value).toArray } = h2 at hns hsb ⊢
 have s2 : h2.objs.size = h.objs.size + 2 := by rw [← hH2, Heap.size_push, eD]
 have z1 : ¬ ((h.objs.size : Nat) = h2.objs.size) := by lia
 have z2 : ¬ ((h.objs.size + 1 : Nat) = h2.objs.size) := by lia
 have z3 : ¬ ((h.objs.size : Nat) = h.objs.size + 1) := by lia
 have z5 : (h1.objs.size : Nat) ≤ h2.objs.size := by lia
 have z4 : (h.objs.size : Nat) ≤ h2.objs.size := by lia
 have k4 : ∀ b o, h1.get? b = some o → h4.get? b = some o := fun b o e =>
  hsb.extBut b o (Nat.ne_of_lt (Nat.lt_of_lt_of_le (Heap.lt_size e) z5)) (Heap.get?_push_of_some _ (by rw [← hH2]; exact Heap.get?_push_of_some _ e))
 have k0 : ∀ b o, h.get? b = some o → h1.get? b = some o := fun b o e => by rw [← hH1]; exact Heap.get?_push_of_some _ e
 have hD4 : h4.get? (h.objs.size + 1) = some (lstO [] 0) := by
  refine hsb.extBut _ _ z2 (Heap.get?_push_of_some _ ?_)
  rw [← hH2, ← eD]
  exact Heap.get?_push_size _ rfl
 obtain ⟨RC, VC, hl, hcw⟩ := zlG V R hc (L := h2.objs.size) z4 (fun b o e => k4 _ _ (k0 b o e)) hns
 obtain ⟨oI, hoI⟩ := hlive
 have apI : Apart X G rs h.objs.size := R.apart (Nat.le_refl _)
 have apD : Apart X G rs (h.objs.size + 1) := R.apart (Nat.le_succ _)
 have apL : Apart X G rs h2.objs.size := R.apart z4
 have faC : ∀ a ∈ (compCx X sc (closL X.env sc.names []) h2.objs.size h G rs).fa, a = h2.objs.size ∨ a ∈ X.fa := fun a ha => by
  rcases Cx.fa_cases ha with q | q | q
  ·exact .inl q
  ·obtain ⟨p, hp, rfl⟩ := List.mem_map.mp q
   obtain ⟨hfree, _⟩ := zcO V hc
   exact .inr (Cx.fa_cell (mem_of_lookup (zc0 _ _ (fun x hx hf => let ⟨c, a, _⟩ := hfree x hx hf; ⟨c, a⟩) (fun p hp => by cases hp) p hp)))
  ·exact .inr (Cx.fa_fs q)
 have toC : ∀ a, a ≠ h2.objs.size → h.objs.size ≤ a → Apart X G rs a → Apart (compCx X sc (closL X.env sc.names []) h2.objs.size h G rs) G rs a := fun a hne hle ap => by
  refine ⟨fun q => ?_, ap.n2, zcX hle, fun q => ap.n1 (List.mem_append_right _ q)⟩
  rcases List.mem_append.mp q with q | q
  ·rcases faC a q with z | z
   ·exact hne z
   ·exact ap.n1 (List.mem_append_left _ z)
  ·exact ap.n1 (List.mem_append_right _ q)
 have hDf : h.objs.size + 1 ∉ fp := fun q => by
  rcases hIt.fp _ q with z | ⟨o', z⟩ | z
  ·exact z3 z.symm
  ·exact absurd (Heap.lt_size (R.sto _ _ z)) (Nat.not_lt.mpr (Nat.le_succ _))
  ·exact absurd (R.lt (List.mem_append_right _ z)) (Nat.not_lt.mpr (Nat.le_succ _))
 have hS4 : St 0 h4 := hIt.w.frame _ _ _ hS0 fun b _ o e => k4 b o e
 have loop : codeAny (model g.prog g.w) X.A (.compLoop (.ListComp elt [⟨target, iter, ifs, 0⟩] sc pos) 0 (.ref h.objs.size) (.ref (h.objs.size + 1)) (compEnvC sc (closL X.env sc.names []) h2.objs.size X.env)) (compPost (model g.prog g.w) X.A E use Q (.ref (h.objs.size + 1)) h2.objs.size) (X.sh h4 tk) := by
  refine zi5 (C := compCx X sc (closL X.env sc.names []) h2.objs.size h G rs) (lc := locOut fc sc st.loc) (sc0 := fc) hr ht VC (fun q => q) hl hcw J Nx step hN hkp hIt hlen RC (toC _ z1 (Nat.le_refl _) apI) (toC _ z2 (Nat.le_succ _) apD) z3 hDf hD4 hS4 hJ ?_
  intro G' rs' H' h' tk' acc vs n x R' ap' hD' hvs hJ'
  have Rb := R.back R' rfl rfl rfl rfl List.mem_cons_self x
  have faN : ∀ a, h.objs.size ≤ a → a ∉ X.fa := fun a hle q => absurd (R.lt (List.mem_append_left _ q)) (Nat.not_lt.mpr hle)
  refine hPost G' rs' H' h' tk' acc vs n _ _ x Rb ⟨fun q => ?_, ap'.n2, apD.n3, apD.n4⟩ ⟨fun q => ?_, R'.fresh _ (List.mem_append_left _ List.mem_cons_self), apL.n3, apL.n4⟩ z2 hD' R'.ns hvs hJ'
  ·rcases List.mem_append.mp q with q | q
   ·exact faN _ (Nat.le_succ _) q
   ·exact ap'.n1 (List.mem_append_right _ q)
  ·rcases List.mem_append.mp q with q | q
   ·exact faN _ z4 q
   ·exact R'.nd.1 _ List.mem_cons_self q
 rw [eD]
 exact codeAny_compStart_list loop (hIt.w.self 0 _ _ _ hS4 loop)
end
end Mine
end
section
open PySem.SeqAt PySem.EqBoolInt
namespace Mine
set_option tactic.hygienic true in
theorem zgO {ts vs : List Expr} {k k2 : Nat} {p p2 : Pos} {env : Env} {names : List Str} (hs : swapOk (.Tuple vs k2 p2) = true)
  (hn : ∀ line, (ts.filterMap fun
  | .Name id pos => if env.kindOf id == some .local && pos.line == line then some id else none
  | _ => none).length = ts.length → (ts.filterMap fun
  | .Name id pos => if env.kindOf id == some .local && pos.line == line then some id else none
  | _ => none) = names) :
  swappedStores [.Tuple ts k p] (.Tuple vs k2 p2) env = pure none ∨ swappedStores [.Tuple ts k p] (.Tuple vs k2 p2) env = pure (some names) := by
 unfold swappedStores
 dsimp only
 split
 ·exact .inl rfl
 ·split
  ·exact .inl rfl
  ·split
   ·exact .inl rfl
   ·rename_i c1 c2 c3
    split
    ·exact .inl rfl
    ·rename_i c4
     split
     ·rename_i c5
      exfalso
      simp only [swapOk] at hs
      rw [c5] at hs
      simp at hs
      simp at c4
      obtain ⟨x, hx, hx2⟩ := c4
      rw [hs x hx] at hx2
      cases hx2
     ·right
      have : (ts.filterMap fun
  | .Name id pos => if env.kindOf id == some .local && pos.line == ((ts.head?.map (·.pos.line)).getD 0) then some id else none
  | _ => none).length = ts.length := by
       have := c3
       simp only [Bool.or_eq_true, not_or, bne_iff_ne, ne_eq, Decidable.not_not] at this
       exact this.1
      have e := hn _ this
      exact congrArg (fun z => pure (some z)) e
inductive Names : List Expr → List Str → Prop
 | nil : Names [] []
 | cons {x : Str} {p : Pos} {es : List Expr} {xs : List Str} : Names es xs → Names (.Name x p :: es) (x :: xs)
theorem Names.filter {env : Env} (line : Nat) : ∀ {es : List Expr} {xs : List Str}, Names es xs → (es.filterMap fun
  | .Name id pos => if env.kindOf id == some .local && pos.line == line then some id else none
  | _ => none).length = es.length → (es.filterMap fun
  | .Name id pos => if env.kindOf id == some .local && pos.line == line then some id else none
  | _ => none) = xs
 | _, _, .nil, _ => rfl
 | _, _, .cons (x := x) (p := p) (es := es) (xs := xs) r, h => by
  rw [List.filterMap_cons] at h ⊢
  dsimp only at h ⊢
  have le := List.length_filterMap_le (fun
   | .Name id pos => if env.kindOf id == some .local && pos.line == line then some id else none
   | _ => none : Expr → Option Str) es
  by_cases c : (env.kindOf x == some .local && p.line == line) = true
  ·simp only [c, if_true] at h ⊢
   rw [Names.filter line r (by simpa using h)]
  ·rw [if_neg c] at h
   dsimp only at h
   simp only [List.length_cons] at h
   lia
theorem zkF {ts : List Expr} {xs : List Str} {k : Nat} {p : Pos} {env : Env} {e : Expr} (hn : Names ts xs) (hs : swapOk e = true) : swappedStores [.Tuple ts k p] e env = pure none ∨ swappedStores [.Tuple ts k p] e env = pure (some xs) := by
 cases e <;> first | exact .inl rfl | skip
 exact zgO hs fun line h => hn.filter line h
section
variable {g : Gl} {S : Sigs g} {T : Tab} {fc : FC} {X : Cx} {G : Sto} {rs : List Addr} {st : SS} {h : Heap} {tk : Nat} {E : Value → Shared → Prop} {r : Bd}
set_option tactic.hygienic true in
theorem zgF (hr : EvOk S r) (ht : TsOk S r) (V : FOk g S fc X) (hE : fc.Er → ∀ x s', S.Sg X x s' → E x s') (R : Rel g X G rs st h) {target elt iter : Expr} {ifs : List Expr} {sc : Scope} {ps : Pos} {pos : Pos} {use : Option (Value → Sem Unit)} {K : SV → SS → Prop} {Q : Value → Shared → Prop}
  (hk : compS T r fc target elt iter ifs sc pos st K)
  (hPost : ∀ G' rs' st' h' tk' acc vs n D L, Ext G rs G' rs' → Rel g X G' rs' st' h' → Apart X G' rs' D → Apart X G' rs' L → D ≠ L → h'.get? D = some (lstO vs n) → (∃ m, h'.Ns L m) → VRl g G' rs' acc vs → Mine.mkList T pos.line acc st' K →
   compPost (model g.prog g.w) X.A E use Q (.ref D) L (.ok .next) (X.sh h' tk')) :
  wpAny (model g.prog g.w) X.A (comprehension (.ListComp elt [⟨target, iter, ifs, 0⟩] sc pos) sc X.env ps (newList []) false (eval iter X.env) use) Q E (X.sh h tk) := by
 unfold compS at hk
 have c := CK_l hk
 replace hk := CK_r hk
 have c2 := zaG c
 have c1 := zaH c
 obtain ⟨o1, o2, o3⟩ := zbK c1
 refine wpAny_comprehension_free rfl (zdW c2 _) (zcO V c1).2 o1 (fun x hx hl => by rw [← hl]; exact za2 o2 hx) ?_
 refine hr V hE R hk fun G' rs' st1 it v h1 tk1 x R1 hv hk1 => ?_
 split at hk1
 ·rename_i its hi
  have c3 := CK_l hk1
  replace hk1 := CK_r hk1
  have hlen := zaL c3
  split at hk1
  ·refine zdJ (kO := none) hr ht V R1 c1 (fun hq => ze8 R1 V.hh hv hi fun o fp P St it => hq o fp P St it.gen) hlen (fun i acc H => compL r fc { fc with sc := sc, Er := False, tr := false } target elt ifs (its.drop i) acc ⟨st1.loc, H⟩ fun acc st2 => Mine.mkList T pos.line acc st2 K)
    (fun i acc u H' => match u with
     | some u => compL r fc { fc with sc := sc, Er := False, tr := false } target elt ifs (its.drop (i + 1)) (acc ++ [u]) ⟨st1.loc, H'⟩ fun acc st2 => Mine.mkList T pos.line acc st2 K
     | none => compL r fc { fc with sc := sc, Er := False, tr := false } target elt ifs (its.drop (i + 1)) acc ⟨st1.loc, H'⟩ fun acc st2 => Mine.mkList T pos.line acc st2 K) ?_ ?_ ?_ ?_ ?_
   ·intro i sv acc H hsv hJ
    have hd : its.drop i = sv :: its.drop (i + 1) := by
     obtain ⟨hlt, e⟩ := List.getElem?_eq_some_iff.mp hsv
     rw [List.drop_eq_getElem_cons hlt, e]
    rw [hd] at hJ
    unfold compL turnC at hJ
    exact hJ
   ·intro i acc u H hN
    cases u <;> exact hN
   ·intro i acc u H _ k q; cases q
   ·exact hk1
   ·intro G2 rs2 H2 h2 tk2 acc vs n D L x2 R2 a1 a2 hne hD hL hvs hJ
    rw [List.drop_length] at hJ
    unfold compL at hJ
    exact hPost _ _ _ _ _ _ _ _ _ _ (x.trans x2) R2 a1 a2 hne hD hL hvs hJ
  ·rename_i L hL
   obtain ⟨⟨x0, p0, e0⟩, hstep, hfin⟩ := hk1
   refine zdJ (kO := none) hr ht V R1 c1 (fun hq => ze8 R1 V.hh hv hi fun o fp P St it => hq o fp P St it.gen) hlen (fun i acc H => ∃ x, L.P (its.take i) x ∧ CW L x st1.loc acc H)
    (fun i acc u H' => ∃ x', L.P (its.take (i + 1)) x' ∧ CW L x' st1.loc (match u with | some u => acc ++ [u] | none => acc) H') ?_ ?_ ?_ ?_ ?_
   ·rintro i sv acc H hsv ⟨x, hp, he⟩
    have e1 : its = its.take i ++ sv :: its.drop (i + 1) := by
     obtain ⟨hlt, e⟩ := List.getElem?_eq_some_iff.mp hsv
     rw [← e, ← List.drop_eq_getElem_cons hlt, List.take_append_drop]
    have := hstep x (its.take i) sv (its.drop (i + 1)) acc H e1 hp he
    unfold turnC at this
    have e2 : its.take i ++ [sv] = its.take (i + 1) := by rw [List.take_add_one, hsv]; rfl
    rw [e2] at this
    exact this
   ·rintro i acc u H ⟨x', hp, he⟩
    exact ⟨x', hp, he⟩
   ·intro i acc u H _ k q; cases q
   ·exact ⟨x0, by simpa using p0, e0⟩
   ·rintro G2 rs2 H2 h2 tk2 acc vs n D L2 x2 R2 a1 a2 hne hD hL2 hvs ⟨xx, hp, he⟩
    rw [List.take_length] at hp
    exact hPost _ _ _ _ _ _ _ _ _ _ (x.trans x2) R2 a1 a2 hne hD hL2 hvs (hfin xx acc H2 hp he)
 ·split at hk1
  ·rename_i p hp
   obtain ⟨k, its⟩ := p
   have c3 := CK_l hk1
   replace hk1 := CK_r hk1
   have c4 := zaG c3
   have c3 := zaH c3
   have hlen := zaL c3
   have hit : it = .obj k ∧ st1.H[k]? = some (.seq its) := by
    unfold cellIts at hp
    split at hp
    ·split at hp
     ·rename_i q
      cases hp
      exact ⟨rfl, q⟩
     ·cases hp
    ·cases hp
   obtain ⟨rfl, hH⟩ := hit
   split at hk1
   ·exact hk1.elim
   ·rename_i L hL
    obtain ⟨⟨x0, p0, e0⟩, hstep, hfin⟩ := hk1
    refine zdJ (kO := some k) hr ht V R1 c1 (fun hq => zkY R1 V.hh hv hH c4 hq) hlen (fun i acc H => ∃ x, L.P (its.take i) x ∧ CW L x st1.loc acc H)
     (fun i acc u H' => H'[k]? = some (.seq its) ∧ ∃ x', L.P (its.take (i + 1)) x' ∧ CW L x' st1.loc (match u with | some u => acc ++ [u] | none => acc) H') ?_ ?_ ?_ ?_ ?_
    ·rintro i sv acc H hsv ⟨x, hp, he⟩
     have e1 : its = its.take i ++ sv :: its.drop (i + 1) := by
      obtain ⟨hlt, e⟩ := List.getElem?_eq_some_iff.mp hsv
      rw [← e, ← List.drop_eq_getElem_cons hlt, List.take_append_drop]
     have := hstep x (its.take i) sv (its.drop (i + 1)) acc H e1 hp he
     unfold turnC at this
     have e2 : its.take i ++ [sv] = its.take (i + 1) := by rw [List.take_add_one, hsv]; rfl
     rw [e2] at this
     exact this
    ·rintro i acc u H ⟨_, x', hp, he⟩
     exact ⟨x', hp, he⟩
    ·rintro i acc u H ⟨q, _⟩ k' e
     cases e
     exact q
    ·exact ⟨x0, by simpa using p0, e0⟩
    ·rintro G2 rs2 H2 h2 tk2 acc vs n D L2 x2 R2 a1 a2 hne hD hL2 hvs ⟨xx, hp, he⟩
     rw [List.take_length] at hp
     exact hPost _ _ _ _ _ _ _ _ _ _ (x.trans x2) R2 a1 a2 hne hD hL2 hvs (hfin xx acc H2 hp he)
  ·exact hk1.elim
theorem zoI (hr : EvOk S r) (ht : TsOk S r) (V : FOk g S fc X) (hE : fc.Er → ∀ x s', S.Sg X x s' → E x s') (R : Rel g X G rs st h) {target elt iter : Expr} {ifs : List Expr} {sc : Scope} {pos : Pos} {K : SV → SS → Prop} {Q : Value → Shared → Prop}
  (hk : compS T r fc target elt iter ifs sc pos st K) (F : Fin g X G rs K Q) : wpAny (model g.prog g.w) X.A (eval (.ListComp elt [⟨target, iter, ifs, 0⟩] sc pos) X.env) Q E (X.sh h tk) := by
 rw [arm_eval_ListComp]
 refine zgF (use := none) hr ht V hE R hk fun G' rs' st' h' tk' acc vs n D L x R' aD aL hne hD hL hvs hm => ?_
 obtain ⟨m, hm'⟩ := hL
 refine ⟨m, hm', fun h2 hs => ?_⟩
 have hs' : ∀ b o, ¬ b = L → h'.get? b = some o → h2.get? b = some o := fun b o hb e => (hs.2 b hb).trans e
 have R2 : Rel g X G' rs' st' h2 := R'.touch (· = L) (fun a q => by rw [q]; exact aL) hs'
 exact R2.mkListA (hs' _ _ hne hD) aD hvs hm (F.ext x) tk'
theorem zlF (hr : EvOk S r) (ht : TsOk S r) (V : FOk g S fc X) (hE : fc.Er → ∀ x s', S.Sg X x s' → E x s') (R : Rel g X G rs st h) {y : Str} {py : Pos} (hy : isLoc fc.sc y = true) {target elt iter : Expr} {ifs : List Expr} {sc : Scope} {ps pos : Pos} {K : Out → SS → Prop} {Q : Value → Shared → Prop}
  (hk : compS T r fc target elt iter ifs sc pos st fun v st1 => K .next ⟨lset st1.loc y v, st1.H⟩) (F : ∀ G' rs' st' h' tk', Ext G rs G' rs' → Rel g X G' rs' st' h' → K .next st' → Q .none (X.sh h' tk')) :
  wpAny (model g.prog g.w) X.A (comprehension (.ListComp elt [⟨target, iter, ifs, 0⟩] sc pos) sc X.env ps (newList []) false (eval iter X.env) (some (assign (.Name y py) X.env))) Q E (X.sh h tk) := by
 refine zgF (use := some (assign (.Name y py) X.env)) hr ht V hE R hk fun G' rs' st' h' tk' acc vs n D L x R' aD aL hne hD hL hvs hm => ?_
 obtain ⟨m, oL, es, ep, eL, r1, r2, r3⟩ := hL
 show wpAny (model g.prog g.w) X.A (assign (.Name y py) X.env (.ref D)) (fun _ s'' => ∃ m, s''.heap.Ns L m ∧ ∀ h', Heap.SameBut L s''.heap h' → Q .none { s'' with heap := h' }) E (X.sh h' tk')
 obtain ⟨G2, rs2, st2, sv, x2, R2, hv2, hk2, hap⟩ := R'.mkListX hD aD hvs hm
 have aL2 := hap L (fun q => hne q.symm) aL
 refine zbH (X := X.now G2 rs2 h') (V.now _ _ _) R2.now hy hv2 fun h3 tk3 R3 => ?_
 obtain ⟨aL3, eL3⟩ := Rel.strange R3 aL2 R2.wfa eL
 refine ⟨m, ⟨oL, es, ep, eL3, r1, r2, r3⟩, fun h4 hs => ?_⟩
 have R3' := R2.unnow R3 Ext.refl
 have R4 : Rel g X G2 rs2 ⟨lset st2.loc y sv, st2.H⟩ h4 := R3'.touch (· = L) (fun a q => by rw [q]; exact aL3) fun b o hb e => (hs.2 b hb).trans e
 exact F _ _ _ _ _ (x.trans x2) R4 hk2
end
end Mine
end
section
open PySem.SeqAt PySem.EqBoolInt
namespace Mine
section
variable {g : Gl} {S : Sigs g} {T : Tab} {fc : FC} {X : Cx} {G : Sto} {rs : List Addr} {st : SS} {h : Heap} {tk : Nat} {E : Value → Shared → Prop} {r : Bd}
set_option tactic.hygienic true in
theorem zoJ (ok : CallOk g S T) (hr : EvOk S r) (hx : ExOk S r) (V : FOk g S fc X) (hE : fc.Er → ∀ x s', S.Sg X x s' → E x s') (R : Rel g X G rs st h) {K : SV → SS → Prop} {Q : Value → Shared → Prop} (F : Fin g X G rs K Q)
  {f : Expr} {args : List Expr} {kw : List Keyword} {pos : Pos} (hk : evCall T r fc f args kw pos st K) : wpAny (model g.prog g.w) X.A (eval (.Call f args kw pos) X.env) Q E (X.sh h tk) := by
 unfold evCall at hk
 have hs := CK_l hk
 replace hk := CK_r hk
 cases kw with
 | cons _ _ => exact hk.elim
 | nil =>
  have hk : evCall0 T r fc f args pos st K := hk
  cases f with
  | Attribute o m p =>
   have hk1 : evMeth T r fc o m p args pos st K := hk
   unfold evMeth at hk1
   split at hk1
   ·rename_i hb; exact zfO ok hr hx V hE R hs hb hk1 F
   ·exact hk1.elim
  | Name x p => exact zfN ok hr hx V hE R hs hk F
  | _ => exact (show False from hk).elim
set_option tactic.hygienic true in
theorem zpB (hr : EvOk S r) (V : FOk g S fc X) (hE : fc.Er → ∀ x s', S.Sg X x s' → E x s') (R : Rel g X G rs st h) {K : SV → SS → Prop} {Q : Value → Shared → Prop} (F : Fin g X G rs K Q)
  {v s : Expr} {pos : Pos} (hk : evSub r fc v s st K) : wpAny (model g.prog g.w) X.A (eval (.Subscript v s pos) X.env) Q E (X.sh h tk) := by
 have gen : (∀ a b c p, s ≠ .Slice a b c p) → (r.ev fc v st fun o st1 => r.ev fc s st1 fun i st2 => getJ (nestE v) o i st2 K) → wpAny (model g.prog g.w) X.A (eval (.Subscript v s pos) X.env) Q E (X.sh h tk) := fun hs hk => znP hr V hE R hs hk F
 unfold evSub at hk
 split at hk
 ·unfold evSlice at hk
  split at hk
  ·exact zkK hr V hE R hk F
  ·exact hk.elim
 ·rename_i hn
  exact gen (fun a b c p q => hn a b c p q) hk
theorem zrY (hr : EvOk S r) (V : FOk g S fc X) (hE : fc.Er → ∀ x s', S.Sg X x s' → E x s') (R : Rel g X G rs st h) {K : SV → SS → Prop} {Q : Value → Shared → Prop} (F : Fin g X G rs K Q)
  {op : UnaryOp} {e : Expr} {pos : Pos} (hk : evUn r fc op e st K) (us : ∀ {i : Int} {k : Nat} {p pos : Pos}, K (.int (-i)) st → wpAny (model g.prog g.w) X.A (eval (.UnaryOp .USub (.Constant (.int i) k p) pos) X.env) Q E (X.sh h tk)) : wpAny (model g.prog g.w) X.A (eval (.UnaryOp op e pos) X.env) Q E (X.sh h tk) := by
 unfold evUn at hk
 split at hk
 ·exact zp0 hr V hE R hk F
 ·unfold evNeg at hk
  split at hk
  ·unfold evNegC at hk
   split at hk
   ·exact us hk
   ·exact hk.elim
  ·exact hk.elim
 ·exact hk.elim
theorem zmT (R : Rel g X G rs st h) {i : Int} {k : Nat} {p pos : Pos} {K : SV → SS → Prop} {Q : Value → Shared → Prop} (hk : K (.int (-i)) st) (F : Fin g X G rs K Q) : wpAny (model g.prog g.w) X.A (eval (.UnaryOp .USub (.Constant (.int i) k p) pos) X.env) Q E (X.sh h tk) :=
 UnaryOp_ (wpAny_Constant_int (PyProof.Rows.neg_int (F.here R (VR.tok_int _ _) hk _)))
theorem zk9 (R : Rel g X G rs st h) {pos : Pos} {K : SV → SS → Prop} {Q : Value → Shared → Prop} (hk : K (.obj st.H.length) ⟨st.loc, st.H ++ [.idict [] 0]⟩) (F : Fin g X G rs K Q) : wpAny (model g.prog g.w) X.A (eval (.Dict [] [] pos) X.env) Q E (X.sh h tk) := by
 refine wpAny_Dict_empty ?_
 have ap := R.apart (Nat.le_refl _)
 have R0 : Rel g X G rs st (h.push { cls := .type "dict", data := .dict #[] }) := R.keeps fun b o e => Heap.get?_push_of_some _ e
 have hs : (h.objs.size == sysModules) = false := beq_eq_false_iff_ne.mpr (Nat.ne_of_gt R.dct_ne)
 obtain ⟨x1, R1⟩ := R0.newCell (a := h.objs.size) (so := .idict [] 0) ⟨_, fun _ => none, #[], 0, Heap.get?_push_size _ rfl, ⟨⟨rfl, rfl, rfl⟩, #[], 0, rfl, fun _ he => by simp at he, fun _ => rfl⟩, rfl, Nat.le_refl _, hs, by simp [DRl]⟩ ap.n1 ap.n2 ap.n3
 refine F _ _ _ _ _ _ _ x1 R1 ?_ hk
 refine ⟨h.objs.size, ?_, rfl⟩
 rw [← R.len, List.getElem?_append_right (Nat.le_refl _), Nat.sub_self]; rfl
theorem zn8 (R : Rel g X G rs st h) {K : SV → SS → Prop} {Q : Value → Shared → Prop} (F : Fin g X G rs K Q) {ks : List (Option Expr)} {vs : List Expr} {pos : Pos} (hk : evDict fc ks vs st K) : wpAny (model g.prog g.w) X.A (eval (.Dict ks vs pos) X.env) Q E (X.sh h tk) := by
 rcases ks with _ | ⟨o1, ks⟩
 ·rcases vs with _ | ⟨_, _⟩
  ·exact zk9 R hk F
  ·exact False.elim hk
 ·rcases o1 with _ | e1
  ·exact False.elim hk
  ·rcases ks with _ | ⟨_ | e2, _ | ⟨_, _⟩⟩ <;> first | exact False.elim hk | skip
   rcases vs with _ | ⟨e3, _ | ⟨e4, _ | ⟨_, _⟩⟩⟩ <;> first | exact False.elim hk | skip
   revert hk
   refine OM_e fun k1 q1 hk => ?_
   revert hk
   refine OM_e fun k2 q2 hk => ?_
   revert hk
   refine OM_e fun k3 q3 hk => ?_
   revert hk
   refine OM_e fun k4 q4 hk => ?_
   obtain ⟨_, _, rfl⟩ := zcC q1
   obtain ⟨_, _, rfl⟩ := zcC q2
   obtain ⟨_, _, rfl⟩ := zcC q3
   obtain ⟨_, _, rfl⟩ := zcC q4
   have c := CK_l hk
   have hk2 := CK_r hk
   exact zn7 R c hk2 F
set_option tactic.hygienic true in
theorem zlH (hr : EvOk S r) (ht : TsOk S r) (V : FOk g S fc X) (hE : fc.Er → ∀ x s', S.Sg X x s' → E x s') (R : Rel g X G rs st h) {K : SV → SS → Prop} {Q : Value → Shared → Prop} (F : Fin g X G rs K Q)
  {elt : Expr} {gens : List Comprehension} {sc : Scope} {pos : Pos} (hk : evComp T r fc elt gens sc pos st K) : wpAny (model g.prog g.w) X.A (eval (.ListComp elt gens sc pos) X.env) Q E (X.sh h tk) := by
 unfold evComp at hk
 split at hk
 ·rename_i c
  obtain ⟨target, iter, ifs, a⟩ := c
  unfold evComp1 at hk
  dsimp only at hk
  split at hk
  ·rename_i q
   have := zb3 q
   subst this
   exact zoI hr ht V hE R hk F
  ·exact hk.elim
 ·exact hk.elim
set_option tactic.hygienic true in
theorem zn4 (ok : CallOk g S T) (hr : EvOk S r) (ht : TsOk S r) (hx : ExOk S r) : EvOk S (bdStep T r) := by
 intro fc X G rs st h tk E e K Q V hE R hk F
 have hk0 : evStep T r fc e st K := hk
 clear hk
 cases e with
 | Constant c k p => exact zlA R hk0 F
 | Name x p => exact znI ok.glob V R hk0 F
 | Attribute o a p =>
  have hk1 : evAttr T r fc o a st K := hk0
  unfold evAttr at hk1
  split at hk1
  ·rename_i hb; exact zoN ok.glob hr V hE R hb hk1 F
  ·exact hk1.elim
 | Call f as ks p => exact zoJ ok hr hx V hE R F hk0
 | Subscript v s p => exact zpB hr V hE R F hk0
 | Compare l ops es p =>
  have c := CK_l hk0
  have hk1 := CK_r hk0
  exact zg7 hr V hE R c hk1 F
 | BoolOp op es p => exact zcQ hr V hE R hk0 F
 | UnaryOp op e p => exact zrY hr V hE R F hk0 fun hk => zmT R hk F
 | IfExp t a b p => exact zkZ hr ht V hE R hk0 F
 | BinOp l op m p => exact zlL hr V hE R hk0 F
 | Tuple es k p => exact zkD hr V hE R hk0 F
 | List es p => exact znK (T := T) hr V hE R hk0 F
 | Dict ks vs p => exact zn8 R F hk0
 | ListComp elt gens sc p => exact zlH hr ht V hE R F hk0
 | _ => exact False.elim hk0
end
end Mine
end
section
open PySem.SeqAt PySem.EqBoolInt
namespace Mine
section
variable {g : Gl} {S : Sigs g} {T : Tab} {fc : FC} {X : Cx} {G : Sto} {rs : List Addr} {st : SS} {h : Heap} {tk : Nat} {E : Value → Shared → Prop} {r : Bd} {K : Out → SS → Prop} {Q : Flow → Shared → Prop}
theorem FinO.next (F : FinO g X G rs K Q) {G' : Sto} {rs' : List Addr} {st' : SS} {h' : Heap} {tk' : Nat} (x : Ext G rs G' rs') (R : Rel g X G' rs' st' h') (k : K .next st') : Q .next (X.sh h' tk') := F _ _ _ .next _ _ _ x R rfl k
theorem za5 {e : Expr} (hs : isComp e = false) (t : Option Expr) (line : Nat) (env : Env) : swapsWith e t line env = pure false := by
 cases e <;> first | rfl | exact ft hs.symm
theorem zgN (elt : Expr) (gens : List Comprehension) (sc : Scope) (pos : Pos) (x : Str) (p : Pos) (line : Nat) (env : Env) : ∃ b, swapsWith (.ListComp elt gens sc pos) (some (.Name x p)) line env = pure b := ⟨_, rfl⟩
theorem not_true {b : Bool} (h : (!b) = true) : b = false := by cases b <;> first | rfl | exact ft h
set_option tactic.hygienic true in
theorem zeE (hr : EvOk S r) (ht : TsOk S r) (V : FOk g S fc X) (hE : fc.Er → ∀ x s', S.Sg X x s' → E x s') (R : Rel g X G rs st h) (hrT : ∀ {fc : FC} {elt : Expr} {gens : List Comprehension} {sc : Scope} {pos : Pos} {st : SS} {K : SV → SS → Prop}, r.ev fc (.ListComp elt gens sc pos) st K → ∃ r', EvOk S r' ∧ TsOk S r' ∧ evComp T r' fc elt gens sc pos st K)
  {x : Str} {p pos : Pos} {e : Expr} (hx : isLoc fc.sc x = true) (hv : okVal e = true) (hk : r.ev fc e st fun v st1 => K .next ⟨lset st1.loc x v, st1.H⟩) (F : FinO g X G rs K Q) : wpAny (model g.prog g.w) X.A (exec (.Assign [.Name x p] e pos) X.env) Q E (X.sh h tk) := by
 have plain : swapsWith e (some (.Name x p)) pos.line X.env = pure false → wpAny (model g.prog g.w) X.A (exec (.Assign [.Name x p] e pos) X.env) Q E (X.sh h tk) := fun hs => by
  refine wpAny_Assign_Name (hr V hE R hk fun G' rs' st' sv v h' tk' y R' hv' hk' => ?_) hs
  exact R'.store V.v (V.store x hx) hv' fun h2 tk2 R2 => F.next y R2 hk'
 by_cases hc : isComp e = true
 ·cases e <;> first | exact ft hc | exact ft hv | skip
  rename_i elt gens sc pos2
  obtain ⟨b, hb⟩ := zgN elt gens sc pos2 x p pos.line X.env
  cases b with
  | false => exact plain hb
  | true =>
   obtain ⟨r', hr', ht', hk'⟩ := hrT hk
   rw [exec_Assign_Name_used _ _ _ _ hb]
   refine wpAny_bind (wpAny_standAt ?_)
   unfold evComp at hk'
   split at hk'
   ·rename_i c
    obtain ⟨target, iter, ifs, a⟩ := c
    unfold evComp1 at hk'
    dsimp only at hk'
    split at hk'
    ·rename_i q
     have := zb3 q
     subst this
     refine wpAny_bind (wpAny_bind (zlF hr' ht' V hE R hx hk' fun G' rs' st' h' tk' y R' k => wpAny_pure (wpAny_pure (F.next y R' k))))
    ·exact hk'.elim
   ·exact hk'.elim
 ·exact plain (za5 (by simpa using hc) _ _ _)
theorem zdX : ∀ {ts : List Expr} {xs : List Str}, nmsE ts = some xs → Names ts xs
 | ts, [], h => by rw [zf0 h]; exact .nil
 | ts, x :: xs, h => by
  obtain ⟨p, r, e, h2⟩ := zc8 h
  rw [e]
  exact .cons (zdX h2)
theorem zdR (V : FOk g S fc X) {ts : List Expr} {xs : List Str} (N : Names ts xs) : ∀ {svs : List SV} {vs : List Value} {l : List (Str × SV)} {st : SS} {h : Heap} {tk : Nat} {Q : Unit → Shared → Prop}, allLoc fc.sc xs = true → Rel g X G rs st h → VRl g G rs svs vs → lsets st.loc xs svs = some l →
  (∀ h' tk', Rel g X G rs ⟨l, st.H⟩ h' → Q () (X.sh h' tk')) → wpAny (model g.prog g.w) X.A (assignInOrder ((assignEach ts X.env).map (·.2)) vs) Q E (X.sh h tk) := by
 induction N with
 | nil =>
  intro svs vs l st h tk Q _ R hv hl hq
  cases svs with
  | nil => cases hl; rw [hv.unnil]; exact wpAny_assignInOrder_none (hq _ _ R)
  | cons a r => exact noS hl
 | cons N ih =>
  intro svs vs l st h tk Q ha R hv hl hq
  cases svs with
  | nil => exact noS hl
  | cons a r =>
   obtain ⟨w, t, rfl, h1, h2⟩ := hv.uncons
   have c2 := zaG ha
   have c1 := zaH ha
   exact wpAny_assignInOrder_more (zbH V R c1 h1 fun h' tk' R' => ih c2 R' h2 hl hq)
theorem zcT (V : FOk g S fc X) : ∀ {xs : List Str} {svs : List SV} {vs : List Value} {l : List (Str × SV)} {st : SS} {h : Heap} {tk : Nat} {Q : Unit → Shared → Prop}, (∀ x ∈ xs, isLoc fc.sc x = true) → Rel g X G rs st h → VRl g G rs svs vs → lsets st.loc xs svs = some l →
  (∀ h' tk', Rel g X G rs ⟨l, st.H⟩ h' → Q () (X.sh h' tk')) → wpAny (model g.prog g.w) X.A (assignInOrder (xs.map fun n => bindName X.env n) vs) Q E (X.sh h tk)
 | [], [], vs, l, st, h, tk, Q, _, R, hv, hl, hq => by cases hl; rw [hv.unnil]; exact wpAny_assignInOrder_none (hq _ _ R)
 | [], _ :: _, vs, l, st, h, tk, Q, _, R, hv, hl, hq => noS hl
 | _ :: _, [], vs, l, st, h, tk, Q, _, R, hv, hl, hq => noS hl
 | x :: xs, a :: r, vs, l, st, h, tk, Q, ha, R, hv, hl, hq => by
  obtain ⟨w, t, rfl, h1, h2⟩ := hv.uncons
  exact wpAny_assignInOrder_more (wpAny_bindName (R.store V.v (V.store x (ha x List.mem_cons_self)) h1 fun h' tk' R' => zcT V (fun y hy => ha y (List.mem_cons_of_mem _ hy)) R' h2 hl hq))
theorem zeM : ∀ {xs : List Str} {svs : List SV} {l0 l : List (Str × SV)}, lsets l0 xs svs = some l → xs.length = svs.length
 | [], [], _, _, _ => rfl
 | [], _ :: _, _, _, h => noS h
 | _ :: _, [], _, _, h => noS h
 | x :: xs, a :: r, l0, l, h => congrArg (· + 1) (zeM (l0 := lset l0 x a) h)
theorem zf4 : ∀ {xs : List Str} {svs : List SV} (l0 : List (Str × SV)), xs.length = svs.length → ∃ l, lsets l0 xs svs = some l
 | [], [], l0, _ => ⟨l0, rfl⟩
 | [], _ :: _, _, h => nomatch h
 | _ :: _, [], _, h => nomatch h
 | x :: xs, a :: r, l0, h => zf4 (lset l0 x a) (Nat.succ.inj h)
theorem zdA : ∀ {xs : List Str} {svs : List SV} {l0 l : List (Str × SV)} {z : Str} {sv : SV}, xs.Nodup → lsets l0 xs svs = some l → (lk l z = some sv ↔ (z, sv) ∈ xs.zip svs ∨ (z ∉ xs ∧ lk l0 z = some sv))
 | [], [], l0, l, z, sv, _, h => by cases h; simp
 | [], _ :: _, _, _, _, _, _, h => noS h
 | _ :: _, [], _, _, _, _, _, h => noS h
 | x :: xs, a :: r, l0, l, z, sv, hn, h => by
  obtain ⟨n1, n2⟩ := List.nodup_cons.mp hn
  rw [zdA (l0 := lset l0 x a) n2 h, zbL]
  by_cases q : x = z
  ·subst q
   rw [if_pos rfl]
   constructor
   ·rintro (w | ⟨_, w⟩)
    ·exact absurd (List.of_mem_zip w).1 n1
    ·cases w; exact .inl List.mem_cons_self
   ·rintro (w | ⟨w, _⟩)
    ·rcases List.mem_cons.mp w with w | w
     ·cases w; exact .inr ⟨n1, rfl⟩
     ·exact .inl w
    ·exact absurd List.mem_cons_self w
  ·rw [if_neg q]
   constructor
   ·rintro (w | ⟨w1, w2⟩)
    ·exact .inl (List.mem_cons_of_mem _ w)
    ·refine .inr ⟨fun w => ?_, w2⟩
     rcases List.mem_cons.mp w with w | w
     ·exact q w.symm
     ·exact w1 w
   ·rintro (w | ⟨w1, w2⟩)
    ·rcases List.mem_cons.mp w with w | w
     ·cases w; exact absurd rfl q
     ·exact .inl w
    ·exact .inr ⟨fun w => w1 (List.mem_cons_of_mem _ w), w2⟩
theorem zdI : ∀ {xs : List Str}, distS xs = true → xs.Nodup
 | [], _ => List.nodup_nil
 | x :: r, h => by
  have h2 := zaG h
  have h1 := zaH h
  refine List.nodup_cons.mpr ⟨?_, zdI h2⟩
  clear h h2
  induction r with
  | nil => exact List.not_mem_nil
  | cons y r ih =>
   have h4 := zaG h1
   have h3 := zaH h1
   intro w
   rcases List.mem_cons.mp w with w | w
   ·exact sEq_false.mp (not_true h3) w
   ·exact ih h4 w
theorem zd5 {sc : Scope} : ∀ {xs : List Str}, allLoc sc xs = true → ∀ x ∈ xs, isLoc sc x = true
 | [], _, _, w => nomatch w
 | y :: r, h, x, w => by
  have h2 := zaG h
  have h1 := zaH h
  rcases List.mem_cons.mp w with w | w
  ·rw [w]; exact h1
  ·exact zd5 h2 x w
theorem zgX {ts : List Expr} {xs : List Str} (N : Names ts xs) (env : Env) : (assignEach ts env).length = xs.length ∧ (assignEach ts env).findIdx? (·.1) = none := by
 induction N with
 | nil => exact ⟨rfl, rfl⟩
 | cons N ih =>
  refine ⟨congrArg (· + 1) ih.1, ?_⟩
  show ((false, _) :: assignEach _ env).findIdx? _ = none
  rw [List.findIdx?_cons, if_neg Bool.false_ne_true, ih.2]; rfl
theorem VRl.reverse : ∀ {svs : List SV} {vs : List Value}, VRl g G rs svs vs → VRl g G rs svs.reverse vs.reverse
 | [], vs, h => by rw [h.unnil]; exact VRl.nil
 | a :: r, vs, h => by
  obtain ⟨w, t, rfl, h1, h2⟩ := h.uncons
  rw [List.reverse_cons, List.reverse_cons]
  exact (VRl.reverse h2).append (VRl.one h1)
theorem zhC {α β : Type} : ∀ {a : List α} {b : List β}, a.length = b.length → a.reverse.zip b.reverse = (a.zip b).reverse
 | [], [], _ => rfl
 | x :: a, y :: b, h => by
  have h' : a.length = b.length := Nat.succ.inj h
  rw [List.reverse_cons, List.reverse_cons, List.zip_append (by rw [List.length_reverse, List.length_reverse, h']), zhC h', List.zip_cons_cons, List.zip_cons_cons, List.reverse_cons]; rfl
theorem zi9 (V : FOk g S fc X) (R : Rel g X G rs st h) {ts : List Expr} {xs : List Str} {sv : SV} {v : Value} {k : Nat} {p : Pos} (hv : VR g G rs sv v) (hk : bindTs fc.sc ts sv st K) (F : FinO g X G rs K Q) :
  ∃ xs, Names ts xs ∧ wpAny (model g.prog g.w) X.A (assign (.Tuple ts k p) X.env v) (fun _ => Q .next) E (X.sh h tk) ∧
  wpAny (model g.prog g.w) X.A (unpackItems v xs.length none) (fun items s₂ => wpAny (model g.prog g.w) X.A (assignInOrder (xs.reverse.map fun n => bindName X.env n) items.reverse) (fun _ => Q .next) E s₂) E (X.sh h tk) := by
 revert hk
 refine OM_e fun xs hx hk => ?_
 cases sv with
 | tup svs =>
  have c := CK_l hk
  replace hk := CK_r hk
  revert hk
  refine OM_e fun l hl hk => ?_
  have c2 := zaG c
  have c1 := zaH c
  have N := zdX hx
  have nd := zdI c1
  obtain ⟨a, vs, n, rfl, ha, hvs⟩ := hv
  have len := zeM hl
  have ln : vs.length = xs.length := by rw [hvs.length, len]
  obtain ⟨n1, n2⟩ := zgX N X.env
  refine ⟨xs, N, ?_, ?_⟩
  ·exact wpAny_assign_Tuple V.hh (za3 (R.sto _ _ ha)) (by rw [n1, List.size_toArray, ln]) n2 fun h' hx => zdR V N c2 (R.keeps fun b o e => hx b o (Nat.ne_of_lt (Heap.lt_size e)) e) hvs hl fun h3 tk3 R3 => F.next Ext.refl R3 hk
  ·rw [← ln, ← List.size_toArray]
   refine unpackItems_tuple (items := vs.toArray) V.hh (za3 (R.sto _ _ ha)) fun h' hx => ?_
   obtain ⟨l2, hl2⟩ := zf4 (xs := xs.reverse) (svs := svs.reverse) st.loc (by rw [List.length_reverse, List.length_reverse, len])
   refine zcT V (fun x hx => zd5 c2 x (List.mem_reverse.mp hx)) (R.keeps fun b o e => hx b o (Nat.ne_of_lt (Heap.lt_size e)) e) hvs.reverse hl2 fun h3 tk3 R3 => F.next Ext.refl (R3.locEq (l := l) fun z sv' e => ?_) hk
   refine (zdA (List.pairwise_reverse.mpr (nd.imp Ne.symm)) hl2).mpr ?_
   rcases (zdA nd hl).mp e with w | ⟨w1, w2⟩
   ·left
    rw [zhC len]
    exact List.mem_reverse.mpr w
   ·exact .inr ⟨fun w => w1 (List.mem_reverse.mp w), w2⟩
 | _ => exact False.elim hk
set_option tactic.hygienic true in
theorem zjD (hr : EvOk S r) (ht : TsOk S r) (V : FOk g S fc X) (hE : fc.Er → ∀ x s', S.Sg X x s' → E x s') (ok : GlobOk g T) (R : Rel g X G rs st h) (hrT : ∀ {fc : FC} {elt : Expr} {gens : List Comprehension} {sc : Scope} {pos : Pos} {st : SS} {K : SV → SS → Prop}, r.ev fc (.ListComp elt gens sc pos) st K → ∃ r', EvOk S r' ∧ TsOk S r' ∧ evComp T r' fc elt gens sc pos st K)
  {ts : List Expr} {e : Expr} {pos : Pos} (hk : exAssign T r fc ts e st K) (F : FinO g X G rs K Q) : wpAny (model g.prog g.w) X.A (exec (.Assign ts e pos) X.env) Q E (X.sh h tk) := by
 rcases ts with _ | ⟨t, _ | ⟨_, _⟩⟩
 ·exact False.elim hk
 ·cases t with
  | Name x p =>
   have c := CK_l hk
   replace hk := CK_r hk
   have c2 := zaG c
   have c1 := zaH c
   exact zeE hr ht V hE R hrT c1 c2 hk F
  | Attribute o a p =>
   have c := CK_l hk
   replace hk := CK_r hk
   have c2 := zaG c
   have c1 := zaH c
   refine plainObj_wpAny_Assign_Attribute (hr V hE R hk fun G' rs' st' sv v h' tk' x R' hv hk' => ?_) (za5 (not_true c1) _ _ _)
   refine hr V hE R' hk' fun G2 rs2 st2 so vo h2 tk2 x2 R2 ho hk2 => ?_
   unfold setA at hk2
   split at hk2
   ·rename_i C i
    split at hk2
    ·rename_i fs q
     have c3 := CK_l hk2
     have hk3 := CK_r hk2
     have c5 := zaG c3
     have c4 := zaH c3
     exact R2.setAttr ho q (Nat.le_of_ble_eq_true c4) (hv.mono x2) (ok.tab.sets _ _ c5) fun h3 R3 => F.next (x.trans x2) R3 hk3
    ·exact hk2.elim
   ·exact hk2.elim
  | Subscript o i p =>
   have c := CK_l hk
   replace hk := CK_r hk
   refine wpAny_Assign_Subscript (hr V hE R hk fun G' rs' st' sv v h' tk' x R' hv hk' => ?_) (za5 (not_true c) _ _ _)
   refine hr V hE R' hk' fun G2 rs2 st2 so vo h2 tk2 x2 R2 ho hk2 => ?_
   refine hr V hE R2 hk2 fun G3 rs3 st3 si vi h3 tk3 x3 R3 hi hk3 => ?_
   exact R3.setI hk3 (ho.mono x3) hi ((hv.mono x2).mono x3) fun st4 h4 tk4 R4 hk4 => F.next ((x.trans x2).trans x3) R4 hk4
  | Tuple tsl k p =>
   have c := CK_l hk
   replace hk := CK_r hk
   have c2 := zaG c
   have c1 := zaH c
   have hsw : swapsWithSole [.Tuple tsl k p] e pos.line X.env = pure false := by
    show swapsWith e (some (.Tuple tsl k p)) pos.line X.env = pure false
    exact za5 (not_true c1) _ _ _
   rw [PyProof.Rows.exec_Assign]
   refine wpAny_bind (wpAny_standAt ?_)
   rw [hsw]
   refine wpAny_bind (wpAny_pure ?_)
   rw [if_neg (by decide)]
   refine wpAny_bind (hr V hE R hk fun G' rs' st' sv v h' tk' x R' hv hk' => ?_)
   obtain ⟨xs, hn, a1, a2⟩ := zi9 (E := E) (tk := tk') (xs := []) (k := k) (p := p) V R' hv hk' (F.ext x)
   rcases zkF (k := k) (p := p) (env := X.env) hn c2 with hw | hw
   ·rw [hw]
    refine wpAny_bind (wpAny_pure ?_)
    show wpAny (model g.prog g.w) X.A (do assignAll v [assign (.Tuple tsl k p) X.env]; pure Flow.next : Sem Flow) Q E (X.sh h' tk')
    exact wpAny_bind (wpAny_mono a1 (fun _ _ x => wpAny_pure x) fun _ _ x => x)
   ·rw [hw]
    refine wpAny_bind (wpAny_pure ?_)
    show wpAny (model g.prog g.w) X.A (do rule "assign.swapped-stores"; let items ← unpackItems v xs.length none; assignInOrder (xs.reverse.map fun n => bindName X.env n) items.reverse; pure Flow.next : Sem Flow) Q E (X.sh h' tk')
    exact wpAny_bind (wpAny_rule (wpAny_bind (wpAny_mono a2 (fun items s₂ h₂ => wpAny_bind (wpAny_mono h₂ (fun _ _ x => wpAny_pure x) fun _ _ x => x)) fun _ _ x => x)))
  | _ => exact False.elim hk
 ·exact False.elim hk
theorem zhV (hr : EvOk S r) (V : FOk g S fc X) (hE : fc.Er → ∀ x s', S.Sg X x s' → E x s') (R : Rel g X G rs st h) {e : Option Expr} {pos : Pos} (hk : exReturn r fc e st K) (F : FinO g X G rs K Q) : wpAny (model g.prog g.w) X.A (exec (.Return e pos) X.env) Q E (X.sh h tk) := by
 unfold exReturn at hk
 split at hk
 ·exact wpAny_Return_some (hr V hE R hk fun G' rs' st' sv v h' tk' x R' hv hk' => F _ _ _ (.ret sv) _ _ _ x R' ⟨v, rfl, hv⟩ hk')
 ·exact wpAny_Return_none (F _ _ _ (.ret .none) _ _ _ Ext.refl R ⟨.none, rfl, VR.none⟩ hk)
theorem zsA (ht : TsOk S r) (hx : ExOk S r) (V : FOk g S fc X) (hE : fc.Er → ∀ x s', S.Sg X x s' → E x s') (R : Rel g X G rs st h) {t : Expr} {a b : List Stmt} {pos : Pos} (hk : r.ts fc t st fun c st1 => BR c (exs r fc a st1 K) (exs r fc b st1 K)) (F : FinO g X G rs K Q) :
  wpAny (model g.prog g.w) X.A (exec (.If t a b pos) X.env) Q E (X.sh h tk) := by
 refine wpAny_If (ht V hE R hk fun G' rs' st' c h' tk' x R' hk' => ?_)
 have k1 := BR_l hk'
 have k2 := BR_r hk'
 cases c with
 | true => simp only [if_true]; exact zcS hx V hE R' (k1 rfl) (F.ext x)
 | false => exact zcS hx V hE R' (k2 rfl) (F.ext x)
theorem znZ (hr : EvOk S r) (V : FOk g S fc X) (hE : fc.Er → ∀ x s', S.Sg X x s' → E x s') (R : Rel g X G rs st h) {e : Expr} {pos : Pos} (hc : isCall e = true) (hk : r.ev fc e st fun _ st1 => K .next st1) (F : FinO g X G rs K Q) :
  wpAny (model g.prog g.w) X.A (exec (.Expr e pos) X.env) Q E (X.sh h tk) := by
 refine wpAny_Expr_any (hr V hE R hk fun G' rs' st' sv v h' tk' x R' hv hk' => F.next x R' hk') ?_ ?_
 ·show (X.env.scope.kind == .module && _) = false
  rw [V.v.kind]; rfl
 ·cases e <;> first | rfl | exact ft hc
set_option tactic.hygienic true in
theorem zk1 (hr : EvOk S r) (hx : ExOk S r) (V : FOk g S fc X) (hE : fc.Er → ∀ x s', S.Sg X x s' → E x s') (R : Rel g X G rs st h) {target iter : Expr} {body orelse : List Stmt} {pos : Pos} (hk : exFor r fc target iter body orelse pos st K) (F : FinO g X G rs K Q) :
  wpAny (model g.prog g.w) X.A (exec (.For target iter body orelse pos) X.env) Q E (X.sh h tk) := by
 unfold exFor at hk
 split at hk
 ·have c := CK_l hk
  replace hk := CK_r hk
  refine wpAny_For (hr V hE R hk fun G' rs' st1 it v h1 tk1 x R1 hv hk1 => ?_) (zdW c _)
  split at hk1
  ·rename_i its hi
   have c2 := CK_l hk1
   replace hk1 := CK_r hk1
   refine ze8 R1 V.hh hv hi fun o fp P St hIt hS0 hlive => ?_
   have ap : Apart X G' rs' h1.objs.size := R1.apart (Nat.le_refl _)
   have R2 : Rel g X G' rs' st1 (h1.push o) := R1.keeps fun b o e => Heap.get?_push_of_some _ e
   split at hk1
   ·refine ziN hx V hE (fun i st => forL r fc target body (its.drop i) st K) (fun i st => forL r fc target body (its.drop (i + 1)) st K) ?_ ?_ ?_ hIt R2 ap hS0 hk1 (F.ext x)
    ·intro i sv st' hsv hJ
     have hd : its.drop i = sv :: its.drop (i + 1) := by
      obtain ⟨hlt, e⟩ := List.getElem?_eq_some_iff.mp hsv
      rw [List.drop_eq_getElem_cons hlt, e]
     rw [hd] at hJ
     unfold forL at hJ
     exact hJ
    ·intro i st3 G3 rs3 h3 hN x3 R3
     exact ⟨st3, rs3, x3, R3, fun _ q => q, hN⟩
    ·intro st' hJ
     rw [List.drop_length] at hJ
     exact hJ
   ·rename_i L hL
    have seg : ∀ {i : Nat} {sv : SV}, its[i]? = some sv → its = its.take i ++ sv :: its.drop (i + 1) ∧ its.take i ++ [sv] = its.take (i + 1) := fun {i sv} hsv => by
     refine ⟨?_, by rw [List.take_add_one, hsv]; rfl⟩
     obtain ⟨hlt, e⟩ := List.getElem?_eq_some_iff.mp hsv
     rw [← e, ← List.drop_eq_getElem_cons hlt, List.take_append_drop]
    split at hk1
    ·obtain ⟨⟨x0, f0, p0⟩, hstep, hfin⟩ := hk1
     have R3 := R2.sub (zbR f0)
     refine ziN hx V hE (fun i st => ∃ x, L.st x = st ∧ L.P (its.take i) x) (fun i st => ∃ x', Fits L x' st ∧ L.P (its.take (i + 1)) x') ?_ ?_ ?_ hIt R3 ap hS0 ⟨x0, rfl, by simpa using p0⟩ (F.ext x)
     ·rintro i sv st' hsv ⟨y, rfl, hp⟩
      obtain ⟨e1, e2⟩ := seg hsv
      have := hstep y (its.take i) sv (its.drop (i + 1)) e1 hp
      rw [e2] at this
      exact this
     ·rintro i st3 G3 rs3 h3 ⟨x', hf, hp⟩ x3 R3
      exact ⟨_, rs3, x3, R3.sub (zbR hf), fun _ q => q, x', rfl, hp⟩
     ·rintro st' ⟨y, rfl, hp⟩
      rw [List.take_length] at hp
      exact hfin y hp
    ·have c3 := CK_l hk1
     replace hk1 := CK_r hk1
     obtain ⟨⟨x0, f0, p0⟩, hstep, hfin⟩ := hk1
     have hH : st1.H = [] := by
      cases w : st1.H with
      | nil => rfl
      | cons a l => rw [w] at c3; cases c3
     have hrs : rs' = [] := by
      have := R2.len
      rw [hH] at this
      exact List.eq_nil_of_length_eq_zero this
     subst hrs
     have R3 := R2.sub (zbR f0)
     refine ziN hx V hE (fun i st => ∃ x, L.st x = st ∧ L.P (its.take i) x) (fun i st => ∃ x', FitD L x' st ∧ L.P (its.take (i + 1)) x') ?_ ?_ ?_ hIt R3 ap hS0 ⟨x0, rfl, by simpa using p0⟩ (F.ext x)
     ·rintro i sv st' hsv ⟨y, rfl, hp⟩
      obtain ⟨e1, e2⟩ := seg hsv
      have := hstep y (its.take i) sv (its.drop (i + 1)) e1 hp
      rw [e2] at this
      exact this
     ·rintro i st3 G3 rs3 h3 ⟨x', ⟨hf, hf2, hf3⟩, hp⟩ x3 R3
      refine ⟨L.st x', [], x3.nil, ?_, fun _ q => by simp at q, x', rfl, hp⟩
      have := R3.drop (loc := (L.st x').loc) fun y sv e => ⟨zk3 hf y sv e, zgL hf3 e⟩
      rw [← hf2] at this
      exact this
     ·rintro st' ⟨y, rfl, hp⟩
      rw [List.take_length] at hp
      exact hfin y hp
  ·exact hk1.elim
 ·exact hk.elim
end
end Mine
end
section
open PySem.SeqAt PySem.EqBoolInt
namespace Mine
section
variable {g : Gl} {S : Sigs g} {T : Tab} {fc : FC} {X : Cx} {G : Sto} {rs : List Addr} {st : SS} {h : Heap} {tk : Nat} {E : Value → Shared → Prop} {r : Bd} {K : Out → SS → Prop} {Q : Flow → Shared → Prop}
structure ExcOk (g : Gl) (S : Sigs g) (T : Tab) : Prop where
 raise : ∀ {r : Bd} {fc : FC} {X : Cx} {G : Sto} {rs : List Addr} {st : SS} {h : Heap} {tk : Nat} {E : Value → Shared → Prop} {e c : Option Expr} {pos : Pos} {Q : Flow → Shared → Prop}, EvOk S r → FOk g S fc X → (fc.Er → ∀ x s', S.Sg X x s' → E x s') → Rel g X G rs st h → exRaise r fc e c st →
  wpAny (model g.prog g.w) X.A (exec (.Raise e c pos) X.env) Q E (X.sh h tk)
 try_ : ∀ {r : Bd} {fc : FC} {X : Cx} {G : Sto} {rs : List Addr} {st : SS} {h : Heap} {tk : Nat} {E : Value → Shared → Prop} {b el fi : List Stmt} {hs : List ExceptHandler} {pos : Pos} {K : Out → SS → Prop} {Q : Flow → Shared → Prop}, EvOk S r → ExOk S r → FOk g S fc X → (fc.Er → ∀ x s', S.Sg X x s' → E x s') → Rel g X G rs st h → exTry T r fc b hs el fi st K → FinO g X G rs K Q →
  wpAny (model g.prog g.w) X.A (exec (.Try b hs el fi pos) X.env) Q E (X.sh h tk)
noncomputable def Good (S : Sigs g) (r : Bd) : Prop := EvOk S r ∧ TsOk S r ∧ ExOk S r
inductive WhI (g : Gl) (X : Cx) (G : Sto) (rs : List Addr) (P : SS → Prop) (s : Shared) : Prop
 | mk (G' : Sto) (rs' : List Addr) (st' : SS) (h' : Heap) (tk' : Nat) (es : s = X.sh h' tk') (x : Ext G rs G' rs') (R : Rel g X G' rs' st' h') (k : P st')
theorem zjK (n : Nat) (ih : ∀ k, k ≤ n → Good S (bdOf T k)) (V : FOk g S fc X) (hE : fc.Er → ∀ x s', S.Sg X x s' → E x s') (R : Rel g X G rs st h) {t : Expr} {body orelse : List Stmt} {pos : Pos} (hk : exWhile (bdOf T n) fc t body orelse pos st K) (F : FinO g X G rs K Q) :
  wpAny (model g.prog g.w) X.A (exec (.While t body orelse pos) X.env) Q E (X.sh h tk) := by
 have hE2 : fc.Er → ∀ e s', S.Sg X e s' → notedBy (model g.prog g.w) X.A X.env (cameBackBy (model g.prog g.w) X.A X.env E) e s' := fun hEr e s' hs => S.own (V.fr (.inl hEr)) (hE hEr) e s' hs
 cases orelse with
 | cons _ _ => exact (show False from hk).elim
 | nil =>
  refine wpAny_While ?_
  cases hlp : fc.lp (key pos) [] with
  | none =>
   have turn : ∀ k st', (bdOf T k).ex fc (.While t body [] pos) st' K → ∃ k', k = k' + 1 ∧ (bdOf T k').ts fc t st' fun c st1 => BR c (exs (bdOf T k') fc body st1 fun o st2 => match o with
     | .next => (bdOf T k').ex fc (.While t body [] pos) st2 K
     | .cont => (bdOf T k').ex fc (.While t body [] pos) st2 K
     | .brk => K .next st2
     | .ret v => K (.ret v) st2) (K .next st1) := fun k st' hk => by
    cases k with
    | zero => exact (show False from hk).elim
    | succ k =>
     have hk1 : exWhile (bdOf T k) fc t body [] pos st' K := hk
     unfold exWhile at hk1
     dsimp only at hk1
     rw [hlp] at hk1
     exact ⟨k, rfl, hk1⟩
   refine codeAny_whileLoop (fun m => WhI g X G rs fun st' => m ≤ n + 1 ∧ (bdOf T m).ex fc (.While t body [] pos) st' K) ?_ (n + 1) ⟨G, rs, st, h, tk, rfl, Ext.refl, R, Nat.le_refl _, hk⟩
   rintro m s ⟨G', rs', st', h', tk', rfl, x, R', hm, hk'⟩
   obtain ⟨k, rfl, hk1⟩ := turn _ _ hk'
   obtain ⟨hr, ht, hx⟩ := ih k (by lia)
   refine ht V hE2 R' hk1 fun G2 rs2 st2 c h2 tk2 x2 R2 hk2 => ?_
   have k1 := BR_l hk2
   have k2 := BR_r hk2
   cases c with
   | false => exact wpAny_execs_nil (F.next (x.trans x2) R2 (k2 rfl))
   | true =>
    simp only [if_true]
    refine zcS hx V hE2 R2 (k1 rfl) fun G3 rs3 st3 o f h3 tk3 x3 R3 hf hk3 => ?_
    cases o with
    | next => obtain rfl := show _ = _ from hf; exact ⟨k, Nat.lt_succ_self _, G3, rs3, st3, h3, tk3, rfl, (x.trans x2).trans x3, R3, by lia, hk3⟩
    | cont => obtain rfl := show _ = _ from hf; exact ⟨k, Nat.lt_succ_self _, G3, rs3, st3, h3, tk3, rfl, (x.trans x2).trans x3, R3, by lia, hk3⟩
    | brk => obtain rfl := show _ = _ from hf; exact F.next ((x.trans x2).trans x3) R3 hk3
    | ret sv =>
     obtain ⟨u, rfl, hu⟩ := hf
     exact F _ _ _ (.ret sv) _ _ _ ((x.trans x2).trans x3) R3 ⟨u, rfl, hu⟩ hk3
  | some L =>
   unfold exWhile at hk
   dsimp only at hk
   rw [hlp] at hk
   obtain ⟨⟨x0, f0, p0⟩, hstep⟩ := hk
   obtain ⟨hr, ht, hx⟩ := ih n (Nat.le_refl _)
   refine codeAny_whileLoop (fun m => WhI g X G rs fun st' => ∃ y, L.st y = st' ∧ L.P [] y ∧ L.ms y = m) ?_ (L.ms x0) ⟨G, rs, _, h, tk, rfl, Ext.refl, R.sub (zbR f0), x0, rfl, p0, rfl⟩
   rintro m s ⟨G', rs', _, h', tk', rfl, x, R', y, rfl, hp, rfl⟩
   refine ht V hE2 R' (hstep y hp) fun G2 rs2 st2 c h2 tk2 x2 R2 hk2 => ?_
   have k1 := BR_l hk2
   have k2 := BR_r hk2
   cases c with
   | false => exact wpAny_execs_nil (F.next (x.trans x2) R2 (k2 rfl))
   | true =>
    simp only [if_true]
    refine zcS hx V hE2 R2 (k1 rfl) fun G3 rs3 st3 o f h3 tk3 x3 R3 hf hk3 => ?_
    cases o with
    | next =>
     obtain rfl := show _ = _ from hf
     obtain ⟨z, hz, hpz, hms⟩ := hk3
     exact ⟨_, hms, G3, rs3, _, h3, tk3, rfl, (x.trans x2).trans x3, R3.sub (zbR hz), z, rfl, hpz, rfl⟩
    | cont =>
     obtain rfl := show _ = _ from hf
     obtain ⟨z, hz, hpz, hms⟩ := hk3
     exact ⟨_, hms, G3, rs3, _, h3, tk3, rfl, (x.trans x2).trans x3, R3.sub (zbR hz), z, rfl, hpz, rfl⟩
    | brk => obtain rfl := show _ = _ from hf; exact F.next ((x.trans x2).trans x3) R3 hk3
    | ret sv =>
     obtain ⟨u, rfl, hu⟩ := hf
     exact F _ _ _ (.ret sv) _ _ _ ((x.trans x2).trans x3) R3 ⟨u, rfl, hu⟩ hk3
theorem zn3 (ok : CallOk g S T) (ex : ExcOk g S T) (n : Nat) (ih : ∀ k, k ≤ n → Good S (bdOf T k)) : ExOk S (bdOf T (n + 1)) := by
 intro fc X G rs st h tk E s K Q V hE R hk F
 have hk0 : exStep T (bdOf T n) fc s st K := hk
 clear hk
 obtain ⟨hr, ht, hx⟩ := ih n (Nat.le_refl _)
 cases s with
 | Assign ts e p =>
  refine zjD (T := T) hr ht V hE ok.glob R ?_ hk0 F
  intro fc elt gens sc pos st K hk
  cases n with
  | zero => exact (show False from hk).elim
  | succ k =>
   obtain ⟨a, b, c⟩ := ih k (Nat.le_succ _)
   exact ⟨_, a, b, hk⟩
 | Return e p => exact zhV hr V hE R hk0 F
 | If t a b p => exact zsA ht hx V hE R hk0 F
 | Expr e p =>
  have c := CK_l hk0
  have hk1 := CK_r hk0
  exact znZ hr V hE R c hk1 F
 | While t b o p => exact zjK n ih V hE R hk0 F
 | For t i b o p => exact zk1 hr hx V hE R hk0 F
 | Raise e c p => exact ex.raise hr V hE R hk0
 | Try b hs el fi p => exact ex.try_ hr hx V hE R hk0 F
 | Pass p => exact wpAny_Pass (F.next Ext.refl R hk0)
 | _ => exact False.elim hk0
theorem zkJ (ok : CallOk g S T) (ex : ExcOk g S T) : ∀ n, Good S (bdOf T n) := by
 intro n
 induction n using Nat.strongRecOn with
 | ind n ih =>
  cases n with
  | zero => exact ⟨fun _ _ _ hk _ => (show False from hk).elim, fun _ _ _ hk _ => (show False from hk).elim, fun _ _ _ hk _ => (show False from hk).elim⟩
  | succ n =>
   have ih' : ∀ k, k ≤ n → Good S (bdOf T k) := fun k hk => ih k (Nat.lt_succ_of_le hk)
   obtain ⟨hr, ht, hx⟩ := ih' n (Nat.le_refl _)
   exact ⟨zn4 ok hr ht hx, zrZ hr ht, zn3 ok ex n ih'⟩
end
end Mine
end
section
open PySem.SeqAt PySem.EqBoolInt
namespace Mine
section
variable {g : Gl} {S : Sigs g} {T : Tab} {fc : FC} {X : Cx} {G G' : Sto} {rs : List Addr} {st : SS} {h : Heap} {tk : Nat} {r : Bd}
theorem VR.still {sv : SV} {v : Value} (hs : match sv with | .obj _ => False | .ins _ _ => False | .tup _ => False | _ => True) (hv : VR g G rs sv v) : VR g G [] sv v := by
 cases sv <;> first | exact hs.elim | exact hv
section
variable {H : List SO} (x : Ext G [] G' []) (hc : ∀ (i : Nat) a so, rs[i]? = some a → H[i]? = some so → CellR g G rs h a so ∧ G' a = h.get? a)
include x hc
theorem zqT (n : Nat) : ∀ {sv u : SV} {v : Value}, VR g G rs sv v → frz H n sv = some u → VR g G' [] u v := by
 induction n with
 | zero => intro sv u v hv e; exact noS e
 | succ n ih =>
  have ihL : ∀ {svs us : List SV} {vs : List Value}, VRl g G rs svs vs → frzL (frz H n) svs = some us → VRl g G' [] us vs := by
   intro svs
   induction svs with
   | nil => intro us vs hv e; cases e; exact hv
   | cons s r ih2 =>
    intro us vs hv e
    obtain ⟨w, t, rfl, h1, h2⟩ := hv
    obtain ⟨u0, q1, e⟩ := Option.bind_eq_some_iff.mp e
    obtain ⟨us0, q2, rfl⟩ := Option.map_eq_some_iff.mp e
    exact VRl.cons (ih h1 q1) (ih2 h2 q2)
  have ihF : ∀ {fs us : List (Str × SV)} {es : List DictEntry}, FRl g G rs fs es → frzD (frz H n) fs = some us → FRl g G' [] us es := by
   intro fs
   induction fs with
   | nil => intro us es hv e; cases e; exact hv
   | cons s r ih2 =>
    intro us es hv e
    obtain ⟨w, t, rfl, h0, h1, h2⟩ := hv
    obtain ⟨u0, q1, e⟩ := Option.bind_eq_some_iff.mp e
    obtain ⟨us0, q2, rfl⟩ := Option.map_eq_some_iff.mp e
    exact ⟨w, t, rfl, h0, ih h1 q1, ih2 h2 q2⟩
  have ihD : ∀ {fs us : List (Int × SV)} {f : Int → Option Value}, DRl g G rs fs f → frzD (frz H n) fs = some us → DRl g G' [] us f := by
   intro fs
   induction fs with
   | nil => intro us es hv e; cases e; exact hv
   | cons s r ih2 =>
    intro us f hv e
    obtain ⟨w, f', h0, h1, h2⟩ := hv
    obtain ⟨u0, q1, e⟩ := Option.bind_eq_some_iff.mp e
    obtain ⟨us0, q2, rfl⟩ := Option.map_eq_some_iff.mp e
    exact ⟨w, f', h0, ih h1 q1, ih2 h2 q2⟩
  intro sv u v hv e
  cases sv with
  | obj i =>
   obtain ⟨a, hr, rfl⟩ := hv
   obtain ⟨so, q, e⟩ := Option.bind_eq_some_iff.mp e
   obtain ⟨c, ge⟩ := hc i a so hr q
   cases so with
   | seq vs =>
    obtain ⟨ws, m, ha, hw⟩ := c
    obtain ⟨us, q2, rfl⟩ := Option.map_eq_some_iff.mp e
    exact ⟨a, ws, m, rfl, ge.trans ha, ihL hw q2⟩
   | idict es k =>
    obtain ⟨o, f, ds, ep, ha, hm, hd, hz, hs, hw⟩ := c
    obtain ⟨us, q2, rfl⟩ := Option.map_eq_some_iff.mp e
    exact ⟨a, o, f, rfl, ge.trans ha, hm, hs, ihD hw q2⟩
   | fields _ => exact noS e
  | ins C i =>
   obtain ⟨y, d, hr, hx, rfl⟩ := hv
   obtain ⟨so, q, e⟩ := Option.bind_eq_some_iff.mp e
   obtain ⟨c, ge⟩ := hc i d so hr q
   cases so with
   | fields fs =>
    obtain ⟨es, m, ha, hw⟩ := c
    obtain ⟨us, q2, rfl⟩ := Option.map_eq_some_iff.mp e
    exact ⟨y, d, es, m, rfl, x.g _ _ hx, ge.trans ha, ihF hw q2⟩
   | _ => exact noS e
  | tup svs =>
   obtain ⟨a, vs, m, rfl, ha, hw⟩ := hv
   obtain ⟨us, q2, rfl⟩ := Option.map_eq_some_iff.mp e
   exact ⟨a, vs, m, rfl, x.g _ _ ha, ihL hw q2⟩
  | _ =>
   cases e
   exact VR.mono x (VR.still trivial hv)
end
theorem Rel.frz (R : Rel g X G rs st h) (ho : X.own = []) : ∃ G', Ext G [] G' [] ∧ Rel g X G' [] ⟨[], []⟩ h ∧ ∀ n sv v u, VR g G rs sv v → Mine.frz st.H n sv = some u → VR g G' [] u v := by
 classical
 let G' : Sto := fun b => if b ∈ rs then h.get? b else G b
 have hin : ∀ b, b ∈ rs → G' b = h.get? b := fun b hb => if_pos hb
 have hout : ∀ b, b ∉ rs → G' b = G b := fun b hb => if_neg hb
 have x : Ext G [] G' [] := ⟨fun b o e => by
  rw [hout b fun q => by rw [R.fresh b (List.mem_append_right _ q)] at e; cases e]; exact e, [], rfl⟩
 refine ⟨G', x, ⟨fun b o e => ?_, fun b o e => x.g _ _ (R.base b o e), R.ns, R.cels, (fun _ _ e => nomatch e), rfl, fun i a so e => by simp at e, ⟨fun _ _ => List.not_mem_nil, List.nodup_nil⟩, fun a ha => ?_, fun a ha => ?_, R.wfa, R.ownl, R.old, R.olds, R.fo, R.lc, fun b o e => ?_⟩, fun n sv v u hv e => ?_⟩
 ·by_cases q : b ∈ rs
  ·rw [hin b q] at e; exact e
  ·rw [hout b q] at e; exact R.sto b o e
 ·rcases List.mem_append.mp ha with q | q
  ·rw [hout a (R.nd.1 a q)]; exact R.fresh a (List.mem_append_left _ q)
  ·cases q
 ·rcases List.mem_append.mp ha with q | q
  ·exact R.own a (List.mem_append_left _ q)
  ·cases q
 ·by_cases q : b ∈ rs
  ·right
   rcases R.own b (List.mem_append_right _ q) with z | z
   ·rw [ho] at z; cases z
   ·exact z
  ·rw [hout b q] at e; exact R.gnew b o e
 ·exact zqT x (fun i a so e1 e2 => ⟨R.cell i a so e1 e2, hin a (List.mem_of_getElem? e1)⟩) n hv e
noncomputable def Fz (K : SV → Prop) (v : SV) (st : SS) : Prop := ∃ n u, Mine.frz st.H n v = some u ∧ K u
theorem ziO {R : Result → Shared → Prop} {K : SV → Prop} (Rl : Rel g X G rs st h) (hret : ∀ G' sv v h' tk', Ext G rs G' rs → Rel g X G' rs st h' → VR g G' [] sv v → K sv → R (.ok (.ret v)) (X.sh h' tk')) : Fin g (X.virt G h) G [] (Fz K) fun v s' => R (.ok (.ret v)) s' := by
 intro G' rs' st' sv v h' tk' x R' hv ⟨n, u, e, k⟩
 obtain ⟨G2, x2, R2, hf⟩ := R'.frz rfl
 have x3 : Ext G [] G2 [] := Ext.trans ⟨x.g, [], rfl⟩ x2
 exact hret G2 u v h' tk' ⟨x3.g, [], by simp⟩ (Rel.back0 Rl R2 rfl rfl rfl rfl x3) (hf n sv v u hv e) k
theorem zbU (ok : CallOk g S T) (ex : ExcOk g S T) {a : Addr} {N n : Nat} {sp : Spec} {lp : Nat → List (Str × SV) → Option Loop} {sc : Scope} {tr : Bool}
  (hv : ∀ svs K Er, sp svs K Er → callF T (bdOf T n) ⟨sc, N, lp, Er, tr⟩ a svs ⟨[], []⟩ (Fz K)) : SemSpec g S tr a N sp := by
 intro X G rs st h tk vals svs K Er R Rl hvs hh hd hu hon hfr hsp hret herr
 refine zcI (X := X.virt G h) (fc := ⟨sc, N, lp, Er, tr⟩) ok (zkJ ok ex n).2.2 ⟨hh, fun d e => ?_, hon, hfr⟩ herr Rl.virt hvs (hv svs K Er hsp) (ziO Rl hret)
 have e' : N = d + 1 := e
 show X.A.depth + 1 + 3 * d ≤ 900 ∧ X.A.units + 3 + 12 * d ≤ 8000
 lia
theorem zkI (ok : CallOk g S T) (ex : ExcOk g S T) {C i : Addr} {N n : Nat} {sp : Spec} {lp : Nat → List (Str × SV) → Option Loop} {sc : Scope} (hc : T.cls C = some i)
  (hv : ∀ svs K Er, sp svs K Er → callF T (bdOf T n) ⟨sc, N, lp, False, false⟩ i (.ins C 0 :: svs) ⟨[], [.fields []]⟩ fun v st' => match v with
    | .none => Fz K (.ins C 0) st'
    | _ => False) : SemSpec g S false C N sp := by
 intro X G rs st h tk vals svs K Er R Rl hvs hh hd hu hon hfr hsp hret herr
 exact zh2 (X := X.virt G h) (fc := ⟨sc, N, lp, False, false⟩) (K := Fz K) ok (zkJ ok ex n).2.2 hh hd hu Rl.virt hc hvs (hv svs K Er hsp) (ziO Rl hret)
end
end Mine
end
section
open PySem.SeqAt PySem.EqBoolInt
namespace Mine
theorem zbC {α : Type} : ∀ {ns : List Str} {vs : List α}, ns.length = vs.length → ∀ n ∈ ns, ((ns.zip vs).lookup n).isSome = true
 | [], [], _, n, h => by cases h
 | a :: r, v :: t, hl, n, h => by
  rw [List.zip_cons_cons, List.lookup_cons]
  by_cases e : n = a
  ·subst e; simp
  ·rw [beq_eq_false_iff_ne.mpr e]
   exact zbC (by simpa using hl) n ((List.mem_cons.mp h).resolve_left e)
theorem zb6 {α β : Type} {f g : α → Option β} : ∀ {l : List α}, (∀ x ∈ l, f x = g x) → l.filterMap f = l.filterMap g
 | [], _ => rfl
 | a :: r, h => by
  rw [List.filterMap_cons, List.filterMap_cons, h a List.mem_cons_self, zb6 fun x hx => h x (List.mem_cons_of_mem _ hx)]
theorem zcG {α : Type} : ∀ {ns : List Str} {vs : List α}, ns.length = vs.length → ns.Nodup → ns.filterMap (fun n => ((ns.zip vs).lookup n).map (n, ·)) = ns.zip vs
 | [], [], _, _ => rfl
 | a :: r, v :: t, hl, hn => by
  obtain ⟨h1, h2⟩ := List.nodup_cons.mp hn
  have ih := zcG (ns := r) (vs := t) (by simpa using hl) h2
  have e2 : r.filterMap (fun n => (((a :: r).zip (v :: t)).lookup n).map (n, ·)) = r.filterMap (fun n => ((r.zip t).lookup n).map (n, ·)) := zb6 fun n hm => by
   have : n ≠ a := fun e => h1 (e ▸ hm)
   rw [List.zip_cons_cons, List.lookup_cons, beq_eq_false_iff_ne.mpr this]
  have e1 : (((a :: r).zip (v :: t)).lookup a) = some v := by rw [List.zip_cons_cons, List.lookup_cons]; simp
  rw [List.filterMap_cons, e1, e2, ih]
  rfl
theorem zfP {k : Str → Option NameKind} {x : Str} : ∀ {b : List (Str × Value)} {m : Str → Option Value}, x ∉ b.map (·.1) → bindL k b m x = m x := by
 intro b
 induction b with
 | nil => intro m h; rfl
 | cons p r ih =>
  intro m h
  refine (ih fun e => h (List.mem_cons_of_mem _ e)).trans ?_
  by_cases q : k p.1 = some .local
  ·rw [if_pos q]; exact if_neg fun e => h (by rw [e]; exact List.mem_cons_self)
  ·rw [if_neg q]
theorem zfQ {k : Str → Option NameKind} {x : Str} : ∀ {b : List (Str × Value)} {m : Str → Option Value}, x ∉ b.map (·.1) → bindC k b m x = m x := by
 intro b
 induction b with
 | nil => intro m h; rfl
 | cons p r ih =>
  intro m h
  refine (ih fun e => h (List.mem_cons_of_mem _ e)).trans ?_
  by_cases q : k p.1 = some .local
  ·rw [if_pos q]
  ·rw [if_neg q]; exact if_neg fun e => h (by rw [e]; exact List.mem_cons_self)
theorem zjA {k : Str → Option NameKind} {x : Str} {v : Value} (hk : k x = some .local) : ∀ {b : List (Str × Value)} {m : Str → Option Value}, (b.map (·.1)).Nodup → (x, v) ∈ b → bindL k b m x = some v := by
 intro b
 induction b with
 | nil => intro m hn hm; cases hm
 | cons p r ih =>
  intro m hn hm
  obtain ⟨h1, h2⟩ := List.nodup_cons.mp hn
  rcases List.mem_cons.mp hm with e | e
  ·subst e
   refine (zfP h1).trans ?_
   rw [if_pos hk]; exact if_pos rfl
  ·exact ih h2 e
theorem zjB {k : Str → Option NameKind} {x : Str} {v : Value} (hk : k x ≠ some .local) : ∀ {b : List (Str × Value)} {m : Str → Option Value}, (b.map (·.1)).Nodup → (x, v) ∈ b → bindC k b m x = some v := by
 intro b
 induction b with
 | nil => intro m hn hm; cases hm
 | cons p r ih =>
  intro m hn hm
  obtain ⟨h1, h2⟩ := List.nodup_cons.mp hn
  rcases List.mem_cons.mp hm with e | e
  ·subst e
   refine (zfQ h1).trans ?_
   rw [if_neg hk]; exact if_pos rfl
  ·exact ih h2 e
set_option tactic.hygienic true in
theorem zfU {g : Gl} {G : Sto} {rs : List Addr} : ∀ {xs : List Str} {svs : List SV} {vs : List Value} {l : List (Str × SV)}, zipS xs svs = some l → VRl g G rs svs vs → ∀ {x sv}, lk l x = some sv → ∃ v, (x, v) ∈ xs.zip vs ∧ VR g G rs sv v
 | [], [], vs, l, e, h, x, sv, q => by simp only [zipS] at e; cases e; cases q
 | [], _ :: _, vs, l, e, h, x, sv, q => by simp [zipS] at e
 | _ :: _, [], vs, l, e, h, x, sv, q => by simp [zipS] at e
 | y :: xs, s :: svs, vs, l, e, h, x, sv, q => by
  obtain ⟨w, t, rfl, h1, h2⟩ := h.uncons
  unfold zipS at e
  split at e
  ·rename_i l' e'
   cases e
   rw [zaR] at q
   split at q
   ·rename_i e2
    cases q
    subst e2
    exact ⟨w, List.mem_cons_self, h1⟩
   ·obtain ⟨v, hv, hr⟩ := zfU e' h2 q
    exact ⟨v, List.mem_cons_of_mem _ hv, hr⟩
  ·cases e
set_option tactic.hygienic true in
theorem zfT : ∀ {xs : List Str} {svs : List SV} {l : List (Str × SV)}, zipS xs svs = some l → xs.length = svs.length
 | [], [], _, _ => rfl
 | [], _ :: _, _, e => by simp [zipS] at e
 | _ :: _, [], _, e => by simp [zipS] at e
 | y :: xs, s :: svs, l, e => by
  unfold zipS at e
  split at e
  ·rename_i l' e'
   simp [zfT e']
  ·cases e
noncomputable def nodupB : List Str → Bool
 | [] => true
 | x :: r => !memSB r x && nodupB r
where memSB : List Str → Str → Bool
 | [], _ => false
 | y :: r, x => sEq y x || memSB r x
theorem memSB_iff : ∀ {l : List Str} {x : Str}, nodupB.memSB l x = true ↔ x ∈ l
 | [], x => by simp [nodupB.memSB]
 | y :: r, x => by
  simp only [nodupB.memSB, Bool.or_eq_true, sEq_iff, memSB_iff, List.mem_cons]
  constructor <;> rintro (h | h) <;> first | exact .inl h.symm | exact .inr h
theorem zc7 : ∀ {l : List Str}, nodupB l = true → l.Nodup
 | [], _ => List.nodup_nil
 | x :: r, h => by
  simp only [nodupB, Bool.and_eq_true, Bool.not_eq_true'] at h
  refine List.nodup_cons.mpr ⟨fun q => ?_, zc7 h.2⟩
  have := memSB_iff.mpr q
  rw [h.1] at this; cases this
noncomputable def scChk (sc : Scope) (ps : List Str) : Bool := (match sc.kind with | .function => true | _ => false) && (!sc.isCoroutine && !sc.isGenerator) && (noDup sc.names && okNames (fun _ _ => true) sc.names) && (nodupB ps && ps.all fun x => isLoc sc x)
theorem zdQ {l : List (Str × NameKind)} {x : Str} (h : lk l x = none) : l.lookup x = none := by rw [← zbP]; exact h
set_option tactic.hygienic true in
theorem zbE : ∀ (names : List (Str × NameKind)) (n : Nat) (acc : List (Str × Addr)), noDup names = true → (∀ x ∈ acc.map (·.1), names.lookup x = none) → (acc.map (·.1)).Nodup → ((cellsFrom n names acc).map (·.1)).Nodup
 | [], _, _, _, _, h => h
 | (y, k) :: r, n, acc, hn, ha, hd => by
  unfold noDup at hn
  split at hn
  ·cases hn
  ·rename_i q
   have q' := zdQ q
   have ha' : ∀ x ∈ acc.map (·.1), x ≠ y ∧ r.lookup x = none := fun x hx => by
    have := ha x hx
    rw [List.lookup_cons] at this
    split at this
    ·cases this
    ·rename_i hb
     exact ⟨beq_eq_false_iff_ne.mp hb, this⟩
   unfold cellsFrom
   split
   ·refine zbE r _ _ hn (fun x hx => ?_) ?_
    ·rcases List.mem_cons.mp hx with rfl | hx
     ·exact q'
     ·exact (ha' x hx).2
    ·exact List.nodup_cons.mpr ⟨fun hy => (ha' y hy).1 rfl, hd⟩
   ·exact zbE r _ _ hn (fun x hx => (ha' x hx).2) hd
theorem zbW : ∀ {l : List (Str × Addr)}, (l.map (·.1)).Nodup → ∀ {p}, p ∈ l → l.lookup p.1 = some p.2
 | [], _, p, h => by cases h
 | (y, c) :: r, hn, p, h => by
  obtain ⟨h1, h2⟩ := List.nodup_cons.mp hn
  rw [List.lookup_cons]
  rcases List.mem_cons.mp h with e | e
  ·subst e; simp
  ·have : p.1 ≠ y := fun q => h1 (List.mem_map.mpr ⟨p, e, q⟩)
   rw [beq_eq_false_iff_ne.mpr this]
   exact zbW h2 e
section
variable {g : Gl} {a : Addr} {fi : FI}
set_option tactic.hygienic true in
theorem zk7 {fd : FuncData} {X : Cx} {G : Sto} {rs : List Addr} {st : SS} {h : Heap} {tk : Nat} {svs : List SV} {vals : List Value} {l : List (Str × SV)} (R : Rel g X G rs st h) (hz : zipS fi.params svs = some l) (hv : VRl g G rs svs vals)
  (hfs : fd.scope = fi.sc) (hfg : fd.globals = mainGlobals) (hfb : fd.builtins = builtinsNs) (hc : scChk fi.sc fi.params = true) {s₁ : Shared}
  (I : InCallC (X.sh h tk) (callEnvC fd h.objs.size a).locals (bindL (callEnvC fd h.objs.size a).kindOf (fi.params.zip vals) fun _ => none) (callEnvC fd h.objs.size a).cells (bindC (callEnvC fd h.objs.size a).kindOf (fi.params.zip vals) fun _ => none) s₁) :
  ∃ h₁ tk₁, s₁ = X.sh h₁ tk₁ ∧ Enters fi (callEnvC fd h.objs.size a) h ∧ Rel g (callee X (callEnvC fd h.objs.size a) h rs G) G rs ⟨l, st.H⟩ h₁ := by
 obtain ⟨h₁, tk₁, rfl, hk⟩ := I.done
 have hk' : ∀ b o, h.get? b = some o → h₁.get? b = some o := hk
 have hc2 := zaG hc
 have hc1 := zaH hc
 have hc4 := zaG hc1
 have hc3 := zaH hc1
 have hc6 := zaG hc2
 have hc5 := zaH hc2
 have hc8 := zaG hc4
 have hc7 := zaH hc4
 have habove : ∀ n c, (n, c) ∈ (callEnvC fd h.objs.size a).cells → h.objs.size < c := I.above
 have en : Enters fi (callEnvC fd h.objs.size a) h := by
  refine ⟨hfs, hfg, hfb, rfl, Nat.le_refl _, fun q => ?_, fun p hp q hq hne e => ?_, fun x hx => ?_⟩
  ·obtain ⟨p, hp, e⟩ := List.mem_map.mp q
   have h1 : h.objs.size < p.2 := habove p.1 p.2 hp
   have h2 : p.2 = h.objs.size := e
   rw [h2] at h1
   exact Nat.lt_irrefl _ h1
  ·exact hne (name_of_addr I.apart (n := p.1) (n' := q.1) (c := p.2) hp (by rw [e]; exact hq))
  ·have := cellsFrom_some (x := x) fd.scope.names (h.objs.size + 1) [] (.inl (by rw [hfs]; exact hx))
   exact Option.isSome_iff_exists.mp this
 have hfr : ∀ b ∈ X.fs, ∃ o, h.get? b = some o ∧ ∀ vs, o.data ≠ .fields vs := fun b hb => by
  rcases List.mem_cons.mp hb with rfl | q
  ·obtain ⟨m, o, es, ep, ho, hd, _⟩ := R.ns
   exact ⟨o, ho, fun vs q => by rw [hd] at q; cases q⟩
  ·exact (R.fo b q).2
 have hfresh : ∀ b ∈ (callEnvC fd h.objs.size a).locals :: (callEnvC fd h.objs.size a).cells.map (·.2), h.objs.size ≤ b := fun b hb => by
  rcases List.mem_cons.mp hb with rfl | q
  ·exact Nat.le_refl _
  ·obtain ⟨p, hp, rfl⟩ := List.mem_map.mp q
   exact Nat.le_of_lt (habove p.1 p.2 hp)
 have hndp : ((fi.params.zip vals).map (·.1)).Nodup := by
  have hl : fi.params.length = vals.length := by rw [zfT hz, hv.length]
  rw [List.map_fst_zip (by lia)]
  exact zc7 hc5
 refine ⟨h₁, tk₁, rfl, en, ⟨fun b o e => hk' _ _ (R.sto b o e), R.base, ⟨_, I.toInCall.ns⟩, fun p hp => ?_, fun x sv e => ?_, R.len, fun i b so e1 e2 => (R.cell i b so e1 e2).keep fun o => hk' b o, ⟨fun b hb hr => ?_, R.nd.2⟩, fun b hb => ?_, fun b hb => ?_, fun b hb => hb, fun b hb => ?_, fun b o e _ _ => hk' b o e, fun b o e _ _ => ⟨o.slots, hk' b o e⟩, fun b hb => ?_, en.loc, fun b o e => .inl e⟩⟩
 ·have hnd : ((callEnvC fd h.objs.size a).cells.map (·.1)).Nodup := zbE fd.scope.names _ [] (by rw [hfs]; exact hc7) (fun x hx => by cases hx) List.nodup_nil
  have hp' : p ∈ (callEnvC fd h.objs.size a).cells := hp
  exact ⟨_, I.cell _ _ (zbW hnd hp')⟩
 ·obtain ⟨v, hm, hr⟩ := zfU hz hv e
  refine ⟨v, hr, ?_⟩
  have hx : x ∈ fi.params := (List.of_mem_zip hm).1
  have hloc := List.all_eq_true.mp hc6 x hx
  unfold isLoc at hloc
  have kk : ∀ y, (callEnvC fd h.objs.size a).kindOf y = lk fi.sc.names y := fun y => by
   show fd.scope.names.lookup y = _
   rw [hfs, zbP]
  split at hloc
  ·rename_i q
   exact .inl ⟨(kk x).trans q, _, I.toInCall.ns, zjA ((kk x).trans q) hndp hm⟩
  ·rename_i q
   obtain ⟨c, hc⟩ := en.cel x (by rw [← zbP]; exact q)
   have := I.cell x c hc
   rw [zjB (by rw [kk, q]; exact nofun) hndp hm] at this
   exact .inr ⟨.inl ((kk x).trans q), c, hc, this⟩
  ·cases hloc
 ·rcases Cx.fa_cases hb with q | q | q
  ·exact absurd (R.lt (List.mem_append_right _ hr)) (Nat.not_lt.mpr (hfresh b (by rw [q]; exact List.mem_cons_self)))
  ·exact absurd (R.lt (List.mem_append_right _ hr)) (Nat.not_lt.mpr (hfresh b (List.mem_cons_of_mem _ q)))
  ·exact R.nd.1 b (Cx.fa_fs q) hr
 ·rcases List.mem_append.mp hb with q | q
  ·rcases Cx.fa_cases q with q | q | q
   ·exact (R.apart (hfresh b (by rw [q]; exact List.mem_cons_self))).n2
   ·exact (R.apart (hfresh b (List.mem_cons_of_mem _ q))).n2
   ·exact R.fresh b (List.mem_append_left _ (Cx.fa_fs q))
  ·exact R.fresh b (List.mem_append_right _ q)
 ·rcases List.mem_append.mp hb with q | q
  ·exact .inr (zcX (hfresh b q))
  ·exact .inl q
 ·obtain ⟨o, e⟩ := R.live (List.mem_append_right _ hb)
  exact ⟨o, hk' _ _ e⟩
 ·obtain ⟨o, e, d⟩ := hfr b hb
  exact ⟨fun q => Nat.not_le.mpr (Heap.lt_size e) (hfresh b q), o, hk' _ _ e, d⟩
end
end Mine
end
section
open PySem.SeqAt PySem.EqBoolInt
namespace Mine
section
variable {prog : Program} {w : World} {A : Around} {s : Shared}
theorem zfM {R : Result → Shared → Prop} {a : Addr} {o : Obj} {fd : FuncData} {body : List Stmt} {vals : List Value} {binds : List (Str × Value)}
  (hroom : A.depth < recursionLimit) (ho : s.heap.get? a = some o) (hdata : o.data = .func fd) (hlim : s.heap.NoLimit) (hcd : s.heap.CodeRec fd.code fd.qualname)
  (hbody : fd.body = .stmts body) (hbind : BindsTo s fd ⟨vals, []⟩ binds) (hclo : fd.closure = [])
  (hkind : ∀ x ∈ binds, fd.scope.names.lookup x.1 = some .local ∨ (fd.scope.names.lookup x.1 = some .cell ∧ ((cellsFrom (s.heap.objs.size + 1) fd.scope.names []).lookup x.1).isSome = true))
  (h : ∀ s₁, InCallC s (callEnvC fd s.heap.objs.size a).locals (bindL (callEnvC fd s.heap.objs.size a).kindOf binds fun _ => none) (callEnvC fd s.heap.objs.size a).cells
    (bindC (callEnvC fd s.heap.objs.size a).kindOf binds fun _ => none) s₁ →
   wpAny (model prog w) (A.deeper (callEnvC fd s.heap.objs.size a)) (execs body (callEnvC fd s.heap.objs.size a)) (fun f s' => R (.ok (.ret (match f with | .ret v => v | _ => .none))) s')
    (fun e s' => wpAny (model prog w) (A.deeper (callEnvC fd s.heap.objs.size a)) (leaving (callEnvC fd s.heap.objs.size a) e) (fun _ s'' => R (.error e) s'') (fun e' s'' => R (.error e') s'') s') s₁)
  (hco : fd.scope.isCoroutine = false) (hgen : fd.scope.isGenerator = false) (hk : fd.scope.kind = .function) :
  codeAny (model prog w) A (.call (.ref a) ⟨vals, []⟩) R s := by
 refine codeAny_call_function hroom ho hdata hco hgen hbody hcd ?_
 rw [hclo]
 refine hbind _ _ _ _ (wpAny_newFunctionEnv_cells hk hkind fun env he s' x => ?_)
 subst he
 exact ⟨hlim.keeps x.toInCall.keep, codeAny_func (h s' x)⟩
end
section
variable {g : Gl} {a : Addr} {fi : FI}
set_option tactic.hygienic true in
theorem zqV {oc dV kV doc pm cdv ct : Value} {od an : Option Addr} {osl : Array (Option Value)} {name qual : Str} {params : Arguments}
  (hK : g.K.lookup a = some ⟨oc, od, .func (fnOf name qual params fi.body fi.sc dV kV doc pm an cdv ct), osl⟩)
  (hcd : codeIn g.K cdv qual = true) (hc : scChk fi.sc fi.params = true)
  (hb : ∀ k us, lkN fi.dfl k = some us → ∃ dv, (∀ (G : Sto) rs, (∀ b o, g.h0.get? b = some o → G b = some o) → VRl g G rs us dv) ∧
   ∀ (s : Shared) (vals : List Value), g.K.In s.heap → vals.length = k → BindsTo s (fnOf name qual params fi.body fi.sc dV kV doc pm an cdv ct) ⟨vals, []⟩ (fi.params.zip (vals ++ dv))) : FnOk g a fi := by
 have hc' := hc
 have hc2 := zaG hc'
 have hc1 := zaH hc'
 have hc4 := zaG hc1
 have hc3 := zaH hc1
 have hc10 := zaG hc3
 have hc9 := zaH hc3
 have hge := zaG hc10
 have hco := zaH hc10
 have hc6 := zaG hc2
 have hc5 := zaH hc2
 have hc8 := zaG hc4
 have hc7 := zaH hc4
 have hkind : fi.sc.kind = .function := by cases hk : fi.sc.kind <;> rw [hk] at hc9 <;> first | rfl | cases hc9
 refine ⟨hkind, hc8, fun {X G rs st h tk vals svs l R} Rl hv hl hdep hk => ?_⟩
 unfold bindArgsS at hl
 split at hl
 ·rename_i us hus
  obtain ⟨dv, hd1, hd2⟩ := hb _ _ hus
  have hv' := hv.append (hd1 G rs Rl.base)
  have hbt := hd2 (X.sh h tk) vals Rl.kin hv.length
  refine zfM hdep (Rl.kin a _ hK) rfl Rl.top.nolimit (codeRec_of Rl.kin hcd) rfl hbt rfl (fun x hx => ?_) (fun s₁ I => ?_) (not_true hco) (not_true hge) hkind
  ·have hx' : x.1 ∈ fi.params := (List.of_mem_zip (a := x.1) (b := x.2) hx).1
   have hloc := List.all_eq_true.mp hc6 x.1 hx'
   unfold isLoc at hloc
   split at hloc
   ·rename_i q; exact .inl (by rw [zbP] at q; exact q)
   ·rename_i q
    rw [zbP] at q
    exact .inr ⟨q, cellsFrom_some _ _ _ (.inl q)⟩
   ·cases hloc
  ·obtain ⟨h₁, tk₁, rfl, en, R₁⟩ := zk7 Rl hl hv' rfl rfl rfl hc I
   exact hk _ _ _ en R₁
 ·cases hl
end
end Mine
end
section
open PySem.SeqAt PySem.EqBoolInt
namespace Mine
noncomputable def cvr (sv : SV) (u : Value) : Bool := match sv with
 | .str s => (match u with
  | .str t _ => sEq s t
  | _ => false)
 | .int i => (match u with
  | .int j _ => eqB i j
  | _ => false)
 | .top v => (match v with
  | .ref a => (match u with
   | .ref b => Nat.beq a b
   | _ => false)
  | _ => false)
 | _ => false
theorem ziY {g : Gl} {sv : SV} {u : Value} (h : cvr sv u = true) (G : Sto) (rs : List Addr) : VR g G rs sv u := by
 cases sv with
 | str s => cases u with
  | str t k => rw [sEq_iff.mp h]; exact VR.tok_str _ _
  | _ => exact ft h
 | int i => cases u with
  | int j k => rw [zb3 h]; exact VR.tok_int _ _
  | _ => exact ft h
 | top v => cases v with
  | ref a => cases u with
   | ref b => rw [Nat.eq_of_beq_eq_true h]; exact (rfl : Value.ref b = .ref b)
   | _ => exact ft h
  | _ => exact ft h
 | _ => exact ft h
noncomputable def globB (K : Frag) : List (Str × SV) → Bool
 | [] => true
 | (x, sv) :: r => (match nsIn K mainGlobals x with
  | some (some u) => cvr sv u
  | _ => false) && globB K r
noncomputable def bfB (K : Frag) : List (Str × BF) → Bool
 | [] => true
 | (x, f) :: r => (match nsIn K mainGlobals x with
  | some none => true
  | _ => false) && bfB K r
noncomputable def atB (K : Frag) (C : Addr) : List Str → Bool
 | [] => true
 | a :: r => (plainGet K C a && hasDictIn K C && (match findIn K (.ref C) a with | some none => true | _ => false) && (match takerIn K C a with | some none => true | _ => false)) && atB K C r
noncomputable def isOSA : Option (Option Value) → Bool
 | some (some (.builtin s)) => s == "object.__setattr__"
 | _ => false
noncomputable def attrB (K : Frag) : List (Nat × List Str) → Bool
 | [] => true
 | (C, as) :: r => (atB K C as && (plainOver K C && isOSA (findIn K (.ref C) "__setattr__"))) && attrB K r
noncomputable def mtB (K : Frag) (C : Addr) : List (Str × Nat) → Bool
 | [] => true
 | (m, f) :: r => (plainGet K C m && (match findIn K (.ref C) m with | some (some (.ref f')) => Nat.beq f f' | _ => false) && isFn K (.ref f)) && mtB K C r
noncomputable def methB (K : Frag) : List (Nat × List (Str × Nat)) → Bool
 | [] => true
 | (C, ms) :: r => mtB K C ms && methB K r
noncomputable def clsB (K : Frag) : List (Nat × Nat) → Bool
 | [] => true
 | (C, i) :: r => (makesIn K C && (match findIn K (.ref C) "__init__" with | some (some (.ref f')) => Nat.beq i f' | _ => false) && isFn K (.ref i)) && clsB K r
noncomputable def keepB (K : Frag) : List Nat → Bool
 | [] => true
 | a :: r => keepIn K (.ref a) && keepB K r
section
variable {g : Gl}
set_option tactic.hygienic true in
theorem zf8 : ∀ {l : List (Str × SV)}, globB g.K l = true → ∀ {x sv}, lk l x = some sv → ∃ u, (∀ G rs, VR g G rs sv u) ∧ g.mg x = some u
 | [], _, x, sv, e => by cases e
 | (y, s) :: r, h, x, sv, e => by
  have h2 := zaG h
  have h1 := zaH h
  rw [zaR] at e
  split at e
  ·rename_i q
   cases e
   subst q
   split at h1
   ·rename_i u hu
    exact ⟨u, ziY h1, mg_of g.X g.T.g hu⟩
   ·cases h1
  ·exact zf8 h2 e
set_option tactic.hygienic true in
theorem zmD : ∀ {l : List (Str × BF)}, bfB g.K l = true → ∀ {x f}, lk l x = some f → g.mg x = none
 | [], _, x, sv, e => by cases e
 | (y, s) :: r, h, x, sv, e => by
  have h2 := zaG h
  have h1 := zaH h
  rw [zaR] at e
  split at e
  ·rename_i q
   subst q
   split at h1
   ·rename_i hu
    exact mg_none_of g.X g.T.g hu
   ·cases h1
  ·exact zmD h2 e
set_option tactic.hygienic true in
theorem zh0 : ∀ {l : List Str} {x : Str}, memS l x = true → x ∈ l
 | [], x, h => by cases h
 | y :: r, x, h => by
  unfold memS at h
  split at h
  ·rename_i q; rw [sEq_iff.mp q]; exact List.mem_cons_self
  ·exact List.mem_cons_of_mem _ (zh0 h)
set_option tactic.hygienic true in
theorem zdO {α : Type} : ∀ {l : List (Nat × α)} {a : Nat} {v : α}, alk l a = some v → (a, v) ∈ l
 | [], a, v, e => by cases e
 | (b, u) :: r, a, v, e => by
  unfold alk at e
  split at e
  ·rename_i q; cases e; rw [Nat.eq_of_beq_eq_true q]; exact List.mem_cons_self
  ·exact List.mem_cons_of_mem _ (zdO e)
set_option tactic.hygienic true in
theorem zp3 {α : Type} : ∀ {l : List (Str × α)} {a : Str} {v : α}, lk l a = some v → (a, v) ∈ l
 | [], a, v, e => by cases e
 | (b, u) :: r, a, v, e => by
  rw [zaR] at e
  split at e
  ·rename_i q; cases e; rw [q]; exact List.mem_cons_self
  ·exact List.mem_cons_of_mem _ (zp3 e)
theorem zmE {K : Frag} {C : Addr} : ∀ {l : List Str}, atB K C l = true → ∀ {a}, a ∈ l → AttrOk K C a ∧ takerIn K C a = some none
 | [], _, a, h => by cases h
 | b :: r, h, a, hm => by
  have h2 := zaG h
  have h1 := zaH h
  have h4 := zaG h1
  have h3 := zaH h1
  have h6 := zaG h3
  have h5 := zaH h3
  have h8 := zaG h5
  have h7 := zaH h5
  rcases List.mem_cons.mp hm with e | e
  ·subst e
   refine ⟨⟨h7, h8, ?_⟩, ?_⟩
   ·split at h6
    ·assumption
    ·cases h6
   ·split at h4
    ·assumption
    ·cases h4
  ·exact zmE h2 e
set_option tactic.hygienic true in
theorem zgK {K : Frag} : ∀ {l : List (Nat × List Str)}, attrB K l = true → ∀ {C as a}, (C, as) ∈ l → a ∈ as → AttrOk K C a ∧ SetOk K C a
 | [], _, C, as, a, h, _ => by cases h
 | (C0, bs) :: r, h, C, as, a, hm, ha => by
  have h2 := zaG h
  have h1 := zaH h
  have h4 := zaG h1
  have h3 := zaH h1
  have h6 := zaG h4
  have h5 := zaH h4
  rcases List.mem_cons.mp hm with e | e
  ·cases e
   obtain ⟨k1, k2⟩ := zmE h3 ha
   refine ⟨k1, ?_, h5, k2, k1.2.1⟩
   unfold isOSA at h6
   split at h6
   ·rename_i s q
    rw [q, beq_iff_eq.mp h6]
   ·cases h6
  ·exact zgK h2 e ha
set_option tactic.hygienic true in
theorem zlY {K : Frag} {C : Addr} : ∀ {l : List (Str × Nat)}, mtB K C l = true → ∀ {m f}, (m, f) ∈ l → MethOk K C m f
 | [], _, m, f, h => by cases h
 | (m0, f0) :: r, h, m, f, hm => by
  have h2 := zaG h
  have h1 := zaH h
  have h4 := zaG h1
  have h3 := zaH h1
  have h6 := zaG h3
  have h5 := zaH h3
  rcases List.mem_cons.mp hm with e | e
  ·cases e
   refine ⟨h5, ?_, h4⟩
   split at h6
   ·rename_i f' q
    rw [q, Nat.eq_of_beq_eq_true h6]
   ·cases h6
  ·exact zlY h2 e
theorem zf1 {K : Frag} : ∀ {l : List (Nat × List (Str × Nat))}, methB K l = true → ∀ {C ms m f}, (C, ms) ∈ l → (m, f) ∈ ms → MethOk K C m f
 | [], _, C, ms, m, f, h, _ => by cases h
 | (C0, bs) :: r, h, C, ms, m, f, hm, ha => by
  have h2 := zaG h
  have h1 := zaH h
  rcases List.mem_cons.mp hm with e | e
  ·cases e; exact zlY h1 ha
  ·exact zf1 h2 e ha
set_option tactic.hygienic true in
theorem zi6 : ∀ {l : List (Nat × Nat)}, clsB g.K l = true → ∀ {C i}, (C, i) ∈ l → ClsOk g C i
 | [], _, C, i, h => by cases h
 | (C0, i0) :: r, h, C, i, hm => by
  have h2 := zaG h
  have h1 := zaH h
  have h4 := zaG h1
  have h3 := zaH h1
  have h6 := zaG h3
  have h5 := zaH h3
  rcases List.mem_cons.mp hm with e | e
  ·cases e
   refine ⟨h5, ?_, beq_iff_eq.mp h4⟩
   split at h6
   ·rename_i f' q
    rw [q, Nat.eq_of_beq_eq_true h6]
   ·cases h6
  ·exact zi6 h2 e
theorem zf7 {K : Frag} : ∀ {l : List Nat}, keepB K l = true → ∀ {a}, a ∈ l → keepIn K (.ref a) = true
 | [], _, a, h => by cases h
 | b :: r, h, a, hm => by
  have h2 := zaG h
  have h1 := zaH h
  rcases List.mem_cons.mp hm with e | e
  ·subst e; exact h1
  ·exact zf7 h2 e
set_option tactic.hygienic true in
theorem zkE {cells : List Nat} {spec : Nat → Option (Nat × Spec)} {tr : Bool} (h1 : attrB g.K attrRows = true) (h2 : methB g.K methRows = true) : TabOk g (tab cells spec tr) := by
 have key : ∀ C a, attrOf C a = true → AttrOk g.K C a ∧ SetOk g.K C a := fun C a e => by
  unfold attrOf at e
  split at e
  ·rename_i l q; exact zgK h1 (zdO q) (zh0 e)
  ·cases e
 refine ⟨fun C a e => (key C a e).1, fun C m f e => ?_, fun C a e => (key C a e).2⟩
 have e' : methOfA C m = some f := e
 unfold methOfA at e'
 split at e'
 ·rename_i l q; exact zf1 h2 (zdO q) (zp3 e')
 ·cases e'
set_option tactic.hygienic true in
theorem ziF {cells : List Nat} {spec : Nat → Option (Nat × Spec)} {tr : Bool} (h1 : attrB g.K attrRows = true) (h2 : methB g.K methRows = true) (h3 : globB g.K globRows = true) (h4 : bfB g.K bfRows = true) (h5 : keepB g.K (fnRows.map (·.1) ++ clsRows.map (·.1)) = true)
  (h6 : ∀ x f, lk bfRows x = some f → g.mb x = some f.val) (h7 : ∀ a, (spec a).isSome = true → a ∈ fnRows.map (·.1) ++ clsRows.map (·.1)) : GlobOk g (tab cells spec tr) := by
 refine ⟨zkE h1 h2, fun x v e => ?_, fun a ha => ?_⟩
 ·have e' : globOf x = some v := e
  unfold globOf at e'
  split at e'
  ·rename_i s q
   cases e'
   obtain ⟨u, a, b⟩ := zf8 h3 q
   exact ⟨u, a, .inl b⟩
  ·split at e'
   ·rename_i f q
    cases e'
    exact ⟨f.val, fun G rs => rfl, .inr ⟨zmD h4 q, h6 _ _ q⟩⟩
   ·cases e'
 ·refine zf7 h5 ?_
  rcases ha with ha | ha | ha
  ·exact h7 a ha
  ·have ha' : (fnOfA a).isSome = true := ha
   unfold fnOfA at ha'
   split at ha'
   ·rename_i x q; exact List.mem_append_left _ (List.mem_map.mpr ⟨_, zdO q, rfl⟩)
   ·cases ha'
  ·have ha' : (alk clsRows a).isSome = true := ha
   cases q : alk clsRows a with
   | none => rw [q] at ha'; cases ha'
   | some i => exact List.mem_append_right _ (List.mem_map.mpr ⟨_, zdO q, rfl⟩)
end
end Mine
end
section
open PySem.SeqAt PySem.EqBoolInt
namespace Mine
noncomputable def funO : Data → Option FuncData
 | .func fd => some fd
 | _ => none
noncomputable def fdOf (K : Frag) (a : Addr) : Option FuncData := (K.lookup a).bind fun o => funO o.data
noncomputable def faceK (K : Frag) (a : Addr) : Option (FuncBody × Scope × List Str) := (fdOf K a).map fun fd => (fd.body, fd.scope, fd.params.args.map (·.arg))
noncomputable def faceT (o : Option FI) : Option (FuncBody × Scope × List Str) := o.map fun fi => (.stmts fi.body, fi.sc, fi.params)
noncomputable def restC (K : Frag) (po ko : List PySem.Arg) (va kw : Option PySem.Arg) (clo : List (Str × Addr)) (glb bi : Addr) (code : Value) (qual : Str) : Bool := (clo.isEmpty && (Nat.beq glb mainGlobals && Nat.beq bi builtinsNs)) && (codeIn K code qual && ((po.isEmpty && ko.isEmpty) && (va.isNone && kw.isNone)))
noncomputable def restF (K : Frag) (fd : FuncData) : Bool := restC K fd.params.posonlyargs fd.params.kwonlyargs fd.params.vararg fd.params.kwarg fd.closure fd.globals fd.builtins fd.code fd.qualname
theorem zkR {K : Frag} {po ko : List PySem.Arg} {va kw : Option PySem.Arg} {clo : List (Str × Addr)} {glb bi : Addr} {code : Value} {qual : Str} (h : restC K po ko va kw clo glb bi code qual = true) :
  codeIn K code qual = true ∧ (po = [] ∧ ko = []) ∧ (va = none ∧ kw = none) ∧ clo = [] ∧ glb = mainGlobals ∧ bi = builtinsNs :=
 have k1 := and_true h
 have k2 := and_true k1.1
 have k3 := and_true k2.2
 have k4 := and_true k1.2
 have k5 := and_true k4.2
 have k6 := and_true k5.1
 have k7 := and_true k5.2
 ⟨k4.1, ⟨List.isEmpty_iff.mp k6.1, List.isEmpty_iff.mp k6.2⟩, ⟨Option.isNone_iff_eq_none.mp k7.1, Option.isNone_iff_eq_none.mp k7.2⟩, List.isEmpty_iff.mp k2.1, Nat.eq_of_beq_eq_true k3.1, Nat.eq_of_beq_eq_true k3.2⟩
theorem znX {K : Frag} {a : Addr} {fd : FuncData} (h : fdOf K a = some fd) : ∃ oc od osl, K.lookup a = some ⟨oc, od, .func fd, osl⟩ := by
 obtain ⟨⟨c, d, dt, sl⟩, e, q⟩ := Option.bind_eq_some_iff.mp h
 cases dt with
 | func f => cases q; exact ⟨_, _, _, e⟩
 | _ => exact noS q
theorem zk2 {K : Frag} {fd : FuncData} {fi : FI} (h1 : some (fd.body, fd.scope, fd.params.args.map (·.arg)) = faceT (some fi)) (h2 : restF K fd = true) {P : FuncData → Prop}
  (k : ∀ name qual as kd ds dfl kwd doc pm an code ct, codeIn K code qual = true → as.map (·.arg) = fi.params → P (fnOf name qual { posonlyargs := [], args := as, vararg := none, kwonlyargs := [], kw_defaults := kd, kwarg := none, defaults := ds } fi.body fi.sc dfl kwd doc pm an code ct)) : P fd := by
 obtain ⟨name, qual, params, body, scope, glb, clo, dfl, kwd, doc, pm, an, code, ct, bi⟩ := fd
 obtain ⟨po, as, va, ko, kd, kw, ds⟩ := params
 obtain ⟨e1, e2⟩ := Prod.mk.inj (Option.some.inj h1)
 obtain ⟨e4, e3⟩ := Prod.mk.inj e2
 dsimp only at e1 e4 e3
 subst e1 e4
 obtain ⟨k7, ⟨rfl, rfl⟩, ⟨rfl, rfl⟩, rfl, rfl, rfl⟩ := zkR h2
 exact k _ _ _ _ _ _ _ _ _ _ _ _ k7 e3
end Mine
end
section
open PySem.SeqAt PySem.EqBoolInt
namespace Mine
noncomputable def S0 (g : Gl) : Sigs g := { Sg := fun _ _ _ => False, on := False, now := fun _ h => h, virt := fun _ h => h, own := fun _ _ _ _ h => h.elim }
theorem exc0 (g : Gl) (T : Tab) (ht : T.tr = false) : ExcOk g (S0 g) T := by
 refine ⟨?_, ?_⟩
 ·intro r fc X G rs st h tk E e c pos Q hr V hE R hk
  refine zdH hk ?_
  clear hk
  rintro x p a b p2 rfl rfl hk
  have hs := CK_l hk
  replace hk := CK_r hk
  have _ := zaG hs
  have hs := zaH hs
  show wpAny (model g.prog g.w) X.A (do standAt pos; raiseStmt X.env (some (do let v ← eval (.Call (.Name x p) [a, b] [] p2) X.env; standAt pos; pure v)) none) Q E (X.sh h tk)
  refine wpAny_bind (wpAny_standAt ?_)
  unfold raiseStmt
  refine wpAny_bind (wpAny_bind ?_)
  refine wpAny_Call_ofName (hr V hE R hk fun G' rs' st' sv v h' tk' x R' hv hk' => ?_)
  split at hk'
  ·have c := CK_l hk'
   replace hk' := CK_r hk'
   refine zbF (first := []) hr V hE R' hs hk' fun _ _ _ _ _ _ _ _ _ _ hEr => ?_
   split at hEr
   ·exact (V.er hEr).elim
   ·exact hEr.elim
  ·exact hk'.elim
 ·intro r fc X G rs st h tk E b el fi hs pos K Q hr hx V hE R hk F
  refine zeT hk ?_
  clear hk
  intro _ _ _ _ _ _ _ _ _ _ _ _ _ _ _ _ _ _ _ _ _ _ hk
  have c := CK_l hk
  have _ := CK_r hk
  rw [ht] at c; cases c
end Mine
end
section
open PySem.SeqAt PySem.EqBoolInt
namespace Mine
noncomputable def laid : List (Str × Value) → List (Str × Value) → List (Str × Value)
 | [], slots => slots
 | (n, d) :: r, slots => laid r (if (slots.lookup n).isNone then slots ++ [(n, d)] else slots)
theorem ze7 : ∀ (l slots : List (Str × Value)), (forIn l slots (fun (x : Str × Value) (sl : List (Str × Value)) => (if (sl.lookup x.1).isNone = true then pure (ForInStep.yield (sl ++ [(x.1, x.2)])) else pure (ForInStep.yield sl) : Sem (ForInStep (List (Str × Value)))))) = pure (laid l slots)
 | [], slots => rfl
 | (n, d) :: r, slots => by
  rw [List.forIn_cons]
  unfold laid
  by_cases h : (slots.lookup n).isNone = true
  ·simp only [h, if_true]
   exact ze7 r _
  ·simp only [h]
   exact ze7 r _
theorem zdC {ns : List Str} {vs : List Value} {n : Str} (h : n ∉ ns) : (ns.zip vs).lookup n = none := by
 induction ns generalizing vs with
 | nil => simp
 | cons a r ih =>
  cases vs with
  | nil => simp
  | cons v t =>
   rw [List.zip_cons_cons, List.lookup_cons, beq_eq_false_iff_ne.mpr fun e => h (by rw [e]; exact List.mem_cons_self)]
   exact ih fun q => h (List.mem_cons_of_mem _ q)
theorem zkV {post : List Str} : ∀ {ds : List Value} {pre : List Str} {vs : List Value}, pre.length = vs.length → post.length = ds.length → (pre ++ post).Nodup → laid (post.zip ds) (pre.zip vs) = (pre ++ post).zip (vs ++ ds) := by
 induction post with
 | nil =>
  intro ds pre vs h h' hn
  cases ds with
  | nil => rw [List.append_nil, List.append_nil]; rfl
  | cons _ _ => cases h'
 | cons n post ih =>
  intro ds pre vs h h' hn
  cases ds with
  | nil => cases h'
  | cons d ds =>
   have hnot : n ∉ pre := fun q => (List.nodup_append.mp hn).2.2 n q n List.mem_cons_self rfl
   show laid (post.zip ds) (if ((pre.zip vs).lookup n).isNone then _ else _) = _
   rw [zdC hnot, if_pos (show (none : Option Value).isNone = true from rfl), show pre.zip vs ++ [(n, d)] = (pre ++ [n]).zip (vs ++ [d]) by rw [List.zip_append h]; rfl, ih (by rw [List.length_append, List.length_append, h]; rfl) (Nat.succ.inj h') (by rw [List.append_assoc]; exact hn), List.append_assoc, List.append_assoc]
   rfl
theorem zeN : ∀ {l m : List (Str × Value)} {slots : List (Str × Value)}, (∀ x ∈ l, (slots.lookup x.1).isSome = true) → laid (l ++ m) slots = laid m slots
 | [], m, slots, _ => rfl
 | (n, d) :: l, m, slots, h => by
  have h1 := h (n, d) List.mem_cons_self
  show laid (l ++ m) (if (slots.lookup n).isNone then _ else _) = _
  have : (slots.lookup n).isNone = false := by
   cases q : slots.lookup n with
   | none => rw [q] at h1; cases h1
   | some v => rfl
  rw [this]
  exact zeN fun x hx => h x (List.mem_cons_of_mem _ hx)
theorem zc2 {α β : Type} : ∀ (ns : List α) (vs : List β), ns.zip vs = (ns.take vs.length).zip vs
 | [], vs => by simp
 | n :: ns, [] => by simp
 | n :: ns, v :: vs => by
  rw [List.length_cons, List.take_succ_cons, List.zip_cons_cons, List.zip_cons_cons, zc2 ns vs]
theorem zg5 {α : Type} (ns : List α) {f m : Nat} (h : f ≤ m) : ns.drop f = (ns.take m).drop f ++ ns.drop m := by
 induction ns generalizing f m with
 | nil => simp
 | cons a r ih =>
  cases f with
  | zero => simp
  | succ f =>
   cases m with
   | zero => lia
   | succ m => simpa using ih (f := f) (m := m) (by lia)
theorem zhB {α β : Type} (A B : List α) (it : List β) : (A ++ B).zip it = A.zip (it.take A.length) ++ B.zip (it.drop A.length) := by
 induction A generalizing it with
 | nil => simp
 | cons a r ih =>
  cases it with
  | nil => simp
  | cons b t => simpa using ih t
theorem zp2 {n v i : Nat} (h1 : v ≤ n) (h2 : i ≤ n) (h3 : n ≤ v + i) : n - v = i - (v - (n - i)) := by
 obtain ⟨a, rfl⟩ := Nat.le.dest h1
 obtain ⟨b, rfl⟩ := Nat.le.dest (Nat.le_of_add_le_add_left h3)
 obtain ⟨c, q⟩ := Nat.le.dest h2
 have e : v = b + c := Nat.add_left_cancel (n := a) (by rw [← Nat.add_assoc, q, Nat.add_comm])
 rw [Nat.add_sub_cancel_left, ← q, Nat.add_sub_cancel_left, e, Nat.add_sub_cancel, Nat.add_sub_cancel]
theorem zkW {ns : List Str} {vals items : List Value} (hn : ns.Nodup) (h1 : vals.length ≤ ns.length) (h2 : items.length ≤ ns.length) (h3 : ns.length ≤ vals.length + items.length) :
  laid ((ns.drop (ns.length - items.length)).zip items) (ns.zip vals) = ns.zip (vals ++ items.drop (vals.length - (ns.length - items.length))) := by
 have e0 : ns = ns.take vals.length ++ ns.drop vals.length := (List.take_append_drop _ _).symm
 have e1 : ns.zip vals = (ns.take vals.length).zip vals := zc2 _ _
 have hl : (ns.take vals.length).length = vals.length := by simp; lia
 have e2 := zg5 ns (f := ns.length - items.length) (m := vals.length) (by lia)
 have hA : ((ns.take vals.length).drop (ns.length - items.length)).length = vals.length - (ns.length - items.length) := by rw [List.length_drop, hl]
 have e3 : (ns.drop (ns.length - items.length)).zip items = ((ns.take vals.length).drop (ns.length - items.length)).zip (items.take (vals.length - (ns.length - items.length))) ++ (ns.drop vals.length).zip (items.drop (vals.length - (ns.length - items.length))) := by
  rw [e2, zhB, hA]
 rw [e3, zeN, e1, zkV hl]
 ·rw [← e0]
 ·rw [List.length_drop, List.length_drop]; exact zp2 h1 h2 h3
 ·rw [← e0]; exact hn
 ·intro x hx
  rw [e1]
  exact zbC hl x.1 (List.mem_of_mem_drop (List.of_mem_zip (a := x.1) (b := x.2) hx).1)
noncomputable abbrev BS := List (Str × Value)
noncomputable def bCore (ns : List Str) (vals : List Value) (x y : Sem BS) (d : List Value) : Sem BS :=
 if (decide (vals.length > ns.length) && true) = true then x
 else if (!(List.filter (fun n => ((ns.zip vals).lookup n).isNone) (ns.take (ns.length - (d.drop (d.length - ns.length)).length))).isEmpty) = true then y
 else forIn ((ns.drop (ns.length - (d.drop (d.length - ns.length)).length)).zip (d.drop (d.length - ns.length))) (ns.zip vals) (fun (x : Str × Value) (sl : BS) => (if (sl.lookup x.1).isNone = true then pure (ForInStep.yield (sl ++ [(x.1, x.2)])) else pure (ForInStep.yield sl) : Sem (ForInStep BS))) >>= fun sl => pure ((ns ++ []).filterMap fun n => (sl.lookup n).map (n, ·))
theorem zlN {ns : List Str} {vals items : List Value} {x y : Sem BS} (hn : ns.Nodup) (h1 : vals.length ≤ ns.length) (h2 : items.length ≤ ns.length) (h3 : ns.length ≤ vals.length + items.length) :
  bCore ns vals x y items = pure (ns.zip (vals ++ items.drop (vals.length - (ns.length - items.length)))) := by
 have e1 : items.drop (items.length - ns.length) = items := by rw [Nat.sub_eq_zero_of_le h2]; rfl
 have hm : List.filter (fun n => ((ns.zip vals).lookup n).isNone) (ns.take (ns.length - items.length)) = [] := by
  rw [List.filter_eq_nil_iff]
  intro n hn'
  have hle : ns.length - items.length ≤ vals.length := Nat.sub_le_iff_le_add.mpr h3
  rw [← Nat.min_eq_left hle, ← List.take_take] at hn'
  have := zbC (ns := ns.take vals.length) (vs := vals) (by rw [List.length_take, Nat.min_eq_left h1]) n (List.mem_of_mem_take hn')
  rw [← zc2] at this
  cases q : (ns.zip vals).lookup n with
  | none => rw [q] at this; cases this
  | some v => exact nofun
 refine (if_neg ?_).trans ?_
 ·rw [Bool.and_true, decide_eq_true_iff]; exact Nat.not_lt.mpr h1
 rw [e1, hm]
 refine (if_neg nofun).trans ?_
 rw [ze7, zkW hn h1 h2 h3, List.append_nil, pure_bind, zcG ?_ hn]
 rw [List.length_append, List.length_drop, ← zp2 h1 h2 h3]; exact (Nat.add_sub_of_le h1).symm
theorem zg9 {name qual : Str} {as : List PySem.Arg} {kd : List (Option Expr)} {ds : List Expr} {b : FuncBody} {sc : Scope} {glb : Addr} {clo : List (Str × Addr)} {dV kV doc pm cdv ct : Value} {an : Option Addr} {bi : Addr} {vals : List Value} :
  ∃ X Y : Option (Array Value) → Sem BS, bindArgs ⟨name, qual, { posonlyargs := [], args := as, vararg := none, kwonlyargs := [], kw_defaults := kd, kwarg := none, defaults := ds }, b, sc, glb, clo, dV, kV, doc, pm, an, cdv, ct, bi⟩ ⟨vals, []⟩ = seqItems? dV >>= fun o => bCore (as.map (·.arg)) vals (X o) (Y o) (o.getD #[]).toList := ⟨_, _, rfl⟩
theorem zlM {name qual : Str} {as : List PySem.Arg} {kd : List (Option Expr)} {ds : List Expr} {b : FuncBody} {sc : Scope} {glb : Addr} {clo : List (Str × Addr)} {dV kV doc pm cdv ct : Value} {an : Option Addr} {bi : Addr} {vals items : List Value} {s : Shared} {o : Option (Array Value)} {ns : List Str}
  (hns : as.map (·.arg) = ns) (hs : ∀ (M : Model) (A : Around) (E : Value → Shared → Prop) (Q : Option (Array Value) → Shared → Prop), Q o s → wpAny M A (seqItems? dV) Q E s) (hi : (o.getD #[]).toList = items)
  (hn : ns.Nodup) (h1 : vals.length ≤ ns.length) (h2 : items.length ≤ ns.length) (h3 : ns.length ≤ vals.length + items.length) :
  BindsTo s ⟨name, qual, { posonlyargs := [], args := as, vararg := none, kwonlyargs := [], kw_defaults := kd, kwarg := none, defaults := ds }, b, sc, glb, clo, dV, kV, doc, pm, an, cdv, ct, bi⟩ ⟨vals, []⟩ (ns.zip (vals ++ items.drop (vals.length - (ns.length - items.length)))) := fun M A E Q hq => by
 obtain ⟨X, Y, e⟩ := zg9 (name := name) (qual := qual) (as := as) (kd := kd) (ds := ds) (b := b) (sc := sc) (glb := glb) (clo := clo) (dV := dV) (kV := kV) (doc := doc) (pm := pm) (cdv := cdv) (ct := ct) (an := an) (bi := bi) (vals := vals)
 rw [e]
 refine wpAny_bind (hs M A E _ ?_)
 rw [hi, hns, zlN hn h1 h2 h3]
 exact wpAny_pure hq
noncomputable def isTy (t : String) : Value → Bool
 | .type u => u == t
 | _ => false
set_option backward.match.sparseCases false in
noncomputable def emptyT : Option Obj → Bool
 | some o => (match o.data with
  | .seq xs _ => isTy "tuple" o.cls && (o.dict.isNone && (xs.isEmpty && o.slots.isEmpty))
  | _ => false)
 | none => false
theorem zh9 {t : String} {v : Value} (h : isTy t v = true) : v = .type t := by
 cases v <;> first | exact ft h | (rw [beq_iff_eq.mp h])
theorem ziV {o : Option Obj} (h : emptyT o = true) : ∃ n, o = some (tupO [] n) := by
 cases o with
 | none => exact ft h
 | some o =>
  obtain ⟨c, d, dt, sl⟩ := o
  cases dt with
  | seq xs n =>
   have h2 := zaG h
   have h1 := zaH h
   have h3 := zaG h2
   have h2 := zaH h2
   have h4 := zaG h3
   have h3 := zaH h3
   rw [show c = _ from zh9 h1, show d = none from Option.isNone_iff_eq_none.mp h2, show xs = #[] from Array.isEmpty_iff.mp h3, show sl = #[] from Array.isEmpty_iff.mp h4]
   exact ⟨n, rfl⟩
  | _ => exact ft h
set_option backward.match.sparseCases false in
noncomputable def dv1 (K : Frag) (sv : SV) (v : Value) : Bool := match sv with
 | .none => (match v with
  | .none => true
  | _ => false)
 | .bool b => (match v with
  | .bool c => b == c
  | _ => false)
 | .tup l => (match v with
  | .ref a => l.isEmpty && emptyT (K.lookup a)
  | _ => false)
 | .int i => cvr (.int i) v
 | .str s => cvr (.str s) v
 | _ => false
noncomputable def dvB (K : Frag) : List SV → List Value → Bool
 | [], vs => vs.isEmpty
 | sv :: r, vs => match vs with
  | [] => false
  | v :: t => dv1 K sv v && dvB K r t
theorem zq2 {g : Gl} {sv : SV} {v : Value} (h : dv1 g.K sv v = true) (G : Sto) (rs : List Addr) (hG : ∀ b o, g.h0.get? b = some o → G b = some o) : VR g G rs sv v := by
 cases sv with
 | none => cases v with
  | none => exact VR.none
  | _ => exact ft h
 | bool b => cases v with
  | bool c => rw [beq_iff_eq.mp h]; exact VR.tok_bool _
  | _ => exact ft h
 | int i => exact ziY (sv := .int i) (u := v) h G rs
 | str s => exact ziY (sv := .str s) (u := v) h G rs
 | tup l => cases v with
  | ref a =>
   have h2 := zaG h
   have h1 := zaH h
   obtain ⟨n, e⟩ := ziV h2
   rw [List.isEmpty_iff.mp h1]
   exact ⟨_, [], n, rfl, hG _ _ (g.X _ _ e), VRl.nil⟩
  | _ => exact ft h
 | _ => exact ft h
theorem zl3 {g : Gl} : ∀ {svs : List SV} {vs : List Value}, dvB g.K svs vs = true → ∀ (G : Sto) rs, (∀ b o, g.h0.get? b = some o → G b = some o) → VRl g G rs svs vs
 | [], [], _, G, rs, _ => VRl.nil
 | [], _ :: _, h, _, _, _ => ft h
 | _ :: _, [], h, _, _, _ => ft h
 | sv :: r, v :: t, h, G, rs, hG => VRl.cons (zq2 (and_true h).1 G rs hG) (zl3 (and_true h).2 G rs hG)
end Mine
end
section
open PySem.SeqAt PySem.EqBoolInt
namespace Mine
noncomputable def rowsOk (K : Frag) (items : List Value) (n : Nat) : List (Nat × List SV) → Bool
 | [] => true
 | (k, us) :: r => ((Nat.ble k n && Nat.ble n (k + items.length)) && dvB K us (items.drop (k - (n - items.length)))) && rowsOk K items n r
noncomputable def seqO : Data → Option (List Value)
 | .seq xs _ => some xs.toList
 | _ => none
noncomputable def dflV (K : Frag) : Value → Option (List Value)
 | .none => some []
 | .ref D => (K.lookup D).bind fun o => seqO o.data
 | _ => none
noncomputable def dflOk (K : Frag) (fd : FuncData) (fi : FI) : Bool := match dflV K fd.defaults with
 | some items => Nat.ble items.length fi.params.length && rowsOk K items fi.params.length fi.dfl
 | none => false
theorem zn9 {K : Frag} {v : Value} {items : List Value} (h : dflV K v = some items) {s : Shared} (hK : K.In s.heap) :
  ∃ o : Option (Array Value), (o.getD #[]).toList = items ∧ ∀ (M : Model) (A : Around) (E : Value → Shared → Prop) (Q : Option (Array Value) → Shared → Prop), Q o s → wpAny M A (seqItems? v) Q E s := by
 cases v with
 | none => cases h; exact ⟨none, rfl, fun _ _ _ _ => wpAny_pure⟩
 | ref D =>
  obtain ⟨⟨c, d, dt, sl⟩, e, q⟩ := Option.bind_eq_some_iff.mp h
  cases dt with
  | seq xs n => cases q; exact ⟨some xs, rfl, fun _ _ _ _ => wpAny_seqItems (hK _ _ e) rfl⟩
  | _ => exact noS q
 | _ => exact noS h
set_option tactic.hygienic true in
theorem zeL {K : Frag} {items : List Value} {n : Nat} : ∀ {l : List (Nat × List SV)}, rowsOk K items n l = true → ∀ {k us}, lkN l k = some us → k ≤ n ∧ n ≤ k + items.length ∧ dvB K us (items.drop (k - (n - items.length))) = true
 | [], _, k, us, e => by cases e
 | (k0, us0) :: r, h, k, us, e => by
  have h2 := zaG h
  have h1 := zaH h
  have h4 := zaG h1
  have h3 := zaH h1
  have h6 := zaG h3
  have h5 := zaH h3
  unfold lkN at e
  split at e
  ·rename_i q
   cases e
   have := Nat.eq_of_beq_eq_true q
   subst this
   exact ⟨Nat.le_of_ble_eq_true h5, Nat.le_of_ble_eq_true h6, h4⟩
  ·exact zeL h2 e
theorem zqW {g : Gl} {a : Addr} {fd : FuncData} {fi : FI} (h0 : fdOf g.K a = some fd) (h1 : faceK g.K a = faceT (some fi)) (h2 : restF g.K fd = true) (h3 : dflOk g.K fd fi = true) (hc : scChk fi.sc fi.params = true) : FnOk g a fi := by
 obtain ⟨oc, od, osl, q⟩ := znX h0
 unfold faceK at h1
 rw [h0] at h1
 revert q h3
 refine zk2 (P := fun fd => dflOk g.K fd fi = true → g.K.lookup a = some ⟨oc, od, .func fd, osl⟩ → FnOk g a fi) h1 h2 fun name qual as kd ds dfl kwd doc pm an code ct k7 hps h3 q => ?_
 unfold dflOk at h3
 cases w : dflV g.K dfl with
 | none => rw [show (fnOf name qual _ fi.body fi.sc dfl kwd doc pm an code ct).defaults = dfl from rfl, w] at h3; cases h3
 | some items =>
  rw [show (fnOf name qual _ fi.body fi.sc dfl kwd doc pm an code ct).defaults = dfl from rfl, w] at h3
  have h6 := zaG h3
  have h5 := zaH h3
  have hnd : fi.params.Nodup := by
   unfold scChk at hc
   exact zc7 (and_true (and_true hc).2).1
  refine zqV q k7 hc fun k us hus => ?_
  obtain ⟨r1, r2, r3⟩ := zeL h6 hus
  refine ⟨_, zl3 r3, fun s vals X hl => ?_⟩
  cases hl
  obtain ⟨o, e1, e2⟩ := zn9 w X
  exact zlM hps e2 e1 hnd r1 (Nat.le_of_ble_eq_true h5) r2
end Mine
end
section
open PySem.SeqAt PySem.EqBoolInt
namespace Mine
noncomputable def dOk (K : Frag) : List (Nat × Option FI) → Bool
 | [] => true
 | (a, o) :: r => (match fdOf K a, o with
  | some fd, some fi => restF K fd && (dflOk K fd fi && scChk fi.sc fi.params)
  | _, _ => false) && dOk K r
theorem zdZ {α β : Type} {f g : α → β} : ∀ {l : List α}, l.map f = l.map g → ∀ x ∈ l, f x = g x
 | [], _, x, h => by cases h
 | a :: r, e, x, h => by
  rw [List.map_cons, List.map_cons] at e
  obtain ⟨e1, e2⟩ := List.cons.inj e
  rcases List.mem_cons.mp h with q | q
  ·rw [q]; exact e1
  ·exact zdZ e2 x q
theorem zl7 {K : Frag} : ∀ {l : List (Nat × Option FI)}, dOk K l = true → ∀ a fi, (a, some fi) ∈ l → ∃ fd, fdOf K a = some fd ∧ restF K fd = true ∧ dflOk K fd fi = true ∧ scChk fi.sc fi.params = true
 | [], _, a, fi, h => by cases h
 | (b, o) :: r, e, a, fi, h => by
  have e2 := zaG e
  have e1 := zaH e
  rcases List.mem_cons.mp h with q | q
  ·cases q
   cases w : fdOf K b with
   | none => rw [w] at e1; cases e1
   | some fd =>
    rw [w] at e1
    have e4 := zaG e1
    have e3 := zaH e1
    exact ⟨fd, rfl, e3, and_true e4⟩
  ·exact zl7 e2 a fi q
theorem znV {g : Gl} (h3 : dOk g.K fnRows = true) (h4 : fnRows.map (fun p => faceK g.K p.1) = fnRows.map (fun p => faceT p.2)) (a : Addr) (fi : FI) (e : fnOfA a = some fi) : FnOk g a fi := by
 have hm : (a, some fi) ∈ fnRows := by
  unfold fnOfA at e
  cases q : alk fnRows a with
  | none => rw [q] at e; cases e
  | some x => rw [q] at e; cases e; exact zdO q
 obtain ⟨fd, k0, k1, k2, k3⟩ := zl7 h3 _ _ hm
 exact zqW k0 (zdZ h4 _ hm) k1 k2 k3
end Mine
end
section
open PySem.SeqAt PySem.EqBoolInt
namespace Mine
structure Facts (g : Gl) : Prop where
 attr : attrB g.K attrRows = true
 meth : methB g.K methRows = true
 glob : globB g.K globRows = true
 bf : bfB g.K bfRows = true
 keep : keepB g.K (fnRows.map (·.1) ++ clsRows.map (·.1)) = true
 mb : ∀ x f, lk bfRows x = some f → g.mb x = some f.val
 d1 : dOk g.K fnRows = true
 d2 : fnRows.map (fun p => faceK g.K p.1) = fnRows.map (fun p => faceT p.2)
 cls : clsB g.K clsRows = true
theorem zeW {g : Gl} {S : Sigs g} (H : Facts g) {cells : List Nat} {spec : Nat → Option (Nat × Spec)} {tr : Bool} (h7 : ∀ a, (spec a).isSome = true → a ∈ fnRows.map (·.1) ++ clsRows.map (·.1)) (hs : ∀ a N sp, spec a = some (N, sp) → SemSpec g S tr a N sp)
  (ho : ∀ {X : Cx} {G : Sto} {rs : List Addr} {st : SS} {h : Heap} {fi : FI} {env : Env}, FrS X → fi.sc.kind = .function → Rel g X G rs st h → Enters fi env h → ∀ e s', S.Sg (callee X env h rs G) e s' →
   wpAny (model g.prog g.w) (X.A.deeper env) (leaving env e) (fun _ s'' => S.Sg X e s'') (fun e' s'' => S.Sg X e' s'') s') : CallOk g S (tab cells spec tr) where
 glob := ziF H.attr H.meth H.glob H.bf H.keep H.mb h7
 fn := znV H.d1 H.d2
 cls := fun C i e => zi6 H.cls (zdO e)
 spec := hs
 out := ho
theorem zdM {g : Gl} (H : Facts g) {cells : List Nat} {spec : Nat → Option (Nat × Spec)} {tr : Bool} (h7 : ∀ a, (spec a).isSome = true → a ∈ fnRows.map (·.1) ++ clsRows.map (·.1)) (hs : ∀ a N sp, spec a = some (N, sp) → SemSpec g (S0 g) tr a N sp) : CallOk g (S0 g) (tab cells spec tr) :=
 zeW H h7 hs fun _ _ _ _ _ _ h => h.elim
theorem SemSpec.lift {g : Gl} {S S' : Sigs g} {a N : Nat} {sp : Spec} (hp : ∀ vs K Er, sp vs K Er → sp vs K False) (h : SemSpec g S false a N sp) {tr : Bool} : SemSpec g S' tr a N sp :=
 fun R hv hh hd hu _ _ hsp hret _ => h R hv hh hd hu (fun q => q.elim) (fun q => q.elim (fun z => z.elim) nofun) (hp _ _ _ hsp) hret fun q => q.elim
end Mine
end
section
open PySem.SeqAt PySem.EqBoolInt
namespace Mine
noncomputable abbrev excMro : List Value := [.type "Exception", .type "BaseException", .type "object"]
noncomputable abbrev excObj (t : Addr) : Obj := { cls := .ref 96, data := .fields #[.ref t, .none, .none, .none, .bool false, .none] }
section
variable {prog : Program} {w : World} {A : Around} {K : Frag} {C : Addr} {R : Result → Shared → Prop} {h : Heap} {g : Array GenState} {d : Drawn} {t : Nat} {os : OsState}
variable {nm q : Str} {N : Addr} {bs : List Value} {hdct : Bool} {sn : List Str} {sub : List Value} {ab : Bool} {col : Option Bool} {dd : Option Addr} {k0 k1 k2 k3 k5 : Option Value}
theorem zk4 {rest : List Value} {f : Addr} (hC : h.get? C = some (excClassObj nm q C N bs excMro hdct sn sub ab col dd k0 k1 k2 k3 k5 "Exception.__new__"))
  (hi : Looks (model prog w) h (typeLookup (.ref C) "__init__") (some (.ref f))) (hb : ∀ self, Looks (model prog w) h (bindSpecial (.ref f) self) (.ref f, [self]))
  (call : Looks (model prog w) h (specialOf (.ref C) "__call__") (some (.builtin "type.__call__"))) (typ : Looks (model prog w) h (isInstance (.ref C) (.type "type")) true) (hrest : rest.length ≤ sizeLine)
  (hq : codeAny (model prog w) (A.under (.builtin "type.__call__" ⟨.ref C :: rest, []⟩)) (.call (.ref f) ⟨.ref (h.objs.size + 1) :: rest, []⟩) (InitBack (h.objs.size + 1) R)
   ⟨(h.push { cls := .type "tuple", data := .seq rest.toArray }).push { cls := .ref C, data := .fields #[.ref h.objs.size, .none, .none, .none, .bool false, .none] }, g, d, t, os⟩) :
  codeAny (model prog w) A (.call (.ref C) ⟨rest, []⟩) R ⟨h, g, d, t, os⟩ := by
 have FB := PySem.F.excBase_Exception
 refine codeAny_of_tree ?_
 show wpAny _ _ (callAny (.ref C) _) _ _ _
 refine nd_load hC ?_
 show wpAny _ _ (callAny.viaDunder (.ref C) _) _ _ _
 unfold callAny.viaDunder
 refine wpAny_bind (call.at ?_)
 dsimp only
 rw [PySem.tc_bind]
 refine wpAny_bind (wpAny_pure (wpAny_bind (wpAny_pure ?_)))
 refine wpAny_pure (a := Fin.again (.call (.builtin "type.__call__") ⟨.ref C :: rest, []⟩)) (And.intro rfl ?_)
 refine codeAny_call_builtin_at (Code.quiet_builtin _ (by decide +kernel)) entry_typeCall (check_slot PySem.tc_kind PySem.tc_split typ (tc_args _ _ _) ?_)
 unfold Builtin.«type.__call__»
 have hmade : Looks (model prog w) h (Bind.madeBy (.ref C)) (some "Exception.__new__") := by
  intro A Q E s k q
  unfold Bind.madeBy
  obtain ⟨hh, gg, dd', tt, oo⟩ := s
  repeat (first | refine wpAny_loadPart_at (k _ _ hC) ?_ | wp_step)
  exact q
 repeat (first | with_reducible refine wpAny_loadPart_at hC ?_ | with_reducible refine wpAny_madeBy_exc hC ?_ | wp_step)
 refine codeAny_call_builtin_code (Code.quiet_builtin _ FB.quiet) (wpAny_check_new_sub FB hC ?_)
 refine codeAny_exc_new_sub FB hC ?_ hrest
 show wpAny _ _ _ _ _ _
 have k : ∀ b o, h.get? b = some o → ((h.push { cls := .type "tuple", data := .seq rest.toArray }).push { cls := .ref C, data := .fields #[.ref h.objs.size, .none, .none, .none, .bool false, .none] }).get? b = some o := fun b o e => Heap.get?_push_of_some _ (Heap.get?_push_of_some _ e)
 have hC₁ := k _ _ hC
 have hx : ((h.push { cls := .type "tuple", data := .seq rest.toArray }).push { cls := .ref C, data := .fields #[.ref h.objs.size, .none, .none, .none, .bool false, .none] }).get? (h.objs.size + 1) = some { cls := .ref C, data := .fields #[.ref h.objs.size, .none, .none, .none, .bool false, .none] } := by heap_get
 have hcC : (Value.ref C :: excMro).contains (.ref C) = true := by simp
 have t1 : Looks (model prog w) ((h.push { cls := .type "tuple", data := .seq rest.toArray }).push { cls := .ref C, data := .fields #[.ref h.objs.size, .none, .none, .none, .bool false, .none] }) (typeOf (.ref (h.objs.size + 1))) (.ref C) := (Looks.ld hx).andThen .now
 have i1 := hi.keeps k
 have b1 := (hb (.ref (h.objs.size + 1))).keeps k
 unfold isInstance callSpecial? specialOf
 repeat (first | (with_reducible refine wpAny_isSubtype_exc hC₁ ?_; rw [hcC]) | with_reducible refine wpAny_call ?_ | lk)
 refine codeAny_mono hq fun r s' z => ?_
 rcases r with e | (v | _ | _ | _) <;> first | exact z | exact z.elim | skip
 obtain ⟨rfl, z⟩ := z
 exact wpAny_pure (wpAny_pure z)
end
end Mine
end
section
open PySem.SeqAt PySem.EqBoolInt Builtin Builtin.ObjectAttr
namespace Mine
theorem zgT (self : Value) (C : Addr) : refuseLoop self "__setattr__" (.ref C :: excMro) = pure () := by
 rw [refuseLoop_ref]; kernel_rfl
section
variable {prog : Program} {w : World} {A : Around} {s : Shared} {K : Frag} {R : Result → Shared → Prop}
variable {nm q : Str} {C N : Addr} {bs : List Value} {sn : List Str} {sub : List Value} {ab : Bool} {col : Option Bool} {dd : Option Addr} {k0 k1 k2 k3 k5 : Option Value}
theorem zhX {x : Addr} {ox : Obj} {name : Str} {tk : Tok} {v : Value} (X : K.In s.heap) (hC : s.heap.get? C = some (excClassObj nm q C N bs excMro true sn sub ab col dd k0 k1 k2 k3 k5 "Exception.__new__"))
  (hx : s.heap.get? x = some ox) (hc : ox.cls = .ref C) (ht : takerIn K C name = some none)
  (h : ∀ b, wpAny (model prog w) A.in1 (storeInOwnDict (.ref x) (.ref C) (.str name tk) name v b)
   (fun fin s' => match fin with | .done f => R (.ok f) s' | .again c' => c'.quiet = true ∧ codeAny (model prog w) A c' R s') (fun e s' => R (.error e) s') s) :
  codeAny (model prog w) A (.call (.builtin "object.__setattr__") ⟨[.ref x, .str name tk, v], []⟩) R s := by
 have SF := PySem.F.store_object
 have ty : Looks (model prog w) s.heap (typeOf (.ref x)) (.ref C) := hc ▸ (Looks.ld hx).andThen .now
 have hm : Looks (model prog w) s.heap (mroOf (.ref C)) (.ref C :: excMro) := by
  intro A Q E s' k q
  obtain ⟨hh, gg, dd', tt, oo⟩ := s'
  exact wpAny_mroOf_exc (k _ _ hC) q
 have sub : Looks (model prog w) s.heap (isInstance (.ref x) (.type "object")) true := by
  refine ty.andThen ?_
  intro A Q E s' k q
  obtain ⟨hh, gg, dd', tt, oo⟩ := s'
  refine wpAny_isSubtype_exc (k _ _ hC) ?_
  have : (Value.ref C :: excMro).contains (.type "object") = true := by rw [List.contains_cons, show excMro.contains (Value.type "object") = true by decide +kernel, Bool.or_true]
  rw [this]; exact q
 refine codeAny_call_builtin SF.slot.plain SF.entry (@check_slot (model prog w) _ _ s "object.__setattr__" "object" "__setattr__" (.ref x) [.str name tk, v] [] _ SF.kind SF.split sub (SF.args (.ref x) (.str name tk) v) ?_)
 obtain ⟨attr, ha, hr⟩ := Option.bind_eq_some_iff.mp ht
 have L3 : Looks (model prog w) s.heap (storeTaker? attr) none := by
  cases attr with
  | none => exact .now
  | some a =>
   obtain ⟨b, hb, hb2⟩ := Option.map_eq_some_iff.mp hr
   refine (looks_takesIn X hb).andThen ?_
   cases b with
   | true => cases hb2
   | false => exact .now
 rw [osa_eq, refuse_eq]
 refine wpAny_bind (wpAny_bind (ty.here (wpAny_bind (hm.here ?_))))
 rw [zgT]
 refine wpAny_pure (wpAny_bind (ty.here (wpAny_bind ((looks_findIn X ha).here (wpAny_bind (L3.here ?_))))))
 exact h _
theorem zfX {d : Addr} {es : List DictEntry} {n : Nat} {name : Str} {tk : Tok} {v : Value} {A' : Around} {s : Shared} {Q : PySem.Fin → Shared → Prop} {E : Value → Shared → Prop} (hD : s.heap.get? d = some (dictOf es n)) (hr : es.any (·.refKey) = false)
  (hz : (putL name (PyData.keyHash w.params name) (.str name s.toks) v es).length ≤ 1000)
  (h : Q (.done (.ret .none)) { s with heap := s.heap.update d (Obj.putName name (PyData.keyHash w.params name) (.str name s.toks) v), toks := s.toks + 1 }) :
  wpAny (model prog w) A' (storeInDict d (.str name tk) name v) Q E s := by
 unfold storeInDict newKeyGuard
 refine wpAny_bind (wpAny_pure (wpAny_bind ?_))
 unfold nsSet
 refine wpAny_bind (wpAny_bind (wpAny_askSetting (wpAny_pure (wpAny_bind (wpAny_mkText (wpAny_bind (wpAny_loadPart hD ?_)))))))
 have c : (!es.toArray.any (·.key.isStr name) && es.toArray.any (·.refKey)) = false := by
  rw [List.any_toArray, List.any_toArray, hr, Bool.and_false]
 dsimp only
 rw [aRefKeyMayBeTheName_at, c]
 refine wpAny_updatePart hD ?_
 have e : Obj.putName name (PyData.keyHash w.params name) (.str name s.toks) v (dictOf es n) = dictOf (putL name (PyData.keyHash w.params name) (.str name s.toks) v es) (putN name es n) := putName_dict _ _ _ _ _ _
 have D' : (s.heap.update d (Obj.putName name (PyData.keyHash w.params name) (.str name s.toks) v)).get? d = some (dictOf (putL name (PyData.keyHash w.params name) (.str name s.toks) v es) (putN name es n)) := by
  rw [← e]; exact Heap.get?_update_self _ hD (by rw [e]; rfl)
 refine wpAny_bind (wpAny_lookBehind D' (pastItsLine_dict (by rw [List.size_toArray, sizeLine_eq]; lia)) ?_)
 exact wpAny_pure h
theorem zkT {x d : Addr} {ox : Obj} {es : List DictEntry} {n : Nat} {name : Str} {tk : Tok} {v : Value} (X : K.In s.heap) (hC : s.heap.get? C = some (excClassObj nm q C N bs excMro true sn sub ab col dd k0 k1 k2 k3 k5 "Exception.__new__"))
  (hx : s.heap.get? x = some ox) (hc : ox.cls = .ref C) (hd : ox.dict = some d) (hD : s.heap.get? d = some (dictOf es n)) (hr : es.any (·.refKey) = false) (ht : takerIn K C name = some none)
  (hz : (putL name (PyData.keyHash w.params name) (.str name s.toks) v es).length ≤ 1000)
  (h : R (.ok (.ret .none)) { s with heap := s.heap.update d (Obj.putName name (PyData.keyHash w.params name) (.str name s.toks) v), toks := s.toks + 1 }) :
  codeAny (model prog w) A (.call (.builtin "object.__setattr__") ⟨[.ref x, .str name tk, v], []⟩) R s := by
 refine zhX X hC hx hc ht fun b => ?_
 unfold storeInOwnDict ownStreamTells ownDictForStores instanceDict
 refine wpAny_bind (wpAny_pure ?_)
 refine wpAny_bind (wpAny_bind (wpAny_loadPart hx ?_))
 rw [hc, hd]
 have L : Looks (model prog w) s.heap (classData C) _ := (Looks.ld (part := none) hC).andThen .now
 refine wpAny_bind (L.here ?_)
 exact wpAny_pure (a := some d) (zfX hD hr hz h)
theorem zkU {x : Addr} {ox : Obj} {name : Str} {tk : Tok} {v : Value} (X : K.In s.heap) (hC : s.heap.get? C = some (excClassObj nm q C N bs excMro true sn sub ab col dd k0 k1 k2 k3 k5 "Exception.__new__"))
  (hx : s.heap.get? x = some ox) (hc : ox.cls = .ref C) (hd : ox.dict = none) {vs : Array Value} (hf : ox.data = .fields vs) (ht : takerIn K C name = some none)
  (h : R (.ok (.ret .none)) { s with heap := ((s.heap.push emptyDict).update x fun o => { o with dict := some s.heap.objs.size }).update s.heap.objs.size (Obj.putName name (PyData.keyHash w.params name) (.str name s.toks) v), toks := s.toks + 1 }) :
  codeAny (model prog w) A (.call (.builtin "object.__setattr__") ⟨[.ref x, .str name tk, v], []⟩) R s := by
 refine zhX X hC hx hc ht fun b => ?_
 unfold storeInOwnDict ownStreamTells ownDictForStores instanceDict
 refine wpAny_bind (wpAny_pure ?_)
 refine wpAny_bind (wpAny_bind (wpAny_loadPart hx ?_))
 rw [hc, hd, hf]
 have L : Looks (model prog w) s.heap (classData C) _ := (Looks.ld (part := none) hC).andThen .now
 refine wpAny_bind (L.here ?_)
 have hx2 : (s.heap.push emptyDict).get? x = some ox := Heap.get?_push_of_some _ hx
 have hne : x ≠ s.heap.objs.size := Nat.ne_of_lt (Heap.lt_size hx)
 refine wpAny_bind (wpAny_alloc ?_)
 refine wpAny_bind (wpAny_update hx2 ?_)
 refine wpAny_pure (a := some s.heap.objs.size) ?_
 have hD : ((s.heap.push emptyDict).update x fun o => { o with dict := some s.heap.objs.size }).get? s.heap.objs.size = some (dictOf [] 0) := by
  rw [Heap.get?_update_other _ _ hne]
  exact Heap.get?_push_size _ rfl
 exact zfX (s := { s with heap := (s.heap.push emptyDict).update x fun o => { o with dict := some s.heap.objs.size } }) hD rfl (by simp [putL]) h
end
end Mine
end
section
open PySem.SeqAt PySem.EqBoolInt Builtin Builtin.ObjectAttr
namespace Mine
noncomputable abbrev dataN : Str := Str.ofString "data"
noncomputable abbrev selfN : Str := Str.ofString "self"
inductive ExcObj (o : Option Obj) : Prop
 | mk (nm : _) (q : _) (bs : _) (sn : _) (sub : _) (ab : _) (col : _) (dd : _) (k0 : _) (k1 : _) (k2 : _) (k3 : _) (k5 : _) (e : o = some (excClassObj nm q 96 95 bs excMro true sn sub ab col dd k0 k1 k2 k3 k5 "Exception.__new__"))
structure ExcK (K : Frag) : Prop where
 obj : ExcObj (K.lookup 96)
 ini : findIn K (.ref 96) "__init__" = some (some (.ref 93))
 fn : typeIn K (.ref 93) = some (.type "function")
 call : specialIn K (.ref 96) "__call__" = some (some (.builtin "type.__call__"))
 typ : instIn K (.ref 96) (.type "type") = some true
 set : findIn K (.ref 96) "__setattr__" = some (some (.builtin "object.__setattr__"))
 tk1 : takerIn K 96 symN = some none
 tk2 : takerIn K 96 dataN = some none
 ga : findIn K (.ref 96) "__getattribute__" = some (some (.builtin "BaseException.__getattribute__"))
 nga : findIn K (.ref 96) "__getattr__" = some none
 fnd : findIn K (.ref 96) symN = some none
 hasd : (clsIn K 96).any (·.hasDict) = true
section
variable {g : Gl} {X : Cx} {G : Sto} {rs : List Addr} {st : SS} {h h' : Heap} {tk : Nat}
theorem zcW {a b : Addr} {o : Obj} (e : (h.hide a).get? b = some o) : b ≠ a ∧ h.get? b = some o := by
 refine ⟨fun q => ?_, Heap.of_hide e⟩
 subst q; rw [Heap.hide_self] at e; cases e
noncomputable def Cx.hideE (X : Cx) (e : Addr) : Cx := { X with hs := X.hs.hide e }
theorem Rel.hideE (R : Rel g X G rs st h) (e : Addr) : Rel g (X.hideE e) G rs st h := by
 refine ⟨R.sto, R.base, R.ns, R.cels, R.loc, R.len, R.cell, R.nd, R.fresh, fun a ha => ?_, R.wfa, R.ownl, fun b o q => R.old b o (zcW q).2, fun b o q => R.olds b o (zcW q).2, R.fo, R.lc, fun b o q => ?_⟩
 ·rcases R.own a ha with q | q
  ·exact .inl q
  ·right
   cases w : (X.hs.hide e).get? a with
   | none => exact w
   | some o => rw [(zcW w).2] at q; cases q
 ·rcases R.gnew b o q with z | z
  ·exact .inl z
  ·right
   cases w : (X.hs.hide e).get? b with
   | none => exact w
   | some o => rw [(zcW w).2] at z; cases z
theorem Rel.backE {X' : Cx} {st' : SS} {e : Addr} (R : Rel g X G rs st h) (R' : Rel g X' G rs st' h') (hh : X'.hs = h.hide e) (ho : X'.own = rs) (hg : X'.G0 = G) (hf : X'.frs = X.fs) (newL : h.get? X'.env.locals = none) (ap : Apart X G rs e) (hH : st'.H = st.H) : Rel g X G rs st h' := by
 have hd : ∀ b o, b ≠ e → h.get? b = some o → X'.hs.get? b = some o := fun b o n q => by rw [hh, Heap.hide_ne _ n]; exact q
 have fsd : ∀ b o, h.get? b = some o → b ∉ X.fs → b ∉ X'.fs := fun b o e n q => by
  rcases List.mem_cons.mp q with z | z
  ·rw [z, newL] at e; cases e
  ·rw [hf] at z; exact n z
 have fsi : ∀ b, b ∈ X.fs → b ∈ X'.fs := fun b q => List.mem_cons_of_mem _ (by rw [hf]; exact q)
 have nfa : ∀ b ∈ X.fa, b ≠ e := fun b hb q => ap.n1 (List.mem_append_left _ (by rw [← q]; exact hb))
 have fr : ∀ a ∈ X.fa, a ∉ rs := R.nd.1
 have keep : ∀ b o, b ∉ rs → b ∉ X.fs → b ≠ e → h.get? b = some o → h'.get? b = some o := fun b o hb n ne e => R'.old b o (hd b o ne e) (by rw [ho]; exact hb) (fsd b o e n)
 have keeps : ∀ b o, b ∈ X.fs → h.get? b = some o → ∃ sl, h'.get? b = some { o with slots := sl } := fun b o hb e => R'.olds b o (hd b o (nfa b (Cx.fa_fs hb)) e) (by rw [ho]; exact R.nd.1 b (Cx.fa_fs hb)) (fsi b hb)
 have cn : ∀ p ∈ X.env.cells, p.2 ∉ X.fs := fun p hp q => by
  rcases List.mem_cons.mp q with z | z
  ·exact R.lc (by rw [← z]; exact List.mem_map_of_mem hp)
  ·exact (R.fo _ z).1 (List.mem_cons_of_mem _ (List.mem_map_of_mem hp))
 have nsk : ∀ m, h.Ns X.env.locals m → h'.Ns X.env.locals m := fun m hn => by
  obtain ⟨o, es, ep, ho, hd, r⟩ := hn
  obtain ⟨sl, z⟩ := keeps _ _ List.mem_cons_self ho
  exact ⟨_, es, ep, z, hd, r⟩
 refine ⟨R'.sto, R'.base, ?_, fun p hp => ?_, fun y sv e => ?_, R.len, fun i a so e1 e2 => R'.cell i a so e1 (by rw [hH]; exact e2), R.nd, R.fresh, R.own, R.wfa, fun a ha => ?_, fun b o e n n2 => ?_, fun b o e n n2 => ?_, fun a ha => ?_, R.lc, R.gnew⟩
 ·obtain ⟨m, hn⟩ := R.ns; exact ⟨m, nsk m hn⟩
 ·obtain ⟨v, o, e, r⟩ := R.cels p hp
  exact ⟨v, o, keep _ _ (fr _ (Cx.fa_cell hp)) (cn p hp) (nfa _ (Cx.fa_cell hp)) e, r⟩
 ·obtain ⟨v, p, q⟩ := R.loc y sv e
  refine ⟨v, p, ?_⟩
  rcases q with ⟨k1, m, n1, n2⟩ | ⟨k1, c, c1, o, c2, c3⟩
  ·exact .inl ⟨k1, m, nsk m n1, n2⟩
  ·have hm : (y, c) ∈ X.env.cells := mem_of_lookup c1
   exact .inr ⟨k1, c, c1, o, keep _ _ (fr _ (Cx.fa_cell hm)) (cn _ hm) (nfa _ (Cx.fa_cell hm)) c2, c3⟩
 ·obtain ⟨o, e1⟩ := R.ownl a ha
  by_cases q : a ∈ rs
  ·exact R'.ownl a (by rw [ho]; exact q)
  ·exact R'.oldl (hd a o (fun z => ap.n4 (by rw [← z]; exact ha)) e1) (by rw [ho]; exact q)
 ·have hb := R.old b o e n n2
  refine keep b o (fun q => ?_) n2 (fun q => ?_) hb
  ·rcases R.own b (List.mem_append_right _ q) with z | z
   ·exact n z
   ·rw [z] at e; cases e
  ·have := ap.n3
   rw [← q, e] at this; cases this
 ·obtain ⟨sl, z⟩ := R.olds b o e n n2
  obtain ⟨sl', z'⟩ := keeps b _ n2 z
  exact ⟨sl', z'⟩
 ·obtain ⟨q, o, e, d⟩ := R.fo a ha
  obtain ⟨sl, z⟩ := keeps a o (List.mem_cons_of_mem _ ha) e
  exact ⟨q, _, z, d⟩
end
noncomputable def initFI : FI := match fnOfA 93 with | some x => x | none => ⟨[], [], [], ⟨.function, [], false, false, []⟩⟩
theorem ziC : fnOfA 93 = some initFI := by kernel_rfl
noncomputable abbrev np (l c e : Nat) : Pos := { line := l, col := c, endLine := l, endCol := e }
theorem zfC : initFI.body = [.Assign [.Attribute (.Name selfN (np 40 8 12)) symN (np 40 8 19)] (.Name symN (np 40 22 28)) (np 40 8 28), .Assign [.Attribute (.Name selfN (np 41 8 12)) dataN (np 41 8 17)] (.Name dataN (np 41 20 24)) (np 41 8 24)] := by kernel_rfl
theorem zfD (a b c : SV) : bindArgsS initFI.params initFI.dfl [a, b, c] = some [(selfN, a), (symN, b), (dataN, c)] := by kernel_rfl
theorem zd0 (a b c : SV) : lk [(selfN, a), (symN, b), (dataN, c)] selfN = some a := by kernel_rfl
theorem zg2 (a b c : SV) : lk [(selfN, a), (symN, b), (dataN, c)] symN = some b := by kernel_rfl
theorem zg1 (a b c : SV) : lk [(selfN, a), (symN, b), (dataN, c)] dataN = some c := by kernel_rfl
section
variable {g : Gl} {S : Sigs g} {T : Tab} {X : Cx} {G : Sto} {rs : List Addr} {st : SS} {h : Heap} {tk : Nat} {R : Result → Shared → Prop}
theorem Rel.nameAt {fc : FC} (V : FOk g S fc X) (R : Rel g X G rs st h) {x : Str} {sv : SV} (q : lk st.loc x = some sv) : ∃ v, VR g G rs sv v ∧ ∀ {A : Around} {E : Value → Shared → Prop} {Q : Value → Shared → Prop} {tk : Nat} {pos : Pos}, Q v (X.sh h tk) → wpAny (model g.prog g.w) A (eval (.Name x pos) X.env) Q E (X.sh h tk) := by
 have deb : ∀ k, X.env.kindOf x = some k → (x == Str.ofString "__debug__") = false := fun k e => by
  rw [zbV]; exact beq_eq_false_iff_ne.mpr (V.nd x k e).1
 obtain ⟨v, hv, hn⟩ := R.loc x sv q
 refine ⟨v, hv, fun fin => ?_⟩
 rcases hn with ⟨k1, m, n1, n2⟩ | ⟨k1, c, c1, c2⟩
 ·exact wpAny_Name (wpAny_loadName_local V.v.kind k1 n1 n2 fin) (deb _ k1)
 ·rcases k1 with k1 | k1
  ·exact wpAny_Name (wpAny_loadName_cell V.v.kind k1 c1 c2 fin) (deb _ k1)
  ·exact wpAny_Name (wpAny_loadName_free V.v.kind k1 c1 c2 fin (by show (x == Str.ofString "__classdict__") = false; rw [zcR]; exact beq_eq_false_iff_ne.mpr (V.nd x _ k1).2)) (deb _ k1)
theorem zk5 (F : ExcK g.K) (ok : GlobOk g T) (hfn : FnOk g 93 initFI) (hh : X.A.handled = none) (hdep : X.A.depth + 1 ≤ 900) (hun : X.A.units + 3 ≤ 8000) (Rl : Rel g X G rs st h) {e t : Addr} (ap : Apart X G rs e) (he : h.get? e = some (excObj t))
  {sy : Str} {s2 : SV} {v1 v2 : Value} (h1 : VR g G rs (.str sy) v1) (h2 : VR g G rs s2 v2)
  (hq : ∀ h' tk' d n es, Rel g X G rs st h' → h'.get? e = some { excObj t with dict := some d } → h'.get? d = some (dictOf es n) → (∃ t', getL symN es = some (some (.str sy t'))) → d ≠ e → h.get? d = none → R (.ok (.ret (.ref e))) (X.sh h' tk')) :
  codeAny (model g.prog g.w) X.A (.call (.ref 93) ⟨[.ref e, v1, v2], []⟩) (InitBack e R) (X.sh h tk) := by
 have hv : VRl g G rs [.top (.ref e), .str sy, s2] [.ref e, v1, v2] := VRl.cons rfl (VRl.cons h1 (VRl.one h2))
 refine hfn.run Rl hv (zfD _ _ _) (by lia) fun env h₁ tk₁ en R₁ => ?_
 have V : FOk g (S0 g) ⟨initFI.sc, 0, fun _ _ => none, False, false⟩ (callee X env h rs G) := FOk.enter (fc := ⟨initFI.sc, 1, fun _ _ => none, False, false⟩) (S := S0 g) ⟨hh, fun d e => by
  have e' : 1 = d + 1 := e
  have : d = 0 := by lia
  subst this
  show X.A.depth + 1 + 3 * 0 ≤ 900 ∧ X.A.units + 3 + 12 * 0 ≤ 8000
  lia, fun q => q.elim, fun q => q.elim (fun z => z.elim) nofun⟩ hfn en rfl
 have newL : h.get? env.locals = none := by
  rcases R₁.own env.locals (List.mem_append_left _ List.mem_cons_self) with q | q
  ·exact absurd (show env.locals ∈ rs from q) (R₁.nd.1 _ Cx.fa_loc)
  ·exact q
 have nrs : e ∉ rs := fun q => ap.n1 (List.mem_append_right _ q)
 have nfa : e ∉ (callee X env h rs G).fa := fun q => by
  rcases Cx.fa_cases q with z | z | z
  ·rw [show env.locals = e from z.symm, he] at newL; cases newL
  ·rcases R₁.own e (List.mem_append_left _ (List.mem_cons_of_mem _ z)) with w | w
   ·exact nrs w
   ·rw [show h.get? e = none from w] at he; cases he
  ·exact ap.n1 (List.mem_append_left _ (Cx.fa_fs z))
 have he₁ : h₁.get? e = some (excObj t) := R₁.old e _ he nrs fun q => nfa (Cx.fa_fs q)
 have apE : Apart ((callee X env h rs G).hideE e) G rs e := ⟨fun q => by
  rcases List.mem_append.mp q with z | z
  ·exact nfa z
  ·exact nrs z, ap.n2, Heap.hide_self _ _, nrs⟩
 have Rh := R₁.hideE e
 have Vh : FOk g (S0 g) ⟨initFI.sc, 0, fun _ _ => none, False, false⟩ ((callee X env h rs G).hideE e) := ⟨⟨V.v.kind, V.v.loc, V.v.cap, V.v.wl⟩, V.gl, V.bl, V.hh, V.dep, V.un, V.glob, V.store, V.nd, V.cel, V.l1, V.er, V.fr⟩
 clear R₁ V
 generalize hXe : (callee X env h rs G).hideE e = Xe at Rh Vh apE
 have eA : Xe.A = X.A.deeper env := by rw [← hXe]; rfl
 have eE : Xe.env = env := by rw [← hXe]; rfl
 have esh : ∀ h tk, X.sh h tk = Xe.sh h tk := fun h tk => by rw [← hXe]; rfl
 obtain ⟨nm, q, bs, sn, sub, ab, col, dd, k0, k1, k2, k3, k5, hKC⟩ := F.obj
 rw [zfC, esh, ← eA, ← eE]
 refine wpAny_execs_cons (plainObj_wpAny_Assign_Attribute ?_ (za5 rfl _ _ _))
 obtain ⟨w1, hw1, n1⟩ := Rel.nameAt Vh Rh (zg2 _ _ _)
 obtain ⟨w0, hw0, n0⟩ := Rel.nameAt Vh Rh (zd0 _ _ _)
 replace hw0 : _ = _ := hw0
 subst hw0
 refine n1 (n0 ?_)
 have K₁ := Rh.kin
 refine set_plain (s := Xe.sh h₁ tk₁) K₁ (ox := excObj t) (od := none) ⟨he₁, rfl, rfl, trivial⟩ F.set ?_
 refine zkU (s := Xe.sh h₁ (tk₁ + 1)) K₁ (K₁ _ _ hKC) he₁ rfl rfl rfl F.tk1 ?_
 have hlt : e < h₁.objs.size := Heap.lt_size he₁
 have hne : e ≠ h₁.objs.size := Nat.ne_of_lt hlt
 have hf1 : FRl g G rs [(symN, .str sy)] (putL symN (PyData.keyHash g.w.params symN) (.str symN (tk₁ + 1)) w1 []) := FRl.put (fs := []) (by simp [FRl]) hw1
 generalize hes1 : putL symN (PyData.keyHash g.w.params symN) (.str symN (tk₁ + 1)) w1 [] = es1 at hf1
 have ha2 : ((h₁.push emptyDict).update e fun o => { o with dict := some h₁.objs.size }).get? h₁.objs.size = some (dictOf [] 0) := by
  rw [Heap.get?_update_other _ _ hne]
  exact Heap.get?_push_size _ rfl
 have he2 : ((h₁.push emptyDict).update e fun o => { o with dict := some h₁.objs.size }).get? e = some { excObj t with dict := some h₁.objs.size } :=
  Heap.get?_update_self (fun o => { o with dict := some h₁.objs.size }) (Heap.get?_push_of_some emptyDict he₁) rfl
 have k2 : ∀ b o, b ≠ e → h₁.get? b = some o → ((h₁.push emptyDict).update e fun o => { o with dict := some h₁.objs.size }).get? b = some o := fun b o hb q => by
  rw [Heap.get?_update_other _ _ (Ne.symm hb)]; exact Heap.get?_push_of_some _ q
 generalize hh2 : ((h₁.push emptyDict).update e fun o => { o with dict := some h₁.objs.size }) = h2 at ha2 he2 k2
 have p3 : Obj.putName symN (PyData.keyHash g.w.params symN) (.str symN (tk₁ + 1)) w1 (dictOf [] 0) = dictOf es1 (putN symN [] 0) := by rw [← hes1]; exact putName_dict _ _ _ _ _ _
 have ha3 : (h2.update h₁.objs.size (Obj.putName symN (PyData.keyHash g.w.params symN) (.str symN (tk₁ + 1)) w1)).get? h₁.objs.size = some (dictOf es1 (putN symN [] 0)) := by
  rw [← p3]; exact Heap.get?_update_self _ ha2 (by rw [p3]; rfl)
 have k3 : ∀ b o, b ≠ h₁.objs.size → h2.get? b = some o → (h2.update h₁.objs.size (Obj.putName symN (PyData.keyHash g.w.params symN) (.str symN (tk₁ + 1)) w1)).get? b = some o := fun b o hb q => by
  rw [Heap.get?_update_other _ _ (Ne.symm hb)]; exact q
 generalize hh3 : h2.update h₁.objs.size (Obj.putName symN (PyData.keyHash g.w.params symN) (.str symN (tk₁ + 1)) w1) = h3 at ha3 k3
 have apD : Apart Xe G rs h₁.objs.size := Rh.apart (Nat.le_refl _)
 have R3 : Rel g Xe G rs ⟨[(selfN, .top (.ref e)), (symN, .str sy), (dataN, s2)], st.H⟩ h3 := Rh.touch (fun a => a = e ∨ a = h₁.objs.size) (fun a q => by
  rcases q with rfl | rfl
  ·exact apE
  ·exact apD) fun b o hb q => k3 b o (fun z => hb (.inr z)) (k2 b o (fun z => hb (.inl z)) q)
 have he3 := k3 _ _ hne he2
 show wpAny _ _ _ _ _ (Xe.sh h3 _)
 refine wpAny_execs_cons (plainObj_wpAny_Assign_Attribute ?_ (za5 rfl _ _ _))
 obtain ⟨w2, hw2, n2⟩ := Rel.nameAt Vh R3 (zg1 _ _ _)
 obtain ⟨w0, hw0, n0'⟩ := Rel.nameAt Vh R3 (zd0 _ _ _)
 replace hw0 : _ = _ := hw0
 subst hw0
 refine n2 (n0' ?_)
 have K₃ := R3.kin
 refine set_plain (s := Xe.sh h3 _) K₃ (ox := { excObj t with dict := some h₁.objs.size }) (od := some (dictOf es1 (putN symN [] 0))) ⟨he3, rfl, rfl, ha3⟩ F.set ?_
 have hf2 : ∀ tk, FRl g G rs [(symN, .str sy), (dataN, s2)] (putL dataN (PyData.keyHash g.w.params dataN) (.str dataN tk) w2 es1) := fun tk => by
  have := FRl.put (x := dataN) (t := tk) hf1 hw2
  rwa [show lset [(symN, SV.str sy)] dataN s2 = [(symN, .str sy), (dataN, s2)] by kernel_rfl] at this
 refine zkT (s := Xe.sh h3 _) K₃ (K₃ _ _ hKC) he3 rfl rfl ha3 hf1.noRef F.tk2 (by rw [(hf2 _).length]; simp) ?_
 have p4 : ∀ tk, Obj.putName dataN (PyData.keyHash g.w.params dataN) (.str dataN tk) w2 (dictOf es1 (putN symN [] 0)) = dictOf (putL dataN (PyData.keyHash g.w.params dataN) (.str dataN tk) w2 es1) (putN dataN es1 (putN symN [] 0)) := fun tk => putName_dict _ _ _ _ _ _
 have ha4 : ∀ tk, (h3.update h₁.objs.size (Obj.putName dataN (PyData.keyHash g.w.params dataN) (.str dataN tk) w2)).get? h₁.objs.size = some (dictOf (putL dataN (PyData.keyHash g.w.params dataN) (.str dataN tk) w2 es1) (putN dataN es1 (putN symN [] 0))) := fun tk => by
  rw [← p4]; exact Heap.get?_update_self _ ha3 (by rw [p4]; rfl)
 have k4 : ∀ tk b o, b ≠ h₁.objs.size → h3.get? b = some o → (h3.update h₁.objs.size (Obj.putName dataN (PyData.keyHash g.w.params dataN) (.str dataN tk) w2)).get? b = some o := fun tk b o hb q => by
  rw [Heap.get?_update_other _ _ (Ne.symm hb)]; exact q
 have R4 : ∀ tk, Rel g Xe G rs ⟨[(selfN, .top (.ref e)), (symN, .str sy), (dataN, s2)], st.H⟩ (h3.update h₁.objs.size (Obj.putName dataN (PyData.keyHash g.w.params dataN) (.str dataN tk) w2)) := fun tk => R3.touch (· = h₁.objs.size) (fun a q => by rw [q]; exact apD) fun b o hb q => k4 tk b o hb q
 refine wpAny_execs_nil ⟨rfl, ?_⟩
 show R _ (Xe.sh (h3.update h₁.objs.size (Obj.putName dataN (PyData.keyHash g.w.params dataN) (.str dataN _) w2)) _)
 obtain ⟨u, hu, hur⟩ := (hf2 (Xe.sh h3 (tk₁ + 1 + 1 + 1)).toks).find (x := symN) (sv := .str sy) (by kernel_rfl)
 obtain ⟨t', rfl⟩ := hur
 have hd : h.get? h₁.objs.size = none := by
  cases q : h.get? h₁.objs.size with
  | none => rfl
  | some o =>
   have := apD.n3
   rw [← hXe] at this
   rw [show ((callee X env h rs G).hideE e).hs.get? h₁.objs.size = h.get? h₁.objs.size from Heap.hide_ne _ (Ne.symm hne), q] at this
   cases this
 rw [← esh]
 refine hq _ _ h₁.objs.size _ _ (Rel.backE Rl (R4 _) (by rw [← hXe]; rfl) (by rw [← hXe]; rfl) (by rw [← hXe]; rfl) (by rw [← hXe]; rfl) (by rw [eE]; exact newL) ap rfl) (k4 _ _ _ hne he3) (ha4 _) ⟨t', hu⟩ (Ne.symm hne) hd
end
end Mine
end
section
open PySem.SeqAt PySem.EqBoolInt Builtin Builtin.ObjectAttr
namespace Mine
inductive ExcAt (X : Cx) (h : Heap) (e : Addr) (vs : Array Value) : Prop
 | mk (oe : Obj) (d : Addr) (es : _) (n : _) (sy : Str) (t : _) (e1 : h.get? e = some oe) (e2 : oe.cls = .ref 96) (e3 : oe.dict = some d) (e4 : oe.data = .fields vs) (e5 : 1 < vs.size) (e6 : h.get? d = some (dictOf es n)) (e7 : getL symN es = some (some (.str sy t))) (e8 : X.hs.get? e = none) (e9 : d ∉ X.fs)
inductive Noted (X : Cx) (h : Heap) (e : Addr) (vs : Array Value) (f : Value) : Prop
 | mk (T : Addr) (oT : Obj) (ts : Array Value) (h1 : vs[1]? = some (.ref T)) (h2 : T ≠ e) (h3 : X.hs.get? T = none) (h4 : h.get? T = some oT) (h5 : oT.data = .fields ts) (h6 : ts[3]? = some f)
structure Kept (X : Cx) (h : Heap) : Prop where
 k : ∀ b o, X.hs.get? b = some o → b ∉ X.own → b ∉ X.fs → h.get? b = some o
 s : ∀ b o, X.hs.get? b = some o → b ∉ X.own → b ∈ X.fs → ∃ sl, h.get? b = some { o with slots := sl }
 f : ∀ b ∈ X.fs, ∃ o, h.get? b = some o ∧ ∀ vs, o.data ≠ .fields vs
 o : ∀ b ∈ X.own, ∃ o, h.get? b = some o
inductive FlyIn (X : Cx) (h : Heap) (e : Addr) (P : Value → Prop) : Prop
 | mk (vs : Array Value) (f : Value) (x : ExcAt X h e vs) (n : Noted X h e vs f) (p : P f)
noncomputable abbrev InFl (X : Cx) (h : Heap) (e : Addr) : Prop := (∃ vs, ExcAt X h e vs ∧ vs[1]? = some .none) ∨ FlyIn X h e fun f => f = .none ∨ f = rawInt X.env.locals
inductive SgK (X : Cx) (v : Value) (s : Shared) : Prop
 | mk (e : Addr) (h : Heap) (tk : Nat) (ev : v = .ref e) (es : s = X.sh h tk) (K : Kept X h) (z : InFl X h e)
theorem Kept.frames {X : Cx} {h : Heap} (K : Kept X h) (F : FrS X) {outer : List Env} (ho : ∀ e ∈ outer, e.scope.kind ≠ .module ∧ ∃ L ∈ X.frs, e.frame = some L) : h.FunFrames {} (X.env :: outer) := by
 have nn : ∀ a, ({} : Heap).get? a = none := fun a => by cases q : ({} : Heap).get? a with | none => rfl | some o => exact absurd (Heap.lt_size q) (Nat.not_lt_zero _)
 have one : ∀ env L, env.scope.kind ≠ .module → env.frame = some L → L ∈ X.fs → ∀ l, h.FunFrames {} l → h.FunFrames {} (env :: l) := fun env L hk hf hL l hl => by
  obtain ⟨o, e, d⟩ := K.f L hL
  exact ⟨hk, ⟨L, o, hf, nn L, e, d⟩, hl⟩
 refine one _ _ F.2.1 F.1 List.mem_cons_self _ ?_
 clear F
 induction outer with
 | nil => trivial
 | cons env r ih =>
  obtain ⟨hk, L, hL, hf⟩ := ho env List.mem_cons_self
  exact one _ _ hk hf (List.mem_cons_of_mem _ hL) _ (ih fun e he => ho e (List.mem_cons_of_mem _ he))
section
variable {M : Model} {X : Cx} {h : Heap} {tk : Nat} {E : Value → Shared → Prop}
structure Goes (X : Cx) (e : Addr) (h h' : Heap) : Prop where
 k : ∀ b o, b ≠ e → b ∉ X.fs → h.get? b = some o → h'.get? b = some o
 s : ∀ b o, b ∈ X.fs → h.get? b = some o → ∃ sl, h'.get? b = some { o with slots := sl }
 l : ∀ b o, h.get? b = some o → ∃ o', h'.get? b = some o'
theorem Kept.goes {h' : Heap} {e : Addr} (K : Kept X h) (he : X.hs.get? e = none) (G : Goes X e h h') : Kept X h' := by
 refine ⟨fun b o q n n2 => G.k b o (fun z => by rw [z, he] at q; cases q) n2 (K.k b o q n n2), fun b o q n n2 => ?_, fun b hb => ?_, fun b hb => let ⟨o, z⟩ := K.o b hb; G.l b o z⟩
 ·obtain ⟨sl, z⟩ := K.s b o q n n2
  obtain ⟨sl', z'⟩ := G.s b _ n2 z
  exact ⟨sl', z'⟩
 ·obtain ⟨o, z, d⟩ := K.f b hb
  obtain ⟨sl', z'⟩ := G.s b _ hb z
  exact ⟨_, z', d⟩
theorem ziT (F : FrS X) (K : Kept X h) {e : Addr} {oe : Obj} {vs : Array Value} {head : Value} {hadNext : Bool} {Q : Unit → Shared → Prop} (he : h.get? e = some oe) (hd : oe.data = .fields vs) (hsz : 1 < vs.size)
  (hq : ∀ h' T oT ts, Goes X e h h' → h'.get? e = some (oe.mapFields (·.setIfInBounds 1 (.ref T))) → h.get? T = none → T ≠ e → h'.get? T = some oT → oT.data = .fields ts → ts[3]? = some (rawInt X.env.locals) → Q () (X.sh h' tk)) :
  wpAny M X.A (do let a ← frameOf X.env; let pl ← entryPlaceOf X.env.locals hadNext; let b ← EntryCells.newEntry head a .none (rawInt X.env.locals) .none pl; setField (.ref e) 1 b) Q E (X.sh h tk) := by
 obtain ⟨f1, f2, outer, f3, f4⟩ := id F
 have hl := K.frames F f4
 have hin : ∀ b, b ∈ (X.env :: outer).filterMap (·.frame) → b ∈ X.fs := fun b hb => by
  obtain ⟨en, hen, hf⟩ := List.mem_filterMap.mp hb
  rcases List.mem_cons.mp hen with rfl | q
  ·rw [f1] at hf; cases hf; exact List.mem_cons_self
  ·obtain ⟨_, L, hL, hf'⟩ := f4 en q
   rw [hf'] at hf; cases hf; exact List.mem_cons_of_mem _ hL
 have hene : e ∉ (X.env :: outer).filterMap (·.frame) := fun hm => by
  obtain ⟨_, o, ho, hnf⟩ := hl.mem hm
  rw [he] at ho; injection ho with ho; subst ho; exact hnf vs hd
 refine wpAny_bind (wpAny_frameOf_fun (s := X.sh h tk) f3 hl f1 fun h₁ hs₁ => ?_)
 refine wpAny_bind (wpAny_entryPlaceOf fun pl hpl => ?_)
 unfold EntryCells.newEntry newFields
 refine wpAny_bind (wpAny_newObj_type ?_ (hpl.sizeOk5 _ _ _ _ _))
 have he₁ : h₁.get? e = some oe := (hs₁.2.1 e hene).trans he
 have he₂ := Heap.get?_push_of_some (h := h₁) { cls := .type "traceback", dict := none, data := .fields ([head, .ref X.env.locals, .none, rawInt X.env.locals, .none] ++ (if pl.isEmpty then List.replicate 6 Value.none else pl)).toArray } he₁
 refine wpAny_setField he₂ hd hsz ?_
 have hTe : h₁.objs.size ≠ e := Nat.ne_of_gt (Heap.lt_size he₁)
 have hd₃ := Obj.data_mapFields hd (·.setIfInBounds 1 (Value.ref h₁.objs.size))
 have he₃ := Heap.get?_update_self (Obj.mapFields (·.setIfInBounds 1 (Value.ref h₁.objs.size))) he₂ (Obj.isFreed_of_fields hd₃)
 have hT₃ := (Heap.get?_update_other (h₁.push { cls := .type "traceback", dict := none, data := .fields ([head, .ref X.env.locals, .none, rawInt X.env.locals, .none] ++ (if pl.isEmpty then List.replicate 6 Value.none else pl)).toArray })
  (Obj.mapFields (·.setIfInBounds 1 (Value.ref h₁.objs.size))) (Ne.symm hTe)).trans (Heap.get?_push_size h₁ rfl)
 have keep : ∀ b o, b ≠ e → h₁.get? b = some o → (((h₁.push { cls := .type "traceback", dict := none, data := .fields ([head, .ref X.env.locals, .none, rawInt X.env.locals, .none] ++ (if pl.isEmpty then List.replicate 6 Value.none else pl)).toArray }).update e (Obj.mapFields (·.setIfInBounds 1 (Value.ref h₁.objs.size))))).get? b = some o := fun b o hbe hb => by
  rw [Heap.get?_update_other _ _ (Ne.symm hbe)]
  exact Heap.get?_push_of_some _ hb
 refine hq _ h₁.objs.size _ _ ⟨fun b o hbe hbf hb => keep b o hbe ((hs₁.2.1 b fun hm => hbf (hin b hm)).trans hb), fun b o hbf hb => ?_, fun b o hb => ?_⟩ he₃ (Heap.get?_none_of_le (Nat.le_of_eq hs₁.1.symm)) hTe hT₃ rfl ?_
 ·obtain ⟨sl, hs⟩ := hs₁.2.2 b o hb
  have hbe : b ≠ e := fun q => by
   obtain ⟨o', e', d'⟩ := K.f b hbf
   rw [q, he] at e'; cases e'; exact d' vs hd
  exact ⟨sl, keep b _ hbe hs⟩
 ·by_cases q : b = e
  ·rw [q]; exact ⟨_, he₃⟩
  ·obtain ⟨sl, hs⟩ := hs₁.2.2 b o hb
   exact ⟨_, keep b _ q hs⟩
 ·rcases hpl with rfl | ⟨_, _, _, _, _, _, _, rfl⟩ <;> simp
theorem ExcAt.goes {h' : Heap} {e T : Addr} {oe : Obj} {vs : Array Value} (x : ExcAt X h e vs) (he : h.get? e = some oe) (G : Goes X e h h') (he' : h'.get? e = some (oe.mapFields (·.setIfInBounds 1 (.ref T)))) : ExcAt X h' e (vs.setIfInBounds 1 (.ref T)) := by
 obtain ⟨oe', d, es, n, sy, t, e1, e2, e3, e4, e5, e6, e7, e8, e9⟩ := x
 rw [he] at e1; cases e1
 have hde : d ≠ e := fun q => by
  rw [q, he] at e6; cases e6; rw [dictOf] at e4; cases e4
 obtain ⟨c, dd, da, sl⟩ := oe
 dsimp only at e2 e3 e4
 subst e2 e3 e4
 exact ⟨_, d, es, n, sy, t, he', rfl, rfl, rfl, by simpa using e5, G.k d _ hde e9 e6, e7, e8, e9⟩
theorem InFl.exc {e : Addr} (x : InFl X h e) : ∃ vs, ExcAt X h e vs := by
 rcases x with ⟨vs, x, _⟩ | ⟨vs, f, x, _⟩ <;> exact ⟨vs, x⟩
theorem Kept.notF (K : Kept X h) {a : Addr} {o : Obj} {vs : Array Value} (ha : h.get? a = some o) (hd : o.data = .fields vs) : a ∉ X.fs := fun q => by
 obtain ⟨o', e, d⟩ := K.f a q
 rw [ha] at e; cases e; exact d vs hd
theorem ze6 (F : FrS X) (K : Kept X h) {e : Addr} (x : InFl X h e) {Q : Unit → Shared → Prop} (hq : ∀ h', Kept X h' → FlyIn X h' e (· = rawInt X.env.locals) → Q () (X.sh h' tk)) :
  wpAny M X.A (noteFrame (.ref e) X.env) Q E (X.sh h tk) := by
 unfold noteFrame
 simp only [F.1]
 have fin : ∀ {h0 : Heap} {head : Value} {hadNext : Bool} {vs : Array Value}, Kept X h0 → ExcAt X h0 e vs → wpAny M X.A (do let a ← frameOf X.env; let pl ← entryPlaceOf X.env.locals hadNext; let b ← EntryCells.newEntry head a .none (rawInt X.env.locals) .none pl; setField (.ref e) 1 b) Q E (X.sh h0 tk) := by
  intro h0 head hadNext vs K0 x0
  obtain ⟨oe, d, es, n, sy, t, e1, e2, e3, e4, e5, e6, e7, e8, e9⟩ := id x0
  refine ziT F K0 e1 e4 e5 fun h' T oT ts G he' hT hTe hT' hd' h3 => ?_
  have K' := K0.goes e8 G
  refine hq h' K' ⟨_, _, ExcAt.goes x0 e1 G he', ⟨T, oT, ts, by simp [e5], hTe, ?_, hT', hd', h3⟩, rfl⟩
  cases q : X.hs.get? T with
  | none => rfl
  | some o =>
   exfalso
   by_cases w : T ∈ X.own
   ·obtain ⟨o', z⟩ := K0.o T w
    rw [z] at hT; cases hT
   ·by_cases w2 : T ∈ X.fs
    ·exact K'.notF hT' hd' w2
    ·have := K0.k T o q w w2
     rw [this] at hT; cases hT
 rcases x with ⟨vs, x0, h1⟩ | ⟨vs, f, x0, ⟨T, oT, ts, h1, hTe, hTn, hT, hdT, h3⟩, hf⟩
 ·obtain ⟨oe, d, es, n, sy, t, e1, e2, e3, e4, e5, e6, e7, e8, e9⟩ := id x0
  refine wpAny_bind (wpAny_field e1 e4 h1 ?_)
  rw [if_neg (by decide)]
  exact fin K x0
 ·obtain ⟨oe, d, es, n, sy, t, e1, e2, e3, e4, e5, e6, e7, e8, e9⟩ := id x0
  refine wpAny_bind (wpAny_field e1 e4 h1 ?_)
  rw [if_pos (show (Value.ref T != Value.none) = true from by simp)]
  refine wpAny_bind (wpAny_field hT hdT h3 ?_)
  rcases hf with rfl | rfl
  ·rw [if_neg (show ¬ ((Value.none == rawInt X.env.locals) = true) from by simp [rawInt])]
   refine wpAny_bind (wpAny_setField hT hdT (Array.getElem?_eq_some_iff.mp h3).1 ?_)
   have other : ∀ b, b ≠ T → (h.update T (Obj.mapFields (·.setIfInBounds 3 Value.none))).get? b = h.get? b := fun b hb => Heap.get?_update_other _ _ (Ne.symm hb)
   have nT := K.notF hT hdT
   refine fin (h0 := h.update T (Obj.mapFields (·.setIfInBounds 3 Value.none))) (vs := vs) ?_ ?_
   ·refine ⟨fun b o q n n2 => (other b fun z => by rw [z, hTn] at q; cases q).trans (K.k b o q n n2), fun b o q n n2 => ?_, fun b hb => ?_, fun b hb => ?_⟩
    ·obtain ⟨sl, z⟩ := K.s b o q n n2
     exact ⟨sl, (other b fun w => nT (by rw [← w]; exact n2)).trans z⟩
    ·obtain ⟨o, z, d⟩ := K.f b hb
     exact ⟨o, (other b fun w => nT (by rw [← w]; exact hb)).trans z, d⟩
    ·obtain ⟨o, z⟩ := K.o b hb
     by_cases w : b = T
     ·rw [w]; exact ⟨_, Heap.get?_update_self _ hT (Obj.isFreed_of_fields (Obj.data_mapFields hdT _))⟩
     ·exact ⟨o, (other b w).trans z⟩
   ·refine ⟨oe, d, es, n, sy, t, (other e (Ne.symm hTe)).trans e1, e2, e3, e4, e5, (other d fun q => ?_).trans e6, e7, e8, e9⟩
    rw [q, hT] at e6; cases e6; cases hdT
  ·rw [if_pos (by simp)]
   exact wpAny_pure (hq h K ⟨vs, _, x0, ⟨T, oT, ts, h1, hTe, hTn, hT, hdT, h3⟩, rfl⟩)
theorem zcF {A : Around} (K : Kept X h) {e : Addr} {P : Value → Prop} (x : FlyIn X h e P) (fr : Option Addr) {Q : Unit → Shared → Prop} (hq : ∀ h', Kept X h' → FlyIn X h' e (· = fr.elim Value.none fun f => rawInt f) → Q () (X.sh h' tk)) :
  wpAny M A (setFlight (.ref e) fr) Q E (X.sh h tk) := by
 obtain ⟨vs, f, x0, ⟨T, oT, ts, h1, hTe, hTn, hT, hdT, h3⟩, hf⟩ := x
 obtain ⟨oe, d, es, n, sy, t, e1, e2, e3, e4, e5, e6, e7, e8, e9⟩ := id x0
 have other : ∀ b, b ≠ T → (h.update T (Obj.mapFields (·.setIfInBounds 3 (fr.elim Value.none fun f => rawInt f)))).get? b = h.get? b := fun b hb => Heap.get?_update_other _ _ (Ne.symm hb)
 have nT := K.notF hT hdT
 have hs3 : 3 < ts.size := (Array.getElem?_eq_some_iff.mp h3).1
 have hT' := Heap.get?_update_self (Obj.mapFields (·.setIfInBounds 3 (fr.elim Value.none fun f => rawInt f))) hT (Obj.isFreed_of_fields (Obj.data_mapFields hdT _))
 unfold setFlight
 refine wpAny_bind (wpAny_field e1 e4 h1 ?_)
 rw [if_pos (show (Value.ref T != Value.none) = true from by simp)]
 refine wpAny_setField hT hdT hs3 (hq _ ⟨fun b o q n n2 => (other b fun z => by rw [z, hTn] at q; cases q).trans (K.k b o q n n2), fun b o q n n2 => ?_, fun b hb => ?_, fun b hb => ?_⟩
  ⟨vs, _, ⟨oe, d, es, n, sy, t, (other e (Ne.symm hTe)).trans e1, e2, e3, e4, e5, (other d fun q => ?_).trans e6, e7, e8, e9⟩, ⟨T, _, _, h1, hTe, hTn, hT', Obj.data_mapFields hdT _, by simp [hs3]⟩, rfl⟩)
 ·obtain ⟨sl, z⟩ := K.s b o q n n2
  exact ⟨sl, (other b fun w => nT (by rw [← w]; exact n2)).trans z⟩
 ·obtain ⟨o, z, d⟩ := K.f b hb
  exact ⟨o, (other b fun w => nT (by rw [← w]; exact hb)).trans z, d⟩
 ·obtain ⟨o, z⟩ := K.o b hb
  by_cases w : b = T
  ·rw [w]; exact ⟨_, hT'⟩
  ·exact ⟨o, (other b w).trans z⟩
 ·rw [q, hT] at e6; cases e6; cases hdT
end
section
variable {g : Gl} {X X' : Cx} {G : Sto} {rs : List Addr} {st : SS} {h h' : Heap} {tk : Nat}
structure Up (X X' : Cx) (h : Heap) : Prop where
 hh : X'.hs = h
 f1 : ∀ b ∈ X.fs, b ∈ X'.fs
 f2 : ∀ b o, h.get? b = some o → b ∉ X.fs → b ∉ X'.fs
 ow : ∀ b o, X.hs.get? b = some o → b ∉ X.own → b ∉ X'.own
theorem Up.nn (U : Up X X' h) (R : Rel g X G rs st h) {a : Addr} (e : X'.hs.get? a = none) : X.hs.get? a = none := by
 rw [U.hh] at e
 cases q : X.hs.get? a with
 | none => rfl
 | some o =>
  exfalso
  by_cases w : a ∈ X.own
  ·obtain ⟨o', z⟩ := R.ownl a w; rw [e] at z; cases z
  ·obtain ⟨o', z⟩ := R.oldl q w; rw [e] at z; cases z
theorem Up.kept (U : Up X X' h) (R : Rel g X G rs st h) (K : Kept X' h') : Kept X h' := by
 have live : ∀ b o, h.get? b = some o → ∃ o', h'.get? b = some o' := fun b o q => by
  by_cases w : b ∈ X'.own
  ·exact K.o b w
  ·by_cases w2 : b ∈ X'.fs
   ·obtain ⟨sl, z⟩ := K.s b o (by rw [U.hh]; exact q) w w2; exact ⟨_, z⟩
   ·exact ⟨o, K.k b o (by rw [U.hh]; exact q) w w2⟩
 refine ⟨fun b o q n n2 => ?_, fun b o q n n2 => ?_, fun b hb => K.f b (U.f1 b hb), fun b hb => let ⟨o, z⟩ := R.ownl b hb; live b o z⟩
 ·have z := R.old b o q n n2
  exact K.k b o (by rw [U.hh]; exact z) (U.ow b o q n) (U.f2 b o z n2)
 ·obtain ⟨sl, z⟩ := R.olds b o q n n2
  obtain ⟨sl', z'⟩ := K.s b _ (by rw [U.hh]; exact z) (U.ow b o q n) (U.f1 b n2)
  exact ⟨sl', z'⟩
theorem Up.exc (U : Up X X' h) (R : Rel g X G rs st h) {e : Addr} {vs : Array Value} (x : ExcAt X' h' e vs) : ExcAt X h' e vs := by
 obtain ⟨oe, d, es, n, sy, t, e1, e2, e3, e4, e5, e6, e7, e8, e9⟩ := x
 exact ⟨oe, d, es, n, sy, t, e1, e2, e3, e4, e5, e6, e7, U.nn R e8, fun q => e9 (U.f1 _ q)⟩
theorem Up.noted (U : Up X X' h) (R : Rel g X G rs st h) {e : Addr} {vs : Array Value} {f : Value} (x : Noted X' h' e vs f) : Noted X h' e vs f := by
 obtain ⟨T, oT, ts, h1, hTe, hTn, r1, r2, r3⟩ := x
 exact ⟨T, oT, ts, h1, hTe, U.nn R hTn, r1, r2, r3⟩
theorem Up.fly (U : Up X X' h) (R : Rel g X G rs st h) {e : Addr} {P : Value → Prop} (x : FlyIn X' h' e P) : FlyIn X h' e P := by
 obtain ⟨vs, f, x1, x2, x3⟩ := x
 exact ⟨vs, f, U.exc R x1, U.noted R x2, x3⟩
theorem Up.sg (U : Up X X' h) (R : Rel g X G rs st h) (hl : X'.env.locals = X.env.locals) (hs : ∀ h tk, X'.sh h tk = X.sh h tk) {v : Value} {s : Shared} (x : SgK X' v s) : SgK X v s := by
 obtain ⟨e, h1, tk1, rfl, rfl, K, z⟩ := x
 refine ⟨e, h1, tk1, rfl, hs _ _, U.kept R K, ?_⟩
 rcases z with ⟨vs, z1, z2⟩ | z
 ·exact .inl ⟨vs, U.exc R z1, z2⟩
 ·right
  rw [hl] at z
  exact U.fly R z
theorem Up.now (R : Rel g X G rs st h) : Up X (X.now G rs h) h := ⟨rfl, fun _ q => q, fun _ _ _ q => q, fun b o e n q => by
 rcases R.own b q with z | z
 ·exact n z
 ·rw [z] at e; cases e⟩
theorem Up.virt : Up X (X.virt G h) h := ⟨rfl, fun _ q => q, fun _ _ _ q => q, fun b o e n q => by cases q⟩
theorem Up.callee (R : Rel g X G rs st h) {env : Env} (hn : h.get? env.locals = none) : Up X (callee X env h rs G) h := ⟨rfl, fun _ q => List.mem_cons_of_mem _ q, fun b o e n q => by
 rcases List.mem_cons.mp q with z | z
 ·rw [show b = env.locals from z, hn] at e; cases e
 ·exact n z, fun b o e n q => by
 rcases R.own b (List.mem_append_right _ q) with z | z
 ·exact n z
 ·rw [z] at e; cases e⟩
noncomputable def S1 (g : Gl) : Sigs g where
 Sg := SgK
 on := True
 now := fun R x => (Up.now R).sg R rfl (fun _ _ => rfl) x
 virt := fun R x => Up.virt.sg R rfl (fun _ _ => rfl) x
 own := fun {X E} F hE v s' x => by
  obtain ⟨e, h1, tk1, rfl, rfl, K, z⟩ := x
  unfold notedBy
  refine ze6 F K z fun h2 K2 z2 => ?_
  obtain ⟨vs, f, x0, ⟨T, oT, ts, h1', _, _, _, _, _⟩, hf⟩ := id z2
  obtain ⟨oe, d, es, n, sy, t, e1, e2, e3, e4, e5, _, _, _, _⟩ := id x0
  unfold cameBackBy
  refine wpAny_bind (wpAny_field e1 e4 h1' ?_)
  rw [if_neg (show ¬ ((Value.ref T == Value.none) = true) from by simp)]
  rw [F.1]
  refine zcF K2 z2 (some X.env.locals) fun h3 K3 z3 => ?_
  refine hE _ _ ⟨e, h3, tk1, rfl, rfl, K3, .inr ?_⟩
  obtain ⟨vs, f, a, b, c⟩ := z3
  exact ⟨vs, f, a, b, .inr c⟩
theorem out1 : FrS X → ∀ {fi : FI}, fi.sc.kind = .function → Rel g X G rs st h → ∀ {env : Env}, Enters fi env h → ∀ e s', (S1 g).Sg (callee X env h rs G) e s' →
  wpAny (model g.prog g.w) (X.A.deeper env) (leaving env e) (fun _ s'' => (S1 g).Sg X e s'') (fun e' s'' => (S1 g).Sg X e' s'') s' := by
 intro F fi hk R env en v s' x
 obtain ⟨e, h1, tk1, rfl, rfl, K, z⟩ := x
 have F' : FrS (callee X env h rs G) := FrS.enter F en hk
 have U : Up X (callee X env h rs G) h := Up.callee R (zcX en.lo)
 unfold leaving
 refine wpAny_bind (ze6 (X := callee X env h rs G) F' K z fun h2 K2 z2 => ?_)
 refine zcF (X := callee X env h rs G) K2 z2 none fun h3 K3 z3 => ?_
 obtain ⟨vs, f, a, b, c⟩ := U.fly R z3
 exact ⟨e, h3, tk1, rfl, rfl, U.kept R K3, .inr ⟨vs, f, a, b, .inl c⟩⟩
end
end Mine
end
section
open PySem.SeqAt PySem.EqBoolInt Builtin Builtin.ObjectAttr
namespace Mine
section
variable {prog : Program} {w : World} {A : Around} {E : Value → Shared → Prop} {s : Shared} {env : Env}
variable {nm q : Str} {C N : Addr} {bs : List Value} {sn : List Str} {sub : List Value} {ab : Bool} {col : Option Bool} {dd : Option Addr} {k0 k1 k2 k3 k5 : Option Value}
theorem zgU {x : Sem Value} {Q : Flow → Shared → Prop} (hh : A.handled = none)
  (h : wpAny (model prog w) A x (fun v s₁ => ∃ e t d, v = .ref e ∧ s₁.heap.get? C = some (excClassObj nm q C N bs excMro true sn sub ab col dd k0 k1 k2 k3 k5 "Exception.__new__") ∧
   s₁.heap.get? e = some { cls := .ref C, dict := some d, data := .fields #[.ref t, .none, .none, .none, .bool false, .none] } ∧ E (.ref e) s₁) E s) :
  wpAny (model prog w) A (raiseStmt env (some x) none) Q E s := by
 have hcB : (Value.ref C :: excMro).contains (.type "BaseException") = true := by rw [List.contains_cons, show excMro.contains (Value.type "BaseException") = true by decide +kernel, Bool.or_true]
 unfold raiseStmt
 refine wpAny_bind (wpAny_mono h (fun v s₁ h₁ => ?_) fun _ _ x => x)
 obtain ⟨e, t, d, rfl, hC, he, hE⟩ := h₁
 obtain ⟨hp, g, d, tk, os⟩ := s₁
 repeat (first | with_reducible refine wpAny_loadPart_at he ?_ | with_reducible refine wpAny_loadPart_at hC ?_ | (with_reducible refine wpAny_isSubtype_exc hC ?_; rw [hcB]) | wp_step)
 exact wpAny_raiseNew_none hh hE
end
section
variable {g : Gl} {T : Tab}
theorem Rel.kept {X : Cx} {G : Sto} {rs : List Addr} {st : SS} {h : Heap} (R : Rel g X G rs st h) : Kept X h := by
 refine ⟨R.old, R.olds, fun b hb => ?_, R.ownl⟩
 rcases List.mem_cons.mp hb with rfl | q
 ·obtain ⟨m, o, es, ep, ho, hd, _⟩ := R.ns
  exact ⟨o, ho, fun vs q => by rw [hd] at q; cases q⟩
 ·exact (R.fo b q).2
set_option tactic.hygienic true in
theorem zpU (F : ExcK g.K) (hkeep : keepIn g.K (.ref 96) = true) (ok : GlobOk g T) (hfn : FnOk g 93 initFI) {r : Bd} {fc : FC} {X : Cx} {G : Sto} {rs : List Addr} {st : SS} {h : Heap} {tk : Nat} {E : Value → Shared → Prop} {e c : Option Expr} {pos : Pos} {Q : Flow → Shared → Prop}
  (hr : EvOk (S1 g) r) (V : FOk g (S1 g) fc X) (hE : fc.Er → ∀ x s', (S1 g).Sg X x s' → E x s') (R : Rel g X G rs st h) (hk : exRaise r fc e c st) :
  wpAny (model g.prog g.w) X.A (exec (.Raise e c pos) X.env) Q E (X.sh h tk) := by
 refine zdH hk ?_
 clear hk
 rintro x p a b p2 rfl rfl hk
 have hs := CK_l hk
 replace hk := CK_r hk
 have hd := zaG hs
 have hs := zaH hs
 have hd1 := Nat.le_of_ble_eq_true hd
 show wpAny (model g.prog g.w) X.A (do standAt pos; raiseStmt X.env (some (do let v ← eval (.Call (.Name x p) [a, b] [] p2) X.env; standAt pos; pure v)) none) Q E (X.sh h tk)
 refine wpAny_bind (wpAny_standAt ?_)
 obtain ⟨nm, q, bs, sn, sub, ab, col, dd, k0, k1, k2, k3, k5, hKC⟩ := F.obj
 refine zgU (C := 96) (N := 95) (nm := nm) (q := q) (bs := bs) (sn := sn) (sub := sub) (ab := ab) (col := col) (dd := dd) (k0 := k0) (k1 := k1) (k2 := k2) (k3 := k3) (k5 := k5) V.hh (wpAny_bind ?_)
 refine wpAny_Call_ofName (hr V hE R hk fun G' rs' st' sv v h' tk' x R' hv hk' => ?_)
 split at hk'
 ·rename_i C
  have c96 := CK_l hk'
  have hk2 := CK_r hk'
  have : C = 96 := Nat.eq_of_beq_eq_true c96
  subst this
  replace hv : _ = _ := hv
  subst hv
  refine zbF (first := []) hr V hE R' hs hk2 fun G2 rs2 st2 svs vs h2 tk2 x2 R2 hvs hEr => ⟨keeps_K hkeep h2 R2.kin, ?_⟩
  split at hEr
  ·rename_i sy s2
   obtain ⟨v1, t1, rfl, hv1, hvs⟩ := hvs.uncons
   obtain ⟨v2, t2, rfl, hv2, hvs⟩ := hvs.uncons
   have := hvs.unnil
   subst this
   have K2 := R2.kin
   have dep := V.dep
   have un := V.un
   refine wpAny_call (zk4 (R := RetQ _ E) (K2 _ _ hKC) (looks_findIn K2 F.ini) (fun self => bind_fn K2 self F.fn) (looks_specialIn K2 F.call) (looks_instIn K2 F.typ) (by size_fits) ?_)
   obtain ⟨u1, u2, u3⟩ := zdT X.A 96 ([] ++ [v1, v2])
   generalize X.A.under (.builtin "type.__call__" ⟨.ref 96 :: ([] ++ [v1, v2]), []⟩) = A' at u1 u2 u3
   have R3 := (R2.keeps (fun b o e => Heap.get?_push_of_some { cls := .ref 96, data := .fields #[.ref h2.objs.size, .none, .none, .none, .bool false, .none] } (Heap.get?_push_of_some { cls := .type "tuple", data := .seq ([] ++ [v1, v2] : List Value).toArray } e))).at A'
   have ap := R2.apart (Nat.le_succ h2.objs.size)
   refine zk5 (X := X.at A') F ok hfn (u3.trans V.hh) (by show A'.depth + 1 ≤ 900; lia) (by show A'.units + 3 ≤ 8000; lia) R3 (e := h2.objs.size + 1) (t := h2.objs.size) ⟨ap.n1, ap.n2, ap.n3, ap.n4⟩ ?_ hv1 hv2 ?_
   ·heap_get
   ·intro h3 tk3 d n es R4 he hd hsy hde hdn
    obtain ⟨t', hsy⟩ := hsy
    have R5 : Rel g X G2 rs2 st2 h3 := R4.unat
    have K5 := R5.kin
    show RetQ _ _ _ _
    refine wpAny_bind (wpAny_standAt (wpAny_pure ⟨_, _, d, rfl, K5 _ _ hKC, he, hE hEr _ _ ⟨_, h3, tk3, rfl, rfl, R5.kept, .inl ⟨_, ⟨_, d, es, n, sy, t', he, rfl, rfl, rfl, by simp, hd, hsy, ap.n3, fun q => ?_⟩, rfl⟩⟩⟩))
    obtain ⟨o, e⟩ := R3.live (List.mem_append_left _ (Cx.fa_fs (X := X.at A') q))
    rw [hdn] at e; cases e
  ·exact hEr.elim
 ·exact hk'.elim
end
end Mine
end
section
open PySem.SeqAt PySem.EqBoolInt Builtin Builtin.ObjectAttr
namespace Mine
section
variable {prog : Program} {w : World} {A : Around} {E : Value → Shared → Prop} {K : Frag} {s : Shared}
theorem zk6 {M : Model} {h : Heap} (X : K.In h) (F : ExcK K) {e d : Addr} {oe : Obj} {es : List DictEntry} {n : Nat} {v : Value} {vs : Array Value} (he : h.get? e = some oe) (hc : oe.cls = .ref 96) (hdd : oe.dict = some d) (hda : oe.data = .fields vs) (hD : h.get? d = some (dictOf es n)) (hg : getL symN es = some (some v)) :
  Looks M h (find (.ref e) (.ref 96) symN) (.value v) := by
 obtain ⟨cd, hcd, hd'⟩ := any_some F.hasd
 have I : InstAt h e oe 96 (some (dictOf es n)) := ⟨he, hc, by unfold notCls; rw [hda], by rw [hdd]; exact hD⟩
 refine looks_find X I ?_
 unfold findObj
 rw [hcd, Option.bind_some, F.fnd, Option.bind_some]
 dsimp only [Option.bind_some]
 have ho : PySem.W.ownOf cd (some (dictOf es n)) symN = some (some v) := by
  unfold PySem.W.ownOf
  rw [hd']
  show lookIn symN (dictOf es n) = _
  rw [lookIn_dict, hg]
 rw [ho]; rfl
theorem zq1 {e d : Addr} {oe : Obj} {es : List DictEntry} {n : Nat} {v : Value} {vs : Array Value} {tk : Tok} {R : Result → Shared → Prop} (X : K.In s.heap) (F : ExcK K) (he : s.heap.get? e = some oe) (hc : oe.cls = .ref 96) (hdd : oe.dict = some d) (hda : oe.data = .fields vs) (hD : s.heap.get? d = some (dictOf es n)) (hg : getL symN es = some (some v))
  (h : R (.ok (.ret v)) s) : codeAny (model prog w) A (.call (.builtin "BaseException.__getattribute__") ⟨[.ref e, .str symN tk], []⟩) R s := by
 obtain ⟨nm, q, bs, sn, sub, ab, col, dd, k0, k1, k2, k3, k5, hKC⟩ := F.obj
 have ty : Looks (model prog w) s.heap (typeOf (.ref e)) (.ref 96) := hc ▸ (Looks.ld he).andThen .now
 have sub : Looks (model prog w) s.heap (isInstance (.ref e) (.type "BaseException")) true := by
  refine ty.andThen ?_
  intro A Q E s' k q
  obtain ⟨hh, gg, dd', tt, oo⟩ := s'
  refine wpAny_isSubtype_exc (k _ _ (X _ _ hKC)) ?_
  have : (Value.ref 96 :: excMro).contains (.type "BaseException") = true := by rw [List.contains_cons, show excMro.contains (Value.type "BaseException") = true by decide +kernel, Bool.or_true]
  rw [this]; exact q
 have hk : builtinKind "BaseException.__getattribute__" = some .slot := by decide +kernel
 have hsplit : splitId "BaseException.__getattribute__" = some ("BaseException", "__getattribute__") := by decide +kernel
 refine codeAny_call_builtin PySem.F.attr_Exception.ga.plain PySem.F.entry_bexc_ga (@check_slot (model prog w) _ _ s "BaseException.__getattribute__" "BaseException" "__getattribute__" (.ref e) [.str symN tk] [] _ hk hsplit sub (PySem.F.args_bexc_ga (.ref e) (.str symN tk)) ?_)
 unfold Builtin.«object.__getattribute__» slotArgs attrName
 refine wpAny_bind (wpAny_pure ?_)
 refine wpAny_bind (wpAny_pure ?_)
 refine wpAny_bind (ty.here ?_)
 refine wpAny_bind ((zk6 X F he hc hdd hda hD hg).here ?_)
 exact wpAny_pure h
theorem zn0 {e d : Addr} {oe : Obj} {es : List DictEntry} {n : Nat} {sy : Str} {t : Tok} {vs : Array Value} {ex : Bool} {Q : Value → Shared → Prop} (X : K.In s.heap) (F : ExcK K) (he : s.heap.get? e = some oe) (hc : oe.cls = .ref 96) (hdd : oe.dict = some d) (hda : oe.data = .fields vs) (hD : s.heap.get? d = some (dictOf es n)) (hg : getL symN es = some (some (.str sy t)))
  (h : Q (.str sy t) { s with toks := s.toks + 1 }) : wpAny (model prog w) A (getAttr (.ref e) symN ex) Q E s := by
 have ty : Looks (model prog w) s.heap (typeOf (.ref e)) (.ref 96) := hc ▸ (Looks.ld he).andThen .now
 have L1 := looks_findIn (M := model prog w) X F.ga
 have L2 := looks_findIn (M := model prog w) X F.nga
 obtain ⟨hh, gg, dd, tt, oo⟩ := s
 unfold getAttr getAttrBy
 refine wpAny_bind (wpAny_mkText (wpAny_holding (wpAny_bind (ty.at (wpAny_bind (L1.at ?_))))))
 dsimp only
 rw [show (onTheHeap (Value.ref 96) && Value.builtin "BaseException.__getattribute__" == Value.builtin "object.__getattribute__") = false from by decide +kernel]
 show wpAny _ _ (getAttrByItsOwn _ _ _ _ _ _) _ _ _
 unfold getAttrByItsOwn hookBefore
 refine wpAny_bind ?_
 show wpAny _ _ (typeLookup (.ref 96) _) _ _ _
 refine L2.at ?_
 refine wpAny_bind (wpAny_attempt (wpAny_holding ?_))
 unfold callGetattribute
 rw [show (ex && onTheHeap (Value.builtin "BaseException.__getattribute__")) = false from by cases ex <;> rfl]
 show wpAny _ _ (boundAndCalled _ _ _) _ _ _
 unfold boundAndCalled
 rw [PySem.F.attr_Exception.ga.bind]
 refine wpAny_bind (wpAny_pure ?_)
 refine wpAny_call (zq1 (s := ⟨hh, gg, dd, tt + 1, oo⟩) X F he hc hdd hda hD hg ?_)
 exact wpAny_pure h
end
end Mine
end
section
open PySem.SeqAt PySem.EqBoolInt Builtin Builtin.ObjectAttr
namespace Mine
theorem zd8 {α : Type} : ∀ {l : List (Str × α)} {x y : Str}, lk (ldel l x) y = if x = y then none else lk l y
 | [], x, y => by by_cases h : x = y <;> simp [ldel, lk]
 | (z, u) :: r, x, y => by
  unfold ldel
  have ih := zd8 (l := r) (x := x) (y := y)
  by_cases h : z = x
  ·subst h
   rw [sEq_iff.mpr rfl]
   show lk (ldel r z) y = _
   rw [ih, zaR]
   by_cases q : z = y <;> simp [q]
  ·rw [sEq_false.mpr h]
   show lk ((z, u) :: ldel r x) y = _
   rw [zaR, ih, zaR]
   by_cases q : z = y
   ·subst q
    have hz : ¬ x = z := fun w => h w.symm
    simp [hz]
   ·simp [q]
section
variable {g : Gl} {S : Sigs g} {T : Tab} {fc : FC} {X : Cx} {G : Sto} {rs : List Addr} {st : SS} {h h' : Heap} {tk : Nat} {E : Value → Shared → Prop}
theorem Rel.nameGlob (ok : GlobOk g T) (V : FOk g S fc X) (R : Rel g X G rs st h) {x : Str} {sv : SV} (q : lk fc.sc.names x = some .globalImplicit) (q2 : T.glob x = some sv) : ∃ u, (∀ G rs, VR g G rs sv u) ∧ ∀ {A : Around} {E : Value → Shared → Prop} {Q : Value → Shared → Prop} {tk : Nat} {pos : Pos}, Q u (X.sh h tk) → wpAny (model g.prog g.w) A (eval (.Name x pos) X.env) Q E (X.sh h tk) := by
 obtain ⟨u, hu, hm⟩ := ok.glob x sv q2
 refine ⟨u, hu, fun {A E Q tk pos} fin => ?_⟩
 have k1 := V.glob x q
 have deb : (x == Str.ofString "__debug__") = false := by
  rw [zbV]; exact beq_eq_false_iff_ne.mpr (V.nd x _ k1).1
 have ng : (X.sh h tk).heap.Ns X.env.globals g.mg := by rw [V.gl]; exact R.top.g
 have nb : (X.sh h tk).heap.Ns X.env.builtins g.mb := by rw [V.bl]; exact R.top.b
 refine Calls.Name_function_global V.v.kind k1 ?_ deb
 rcases hm with hm | ⟨hm, hb⟩
 ·exact Calls.loadGlobal_global ng hm fin
 ·exact Calls.loadGlobal_builtin ng hm nb hb fin
theorem Rel.storeL (R : Rel g X G rs st h) (V : EnvOk X) {A : Around} {x : Str} {sv : SV} {v : Value} {Q : Unit → Shared → Prop} (hk : X.env.kindOf x = some .local) (hv : VR g G rs sv v)
  (hq : ∀ h' tk', Heap.SameBut X.env.locals h h' → Rel g X G rs ⟨lset st.loc x sv, st.H⟩ h' → Q () (X.sh h' tk')) : wpAny (model g.prog g.w) A (storeName X.env x v) Q E (X.sh h tk) := by
 have hp : (X.env.scope.kind == .class || (X.env.scope.kind == .module && X.env.locals != X.env.globals)) = false := by rw [V.kind]; rfl
 obtain ⟨m, hn⟩ := R.ns
 refine wpAny_storeName_local hk hn (fun h' hn' hs => hq _ _ hs ?_) hp
 have hs' : Heap.SameBut X.env.locals h h' := hs
 refine R.bind (a := X.env.locals) V.wl (fun b o hb e => (hs'.2 b hb).trans e) hv ⟨_, hn'⟩ (fun p hp => ?_) (.inl ⟨hk, _, hn', if_pos rfl⟩) fun y u hy n => ?_
 ·obtain ⟨u, hu⟩ := R.cels p hp
  obtain ⟨o, e, d⟩ := hu
  exact ⟨u, o, (hs'.2 p.2 fun q => V.loc (by rw [← q]; exact List.mem_map_of_mem hp)).trans e, d⟩
 ·rcases n with ⟨k1, m1, n1, n2⟩ | ⟨k1, c, c1, o, e, d⟩
  ·have := Ns.at_eq n1 hn
   subst this
   exact .inl ⟨k1, _, hn', by show (if y = x then some v else m1 y) = _; rw [if_neg hy]; exact n2⟩
  ·exact .inr ⟨k1, c, c1, o, (hs'.2 c fun q => V.loc (by rw [← q]; exact List.mem_map.mpr ⟨(y, c), mem_of_lookup c1, rfl⟩)).trans e, d⟩
theorem Rel.rebind (R : Rel g X G rs st h) {l : List (Str × SV)} {a : Addr} (hw : a ∈ X.wr) (k : ∀ b o, b ≠ a → h.get? b = some o → h'.get? b = some o)
  (hns : ∃ m, h'.Ns X.env.locals m) (hcels : ∀ p ∈ X.env.cells, ∃ v, h'.IsCell p.2 v) (hl : ∀ y sv, lk l y = some sv → ∃ v, VR g G rs sv v ∧ NameAt X.env h' y v) :
  Rel g X G rs ⟨l, st.H⟩ h' := by
 have hac : a ∈ X.fc := R.wfa a hw
 have ha : a ∈ X.fa := Cx.fa_fc hac
 have neold : ∀ b o, X.hs.get? b = some o → b ∉ X.own → b ≠ a := fun b o e n => by
  rintro rfl
  rcases R.own b (List.mem_append_left _ hw) with q | q
  ·exact n q
  ·rw [q] at e; cases e
 have ha' : a ∈ X.fa ++ rs := List.mem_append_left _ ha
 have n3 : ∀ a ∈ X.fa, ∀ b ∈ rs, a ≠ b := fun a ha b hb q => R.nd.1 a ha (by rw [q]; exact hb)
 refine ⟨fun b o e => k b o (fun q => ?_) (R.sto b o e), R.base, hns, hcels, hl, R.len, fun i b so e1 e2 => ?_, R.nd, R.fresh, R.own, R.wfa, fun b hb => ?_, fun b o e n n2 => k b o (neold b o e n) (R.old b o e n n2), fun b o e n n2 => let ⟨sl, q⟩ := R.olds b o e n n2; ⟨sl, k _ _ (neold b o e n) q⟩, fun b hb => let ⟨q, o, e, d⟩ := R.fo b hb; ⟨q, o, k _ _ (fun z => q (by rw [z]; exact hac)) e, d⟩, R.lc, R.gnew⟩
 ·subst q; rw [R.fresh b ha'] at e; cases e
 ·exact (R.cell i b so e1 e2).keep fun o => k b o fun z => n3 a ha b (List.mem_of_getElem? e1) z.symm
 ·by_cases q : b = a
  ·subst q
   rcases List.mem_cons.mp hac with rfl | q
   ·obtain ⟨m, o, es, ep, ho, r⟩ := hns; exact ⟨o, ho⟩
   ·obtain ⟨p, hp, rfl⟩ := List.mem_map.mp q
    obtain ⟨v, o, ho, hd⟩ := hcels p hp; exact ⟨o, ho⟩
  ·obtain ⟨o, e⟩ := R.ownl b hb
   exact ⟨o, k b o q e⟩
theorem Rel.nameGone (R : Rel g X G rs st h) (V : EnvOk X) {A : Around} {x : Str} {pos : Pos} {Q : Unit → Shared → Prop} (hk : X.env.kindOf x = some .local)
  (hq : ∀ h' tk', Rel g X G rs ⟨ldel st.loc x, st.H⟩ h' → Q () (X.sh h' tk')) : wpAny (model g.prog g.w) A (do bindName X.env x .none; unbindBehindTheSuite X.env x pos) Q E (X.sh h tk) := by
 have hp : (X.env.scope.kind == .class || (X.env.scope.kind == .module && X.env.locals != X.env.globals)) = false := by rw [V.kind]; rfl
 refine wpAny_bind (wpAny_bindName (R.storeL V hk VR.none fun h1 tk1 hs1 R1 => ?_))
 unfold unbindBehindTheSuite
 refine wpAny_onRaise ?_
 unfold unbindName
 refine wpAny_bind (wpAny_point (wpAny_bind ?_))
 unfold deleteName
 simp only [hk, hp]
 rw [if_neg (by decide)]
 obtain ⟨m, hn⟩ := R1.ns
 have hmx : m x = some .none := by
  obtain ⟨v, hv, hn'⟩ := R1.loc x .none (by rw [zbL]; exact if_pos rfl)
  rcases hn' with ⟨_, m1, n1, n2⟩ | ⟨k1, _⟩
  ·rw [Ns.at_eq hn n1, n2]
   replace hv : _ = _ := hv
   rw [hv]
  ·rw [hk] at k1
   rcases k1 with k1 | k1 <;> cases k1
 refine wpAny_bind (wpAny_nsDel_keeps (s := X.sh h1 tk1) hn fun h2 v hn2 hs2 => ?_)
 rw [hmx]
 simp only [Option.isSome_some, Bool.not_true, Bool.false_eq_true, if_false]
 refine wpAny_pure (wpAny_point (hq h2 tk1 ?_))
 have hs' : Heap.SameBut X.env.locals h1 h2 := hs2
 refine R1.rebind (a := X.env.locals) V.wl (fun b o hb e => (hs'.2 b hb).trans e) ⟨_, hn2⟩ (fun p hp => ?_) fun y sv e => ?_
 ·obtain ⟨u, o, e, d⟩ := R1.cels p hp
  exact ⟨u, o, (hs'.2 p.2 fun q => V.loc (by rw [← q]; exact List.mem_map_of_mem hp)).trans e, d⟩
 ·rw [zd8] at e
  by_cases hy : x = y
  ·rw [if_pos hy] at e; cases e
  ·rw [if_neg hy] at e
   have e' : lk (lset st.loc x .none) y = some sv := by rw [zbL, if_neg hy]; exact e
   obtain ⟨u, hu, n⟩ := R1.loc y sv e'
   refine ⟨u, hu, ?_⟩
   rcases n with ⟨k1, m1, n1, n2⟩ | ⟨k1, c, c1, o, e, d⟩
   ·have := Ns.at_eq n1 hn
    subst this
    exact .inl ⟨k1, _, hn2, by show (if y = x then v else m1 y) = _; rw [if_neg fun q => hy q.symm]; exact n2⟩
   ·exact .inr ⟨k1, c, c1, o, (hs'.2 c fun q => V.loc (by rw [← q]; exact List.mem_map.mpr ⟨(y, c), mem_of_lookup c1, rfl⟩)).trans e, d⟩
end
section
variable {g : Gl} {T : Tab}
theorem Kept.rel {X : Cx} {G : Sto} {rs : List Addr} {st : SS} {h h' : Heap} (R : Rel g X G rs st h) (K : Kept (X.virt G h) h') : Rel g X G rs st h' :=
 R.keepsF (fun b o n e => K.k b o e List.not_mem_nil n) (fun b o n e => K.s b o e List.not_mem_nil n)
set_option tactic.hygienic true in
theorem ziB {sc : Scope} {x : Str} (h : isGlob sc x = true) : lk sc.names x = some .globalImplicit := by
 unfold isGlob at h
 split at h
 ·rename_i q; exact q
 ·cases h
set_option tactic.hygienic true in
theorem try1 (F : ExcK g.K) (ok : CallOk g (S1 g) T) {r : Bd} {fc : FC} {X : Cx} {G : Sto} {rs : List Addr} {st : SS} {h : Heap} {tk : Nat} {E : Value → Shared → Prop} {b el fi : List Stmt} {hs : List ExceptHandler} {pos : Pos} {K : Out → SS → Prop} {Q : Flow → Shared → Prop}
  (hr : EvOk (S1 g) r) (V : FOk g (S1 g) fc X) (R : Rel g X G rs st h) (hk : exTry T r fc b hs el fi st K) (Fo : FinO g X G rs K Q) :
  wpAny (model g.prog g.w) X.A (exec (.Try b hs el fi pos) X.env) Q E (X.sh h tk) := by
 refine zeT hk ?_
 clear hk
 rintro x xp f fp args cpos apos c cp n y yp n2 np a atp asp hpp rfl rfl rfl rfl hk
 unfold exTry1 at hk
 have c1 := CK_l hk
 have hka := CK_r hk
 have c2 := zaG c1
 have c1 := zaH c1
 have c4 := zaG c1
 have c3 := zaH c1
 have t2 := zaG c3
 have t1 := zaH c3
 have c6 := zaG c4
 have c5 := zaH c4
 have c7 := zaG c6
 have lx := zaH c6
 have ly := zaG c7
 have ln := zaH c7
 have c9 := zaG c2
 have c8 := zaH c2
 have q2 := zaG c8
 have q1 := zaH c8
 have q4 := zaG c9
 have q3 := zaH c9
 have e1 := sEq_iff.mp q1
 have e2 := sEq_iff.mp q2
 have hny : n ≠ y := sEq_false.mp (not_true q3)
 subst e1 e2
 refine zdS hka fun cv hcv hkb => ?_
 split at hkb
 ·rename_i C
  have c96 := CK_l hkb
  have hk2 := CK_r hkb
  have : C = 96 := Nat.eq_of_beq_eq_true c96
  subst this
  have Fr : FrS X := V.fr (.inr t2)
  have V0 : FOk g (S1 g) { fc with Er := False } X := ⟨V.v, V.gl, V.bl, V.hh, V.dep, V.un, V.glob, V.store, V.nd, V.cel, V.l1, fun q => q.elim, fun _ => Fr⟩
  obtain ⟨nm, q, bs, sn, sub, ab, col, dd, k0, k1, k2, k3, k5, hKC⟩ := F.obj
  refine wpAny_Try_except (wpAny_execs_cons (wpAny_Assign_Name ?_ rfl))
  refine wpAny_Call_ofName (hr V0 (fun q => q.elim) R hk2 fun G1 rs1 st1 fv f' h1 tk1 x1 R1 hf hk3 => ?_)
  refine zbF (first := []) hr V0 (fun q => q.elim) R1 c5 hk3 fun G2 rs2 st2 svs vs h2 tk2 x2 R2 hvs hk4 => ?_
  split at hk4
  ·exact hk4.elim
  ·rename_i hlc
   split at hk4
   ·rename_i fa
    split at hk4
    ·rename_i sp hsp
     split at hk4
     ·rename_i cc
      have cc3 := zaG cc
      have cc := zaH cc
      have d2 := zaG cc
      have d1 := zaH cc
      replace hf : _ = _ := hf
      subst hf
      have hn : sp.1 ≤ Nat.pred fc.d := Nat.le_of_ble_eq_true d2
      have hn' : sp.1 ≤ fc.d := Nat.le_trans hn (Nat.pred_le _)
      have hdep := V.dep
      have hun := V.un
      refine ⟨zbX ok R2 (.inl (by rw [hsp]; rfl)), wpAny_call (ok.spec fa sp.1 sp.2 hsp (R := RetQ _ _) R2 (allV_nil d1 hvs) V.hh (by lia) (by lia) (fun _ => trivial) (fun _ => Fr) hk4 (fun G' sv v h' tk' x R' hv' k => ?_) (fun hEr e s' hs => ?_))⟩
      ·refine R'.store V.v (.inl (V.l1 _ lx)) (hv'.mono Ext.ofNil) fun h4 tk4 R4 => ?_
       exact wpAny_execs_nil (wpAny_execs_nil (Fo.next ((x1.trans x2).trans x) R4 k))
      ·obtain ⟨e, h3, tk3, rfl, rfl, K3, z⟩ := hs
       refine ze6 (X := X.virt G2 h2) Fr K3 z fun h4 K4 z4 => ?_
       refine zcF (X := X.virt G2 h2) K4 z4 none fun h5 K5 z5 => ?_
       have R5 := K5.rel R2
       obtain ⟨u, hu, nu⟩ := Rel.nameGlob ok.glob V R5 (ziB q4) hcv
       have hu' := hu G2 rs2
       replace hu' : _ = _ := hu'
       subst hu'
       obtain ⟨vs5, f5, ⟨oe, d, es, nn, sy, t, a1, a2, a3, a4, a5, a6, a7, a8, a9⟩, no5, _⟩ := id z5
       refine wpAny_handleBy_cons (codeAny_handlers_test (nu ?_)) (by intro q; cases q)
       refine wpAny_excMatches_sub_self (R5.kin _ _ hKC) a1 a2 (by decide +kernel) ?_
       refine codeAny_handlers_suite_as ?_
       refine zcF (X := X.virt G2 h2) K5 z5 none fun h6 K6 z6 => ?_
       have R6 := K6.rel R2
       obtain ⟨vs6, f6, ⟨oe6, d6, es6, nn6, sy6, t6, b1, b2, b3, b4, b5, b6, b7, b8, b9⟩, no6, _⟩ := id z6
       have ne : e ≠ X.env.locals := fun w => K6.notF b1 b4 (by rw [w]; exact List.mem_cons_self)
       have nd : d6 ≠ X.env.locals := fun w => b9 (by rw [w]; exact List.mem_cons_self)
       refine R6.storeL V.v (V.l1 _ ln) (sv := .top (.ref e)) rfl fun h7 tk7 hs7 R7 => ?_
       have hs7' : Heap.SameBut X.env.locals h6 h7 := hs7
       have he7 : h7.get? e = some oe6 := (hs7'.2 e ne).trans b1
       have hd7 : h7.get? d6 = some (dictOf es6 nn6) := (hs7'.2 d6 nd).trans b6
       refine wpAny_execs_cons (wpAny_Assign_Name (Attribute_name ?_) rfl)
       obtain ⟨u, hu, nu'⟩ := Rel.nameAt V R7 (x := n) (sv := .top (.ref e)) (by rw [zbL, if_pos rfl])
       replace hu : _ = _ := hu
       subst hu
       refine nu' (zn0 (s := X.sh h7 tk7) R7.kin F he7 b2 b3 b4 hd7 b7 ?_)
       refine R7.storeL V.v (V.l1 _ ly) (sv := .str sy6) (VR.tok_str _ _) fun h8 tk8 _ R8 => ?_
       refine wpAny_execs_nil ?_
       refine R8.nameGone V.v (V.l1 _ ln) fun h9 tk9 R9 => ?_
       refine Fo.next (x1.trans x2) (R9.locEq (l := lset (ldel st2.loc n) y (.str sy6)) fun z sv e => ?_) (hEr sy6)
       show lk (ldel (lset (lset st2.loc n (.top (.ref _))) y (.str sy6)) n) z = some sv
       rw [zbL] at e
       rw [zd8]
       by_cases w : y = z
       ·rw [if_pos w] at e
        subst w
        rw [if_neg hny, zbL, if_pos rfl]; exact e
       ·rw [if_neg w, zd8] at e
        by_cases w2 : n = z
        ·rw [if_pos w2] at e; cases e
        ·rw [if_neg w2] at e ⊢
         rw [zbL, if_neg w, zbL, if_neg w2]; exact e
     ·exact hk4.elim
    ·exact hk4.elim
   ·exact hk4.elim
 ·exact hkb.elim
end
end Mine
end
section
open PySem.SeqAt PySem.EqBoolInt Builtin Builtin.ObjectAttr
namespace Mine
noncomputable def slB : List (Option Value) → Bool
 | [_, _, _, _, x, _] => x == some (.builtin "Exception.__new__")
 | _ => false
noncomputable def excC (c : Value) (cm : List Value) (ns : Addr) (hd dl : Bool) (sl : List (Option Value)) : Bool := isTy "type" c && ((cm == .ref 96 :: excMro && Nat.beq ns 95) && ((hd && !dl) && slB sl))
theorem zn2 {c : Value} {cm : List Value} {ns : Addr} {hd dl : Bool} {sl : List (Option Value)} (h : excC c cm ns hd dl sl = true) : c = .type "type" ∧ cm = .ref 96 :: excMro ∧ ns = 95 ∧ hd = true ∧ dl = false ∧ slB sl = true :=
 have h2 := zaG h
 have h3 := zaH h2
 have h4 := zaG h2
 have h5 := zaH h4
 ⟨zh9 (zaH h), beq_iff_eq.mp (zaH h3), Nat.eq_of_beq_eq_true (zaG h3), zaH h5, not_true (zaG h5), zaG h4⟩
noncomputable def excO : Option Obj → Bool
 | some o => (match o.data with
  | .cls cd => excC o.cls cd.mro cd.ns cd.hasDict cd.hasDel o.slots.toList
  | _ => false)
 | none => false
noncomputable def excB (K : Frag) : Bool := excO (K.lookup 96) &&
 ((keepIn K (.ref 96) && typeIn K (.ref 93) == some (.type "function")) &&
 (((specialIn K (.ref 96) "__call__" == some (some (.builtin "type.__call__")) && instIn K (.ref 96) (.type "type") == some true) &&
 (findIn K (.ref 96) "__setattr__" == some (some (.builtin "object.__setattr__")) && findIn K (.ref 96) "__getattribute__" == some (some (.builtin "BaseException.__getattribute__")))) &&
 ((findIn K (.ref 96) "__init__" == some (some (.ref 93)) && findIn K (.ref 96) "__getattr__" == some none) &&
 ((takerIn K 96 symN == some none && takerIn K 96 dataN == some none) && findIn K (.ref 96) symN == some none))))
theorem zpC {l : List (Option Value)} (h : slB l = true) : ∃ k0 k1 k2 k3 k5, l = [k0, k1, k2, k3, some (.builtin "Exception.__new__"), k5] := by
 rcases l with _ | ⟨k0, _ | ⟨k1, _ | ⟨k2, _ | ⟨k3, _ | ⟨x, _ | ⟨k5, _ | ⟨_, _⟩⟩⟩⟩⟩⟩⟩ <;> first | exact ft h | exact ⟨k0, k1, k2, k3, k5, by rw [show x = _ from beq_iff_eq.mp h]⟩
theorem zn1 {o : Option Obj} (h : excO o = true) : ExcObj o := by
 cases o with
 | none => exact ft h
 | some o =>
  obtain ⟨c, d, dt, ⟨sl⟩⟩ := o
  cases dt with
  | cls cd =>
   obtain ⟨cn, cb, cm, cns, cq, chd, csn, csub, cab, ccol, cdel⟩ := cd
   obtain ⟨rfl, rfl, rfl, rfl, rfl, h5⟩ := zn2 h
   obtain ⟨k0, k1, k2, k3, k5, rfl⟩ := zpC h5
   exact ⟨cn, cq, cb, csn, csub, cab, ccol, d, k0, k1, k2, k3, k5, rfl⟩
  | _ => exact ft h
theorem zfH {K : Frag} (h : excB K = true) : ExcK K ∧ keepIn K (.ref 96) = true := by
 have h1 := zaH h
 have h := zaG h
 have h2 := zaH h
 have h := zaG h
 have h3 := zaG h2
 have h2 := zaH h2
 have h4 := zaH h
 have h := zaG h
 have h6 := zaG h4
 have h4 := zaH h4
 have h5 := zaG h4
 have h4 := zaH h4
 have h7 := zaG h6
 have h6 := zaH h6
 have h8 := zaH h
 have h := zaG h
 have h9 := zaG h8
 have h8 := zaH h8
 have h12 := zaG h
 have h10 := zaH h
 have h11 := zaG h10
 have h10 := zaH h10
 have ho := zn1 h1
 have hd : (clsIn K 96).any (·.hasDict) = true := by
  obtain ⟨_, _, _, _, _, _, _, _, _, _, _, _, _, e⟩ := ho
  unfold clsIn
  rw [e]; rfl
 exact ⟨⟨ho, beq_iff_eq.mp h8, beq_iff_eq.mp h3, beq_iff_eq.mp h4, beq_iff_eq.mp h5, beq_iff_eq.mp h6, beq_iff_eq.mp h10, beq_iff_eq.mp h11, beq_iff_eq.mp h7, beq_iff_eq.mp h9, beq_iff_eq.mp h12, hd⟩, h2⟩
theorem exc1 {g : Gl} {T : Tab} (F : excB g.K = true) (ok : CallOk g (S1 g) T) (hfn : FnOk g 93 initFI) : ExcOk g (S1 g) T where
 raise := fun hr V hE R hk => zpU (zfH F).1 (zfH F).2 ok.glob hfn hr V hE R hk
 try_ := fun hr _ V _ R hk Fo => try1 (zfH F).1 ok hr V R hk Fo
theorem zoK {g : Gl} (H : Facts g) {cells : List Nat} {spec : Nat → Option (Nat × Spec)} {tr : Bool} (h7 : ∀ a, (spec a).isSome = true → a ∈ fnRows.map (·.1) ++ clsRows.map (·.1)) (hs : ∀ a N sp, spec a = some (N, sp) → SemSpec g (S1 g) tr a N sp) : CallOk g (S1 g) (tab cells spec tr) :=
 zeW H h7 hs fun a b c d => out1 a b c d
theorem zeQ {g : Gl} (H : Facts g) : FnOk g 93 initFI := znV H.d1 H.d2 93 initFI ziC
end Mine
end
namespace Mine
noncomputable def VIEW (cs : List Int) : SV := .imm 677 [(Str.ofString "codes", .lst (cs.map SV.int)), (Str.ofString "place", .int 1)]
noncomputable def codeAt (cs : List Int) (p : Int) : Int := if 1 ≤ p then cs.getD (p - 1).toNat (-1) else -1
noncomputable def IsView (cs : List Int) (v : SV) : Prop := v = VIEW cs
noncomputable def spCode(cs : List Int) : Spec := fun vs K _ => A2 vs fun v p0 => OI p0 fun p => IsView cs v ∧ K (.int (codeAt cs p))
noncomputable def spEnd(cs : List Int) : Spec := fun vs K _ => A1 vs fun v => IsView cs v ∧ K (.int (1 + (cs.length : Int)))
noncomputable abbrev T0 : Tab := tab [] (fun _ => none) false
noncomputable abbrev sc0 : Scope := ⟨.function, [], false, false, []⟩
theorem zmO (cs : List Int) (p : Int) (Er : Prop) (K : SV → SS → Prop) : callF T0 (bdOf T0 40) ⟨sc0, 2, fun _ _ => none, Er, false⟩ 674 [VIEW cs, .int p] ⟨[], []⟩ K =
  BR (leB 1 p) (CK (inLine (cs.map SV.int).length) (BR (ltB p (1 + ((cs.map SV.int).length : Int))) (CK (inLine (cs.map SV.int).length) (OM (place (p - 1) (cs.map SV.int).length) fun v => OM ((cs.map SV.int)[v]?) fun v => K v ⟨[], []⟩)) (K (.int (-1)) ⟨[], []⟩))) (K (.int (-1)) ⟨[], []⟩) := by kernel_rfl
theorem za1 {K : SV → Prop} {i : Int} {st : SS} (h : K (.int i)) : Fz K (.int i) st := ⟨1, .int i, rfl, h⟩
theorem zoV (cs : List Int) (Er : Prop) (K : SV → SS → Prop) : callF T0 (bdOf T0 40) ⟨sc0, 2, fun _ _ => none, Er, false⟩ 667 [VIEW cs] ⟨[], []⟩ K =
  CK (inLine (cs.map SV.int).length) (K (.int (1 + ((cs.map SV.int).length : Int))) ⟨[], []⟩) := by kernel_rfl
theorem zlD {cs : List Int} (hl : cs.length ≤ 1000) : ∀ svs K Er, spEnd cs svs K Er → callF T0 (bdOf T0 40) ⟨sc0, 2, fun _ _ => none, Er, false⟩ 667 svs ⟨[], []⟩ (Fz K) := by
 intro svs K Er h
 replace h := zeG h
 obtain ⟨v, rfl, h⟩ := h
 obtain ⟨h1, hK⟩ := h
 unfold IsView at h1
 subst h1
 rw [zoV]
 refine zaB ?_ (za1 ?_)
 ·unfold inLine
  exact Nat.ble_eq_true_of_le (by rw [List.length_map]; lia)
 ·rw [List.length_map]; exact hK
theorem zi4 {cs : List Int} (hl : cs.length ≤ 1000) : ∀ svs K Er, spCode cs svs K Er → callF T0 (bdOf T0 40) ⟨sc0, 2, fun _ _ => none, Er, false⟩ 674 svs ⟨[], []⟩ (Fz K) := by
 intro svs K Er h
 replace h := zcA h
 obtain ⟨v, p0, rfl, h⟩ := h
 replace h := zaS h
 obtain ⟨p, rfl, h⟩ := h
 obtain ⟨h1, hK⟩ := h
 unfold IsView at h1
 subst h1
 rw [zmO]
 have hin : inLine (cs.map SV.int).length = true := by
  unfold inLine
  exact Nat.ble_eq_true_of_le (by rw [List.length_map]; lia)
 refine zaI (fun h => zaB hin (zaI (fun h2 => zaB hin ?_) fun h2 => za1 ?_)) fun h => za1 ?_
 ·have h1 := zaU h
  have h3 := zaN h2
  rw [List.length_map] at h3
  have e : place (p - 1) (cs.map SV.int).length = some (p - 1).toNat := by
   unfold place
   rw [show leB 0 (p - 1) = true from decide_eq_true (by lia), show ltB (p - 1) ((cs.map SV.int).length : Int) = true from decide_eq_true (by rw [List.length_map]; lia)]
  have hlt : (p - 1).toNat < cs.length := by lia
  refine zaE e (zaE (a := .int (cs.getD (p - 1).toNat (-1))) ?_ (za1 ?_))
  ·rw [List.getElem?_map, List.getElem?_eq_getElem hlt, List.getD_eq_getElem?_getD, List.getElem?_eq_getElem hlt]; rfl
  ·unfold codeAt at hK
   rw [if_pos h1] at hK
   exact hK
 ·have h1 := zaU h
  have h3 := zaQ h2
  rw [List.length_map] at h3
  unfold codeAt at hK
  rw [if_pos h1, List.getD_eq_getElem?_getD, List.getElem?_eq_none (by lia)] at hK
  exact hK
 ·have h1 := zdF h
  unfold codeAt at hK
  rw [if_neg (by lia)] at hK
  exact hK
theorem zbO {g : Gl} (H : Facts g) {cs : List Int} (hl : cs.length ≤ 1000) : SemSpec g (S0 g) false 674 2 (spCode cs) :=
 zbU (zdM H (cells := []) (spec := fun _ => none) (tr := false) (fun a h => by cases h) (fun a N sp h => by cases h)) (exc0 g _ rfl) (zi4 hl)
theorem zc6 {g : Gl} (H : Facts g) {cs : List Int} (hl : cs.length ≤ 1000) : SemSpec g (S0 g) false 667 2 (spEnd cs) :=
 zbU (zdM H (cells := []) (spec := fun _ => none) (tr := false) (fun a h => by cases h) (fun a N sp h => by cases h)) (exc0 g _ rfl) (zlD hl)
noncomputable def tabH : List SO := [SO.fields [({ cps := { toList := [112, 97, 114, 101, 110, 116] } }, SV.none), ({ cps := { toList := [114, 111, 119, 115] } }, SV.obj 1)], SO.idict [(97, SV.ins 144 2), (98, SV.ins 144 2), (99, SV.ins 144 2), (100, SV.ins 144 2), (101, SV.ins 144 2), (102, SV.ins 144 2), (103, SV.ins 144 2), (104, SV.ins 144 2), (105, SV.ins 144 2), (106, SV.ins 144 2), (107, SV.ins 144 2), (108, SV.ins 144 2), (109, SV.ins 144 2), (110, SV.ins 144 2), (111, SV.ins 144 2), (112, SV.ins 144 2), (113, SV.ins 144 2), (114, SV.ins 144 2), (115, SV.ins 144 2), (116, SV.ins 144 2), (117, SV.ins 144 2), (118, SV.ins 144 2), (119, SV.ins 144 2), (120, SV.ins 144 2), (121, SV.ins 144 2), (122, SV.ins 144 2), (65, SV.ins 144 2), (66, SV.ins 144 2), (67, SV.ins 144 2), (68, SV.ins 144 2), (69, SV.ins 144 2), (70, SV.ins 144 2), (71, SV.ins 144 2), (72, SV.ins 144 2), (73, SV.ins 144 2), (74, SV.ins 144 2), (75, SV.ins 144 2), (76, SV.ins 144 2), (77, SV.ins 144 2), (78, SV.ins 144 2), (79, SV.ins 144 2), (80, SV.ins 144 2), (81, SV.ins 144 2), (82, SV.ins 144 2), (83, SV.ins 144 2), (84, SV.ins 144 2), (85, SV.ins 144 2), (86, SV.ins 144 2), (87, SV.ins 144 2), (88, SV.ins 144 2), (89, SV.ins 144 2), (90, SV.ins 144 2), (48, SV.ins 144 2), (49, SV.ins 144 2), (50, SV.ins 144 2), (51, SV.ins 144 2), (52, SV.ins 144 2), (53, SV.ins 144 2), (54, SV.ins 144 2), (55, SV.ins 144 2), (56, SV.ins 144 2), (57, SV.ins 144 2), (36, SV.ins 144 2), (37, SV.ins 144 2), (32, SV.ins 144 3), (9, SV.ins 144 3), (10, SV.ins 144 3), (13, SV.ins 144 3), (12, SV.ins 144 3), (95, SV.ins 144 4), (45, SV.ins 144 4), (43, SV.ins 144 4), (42, SV.ins 144 4), (47, SV.ins 144 4), (38, SV.ins 144 4), (124, SV.ins 144 4), (60, SV.ins 144 4), (62, SV.ins 144 4), (61, SV.ins 144 4), (46, SV.ins 144 5), (44, SV.ins 144 5), (59, SV.ins 144 5), (58, SV.ins 144 5), (63, SV.ins 144 5), (33, SV.ins 144 5), (35, SV.ins 144 5), (64, SV.ins 144 5), (126, SV.ins 144 5), (94, SV.ins 144 5), (39, SV.ins 144 5), (96, SV.ins 144 5), (40, SV.ins 144 6), (41, SV.ins 144 7), (91, SV.ins 144 8), (93, SV.ins 144 9), (123, SV.ins 144 10), (125, SV.ins 144 11), (34, SV.ins 144 12), (92, SV.ins 144 13)] 99, SO.fields [({ cps := { toList := [107, 105, 110, 100] } }, SV.str { cps := { toList := [119] } }), ({ cps := { toList := [109, 97, 116, 99, 104] } }, SV.none), ({ cps := { toList := [102, 108, 97, 103, 115] } }, SV.str { cps := { toList := [] } })], SO.fields [({ cps := { toList := [107, 105, 110, 100] } }, SV.str { cps := { toList := [32] } }), ({ cps := { toList := [109, 97, 116, 99, 104] } }, SV.none), ({ cps := { toList := [102, 108, 97, 103, 115] } }, SV.str { cps := { toList := [] } })], SO.fields [({ cps := { toList := [107, 105, 110, 100] } }, SV.str { cps := { toList := [95] } }), ({ cps := { toList := [109, 97, 116, 99, 104] } }, SV.none), ({ cps := { toList := [102, 108, 97, 103, 115] } }, SV.str { cps := { toList := [] } })], SO.fields [({ cps := { toList := [107, 105, 110, 100] } }, SV.str { cps := { toList := [46] } }), ({ cps := { toList := [109, 97, 116, 99, 104] } }, SV.none), ({ cps := { toList := [102, 108, 97, 103, 115] } }, SV.str { cps := { toList := [] } })], SO.fields [({ cps := { toList := [107, 105, 110, 100] } }, SV.str { cps := { toList := [40] } }), ({ cps := { toList := [109, 97, 116, 99, 104] } }, SV.int 41), ({ cps := { toList := [102, 108, 97, 103, 115] } }, SV.str { cps := { toList := [] } })], SO.fields [({ cps := { toList := [107, 105, 110, 100] } }, SV.str { cps := { toList := [41] } }), ({ cps := { toList := [109, 97, 116, 99, 104] } }, SV.int 40), ({ cps := { toList := [102, 108, 97, 103, 115] } }, SV.str { cps := { toList := [] } })], SO.fields [({ cps := { toList := [107, 105, 110, 100] } }, SV.str { cps := { toList := [40] } }), ({ cps := { toList := [109, 97, 116, 99, 104] } }, SV.int 93), ({ cps := { toList := [102, 108, 97, 103, 115] } }, SV.str { cps := { toList := [] } })], SO.fields [({ cps := { toList := [107, 105, 110, 100] } }, SV.str { cps := { toList := [41] } }), ({ cps := { toList := [109, 97, 116, 99, 104] } }, SV.int 91), ({ cps := { toList := [102, 108, 97, 103, 115] } }, SV.str { cps := { toList := [] } })], SO.fields [({ cps := { toList := [107, 105, 110, 100] } }, SV.str { cps := { toList := [40] } }), ({ cps := { toList := [109, 97, 116, 99, 104] } }, SV.int 125), ({ cps := { toList := [102, 108, 97, 103, 115] } }, SV.str { cps := { toList := [] } })], SO.fields [({ cps := { toList := [107, 105, 110, 100] } }, SV.str { cps := { toList := [41] } }), ({ cps := { toList := [109, 97, 116, 99, 104] } }, SV.int 123), ({ cps := { toList := [102, 108, 97, 103, 115] } }, SV.str { cps := { toList := [] } })], SO.fields [({ cps := { toList := [107, 105, 110, 100] } }, SV.str { cps := { toList := [34] } }), ({ cps := { toList := [109, 97, 116, 99, 104] } }, SV.none), ({ cps := { toList := [102, 108, 97, 103, 115] } }, SV.str { cps := { toList := [] } })], SO.fields [({ cps := { toList := [107, 105, 110, 100] } }, SV.str { cps := { toList := [92] } }), ({ cps := { toList := [109, 97, 116, 99, 104] } }, SV.none), ({ cps := { toList := [102, 108, 97, 103, 115] } }, SV.str { cps := { toList := [] } })], SO.fields [({ cps := { toList := [112, 97, 114, 101, 110, 116] } }, SV.ins 225 0), ({ cps := { toList := [114, 111, 119, 115] } }, SV.obj 15)], SO.idict [(33, SV.ins 144 16), (36, SV.ins 144 16), (37, SV.ins 144 16), (38, SV.ins 144 16), (42, SV.ins 144 16), (43, SV.ins 144 16), (45, SV.ins 144 16), (46, SV.ins 144 16), (47, SV.ins 144 16), (58, SV.ins 144 16), (60, SV.ins 144 16), (61, SV.ins 144 16), (62, SV.ins 144 16), (63, SV.ins 144 16), (64, SV.ins 144 20), (94, SV.ins 144 16), (95, SV.ins 144 16), (123, SV.ins 144 16), (125, SV.ins 144 16), (126, SV.ins 144 16), (124, SV.ins 144 22), (10, SV.ins 144 17), (59, SV.ins 144 18), (96, SV.ins 144 19), (39, SV.ins 144 19), (44, SV.ins 144 19), (35, SV.ins 144 21)] 29, SO.fields [({ cps := { toList := [107, 105, 110, 100] } }, SV.str { cps := { toList := [95] } }), ({ cps := { toList := [109, 97, 116, 99, 104] } }, SV.none), ({ cps := { toList := [102, 108, 97, 103, 115] } }, SV.str { cps := { toList := [] } })], SO.fields [({ cps := { toList := [107, 105, 110, 100] } }, SV.str { cps := { toList := [62] } }), ({ cps := { toList := [109, 97, 116, 99, 104] } }, SV.none), ({ cps := { toList := [102, 108, 97, 103, 115] } }, SV.str { cps := { toList := [] } })], SO.fields [({ cps := { toList := [107, 105, 110, 100] } }, SV.str { cps := { toList := [60] } }), ({ cps := { toList := [109, 97, 116, 99, 104] } }, SV.none), ({ cps := { toList := [102, 108, 97, 103, 115] } }, SV.str { cps := { toList := [] } })], SO.fields [({ cps := { toList := [107, 105, 110, 100] } }, SV.str { cps := { toList := [39] } }), ({ cps := { toList := [109, 97, 116, 99, 104] } }, SV.none), ({ cps := { toList := [102, 108, 97, 103, 115] } }, SV.str { cps := { toList := [] } })], SO.fields [({ cps := { toList := [107, 105, 110, 100] } }, SV.str { cps := { toList := [95] } }), ({ cps := { toList := [109, 97, 116, 99, 104] } }, SV.none), ({ cps := { toList := [102, 108, 97, 103, 115] } }, SV.str { cps := { toList := [112] } })], SO.fields [({ cps := { toList := [107, 105, 110, 100] } }, SV.str { cps := { toList := [39] } }), ({ cps := { toList := [109, 97, 116, 99, 104] } }, SV.none), ({ cps := { toList := [102, 108, 97, 103, 115] } }, SV.str { cps := { toList := [49, 52] } })], SO.fields [({ cps := { toList := [107, 105, 110, 100] } }, SV.str { cps := { toList := [95] } }), ({ cps := { toList := [109, 97, 116, 99, 104] } }, SV.none), ({ cps := { toList := [102, 108, 97, 103, 115] } }, SV.str { cps := { toList := [50, 51, 98, 110] } })]]
noncomputable def TABLE : SV := match frz tabH 5 (.ins 225 14) with
 | some v => v
 | none => .none
noncomputable def spTable : Spec := fun vs K _ => vs = [] ∧ K TABLE
theorem zjN (Er : Prop) (K : SV → SS → Prop) : callF T0 (bdOf T0 300) ⟨sc0, 12, fun _ _ => none, Er, false⟩ 250 [] ⟨[], []⟩ K = K (.ins 225 14) ⟨[], tabH⟩ := by kernel_rfl
theorem ziK : frz tabH 5 (.ins 225 14) = some TABLE := by kernel_rfl
theorem zg6 : ∀ svs K Er, spTable svs K Er → callF T0 (bdOf T0 300) ⟨sc0, 12, fun _ _ => none, Er, false⟩ 250 svs ⟨[], []⟩ (Fz K) := by
 rintro svs K Er ⟨rfl, hK⟩
 rw [zjN]
 exact ⟨5, TABLE, ziK, hK⟩
theorem zhP {g : Gl} (H : Facts g) : SemSpec g (S0 g) false 250 12 spTable :=
 zbU (zdM H (cells := []) (spec := fun _ => none) (tr := false) (fun a h => by cases h) (fun a N sp h => by cases h)) (exc0 g _ rfl) zg6
noncomputable def st (l : List Nat) : Str := ⟨l.toArray⟩
noncomputable def mkSyn (k : Nat) (m : SV) : SV := .imm 144 [(Str.ofString "kind", .str ⟨#[k]⟩), (Str.ofString "match", m), (Str.ofString "flags", .str ⟨#[]⟩)]
noncomputable def kd (c : Int) : Nat := if c = 40 then 40 else if c = 41 then 41 else if c = 91 then 40 else if c = 93 then 41 else if c = 97 then 119 else if c = 32 then 32 else if c = 10 then 62 else if c = 34 then 34 else if c = 59 then 60 else 92
noncomputable def mt (c : Int) : SV := if c = 40 then .int 41 else if c = 41 then .int 40 else if c = 91 then .int 93 else if c = 93 then .int 91 else .none
noncomputable def GoodC (c : Int) : Prop := c ∈ [40, 41, 91, 93, 97, 32, 10, 34, 59, (92 : Int)]
noncomputable def Syn (c : Int) : SV := mkSyn (kd c) (mt c)
noncomputable def tabP : SV := match TABLE with | .imm _ [(_, a), _] => a | _ => .none
noncomputable def tabR : SV := match TABLE with | .imm _ [_, (_, a)] => a | _ => .none
noncomputable def TAB (tp tr : SV) : SV := .imm 225 [(Str.ofString "parent", tp), (Str.ofString "rows", tr)]
theorem TABLE_eq : TABLE = TAB tabP tabR := by kernel_rfl
noncomputable def IsTab (t : SV) : Prop := t = TABLE
theorem zaT : IsTab (TAB tabP tabR) := TABLE_eq.symm
noncomputable def spAt: Spec := fun vs K _ => A2 vs fun t c0 => OI c0 fun c => IsTab t ∧ GoodC c ∧ K (Syn c)
theorem ztA (Er : Prop) (K : SV → SS → Prop) : callF T0 (bdOf T0 100) ⟨sc0, 5, fun _ _ => none, Er, false⟩ 208 [TABLE, .int 40] ⟨[], []⟩ K = K (mkSyn 40 (.int 41)) ⟨[], []⟩ := by kernel_rfl
theorem zs9 (Er : Prop) (K : SV → SS → Prop) : callF T0 (bdOf T0 100) ⟨sc0, 5, fun _ _ => none, Er, false⟩ 208 [TABLE, .int 41] ⟨[], []⟩ K = K (mkSyn 41 (.int 40)) ⟨[], []⟩ := by kernel_rfl
theorem zs7 (Er : Prop) (K : SV → SS → Prop) : callF T0 (bdOf T0 100) ⟨sc0, 5, fun _ _ => none, Er, false⟩ 208 [TABLE, .int 91] ⟨[], []⟩ K = K (mkSyn 40 (.int 93)) ⟨[], []⟩ := by kernel_rfl
theorem zs5 (Er : Prop) (K : SV → SS → Prop) : callF T0 (bdOf T0 100) ⟨sc0, 5, fun _ _ => none, Er, false⟩ 208 [TABLE, .int 93] ⟨[], []⟩ K = K (mkSyn 41 (.int 91)) ⟨[], []⟩ := by kernel_rfl
theorem zs4 (Er : Prop) (K : SV → SS → Prop) : callF T0 (bdOf T0 100) ⟨sc0, 5, fun _ _ => none, Er, false⟩ 208 [TABLE, .int 97] ⟨[], []⟩ K = K (mkSyn 119 .none) ⟨[], []⟩ := by kernel_rfl
theorem ztC (Er : Prop) (K : SV → SS → Prop) : callF T0 (bdOf T0 100) ⟨sc0, 5, fun _ _ => none, Er, false⟩ 208 [TABLE, .int 32] ⟨[], []⟩ K = K (mkSyn 32 .none) ⟨[], []⟩ := by kernel_rfl
theorem ztD (Er : Prop) (K : SV → SS → Prop) : callF T0 (bdOf T0 100) ⟨sc0, 5, fun _ _ => none, Er, false⟩ 208 [TABLE, .int 10] ⟨[], []⟩ K = K (mkSyn 62 .none) ⟨[], []⟩ := by kernel_rfl
theorem ztB (Er : Prop) (K : SV → SS → Prop) : callF T0 (bdOf T0 100) ⟨sc0, 5, fun _ _ => none, Er, false⟩ 208 [TABLE, .int 34] ⟨[], []⟩ K = K (mkSyn 34 .none) ⟨[], []⟩ := by kernel_rfl
theorem zs8 (Er : Prop) (K : SV → SS → Prop) : callF T0 (bdOf T0 100) ⟨sc0, 5, fun _ _ => none, Er, false⟩ 208 [TABLE, .int 59] ⟨[], []⟩ K = K (mkSyn 60 .none) ⟨[], []⟩ := by kernel_rfl
theorem zs6 (Er : Prop) (K : SV → SS → Prop) : callF T0 (bdOf T0 100) ⟨sc0, 5, fun _ _ => none, Er, false⟩ 208 [TABLE, .int 92] ⟨[], []⟩ K = K (mkSyn 92 .none) ⟨[], []⟩ := by kernel_rfl
theorem zb8 {K : SV → Prop} {C : Addr} {fs : List (Str × SV)} {st : SS} (h : K (.imm C fs)) : Fz K (.imm C fs) st := ⟨1, .imm C fs, rfl, h⟩
theorem zoH : ∀ svs K Er, spAt svs K Er → callF T0 (bdOf T0 100) ⟨sc0, 5, fun _ _ => none, Er, false⟩ 208 svs ⟨[], []⟩ (Fz K) := by
 intro svs K Er h
 replace h := zcA h
 obtain ⟨t, c0, rfl, h⟩ := h
 replace h := zaS h
 obtain ⟨c, rfl, h⟩ := h
 obtain ⟨h1, h2, h3⟩ := h
 unfold IsTab at h1
 subst h1
 unfold GoodC at h2
 simp only [List.mem_cons, List.not_mem_nil, or_false] at h2
 rcases h2 with rfl | rfl | rfl | rfl | rfl | rfl | rfl | rfl | rfl | rfl
 ·rw [ztA]; exact zb8 (show K (Syn 40) from h3)
 ·rw [zs9]; exact zb8 (show K (Syn 41) from h3)
 ·rw [zs7]; exact zb8 (show K (Syn 91) from h3)
 ·rw [zs5]; exact zb8 (show K (Syn 93) from h3)
 ·rw [zs4]; exact zb8 (show K (Syn 97) from h3)
 ·rw [ztC]; exact zb8 (show K (Syn 32) from h3)
 ·rw [ztD]; exact zb8 (show K (Syn 10) from h3)
 ·rw [ztB]; exact zb8 (show K (Syn 34) from h3)
 ·rw [zs8]; exact zb8 (show K (Syn 59) from h3)
 ·rw [zs6]; exact zb8 (show K (Syn 92) from h3)
theorem zlU {g : Gl} (H : Facts g) : SemSpec g (S0 g) false 208 5 spAt :=
 zbU (zdM H (cells := []) (spec := fun _ => none) (tr := false) (fun a h => by cases h) (fun a N sp h => by cases h)) (exc0 g _ rfl) zoH
noncomputable abbrev SpecL := List (Nat × (Nat × Spec))
noncomputable def memAddr : SpecL → Bool
 | [] => true
 | (a, _) :: r => memN (fnRows.map (·.1) ++ clsRows.map (·.1)) a && memAddr r
set_option tactic.hygienic true in
theorem zf2 : ∀ {l : List Nat} {a : Nat}, memN l a = true → a ∈ l
 | [], a, h => by cases h
 | b :: r, a, h => by
  unfold memN at h
  split at h
  ·rename_i q; rw [Nat.eq_of_beq_eq_true q]; exact List.mem_cons_self
  ·exact List.mem_cons_of_mem _ (zf2 h)
set_option tactic.hygienic true in
theorem zdE {α : Type} : ∀ {l : List (Nat × α)} {a : Nat} {x : α}, lkN l a = some x → (a, x) ∈ l
 | [], a, x, h => by cases h
 | (b, v) :: r, a, x, h => by
  unfold lkN at h
  split at h
  ·rename_i q; cases h; rw [Nat.eq_of_beq_eq_true q]; exact List.mem_cons_self
  ·exact List.mem_cons_of_mem _ (zdE h)
theorem zcL : ∀ {l : SpecL}, memAddr l = true → ∀ x ∈ l, x.1 ∈ fnRows.map (·.1) ++ clsRows.map (·.1)
 | [], _, x, h => by cases h
 | (a, s) :: r, e, x, h => by
  have e2 := zaG e
  have e1 := zaH e
  rcases List.mem_cons.mp h with q | q
  ·subst q; exact zf2 e1
  ·exact zcL e2 x q
theorem zbG {g : Gl} (H : Facts g) {cells : List Nat} {l : SpecL} {tr : Bool} (hm : memAddr l = true) (hs : ∀ x ∈ l, SemSpec g (S0 g) tr x.1 x.2.1 x.2.2) : CallOk g (S0 g) (tab cells (lkN l) tr) :=
 zdM H (fun a h => by
  obtain ⟨x, hx⟩ := Option.isSome_iff_exists.mp h
  exact zcL hm _ (zdE hx)) fun a N sp h => hs _ (zdE h)
theorem zd3 {g : Gl} (H : Facts g) {cells : List Nat} {l : SpecL} {tr : Bool} (hm : memAddr l = true) (hs : ∀ x ∈ l, SemSpec g (S1 g) tr x.1 x.2.1 x.2.2) : CallOk g (S1 g) (tab cells (lkN l) tr) :=
 zoK H (fun a h => by
  obtain ⟨x, hx⟩ := Option.isSome_iff_exists.mp h
  exact zcL hm _ (zdE hx)) fun a N sp h => hs _ (zdE h)
theorem SemSpec.mono {g : Gl} {S : Sigs g} {tr : Bool} {a N M : Nat} {sp sp' : Spec} (hn : N ≤ M) (hp : ∀ vs K Er, sp' vs K Er → sp vs K Er) (h : SemSpec g S tr a N sp) : SemSpec g S tr a M sp' :=
 fun R hv hh hd hu hon hf hsp hret herr => h R hv hh (by lia) (by lia) hon hf (hp _ _ _ hsp) hret herr
structure Hold (p : Prop) : Prop where
 h : p
theorem zd6 {g : Gl} {S : Sigs g} {T : Tab} (ok : CallOk g S T) (ex : ExcOk g S T) {a : Addr} {N n : Nat} {sp : Spec} {sc : Scope} {tr : Bool}
  (hv : ∀ svs K Er, sp svs K Er → ∃ lp, callF T (bdOf T n) ⟨sc, N, lp, Er, tr⟩ a svs ⟨[], []⟩ (Fz K)) : SemSpec g S tr a N sp := by
 intro X G rs st h tk vals svs K Er R Rl hvs hh hd hu hon hfr hsp hret herr
 obtain ⟨lp, hk⟩ := hv svs K Er hsp
 refine zcI (X := X.virt G h) (fc := ⟨sc, N, lp, Er, tr⟩) ok (zkJ ok ex n).2.2 ⟨hh, fun d e => ?_, hon, hfr⟩ herr Rl.virt hvs hk (ziO Rl hret)
 have e' : N = d + 1 := e
 show X.A.depth + 1 + 3 * d ≤ 900 ∧ X.A.units + 3 + 12 * d ≤ 8000
 lia
theorem zaY {g : Gl} {S : Sigs g} {T : Tab} (ok : CallOk g S T) (ex : ExcOk g S T) {a : Addr} {N : Nat} {sp : Spec} (n : Nat) (sc : Scope) (tr : Bool)
  (hv : ∀ svs K Er, sp svs K Er → ∃ lp, Hold (callF T (bdOf T n) ⟨sc, N, lp, Er, tr⟩ a svs ⟨[], []⟩ (Fz K))) : SemSpec g S tr a N sp :=
 zd6 ok ex fun svs K Er h => let ⟨lp, q⟩ := hv svs K Er h; ⟨lp, q.h⟩
noncomputable def spNo : Spec := fun _ _ _ => False
theorem zfV {g : Gl} {S : Sigs g} {tr : Bool} {a N : Nat} : SemSpec g S tr a N spNo := fun _ _ _ _ _ _ _ hsp _ _ => hsp.elim
noncomputable def spSyn(cs : List Int) : Spec := fun vs K _ => A3 vs fun v t p0 => OI p0 fun p => IsView cs v ∧ IsTab t ∧ (codeAt cs p < 0 → K .none) ∧ (0 ≤ codeAt cs p → K (Syn (codeAt cs p)))
noncomputable def GoodT (cs : List Int) : Prop := cs.length ≤ 1000 ∧ ∀ c ∈ cs, GoodC c
theorem zbZ {c : Int} (h : GoodC c) : 0 ≤ c := by
 have : ∀ z ∈ [40, 41, 91, 93, 97, 32, 10, 34, 59, (92 : Int)], 0 ≤ z := by decide
 exact this c h
theorem za7 {cs : List Int} (h : GoodT cs) (p : Int) : codeAt cs p = -1 ∨ GoodC (codeAt cs p) := by
 unfold codeAt
 split
 ·rw [List.getD_eq_getElem?_getD]
  cases q : cs[(p - 1).toNat]? with
  | none => exact .inl rfl
  | some c => exact .inr (h.2 c (List.mem_of_getElem? q))
 ·exact .inl rfl
noncomputable def L1 (cs : List Int) : SpecL := [(674, (2, spCode cs)), (667, (2, spEnd cs)), (208, (5, spAt))]
noncomputable abbrev TT1 (cs : List Int) : Tab := tab [] (lkN (L1 cs)) false
noncomputable abbrev fcN (N : Nat) (Er : Prop) : FC := ⟨sc0, N, fun _ _ => none, Er, false⟩
theorem zpS {g : Gl} (H : Facts g) {cs : List Int} (h : GoodT cs) : ∀ x ∈ L1 cs, SemSpec g (S0 g) false x.1 x.2.1 x.2.2 := by
 intro x hx
 simp only [L1, List.mem_cons, List.not_mem_nil, or_false] at hx
 rcases hx with rfl | rfl | rfl
 ·exact zbO H h.1
 ·exact zc6 H h.1
 ·exact zlU H
theorem zoT (cs : List Int) (p : Int) (tp tr : SV) (Er : Prop) (K : SV → SS → Prop) : callF (TT1 cs) (bdOf (TT1 cs) 60) (fcN 7 Er) 278 [VIEW cs, TAB tp tr, .int p] ⟨[], []⟩ K =
  (IsView cs (VIEW cs) ∧ BR (ltB (codeAt cs p) 0) (K SV.none { loc := [], H := [] }) (IsTab (TAB tp tr) ∧ GoodC (codeAt cs p) ∧ K (Syn (codeAt cs p)) { loc := [], H := [] })) := by kernel_rfl
theorem za9 {K : SV → Prop} {st : SS} (h : K .none) : Fz K .none st := ⟨1, .none, rfl, h⟩
theorem zeF {K : SV → Prop} {b : Bool} {st : SS} (h : K (.bool b)) : Fz K (.bool b) st := ⟨1, .bool b, rfl, h⟩
theorem zrH {K : SV → Prop} {c : Int} {st : SS} (h : K (Syn c)) : Fz K (Syn c) st := ⟨1, Syn c, rfl, h⟩
theorem zlB {cs : List Int} (hg : GoodT cs) : ∀ svs K Er, spSyn cs svs K Er → callF (TT1 cs) (bdOf (TT1 cs) 60) (fcN 7 Er) 278 svs ⟨[], []⟩ (Fz K) := by
 intro svs K Er h
 replace h := zbI h
 obtain ⟨v, t, p0, rfl, h⟩ := h
 replace h := zaS h
 obtain ⟨p, rfl, h⟩ := h
 obtain ⟨h1, h2, h3, h4⟩ := h
 unfold IsView at h1
 unfold IsTab at h2
 subst h1 h2
 rw [TABLE_eq, zoT]
 refine ⟨rfl, zaI (fun q => za9 (h3 (zaN q))) fun q => ⟨zaT, ?_, zrH (h4 (by have := zaQ q; lia))⟩⟩
 rcases za7 hg p with z | z
 ·have := zaQ q
  lia
 ·exact z
theorem zcK {g : Gl} (H : Facts g) {cs : List Int} (h : GoodT cs) : SemSpec g (S0 g) false 278 7 (spSyn cs) :=
 zbU (zbG H (by kernel_rfl) (zpS H h)) (exc0 g _ rfl) (zlB h)
noncomputable def MARK : SV := .imm 267 [(Str.ofString "length", .int 1), (Str.ofString "style", .str ⟨#[]⟩), (Str.ofString "nests", .bool false), (Str.ofString "is_fence", .bool false)]
noncomputable def spMk(cs : List Int) (k : Int) : Spec := fun vs K _ => A3 vs fun v t p0 => OI p0 fun p => IsView cs v ∧ IsTab t ∧ (codeAt cs p = k → K MARK) ∧ (codeAt cs p ≠ k → K .none)
noncomputable def L2 (cs : List Int) : SpecL := [(278, (7, spSyn cs))]
noncomputable abbrev TT2 (cs : List Int) : Tab := tab [] (lkN (L2 cs)) false
noncomputable abbrev s_around : Str := ⟨#[97, 114, 111, 117, 110, 100]⟩
noncomputable abbrev s_at : Str := ⟨#[97, 116]⟩
noncomputable abbrev s_before : Str := ⟨#[98, 101, 102, 111, 114, 101]⟩
noncomputable abbrev s_begin : Str := ⟨#[98, 101, 103, 105, 110]⟩
noncomputable abbrev s_behind : Str := ⟨#[98, 101, 104, 105, 110, 100]⟩
noncomputable abbrev s_below : Str := ⟨#[98, 101, 108, 111, 119]⟩
noncomputable abbrev s_cells : Str := ⟨#[99, 101, 108, 108, 115]⟩
noncomputable abbrev s_code : Str := ⟨#[99, 111, 100, 101]⟩
noncomputable abbrev s_codes : Str := ⟨#[99, 111, 100, 101, 115]⟩
noncomputable abbrev s_comment : Str := ⟨#[99, 111, 109, 109, 101, 110, 116]⟩
noncomputable abbrev s_deck : Str := ⟨#[100, 101, 99, 107]⟩
noncomputable abbrev s_depth : Str := ⟨#[100, 101, 112, 116, 104]⟩
noncomputable abbrev s_due : Str := ⟨#[100, 117, 101]⟩
noncomputable abbrev s_end : Str := ⟨#[101, 110, 100]⟩
noncomputable abbrev s_ends : Str := ⟨#[101, 110, 100, 115]⟩
noncomputable abbrev s_found : Str := ⟨#[102, 111, 117, 110, 100]⟩
noncomputable abbrev s_good : Str := ⟨#[103, 111, 111, 100]⟩
noncomputable abbrev s_half : Str := ⟨#[104, 97, 108, 102]⟩
noncomputable abbrev s_heard : Str := ⟨#[104, 101, 97, 114, 100]⟩
noncomputable abbrev s_is_done : Str := ⟨#[105, 115, 95, 100, 111, 110, 101]⟩
noncomputable abbrev s_is_expression : Str := ⟨#[105, 115, 95, 101, 120, 112, 114, 101, 115, 115, 105, 111, 110]⟩
noncomputable abbrev s_is_fence : Str := ⟨#[105, 115, 95, 102, 101, 110, 99, 101]⟩
noncomputable abbrev s_is_paired : Str := ⟨#[105, 115, 95, 112, 97, 105, 114, 101, 100]⟩
noncomputable abbrev s_least : Str := ⟨#[108, 101, 97, 115, 116]⟩
noncomputable abbrev s_length : Str := ⟨#[108, 101, 110, 103, 116, 104]⟩
noncomputable abbrev s_many : Str := ⟨#[109, 97, 110, 121]⟩
noncomputable abbrev s_misfit : Str := ⟨#[109, 105, 115, 102, 105, 116]⟩
noncomputable abbrev s_most : Str := ⟨#[109, 111, 115, 116]⟩
noncomputable abbrev s_nests : Str := ⟨#[110, 101, 115, 116, 115]⟩
noncomputable abbrev s_nth : Str := ⟨#[110, 116, 104]⟩
noncomputable abbrev s_opens : Str := ⟨#[111, 112, 101, 110, 115]⟩
noncomputable abbrev s_piece : Str := ⟨#[112, 105, 101, 99, 101]⟩
noncomputable abbrev s_pieces : Str := ⟨#[112, 105, 101, 99, 101, 115]⟩
noncomputable abbrev s_pile : Str := ⟨#[112, 105, 108, 101]⟩
noncomputable abbrev s_place : Str := ⟨#[112, 108, 97, 99, 101]⟩
noncomputable abbrev s_quoted : Str := ⟨#[113, 117, 111, 116, 101, 100]⟩
noncomputable abbrev s_scan : Str := ⟨#[115, 99, 97, 110]⟩
noncomputable abbrev s_script : Str := ⟨#[115, 99, 114, 105, 112, 116]⟩
noncomputable abbrev s_self : Str := ⟨#[115, 101, 108, 102]⟩
noncomputable abbrev s_sign : Str := ⟨#[115, 105, 103, 110]⟩
noncomputable abbrev s_signs : Str := ⟨#[115, 105, 103, 110, 115]⟩
noncomputable abbrev s_size : Str := ⟨#[115, 105, 122, 101]⟩
noncomputable abbrev s_start : Str := ⟨#[115, 116, 97, 114, 116]⟩
noncomputable abbrev s_starts : Str := ⟨#[115, 116, 97, 114, 116, 115]⟩
noncomputable abbrev s_string : Str := ⟨#[115, 116, 114, 105, 110, 103]⟩
noncomputable abbrev s_style : Str := ⟨#[115, 116, 121, 108, 101]⟩
noncomputable abbrev s_syntax : Str := ⟨#[115, 121, 110, 116, 97, 120]⟩
noncomputable abbrev s_table : Str := ⟨#[116, 97, 98, 108, 101]⟩
noncomputable abbrev s_text : Str := ⟨#[116, 101, 120, 116]⟩
noncomputable abbrev s_view : Str := ⟨#[118, 105, 101, 119]⟩
noncomputable abbrev s_walk : Str := ⟨#[119, 97, 108, 107]⟩
noncomputable abbrev s_whole : Str := ⟨#[119, 104, 111, 108, 101]⟩
noncomputable abbrev s_word : Str := ⟨#[119, 111, 114, 100]⟩
theorem zeC {a b : Nat} : eqS ⟨#[a]⟩ (st [b]) = Nat.beq a b := by
 show (match Nat.beq a b with | true => natsEq [] [] | false => false) = Nat.beq a b
 cases Nat.beq a b <;> rfl
theorem zgZ {c : Int} (h : GoodC c) : (kd c = 60 ↔ c = 59) ∧ (kd c = 62 ↔ c = 10) ∧ kd c ≠ 33 := by
 unfold GoodC at h
 simp only [List.mem_cons, List.not_mem_nil, or_false] at h
 rcases h with rfl | rfl | rfl | rfl | rfl | rfl | rfl | rfl | rfl | rfl <;> decide
theorem zjF {K : SV → Prop} {l : List (Str × SV)} (h : K MARK) : Fz K (.ins 267 0) ⟨l, [SO.fields [(s_length, SV.int 1), (s_style, SV.str (st [])), (s_nests, SV.bool Bool.false), (s_is_fence, SV.bool Bool.false)]]⟩ := ⟨2, MARK, by kernel_rfl, h⟩
theorem zo4 (cs : List Int) (p : Int) (tp tr : SV) (Er : Prop) (K : SV → SS → Prop) : callF (TT2 cs) (bdOf (TT2 cs) 60) (fcN 12 Er) 292 [VIEW cs, TAB tp tr, .int p] ⟨[], []⟩ K =
  (IsView cs (VIEW cs) ∧ IsTab (TAB tp tr) ∧ (codeAt cs p < 0 → IsView cs (VIEW cs) ∧ IsTab (TAB tp tr) ∧ (codeAt cs (p + 1) < 0 → K SV.none { loc := [], H := [] }) ∧ (0 ≤ codeAt cs (p + 1) → K SV.none { loc := [], H := [] })) ∧ (0 ≤ codeAt cs p → IsView cs (VIEW cs) ∧ IsTab (TAB tp tr) ∧ (codeAt cs (p + 1) < 0 → BR (eqS { cps := { toList := [kd (codeAt cs p)] } } (st [60])) (K (SV.ins 267 0) { loc := [], H := [SO.fields [(s_length, SV.int 1), (s_style, SV.str (st [])), (s_nests, SV.bool Bool.false), (s_is_fence, SV.bool Bool.false)]] }) (BR (eqS { cps := { toList := [kd (codeAt cs p)] } } (st [33])) (K (SV.ins 267 0) { loc := [], H := [SO.fields [(s_length, SV.int 1), (s_style, SV.str (st [])), (s_nests, SV.bool Bool.false), (s_is_fence, SV.bool Bool.true)]] }) (K SV.none { loc := [], H := [] }))) ∧ (0 ≤ codeAt cs (p + 1) → BR (eqS { cps := { toList := [kd (codeAt cs p)] } } (st [60])) (K (SV.ins 267 0) { loc := [], H := [SO.fields [(s_length, SV.int 1), (s_style, SV.str (st [])), (s_nests, SV.bool Bool.false), (s_is_fence, SV.bool Bool.false)]] }) (BR (eqS { cps := { toList := [kd (codeAt cs p)] } } (st [33])) (K (SV.ins 267 0) { loc := [], H := [SO.fields [(s_length, SV.int 1), (s_style, SV.str (st [])), (s_nests, SV.bool Bool.false), (s_is_fence, SV.bool Bool.true)]] }) (K SV.none { loc := [], H := [] }))))) := by kernel_rfl
theorem zlE {cs : List Int} (hg : GoodT cs) : ∀ svs K Er, spMk cs 59 svs K Er → callF (TT2 cs) (bdOf (TT2 cs) 60) (fcN 12 Er) 292 svs ⟨[], []⟩ (Fz K) := by
 intro svs K Er h
 replace h := zbI h
 obtain ⟨v, t, p0, rfl, h⟩ := h
 replace h := zaS h
 obtain ⟨p, rfl, h⟩ := h
 obtain ⟨h1, h2, h3, h4⟩ := h
 unfold IsView at h1
 unfold IsTab at h2
 subst h1 h2
 have good : 0 ≤ codeAt cs p → GoodC (codeAt cs p) := fun q => by
  rcases za7 hg p with z | z
  ·lia
  ·exact z
 have leaf : ∀ l, 0 ≤ codeAt cs p → BR (eqS { cps := { toList := [kd (codeAt cs p)] } } (st [60])) (Fz K (SV.ins 267 0) { loc := l, H := [SO.fields [(s_length, SV.int 1), (s_style, SV.str (st [])), (s_nests, SV.bool Bool.false), (s_is_fence, SV.bool Bool.false)]] }) (BR (eqS { cps := { toList := [kd (codeAt cs p)] } } (st [33])) (Fz K (SV.ins 267 0) { loc := l, H := [SO.fields [(s_length, SV.int 1), (s_style, SV.str (st [])), (s_nests, SV.bool Bool.false), (s_is_fence, SV.bool Bool.true)]] }) (Fz K SV.none { loc := l, H := [] })) := fun l q => by
  obtain ⟨k1, k2, k3⟩ := zgZ (good q)
  rw [zeC, zeC]
  refine zaI (fun z => zjF (h3 ?_)) fun z => zaI (fun z => ?_) fun z2 => za9 (h4 ?_)
  ·exact (zgZ (good q)).1.mp (Nat.eq_of_beq_eq_true z)
  ·exact absurd (Nat.eq_of_beq_eq_true z) k3
  ·exact fun w => Nat.ne_of_beq_eq_false z ((zgZ (good q)).1.mpr w)
 rw [TABLE_eq, zo4]
 exact ⟨rfl, zaT, fun q => ⟨rfl, zaT, fun _ => za9 (h4 (by lia)), fun _ => za9 (h4 (by lia))⟩, fun q => ⟨rfl, zaT, fun _ => leaf _ q, fun _ => leaf _ q⟩⟩
theorem ze4 {g : Gl} (H : Facts g) {cs : List Int} (h : GoodT cs) : SemSpec g (S0 g) false 292 12 (spMk cs 59) :=
 zbU (zbG H (by kernel_rfl) (fun x hx => by
  simp only [L2, List.mem_cons, List.not_mem_nil, or_false] at hx
  subst hx
  exact zcK H h)) (exc0 g _ rfl) (zlE h)
theorem zmM (cs : List Int) (p : Int) (tp tr : SV) (Er : Prop) (K : SV → SS → Prop) : callF (TT2 cs) (bdOf (TT2 cs) 60) (fcN 12 Er) 299 [VIEW cs, TAB tp tr, .int p] ⟨[], []⟩ K =
  (IsView cs (VIEW cs) ∧ IsTab (TAB tp tr) ∧ (codeAt cs p < 0 → IsView cs (VIEW cs) ∧ IsTab (TAB tp tr) ∧ (codeAt cs (p + 1) < 0 → K SV.none { loc := [], H := [] }) ∧ (0 ≤ codeAt cs (p + 1) → K SV.none { loc := [], H := [] })) ∧ (0 ≤ codeAt cs p → IsView cs (VIEW cs) ∧ IsTab (TAB tp tr) ∧ (codeAt cs (p + 1) < 0 → BR (eqS { cps := { toList := [kd (codeAt cs p)] } } (st [62])) (K (SV.ins 267 0) { loc := [], H := [SO.fields [(s_length, SV.int 1), (s_style, SV.str (st [])), (s_nests, SV.bool Bool.false), (s_is_fence, SV.bool Bool.false)]] }) (BR (eqS { cps := { toList := [kd (codeAt cs p)] } } (st [33])) (K (SV.ins 267 0) { loc := [], H := [SO.fields [(s_length, SV.int 1), (s_style, SV.str (st [])), (s_nests, SV.bool Bool.false), (s_is_fence, SV.bool Bool.true)]] }) (K SV.none { loc := [], H := [] }))) ∧ (0 ≤ codeAt cs (p + 1) → BR (eqS { cps := { toList := [kd (codeAt cs p)] } } (st [62])) (K (SV.ins 267 0) { loc := [], H := [SO.fields [(s_length, SV.int 1), (s_style, SV.str (st [])), (s_nests, SV.bool Bool.false), (s_is_fence, SV.bool Bool.false)]] }) (BR (eqS { cps := { toList := [kd (codeAt cs p)] } } (st [33])) (K (SV.ins 267 0) { loc := [], H := [SO.fields [(s_length, SV.int 1), (s_style, SV.str (st [])), (s_nests, SV.bool Bool.false), (s_is_fence, SV.bool Bool.true)]] }) (K SV.none { loc := [], H := [] }))))) := by kernel_rfl
theorem zi3 {cs : List Int} (hg : GoodT cs) : ∀ svs K Er, spMk cs 10 svs K Er → callF (TT2 cs) (bdOf (TT2 cs) 60) (fcN 12 Er) 299 svs ⟨[], []⟩ (Fz K) := by
 intro svs K Er h
 replace h := zbI h
 obtain ⟨v, t, p0, rfl, h⟩ := h
 replace h := zaS h
 obtain ⟨p, rfl, h⟩ := h
 obtain ⟨h1, h2, h3, h4⟩ := h
 unfold IsView at h1
 unfold IsTab at h2
 subst h1 h2
 have good : 0 ≤ codeAt cs p → GoodC (codeAt cs p) := fun q => by
  rcases za7 hg p with z | z
  ·lia
  ·exact z
 have leaf : ∀ l, 0 ≤ codeAt cs p → BR (eqS { cps := { toList := [kd (codeAt cs p)] } } (st [62])) (Fz K (SV.ins 267 0) { loc := l, H := [SO.fields [(s_length, SV.int 1), (s_style, SV.str (st [])), (s_nests, SV.bool Bool.false), (s_is_fence, SV.bool Bool.false)]] }) (BR (eqS { cps := { toList := [kd (codeAt cs p)] } } (st [33])) (Fz K (SV.ins 267 0) { loc := l, H := [SO.fields [(s_length, SV.int 1), (s_style, SV.str (st [])), (s_nests, SV.bool Bool.false), (s_is_fence, SV.bool Bool.true)]] }) (Fz K SV.none { loc := l, H := [] })) := fun l q => by
  obtain ⟨k1, k2, k3⟩ := zgZ (good q)
  rw [zeC, zeC]
  refine zaI (fun z => zjF (h3 ?_)) fun z => zaI (fun z => ?_) fun z2 => za9 (h4 ?_)
  ·exact (zgZ (good q)).2.1.mp (Nat.eq_of_beq_eq_true z)
  ·exact absurd (Nat.eq_of_beq_eq_true z) k3
  ·exact fun w => Nat.ne_of_beq_eq_false z ((zgZ (good q)).2.1.mpr w)
 rw [TABLE_eq, zmM]
 exact ⟨rfl, zaT, fun q => ⟨rfl, zaT, fun _ => za9 (h4 (by lia)), fun _ => za9 (h4 (by lia))⟩, fun q => ⟨rfl, zaT, fun _ => leaf _ q, fun _ => leaf _ q⟩⟩
theorem zfW {g : Gl} (H : Facts g) {cs : List Int} (h : GoodT cs) : SemSpec g (S0 g) false 299 12 (spMk cs 10) :=
 zbU (zbG H (by kernel_rfl) (fun x hx => by
  simp only [L2, List.mem_cons, List.not_mem_nil, or_false] at hx
  subst hx
  exact zcK H h)) (exc0 g _ rfl) (zi3 h)
noncomputable def oi : Option Int → SV
 | none => .none
 | some i => .int i
noncomputable def dropAt (cs : List Int) (p : Int) : List Int := cs.drop (p - 1).toNat
theorem p2 (p : Int) : p + 1 + 1 = p + 2 := Int.add_assoc p 1 1
theorem p3 (p : Int) : p + 1 + 1 + 1 = p + 3 := (congrArg (· + 1) (p2 p)).trans (Int.add_assoc p 2 1)
theorem p4 (p : Int) : p + 1 + 1 + 1 + 1 = p + 4 := (congrArg (· + 1) (p3 p)).trans (Int.add_assoc p 3 1)
theorem ac (p q : Int) : p + q - p = q := by rw [Int.add_comm, Int.add_sub_cancel]
theorem tn0 (p : Int) : (p + 1 - p).toNat = 1 := by rw [ac]; rfl
theorem tn1 {e p : Int} (h : p + 1 < e) : (e - p).toNat = (e - (p + 1)).toNat + 1 := by
 obtain ⟨n, rfl⟩ := Int.le.dest h
 rw [Int.add_assoc (p + 1), ac, Int.add_assoc p, ac]
 show (1 + (1 + (n : Int))).toNat = (1 + (n : Int)).toNat + 1
 rw [Int.add_comm 1 (1 + (n : Int)), Int.add_comm 1 (n : Int)]
 rfl
theorem zaM {cs : List Int} {p : Int} (h1 : 1 ≤ p) (h2 : p < 1 + (cs.length : Int)) : dropAt cs p = codeAt cs p :: dropAt cs (p + 1) := by
 unfold dropAt codeAt
 rw [if_pos h1]
 have e : (p + 1 - 1).toNat = (p - 1).toNat + 1 := by
  obtain ⟨n, rfl⟩ := Int.le.dest h1
  rw [Int.add_sub_cancel, ac, Int.add_comm]
  rfl
 have hl : (p - 1).toNat < cs.length := by omega
 rw [e, List.drop_eq_getElem_cons hl, List.getD_eq_getElem?_getD, List.getElem?_eq_getElem hl]
 rfl
theorem zaO {cs : List Int} {p : Int} (h2 : 1 + (cs.length : Int) ≤ p) : dropAt cs p = [] := by
 unfold dropAt
 exact List.drop_eq_nil_of_le (by lia)
theorem zaV {cs : List Int} (h : GoodT cs) {p : Int} (h1 : 1 ≤ p) (h2 : p < 1 + (cs.length : Int)) : GoodC (codeAt cs p) := by
 rcases za7 h p with z | z
 ·unfold codeAt at z
  rw [if_pos h1, List.getD_eq_getElem?_getD, List.getElem?_eq_getElem (by omega)] at z
  have := zbZ (h.2 _ (List.getElem_mem (show (p - 1).toNat < cs.length by omega)))
  have z' : cs[(p - 1).toNat] = -1 := z
  rw [z'] at this
  omega
 ·exact z
theorem zcN {cs : List Int} {p : Int} (h2 : 1 + (cs.length : Int) ≤ p ∨ p < 1) : codeAt cs p = -1 := by
 unfold codeAt
 split
 ·rw [List.getD_eq_getElem?_getD, List.getElem?_eq_none (by lia)]; rfl
 ·rfl
noncomputable def sE : Bool → List Int → Int → Option Int
 | _, [], _ => none
 | true, _ :: r, p => sE false r (p + 1)
 | false, c :: r, p => if c = 34 then some (p + 1) else if c = 92 then sE true r (p + 1) else sE false r (p + 1)
noncomputable def sAt (cs : List Int) (p : Int) : Option Int := sE false (dropAt cs p) p
theorem znD {cs : List Int} {p : Int} (h : 1 + (cs.length : Int) ≤ p) : sAt cs p = none := by unfold sAt; rw [zaO h]; rfl
theorem zr1 {cs : List Int} {p : Int} (h1 : 1 ≤ p) (h2 : p < 1 + (cs.length : Int)) (h : codeAt cs p = 34) : sAt cs p = some (p + 1) := by
 unfold sAt; rw [zaM h1 h2, sE, if_pos h]
theorem zr3 {cs : List Int} {p : Int} (h1 : 1 ≤ p) (h2 : p < 1 + (cs.length : Int)) (h : codeAt cs p = 92) : sAt cs p = sAt cs (p + 2) := by
 unfold sAt; rw [zaM h1 h2, sE, if_neg (by lia), if_pos h]
 by_cases q : p + 1 < 1 + (cs.length : Int)
 ·rw [zaM (by lia) q, sE, p2 p]
 ·rw [zaO (by lia), zaO (by lia)]; rfl
theorem zr2 {cs : List Int} {p : Int} (h1 : 1 ≤ p) (h2 : p < 1 + (cs.length : Int)) (h : codeAt cs p ≠ 34) (h' : codeAt cs p ≠ 92) : sAt cs p = sAt cs (p + 1) := by
 unfold sAt; rw [zaM h1 h2, sE, if_neg h, if_neg h']
noncomputable def skipS : List Int → Int → Int
 | [], p => p
 | c :: r, p => if c = 32 then skipS r (p + 1) else p
noncomputable def skAt (cs : List Int) (p : Int) : Int := skipS (dropAt cs p) p
noncomputable def lbAt (cs : List Int) (p : Int) : Int := if codeAt cs (skAt cs p) = 10 then skAt cs p + 1 else p
theorem zlR {cs : List Int} {p : Int} (h1 : 1 ≤ p) (h2 : p < 1 + (cs.length : Int)) (h : codeAt cs p = 32) : skAt cs p = skAt cs (p + 1) := by
 unfold skAt; rw [zaM h1 h2, skipS, if_pos h]
theorem zlS {cs : List Int} {p : Int} (h1 : 1 ≤ p) (h : codeAt cs p ≠ 32) : skAt cs p = p := by
 unfold skAt
 by_cases h2 : p < 1 + (cs.length : Int)
 ·rw [zaM h1 h2, skipS, if_neg h]
 ·rw [zaO (by lia)]; rfl
noncomputable def pairB (cs : List Int) (a b : Int) : Bool := (eqB (codeAt cs a) 40 && eqB (codeAt cs b) 41) || (eqB (codeAt cs a) 91 && eqB (codeAt cs b) 93)
inductive Md where
 | pl | pw (w : Int) | st (b : Int) (q : Bool) | co (b : Int)
inductive Kn where
 | pl | st (b : Int) (q : Bool) | co (b : Int)
noncomputable def Md.kn : Md → Kn
 | .pl => .pl
 | .pw _ => .pl
 | .st b q => .st b q
 | .co b => .co b
structure WS where
 kn : Kn
 ops : List Int
 below : Int
noncomputable def nx (m : Kn) (c p : Int) : Kn := match m with
 | .pl => if c = 34 then .st p false else if c = 59 then .co p else .pl
 | .st b q => if q then .st b false else if c = 92 then .st b true else if c = 34 then .pl else .st b false
 | .co b => if c = 10 then .pl else .co b
noncomputable def wstep (s : WS) (c p : Int) : WS := match s.kn with
 | .pl => if c = 40 ∨ c = 91 then ⟨.pl, s.ops ++ [p], s.below⟩ else if c = 41 ∨ c = 93 then (if s.ops = [] then ⟨.pl, [], s.below + 1⟩ else ⟨.pl, s.ops.dropLast, s.below⟩) else ⟨nx .pl c p, s.ops, s.below⟩
 | m => ⟨nx m c p, s.ops, s.below⟩
noncomputable def safe : Kn → List Int → Int → Prop
 | _, [], _ => True
 | m, c :: r, p => (m = .pl → c ≠ 92) ∧ safe (nx m c p) r (p + 1)
noncomputable def fu (cs : List Int) (s : WS) : List Int → Int → Option Int
 | [], _ => match s.kn with
  | .st b _ => some b
  | _ => s.ops.head?
 | c :: r, p => if s.below < (wstep s c p).below then some p else if (wstep s c p).ops.length < s.ops.length ∧ pairB cs (s.ops.getLastD 0) p = false then some p else fu cs (wstep s c p) r (p + 1)
noncomputable def ds (cs : List Int) (s : WS) : List Int → Int → List Int
 | [], _ => []
 | c :: r, p => (if s.ops.length < (wstep s c p).ops.length ∧ (p = 1 ∨ codeAt cs (p - 1) = 10) then [p] else []) ++ ds cs (wstep s c p) r (p + 1)
noncomputable def ws0 : WS := ⟨.pl, [], 0⟩
theorem zjJ (s : WS) (c p : Int) : (wstep s c p).kn = nx s.kn c p := by
 obtain ⟨k, o, b⟩ := s
 cases k with
 | pl =>
  unfold wstep nx
  dsimp only
  by_cases h : c = 40 ∨ c = 91
  ·rw [if_pos h, if_neg (by lia), if_neg (by lia)]
  ·rw [if_neg h]
   by_cases h2 : c = 41 ∨ c = 93
   ·have e : (if c = 34 then Kn.st p false else if c = 59 then Kn.co p else Kn.pl) = Kn.pl := by rw [if_neg (by lia), if_neg (by lia)]
    rw [if_pos h2, e]
    split <;> rfl
   ·rw [if_neg h2]
 | st b q => rfl
 | co b => rfl
theorem zg3 {cs : List Int} {s s' : WS} {c p : Int} {r : List Int} (e : s' = wstep s c p) (h1 : ¬ s.below < s'.below) (h2 : ¬ (s'.ops.length < s.ops.length ∧ pairB cs (s.ops.getLastD 0) p = false)) : fu cs s (c :: r) p = fu cs s' r (p + 1) := by
 subst e
 rw [fu, if_neg h1, if_neg h2]
theorem ziH {cs : List Int} {s s' : WS} {c p : Int} {r : List Int} (e : s' = wstep s c p) (h1 : s.below < s'.below) : fu cs s (c :: r) p = some p := by
 subst e
 rw [fu, if_pos h1]
theorem ziG {cs : List Int} {s s' : WS} {c p : Int} {r : List Int} (e : s' = wstep s c p) (h1 : ¬ s.below < s'.below) (h2 : s'.ops.length < s.ops.length ∧ pairB cs (s.ops.getLastD 0) p = false) : fu cs s (c :: r) p = some p := by
 subst e
 rw [fu, if_neg h1, if_pos h2]
theorem zhD (s : WS) (c p : Int) : (wstep s c p).ops.length ≤ s.ops.length + 1 := by
 obtain ⟨k, o, b⟩ := s
 cases k with
 | pl =>
  unfold wstep
  dsimp only
  split
  ·simp
  ·split
   ·split
    ·simp
    ·simp; lia
   ·simp
 | st b q => exact Nat.le_succ _
 | co b => exact Nat.le_succ _
theorem zn6 {cs : List Int} {s s' : WS} {c p : Int} {r : List Int} (e : s' = wstep s c p) (h : ¬ (s.ops.length < s'.ops.length ∧ (p = 1 ∨ codeAt cs (p - 1) = 10))) : ds cs s (c :: r) p = ds cs s' r (p + 1) := by
 subst e
 rw [ds, if_neg h]; rfl
theorem zl5 {cs : List Int} {s s' : WS} {c p : Int} {r : List Int} (e : s' = wstep s c p) (h : s.ops.length < s'.ops.length ∧ (p = 1 ∨ codeAt cs (p - 1) = 10)) : ds cs s (c :: r) p = p :: ds cs s' r (p + 1) := by
 subst e
 rw [ds, if_pos h]; rfl
noncomputable def cE : List Int → Int → Option Int
 | [], _ => none
 | c :: r, p => if c = 10 then some (p + 1) else cE r (p + 1)
noncomputable def cAt (cs : List Int) (p : Int) : Option Int := cE (dropAt cs p) p
theorem zoL {cs : List Int} {p : Int} (h : 1 + (cs.length : Int) ≤ p) : cAt cs p = none := by unfold cAt; rw [zaO h]; rfl
theorem zsZ {cs : List Int} {p : Int} (h1 : 1 ≤ p) (h2 : p < 1 + (cs.length : Int)) (h : codeAt cs p = 10) : cAt cs p = some (p + 1) := by
 unfold cAt; rw [zaM h1 h2, cE, if_pos h]
theorem zsY {cs : List Int} {p : Int} (h1 : 1 ≤ p) (h2 : p < 1 + (cs.length : Int)) (h : codeAt cs p ≠ 10) : cAt cs p = cAt cs (p + 1) := by
 unfold cAt; rw [zaM h1 h2, cE, if_neg h]
noncomputable def sx : Kn → Int → List Int → Int → Option Int
 | _, _, [], _ => none
 | .pl, d, c :: r, p => if c = 40 ∨ c = 91 then sx .pl (d + 1) r (p + 1) else if c = 41 ∨ c = 93 then (if d = 1 then some (p + 1) else sx .pl (d - 1) r (p + 1)) else sx (nx .pl c p) d r (p + 1)
 | .st b q, d, c :: r, p => sx (nx (.st b q) c p) d r (p + 1)
 | .co b, d, c :: r, p => sx (nx (.co b) c p) d r (p + 1)
noncomputable def SE (cs : List Int) (p : Int) : Option Int := sx .pl 1 (dropAt cs (p + 1)) (p + 1)
theorem ze5 : ∀ {q : Bool} {l : List Int} {p e : Int}, sE q l p = some e → p < e
 | _, [], _, _, h => by simp [sE] at h
 | true, c :: r, p, e, h => by
  rw [sE] at h
  have := ze5 h
  lia
 | false, c :: r, p, e, h => by
  rw [sE] at h
  split at h
  ·cases h; lia
  ·split at h
   ·have := ze5 h; lia
   ·have := ze5 h; lia
theorem zi8 : ∀ {l : List Int} {p e : Int}, cE l p = some e → p < e
 | [], _, _, h => by simp [cE] at h
 | c :: r, p, e, h => by
  rw [cE] at h
  split at h
  ·cases h; lia
  ·have := zi8 h; lia
theorem zo9 {b d : Int} : ∀ (n : Nat) (l : List Int) (q : Bool) (p : Int), l.length ≤ n → sx (.st b q) d l p = (sE q l p).bind fun e => sx .pl d (l.drop (e - p).toNat) e
 | _, [], q, p, _ => by cases q <;> rfl
 | 0, c :: r, q, p, h => by simp at h
 | n + 1, c :: r, q, p, h => by
  have hr : r.length ≤ n := by simpa using h
  have key : ∀ q', sx (.st b q') d r (p + 1) = (sE q' r (p + 1)).bind fun e => sx .pl d ((c :: r).drop (e - p).toNat) e := fun q' => by
   rw [zo9 n r q' (p + 1) hr]
   cases w : sE q' r (p + 1) with
   | none => rfl
   | some e =>
    have : p + 1 < e := ze5 w
    show sx .pl d (r.drop (e - (p + 1)).toNat) e = sx .pl d ((c :: r).drop (e - p).toNat) e
    rw [tn1 (e := e) (p := p) (by assumption)]; rfl
  cases q with
  | true => rw [sx, sE]; exact key false
  | false =>
   rw [sx, sE]
   by_cases h1 : c = 34
   ·subst h1
    have e : nx (.st b false) 34 p = .pl := rfl
    rw [e, if_pos rfl]
    show _ = sx .pl d ((34 :: r).drop (p + 1 - p).toNat) (p + 1)
    rw [tn0]; rfl
   ·rw [if_neg h1]
    by_cases h2 : c = 92
    ·subst h2
     rw [if_pos rfl]; exact key true
    ·rw [if_neg h2]
     have e : nx (.st b false) c p = .st b false := by
      unfold nx
      dsimp only
      rw [if_neg (by simp), if_neg h2, if_neg h1]
     rw [e]; exact key false
theorem zpA {b d : Int} : ∀ (l : List Int) (p : Int), sx (.co b) d l p = (cE l p).bind fun e => sx .pl d (l.drop (e - p).toNat) e
 | [], p => rfl
 | c :: r, p => by
  rw [sx, cE]
  by_cases h : c = 10
  ·subst h
   have e : nx (.co b) 10 p = .pl := rfl
   rw [e, if_pos rfl]
   show _ = sx .pl d ((10 :: r).drop (p + 1 - p).toNat) (p + 1)
   rw [tn0]; rfl
  ·have e : nx (.co b) c p = .co b := by
    unfold nx
    dsimp only
    rw [if_neg h]
   rw [e, if_neg h, zpA r (p + 1)]
   cases w : cE r (p + 1) with
   | none => rfl
   | some e =>
    have : p + 1 < e := zi8 w
    show sx .pl d (r.drop (e - (p + 1)).toNat) e = sx .pl d ((c :: r).drop (e - p).toNat) e
    rw [tn1 (e := e) (p := p) (by assumption)]; rfl
theorem zbT {cs : List Int} {p e : Int} (h1 : 1 ≤ p) (h : p ≤ e) : (dropAt cs p).drop (e - p).toNat = dropAt cs e := by
 obtain ⟨n, rfl⟩ := Int.le.dest h1
 obtain ⟨m, rfl⟩ := Int.le.dest h
 unfold dropAt
 rw [List.drop_drop, ac, ac, Int.add_assoc, ac]
 rfl
theorem zo8 {cs : List Int} {b d p : Int} (h1 : 1 ≤ p) : sx (.st b false) d (dropAt cs p) p = (sAt cs p).bind fun e => sx .pl d (dropAt cs e) e := by
 rw [zo9 _ _ _ _ (Nat.le_refl _)]
 unfold sAt
 cases w : sE false (dropAt cs p) p with
 | none => rfl
 | some e =>
  have := ze5 w
  show sx .pl d ((dropAt cs p).drop (e - p).toNat) e = _
  rw [zbT h1 (by lia)]; rfl
theorem zlQ {cs : List Int} {b d p : Int} (h1 : 1 ≤ p) : sx (.co b) d (dropAt cs p) p = (cAt cs p).bind fun e => sx .pl d (dropAt cs e) e := by
 rw [zpA]
 unfold cAt
 cases w : cE (dropAt cs p) p with
 | none => rfl
 | some e =>
  have := zi8 w
  show sx .pl d ((dropAt cs p).drop (e - p).toNat) e = _
  rw [zbT h1 (by lia)]; rfl
set_option tactic.hygienic true in
theorem zhS {b : Int} : ∀ (l : List Int) (q : Bool) (p e : Int), safe (.st b q) l p → sE q l p = some e → safe .pl (l.drop (e - p).toNat) e
 | [], q, p, e, _, h => by cases q <;> simp [sE] at h
 | c :: r, q, p, e, hs, h => by
  have step : ∀ q', nx (.st b q) c p = .st b q' → sE q' r (p + 1) = some e → safe .pl ((c :: r).drop (e - p).toNat) e := fun q' hn hE => by
   have hs' := hs.2
   rw [hn] at hs'
   have := zhS r q' (p + 1) e hs' hE
   have g := ze5 hE
   rw [tn1 (e := e) (p := p) (by assumption)]
   exact this
  cases q with
  | true => rw [sE] at h; exact step false rfl h
  | false =>
   rw [sE] at h
   split at h
   ·rename_i h1
    subst h1
    cases h
    rw [tn0]
    exact hs.2
   ·rename_i h1
    split at h
    ·rename_i h2
     subst h2
     exact step true rfl h
    ·rename_i h2
     refine step false ?_ h
     unfold nx
     dsimp only
     rw [if_neg (by simp), if_neg h2, if_neg h1]
set_option tactic.hygienic true in
theorem zhU {b : Int} : ∀ (l : List Int) (p e : Int), safe (.co b) l p → cE l p = some e → safe .pl (l.drop (e - p).toNat) e
 | [], p, e, _, h => by simp [cE] at h
 | c :: r, p, e, hs, h => by
  rw [cE] at h
  split at h
  ·rename_i h1
   subst h1
   cases h
   rw [tn0]
   exact hs.2
  ·rename_i h1
   have hn : nx (.co b) c p = .co b := by
    unfold nx
    dsimp only
    rw [if_neg h1]
   have hs' := hs.2
   rw [hn] at hs'
   have g := zi8 h
   rw [tn1 (e := e) (p := p) (by assumption)]
   exact zhU r (p + 1) e hs' h
noncomputable def de (cs : List Int) (at_ : Int) : List Int → Option (Option Int)
 | [] => some none
 | s :: r => match SE cs s with
  | none => none
  | some e => if at_ < lbAt cs e then some (some (lbAt cs e)) else de cs at_ r
theorem zfK {cs : List Int} {at_ : Int} : ∀ (l r : List Int), (∀ s ∈ l, ∃ e, SE cs s = some e ∧ lbAt cs e ≤ at_) → de cs at_ (l ++ r) = de cs at_ r
 | [], r, _ => rfl
 | s :: l, r, h => by
  obtain ⟨e, h1, h2⟩ := h s List.mem_cons_self
  show (match SE cs s with | none => none | some e => if at_ < lbAt cs e then some (some (lbAt cs e)) else de cs at_ (l ++ r)) = _
  rw [h1]
  dsimp only
  rw [if_neg (by lia)]
  exact zfK l r fun s hs => h s (List.mem_cons_of_mem _ hs)
noncomputable def lpOf (k : Nat) (L : Loop) : Nat → List (Str × SV) → Option Loop := fun j _ => match Nat.beq j k with
 | true => some L
 | false => none
noncomputable def spStr(cs : List Int) : Spec := fun vs K _ => A3 vs fun v t p0 => OI p0 fun p => IsView cs v ∧ IsTab t ∧ (1 ≤ p ∧ codeAt cs p = 34) ∧ K (oi (sAt cs (p + 1)))
noncomputable def L3 (cs : List Int) : SpecL := [(674, (2, spCode cs)), (667, (2, spEnd cs)), (278, (7, spSyn cs))]
noncomputable abbrev TT3 (cs : List Int) : Tab := tab [] (lkN (L3 cs)) false
noncomputable def LStr (cs : List Int) (tp tr : SV) (p : Int) : Loop where
 σ := Int
 st := fun a => ⟨[(s_view, VIEW cs), (s_table, TAB tp tr), (s_begin, Syn (codeAt cs p)), (s_code, .int (codeAt cs p)), (s_at, .int a)], []⟩
 P := fun _ a => 1 ≤ a ∧ sAt cs a = sAt cs (p + 1)
 ms := fun a => (1 + (cs.length : Int) - a).toNat
noncomputable def strN (cs : List Int) (tp tr : SV) (p : Int) (c0 c x y : Int) : Prop := ∃ x', Fits (LStr cs tp tr p) x' ⟨[(s_view, VIEW cs), (s_table, TAB tp tr), (s_begin, Syn c0), (s_code, SV.int c0), (s_at, SV.int y), (s_syntax, Syn c)], []⟩ ∧ (LStr cs tp tr p).P [] x' ∧ (LStr cs tp tr p).ms x' < (LStr cs tp tr p).ms x
noncomputable def strC (cs : List Int) (tp tr : SV) (p : Int) (K : SV → SS → Prop) (c0 x c : Int) : Prop :=
 BR (eqS ⟨⟨[kd c]⟩⟩ ⟨⟨[kd c0]⟩⟩) (BR (eqS ⟨⟨[kd c0]⟩⟩ (st [124])) (K (SV.int (x + 1)) { loc := [], H := [] }) (IsView cs (VIEW cs) ∧ BR (eqB (c) (c0)) (K (SV.int (x + 1)) { loc := [], H := [] }) (BR (eqS ⟨⟨[kd c]⟩⟩ (st [92])) (strN cs tp tr p c0 c x (x + 2)) (BR (eqS ⟨⟨[kd c]⟩⟩ (st [47])) (strN cs tp tr p c0 c x (x + 2)) (strN cs tp tr p c0 c x (x + 1)))))) (BR (eqS ⟨⟨[kd c]⟩⟩ (st [92])) (strN cs tp tr p c0 c x (x + 2)) (BR (eqS ⟨⟨[kd c]⟩⟩ (st [47])) (strN cs tp tr p c0 c x (x + 2)) (strN cs tp tr p c0 c x (x + 1))))
noncomputable def strT (cs : List Int) (tp tr : SV) (p : Int) (Er : Prop) (K : SV → SS → Prop) (x : Int) : Prop :=
 IsView cs (VIEW cs) ∧ BR (ltB x (1 + ↑cs.length)) (IsView cs (VIEW cs) ∧ IsTab (TAB tp tr) ∧ (codeAt cs x < 0 → False) ∧ (0 ≤ codeAt cs x → strC cs tp tr p K (codeAt cs p) x (codeAt cs x))) (K SV.none { loc := [], H := [] })
section
variable {cs : List Int} {tp tr : SV} {p : Int} {K : SV → SS → Prop} {x : Int}
theorem zm3 : strC cs tp tr p K 34 x 40 = strN cs tp tr p 34 40 x (x + 1) := by kernel_rfl
theorem zm2 : strC cs tp tr p K 34 x 41 = strN cs tp tr p 34 41 x (x + 1) := by kernel_rfl
theorem zm0 : strC cs tp tr p K 34 x 91 = strN cs tp tr p 34 91 x (x + 1) := by kernel_rfl
theorem zmY : strC cs tp tr p K 34 x 93 = strN cs tp tr p 34 93 x (x + 1) := by kernel_rfl
theorem zmX : strC cs tp tr p K 34 x 97 = strN cs tp tr p 34 97 x (x + 1) := by kernel_rfl
theorem zm5 : strC cs tp tr p K 34 x 32 = strN cs tp tr p 34 32 x (x + 1) := by kernel_rfl
theorem zm6 : strC cs tp tr p K 34 x 10 = strN cs tp tr p 34 10 x (x + 1) := by kernel_rfl
theorem zm1 : strC cs tp tr p K 34 x 59 = strN cs tp tr p 34 59 x (x + 1) := by kernel_rfl
theorem zmZ : strC cs tp tr p K 34 x 92 = strN cs tp tr p 34 92 x (x + 2) := by kernel_rfl
theorem zm4 : strC cs tp tr p K 34 x 34 = (IsView cs (VIEW cs) ∧ K (.int (x + 1)) ⟨[], []⟩) := by kernel_rfl
end
theorem zoU (cs : List Int) (p : Int) (tp tr : SV) (Er : Prop) (K : SV → SS → Prop) : callF (TT3 cs) (bdOf (TT3 cs) 60) ⟨sc0, 12, lpOf 418004 (LStr cs tp tr p), Er, false⟩ 530 [VIEW cs, TAB tp tr, .int p] ⟨[], []⟩ K =
  (IsView cs (VIEW cs) ∧ IsTab (TAB tp tr) ∧ (codeAt cs p < 0 → IsView cs (VIEW cs) ∧ (∃ x0, Fits (LStr cs tp tr p) x0 { loc := [(s_view, VIEW cs), (s_table, TAB tp tr), (s_place, SV.int p), (s_begin, SV.none), (s_code, SV.int (codeAt cs p)), (s_at, SV.int (p + 1))], H := [] } ∧ (LStr cs tp tr p).P [] x0) ∧ ∀ (x : Int), (LStr cs tp tr p).P [] x → strT cs tp tr p Er K x) ∧ (0 ≤ codeAt cs p → IsView cs (VIEW cs) ∧ (∃ x0, Fits (LStr cs tp tr p) x0 { loc := [(s_view, VIEW cs), (s_table, TAB tp tr), (s_place, SV.int p), (s_begin, Syn (codeAt cs p)), (s_code, SV.int (codeAt cs p)), (s_at, SV.int (p + 1))], H := [] } ∧ (LStr cs tp tr p).P [] x0) ∧ ∀ (x : Int), (LStr cs tp tr p).P [] x → strT cs tp tr p Er K x)) := by kernel_rfl
theorem zaZ {c : Int} (h : GoodC c) : c = 40 ∨ c = 41 ∨ c = 91 ∨ c = 93 ∨ c = 97 ∨ c = 32 ∨ c = 10 ∨ c = 34 ∨ c = 59 ∨ c = 92 := by
 unfold GoodC at h
 simpa only [List.mem_cons, List.not_mem_nil, or_false] using h
theorem zpR {g : Gl} (H : Facts g) {cs : List Int} (h : GoodT cs) : ∀ x ∈ L3 cs, SemSpec g (S0 g) false x.1 x.2.1 x.2.2 := by
 intro x hx
 simp only [L3, List.mem_cons, List.not_mem_nil, or_false] at hx
 rcases hx with rfl | rfl | rfl
 ·exact zbO H h.1
 ·exact zc6 H h.1
 ·exact zcK H h
theorem zlC {cs : List Int} (hg : GoodT cs) (p : Int) (Er : Prop) (K : SV → Prop) (h1 : 1 ≤ p) (h34 : codeAt cs p = 34) (hK : K (oi (sAt cs (p + 1)))) :
  callF (TT3 cs) (bdOf (TT3 cs) 60) ⟨sc0, 12, lpOf 418004 (LStr cs tabP tabR p), Er, false⟩ 530 [VIEW cs, TAB tabP tabR, .int p] ⟨[], []⟩ (Fz K) := by
 rw [zoU]
 refine ⟨rfl, zaT, fun q => absurd q (by lia), fun _ => ⟨rfl, ⟨p + 1, (by unfold Fits; dsimp only [LStr, Fits.locIn]; exact ⟨⟨rfl, rfl, rfl, rfl, rfl, trivial⟩, rfl⟩), by show 1 ≤ p + 1; lia, rfl⟩, fun x hx => ⟨rfl, zaI (fun hlt => ⟨rfl, zaT, fun q => ?_, fun _ => ?_⟩) fun hge => ?_⟩⟩⟩
 ·have := zaN hlt
  have := zbZ (zaV hg hx.1 this)
  lia
 ·obtain ⟨hx1, hx2⟩ := hx
  have hlt := zaN hlt
  have fin : codeAt cs x = 34 → K (.int (x + 1)) := fun q => by
   rw [← hx2, zr1 hx1 hlt q] at hK; exact hK
  have step1 : codeAt cs x ≠ 34 → codeAt cs x ≠ 92 → (1 ≤ x + 1 ∧ sAt cs (x + 1) = sAt cs (p + 1)) ∧ (1 + (cs.length : Int) - (x + 1)).toNat < (1 + (cs.length : Int) - x).toNat := fun q q' => ⟨⟨by lia, by rw [← zr2 hx1 hlt q q']; exact hx2⟩, by lia⟩
  have step2 : codeAt cs x = 92 → (1 ≤ x + 2 ∧ sAt cs (x + 2) = sAt cs (p + 1)) ∧ (1 + (cs.length : Int) - (x + 2)).toNat < (1 + (cs.length : Int) - x).toNat := fun q => ⟨⟨by lia, by rw [← zr3 hx1 hlt q]; exact hx2⟩, by lia⟩
  have nx : ∀ {c y : Int}, ((1 ≤ y ∧ sAt cs y = sAt cs (p + 1)) ∧ (1 + (cs.length : Int) - y).toNat < (1 + (cs.length : Int) - x).toNat) → strN cs tabP tabR p 34 c x y := fun {c y} h => ⟨y, by unfold Fits; dsimp only [LStr, Fits.locIn]; rw [h34]; exact ⟨⟨rfl, rfl, rfl, rfl, rfl, trivial⟩, rfl⟩, h⟩
  rw [h34]
  rcases zaZ (zaV hg hx1 hlt) with q | q | q | q | q | q | q | q | q | q <;> rw [q] at fin step1 step2 ⊢
  ·rw [zm3]; exact nx (step1 (by decide) (by decide))
  ·rw [zm2]; exact nx (step1 (by decide) (by decide))
  ·rw [zm0]; exact nx (step1 (by decide) (by decide))
  ·rw [zmY]; exact nx (step1 (by decide) (by decide))
  ·rw [zmX]; exact nx (step1 (by decide) (by decide))
  ·rw [zm5]; exact nx (step1 (by decide) (by decide))
  ·rw [zm6]; exact nx (step1 (by decide) (by decide))
  ·rw [zm4]; exact ⟨rfl, za1 (fin rfl)⟩
  ·rw [zm1]; exact nx (step1 (by decide) (by decide))
  ·rw [zmZ]; exact nx (step2 rfl)
 ·refine za9 ?_
  have := zaQ hge
  rw [← hx.2, znD (by lia)] at hK
  exact hK
theorem zm7 {g : Gl} (H : Facts g) {cs : List Int} (h : GoodT cs) : SemSpec g (S0 g) false 530 12 (spStr cs) :=
 zd6 (zbG H (by kernel_rfl) (zpR H h)) (exc0 g _ rfl) fun svs K Er hs => by
  replace hs := zbI hs
  obtain ⟨v, t, p0, rfl, hs⟩ := hs
  replace hs := zaS hs
  obtain ⟨p, rfl, hs⟩ := hs
  obtain ⟨h1, h2, ⟨h3, h4⟩, h5⟩ := hs
  unfold IsView at h1
  unfold IsTab at h2
  subst h1 h2
  rw [TABLE_eq]
  exact ⟨_, zlC h p Er K h3 h4 h5⟩
noncomputable def spLb(cs : List Int) : Spec := fun vs K _ => A2 vs fun v p0 => OI p0 fun p => IsView cs v ∧ 1 ≤ p ∧ K (.int (lbAt cs p))
noncomputable def LLb (cs : List Int) (p : Int) : Loop where
 σ := Int
 st := fun a => ⟨[(s_view, VIEW cs), (s_place, .int p), (s_at, .int a)], []⟩
 P := fun _ a => 1 ≤ a ∧ skAt cs a = skAt cs p
 ms := fun a => (1 + (cs.length : Int) - a).toNat
noncomputable def L4 (cs : List Int) : SpecL := [(674, (2, spCode cs))]
noncomputable abbrev TT4 (cs : List Int) : Tab := tab [] (lkN (L4 cs)) false
noncomputable def spSyn4(cs : List Int) : Spec := fun vs K _ => A3 vs fun v t p0 => OI p0 fun p => IsView cs v ∧ IsTab t ∧ (codeAt cs p = 40 ∨ codeAt cs p = 41 ∨ codeAt cs p = 91 ∨ codeAt cs p = 93) ∧ (codeAt cs p = 40 → K (mkSyn 40 (.int 41))) ∧ (codeAt cs p = 41 → K (mkSyn 41 (.int 40))) ∧ (codeAt cs p = 91 → K (mkSyn 40 (.int 93))) ∧ (codeAt cs p = 93 → K (mkSyn 41 (.int 91)))
noncomputable def spPair(cs : List Int) : Spec := fun vs K _ => A4 vs fun v t a0 b0 => OI a0 fun a => OI b0 fun b => IsView cs v ∧ IsTab t ∧ (codeAt cs a = 40 ∨ codeAt cs a = 91) ∧ (codeAt cs b = 41 ∨ codeAt cs b = 93) ∧ K (.bool (pairB cs a b))
noncomputable def L5 (cs : List Int) : SpecL := [(674, (2, spCode cs)), (278, (7, spSyn4 cs))]
noncomputable abbrev TT5 (cs : List Int) : Tab := tab [] (lkN (L5 cs)) false
theorem zrN (cs : List Int) (p : Int) (Er : Prop) (K : SV → SS → Prop) : callF (TT4 cs) (bdOf (TT4 cs) 60) ⟨sc0, 5, lpOf 582004 (LLb cs p), Er, false⟩ 633 [VIEW cs, .int p] ⟨[], []⟩ K =
  ((∃ x0, Fits (LLb cs p) x0 { loc := [(s_view, VIEW cs), (s_place, SV.int p), (s_at, SV.int p)], H := [] } ∧ (LLb cs p).P [] x0) ∧ ∀ (x : Int), (LLb cs p).P [] x → IsView cs (VIEW cs) ∧ BR (eqB 9 (codeAt cs x) || (eqB 32 (codeAt cs x) || Bool.false)) (∃ x', Fits (LLb cs p) x' { loc := [(s_view, VIEW cs), (s_place, SV.int p), (s_at, SV.int (x + 1))], H := [] } ∧ (LLb cs p).P [] x' ∧ (LLb cs p).ms x' < (LLb cs p).ms x) (IsView cs (VIEW cs) ∧ BR (eqB (codeAt cs x) 10) (K (SV.int (x + 1)) { loc := [], H := [] }) (K (SV.int p) { loc := [], H := [] }))) := by kernel_rfl
theorem zoB {cs : List Int} (hg : GoodT cs) (p : Int) (Er : Prop) (K : SV → Prop) (h1 : 1 ≤ p) (hK : K (.int (lbAt cs p))) :
  callF (TT4 cs) (bdOf (TT4 cs) 60) ⟨sc0, 5, lpOf 582004 (LLb cs p), Er, false⟩ 633 [VIEW cs, .int p] ⟨[], []⟩ (Fz K) := by
 rw [zrN]
 refine ⟨⟨p, (by unfold Fits; dsimp only [LLb, Fits.locIn]; exact ⟨⟨rfl, rfl, rfl, trivial⟩, rfl⟩), h1, rfl⟩, fun x hx => ⟨rfl, zaI (fun q => ?_) fun q => ⟨rfl, zaI (fun q2 => za1 ?_) fun q2 => za1 ?_⟩⟩⟩
 ·obtain ⟨hx1, hx2⟩ := hx
  have h32 : codeAt cs x = 32 := by
   simp only [Bool.or_false, Bool.or_eq_true] at q
   rcases q with q | q
   ·have := of_decide_eq_true q
    rcases za7 hg x with z | z
    ·lia
    ·rcases zaZ z with z | z | z | z | z | z | z | z | z | z <;> lia
   ·exact (of_decide_eq_true q).symm
  have hlt : x < 1 + (cs.length : Int) := by
   by_cases w : x < 1 + (cs.length : Int)
   ·exact w
   ·rw [zcN (by lia)] at h32; lia
  exact ⟨x + 1, (by unfold Fits; dsimp only [LLb, Fits.locIn]; exact ⟨⟨rfl, rfl, rfl, trivial⟩, rfl⟩), ⟨by show 1 ≤ x + 1; lia, (zlR hx1 hlt h32).symm.trans hx2⟩, by show (1 + (cs.length : Int) - (x + 1)).toNat < (1 + (cs.length : Int) - x).toNat; lia⟩
 all_goals
  obtain ⟨hx1, hx2⟩ := hx
  have h32 : codeAt cs x ≠ 32 := fun z => by
   rw [z] at q; cases q
  have e : skAt cs p = x := hx2.symm.trans (zlS hx1 h32)
  unfold lbAt at hK
  rw [e] at hK
 ·rw [if_pos (of_decide_eq_true q2)] at hK; exact hK
 ·rw [if_neg (of_decide_eq_false q2)] at hK; exact hK
theorem zpQ {g : Gl} (H : Facts g) {cs : List Int} (h : GoodT cs) : ∀ x ∈ L4 cs, SemSpec g (S0 g) false x.1 x.2.1 x.2.2 := by
 intro x hx
 simp only [L4, List.mem_cons, List.not_mem_nil, or_false] at hx
 subst hx
 exact zbO H h.1
theorem zpH {g : Gl} (H : Facts g) {cs : List Int} (h : GoodT cs) : SemSpec g (S0 g) false 633 5 (spLb cs) :=
 zd6 (zbG H (by kernel_rfl) (zpQ H h)) (exc0 g _ rfl) fun svs K Er hs => by
  replace hs := zcA hs
  obtain ⟨v, p0, rfl, hs⟩ := hs
  replace hs := zaS hs
  obtain ⟨p, rfl, hs⟩ := hs
  obtain ⟨h1, h3, h5⟩ := hs
  unfold IsView at h1
  subst h1
  exact ⟨_, zoB h p Er K h3 h5⟩
theorem zmG (cs : List Int) (a b : Int) (tp tr : SV) (Er : Prop) (K : SV → SS → Prop) : callF (TT5 cs) (bdOf (TT5 cs) 60) (fcN 12 Er) 607 [VIEW cs, TAB tp tr, .int a, .int b] ⟨[], []⟩ K =
  (IsView cs (VIEW cs) ∧ IsTab (TAB tp tr) ∧ (codeAt cs a = 40 ∨ codeAt cs a = 41 ∨ codeAt cs a = 91 ∨ codeAt cs a = 93) ∧ (codeAt cs a = 40 → IsView cs (VIEW cs) ∧ IsTab (TAB tp tr) ∧ (codeAt cs b = 40 ∨ codeAt cs b = 41 ∨ codeAt cs b = 91 ∨ codeAt cs b = 93) ∧ (codeAt cs b = 40 → IsView cs (VIEW cs) ∧ BR (eqB 41 (codeAt cs b)) (IsView cs (VIEW cs) ∧ K (SV.bool (eqB 41 (codeAt cs a))) { loc := [], H := [] }) (K (SV.bool Bool.false) { loc := [], H := [] })) ∧ (codeAt cs b = 41 → IsView cs (VIEW cs) ∧ BR (eqB 41 (codeAt cs b)) (IsView cs (VIEW cs) ∧ K (SV.bool (eqB 40 (codeAt cs a))) { loc := [], H := [] }) (K (SV.bool Bool.false) { loc := [], H := [] })) ∧ (codeAt cs b = 91 → IsView cs (VIEW cs) ∧ BR (eqB 41 (codeAt cs b)) (IsView cs (VIEW cs) ∧ K (SV.bool (eqB 93 (codeAt cs a))) { loc := [], H := [] }) (K (SV.bool Bool.false) { loc := [], H := [] })) ∧ (codeAt cs b = 93 → IsView cs (VIEW cs) ∧ BR (eqB 41 (codeAt cs b)) (IsView cs (VIEW cs) ∧ K (SV.bool (eqB 91 (codeAt cs a))) { loc := [], H := [] }) (K (SV.bool Bool.false) { loc := [], H := [] }))) ∧ (codeAt cs a = 41 → IsView cs (VIEW cs) ∧ IsTab (TAB tp tr) ∧ (codeAt cs b = 40 ∨ codeAt cs b = 41 ∨ codeAt cs b = 91 ∨ codeAt cs b = 93) ∧ (codeAt cs b = 40 → IsView cs (VIEW cs) ∧ BR (eqB 40 (codeAt cs b)) (IsView cs (VIEW cs) ∧ K (SV.bool (eqB 41 (codeAt cs a))) { loc := [], H := [] }) (K (SV.bool Bool.false) { loc := [], H := [] })) ∧ (codeAt cs b = 41 → IsView cs (VIEW cs) ∧ BR (eqB 40 (codeAt cs b)) (IsView cs (VIEW cs) ∧ K (SV.bool (eqB 40 (codeAt cs a))) { loc := [], H := [] }) (K (SV.bool Bool.false) { loc := [], H := [] })) ∧ (codeAt cs b = 91 → IsView cs (VIEW cs) ∧ BR (eqB 40 (codeAt cs b)) (IsView cs (VIEW cs) ∧ K (SV.bool (eqB 93 (codeAt cs a))) { loc := [], H := [] }) (K (SV.bool Bool.false) { loc := [], H := [] })) ∧ (codeAt cs b = 93 → IsView cs (VIEW cs) ∧ BR (eqB 40 (codeAt cs b)) (IsView cs (VIEW cs) ∧ K (SV.bool (eqB 91 (codeAt cs a))) { loc := [], H := [] }) (K (SV.bool Bool.false) { loc := [], H := [] }))) ∧ (codeAt cs a = 91 → IsView cs (VIEW cs) ∧ IsTab (TAB tp tr) ∧ (codeAt cs b = 40 ∨ codeAt cs b = 41 ∨ codeAt cs b = 91 ∨ codeAt cs b = 93) ∧ (codeAt cs b = 40 → IsView cs (VIEW cs) ∧ BR (eqB 93 (codeAt cs b)) (IsView cs (VIEW cs) ∧ K (SV.bool (eqB 41 (codeAt cs a))) { loc := [], H := [] }) (K (SV.bool Bool.false) { loc := [], H := [] })) ∧ (codeAt cs b = 41 → IsView cs (VIEW cs) ∧ BR (eqB 93 (codeAt cs b)) (IsView cs (VIEW cs) ∧ K (SV.bool (eqB 40 (codeAt cs a))) { loc := [], H := [] }) (K (SV.bool Bool.false) { loc := [], H := [] })) ∧ (codeAt cs b = 91 → IsView cs (VIEW cs) ∧ BR (eqB 93 (codeAt cs b)) (IsView cs (VIEW cs) ∧ K (SV.bool (eqB 93 (codeAt cs a))) { loc := [], H := [] }) (K (SV.bool Bool.false) { loc := [], H := [] })) ∧ (codeAt cs b = 93 → IsView cs (VIEW cs) ∧ BR (eqB 93 (codeAt cs b)) (IsView cs (VIEW cs) ∧ K (SV.bool (eqB 91 (codeAt cs a))) { loc := [], H := [] }) (K (SV.bool Bool.false) { loc := [], H := [] }))) ∧ (codeAt cs a = 93 → IsView cs (VIEW cs) ∧ IsTab (TAB tp tr) ∧ (codeAt cs b = 40 ∨ codeAt cs b = 41 ∨ codeAt cs b = 91 ∨ codeAt cs b = 93) ∧ (codeAt cs b = 40 → IsView cs (VIEW cs) ∧ BR (eqB 91 (codeAt cs b)) (IsView cs (VIEW cs) ∧ K (SV.bool (eqB 41 (codeAt cs a))) { loc := [], H := [] }) (K (SV.bool Bool.false) { loc := [], H := [] })) ∧ (codeAt cs b = 41 → IsView cs (VIEW cs) ∧ BR (eqB 91 (codeAt cs b)) (IsView cs (VIEW cs) ∧ K (SV.bool (eqB 40 (codeAt cs a))) { loc := [], H := [] }) (K (SV.bool Bool.false) { loc := [], H := [] })) ∧ (codeAt cs b = 91 → IsView cs (VIEW cs) ∧ BR (eqB 91 (codeAt cs b)) (IsView cs (VIEW cs) ∧ K (SV.bool (eqB 93 (codeAt cs a))) { loc := [], H := [] }) (K (SV.bool Bool.false) { loc := [], H := [] })) ∧ (codeAt cs b = 93 → IsView cs (VIEW cs) ∧ BR (eqB 91 (codeAt cs b)) (IsView cs (VIEW cs) ∧ K (SV.bool (eqB 91 (codeAt cs a))) { loc := [], H := [] }) (K (SV.bool Bool.false) { loc := [], H := [] })))) := by kernel_rfl
theorem pos4 {c : Int} (h : c = 40 ∨ c = 41 ∨ c = 91 ∨ c = 93) : ¬ c < 0 := by rcases h with rfl | rfl | rfl | rfl <;> decide
theorem zkL {g : Gl} (H : Facts g) {cs : List Int} (h : GoodT cs) : SemSpec g (S0 g) false 278 7 (spSyn4 cs) :=
 SemSpec.mono (Nat.le_refl _) (fun vs K Er hs => by
  replace hs := zbI hs
  obtain ⟨v, t, p0, rfl, hs⟩ := hs
  replace hs := zaS hs
  obtain ⟨p, rfl, hs⟩ := hs
  obtain ⟨h1, h2, h0, h40, h41, h91, h93⟩ := hs
  refine ⟨h1, h2, fun q => absurd q (pos4 h0), fun q => ?_⟩
  rcases h0 with z | z | z | z <;> rw [z]
  ·exact h40 z
  ·exact h41 z
  ·exact h91 z
  ·exact h93 z) (zcK H h)
theorem zi2 {cs : List Int} (hg : GoodT cs) (a b : Int) (Er : Prop) (K : SV → Prop) (ha : codeAt cs a = 40 ∨ codeAt cs a = 91) (hb : codeAt cs b = 41 ∨ codeAt cs b = 93) (hK : K (.bool (pairB cs a b))) :
  callF (TT5 cs) (bdOf (TT5 cs) 60) (fcN 12 Er) 607 [VIEW cs, TAB tabP tabR, .int a, .int b] ⟨[], []⟩ (Fz K) := by
 rw [zmG]
 unfold pairB at hK
 rcases ha with ha | ha <;> rcases hb with hb | hb <;> rw [ha, hb] at hK ⊢ <;>
  repeat' first
   | exact (rfl : IsView cs (VIEW cs))
   | exact zaT
   | exact And.intro (rfl : IsView cs (VIEW cs)) (zeF hK)
   | exact zeF hK
   | decide
   | (refine And.intro ?_ ?_)
   | (intro q; exfalso; revert q; decide)
   | intro _
theorem zkN {g : Gl} (H : Facts g) {cs : List Int} (h : GoodT cs) : SemSpec g (S0 g) false 607 12 (spPair cs) :=
 zbU (zbG H (l := L5 cs) (cells := []) (tr := false) (by kernel_rfl) (fun x hx => by
  simp only [L5, List.mem_cons, List.not_mem_nil, or_false] at hx
  rcases hx with rfl | rfl
  ·exact zbO H h.1
  ·exact zkL H h)) (exc0 g _ rfl) fun svs K Er hs => by
  replace hs := zfS hs
  obtain ⟨v, t, a0, b0, rfl, hs⟩ := hs
  replace hs := zaS hs
  obtain ⟨a, rfl, hs⟩ := hs
  replace hs := zaS hs
  obtain ⟨b, rfl, hs⟩ := hs
  obtain ⟨h1, h2, h3, h4, h5⟩ := hs
  unfold IsView at h1
  unfold IsTab at h2
  subst h1 h2
  rw [TABLE_eq]
  exact zi2 h a b Er K h3 h4 h5
structure WX where
 p : Int
 ops : List Int
 below : Int
 least : Int
 whole : SV
 md : Md
noncomputable def WX.ws (x : WX) : WS := ⟨x.md.kn, x.ops, x.below⟩
noncomputable def wF (cs : List Int) (tp tr : SV) (o : Nat) (x : WX) : SO := match x.md with
 | .pl => .fields [(s_view, VIEW cs), (s_table, TAB tp tr), (s_place, .int x.p), (s_opens, .obj o), (s_below, .int x.below), (s_least, .int x.least), (s_whole, x.whole), (s_word, .none), (s_string, .none), (s_comment, .int 0), (s_style, .str (st [])), (s_nests, .bool false), (s_start, .none), (s_quoted, .bool false), (s_half, .str (st []))]
 | .pw w => .fields [(s_view, VIEW cs), (s_table, TAB tp tr), (s_place, .int x.p), (s_opens, .obj o), (s_below, .int x.below), (s_least, .int x.least), (s_whole, x.whole), (s_word, .int w), (s_string, .none), (s_comment, .int 0), (s_style, .str (st [])), (s_nests, .bool false), (s_start, .none), (s_quoted, .bool false), (s_half, .str (st []))]
 | .st b q => .fields [(s_view, VIEW cs), (s_table, TAB tp tr), (s_place, .int x.p), (s_opens, .obj o), (s_below, .int x.below), (s_least, .int x.least), (s_whole, x.whole), (s_word, .none), (s_string, .int 34), (s_comment, .int 0), (s_style, .str (st [])), (s_nests, .bool false), (s_start, .int b), (s_quoted, .bool q), (s_half, .str (st []))]
 | .co b => .fields [(s_view, VIEW cs), (s_table, TAB tp tr), (s_place, .int x.p), (s_opens, .obj o), (s_below, .int x.below), (s_least, .int x.least), (s_whole, x.whole), (s_word, .none), (s_string, .none), (s_comment, .int 1), (s_style, .str (st [])), (s_nests, .bool false), (s_start, .int b), (s_quoted, .bool false), (s_half, .str (st []))]
noncomputable def psF : SO := .fields [(s_opens, .tup []), (s_below, .int 0), (s_least, .int 0), (s_whole, .none), (s_word, .none), (s_string, .none), (s_comment, .int 0), (s_style, .str (st [])), (s_nests, .bool false), (s_start, .none), (s_quoted, .bool false), (s_half, .str (st []))]
noncomputable def spPairX(cs : List Int) : Spec := fun vs K _ => A4 vs fun v t a b => ∃ i j, (a = .int i ∧ b = .int j) ∧ IsView cs v ∧ IsTab t ∧ (codeAt cs i = 40 ∨ codeAt cs i = 91) ∧ (codeAt cs j = 41 ∨ codeAt cs j = 93) ∧ K (.bool (pairB cs i j))
noncomputable def L6 (cs : List Int) : SpecL := [(674, (2, spCode cs)), (667, (2, spEnd cs)), (278, (7, spSyn cs)), (292, (12, spMk cs 59)), (299, (12, spMk cs 10)), (607, (12, spPairX cs)), (208, (5, spAt))]
noncomputable abbrev TT6 (cs : List Int) : Tab := tab [199, 570] (lkN (L6 cs)) false
noncomputable def whTurn (r : Bd) (fc : FC) (L : Loop) (tb : Expr × List Stmt) (K : KO) (x : L.σ) : Prop := r.ts fc tb.1 (L.st x) fun c st1 => BR c (exs r fc tb.2 st1 fun o st2 => match o with
    | .next => ∃ x', Fits L x' st2 ∧ L.P [] x' ∧ L.ms x' < L.ms x
    | .cont => ∃ x', Fits L x' st2 ∧ L.P [] x' ∧ L.ms x' < L.ms x
    | .brk => K .next st2
    | .ret v => K (.ret v) st2) (K .next st1)
noncomputable def fiAt (a : Nat) : FI := match fnOfA a with | some x => x | none => ⟨[], [], [], ⟨.function, [], false, false, []⟩⟩
set_option backward.match.sparseCases false in
noncomputable def whAt (a n : Nat) : Expr × List Stmt := match (fiAt a).body[n]? with
 | some (.While t b _ _) => (t, b)
 | _ => (.Constant .none 0 ⟨0, 0, 0, 0⟩, [])
noncomputable def restAt (a n : Nat) : List Stmt := (fiAt a).body.drop (n + 1)
noncomputable def endK (K : SV → SS → Prop) : KO := fun o st' => match o with
 | .next => K .none ⟨[], st'.H⟩
 | .ret v => K v ⟨[], st'.H⟩
 | _ => False
noncomputable def restK (r : Bd) (fc : FC) (rest : List Stmt) (K : SV → SS → Prop) : KO := fun o st' => match o with
 | .next => exs r fc rest st' (endK K)
 | .brk => endK K .brk st'
 | .cont => endK K .cont st'
 | .ret v => endK K (.ret v) st'
noncomputable def fcAt (a : Nat) (fc : FC) (d : Nat) : FC := { fc with sc := (fiAt a).sc, d := d }
structure WkP (cs : List Int) (x : WX) : Prop where
 p1 : 1 ≤ x.p
 p2 : x.p ≤ 1 + (cs.length : Int)
 sf : safe x.md.kn (dropAt cs x.p) x.p
 op : ∀ a ∈ x.ops, codeAt cs a = 40 ∨ codeAt cs a = 91
 ol : (x.ops.length : Int) ≤ x.p
noncomputable def Nxt (L : Loop) (x : L.σ) (s : SS) : Prop := ∃ x', Fits L x' s ∧ L.P [] x' ∧ L.ms x' < L.ms x
noncomputable def wf (cs : List Int) (tp tr : SV) (pl op be le wh wo sg co sa qu : SV) : SO := .fields [(s_view, VIEW cs), (s_table, TAB tp tr), (s_place, pl), (s_opens, op), (s_below, be), (s_least, le), (s_whole, wh), (s_word, wo), (s_string, sg), (s_comment, co), (s_style, .str (st [])), (s_nests, .bool false), (s_start, sa), (s_quoted, qu), (s_half, .str (st []))]
noncomputable def LFu (cs : List Int) (tp tr : SV) : Loop where
 σ := WX
 st := fun x => ⟨[(s_view, VIEW cs), (s_table, TAB tp tr), (s_walk, .ins 449 1)], [psF, wF cs tp tr 2 x, .seq (x.ops.map SV.int)]⟩
 P := fun _ x => WkP cs x ∧ fu cs x.ws (dropAt cs x.p) x.p = fu cs ws0 (dropAt cs 1) 1
 ms := fun x => (1 + (cs.length : Int) - x.p).toNat
noncomputable abbrev fcFu (cs : List Int) (tp tr : SV) (Er : Prop) : FC := ⟨sc0, 20, lpOf 558004 (LFu cs tp tr), Er, false⟩
theorem zaF {L : Loop} {x : L.σ} {s : SS} (h1 : Fits.locIn (L.st x).loc s.loc) (h2 : s.H = (L.st x).H) : Fits L x s := ⟨h1, h2⟩
theorem zaC {m : List (Str × SV)} : Fits.locIn [] m := trivial
theorem zaA {y : Str} {v : SV} {l m : List (Str × SV)} (h : lk m y = some v) (h2 : Fits.locIn l m) : Fits.locIn ((y, v) :: l) m := ⟨h, h2⟩
theorem BR_f {b : Bool} {p q : Prop} (h : b = false) (hq : q) : BR b p q := by subst h; exact hq
theorem BR_t {b : Bool} {p q : Prop} (h : b = true) (hp : p) : BR b p q := by subst h; exact hp
theorem zaD {n : Nat} (h : n ≤ 100000) : inLine n = true := Nat.ble_eq_true_of_le h
theorem zaK : ∀ (l : List Int), byVal.allV (byVal 2) (l.map SV.int) = true
 | [] => rfl
 | _ :: r => zaK r
noncomputable def FuT (cs : List Int) (tp tr : SV) (p B B' : Int) (l' l : List SV) (R N : Prop) : Prop :=
 BR (ltB B B') R (CK (inLine l'.length) (CK (inLine l.length) (BR (ltB ↑l'.length ↑l.length) (CK (inLine l.length) (@OM Nat (place (-1) l.length) fun v => @OM SV l[v]? fun v => CK (byVal.allV (byVal 2) [VIEW cs, TAB tp tr, v, SV.int p] && Bool.true && Bool.true) (∃ i j, (v = SV.int i ∧ SV.int p = SV.int j) ∧ IsView cs (VIEW cs) ∧ IsTab (TAB tp tr) ∧ (codeAt cs i = 40 ∨ codeAt cs i = 91) ∧ (codeAt cs j = 41 ∨ codeAt cs j = 93) ∧ BR (!(eqB (codeAt cs i) 40 && eqB (codeAt cs j) 41 || eqB (codeAt cs i) 91 && eqB (codeAt cs j) 93)) R N))) N)))
theorem zcY {cs : List Int} {tp tr : SV} {p B B' : Int} {l' l : List SV} {R N : Prop} (hb : ¬ B < B') (hl : l.length ≤ l'.length) (hm : l'.length ≤ 100000) (h : N) : FuT cs tp tr p B B' l' l R N := by
 refine zaI (fun q => absurd (zaN q) hb) fun _ => zaB (zaD hm) (zaB (zaD (by lia)) (zaI (fun q => ?_) fun _ => h))
 have := zaN q
 lia
theorem ziJ {cs : List Int} {tp tr : SV} {p B B' : Int} {l' l : List SV} {R N : Prop} (hb : B < B') (h : R) : FuT cs tp tr p B B' l' l R N := BR_t (decide_eq_true hb) h
theorem zgV {b : Bool} (h : (!b) = false) : b = true := by cases b <;> simp_all
theorem znU {cs : List Int} {p B a : Int} {i : List Int} {R N : Prop} (hm : i.length ≤ 10000) (ha : codeAt cs a = 40 ∨ codeAt cs a = 91) (hp : codeAt cs p = 41 ∨ codeAt cs p = 93) (h1 : pairB cs a p = false → R) (h2 : pairB cs a p = true → N) :
  FuT cs tabP tabR p B B (i.map SV.int) ((i ++ [a]).map SV.int) R N := by
 refine BR_f (decide_eq_false (by lia)) (zaB (zaD (by rw [List.length_map]; lia)) (zaB (zaD (by rw [List.length_map, List.length_append]; simp; lia)) (BR_t (decide_eq_true ?_) ?_)))
 ·rw [List.length_map, List.length_map, List.length_append]; simp; lia
 ·refine zaB (zaD (by rw [List.length_map, List.length_append]; simp; lia)) (zaE (a := i.length) ?_ (zaE (a := SV.int a) ?_ (zaB rfl ⟨a, p, ⟨rfl, rfl⟩, rfl, zaT, ha, hp, ?_⟩)))
  ·unfold Mine.place
   rw [List.length_map, List.length_append]
   rw [show leB 0 (-1) = false from by decide]
   dsimp only
   rw [show leB 0 (-1 + ((i.length + [a].length : Nat) : Int)) = true from decide_eq_true (by simp; lia)]
   dsimp only
   congr 1
   simp; lia
  ·simp
  ·refine zaI (fun q => h1 ?_) fun q => h2 ?_
   ·exact not_true q
   ·exact zgV q
theorem zb0 : ∀ (l : List SV) (v : SV), unsnoc (l ++ [v]) = some (l, v)
 | [], v => rfl
 | [a], v => rfl
 | a :: b :: r, v => by
  show (match unsnoc (b :: r ++ [v]) with | some (l, u) => some (a :: l, u) | none => none) = _
  rw [zb0 (b :: r) v]
theorem zcH : ∀ (l : List Int), eqLI (l.map SV.int) [] = some (decide (l = []))
 | [] => rfl
 | _ :: _ => rfl
theorem WkP.step {cs : List Int} {x x' : WX} (hx : WkP cs x) (hlt : x.p < 1 + (cs.length : Int)) (hp : x'.p = x.p + 1) (hw : x'.ws = wstep x.ws (codeAt cs x.p) x.p) (ho : ∀ a ∈ x'.ops, codeAt cs a = 40 ∨ codeAt cs a = 91) : WkP cs x' := by
 have sf := hx.sf
 rw [zaM hx.p1 hlt] at sf
 have p1 := hx.p1
 refine ⟨by lia, by lia, ?_, ho, ?_⟩
 ·have : x'.md.kn = nx x.md.kn (codeAt cs x.p) x.p := by
   have e := congrArg WS.kn hw
   rw [zjJ] at e
   exact e
  rw [this, hp]; exact sf.2
 ·have e := congrArg WS.ops hw
  show (x'.ws.ops.length : Int) ≤ x'.p
  rw [hp, e]
  have := zhD x.ws (codeAt cs x.p) x.p
  have ol : ((x.ws.ops.length : Nat) : Int) ≤ x.p := hx.ol
  lia
theorem ziI {cs : List Int} {tp tr : SV} {x x' : WX} (hx : (LFu cs tp tr).P [] x) (hlt : x.p < 1 + (cs.length : Int)) (hp : x'.p = x.p + 1) (hw : x'.ws = wstep x.ws (codeAt cs x.p) x.p)
  (h1 : ¬ x.below < x'.below) (h2 : ¬ (x'.ops.length < x.ops.length ∧ pairB cs (x.ops.getLastD 0) x.p = false)) (ho : ∀ a ∈ x'.ops, codeAt cs a = 40 ∨ codeAt cs a = 91) : (LFu cs tp tr).P [] x' ∧ (LFu cs tp tr).ms x' < (LFu cs tp tr).ms x := by
 obtain ⟨hk, hf⟩ := hx
 refine ⟨⟨hk.step hlt hp hw ho, ?_⟩, ?_⟩
 ·rw [zaM hk.p1 hlt] at hf
  rw [hp, ← zg3 hw h1 h2]; exact hf
 ·show (1 + (cs.length : Int) - x'.p).toNat < (1 + (cs.length : Int) - x.p).toNat
  lia
noncomputable abbrev fuR (cs : List Int) (tp tr : SV) (p : Int) (K : SV → SS → Prop) (be le wh wo sg co sa qu : SV) (o : List SV) : Prop := K (SV.int p) { loc := [], H := [psF, wf cs tp tr (SV.int (p + 1)) (SV.obj 2) be le wh wo sg co sa qu, SO.seq o] }
noncomputable abbrev fuN (cs : List Int) (tp tr : SV) (p : Int) (ops : List Int) (below least : Int) (whole : SV) (md : Md) (be le wh wo sg co sa qu : SV) (o : List SV) : Prop := Nxt (LFu cs tp tr) (WX.mk p ops below least whole md) { loc := [(s_view, VIEW cs), (s_table, TAB tp tr), (s_walk, SV.ins 449 1), (s_place, SV.int p), (s_opens, SV.lst (List.map SV.int ops)), (s_below, SV.int below)], H := [psF, wf cs tp tr (SV.int (p + 1)) (SV.obj 2) be le wh wo sg co sa qu, SO.seq o] }
noncomputable abbrev fuQ (cs : List Int) (tp tr : SV) (p : Int) (ops : List Int) (below least : Int) (whole : SV) (K : SV → SS → Prop) (md : Md) (C : Int) (m : List SV) (be le wh wo sg co sa qu : SV) (o : List SV) : Prop := FuT cs tp tr p below C m (List.map SV.int ops) (fuR cs tp tr p K be le wh wo sg co sa qu o) (fuN cs tp tr p ops below least whole md be le wh wo sg co sa qu o)
noncomputable def fuCl (cs : List Int) (tp tr : SV) (p : Int) (ops : List Int) (below least : Int) (whole : SV) (K : SV → SS → Prop) (md : Md) (o : SO) : Prop :=
 @OM Bool (cmpV { loc := [(s_self, SV.ins 449 1)], H := [psF, o, SO.seq (ops.map SV.int)] } CmpOp.Eq (SV.obj 2) (SV.lst [])) fun v => BR v (CK (inLine (ops.map SV.int).length) (fuQ cs tp tr p ops below least whole K md (below + 1) (ops.map SV.int) (SV.int (below + 1)) (SV.int (if ↑(ops.map SV.int).length - (below + 1) < least then ↑(ops.map SV.int).length - (below + 1) else least)) SV.none SV.none SV.none (SV.int 0) SV.none (SV.bool Bool.false) (ops.map SV.int))) (CK (inLine (ops.map SV.int).length) (@OM (List SV × SV) (unsnoc (ops.map SV.int)) fun v => CK (inLine v.fst.length) (BR (ltB below below) (fuR cs tp tr p K (SV.int below) (SV.int (if ↑v.fst.length - below < least then ↑v.fst.length - below else least)) v.snd SV.none SV.none (SV.int 0) SV.none (SV.bool Bool.false) v.fst) (CK (inLine v.fst.length) (CK (inLine (ops.map SV.int).length) (BR (ltB ↑v.fst.length ↑(ops.map SV.int).length) (CK (inLine (ops.map SV.int).length) (@OM Nat (place (-1) (ops.map SV.int).length) fun v_1 => @OM SV (ops.map SV.int)[v_1]? fun v_2 => CK (byVal.allV (byVal 2) [VIEW cs, TAB tp tr, v_2, SV.int p] && Bool.true && Bool.true) (∃ i j, (v_2 = SV.int i ∧ SV.int p = SV.int j) ∧ IsView cs (VIEW cs) ∧ IsTab (TAB tp tr) ∧ (codeAt cs i = 40 ∨ codeAt cs i = 91) ∧ (codeAt cs j = 41 ∨ codeAt cs j = 93) ∧ BR (!(eqB (codeAt cs i) 40 && eqB (codeAt cs j) 41 || eqB (codeAt cs i) 91 && eqB (codeAt cs j) 93)) (fuR cs tp tr p K (SV.int below) (SV.int (if ↑v.fst.length - below < least then ↑v.fst.length - below else least)) v.snd SV.none SV.none (SV.int 0) SV.none (SV.bool Bool.false) v.fst) (fuN cs tp tr p ops below least whole md (SV.int below) (SV.int (if ↑v.fst.length - below < least then ↑v.fst.length - below else least)) v.snd SV.none SV.none (SV.int 0) SV.none (SV.bool Bool.false) v.fst)))) (fuN cs tp tr p ops below least whole md (SV.int below) (SV.int (if ↑v.fst.length - below < least then ↑v.fst.length - below else least)) v.snd SV.none SV.none (SV.int 0) SV.none (SV.bool Bool.false) v.fst)))))))
noncomputable def fuC (cs : List Int) (tp tr : SV) (p : Int) (ops : List Int) (below least : Int) (whole : SV) (K : SV → SS → Prop) (md : Md) (w0 : Int) (wh wd : SV) (o : SO) (c : Int) : Prop :=
 BR (eqS { cps := { toList := [kd (c)] } } (st [92])) (fuQ cs tp tr p ops below least whole K md below (ops.map SV.int) (SV.int below) (SV.int least) whole (SV.int w0) SV.none (SV.int 0) SV.none (SV.bool Bool.true) (ops.map SV.int)) (BR (eqS { cps := { toList := [kd (c)] } } (st [47])) (fuQ cs tp tr p ops below least whole K md below (ops.map SV.int) (SV.int below) (SV.int least) whole (SV.int w0) SV.none (SV.int 0) SV.none (SV.bool Bool.true) (ops.map SV.int)) (BR (eqS { cps := { toList := [kd (c)] } } (st [119])) (fuQ cs tp tr p ops below least whole K md below (ops.map SV.int) (SV.int below) (SV.int least) whole (SV.int w0) SV.none (SV.int 0) SV.none (SV.bool Bool.false) (ops.map SV.int)) (BR (eqS { cps := { toList := [kd (c)] } } (st [95])) (fuQ cs tp tr p ops below least whole K md below (ops.map SV.int) (SV.int below) (SV.int least) whole (SV.int w0) SV.none (SV.int 0) SV.none (SV.bool Bool.false) (ops.map SV.int)) (BR (eqS { cps := { toList := [kd (c)] } } (st [40])) (CK (inLine (ops.map SV.int).length) (fuQ cs tp tr p ops below least whole K md below (ops.map SV.int ++ [SV.int p]) (SV.int below) (SV.int least) SV.none SV.none SV.none (SV.int 0) SV.none (SV.bool Bool.false) (ops.map SV.int ++ [SV.int p]))) (BR (eqS { cps := { toList := [kd (c)] } } (st [41])) (fuCl cs tp tr p ops below least whole K md o) (BR (eqS { cps := { toList := [kd (c)] } } (st [34])) (IsView cs (VIEW cs) ∧ fuQ cs tp tr p ops below least whole K md below (ops.map SV.int) (SV.int below) (SV.int least) wh SV.none (SV.int (c)) (SV.int 0) (SV.int p) (SV.bool Bool.false) (ops.map SV.int)) (BR (eqS { cps := { toList := [kd (c)] } } (st [124])) (fuQ cs tp tr p ops below least whole K md below (ops.map SV.int) (SV.int below) (SV.int least) wh SV.none (SV.int 0) (SV.int 0) (SV.int p) (SV.bool Bool.false) (ops.map SV.int)) (BR (!eqS { cps := { toList := [kd (c)] } } (st [39])) (fuQ cs tp tr p ops below least whole K md below (ops.map SV.int) (SV.int below) (SV.int least) wh SV.none SV.none (SV.int 0) SV.none (SV.bool Bool.false) (ops.map SV.int)) (fuQ cs tp tr p ops below least whole K md below (ops.map SV.int) (SV.int below) (SV.int least) whole wd SV.none (SV.int 0) SV.none (SV.bool Bool.false) (ops.map SV.int))))))))))
noncomputable def fuV (cs : List Int) (tp tr : SV) (p : Int) (ops : List Int) (below least : Int) (whole : SV) (K : SV → SS → Prop) (md : Md) (w0 : Int) (wh wd : SV) (o : SO) : Prop :=
 (IsView cs (VIEW cs) ∧ BR (ltB p (1 + ↑cs.length)) (CK (inLine (ops.map SV.int).length) (CK (byVal.allV (byVal 2) (ops.map SV.int)) (IsView cs (VIEW cs) ∧ IsView cs (VIEW cs) ∧ IsTab (TAB tp tr) ∧ (codeAt cs p = 59 → fuQ cs tp tr p ops below least whole K md below (ops.map SV.int) (SV.int below) (SV.int least) wh SV.none SV.none (SV.int 1) (SV.int p) (SV.bool Bool.false) (ops.map SV.int)) ∧ (codeAt cs p ≠ 59 → IsView cs (VIEW cs) ∧ IsTab (TAB tp tr) ∧ (codeAt cs p < 0 → False) ∧ (0 ≤ codeAt cs p → fuC cs tp tr p ops below least whole K md w0 wh wd o (codeAt cs p)))))) (@OM Bool (cmpV ((LFu cs tp tr).st (WX.mk p ops below least whole md)) CmpOp.NotEq (SV.obj 2) (SV.lst [])) fun v => BR v (CK (inLine (ops.map SV.int).length) (@OM Nat (place 0 (ops.map SV.int).length) fun v => @OM SV (ops.map SV.int)[v]? fun v => K v { loc := [], H := [psF, wF cs tp tr 2 (WX.mk p ops below least whole md), SO.seq (ops.map SV.int)] })) (K SV.none { loc := [], H := [psF, wF cs tp tr 2 (WX.mk p ops below least whole md), SO.seq (ops.map SV.int)] })))
section
variable {cs : List Int} {tp tr : SV} {p : Int} {ops : List Int} {below least : Int} {whole : SV} {K : SV → SS → Prop} {md : Md} {w0 : Int} {wh wd : SV} {o : SO}
theorem zqP : fuC cs tp tr p ops below least whole K md w0 wh wd o 40 = CK (inLine (ops.map SV.int).length) (fuQ cs tp tr p ops below least whole K md below ((ops.map SV.int) ++ [.int p]) (.int below) (.int least) .none .none .none (.int 0) .none (.bool false) ((ops.map SV.int) ++ [.int p])) := by kernel_rfl
theorem zqO : fuC cs tp tr p ops below least whole K md w0 wh wd o 41 = fuCl cs tp tr p ops below least whole K md o := by kernel_rfl
theorem zqN : fuC cs tp tr p ops below least whole K md w0 wh wd o 91 = CK (inLine (ops.map SV.int).length) (fuQ cs tp tr p ops below least whole K md below ((ops.map SV.int) ++ [.int p]) (.int below) (.int least) .none .none .none (.int 0) .none (.bool false) ((ops.map SV.int) ++ [.int p])) := by kernel_rfl
theorem zqM : fuC cs tp tr p ops below least whole K md w0 wh wd o 93 = fuCl cs tp tr p ops below least whole K md o := by kernel_rfl
theorem zqL : fuC cs tp tr p ops below least whole K md w0 wh wd o 97 = fuQ cs tp tr p ops below least whole K md below (ops.map SV.int) (.int below) (.int least) whole (.int w0) .none (.int 0) .none (.bool false) (ops.map SV.int) := by kernel_rfl
theorem zqR : fuC cs tp tr p ops below least whole K md w0 wh wd o 32 = fuQ cs tp tr p ops below least whole K md below (ops.map SV.int) (.int below) (.int least) wh .none .none (.int 0) .none (.bool false) (ops.map SV.int) := by kernel_rfl
theorem zqS : fuC cs tp tr p ops below least whole K md w0 wh wd o 10 = fuQ cs tp tr p ops below least whole K md below (ops.map SV.int) (.int below) (.int least) wh .none .none (.int 0) .none (.bool false) (ops.map SV.int) := by kernel_rfl
theorem zqQ : fuC cs tp tr p ops below least whole K md w0 wh wd o 34 = (IsView cs (VIEW cs) ∧ fuQ cs tp tr p ops below least whole K md below (ops.map SV.int) (.int below) (.int least) wh .none (.int 34) (.int 0) (.int p) (.bool false) (ops.map SV.int)) := by kernel_rfl
end
theorem zj0 (cs : List Int) (tp tr : SV) (Er : Prop) (K : SV → SS → Prop) (p : Int) (ops : List Int) (below least : Int) (whole : SV) : whTurn (bdOf (TT6 cs) 78) (fcAt 614 (fcFu cs tp tr Er) 19) (LFu cs tp tr) (whAt 614 1) (restK (bdOf (TT6 cs) 79) (fcAt 614 (fcFu cs tp tr Er) 19) (restAt 614 1) K) ⟨p, ops, below, least, whole, .pl⟩ =
  fuV cs tp tr p ops below least whole K .pl p whole .none (wF cs tp tr 2 (WX.mk p ops below least whole .pl)) := by kernel_rfl
theorem zjZ (cs : List Int) (tp tr : SV) (Er : Prop) (K : SV → SS → Prop) (p : Int) (ops : List Int) (below least : Int) (whole : SV) (w : Int) : whTurn (bdOf (TT6 cs) 78) (fcAt 614 (fcFu cs tp tr Er) 19) (LFu cs tp tr) (whAt 614 1) (restK (bdOf (TT6 cs) 79) (fcAt 614 (fcFu cs tp tr Er) 19) (restAt 614 1) K) ⟨p, ops, below, least, whole, .pw w⟩ =
  fuV cs tp tr p ops below least whole K (.pw w) w (.int w) (.int w) (wF cs tp tr 2 (WX.mk p ops below least whole (.pw w))) := by kernel_rfl
theorem zjY (cs : List Int) (tp tr : SV) (Er : Prop) (K : SV → SS → Prop) (p : Int) (ops : List Int) (below least : Int) (whole : SV) (b : Int) (q : Bool) : whTurn (bdOf (TT6 cs) 78) (fcAt 614 (fcFu cs tp tr Er) 19) (LFu cs tp tr) (whAt 614 1) (restK (bdOf (TT6 cs) 79) (fcAt 614 (fcFu cs tp tr Er) 19) (restAt 614 1) K) ⟨p, ops, below, least, whole, .st b q⟩ =
  (IsView cs (VIEW cs) ∧ BR (ltB p (1 + ↑cs.length)) (CK (inLine (List.map SV.int ops).length) (CK (byVal.allV (byVal 2) (List.map SV.int ops)) (IsView cs (VIEW cs) ∧ IsView cs (VIEW cs) ∧ IsTab (TAB tp tr) ∧ GoodC (codeAt cs p) ∧ BR q (fuQ cs tp tr p ops below least whole K (Md.st b q) below (List.map SV.int ops) (SV.int below) (SV.int least) whole SV.none (SV.int 34) (SV.int 0) (SV.int b) (SV.bool Bool.false) (List.map SV.int ops)) (BR (eqS { cps := { toList := [kd (codeAt cs p)] } } (st [92])) (fuQ cs tp tr p ops below least whole K (Md.st b q) below (List.map SV.int ops) (SV.int below) (SV.int least) whole SV.none (SV.int 34) (SV.int 0) (SV.int b) (SV.bool Bool.true) (List.map SV.int ops)) (BR (eqS { cps := { toList := [kd (codeAt cs p)] } } (st [47])) (fuQ cs tp tr p ops below least whole K (Md.st b q) below (List.map SV.int ops) (SV.int below) (SV.int least) whole SV.none (SV.int 34) (SV.int 0) (SV.int b) (SV.bool Bool.true) (List.map SV.int ops)) (BR (eqB (codeAt cs p) 34) (BR (eqS { cps := { toList := [kd (codeAt cs p)] } } (st [34])) (fuQ cs tp tr p ops below least whole K (Md.st b q) below (List.map SV.int ops) (SV.int below) (SV.int least) (SV.int b) SV.none SV.none (SV.int 0) SV.none (SV.bool q) (List.map SV.int ops)) (fuQ cs tp tr p ops below least whole K (Md.st b q) below (List.map SV.int ops) (SV.int below) (SV.int least) whole SV.none (SV.int 34) (SV.int 0) (SV.int b) (SV.bool q) (List.map SV.int ops))) (fuQ cs tp tr p ops below least whole K (Md.st b q) below (List.map SV.int ops) (SV.int below) (SV.int least) whole SV.none (SV.int 34) (SV.int 0) (SV.int b) (SV.bool q) (List.map SV.int ops)))))))) (K (SV.int b) { loc := [], H := [psF, wF cs tp tr 2 (WX.mk p ops below least whole (Md.st b q)), SO.seq (List.map SV.int ops)] })) := by kernel_rfl
theorem zj1 (cs : List Int) (tp tr : SV) (Er : Prop) (K : SV → SS → Prop) (p : Int) (ops : List Int) (below least : Int) (whole : SV) (b : Int) : whTurn (bdOf (TT6 cs) 78) (fcAt 614 (fcFu cs tp tr Er) 19) (LFu cs tp tr) (whAt 614 1) (restK (bdOf (TT6 cs) 79) (fcAt 614 (fcFu cs tp tr Er) 19) (restAt 614 1) K) ⟨p, ops, below, least, whole, .co b⟩ =
  (IsView cs (VIEW cs) ∧ BR (ltB p (1 + ↑cs.length)) (CK (inLine (List.map SV.int ops).length) (CK (byVal.allV (byVal 2) (List.map SV.int ops)) (IsView cs (VIEW cs) ∧ IsView cs (VIEW cs) ∧ IsTab (TAB tp tr) ∧ (codeAt cs p = 10 → IsView cs (VIEW cs) ∧ IsTab (TAB tp tr) ∧ (codeAt cs p = 10 → fuQ cs tp tr p ops below least whole K (Md.co b) below (List.map SV.int ops) (SV.int below) (SV.int least) whole SV.none SV.none (SV.int 0) SV.none (SV.bool Bool.false) (List.map SV.int ops)) ∧ (codeAt cs p ≠ 10 → False)) ∧ (codeAt cs p ≠ 10 → IsView cs (VIEW cs) ∧ IsTab (TAB tp tr) ∧ (codeAt cs p = 59 → fuQ cs tp tr p ops below least whole K (Md.co b) below (List.map SV.int ops) (SV.int below) (SV.int least) whole SV.none SV.none (SV.int 1) (SV.int b) (SV.bool Bool.false) (List.map SV.int ops)) ∧ (codeAt cs p ≠ 59 → fuQ cs tp tr p ops below least whole K (Md.co b) below (List.map SV.int ops) (SV.int below) (SV.int least) whole SV.none SV.none (SV.int 1) (SV.int b) (SV.bool Bool.false) (List.map SV.int ops)))))) (@OM Bool (cmpV ((LFu cs tp tr).st (WX.mk p ops below least whole (Md.co b))) CmpOp.NotEq (SV.obj 2) (SV.lst [])) fun v => BR v (CK (inLine (List.map SV.int ops).length) (@OM Nat (place 0 (List.map SV.int ops).length) fun v => @OM SV (List.map SV.int ops)[v]? fun v => K v { loc := [], H := [psF, wF cs tp tr 2 (WX.mk p ops below least whole (Md.co b)), SO.seq (List.map SV.int ops)] })) (K SV.none { loc := [], H := [psF, wF cs tp tr 2 (WX.mk p ops below least whole (Md.co b)), SO.seq (List.map SV.int ops)] }))) := by kernel_rfl
theorem zfE {cs : List Int} {tp tr : SV} {x : WX} (hx : (LFu cs tp tr).P [] x) (hlt : x.p < 1 + (cs.length : Int)) {md' : Md} (hw : wstep x.ws (codeAt cs x.p) x.p = ⟨md'.kn, x.ops, x.below⟩) {le : Int} {wh : SV} {s : SS}
  (hf : Fits (LFu cs tp tr) ⟨x.p + 1, x.ops, x.below, le, wh, md'⟩ s) : Nxt (LFu cs tp tr) x s :=
 ⟨_, hf, ziI hx hlt rfl hw.symm (by show ¬ x.below < x.below; lia) (by show ¬ (x.ops.length < x.ops.length ∧ _); lia) hx.1.op⟩
theorem zhT {cs : List Int} {x : WX} (hx : WkP cs x) (hlt : x.p < 1 + (cs.length : Int)) (hm : x.md.kn = .pl) : codeAt cs x.p ≠ 92 := by
 have sf := hx.sf
 rw [zaM hx.p1 hlt] at sf
 exact sf.1 hm
theorem ziU {K : SV → Prop} {ops : List Int} {s s' : SS} {i : Nat} (hs : s.H[i]? = some (.seq (ops.map SV.int))) (hl : ops.length ≤ 100000) (hK : K (oi ops.head?)) :
  @OM Bool (cmpV s CmpOp.NotEq (SV.obj i) (SV.lst [])) fun v => BR v (CK (inLine (List.map SV.int ops).length) (@OM Nat (place 0 (List.map SV.int ops).length) fun v => @OM SV (List.map SV.int ops)[v]? fun v => Fz K v s')) (Fz K SV.none s') := by
 have e : cmpV s CmpOp.NotEq (SV.obj i) (SV.lst []) = some (!decide (ops = [])) := by
  have e1 : cmpV s CmpOp.NotEq (SV.obj i) (SV.lst []) = notO (match lstOf s (.obj i) with
   | some vs => (match lstOf s (.lst []) with
    | some ws => eqLI vs ws
    | none => none)
   | none => none) := rfl
  have e2 : lstOf s (.obj i) = some (ops.map SV.int) := by
   unfold lstOf
   dsimp only
   rw [hs]
  rw [e1, e2]
  show notO (eqLI (ops.map SV.int) []) = _
  rw [zcH]; rfl
 refine zaE e ?_
 cases ops with
 | nil => exact BR_f (by simp) (za9 hK)
 | cons a r =>
  refine BR_t (by simp) (zaB (zaD (by rw [List.length_map]; exact hl)) (zaE (a := 0) ?_ (zaE (a := SV.int a) rfl (za1 hK))))
  unfold Mine.place
  rw [show leB 0 0 = true from by decide]
  dsimp only
  rw [show ltB 0 ((List.map SV.int (a :: r)).length : Int) = true from decide_eq_true (by simp)]
  rfl
section
variable {cs : List Int} {K : SV → Prop} {Er : Prop}
theorem fu_m (hg : GoodT cs) (hK : K (oi (fu cs ws0 (dropAt cs 1) 1))) {p : Int} {ops : List Int} {below least : Int} {whole : SV} {md : Md} (hm : md.kn = .pl) {w0 : Int} {wh wd : SV} {o : SO} (hx : (LFu cs tabP tabR).P [] ⟨p, ops, below, least, whole, md⟩) :
  fuV cs tabP tabR p ops below least whole (Fz K) md w0 wh wd o := by
 have hk := hx.1
 have hol : (ops.length : Int) ≤ p := hk.ol
 have hp1 : 1 ≤ p := hk.p1
 have hp2 : p ≤ 1 + (cs.length : Int) := hk.p2
 have hop : ∀ a ∈ ops, codeAt cs a = 40 ∨ codeAt cs a = 91 := hk.op
 have hcl := hg.1
 have hlen : ops.length ≤ 2000 := by lia
 have hM : inLine (List.map SV.int ops).length = true := zaD (by rw [List.length_map]; lia)
 have hfu : fu cs ⟨.pl, ops, below⟩ (dropAt cs p) p = fu cs ws0 (dropAt cs 1) 1 := hm ▸ (show fu cs ⟨md.kn, ops, below⟩ (dropAt cs p) p = _ from hx.2)
 refine ⟨rfl, zaI (fun q => ?_) (fun q => ?_)⟩
 ·have hlt := zaN q
  have good := zaV hg hp1 hlt
  have h92 : codeAt cs p ≠ 92 := zhT hk hlt hm
  rw [zaM hp1 hlt] at hfu
  have same : ∀ {md' : Md} {le : Int} {wh : SV} {s : SS}, wstep ⟨.pl, ops, below⟩ (codeAt cs p) p = ⟨md'.kn, ops, below⟩ → Fits (LFu cs tabP tabR) ⟨p + 1, ops, below, le, wh, md'⟩ s → Nxt (LFu cs tabP tabR) ⟨p, ops, below, least, whole, md⟩ s := fun hw hf => zfE hx hlt (hm ▸ hw : wstep ⟨md.kn, ops, below⟩ _ _ = _) hf
  have same2 : ∀ {md' : Md} {le : Int} {wh : SV} {s : SS} {R : Prop}, wstep ⟨.pl, ops, below⟩ (codeAt cs p) p = ⟨md'.kn, ops, below⟩ → Fits (LFu cs tabP tabR) ⟨p + 1, ops, below, le, wh, md'⟩ s → FuT cs tabP tabR p below below (ops.map SV.int) (ops.map SV.int) R (Nxt (LFu cs tabP tabR) ⟨p, ops, below, least, whole, md⟩ s) :=
   fun hw hf => zcY (Int.lt_irrefl _) (Nat.le_refl _) (by rw [List.length_map]; lia) (same hw hf)
  have nx : ∀ {x : WX}, x.p = p + 1 → x.ws = wstep ⟨.pl, ops, below⟩ (codeAt cs p) p → (¬ below < x.below) → ¬ (x.ops.length < ops.length ∧ pairB cs (ops.getLastD 0) p = false) → (∀ a ∈ x.ops, codeAt cs a = 40 ∨ codeAt cs a = 91) → (LFu cs tabP tabR).P [] x ∧ (LFu cs tabP tabR).ms x < (LFu cs tabP tabR).ms ⟨p, ops, below, least, whole, md⟩ :=
   fun h1 h2 => ziI hx hlt h1 (hm ▸ h2 : _ = wstep ⟨md.kn, ops, below⟩ _ _)
  refine zaB hM (zaB (zaK _) ⟨rfl, rfl, zaT, fun h59 => ?_, fun h59 => ⟨rfl, zaT, fun z => absurd z (by have := zbZ good; lia), fun _ => ?_⟩⟩)
  ·exact same2 (md' := .co p) (by rw [h59]; rfl) (zaF (zaA rfl (zaA rfl (zaA rfl zaC))) rfl)
  have opn : (codeAt cs p = 40 ∨ codeAt cs p = 91) → CK (inLine (ops.map SV.int).length) (fuQ cs tabP tabR p ops below least whole (Fz K) md below (ops.map SV.int ++ [.int p]) (.int below) (.int least) .none .none .none (.int 0) .none (.bool false) (ops.map SV.int ++ [.int p])) := fun hc => by
   refine zaB hM (zcY (Int.lt_irrefl _) (by rw [List.length_append]; exact Nat.le_add_right _ _) (by rw [List.length_append, List.length_map]; exact Nat.le_trans (Nat.add_le_add_right hlen _) (show 2000 + 1 ≤ 100000 by decide)) ⟨⟨p + 1, ops ++ [p], below, least, .none, .pl⟩, zaF (zaA rfl (zaA rfl (zaA rfl zaC))) ?_, nx rfl ?_ (Int.lt_irrefl _) (fun z => ?_) fun a ha => ?_⟩)
   ·show _ = [_, _, SO.seq ((ops ++ [p]).map SV.int)]
    rw [List.map_append]; rfl
   ·unfold wstep
    dsimp only
    rw [if_pos hc]; rfl
   ·have z1 : (ops ++ [p]).length < ops.length := z.1
    rw [List.length_append] at z1
    exact Nat.not_lt.mpr (Nat.le_add_right _ _) z1
   ·rcases List.mem_append.mp ha with z | z
    ·exact hop a z
    ·rw [List.mem_singleton.mp z]; exact hc
  have clo : (codeAt cs p = 41 ∨ codeAt cs p = 93) → fuCl cs tabP tabR p ops below least whole (Fz K) md o := fun hc => by
   rcases List.eq_nil_or_concat ops with rfl | ⟨i, a, he⟩
   ·refine zaE (a := true) rfl (BR_t rfl (zaB rfl (ziJ (by lia) (za1 ?_))))
    have : wstep ⟨.pl, [], below⟩ (codeAt cs p) p = ⟨.pl, [], below + 1⟩ := by
     unfold wstep
     dsimp only
     rw [if_neg (by lia), if_pos hc, if_pos rfl]
    have e := ziH (cs := cs) (r := dropAt cs (p + 1)) this.symm (by show below < below + 1; lia)
    rw [e] at hfu
    rw [← hfu] at hK; exact hK
   ·obtain rfl : ops = i ++ [a] := by simpa using he
    have hws : wstep ⟨.pl, i ++ [a], below⟩ (codeAt cs p) p = ⟨.pl, i, below⟩ := by
     unfold wstep
     dsimp only
     rw [if_neg (by lia), if_pos hc, if_neg (by simp), List.dropLast_concat]
    have hgl : (i ++ [a]).getLastD 0 = a := by simp
    have hil : i.length < (i ++ [a]).length := by rw [List.length_append]; exact Nat.lt_succ_self _
    have hi : i.length ≤ 2000 := Nat.le_of_lt (Nat.lt_of_lt_of_le hil hlen)
    refine zaE (a := false) (by show eqLI ((i ++ [a]).map SV.int) [] = some false; rw [zcH]; simp) (BR_f rfl (zaB hM (zaE (a := (i.map SV.int, SV.int a)) (by rw [List.map_append]; exact zb0 _ _) (zaB (zaD (by show (List.map SV.int i).length ≤ _; rw [List.length_map]; lia)) ?_))))
    refine znU (by lia) (hop a (List.mem_append_right _ (List.mem_singleton.mpr rfl))) hc (fun hp => za1 ?_) fun hp => ⟨⟨p + 1, i, below, _, .int a, .pl⟩, zaF (zaA rfl (zaA rfl (zaA rfl zaC))) rfl, nx rfl hws.symm (Int.lt_irrefl _) (fun z => ?_) fun b hb => hop b (List.mem_append_left _ hb)⟩
    ·have e := ziG (cs := cs) (r := dropAt cs (p + 1)) hws.symm (Int.lt_irrefl _) ⟨hil, by show pairB cs ((i ++ [a]).getLastD 0) p = false; rw [hgl]; exact hp⟩
     rw [e] at hfu
     rw [← hfu] at hK; exact hK
    ·have z2 : pairB cs ((i ++ [a]).getLastD 0) p = false := z.2
     rw [hgl, hp] at z2; cases z2
  rcases zaZ good with h | h | h | h | h | h | h | h | h | h
  ·rw [h, zqP]; exact opn (.inl h)
  ·rw [h, zqO]; exact clo (.inl h)
  ·rw [h, zqN]; exact opn (.inr h)
  ·rw [h, zqM]; exact clo (.inr h)
  ·rw [h, zqL]; exact same2 (md' := .pw w0) (by rw [h]; rfl) (zaF (zaA rfl (zaA rfl (zaA rfl zaC))) rfl)
  ·rw [h, zqR]; exact same2 (md' := .pl) (by rw [h]; rfl) (zaF (zaA rfl (zaA rfl (zaA rfl zaC))) rfl)
  ·rw [h, zqS]; exact same2 (md' := .pl) (by rw [h]; rfl) (zaF (zaA rfl (zaA rfl (zaA rfl zaC))) rfl)
  ·rw [h, zqQ]; exact ⟨rfl, same2 (md' := .st p false) (by rw [h]; rfl) (zaF (zaA rfl (zaA rfl (zaA rfl zaC))) rfl)⟩
  ·exact absurd h h59
  ·exact absurd h h92
 ·have hge := zaQ q
  rw [zaO (by lia)] at hfu
  rw [← hfu] at hK
  exact ziU (i := 2) rfl (by lia) hK
theorem zsQ (hg : GoodT cs) (hK : K (oi (fu cs ws0 (dropAt cs 1) 1))) {p : Int} {ops : List Int} {below least : Int} {whole : SV} (hx : (LFu cs tabP tabR).P [] ⟨p, ops, below, least, whole, .pl⟩) :
  whTurn (bdOf (TT6 cs) 78) (fcAt 614 (fcFu cs tabP tabR Er) 19) (LFu cs tabP tabR) (whAt 614 1) (restK (bdOf (TT6 cs) 79) (fcAt 614 (fcFu cs tabP tabR Er) 19) (restAt 614 1) (Fz K)) ⟨p, ops, below, least, whole, .pl⟩ :=
 zj0 .. ▸ fu_m hg hK rfl hx
theorem zsP (hg : GoodT cs) (hK : K (oi (fu cs ws0 (dropAt cs 1) 1))) {p : Int} {ops : List Int} {below least : Int} {whole : SV} {w : Int} (hx : (LFu cs tabP tabR).P [] ⟨p, ops, below, least, whole, .pw w⟩) :
  whTurn (bdOf (TT6 cs) 78) (fcAt 614 (fcFu cs tabP tabR Er) 19) (LFu cs tabP tabR) (whAt 614 1) (restK (bdOf (TT6 cs) 79) (fcAt 614 (fcFu cs tabP tabR Er) 19) (restAt 614 1) (Fz K)) ⟨p, ops, below, least, whole, .pw w⟩ :=
 zjZ .. ▸ fu_m hg hK rfl hx
theorem zsO (hg : GoodT cs) (hK : K (oi (fu cs ws0 (dropAt cs 1) 1))) {p : Int} {ops : List Int} {below least : Int} {whole : SV} {b : Int} {q : Bool} (hx : (LFu cs tabP tabR).P [] ⟨p, ops, below, least, whole, .st b q⟩) :
  whTurn (bdOf (TT6 cs) 78) (fcAt 614 (fcFu cs tabP tabR Er) 19) (LFu cs tabP tabR) (whAt 614 1) (restK (bdOf (TT6 cs) 79) (fcAt 614 (fcFu cs tabP tabR Er) 19) (restAt 614 1) (Fz K)) ⟨p, ops, below, least, whole, .st b q⟩ := by
 have hk := hx.1
 have hol : (ops.length : Int) ≤ p := hk.ol
 have hp1 : 1 ≤ p := hk.p1
 have hp2 : p ≤ 1 + (cs.length : Int) := hk.p2
 have hcl := hg.1
 have hlen : ops.length ≤ 2000 := by lia
 have hfu : fu cs ⟨.st b q, ops, below⟩ (dropAt cs p) p = fu cs ws0 (dropAt cs 1) 1 := hx.2
 rw [zjY]
 refine ⟨rfl, zaI (fun z => ?_) (fun z => ?_)⟩
 ·have hlt := zaN z
  have good := zaV hg hp1 hlt
  have same2 : ∀ {md' : Md} {le : Int} {wh : SV} {s : SS} {R : Prop}, wstep ⟨.st b q, ops, below⟩ (codeAt cs p) p = ⟨md'.kn, ops, below⟩ → Fits (LFu cs tabP tabR) ⟨p + 1, ops, below, le, wh, md'⟩ s → FuT cs tabP tabR p below below (ops.map SV.int) (ops.map SV.int) R (Nxt (LFu cs tabP tabR) ⟨p, ops, below, least, whole, .st b q⟩ s) :=
   fun hw hf => zcY (by lia) (Nat.le_refl _) (by rw [List.length_map]; lia) (zfE hx hlt hw hf)
  refine zaB (zaD (by rw [List.length_map]; lia)) (zaB (zaK _) ⟨rfl, rfl, zaT, good, ?_⟩)
  cases q with
  | true =>
   refine BR_t rfl ?_
   refine' same2 (md' := .st b false) rfl ?f
   case f =>
    exact zaF (zaA rfl (zaA rfl (zaA rfl zaC))) rfl
  | false =>
   refine BR_f rfl ?_
   rcases zaZ good with h | h | h | h | h | h | h | h | h | h
   ·rw [h]
    repeat (first | refine BR_f rfl ?_ | refine BR_t rfl ?_)
    refine' same2 (md' := .st b false) (by rw [h]; rfl) ?f
    case f =>
     exact zaF (zaA rfl (zaA rfl (zaA rfl zaC))) rfl
   ·rw [h]
    repeat (first | refine BR_f rfl ?_ | refine BR_t rfl ?_)
    refine' same2 (md' := .st b false) (by rw [h]; rfl) ?f
    case f =>
     exact zaF (zaA rfl (zaA rfl (zaA rfl zaC))) rfl
   ·rw [h]
    repeat (first | refine BR_f rfl ?_ | refine BR_t rfl ?_)
    refine' same2 (md' := .st b false) (by rw [h]; rfl) ?f
    case f =>
     exact zaF (zaA rfl (zaA rfl (zaA rfl zaC))) rfl
   ·rw [h]
    repeat (first | refine BR_f rfl ?_ | refine BR_t rfl ?_)
    refine' same2 (md' := .st b false) (by rw [h]; rfl) ?f
    case f =>
     exact zaF (zaA rfl (zaA rfl (zaA rfl zaC))) rfl
   ·rw [h]
    repeat (first | refine BR_f rfl ?_ | refine BR_t rfl ?_)
    refine' same2 (md' := .st b false) (by rw [h]; rfl) ?f
    case f =>
     exact zaF (zaA rfl (zaA rfl (zaA rfl zaC))) rfl
   ·rw [h]
    repeat (first | refine BR_f rfl ?_ | refine BR_t rfl ?_)
    refine' same2 (md' := .st b false) (by rw [h]; rfl) ?f
    case f =>
     exact zaF (zaA rfl (zaA rfl (zaA rfl zaC))) rfl
   ·rw [h]
    repeat (first | refine BR_f rfl ?_ | refine BR_t rfl ?_)
    refine' same2 (md' := .st b false) (by rw [h]; rfl) ?f
    case f =>
     exact zaF (zaA rfl (zaA rfl (zaA rfl zaC))) rfl
   ·rw [h]
    repeat (first | refine BR_f rfl ?_ | refine BR_t rfl ?_)
    refine' same2 (md' := .pl) (by rw [h]; rfl) ?f
    case f =>
     exact zaF (zaA rfl (zaA rfl (zaA rfl zaC))) rfl
   ·rw [h]
    repeat (first | refine BR_f rfl ?_ | refine BR_t rfl ?_)
    refine' same2 (md' := .st b false) (by rw [h]; rfl) ?f
    case f =>
     exact zaF (zaA rfl (zaA rfl (zaA rfl zaC))) rfl
   ·rw [h]
    repeat (first | refine BR_f rfl ?_ | refine BR_t rfl ?_)
    refine' same2 (md' := .st b true) (by rw [h]; rfl) ?f
    case f =>
     exact zaF (zaA rfl (zaA rfl (zaA rfl zaC))) rfl
 ·have hge := zaQ z
  rw [zaO (by lia)] at hfu
  rw [← hfu] at hK
  exact za1 hK
theorem zsR (hg : GoodT cs) (hK : K (oi (fu cs ws0 (dropAt cs 1) 1))) {p : Int} {ops : List Int} {below least : Int} {whole : SV} {b : Int} (hx : (LFu cs tabP tabR).P [] ⟨p, ops, below, least, whole, .co b⟩) :
  whTurn (bdOf (TT6 cs) 78) (fcAt 614 (fcFu cs tabP tabR Er) 19) (LFu cs tabP tabR) (whAt 614 1) (restK (bdOf (TT6 cs) 79) (fcAt 614 (fcFu cs tabP tabR Er) 19) (restAt 614 1) (Fz K)) ⟨p, ops, below, least, whole, .co b⟩ := by
 have hk := hx.1
 have hol : (ops.length : Int) ≤ p := hk.ol
 have hp1 : 1 ≤ p := hk.p1
 have hp2 : p ≤ 1 + (cs.length : Int) := hk.p2
 have hcl := hg.1
 have hlen : ops.length ≤ 2000 := by lia
 have hfu : fu cs ⟨.co b, ops, below⟩ (dropAt cs p) p = fu cs ws0 (dropAt cs 1) 1 := hx.2
 rw [zj1]
 refine ⟨rfl, zaI (fun z => ?_) (fun z => ?_)⟩
 ·have hlt := zaN z
  have good := zaV hg hp1 hlt
  have same2 : ∀ {md' : Md} {le : Int} {wh : SV} {s : SS} {R : Prop}, wstep ⟨.co b, ops, below⟩ (codeAt cs p) p = ⟨md'.kn, ops, below⟩ → Fits (LFu cs tabP tabR) ⟨p + 1, ops, below, le, wh, md'⟩ s → FuT cs tabP tabR p below below (ops.map SV.int) (ops.map SV.int) R (Nxt (LFu cs tabP tabR) ⟨p, ops, below, least, whole, .co b⟩ s) :=
   fun hw hf => zcY (by lia) (Nat.le_refl _) (by rw [List.length_map]; lia) (zfE hx hlt hw hf)
  refine zaB (zaD (by rw [List.length_map]; lia)) (zaB (zaK _) ⟨rfl, rfl, zaT, fun h => ⟨rfl, zaT, fun _ => ?_, fun w => absurd h w⟩, fun h => ⟨rfl, zaT, fun _ => ?_, fun _ => ?_⟩⟩)
  ·refine' same2 (md' := .pl) (by rw [h]; rfl) ?f
   case f =>
    exact zaF (zaA rfl (zaA rfl (zaA rfl zaC))) rfl
  all_goals
   have hw : wstep ⟨.co b, ops, below⟩ (codeAt cs p) p = ⟨.co b, ops, below⟩ := by
    show (⟨nx (.co b) (codeAt cs p) p, ops, below⟩ : WS) = _
    unfold nx
    dsimp only
    rw [if_neg h]
   refine' same2 (md' := .co b) hw ?f
   case f =>
    exact zaF (zaA rfl (zaA rfl (zaA rfl zaC))) rfl
 ·have hge := zaQ z
  rw [zaO (by lia)] at hfu
  rw [← hfu] at hK
  exact ziU (i := 2) rfl (by lia) hK
theorem zrP (cs : List Int) (tp tr : SV) (Er : Prop) (K : SV → SS → Prop) : callF (TT6 cs) (bdOf (TT6 cs) 79) (fcFu cs tp tr Er) 614 [VIEW cs, TAB tp tr] ⟨[], []⟩ K =
  ((∃ x0, Fits (LFu cs tp tr) x0 ⟨[(s_view, VIEW cs), (s_table, TAB tp tr), (s_walk, SV.ins 449 1)], [psF, wf cs tp tr (SV.int 1) (SV.obj 2) (SV.int 0) (SV.int 0) SV.none SV.none SV.none (SV.int 0) SV.none (SV.bool false), SO.seq []]⟩ ∧ (LFu cs tp tr).P [] x0) ∧
   ∀ x, (LFu cs tp tr).P [] x → whTurn (bdOf (TT6 cs) 78) (fcAt 614 (fcFu cs tp tr Er) 19) (LFu cs tp tr) (whAt 614 1) (restK (bdOf (TT6 cs) 79) (fcAt 614 (fcFu cs tp tr Er) 19) (restAt 614 1) K) x) := by kernel_rfl
theorem zoD (hg : GoodT cs) (hs : safe .pl (dropAt cs 1) 1) (hK : K (oi (fu cs ws0 (dropAt cs 1) 1))) : Hold (callF (TT6 cs) (bdOf (TT6 cs) 79) (fcFu cs tabP tabR Er) 614 [VIEW cs, TAB tabP tabR] ⟨[], []⟩ (Fz K)) := by
 refine Hold.mk ?_
 rw [zrP]
 refine ⟨⟨⟨1, [], 0, 0, .none, .pl⟩, zaF (zaA rfl (zaA rfl (zaA rfl zaC))) rfl, ⟨by show (1 : Int) ≤ 1; lia, by show (1 : Int) ≤ 1 + (cs.length : Int); lia, hs, fun a ha => (by cases ha), by show ((0 : Nat) : Int) ≤ 1; lia⟩, rfl⟩, fun x hx => ?_⟩
 obtain ⟨p, ops, below, least, whole, md⟩ := x
 cases md with
 | pl => exact zsQ hg hK hx
 | pw w => exact zsP hg hK hx
 | st b q => exact zsO hg hK hx
 | co b => exact zsR hg hK hx
end
theorem zhQ {g : Gl} (H : Facts g) {cs : List Int} (h : GoodT cs) : SemSpec g (S0 g) false 607 12 (spPairX cs) :=
 SemSpec.mono (Nat.le_refl _) (fun vs K Er hs => by
  replace hs := zfS hs
  obtain ⟨v, t, a, b, rfl, hs⟩ := hs
  obtain ⟨i, j, ⟨rfl, rfl⟩, r⟩ := hs
  exact r) (zkN H h)
theorem zlW {g : Gl} (H : Facts g) {cs : List Int} (h : GoodT cs) : ∀ x ∈ L6 cs, SemSpec g (S0 g) false x.1 x.2.1 x.2.2 := by
 intro x hx
 simp only [L6, List.mem_cons, List.not_mem_nil, or_false] at hx
 rcases hx with rfl | rfl | rfl | rfl | rfl | rfl | rfl
 ·exact zbO H h.1
 ·exact zc6 H h.1
 ·exact zcK H h
 ·exact ze4 H h
 ·exact zfW H h
 ·exact zhQ H h
 ·exact zlU H
noncomputable def spFu(cs : List Int) : Spec := fun vs K _ => A2 vs fun v t => IsView cs v ∧ IsTab t ∧ K (oi (fu cs ws0 (dropAt cs 1) 1))
theorem zpJ {g : Gl} (H : Facts g) {cs : List Int} (h : GoodT cs) (hs : safe .pl (dropAt cs 1) 1) : SemSpec g (S0 g) false 614 20 (spFu cs) :=
 zaY (zbG H (cells := [199, 570]) (l := L6 cs) (tr := false) (by kernel_rfl) (zlW H h)) (exc0 g _ rfl) 79 sc0 false fun svs K Er hp => by
  replace hp := zcA hp
  obtain ⟨v, t, rfl, hp⟩ := hp
  obtain ⟨h1, h2, h3⟩ := hp
  unfold IsView at h1
  unfold IsTab at h2
  subst h1 h2
  rw [TABLE_eq]
  exact ⟨lpOf 558004 (LFu cs tabP tabR), zoD h hs h3⟩
noncomputable def LDs (cs : List Int) (tp tr : SV) : Loop where
 σ := WX × List Int
 st := fun x => ⟨[(s_view, VIEW cs), (s_table, TAB tp tr), (s_walk, .ins 449 1), (s_found, .obj 3)], [psF, wF cs tp tr 2 x.1, .seq (x.1.ops.map SV.int), .seq (x.2.map SV.int)]⟩
 P := fun _ x => WkP cs x.1 ∧ (x.2.length : Int) ≤ x.1.p ∧ x.2 ++ ds cs x.1.ws (dropAt cs x.1.p) x.1.p = ds cs ws0 (dropAt cs 1) 1
 ms := fun x => (1 + (cs.length : Int) - x.1.p).toNat
noncomputable abbrev fcDs (cs : List Int) (tp tr : SV) (Er : Prop) : FC := ⟨sc0, 20, lpOf 571004 (LDs cs tp tr), Er, false⟩
noncomputable def DsT (cs : List Int) (p : Int) (l' l : List SV) (n : Nat) (A N : Prop) : Prop :=
 CK (inLine l'.length) (BR (ltB ↑l.length ↑l'.length) (BR (eqB p 1) (CK (inLine n) A) (IsView cs (VIEW cs) ∧ BR (eqB (codeAt cs (p - 1)) 10) (CK (inLine n) A) N)) N)
noncomputable abbrev dsN (cs : List Int) (tp tr : SV) (p : Int) (ops : List Int) (below least : Int) (whole : SV) (fd : List Int) (md : Md) (be le wh wo sg co sa qu : SV) (o f : List SV) : Prop := Nxt (LDs cs tp tr) ((WX.mk p ops below least whole md), fd) { loc := [(s_view, VIEW cs), (s_table, TAB tp tr), (s_walk, SV.ins 449 1), (s_found, SV.obj 3), (s_place, SV.int p), (s_many, SV.int ↑(List.map SV.int ops).length)], H := [psF, wf cs tp tr (SV.int (p + 1)) (SV.obj 2) be le wh wo sg co sa qu, SO.seq o, SO.seq f] }
noncomputable abbrev dsQ (cs : List Int) (tp tr : SV) (p : Int) (ops : List Int) (below least : Int) (whole : SV) (fd : List Int) (md : Md) (a : List SV) (be le wh wo sg co sa qu : SV) (o : List SV) : Prop := DsT cs p a (List.map SV.int ops) (List.map SV.int fd).length (dsN cs tp tr p ops below least whole fd md be le wh wo sg co sa qu o (List.map SV.int fd ++ [SV.int p])) (dsN cs tp tr p ops below least whole fd md be le wh wo sg co sa qu o (List.map SV.int fd))
noncomputable def dsCl (cs : List Int) (tp tr : SV) (p : Int) (ops : List Int) (below least : Int) (whole : SV) (fd : List Int) (md : Md) (o : SO) : Prop :=
 @OM Bool (cmpV { loc := [(s_self, SV.ins 449 1)], H := [psF, o, SO.seq (ops.map SV.int), SO.seq (fd.map SV.int)] } CmpOp.Eq (SV.obj 2) (SV.lst [])) fun v => BR v (CK (inLine (ops.map SV.int).length) (dsQ cs tp tr p ops below least whole fd md (ops.map SV.int) (SV.int (below + 1)) (SV.int (if ↑(ops.map SV.int).length - (below + 1) < least then ↑(ops.map SV.int).length - (below + 1) else least)) SV.none SV.none SV.none (SV.int 0) SV.none (SV.bool Bool.false) (ops.map SV.int))) (CK (inLine (ops.map SV.int).length) (@OM (List SV × SV) (unsnoc (ops.map SV.int)) fun v => CK (inLine v.fst.length) (dsQ cs tp tr p ops below least whole fd md v.fst (SV.int below) (SV.int (if ↑v.fst.length - below < least then ↑v.fst.length - below else least)) v.snd SV.none SV.none (SV.int 0) SV.none (SV.bool Bool.false) v.fst)))
noncomputable def dsC (cs : List Int) (tp tr : SV) (p : Int) (ops : List Int) (below least : Int) (whole : SV) (fd : List Int) (md : Md) (w0 : Int) (wh wd : SV) (o : SO) (c : Int) : Prop :=
 BR (eqS { cps := { toList := [kd (c)] } } (st [92])) (dsQ cs tp tr p ops below least whole fd md (ops.map SV.int) (SV.int below) (SV.int least) whole (SV.int w0) SV.none (SV.int 0) SV.none (SV.bool Bool.true) (ops.map SV.int)) (BR (eqS { cps := { toList := [kd (c)] } } (st [47])) (dsQ cs tp tr p ops below least whole fd md (ops.map SV.int) (SV.int below) (SV.int least) whole (SV.int w0) SV.none (SV.int 0) SV.none (SV.bool Bool.true) (ops.map SV.int)) (BR (eqS { cps := { toList := [kd (c)] } } (st [119])) (dsQ cs tp tr p ops below least whole fd md (ops.map SV.int) (SV.int below) (SV.int least) whole (SV.int w0) SV.none (SV.int 0) SV.none (SV.bool Bool.false) (ops.map SV.int)) (BR (eqS { cps := { toList := [kd (c)] } } (st [95])) (dsQ cs tp tr p ops below least whole fd md (ops.map SV.int) (SV.int below) (SV.int least) whole (SV.int w0) SV.none (SV.int 0) SV.none (SV.bool Bool.false) (ops.map SV.int)) (BR (eqS { cps := { toList := [kd (c)] } } (st [40])) (CK (inLine (ops.map SV.int).length) (dsQ cs tp tr p ops below least whole fd md (ops.map SV.int ++ [SV.int p]) (SV.int below) (SV.int least) SV.none SV.none SV.none (SV.int 0) SV.none (SV.bool Bool.false) (ops.map SV.int ++ [SV.int p]))) (BR (eqS { cps := { toList := [kd (c)] } } (st [41])) (dsCl cs tp tr p ops below least whole fd md o) (BR (eqS { cps := { toList := [kd (c)] } } (st [34])) (IsView cs (VIEW cs) ∧ dsQ cs tp tr p ops below least whole fd md (ops.map SV.int) (SV.int below) (SV.int least) wh SV.none (SV.int (c)) (SV.int 0) (SV.int p) (SV.bool Bool.false) (ops.map SV.int)) (BR (eqS { cps := { toList := [kd (c)] } } (st [124])) (dsQ cs tp tr p ops below least whole fd md (ops.map SV.int) (SV.int below) (SV.int least) wh SV.none (SV.int 0) (SV.int 0) (SV.int p) (SV.bool Bool.false) (ops.map SV.int)) (BR (!eqS { cps := { toList := [kd (c)] } } (st [39])) (dsQ cs tp tr p ops below least whole fd md (ops.map SV.int) (SV.int below) (SV.int least) wh SV.none SV.none (SV.int 0) SV.none (SV.bool Bool.false) (ops.map SV.int)) (dsQ cs tp tr p ops below least whole fd md (ops.map SV.int) (SV.int below) (SV.int least) whole wd SV.none (SV.int 0) SV.none (SV.bool Bool.false) (ops.map SV.int))))))))))
noncomputable def dsV (cs : List Int) (tp tr : SV) (p : Int) (ops : List Int) (below least : Int) (whole : SV) (fd : List Int) (md : Md) (w0 : Int) (wh wd : SV) (o : SO) (K : SV → SS → Prop) : Prop :=
 (IsView cs (VIEW cs) ∧ BR (ltB p (1 + ↑cs.length)) (CK (inLine (ops.map SV.int).length) (IsView cs (VIEW cs) ∧ IsView cs (VIEW cs) ∧ IsTab (TAB tp tr) ∧ (codeAt cs p = 59 → dsQ cs tp tr p ops below least whole fd md (ops.map SV.int) (SV.int below) (SV.int least) wh SV.none SV.none (SV.int 1) (SV.int p) (SV.bool Bool.false) (ops.map SV.int)) ∧ (codeAt cs p ≠ 59 → IsView cs (VIEW cs) ∧ IsTab (TAB tp tr) ∧ (codeAt cs p < 0 → False) ∧ (0 ≤ codeAt cs p → dsC cs tp tr p ops below least whole fd md w0 wh wd o (codeAt cs p))))) (K (SV.obj 3) { loc := [], H := [psF, wF cs tp tr 2 (WX.mk p ops below least whole md), SO.seq (ops.map SV.int), SO.seq (fd.map SV.int)] }))
section
variable {cs : List Int} {tp tr : SV} {p : Int} {ops : List Int} {below least : Int} {whole : SV} {fd : List Int} {md : Md} {w0 : Int} {wh wd : SV} {o : SO}
theorem zq7 : dsC cs tp tr p ops below least whole fd md w0 wh wd o 40 = CK (inLine (ops.map SV.int).length) (dsQ cs tp tr p ops below least whole fd md ((ops.map SV.int) ++ [.int p]) (.int below) (.int least) .none .none .none (.int 0) .none (.bool false) ((ops.map SV.int) ++ [.int p])) := by kernel_rfl
theorem zq6 : dsC cs tp tr p ops below least whole fd md w0 wh wd o 41 = dsCl cs tp tr p ops below least whole fd md o := by kernel_rfl
theorem zq5 : dsC cs tp tr p ops below least whole fd md w0 wh wd o 91 = CK (inLine (ops.map SV.int).length) (dsQ cs tp tr p ops below least whole fd md ((ops.map SV.int) ++ [.int p]) (.int below) (.int least) .none .none .none (.int 0) .none (.bool false) ((ops.map SV.int) ++ [.int p])) := by kernel_rfl
theorem zq4 : dsC cs tp tr p ops below least whole fd md w0 wh wd o 93 = dsCl cs tp tr p ops below least whole fd md o := by kernel_rfl
theorem zq3 : dsC cs tp tr p ops below least whole fd md w0 wh wd o 97 = dsQ cs tp tr p ops below least whole fd md (ops.map SV.int) (.int below) (.int least) whole (.int w0) .none (.int 0) .none (.bool false) (ops.map SV.int) := by kernel_rfl
theorem zq9 : dsC cs tp tr p ops below least whole fd md w0 wh wd o 32 = dsQ cs tp tr p ops below least whole fd md (ops.map SV.int) (.int below) (.int least) wh .none .none (.int 0) .none (.bool false) (ops.map SV.int) := by kernel_rfl
theorem zrA : dsC cs tp tr p ops below least whole fd md w0 wh wd o 10 = dsQ cs tp tr p ops below least whole fd md (ops.map SV.int) (.int below) (.int least) wh .none .none (.int 0) .none (.bool false) (ops.map SV.int) := by kernel_rfl
theorem zq8 : dsC cs tp tr p ops below least whole fd md w0 wh wd o 34 = (IsView cs (VIEW cs) ∧ dsQ cs tp tr p ops below least whole fd md (ops.map SV.int) (.int below) (.int least) wh .none (.int 34) (.int 0) (.int p) (.bool false) (ops.map SV.int)) := by kernel_rfl
end
theorem zj8 (cs : List Int) (tp tr : SV) (Er : Prop) (K : SV → SS → Prop) (p : Int) (ops : List Int) (below least : Int) (whole : SV) (fd : List Int) : whTurn (bdOf (TT6 cs) 78) (fcAt 621 (fcDs cs tp tr Er) 19) (LDs cs tp tr) (whAt 621 2) (restK (bdOf (TT6 cs) 79) (fcAt 621 (fcDs cs tp tr Er) 19) (restAt 621 2) K) (⟨p, ops, below, least, whole, .pl⟩, fd) =
  dsV cs tp tr p ops below least whole fd .pl p whole .none (wF cs tp tr 2 (WX.mk p ops below least whole .pl)) K := by kernel_rfl
theorem zj7 (cs : List Int) (tp tr : SV) (Er : Prop) (K : SV → SS → Prop) (p : Int) (ops : List Int) (below least : Int) (whole : SV) (fd : List Int) (w : Int) : whTurn (bdOf (TT6 cs) 78) (fcAt 621 (fcDs cs tp tr Er) 19) (LDs cs tp tr) (whAt 621 2) (restK (bdOf (TT6 cs) 79) (fcAt 621 (fcDs cs tp tr Er) 19) (restAt 621 2) K) (⟨p, ops, below, least, whole, .pw w⟩, fd) =
  dsV cs tp tr p ops below least whole fd (.pw w) w (.int w) (.int w) (wF cs tp tr 2 (WX.mk p ops below least whole (.pw w))) K := by kernel_rfl
theorem zj6 (cs : List Int) (tp tr : SV) (Er : Prop) (K : SV → SS → Prop) (p : Int) (ops : List Int) (below least : Int) (whole : SV) (fd : List Int) (b : Int) (q : Bool) : whTurn (bdOf (TT6 cs) 78) (fcAt 621 (fcDs cs tp tr Er) 19) (LDs cs tp tr) (whAt 621 2) (restK (bdOf (TT6 cs) 79) (fcAt 621 (fcDs cs tp tr Er) 19) (restAt 621 2) K) (⟨p, ops, below, least, whole, .st b q⟩, fd) =
  (IsView cs (VIEW cs) ∧ BR (ltB p (1 + ↑cs.length)) (CK (inLine (List.map SV.int ops).length) (IsView cs (VIEW cs) ∧ IsView cs (VIEW cs) ∧ IsTab (TAB tp tr) ∧ GoodC (codeAt cs p) ∧ BR q (dsQ cs tp tr p ops below least whole fd (Md.st b q) (List.map SV.int ops) (SV.int below) (SV.int least) whole SV.none (SV.int 34) (SV.int 0) (SV.int b) (SV.bool Bool.false) (List.map SV.int ops)) (BR (eqS { cps := { toList := [kd (codeAt cs p)] } } (st [92])) (dsQ cs tp tr p ops below least whole fd (Md.st b q) (List.map SV.int ops) (SV.int below) (SV.int least) whole SV.none (SV.int 34) (SV.int 0) (SV.int b) (SV.bool Bool.true) (List.map SV.int ops)) (BR (eqS { cps := { toList := [kd (codeAt cs p)] } } (st [47])) (dsQ cs tp tr p ops below least whole fd (Md.st b q) (List.map SV.int ops) (SV.int below) (SV.int least) whole SV.none (SV.int 34) (SV.int 0) (SV.int b) (SV.bool Bool.true) (List.map SV.int ops)) (BR (eqB (codeAt cs p) 34) (BR (eqS { cps := { toList := [kd (codeAt cs p)] } } (st [34])) (dsQ cs tp tr p ops below least whole fd (Md.st b q) (List.map SV.int ops) (SV.int below) (SV.int least) (SV.int b) SV.none SV.none (SV.int 0) SV.none (SV.bool q) (List.map SV.int ops)) (dsQ cs tp tr p ops below least whole fd (Md.st b q) (List.map SV.int ops) (SV.int below) (SV.int least) whole SV.none (SV.int 34) (SV.int 0) (SV.int b) (SV.bool q) (List.map SV.int ops))) (dsQ cs tp tr p ops below least whole fd (Md.st b q) (List.map SV.int ops) (SV.int below) (SV.int least) whole SV.none (SV.int 34) (SV.int 0) (SV.int b) (SV.bool q) (List.map SV.int ops))))))) (K (SV.obj 3) { loc := [], H := [psF, wF cs tp tr 2 ((WX.mk p ops below least whole (Md.st b q)), fd).fst, SO.seq (List.map SV.int ops), SO.seq (List.map SV.int fd)] })) := by kernel_rfl
theorem zj9 (cs : List Int) (tp tr : SV) (Er : Prop) (K : SV → SS → Prop) (p : Int) (ops : List Int) (below least : Int) (whole : SV) (fd : List Int) (b : Int) : whTurn (bdOf (TT6 cs) 78) (fcAt 621 (fcDs cs tp tr Er) 19) (LDs cs tp tr) (whAt 621 2) (restK (bdOf (TT6 cs) 79) (fcAt 621 (fcDs cs tp tr Er) 19) (restAt 621 2) K) (⟨p, ops, below, least, whole, .co b⟩, fd) =
  (IsView cs (VIEW cs) ∧ BR (ltB p (1 + ↑cs.length)) (CK (inLine (List.map SV.int ops).length) (IsView cs (VIEW cs) ∧ IsView cs (VIEW cs) ∧ IsTab (TAB tp tr) ∧ (codeAt cs p = 10 → IsView cs (VIEW cs) ∧ IsTab (TAB tp tr) ∧ (codeAt cs p = 10 → dsQ cs tp tr p ops below least whole fd (Md.co b) (List.map SV.int ops) (SV.int below) (SV.int least) whole SV.none SV.none (SV.int 0) SV.none (SV.bool Bool.false) (List.map SV.int ops)) ∧ (codeAt cs p ≠ 10 → False)) ∧ (codeAt cs p ≠ 10 → IsView cs (VIEW cs) ∧ IsTab (TAB tp tr) ∧ (codeAt cs p = 59 → dsQ cs tp tr p ops below least whole fd (Md.co b) (List.map SV.int ops) (SV.int below) (SV.int least) whole SV.none SV.none (SV.int 1) (SV.int b) (SV.bool Bool.false) (List.map SV.int ops)) ∧ (codeAt cs p ≠ 59 → dsQ cs tp tr p ops below least whole fd (Md.co b) (List.map SV.int ops) (SV.int below) (SV.int least) whole SV.none SV.none (SV.int 1) (SV.int b) (SV.bool Bool.false) (List.map SV.int ops))))) (K (SV.obj 3) { loc := [], H := [psF, wF cs tp tr 2 ((WX.mk p ops below least whole (Md.co b)), fd).fst, SO.seq (List.map SV.int ops), SO.seq (List.map SV.int fd)] })) := by kernel_rfl
theorem zcZ {cs : List Int} {p : Int} {l' l : List SV} {n : Nat} {A N : Prop} (hm : l'.length ≤ 100000) (h : l'.length ≤ l.length) (hN : N) : DsT cs p l' l n A N :=
 zaB (zaD hm) (zaI (fun q => by have := zaN q; lia) fun _ => hN)
theorem zk8 {cs : List Int} {p : Int} {l' l : List SV} {n : Nat} {A N : Prop} (hm : l'.length ≤ 100000) (hn : n ≤ 100000) (h : l.length < l'.length) (hA : p = 1 ∨ codeAt cs (p - 1) = 10 → A) (hN : ¬ (p = 1 ∨ codeAt cs (p - 1) = 10) → N) : DsT cs p l' l n A N := by
 refine zaB (zaD hm) (BR_t (decide_eq_true (by lia)) (zaI (fun q => zaB (zaD hn) (hA (.inl (of_decide_eq_true q)))) fun q => ⟨rfl, zaI (fun q2 => zaB (zaD hn) (hA (.inr (of_decide_eq_true q2)))) fun q2 => hN ?_⟩))
 rintro (z | z)
 ·exact of_decide_eq_false q z
 ·exact of_decide_eq_false q2 z
theorem zfJ {cs : List Int} {tp tr : SV} {x : WX × List Int} {y : WX} {fd' : List Int} (hx : (LDs cs tp tr).P [] x) (hlt : x.1.p < 1 + (cs.length : Int)) (hp : y.p = x.1.p + 1) (hw : y.ws = wstep x.1.ws (codeAt cs x.1.p) x.1.p)
  (ho : ∀ a ∈ y.ops, codeAt cs a = 40 ∨ codeAt cs a = 91) (hf : (x.1.ops.length < y.ops.length ∧ (x.1.p = 1 ∨ codeAt cs (x.1.p - 1) = 10) ∧ fd' = x.2 ++ [x.1.p]) ∨ (¬ (x.1.ops.length < y.ops.length ∧ (x.1.p = 1 ∨ codeAt cs (x.1.p - 1) = 10)) ∧ fd' = x.2)) :
  (LDs cs tp tr).P [] (y, fd') ∧ (LDs cs tp tr).ms (y, fd') < (LDs cs tp tr).ms x := by
 obtain ⟨hk, hl, hd⟩ := hx
 rw [zaM hk.p1 hlt] at hd
 have hms : (LDs cs tp tr).ms (y, fd') < (LDs cs tp tr).ms x := by
  show (1 + (cs.length : Int) - y.p).toNat < (1 + (cs.length : Int) - x.1.p).toNat
  omega
 rcases hf with ⟨h1, h2, rfl⟩ | ⟨h1, rfl⟩
 ·refine ⟨⟨hk.step hlt hp hw ho, ?_, ?_⟩, hms⟩
  ·show (((x.2 ++ [x.1.p]).length : Nat) : Int) ≤ y.p
   rw [List.length_append, hp]; simp; omega
  ·show (x.2 ++ [x.1.p]) ++ ds cs y.ws (dropAt cs y.p) y.p = _
   have e := zl5 (cs := cs) (r := dropAt cs (x.1.p + 1)) hw ⟨h1, h2⟩
   rw [e] at hd
   rw [hp, List.append_assoc]; exact hd
 ·refine ⟨⟨hk.step hlt hp hw ho, by show (x.2.length : Int) ≤ y.p; omega, ?_⟩, hms⟩
  have e := zn6 (cs := cs) (r := dropAt cs (x.1.p + 1)) hw h1
  rw [e] at hd
  show x.2 ++ ds cs y.ws (dropAt cs y.p) y.p = _
  rw [hp]; exact hd
section
variable {cs : List Int} {K : SV → Prop} {Er : Prop}
theorem zfR {K : SV → Prop} {l : List (Str × SV)} {H : List SO} {i : Nat} {fd : List Int} (hH : H[i]? = some (.seq (fd.map SV.int))) (h : K (.lst (fd.map SV.int))) : Fz K (.obj i) ⟨l, H⟩ := by
 have all : ∀ fd : List Int, frzL (frz H 1) (fd.map SV.int) = some (fd.map SV.int) := fun fd => by
  induction fd with
  | nil => rfl
  | cons a r ih =>
   show (frzL (frz H 1) (r.map SV.int)).map (SV.int a :: ·) = _
   rw [ih]; rfl
 refine ⟨2, .lst (fd.map SV.int), ?_, h⟩
 show H[i]?.bind (soF (fun vs => (frzL (frz H 1) vs).map SV.lst) _ _) = _
 rw [hH]
 show (frzL (frz H 1) (fd.map SV.int)).map SV.lst = _
 rw [all]; rfl
theorem ds_m (hg : GoodT cs) (hK : K (.lst ((ds cs ws0 (dropAt cs 1) 1).map SV.int))) {p : Int} {ops : List Int} {below least : Int} {whole : SV} {fd : List Int} {md : Md} (hm : md.kn = .pl) {w0 : Int} {wh wd : SV} {o : SO} (hx : (LDs cs tabP tabR).P [] (⟨p, ops, below, least, whole, md⟩, fd)) :
  dsV cs tabP tabR p ops below least whole fd md w0 wh wd o (Fz K) := by
 have hk := hx.1
 have hol : (ops.length : Int) ≤ p := hk.ol
 have hp1 : 1 ≤ p := hk.p1
 have hp2 : p ≤ 1 + (cs.length : Int) := hk.p2
 have hfl : (fd.length : Int) ≤ p := hx.2.1
 have hop : ∀ a ∈ ops, codeAt cs a = 40 ∨ codeAt cs a = 91 := hk.op
 have hcl := hg.1
 have hlen : ops.length ≤ 2000 := by lia
 have hM : inLine (List.map SV.int ops).length = true := zaD (by rw [List.length_map]; lia)
 have hds : fd ++ ds cs ⟨.pl, ops, below⟩ (dropAt cs p) p = ds cs ws0 (dropAt cs 1) 1 := hm ▸ (show fd ++ ds cs ⟨md.kn, ops, below⟩ (dropAt cs p) p = _ from hx.2.2)
 refine ⟨rfl, zaI (fun z => ?_) (fun z => ?_)⟩
 ·have hlt := zaN z
  have good := zaV hg hp1 hlt
  have h92 : codeAt cs p ≠ 92 := zhT hk hlt hm
  have nx : ∀ {y : WX} {fd' : List Int}, y.p = p + 1 → y.ws = wstep ⟨.pl, ops, below⟩ (codeAt cs p) p → (∀ a ∈ y.ops, codeAt cs a = 40 ∨ codeAt cs a = 91) → (ops.length < y.ops.length ∧ (p = 1 ∨ codeAt cs (p - 1) = 10) ∧ fd' = fd ++ [p]) ∨ (¬ (ops.length < y.ops.length ∧ (p = 1 ∨ codeAt cs (p - 1) = 10)) ∧ fd' = fd) → (LDs cs tabP tabR).P [] (y, fd') ∧ (LDs cs tabP tabR).ms (y, fd') < (LDs cs tabP tabR).ms (⟨p, ops, below, least, whole, md⟩, fd) :=
   fun h1 h2 => zfJ hx hlt h1 (hm ▸ h2 : _ = wstep ⟨md.kn, ops, below⟩ _ _)
  have same2 : ∀ {md' : Md} {le : Int} {wh : SV} {s : SS} {A : Prop}, wstep ⟨.pl, ops, below⟩ (codeAt cs p) p = ⟨md'.kn, ops, below⟩ → Fits (LDs cs tabP tabR) (⟨p + 1, ops, below, le, wh, md'⟩, fd) s → DsT cs p (ops.map SV.int) (ops.map SV.int) (fd.map SV.int).length A (Nxt (LDs cs tabP tabR) (⟨p, ops, below, least, whole, md⟩, fd) s) :=
   fun hw hf => zcZ (by rw [List.length_map]; lia) (Nat.le_refl _) ⟨_, hf, nx rfl hw.symm hop (.inr ⟨fun w => Nat.lt_irrefl _ w.1, rfl⟩)⟩
  refine zaB hM ⟨rfl, rfl, zaT, fun h59 => ?_, fun h59 => ⟨rfl, zaT, fun z => absurd z (by have := zbZ good; lia), fun _ => ?_⟩⟩
  ·exact same2 (md' := .co p) (by rw [h59]; rfl) (zaF (zaA rfl (zaA rfl (zaA rfl (zaA rfl zaC)))) rfl)
  have opn : (codeAt cs p = 40 ∨ codeAt cs p = 91) → CK (inLine (ops.map SV.int).length) (dsQ cs tabP tabR p ops below least whole fd md (ops.map SV.int ++ [.int p]) (.int below) (.int least) .none .none .none (.int 0) .none (.bool false) (ops.map SV.int ++ [.int p])) := fun hc => by
   have hw : (⟨.pl, ops ++ [p], below⟩ : WS) = wstep ⟨.pl, ops, below⟩ (codeAt cs p) p := by
    unfold wstep
    dsimp only
    rw [if_pos hc]
   have ho : ∀ a ∈ ops ++ [p], codeAt cs a = 40 ∨ codeAt cs a = 91 := fun a ha => by
    rcases List.mem_append.mp ha with z | z
    ·exact hop a z
    ·rw [List.mem_singleton.mp z]; exact hc
   have hl : ops.length < (ops ++ [p]).length := by rw [List.length_append]; exact Nat.lt_succ_self _
   refine zaB hM (zk8 (by rw [List.length_append, List.length_map]; exact Nat.le_trans (Nat.add_le_add_right hlen _) (show 2000 + 1 ≤ 100000 by decide)) (by rw [List.length_map]; lia) (by rw [List.length_append]; exact Nat.lt_succ_self _)
    (fun w => ⟨(⟨p + 1, ops ++ [p], below, least, .none, .pl⟩, fd ++ [p]), zaF (zaA rfl (zaA rfl (zaA rfl (zaA rfl zaC)))) ?_, nx rfl hw ho (.inl ⟨hl, w, rfl⟩)⟩) fun w => ⟨(⟨p + 1, ops ++ [p], below, least, .none, .pl⟩, fd), zaF (zaA rfl (zaA rfl (zaA rfl (zaA rfl zaC)))) ?_, nx rfl hw ho (.inr ⟨fun v => w v.2, rfl⟩)⟩)
   ·show _ = [_, _, SO.seq ((ops ++ [p]).map SV.int), SO.seq ((fd ++ [p]).map SV.int)]
    rw [List.map_append, List.map_append]; rfl
   ·show _ = [_, _, SO.seq ((ops ++ [p]).map SV.int), _]
    rw [List.map_append]; rfl
  have clo : (codeAt cs p = 41 ∨ codeAt cs p = 93) → dsCl cs tabP tabR p ops below least whole fd md o := fun hc => by
   have cls : ∀ (o : List Int) (b : Int), wstep ⟨.pl, ops, below⟩ (codeAt cs p) p = ⟨.pl, o, b⟩ → (∀ a ∈ o, a ∈ ops) → o.length ≤ ops.length → ∀ {le : Int} {wh : SV} {s : SS} {A : Prop}, Fits (LDs cs tabP tabR) (⟨p + 1, o, b, le, wh, .pl⟩, fd) s →
     DsT cs p (o.map SV.int) (ops.map SV.int) (fd.map SV.int).length A (Nxt (LDs cs tabP tabR) (⟨p, ops, below, least, whole, md⟩, fd) s) := fun o b hw hsub hl le wh s A hf =>
    zcZ (by rw [List.length_map]; lia) (by rw [List.length_map, List.length_map]; exact hl) ⟨_, hf, nx rfl hw.symm (fun a ha => hop a (hsub a ha)) (.inr ⟨fun w => Nat.not_lt.mpr hl w.1, rfl⟩)⟩
   rcases List.eq_nil_or_concat ops with rfl | ⟨i, a, he⟩
   ·exact zaE (a := true) rfl (BR_t rfl (zaB rfl (cls [] (below + 1) (by unfold wstep; dsimp only; rw [if_neg (by lia), if_pos hc, if_pos rfl]) (fun _ q => q) (Nat.le_refl _) (zaF (zaA rfl (zaA rfl (zaA rfl (zaA rfl zaC)))) rfl))))
   ·obtain rfl : ops = i ++ [a] := by simpa using he
    have hws : wstep ⟨.pl, i ++ [a], below⟩ (codeAt cs p) p = ⟨.pl, i, below⟩ := by
     unfold wstep
     dsimp only
     rw [if_neg (by lia), if_pos hc, if_neg (by simp), List.dropLast_concat]
    have hil : i.length ≤ (i ++ [a]).length := by rw [List.length_append]; exact Nat.le_add_right _ _
    exact zaE (a := false) (by show eqLI ((i ++ [a]).map SV.int) [] = some false; rw [zcH]; simp) (BR_f rfl (zaB hM (zaE (a := (i.map SV.int, SV.int a)) (by rw [List.map_append]; exact zb0 _ _) (zaB (zaD (by show (List.map SV.int i).length ≤ _; rw [List.length_map]; lia)) (cls i below hws (fun _ q => List.mem_append_left _ q) hil (zaF (zaA rfl (zaA rfl (zaA rfl (zaA rfl zaC)))) rfl))))))
  rcases zaZ good with h | h | h | h | h | h | h | h | h | h
  ·rw [h, zq7]; exact opn (.inl h)
  ·rw [h, zq6]; exact clo (.inl h)
  ·rw [h, zq5]; exact opn (.inr h)
  ·rw [h, zq4]; exact clo (.inr h)
  ·rw [h, zq3]; exact same2 (md' := .pw w0) (by rw [h]; rfl) (zaF (zaA rfl (zaA rfl (zaA rfl (zaA rfl zaC)))) rfl)
  ·rw [h, zq9]; exact same2 (md' := .pl) (by rw [h]; rfl) (zaF (zaA rfl (zaA rfl (zaA rfl (zaA rfl zaC)))) rfl)
  ·rw [h, zrA]; exact same2 (md' := .pl) (by rw [h]; rfl) (zaF (zaA rfl (zaA rfl (zaA rfl (zaA rfl zaC)))) rfl)
  ·rw [h, zq8]; exact ⟨rfl, same2 (md' := .st p false) (by rw [h]; rfl) (zaF (zaA rfl (zaA rfl (zaA rfl (zaA rfl zaC)))) rfl)⟩
  ·exact absurd h h59
  ·exact absurd h h92
 ·have hge := zaQ z
  rw [zaO (by lia)] at hds
  have e : fd = ds cs ws0 (dropAt cs 1) 1 := by rw [← hds]; unfold ds; simp
  rw [← e] at hK
  exact zfR rfl hK
theorem zsW (hg : GoodT cs) (hK : K (.lst ((ds cs ws0 (dropAt cs 1) 1).map SV.int))) {p : Int} {ops : List Int} {below least : Int} {whole : SV} {fd : List Int} (hx : (LDs cs tabP tabR).P [] (⟨p, ops, below, least, whole, .pl⟩, fd)) :
  whTurn (bdOf (TT6 cs) 78) (fcAt 621 (fcDs cs tabP tabR Er) 19) (LDs cs tabP tabR) (whAt 621 2) (restK (bdOf (TT6 cs) 79) (fcAt 621 (fcDs cs tabP tabR Er) 19) (restAt 621 2) (Fz K)) (⟨p, ops, below, least, whole, .pl⟩, fd) :=
 zj8 .. ▸ ds_m hg hK rfl hx
theorem zsV (hg : GoodT cs) (hK : K (.lst ((ds cs ws0 (dropAt cs 1) 1).map SV.int))) {p : Int} {ops : List Int} {below least : Int} {whole : SV} {fd : List Int} {w : Int} (hx : (LDs cs tabP tabR).P [] (⟨p, ops, below, least, whole, .pw w⟩, fd)) :
  whTurn (bdOf (TT6 cs) 78) (fcAt 621 (fcDs cs tabP tabR Er) 19) (LDs cs tabP tabR) (whAt 621 2) (restK (bdOf (TT6 cs) 79) (fcAt 621 (fcDs cs tabP tabR Er) 19) (restAt 621 2) (Fz K)) (⟨p, ops, below, least, whole, .pw w⟩, fd) :=
 zj7 .. ▸ ds_m hg hK rfl hx
theorem zsU (hg : GoodT cs) (hK : K (.lst ((ds cs ws0 (dropAt cs 1) 1).map SV.int))) {p : Int} {ops : List Int} {below least : Int} {whole : SV} {fd : List Int} {b : Int} {q : Bool} (hx : (LDs cs tabP tabR).P [] (⟨p, ops, below, least, whole, .st b q⟩, fd)) :
  whTurn (bdOf (TT6 cs) 78) (fcAt 621 (fcDs cs tabP tabR Er) 19) (LDs cs tabP tabR) (whAt 621 2) (restK (bdOf (TT6 cs) 79) (fcAt 621 (fcDs cs tabP tabR Er) 19) (restAt 621 2) (Fz K)) (⟨p, ops, below, least, whole, .st b q⟩, fd) := by
 have hk := hx.1
 have hol : (ops.length : Int) ≤ p := hk.ol
 have hp1 : 1 ≤ p := hk.p1
 have hp2 : p ≤ 1 + (cs.length : Int) := hk.p2
 have hfl : (fd.length : Int) ≤ p := hx.2.1
 have hop : ∀ a ∈ ops, codeAt cs a = 40 ∨ codeAt cs a = 91 := hk.op
 have hcl := hg.1
 have hlen : ops.length ≤ 2000 := by lia
 have hds : fd ++ ds cs ⟨.st b q, ops, below⟩ (dropAt cs p) p = ds cs ws0 (dropAt cs 1) 1 := hx.2.2
 rw [zj6]
 refine ⟨rfl, zaI (fun z => ?_) (fun z => ?_)⟩
 ·have hlt := zaN z
  have good := zaV hg hp1 hlt
  have same2 : ∀ {md' : Md} {le : Int} {wh : SV} {s : SS} {A : Prop}, wstep ⟨.st b q, ops, below⟩ (codeAt cs p) p = ⟨md'.kn, ops, below⟩ → Fits (LDs cs tabP tabR) (⟨p + 1, ops, below, le, wh, md'⟩, fd) s → DsT cs p (ops.map SV.int) (ops.map SV.int) (fd.map SV.int).length A (Nxt (LDs cs tabP tabR) (⟨p, ops, below, least, whole, .st b q⟩, fd) s) :=
   fun hw hf => zcZ (by rw [List.length_map]; lia) (Nat.le_refl _) ⟨_, hf, zfJ hx hlt rfl hw.symm hop (.inr ⟨fun w => Nat.lt_irrefl _ w.1, rfl⟩)⟩
  refine zaB (zaD (by rw [List.length_map]; lia)) ⟨rfl, rfl, zaT, good, ?_⟩
  cases q with
  | true =>
   refine BR_t rfl ?_
   refine' same2 (md' := .st b false) rfl ?f
   case f =>
    exact zaF (zaA rfl (zaA rfl (zaA rfl (zaA rfl zaC)))) rfl
  | false =>
   refine BR_f rfl ?_
   rcases zaZ good with h | h | h | h | h | h | h | h | h | h
   ·rw [h]
    repeat (first | refine BR_f rfl ?_ | refine BR_t rfl ?_)
    refine' same2 (md' := .st b false) (by rw [h]; rfl) ?f
    case f =>
     exact zaF (zaA rfl (zaA rfl (zaA rfl (zaA rfl zaC)))) rfl
   ·rw [h]
    repeat (first | refine BR_f rfl ?_ | refine BR_t rfl ?_)
    refine' same2 (md' := .st b false) (by rw [h]; rfl) ?f
    case f =>
     exact zaF (zaA rfl (zaA rfl (zaA rfl (zaA rfl zaC)))) rfl
   ·rw [h]
    repeat (first | refine BR_f rfl ?_ | refine BR_t rfl ?_)
    refine' same2 (md' := .st b false) (by rw [h]; rfl) ?f
    case f =>
     exact zaF (zaA rfl (zaA rfl (zaA rfl (zaA rfl zaC)))) rfl
   ·rw [h]
    repeat (first | refine BR_f rfl ?_ | refine BR_t rfl ?_)
    refine' same2 (md' := .st b false) (by rw [h]; rfl) ?f
    case f =>
     exact zaF (zaA rfl (zaA rfl (zaA rfl (zaA rfl zaC)))) rfl
   ·rw [h]
    repeat (first | refine BR_f rfl ?_ | refine BR_t rfl ?_)
    refine' same2 (md' := .st b false) (by rw [h]; rfl) ?f
    case f =>
     exact zaF (zaA rfl (zaA rfl (zaA rfl (zaA rfl zaC)))) rfl
   ·rw [h]
    repeat (first | refine BR_f rfl ?_ | refine BR_t rfl ?_)
    refine' same2 (md' := .st b false) (by rw [h]; rfl) ?f
    case f =>
     exact zaF (zaA rfl (zaA rfl (zaA rfl (zaA rfl zaC)))) rfl
   ·rw [h]
    repeat (first | refine BR_f rfl ?_ | refine BR_t rfl ?_)
    refine' same2 (md' := .st b false) (by rw [h]; rfl) ?f
    case f =>
     exact zaF (zaA rfl (zaA rfl (zaA rfl (zaA rfl zaC)))) rfl
   ·rw [h]
    repeat (first | refine BR_f rfl ?_ | refine BR_t rfl ?_)
    refine' same2 (md' := .pl) (by rw [h]; rfl) ?f
    case f =>
     exact zaF (zaA rfl (zaA rfl (zaA rfl (zaA rfl zaC)))) rfl
   ·rw [h]
    repeat (first | refine BR_f rfl ?_ | refine BR_t rfl ?_)
    refine' same2 (md' := .st b false) (by rw [h]; rfl) ?f
    case f =>
     exact zaF (zaA rfl (zaA rfl (zaA rfl (zaA rfl zaC)))) rfl
   ·rw [h]
    repeat (first | refine BR_f rfl ?_ | refine BR_t rfl ?_)
    refine' same2 (md' := .st b true) (by rw [h]; rfl) ?f
    case f =>
     exact zaF (zaA rfl (zaA rfl (zaA rfl (zaA rfl zaC)))) rfl
 ·have hge := zaQ z
  rw [zaO (by lia)] at hds
  have e : fd = ds cs ws0 (dropAt cs 1) 1 := by rw [← hds]; unfold ds; simp
  rw [← e] at hK
  exact zfR rfl hK
theorem zsX (hg : GoodT cs) (hK : K (.lst ((ds cs ws0 (dropAt cs 1) 1).map SV.int))) {p : Int} {ops : List Int} {below least : Int} {whole : SV} {fd : List Int} {b : Int} (hx : (LDs cs tabP tabR).P [] (⟨p, ops, below, least, whole, .co b⟩, fd)) :
  whTurn (bdOf (TT6 cs) 78) (fcAt 621 (fcDs cs tabP tabR Er) 19) (LDs cs tabP tabR) (whAt 621 2) (restK (bdOf (TT6 cs) 79) (fcAt 621 (fcDs cs tabP tabR Er) 19) (restAt 621 2) (Fz K)) (⟨p, ops, below, least, whole, .co b⟩, fd) := by
 have hk := hx.1
 have hol : (ops.length : Int) ≤ p := hk.ol
 have hp1 : 1 ≤ p := hk.p1
 have hp2 : p ≤ 1 + (cs.length : Int) := hk.p2
 have hfl : (fd.length : Int) ≤ p := hx.2.1
 have hop : ∀ a ∈ ops, codeAt cs a = 40 ∨ codeAt cs a = 91 := hk.op
 have hcl := hg.1
 have hlen : ops.length ≤ 2000 := by lia
 have hds : fd ++ ds cs ⟨.co b, ops, below⟩ (dropAt cs p) p = ds cs ws0 (dropAt cs 1) 1 := hx.2.2
 rw [zj9]
 refine ⟨rfl, zaI (fun z => ?_) (fun z => ?_)⟩
 ·have hlt := zaN z
  have good := zaV hg hp1 hlt
  have same2 : ∀ {md' : Md} {le : Int} {wh : SV} {s : SS} {A : Prop}, wstep ⟨.co b, ops, below⟩ (codeAt cs p) p = ⟨md'.kn, ops, below⟩ → Fits (LDs cs tabP tabR) (⟨p + 1, ops, below, le, wh, md'⟩, fd) s → DsT cs p (ops.map SV.int) (ops.map SV.int) (fd.map SV.int).length A (Nxt (LDs cs tabP tabR) (⟨p, ops, below, least, whole, .co b⟩, fd) s) :=
   fun hw hf => zcZ (by rw [List.length_map]; lia) (Nat.le_refl _) ⟨_, hf, zfJ hx hlt rfl hw.symm hop (.inr ⟨fun w => Nat.lt_irrefl _ w.1, rfl⟩)⟩
  refine zaB (zaD (by rw [List.length_map]; lia)) ⟨rfl, rfl, zaT, fun h => ⟨rfl, zaT, fun _ => ?_, fun w => absurd h w⟩, fun h => ⟨rfl, zaT, fun _ => ?_, fun _ => ?_⟩⟩
  ·refine' same2 (md' := .pl) (by rw [h]; rfl) ?f
   case f =>
    exact zaF (zaA rfl (zaA rfl (zaA rfl (zaA rfl zaC)))) rfl
  all_goals
   have hw : wstep ⟨.co b, ops, below⟩ (codeAt cs p) p = ⟨.co b, ops, below⟩ := by
    show (⟨nx (.co b) (codeAt cs p) p, ops, below⟩ : WS) = _
    unfold nx
    dsimp only
    rw [if_neg h]
   refine' same2 (md' := .co b) hw ?f
   case f =>
    exact zaF (zaA rfl (zaA rfl (zaA rfl (zaA rfl zaC)))) rfl
 ·have hge := zaQ z
  rw [zaO (by lia)] at hds
  have e : fd = ds cs ws0 (dropAt cs 1) 1 := by rw [← hds]; unfold ds; simp
  rw [← e] at hK
  exact zfR rfl hK
theorem zrR (cs : List Int) (tp tr : SV) (Er : Prop) (K : SV → SS → Prop) : callF (TT6 cs) (bdOf (TT6 cs) 79) (fcDs cs tp tr Er) 621 [VIEW cs, TAB tp tr] ⟨[], []⟩ K =
  ((∃ x0, Fits (LDs cs tp tr) x0 ⟨[(s_view, VIEW cs), (s_table, TAB tp tr), (s_walk, SV.ins 449 1), (s_found, .obj 3)], [psF, wf cs tp tr (SV.int 1) (SV.obj 2) (SV.int 0) (SV.int 0) SV.none SV.none SV.none (SV.int 0) SV.none (SV.bool false), SO.seq [], SO.seq []]⟩ ∧ (LDs cs tp tr).P [] x0) ∧
   ∀ x, (LDs cs tp tr).P [] x → whTurn (bdOf (TT6 cs) 78) (fcAt 621 (fcDs cs tp tr Er) 19) (LDs cs tp tr) (whAt 621 2) (restK (bdOf (TT6 cs) 79) (fcAt 621 (fcDs cs tp tr Er) 19) (restAt 621 2) K) x) := by kernel_rfl
theorem zoE (hg : GoodT cs) (hs : safe .pl (dropAt cs 1) 1) (hK : K (.lst ((ds cs ws0 (dropAt cs 1) 1).map SV.int))) : Hold (callF (TT6 cs) (bdOf (TT6 cs) 79) (fcDs cs tabP tabR Er) 621 [VIEW cs, TAB tabP tabR] ⟨[], []⟩ (Fz K)) := by
 refine Hold.mk ?_
 rw [zrR]
 refine ⟨⟨(⟨1, [], 0, 0, .none, .pl⟩, []), zaF (zaA rfl (zaA rfl (zaA rfl (zaA rfl zaC)))) rfl, ⟨by show (1 : Int) ≤ 1; lia, by show (1 : Int) ≤ 1 + (cs.length : Int); lia, hs, fun a ha => (by cases ha), by show ((0 : Nat) : Int) ≤ 1; lia⟩, by show ((0 : Nat) : Int) ≤ 1; lia, rfl⟩, fun x hx => ?_⟩
 obtain ⟨⟨p, ops, below, least, whole, md⟩, fd⟩ := x
 cases md with
 | pl => exact zsW hg hK hx
 | pw w => exact zsV hg hK hx
 | st b q => exact zsU hg hK hx
 | co b => exact zsX hg hK hx
end
noncomputable def spDs(cs : List Int) : Spec := fun vs K _ => A2 vs fun v t => IsView cs v ∧ IsTab t ∧ K (.lst ((ds cs ws0 (dropAt cs 1) 1).map SV.int))
theorem zhR {g : Gl} (H : Facts g) {cs : List Int} (h : GoodT cs) (hs : safe .pl (dropAt cs 1) 1) : SemSpec g (S0 g) false 621 20 (spDs cs) :=
 zaY (zbG H (cells := [199, 570]) (l := L6 cs) (tr := false) (by kernel_rfl) (zlW H h)) (exc0 g _ rfl) 79 sc0 false fun svs K Er hp => by
  replace hp := zcA hp
  obtain ⟨v, t, rfl, hp⟩ := hp
  obtain ⟨h1, h2, h3⟩ := hp
  unfold IsView at h1
  unfold IsTab at h2
  subst h1 h2
  rw [TABLE_eq]
  exact ⟨lpOf 571004 (LDs cs tabP tabR), zoE h hs h3⟩
noncomputable def L7 (cs : List Int) : SpecL := [(674, (2, spCode cs)), (667, (2, spEnd cs)), (278, (7, spNo)), (292, (12, spMk cs 59)), (299, (12, spMk cs 10))]
noncomputable abbrev TT7 (cs : List Int) : Tab := tab [199] (lkN (L7 cs)) false
noncomputable def LCe (cs : List Int) (tp tr : SV) (p0 : Int) : Loop where
 σ := WX
 st := fun x => ⟨[(s_view, VIEW cs), (s_table, TAB tp tr), (s_at, .int p0), (s_walk, .ins 449 1)], [psF, wF cs tp tr 2 x, .seq []]⟩
 P := fun _ x => match x.md with
  | .co _ => 1 ≤ x.p ∧ cAt cs x.p = cAt cs (p0 + 1)
  | .pl => cAt cs (p0 + 1) = some x.p
  | _ => False
 ms := fun x => match x.md with
  | .co _ => (1 + (cs.length : Int) - x.p).toNat + 1
  | _ => 0
noncomputable abbrev fcCe (cs : List Int) (tp tr : SV) (p0 : Int) (Er : Prop) : FC := ⟨sc0, 20, lpOf 359004 (LCe cs tp tr p0), Er, false⟩
theorem zkB (cs : List Int) (tp tr : SV) (p0 : Int) (Er : Prop) (K : SV → SS → Prop) (p : Int) (ops : List Int) (below least : Int) (whole : SV) (b : Int) : whTurn (bdOf (TT7 cs) 78) (fcAt 460 (fcCe cs tp tr p0 Er) 19) (LCe cs tp tr p0) (whAt 460 2) (restK (bdOf (TT7 cs) 79) (fcAt 460 (fcCe cs tp tr p0 Er) 19) (restAt 460 2) K) ⟨p, ops, below, least, whole, .co b⟩ =
  (IsView cs (VIEW cs) ∧ BR (leB (1 + ↑cs.length) p) (K SV.none { loc := [], H := [psF, wF cs tp tr 2 (WX.mk p ops below least whole (Md.co b)), SO.seq []] }) (IsView cs (VIEW cs) ∧ IsView cs (VIEW cs) ∧ IsTab (TAB tp tr) ∧ (codeAt cs p = 10 → IsView cs (VIEW cs) ∧ IsTab (TAB tp tr) ∧ (codeAt cs p = 10 → ∃ x', Fits (LCe cs tp tr p0) x' { loc := [(s_view, VIEW cs), (s_table, TAB tp tr), (s_at, SV.int p0), (s_walk, SV.ins 449 1)], H := [psF, wf cs tp tr (SV.int (p + 1)) (SV.obj 2) (SV.int below) (SV.int least) whole SV.none SV.none (SV.int 0) SV.none (SV.bool Bool.false), SO.seq []] } ∧ (LCe cs tp tr p0).P [] x' ∧ (LCe cs tp tr p0).ms x' < (LCe cs tp tr p0).ms (WX.mk p ops below least whole (Md.co b))) ∧ (codeAt cs p ≠ 10 → False)) ∧ (codeAt cs p ≠ 10 → IsView cs (VIEW cs) ∧ IsTab (TAB tp tr) ∧ (codeAt cs p = 59 → ∃ x', Fits (LCe cs tp tr p0) x' { loc := [(s_view, VIEW cs), (s_table, TAB tp tr), (s_at, SV.int p0), (s_walk, SV.ins 449 1)], H := [psF, wf cs tp tr (SV.int (p + 1)) (SV.obj 2) (SV.int below) (SV.int least) whole SV.none SV.none (SV.int 1) (SV.int b) (SV.bool Bool.false), SO.seq []] } ∧ (LCe cs tp tr p0).P [] x' ∧ (LCe cs tp tr p0).ms x' < (LCe cs tp tr p0).ms (WX.mk p ops below least whole (Md.co b))) ∧ (codeAt cs p ≠ 59 → ∃ x', Fits (LCe cs tp tr p0) x' { loc := [(s_view, VIEW cs), (s_table, TAB tp tr), (s_at, SV.int p0), (s_walk, SV.ins 449 1)], H := [psF, wf cs tp tr (SV.int (p + 1)) (SV.obj 2) (SV.int below) (SV.int least) whole SV.none SV.none (SV.int 1) (SV.int b) (SV.bool Bool.false), SO.seq []] } ∧ (LCe cs tp tr p0).P [] x' ∧ (LCe cs tp tr p0).ms x' < (LCe cs tp tr p0).ms (WX.mk p ops below least whole (Md.co b)))))) := by kernel_rfl
theorem zkA (cs : List Int) (tp tr : SV) (p0 : Int) (Er : Prop) (K : SV → SS → Prop) (p : Int) (ops : List Int) (below least : Int) (whole : SV) : whTurn (bdOf (TT7 cs) 78) (fcAt 460 (fcCe cs tp tr p0 Er) 19) (LCe cs tp tr p0) (whAt 460 2) (restK (bdOf (TT7 cs) 79) (fcAt 460 (fcCe cs tp tr p0 Er) 19) (restAt 460 2) K) ⟨p, ops, below, least, whole, .pl⟩ =
  (K (SV.int p) { loc := [], H := [psF, wF cs tp tr 2 (WX.mk p ops below least whole (Md.pl)), SO.seq []] }) := by kernel_rfl
theorem zrT (cs : List Int) (tp tr : SV) (p0 : Int) (Er : Prop) (K : SV → SS → Prop) : callF (TT7 cs) (bdOf (TT7 cs) 79) (fcCe cs tp tr p0 Er) 460 [VIEW cs, TAB tp tr, .int p0] ⟨[], []⟩ K =
  (IsView cs (VIEW cs) ∧ IsView cs (VIEW cs) ∧ IsTab (TAB tp tr) ∧ (codeAt cs p0 = 59 → (∃ x0, Fits (LCe cs tp tr p0) x0 ⟨[(s_view, VIEW cs), (s_table, TAB tp tr), (s_at, SV.int p0), (s_walk, SV.ins 449 1)], [psF, wf cs tp tr (SV.int (p0 + 1)) (SV.obj 2) (SV.int 0) (SV.int 0) SV.none SV.none SV.none (SV.int 1) (SV.int p0) (SV.bool false), SO.seq []]⟩ ∧ (LCe cs tp tr p0).P [] x0) ∧
   ∀ x, (LCe cs tp tr p0).P [] x → whTurn (bdOf (TT7 cs) 78) (fcAt 460 (fcCe cs tp tr p0 Er) 19) (LCe cs tp tr p0) (whAt 460 2) (restK (bdOf (TT7 cs) 79) (fcAt 460 (fcCe cs tp tr p0 Er) 19) (restAt 460 2) K) x) ∧ (codeAt cs p0 ≠ 59 → False)) := by kernel_rfl
noncomputable def spCe(cs : List Int) : Spec := fun vs K _ => A3 vs fun v t p0 => OI p0 fun p => IsView cs v ∧ IsTab t ∧ (1 ≤ p ∧ codeAt cs p = 59) ∧ K (oi (cAt cs (p + 1)))
theorem zoG {cs : List Int} {K : SV → Prop} {Er : Prop} (hg : GoodT cs) {p0 : Int} (h1 : 1 ≤ p0) (h59 : codeAt cs p0 = 59) (hK : K (oi (cAt cs (p0 + 1)))) : Hold (callF (TT7 cs) (bdOf (TT7 cs) 79) (fcCe cs tabP tabR p0 Er) 460 [VIEW cs, TAB tabP tabR, .int p0] ⟨[], []⟩ (Fz K)) := by
 refine Hold.mk ?_
 rw [zrT]
 refine ⟨rfl, rfl, zaT, fun _ => ⟨⟨⟨p0 + 1, [], 0, 0, .none, .co p0⟩, zaF (zaA rfl (zaA rfl (zaA rfl (zaA rfl zaC)))) rfl, by show 1 ≤ p0 + 1; lia, rfl⟩, fun x hx => ?_⟩, fun h => absurd h59 h⟩
 obtain ⟨p, ops, below, least, whole, md⟩ := x
 cases md with
 | pl =>
  rw [zkA]
  have hx' : cAt cs (p0 + 1) = some p := hx
  rw [hx'] at hK
  exact za1 hK
 | pw w => exact False.elim hx
 | st b q => exact False.elim hx
 | co b =>
  obtain ⟨hp1, hc⟩ : 1 ≤ p ∧ cAt cs p = cAt cs (p0 + 1) := hx
  rw [zkB]
  refine ⟨rfl, zaI (fun z => ?_) fun z => ?_⟩
  ·have hge := zaU z
   rw [zoL hge] at hc
   rw [← hc] at hK
   exact za9 hK
  ·have hlt := zdF z
   have go : codeAt cs p ≠ 10 → (LCe cs tabP tabR p0).P [] (⟨p + 1, ops, below, least, whole, .co b⟩ : WX) ∧ (LCe cs tabP tabR p0).ms (⟨p + 1, ops, below, least, whole, .co b⟩ : WX) < (LCe cs tabP tabR p0).ms (⟨p, ops, below, least, whole, .co b⟩ : WX) := fun h => by
    refine ⟨⟨by show 1 ≤ p + 1; lia, ?_⟩, ?_⟩
    ·show cAt cs (p + 1) = _
     rw [← zsY hp1 (by lia) h]; exact hc
    ·show (1 + (cs.length : Int) - (p + 1)).toNat + 1 < (1 + (cs.length : Int) - p).toNat + 1
     lia
   refine ⟨rfl, rfl, zaT, fun h => ⟨rfl, zaT, fun _ => ⟨⟨p + 1, ops, below, least, whole, .pl⟩, zaF (zaA rfl (zaA rfl (zaA rfl (zaA rfl zaC)))) rfl, ?_, ?_⟩, fun w => absurd h w⟩, fun h => ⟨rfl, zaT, fun _ => ⟨⟨p + 1, ops, below, least, whole, .co b⟩, zaF (zaA rfl (zaA rfl (zaA rfl (zaA rfl zaC)))) rfl, go h⟩, fun _ => ⟨⟨p + 1, ops, below, least, whole, .co b⟩, zaF (zaA rfl (zaA rfl (zaA rfl (zaA rfl zaC)))) rfl, go h⟩⟩⟩
   ·show cAt cs (p0 + 1) = some (p + 1)
    rw [← hc]; exact zsZ hp1 (by lia) h
   ·show 0 < _ + 1
    exact Nat.succ_pos _
theorem zpP {g : Gl} (H : Facts g) {cs : List Int} (h : GoodT cs) : ∀ x ∈ L7 cs, SemSpec g (S0 g) false x.1 x.2.1 x.2.2 := by
 intro x hx
 simp only [L7, List.mem_cons, List.not_mem_nil, or_false] at hx
 rcases hx with rfl | rfl | rfl | rfl | rfl
 ·exact zbO H h.1
 ·exact zc6 H h.1
 ·exact zfV
 ·exact ze4 H h
 ·exact zfW H h
theorem zpM {g : Gl} (H : Facts g) {cs : List Int} (h : GoodT cs) : SemSpec g (S0 g) false 460 20 (spCe cs) :=
 zaY (zbG H (cells := [199]) (l := L7 cs) (tr := false) (by kernel_rfl) (zpP H h)) (exc0 g _ rfl) 79 sc0 false fun svs K Er hp => by
  replace hp := zbI hp
  obtain ⟨v, t, p0, rfl, hp⟩ := hp
  replace hp := zaS hp
  obtain ⟨p, rfl, hp⟩ := hp
  obtain ⟨h1, h2, ⟨h3, h4⟩, h5⟩ := hp
  unfold IsView at h1
  unfold IsTab at h2
  subst h1 h2
  rw [TABLE_eq]
  exact ⟨lpOf 359004 (LCe cs tabP tabR p), zoG h h3 h4 h5⟩
noncomputable def oiX (o : Option Int) (K : SV → Prop) : Prop := (o = none → K .none) ∧ (∀ q, o = some q → K (.int q))
theorem zlX {o : Option Int} {K : SV → Prop} (h : oiX o K) : K (oi o) := by
 cases o with
 | none => exact h.1 rfl
 | some q => exact h.2 q rfl
noncomputable def spCeX(cs : List Int) : Spec := fun vs K _ => A3 vs fun v t p0 => OI p0 fun p => IsView cs v ∧ IsTab t ∧ (1 ≤ p ∧ codeAt cs p = 59) ∧ (cAt cs (p + 1) = none → K .none) ∧ (∀ q, cAt cs (p + 1) = some q → K (.int q))
noncomputable def spStrX(cs : List Int) : Spec := fun vs K _ => A3 vs fun v t p0 => OI p0 fun p => IsView cs v ∧ IsTab t ∧ (1 ≤ p ∧ codeAt cs p = 34) ∧ (sAt cs (p + 1) = none → K .none) ∧ (∀ q, sAt cs (p + 1) = some q → K (.int q))
theorem znC {g : Gl} (H : Facts g) {cs : List Int} (h : GoodT cs) : SemSpec g (S0 g) false 460 20 (spCeX cs) :=
 SemSpec.mono (Nat.le_refl _) (fun vs K Er hs => by
  replace hs := zbI hs
  obtain ⟨v, t, p0, rfl, hs⟩ := hs
  replace hs := zaS hs
  obtain ⟨p, rfl, hs⟩ := hs
  obtain ⟨h1, h2, h3, h4, h5⟩ := hs
  exact ⟨h1, h2, h3, zlX ⟨h4, h5⟩⟩) (zpM H h)
theorem zkM {g : Gl} (H : Facts g) {cs : List Int} (h : GoodT cs) : SemSpec g (S0 g) false 530 12 (spStrX cs) :=
 SemSpec.mono (Nat.le_refl _) (fun vs K Er hs => by
  replace hs := zbI hs
  obtain ⟨v, t, p0, rfl, hs⟩ := hs
  replace hs := zaS hs
  obtain ⟨p, rfl, hs⟩ := hs
  obtain ⟨h1, h2, h3, h4, h5⟩ := hs
  exact ⟨h1, h2, h3, zlX ⟨h4, h5⟩⟩) (zm7 H h)
noncomputable def L8 (cs : List Int) : SpecL := [(674, (2, spCode cs)), (667, (2, spEnd cs)), (278, (7, spSyn cs)), (292, (12, spMk cs 59)), (460, (20, spCeX cs)), (530, (12, spStrX cs)), (537, (2, spNo)), (516, (2, spNo))]
noncomputable abbrev TT8 (cs : List Int) : Tab := tab [] (lkN (L8 cs)) false
noncomputable def scF (cs : List Int) (tp tr : SV) (p d g : SV) : SO := .fields [(s_view, VIEW cs), (s_table, TAB tp tr), (s_place, p), (s_depth, d), (s_least, .int 0), (s_good, g), (s_is_expression, .bool true), (s_is_paired, .bool false), (s_is_done, .bool false)]
structure SX where
 p : Int
 d : Int
 g : Int
noncomputable def LFw (cs : List Int) (tp tr : SV) (p0 : Int) : Loop where
 σ := SX
 st := fun x => ⟨[(s_view, VIEW cs), (s_table, TAB tp tr), (s_scan, .ins 519 0)], [scF cs tp tr (.int x.p) (.int x.d) (.int x.g)]⟩
 P := fun _ x => 1 ≤ x.p ∧ ((x.d = 0 ∧ x.p = p0) ∨ (1 ≤ x.d ∧ safe .pl (dropAt cs x.p) x.p ∧ sx .pl x.d (dropAt cs x.p) x.p = SE cs p0))
 ms := fun x => (1 + (cs.length : Int) - x.p).toNat
noncomputable abbrev fcFw (cs : List Int) (tp tr : SV) (p0 : Int) (Er : Prop) : FC := ⟨sc0, 30, lpOf 470004 (LFw cs tp tr p0), Er, false⟩
noncomputable abbrev fwH (cs : List Int) (tp tr : SV) (p : Int) (pl de dn : SV) : SO := SO.fields [(s_view, VIEW cs), (s_table, TAB tp tr), (s_place, pl), (s_depth, de), (s_least, SV.int 0), (s_good, SV.int p), (s_is_expression, SV.bool Bool.true), (s_is_paired, SV.bool Bool.false), (s_is_done, dn)]
noncomputable abbrev fwS (cs : List Int) (tp tr : SV) (p : Int) (pl de dn : SV) : SS := { loc := [(s_view, VIEW cs), (s_table, TAB tp tr), (s_scan, SV.ins 519 0)], H := [fwH cs tp tr p pl de dn] }
noncomputable abbrev fwg (cs : List Int) (tp tr : SV) (g : Int) (pl dp dn : SV) : SO := .fields [(s_view, VIEW cs), (s_table, TAB tp tr), (s_place, pl), (s_depth, dp), (s_least, SV.int 0), (s_good, SV.int g), (s_is_expression, SV.bool Bool.true), (s_is_paired, SV.bool Bool.false), (s_is_done, dn)]
noncomputable abbrev fwG (cs : List Int) (tp tr : SV) (g : Int) (pl dp dn : SV) : SS := ⟨[(s_view, VIEW cs), (s_table, TAB tp tr), (s_scan, SV.ins 519 0)], [fwg cs tp tr g pl dp dn]⟩
noncomputable def fwW (cs : List Int) (tp tr : SV) (p0 : Int) (p d g : Int) (b0 : Bool) (c : Int) : Prop :=
 BR b0 False (BR (eqS ⟨⟨[kd c]⟩⟩ (st [92])) (Nxt (LFw cs tp tr p0) ⟨p, d, g⟩ (fwG cs tp tr g (SV.int (p + 2)) (SV.int d) (SV.bool Bool.false))) (BR (eqS ⟨⟨[kd c]⟩⟩ (st [47])) (Nxt (LFw cs tp tr p0) ⟨p, d, g⟩ (fwG cs tp tr g (SV.int (p + 2)) (SV.int d) (SV.bool Bool.false))) (Nxt (LFw cs tp tr p0) ⟨p, d, g⟩ (fwG cs tp tr g (SV.int (p + 1)) (SV.int d) (SV.bool Bool.false)))))
noncomputable def fwC (cs : List Int) (tp tr : SV) (p0 : Int) (Er : Prop) (K : SV → SS → Prop) (p d g : Int) (b0 b1 : Bool) (c : Int) : Prop :=
 BR (eqS ⟨⟨[kd c]⟩⟩ (st [92])) (fwW cs tp tr p0 p d g b0 c) (BR (eqS ⟨⟨[kd c]⟩⟩ (st [47])) (fwW cs tp tr p0 p d g b0 c) (BR (eqS ⟨⟨[kd c]⟩⟩ (st [119])) (fwW cs tp tr p0 p d g b0 c) (BR (eqS ⟨⟨[kd c]⟩⟩ (st [95])) (fwW cs tp tr p0 p d g b0 c) (BR (eqS ⟨⟨[kd c]⟩⟩ (st [34])) (IsView cs (VIEW cs) ∧ IsTab (TAB tp tr) ∧ (1 ≤ p ∧ c = 34) ∧ (sAt cs (p + 1) = Option.none → IsView cs (VIEW cs) ∧ Er) ∧ ∀ (q : Int), sAt cs (p + 1) = Option.some q → BR b0 (K (SV.int q) ⟨[], [fwg cs tp tr g (SV.int q) (SV.int d) (SV.bool b0)]⟩) (Nxt (LFw cs tp tr p0) ⟨p, d, g⟩ (fwG cs tp tr g (SV.int q) (SV.int d) (SV.bool b0)))) (BR (eqS ⟨⟨[kd c]⟩⟩ (st [124])) (IsView cs (VIEW cs) ∧ IsTab (TAB tp tr) ∧ (1 ≤ p ∧ c = 34) ∧ (sAt cs (p + 1) = Option.none → IsView cs (VIEW cs) ∧ Er) ∧ ∀ (q : Int), sAt cs (p + 1) = Option.some q → BR b0 (K (SV.int q) ⟨[], [fwg cs tp tr g (SV.int q) (SV.int d) (SV.bool b0)]⟩) (Nxt (LFw cs tp tr p0) ⟨p, d, g⟩ (fwG cs tp tr g (SV.int q) (SV.int d) (SV.bool b0)))) (BR (eqS ⟨⟨[kd c]⟩⟩ (st [40])) (BR b1 (K (SV.int (p + 1)) ⟨[], [fwg cs tp tr g (SV.int (p + 1)) (SV.int (d + 1)) (SV.bool b1)]⟩) (Nxt (LFw cs tp tr p0) ⟨p, d, g⟩ (fwG cs tp tr g (SV.int (p + 1)) (SV.int (d + 1)) (SV.bool b1)))) (BR (eqS ⟨⟨[kd c]⟩⟩ (st [41])) (BR (ltB (d - 1) 0) Er (BR (eqB (d - 1) 0) (K (SV.int (p + 1)) ⟨[], [fwg cs tp tr g (SV.int (p + 1)) (SV.int (d - 1)) (SV.bool (eqB (d - 1) 0))]⟩) (Nxt (LFw cs tp tr p0) ⟨p, d, g⟩ (fwG cs tp tr g (SV.int (p + 1)) (SV.int (d - 1)) (SV.bool (eqB (d - 1) 0)))))) (BR (eqS ⟨⟨[kd c]⟩⟩ (st [36])) False (Nxt (LFw cs tp tr p0) ⟨p, d, g⟩ (fwG cs tp tr g (SV.int (p + 1)) (SV.int d) (SV.bool Bool.false)))))))))))
noncomputable def fwA (cs : List Int) (tp tr : SV) (p0 : Int) (Er : Prop) (K : SV → SS → Prop) (p d g : Int) : Prop :=
 IsView cs (VIEW cs) ∧ IsTab (TAB tp tr) ∧ (codeAt cs p = 59 → IsView cs (VIEW cs) ∧ IsTab (TAB tp tr) ∧ (1 ≤ p ∧ codeAt cs p = 59) ∧ (cAt cs (p + 1) = Option.none → IsView cs (VIEW cs) ∧ BR (eqB d 0) (K (SV.int (1 + ↑cs.length)) { loc := [], H := [fwH cs tp tr p (SV.int (1 + ↑cs.length)) (SV.int d) (SV.bool (eqB d 0))] }) (Nxt (LFw cs tp tr p0) (SX.mk p d g) (fwS cs tp tr p (SV.int (1 + ↑cs.length)) (SV.int d) (SV.bool (eqB d 0))))) ∧ ∀ (q : Int), cAt cs (p + 1) = Option.some q → ∃ x', Fits (LFw cs tp tr p0) x' (fwS cs tp tr p (SV.int q) (SV.int d) (SV.bool Bool.false)) ∧ (LFw cs tp tr p0).P [] x' ∧ (LFw cs tp tr p0).ms x' < (LFw cs tp tr p0).ms (SX.mk p d g)) ∧ (codeAt cs p ≠ 59 → IsView cs (VIEW cs) ∧ IsTab (TAB tp tr) ∧ (codeAt cs p < 0 → False) ∧ (0 ≤ codeAt cs p → BR (eqS ⟨⟨[kd (codeAt cs p)]⟩⟩ (st [92])) (BR (eqB d 0) False (BR (eqS ⟨⟨[kd (codeAt cs p)]⟩⟩ (st [92])) (Nxt (LFw cs tp tr p0) (SX.mk p d g) (fwS cs tp tr p (SV.int (p + 2)) (SV.int d) (SV.bool Bool.false))) (BR (eqS ⟨⟨[kd (codeAt cs p)]⟩⟩ (st [47])) (Nxt (LFw cs tp tr p0) (SX.mk p d g) (fwS cs tp tr p (SV.int (p + 2)) (SV.int d) (SV.bool Bool.false))) (Nxt (LFw cs tp tr p0) (SX.mk p d g) (fwS cs tp tr p (SV.int (p + 1)) (SV.int d) (SV.bool Bool.false)))))) (BR (eqS ⟨⟨[kd (codeAt cs p)]⟩⟩ (st [47])) (BR (eqB d 0) False (BR (eqS ⟨⟨[kd (codeAt cs p)]⟩⟩ (st [92])) (Nxt (LFw cs tp tr p0) (SX.mk p d g) (fwS cs tp tr p (SV.int (p + 2)) (SV.int d) (SV.bool Bool.false))) (BR (eqS ⟨⟨[kd (codeAt cs p)]⟩⟩ (st [47])) (Nxt (LFw cs tp tr p0) (SX.mk p d g) (fwS cs tp tr p (SV.int (p + 2)) (SV.int d) (SV.bool Bool.false))) (Nxt (LFw cs tp tr p0) (SX.mk p d g) (fwS cs tp tr p (SV.int (p + 1)) (SV.int d) (SV.bool Bool.false)))))) (BR (eqS ⟨⟨[kd (codeAt cs p)]⟩⟩ (st [119])) (BR (eqB d 0) False (BR (eqS ⟨⟨[kd (codeAt cs p)]⟩⟩ (st [92])) (Nxt (LFw cs tp tr p0) (SX.mk p d g) (fwS cs tp tr p (SV.int (p + 2)) (SV.int d) (SV.bool Bool.false))) (BR (eqS ⟨⟨[kd (codeAt cs p)]⟩⟩ (st [47])) (Nxt (LFw cs tp tr p0) (SX.mk p d g) (fwS cs tp tr p (SV.int (p + 2)) (SV.int d) (SV.bool Bool.false))) (Nxt (LFw cs tp tr p0) (SX.mk p d g) (fwS cs tp tr p (SV.int (p + 1)) (SV.int d) (SV.bool Bool.false)))))) (BR (eqS ⟨⟨[kd (codeAt cs p)]⟩⟩ (st [95])) (BR (eqB d 0) False (BR (eqS ⟨⟨[kd (codeAt cs p)]⟩⟩ (st [92])) (Nxt (LFw cs tp tr p0) (SX.mk p d g) (fwS cs tp tr p (SV.int (p + 2)) (SV.int d) (SV.bool Bool.false))) (BR (eqS ⟨⟨[kd (codeAt cs p)]⟩⟩ (st [47])) (Nxt (LFw cs tp tr p0) (SX.mk p d g) (fwS cs tp tr p (SV.int (p + 2)) (SV.int d) (SV.bool Bool.false))) (Nxt (LFw cs tp tr p0) (SX.mk p d g) (fwS cs tp tr p (SV.int (p + 1)) (SV.int d) (SV.bool Bool.false)))))) (BR (eqS ⟨⟨[kd (codeAt cs p)]⟩⟩ (st [34])) (IsView cs (VIEW cs) ∧ IsTab (TAB tp tr) ∧ (1 ≤ p ∧ codeAt cs p = 34) ∧ (sAt cs (p + 1) = Option.none → IsView cs (VIEW cs) ∧ Er) ∧ ∀ (q : Int), sAt cs (p + 1) = Option.some q → BR (eqB d 0) (K (SV.int q) { loc := [], H := [fwH cs tp tr p (SV.int q) (SV.int d) (SV.bool (eqB d 0))] }) (Nxt (LFw cs tp tr p0) (SX.mk p d g) (fwS cs tp tr p (SV.int q) (SV.int d) (SV.bool (eqB d 0))))) (BR (eqS ⟨⟨[kd (codeAt cs p)]⟩⟩ (st [124])) (IsView cs (VIEW cs) ∧ IsTab (TAB tp tr) ∧ (1 ≤ p ∧ codeAt cs p = 34) ∧ (sAt cs (p + 1) = Option.none → IsView cs (VIEW cs) ∧ Er) ∧ ∀ (q : Int), sAt cs (p + 1) = Option.some q → BR (eqB d 0) (K (SV.int q) { loc := [], H := [fwH cs tp tr p (SV.int q) (SV.int d) (SV.bool (eqB d 0))] }) (Nxt (LFw cs tp tr p0) (SX.mk p d g) (fwS cs tp tr p (SV.int q) (SV.int d) (SV.bool (eqB d 0))))) (BR (eqS ⟨⟨[kd (codeAt cs p)]⟩⟩ (st [40])) (BR (eqB (d + 1) 0) (K (SV.int (p + 1)) { loc := [], H := [fwH cs tp tr p (SV.int (p + 1)) (SV.int (d + 1)) (SV.bool (eqB (d + 1) 0))] }) (Nxt (LFw cs tp tr p0) (SX.mk p d g) (fwS cs tp tr p (SV.int (p + 1)) (SV.int (d + 1)) (SV.bool (eqB (d + 1) 0))))) (BR (eqS ⟨⟨[kd (codeAt cs p)]⟩⟩ (st [41])) (BR (ltB (d - 1) 0) Er (BR (eqB (d - 1) 0) (K (SV.int (p + 1)) { loc := [], H := [fwH cs tp tr p (SV.int (p + 1)) (SV.int (d - 1)) (SV.bool (eqB (d - 1) 0))] }) (Nxt (LFw cs tp tr p0) (SX.mk p d g) (fwS cs tp tr p (SV.int (p + 1)) (SV.int (d - 1)) (SV.bool (eqB (d - 1) 0)))))) (BR (eqS ⟨⟨[kd (codeAt cs p)]⟩⟩ (st [36])) False (Nxt (LFw cs tp tr p0) (SX.mk p d g) (fwS cs tp tr p (SV.int (p + 1)) (SV.int d) (SV.bool Bool.false)))))))))))))
noncomputable def fwB (cs : List Int) (tp tr : SV) (p0 : Int) (Er : Prop) (K : SV → SS → Prop) (p d g : Int) : Prop :=
 IsView cs (VIEW cs) ∧ IsTab (TAB tp tr) ∧ (codeAt cs p = 59 → IsView cs (VIEW cs) ∧ IsTab (TAB tp tr) ∧ (1 ≤ p ∧ codeAt cs p = 59) ∧ (cAt cs (p + 1) = Option.none → IsView cs (VIEW cs) ∧ BR (eqB d 0) (K (SV.int (1 + ↑cs.length)) ⟨[], [fwg cs tp tr g (SV.int (1 + ↑cs.length)) (SV.int d) (SV.bool (eqB d 0))]⟩) (Nxt (LFw cs tp tr p0) (SX.mk p d g) (fwG cs tp tr g (SV.int (1 + ↑cs.length)) (SV.int d) (SV.bool (eqB d 0))))) ∧ ∀ (q : Int), cAt cs (p + 1) = Option.some q → ∃ x', Fits (LFw cs tp tr p0) x' (fwG cs tp tr g (SV.int q) (SV.int d) (SV.bool Bool.false)) ∧ (LFw cs tp tr p0).P [] x' ∧ (LFw cs tp tr p0).ms x' < (LFw cs tp tr p0).ms (SX.mk p d g)) ∧ (codeAt cs p ≠ 59 → IsView cs (VIEW cs) ∧ IsTab (TAB tp tr) ∧ (codeAt cs p < 0 → False) ∧ (0 ≤ codeAt cs p → fwC cs tp tr p0 Er K p d g (eqB d 0) (eqB (d + 1) 0) (codeAt cs p)))
section
variable {cs : List Int} {tp tr : SV} {p0 : Int} {Er : Prop} {K : SV → SS → Prop} {p d g : Int}
theorem zqH : fwC cs tp tr p0 Er K p d g false false 40 = Nxt (LFw cs tp tr p0) ⟨p, d, g⟩ (fwG cs tp tr g (.int (p + 1)) (.int (d + 1)) (.bool false)) := by kernel_rfl
theorem zqG : fwC cs tp tr p0 Er K p d g false false 41 = BR (ltB (d - 1) 0) Er (BR (eqB (d - 1) 0) (K (.int (p + 1)) ⟨[], [fwg cs tp tr g (.int (p + 1)) (.int (d - 1)) (.bool (eqB (d - 1) 0))]⟩) (Nxt (LFw cs tp tr p0) ⟨p, d, g⟩ (fwG cs tp tr g (.int (p + 1)) (.int (d - 1)) (.bool (eqB (d - 1) 0))))) := by kernel_rfl
theorem zqF : fwC cs tp tr p0 Er K p d g false false 91 = Nxt (LFw cs tp tr p0) ⟨p, d, g⟩ (fwG cs tp tr g (.int (p + 1)) (.int (d + 1)) (.bool false)) := by kernel_rfl
theorem zqE : fwC cs tp tr p0 Er K p d g false false 93 = BR (ltB (d - 1) 0) Er (BR (eqB (d - 1) 0) (K (.int (p + 1)) ⟨[], [fwg cs tp tr g (.int (p + 1)) (.int (d - 1)) (.bool (eqB (d - 1) 0))]⟩) (Nxt (LFw cs tp tr p0) ⟨p, d, g⟩ (fwG cs tp tr g (.int (p + 1)) (.int (d - 1)) (.bool (eqB (d - 1) 0))))) := by kernel_rfl
theorem zqD : fwC cs tp tr p0 Er K p d g false false 97 = Nxt (LFw cs tp tr p0) ⟨p, d, g⟩ (fwG cs tp tr g (.int (p + 1)) (.int d) (.bool false)) := by kernel_rfl
theorem zqJ : fwC cs tp tr p0 Er K p d g false false 32 = Nxt (LFw cs tp tr p0) ⟨p, d, g⟩ (fwG cs tp tr g (.int (p + 1)) (.int d) (.bool false)) := by kernel_rfl
theorem zqK : fwC cs tp tr p0 Er K p d g false false 10 = Nxt (LFw cs tp tr p0) ⟨p, d, g⟩ (fwG cs tp tr g (.int (p + 1)) (.int d) (.bool false)) := by kernel_rfl
theorem zqI : fwC cs tp tr p0 Er K p d g false false 34 = (IsView cs (VIEW cs) ∧ IsTab (TAB tp tr) ∧ (1 ≤ p ∧ (34 : Int) = 34) ∧ (sAt cs (p + 1) = Option.none → IsView cs (VIEW cs) ∧ Er) ∧ ∀ (q : Int), sAt cs (p + 1) = Option.some q → Nxt (LFw cs tp tr p0) ⟨p, d, g⟩ (fwG cs tp tr g (.int q) (.int d) (.bool false))) := by kernel_rfl
end
theorem zhG (cs : List Int) (tp tr : SV) (p0 : Int) (Er : Prop) (K : SV → SS → Prop) (p d g : Int) : whTurn (bdOf (TT8 cs) 78) (fcAt 558 (fcFw cs tp tr p0 Er) 29) (LFw cs tp tr p0) (whAt 558 1) (restK (bdOf (TT8 cs) 79) (fcAt 558 (fcFw cs tp tr p0 Er) 29) (restAt 558 1) K) ⟨p, d, g⟩ =
  (IsView cs (VIEW cs) ∧ BR (ltB p (1 + ↑cs.length)) (BR (eqB d 0) (fwA cs tp tr p0 Er K p d g) (fwB cs tp tr p0 Er K p d g)) (BR (!eqB d 0) Er (K SV.none { loc := [], H := [scF cs tp tr (SV.int (SX.mk p d g).p) (SV.int (SX.mk p d g).d) (SV.int (SX.mk p d g).g)] }))) := by kernel_rfl
theorem zrO (cs : List Int) (tp tr : SV) (p0 : Int) (Er : Prop) (K : SV → SS → Prop) : callF (TT8 cs) (bdOf (TT8 cs) 79) (fcFw cs tp tr p0 Er) 558 [VIEW cs, TAB tp tr, .int p0, .int 0, .bool true] ⟨[], []⟩ K =
  ((∃ x0, Fits (LFw cs tp tr p0) x0 ⟨[(s_view, VIEW cs), (s_table, TAB tp tr), (s_at, .int p0), (s_depth, .int 0), (s_is_expression, .bool true), (s_scan, SV.ins 519 0)], [scF cs tp tr (.int p0) (.int 0) (.int p0)]⟩ ∧ (LFw cs tp tr p0).P [] x0) ∧
   ∀ x, (LFw cs tp tr p0).P [] x → whTurn (bdOf (TT8 cs) 78) (fcAt 558 (fcFw cs tp tr p0 Er) 29) (LFw cs tp tr p0) (whAt 558 1) (restK (bdOf (TT8 cs) 79) (fcAt 558 (fcFw cs tp tr p0 Er) 29) (restAt 558 1) K) x) := by kernel_rfl
noncomputable def FwPre (cs : List Int) (p : Int) : Prop := 1 ≤ p ∧ (codeAt cs p = 40 ∨ codeAt cs p = 91) ∧ safe .pl (dropAt cs (p + 1)) (p + 1)
section
variable {cs : List Int} {K : SV → Prop} {Er : Prop} {p0 : Int}
theorem znS (hg : GoodT cs) (hp : FwPre cs p0) {g : Int} :
  whTurn (bdOf (TT8 cs) 78) (fcAt 558 (fcFw cs tabP tabR p0 Er) 29) (LFw cs tabP tabR p0) (whAt 558 1) (restK (bdOf (TT8 cs) 79) (fcAt 558 (fcFw cs tabP tabR p0 Er) 29) (restAt 558 1) (Fz K)) ⟨p0, 0, g⟩ := by
 obtain ⟨h1, hc, hs⟩ := hp
 have hlt : p0 < 1 + (cs.length : Int) := by
  by_cases w : p0 < 1 + (cs.length : Int)
  ·exact w
  ·rw [zcN (by lia)] at hc; lia
 rw [zhG]
 have nxt : ∀ {G : Int} {s : SS}, Fits (LFw cs tabP tabR p0) (⟨p0 + 1, 0 + 1, G⟩ : SX) s → Nxt (LFw cs tabP tabR p0) (⟨p0, 0, g⟩ : SX) s := fun hf => ⟨_, hf, ⟨by show 1 ≤ p0 + 1; lia, .inr ⟨by show (1 : Int) ≤ 0 + 1; lia, hs, rfl⟩⟩, by show (1 + (cs.length : Int) - (p0 + 1)).toNat < (1 + (cs.length : Int) - p0).toNat; lia⟩
 refine ⟨rfl, zaI (fun _ => BR_t rfl ⟨rfl, zaT, fun h => by lia, fun _ => ⟨rfl, zaT, fun h => by lia, fun _ => ?_⟩⟩) fun z => by have := zaQ z; lia⟩
 rcases hc with h | h <;> rw [h]
 all_goals
  repeat (first | refine BR_f rfl ?_ | refine BR_t rfl ?_)
  refine' nxt ?f
  case f =>
   exact zaF (zaA rfl (zaA rfl (zaA rfl zaC))) rfl
theorem znT (hg : GoodT cs) (hS : ∀ q, SE cs p0 = some q → K (.int q)) (hE : SE cs p0 = none → Er) {p d g : Int} (h1 : 1 ≤ p) (hd : 1 ≤ d) (hs : safe .pl (dropAt cs p) p) (hx : sx .pl d (dropAt cs p) p = SE cs p0) :
  whTurn (bdOf (TT8 cs) 78) (fcAt 558 (fcFw cs tabP tabR p0 Er) 29) (LFw cs tabP tabR p0) (whAt 558 1) (restK (bdOf (TT8 cs) 79) (fcAt 558 (fcFw cs tabP tabR p0 Er) 29) (restAt 558 1) (Fz K)) ⟨p, d, g⟩ := by
 rw [zhG]
 have hd0 : eqB d 0 = false := decide_eq_false (by lia)
 have hd1 : eqB (d + 1) 0 = false := decide_eq_false (by lia)
 rw [hd0]
 refine ⟨rfl, zaI (fun z => BR_f rfl ?_) fun z => BR_t rfl ?_⟩
 ·have hlt := zaN z
  have good := zaV hg h1 hlt
  rw [zaM h1 hlt] at hs hx
  have nxt : ∀ {x' : SX} {s : SS}, p < x'.p → 1 ≤ x'.d → safe .pl (dropAt cs x'.p) x'.p → sx .pl x'.d (dropAt cs x'.p) x'.p = SE cs p0 → Fits (LFw cs tabP tabR p0) x' s → Nxt (LFw cs tabP tabR p0) (⟨p, d, g⟩ : SX) s := fun {x' s} a b c e hf => ⟨x', hf, ⟨by lia, .inr ⟨b, c, e⟩⟩, by show (1 + (cs.length : Int) - x'.p).toNat < (1 + (cs.length : Int) - p).toNat; lia⟩
  have plain : codeAt cs p ≠ 40 → codeAt cs p ≠ 91 → codeAt cs p ≠ 41 → codeAt cs p ≠ 93 → sx (nx .pl (codeAt cs p) p) d (dropAt cs (p + 1)) (p + 1) = SE cs p0 := fun a b c e => by
   rw [← hx, sx, if_neg (by lia), if_neg (by lia)]
  have step : codeAt cs p = 97 ∨ codeAt cs p = 32 ∨ codeAt cs p = 10 → ∀ {s : SS}, Fits (LFw cs tabP tabR p0) (⟨p + 1, d, g⟩ : SX) s → Nxt (LFw cs tabP tabR p0) (⟨p, d, g⟩ : SX) s := fun hc s hf => by
   have hn : nx .pl (codeAt cs p) p = .pl := by
    unfold nx
    dsimp only
    rw [if_neg (by lia), if_neg (by lia)]
   have a := hs.2
   have b := plain (by lia) (by lia) (by lia) (by lia)
   rw [hn] at a b
   exact nxt (by show p < p + 1; lia) hd a b hf
  have opn : codeAt cs p = 40 ∨ codeAt cs p = 91 → ∀ {s : SS}, Fits (LFw cs tabP tabR p0) (⟨p + 1, d + 1, g⟩ : SX) s → Nxt (LFw cs tabP tabR p0) (⟨p, d, g⟩ : SX) s := fun hc s hf => by
   have hn : nx .pl (codeAt cs p) p = .pl := by
    unfold nx
    dsimp only
    rw [if_neg (by lia), if_neg (by lia)]
   have a := hs.2
   rw [hn] at a
   refine nxt (by show p < p + 1; lia) (by show 1 ≤ d + 1; lia) a ?_ hf
   rw [← hx, sx, if_pos hc]
  have cls : codeAt cs p = 41 ∨ codeAt cs p = 93 → d ≠ 1 → ∀ {s : SS}, Fits (LFw cs tabP tabR p0) (⟨p + 1, d - 1, g⟩ : SX) s → Nxt (LFw cs tabP tabR p0) (⟨p, d, g⟩ : SX) s := fun hc hne s hf => by
   have hn : nx .pl (codeAt cs p) p = .pl := by
    unfold nx
    dsimp only
    rw [if_neg (by lia), if_neg (by lia)]
   have a := hs.2
   rw [hn] at a
   refine nxt (by show p < p + 1; lia) (by show 1 ≤ d - 1; lia) a ?_ hf
   rw [← hx, sx, if_neg (by lia), if_pos hc, if_neg hne]
  have cld : codeAt cs p = 41 ∨ codeAt cs p = 93 → d = 1 → K (.int (p + 1)) := fun hc he => hS _ (by
   rw [← hx, sx, if_neg (by lia), if_pos hc, if_pos he])
  refine ⟨rfl, zaT, fun h => ⟨rfl, zaT, ⟨h1, h⟩, fun hn => ⟨rfl, BR_f hd0 ?_⟩, fun q hq => ?_⟩, fun h => ⟨rfl, zaT, fun w => ?_, fun _ => ?_⟩⟩
  ·have b := plain (by lia) (by lia) (by lia) (by lia)
   rw [h, show nx .pl 59 p = .co p from rfl, zlQ (by lia), hn] at b
   rw [hd0]
   exact nxt (x' := ⟨1 + (cs.length : Int), d, g⟩) hlt hd (by show safe .pl (dropAt cs (1 + (cs.length : Int))) _; rw [zaO (Int.le_refl _)]; trivial) (by show sx .pl d (dropAt cs (1 + (cs.length : Int))) _ = _; rw [zaO (Int.le_refl _)]; exact b) (zaF (zaA rfl (zaA rfl (zaA rfl zaC))) rfl)
  ·have b := plain (by lia) (by lia) (by lia) (by lia)
   have a := hs.2
   rw [h, show nx .pl 59 p = .co p from rfl] at a
   rw [h, show nx .pl 59 p = .co p from rfl, zlQ (by lia), hq] at b
   have g1 := zi8 hq
   have sf := zhU _ _ _ a hq
   rw [zbT (by lia) (by lia)] at sf
   exact nxt (x' := ⟨q, d, g⟩) (by show p < q; lia) hd sf b (zaF (zaA rfl (zaA rfl (zaA rfl zaC))) rfl)
  ·have := zbZ good; lia
  ·rw [hd0, hd1]
   have clo : codeAt cs p = 41 ∨ codeAt cs p = 93 → BR (ltB (d - 1) 0) Er (BR (eqB (d - 1) 0) (Fz K (.int (p + 1)) ⟨[], [fwg cs tabP tabR g (.int (p + 1)) (.int (d - 1)) (.bool (eqB (d - 1) 0))]⟩) (Nxt (LFw cs tabP tabR p0) ⟨p, d, g⟩ (fwG cs tabP tabR g (.int (p + 1)) (.int (d - 1)) (.bool (eqB (d - 1) 0))))) := fun hc => by
    refine BR_f (decide_eq_false (by lia)) (zaI (fun w => za1 (cld hc (by have := of_decide_eq_true w; lia))) fun w => ?_)
    rw [w]
    exact cls hc (by have := of_decide_eq_false w; lia) (zaF (zaA rfl (zaA rfl (zaA rfl zaC))) rfl)
   rcases zaZ good with h | h | h | h | h | h | h | h | h | h
   ·rw [h, zqH]; exact opn (.inl h) (zaF (zaA rfl (zaA rfl (zaA rfl zaC))) rfl)
   ·rw [h, zqG]; exact clo (.inl h)
   ·rw [h, zqF]; exact opn (.inr h) (zaF (zaA rfl (zaA rfl (zaA rfl zaC))) rfl)
   ·rw [h, zqE]; exact clo (.inr h)
   ·rw [h, zqD]; exact step (.inl h) (zaF (zaA rfl (zaA rfl (zaA rfl zaC))) rfl)
   ·rw [h, zqJ]; exact step (.inr (.inl h)) (zaF (zaA rfl (zaA rfl (zaA rfl zaC))) rfl)
   ·rw [h, zqK]; exact step (.inr (.inr h)) (zaF (zaA rfl (zaA rfl (zaA rfl zaC))) rfl)
   ·rw [h, zqI]
    have b := plain (by lia) (by lia) (by lia) (by lia)
    have a := hs.2
    rw [h, show nx .pl 34 p = .st p false from rfl] at a
    rw [h, show nx .pl 34 p = .st p false from rfl, zo8 (by lia)] at b
    refine ⟨rfl, zaT, ⟨h1, rfl⟩, fun hn => ⟨rfl, hE ?_⟩, fun q hq => ?_⟩
    ·rw [← b, hn]; rfl
    ·rw [hq] at b
     have g1 := ze5 hq
     have sf := zhS _ _ _ _ a hq
     rw [zbT (by lia) (by lia)] at sf
     exact nxt (x' := ⟨q, d, g⟩) (by show p < q; lia) hd sf b (zaF (zaA rfl (zaA rfl (zaA rfl zaC))) rfl)
   ·contradiction
   ·exact absurd h (hs.1 rfl)
 ·have hge := zaQ z
  rw [zaO (by lia)] at hx
  exact hE hx.symm
theorem zoC (hg : GoodT cs) (hp : FwPre cs p0) (hS : ∀ q, SE cs p0 = some q → K (.int q)) (hE : SE cs p0 = none → Er) : Hold (callF (TT8 cs) (bdOf (TT8 cs) 79) (fcFw cs tabP tabR p0 Er) 558 [VIEW cs, TAB tabP tabR, .int p0, .int 0, .bool true] ⟨[], []⟩ (Fz K)) := by
 refine Hold.mk ?_
 rw [zrO]
 refine ⟨⟨⟨p0, 0, p0⟩, zaF (zaA rfl (zaA rfl (zaA rfl zaC))) rfl, hp.1, .inl ⟨rfl, rfl⟩⟩, fun x hx => ?_⟩
 obtain ⟨p, d, g⟩ := x
 obtain ⟨h1, h2⟩ := hx
 rcases h2 with ⟨rfl, rfl⟩ | ⟨h2, h3, h4⟩
 ·exact znS hg hp
 ·exact znT hg hS hE h1 h2 h3 h4
end
theorem SemSpec.tr {g : Gl} {S : Sigs g} {tr : Bool} {a N : Nat} {sp : Spec} (h : SemSpec g S false a N sp) : SemSpec g S tr a N sp :=
 fun R hv hh hd hu hon hf hsp hret herr => h R hv hh hd hu hon (fun q => q.elim (fun z => hf (.inl z)) nofun) hsp hret herr
noncomputable def spFw(cs : List Int) : Spec := fun vs K Er => A5 vs fun v t p0 d0 e0 => OI p0 fun p => OI d0 fun d => OB e0 fun e => (eqB d 0 = true ∧ e = true) ∧ IsView cs v ∧ IsTab t ∧ FwPre cs p ∧ (SE cs p = none → Er) ∧ (∀ q, SE cs p = some q → K (.int q))
theorem zlV {g : Gl} (H : Facts g) {cs : List Int} (h : GoodT cs) : ∀ x ∈ L8 cs, SemSpec g (S1 g) false x.1 x.2.1 x.2.2 := by
 intro x hx
 simp only [L8, List.mem_cons, List.not_mem_nil, or_false] at hx
 rcases hx with rfl | rfl | rfl | rfl | rfl | rfl | rfl | rfl
 ·exact SemSpec.lift (fun vs K Er q => q) (zbO H h.1)
 ·exact SemSpec.lift (fun vs K Er q => q) (zc6 H h.1)
 ·exact SemSpec.lift (fun vs K Er q => q) (zcK H h)
 ·exact SemSpec.lift (fun vs K Er q => q) (ze4 H h)
 ·exact SemSpec.lift (fun vs K Er q => q) (znC H h)
 ·exact SemSpec.lift (fun vs K Er q => q) (zkM H h)
 ·exact zfV
 ·exact zfV
theorem zpI {g : Gl} (H : Facts g) (hx : excB g.K = true) {cs : List Int} (h : GoodT cs) : SemSpec g (S1 g) false 558 30 (spFw cs) :=
 zaY (zd3 H (cells := []) (l := L8 cs) (tr := false) (by kernel_rfl) (zlV H h)) (exc1 hx (zd3 H (cells := []) (l := L8 cs) (tr := false) (by kernel_rfl) (zlV H h)) (zeQ H)) 79 sc0 false fun svs K Er hp => by
  replace hp := zjI hp
  obtain ⟨v, t, p0, d0, e0, rfl, hp⟩ := hp
  replace hp := zaS hp
  obtain ⟨p, rfl, hp⟩ := hp
  replace hp := zaS hp
  obtain ⟨d, rfl, hp⟩ := hp
  replace hp := zoQ hp
  obtain ⟨e, rfl, hp⟩ := hp
  obtain ⟨⟨hd0, rfl⟩, h1, h2, h3, h4, h5⟩ := hp
  have hd0' : d = 0 := of_decide_eq_true hd0
  subst hd0'
  unfold IsView at h1
  unfold IsTab at h2
  subst h1 h2
  rw [TABLE_eq]
  exact ⟨lpOf 470004 (LFw cs tabP tabR p), zoC h h3 h5 h4⟩
noncomputable def L9 (cs : List Int) : SpecL := [(558, (30, spFw cs)), (586, (2, spNo))]
noncomputable abbrev TT9 (cs : List Int) : Tab := tab [] (lkN (L9 cs)) false
noncomputable def spSc(cs : List Int) : Spec := fun vs K Er => A4 vs fun v t a b => ∃ p, (a = .int p ∧ b = .int 1) ∧ IsView cs v ∧ IsTab t ∧ FwPre cs p ∧ (SE cs p = none → Er) ∧ (∀ q, SE cs p = some q → K (.int q))
noncomputable def LFil (H0 : List SO) (f : Int → Bool) : Loop where
 σ := List Int
 st := fun l => ⟨[(accN, .lst ((l.filter f).map SV.int))], H0⟩
 P := fun pre l => pre = l.map SV.int
 ms := fun _ => 0
noncomputable def compK (L : Loop) (pre : List SV) (v : SV) (acc : List SV) (u : Option SV) (H' : List SO) : Prop := ∃ x', L.P (pre ++ [v]) x' ∧ L.st x' = ⟨[(accN, .lst (match u with | some u => acc ++ [u] | none => acc))], H'⟩
noncomputable def CompV (L : Loop) (its : List SV) (H0 : List SO) (Tn : SV → List SO → (Option SV → List SO → Prop) → Prop) (Kp : List SV → SV → List SV → Option SV → List SO → Prop) (R : List SV → List SO → Prop) : Prop :=
 (∃ x0, L.P [] x0 ∧ L.st x0 = ⟨[(st [46, 97], .lst [])], H0⟩) ∧ (∀ (x : L.σ) (pre : List SV) (v : SV) (post acc : List SV) (H : List SO), its = pre ++ v :: post → L.P pre x → L.st x = ⟨[(st [46, 97], .lst acc)], H⟩ → Tn v H (Kp pre v acc)) ∧ ∀ (x : L.σ) (acc : List SV) (H : List SO), L.P its x → L.st x = ⟨[(st [46, 97], .lst acc)], H⟩ → R acc H
noncomputable def dsL (cs : List Int) : List Int := ds cs ws0 (dropAt cs 1) 1
noncomputable def La (cs : List Int) : SpecL := [(621, (20, spDs cs))]
noncomputable abbrev TTa (cs : List Int) : Tab := tab [] (lkN (La cs)) false
noncomputable def lp3 (k1 k2 k3 : Nat) (A B C : Loop) : Nat → List (Str × SV) → Option Loop := fun j _ => match Nat.beq j k1 with
 | true => some A
 | false => match Nat.beq j k2 with
  | true => some B
  | false => match Nat.beq j k3 with
   | true => some C
   | false => none
noncomputable def LDe (cs : List Int) (tp tr : SV) (at_ : Int) (starts around : List SV) : Loop where
 σ := List Int
 st := fun l => ⟨[(s_view, VIEW cs), (s_table, TAB tp tr), (s_at, .int at_), (s_starts, .lst starts), (s_around, .lst around)], []⟩
 P := fun pre l => pre = l.map SV.int ∧ ∀ s ∈ l, ∃ e, SE cs s = some e ∧ lbAt cs e ≤ at_
 ms := fun _ => 0
noncomputable def Lb (cs : List Int) : SpecL := [(621, (20, spDs cs)), (600, (35, spSc cs)), (633, (5, spLb cs))]
noncomputable abbrev TTb (cs : List Int) : Tab := tab [] (lkN (Lb cs)) false
theorem zrM (cs : List Int) (p : Int) (tp tr : SV) (Er : Prop) (K : SV → SS → Prop) : callF (TT9 cs) (bdOf (TT9 cs) 79) ⟨sc0, 35, fun _ _ => none, Er, false⟩ 600 [VIEW cs, TAB tp tr, .int p, .int 1] ⟨[], []⟩ K =
  ((Bool.true = Bool.true ∧ Bool.true = Bool.true) ∧ IsView cs (VIEW cs) ∧ IsTab (TAB tp tr) ∧ FwPre cs p ∧ (SE cs p = Option.none → Er) ∧ ∀ (q : Int), SE cs p = Option.some q → K (SV.int q) { loc := [], H := [] }) := by kernel_rfl
theorem zoW (cs : List Int) (at_ : Int) (tp tr : SV) (Er : Prop) (K : SV → SS → Prop) : callF (TTa cs) (bdOf (TTa cs) 79) ⟨sc0, 25, lpOf 578012 (LFil [] fun x => ltB x at_), Er, false⟩ 626 [VIEW cs, TAB tp tr, .int at_] ⟨[], []⟩ K =
  (IsView cs (VIEW cs) ∧ IsTab (TAB tp tr) ∧ CK (inLine (List.map SV.int (ds cs ws0 (dropAt cs 1) 1)).length) ((∃ x0, (LFil [] fun x => ltB x at_).P [] x0 ∧ (LFil [] fun x => ltB x at_).st x0 = { loc := [((st [46, 97]), SV.lst [])], H := [] }) ∧ ((x : List Int) → (pre : List SV) → (v : SV) → (post acc : List SV) → (H : List SO) → List.map SV.int (ds cs ws0 (dropAt cs 1) 1) = pre ++ v :: post → (LFil [] fun x => ltB x at_).P pre x → (LFil [] fun x => ltB x at_).st x = { loc := [((st [46, 97]), SV.lst acc)], H := H } → @OM Bool (cmpV { loc := [(s_at, SV.int at_), (s_place, v)], H := H } CmpOp.Lt v (SV.int at_)) fun v_1 => BR v_1 (∃ x', (LFil [] fun x => ltB x at_).P (pre ++ [v]) x' ∧ (LFil [] fun x => ltB x at_).st x' = { loc := [((st [46, 97]), SV.lst (acc ++ [v]))], H := H }) (∃ x', (LFil [] fun x => ltB x at_).P (pre ++ [v]) x' ∧ (LFil [] fun x => ltB x at_).st x' = { loc := [((st [46, 97]), SV.lst acc)], H := H })) ∧ ∀ (x : List Int) (acc : List SV) (H : List SO), (LFil [] fun x => ltB x at_).P (List.map SV.int (ds cs ws0 (dropAt cs 1) 1)) x → (LFil [] fun x => ltB x at_).st x = { loc := [((st [46, 97]), SV.lst acc)], H := H } → CK (byVal.allV (byVal 2) acc) (@OM Bool (cmpV { loc := [(s_view, VIEW cs), (s_table, TAB tp tr), (s_at, SV.int at_), (s_found, SV.lst acc)], H := H } CmpOp.NotEq (SV.lst acc) (SV.lst [])) fun v => BR v (CK (inLine acc.length) (@OM Nat (place (-1) acc.length) fun v => @OM SV acc[v]? fun v => K v { loc := [], H := H })) (K SV.none { loc := [], H := H })))) := by kernel_rfl
noncomputable def de3 (cs : List Int) (at_ : Int) (tp tr : SV) (Er : Prop) (K : SV → SS → Prop) (around : List SV) (acc acc_1 : List SV) (H : List SO) : Prop :=
 CK (byVal.allV (byVal 2) acc_1) (CK (inLine (List.drop (acc.length - 1) acc).length && inLine acc_1.length && (byVal.allV (byVal 2) (List.drop (acc.length - 1) acc) && byVal.allV (byVal 2) acc_1)) (CK (inLine (List.drop (acc.length - 1) acc ++ acc_1).length) ((∃ x0, Fits (LDe cs tp tr at_ (List.map SV.int (dsL cs)) around) x0 { loc := [(s_view, VIEW cs), (s_table, TAB tp tr), (s_at, SV.int at_), (s_starts, SV.lst (List.map SV.int (dsL cs))), (s_around, SV.lst (List.drop (acc.length - 1) acc))], H := H } ∧ (LDe cs tp tr at_ (List.map SV.int (dsL cs)) around).P [] x0) ∧ (∀ (x : List Int) (pre : List SV) (v : SV) (post : List SV), List.drop (acc.length - 1) acc ++ acc_1 = pre ++ v :: post → (LDe cs tp tr at_ (List.map SV.int (dsL cs)) around).P pre x → CK (byVal.allV (byVal 2) [VIEW cs, TAB tp tr, v, SV.int 1] && Bool.true && Bool.true) (∃ p, (v = SV.int p ∧ SV.int 1 = SV.int 1) ∧ IsView cs (VIEW cs) ∧ IsTab (TAB tp tr) ∧ FwPre cs p ∧ (SE cs p = Option.none → Er) ∧ ∀ (q : Int), SE cs p = Option.some q → IsView cs (VIEW cs) ∧ 1 ≤ q ∧ BR (ltB at_ (lbAt cs q)) (IsView cs (VIEW cs) ∧ 1 ≤ q ∧ K (SV.int (lbAt cs q)) { loc := [], H := [] }) (∃ x', Fits (LDe cs tp tr at_ (List.map SV.int (dsL cs)) around) x' { loc := [(s_view, VIEW cs), (s_table, TAB tp tr), (s_at, SV.int at_), (s_starts, SV.lst (List.map SV.int (dsL cs))), (s_around, SV.lst around), (s_start, v), (s_end, SV.int q)], H := [] } ∧ (LDe cs tp tr at_ (List.map SV.int (dsL cs)) around).P (pre ++ [v]) x'))) ∧ ∀ (x : List Int), (LDe cs tp tr at_ (List.map SV.int (dsL cs)) around).P (List.drop (acc.length - 1) acc ++ acc_1) x → K SV.none { loc := [], H := [] })))
noncomputable def de2 (cs : List Int) (at_ : Int) (tp tr : SV) (Er : Prop) (K : SV → SS → Prop) (around : List SV) (acc : List SV) (H : List SO) : Prop :=
 CK (byVal.allV (byVal 2) acc) (CK (Bool.true && inLine acc.length && byVal.allV (byVal 2) acc) (CK (inLine (List.map SV.int (dsL cs)).length) (CompV (LFil [] fun x => ltB at_ x) (List.map SV.int (dsL cs)) H (fun v H k => @OM Bool (cmpV ⟨[(s_at, SV.int at_), (s_start, v)], H⟩ CmpOp.Gt v (SV.int at_)) fun b => BR b (k (some v) H) (k none H)) (compK (LFil [] fun x => ltB at_ x)) fun acc_1 H => de3 cs at_ tp tr Er K around acc acc_1 H)))
theorem zrS (cs : List Int) (at_ : Int) (tp tr : SV) (Er : Prop) (K : SV → SS → Prop) (around : List SV) : callF (TTb cs) (bdOf (TTb cs) 79) ⟨sc0, 40, lp3 587013 588026 588004 (LFil [] fun x => leB x at_) (LFil [] fun x => ltB at_ x) (LDe cs tp tr at_ ((dsL cs).map SV.int) around), Er, false⟩ 638 [VIEW cs, TAB tp tr, .int at_] ⟨[], []⟩ K =
  (IsView cs (VIEW cs) ∧ IsTab (TAB tp tr) ∧ CK (inLine (List.map SV.int (dsL cs)).length) (CompV (LFil [] fun x => leB x at_) (List.map SV.int (dsL cs)) [] (fun v H k => @OM Bool (cmpV ⟨[(s_at, SV.int at_), (s_start, v)], H⟩ CmpOp.LtE v (SV.int at_)) fun b => BR b (k (some v) H) (k none H)) (compK (LFil [] fun x => leB x at_)) fun acc H => de2 cs at_ tp tr Er K around acc H)) := by kernel_rfl
theorem zpG {g : Gl} (H : Facts g) (hx : excB g.K = true) {cs : List Int} (h : GoodT cs) : SemSpec g (S1 g) false 600 35 (spSc cs) :=
 have ok : CallOk g (S1 g) (TT9 cs) := zd3 H (by kernel_rfl) (fun x hm => by
  simp only [L9, List.mem_cons, List.not_mem_nil, or_false] at hm
  rcases hm with rfl | rfl
  ·exact zpI H hx h
  ·exact zfV)
 zaY ok (exc1 hx ok (zeQ H)) 79 sc0 false fun svs K Er hp => by
  replace hp := zfS hp
  obtain ⟨v, t, a, b, rfl, hp⟩ := hp
  obtain ⟨p, ⟨rfl, rfl⟩, h1, h2, h3, h4, h5⟩ := hp
  unfold IsView at h1
  unfold IsTab at h2
  subst h1 h2
  rw [TABLE_eq]
  refine ⟨fun _ _ => none, Hold.mk ?_⟩
  rw [zrM]
  exact ⟨⟨rfl, rfl⟩, rfl, zaT, h3, h4, fun q hq => za1 (h5 q hq)⟩
theorem zbQ {L : List Int} {pre post : List SV} {v : SV} (h : L.map SV.int = pre ++ v :: post) : ∃ i, v = .int i := by
 have : v ∈ L.map SV.int := by rw [h]; simp
 obtain ⟨i, _, e⟩ := List.mem_map.mp this
 exact ⟨i, e.symm⟩
theorem zb2 {a b : List Int} (h : a.map SV.int = b.map SV.int) : a = b := (List.map_inj_right fun _ _ e => by injection e).mp h
theorem zgA {H0 : List SO} {f : Int → Bool} {l : List Int} {acc : List SV} {H : List SO} (h : (LFil H0 f).st l = ⟨[(accN, .lst acc)], H⟩) : acc = (l.filter f).map SV.int ∧ H = H0 := by
 have h1 := congrArg SS.loc h
 have h2 := congrArg SS.H h
 have h1' : [(accN, SV.lst ((l.filter f).map SV.int))] = [(accN, SV.lst acc)] := h1
 have h2' : H0 = H := h2
 obtain ⟨e, _⟩ := List.cons.inj h1'
 have e' := congrArg Prod.snd e
 dsimp only at e'
 injection e' with e''
 exact ⟨e''.symm, h2'.symm⟩
theorem zeB {H0 : List SO} {f : Int → Bool} {l : List Int} {pre acc : List SV} {i : Int} (hp : (LFil H0 f).P pre l) (ha : acc = (l.filter f).map SV.int) : (f i = true → ∃ x', (LFil H0 f).P (pre ++ [.int i]) x' ∧ (LFil H0 f).st x' = ⟨[(accN, .lst (acc ++ [.int i]))], H0⟩) ∧
  (f i = false → ∃ x', (LFil H0 f).P (pre ++ [.int i]) x' ∧ (LFil H0 f).st x' = ⟨[(accN, .lst acc)], H0⟩) := by
 have hp' : pre = l.map SV.int := hp
 subst hp' ha
 refine ⟨fun h => ⟨l ++ [i], ?_, ?_⟩, fun h => ⟨l ++ [i], ?_, ?_⟩⟩
 ·show _ = (l ++ [i]).map SV.int; simp
 ·show (⟨[(accN, .lst (((l ++ [i]).filter f).map SV.int))], H0⟩ : SS) = _
  rw [List.filter_append]; simp [h]
 ·show _ = (l ++ [i]).map SV.int; simp
 ·show (⟨[(accN, .lst (((l ++ [i]).filter f).map SV.int))], H0⟩ : SS) = _
  rw [List.filter_append]; simp [h]
theorem zfG {H0 : List SO} {f : Int → Bool} {L l : List Int} {acc : List SV} {H : List SO} (hp : (LFil H0 f).P (L.map SV.int) l) (h : (LFil H0 f).st l = ⟨[(accN, .lst acc)], H⟩) : acc = (L.filter f).map SV.int ∧ H = H0 := by
 obtain ⟨a, b⟩ := zgA h
 have hp' : L.map SV.int = l.map SV.int := hp
 rw [zb2 hp']
 exact ⟨a, b⟩
theorem zeS {p : Int → Bool} {H0 : List SO} {l : List Int} {Tn : SV → List SO → (Option SV → List SO → Prop) → Prop} {R : List SV → List SO → Prop} (hT : ∀ i k, Tn (.int i) H0 k = BR (p i) (k (some (.int i)) H0) (k none H0)) (hR : R ((l.filter p).map .int) H0) :
  CompV (LFil H0 p) (l.map .int) H0 Tn (compK (LFil H0 p)) R := by
 refine ⟨⟨[], rfl, rfl⟩, fun x pre v post acc H hits hP hst => ?_, fun x acc H hP hst => ?_⟩
 ·obtain ⟨i, rfl⟩ := zbQ hits
  obtain ⟨ha, rfl⟩ := zgA hst
  obtain ⟨n1, n2⟩ := zeB (i := i) hP ha
  rw [hT]
  exact zaI n1 n2
 ·obtain ⟨rfl, rfl⟩ := zfG hP hst
  exact hR
theorem zl4 {cs : List Int} : ∀ (l : List Int) (s : WS) (p : Int), (ds cs s l p).length ≤ l.length
 | [], s, p => by simp [ds]
 | c :: r, s, p => by
  rw [ds]
  have := zl4 r (wstep s c p) (p + 1) (cs := cs)
  split <;> simp <;> lia
theorem zcM {cs : List Int} (h : GoodT cs) : (dsL cs).length ≤ 1000 := by
 have := zl4 (dropAt cs 1) ws0 1 (cs := cs)
 have h2 : (dropAt cs 1).length ≤ cs.length := by unfold dropAt; rw [List.length_drop]; lia
 have := h.1
 unfold dsL
 lia
noncomputable def spDst(cs : List Int) : Spec := fun vs K _ => A3 vs fun v t a0 => OI a0 fun a => IsView cs v ∧ IsTab t ∧ K (oi ((dsL cs).filter fun x => ltB x a).getLast?)
theorem znO {K : SV → Prop} {l : List Int} {s s' : SS} (hl : l.length ≤ 10000) (hK : K (oi l.getLast?)) :
  @OM Bool (cmpV s CmpOp.NotEq (SV.lst (l.map SV.int)) (SV.lst [])) fun v => BR v (CK (inLine (l.map SV.int).length) (@OM Nat (place (-1) (l.map SV.int).length) fun v => @OM SV (l.map SV.int)[v]? fun v => Fz K v s')) (Fz K SV.none s') := by
 have e : cmpV s CmpOp.NotEq (SV.lst (l.map SV.int)) (SV.lst []) = some (!decide (l = [])) := by
  show notO (eqLI (l.map SV.int) []) = _
  rw [zcH]; rfl
 refine zaE e ?_
 rcases List.eq_nil_or_concat l with he | ⟨i, a, he⟩
 ·subst he
  exact BR_f (by simp) (za9 hK)
 ·have he' : l = i ++ [a] := by simpa using he
  subst he'
  refine BR_t (by simp) (zaB (zaD (by rw [List.length_map]; lia)) (zaE (a := i.length) ?_ (zaE (a := SV.int a) (by simp) (za1 ?_))))
  ·unfold Mine.place
   rw [List.length_map, List.length_append]
   rw [show leB 0 (-1) = false from by decide]
   dsimp only
   rw [show leB 0 (-1 + ((i.length + [a].length : Nat) : Int)) = true from decide_eq_true (by simp; lia)]
   dsimp only
   congr 1
   simp; lia
  ·simpa [oi] using hK
theorem znA {g : Gl} (H : Facts g) {cs : List Int} (h : GoodT cs) (hs : safe .pl (dropAt cs 1) 1) : SemSpec g (S0 g) false 626 25 (spDst cs) :=
 have ok : CallOk g (S0 g) (TTa cs) := zbG H (by kernel_rfl) (fun x hm => by
  simp only [La, List.mem_cons, List.not_mem_nil, or_false] at hm
  subst hm
  exact zhR H h hs)
 zaY ok (exc0 g _ rfl) 79 sc0 false fun svs K Er hp => by
  replace hp := zbI hp
  obtain ⟨v, t, a0, rfl, hp⟩ := hp
  replace hp := zaS hp
  obtain ⟨a, rfl, hp⟩ := hp
  obtain ⟨h1, h2, h3⟩ := hp
  unfold IsView at h1
  unfold IsTab at h2
  subst h1 h2
  rw [TABLE_eq]
  refine ⟨lpOf 578012 (LFil [] fun x => ltB x a), Hold.mk ?_⟩
  rw [zoW, show ds cs ws0 (dropAt cs 1) 1 = dsL cs from rfl]
  have hlen := zcM h
  refine ⟨rfl, zaT, zaB (zaD (by rw [List.length_map]; exact Nat.le_trans hlen (by decide))) ⟨⟨[], rfl, rfl⟩, fun x pre v post acc H' hits hP hst => ?_, fun x acc H' hP hst => ?_⟩⟩
  ·obtain ⟨i, rfl⟩ := zbQ hits
   obtain ⟨ha, rfl⟩ := zgA hst
   obtain ⟨n1, n2⟩ := zeB (i := i) hP ha
   exact zaE rfl (zaI n1 n2)
  ·obtain ⟨ha, rfl⟩ := zfG hP hst
   subst ha
   have hfl : ((dsL cs).filter fun x => ltB x a).length ≤ 1000 := Nat.le_trans (List.length_filter_le _ _) hlen
   exact zaB (zaK _) (znO (by exact Nat.le_trans hfl (by decide)) h3)
noncomputable def deL (cs : List Int) (a : Int) : List Int := let f := (dsL cs).filter fun x => leB x a
 f.drop (f.length - 1) ++ (dsL cs).filter fun x => ltB a x
noncomputable def spDe(cs : List Int) : Spec := fun vs K Er => A3 vs fun v t a0 => OI a0 fun a => IsView cs v ∧ IsTab t ∧ (de cs a (deL cs a) = none → Er) ∧ (∀ o, de cs a (deL cs a) = some o → K (oi o))
theorem zoF {cs : List Int} {K : SV → Prop} {Er : Prop} {a : Int} (hg : GoodT cs) (hpre : ∀ s ∈ dsL cs, FwPre cs s ∧ ∀ e, SE cs s = some e → 1 ≤ e) (hE : de cs a (deL cs a) = none → Er) (hK : ∀ o, de cs a (deL cs a) = some o → K (oi o)) {around : List SV}
  (har : around = (((dsL cs).filter fun x => leB x a).map SV.int).drop ((((dsL cs).filter fun x => leB x a).map SV.int).length - 1)) :
  Hold (callF (TTb cs) (bdOf (TTb cs) 79) ⟨sc0, 40, lp3 587013 588026 588004 (LFil [] fun x => leB x a) (LFil [] fun x => ltB a x) (LDe cs tabP tabR a ((dsL cs).map SV.int) around), Er, false⟩ 638 [VIEW cs, TAB tabP tabR, .int a] ⟨[], []⟩ (Fz K)) := by
 refine Hold.mk ?_
 rw [zrS]
 have hlen := zcM hg
 have hl1 : ((dsL cs).filter fun x => leB x a).length ≤ 1000 := Nat.le_trans (List.length_filter_le _ _) hlen
 have hl2 : ((dsL cs).filter fun x => ltB a x).length ≤ 1000 := Nat.le_trans (List.length_filter_le _ _) hlen
 have hm : inLine ((dsL cs).map SV.int).length = true := zaD (by rw [List.length_map]; exact Nat.le_trans hlen (by decide))
 refine ⟨rfl, zaT, zaB hm (zeS (fun i k => rfl) (zaB (zaK _) (zaB ?_ (zaB hm (zeS (fun i k => rfl) ?_)))))⟩
 ·rw [zaK, zaD (by rw [List.length_map]; lia)]; rfl
 have hdrop : (((dsL cs).filter fun x => leB x a).map SV.int).drop ((((dsL cs).filter fun x => leB x a).map SV.int).length - 1) = (((dsL cs).filter fun x => leB x a).drop (((dsL cs).filter fun x => leB x a).length - 1)).map SV.int := by
  rw [List.length_map, List.map_drop]
 have hall : (((dsL cs).filter fun x => leB x a).map SV.int).drop ((((dsL cs).filter fun x => leB x a).map SV.int).length - 1) ++ ((dsL cs).filter fun x => ltB a x).map SV.int = (deL cs a).map SV.int := by
  rw [hdrop, ← List.map_append]; rfl
 have hmem : ∀ s ∈ deL cs a, s ∈ dsL cs := fun s hs => by
  rcases List.mem_append.mp hs with z | z
  ·exact (List.mem_filter.mp (List.mem_of_mem_drop z)).1
  ·exact (List.mem_filter.mp z).1
 have hdl : (deL cs a).length ≤ 2000 := by
  unfold deL
  rw [List.length_append, List.length_drop]; lia
 unfold de3
 rw [hall]
 refine zaB (zaK _) (zaB ?_ (zaB (zaD (by rw [List.length_map]; lia)) ⟨⟨[], zaF (zaA rfl (zaA rfl (zaA rfl (zaA rfl (zaA (by rw [har]; rfl) zaC))))) rfl, rfl, fun s hs => by cases hs⟩, fun x pre v post hits hP => ?_, fun x hP => ?_⟩))
 ·rw [hdrop, zaK, zaK, zaD (by rw [List.length_map, List.length_drop]; lia), zaD (by rw [List.length_map]; lia)]; rfl
 ·obtain ⟨hP1, hP2⟩ := hP
  obtain rfl : pre = x.map SV.int := hP1
  obtain ⟨s, rfl⟩ := zbQ hits
  have hsplit : ∃ r, deL cs a = x ++ s :: r := by
   have h1 : (deL cs a).map SV.int = (x ++ [s]).map SV.int ++ post := by rw [hits]; simp
   refine ⟨(deL cs a).drop (x.length + 1), ?_⟩
   have h2 := congrArg (List.take (x.length + 1)) h1
   rw [← List.map_take] at h2
   have h3 : (deL cs a).take (x.length + 1) = x ++ [s] := zb2 (by rw [h2, List.take_append_of_le_length (by simp), List.take_of_length_le (by simp)])
   have h4 := List.take_append_drop (x.length + 1) (deL cs a)
   rw [h3] at h4
   rw [← h4]; simp
  obtain ⟨r, hr⟩ := hsplit
  have hs := hmem s (by rw [hr]; simp)
  have hde : de cs a (deL cs a) = de cs a (s :: r) := by rw [hr]; exact zfK x (s :: r) hP2
  refine zaB rfl ⟨s, ⟨rfl, rfl⟩, rfl, zaT, (hpre s hs).1, fun hn => hE ?_, fun q hq => ?_⟩
  ·rw [hde]; unfold de; rw [hn]
  ·have h1q := (hpre s hs).2 q hq
   refine ⟨rfl, h1q, zaI (fun z => ⟨rfl, h1q, za1 (hK (some (lbAt cs q)) ?_)⟩) fun z => ⟨x ++ [s], ?_, ?_, fun s' hs' => ?_⟩⟩
   ·rw [hde]; unfold de; rw [hq]; dsimp only; rw [if_pos (zaN z)]
   ·exact zaF (zaA rfl (zaA rfl (zaA rfl (zaA rfl (zaA rfl zaC))))) rfl
   ·show _ = (x ++ [s]).map SV.int; simp
   ·rcases List.mem_append.mp hs' with w | w
    ·exact hP2 s' w
    ·rw [List.mem_singleton.mp w]
     exact ⟨q, hq, by have := zaQ z; lia⟩
 ·obtain ⟨hP1, hP2⟩ := hP
  have hP1' : _ = x.map SV.int := hP1
  have hx : deL cs a = x := zb2 hP1'
  refine za9 (hK none ?_)
  have := zfK x [] hP2 (cs := cs) (at_ := a)
  rw [List.append_nil] at this
  rw [hx, this]; rfl
theorem zpL {g : Gl} (H : Facts g) (hx : excB g.K = true) {cs : List Int} (h : GoodT cs) (hs : safe .pl (dropAt cs 1) 1) (hpre : ∀ s ∈ dsL cs, FwPre cs s ∧ ∀ e, SE cs s = some e → 1 ≤ e) : SemSpec g (S1 g) false 638 40 (spDe cs) :=
 have ok : CallOk g (S1 g) (TTb cs) := zd3 H (by kernel_rfl) (fun x hm => by
  simp only [Lb, List.mem_cons, List.not_mem_nil, or_false] at hm
  rcases hm with rfl | rfl | rfl
  ·exact SemSpec.lift (fun vs K Er q => q) (zhR H h hs)
  ·exact zpG H hx h
  ·exact SemSpec.lift (fun vs K Er q => q) (zpH H h))
 zaY ok (exc1 hx ok (zeQ H)) 79 sc0 false fun svs K Er hp => by
  replace hp := zbI hp
  obtain ⟨v, t, a0, rfl, hp⟩ := hp
  replace hp := zaS hp
  obtain ⟨a, rfl, hp⟩ := hp
  obtain ⟨h1, h2, h3, h4⟩ := hp
  unfold IsView at h1
  unfold IsTab at h2
  subst h1 h2
  rw [TABLE_eq]
  exact ⟨_, zoF h hpre h3 h4 rfl⟩
structure CT where
 t : Expr
 e : Expr
 fs : List Expr
 sc : Scope
set_option backward.match.sparseCases false in
noncomputable def ctOf : Expr → CT
 | .ListComp e [⟨t, _, fs, _⟩] sc _ => ⟨t, e, fs, sc⟩
 | _ => ⟨.Constant .none 0 ⟨0, 0, 0, 0⟩, .Constant .none 0 ⟨0, 0, 0, 0⟩, [], sc0⟩
noncomputable def turnX (r : Bd) (fc : FC) (c : CT) (v : SV) (st : SS) (K : Option SV → List SO → Prop) : Prop := turnC r fc { fc with sc := c.sc, Er := False, tr := false } c.t c.e c.fs v st K
noncomputable def stAt (a n : Nat) : Stmt := match (fiAt a).body[n]? with
 | some s => s
 | none => .Pass ⟨0, 0, 0, 0⟩
set_option backward.match.sparseCases false in
noncomputable def valOf : Stmt → Expr
 | .Assign _ e _ => e
 | .Return (some e) _ => e
 | _ => .Constant .none 0 ⟨0, 0, 0, 0⟩
set_option backward.match.sparseCases false in
noncomputable def tupN (n : Nat) : Expr → Expr
 | .Tuple es _ _ => (es[n]?).getD (.Constant .none 0 ⟨0, 0, 0, 0⟩)
 | .List es _ => (es[n]?).getD (.Constant .none 0 ⟨0, 0, 0, 0⟩)
 | .Call _ es _ _ => (es[n]?).getD (.Constant .none 0 ⟨0, 0, 0, 0⟩)
 | _ => .Constant .none 0 ⟨0, 0, 0, 0⟩
noncomputable def cT (s : Str) : List Int := s.cps.toList.map fun (n : Nat) => (n : Int)
noncomputable def LBh (s : Str) (e : Int) : Loop where
 σ := Int
 st := fun a => ⟨[(s_text, .str s), (s_end, .int e), (s_at, .int a)], []⟩
 P := fun _ a => 1 ≤ a ∧ skAt (cT s) a = skAt (cT s) e
 ms := fun a => (1 + ((cT s).length : Int) - a).toNat
noncomputable abbrev TTn : Tab := tab [] (fun _ => none) false
noncomputable def LAbs : Loop where
 σ := List Int
 st := fun l => ⟨[(accN, .lst (l.map fun i => SV.int (i.natAbs : Int)))], []⟩
 P := fun pre l => pre = l.map SV.int
 ms := fun _ => 0
noncomputable def LMany (sc : List SV) : Loop where
 σ := Int × Int
 st := fun x => ⟨[(s_script, .lst sc), (s_least, .int 8), (s_most, .int 24), (s_many, .int x.1), (s_size, .int x.2)], []⟩
 P := fun _ x => 8 ≤ x.1 ∧ x.1 ≤ 24
 ms := fun x => (24 - x.1).toNat
noncomputable def lp2 (k1 k2 : Nat) (A B : Loop) : Nat → List (Str × SV) → Option Loop := fun j _ => match Nat.beq j k1 with
 | true => some A
 | false => match Nat.beq j k2 with
  | true => some B
  | false => none
theorem zrX (s : Str) (e : Int) (Er : Prop) (K : SV → SS → Prop) : callF TTn (bdOf TTn 79) ⟨sc0, 5, lpOf 662004 (LBh s e), Er, false⟩ 724 [.str s, .int e] ⟨[], []⟩ K =
  ((∃ x0, Fits (LBh s e) x0 { loc := [(s_text, SV.str s), (s_end, SV.int e), (s_at, SV.int e)], H := [] } ∧ (LBh s e).P [] x0) ∧ ∀ (x : Int), (LBh s e).P [] x → CK (leB 0 (x - 1) && leB 0 x && inLine s.cps.size) (BR (eqS { cps := { toList := List.take (x.toNat - (x - 1).toNat) (List.drop (x - 1).toNat s.cps.toList) } } (st [32])) (Nxt (LBh s e) x { loc := [(s_text, SV.str s), (s_end, SV.int e), (s_at, SV.int (x + 1))], H := [] }) (CK (leB 0 (x - 1) && leB 0 x && inLine s.cps.size) (BR (eqS { cps := { toList := List.take (x.toNat - (x - 1).toNat) (List.drop (x - 1).toNat s.cps.toList) } } (st [10])) (K (SV.int (x + 1)) { loc := [], H := [] }) (K (SV.int e) { loc := [], H := [] }))))) := by kernel_rfl
theorem zmH (sc : List SV) (Er : Prop) (K : SV → SS → Prop) : callF TTn (bdOf TTn 79) ⟨sc0, 5, lp2 626029 627004 LAbs (LMany sc), Er, false⟩ 698 [.lst sc, .int 8, .int 24] ⟨[], []⟩ K =
  (CK (Bool.true && inLine sc.length && byVal.allV (byVal 2) sc) (CK (inLine (List.take 24 sc).length) ((∃ x0, LAbs.P [] x0 ∧ LAbs.st x0 = { loc := [((st [46, 97]), SV.lst [])], H := [] }) ∧ (∀ (x : List Int) (pre : List SV) (v : SV) (post acc : List SV) (H : List SO), List.take 24 sc = pre ++ v :: post → LAbs.P pre x → LAbs.st x = { loc := [((st [46, 97]), SV.lst acc)], H := H } → turnX (bdOf TTn 75) (fcAt 698 ⟨sc0, 5, lp2 626029 627004 LAbs (LMany sc), Er, false⟩ 4) (ctOf (tupN 0 (tupN 1 (valOf (stAt 698 0))))) v { loc := [(s_script, SV.lst sc), (s_least, SV.int 8), (s_most, SV.int 24)], H := H } (compK LAbs pre v acc)) ∧ ∀ (x : List Int) (acc : List SV) (H : List SO), LAbs.P (List.take 24 sc) x → LAbs.st x = { loc := [((st [46, 97]), SV.lst acc)], H := H } → CK (byVal.allV (byVal 2) acc) (CK (inLine acc.length) (@OM Int (sumI acc) fun v => (∃ x0, Fits (LMany sc) x0 { loc := [(s_script, SV.lst sc), (s_least, SV.int 8), (s_most, SV.int 24), (s_many, SV.int 8), (s_size, SV.int v)], H := H } ∧ (LMany sc).P [] x0) ∧ ∀ (x : Int × Int), (LMany sc).P [] x → BR (ltB x.fst 24) (BR (ltB 1000 x.snd) (Nxt (LMany sc) x { loc := [(s_script, SV.lst sc), (s_least, SV.int 8), (s_most, SV.int 24), (s_many, SV.int (x.fst + 1)), (s_size, SV.int (x.snd.fdiv 1000))], H := [] }) (K (SV.int x.fst) { loc := [], H := [] })) (K (SV.int x.fst) { loc := [], H := [] })))))) := by kernel_rfl
theorem zo5 (fc : FC) (i : Int) (sc : List SV) (H : List SO) (K : Option SV → List SO → Prop) : turnX (bdOf TTn 75) (fcAt 698 fc 4) (ctOf (tupN 0 (tupN 1 (valOf (stAt 698 0))))) (.int i) ⟨[(s_script, .lst sc), (s_least, .int 8), (s_most, .int 24)], H⟩ K = K (some (.int (i.natAbs : Int))) H := by kernel_rfl
theorem zmC {s : Str} {a : Int} (h1 : 1 ≤ a) (c : Nat) : eqS { cps := { toList := List.take (a.toNat - (a - 1).toNat) (List.drop (a - 1).toNat s.cps.toList) } } (st [c]) = decide (codeAt (cT s) a = (c : Int)) := by
 have e1 : a.toNat - (a - 1).toNat = 1 := by omega
 rw [e1]
 show natsEq (List.take 1 (List.drop (a - 1).toNat s.cps.toList)) [c] = _
 unfold codeAt cT
 rw [if_pos h1, List.getD_eq_getElem?_getD, List.getElem?_map]
 cases w : s.cps.toList[(a - 1).toNat]? with
 | none =>
  have : List.drop (a - 1).toNat s.cps.toList = [] := List.drop_eq_nil_of_le (by rw [List.getElem?_eq_none_iff] at w; exact w)
  rw [this]
  show false = decide ((-1 : Int) = (c : Int))
  symm
  exact decide_eq_false (by omega)
 | some n =>
  obtain ⟨hlt, hn⟩ := List.getElem?_eq_some_iff.mp w
  rw [List.drop_eq_getElem_cons hlt, hn]
  show (match Nat.beq n c with | true => natsEq [] [] | false => false) = decide ((n : Int) = (c : Int))
  cases q : Nat.beq n c with
  | true =>
   have := Nat.eq_of_beq_eq_true q
   subst this
   simp [natsEq]
  | false =>
   have := Nat.ne_of_beq_eq_false q
   symm
   exact decide_eq_false (by omega)
noncomputable def spBh(s : Str) : Spec := fun vs K _ => A2 vs fun t0 e0 => OT t0 fun t => OI e0 fun e => t = s ∧ 1 ≤ e ∧ K (.int (lbAt (cT s) e))
theorem zpN {g : Gl} (H : Facts g) {s : Str} (hg : GoodT (cT s)) : SemSpec g (S0 g) false 724 5 (spBh s) :=
 have ok : CallOk g (S0 g) TTn := zbG H (l := []) rfl (fun x hm => by cases hm)
 zaY ok (exc0 g _ rfl) 79 sc0 false fun svs K Er hp => by
  replace hp := zcA hp
  obtain ⟨t0, e0, rfl, hp⟩ := hp
  replace hp := zjE hp
  obtain ⟨t, rfl, hp⟩ := hp
  replace hp := zaS hp
  obtain ⟨e, rfl, hp⟩ := hp
  obtain ⟨rfl, h1, hK⟩ := hp
  refine ⟨lpOf 662004 (LBh t e), Hold.mk ?_⟩
  rw [zrX]
  have hlen : t.cps.size ≤ 1000 := by
   have := hg.1
   unfold cT at this
   rw [List.length_map] at this
   simpa using this
  refine ⟨⟨e, zaF (zaA rfl (zaA rfl (zaA rfl zaC))) rfl, h1, rfl⟩, fun x hx => ?_⟩
  obtain ⟨hx1, hx2⟩ := hx
  have hck : (leB 0 (x - 1) && leB 0 x && inLine t.cps.size) = true := by
   rw [show leB 0 (x - 1) = true from decide_eq_true (by lia), show leB 0 x = true from decide_eq_true (by lia), zaD (by lia)]; rfl
  rw [zmC hx1, zmC hx1]
  refine zaB hck (zaI (fun q => ?_) fun q => zaB hck (zaI (fun q2 => za1 ?_) fun q2 => za1 ?_))
  ·have h32 : codeAt (cT t) x = 32 := of_decide_eq_true q
   have hlt : x < 1 + ((cT t).length : Int) := by
    by_cases w : x < 1 + ((cT t).length : Int)
    ·exact w
    ·rw [zcN (by lia)] at h32; lia
   exact ⟨x + 1, zaF (zaA rfl (zaA rfl (zaA rfl zaC))) rfl, ⟨by show 1 ≤ x + 1; lia, (zlR hx1 hlt h32).symm.trans hx2⟩, by show (1 + ((cT t).length : Int) - (x + 1)).toNat < (1 + ((cT t).length : Int) - x).toNat; lia⟩
  all_goals
   have h32 : codeAt (cT t) x ≠ 32 := of_decide_eq_false q
   have e' : skAt (cT t) e = x := hx2.symm.trans (zlS hx1 h32)
   unfold lbAt at hK
   rw [e'] at hK
  ·have q10 : codeAt (cT t) x = 10 := of_decide_eq_true q2
   rw [if_pos q10] at hK; exact hK
  ·have q10 : ¬ codeAt (cT t) x = 10 := of_decide_eq_false q2
   rw [if_neg q10] at hK; exact hK
theorem ze2 : ∀ (l : List Int), ∃ a, sumI (l.map SV.int) = some a
 | [] => ⟨0, rfl⟩
 | i :: r => by
  obtain ⟨a, h⟩ := ze2 r
  refine ⟨i + a, ?_⟩
  show (sumI (r.map SV.int)).map (i + ·) = _
  rw [h]; rfl
noncomputable def spMany: Spec := fun vs K _ => A3 vs fun sc0 a0 b0 => OL sc0 fun sc => OI a0 fun a => OI b0 fun b => (eqB a 8 = true ∧ eqB b 24 = true) ∧ (∃ l : List Int, sc = l.map SV.int ∧ l.length ≤ 100) ∧ (∀ n, 8 ≤ n → n ≤ 24 → K (.int n))
theorem zkO {g : Gl} (H : Facts g) : SemSpec g (S0 g) false 698 5 spMany :=
 have ok : CallOk g (S0 g) TTn := zbG H (l := []) rfl (fun x hm => by cases hm)
 zaY ok (exc0 g _ rfl) 79 sc0 false fun svs K Er hp => by
  replace hp := zbI hp
  obtain ⟨sc0, a0, b0, rfl, hp⟩ := hp
  replace hp := zdP hp
  obtain ⟨sc, rfl, hp⟩ := hp
  replace hp := zaS hp
  obtain ⟨a, rfl, hp⟩ := hp
  replace hp := zaS hp
  obtain ⟨b, rfl, hp⟩ := hp
  obtain ⟨⟨ha, hb⟩, ⟨l, rfl, hl⟩, hK⟩ := hp
  have ha' : a = 8 := of_decide_eq_true ha
  have hb' : b = 24 := of_decide_eq_true hb
  subst ha' hb'
  refine ⟨lp2 626029 627004 LAbs (LMany (l.map SV.int)), Hold.mk ?_⟩
  rw [zmH]
  have ht : (l.map SV.int).take 24 = (l.take 24).map SV.int := by rw [List.map_take]
  have htl : (l.take 24).length ≤ 24 := by rw [List.length_take]; lia
  rw [ht]
  refine zaB (by rw [zaK, zaD (by rw [List.length_map]; lia)]; rfl) (zaB (zaD (by rw [List.length_map]; lia)) ⟨⟨[], rfl, rfl⟩, fun x pre v post acc H' hits hP hst => ?_, fun x acc H' hP hst => ?_⟩)
  ·obtain ⟨i, rfl⟩ := zbQ hits
   have h1 := congrArg SS.loc hst
   have h2 := congrArg SS.H hst
   have h1' : [(accN, SV.lst (x.map fun i => SV.int (i.natAbs : Int)))] = [(accN, SV.lst acc)] := h1
   have h2' : ([] : List SO) = H' := h2
   subst h2'
   obtain ⟨e, _⟩ := List.cons.inj h1'
   have e' := congrArg Prod.snd e
   dsimp only at e'
   injection e' with e''
   subst e''
   have hP' : pre = x.map SV.int := hP
   subst hP'
   rw [zo5]
   exact ⟨x ++ [i], by show _ = (x ++ [i]).map SV.int; simp, by show (⟨[(accN, .lst ((x ++ [i]).map fun i => SV.int (i.natAbs : Int)))], []⟩ : SS) = _; simp⟩
  ·have h1 := congrArg SS.loc hst
   have h2 := congrArg SS.H hst
   have h1' : [(accN, SV.lst (x.map fun i => SV.int (i.natAbs : Int)))] = [(accN, SV.lst acc)] := h1
   have h2' : ([] : List SO) = H' := h2
   subst h2'
   obtain ⟨e, _⟩ := List.cons.inj h1'
   have e' := congrArg Prod.snd e
   dsimp only at e'
   injection e' with e''
   have hP' : (l.take 24).map SV.int = x.map SV.int := hP
   have hx := zb2 hP'
   subst hx
   have hacc : acc = ((l.take 24).map fun i => (i.natAbs : Int)).map SV.int := by rw [← e'', List.map_map]; rfl
   subst hacc
   obtain ⟨a, hs⟩ := ze2 ((l.take 24).map fun i => (i.natAbs : Int))
   refine zaB (zaK _) (zaB (zaD (by rw [List.length_map, List.length_map]; lia)) (zaE hs ⟨⟨(8, a), zaF (zaA rfl (zaA rfl (zaA rfl (zaA rfl (zaA rfl zaC))))) rfl, by show (8 : Int) ≤ 8; lia, by show (8 : Int) ≤ 24; lia⟩, fun y hy => ?_⟩))
   obtain ⟨n, z⟩ := y
   obtain ⟨hy1, hy2⟩ := hy
   have hy1' : 8 ≤ n := hy1
   have hy2' : n ≤ 24 := hy2
   refine zaI (fun q => zaI (fun q2 => ⟨(n + 1, z.fdiv 1000), zaF (zaA rfl (zaA rfl (zaA rfl (zaA rfl (zaA rfl zaC))))) rfl, ⟨by show 8 ≤ n + 1; lia, by show n + 1 ≤ 24; have := zaN q; have h3 : n < 24 := this; lia⟩, ?_⟩) fun q2 => za1 (hK n hy1' hy2')) fun q => za1 (hK n hy1' hy2')
   have h3 : n < 24 := zaN q
   show (24 - (n + 1)).toNat < (24 - n).toNat
   lia
inductive Pc where
 | op | cl | bo | bc | a | sp | nl | s1 | cm | s2 | nlo | us
 deriving DecidableEq
noncomputable def Pc.cs : Pc → List Nat
 | .op => [40] | .cl => [41] | .bo => [91] | .bc => [93] | .a => [97] | .sp => [32] | .nl => [10] | .s1 => [34, 40, 34] | .cm => [59, 41, 10] | .s2 => [34, 92, 34, 34] | .nlo => [10, 40] | .us => [34, 40]
noncomputable def Pc.str (x : Pc) : Str := ⟨x.cs.toArray⟩
inductive Sg where
 | po | pc | bo | bc | str
 deriving DecidableEq
noncomputable def Sg.s : Sg → Str
 | .po => ⟨#[40]⟩ | .pc => ⟨#[41]⟩ | .bo => ⟨#[91]⟩ | .bc => ⟨#[93]⟩ | .str => ⟨#[115, 116, 114, 105, 110, 103]⟩
set_option backward.match.sparseCases false in
noncomputable def Pc.sg (p : Int) : Pc → List (Sg × Int)
 | .op => [(.po, p)] | .cl => [(.pc, p)] | .bo => [(.bo, p)] | .bc => [(.bc, p)] | .nlo => [(.po, p + 1)] | .us => [(.str, p)] | _ => []
noncomputable def clen : List Pc → Int
 | [] => 0
 | x :: r => (x.cs.length : Int) + clen r
noncomputable def signsOf : Int → List Pc → List (Sg × Int)
 | _, [] => []
 | p, x :: r => x.sg p ++ signsOf (p + (x.cs.length : Int)) r
theorem zgH : ∀ (l r : List Pc), clen (l ++ r) = clen l + clen r
 | [], r => by simp [clen]
 | x :: l, r => by
  show (x.cs.length : Int) + clen (l ++ r) = (x.cs.length : Int) + clen l + clen r
  rw [zgH l r]; lia
theorem zc4 : ∀ (l r : List Pc) (p : Int), signsOf p (l ++ r) = signsOf p l ++ signsOf (p + clen l) r
 | [], r, p => by simp [signsOf, clen]
 | x :: l, r, p => by
  show x.sg p ++ signsOf (p + (x.cs.length : Int)) (l ++ r) = x.sg p ++ signsOf (p + (x.cs.length : Int)) l ++ signsOf (p + clen (x :: l)) r
  rw [zc4 l r, List.append_assoc, show p + clen (x :: l) = p + (x.cs.length : Int) + clen l from by show p + ((x.cs.length : Int) + clen l) = _; lia]
theorem zdL : ∀ (l : List Pc), 0 ≤ clen l
 | [] => Int.le_refl _
 | x :: r => by
  have := zdL r
  show 0 ≤ (x.cs.length : Int) + clen r
  lia
theorem zlT (x : Pc) (p : Int) : (x.sg p).length ≤ 1 := by cases x <;> simp [Pc.sg]
theorem zc3 : ∀ (l : List Pc) (p : Int), (signsOf p l).length ≤ l.length
 | [], p => by simp [signsOf]
 | x :: r, p => by
  have := zc3 r (p + (x.cs.length : Int))
  have := zlT x p
  simp [signsOf]; lia
noncomputable def codes : List Pc → List Int
 | [] => []
 | x :: r => (x.cs.map fun (n : Nat) => (n : Int)) ++ codes r
noncomputable def sgV (x : Sg × Int) : SV := .tup [.str x.1.s, .int x.2]
noncomputable def frTurn (r : Bd) (fc : FC) (L : Loop) (tb : Expr × List Stmt) (K : KO) (x : L.σ) (pre : List SV) (v : SV) : Prop := bindT fc.sc tb.1 v (L.st x) fun st2 => exs r fc tb.2 st2 fun o st3 => match o with
     | .next => ∃ x', Fits L x' st3 ∧ L.P (pre ++ [v]) x'
     | .cont => ∃ x', Fits L x' st3 ∧ L.P (pre ++ [v]) x'
     | .brk => K .next st3
     | .ret v => K (.ret v) st3
set_option backward.match.sparseCases false in
noncomputable def frAt (a n : Nat) : Expr × List Stmt := match (fiAt a).body[n]? with
 | some (.For t _ b _ _) => (t, b)
 | _ => (.Constant .none 0 ⟨0, 0, 0, 0⟩, [])
noncomputable abbrev TTs : Tab := tab [635, 646] (fun _ => none) false
noncomputable def LSg (pv : List SV) : Loop where
 σ := List Pc
 st := fun l => ⟨[(s_pieces, .lst pv), (s_found, .obj 0), (s_place, .int (1 + clen l))], [.seq ((signsOf 1 l).map sgV)]⟩
 P := fun pre l => pre = l.map fun x => SV.str x.str
 ms := fun _ => 0
noncomputable abbrev fcSg (pv : List SV) (Er : Prop) : FC := ⟨sc0, 5, lpOf 636004 (LSg pv), Er, false⟩
theorem zrL (pv : List SV) (Er : Prop) (K : SV → SS → Prop) : callF TTs (bdOf TTs 79) (fcSg pv Er) 710 [.lst pv] ⟨[], []⟩ K =
  (CK (inLine pv.length) ((∃ x0, Fits (LSg pv) x0 ⟨[(s_pieces, .lst pv), (s_found, .obj 0), (s_place, .int 1)], [.seq []]⟩ ∧ (LSg pv).P [] x0) ∧
   (∀ x pre v post, pv = pre ++ v :: post → (LSg pv).P pre x → frTurn (bdOf TTs 78) (fcAt 710 (fcSg pv Er) 4) (LSg pv) (frAt 710 1) (restK (bdOf TTs 79) (fcAt 710 (fcSg pv Er) 4) (restAt 710 1) K) x pre v) ∧
   ∀ x, (LSg pv).P pv x → K (.obj 0) ⟨[], [.seq ((signsOf 1 x).map sgV)]⟩)) := by kernel_rfl
theorem zjS (pv : List SV) (Er : Prop) (K : SV → SS → Prop) (l : List Pc) (pre : List SV) : frTurn (bdOf TTs 78) (fcAt 710 (fcSg pv Er) 4) (LSg pv) (frAt 710 1) (restK (bdOf TTs 79) (fcAt 710 (fcSg pv Er) 4) (restAt 710 1) K) l pre (.str Pc.op.str) =
  (CK (inLine (List.map sgV (signsOf 1 l)).length) (∃ x', Fits (LSg pv) x' { loc := [(s_pieces, SV.lst pv), (s_found, SV.obj 0), (s_place, SV.int (1 + clen l + 1)), (s_piece, SV.str (st [40]))], H := [SO.seq (List.map sgV (signsOf 1 l) ++ [SV.tup [SV.str (st [40]), SV.int (1 + clen l)]])] } ∧ (LSg pv).P (pre ++ [SV.str (st [40])]) x')) := by kernel_rfl
theorem zjV (pv : List SV) (Er : Prop) (K : SV → SS → Prop) (l : List Pc) (pre : List SV) : frTurn (bdOf TTs 78) (fcAt 710 (fcSg pv Er) 4) (LSg pv) (frAt 710 1) (restK (bdOf TTs 79) (fcAt 710 (fcSg pv Er) 4) (restAt 710 1) K) l pre (.str Pc.cl.str) =
  (CK (inLine (List.map sgV (signsOf 1 l)).length) (∃ x', Fits (LSg pv) x' { loc := [(s_pieces, SV.lst pv), (s_found, SV.obj 0), (s_place, SV.int (1 + clen l + 1)), (s_piece, SV.str (st [41]))], H := [SO.seq (List.map sgV (signsOf 1 l) ++ [SV.tup [SV.str (st [41]), SV.int (1 + clen l)]])] } ∧ (LSg pv).P (pre ++ [SV.str (st [41])]) x')) := by kernel_rfl
theorem zjW (pv : List SV) (Er : Prop) (K : SV → SS → Prop) (l : List Pc) (pre : List SV) : frTurn (bdOf TTs 78) (fcAt 710 (fcSg pv Er) 4) (LSg pv) (frAt 710 1) (restK (bdOf TTs 79) (fcAt 710 (fcSg pv Er) 4) (restAt 710 1) K) l pre (.str Pc.bo.str) =
  (CK (inLine (List.map sgV (signsOf 1 l)).length) (∃ x', Fits (LSg pv) x' { loc := [(s_pieces, SV.lst pv), (s_found, SV.obj 0), (s_place, SV.int (1 + clen l + 1)), (s_piece, SV.str (st [91]))], H := [SO.seq (List.map sgV (signsOf 1 l) ++ [SV.tup [SV.str (st [91]), SV.int (1 + clen l)]])] } ∧ (LSg pv).P (pre ++ [SV.str (st [91])]) x')) := by kernel_rfl
theorem zjX (pv : List SV) (Er : Prop) (K : SV → SS → Prop) (l : List Pc) (pre : List SV) : frTurn (bdOf TTs 78) (fcAt 710 (fcSg pv Er) 4) (LSg pv) (frAt 710 1) (restK (bdOf TTs 79) (fcAt 710 (fcSg pv Er) 4) (restAt 710 1) K) l pre (.str Pc.bc.str) =
  (CK (inLine (List.map sgV (signsOf 1 l)).length) (∃ x', Fits (LSg pv) x' { loc := [(s_pieces, SV.lst pv), (s_found, SV.obj 0), (s_place, SV.int (1 + clen l + 1)), (s_piece, SV.str (st [93]))], H := [SO.seq (List.map sgV (signsOf 1 l) ++ [SV.tup [SV.str (st [93]), SV.int (1 + clen l)]])] } ∧ (LSg pv).P (pre ++ [SV.str (st [93])]) x')) := by kernel_rfl
theorem zmF (pv : List SV) (Er : Prop) (K : SV → SS → Prop) (l : List Pc) (pre : List SV) : frTurn (bdOf TTs 78) (fcAt 710 (fcSg pv Er) 4) (LSg pv) (frAt 710 1) (restK (bdOf TTs 79) (fcAt 710 (fcSg pv Er) 4) (restAt 710 1) K) l pre (.str Pc.a.str) =
  (∃ x', Fits (LSg pv) x' { loc := [(s_pieces, SV.lst pv), (s_found, SV.obj 0), (s_place, SV.int (1 + clen l + 1)), (s_piece, SV.str (st [97]))], H := [SO.seq (List.map sgV (signsOf 1 l))] } ∧ (LSg pv).P (pre ++ [SV.str (st [97])]) x') := by kernel_rfl
theorem zjP (pv : List SV) (Er : Prop) (K : SV → SS → Prop) (l : List Pc) (pre : List SV) : frTurn (bdOf TTs 78) (fcAt 710 (fcSg pv Er) 4) (LSg pv) (frAt 710 1) (restK (bdOf TTs 79) (fcAt 710 (fcSg pv Er) 4) (restAt 710 1) K) l pre (.str Pc.sp.str) =
  (∃ x', Fits (LSg pv) x' { loc := [(s_pieces, SV.lst pv), (s_found, SV.obj 0), (s_place, SV.int (1 + clen l + 1)), (s_piece, SV.str (st [32]))], H := [SO.seq (List.map sgV (signsOf 1 l))] } ∧ (LSg pv).P (pre ++ [SV.str (st [32])]) x') := by kernel_rfl
theorem zjT (pv : List SV) (Er : Prop) (K : SV → SS → Prop) (l : List Pc) (pre : List SV) : frTurn (bdOf TTs 78) (fcAt 710 (fcSg pv Er) 4) (LSg pv) (frAt 710 1) (restK (bdOf TTs 79) (fcAt 710 (fcSg pv Er) 4) (restAt 710 1) K) l pre (.str Pc.nl.str) =
  (∃ x', Fits (LSg pv) x' { loc := [(s_pieces, SV.lst pv), (s_found, SV.obj 0), (s_place, SV.int (1 + clen l + 1)), (s_piece, SV.str (st [10]))], H := [SO.seq (List.map sgV (signsOf 1 l))] } ∧ (LSg pv).P (pre ++ [SV.str (st [10])]) x') := by kernel_rfl
theorem zjR (pv : List SV) (Er : Prop) (K : SV → SS → Prop) (l : List Pc) (pre : List SV) : frTurn (bdOf TTs 78) (fcAt 710 (fcSg pv Er) 4) (LSg pv) (frAt 710 1) (restK (bdOf TTs 79) (fcAt 710 (fcSg pv Er) 4) (restAt 710 1) K) l pre (.str Pc.s1.str) =
  (∃ x', Fits (LSg pv) x' { loc := [(s_pieces, SV.lst pv), (s_found, SV.obj 0), (s_place, SV.int (1 + clen l + 3)), (s_piece, SV.str (st [34, 40, 34]))], H := [SO.seq (List.map sgV (signsOf 1 l))] } ∧ (LSg pv).P (pre ++ [SV.str (st [34, 40, 34])]) x') := by kernel_rfl
theorem zjU (pv : List SV) (Er : Prop) (K : SV → SS → Prop) (l : List Pc) (pre : List SV) : frTurn (bdOf TTs 78) (fcAt 710 (fcSg pv Er) 4) (LSg pv) (frAt 710 1) (restK (bdOf TTs 79) (fcAt 710 (fcSg pv Er) 4) (restAt 710 1) K) l pre (.str Pc.cm.str) =
  (∃ x', Fits (LSg pv) x' { loc := [(s_pieces, SV.lst pv), (s_found, SV.obj 0), (s_place, SV.int (1 + clen l + 3)), (s_piece, SV.str (st [59, 41, 10]))], H := [SO.seq (List.map sgV (signsOf 1 l))] } ∧ (LSg pv).P (pre ++ [SV.str (st [59, 41, 10])]) x') := by kernel_rfl
theorem zjQ (pv : List SV) (Er : Prop) (K : SV → SS → Prop) (l : List Pc) (pre : List SV) : frTurn (bdOf TTs 78) (fcAt 710 (fcSg pv Er) 4) (LSg pv) (frAt 710 1) (restK (bdOf TTs 79) (fcAt 710 (fcSg pv Er) 4) (restAt 710 1) K) l pre (.str Pc.s2.str) =
  (∃ x', Fits (LSg pv) x' { loc := [(s_pieces, SV.lst pv), (s_found, SV.obj 0), (s_place, SV.int (1 + clen l + 4)), (s_piece, SV.str (st [34, 92, 34, 34]))], H := [SO.seq (List.map sgV (signsOf 1 l))] } ∧ (LSg pv).P (pre ++ [SV.str (st [34, 92, 34, 34])]) x') := by kernel_rfl
theorem zhF (pv : List SV) (Er : Prop) (K : SV → SS → Prop) (l : List Pc) (pre : List SV) : frTurn (bdOf TTs 78) (fcAt 710 (fcSg pv Er) 4) (LSg pv) (frAt 710 1) (restK (bdOf TTs 79) (fcAt 710 (fcSg pv Er) 4) (restAt 710 1) K) l pre (.str Pc.nlo.str) =
  (CK (inLine (List.map sgV (signsOf 1 l)).length) (∃ x', Fits (LSg pv) x' { loc := [(s_pieces, SV.lst pv), (s_found, SV.obj 0), (s_place, SV.int (1 + clen l + 2)), (s_piece, SV.str (st [10, 40]))], H := [SO.seq (List.map sgV (signsOf 1 l) ++ [SV.tup [SV.str (st [40]), SV.int (1 + clen l + 1)]])] } ∧ (LSg pv).P (pre ++ [SV.str (st [10, 40])]) x')) := by kernel_rfl
theorem zjO (pv : List SV) (Er : Prop) (K : SV → SS → Prop) (l : List Pc) (pre : List SV) : frTurn (bdOf TTs 78) (fcAt 710 (fcSg pv Er) 4) (LSg pv) (frAt 710 1) (restK (bdOf TTs 79) (fcAt 710 (fcSg pv Er) 4) (restAt 710 1) K) l pre (.str Pc.us.str) =
  (CK (inLine (List.map sgV (signsOf 1 l)).length) (∃ x', Fits (LSg pv) x' { loc := [(s_pieces, SV.lst pv), (s_found, SV.obj 0), (s_place, SV.int (1 + clen l + 2)), (s_piece, SV.str (st [34, 40]))], H := [SO.seq (List.map sgV (signsOf 1 l) ++ [SV.tup [SV.str s_string, SV.int (1 + clen l)]])] } ∧ (LSg pv).P (pre ++ [SV.str (st [34, 40])]) x')) := by kernel_rfl
theorem zkH {L : List Pc} {pre post : List SV} {v : SV} (h : L.map (fun x => SV.str x.str) = pre ++ v :: post) : ∃ i : Pc, v = .str i.str := by
 have : v ∈ L.map (fun x => SV.str x.str) := by rw [h]; simp
 obtain ⟨i, _, e⟩ := List.mem_map.mp this
 exact ⟨i, e.symm⟩
theorem zpX (x : Pc) : [Pc.op, .cl, .bo, .bc, .a, .sp, .nl, .s1, .cm, .s2, .nlo, .us].find? (fun p => Nat.beq p.cs.sum x.cs.sum) = some x := by cases x <;> rfl
theorem zpY {x y : Pc} (h : x.str = y.str) : x = y := by
 have e : x.cs.sum = y.cs.sum := congrArg (fun s : Str => s.cps.toList.sum) h
 have q := zpX x
 rw [e, zpX y] at q
 exact (Option.some.inj q).symm
theorem zkG {a b : List Pc} (h : a.map (fun x => SV.str x.str) = b.map (fun x => SV.str x.str)) : a = b := (List.map_inj_right fun _ _ e => zpY (by injection e)).mp h
theorem ziL (H : List SO) : ∀ (l : List (Sg × Int)), frzL (frz H 3) (l.map sgV) = some (l.map sgV)
 | [] => rfl
 | x :: r => by
  show (frzL (frz H 3) (r.map sgV)).map (sgV x :: ·) = _
  rw [ziL H r]; rfl
theorem zrI {K : SV → Prop} {l : List (Str × SV)} {H : List SO} {i : Nat} {fd : List (Sg × Int)} (hH : H[i]? = some (.seq (fd.map sgV))) (h : K (.lst (fd.map sgV))) : Fz K (.obj i) ⟨l, H⟩ := by
 refine ⟨4, .lst (fd.map sgV), ?_, h⟩
 show H[i]?.bind (soF (fun vs => (frzL (frz H 3) vs).map SV.lst) _ _) = _
 rw [hH]
 show (frzL (frz H 3) (fd.map sgV)).map SV.lst = _
 rw [ziL]; rfl
noncomputable def spSg: Spec := fun vs K _ => A1 vs fun pv0 => OL pv0 fun pv => ∃ ps : List Pc, pv = ps.map (fun x => SV.str x.str) ∧ ps.length ≤ 100 ∧ K (.lst ((signsOf 1 ps).map sgV))
theorem zpF {g : Gl} (H : Facts g) : SemSpec g (S0 g) false 710 5 spSg :=
 have ok : CallOk g (S0 g) TTs := zbG H (l := []) rfl (fun x hm => by cases hm)
 zaY ok (exc0 g _ rfl) 79 sc0 false fun svs K Er hp => by
  replace hp := zeG hp
  obtain ⟨pv0, rfl, hp⟩ := hp
  replace hp := zdP hp
  obtain ⟨pv, rfl, hp⟩ := hp
  obtain ⟨ps, rfl, hl, hK⟩ := hp
  refine ⟨lpOf 636004 (LSg (ps.map fun x => SV.str x.str)), Hold.mk ?_⟩
  rw [zrL]
  refine zaB (zaD (by rw [List.length_map]; lia)) ⟨⟨[], zaF (zaA rfl (zaA rfl (zaA rfl zaC))) rfl, rfl⟩, fun (x : List Pc) pre v post hits hP => ?_, fun (x : List Pc) hP => ?_⟩
  ·obtain ⟨i, rfl⟩ := zkH hits
   have hP' : pre = x.map fun x => SV.str x.str := hP
   subst hP'
   have hxl : x.length ≤ 100 := by
    have := congrArg List.length hits
    simp at this
    lia
   have hsl : ((signsOf 1 x).map sgV).length ≤ 100000 := by
    have := zc3 x 1
    rw [List.length_map]; lia
   have hnext : (LSg (ps.map fun x => SV.str x.str)).P (x.map (fun x => SV.str x.str) ++ [SV.str i.str]) (x ++ [i]) := by
    show _ = (x ++ [i]).map fun x => SV.str x.str
    simp
   have hc : clen (x ++ [i]) = clen x + (i.cs.length : Int) := by rw [zgH]; simp [clen]
   have hsg : signsOf 1 (x ++ [i]) = signsOf 1 x ++ i.sg (1 + clen x) := by rw [zc4]; simp [signsOf]
   have fit : ∀ {s : SS} {H' : List SO} {n : Int}, n = 1 + clen x + (i.cs.length : Int) → lk s.loc s_pieces = some (.lst (ps.map fun x => SV.str x.str)) → lk s.loc s_found = some (.obj 0) → lk s.loc s_place = some (.int n) → s.H = [.seq ((signsOf 1 x ++ i.sg (1 + clen x)).map sgV)] → ∃ x', Fits (LSg (ps.map fun x => SV.str x.str)) x' s ∧ (LSg (ps.map fun x => SV.str x.str)).P (x.map (fun x => SV.str x.str) ++ [SV.str i.str]) x' := fun hn a b c d => ⟨x ++ [i], zaF (zaA a (zaA b (zaA (by rw [c, hn, hc, Int.add_assoc]) zaC))) (by rw [d, ← hsg]; rfl), hnext⟩
   cases i
   ·rw [zjS]
    exact zaB (zaD hsl) (fit (H' := []) rfl rfl rfl rfl (by rw [List.map_append]; rfl))
   ·rw [zjV]
    exact zaB (zaD hsl) (fit (H' := []) rfl rfl rfl rfl (by rw [List.map_append]; rfl))
   ·rw [zjW]
    exact zaB (zaD hsl) (fit (H' := []) rfl rfl rfl rfl (by rw [List.map_append]; rfl))
   ·rw [zjX]
    exact zaB (zaD hsl) (fit (H' := []) rfl rfl rfl rfl (by rw [List.map_append]; rfl))
   ·rw [zmF]
    exact fit (H' := []) rfl rfl rfl rfl (by rw [List.map_append]; show _ = [SO.seq (List.map sgV (signsOf 1 x) ++ [])]; rw [List.append_nil])
   ·rw [zjP]
    exact fit (H' := []) rfl rfl rfl rfl (by rw [List.map_append]; show _ = [SO.seq (List.map sgV (signsOf 1 x) ++ [])]; rw [List.append_nil])
   ·rw [zjT]
    exact fit (H' := []) rfl rfl rfl rfl (by rw [List.map_append]; show _ = [SO.seq (List.map sgV (signsOf 1 x) ++ [])]; rw [List.append_nil])
   ·rw [zjR]
    exact fit (H' := []) rfl rfl rfl rfl (by rw [List.map_append]; show _ = [SO.seq (List.map sgV (signsOf 1 x) ++ [])]; rw [List.append_nil])
   ·rw [zjU]
    exact fit (H' := []) rfl rfl rfl rfl (by rw [List.map_append]; show _ = [SO.seq (List.map sgV (signsOf 1 x) ++ [])]; rw [List.append_nil])
   ·rw [zjQ]
    exact fit (H' := []) rfl rfl rfl rfl (by rw [List.map_append]; show _ = [SO.seq (List.map sgV (signsOf 1 x) ++ [])]; rw [List.append_nil])
   ·rw [zhF]
    exact zaB (zaD hsl) (fit (H' := []) rfl rfl rfl rfl (by rw [List.map_append]; rfl))
   ·rw [zjO]
    exact zaB (zaD hsl) (fit (H' := []) rfl rfl rfl rfl (by rw [List.map_append]; rfl))
  ·have hP' : ps.map (fun x => SV.str x.str) = x.map fun x => SV.str x.str := hP
   have := zkG hP'
   subst this
   exact zrI rfl hK
structure DX where
 pile : List (Sg × Int)
 ends : List (Int × Int)
 n : Nat
 mis : Option Int
 str : Option Int
noncomputable def kvI (x : Int × Int) : Int × SV := (x.1, .int x.2)
noncomputable def LDu (sg : List SV) (l0 : List (Sg × Int) → DX) : Loop where
 σ := DX
 st := fun x => ⟨[(s_signs, .lst sg), (s_pile, .obj 0), (s_ends, .obj 1), (s_misfit, oi x.mis), (s_string, oi x.str)], [.seq (x.pile.map sgV), .idict (x.ends.map kvI) x.n]⟩
 P := fun pre x => ∃ l, pre = l.map sgV ∧ x = l0 l
 ms := fun _ => 0
noncomputable abbrev fcDu (sg : List SV) (l0 : List (Sg × Int) → DX) (Er : Prop) : FC := ⟨sc0, 5, lpOf 647004 (LDu sg l0), Er, false⟩
theorem zrQ (sg : List SV) (l0 : List (Sg × Int) → DX) (Er : Prop) (K : SV → SS → Prop) : callF TTs (bdOf TTs 79) (fcDu sg l0 Er) 717 [.lst sg] ⟨[], []⟩ K =
  (CK (inLine sg.length) ((∃ x0, Fits (LDu sg l0) x0 ⟨[(s_signs, .lst sg), (s_pile, .obj 0), (s_ends, .obj 1), (s_misfit, .none), (s_string, .none)], [.seq [], .idict [] 0]⟩ ∧ (LDu sg l0).P [] x0) ∧
   (∀ x pre v post, sg = pre ++ v :: post → (LDu sg l0).P pre x → frTurn (bdOf TTs 78) (fcAt 717 (fcDu sg l0 Er) 4) (LDu sg l0) (frAt 717 1) (restK (bdOf TTs 79) (fcAt 717 (fcDu sg l0 Er) 4) (restAt 717 1) K) x pre v) ∧
   ∀ x, (LDu sg l0).P sg x → restK (bdOf TTs 79) (fcAt 717 (fcDu sg l0 Er) 4) (restAt 717 1) K .next ((LDu sg l0).st x))) := by kernel_rfl
noncomputable def isetI : List (Int × Int) → Int → Int → List (Int × Int)
 | [], x, v => [(x, v)]
 | (k, u) :: r, x, v => if k = x then (k, v) :: r else (k, u) :: isetI r x v
theorem zh8 : ∀ (es : List (Int × Int)) (x v : Int), iset (es.map kvI) x (.int v) = (isetI es x v).map kvI
 | [], x, v => rfl
 | (k, u) :: r, x, v => by
  show (match eqB k x with | true => (k, SV.int v) :: r.map kvI | false => (k, SV.int u) :: iset (r.map kvI) x (.int v)) = _
  by_cases h : k = x
  ·rw [show eqB k x = true from decide_eq_true h, isetI, if_pos h]; rfl
  ·rw [show eqB k x = false from decide_eq_false h, isetI, if_neg h, zh8 r]; rfl
noncomputable def dclose (x : DX) (g : Sg) (p : Int) : DX :=
 ⟨x.pile.dropLast, (match x.pile.getLast? with | none => x.ends | some y => isetI x.ends y.2 (p + 1)), (if x.pile = [] then x.n else x.n + 1), (if x.mis = none ∧ x.pile.getLast?.map Prod.fst ≠ some g then some p else x.mis), x.str⟩
noncomputable def dstep (x : DX) (y : Sg × Int) : DX := match y.1 with
 | .po => { x with pile := x.pile ++ [y] }
 | .bo => { x with pile := x.pile ++ [y] }
 | .str => { x with str := some y.2 }
 | .pc => dclose x .po y.2
 | .bc => dclose x .bo y.2
noncomputable def dfold (l : List (Sg × Int)) : DX := l.foldl dstep ⟨[], [], 0, none, none⟩
noncomputable def dRes (x : DX) : Option Int := match x.mis with
 | some m => some m
 | none => match x.str with
  | some b => some b
  | none => x.pile.head?.map Prod.snd
theorem ziW (x : DX) (y : Sg × Int) : (dstep x y).pile.length ≤ x.pile.length + 1 ∧ (dstep x y).n ≤ x.n + 1 := by
 obtain ⟨g, p⟩ := y
 have dc : ∀ g, (dclose x g p).pile.length ≤ x.pile.length + 1 ∧ (dclose x g p).n ≤ x.n + 1 := fun g => by
  unfold dclose
  dsimp only
  refine ⟨by rw [List.length_dropLast]; lia, by split <;> lia⟩
 cases g
 ·exact ⟨by show (x.pile ++ [_]).length ≤ _; simp, Nat.le_succ _⟩
 ·exact dc _
 ·exact ⟨by show (x.pile ++ [_]).length ≤ _; simp, Nat.le_succ _⟩
 ·exact dc _
 ·exact ⟨Nat.le_succ _, Nat.le_succ _⟩
theorem ziX (l r : List (Sg × Int)) : dfold (l ++ r) = r.foldl dstep (dfold l) := by unfold dfold; rw [List.foldl_append]
theorem zd1 : ∀ (l : List (Sg × Int)) (x : DX), (l.foldl dstep x).pile.length ≤ x.pile.length + l.length ∧ (l.foldl dstep x).n ≤ x.n + l.length
 | [], x => ⟨Nat.le_refl _, Nat.le_refl _⟩
 | y :: r, x => by
  have h1 := ziW x y
  have h2 := zd1 r (dstep x y)
  rw [List.foldl_cons, List.length_cons]
  lia
theorem zeV (l : List (Sg × Int)) : (dfold l).pile.length ≤ l.length ∧ (dfold l).n ≤ l.length := by
 have := zd1 l ⟨[], [], 0, none, none⟩
 have e1 : (⟨[], [], 0, none, none⟩ : DX).pile.length = 0 := rfl
 have e2 : (⟨[], [], 0, none, none⟩ : DX).n = 0 := rfl
 unfold dfold
 lia
noncomputable def duLoc (sg : List SV) (m s : SV) (c : Nat) (p : Int) : List (Str × SV) := [(s_signs, .lst sg), (s_pile, .obj 0), (s_ends, .obj 1), (s_misfit, m), (s_string, s), (s_sign, .str (st [c])), (s_place, .int p)]
noncomputable def popT (L : Loop) (pre : List SV) (x : DX) (loc : List (Str × SV)) (c : Nat) (p : Int) : Prop := @OM Bool (cmpV ⟨loc, [.seq (x.pile.map sgV), .idict (x.ends.map kvI) x.n]⟩ .NotEq (.obj 0) (.lst [])) fun v => BR v (CK (inLine (x.pile.map sgV).length) (@OM (List SV × SV) (unsnoc (x.pile.map sgV)) fun v => @OM SV (getO ⟨loc, [.seq v.fst, .idict (x.ends.map kvI) x.n]⟩ v.snd 1) fun v_1 => @OM Int (intO v_1) fun v_2 => CK (x.n.ble 1000) (∃ x', Fits L x' ⟨loc, [.seq v.fst, .idict (iset (x.ends.map kvI) v_2 (.int (p + 1))) (x.n + 1)]⟩ ∧ L.P (pre ++ [.tup [.str (st [c]), .int p]]) x'))) (∃ x', Fits L x' ⟨loc, [.seq (x.pile.map sgV), .idict (x.ends.map kvI) x.n]⟩ ∧ L.P (pre ++ [.tup [.str (st [c]), .int p]]) x')
noncomputable def closeT (sg : List SV) (l0 : List (Sg × Int) → DX) (pre : List SV) (x : DX) (c o : Nat) (p : Int) : Prop :=
 @OM Bool (cmpV ⟨duLoc sg (oi x.mis) (oi x.str) c p, [.seq (x.pile.map sgV), .idict (x.ends.map kvI) x.n]⟩ .Is (oi x.mis) .none) fun v => BR v (@OM Bool (cmpV ⟨duLoc sg (oi x.mis) (oi x.str) c p, [.seq (x.pile.map sgV), .idict (x.ends.map kvI) x.n]⟩ .Eq (.obj 0) (.lst [])) fun v => BR v (popT (LDu sg l0) pre x (duLoc sg (.int p) (oi x.str) c p) c p) (CK (inLine (x.pile.map sgV).length) (@OM Nat (place (-1) (x.pile.map sgV).length) fun v => @OM SV (x.pile.map sgV)[v]? fun v => @OM SV (getO ⟨duLoc sg (oi x.mis) (oi x.str) c p, [.seq (x.pile.map sgV), .idict (x.ends.map kvI) x.n]⟩ v 0) fun v => @OM Bool (cmpV ⟨duLoc sg (oi x.mis) (oi x.str) c p, [.seq (x.pile.map sgV), .idict (x.ends.map kvI) x.n]⟩ .NotEq v (.str (st [o]))) fun v => BR v (popT (LDu sg l0) pre x (duLoc sg (.int p) (oi x.str) c p) c p) (popT (LDu sg l0) pre x (duLoc sg (oi x.mis) (oi x.str) c p) c p)))) (popT (LDu sg l0) pre x (duLoc sg (oi x.mis) (oi x.str) c p) c p)
theorem zj2 (sg : List SV) (l0 : List (Sg × Int) → DX) (Er : Prop) (K : SV → SS → Prop) (x : DX) (p : Int) (pre : List SV) : frTurn (bdOf TTs 78) (fcAt 717 (fcDu sg l0 Er) 4) (LDu sg l0) (frAt 717 1) (restK (bdOf TTs 79) (fcAt 717 (fcDu sg l0 Er) 4) (restAt 717 1) K) x pre (sgV (Sg.po, p)) =
  (CK (inLine (List.map sgV x.pile).length) (∃ x', Fits (LDu sg l0) x' { loc := [(s_signs, SV.lst sg), (s_pile, SV.obj 0), (s_ends, SV.obj 1), (s_misfit, oi x.mis), (s_string, oi x.str), (s_sign, SV.str (st [40])), (s_place, SV.int p)], H := [SO.seq (List.map sgV x.pile ++ [SV.tup [SV.str (st [40]), SV.int p]]), SO.idict (List.map kvI x.ends) x.n] } ∧ (LDu sg l0).P (pre ++ [SV.tup [SV.str (st [40]), SV.int p]]) x')) := by kernel_rfl
theorem zj3 (sg : List SV) (l0 : List (Sg × Int) → DX) (Er : Prop) (K : SV → SS → Prop) (x : DX) (p : Int) (pre : List SV) : frTurn (bdOf TTs 78) (fcAt 717 (fcDu sg l0 Er) 4) (LDu sg l0) (frAt 717 1) (restK (bdOf TTs 79) (fcAt 717 (fcDu sg l0 Er) 4) (restAt 717 1) K) x pre (sgV (Sg.pc, p)) =
  (closeT sg l0 pre x 41 40 p) := by kernel_rfl
theorem zj4 (sg : List SV) (l0 : List (Sg × Int) → DX) (Er : Prop) (K : SV → SS → Prop) (x : DX) (p : Int) (pre : List SV) : frTurn (bdOf TTs 78) (fcAt 717 (fcDu sg l0 Er) 4) (LDu sg l0) (frAt 717 1) (restK (bdOf TTs 79) (fcAt 717 (fcDu sg l0 Er) 4) (restAt 717 1) K) x pre (sgV (Sg.bo, p)) =
  (CK (inLine (List.map sgV x.pile).length) (∃ x', Fits (LDu sg l0) x' { loc := [(s_signs, SV.lst sg), (s_pile, SV.obj 0), (s_ends, SV.obj 1), (s_misfit, oi x.mis), (s_string, oi x.str), (s_sign, SV.str (st [91])), (s_place, SV.int p)], H := [SO.seq (List.map sgV x.pile ++ [SV.tup [SV.str (st [91]), SV.int p]]), SO.idict (List.map kvI x.ends) x.n] } ∧ (LDu sg l0).P (pre ++ [SV.tup [SV.str (st [91]), SV.int p]]) x')) := by kernel_rfl
theorem zj5 (sg : List SV) (l0 : List (Sg × Int) → DX) (Er : Prop) (K : SV → SS → Prop) (x : DX) (p : Int) (pre : List SV) : frTurn (bdOf TTs 78) (fcAt 717 (fcDu sg l0 Er) 4) (LDu sg l0) (frAt 717 1) (restK (bdOf TTs 79) (fcAt 717 (fcDu sg l0 Er) 4) (restAt 717 1) K) x pre (sgV (Sg.bc, p)) =
  (closeT sg l0 pre x 93 91 p) := by kernel_rfl
theorem zhH (sg : List SV) (l0 : List (Sg × Int) → DX) (Er : Prop) (K : SV → SS → Prop) (x : DX) (p : Int) (pre : List SV) : frTurn (bdOf TTs 78) (fcAt 717 (fcDu sg l0 Er) 4) (LDu sg l0) (frAt 717 1) (restK (bdOf TTs 79) (fcAt 717 (fcDu sg l0 Er) 4) (restAt 717 1) K) x pre (sgV (Sg.str, p)) =
  (∃ x', Fits (LDu sg l0) x' { loc := [(s_signs, SV.lst sg), (s_pile, SV.obj 0), (s_ends, SV.obj 1), (s_misfit, oi x.mis), (s_string, SV.int p), (s_sign, SV.str s_string), (s_place, SV.int p)], H := [SO.seq (List.map sgV x.pile), SO.idict (List.map kvI x.ends) x.n] } ∧ (LDu sg l0).P (pre ++ [SV.tup [SV.str s_string, SV.int p]]) x') := by kernel_rfl
theorem zhI (sg : List SV) (l0 : List (Sg × Int) → DX) (Er : Prop) (K : SV → SS → Prop) (x : DX) : restK (bdOf TTs 79) (fcAt 717 (fcDu sg l0 Er) 4) (restAt 717 1) K .next ((LDu sg l0).st x) =
  (@OM Bool (cmpV ((LDu sg l0).st x) CmpOp.IsNot (oi x.mis) SV.none) fun v => BR v (@OM Bool (cmpV ((LDu sg l0).st x) CmpOp.Is (oi x.mis) SV.none) fun v => BR v (K (SV.tup [oi x.str, SV.obj 1]) { loc := [], H := [SO.seq (List.map sgV x.pile), SO.idict (List.map kvI x.ends) x.n] }) (K (SV.tup [oi x.mis, SV.obj 1]) { loc := [], H := [SO.seq (List.map sgV x.pile), SO.idict (List.map kvI x.ends) x.n] })) (@OM Bool (cmpV ((LDu sg l0).st x) CmpOp.IsNot (oi x.str) SV.none) fun v => BR v (@OM Bool (cmpV ((LDu sg l0).st x) CmpOp.Is (oi x.mis) SV.none) fun v => BR v (K (SV.tup [oi x.str, SV.obj 1]) { loc := [], H := [SO.seq (List.map sgV x.pile), SO.idict (List.map kvI x.ends) x.n] }) (K (SV.tup [oi x.mis, SV.obj 1]) { loc := [], H := [SO.seq (List.map sgV x.pile), SO.idict (List.map kvI x.ends) x.n] })) (@OM Bool (cmpV ((LDu sg l0).st x) CmpOp.NotEq (SV.obj 0) (SV.lst [])) fun v => BR v (CK (inLine (List.map sgV x.pile).length) (@OM Nat (place 0 (List.map sgV x.pile).length) fun v => @OM SV (List.map sgV x.pile)[v]? fun v => @OM SV (getO ((LDu sg l0).st x) v 1) fun v => K (SV.tup [v, SV.obj 1]) { loc := [], H := [SO.seq (List.map sgV x.pile), SO.idict (List.map kvI x.ends) x.n] })) (K (SV.tup [SV.none, SV.obj 1]) { loc := [], H := [SO.seq (List.map sgV x.pile), SO.idict (List.map kvI x.ends) x.n] })))) := by kernel_rfl
theorem ziQ : ∀ (l : List (Sg × Int)), eqLI (l.map sgV) [] = some (decide (l = []))
 | [] => rfl
 | _ :: _ => rfl
theorem zn5 {loc : List (Str × SV)} {l : List (Sg × Int)} {o : SO} : cmpV ⟨loc, [.seq (l.map sgV), o]⟩ .Eq (.obj 0) (.lst []) = some (decide (l = [])) := by
 show eqLI (l.map sgV) [] = _
 rw [ziQ]
theorem zhY {loc : List (Str × SV)} {l : List (Sg × Int)} {o : SO} : cmpV ⟨loc, [.seq (l.map sgV), o]⟩ .NotEq (.obj 0) (.lst []) = some (!decide (l = [])) := by
 show notO (eqLI (l.map sgV) []) = _
 rw [ziQ]; rfl
theorem is_none {s : SS} (o : Option Int) : cmpV s .Is (oi o) .none = some (decide (o = none)) := by cases o <;> rfl
theorem zbM {s : SS} (o : Option Int) : cmpV s .IsNot (oi o) .none = some (!decide (o = none)) := by cases o <;> rfl
theorem zpW {L : Loop} {pre : List SV} {x : DX} {loc : List (Str × SV)} {c : Nat} {p : Int} (hl : x.pile.length ≤ 1000) (hn : x.n ≤ 1000)
  (h : ∀ x' : DX, x'.pile = x.pile.dropLast → x'.ends = (match x.pile.getLast? with | none => x.ends | some y => isetI x.ends y.2 (p + 1)) → x'.n = (if x.pile = [] then x.n else x.n + 1) → ∃ y, Fits L y ⟨loc, [.seq (x'.pile.map sgV), .idict (x'.ends.map kvI) x'.n]⟩ ∧ L.P (pre ++ [.tup [.str (st [c]), .int p]]) y) : popT L pre x loc c p := by
 unfold popT
 refine zaE zhY ?_
 rcases List.eq_nil_or_concat x.pile with he | ⟨i, a, he⟩
 ·refine BR_f (by rw [he]; rfl) ?_
  have := h ⟨[], x.ends, x.n, none, none⟩ (by rw [he]; rfl) (by rw [he]; rfl) (by rw [he]; rfl)
  rw [he]; exact this
 ·have he' : x.pile = i ++ [a] := by simpa using he
  refine BR_t (by rw [he']; simp) (zaB (zaD (by rw [List.length_map]; lia)) ?_)
  obtain ⟨g, q⟩ := a
  rw [he', List.map_append]
  refine zaE (zb0 _ _) (zaE (a := .int q) rfl (zaE (a := q) rfl (zaB (Nat.ble_eq_true_of_le hn) ?_)))
  have := h ⟨i, isetI x.ends q (p + 1), x.n + 1, none, none⟩ (by rw [he']; simp) (by rw [he']; simp) (by rw [he']; simp)
  rw [zh8]
  exact this
theorem zgG {sg : List SV} {l0 : List (Sg × Int) → DX} {pre : List SV} {x : DX} {c o : Nat} {g : Sg} {p : Int} (hl : x.pile.length ≤ 1000) (hn : x.n ≤ 1000) (ho : ∀ y : Sg, eqS y.s (st [o]) = decide (y = g))
  (h : (LDu sg l0).P (pre ++ [.tup [.str (st [c]), .int p]]) (dclose x g p)) : closeT sg l0 pre x c o p := by
 unfold closeT
 have go : ∀ m, m = (dclose x g p).mis → popT (LDu sg l0) pre x (duLoc sg (oi m) (oi x.str) c p) c p := fun m hm => zpW hl hn fun x' e1 e2 e3 => ⟨dclose x g p, zaF (zaA rfl (zaA rfl (zaA rfl (zaA (by subst hm; rfl) (zaA rfl zaC))))) (by rw [e1, e2, e3]; rfl), h⟩
 refine zaE (is_none _) (zaI (fun q => ?_) fun q => ?_)
 ·have q' : x.mis = none := of_decide_eq_true q
  refine zaE zn5 (zaI (fun q2 => ?_) fun q2 => ?_)
  ·have q2' : x.pile = [] := of_decide_eq_true q2
   exact go (some p) (by unfold dclose; dsimp only; rw [if_pos ⟨q', by rw [q2']; simp⟩])
  ·have q2' : ¬ x.pile = [] := of_decide_eq_false q2
   rcases List.eq_nil_or_concat x.pile with he | ⟨i, a, he⟩
   ·exact absurd he q2'
   ·have he' : x.pile = i ++ [a] := by simpa using he
    obtain ⟨y, z⟩ := a
    refine zaB (zaD (by rw [List.length_map]; lia)) (zaE (a := i.length) ?_ (zaE (a := sgV (y, z)) (by rw [he']; simp) (zaE (a := .str y.s) rfl (zaE (a := !eqS y.s (st [o])) rfl (zaI (fun q3 => ?_) fun q3 => ?_)))))
    ·unfold Mine.place
     rw [List.length_map, he', List.length_append]
     rw [show leB 0 (-1) = false from by decide]
     dsimp only
     rw [show leB 0 (-1 + ((i.length + [(y, z)].length : Nat) : Int)) = true from decide_eq_true (by simp; lia)]
     dsimp only
     congr 1
     simp; lia
    ·rw [ho] at q3
     have q3' : y ≠ g := by simpa using q3
     exact go (some p) (by unfold dclose; dsimp only; rw [if_pos ⟨q', by rw [he']; simpa using q3'⟩])
    ·rw [ho] at q3
     have q3' : y = g := by simpa using q3
     exact go x.mis (by unfold dclose; dsimp only; rw [if_neg (by rw [he']; simp [q3'])])
 ·have q' : ¬ x.mis = none := of_decide_eq_false q
  exact go x.mis (by unfold dclose; dsimp only; rw [if_neg (fun z => q' z.1)])
theorem zhW {n : Nat} (h : 0 < n) : Mine.place 0 n = some 0 := by
 unfold Mine.place
 rw [show leB 0 0 = true from rfl, show ltB 0 (n : Int) = true from decide_eq_true (by lia)]
 rfl
theorem zhN {L : List (Sg × Int)} {pre post : List SV} {v : SV} (h : L.map sgV = pre ++ v :: post) : ∃ i : Sg × Int, v = sgV i := by
 have : v ∈ L.map sgV := by rw [h]; simp
 obtain ⟨i, _, e⟩ := List.mem_map.mp this
 exact ⟨i, e.symm⟩
theorem zpD (x : Sg) : [Sg.po, .pc, .bo, .bc, .str].find? (fun p => Nat.beq p.s.cps.toList.sum x.s.cps.toList.sum) = some x := by cases x <;> rfl
theorem zhO {x y : Sg × Int} (h : sgV x = sgV y) : x = y := by
 obtain ⟨a, p⟩ := x
 obtain ⟨b, q⟩ := y
 injection h with h
 injection h with h1 h2
 injection h2 with h2
 injection h2 with h2
 injection h1 with h1
 have w := zpD a
 rw [show a.s = b.s from h1, zpD b] at w
 rw [show p = q from h2, Option.some.inj w]
theorem zhM {a b : List (Sg × Int)} (h : a.map sgV = b.map sgV) : a = b := (List.map_inj_right fun _ _ => zhO).mp h
theorem ziM (H : List SO) : ∀ (l : List (Int × Int)), frzD (frz H 1) (l.map kvI) = some (l.map kvI)
 | [] => rfl
 | x :: r => by
  show (frzD (frz H 1) (r.map kvI)).map ((x.1, SV.int x.2) :: ·) = _
  rw [ziM H r]; rfl
theorem zlO {K : SV → Prop} {loc : List (Str × SV)} {a : SO} {es : List (Int × Int)} {n : Nat} {o : Option Int} (h : K (.tup [oi o, .dct (es.map kvI)])) : Fz K (.tup [oi o, .obj 1]) ⟨loc, [a, .idict (es.map kvI) n]⟩ := by
 refine ⟨3, .tup [oi o, .dct (es.map kvI)], ?_, h⟩
 have e1 : frz [a, .idict (es.map kvI) n] 2 (oi o) = some (oi o) := by cases o <;> rfl
 have e2 : frz [a, .idict (es.map kvI) n] 2 (.obj 1) = some (.dct (es.map kvI)) := by
  show (frzD (frz [a, .idict (es.map kvI) n] 1) (es.map kvI)).map SV.dct = _
  rw [ziM]; rfl
 show Option.map SV.tup ((frz [a, .idict (es.map kvI) n] 2 (oi o)).bind fun u => Option.map (u :: ·) ((frz [a, .idict (es.map kvI) n] 2 (.obj 1)).bind fun u => some [u])) = _
 rw [e1, e2]; rfl
noncomputable def spDue: Spec := fun vs K _ => A1 vs fun sg0 => OL sg0 fun sg => ∃ l : List (Sg × Int), sg = l.map sgV ∧ l.length ≤ 100 ∧ K (.tup [oi (dRes (dfold l)), .dct ((dfold l).ends.map kvI)])
theorem zm9 {g : Gl} (H : Facts g) : SemSpec g (S0 g) false 717 5 spDue :=
 have ok : CallOk g (S0 g) TTs := zbG H (l := []) rfl (fun x hm => by cases hm)
 zaY ok (exc0 g _ rfl) 79 sc0 false fun svs K Er hp => by
  replace hp := zeG hp
  obtain ⟨sg0, rfl, hp⟩ := hp
  replace hp := zdP hp
  obtain ⟨sg, rfl, hp⟩ := hp
  obtain ⟨l, rfl, hl, hK⟩ := hp
  refine ⟨lpOf 647004 (LDu (l.map sgV) dfold), Hold.mk ?_⟩
  rw [zrQ]
  refine zaB (zaD (by rw [List.length_map]; lia)) ⟨⟨dfold [], zaF (zaA rfl (zaA rfl (zaA rfl (zaA rfl (zaA rfl zaC))))) rfl, [], rfl, rfl⟩, fun (x : DX) pre v post hits hP => ?_, fun (x : DX) hP => ?_⟩
  ·obtain ⟨⟨s, p⟩, rfl⟩ := zhN hits
   obtain ⟨m, rfl, rfl⟩ := hP
   have hml : m.length ≤ 100 := by
    have := congrArg List.length hits
    simp at this
    lia
   obtain ⟨d1, d2⟩ := zeV m
   have hlen : (dfold m).pile.length ≤ 1000 := by lia
   have hn : (dfold m).n ≤ 1000 := by lia
   have nx : (LDu (l.map sgV) dfold).P (m.map sgV ++ [sgV (s, p)]) (dstep (dfold m) (s, p)) := ⟨m ++ [(s, p)], by simp, by rw [ziX]; rfl⟩
   cases s
   ·rw [zj2]
    exact zaB (zaD (by rw [List.length_map]; lia)) ⟨dstep (dfold m) (.po, p), zaF (zaA rfl (zaA rfl (zaA rfl (zaA rfl (zaA rfl zaC))))) (by show _ = [SO.seq (List.map sgV ((dfold m).pile ++ [(Sg.po, p)])), _]; rw [List.map_append]; rfl), nx⟩
   ·rw [zj3]
    exact zgG hlen hn (fun y => by cases y <;> rfl) nx
   ·rw [zj4]
    exact zaB (zaD (by rw [List.length_map]; lia)) ⟨dstep (dfold m) (.bo, p), zaF (zaA rfl (zaA rfl (zaA rfl (zaA rfl (zaA rfl zaC))))) (by show _ = [SO.seq (List.map sgV ((dfold m).pile ++ [(Sg.bo, p)])), _]; rw [List.map_append]; rfl), nx⟩
   ·rw [zj5]
    exact zgG hlen hn (fun y => by cases y <;> rfl) nx
   ·rw [zhH]
    exact ⟨dstep (dfold m) (.str, p), zaF (zaA rfl (zaA rfl (zaA rfl (zaA rfl (zaA rfl zaC))))) rfl, nx⟩
  ·obtain ⟨m, e, rfl⟩ := hP
   have := zhM e
   subst this
   rw [zhI]
   obtain ⟨d1, d2⟩ := zeV l
   unfold dRes at hK
   cases w1 : (dfold l).mis with
   | some a =>
    rw [w1] at hK
    exact zaE (zbM _) (BR_t rfl (zaE (is_none _) (BR_f rfl (zlO (o := some a) hK))))
   | none =>
    rw [w1] at hK
    dsimp only at hK
    cases w2 : (dfold l).str with
    | some b =>
     rw [w2] at hK
     exact zaE (zbM _) (BR_f rfl (zaE (zbM _) (BR_t rfl (zaE (is_none _) (BR_t rfl (zlO (o := some b) hK))))))
    | none =>
     rw [w2] at hK
     dsimp only at hK
     refine zaE (zbM _) (BR_f rfl (zaE (zbM _) (BR_f rfl (zaE zhY ?_))))
     cases w3 : (dfold l).pile with
     | nil =>
      rw [w3] at hK
      exact BR_f rfl (zlO (o := none) hK)
     | cons a r =>
      rw [w3] at hK
      obtain ⟨y, z⟩ := a
      exact BR_t rfl (zaB (zaD (by rw [← w3, List.length_map]; lia)) (zaE (a := 0) (zhW (by simp)) (zaE (a := sgV (y, z)) rfl (zaE (a := .int z) rfl (zlO (o := some z) hK)))))
noncomputable def isOp : Sg → Bool
 | .po => true
 | .bo => true
 | _ => false
noncomputable def startB (cs : List Int) (y : Sg × Int) : Bool := isOp y.1 && (eqB y.2 1 || eqB (codeAt cs (y.2 - 1)) 10)
noncomputable def startsOf (cs : List Int) (l : List (Sg × Int)) : List Int := (l.filter (startB cs)).map Prod.snd
noncomputable def ilkI : List (Int × Int) → Int → Option Int
 | [], _ => none
 | (k, v) :: r, x => if k = x then some v else ilkI r x
noncomputable def atOf (loc : List (Str × SV)) : Int := match lk loc s_at with
 | some (.int a) => a
 | _ => 0
noncomputable def LSt (s : Str) : Loop where
 σ := List (Sg × Int)
 st := fun l => ⟨[(accN, .lst ((startsOf (cT s) l).map SV.int))], []⟩
 P := fun pre l => pre = l.map sgV
 ms := fun _ => 0
noncomputable def drLoc (cs : List Int) (tp tr : SV) (s : Str) (sg : List SV) (es : List (Int × SV)) (starts : List SV) : List (Str × SV) :=
 [(s_view, VIEW cs), (s_table, TAB tp tr), (s_text, .str s), (s_signs, .lst sg), (s_ends, .dct es), (s_starts, .lst starts)]
noncomputable def LAt (loc : List (Str × SV)) : Loop where
 σ := Unit
 st := fun _ => ⟨loc, []⟩
 P := fun _ _ => True
 ms := fun _ => 0
 gc := true
noncomputable def LBe (loc : List (Str × SV)) (a : Int) (bh : Int → Option Int) : Loop where
 σ := List Int
 st := fun l => ⟨loc ++ [(s_at, .int a), (s_behind, .obj 0)], [.seq (l.map fun i => oi (bh i))]⟩
 P := fun pre l => pre = l.map SV.int
 ms := fun _ => 0
noncomputable def openB (a : Int) : Option Int → Bool
 | none => true
 | some e => ltB a e
noncomputable def LOp (H : List SO) (a : Int) : Loop where
 σ := List (Option Int)
 st := fun l => ⟨[(accN, .lst ((l.filter (openB a)).map oi))], H⟩
 P := fun pre l => pre = l.map oi
 ms := fun _ => 0
noncomputable def lpDr (cs : List Int) (s : Str) (L : List (Str × SV)) (bh : Int → Option Int) (j : Nat) (loc : List (Str × SV)) : Option Loop :=
 match Nat.beq j 666013 with
 | true => some (LSt s)
 | false => match Nat.beq j 669004 with
  | true => some (LAt L)
  | false => match Nat.beq j 670017 with
   | true => some (LFil [] fun x => ltB x (atOf loc))
   | false => match Nat.beq j 674021 with
    | true => some (LFil [.seq []] fun x => leB x (atOf loc))
    | false => match Nat.beq j 674071 with
     | true => some (LFil [.seq []] fun x => ltB (atOf loc) x)
     | false => match Nat.beq j 674008 with
      | true => some (LBe L (atOf loc) bh)
      | false => match Nat.beq j 676014 with
       | true => some (LOp [.seq ((deL cs (atOf loc)).map fun i => oi (bh i))] (atOf loc))
       | false => none
noncomputable def spBhV(s : Str) : Spec := fun vs K _ => A2 vs fun t v => ∃ e, (v = .int e ∧ t = .str s) ∧ 1 ≤ e ∧ K (.int (lbAt (cT s) e))
noncomputable def Ld (cs : List Int) (s : Str) : SpecL := [(621, (20, spDs cs)), (626, (25, spDst cs)), (638, (40, spDe cs)), (724, (5, spBhV s))]
noncomputable abbrev TTd (cs : List Int) (s : Str) : Tab := tab [673] (lkN (Ld cs s)) true
noncomputable abbrev fcDr (cs : List Int) (s : Str) (L : List (Str × SV)) (bh : Int → Option Int) (Er : Prop) : FC := ⟨sc0, 45, lpDr cs s L bh, Er, true⟩
noncomputable def frTurnD (r : Bd) (fc : FC) (L : Loop) (tb : Expr × List Stmt) (K : KO) (x : L.σ) (pre : List SV) (v : SV) : Prop := bindT fc.sc tb.1 v (L.st x) fun st2 => exs r fc tb.2 st2 fun o st3 => match o with
     | .next => ∃ x', FitD L x' st3 ∧ L.P (pre ++ [v]) x'
     | .cont => ∃ x', FitD L x' st3 ∧ L.P (pre ++ [v]) x'
     | .brk => K .next st3
     | .ret v => K (.ret v) st3
theorem za4 {cs : List Int} {p c : Int} {r : List Int} (h1 : 1 ≤ p) (h : dropAt cs p = c :: r) : dropAt cs (p + 1) = r ∧ codeAt cs p = c ∧ p < 1 + (cs.length : Int) := by
 have hlt : p < 1 + (cs.length : Int) := by
  by_cases q : p < 1 + (cs.length : Int)
  ·exact q
  ·rw [zaO (by lia)] at h; cases h
 rw [zaM h1 hlt] at h
 obtain ⟨a, b⟩ := List.cons.inj h
 exact ⟨b, a, hlt⟩
noncomputable def okPs : List Pc → Prop
 | [] => True
 | x :: r => (x = .us → r = []) ∧ okPs r
noncomputable def opc : Sg → Int
 | .po => 40
 | .bo => 91
 | _ => 0
theorem zb4 {cs : List Int} {s s' : WS} {c p : Int} {r : List Int} (e : wstep s c p = s') (ho : s'.ops = s.ops) (hb : s'.below = s.below) : fu cs s (c :: r) p = fu cs s' r (p + 1) :=
 zg3 e.symm (by lia) (by rw [ho]; lia)
theorem zc9 : ∀ (l : List (Sg × Int)) (x : DX) (m : Int), x.mis = some m → (l.foldl dstep x).mis = some m
 | [], x, m, h => h
 | (g, p) :: r, x, m, h => by
  refine zc9 r _ m ?_
  have dc : ∀ g, (dclose x g p).mis = some m := fun g => by
   unfold dclose
   dsimp only
   rw [if_neg (fun q => by rw [h] at q; cases q.1)]
   exact h
  cases g
  ·exact h
  ·exact dc _
  ·exact h
  ·exact dc _
  ·exact h
theorem zgE {x : DX} {m : Int} (h : x.mis = some m) : dRes x = some m := by unfold dRes; rw [h]
structure Pil (cs : List Int) (x : DX) : Prop where
 m : x.mis = none
 s : x.str = none
 c : ∀ y ∈ x.pile, isOp y.1 = true ∧ codeAt cs y.2 = opc y.1
theorem Pil.push {cs : List Int} {x : DX} {y : Sg × Int} (h : Pil cs x) (ho : isOp y.1 = true) (hc : codeAt cs y.2 = opc y.1) : Pil cs { x with pile := x.pile ++ [y] } :=
 ⟨h.m, h.s, fun z hz => by
  rcases List.mem_append.mp hz with q | q
  ·exact h.c z q
  ·rw [List.mem_singleton.mp q]; exact ⟨ho, hc⟩⟩
theorem zdG {cs : List Int} : ∀ (ps : List Pc) (p below : Int) (x : DX), okPs ps → 1 ≤ p → dropAt cs p = codes ps → Pil cs x →
  fu cs ⟨.pl, x.pile.map Prod.snd, below⟩ (codes ps) p = dRes ((signsOf p ps).foldl dstep x)
 | [], p, below, x, _, _, _, hx => by
  show (x.pile.map Prod.snd).head? = dRes x
  unfold dRes
  rw [hx.m, hx.s, List.head?_map]
 | k :: r, p, below, x, hok, h1, hd, hx => by
  have mv : ∀ {c : Int} {l : List Int} {q : Int}, 1 ≤ q → dropAt cs q = c :: l → dropAt cs (q + 1) = l := fun a b => (za4 a b).1
  have clo : ∀ (g : Sg) (c o : Int), (c = 41 ∧ o = 40 ∧ g = .po ∨ c = 93 ∧ o = 91 ∧ g = .bo) → dropAt cs p = c :: codes r → fu cs ⟨.pl, x.pile.map Prod.snd, below⟩ (c :: codes r) p = dRes ((signsOf (p + 1) r).foldl dstep (dclose x g p)) := fun g c o hc hd => by
   obtain ⟨hd1, hcp, _⟩ := za4 h1 hd
   have h4 : ¬ (c = 40 ∨ c = 91) := by lia
   have h5 : c = 41 ∨ c = 93 := by lia
   rcases List.eq_nil_or_concat x.pile with he | ⟨i, a, he⟩
   ·have hm : (dclose x g p).mis = some p := by
     unfold dclose
     dsimp only
     rw [if_pos ⟨hx.m, by rw [he]; simp⟩]
    rw [zgE (zc9 _ _ _ hm)]
    have hw : wstep ⟨.pl, x.pile.map Prod.snd, below⟩ c p = ⟨.pl, [], below + 1⟩ := by
     unfold wstep
     dsimp only
     rw [if_neg h4, if_pos h5, he]; rfl
    exact ziH hw.symm (by show below < below + 1; lia)
   ·have he' : x.pile = i ++ [a] := by simpa using he
    obtain ⟨y, q⟩ := a
    have hw : wstep ⟨.pl, x.pile.map Prod.snd, below⟩ c p = ⟨.pl, i.map Prod.snd, below⟩ := by
     unfold wstep
     dsimp only
     rw [if_neg h4, if_pos h5, he', List.map_append, if_neg (by simp)]
     simp
    obtain ⟨hy1, hy2⟩ := hx.c (y, q) (by rw [he']; simp)
    have hy2' : codeAt cs q = opc y := hy2
    have hlast : (x.pile.map Prod.snd).getLastD 0 = q := by rw [he', List.map_append]; simp
    have hpair : pairB cs q p = decide (y = g) := by
     unfold pairB
     rw [hy2', hcp]
     have hy3 : isOp y = true := hy1
     clear hy1 hy2 hy2' hw hlast he' he
     rcases hc with ⟨rfl, rfl, rfl⟩ | ⟨rfl, rfl, rfl⟩ <;> (revert hy3; cases y <;> decide)
    by_cases hyg : y = g
    ·have hm : dclose x g p = ⟨i, isetI x.ends q (p + 1), x.n + 1, none, none⟩ := by
      unfold dclose
      rw [he', hx.m, hx.s]
      simp [hyg]
     rw [hm]
     rw [zg3 hw.symm (by show ¬ below < below; lia) (fun z => by rw [hlast, hpair, hyg] at z; simp at z)]
     exact zdG r (p + 1) below ⟨i, isetI x.ends q (p + 1), x.n + 1, none, none⟩ hok.2 (by lia) hd1 ⟨rfl, rfl, fun z hz => hx.c z (by rw [he']; exact List.mem_append_left _ hz)⟩
    ·have hm : (dclose x g p).mis = some p := by
      unfold dclose
      dsimp only
      rw [if_pos ⟨hx.m, by rw [he']; simpa using hyg⟩]
     rw [zgE (zc9 _ _ _ hm)]
     refine ziG hw.symm (by show ¬ below < below; lia) ⟨by show (i.map Prod.snd).length < (x.pile.map Prod.snd).length; rw [he']; simp, ?_⟩
     rw [hlast, hpair]
     exact decide_eq_false hyg
  cases k with
  | op =>
   have hd' : dropAt cs p = 40 :: codes r := hd
   obtain ⟨hd1, hc, _⟩ := za4 h1 hd'
   show fu cs _ (40 :: codes r) p = dRes ((signsOf (p + 1) r).foldl dstep { x with pile := x.pile ++ [(Sg.po, p)] })
   rw [zg3 (s' := ⟨.pl, x.pile.map Prod.snd ++ [p], below⟩) rfl (by show ¬ below < below; lia) (fun z => by have := z.1; simp at this; lia)]
   have := zdG r (p + 1) below { x with pile := x.pile ++ [(Sg.po, p)] } hok.2 (by lia) hd1 (hx.push rfl hc)
   rw [← this]; simp
  | bo =>
   have hd' : dropAt cs p = 91 :: codes r := hd
   obtain ⟨hd1, hc, _⟩ := za4 h1 hd'
   show fu cs _ (91 :: codes r) p = dRes ((signsOf (p + 1) r).foldl dstep { x with pile := x.pile ++ [(Sg.bo, p)] })
   rw [zg3 (s' := ⟨.pl, x.pile.map Prod.snd ++ [p], below⟩) rfl (by show ¬ below < below; lia) (fun z => by have := z.1; simp at this; lia)]
   have := zdG r (p + 1) below { x with pile := x.pile ++ [(Sg.bo, p)] } hok.2 (by lia) hd1 (hx.push rfl hc)
   rw [← this]; simp
  | cl => exact clo .po 41 40 (.inl ⟨rfl, rfl, rfl⟩) hd
  | bc => exact clo .bo 93 91 (.inr ⟨rfl, rfl, rfl⟩) hd
  | a =>
   have hd' : dropAt cs p = 97 :: codes r := hd
   show fu cs _ (97 :: codes r) p = dRes ((signsOf (p + 1) r).foldl dstep x)
   refine (zb4 (s' := ⟨.pl, x.pile.map Prod.snd, below⟩) (by rfl) (by rfl) (by rfl)).trans ?_
   exact zdG r (p + 1) below x hok.2 (by lia) (mv h1 hd') hx
  | sp =>
   have hd' : dropAt cs p = 32 :: codes r := hd
   show fu cs _ (32 :: codes r) p = dRes ((signsOf (p + 1) r).foldl dstep x)
   refine (zb4 (s' := ⟨.pl, x.pile.map Prod.snd, below⟩) (by rfl) (by rfl) (by rfl)).trans ?_
   exact zdG r (p + 1) below x hok.2 (by lia) (mv h1 hd') hx
  | nl =>
   have hd' : dropAt cs p = 10 :: codes r := hd
   show fu cs _ (10 :: codes r) p = dRes ((signsOf (p + 1) r).foldl dstep x)
   refine (zb4 (s' := ⟨.pl, x.pile.map Prod.snd, below⟩) (by rfl) (by rfl) (by rfl)).trans ?_
   exact zdG r (p + 1) below x hok.2 (by lia) (mv h1 hd') hx
  | s1 =>
   have hd' : dropAt cs p = 34 :: 40 :: 34 :: codes r := hd
   have d1 := mv h1 hd'
   have d2 := mv (by lia) d1
   have d3 := mv (by lia) d2
   show fu cs _ (34 :: 40 :: 34 :: codes r) p = dRes ((signsOf (p + 3) r).foldl dstep x)
   refine (zb4 (s' := ⟨.st p false, x.pile.map Prod.snd, below⟩) (by rfl) (by rfl) (by rfl)).trans ?_
   refine (zb4 (s' := ⟨.st p false, x.pile.map Prod.snd, below⟩) (by rfl) (by rfl) (by rfl)).trans ?_
   refine (zb4 (s' := ⟨.pl, x.pile.map Prod.snd, below⟩) (by rfl) (by rfl) (by rfl)).trans ?_
   rw [show p + 3 = p + 1 + 1 + 1 by lia]
   exact zdG r _ below x hok.2 (by lia) d3 hx
  | cm =>
   have hd' : dropAt cs p = 59 :: 41 :: 10 :: codes r := hd
   have d1 := mv h1 hd'
   have d2 := mv (by lia) d1
   have d3 := mv (by lia) d2
   show fu cs _ (59 :: 41 :: 10 :: codes r) p = dRes ((signsOf (p + 3) r).foldl dstep x)
   refine (zb4 (s' := ⟨.co p, x.pile.map Prod.snd, below⟩) (by rfl) (by rfl) (by rfl)).trans ?_
   refine (zb4 (s' := ⟨.co p, x.pile.map Prod.snd, below⟩) (by rfl) (by rfl) (by rfl)).trans ?_
   refine (zb4 (s' := ⟨.pl, x.pile.map Prod.snd, below⟩) (by rfl) (by rfl) (by rfl)).trans ?_
   rw [show p + 3 = p + 1 + 1 + 1 by lia]
   exact zdG r _ below x hok.2 (by lia) d3 hx
  | s2 =>
   have hd' : dropAt cs p = 34 :: 92 :: 34 :: 34 :: codes r := hd
   have d1 := mv h1 hd'
   have d2 := mv (by lia) d1
   have d3 := mv (by lia) d2
   have d4 := mv (by lia) d3
   show fu cs _ (34 :: 92 :: 34 :: 34 :: codes r) p = dRes ((signsOf (p + 4) r).foldl dstep x)
   refine (zb4 (s' := ⟨.st p false, x.pile.map Prod.snd, below⟩) (by rfl) (by rfl) (by rfl)).trans ?_
   refine (zb4 (s' := ⟨.st p true, x.pile.map Prod.snd, below⟩) (by rfl) (by rfl) (by rfl)).trans ?_
   refine (zb4 (s' := ⟨.st p false, x.pile.map Prod.snd, below⟩) (by rfl) (by rfl) (by rfl)).trans ?_
   refine (zb4 (s' := ⟨.pl, x.pile.map Prod.snd, below⟩) (by rfl) (by rfl) (by rfl)).trans ?_
   rw [show p + 4 = p + 1 + 1 + 1 + 1 by lia]
   exact zdG r _ below x hok.2 (by lia) d4 hx
  | nlo =>
   have hd' : dropAt cs p = 10 :: 40 :: codes r := hd
   have d1 := mv h1 hd'
   obtain ⟨d2, hc, _⟩ := za4 (by lia) d1
   show fu cs _ (10 :: 40 :: codes r) p = dRes ((signsOf (p + 2) r).foldl dstep { x with pile := x.pile ++ [(Sg.po, p + 1)] })
   refine (zb4 (s' := ⟨.pl, x.pile.map Prod.snd, below⟩) (by rfl) (by rfl) (by rfl)).trans ?_
   rw [zg3 (s' := ⟨.pl, x.pile.map Prod.snd ++ [p + 1], below⟩) rfl (by show ¬ below < below; lia) (fun z => by have := z.1; simp at this; lia)]
   have := zdG r (p + 2) below { x with pile := x.pile ++ [(Sg.po, p + 1)] } hok.2 (by lia) (by rw [← d2]; congr 1; lia) (hx.push rfl hc)
   rw [← this, p2 p]; simp
  | us =>
   have hr := hok.1 rfl
   subst hr
   show fu cs _ [34, 40] p = dRes ((signsOf (p + 2) []).foldl dstep { x with str := some p })
   refine (zb4 (s' := ⟨.st p false, x.pile.map Prod.snd, below⟩) (by rfl) (by rfl) (by rfl)).trans ?_
   refine (zb4 (s' := ⟨.st p false, x.pile.map Prod.snd, below⟩) (by rfl) (by rfl) (by rfl)).trans ?_
   show some p = dRes { x with str := some p }
   unfold dRes
   rw [hx.m]
theorem zbN {cs : List Int} (y : Sg × Int) (r : List (Sg × Int)) : startsOf cs (y :: r) = startsOf cs [y] ++ startsOf cs r := by
 unfold startsOf
 rw [List.filter_cons, List.filter_cons, List.filter_nil]
 split <;> simp
theorem zaW {cs : List Int} {s s' : WS} {c p : Int} {r : List Int} (e : wstep s c p = s') (ho : s'.ops.length ≤ s.ops.length) : ds cs s (c :: r) p = ds cs s' r (p + 1) := zn6 e.symm (fun z => by lia)
theorem zfI {cs : List Int} {s s' : WS} {c p : Int} {r : List Int} {g : Sg} (e : wstep s c p = s') (ho : s.ops.length < s'.ops.length) (hg : isOp g = true) : ds cs s (c :: r) p = startsOf cs [(g, p)] ++ ds cs s' r (p + 1) := by
 by_cases q : p = 1 ∨ codeAt cs (p - 1) = 10
 ·have : startB cs (g, p) = true := by
   unfold startB eqB
   dsimp only
   rw [hg]
   rcases q with q | q
   ·rw [decide_eq_true q]; rfl
   ·rw [decide_eq_true q, Bool.or_true]; rfl
  rw [zl5 e.symm ⟨ho, q⟩]
  unfold startsOf
  rw [List.filter_cons, if_pos this]; rfl
 ·have : startB cs (g, p) = false := by
   unfold startB eqB
   dsimp only
   rw [hg, decide_eq_false (fun z => q (.inl z)), decide_eq_false (fun z => q (.inr z))]; rfl
  rw [zn6 e.symm (fun z => q z.2)]
  unfold startsOf
  rw [List.filter_cons, if_neg (by rw [this]; exact nofun)]; rfl
theorem zgD {cs : List Int} {c p : Int} {r : List Int} {ops : List Int} {below : Int} (hc : c = 41 ∨ c = 93) : ∃ b, ds cs ⟨.pl, ops, below⟩ (c :: r) p = ds cs ⟨.pl, ops.dropLast, b⟩ r (p + 1) := by
 have h4 : ¬ (c = 40 ∨ c = 91) := by lia
 by_cases h : ops = []
 ·refine ⟨below + 1, zaW (s' := ⟨.pl, [], below + 1⟩) ?_ (Nat.zero_le _) |>.trans (by rw [h]; rfl)⟩
  unfold wstep
  dsimp only
  rw [if_neg h4, if_pos hc, if_pos h]
 ·refine ⟨below, zaW (s' := ⟨.pl, ops.dropLast, below⟩) ?_ (by show ops.dropLast.length ≤ ops.length; rw [List.length_dropLast]; lia)⟩
  unfold wstep
  dsimp only
  rw [if_neg h4, if_pos hc, if_neg h]
theorem zcU {cs : List Int} : ∀ (ps : List Pc) (p below : Int) (ops : List Int), okPs ps → ds cs ⟨.pl, ops, below⟩ (codes ps) p = startsOf cs (signsOf p ps)
 | [], p, below, ops, _ => rfl
 | k :: r, p, below, ops, hok => by
  have sk : ∀ (g : Sg), isOp g = false → startsOf cs ((g, p) :: signsOf (p + 1) r) = startsOf cs (signsOf (p + 1) r) := fun g hg => by
   unfold startsOf
   rw [List.filter_cons, if_neg (by unfold startB; rw [hg]; exact nofun)]
  cases k with
  | op =>
   show ds cs _ (40 :: codes r) p = startsOf cs ((Sg.po, p) :: signsOf (p + 1) r)
   rw [zbN, zfI (g := .po) (s' := ⟨.pl, ops ++ [p], below⟩) rfl (by simp) rfl, zcU r _ _ _ hok.2]
  | bo =>
   show ds cs _ (91 :: codes r) p = startsOf cs ((Sg.bo, p) :: signsOf (p + 1) r)
   rw [zbN, zfI (g := .bo) (s' := ⟨.pl, ops ++ [p], below⟩) rfl (by simp) rfl, zcU r _ _ _ hok.2]
  | cl =>
   show ds cs _ (41 :: codes r) p = startsOf cs ((Sg.pc, p) :: signsOf (p + 1) r)
   obtain ⟨b, e⟩ := zgD (cs := cs) (c := 41) (p := p) (r := codes r) (ops := ops) (below := below) (.inl rfl)
   rw [e, zcU r _ _ _ hok.2, sk _ rfl]
  | bc =>
   show ds cs _ (93 :: codes r) p = startsOf cs ((Sg.bc, p) :: signsOf (p + 1) r)
   obtain ⟨b, e⟩ := zgD (cs := cs) (c := 93) (p := p) (r := codes r) (ops := ops) (below := below) (.inr rfl)
   rw [e, zcU r _ _ _ hok.2, sk _ rfl]
  | a =>
   show ds cs _ (97 :: codes r) p = startsOf cs (signsOf (p + 1) r)
   refine (zaW (s' := ⟨.pl, ops, below⟩) (by rfl) (by exact Nat.le_refl _)).trans ?_
   rw [zcU r _ _ _ hok.2]
  | sp =>
   show ds cs _ (32 :: codes r) p = startsOf cs (signsOf (p + 1) r)
   refine (zaW (s' := ⟨.pl, ops, below⟩) (by rfl) (by exact Nat.le_refl _)).trans ?_
   rw [zcU r _ _ _ hok.2]
  | nl =>
   show ds cs _ (10 :: codes r) p = startsOf cs (signsOf (p + 1) r)
   refine (zaW (s' := ⟨.pl, ops, below⟩) (by rfl) (by exact Nat.le_refl _)).trans ?_
   rw [zcU r _ _ _ hok.2]
  | s1 =>
   show ds cs _ (34 :: 40 :: 34 :: codes r) p = startsOf cs (signsOf (p + 3) r)
   refine (zaW (s' := ⟨.st p false, ops, below⟩) (by rfl) (by exact Nat.le_refl _)).trans ?_
   refine (zaW (s' := ⟨.st p false, ops, below⟩) (by rfl) (by exact Nat.le_refl _)).trans ?_
   refine (zaW (s' := ⟨.pl, ops, below⟩) (by rfl) (by exact Nat.le_refl _)).trans ?_
   rw [zcU r _ _ _ hok.2]
   rw [show p + 3 = p + 1 + 1 + 1 by lia]
  | cm =>
   show ds cs _ (59 :: 41 :: 10 :: codes r) p = startsOf cs (signsOf (p + 3) r)
   refine (zaW (s' := ⟨.co p, ops, below⟩) (by rfl) (by exact Nat.le_refl _)).trans ?_
   refine (zaW (s' := ⟨.co p, ops, below⟩) (by rfl) (by exact Nat.le_refl _)).trans ?_
   refine (zaW (s' := ⟨.pl, ops, below⟩) (by rfl) (by exact Nat.le_refl _)).trans ?_
   rw [zcU r _ _ _ hok.2]
   rw [show p + 3 = p + 1 + 1 + 1 by lia]
  | s2 =>
   show ds cs _ (34 :: 92 :: 34 :: 34 :: codes r) p = startsOf cs (signsOf (p + 4) r)
   refine (zaW (s' := ⟨.st p false, ops, below⟩) (by rfl) (by exact Nat.le_refl _)).trans ?_
   refine (zaW (s' := ⟨.st p true, ops, below⟩) (by rfl) (by exact Nat.le_refl _)).trans ?_
   refine (zaW (s' := ⟨.st p false, ops, below⟩) (by rfl) (by exact Nat.le_refl _)).trans ?_
   refine (zaW (s' := ⟨.pl, ops, below⟩) (by rfl) (by exact Nat.le_refl _)).trans ?_
   rw [zcU r _ _ _ hok.2]
   rw [show p + 4 = p + 1 + 1 + 1 + 1 by lia]
  | nlo =>
   show ds cs _ (10 :: 40 :: codes r) p = startsOf cs ((Sg.po, p + 1) :: signsOf (p + 2) r)
   rw [zbN]
   refine (zaW (s' := ⟨.pl, ops, below⟩) (by rfl) (by exact Nat.le_refl _)).trans ?_
   rw [zfI (g := .po) (s' := ⟨.pl, ops ++ [p + 1], below⟩) rfl (by simp) rfl, zcU r _ _ _ hok.2, p2 p]
  | us =>
   have hr := hok.1 rfl
   subst hr
   show ds cs _ [34, 40] p = startsOf cs [(Sg.str, p)]
   refine (zaW (s' := ⟨.st p false, ops, below⟩) (by rfl) (by exact Nat.le_refl _)).trans ?_
   refine (zaW (s' := ⟨.st p false, ops, below⟩) (by rfl) (by exact Nat.le_refl _)).trans ?_
   rfl
theorem zbY : ∀ (es : List (Int × Int)) (k v x : Int), ilkI (isetI es k v) x = if k = x then some v else ilkI es x
 | [], k, v, x => by simp [isetI, ilkI]
 | (a, u) :: r, k, v, x => by
  rw [isetI]
  by_cases h : a = k
  ·subst h
   rw [if_pos rfl, ilkI, ilkI]
   by_cases q : a = x <;> simp [q]
  ·rw [if_neg h, ilkI, zbY r, ilkI]
   by_cases q : a = x
   ·subst q; rw [if_pos rfl, if_neg (fun e => h e.symm), if_pos rfl]
   ·rw [if_neg q, if_neg q]
theorem zpE (k : Pc) (p : Int) : ∀ y ∈ k.sg p, p ≤ y.2 ∧ y.2 < p + (k.cs.length : Int) := by
 cases k <;> simp [Pc.sg, Pc.cs] <;> lia
theorem zd7 : ∀ (ps : List Pc) (p : Int), ∀ y ∈ signsOf p ps, p ≤ y.2 ∧ y.2 < p + clen ps
 | [], p, y, h => by cases h
 | k :: r, p, y, h => by
  have hc := zdL r
  have e : clen (k :: r) = (k.cs.length : Int) + clen r := rfl
  rcases List.mem_append.mp h with q | q
  ·have := zpE k p y q
   omega
  ·have := zd7 r _ y q
   omega
structure Inv (x : DX) (p : Int) : Prop where
 lt : ∀ y ∈ x.pile, y.2 < p
 nd : (x.pile.map Prod.snd).Nodup
 no : ∀ q, p ≤ q → ilkI x.ends q = none
theorem Inv.mono {x : DX} {p p' : Int} (h : Inv x p) (hp : p ≤ p') : Inv x p' := ⟨fun y hy => by have := h.lt y hy; lia, h.nd, fun q hq => h.no q (by lia)⟩
theorem Inv.close {x : DX} {p p' q : Int} {g : Sg} (h : Inv x p) (hp : p ≤ p') : Inv (dclose x g q) p' := by
 refine ⟨fun y hy => ?_, ?_, fun z hz => ?_⟩
 ·have := h.lt y ((List.dropLast_sublist _).subset hy)
  lia
 ·show (x.pile.dropLast.map Prod.snd).Nodup
  rw [List.map_dropLast]
  exact h.nd.sublist (List.dropLast_sublist _)
 ·show ilkI (match x.pile.getLast? with | none => x.ends | some y => isetI x.ends y.2 (q + 1)) z = none
  cases w : x.pile.getLast? with
  | none => exact h.no z (by lia)
  | some y =>
   have := h.lt y (List.mem_of_getLast? w)
   dsimp only
   rw [zbY, if_neg (by lia)]
   exact h.no z (by lia)
theorem Inv.push {x : DX} {p p' : Int} {y : Sg × Int} (h : Inv x p) (hp : p ≤ y.2) (hp' : y.2 < p') : Inv { x with pile := x.pile ++ [y] } p' := by
 refine ⟨fun z hz => ?_, ?_, fun q hq => h.no q (by lia)⟩
 ·rcases List.mem_append.mp hz with w | w
  ·have := h.lt z w; lia
  ·rw [List.mem_singleton.mp w]; exact hp'
 ·show ((x.pile ++ [y]).map Prod.snd).Nodup
  rw [List.map_append, List.nodup_append]
  refine ⟨h.nd, by simp, fun a ha b hb => ?_⟩
  obtain ⟨z, hz, rfl⟩ := List.mem_map.mp ha
  have := h.lt z hz
  simp at hb
  subst hb
  lia
theorem Inv.step {x : DX} {p p' : Int} {y : Sg × Int} (h : Inv x p) (hp : p ≤ y.2) (hp' : y.2 < p') : Inv (dstep x y) p' := by
 obtain ⟨g, q⟩ := y
 have hp2 : p ≤ q := hp
 have hp3 : q < p' := hp'
 cases g
 ·exact h.push hp hp'
 ·exact h.close (by lia)
 ·exact h.push hp hp'
 ·exact h.close (by lia)
 ·exact ⟨(h.mono (p' := p') (by lia)).lt, h.nd, (h.mono (p' := p') (by lia)).no⟩
theorem zcV : ∀ (l : List (Sg × Int)) (x : DX) (q e : Int), ilkI x.ends q = some e → (∀ y ∈ x.pile, y.2 ≠ q) → (∀ y ∈ l, q < y.2) → ilkI (l.foldl dstep x).ends q = some e
 | [], x, q, e, h, _, _ => h
 | (g, p) :: r, x, q, e, h, hn, hl => by
  have hp : q < p := hl (g, p) List.mem_cons_self
  have hr : ∀ y ∈ r, q < y.2 := fun y hy => hl y (List.mem_cons_of_mem _ hy)
  have pu : ∀ g', ilkI (r.foldl dstep { x with pile := x.pile ++ [(g', p)] }).ends q = some e := fun g' => zcV r _ q e h (fun y hy => by
   rcases List.mem_append.mp hy with z | z
   ·exact hn y z
   ·rw [List.mem_singleton.mp z]; show p ≠ q; lia) hr
  have cl : ∀ g', ilkI (r.foldl dstep (dclose x g' p)).ends q = some e := fun g' => by
   refine zcV r _ q e ?_ (fun y hy => hn y ((List.dropLast_sublist _).subset hy)) hr
   show ilkI (match x.pile.getLast? with | none => x.ends | some y => isetI x.ends y.2 (p + 1)) q = some e
   cases w : x.pile.getLast? with
   | none => exact h
   | some y =>
    dsimp only
    rw [zbY, if_neg (hn y (List.mem_of_getLast? w))]
    exact h
  cases g
  ·exact pu _
  ·exact cl _
  ·exact pu _
  ·exact cl _
  ·exact zcV r _ q e h hn hr
theorem zbS : ∀ (ps : List Pc) (p : Int) (x : DX) (P Q : List (Sg × Int)) (g : Sg) (q : Int), okPs ps → x.pile = P ++ (g, q) :: Q → Inv x p → ilkI x.ends q = none →
  ilkI ((signsOf p ps).foldl dstep x).ends q = sx .pl ((Q.length : Int) + 1) (codes ps) p
 | [], p, x, P, Q, g, q, _, _, _, hn => hn
 | k :: r, p, x, P, Q, g, q, hok, hP, hI, hn => by
  have hq : q < p := hI.lt (g, q) (by rw [hP]; simp)
  have pu : ∀ (g' : Sg) (p1 p2 : Int), p ≤ p1 → p1 + 1 = p2 → ilkI ((signsOf p2 r).foldl dstep { x with pile := x.pile ++ [(g', p1)] }).ends q = sx .pl ((Q.length : Int) + 1 + 1) (codes r) p2 := fun g' p1 p2 h1 h2 => by
   have := zbS r p2 { x with pile := x.pile ++ [(g', p1)] } P (Q ++ [(g', p1)]) g q hok.2 (by show x.pile ++ [(g', p1)] = _; rw [hP]; simp) (hI.push h1 (by show p1 < p2; lia)) hn
   rw [this, List.length_append]
   congr 1
  have cl : ∀ (g' : Sg) (c : Int), (c = 41 ∨ c = 93) → ilkI ((signsOf (p + 1) r).foldl dstep (dclose x g' p)).ends q = sx .pl ((Q.length : Int) + 1) (c :: codes r) p := fun g' c hc => by
   rw [sx, if_neg (by lia), if_pos hc]
   have nd := hI.nd
   rw [hP] at nd
   rcases List.eq_nil_or_concat Q with he | ⟨i, z, he⟩
   ·subst he
    refine Eq.trans ?_ (if_pos (by simp)).symm
    refine zcV _ _ q _ ?_ (fun y hy => ?_) (fun y hy => by have := (zd7 r (p + 1) y hy).1; lia)
    ·show ilkI (match x.pile.getLast? with | none => x.ends | some y => isetI x.ends y.2 (p + 1)) q = _
     rw [hP]
     simp [zbY]
    ·have hy' : y ∈ x.pile.dropLast := hy
     rw [hP, List.dropLast_concat] at hy'
     intro e
     rw [List.map_append, List.nodup_append] at nd
     exact nd.2.2 y.2 (List.mem_map_of_mem hy') q (by simp) e
   ·have he' : Q = i ++ [z] := by simpa using he
    subst he'
    rw [if_neg (by simp; lia)]
    have hz : z.2 ≠ q := fun e => by
     rw [List.map_append, List.nodup_append] at nd
     have := nd.2.1
     rw [List.map_cons, List.nodup_cons] at this
     exact this.1 (by show q ∈ _; rw [← e]; simp)
    have := zbS r (p + 1) (dclose x g' p) P i g q hok.2 (by
     show x.pile.dropLast = _
     rw [hP, show P ++ (g, q) :: (i ++ [z]) = (P ++ (g, q) :: i) ++ [z] from by simp, List.dropLast_concat]) (hI.close (by lia)) (by
     show ilkI (match x.pile.getLast? with | none => x.ends | some y => isetI x.ends y.2 (p + 1)) q = none
     rw [hP, show P ++ (g, q) :: (i ++ [z]) = (P ++ (g, q) :: i) ++ [z] from by simp, List.getLast?_concat]
     dsimp only
     rw [zbY, if_neg hz]
     exact hn)
    rw [this]
    congr 1
    simp
  cases k with
  | op => exact (pu .po p (p + 1) (Int.le_refl _) rfl).trans rfl
  | bo => exact (pu .bo p (p + 1) (Int.le_refl _) rfl).trans rfl
  | cl => exact cl .po 41 (.inl rfl)
  | bc => exact cl .bo 93 (.inr rfl)
  | a => exact (zbS r (p + 1) x P Q g q hok.2 hP (hI.mono (by lia)) hn).trans rfl
  | sp => exact (zbS r (p + 1) x P Q g q hok.2 hP (hI.mono (by lia)) hn).trans rfl
  | nl => exact (zbS r (p + 1) x P Q g q hok.2 hP (hI.mono (by lia)) hn).trans rfl
  | s1 =>
   show ilkI ((signsOf (p + 3) r).foldl dstep x).ends q = sx .pl _ (codes r) (p + 1 + 1 + 1)
   rw [p3 p]
   exact zbS r (p + 3) x P Q g q hok.2 hP (hI.mono (by lia)) hn
  | cm =>
   show ilkI ((signsOf (p + 3) r).foldl dstep x).ends q = sx .pl _ (codes r) (p + 1 + 1 + 1)
   rw [p3 p]
   exact zbS r (p + 3) x P Q g q hok.2 hP (hI.mono (by lia)) hn
  | s2 =>
   show ilkI ((signsOf (p + 4) r).foldl dstep x).ends q = sx .pl _ (codes r) (p + 1 + 1 + 1 + 1)
   rw [p4 p]
   exact zbS r (p + 4) x P Q g q hok.2 hP (hI.mono (by lia)) hn
  | nlo =>
   show ilkI ((signsOf (p + 2) r).foldl dstep { x with pile := x.pile ++ [(Sg.po, p + 1)] }).ends q = sx .pl ((Q.length : Int) + 1 + 1) (codes r) (p + 1 + 1)
   rw [p2 p]
   exact pu .po (p + 1) (p + 2) (by lia) (by lia)
  | us =>
   have hr := hok.1 rfl
   subst hr
   exact hn
theorem za6 : ∀ (ps : List Pc) (p : Int), okPs ps → safe .pl (codes ps) p
 | [], p, _ => trivial
 | k :: r, p, hok => by
  cases k with
  | op => exact ⟨fun _ => by decide, za6 r _ hok.2⟩
  | bo => exact ⟨fun _ => by decide, za6 r _ hok.2⟩
  | cl => exact ⟨fun _ => by decide, za6 r _ hok.2⟩
  | bc => exact ⟨fun _ => by decide, za6 r _ hok.2⟩
  | a => exact ⟨fun _ => by decide, za6 r _ hok.2⟩
  | sp => exact ⟨fun _ => by decide, za6 r _ hok.2⟩
  | nl => exact ⟨fun _ => by decide, za6 r _ hok.2⟩
  | s1 => exact ⟨fun _ => by decide, nofun, nofun, za6 r _ hok.2⟩
  | cm => exact ⟨fun _ => by decide, nofun, nofun, za6 r _ hok.2⟩
  | s2 => exact ⟨fun _ => by decide, nofun, nofun, nofun, za6 r _ hok.2⟩
  | nlo => exact ⟨fun _ => by decide, fun _ => by decide, za6 r _ hok.2⟩
  | us =>
   have hr := hok.1 rfl
   subst hr
   exact ⟨fun _ => by decide, nofun, trivial⟩
theorem zpT {cs : List Int} : ∀ (ps : List Pc) (p : Int) (x : DX), okPs ps → 1 ≤ p → dropAt cs p = codes ps → Inv x p → ∀ y ∈ signsOf p ps, isOp y.1 = true → FwPre cs y.2 ∧ SE cs y.2 = ilkI ((signsOf p ps).foldl dstep x).ends y.2
 | [], p, x, _, _, _, _, y, h, _ => by cases h
 | k :: r, p, x, hok, h1, hd, hI, y, hy, ho => by
  have tl : dropAt cs (p + (k.cs.length : Int)) = codes r := by
   have : dropAt cs (p + (k.cs.length : Int)) = (dropAt cs p).drop k.cs.length := by
    unfold dropAt
    rw [List.drop_drop]
    congr 1
    lia
   rw [this, hd]
   show List.drop k.cs.length ((k.cs.map fun (n : Nat) => (n : Int)) ++ codes r) = _
   rw [List.drop_append, List.length_map, Nat.sub_self, List.drop_of_length_le (by simp)]
   simp
  show FwPre cs y.2 ∧ SE cs y.2 = ilkI ((k.sg p ++ signsOf (p + (k.cs.length : Int)) r).foldl dstep x).ends y.2
  rw [List.foldl_append]
  have kl : 1 ≤ k.cs.length := by cases k <;> decide
  rcases List.mem_append.mp hy with q | q
  ·have one : ∀ (g : Sg) (p1 c : Int), k.sg p = [(g, p1)] → isOp g = true → p ≤ p1 → p1 + 1 = p + (k.cs.length : Int) → codeAt cs p1 = opc g → FwPre cs y.2 ∧ SE cs y.2 = ilkI ((signsOf (p + (k.cs.length : Int)) r).foldl dstep ((k.sg p).foldl dstep x)).ends y.2 := fun g p1 c e hg hp hp2 hc => by
    rw [e] at q
    have := List.mem_singleton.mp q
    subst this
    rw [e]
    have hx : [(g, p1)].foldl dstep x = { x with pile := x.pile ++ [(g, p1)] } := by
     cases g <;> first | rfl | cases hg
    rw [hx]
    have hdr : dropAt cs (p1 + 1) = codes r := by rw [hp2]; exact tl
    have hp1 : 1 ≤ p1 := by lia
    refine ⟨⟨hp1, ?_, ?_⟩, ?_⟩
    ·show codeAt cs p1 = 40 ∨ codeAt cs p1 = 91
     rw [hc]
     cases g <;> first | exact .inl rfl | exact .inr rfl | cases hg
    ·show safe .pl (dropAt cs (p1 + 1)) (p1 + 1)
     rw [hdr]
     exact za6 r _ hok.2
    ·show sx .pl 1 (dropAt cs (p1 + 1)) (p1 + 1) = _
     rw [hdr, ← hp2]
     exact (zbS r (p1 + 1) { x with pile := x.pile ++ [(g, p1)] } x.pile [] g p1 hok.2 rfl (hI.push hp (by show p1 < p1 + 1; lia)) (hI.no p1 hp)).symm
   cases k with
   | op => exact one .po p 0 rfl rfl (Int.le_refl _) rfl (za4 h1 (show dropAt cs p = 40 :: codes r from hd)).2.1
   | bo => exact one .bo p 0 rfl rfl (Int.le_refl _) rfl (za4 h1 (show dropAt cs p = 91 :: codes r from hd)).2.1
   | nlo =>
    have d1 := (za4 h1 (show dropAt cs p = 10 :: 40 :: codes r from hd)).1
    exact one .po (p + 1) 0 rfl rfl (by lia) (by show p + 1 + 1 = p + 2; lia) (za4 (by lia) d1).2.1
   | cl => rw [List.mem_singleton.mp q] at ho; cases ho
   | bc => rw [List.mem_singleton.mp q] at ho; cases ho
   | us => rw [List.mem_singleton.mp q] at ho; cases ho
   | a => cases q
   | sp => cases q
   | nl => cases q
   | s1 => cases q
   | cm => cases q
   | s2 => cases q
  ·refine zpT r _ _ hok.2 (by lia) tl ?_ y q ho
   have h2 := zpE k p
   have h3 := zlT k p
   cases w : k.sg p with
   | nil => exact hI.mono (by lia)
   | cons z l =>
    rw [w] at h2 h3
    have : l = [] := by
     cases l with
     | nil => rfl
     | cons _ _ => simp at h3
    subst this
    have := h2 z List.mem_cons_self
    exact hI.step this.1 this.2
theorem zgM : ∀ (l : List Int) (m : Kn) (d p e : Int), sx m d l p = some e → p < e
 | [], m, d, p, e, h => by cases m <;> simp [sx] at h
 | c :: r, m, d, p, e, h => by
  cases m with
  | pl =>
   rw [sx] at h
   split at h
   ·have := zgM r _ _ _ _ h; lia
   ·split at h
    ·split at h
     ·cases h; lia
     ·have := zgM r _ _ _ _ h; lia
    ·have := zgM r _ _ _ _ h; lia
  | st b q => rw [sx] at h; have := zgM r _ _ _ _ h; lia
  | co b => rw [sx] at h; have := zgM r _ _ _ _ h; lia
theorem zd2 : ∀ (ps : List Pc), ∀ c ∈ codes ps, GoodC c
 | [], c, h => by cases h
 | k :: r, c, h => by
  rcases List.mem_append.mp h with q | q
  ·revert c
   have : ∀ z ∈ (k.cs.map fun (n : Nat) => (n : Int)), GoodC z := by cases k <;> (unfold GoodC; decide)
   exact fun c _ q => this c q
  ·exact zd2 r c q
theorem zdK : ∀ (ps : List Pc), (codes ps).length ≤ 4 * ps.length ∧ ((codes ps).length : Int) = clen ps
 | [] => ⟨Nat.le_refl _, rfl⟩
 | k :: r => by
  have h := zdK r
  have e : (codes (k :: r)).length = k.cs.length + (codes r).length := by
   show ((k.cs.map fun (n : Nat) => (n : Int)) ++ codes r).length = _
   rw [List.length_append, List.length_map]
  have h4 : k.cs.length ≤ 4 := by cases k <;> decide
  have e2 : clen (k :: r) = (k.cs.length : Int) + clen r := rfl
  rw [e, e2, List.length_cons]
  lia
structure Plain (ps : List Pc) : Prop where
 good : GoodT (codes ps)
 safe : safe .pl (dropAt (codes ps) 1) 1
 fu : fu (codes ps) ws0 (dropAt (codes ps) 1) 1 = dRes (dfold (signsOf 1 ps))
 ds : dsL (codes ps) = startsOf (codes ps) (signsOf 1 ps)
 se : ∀ s ∈ dsL (codes ps), FwPre (codes ps) s ∧ SE (codes ps) s = ilkI (dfold (signsOf 1 ps)).ends s ∧ ∀ e, SE (codes ps) s = some e → 1 ≤ e
 at' : ∀ y ∈ signsOf 1 ps, 1 ≤ y.2 ∧ y.2 ≤ ((codes ps).length : Int)
theorem plain {ps : List Pc} (hok : okPs ps) (hl : ps.length ≤ 100) : Plain ps := by
 have hd : dropAt (codes ps) 1 = codes ps := rfl
 have hds : dsL (codes ps) = startsOf (codes ps) (signsOf 1 ps) := zcU ps 1 0 [] hok
 refine ⟨⟨by have := (zdK ps).1; lia, zd2 ps⟩, za6 ps 1 hok, zdG ps 1 0 ⟨[], [], 0, none, none⟩ hok (by lia) hd ⟨rfl, rfl, fun y h => by cases h⟩, hds, fun s hs => ?_, fun y hy => ?_⟩
 ·rw [hds] at hs
  obtain ⟨y, hy, rfl⟩ := List.mem_map.mp hs
  obtain ⟨hy1, hy2⟩ := List.mem_filter.mp hy
  have ho : isOp y.1 = true := by
   unfold startB at hy2
   cases w : isOp y.1 with
   | true => rfl
   | false => rw [w] at hy2; cases hy2
  obtain ⟨a, b⟩ := zpT ps 1 ⟨[], [], 0, none, none⟩ hok (by lia) hd ⟨fun y h => (by cases h), List.nodup_nil, fun q _ => rfl⟩ y hy1 ho
  refine ⟨a, b, fun e he => ?_⟩
  have := zgM _ _ _ _ _ he
  have := a.1
  lia
 ·have := zd7 ps 1 y hy
  have := (zdK ps).2
  lia
noncomputable abbrev s_none : Str := ⟨#[110, 111, 110, 101]⟩
noncomputable def nthS (l : List Stmt) (n : Nat) : Stmt := match l[n]? with
 | some s => s
 | none => .Pass ⟨0, 0, 0, 0⟩
set_option backward.match.sparseCases false in
noncomputable def binL : Expr → Expr
 | .BinOp l _ _ _ => l
 | .Subscript v _ _ => v
 | e => e
set_option backward.match.sparseCases false in
noncomputable def binR : Expr → Expr
 | .BinOp _ _ r _ => r
 | e => e
set_option backward.match.sparseCases false in
noncomputable def iterOf : Stmt → Expr
 | .For _ i _ _ _ => i
 | _ => .Constant .none 0 ⟨0, 0, 0, 0⟩
noncomputable def drC0 : CT := ctOf (valOf (stAt 729 0))
noncomputable def drC1 : CT := ctOf (valOf (nthS (frAt 729 2).2 0))
noncomputable def drC2 : CT := ctOf (binL (binL (iterOf (nthS (frAt 729 2).2 3))))
noncomputable def drC3 : CT := ctOf (binR (iterOf (nthS (frAt 729 2).2 3)))
noncomputable def drC4 : CT := ctOf (binL (valOf (nthS (frAt 729 2).2 4)))
noncomputable def compKM (L : Loop) (k : Nat) (its : List SV) (pre : List SV) (v : SV) (acc : List SV) (u : Option SV) (H' : List SO) : Prop := H'[k]? = some (.seq its) ∧ compK L pre v acc u H'
noncomputable def drS (cs : List Int) (tp tr : SV) (s : Str) (sg : List SV) (es : List (Int × SV)) (starts : List SV) (a : Int) (acc : List SV) (H : List SO) (w : SV) : SS := { loc := drLoc cs tp tr s sg es starts ++ [(s_at, SV.int a), (s_behind, SV.obj 0), (s_due, SV.lst (acc ++ [SV.str s_none])), (s_heard, w)], H := H }
noncomputable def drFin (cs : List Int) (tp tr : SV) (s : Str) (sg : List SV) (es : List (Int × SV)) (starts : List SV) (pre : List SV) (a : Int) (acc : List SV) (H : List SO) (w : SV) : Prop := ∃ x', FitD (LAt (drLoc cs tp tr s sg es starts)) x' (drS cs tp tr s sg es starts a acc H w) ∧ (LAt (drLoc cs tp tr s sg es starts)).P (pre ++ [SV.int a]) x'
noncomputable def dr5n (cs : List Int) (tp tr : SV) (s : Str) (sg : List SV) (es : List (Int × SV)) (starts : List SV) (K : SV → SS → Prop) (pre : List SV) (a : Int) (acc : List SV) (H : List SO) (sy : Str) : Prop :=
 CK (inLine (acc ++ [SV.str s_none]).length) (@OM Nat (place 0 (acc ++ [SV.str s_none]).length) fun v => @OM SV (acc ++ [SV.str s_none])[v]? fun v => @OM Bool (cmpV (drS cs tp tr s sg es starts a acc H (.str sy)) CmpOp.IsNot v SV.none) fun v => BR v (CK (inLine (acc ++ [SV.str s_none]).length) (@OM Nat (place 0 (acc ++ [SV.str s_none]).length) fun v => @OM SV (acc ++ [SV.str s_none])[v]? fun v => @OM Bool (cmpV (drS cs tp tr s sg es starts a acc H (.str sy)) CmpOp.Eq v (SV.str s_none)) fun v => BR v (K (SV.bool Bool.false) { loc := [], H := H }) (CK (inLine (acc ++ [SV.str s_none]).length) (@OM Nat (place 0 (acc ++ [SV.str s_none]).length) fun v => @OM SV (acc ++ [SV.str s_none])[v]? fun v => @OM Bool (cmpV (drS cs tp tr s sg es starts a acc H (.str sy)) CmpOp.NotEq (SV.str sy) v) fun v => BR v (K (SV.bool Bool.false) { loc := [], H := H }) (drFin cs tp tr s sg es starts pre a acc H (.str sy)))))) (drFin cs tp tr s sg es starts pre a acc H (.str sy)))
noncomputable def dr5s (cs : List Int) (tp tr : SV) (s : Str) (sg : List SV) (es : List (Int × SV)) (starts : List SV) (K : SV → SS → Prop) (pre : List SV) (a : Int) (acc : List SV) (H : List SO) (o : Option Int) : Prop :=
 CK (inLine (acc ++ [SV.str s_none]).length) (@OM Nat (place 0 (acc ++ [SV.str s_none]).length) fun v => @OM SV (acc ++ [SV.str s_none])[v]? fun v => @OM Bool (cmpV (drS cs tp tr s sg es starts a acc H (oi o)) CmpOp.IsNot v SV.none) fun v => BR v (CK (inLine (acc ++ [SV.str s_none]).length) (@OM Nat (place 0 (acc ++ [SV.str s_none]).length) fun v => @OM SV (acc ++ [SV.str s_none])[v]? fun v => @OM Bool (cmpV (drS cs tp tr s sg es starts a acc H (oi o)) CmpOp.Eq v (SV.str s_none)) fun v => BR v (@OM Bool (cmpV (drS cs tp tr s sg es starts a acc H (oi o)) CmpOp.NotEq (oi o) SV.none) fun v => BR v (K (SV.bool Bool.false) { loc := [], H := H }) (drFin cs tp tr s sg es starts pre a acc H (oi o))) (CK (inLine (acc ++ [SV.str s_none]).length) (@OM Nat (place 0 (acc ++ [SV.str s_none]).length) fun v => @OM SV (acc ++ [SV.str s_none])[v]? fun v => @OM Bool (cmpV (drS cs tp tr s sg es starts a acc H (oi o)) CmpOp.NotEq (oi o) v) fun v => BR v (K (SV.bool Bool.false) { loc := [], H := H }) (drFin cs tp tr s sg es starts pre a acc H (oi o)))))) (drFin cs tp tr s sg es starts pre a acc H (oi o)))
noncomputable def dr5 (cs : List Int) (tp tr : SV) (s : Str) (sg : List SV) (es : List (Int × SV)) (starts : List SV) (K : SV → SS → Prop) (pre : List SV) (a : Int) (acc : List SV) (H : List SO) : Prop :=
 CK (byVal.allV (byVal 2) acc) (CK (inLine acc.length && Bool.true && (byVal.allV (byVal 2) acc && Bool.true)) (IsView cs (VIEW cs) ∧ IsTab (TAB tp tr) ∧ (de cs a (deL cs a) = Option.none → ∀ (sy : Str), dr5n cs tp tr s sg es starts K pre a acc H sy) ∧ ∀ (o : Option Int), de cs a (deL cs a) = Option.some o → dr5s cs tp tr s sg es starts K pre a acc H o))
noncomputable def dr4 (cs : List Int) (tp tr : SV) (s : Str) (sg : List SV) (es : List (Int × SV)) (bh : Int → Option Int) (starts : List SV) (Er : Prop) (K : SV → SS → Prop) (pre : List SV) (a : Int) (l l0 : List SV) : Prop :=
 CK (inLine l.length && flatL (0, l).snd) (CompV (LOp [SO.seq l0] a) l [SO.seq l] (fun v H k => turnX (bdOf (TTd cs s) 75) (fcAt 729 (fcDr cs s (drLoc cs tp tr s sg es starts) bh Er) 44) drC4 v { loc := drLoc cs tp tr s sg es starts ++ [(s_at, SV.int a), (s_behind, SV.obj 0)], H := H } k) (compKM (LOp [SO.seq l0] a) 0 l) fun acc H => dr5 cs tp tr s sg es starts K pre a acc H)
noncomputable def dr3 (cs : List Int) (tp tr : SV) (s : Str) (sg : List SV) (es : List (Int × SV)) (bh : Int → Option Int) (starts : List SV) (Er : Prop) (K : SV → SS → Prop) (pre : List SV) (a : Int) (acc acc_1 acc_2 : List SV) (H H_2 : List SO) : Prop :=
 CK (byVal.allV (byVal 2) acc_2) (CK (inLine (List.drop (acc_1.length - 1) acc_1).length && inLine acc_2.length && (byVal.allV (byVal 2) (List.drop (acc_1.length - 1) acc_1) && byVal.allV (byVal 2) acc_2)) (CK (inLine (List.drop (acc_1.length - 1) acc_1 ++ acc_2).length) ((∃ x0, Fits (LBe (drLoc cs tp tr s sg es starts) a bh) x0 { loc := drLoc cs tp tr s sg es starts ++ [(s_at, SV.int a), (s_before, SV.lst acc), (s_behind, SV.obj H.length)], H := H_2 } ∧ (LBe (drLoc cs tp tr s sg es starts) a bh).P [] x0) ∧ ((x : List Int) → (pre : List SV) → (v : SV) → (post : List SV) → List.drop (acc_1.length - 1) acc_1 ++ acc_2 = pre ++ v :: post → (LBe (drLoc cs tp tr s sg es starts) a bh).P pre x → @OM Bool (cmpV { loc := drLoc cs tp tr s sg es starts ++ [(s_at, SV.int a), (s_behind, SV.obj 0), (s_start, v)], H := [SO.seq (List.map (fun i => oi (bh i)) x)] } CmpOp.In v (SV.dct es)) fun v_1 => BR v_1 (@OM Int (intO v) fun v_2 => @OM SV (ilk es v_2) fun v_3 => CK (byVal.allV (byVal 2) [SV.str s, v_3] && Bool.true && Bool.true) (∃ e, (v_3 = SV.int e ∧ SV.str s = SV.str s) ∧ 1 ≤ e ∧ CK (inLine (List.map (fun i => oi (bh i)) x).length) (∃ x', Fits (LBe (drLoc cs tp tr s sg es starts) a bh) x' { loc := drLoc cs tp tr s sg es starts ++ [(s_at, SV.int a), (s_behind, SV.obj 0), (s_start, v)], H := [SO.seq (List.map (fun i => oi (bh i)) x ++ [SV.int (lbAt (cT s) e)])] } ∧ (LBe (drLoc cs tp tr s sg es starts) a bh).P (pre ++ [v]) x'))) (CK (inLine (List.map (fun i => oi (bh i)) x).length) (∃ x', Fits (LBe (drLoc cs tp tr s sg es starts) a bh) x' { loc := drLoc cs tp tr s sg es starts ++ [(s_at, SV.int a), (s_behind, SV.obj 0), (s_start, v)], H := [SO.seq (List.map (fun i => oi (bh i)) x ++ [SV.none])] } ∧ (LBe (drLoc cs tp tr s sg es starts) a bh).P (pre ++ [v]) x'))) ∧ ∀ (x : List Int), (LBe (drLoc cs tp tr s sg es starts) a bh).P (List.drop (acc_1.length - 1) acc_1 ++ acc_2) x → dr4 cs tp tr s sg es bh starts Er K pre a (List.map (fun i => oi (bh i)) x) (List.map (fun i => oi (bh i)) (deL cs a)))))
noncomputable def dr2 (cs : List Int) (tp tr : SV) (s : Str) (sg : List SV) (es : List (Int × SV)) (bh : Int → Option Int) (starts : List SV) (Er : Prop) (K : SV → SS → Prop) (pre : List SV) (a : Int) (acc acc_1 : List SV) (H H_1 : List SO) : Prop :=
 CK (byVal.allV (byVal 2) acc_1) (CK (Bool.true && inLine acc_1.length && byVal.allV (byVal 2) acc_1) (CK (inLine starts.length) (CompV (LFil [SO.seq []] fun x => ltB a x) starts H_1 (fun v H_2 k => turnX (bdOf (TTd cs s) 75) (fcAt 729 (fcDr cs s (drLoc cs tp tr s sg es starts) bh Er) 44) drC3 v { loc := drLoc cs tp tr s sg es starts ++ [(s_at, SV.int a), (s_before, SV.lst acc), (s_behind, SV.obj H.length)], H := H_2 } k) (compK (LFil [SO.seq []] fun x => ltB a x)) fun acc_2 H_2 => dr3 cs tp tr s sg es bh starts Er K pre a acc acc_1 acc_2 H H_2)))
noncomputable def drBody (cs : List Int) (tp tr : SV) (s : Str) (sg : List SV) (es : List (Int × SV)) (bh : Int → Option Int) (starts : List SV) (Er : Prop) (K : SV → SS → Prop) (pre : List SV) (a : Int) (acc : List SV) (H : List SO) : Prop :=
 CK (inLine starts.length) (CompV (LFil [SO.seq []] fun x => leB x a) starts (H ++ [SO.seq []]) (fun v H_1 k => turnX (bdOf (TTd cs s) 74) (fcAt 729 (fcDr cs s (drLoc cs tp tr s sg es starts) bh Er) 44) drC2 v { loc := drLoc cs tp tr s sg es starts ++ [(s_at, SV.int a), (s_before, SV.lst acc), (s_behind, SV.obj H.length)], H := H_1 } k) (compK (LFil [SO.seq []] fun x => leB x a)) fun acc_1 H_1 => dr2 cs tp tr s sg es bh starts Er K pre a acc acc_1 H H_1)
noncomputable def dr1 (cs : List Int) (tp tr : SV) (s : Str) (sg : List SV) (es : List (Int × SV)) (bh : Int → Option Int) (starts : List SV) (Er : Prop) (K : SV → SS → Prop) (pre : List SV) (a : Int) (acc : List SV) (H : List SO) : Prop :=
 CK (byVal.allV (byVal 2) acc) (IsView cs (VIEW cs) ∧ IsTab (TAB tp tr) ∧ @OM Bool (cmpV { loc := drLoc cs tp tr s sg es starts ++ [(s_at, SV.int a), (s_before, SV.lst acc)], H := H } CmpOp.NotEq (SV.lst acc) (SV.lst [])) fun v => BR v (CK (inLine acc.length) (@OM Nat (place (-1) acc.length) fun v => @OM SV acc[v]? fun v => @OM Bool (cmpV { loc := drLoc cs tp tr s sg es starts ++ [(s_at, SV.int a), (s_before, SV.lst acc)], H := H } CmpOp.NotEq (oi (List.filter (fun x => ltB x a) (dsL cs)).getLast?) v) fun v => BR v (K (SV.bool Bool.false) { loc := [], H := H }) (drBody cs tp tr s sg es bh starts Er K pre a acc H))) (@OM Bool (cmpV { loc := drLoc cs tp tr s sg es starts ++ [(s_at, SV.int a), (s_before, SV.lst acc)], H := H } CmpOp.NotEq (oi (List.filter (fun x => ltB x a) (dsL cs)).getLast?) SV.none) fun v => BR v (K (SV.bool Bool.false) { loc := [], H := H }) (drBody cs tp tr s sg es bh starts Er K pre a acc H)))
theorem zoX (cs : List Int) (tp tr : SV) (s : Str) (sg : List SV) (es : List (Int × SV)) (bh : Int → Option Int) (starts : List SV) (Er : Prop) (K : SV → SS → Prop) (pre : List SV) (a : Int) : frTurnD (bdOf (TTd cs s) 78) (fcAt 729 (fcDr cs s (drLoc cs tp tr s sg es starts) bh Er) 44) (LAt (drLoc cs tp tr s sg es starts)) (frAt 729 2) (restK (bdOf (TTd cs s) 79) (fcAt 729 (fcDr cs s (drLoc cs tp tr s sg es starts) bh Er) 44) (restAt 729 2) K) () pre (.int a) =
  (CK (inLine starts.length) (CompV (LFil [] fun x => ltB x a) starts [] (fun v H k => turnX (bdOf (TTd cs s) 76) (fcAt 729 (fcDr cs s (drLoc cs tp tr s sg es starts) bh Er) 44) drC1 v { loc := drLoc cs tp tr s sg es starts ++ [(s_at, SV.int a)], H := H } k) (compK (LFil [] fun x => ltB x a)) fun acc H => dr1 cs tp tr s sg es bh starts Er K pre a acc H)) := by kernel_rfl
theorem zoZ (cs : List Int) (tp tr : SV) (s : Str) (sg : List SV) (es : List (Int × SV)) (bh : Int → Option Int) (starts : List SV) (Er : Prop) (K : SV → SS → Prop) (L : List (Str × SV)) : callF (TTd cs s) (bdOf (TTd cs s) 79) (fcDr cs s L bh Er) 729 [VIEW cs, TAB tp tr, .str s, .lst sg, .dct es] ⟨[], []⟩ K =
  (CK (inLine sg.length) ((CompV (LSt s) sg [] (fun v H k => turnX (bdOf (TTd cs s) 77) (fcAt 729 (fcDr cs s L bh Er) 44) drC0 v ⟨[(s_view, VIEW cs), (s_table, TAB tp tr), (s_text, .str s), (s_signs, .lst sg), (s_ends, .dct es)], H⟩ k) (compK (LSt s)) fun acc H => CK (byVal.allV (byVal 2) acc) (exs (bdOf (TTd cs s) 79) (fcAt 729 (fcDr cs s L bh Er) 44) (restAt 729 0) ⟨drLoc cs tp tr s sg es acc, H⟩ (endK K))))) := by kernel_rfl
theorem zoY (cs : List Int) (tp tr : SV) (s : Str) (sg : List SV) (es : List (Int × SV)) (bh : Int → Option Int) (starts : List SV) (Er : Prop) (K : SV → SS → Prop) : exs (bdOf (TTd cs s) 79) (fcAt 729 (fcDr cs s (drLoc cs tp tr s sg es starts) bh Er) 44) (restAt 729 0) ⟨(drLoc cs tp tr s sg es starts), []⟩ (endK K) =
  (IsView cs (VIEW cs) ∧ IsTab (TAB tp tr) ∧ @OM Bool (cmpV ⟨(drLoc cs tp tr s sg es starts), []⟩ CmpOp.NotEq (SV.lst (List.map SV.int (ds cs ws0 (dropAt cs 1) 1))) (SV.lst starts)) fun v => BR v (K (SV.bool Bool.false) { loc := [], H := [] }) (CK (inLine s.cps.size) (CK (inLine s.cps.size) ((∃ x0, Fits (LAt (drLoc cs tp tr s sg es starts)) x0 ⟨(drLoc cs tp tr s sg es starts), []⟩ ∧ (LAt (drLoc cs tp tr s sg es starts)).P [] x0) ∧ (∀ (x : Unit) (pre : List SV) (v : SV) (post : List SV), [SV.int 1, SV.int ((s.cps.size : Int).fdiv 2 + 1), SV.int ((s.cps.size : Int) + 1)] = pre ++ v :: post → (LAt (drLoc cs tp tr s sg es starts)).P pre x → frTurnD (bdOf (TTd cs s) 78) (fcAt 729 (fcDr cs s (drLoc cs tp tr s sg es starts) bh Er) 44) (LAt (drLoc cs tp tr s sg es starts)) (frAt 729 2) (restK (bdOf (TTd cs s) 79) (fcAt 729 (fcDr cs s (drLoc cs tp tr s sg es starts) bh Er) 44) (restAt 729 2) K) x pre v) ∧ ∀ (x : Unit), (LAt (drLoc cs tp tr s sg es starts)).P [SV.int 1, SV.int ((s.cps.size : Int).fdiv 2 + 1), SV.int ((s.cps.size : Int) + 1)] x → K (SV.bool Bool.true) { loc := [], H := [] })))) := by kernel_rfl
section
variable (cs : List Int) (tp tr : SV) (s : Str) (sg : List SV) (es : List (Int × SV)) (bh : Int → Option Int) (starts : List SV) (L : List (Str × SV)) (Er : Prop) (K : Option SV → List SO → Prop) (H : List SO) (a i : Int)
theorem zrW : turnX (bdOf (TTd cs s) 76) (fcAt 729 (fcDr cs s L bh Er) 44) drC1 (.int i) ⟨drLoc cs tp tr s sg es starts ++ [(s_at, .int a)], H⟩ K = BR (ltB i a) (K (some (.int i)) H) (K none H) := by kernel_rfl
theorem zrV (b c : SV) : turnX (bdOf (TTd cs s) 74) (fcAt 729 (fcDr cs s L bh Er) 44) drC2 (.int i) ⟨drLoc cs tp tr s sg es starts ++ [(s_at, .int a), (s_before, b), (s_behind, c)], H⟩ K = BR (leB i a) (K (some (.int i)) H) (K none H) := by kernel_rfl
theorem zrU (b c : SV) : turnX (bdOf (TTd cs s) 75) (fcAt 729 (fcDr cs s L bh Er) 44) drC3 (.int i) ⟨drLoc cs tp tr s sg es starts ++ [(s_at, .int a), (s_before, b), (s_behind, c)], H⟩ K = BR (ltB a i) (K (some (.int i)) H) (K none H) := by kernel_rfl
theorem zo3 (c : SV) : turnX (bdOf (TTd cs s) 75) (fcAt 729 (fcDr cs s L bh Er) 44) drC4 (.int i) ⟨drLoc cs tp tr s sg es starts ++ [(s_at, .int a), (s_behind, c)], H⟩ K = BR (ltB a i) (K (some (.int i)) H) (K none H) := by kernel_rfl
theorem zo2 (c : SV) : turnX (bdOf (TTd cs s) 75) (fcAt 729 (fcDr cs s L bh Er) 44) drC4 .none ⟨drLoc cs tp tr s sg es starts ++ [(s_at, .int a), (s_behind, c)], H⟩ K = K (some .none) H := by kernel_rfl
theorem zmP (p : Int) : turnX (bdOf (TTd cs s) 77) (fcAt 729 (fcDr cs s L bh Er) 44) drC0 (sgV (.po, p)) ⟨[(s_view, VIEW cs), (s_table, TAB tp tr), (s_text, .str s), (s_signs, .lst sg), (s_ends, .dct es)], H⟩ K = BR (eqB p 1) (K (some (.int p)) H) (CK (inLine s.cps.size) (@OM Nat (place (p - 2) s.cps.size) fun j => BR (eqS (strItem s j) (st [10])) (K (some (.int p)) H) (K none H))) := by kernel_rfl
theorem zmR (p : Int) : turnX (bdOf (TTd cs s) 77) (fcAt 729 (fcDr cs s L bh Er) 44) drC0 (sgV (.bo, p)) ⟨[(s_view, VIEW cs), (s_table, TAB tp tr), (s_text, .str s), (s_signs, .lst sg), (s_ends, .dct es)], H⟩ K = BR (eqB p 1) (K (some (.int p)) H) (CK (inLine s.cps.size) (@OM Nat (place (p - 2) s.cps.size) fun j => BR (eqS (strItem s j) (st [10])) (K (some (.int p)) H) (K none H))) := by kernel_rfl
theorem zmQ (p : Int) : turnX (bdOf (TTd cs s) 77) (fcAt 729 (fcDr cs s L bh Er) 44) drC0 (sgV (.pc, p)) ⟨[(s_view, VIEW cs), (s_table, TAB tp tr), (s_text, .str s), (s_signs, .lst sg), (s_ends, .dct es)], H⟩ K = K none H := by kernel_rfl
theorem zmS (p : Int) : turnX (bdOf (TTd cs s) 77) (fcAt 729 (fcDr cs s L bh Er) 44) drC0 (sgV (.bc, p)) ⟨[(s_view, VIEW cs), (s_table, TAB tp tr), (s_text, .str s), (s_signs, .lst sg), (s_ends, .dct es)], H⟩ K = K none H := by kernel_rfl
theorem zkC (p : Int) : turnX (bdOf (TTd cs s) 77) (fcAt 729 (fcDr cs s L bh Er) 44) drC0 (sgV (.str, p)) ⟨[(s_view, VIEW cs), (s_table, TAB tp tr), (s_text, .str s), (s_signs, .lst sg), (s_ends, .dct es)], H⟩ K = K none H := by kernel_rfl
end
theorem ziD : ∀ (es : List (Int × Int)) (x : Int), ilk (es.map kvI) x = (ilkI es x).map SV.int
 | [], x => rfl
 | (k, v) :: r, x => by
  show (match eqB k x with | true => some (SV.int v) | false => ilk (r.map kvI) x) = _
  by_cases h : k = x
  ·rw [show eqB k x = true from decide_eq_true h, ilkI, if_pos h]; rfl
  ·rw [show eqB k x = false from decide_eq_false h, ilkI, if_neg h]
   exact ziD r x
theorem zb7 {v w : List SV} {H H' : List SO} (h : (⟨[(accN, .lst v)], H⟩ : SS) = ⟨[(accN, .lst w)], H'⟩) : w = v ∧ H' = H := by
 injection h with h1 h2
 injection h1 with h3 h4
 injection h3 with h5 h6
 injection h6 with h7
 exact ⟨h7.symm, h2.symm⟩
theorem zpZ {a b : Option Int} (h : oi a = oi b) : a = b := by
 cases a <;> cases b <;> first | rfl | (cases h; rfl) | cases h
theorem znF {a b : List (Option Int)} (h : a.map oi = b.map oi) : a = b := (List.map_inj_right fun _ _ => zpZ).mp h
theorem znG {L : List (Option Int)} {pre post : List SV} {v : SV} (h : L.map oi = pre ++ v :: post) : ∃ i, v = oi i := by
 have : v ∈ L.map oi := by rw [h]; simp
 obtain ⟨i, _, e⟩ := List.mem_map.mp this
 exact ⟨i, e.symm⟩
theorem zeA : ∀ (l : List (Option Int)), flatL (l.map oi) = true
 | [] => rfl
 | none :: r => zeA r
 | some _ :: r => zeA r
theorem zc1 : ∀ (l : List (Option Int)), byVal.allV (byVal 2) (l.map oi) = true
 | [] => rfl
 | none :: r => zc1 r
 | some _ :: r => zc1 r
theorem zl6 {cs : List Int} {a : Int} {bh : Int → Option Int} : ∀ (l : List Int), (∀ s ∈ l, bh s = (SE cs s).map (lbAt cs)) → (match (l.map bh).filter (openB a) with
  | [] => de cs a l = some none
  | none :: _ => True
  | some d :: _ => de cs a l = some (some d))
 | [], _ => rfl
 | s :: r, h => by
  have hs := h s List.mem_cons_self
  have ih := zl6 (a := a) r fun z hz => h z (List.mem_cons_of_mem _ hz)
  have ed : de cs a (s :: r) = (match SE cs s with | none => none | some e => if a < lbAt cs e then some (some (lbAt cs e)) else de cs a r) := rfl
  rw [List.map_cons, hs, List.filter_cons, ed]
  cases w : SE cs s with
  | none => exact trivial
  | some e =>
   by_cases q : a < lbAt cs e
   ·rw [Option.map_some, if_pos (show openB a (some (lbAt cs e)) = true from decide_eq_true q)]
    exact if_pos q
   ·rw [Option.map_some, if_neg (by show ¬ ltB a (lbAt cs e) = true; unfold ltB; simp; lia)]
    dsimp only
    rw [if_neg q]
    exact ih
theorem zmB (s : Str) : (cT s).length = s.cps.size := by
 unfold cT
 rw [List.length_map]; rfl
theorem zf9 {cs : List Int} {tp tr : SV} {s : Str} {sg : List SV} {es : List (Int × SV)} {starts pre : List SV} {a : Int} {l : List (Str × SV)} {H : List SO} :
  ∃ x', FitD (LAt (drLoc cs tp tr s sg es starts)) x' ⟨drLoc cs tp tr s sg es starts ++ l, H⟩ ∧ (LAt (drLoc cs tp tr s sg es starts)).P (pre ++ [SV.int a]) x' :=
 ⟨(), ⟨zaA rfl (zaA rfl (zaA rfl (zaA rfl (zaA rfl (zaA rfl zaC))))), rfl, rfl⟩, trivial⟩
theorem zr8 {a : Int} {B : List (Option Int)} {Tn : SV → List SO → (Option SV → List SO → Prop) → Prop} {R : List SV → List SO → Prop}
  (hn : ∀ k, Tn .none [.seq (B.map oi)] k = k (some .none) [.seq (B.map oi)]) (hi : ∀ e k, Tn (.int e) [.seq (B.map oi)] k = BR (ltB a e) (k (some (.int e)) [.seq (B.map oi)]) (k none [.seq (B.map oi)])) (hR : R ((B.filter (openB a)).map oi) [.seq (B.map oi)]) :
  CompV (LOp [.seq (B.map oi)] a) (B.map oi) [.seq (B.map oi)] Tn (compKM (LOp [.seq (B.map oi)] a) 0 (B.map oi)) R := by
 refine ⟨⟨[], rfl, rfl⟩, fun (x : List (Option Int)) pre v post acc H hits hP hst => ?_, fun (x : List (Option Int)) acc H hP hst => ?_⟩
 ·obtain ⟨i, rfl⟩ := znG hits
  obtain ⟨rfl, rfl⟩ := zb7 (show (⟨[(accN, .lst ((x.filter (openB a)).map oi))], [.seq (B.map oi)]⟩ : SS) = ⟨[(accN, .lst acc)], H⟩ from hst)
  obtain rfl : pre = x.map oi := hP
  have nx : ∀ {u : Option SV}, (match u with | some u => (x.filter (openB a)).map oi ++ [u] | none => (x.filter (openB a)).map oi) = ((x ++ [i]).filter (openB a)).map oi → compKM (LOp [.seq (B.map oi)] a) 0 (B.map oi) (x.map oi) (oi i) ((x.filter (openB a)).map oi) u [.seq (B.map oi)] := fun {u} hu => by
   refine ⟨rfl, x ++ [i], ?_, ?_⟩
   ·show _ = (x ++ [i]).map oi
    rw [List.map_append]; rfl
   ·show (⟨[(accN, .lst (((x ++ [i]).filter (openB a)).map oi))], [SO.seq (B.map oi)]⟩ : SS) = _
    rw [← hu]; try rfl
  cases i with
  | none => exact (hn _).mpr (nx (by rw [List.filter_append, List.map_append]; rfl))
  | some e =>
   refine (hi e _).mpr (zaI (fun q => nx ?_) fun q => nx ?_)
   ·rw [List.filter_append]; simp [openB, oi, q]
   ·rw [List.filter_append]; simp [openB, q]
 ·obtain ⟨rfl, rfl⟩ := zb7 (show (⟨[(accN, .lst ((x.filter (openB a)).map oi))], [.seq (B.map oi)]⟩ : SS) = ⟨[(accN, .lst acc)], H⟩ from hst)
  cases znF (show B.map oi = x.map oi from hP)
  exact hR
section
variable {cs : List Int} {s : Str} {sg : List SV} {es : List (Int × SV)} {bh : Int → Option Int} {starts : List SV} {ends : List (Int × Int)} {Er : Prop} {K : SV → SS → Prop} {pre acc : List SV} {a : Int}
theorem zrD {F : List (Option Int)} {H : List SO} (hd : match F with
  | [] => de cs a (deL cs a) = some none
  | none :: _ => True
  | some d :: _ => de cs a (deL cs a) = some (some d)) (hF : F.length ≤ 2000) : dr5 cs tabP tabR s sg es starts K pre a (F.map oi) H := by
 have hil : inLine (F.map oi ++ [SV.str s_none]).length = true := zaD (by rw [List.length_append, List.length_map]; exact Nat.le_trans (Nat.add_le_add_right hF _) (show 2000 + 1 ≤ 100000 by decide))
 have hp0 : place 0 (F.map oi ++ [SV.str s_none]).length = some 0 := zhW (by rw [List.length_append]; exact Nat.succ_pos _)
 refine zaB (zc1 _) (zaB ?_ ⟨rfl, zaT, fun hn sy => ?_, fun o ho => ?_⟩)
 ·rw [zc1, zaD (by rw [List.length_map]; lia)]; rfl
 ·unfold dr5n
  cases F with
  | nil => rw [hn] at hd; cases hd
  | cons f r => cases f with
   | none => exact zaB hil (zaE hp0 (zaE (a := .none) rfl (zaE (a := false) rfl (BR_f rfl zf9))))
   | some d => rw [hn] at hd; cases hd
 ·unfold dr5s
  cases F with
  | nil =>
   obtain rfl : o = none := Option.some.inj (ho.symm.trans hd)
   exact zaB hil (zaE hp0 (zaE (a := .str s_none) rfl (zaE (a := true) rfl (BR_t rfl (zaB hil (zaE hp0 (zaE (a := .str s_none) rfl (zaE (a := true) rfl (BR_t rfl (zaE (a := false) rfl (BR_f rfl zf9)))))))))))
  | cons f r => cases f with
   | none => exact zaB hil (zaE hp0 (zaE (a := .none) rfl (zaE (a := false) rfl (BR_f rfl zf9))))
   | some d =>
    obtain rfl : o = some d := Option.some.inj (ho.symm.trans hd)
    exact zaB hil (zaE hp0 (zaE (a := .int d) rfl (zaE (a := true) rfl (BR_t rfl (zaB hil (zaE hp0 (zaE (a := .int d) rfl (zaE (a := false) rfl (BR_f rfl (zaB hil (zaE hp0 (zaE (a := .int d) rfl (zaE (a := !eqB d d) rfl (BR_f (by rw [show eqB d d = true from decide_eq_true rfl]; rfl) zf9))))))))))))))
theorem zrE {B : List (Option Int)} (hB : B.length ≤ 2000) (hd : match B.filter (openB a) with
  | [] => de cs a (deL cs a) = some none
  | none :: _ => True
  | some d :: _ => de cs a (deL cs a) = some (some d)) : dr4 cs tabP tabR s sg es bh starts Er K pre a (B.map oi) (B.map oi) := by
 refine zaB ?_ (zr8 (fun k => zo2 ..) (fun e k => zo3 ..) (zrD hd (Nat.le_trans (List.length_filter_le _ _) hB)))
 show (inLine (B.map oi).length && flatL (B.map oi)) = true
 rw [zeA, zaD (by rw [List.length_map]; lia)]; rfl
theorem zrF (hg : GoodT cs) (hT : cT s = cs) (hse : ∀ z ∈ dsL cs, SE cs z = ilkI ends z ∧ ∀ e, SE cs z = some e → 1 ≤ e) :
  dr3 cs tabP tabR s sg (ends.map kvI) (fun i => (ilkI ends i).map (lbAt cs)) ((dsL cs).map .int) Er K pre a acc (((dsL cs).filter fun x => leB x a).map .int) (((dsL cs).filter fun x => ltB a x).map .int) [] [.seq []] := by
 have hlen := zcM hg
 have hl1 : ((dsL cs).filter fun x => leB x a).length ≤ 1000 := Nat.le_trans (List.length_filter_le _ _) hlen
 have hl2 : ((dsL cs).filter fun x => ltB a x).length ≤ 1000 := Nat.le_trans (List.length_filter_le _ _) hlen
 have hdrop : (((dsL cs).filter fun x => leB x a).map SV.int).drop ((((dsL cs).filter fun x => leB x a).map SV.int).length - 1) = (((dsL cs).filter fun x => leB x a).drop (((dsL cs).filter fun x => leB x a).length - 1)).map SV.int := by
  rw [List.length_map, List.map_drop]
 have hall : (((dsL cs).filter fun x => leB x a).map SV.int).drop ((((dsL cs).filter fun x => leB x a).map SV.int).length - 1) ++ ((dsL cs).filter fun x => ltB a x).map SV.int = (deL cs a).map SV.int := by
  rw [hdrop, ← List.map_append]; rfl
 have hmem : ∀ z ∈ deL cs a, z ∈ dsL cs := fun z hs => by
  rcases List.mem_append.mp hs with q | q
  ·exact (List.mem_filter.mp (List.mem_of_mem_drop q)).1
  ·exact (List.mem_filter.mp q).1
 have hdl : (deL cs a).length ≤ 2000 := by
  unfold deL
  rw [List.length_append, List.length_drop]; lia
 refine zaB (zaK _) (zaB ?_ ?_)
 ·rw [hdrop, zaK, zaK, zaD (by rw [List.length_map, List.length_drop]; lia), zaD (by rw [List.length_map]; lia)]; rfl
 rw [hall]
 refine zaB (zaD (by rw [List.length_map]; lia)) ⟨⟨[], zaF (zaA rfl (zaA rfl (zaA rfl (zaA rfl (zaA rfl (zaA rfl (zaA rfl (zaA rfl zaC)))))))) rfl, rfl⟩, fun (x : List Int) pre v post hits hP => ?_, fun (x : List Int) hP => ?_⟩
 ·obtain ⟨i, rfl⟩ := zbQ hits
  obtain rfl : pre = x.map SV.int := hP
  have hi : i ∈ deL cs a := by
   have : SV.int i ∈ (deL cs a).map SV.int := by rw [hits]; simp
   obtain ⟨j, hj, e⟩ := List.mem_map.mp this
   injection e with e
   rw [← e]; exact hj
  have hxl : inLine (List.map (fun i => oi ((ilkI ends i).map (lbAt cs))) x).length = true := zaD (by
   have := congrArg List.length hits
   rw [List.length_map, List.length_append, List.length_map] at this
   rw [List.length_map]
   lia)
  have nx : ∀ {w : SV} {l : List (Str × SV)}, w = oi ((ilkI ends i).map (lbAt cs)) → ∃ x', Fits (LBe (drLoc cs tabP tabR s sg (ends.map kvI) ((dsL cs).map SV.int)) a (fun i => (ilkI ends i).map (lbAt cs))) x' ⟨drLoc cs tabP tabR s sg (ends.map kvI) ((dsL cs).map SV.int) ++ ((s_at, SV.int a) :: (s_behind, SV.obj 0) :: l), [SO.seq (List.map (fun i => oi ((ilkI ends i).map (lbAt cs))) x ++ [w])]⟩ ∧ (LBe (drLoc cs tabP tabR s sg (ends.map kvI) ((dsL cs).map SV.int)) a (fun i => (ilkI ends i).map (lbAt cs))).P (x.map SV.int ++ [SV.int i]) x' := fun {w l} hw => by
   refine ⟨x ++ [i], zaF (zaA rfl (zaA rfl (zaA rfl (zaA rfl (zaA rfl (zaA rfl (zaA rfl (zaA rfl zaC)))))))) ?_, ?_⟩
   ·rw [hw]
    show _ = [SO.seq ((x ++ [i]).map fun i => oi ((ilkI ends i).map (lbAt cs)))]
    rw [List.map_append]; rfl
   ·show _ = (x ++ [i]).map SV.int
    rw [List.map_append]; rfl
  refine zaE (a := (ilkI ends i).isSome) (by
   show some (ilk (ends.map kvI) i).isSome = _
   rw [ziD, Option.isSome_map]) ?_
  cases w : ilkI ends i with
  | none => exact BR_f rfl (zaB hxl (nx (by rw [w]; rfl)))
  | some e =>
   have h1 : 1 ≤ e := (hse i (hmem i hi)).2 e (by rw [(hse i (hmem i hi)).1, w])
   exact BR_t rfl (zaE (a := i) rfl (zaE (a := .int e) (by rw [ziD, w]; rfl) (zaB rfl ⟨e, ⟨rfl, rfl⟩, h1, zaB hxl (nx (by rw [w, hT]; rfl))⟩)))
 ·cases zb2 (show (deL cs a).map SV.int = x.map SV.int from hP)
  have hbl : List.map (fun i => oi ((ilkI ends i).map (lbAt cs))) (deL cs a) = ((deL cs a).map fun i => (ilkI ends i).map (lbAt cs)).map oi := by rw [List.map_map]; rfl
  rw [hbl]
  exact zrE (by rw [List.length_map]; exact hdl) (zl6 (cs := cs) (a := a) (bh := fun i => (ilkI ends i).map (lbAt cs)) (deL cs a) fun z hz => by
   show (ilkI ends z).map (lbAt cs) = (SE cs z).map (lbAt cs)
   rw [(hse z (hmem z hz)).1])
theorem zoM (hg : GoodT cs) (hT : cT s = cs) (hse : ∀ z ∈ dsL cs, SE cs z = ilkI ends z ∧ ∀ e, SE cs z = some e → 1 ≤ e) :
  drBody cs tabP tabR s sg (ends.map kvI) (fun i => (ilkI ends i).map (lbAt cs)) ((dsL cs).map SV.int) Er K pre a acc [] := by
 have hlen := zcM hg
 have hm : inLine ((dsL cs).map SV.int).length = true := zaD (by rw [List.length_map]; lia)
 refine zaB hm (zeS (fun i k => zrV ..) (zaB (zaK _) (zaB ?_ (zaB hm (zeS (fun i k => zrU ..) (zrF hg hT hse))))))
 rw [zaK, zaD (by rw [List.length_map]; exact Nat.le_trans (List.length_filter_le _ _) (Nat.le_trans hlen (by decide)))]; rfl
theorem zmU (hg : GoodT cs) (hT : cT s = cs) (hse : ∀ z ∈ dsL cs, SE cs z = ilkI ends z ∧ ∀ e, SE cs z = some e → 1 ≤ e) :
  frTurnD (bdOf (TTd cs s) 78) (fcAt 729 (fcDr cs s (drLoc cs tabP tabR s sg (ends.map kvI) ((dsL cs).map SV.int)) (fun i => (ilkI ends i).map (lbAt cs)) Er) 44) (LAt (drLoc cs tabP tabR s sg (ends.map kvI) ((dsL cs).map SV.int))) (frAt 729 2) (restK (bdOf (TTd cs s) 79) (fcAt 729 (fcDr cs s (drLoc cs tabP tabR s sg (ends.map kvI) ((dsL cs).map SV.int)) (fun i => (ilkI ends i).map (lbAt cs)) Er) 44) (restAt 729 2) K) () pre (.int a) := by
 rw [zoX]
 have hlen := zcM hg
 refine zaB (zaD (by rw [List.length_map]; lia)) (zeS (fun i k => zrW ..) ?_)
 unfold dr1
 have hl1 : ((dsL cs).filter fun x => ltB x a).length ≤ 1000 := Nat.le_trans (List.length_filter_le _ _) hlen
 have hb := fun acc => zoM (sg := sg) (Er := Er) (K := K) (pre := pre) (acc := acc) (a := a) hg hT hse
 generalize (dsL cs).filter (fun x => ltB x a) = F at hl1 ⊢
 refine zaB (zaK _) ⟨rfl, zaT, zaE (a := !decide (F = [])) (by
  show notO (eqLI (F.map SV.int) []) = _
  rw [zcH]; rfl) ?_⟩
 rcases List.eq_nil_or_concat F with rfl | ⟨i, z, he⟩
 ·exact BR_f (by simp) (zaE (a := false) rfl (BR_f rfl (hb _)))
 ·obtain rfl : F = i ++ [z] := by simpa using he
  refine BR_t (by simp) (zaB (zaD (by rw [List.length_map]; lia)) (zaE (a := i.length) ?_ (zaE (a := SV.int z) (by simp) (zaE (a := !eqB z z) ?_ (BR_f (by rw [show eqB z z = true from decide_eq_true rfl]; rfl) (hb _))))))
  ·unfold Mine.place
   rw [List.length_map, List.length_append]
   rw [show leB 0 (-1) = false from by decide]
   dsimp only
   rw [show leB 0 (-1 + ((i.length + [z].length : Nat) : Int)) = true from decide_eq_true (by simp; lia)]
   dsimp only
   congr 1
   simp; lia
  ·rw [List.getLast?_concat]; rfl
end
theorem zgR {s : Str} {p : Int} (h1 : 2 ≤ p) (h2 : p - 1 ≤ (s.cps.size : Int)) : place (p - 2) s.cps.size = some (p - 2).toNat ∧ eqS (strItem s (p - 2).toNat) (st [10]) = eqB (codeAt (cT s) (p - 1)) 10 := by
 have hlt : (p - 2).toNat < s.cps.size := by lia
 constructor
 ·unfold Mine.place
  rw [show leB 0 (p - 2) = true from decide_eq_true (by lia)]
  dsimp only
  rw [show ltB (p - 2) (s.cps.size : Int) = true from decide_eq_true (by lia)]
 ·have hlt' : (p - 2).toNat < s.cps.toList.length := hlt
  have e : codeAt (cT s) (p - 1) = ((s.cps.toList[(p - 2).toNat] : Nat) : Int) := by
   unfold codeAt cT
   rw [if_pos (by lia), List.getD_eq_getElem?_getD, List.getElem?_map, show (p - 1 - 1).toNat = (p - 2).toNat by lia, List.getElem?_eq_getElem hlt']
   rfl
  have e2 : strItem s (p - 2).toNat = ⟨#[s.cps.toList[(p - 2).toNat]]⟩ := by
   unfold strItem
   rw [List.getD_eq_getElem?_getD, List.getElem?_eq_getElem hlt']
   rfl
  rw [e, e2]
  generalize s.cps.toList[(p - 2).toNat] = n
  show (match Nat.beq n 10 with | true => natsEq [] [] | false => false) = decide ((n : Int) = 10)
  cases q : Nat.beq n 10 with
  | true =>
   have := Nat.eq_of_beq_eq_true q
   subst this
   rfl
  | false =>
   have := Nat.ne_of_beq_eq_false q
   symm
   exact decide_eq_false (by lia)
noncomputable def spDr(cs : List Int) (s : Str) : Spec := fun vs K _ => A5 vs fun v t u0 sg0 es0 => OT u0 fun u => OL sg0 fun sg => OD es0 fun es => u = s ∧ IsView cs v ∧ IsTab t ∧ ∃ (signs : List (Sg × Int)) (ends : List (Int × Int)), (sg = signs.map sgV ∧ es = ends.map kvI) ∧ signs.length ≤ 1000 ∧ startsOf cs signs = dsL cs ∧ (∀ y ∈ signs, 1 ≤ y.2 ∧ y.2 ≤ (cs.length : Int)) ∧ (∀ z ∈ dsL cs, SE cs z = ilkI ends z ∧ ∀ e, SE cs z = some e → 1 ≤ e) ∧ K (.bool true)
theorem zr0 {u : Str} {signs : List (Sg × Int)} {Tn : SV → List SO → (Option SV → List SO → Prop) → Prop} {R : List SV → List SO → Prop} (hat : ∀ y ∈ signs, 1 ≤ y.2 ∧ y.2 ≤ (u.cps.size : Int)) (hsz : u.cps.size ≤ 1000)
  (hop : ∀ g p k, isOp g = true → Tn (sgV (g, p)) [] k = BR (eqB p 1) (k (some (.int p)) []) (CK (inLine u.cps.size) (@OM Nat (place (p - 2) u.cps.size) fun j => BR (eqS (strItem u j) (st [10])) (k (some (.int p)) []) (k none []))))
  (hno : ∀ g p k, isOp g = false → Tn (sgV (g, p)) [] k = k none []) (hR : R ((startsOf (cT u) signs).map .int) []) : CompV (LSt u) (signs.map sgV) [] Tn (compK (LSt u)) R := by
 refine ⟨⟨[], rfl, rfl⟩, fun (x : List (Sg × Int)) pre v post acc H hits hP hst => ?_, fun (x : List (Sg × Int)) acc H hP hst => ?_⟩
 ·obtain ⟨y, rfl⟩ := zhN hits
  obtain ⟨rfl, rfl⟩ := zb7 (show (⟨[(accN, .lst ((startsOf (cT u) x).map SV.int))], []⟩ : SS) = ⟨[(accN, .lst acc)], H⟩ from hst)
  obtain rfl : pre = x.map sgV := hP
  have hy : y ∈ signs := by
   have : sgV y ∈ signs.map sgV := by rw [hits]; simp
   obtain ⟨z, hz, e⟩ := List.mem_map.mp this
   rw [← zhO e]; exact hz
  obtain ⟨hy1, hy2⟩ := hat y hy
  have st1 : (startsOf (cT u) (x ++ [y])).map SV.int = (startsOf (cT u) x).map SV.int ++ (startsOf (cT u) [y]).map SV.int := by
   unfold startsOf
   rw [List.filter_append, List.map_append, List.map_append]
  have nx : ∀ {w : Option SV}, (match w with | some w => (startsOf (cT u) x).map SV.int ++ [w] | none => (startsOf (cT u) x).map SV.int) = (startsOf (cT u) (x ++ [y])).map SV.int → compK (LSt u) (x.map sgV) (sgV y) ((startsOf (cT u) x).map SV.int) w [] := fun {w} hw => by
   refine ⟨x ++ [y], ?_, ?_⟩
   ·show _ = (x ++ [y]).map sgV
    rw [List.map_append]; rfl
   ·show (⟨[(accN, .lst ((startsOf (cT u) (x ++ [y])).map SV.int))], []⟩ : SS) = _
    rw [← hw]; try rfl
  have yes : startB (cT u) y = true → compK (LSt u) (x.map sgV) (sgV y) ((startsOf (cT u) x).map SV.int) (some (.int y.2)) [] := fun q => nx (by
   rw [st1]
   unfold startsOf
   rw [List.filter_cons, if_pos q]; rfl)
  have no : startB (cT u) y = false → compK (LSt u) (x.map sgV) (sgV y) ((startsOf (cT u) x).map SV.int) none [] := fun q => nx (by
   rw [st1]
   unfold startsOf
   rw [List.filter_cons, if_neg (by rw [q]; exact nofun)]; exact (List.append_nil _).symm)
  obtain ⟨g, p⟩ := y
  dsimp only at hy1 hy2
  cases hg : isOp g with
  | false => rw [hno g p _ hg]; exact no (by unfold startB; rw [hg]; rfl)
  | true =>
   rw [hop g p _ hg]
   refine zaI (fun q => yes ?_) fun q => ?_
   ·unfold startB
    rw [hg]
    show (true && (eqB p 1 || _)) = true
    rw [q]; rfl
   ·have hne : p ≠ 1 := of_decide_eq_false q
    obtain ⟨e1, e2⟩ := zgR (s := u) (p := p) (by lia) (by lia)
    refine zaB (zaD (by lia)) (zaE e1 ?_)
    rw [e2]
    have eb : startB (cT u) (g, p) = eqB (codeAt (cT u) (p - 1)) 10 := by
     unfold startB
     rw [hg]
     show (true && (eqB p 1 || _)) = _
     rw [q]; rfl
    exact zaI (fun q2 => yes (eb.trans q2)) fun q2 => no (eb.trans q2)
 ·obtain ⟨rfl, rfl⟩ := zb7 (show (⟨[(accN, .lst ((startsOf (cT u) x).map SV.int))], []⟩ : SS) = ⟨[(accN, .lst acc)], H⟩ from hst)
  cases zhM (show signs.map sgV = x.map sgV from hP)
  exact hR
theorem zpK {g : Gl} (H : Facts g) (hx : excB g.K = true) {cs : List Int} {s : Str} (h : GoodT cs) (hT : cT s = cs) (hs : safe .pl (dropAt cs 1) 1) (hpre : ∀ z ∈ dsL cs, FwPre cs z ∧ ∀ e, SE cs z = some e → 1 ≤ e) : SemSpec g (S1 g) true 729 45 (spDr cs s) :=
 have ok : CallOk g (S1 g) (TTd cs s) := zd3 H (by kernel_rfl) (fun x hm => by
  simp only [Ld, List.mem_cons, List.not_mem_nil, or_false] at hm
  rcases hm with rfl | rfl | rfl | rfl
  ·exact SemSpec.lift (fun vs K Er q => q) (zhR H h hs)
  ·exact SemSpec.lift (fun vs K Er q => q) (znA H h hs)
  ·exact SemSpec.tr (zpL H hx h hs hpre)
  ·refine SemSpec.lift (fun vs K Er q => q) (SemSpec.mono (Nat.le_refl _) (fun vs K Er q => ?_) (zpN H (by rw [hT]; exact h)))
   have q' : spBhV s vs K Er := q
   replace q' := zcA q'
   obtain ⟨t, v, rfl, q'⟩ := q'
   obtain ⟨e, ⟨rfl, rfl⟩, h1, hK⟩ := q'
   exact ⟨rfl, h1, hK⟩)
 zaY ok (exc1 hx ok (zeQ H)) 79 sc0 true fun svs K Er hp => by
  replace hp := zjI hp
  obtain ⟨v, t, u0, sg0, es0, rfl, hp⟩ := hp
  replace hp := zjE hp
  obtain ⟨u, rfl, hp⟩ := hp
  replace hp := zdP hp
  obtain ⟨sg, rfl, hp⟩ := hp
  replace hp := zoP hp
  obtain ⟨es, rfl, hp⟩ := hp
  obtain ⟨rfl, h1, h2, signs, ends, ⟨rfl, rfl⟩, hsl, hst, hat, hse, hK⟩ := hp
  unfold IsView at h1
  unfold IsTab at h2
  subst h1 h2
  rw [TABLE_eq]
  have hlen := zcM h
  have hsz : u.cps.size ≤ 1000 := by
   have := h.1
   rw [← hT, zmB] at this
   exact this
  have hcl : (cs.length : Int) = (u.cps.size : Int) := by rw [← hT, zmB]
  refine ⟨lpDr cs u (drLoc cs tabP tabR u (signs.map sgV) (ends.map kvI) ((dsL cs).map SV.int)) (fun i => (ilkI ends i).map (lbAt cs)), Hold.mk ?_⟩
  rw [zoZ (starts := [])]
  refine zaB (zaD (by rw [List.length_map]; lia)) (zr0 (fun y hy => by rw [← hcl]; exact hat y hy) hsz (fun g p k hg => ?_) (fun g p k hg => ?_) ?_)
  ·cases g <;> first | exact ft hg | exact zmP .. | exact zmR ..
  ·cases g <;> first | exact ft hg.symm | exact zmQ .. | exact zmS .. | exact zkC ..
  have e1 : startsOf (cT u) signs = dsL cs := by rw [hT]; exact hst
  rw [e1]
  refine zaB (zaK _) ?_
  rw [zoY, show ds cs ws0 (dropAt cs 1) 1 = dsL cs from rfl]
  refine ⟨rfl, zaT, zaE (a := false) ?_ (BR_f rfl (zaB (zaD (by lia)) (zaB (zaD (by lia)) ⟨⟨(), zaF (zaA rfl (zaA rfl (zaA rfl (zaA rfl (zaA rfl (zaA rfl zaC)))))) rfl, trivial⟩, fun x pre v post hits hP => ?_, fun x hP => zeF hK⟩)))⟩
  ·have all : ∀ l : List Int, eqLI (l.map SV.int) (l.map SV.int) = some true := fun l => by
    induction l with
    | nil => rfl
    | cons z r ih =>
     show (eqLI (r.map SV.int) (r.map SV.int)).map (eqB z z && ·) = _
     rw [ih, show eqB z z = true from decide_eq_true rfl]; rfl
   show notO (eqLI ((dsL cs).map SV.int) ((dsL cs).map SV.int)) = _
   rw [all]; rfl
  ·have hv : ∃ a, v = SV.int a := by
    have : v ∈ [SV.int 1, SV.int ((u.cps.size : Int).fdiv 2 + 1), SV.int ((u.cps.size : Int) + 1)] := by rw [hits]; simp
    simp only [List.mem_cons, List.not_mem_nil, or_false] at this
    rcases this with e | e | e <;> exact ⟨_, e⟩
   obtain ⟨a, rfl⟩ := hv
   exact zmU h hT hse
noncomputable def spTR: Spec := fun vs K _ => A1 vs fun l0 => OL l0 fun l => ∃ cs : List Int, l = cs.map SV.int ∧ cs.length ≤ 1000 ∧ K (VIEW cs)
noncomputable def spFuE : Spec := fun vs K Er => ∃ cs, GoodT cs ∧ safe .pl (dropAt cs 1) 1 ∧ spFu cs vs K Er
noncomputable def spDrE : Spec := fun vs K Er => ∃ cs s, GoodT cs ∧ cT s = cs ∧ safe .pl (dropAt cs 1) 1 ∧ (∀ z ∈ dsL cs, FwPre cs z ∧ ∀ e, SE cs z = some e → 1 ≤ e) ∧ spDr cs s vs K Er
noncomputable def Le : SpecL := [(250, (12, spTable)), (698, (5, spMany)), (710, (5, spSg)), (717, (5, spDue)), (677, (5, spTR)), (614, (20, spFuE)), (729, (45, spDrE))]
noncomputable abbrev TTe : Tab := tab [613] (lkN Le) true
noncomputable def LCell : Loop where
 σ := List Int
 st := fun l => ⟨[(accN, .lst (l.map fun i => SV.int ((i.natAbs : Int).fmod 1000000000000000000000000000000000000000000000000000000000000000000000000000000000000000000)))], []⟩
 P := fun pre l => pre = l.map SV.int
 ms := fun _ => 0
structure TX where
 ps : List Pc
 bigs : List Int
 sz : Int
 c : Int
noncomputable def dkH (bigs : List Int) (sz c : Int) : List SO := [.seq (bigs.map SV.int), .seq [.obj 0, .int sz, .int c]]
noncomputable def LTx : Loop where
 σ := TX
 st := fun x => ⟨[(accN, .lst (x.ps.map fun p => SV.str p.str))], dkH x.bigs x.sz x.c⟩
 P := fun pre x => x.ps.length = pre.length ∧ (∀ p ∈ x.ps, p ≠ .us) ∧ (0 ≤ x.c ∧ x.c ≤ (pre.length : Int)) ∧ x.bigs.length ≤ 100
 ms := fun _ => 0
noncomputable def LOrd : Loop where
 σ := List SO × List Nat
 st := fun x => ⟨[(accN, .lst (x.2.map fun (n : Nat) => SV.int (n : Int)))], x.1⟩
 P := fun pre x => pre = x.2.map fun n => SV.str ⟨#[n]⟩
 ms := fun _ => 0
noncomputable def lpLaw (j : Nat) (_ : List (Str × SV)) : Option Loop :=
 match Nat.beq j 612012 with
 | true => some LCell
 | false => match Nat.beq j 613012 with
  | true => some (LFil [] fun x => leB 1000000000000000000 x)
  | false => match Nat.beq j 632012 with
   | true => some LTx
   | false => match Nat.beq j 688019 with
    | true => some LOrd
    | false => none
noncomputable abbrev fcLaw (Er : Prop) : FC := ⟨sc0, 70, lpLaw, Er, true⟩
noncomputable def pcsL : List Pc := [.op, .op, .cl, .cl, .bo, .bc, .a, .sp, .nl, .nl, .s1, .cm, .s2, .nlo]
noncomputable def PV : SV := .lst (pcsL.map fun p => SV.str p.str)
noncomputable def txC : CT := ctOf (valOf (stAt 703 1))
noncomputable def dkC1 : CT := ctOf (valOf (stAt 686 0))
noncomputable def dkC2 : CT := ctOf (tupN 0 (valOf (stAt 686 1)))
noncomputable def vwC : CT := ctOf (tupN 0 (valOf (stAt 734 3)))
noncomputable def retK (K : SV → SS → Prop) (lc : List (Str × SV)) : KO := fun o st' => match o with
 | .next => K .none ⟨lc, st'.H⟩
 | .ret v => K v ⟨lc, st'.H⟩
 | _ => False
theorem ze0 (sc' : Scope) (tr : Bool) (m sz c : Int) (lc : List (Str × SV)) (Er : Prop) (K : SV → SS → Prop) : callF TTe (bdOf TTe 73) ⟨sc', 68, lpLaw, Er, tr⟩ 693 [.obj 1, .int m] ⟨lc, [.seq [], .seq [.obj 0, .int sz, .int c]]⟩ K =
  (CK (Bool.true && (ltB (-1152921504606846976) (c + 1) && ltB (c + 1) 1152921504606846976)) (CK (ltB (-1152921504606846976) ((sz.fmod 4294966297 + 1640531527 * (c + 1)).fmod 4294966297) && ltB ((sz.fmod 4294966297 + 1640531527 * (c + 1)).fmod 4294966297) 1152921504606846976 && (ltB (-1152921504606846976) ((sz.fmod 4294966297 + 1640531527 * (c + 1)).fmod 4294966297) && ltB ((sz.fmod 4294966297 + 1640531527 * (c + 1)).fmod 4294966297) 1152921504606846976)) (CK (Bool.true && (ltB (-1152921504606846976) (c + 1) && ltB (c + 1) 1152921504606846976)) (CK (ltB (-1152921504606846976) (((sz.fmod 4294966297 + 1640531527 * (c + 1)).fmod 4294966297 * (sz.fmod 4294966297 + 1640531527 * (c + 1)).fmod 4294966297 + 122949823 * (c + 1)).fmod 4294966237) && ltB (((sz.fmod 4294966297 + 1640531527 * (c + 1)).fmod 4294966297 * (sz.fmod 4294966297 + 1640531527 * (c + 1)).fmod 4294966297 + 122949823 * (c + 1)).fmod 4294966237) 1152921504606846976 && (ltB (-1152921504606846976) (((sz.fmod 4294966297 + 1640531527 * (c + 1)).fmod 4294966297 * (sz.fmod 4294966297 + 1640531527 * (c + 1)).fmod 4294966297 + 122949823 * (c + 1)).fmod 4294966237) && ltB (((sz.fmod 4294966297 + 1640531527 * (c + 1)).fmod 4294966297 * (sz.fmod 4294966297 + 1640531527 * (c + 1)).fmod 4294966297 + 122949823 * (c + 1)).fmod 4294966237) 1152921504606846976)) (CK (ltB 0 m) (K (SV.int ((((((sz.fmod 4294966297 + 1640531527 * (c + 1)).fmod 4294966297 * (sz.fmod 4294966297 + 1640531527 * (c + 1)).fmod 4294966297 + 122949823 * (c + 1)).fmod 4294966237 * ((sz.fmod 4294966297 + 1640531527 * (c + 1)).fmod 4294966297 * (sz.fmod 4294966297 + 1640531527 * (c + 1)).fmod 4294966297 + 122949823 * (c + 1)).fmod 4294966237).fmod 4294966187).fdiv 1024).fmod m)) { loc := lc, H := [SO.seq [], SO.seq [SV.obj 0, SV.int sz, SV.int (c + 1)]] })))))) := by kernel_rfl
theorem zeY (sc' : Scope) (tr : Bool) (m sz c b : Int) (l : List SV) (lc : List (Str × SV)) (Er : Prop) (K : SV → SS → Prop) : callF TTe (bdOf TTe 73) ⟨sc', 68, lpLaw, Er, tr⟩ 693 [.obj 1, .int m] ⟨lc, [.seq (.int b :: l), .seq [.obj 0, .int sz, .int c]]⟩ K =
  (CK (ltB 0 m && leB m 100000) (CK (Bool.true && ltB 0 ↑(SV.int b :: l).length && inLine (SV.int b :: l).length) (BR (eqB (b.fdiv m) 0) (CK (Bool.true && inLine (SV.int (b.fdiv m) :: l).length) (CK (ltB 0 m) (K (SV.int (b.fmod m)) { loc := lc, H := [SO.seq l, SO.seq [SV.obj 0, SV.int sz, SV.int c]] }))) (CK (ltB 0 m) (K (SV.int (b.fmod m)) { loc := lc, H := [SO.seq (SV.int (b.fdiv m) :: l), SO.seq [SV.obj 0, SV.int sz, SV.int c]] }))))) := by kernel_rfl
theorem ze1 (sc' : Scope) (tr : Bool) (m sz c : Int) (lc : List (Str × SV)) (Er : Prop) (K : SV → SS → Prop) : callF TTe (bdOf TTe 72) ⟨sc', 68, lpLaw, Er, tr⟩ 693 [.obj 1, .int m] ⟨lc, [.seq [], .seq [.obj 0, .int sz, .int c]]⟩ K =
  (CK (Bool.true && (ltB (-1152921504606846976) (c + 1) && ltB (c + 1) 1152921504606846976)) (CK (ltB (-1152921504606846976) ((sz.fmod 4294966297 + 1640531527 * (c + 1)).fmod 4294966297) && ltB ((sz.fmod 4294966297 + 1640531527 * (c + 1)).fmod 4294966297) 1152921504606846976 && (ltB (-1152921504606846976) ((sz.fmod 4294966297 + 1640531527 * (c + 1)).fmod 4294966297) && ltB ((sz.fmod 4294966297 + 1640531527 * (c + 1)).fmod 4294966297) 1152921504606846976)) (CK (Bool.true && (ltB (-1152921504606846976) (c + 1) && ltB (c + 1) 1152921504606846976)) (CK (ltB (-1152921504606846976) (((sz.fmod 4294966297 + 1640531527 * (c + 1)).fmod 4294966297 * (sz.fmod 4294966297 + 1640531527 * (c + 1)).fmod 4294966297 + 122949823 * (c + 1)).fmod 4294966237) && ltB (((sz.fmod 4294966297 + 1640531527 * (c + 1)).fmod 4294966297 * (sz.fmod 4294966297 + 1640531527 * (c + 1)).fmod 4294966297 + 122949823 * (c + 1)).fmod 4294966237) 1152921504606846976 && (ltB (-1152921504606846976) (((sz.fmod 4294966297 + 1640531527 * (c + 1)).fmod 4294966297 * (sz.fmod 4294966297 + 1640531527 * (c + 1)).fmod 4294966297 + 122949823 * (c + 1)).fmod 4294966237) && ltB (((sz.fmod 4294966297 + 1640531527 * (c + 1)).fmod 4294966297 * (sz.fmod 4294966297 + 1640531527 * (c + 1)).fmod 4294966297 + 122949823 * (c + 1)).fmod 4294966237) 1152921504606846976)) (CK (ltB 0 m) (K (SV.int ((((((sz.fmod 4294966297 + 1640531527 * (c + 1)).fmod 4294966297 * (sz.fmod 4294966297 + 1640531527 * (c + 1)).fmod 4294966297 + 122949823 * (c + 1)).fmod 4294966237 * ((sz.fmod 4294966297 + 1640531527 * (c + 1)).fmod 4294966297 * (sz.fmod 4294966297 + 1640531527 * (c + 1)).fmod 4294966297 + 122949823 * (c + 1)).fmod 4294966237).fmod 4294966187).fdiv 1024).fmod m)) { loc := lc, H := [SO.seq [], SO.seq [SV.obj 0, SV.int sz, SV.int (c + 1)]] })))))) := by kernel_rfl
theorem zeZ (sc' : Scope) (tr : Bool) (m sz c b : Int) (l : List SV) (lc : List (Str × SV)) (Er : Prop) (K : SV → SS → Prop) : callF TTe (bdOf TTe 72) ⟨sc', 68, lpLaw, Er, tr⟩ 693 [.obj 1, .int m] ⟨lc, [.seq (.int b :: l), .seq [.obj 0, .int sz, .int c]]⟩ K =
  (CK (ltB 0 m && leB m 100000) (CK (Bool.true && ltB 0 ↑(SV.int b :: l).length && inLine (SV.int b :: l).length) (BR (eqB (b.fdiv m) 0) (CK (Bool.true && inLine (SV.int (b.fdiv m) :: l).length) (CK (ltB 0 m) (K (SV.int (b.fmod m)) { loc := lc, H := [SO.seq l, SO.seq [SV.obj 0, SV.int sz, SV.int c]] }))) (CK (ltB 0 m) (K (SV.int (b.fmod m)) { loc := lc, H := [SO.seq (SV.int (b.fdiv m) :: l), SO.seq [SV.obj 0, SV.int sz, SV.int c]] }))))) := by kernel_rfl
theorem zmN (sc : List SV) (lc : List (Str × SV)) (Er : Prop) (K : SV → SS → Prop) : callF TTe (bdOf TTe 76) (fcAt 734 (fcLaw Er) 69) 686 [.lst sc] ⟨lc, []⟩ K =
  (CK (Bool.true && inLine sc.length && byVal.allV (byVal 2) sc) (CK (inLine (List.take 24 sc).length) ((∃ x0, LCell.P [] x0 ∧ LCell.st x0 = { loc := [((st [46, 97]), SV.lst [])], H := [] }) ∧ (∀ (x : List Int) (pre : List SV) (v : SV) (post acc : List SV) (H : List SO), List.take 24 sc = pre ++ v :: post → LCell.P pre x → LCell.st x = { loc := [((st [46, 97]), SV.lst acc)], H := H } → turnX (bdOf TTe 74) (fcAt 686 (fcLaw Er) 68) dkC1 v { loc := [(s_script, SV.lst sc)], H := H } (compK (LCell) pre v acc)) ∧ ∀ (x : List Int) (acc : List SV) (H : List SO), LCell.P (List.take 24 sc) x → LCell.st x = { loc := [((st [46, 97]), SV.lst acc)], H := H } → CK (byVal.allV (byVal 2) acc) (CK (inLine acc.length) ((∃ x0, (LFil [] fun x => leB 1000000000000000000 x).P [] x0 ∧ (LFil [] fun x => leB 1000000000000000000 x).st x0 = { loc := [((st [46, 97]), SV.lst [])], H := H }) ∧ (∀ (x : List Int) (pre : List SV) (v : SV) (post acc_1 : List SV) (H : List SO), acc = pre ++ v :: post → (LFil [] fun x => leB 1000000000000000000 x).P pre x → (LFil [] fun x => leB 1000000000000000000 x).st x = { loc := [((st [46, 97]), SV.lst acc_1)], H := H } → turnX (bdOf TTe 73) (fcAt 686 (fcLaw Er) 68) dkC2 v { loc := [(s_script, SV.lst sc), (s_cells, SV.lst acc)], H := H } (compK (LFil [] fun x => leB 1000000000000000000 x) pre v acc_1)) ∧ ∀ (x : List Int) (acc_1 : List SV) (H : List SO), (LFil [] fun x => leB 1000000000000000000 x).P acc x → (LFil [] fun x => leB 1000000000000000000 x).st x = { loc := [((st [46, 97]), SV.lst acc_1)], H := H } → CK (inLine acc.length) (CK (inLine acc.length) (@OM Int (sumI acc) fun v => K (SV.obj (H ++ [SO.seq acc_1]).length) { loc := lc, H := H ++ [SO.seq acc_1] ++ [SO.seq [SV.obj H.length, SV.int (↑acc.length + v), SV.int 0]] }))))))) := by kernel_rfl
theorem zo1 (sc : List SV) (i : Int) (H : List SO) (Er : Prop) (K : Option SV → List SO → Prop) : turnX (bdOf TTe 74) (fcAt 686 (fcLaw Er) 68) dkC1 (.int i) ⟨[(s_script, .lst sc)], H⟩ K = K (some (.int ((i.natAbs : Int).fmod 1000000000000000000000000000000000000000000000000000000000000000000000000000000000000000000))) H := by kernel_rfl
theorem zo0 (sc cl : List SV) (i : Int) (H : List SO) (Er : Prop) (K : Option SV → List SO → Prop) : turnX (bdOf TTe 73) (fcAt 686 (fcLaw Er) 68) dkC2 (.int i) ⟨[(s_script, .lst sc), (s_cells, .lst cl)], H⟩ K = BR (leB 1000000000000000000 i) (K (some (.int i)) H) (K none H) := by kernel_rfl
noncomputable def seqK (r : Bd) (fc : FC) (rest : List Stmt) (K : KO) : KO := fun o st' => match o with
 | .next => exs r fc rest st' K
 | .brk => K .brk st'
 | .cont => K .cont st'
 | .ret v => K (.ret v) st'
theorem zgB (r : Bd) (fc : FC) (s : Stmt) (rest : List Stmt) (st : SS) (K : KO) : exs r fc (s :: rest) st K = r.ex fc s st (seqK r fc rest K) := rfl
theorem zmK (r : Bd) (sc : List SV) (Er : Prop) (K : KO) : (bdStep TTe (bdStep TTe (bdStep TTe (bdStep TTe r)))).ex (fcAt 734 (fcLaw Er) 69) (stAt 734 0) ⟨[(s_script, .lst sc)], []⟩ K =
  callF TTe (bdStep TTe r) (fcAt 734 (fcLaw Er) 69) 686 [.lst sc] ⟨[(s_script, .lst sc)], []⟩ (fun v st => ([] : List SV) = [] ∧ K .next ⟨[(s_script, .lst sc), (s_deck, v), (s_table, TABLE)], st.H⟩) := by kernel_rfl
theorem zmJ (r : Bd) (sc : List SV) (H : List SO) (Er : Prop) (K : KO) : (bdStep TTe (bdStep TTe (bdStep TTe (bdStep TTe r)))).ex (fcAt 734 (fcLaw Er) 69) (stAt 734 1) ⟨[(s_script, .lst sc), (s_deck, .obj 1), (s_table, TABLE)], H⟩ K =
  ((eqB 8 8 = true ∧ eqB 24 24 = true) ∧ (∃ l : List Int, sc = l.map SV.int ∧ l.length ≤ 100) ∧ (∀ n : Int, 8 ≤ n → n ≤ 24 → callF TTe (bdStep TTe (bdStep TTe r)) (fcAt 734 (fcLaw Er) 69) 703 [.obj 1, .int n] ⟨[(s_script, .lst sc), (s_deck, .obj 1), (s_table, TABLE)], H⟩ (fun w st => K .next ⟨[(s_script, .lst sc), (s_deck, .obj 1), (s_table, TABLE), (s_pieces, w)], st.H⟩))) := by kernel_rfl
theorem zjM (r : Bd) (n : Int) (lc : List (Str × SV)) (H0 : List SO) (Er : Prop) (K : SV → SS → Prop) : callF TTe (bdStep TTe (bdStep TTe (bdStep TTe r))) (fcAt 734 (fcLaw Er) 69) 703 [.obj 1, .int n] ⟨lc, H0⟩ K =
  (bdStep TTe (bdStep TTe (bdStep TTe r))).ex (fcAt 703 (fcLaw Er) 68) (stAt 703 1) ⟨[(s_deck, .obj 1), (s_many, .int n), (s_pieces, PV)], H0⟩ (seqK (bdStep TTe (bdStep TTe (bdStep TTe r))) (fcAt 703 (fcLaw Er) 68) (restAt 703 1) (retK K lc)) := by kernel_rfl
theorem zoS (r : Bd) (n : Int) (H0 : List SO) (Er : Prop) (Kq : KO) : (bdStep TTe (bdStep TTe (bdStep TTe (bdStep TTe r)))).ex (fcAt 703 (fcLaw Er) 68) (stAt 703 1) ⟨[(s_deck, .obj 1), (s_many, .int n), (s_pieces, PV)], H0⟩ Kq =
  (CK (leB 0 n && leB n 1000) (CK (inLine ((List.range n.toNat).map fun (i : Nat) => SV.int (i : Int)).length) ((∃ x0, LTx.P [] x0 ∧ LTx.st x0 = ⟨[(accN, .lst [])], H0⟩) ∧ (∀ (x : TX) (pre : List SV) (v : SV) (post acc : List SV) (H : List SO), ((List.range n.toNat).map fun (i : Nat) => SV.int (i : Int)) = pre ++ v :: post → LTx.P pre x → LTx.st x = ⟨[(accN, .lst acc)], H⟩ → turnX (bdStep TTe (bdStep TTe r)) (fcAt 703 (fcLaw Er) 68) txC v ⟨[(s_deck, .obj 1), (s_many, .int n), (s_pieces, PV)], H⟩ (compK LTx pre v acc)) ∧ ∀ (x : TX) (acc : List SV) (H : List SO), LTx.P ((List.range n.toNat).map fun (i : Nat) => SV.int (i : Int)) x → LTx.st x = ⟨[(accN, .lst acc)], H⟩ → CK (byVal.allV (byVal 2) acc) (Kq .next ⟨[(s_deck, .obj 1), (s_many, .int n), (s_pieces, PV), (s_found, .lst acc)], H⟩)))) := by kernel_rfl
theorem zoR (r : Bd) (n i : Int) (H : List SO) (Er : Prop) (K : Option SV → List SO → Prop) : turnX (bdStep TTe (bdStep TTe (bdStep TTe r))) (fcAt 703 (fcLaw Er) 68) txC (.int i) ⟨[(s_deck, .obj 1), (s_many, .int n), (s_pieces, PV)], H⟩ K = callF TTe (bdStep TTe r) ⟨txC.sc, 68, lpLaw, False, false⟩ 693 [.obj 1, .int 14] ⟨[(s_deck, .obj 1), (s_pieces, PV), (s_nth, .int i)], H⟩ (fun v st2 => getI PV v st2 fun u st3 => K (some u) st3.H) := by kernel_rfl
theorem zjL (r : Bd) (n : Int) (fl : List SV) (H : List SO) (Er : Prop) (Kq : KO) : (bdStep TTe (bdStep TTe (bdStep TTe (bdStep TTe (bdStep TTe (bdStep TTe r)))))).ex (fcAt 703 (fcLaw Er) 68) (stAt 703 2) ⟨[(s_deck, .obj 1), (s_many, .int n), (s_pieces, PV), (s_found, .lst fl)], H⟩ Kq =
  callF TTe (bdStep TTe r) ⟨(fiAt 703).sc, 68, lpLaw, Er, true⟩ 693 [.obj 1, .int 6] ⟨[(s_deck, .obj 1), (s_many, .int n), (s_pieces, PV), (s_found, .lst fl)], H⟩ (fun v st1 => @OM Bool (cmpV st1 .Eq v (.int 0)) fun b => BR b (CK ((inLine fl.length && inLine 1) && (byVal.allV (byVal 2) fl && true)) (Kq (.ret (.lst (fl ++ [.str Pc.us.str]))) st1)) (CK ((inLine fl.length && inLine 0) && (byVal.allV (byVal 2) fl && true)) (Kq (.ret (.lst (fl ++ []))) st1))) := by kernel_rfl
theorem zmI (sc pv : List SV) (H : List SO) (Er : Prop) (K : SV → SS → Prop) : exs (bdOf TTe 79) (fcAt 734 (fcLaw Er) 69) (restAt 734 1) ⟨[(s_script, .lst sc), (s_deck, .obj 1), (s_table, TABLE), (s_pieces, .lst pv)], H⟩ (endK K) =
  (CK (Bool.true && inLine pv.length) (@OM (List Str) (strsOf pv) fun v => CK (inLine (joinS v).length) (∃ ps : List Pc, pv = List.map (fun (x : Pc) => SV.str x.str) ps ∧ ps.length ≤ 100 ∧ CK (inLine (List.map (fun c => SV.str { cps := #[c] }) (joinS v)).length) ((∃ x0, LOrd.P [] x0 ∧ LOrd.st x0 = { loc := [((st [46, 97]), SV.lst [])], H := H }) ∧ (∀ (x : List SO × List Nat) (pre : List SV) (v_1 : SV) (post acc : List SV) (H : List SO), List.map (fun c => SV.str { cps := #[c] }) (joinS v) = pre ++ v_1 :: post → LOrd.P pre x → LOrd.st x = { loc := [((st [46, 97]), SV.lst acc)], H := H } → turnX (bdOf TTe 76) (fcAt 734 (fcLaw Er) 69) vwC v_1 { loc := [(s_script, SV.lst sc), (s_deck, SV.obj 1), (s_table, TABLE), (s_pieces, SV.lst pv), (s_text, SV.str { cps := { toList := joinS v } }), (s_signs, SV.lst (List.map sgV (signsOf 1 ps)))], H := H } (compK LOrd pre v_1 acc)) ∧ ∀ (x : List SO × List Nat) (acc : List SV) (H : List SO), LOrd.P (List.map (fun c => SV.str { cps := #[c] }) (joinS v)) x → LOrd.st x = { loc := [((st [46, 97]), SV.lst acc)], H := H } → CK (byVal.allV (byVal 2) acc) (∃ cs, acc = List.map SV.int cs ∧ cs.length ≤ 1000 ∧ ∃ l, List.map sgV (signsOf 1 ps) = List.map sgV l ∧ l.length ≤ 100 ∧ ∃ cs_1, GoodT cs_1 ∧ safe Kn.pl (dropAt cs_1 1) 1 ∧ IsView cs_1 (VIEW cs) ∧ IsTab TABLE ∧ @OM Bool (cmpV { loc := [(s_script, SV.lst sc), (s_deck, SV.obj 1), (s_table, TABLE), (s_pieces, SV.lst pv), (s_text, SV.str { cps := { toList := joinS v } }), (s_signs, SV.lst (List.map sgV (signsOf 1 ps))), (s_view, VIEW cs), (s_due, oi (dRes (dfold l))), (s_ends, SV.dct (List.map kvI (dfold l).ends))], H := H } CmpOp.NotEq (oi (fu cs_1 ws0 (dropAt cs_1 1) 1)) (oi (dRes (dfold l)))) fun v_1 => BR v_1 (K (SV.bool Bool.false) { loc := [], H := H }) (∃ cs_2 s, GoodT cs_2 ∧ cT s = cs_2 ∧ safe Kn.pl (dropAt cs_2 1) 1 ∧ (∀ (z : Int), z ∈ dsL cs_2 → FwPre cs_2 z ∧ ∀ (e : Int), SE cs_2 z = Option.some e → 1 ≤ e) ∧ { cps := { toList := joinS v } } = s ∧ IsView cs_2 (VIEW cs) ∧ IsTab TABLE ∧ ∃ signs ends, (List.map sgV (signsOf 1 ps) = List.map sgV signs ∧ List.map kvI (dfold l).ends = List.map kvI ends) ∧ signs.length ≤ 1000 ∧ startsOf cs_2 signs = dsL cs_2 ∧ (∀ (y : Sg × Int), y ∈ signs → 1 ≤ y.snd ∧ y.snd ≤ ↑cs_2.length) ∧ (∀ (z : Int), z ∈ dsL cs_2 → SE cs_2 z = ilkI ends z ∧ ∀ (e : Int), SE cs_2 z = Option.some e → 1 ≤ e) ∧ K (SV.bool Bool.true) { loc := [], H := H })))))) := by kernel_rfl
theorem zrJ (loc : List (Str × SV)) (n : Nat) (sc pv sg : List SV) (s : Str) (H : List SO) (Er : Prop) (K : Option SV → List SO → Prop) : turnX (bdOf TTe 76) (fcAt 734 (fcLaw Er) 69) vwC (.str ⟨#[n]⟩) ⟨[(s_script, .lst sc), (s_deck, .obj 1), (s_table, TABLE), (s_pieces, .lst pv), (s_text, .str s), (s_signs, .lst sg)], H⟩ K = K (some (.int (n : Int))) H := by kernel_rfl
theorem fm {a m : Int} (h : 0 < m) : 0 ≤ a.fmod m ∧ a.fmod m < m := ⟨Int.fmod_nonneg_of_pos a h, Int.fmod_lt_of_pos a h⟩
theorem zbA {a b : Int} (h : a < b) : ltB a b = true := decide_eq_true h
theorem bnd {x M : Int} (hM : M ≤ 1152921504606846976) (h : 0 ≤ x ∧ x < M) : (ltB (-1152921504606846976) x && ltB x 1152921504606846976) = true := by
 rw [zbA (by lia), zbA (by lia)]; rfl
structure DrK (K : SV → SS → Prop) (lc : List (Str × SV)) (m sz c : Int) (n : Nat) : Prop where
 k : ∀ (r : Int) (bigs' : List Int) (c' : Int), 0 ≤ r → r < m → c ≤ c' → c' ≤ c + 1 → bigs'.length ≤ n → K (.int r) ⟨lc, dkH bigs' sz c'⟩
theorem zrB {sc' : Scope} {tr : Bool} {m sz c : Int} {bigs : List Int} {lc : List (Str × SV)} {Er : Prop} {K : SV → SS → Prop} (hm : 0 < m) (hm2 : m ≤ 100) (hc0 : 0 ≤ c) (hc : c ≤ 1000) (hl : bigs.length ≤ 100) (hK : DrK K lc m sz c bigs.length) :
  Hold (callF TTe (bdOf TTe 73) ⟨sc', 68, lpLaw, Er, tr⟩ 693 [.obj 1, .int m] ⟨lc, dkH bigs sz c⟩ K) := by
 refine Hold.mk ?_
 have ck : (Bool.true && (ltB (-1152921504606846976) (c + 1) && ltB (c + 1) 1152921504606846976)) = true := by rw [zbA (by lia), zbA (by lia)]; rfl
 cases bigs with
 | nil =>
  rw [show dkH [] sz c = [.seq [], .seq [.obj 0, .int sz, .int c]] from rfl, ze0]
  refine zaB ck (zaB ?_ (zaB ck (zaB ?_ (zaB (zbA hm) (hK.k _ [] (c + 1) (fm hm).1 (fm hm).2 (by lia) (by lia) (Nat.le_refl _))))))
  ·rw [bnd (M := 4294966297) (by lia) (fm (by lia))]; rfl
  ·rw [bnd (M := 4294966237) (by lia) (fm (by lia))]; rfl
 | cons b l =>
  rw [show dkH (b :: l) sz c = [.seq (.int b :: l.map SV.int), .seq [.obj 0, .int sz, .int c]] from rfl, zeY]
  have hl' : l.length + 1 ≤ 100 := hl
  have hmm : (ltB 0 m && leB m 100000) = true := by rw [zbA hm, show leB m 100000 = true from decide_eq_true (by lia)]; rfl
  have il : ∀ z : SV, inLine (z :: l.map SV.int).length = true := fun z => zaD (by simp; lia)
  have hz : ltB 0 ((SV.int b :: l.map SV.int).length : Int) = true := zbA (by simp)
  refine zaB hmm (zaB (by rw [hz, il]; rfl) (zaI (fun q => zaB (by rw [il]; rfl) (zaB (zbA hm) (hK.k _ l c (fm hm).1 (fm hm).2 (by lia) (by lia) (by simp)))) fun q => zaB (zbA hm) (hK.k _ (b.fdiv m :: l) c (fm hm).1 (fm hm).2 (by lia) (by lia) (by simp))))
theorem zrC {sc' : Scope} {tr : Bool} {m sz c : Int} {bigs : List Int} {lc : List (Str × SV)} {Er : Prop} {K : SV → SS → Prop} (hm : 0 < m) (hm2 : m ≤ 100) (hc0 : 0 ≤ c) (hc : c ≤ 1000) (hl : bigs.length ≤ 100) (hK : DrK K lc m sz c bigs.length) :
  Hold (callF TTe (bdOf TTe 72) ⟨sc', 68, lpLaw, Er, tr⟩ 693 [.obj 1, .int m] ⟨lc, dkH bigs sz c⟩ K) := by
 refine Hold.mk ?_
 have ck : (Bool.true && (ltB (-1152921504606846976) (c + 1) && ltB (c + 1) 1152921504606846976)) = true := by rw [zbA (by lia), zbA (by lia)]; rfl
 cases bigs with
 | nil =>
  rw [show dkH [] sz c = [.seq [], .seq [.obj 0, .int sz, .int c]] from rfl, ze1]
  refine zaB ck (zaB ?_ (zaB ck (zaB ?_ (zaB (zbA hm) (hK.k _ [] (c + 1) (fm hm).1 (fm hm).2 (by lia) (by lia) (Nat.le_refl _))))))
  ·rw [bnd (M := 4294966297) (by lia) (fm (by lia))]; rfl
  ·rw [bnd (M := 4294966237) (by lia) (fm (by lia))]; rfl
 | cons b l =>
  rw [show dkH (b :: l) sz c = [.seq (.int b :: l.map SV.int), .seq [.obj 0, .int sz, .int c]] from rfl, zeZ]
  have hl' : l.length + 1 ≤ 100 := hl
  have hmm : (ltB 0 m && leB m 100000) = true := by rw [zbA hm, show leB m 100000 = true from decide_eq_true (by lia)]; rfl
  have il : ∀ z : SV, inLine (z :: l.map SV.int).length = true := fun z => zaD (by simp; lia)
  have hz : ltB 0 ((SV.int b :: l.map SV.int).length : Int) = true := zbA (by simp)
  refine zaB hmm (zaB (by rw [hz, il]; rfl) (zaI (fun q => zaB (by rw [il]; rfl) (zaB (zbA hm) (hK.k _ l c (fm hm).1 (fm hm).2 (by lia) (by lia) (by simp)))) fun q => zaB (zbA hm) (hK.k _ (b.fdiv m :: l) c (fm hm).1 (fm hm).2 (by lia) (by lia) (by simp))))
noncomputable def pcAt (n : Nat) : Pc := pcsL.getD n .a
theorem pv_0 (st : SS) (K : SV → SS → Prop) : getI PV (.int 0) st K ↔ K (.str (pcAt 0).str) st := iff_of_eq (by kernel_rfl)
theorem pv_1 (st : SS) (K : SV → SS → Prop) : getI PV (.int 1) st K ↔ K (.str (pcAt 1).str) st := iff_of_eq (by kernel_rfl)
theorem pv_2 (st : SS) (K : SV → SS → Prop) : getI PV (.int 2) st K ↔ K (.str (pcAt 2).str) st := iff_of_eq (by kernel_rfl)
theorem pv_3 (st : SS) (K : SV → SS → Prop) : getI PV (.int 3) st K ↔ K (.str (pcAt 3).str) st := iff_of_eq (by kernel_rfl)
theorem pv_4 (st : SS) (K : SV → SS → Prop) : getI PV (.int 4) st K ↔ K (.str (pcAt 4).str) st := iff_of_eq (by kernel_rfl)
theorem pv_5 (st : SS) (K : SV → SS → Prop) : getI PV (.int 5) st K ↔ K (.str (pcAt 5).str) st := iff_of_eq (by kernel_rfl)
theorem pv_6 (st : SS) (K : SV → SS → Prop) : getI PV (.int 6) st K ↔ K (.str (pcAt 6).str) st := iff_of_eq (by kernel_rfl)
theorem pv_7 (st : SS) (K : SV → SS → Prop) : getI PV (.int 7) st K ↔ K (.str (pcAt 7).str) st := iff_of_eq (by kernel_rfl)
theorem pv_8 (st : SS) (K : SV → SS → Prop) : getI PV (.int 8) st K ↔ K (.str (pcAt 8).str) st := iff_of_eq (by kernel_rfl)
theorem pv_9 (st : SS) (K : SV → SS → Prop) : getI PV (.int 9) st K ↔ K (.str (pcAt 9).str) st := iff_of_eq (by kernel_rfl)
theorem zr7 (st : SS) (K : SV → SS → Prop) : getI PV (.int 10) st K ↔ K (.str (pcAt 10).str) st := iff_of_eq (by kernel_rfl)
theorem zr6 (st : SS) (K : SV → SS → Prop) : getI PV (.int 11) st K ↔ K (.str (pcAt 11).str) st := iff_of_eq (by kernel_rfl)
theorem zr5 (st : SS) (K : SV → SS → Prop) : getI PV (.int 12) st K ↔ K (.str (pcAt 12).str) st := iff_of_eq (by kernel_rfl)
theorem zr4 (st : SS) (K : SV → SS → Prop) : getI PV (.int 13) st K ↔ K (.str (pcAt 13).str) st := iff_of_eq (by kernel_rfl)
theorem zpV {r : Int} (h0 : 0 ≤ r) (h1 : r < 14) : ∃ p : Pc, p ≠ .us ∧ ∀ (st : SS) (K : SV → SS → Prop), K (.str p.str) st → getI PV (.int r) st K := by
 obtain ⟨n, rfl⟩ := Int.eq_ofNat_of_zero_le h0
 have hn : n < 14 := Int.ofNat_lt.mp h1
 clear h0 h1
 match n, hn with
 | 0, _ => exact ⟨pcAt 0, by decide, fun st K h => (pv_0 st K).mpr h⟩
 | 1, _ => exact ⟨pcAt 1, by decide, fun st K h => (pv_1 st K).mpr h⟩
 | 2, _ => exact ⟨pcAt 2, by decide, fun st K h => (pv_2 st K).mpr h⟩
 | 3, _ => exact ⟨pcAt 3, by decide, fun st K h => (pv_3 st K).mpr h⟩
 | 4, _ => exact ⟨pcAt 4, by decide, fun st K h => (pv_4 st K).mpr h⟩
 | 5, _ => exact ⟨pcAt 5, by decide, fun st K h => (pv_5 st K).mpr h⟩
 | 6, _ => exact ⟨pcAt 6, by decide, fun st K h => (pv_6 st K).mpr h⟩
 | 7, _ => exact ⟨pcAt 7, by decide, fun st K h => (pv_7 st K).mpr h⟩
 | 8, _ => exact ⟨pcAt 8, by decide, fun st K h => (pv_8 st K).mpr h⟩
 | 9, _ => exact ⟨pcAt 9, by decide, fun st K h => (pv_9 st K).mpr h⟩
 | 10, _ => exact ⟨pcAt 10, by decide, fun st K h => (zr7 st K).mpr h⟩
 | 11, _ => exact ⟨pcAt 11, by decide, fun st K h => (zr6 st K).mpr h⟩
 | 12, _ => exact ⟨pcAt 12, by decide, fun st K h => (zr5 st K).mpr h⟩
 | 13, _ => exact ⟨pcAt 13, by decide, fun st K h => (zr4 st K).mpr h⟩
 | n + 14, h => exact absurd h (Nat.not_lt.mpr (Nat.le_add_left 14 n))
theorem zfY : ∀ (ps : List Pc), (∀ p ∈ ps, p ≠ .us) → okPs ps ∧ okPs (ps ++ [.us])
 | [], _ => ⟨trivial, fun _ => rfl, trivial⟩
 | x :: r, h => by
  obtain ⟨a, b⟩ := zfY r fun p hp => h p (List.mem_cons_of_mem _ hp)
  exact ⟨⟨fun e => absurd e (h x List.mem_cons_self), a⟩, fun e => absurd e (h x List.mem_cons_self), b⟩
theorem zs0 : bdOf TTe 77 = bdStep TTe (bdStep TTe (bdStep TTe (bdStep TTe (bdOf TTe 73)))) := rfl
theorem zs1 : bdStep TTe (bdStep TTe (bdOf TTe 73)) = bdStep TTe (bdStep TTe (bdStep TTe (bdOf TTe 72))) := rfl
theorem zs2 : bdOf TTe 73 = bdStep TTe (bdOf TTe 72) := rfl
theorem zs3 : bdOf TTe 72 = bdStep TTe (bdOf TTe 71) := rfl
theorem zcJ : ∀ (l : List Pc), byVal.allV (byVal 2) (l.map fun p => SV.str p.str) = true
 | [] => rfl
 | _ :: r => zcJ r
structure TxK (K : SV → SS → Prop) (lc : List (Str × SV)) : Prop where
 k : ∀ (ps : List Pc) (H : List SO), okPs ps → ps.length ≤ 100 → K (.lst (ps.map fun p => SV.str p.str)) ⟨lc, H⟩
theorem zkQ : restAt 703 1 = [stAt 703 2] := by kernel_rfl
theorem zmV {n sz : Int} {bigs : List Int} {lc : List (Str × SV)} {Er : Prop} {K : SV → SS → Prop} (h0 : 8 ≤ n) (h1 : n ≤ 24) (hl : bigs.length ≤ 100) (hK : TxK K lc) :
  Hold (callF TTe (bdOf TTe 77) (fcAt 734 (fcLaw Er) 69) 703 [.obj 1, .int n] ⟨lc, dkH bigs sz 0⟩ K) := by
 refine Hold.mk ?_
 rw [zs0, zjM, zoS]
 have hn : (leB 0 n && leB n 1000) = true := by rw [show leB 0 n = true from decide_eq_true (by lia), show leB n 1000 = true from decide_eq_true (by lia)]; rfl
 have hlen : ((List.range n.toNat).map fun (i : Nat) => SV.int (i : Int)).length ≤ 24 := by rw [List.length_map, List.length_range]; lia
 refine zaB hn (zaB (zaD (by lia)) ⟨⟨⟨[], bigs, sz, 0⟩, ⟨rfl, fun p h => (by cases h), ⟨Int.le_refl _, Int.le_refl _⟩, hl⟩, rfl⟩, fun (x : TX) pre v post acc H hits hP hst => ?_, fun (x : TX) acc H hP hst => ?_⟩)
 ·have hst' : (⟨[(accN, .lst (x.ps.map fun p => SV.str p.str))], dkH x.bigs x.sz x.c⟩ : SS) = ⟨[(accN, .lst acc)], H⟩ := hst
  obtain ⟨rfl, rfl⟩ := zb7 hst'
  obtain ⟨p1, p2, ⟨p3, p4⟩, p5⟩ := hP
  have hv : ∃ i : Int, v = .int i := by
   have : v ∈ (List.range n.toNat).map fun (i : Nat) => SV.int (i : Int) := by rw [hits]; simp
   obtain ⟨i, _, e⟩ := List.mem_map.mp this
   exact ⟨_, e.symm⟩
  obtain ⟨i, rfl⟩ := hv
  have hpl : pre.length ≤ 24 := by
   have := congrArg List.length hits
   rw [List.length_append] at this
   lia
  rw [zs1, zoR, ← zs2]
  refine (zrB (by lia) (by lia) p3 (by lia) p5 ⟨fun r bigs' c' r0 r1 c0 c1 hb => ?_⟩).h
  obtain ⟨p, hp, hg⟩ := zpV r0 r1
  refine hg _ _ ⟨⟨x.ps ++ [p], bigs', x.sz, c'⟩, ⟨by show (x.ps ++ [p]).length = _; rw [List.length_append, List.length_append, p1]; rfl, fun q hq => ?_, ⟨by show 0 ≤ c'; lia, by show c' ≤ ((pre ++ [SV.int i]).length : Int); rw [List.length_append]; simp; lia⟩, by show bigs'.length ≤ 100; lia⟩, ?_⟩
  ·rcases List.mem_append.mp hq with z | z
   ·exact p2 q z
   ·rw [List.mem_singleton.mp z]; exact hp
  ·show (⟨[(accN, .lst ((x.ps ++ [p]).map fun p => SV.str p.str))], dkH bigs' x.sz c'⟩ : SS) = _
   rw [List.map_append]; rfl
 ·have hst' : (⟨[(accN, .lst (x.ps.map fun p => SV.str p.str))], dkH x.bigs x.sz x.c⟩ : SS) = ⟨[(accN, .lst acc)], H⟩ := hst
  obtain ⟨rfl, rfl⟩ := zb7 hst'
  obtain ⟨p1, p2, ⟨p3, p4⟩, p5⟩ := hP
  have hxl : x.ps.length ≤ 24 := by lia
  obtain ⟨o1, o2⟩ := zfY x.ps p2
  refine zaB (zcJ _) ?_
  show exs _ _ (restAt 703 1) _ _
  rw [zkQ, zgB, show bdStep TTe (bdStep TTe (bdStep TTe (bdOf TTe 73))) = bdStep TTe (bdStep TTe (bdStep TTe (bdStep TTe (bdStep TTe (bdOf TTe 71))))) from rfl]
  rw [zjL, ← zs3]
  refine (zrC (by lia) (by lia) p3 (by rw [List.length_map, List.length_range] at p4; lia) p5 ⟨fun r bigs' c' r0 r1 c0 c1 hb => ?_⟩).h
  have hil : inLine (x.ps.map fun p => SV.str p.str).length = true := zaD (by rw [List.length_map]; lia)
  have k1 := hK.k (x.ps ++ [.us]) (dkH bigs' x.sz c') o2 (by rw [List.length_append]; simp; lia)
  have k2 := hK.k x.ps (dkH bigs' x.sz c') o1 (by lia)
  rw [List.map_append] at k1
  refine zaE (a := eqB r 0) rfl (zaI (fun _ => zaB (by rw [hil, zcJ]; rfl) ?_) fun _ => zaB (by rw [hil, zcJ]; rfl) ?_)
  ·exact k1
  ·rw [List.append_nil]
   exact k2
structure DkK (K : SV → SS → Prop) (lc : List (Str × SV)) : Prop where
 k : ∀ (bigs : List Int) (sz : Int), bigs.length ≤ 100 → K (.obj 1) ⟨lc, dkH bigs sz 0⟩
theorem zoA {l : List Int} {lc : List (Str × SV)} {Er : Prop} {K : SV → SS → Prop} (hl : l.length ≤ 100) (hK : DkK K lc) :
  Hold (callF TTe (bdOf TTe 76) (fcAt 734 (fcLaw Er) 69) 686 [.lst (l.map SV.int)] ⟨lc, []⟩ K) := by
 refine Hold.mk ?_
 rw [zmN]
 have ht : (l.map SV.int).take 24 = (l.take 24).map SV.int := by rw [List.map_take]
 have htl : (l.take 24).length ≤ 24 := by rw [List.length_take]; lia
 rw [ht]
 refine zaB (by rw [zaK, zaD (by rw [List.length_map]; lia)]; rfl) (zaB (zaD (by rw [List.length_map]; lia)) ⟨⟨[], rfl, rfl⟩, fun (x : List Int) pre v post acc H hits hP hst => ?_, fun (x : List Int) acc H hP hst => ?_⟩)
 ·obtain ⟨i, rfl⟩ := zbQ hits
  have hst' : (⟨[(accN, .lst (x.map fun i => SV.int ((i.natAbs : Int).fmod 1000000000000000000000000000000000000000000000000000000000000000000000000000000000000000000)))], []⟩ : SS) = ⟨[(accN, .lst acc)], H⟩ := hst
  obtain ⟨rfl, rfl⟩ := zb7 hst'
  have hP' : pre = x.map SV.int := hP
  subst hP'
  rw [zo1]
  refine ⟨x ++ [i], ?_, ?_⟩
  ·show _ = (x ++ [i]).map SV.int
   simp
  ·show (⟨[(accN, .lst ((x ++ [i]).map fun i => SV.int ((i.natAbs : Int).fmod 1000000000000000000000000000000000000000000000000000000000000000000000000000000000000000000)))], []⟩ : SS) = _
   rw [List.map_append]; rfl
 ·have hst' : (⟨[(accN, .lst (x.map fun i => SV.int ((i.natAbs : Int).fmod 1000000000000000000000000000000000000000000000000000000000000000000000000000000000000000000)))], []⟩ : SS) = ⟨[(accN, .lst acc)], H⟩ := hst
  obtain ⟨rfl, rfl⟩ := zb7 hst'
  have hP' : (l.take 24).map SV.int = x.map SV.int := hP
  have := zb2 hP'
  subst this
  have hc : ((l.take 24).map fun i => SV.int ((i.natAbs : Int).fmod 1000000000000000000000000000000000000000000000000000000000000000000000000000000000000000000)) = ((l.take 24).map fun i => (i.natAbs : Int).fmod 1000000000000000000000000000000000000000000000000000000000000000000000000000000000000000000).map SV.int := by rw [List.map_map]; rfl
  rw [hc]
  generalize hC : (l.take 24).map (fun i => (i.natAbs : Int).fmod 1000000000000000000000000000000000000000000000000000000000000000000000000000000000000000000) = C
  have hCl : C.length ≤ 24 := by rw [← hC, List.length_map]; exact htl
  have hil : inLine (C.map SV.int).length = true := zaD (by rw [List.length_map]; lia)
  refine zaB (zaK _) (zaB hil ⟨⟨[], rfl, rfl⟩, fun (y : List Int) pre v post acc H hits hP hst => ?_, fun (y : List Int) acc H hP hst => ?_⟩)
  ·obtain ⟨i, rfl⟩ := zbQ hits
   obtain ⟨ha, rfl⟩ := zgA hst
   obtain ⟨n1, n2⟩ := zeB (i := i) hP ha
   rw [zo0]
   exact zaI n1 n2
  ·obtain ⟨ha, rfl⟩ := zfG hP hst
   subst ha
   obtain ⟨a, hs⟩ := ze2 C
   have hfl : (C.filter fun x => leB 1000000000000000000 x).length ≤ 24 := Nat.le_trans (List.length_filter_le _ _) hCl
   refine zaB hil (zaB hil (zaE hs ?_))
   exact hK.k (C.filter fun x => leB 1000000000000000000 x) (((C.map SV.int).length : Int) + a) (by lia)
theorem zhL : ∀ (ps : List Pc), strsOf (ps.map fun p => SV.str p.str) = some (ps.map Pc.str)
 | [] => rfl
 | p :: r => by
  show (strsOf (r.map fun p => SV.str p.str)).map (p.str :: ·) = _
  rw [zhL r]; rfl
theorem zh6 : ∀ (ps : List Pc), (joinS (ps.map Pc.str)).map (fun (n : Nat) => (n : Int)) = codes ps
 | [] => rfl
 | p :: r => by
  show ((p.cs ++ joinS (r.map Pc.str)).map fun (n : Nat) => (n : Int)) = (p.cs.map fun (n : Nat) => (n : Int)) ++ codes r
  rw [List.map_append, zh6 r]
theorem zi7 : ∀ {a b : List Nat}, a.map (fun n => SV.str ⟨#[n]⟩) = b.map (fun n => SV.str ⟨#[n]⟩) → a = b
 | [], [], _ => rfl
 | [], _ :: _, h => by cases h
 | _ :: _, [], h => by cases h
 | x :: a, y :: b, h => by
  rw [List.map_cons, List.map_cons] at h
  obtain ⟨h1, h2⟩ := List.cons.inj h
  injection h1 with h1
  injection h1 with h1
  injection h1 with h1
  injection h1 with h1
  rw [h1, zi7 h2]
theorem znN {ps : List Pc} {sc : List SV} {H : List SO} {Er : Prop} {K : SV → Prop} (hok : okPs ps) (hl : ps.length ≤ 100) (hK : K (.bool true)) :
  Hold (exs (bdOf TTe 79) (fcAt 734 (fcLaw Er) 69) (restAt 734 1) ⟨[(s_script, .lst sc), (s_deck, .obj 1), (s_table, TABLE), (s_pieces, .lst (ps.map fun p => SV.str p.str))], H⟩ (endK (Fz K))) := by
 refine Hold.mk ?_
 rw [zmI]
 have pl := plain hok hl
 have hj := zh6 ps
 have hjl : (joinS (ps.map Pc.str)).length ≤ 1000 := by
  have := pl.good.1
  rw [← hj, List.length_map] at this
  exact this
 have hpl : inLine (ps.map fun p => SV.str p.str).length = true := zaD (by rw [List.length_map]; lia)
 refine zaB (by rw [hpl]; rfl) (zaE (zhL ps) (zaB (zaD (by lia)) ⟨ps, rfl, hl, zaB (zaD (by rw [List.length_map]; lia)) ⟨⟨(H, []), rfl, rfl⟩, fun x pre v post acc H' hits hP hst => ?_, fun x acc H' hP hst => ?_⟩⟩))
 ·have hst' : (⟨[(accN, .lst (x.2.map fun (n : Nat) => SV.int (n : Int)))], x.1⟩ : SS) = ⟨[(accN, .lst acc)], H'⟩ := hst
  obtain ⟨rfl, rfl⟩ := zb7 hst'
  have hP' : pre = x.2.map fun n => SV.str ⟨#[n]⟩ := hP
  subst hP'
  have hv : ∃ n : Nat, v = SV.str ⟨#[n]⟩ := by
   have : v ∈ (joinS (ps.map Pc.str)).map fun c => SV.str ⟨#[c]⟩ := by rw [hits]; simp
   obtain ⟨n, _, e⟩ := List.mem_map.mp this
   exact ⟨n, e.symm⟩
  obtain ⟨n, rfl⟩ := hv
  rw [zrJ []]
  refine ⟨(x.1, x.2 ++ [n]), ?_, ?_⟩
  ·show _ = (x.2 ++ [n]).map fun n => SV.str ⟨#[n]⟩
   simp
  ·show (⟨[(accN, .lst ((x.2 ++ [n]).map fun (n : Nat) => SV.int (n : Int)))], x.1⟩ : SS) = _
   rw [List.map_append]; rfl
 ·have hst' : (⟨[(accN, .lst (x.2.map fun (n : Nat) => SV.int (n : Int)))], x.1⟩ : SS) = ⟨[(accN, .lst acc)], H'⟩ := hst
  obtain ⟨rfl, rfl⟩ := zb7 hst'
  have hP' : ((joinS (ps.map Pc.str)).map fun c => SV.str ⟨#[c]⟩) = x.2.map fun n => SV.str ⟨#[n]⟩ := hP
  have hx := zi7 hP'
  have hacc : (x.2.map fun (n : Nat) => SV.int (n : Int)) = (codes ps).map SV.int := by rw [← hx, ← hj, List.map_map]; rfl
  rw [hacc]
  have hsl : (signsOf 1 ps).length ≤ 100 := Nat.le_trans (zc3 ps 1) hl
  have hcT : cT ⟨(joinS (ps.map Pc.str)).toArray⟩ = codes ps := hj
  refine zaB (zaK _) ⟨codes ps, rfl, pl.good.1, signsOf 1 ps, rfl, hsl, codes ps, pl.good, pl.safe, rfl, rfl, zaE (a := false) ?_ (BR_f rfl ⟨codes ps, _, pl.good, hcT, pl.safe, fun z hz => ⟨(pl.se z hz).1, (pl.se z hz).2.2⟩, rfl, rfl, rfl, signsOf 1 ps, (dfold (signsOf 1 ps)).ends, ⟨rfl, rfl⟩, by lia, pl.ds.symm, pl.at', fun z hz => (pl.se z hz).2, zeF hK⟩)⟩
  rw [pl.fu]
  cases dRes (dfold (signsOf 1 ps)) with
  | none => rfl
  | some d =>
   show some (!eqB d d) = _
   rw [show eqB d d = true from decide_eq_true rfl]; rfl
theorem zrG : bdOf TTe 79 = bdStep TTe (bdStep TTe (bdStep TTe (bdStep TTe (bdOf TTe 75)))) := rfl
theorem zmL (sc : List SV) (Er : Prop) (K : SV → SS → Prop) : callF TTe (bdOf TTe 79) (fcLaw Er) 734 [.lst sc] ⟨[], []⟩ K = (bdOf TTe 79).ex (fcAt 734 (fcLaw Er) 69) (stAt 734 0) ⟨[(s_script, .lst sc)], []⟩ (seqK (bdOf TTe 79) (fcAt 734 (fcLaw Er) 69) (restAt 734 0) (endK K)) := by kernel_rfl
theorem zkP : restAt 734 0 = stAt 734 1 :: restAt 734 1 := by kernel_rfl
theorem zp4 {l : List Int} {Er : Prop} {K : SV → Prop} (hl : l.length ≤ 100) (hK : K (.bool true)) : Hold (callF TTe (bdOf TTe 79) (fcLaw Er) 734 [.lst (l.map SV.int)] ⟨[], []⟩ (Fz K)) := by
 refine Hold.mk ?_
 rw [zmL]
 conv => rw [zrG]
 rw [zmK]
 refine (zoA hl ⟨fun bigs sz hb => ⟨rfl, ?_⟩⟩).h
 show exs _ _ (restAt 734 0) _ _
 rw [zkP, zgB, zmJ]
 refine ⟨⟨rfl, rfl⟩, ⟨l, rfl, hl⟩, fun n h0 h1 => (zmV h0 h1 hb ⟨fun ps H hok hp => ?_⟩).h⟩
 exact (znN hok hp hK).h
theorem zm8 {g : Gl} (H : Facts g) : SemSpec g (S1 g) true 614 20 spFuE := fun R hv hh hd hu hon hf hsp hret herr =>
 let ⟨cs, h1, h2, h3⟩ := hsp
 (SemSpec.lift (tr := true) (fun vs K Er q => q) (zpJ H h1 h2)) R hv hh hd hu hon hf h3 hret herr
theorem znB {g : Gl} (H : Facts g) (hx : excB g.K = true) : SemSpec g (S1 g) true 729 45 spDrE := fun R hv hh hd hu hon hf hsp hret herr =>
 let ⟨cs, s, h1, h2, h3, h4, h5⟩ := hsp
 (zpK H hx h1 h2 h3 h4) R hv hh hd hu hon hf h5 hret herr
theorem zrK (cs : List Int) (K : SV → SS → Prop) : callF T0 (bdOf T0 60) ⟨sc0, 5, fun _ _ => none, False, false⟩ 653 [.ins 677 0, .lst (cs.map SV.int)] ⟨[], [.fields []]⟩ K =
  (CK (inLine (List.map SV.int cs).length) (CK (byVal.allV (byVal 2) (List.map SV.int cs)) (K SV.none ⟨[], [SO.fields [(s_codes, SV.lst (List.map SV.int cs)), (s_place, SV.int 1)]]⟩))) := by kernel_rfl
theorem zpO {g : Gl} (H : Facts g) : SemSpec g (S0 g) false 677 5 spTR :=
 have ok : CallOk g (S0 g) T0 := zbG H (l := []) rfl (fun x hm => by cases hm)
 zkI (i := 653) (n := 60) (lp := fun _ _ => none) (sc := sc0) ok (exc0 g _ rfl) (by kernel_rfl) fun svs K Er hp => by
  replace hp := zeG hp
  obtain ⟨l0, rfl, hp⟩ := hp
  replace hp := zdP hp
  obtain ⟨l, rfl, hp⟩ := hp
  obtain ⟨cs, rfl, hl, hK⟩ := hp
  rw [zrK]
  refine zaB (zaD (by rw [List.length_map]; lia)) (zaB (zaK _) ?_)
  exact ⟨2, VIEW cs, rfl, hK⟩
theorem zh5 {g : Gl} (H : Facts g) (hx : excB g.K = true) : CallOk g (S1 g) TTe := zd3 H (by kernel_rfl) (fun x hm => by
  simp only [Le, List.mem_cons, List.not_mem_nil, or_false] at hm
  rcases hm with rfl | rfl | rfl | rfl | rfl | rfl | rfl
  ·exact SemSpec.lift (fun vs K Er q => q) (zhP H)
  ·exact SemSpec.lift (fun vs K Er q => by unfold spMany at *; exact q) (zkO H)
  ·exact SemSpec.lift (fun vs K Er q => q) (zpF H)
  ·exact SemSpec.lift (fun vs K Er q => q) (zm9 H)
  ·exact SemSpec.lift (fun vs K Er q => q) (zpO H)
  ·exact zm8 H
  ·exact znB H hx)
noncomputable def lawX (g : Gl) (env : Env) (gg : Array GenState) (dd : Drawn) (os : OsState) : Cx := ⟨callerA.deeper env, env, g.h0, g.h0.get?, [], [env.locals], gg, dd, os, []⟩
theorem zqU : fnOfA 734 = some (fiAt 734) := by kernel_rfl
theorem znY (r : Bd) (sc : List SV) (Er : Prop) (K : SV → SS → Prop) : callF TTe r (fcLaw Er) 734 [.lst sc] ⟨[], []⟩ K = exs r (fcAt 734 (fcLaw Er) 69) (fiAt 734).body ⟨[(s_script, .lst sc)], []⟩ (endK K) := by kernel_rfl
theorem zhZ : (fiAt 734).sc.names.all (fun p => p.2 == NameKind.local || p.2 == NameKind.globalImplicit) = true := by kernel_rfl
theorem zeH {g : Gl} {G : Sto} : ∀ {ns : List Int} {vs : List Value}, WellAll g.w.params g.h0 vs (ofPys (ns.map PyData.int)) → VRl g G [] (ns.map SV.int) vs
 | [], vs, h => by
  cases h; exact VRl.nil
 | n :: ns, vs, h => by
  cases h with
  | cons a b =>
   cases a
   exact VRl.cons ⟨_, rfl⟩ (zeH b)
theorem zhE {g : Gl} {ns : List Int} {v : Value} (h : Well g.w.params g.h0 v (ofPy (.list (ns.map PyData.int)))) : VR g g.h0.get? [] (.lst (ns.map SV.int)) v := by
 cases h with
 | list a b =>
  exact ⟨_, _, _, rfl, a, zeH b⟩
set_option tactic.hygienic true in
theorem znL {g : Gl} {name : Str} {scope : Scope} {L a : Addr} {cd : Value} {h₁ : Heap} {m : Str → Option Value} {v : Value} {ns : List Int} {gg : Array GenState} {dd : Drawn} {os : OsState} (hs : scope = (fiAt 734).sc)
  (F : Fr g.h0 L h₁ m) (hm : m s_script = some v) (W : Well g.w.params g.h0 v (ofPy (.list (ns.map PyData.int)))) :
  Rel g (lawX g (envOf name scope L a cd) gg dd os) g.h0.get? [] ⟨[(s_script, .lst (ns.map SV.int))], []⟩ h₁ := by
 have hn : g.h0.get? L = none := by
  cases q : g.h0.get? L with
  | none => rfl
  | some o => exact absurd (Nat.lt_of_lt_of_le (Heap.lt_size q) F.above) (Nat.lt_irrefl _)
 refine ⟨F.keep, fun b o e => e, ⟨m, F.ns⟩, fun p hp => (by cases hp), fun x sv e => ?_, rfl, fun i b so e => (by cases e), ⟨(fun _ _ q => by cases q), List.nodup_nil⟩, fun b hb => ?_, fun b hb => ?_, fun b hb => ?_, fun b hb => (by cases hb), fun b o e _ _ => F.keep b o e, fun b o e _ _ => ⟨o.slots, F.keep b o e⟩, fun b hb => (by cases hb), (fun q => by cases q), fun b o e => .inl e⟩
 ·rw [lk] at e
  split at e
  ·rename_i q
   cases e
   have q' : s_script = x := sEq_iff.mp q
   subst q'
   refine ⟨v, zhE W, .inl ⟨?_, m, F.ns, hm⟩⟩
   subst hs
   show (fiAt 734).sc.names.lookup s_script = _
   kernel_rfl
  ·cases e
 ·have : b = L := by simpa [Cx.fa, lawX, envOf] using hb
  rw [this]; exact hn
 ·have : b = L := by simpa [lawX, envOf] using hb
  rw [this]; exact .inr hn
 ·have : b = L := by simpa [lawX, envOf] using hb
  rw [this]; exact List.mem_cons_self
theorem zf6 : ∀ {x : Str} {k : NameKind}, (fiAt 734).sc.names.lookup x = some k → k = .local ∨ k = .globalImplicit := fun {x k} e => by
 have := List.all_eq_true.mp zhZ _ (mem_of_lookup e)
 simpa using this
set_option tactic.hygienic true in
theorem znM {g : Gl} {name : Str} {scope : Scope} {L a : Addr} {cd : Value} {gg : Array GenState} {dd : Drawn} {os : OsState} (hs : scope = (fiAt 734).sc) (hf : FnOk g 734 (fiAt 734)) :
  FOk g (S1 g) (fcAt 734 (fcLaw False) 69) (lawX g (envOf name scope L a cd) gg dd os) := by
 subst hs
 have kk : ∀ x, lk (fiAt 734).sc.names x = (fiAt 734).sc.names.lookup x := fun x => zbP ..
 refine ⟨⟨hf.kind, (fun q => by cases q), (fun p hp => by cases hp), List.mem_cons_self⟩, rfl, rfl, rfl, ?_, ?_, fun x e => (kk x).symm.trans e, fun x e => ?_, fun x k e => (za0 hf.names e).1, fun x e => ?_, fun x e => ?_, fun q => q.elim, fun _ => ?_⟩
 ·show (callerA.deeper _).depth + 3 * 69 ≤ 900
  rw [depth_deeper, depth_caller]; decide
 ·show callerA.units + 3 + 12 * 69 ≤ 8000
  decide
 ·refine .inl ?_
  show (fiAt 734).sc.names.lookup x = _
  unfold isLoc at e
  split at e
  ·rename_i q; exact (kk x).symm.trans q
  ·rename_i q
   rcases zf6 ((kk x).symm.trans q) with z | z <;> cases z
  ·cases e
 ·rcases zf6 ((kk x).symm.trans e) with z | z <;> cases z
 ·show (fiAt 734).sc.names.lookup x = _
  unfold isLoc1 at e
  split at e
  ·rename_i q; exact (kk x).symm.trans q
  ·cases e
 ·exact ⟨rfl, (fun q => by rw [show (lawX g (envOf name (fiAt 734).sc L a cd) gg dd os).env.scope.kind = .function from hf.kind] at q; cases q), [], rfl, fun e he => by cases he⟩
theorem law_run {g : Gl} (H : Facts g) (hx : excB g.K = true) {name : Str} {scope : Scope} {L a : Addr} {cd : Value} {h₁ : Heap} {m : Str → Option Value} {v : Value} {ns : List Int} {gg : Array GenState} {dd : Drawn} {os : OsState} {tk : Nat} {body : List Stmt}
  {Q : Flow → Shared → Prop} {E : Value → Shared → Prop} (hb : body = (fiAt 734).body) (hs : scope = (fiAt 734).sc)
  (F : Fr g.h0 L h₁ m) (hm : m s_script = some v) (W : Well g.w.params g.h0 v (ofPy (.list (ns.map PyData.int)))) (hl : ns.length ≤ 100)
  (hQ : ∀ h' tk', (∀ b o, g.h0.get? b = some o → h'.get? b = some o) → Q (.ret (.bool true)) ⟨h', gg, dd, tk', os⟩) :
  wpAny (model g.prog g.w) (callerA.deeper (envOf name scope L a cd)) (execs body (envOf name scope L a cd)) Q E ⟨h₁, gg, dd, tk, os⟩ := by
 have R := znL (a := a) (cd := cd) (name := name) (gg := gg) (dd := dd) (os := os) hs F hm W
 have hfn : FnOk g 734 (fiAt 734) := znV H.d1 H.d2 734 (fiAt 734) zqU
 have V := znM (name := name) (scope := scope) (L := L) (a := a) (cd := cd) (gg := gg) (dd := dd) (os := os) hs hfn
 have ok : CallOk g (S1 g) TTe := zh5 H hx
 have hk := (zp4 (Er := False) (K := fun sv => sv = .bool true) hl rfl).h
 rw [znY] at hk
 subst hb
 refine zcS (X := lawX g (envOf name scope L a cd) gg dd os) (zkJ ok (exc1 hx ok (zeQ H)) 79).2.2 V (fun q => q.elim) R hk fun G' rs' st' o f h' tk' x R' hf hk' => ?_
 have fz : ∀ {sv : SV} {st' : SS} {v : Value} {lc : List (Str × SV)}, Fz (fun sv => sv = .bool true) sv ⟨lc, st'.H⟩ → Rel g (lawX g (envOf name scope L a cd) gg dd os) G' rs' st' h' → VR g G' rs' sv v → v = .bool true := fun hz R' hv => by
  obtain ⟨n, u, e, rfl⟩ := hz
  obtain ⟨G2, x2, R2, hf⟩ := R'.frz rfl
  have := hf n _ _ _ hv e
  exact this
 have keep : ∀ b o, g.h0.get? b = some o → h'.get? b = some o := fun b o e => R'.sto b o (x.g b o e)
 cases o with
 | next =>
  have := fz hk' R' (v := .none) rfl
  cases this
 | brk => exact hk'.elim
 | cont => exact hk'.elim
 | ret sv =>
  obtain ⟨v, rfl, hv⟩ := hf
  have e := fz hk' R' hv
  subst e
  exact hQ h' tk' keep
noncomputable def vS (x : String) (t : Nat) : Value := .str (Str.ofString x) t
noncomputable def sqS : Nat → List Str → List Value
 | _, [] => []
 | t, x :: r => .str x t :: sqS (t + 1) r
noncomputable def vSs (t : Nat) (l : List String) : List Value := sqS t (l.map Str.ofString)
noncomputable abbrev R (a : Nat) : Value := .ref a
noncomputable def I (n : Nat) : Value := .int n 0
noncomputable def hT (l : List Value) : Obj := { cls := .type "tuple", data := .seq ⟨l⟩ }
noncomputable def hF (l : List Value) : Obj := { cls := .none, data := .fields ⟨l⟩ }
noncomputable def hK (c : String) (l : List Value) : Obj := { cls := .type c, data := .fields ⟨l⟩ }
noncomputable def hEs (P : Params) (l : List (String × Nat × Value)) : List DictEntry := l.map fun x => ⟨PyData.keyHash P (Str.ofString x.1), .str (Str.ofString x.1) x.2.1, x.2.2⟩
noncomputable def hD (P : Params) (l : List (String × Nat × Value)) (n : Nat) : Obj := { cls := .type "dict", data := .dict ⟨hEs P l⟩ n }
noncomputable def cut : String := "/claim/cut.py"
noncomputable def hC (t : Nat) (n : String) (line a b : Nat) : Obj := hK "code" [vS n t, vS n (t + 1), vS cut (t + 2), I line, I 0, I 0, I 0, I 0, R a, .bool false, I 181, R b, .none, .none, .none, .none, I (t + 3), I line, vS cut (t + 4)]
noncomputable def hM (c l : Nat) (v : Value) : Obj := { cls := .type "frame", slots := ⟨[some (R c), some (R 3), some (R l), none, some v, none, some (R 0)]⟩ }
noncomputable def hY (n : String) (bs mro : List Value) (ns : Nat) (sl : List (Option Value)) : Obj := { cls := .type "type", data := .cls { name := Str.ofString n, bases := bs, mro := mro, ns := ns, qualname := Str.ofString n }, slots := ⟨sl⟩ }
noncomputable def isL : NameKind → Bool
 | .local => true
 | _ => false
noncomputable def lns : List (Str × NameKind) → List Str
 | [] => []
 | (x, k) :: r => match isL k with
  | true => x :: lns r
  | false => lns r
noncomputable def h7 (a t : Nat) (pm : Value) (q : String) (d : Value) : Option Stmt → List Obj
 | some (.FunctionDef n p b _ _ _ sc _ _ pos) => let vs := lns sc.names
  let k := vs.length
  [hT [], hF [], hT (sqS (t + 3) vs), hT [], { cls := .none, data := .func { name := n, qualname := Str.ofString q, params := p, body := .stmts b, scope := sc, globals := 0, closure := [], defaults := .none, kwdefaults := .none } },
   hK "code" [.str n t, vS q (t + 1), vS cut (t + 2), I pos.line, I p.args.length, I 0, I 0, I 3, R a, .bool true, I 181, R (a + 1), .none, R (a + 2), R (a + 3), R (a + 4), I (t + k + 3), I pos.line, vS cut (t + k + 4)],
   { cls := .type "function", data := .func { name := n, qualname := Str.ofString q, params := p, body := .stmts b, scope := sc, globals := 3, closure := [], defaults := d, kwdefaults := .none, pyModule := pm, code := R (a + 5) } }]
 | _ => []
noncomputable def h5 (a t : Nat) (pm : Value) (q : String) (d : Value) : Option Stmt → List Obj
 | some (.FunctionDef n p b _ _ _ sc _ _ pos) =>
  [hT [], hF [], { cls := .none, data := .func { name := n, qualname := Str.ofString q, params := p, body := .stmts b, scope := sc, globals := 0, closure := [], defaults := .none, kwdefaults := .none } },
   hK "code" [.str n t, vS q (t + 1), vS cut (t + 2), I pos.line, I p.args.length, I 0, I 0, I 3, R a, .bool true, I 181, R (a + 1), .none, .none, .none, R (a + 2), I (t + 3), I pos.line, vS cut (t + 4)],
   { cls := .type "function", data := .func { name := n, qualname := Str.ofString q, params := p, body := .stmts b, scope := sc, globals := 3, closure := [], defaults := d, kwdefaults := .none, pyModule := pm, code := R (a + 3) } }]
 | _ => []
noncomputable def seg1 (P : Params) : List Obj :=
 h7 15 187 (vS "__main__" 164) "_wall" .none (stm 0) ++ ([hT [], hK "builtin_function_or_method" [(.builtin "type.__prepare__"), (.type "type")], hD P [("__module__", 203, (vS "emacs.parsestate" 194)), ("__qualname__", 205, (vS "ParseState" 204)), ("__firstlineno__", 207, (.int 5 206)), ("__init__", 231, (R 37)), ("depth", 238, (R 44)), ("innermost", 245, (R 51)), ("is_plain", 252, (R 58)), ("items", 260, (R 65)), ("__static_attributes__", 273, (R 66))] 9, hT [], hF [(I 7), (I 4), (R 36), (I 21), (I 4), (R 43), (I 24), (I 4), (R 50), (I 27), (I 4), (R 57), (I 30), (I 4), (R 64)], hC 198 "ParseState" 5 25 26, hM 27 24 (vS "emacs.parsestate" 194), hT [], hT [(R 29), (.int 0 208), (.int 0 209), .none, .none, .none, (.int 0 210), (vS "" 211), (.bool false), .none, (.bool false), (vS "" 212)]] ++ (h7 31 213 (vS "emacs.parsestate" 194) "ParseState.__init__" (R 30) (mstm 2 0) ++ (h7 38 232 (vS "emacs.parsestate" 194) "ParseState.depth" .none (mstm 2 1) ++ (h7 45 239 (vS "emacs.parsestate" 194) "ParseState.innermost" .none (mstm 2 2) ++ (h7 52 246 (vS "emacs.parsestate" 194) "ParseState.is_plain" .none (mstm 2 3) ++ (h7 59 253 (vS "emacs.parsestate" 194) "ParseState.items" .none (mstm 2 4) ++ ([hT (vSs 261 ["below", "comment", "half", "least", "nests", "opens", "quoted", "start", "string", "style", "whole", "word"]), hD P [("__module__", 203, (vS "emacs.parsestate" 194)), ("__firstlineno__", 207, (.int 5 206)), ("__init__", 231, (R 37)), ("depth", 238, (R 44)), ("innermost", 245, (R 51)), ("is_plain", 252, (R 58)), ("items", 260, (R 65)), ("__static_attributes__", 273, (R 66)), ("__dict__", 275, (R 69)), ("__weakref__", 277, (R 70)), ("__doc__", 278, .none)] 4, hY "ParseState" [(.type "object")] [(R 68), (.type "object")] 67 [none, none, some (vS "ParseState" 196), some (vS "ParseState" 204), some (.builtin "object.__new__"), some (.bool true)], hK "getset_descriptor" [(vS "__dict__" 274), (R 68), (.builtin "function.__dict__"), (.builtin "function.__dict__#set")], hK "getset_descriptor" [(vS "__weakref__" 276), (R 68), (.builtin "ExceptionGroup.__weakref__"), .none], hK "super" [(R 68), (R 68), (R 68)], hK "builtin_function_or_method" [(.builtin "object.__init_subclass__"), (R 68)]] ++ (h7 73 281 (vS "emacs.parsestate" 194) "state_of" .none (stm 3) ++ ([hT [(.type "Exception")], hK "builtin_function_or_method" [(.builtin "type.__prepare__"), (.type "type")], hD P [("__module__", 309, (vS "emacs.errors" 300)), ("__qualname__", 311, (vS "LispSignal" 310)), ("__firstlineno__", 313, (.int 37 312)), ("__init__", 322, (R 93)), ("__static_attributes__", 325, (R 94))] 5, hT [], hF [(I 39), (I 4), (R 92)], hC 304 "LispSignal" 37 83 84, hM 85 82 (vS "emacs.errors" 300)] ++ (h7 87 314 (vS "emacs.errors" 300) "LispSignal.__init__" .none (mstm 5 0) ++ ([hT (vSs 323 ["data", "symbol"]), hD P [("__module__", 309, (vS "emacs.errors" 300)), ("__firstlineno__", 313, (.int 37 312)), ("__init__", 322, (R 93)), ("__static_attributes__", 325, (R 94)), ("__weakref__", 327, (R 97)), ("__doc__", 328, .none)] 3, hY "LispSignal" [(.type "Exception")] [(R 96), (.type "Exception"), (.type "BaseException"), (.type "object")] 95 [some (R 80), none, some (vS "LispSignal" 302), some (vS "LispSignal" 310), some (.builtin "Exception.__new__"), some (.bool true)], hK "getset_descriptor" [(vS "__weakref__" 326), (R 96), (.builtin "ExceptionGroup.__weakref__"), .none], hK "super" [(R 96), (R 96), (R 96)], hK "builtin_function_or_method" [(.builtin "object.__init_subclass__"), (R 96)]])))))))))))
noncomputable def seg2 (P : Params) : List Obj :=
 [hT [], hK "builtin_function_or_method" [(.builtin "type.__prepare__"), (.type "type")], hD P [("__module__", 378, (vS "emacs.syntax" 333)), ("__qualname__", 380, (vS "Syntax" 379)), ("__firstlineno__", 382, (.int 61 381)), ("__init__", 392, (R 113)), ("has", 400, (R 120)), ("is_escape", 407, (R 127)), ("is_word_part", 414, (R 134)), ("style", 421, (R 141)), ("__static_attributes__", 425, (R 142))] 9, hT [], hF [(I 63), (I 4), (R 112), (I 68), (I 4), (R 119), (I 71), (I 4), (R 126), (I 74), (I 4), (R 133), (I 77), (I 4), (R 140)], hC 373 "Syntax" 61 103 104, hM 105 102 (vS "emacs.syntax" 333)] ++ (h7 107 383 (vS "emacs.syntax" 333) "Syntax.__init__" .none (mstm 25 0) ++ (h7 114 393 (vS "emacs.syntax" 333) "Syntax.has" .none (mstm 25 1) ++ (h7 121 401 (vS "emacs.syntax" 333) "Syntax.is_escape" .none (mstm 25 2) ++ (h7 128 408 (vS "emacs.syntax" 333) "Syntax.is_word_part" .none (mstm 25 3) ++ (h7 135 415 (vS "emacs.syntax" 333) "Syntax.style" .none (mstm 25 4) ++ ([hT (vSs 422 ["flags", "kind", "match"]), hD P [("__module__", 378, (vS "emacs.syntax" 333)), ("__firstlineno__", 382, (.int 61 381)), ("__init__", 392, (R 113)), ("has", 400, (R 120)), ("is_escape", 407, (R 127)), ("is_word_part", 414, (R 134)), ("style", 421, (R 141)), ("__static_attributes__", 425, (R 142)), ("__dict__", 427, (R 145)), ("__weakref__", 429, (R 146)), ("__doc__", 430, .none)] 4, hY "Syntax" [(.type "object")] [(R 144), (.type "object")] 143 [none, none, some (vS "Syntax" 371), some (vS "Syntax" 379), some (.builtin "object.__new__"), some (.bool true)], hK "getset_descriptor" [(vS "__dict__" 426), (R 144), (.builtin "function.__dict__"), (.builtin "function.__dict__#set")], hK "getset_descriptor" [(vS "__weakref__" 428), (R 144), (.builtin "ExceptionGroup.__weakref__"), .none], hK "super" [(R 144), (R 144), (R 144)], hK "builtin_function_or_method" [(.builtin "object.__init_subclass__"), (R 144)]] ++ (h5 149 433 (vS "emacs.syntax" 333) "sorted_flags" .none (stm 26) ++ (h5 154 439 (vS "emacs.syntax" 333) "read_syntax" .none (stm 27) ++ ([hT [], hK "builtin_function_or_method" [(.builtin "type.__prepare__"), (.type "type")], hD P [("__module__", 452, (vS "emacs.syntax" 333)), ("__qualname__", 454, (vS "SyntaxTable" 453)), ("__firstlineno__", 456, (.int 90 455)), ("__init__", 464, (R 173)), ("modify", 473, (R 180)), ("modify_all", 484, (R 187)), ("modify_range", 494, (R 194)), ("own", 503, (R 201)), ("at", 513, (R 208)), ("kind_of", 521, (R 215)), ("copy", 528, (R 222)), ("__static_attributes__", 531, (R 223))] 12, hT [], hF [(I 92), (I 4), (R 172), (I 96), (I 4), (R 179), (I 99), (I 4), (R 186), (I 104), (I 4), (R 193), (I 107), (I 4), (R 200), (I 111), (I 4), (R 207), (I 120), (I 4), (R 214), (I 123), (I 4), (R 221)], hC 447 "SyntaxTable" 90 162 163, hM 164 161 (vS "emacs.syntax" 333), hT [.none]] ++ (h7 167 457 (vS "emacs.syntax" 333) "SyntaxTable.__init__" (R 166) (mstm 28 0) ++ (h7 174 465 (vS "emacs.syntax" 333) "SyntaxTable.modify" .none (mstm 28 1) ++ (h7 181 474 (vS "emacs.syntax" 333) "SyntaxTable.modify_all" .none (mstm 28 2) ++ (h7 188 485 (vS "emacs.syntax" 333) "SyntaxTable.modify_range" .none (mstm 28 3) ++ (h7 195 495 (vS "emacs.syntax" 333) "SyntaxTable.own" .none (mstm 28 4) ++ (h7 202 504 (vS "emacs.syntax" 333) "SyntaxTable.at" .none (mstm 28 5) ++ (h7 209 514 (vS "emacs.syntax" 333) "SyntaxTable.kind_of" .none (mstm 28 6) ++ (h7 216 522 (vS "emacs.syntax" 333) "SyntaxTable.copy" .none (mstm 28 7) ++ ([hT (vSs 529 ["parent", "rows"]), hD P [("__module__", 452, (vS "emacs.syntax" 333)), ("__firstlineno__", 456, (.int 90 455)), ("__init__", 464, (R 173)), ("modify", 473, (R 180)), ("modify_all", 484, (R 187)), ("modify_range", 494, (R 194)), ("own", 503, (R 201)), ("at", 513, (R 208)), ("kind_of", 521, (R 215)), ("copy", 528, (R 222)), ("__static_attributes__", 531, (R 223)), ("__dict__", 533, (R 226)), ("__weakref__", 535, (R 227)), ("__doc__", 536, .none)] 4, hY "SyntaxTable" [(.type "object")] [(R 225), (.type "object")] 224 [none, none, some (vS "SyntaxTable" 445), some (vS "SyntaxTable" 453), some (.builtin "object.__new__"), some (.bool true)], hK "getset_descriptor" [(vS "__dict__" 532), (R 225), (.builtin "function.__dict__"), (.builtin "function.__dict__#set")], hK "getset_descriptor" [(vS "__weakref__" 534), (R 225), (.builtin "ExceptionGroup.__weakref__"), .none], hK "super" [(R 225), (R 225), (R 225)], hK "builtin_function_or_method" [(.builtin "object.__init_subclass__"), (R 225)]] ++ (h7 230 539 (vS "emacs.syntax" 333) "letters" .none (stm 29) ++ (h7 237 545 (vS "emacs.syntax" 333) "standard_table" .none (stm 30) ++ (h7 244 554 (vS "emacs.syntax" 333) "lisp_table" .none (stm 31) ++ ([hT [], hK "builtin_function_or_method" [(.builtin "type.__prepare__"), (.type "type")], hD P [("__module__", 570, (vS "emacs.syntaxpairs" 561)), ("__qualname__", 572, (vS "Mark" 571)), ("__firstlineno__", 574, (.int 150 573)), ("__init__", 585, (R 264)), ("__static_attributes__", 590, (R 265))] 5, hT [], hF [(I 152), (I 4), (R 263)], hC 565 "Mark" 150 254 255, hM 256 253 (vS "emacs.syntaxpairs" 561)] ++ (h7 258 575 (vS "emacs.syntaxpairs" 561) "Mark.__init__" .none (mstm 33 0) ++ ([hT (vSs 586 ["is_fence", "length", "nests", "style"]), hD P [("__module__", 570, (vS "emacs.syntaxpairs" 561)), ("__firstlineno__", 574, (.int 150 573)), ("__init__", 585, (R 264)), ("__static_attributes__", 590, (R 265)), ("__dict__", 592, (R 268)), ("__weakref__", 594, (R 269)), ("__doc__", 595, .none)] 4, hY "Mark" [(.type "object")] [(R 267), (.type "object")] 266 [none, none, some (vS "Mark" 563), some (vS "Mark" 571), some (.builtin "object.__new__"), some (.bool true)], hK "getset_descriptor" [(vS "__dict__" 591), (R 267), (.builtin "function.__dict__"), (.builtin "function.__dict__#set")], hK "getset_descriptor" [(vS "__weakref__" 593), (R 267), (.builtin "ExceptionGroup.__weakref__"), .none], hK "super" [(R 267), (R 267), (R 267)], hK "builtin_function_or_method" [(.builtin "object.__init_subclass__"), (R 267)]] ++ (h7 272 598 (vS "emacs.syntaxpairs" 561) "syntax_at" .none (stm 34) ++ (h7 279 608 (vS "emacs.syntaxpairs" 561) "pair_style" .none (stm 35) ++ (h7 286 617 (vS "emacs.syntaxpairs" 561) "begin_mark" .none (stm 36) ++ (h7 293 628 (vS "emacs.syntaxpairs" 561) "end_mark" .none (stm 37) ++ (h7 300 639 (vS "emacs.syntaxpairs" 561) "fits" .none (stm 38) ++ (h7 307 649 (vS "emacs.syntaxpairs" 561) "is_quoted" .none (stm 39)))))))))))))))))))))))))))))))
noncomputable def seg3 (P : Params) : List Obj :=
 [hT [], hK "builtin_function_or_method" [(.builtin "type.__prepare__"), (.type "type")], hD P [("__module__", 669, (vS "emacs.parse" 660)), ("__qualname__", 671, (vS "Walk" 670)), ("__firstlineno__", 673, (.int 193 672)), ("__init__", 684, (R 327)), ("state", 692, (R 334)), ("depth", 699, (R 341)), ("end_word", 706, (R 348)), ("begin_word", 713, (R 355)), ("open_at", 721, (R 362)), ("close", 728, (R 369)), ("begin_comment", 737, (R 376)), ("leave_comment", 744, (R 383)), ("begin_string", 752, (R 390)), ("end_string", 759, (R 397)), ("take", 769, (R 404)), ("step_in_comment", 779, (R 411)), ("step_in_string", 788, (R 418)), ("finish_half", 796, (R 425)), ("step_plain", 807, (R 432)), ("step_by_kind", 815, (R 439)), ("step", 823, (R 446)), ("__static_attributes__", 839, (R 447))] 22, hT [], hF [(I 195), (I 4), (R 326), (I 212), (I 4), (R 333), (I 216), (I 4), (R 340), (I 219), (I 4), (R 347), (I 224), (I 4), (R 354), (I 228), (I 4), (R 361), (I 233), (I 4), (R 368), (I 242), (I 4), (R 375), (I 249), (I 4), (R 382), (I 258), (I 4), (R 389), (I 263), (I 4), (R 396), (I 268), (I 4), (R 403), (I 276), (I 4), (R 410), (I 289), (I 4), (R 417), (I 300), (I 4), (R 424), (I 311), (I 4), (R 431), (I 329), (I 4), (R 438), (I 346), (I 4), (R 445)], hC 664 "Walk" 193 317 318, hM 319 316 (vS "emacs.parse" 660)] ++ (h7 321 674 (vS "emacs.parse" 660) "Walk.__init__" .none (mstm 41 0) ++ (h7 328 685 (vS "emacs.parse" 660) "Walk.state" .none (mstm 41 1) ++ (h7 335 693 (vS "emacs.parse" 660) "Walk.depth" .none (mstm 41 2) ++ (h7 342 700 (vS "emacs.parse" 660) "Walk.end_word" .none (mstm 41 3) ++ (h7 349 707 (vS "emacs.parse" 660) "Walk.begin_word" .none (mstm 41 4) ++ (h7 356 714 (vS "emacs.parse" 660) "Walk.open_at" .none (mstm 41 5) ++ (h7 363 722 (vS "emacs.parse" 660) "Walk.close" .none (mstm 41 6) ++ (h7 370 729 (vS "emacs.parse" 660) "Walk.begin_comment" .none (mstm 41 7) ++ (h7 377 738 (vS "emacs.parse" 660) "Walk.leave_comment" .none (mstm 41 8) ++ (h7 384 745 (vS "emacs.parse" 660) "Walk.begin_string" .none (mstm 41 9) ++ (h7 391 753 (vS "emacs.parse" 660) "Walk.end_string" .none (mstm 41 10) ++ (h7 398 760 (vS "emacs.parse" 660) "Walk.take" .none (mstm 41 11) ++ (h7 405 770 (vS "emacs.parse" 660) "Walk.step_in_comment" .none (mstm 41 12) ++ (h7 412 780 (vS "emacs.parse" 660) "Walk.step_in_string" .none (mstm 41 13) ++ (h7 419 789 (vS "emacs.parse" 660) "Walk.finish_half" .none (mstm 41 14) ++ (h7 426 797 (vS "emacs.parse" 660) "Walk.step_plain" .none (mstm 41 15) ++ (h7 433 808 (vS "emacs.parse" 660) "Walk.step_by_kind" .none (mstm 41 16) ++ (h7 440 816 (vS "emacs.parse" 660) "Walk.step" .none (mstm 41 17) ++ ([hT (vSs 824 ["below", "comment", "half", "least", "nests", "opens", "place", "quoted", "start", "string", "style", "table", "view", "whole", "word"]), hD P [("__module__", 669, (vS "emacs.parse" 660)), ("__firstlineno__", 673, (.int 193 672)), ("__init__", 684, (R 327)), ("state", 692, (R 334)), ("depth", 699, (R 341)), ("end_word", 706, (R 348)), ("begin_word", 713, (R 355)), ("open_at", 721, (R 362)), ("close", 728, (R 369)), ("begin_comment", 737, (R 376)), ("leave_comment", 744, (R 383)), ("begin_string", 752, (R 390)), ("end_string", 759, (R 397)), ("take", 769, (R 404)), ("step_in_comment", 779, (R 411)), ("step_in_string", 788, (R 418)), ("finish_half", 796, (R 425)), ("step_plain", 807, (R 432)), ("step_by_kind", 815, (R 439)), ("step", 823, (R 446)), ("__static_attributes__", 839, (R 447)), ("__dict__", 841, (R 450)), ("__weakref__", 843, (R 451)), ("__doc__", 844, .none)] 4, hY "Walk" [(.type "object")] [(R 449), (.type "object")] 448 [none, none, some (vS "Walk" 662), some (vS "Walk" 670), some (.builtin "object.__new__"), some (.bool true)], hK "getset_descriptor" [(vS "__dict__" 840), (R 449), (.builtin "function.__dict__"), (.builtin "function.__dict__#set")], hK "getset_descriptor" [(vS "__weakref__" 842), (R 449), (.builtin "ExceptionGroup.__weakref__"), .none], hK "super" [(R 449), (R 449), (R 449)], hK "builtin_function_or_method" [(.builtin "object.__init_subclass__"), (R 449)]] ++ (h7 454 849 (vS "emacs.comments" 847) "comment_end" .none (stm 43) ++ (h7 461 859 (vS "emacs.comments" 847) "spans_to" .none (stm 44) ++ ([hT [], hK "builtin_function_or_method" [(.builtin "type.__prepare__"), (.type "type")], hD P [("__module__", 887, (vS "emacs.scans" 874)), ("__qualname__", 889, (vS "Scan" 888)), ("__firstlineno__", 891, (.int 378 890)), ("__init__", 903, (R 481)), ("counts", 910, (R 488)), ("lost", 917, (R 495)), ("deeper", 924, (R 502)), ("shallower", 932, (R 509)), ("pair", 940, (R 516)), ("__static_attributes__", 950, (R 517))] 10, hT [], hF [(I 380), (I 4), (R 480), (I 391), (I 4), (R 487), (I 394), (I 4), (R 494), (I 397), (I 4), (R 501), (I 401), (I 4), (R 508), (I 407), (I 4), (R 515)], hC 882 "Scan" 378 471 472, hM 473 470 (vS "emacs.scans" 874)] ++ (h7 475 892 (vS "emacs.scans" 874) "Scan.__init__" .none (mstm 48 0) ++ (h7 482 904 (vS "emacs.scans" 874) "Scan.counts" .none (mstm 48 1) ++ (h7 489 911 (vS "emacs.scans" 874) "Scan.lost" .none (mstm 48 2) ++ (h7 496 918 (vS "emacs.scans" 874) "Scan.deeper" .none (mstm 48 3) ++ (h7 503 925 (vS "emacs.scans" 874) "Scan.shallower" .none (mstm 48 4) ++ (h7 510 933 (vS "emacs.scans" 874) "Scan.pair" .none (mstm 48 5) ++ ([hT (vSs 941 ["depth", "good", "is_done", "is_expression", "is_paired", "least", "place", "table", "view"]), hD P [("__module__", 887, (vS "emacs.scans" 874)), ("__firstlineno__", 891, (.int 378 890)), ("__init__", 903, (R 481)), ("counts", 910, (R 488)), ("lost", 917, (R 495)), ("deeper", 924, (R 502)), ("shallower", 932, (R 509)), ("pair", 940, (R 516)), ("__static_attributes__", 950, (R 517)), ("__dict__", 952, (R 520)), ("__weakref__", 954, (R 521)), ("__doc__", 955, .none)] 4, hY "Scan" [(.type "object")] [(R 519), (.type "object")] 518 [none, none, some (vS "Scan" 880), some (vS "Scan" 888), some (.builtin "object.__new__"), some (.bool true)], hK "getset_descriptor" [(vS "__dict__" 951), (R 519), (.builtin "function.__dict__"), (.builtin "function.__dict__#set")], hK "getset_descriptor" [(vS "__weakref__" 953), (R 519), (.builtin "ExceptionGroup.__weakref__"), .none], hK "super" [(R 519), (R 519), (R 519)], hK "builtin_function_or_method" [(.builtin "object.__init_subclass__"), (R 519)]])))))))))))))))))))))))))))))
noncomputable def seg4 (P : Params) : List Obj :=
 h7 524 958 (vS "emacs.scans" 874) "string_end" .none (stm 49) ++ (h7 531 971 (vS "emacs.scans" 874) "word_end" .none (stm 50) ++ (h7 538 981 (vS "emacs.scans" 874) "step_forward" .none (stm 51) ++ (h7 545 992 (vS "emacs.scans" 874) "take_kind" .none (stm 52) ++ (h7 552 1002 (vS "emacs.scans" 874) "forward_one" .none (stm 53) ++ (h7 559 1014 (vS "emacs.scans" 874) "string_begin" .none (stm 54) ++ (h7 566 1027 (vS "emacs.scans" 874) "word_begin" .none (stm 55) ++ (h7 573 1038 (vS "emacs.scans" 874) "step_backward" .none (stm 56) ++ (h7 580 1052 (vS "emacs.scans" 874) "backward_one" .none (stm 57) ++ (h7 587 1066 (vS "emacs.scans" 874) "scan_by" .none (stm 58) ++ (h7 594 1078 (vS "emacs.scans" 874) "scan_sexps" .none (stm 59) ++ (h7 601 1092 (vS "emacs.sexps" 1088) "are_pair" .none (stm 62) ++ (h7 608 1104 (vS "emacs.sexps" 1088) "first_unbalanced" .none (stm 63) ++ (h7 615 1116 (vS "emacs.sexps" 1088) "defun_starts" .none (stm 64) ++ (h5 622 1128 (vS "emacs.sexps" 1088) "defun_start" .none (stm 65) ++ (h7 627 1134 (vS "emacs.sexps" 1088) "line_behind" .none (stm 66) ++ (h5 634 1143 (vS "emacs.sexps" 1088) "defun_end" .none (stm 67) ++ ([hT [], hK "builtin_function_or_method" [(.builtin "type.__prepare__"), (.type "type")], hD P [("__module__", 1158, (vS "emacs.textrow" 1149)), ("__qualname__", 1160, (vS "TextRow" 1159)), ("__firstlineno__", 1162, (.int 594 1161)), ("__init__", 1172, (R 653)), ("begin", 1179, (R 660)), ("end", 1186, (R 667)), ("code_at", 1194, (R 674)), ("__static_attributes__", 1197, (R 675))] 8, hT [], hF [(I 596), (I 4), (R 652), (I 600), (I 4), (R 659), (I 603), (I 4), (R 666), (I 606), (I 4), (R 673)], hC 1153 "TextRow" 594 642 643, hM 644 641 (vS "emacs.textrow" 1149), hT [(.int 1 1163)]] ++ (h7 647 1164 (vS "emacs.textrow" 1149) "TextRow.__init__" (R 646) (mstm 69 0) ++ (h7 654 1173 (vS "emacs.textrow" 1149) "TextRow.begin" .none (mstm 69 1) ++ (h7 661 1180 (vS "emacs.textrow" 1149) "TextRow.end" .none (mstm 69 2) ++ (h7 668 1187 (vS "emacs.textrow" 1149) "TextRow.code_at" .none (mstm 69 3) ++ ([hT (vSs 1195 ["codes", "place"]), hD P [("__module__", 1158, (vS "emacs.textrow" 1149)), ("__firstlineno__", 1162, (.int 594 1161)), ("__init__", 1172, (R 653)), ("begin", 1179, (R 660)), ("end", 1186, (R 667)), ("code_at", 1194, (R 674)), ("__static_attributes__", 1197, (R 675)), ("__dict__", 1199, (R 678)), ("__weakref__", 1201, (R 679)), ("__doc__", 1202, .none)] 4, hY "TextRow" [(.type "object")] [(R 677), (.type "object")] 676 [none, none, some (vS "TextRow" 1151), some (vS "TextRow" 1159), some (.builtin "object.__new__"), some (.bool true)], hK "getset_descriptor" [(vS "__dict__" 1198), (R 677), (.builtin "function.__dict__"), (.builtin "function.__dict__#set")], hK "getset_descriptor" [(vS "__weakref__" 1200), (R 677), (.builtin "ExceptionGroup.__weakref__"), .none], hK "super" [(R 677), (R 677), (R 677)], hK "builtin_function_or_method" [(.builtin "object.__init_subclass__"), (R 677)]] ++ (h5 682 1207 (vS "law_pq0299_01" 1205) "_law_deck" .none (stm 71) ++ (h7 687 1213 (vS "law_pq0299_01" 1205) "_law_draw" .none (stm 72) ++ (h5 694 1223 (vS "law_pq0299_01" 1205) "_law_many" .none (stm 73) ++ (h5 699 1229 (vS "law_pq0299_01" 1205) "_law_text" .none (stm 74) ++ (h7 704 1235 (vS "law_pq0299_01" 1205) "_law_signs" .none (stm 75) ++ (h7 711 1245 (vS "law_pq0299_01" 1205) "_law_due" .none (stm 76) ++ (h7 718 1258 (vS "law_pq0299_01" 1205) "_law_behind" .none (stm 77) ++ (h5 725 1267 (vS "law_pq0299_01" 1205) "_law_defuns_right" .none (stm 78) ++ (h5 730 1273 (vS "law_pq0299_01" 1205) "law" .none (stm 79))))))))))))))))))))))))))))))))
noncomputable def ents : List (String × Nat × Value) := [("__name__", 165, (vS "law_pq0299_01" 1205)), ("__doc__", 166, .none), ("__package__", 167, .none), ("__loader__", 168, (.builtin "__main__.__loader__#opaque")), ("__spec__", 169, .none), ("__annotations__", 170, (R 6)), ("__builtins__", 171, (R 4)), ("__file__", 173, (vS "/claim/cut.py" 172)), ("__cached__", 174, .none), ("_wall", 193, (R 21)), ("ParseState", 280, (R 68)), ("state_of", 299, (R 79)), ("LispSignal", 332, (R 96)), ("WHITESPACE", 336, (vS " " 335)), ("WORD", 338, (vS "w" 337)), ("SYMBOL", 340, (vS "_" 339)), ("PUNCTUATION", 342, (vS "." 341)), ("OPENS", 344, (vS "(" 343)), ("CLOSES", 346, (vS ")" 345)), ("PREFIX", 348, (vS "'" 347)), ("STRING", 350, (vS "\"" 349)), ("ESCAPE", 352, (vS "\\" 351)), ("QUOTES", 354, (vS "/" 353)), ("PAIRED", 356, (vS "$" 355)), ("BEGINS", 358, (vS "<" 357)), ("ENDS", 360, (vS ">" 359)), ("INHERITS", 362, (vS "@" 361)), ("COMMENT_FENCE", 364, (vS "!" 363)), ("STRING_FENCE", 366, (vS "|" 365)), ("KINDS", 368, (vS " w_.()'\"\\/$<>@!|" 367)), ("FLAGS", 370, (vS "1234bcnp" 369)), ("Syntax", 432, (R 144)), ("sorted_flags", 438, (R 153)), ("read_syntax", 444, (R 158)), ("SyntaxTable", 538, (R 225)), ("letters", 544, (R 236)), ("standard_table", 553, (R 243)), ("lisp_table", 560, (R 250)), ("Mark", 597, (R 267)), ("syntax_at", 607, (R 278)), ("pair_style", 616, (R 285)), ("begin_mark", 627, (R 292)), ("end_mark", 638, (R 299)), ("fits", 648, (R 306)), ("is_quoted", 659, (R 313)), ("Walk", 846, (R 449)), ("comment_end", 858, (R 460)), ("spans_to", 873, (R 467)), ("ENDS_TOO_SOON", 877, (vS "Containing expression ends prematurely" 876)), ("UNBALANCED", 879, (vS "Unbalanced parentheses" 878)), ("Scan", 957, (R 519)), ("string_end", 970, (R 530)), ("word_end", 980, (R 537)), ("step_forward", 991, (R 544)), ("take_kind", 1001, (R 551)), ("forward_one", 1013, (R 558)), ("string_begin", 1026, (R 565)), ("word_begin", 1037, (R 572)), ("step_backward", 1051, (R 579)), ("backward_one", 1065, (R 586)), ("scan_by", 1077, (R 593)), ("scan_sexps", 1087, (R 600)), ("NEW_LINE", 1091, (.int 10 1090)), ("are_pair", 1103, (R 607)), ("first_unbalanced", 1115, (R 614)), ("defun_starts", 1127, (R 621)), ("defun_start", 1133, (R 626)), ("line_behind", 1142, (R 633)), ("defun_end", 1148, (R 638)), ("TextRow", 1204, (R 677)), ("_law_deck", 1212, (R 686)), ("_law_draw", 1222, (R 693)), ("_law_many", 1228, (R 698)), ("_law_text", 1234, (R 703)), ("_law_signs", 1244, (R 710)), ("_law_due", 1257, (R 717)), ("_law_behind", 1266, (R 724)), ("_law_defuns_right", 1272, (R 729)), ("law", 1278, (R 734))]
noncomputable def flds : List Value := [(I 1), (I 0), (R 20), (I 5), (I 0), (R 27), (I 33), (I 0), (R 78), (I 37), (I 0), (R 85), (I 61), (I 0), (R 105), (I 79), (I 0), (R 152), (I 81), (I 0), (R 157), (I 90), (I 0), (R 164), (I 125), (I 0), (R 235), (I 127), (I 0), (R 242), (I 139), (I 0), (R 249), (I 150), (I 0), (R 256), (I 157), (I 0), (R 277), (I 160), (I 0), (R 284), (I 163), (I 0), (R 291), (I 172), (I 0), (R 298), (I 181), (I 0), (R 305), (I 185), (I 0), (R 312), (I 193), (I 0), (R 319), (I 356), (I 0), (R 459), (I 364), (I 0), (R 466), (I 378), (I 0), (R 473), (I 414), (I 0), (R 529), (I 424), (I 0), (R 536), (I 435), (I 0), (R 543), (I 461), (I 0), (R 550), (I 468), (I 0), (R 557), (I 479), (I 0), (R 564), (I 489), (I 0), (R 571), (I 499), (I 0), (R 578), (I 525), (I 0), (R 585), (I 537), (I 0), (R 592), (I 547), (I 0), (R 599), (I 551), (I 0), (R 606), (I 556), (I 0), (R 613), (I 568), (I 0), (R 620), (I 577), (I 0), (R 625), (I 580), (I 0), (R 632), (I 585), (I 0), (R 637), (I 594), (I 0), (R 644), (I 611), (I 0), (R 685), (I 614), (I 0), (R 692), (I 625), (I 0), (R 697), (I 630), (I 0), (R 702), (I 634), (I 0), (R 709), (I 645), (I 0), (R 716), (I 660), (I 0), (R 723), (I 665), (I 0), (R 728), (I 684), (I 0), (R 733)]
noncomputable abbrev pw : Program := PySem.Challenge.pw_pq0299_01
noncomputable abbrev rw1 : OpenLaw := PySem.Challenge.rw_pq0299_01
noncomputable abbrev bod : List Stmt := behindTheImports pw
noncomputable def env0 : Env := { scope := pw.main.scope, locals := mainNs, globals := mainNs, cells := [], code := R 13, frame := some 14 }
noncomputable abbrev cd0 : Code := Code.body bod env0
noncomputable def o2 (P : Params) : Obj := { cls := .none, data := .dict ⟨hEs P [("type.__subclasses__.Exception.0", 329, .int 96 0), ("type.__subclasses__.Exception.n", 330, .int 1 0)]⟩ 2 }
noncomputable def o13 : Obj := hK "code" [vS "<module>" 182, vS "<module>" 183, vS cut 184, I 1, I 0, I 0, I 0, I 0, R 11, .bool false, I 181, R 12, .none, .none, .none, .none, I 185, I 1, vS cut 186]
noncomputable def base (P : Params) (o2' o3' : Obj) (n : Nat) (l : List Obj) : List Obj :=
 boot_o_0 P :: boot_o_1 P :: o2' :: o3' :: boot_o_4 P :: boot_o_5 P :: boot_o_6 P :: boot_o_7 P :: boot_o_8 P :: boot_o_9 P :: boot_o_10 P :: hT [] :: hF (flds.take n) :: o13 :: hM 13 3 (vS "__main__" 164) :: l
noncomputable def o3 (P : Params) (nm : Value) (e : Nat) : Obj := hD P (("__name__", 165, nm) :: (ents.tail.take e)) (e + 1)
noncomputable def mkT : List Obj → BT → Nat → BT
 | [], t, _ => t
 | o :: r, t, n => mkT r (t.ins n o) (n + 1)
noncomputable def t0 (P : Params) : BT := mkT (base P (boot_o_2 P) (boot_o_3 P) 0 []) .nil 0
noncomputable def t1 (P : Params) : BT := mkT (base P (o2 P) (o3 P (vS "emacs.syntax" 333) 30) 12 (seg1 P)) .nil 0
noncomputable def t2 (P : Params) : BT := mkT (base P (o2 P) (o3 P (vS "emacs.parse" 660) 44) 54 (seg1 P ++ seg2 P)) .nil 0
noncomputable def t3 (P : Params) : BT := mkT (base P (o2 P) (o3 P (vS "emacs.scans" 874) 50) 66 (seg1 P ++ (seg2 P ++ seg3 P))) .nil 0
noncomputable def t4 (P : Params) : BT := mkT (base P (o2 P) (o3 P (vS "law_pq0299_01" 1205) 78) 147 (seg1 P ++ (seg2 P ++ (seg3 P ++ seg4 P)))) .nil 0
noncomputable def ST (t : BT) (n k : Nat) (os : OsState) : SharedT := { tree := t, n := n, life := {}, gens := ⟨[]⟩, drawn := {}, toks := k, os := os }
noncomputable abbrev P0 : Pos := ⟨0, 0, 0, 0⟩
noncomputable abbrev P1 : Pos := ⟨60, 0, 60, 5⟩
noncomputable abbrev P2 : Pos := ⟨192, 0, 192, 8⟩
noncomputable abbrev P3 : Pos := ⟨378, 0, 413, 35⟩
noncomputable abbrev P4 : Pos := ⟨684, 0, 692, 60⟩
noncomputable def b1 : List Stmt := bod.take 25
noncomputable def b2 : List Stmt := (bod.drop 25).take 16
noncomputable def b3 : List Stmt := (bod.drop 41).take 8
noncomputable def b4 : List Stmt := bod.drop 49
noncomputable abbrev run (w : World) (b : List Stmt) (s : SharedT) (p : Pos) := segRunT treeTable pw w 11 (some (R 6)) 1 2000 s (piecesOf b env0 cd0 p [topFrame P0])
theorem h_r1 (w : World) (os : OsState) : run w b1 (ST (t0 w.params) 15 187 os) P0 = some (.next, ST (t1 w.params) 100 371 os, cd0, P1) := by kernel_rfl
theorem h_r2 (w : World) (os : OsState) : run w b2 (ST (t1 w.params) 100 371 os) P1 = some (.next, ST (t2 w.params) 314 662 os, cd0, P2) := by kernel_rfl
theorem h_r3 (w : World) (os : OsState) : run w b3 (ST (t2 w.params) 314 662 os) P2 = some (.next, ST (t3 w.params) 524 958 os, cd0, P3) := by kernel_rfl
theorem h_r4 (w : World) (os : OsState) : run w b4 (ST (t3 w.params) 524 958 os) P3 = some (.next, ST (t4 w.params) 735 1279 os, cd0, P4) := by kernel_rfl
theorem zp8 : opening pw = plainProg pw.main.scope.names := by kernel_rfl
theorem znR (s : Shared) : fenceModules? pw s = some s := by kernel_rfl
theorem zp6 (P : Params) : ((boot_heap P).isNs mainGlobals && (Array.mk ([] : List GenState)).size == 0, (boot_heap P).objs.size, (boot_heap P).nsMap mainGlobals "__annotations__") = (true, 11, some (Value.ref 6)) := by kernel_rfl
theorem zsE (w : World) (os : OsState) : topGo treeTable pw w 11 (some (R 6)) 12 ⟨boot_heap w.params, Array.mk [], boot_drawn, boot_toks, os⟩ (topStub pw) = some ((ST (t0 w.params) 15 187 os).abs, ⟨denote treeTable cd0, cd0, P0, [topFrame P0]⟩) := by kernel_rfl
theorem zsL (w : World) (os : OsState) : segRun treeTable pw w 11 (some (R 6)) 1 1 (ST (t0 w.params) 15 187 os).abs (blockOf bod env0 cd0 P0 [topFrame P0]) = some (.next, (ST (t0 w.params) 15 187 os).abs, cd0, P0) := by kernel_rfl
theorem zsK : bod = b1 ++ (b2 ++ (b3 ++ (b4 ++ []))) := by kernel_rfl
theorem zsI {tb : String → Option Builtin} {p : Program} {w : World} {n₀ : Nat} {ann : Option Value} (s : Shared) (c : Code) (q p' : Pos) : topRun tb p w n₀ ann 2 s ⟨doneF .next, c, p', [topFrame q]⟩ = some s := rfl
theorem zsB (w : World) (os : OsState) : topRun treeTable pw w 11 (some (R 6)) (12 + (1 + (2000 + (2000 + (2000 + (2000 + 2)))))) ⟨boot_heap w.params, Array.mk [], boot_drawn, boot_toks, os⟩ (topStub pw) = some (ST (t4 w.params) 735 1279 os).abs := by
 refine go_top (zsE w os) (piece_block (zsL w os) ?_)
 rw [zsK]
 exact piece_app (segRun_of (h_r1 w os)) (piece_app (segRun_of (h_r2 w os)) (piece_app (segRun_of (h_r3 w os)) (piece_app (segRun_of (h_r4 w os)) (piece_nil (zsI _ _ _ _)))))
noncomputable def qw : Program := view pw [0, 2, 3, 5, 7, 8, 9, 10, 11, 12, 13, 14, 15, 16, 17, 18, 19, 20, 21, 22, 23, 24, 25, 26, 27, 28, 29, 30, 31, 33, 34, 35, 36, 37, 38, 39, 41, 43, 44, 46, 47, 48, 49, 50, 51, 52, 53, 54, 55, 56, 57, 58, 59, 61, 62, 63, 64, 65, 66, 67, 69, 71, 72, 73, 74, 75, 76, 77, 78, 79]
noncomputable def hL4 (P : Params) : List Obj := base P (o2 P) (o3 P (vS "law_pq0299_01" 1205) 78) 147 (seg1 P ++ (seg2 P ++ (seg3 P ++ seg4 P)))
noncomputable def hH4 (P : Params) : Heap := ⟨⟨hL4 P⟩, {}⟩
noncomputable def numb : List Obj → Nat → Frag
 | [], _ => []
 | o :: r, n => (n, o) :: numb r (n + 1)
noncomputable def K0 (P : Params) : Frag := (([68, 67, 96, 95, 144, 143, 225, 224, 267, 266, 449, 448, 519, 518, 677, 676] : List Nat).map fun a => (a, (hL4 P).getD a default)) ++ numb (hL4 P) 0
noncomputable def fineB (P : Params) : Bool := (hL4 P).all fun o => !o.isFreed
theorem zp9 (P : Params) : fineB P = true := by kernel_rfl
theorem zsH (P : Params) : (hL4 P).length = 735 := by kernel_rfl
theorem zqB {h : Heap} {a : Nat} {o : Obj} (e : h.objs[a]? = some o) (hf : o.isFreed = false) : h.get? a = some o := by
 unfold Heap.get?
 rw [e]
 obtain ⟨c, d, dt, sl⟩ := o
 cases dt <;> first | rfl | cases hf
theorem zqC {P : Params} {a : Nat} {o : Obj} (e : (hL4 P)[a]? = some o) : (hH4 P).get? a = some o := by
 refine zqB (by simpa [hH4] using e) ?_
 have := List.all_eq_true.mp (zp9 P) o (List.mem_of_getElem? e)
 simpa using this
theorem zfZ : ∀ {l : List Obj} {n a : Nat} {o : Obj}, (a, o) ∈ numb l n → n ≤ a ∧ l[a - n]? = some o
 | [], _, _, _, h => by cases h
 | o' :: r, n, a, o, h => by
  rcases List.mem_cons.mp h with e | e
  ·cases e
   exact ⟨Nat.le_refl _, by rw [Nat.sub_self]; rfl⟩
  ·obtain ⟨h1, h2⟩ := zfZ e
   refine ⟨by omega, ?_⟩
   rw [show a - n = (a - (n + 1)) + 1 by omega]
   exact h2
noncomputable abbrev mods0 : List Str := importedModules pw.main.body
noncomputable abbrev Xt0 : Shared → Bool := fun s => xlAt qw [] s && recOk (RowW.records rw1.row.toRowW) s
noncomputable abbrev loose0 : List Str := [Str.ofString "ParseState"]
noncomputable abbrev s4 (w : World) (os : OsState) : Shared := ⟨hH4 w.params, ⟨[]⟩, {}, 1279, os⟩
theorem zsN (w : World) (os : OsState) : (ST (t4 w.params) 735 1279 os).abs = s4 w os := by kernel_rfl
theorem h_l1 (w : World) (os : OsState) : (staticsOk mods0 (boot_heap w.params) (hH4 w.params) && namesBound pw (hH4 w.params) && gensDone (s4 w os) && laidKept (boot_heap w.params) (hH4 w.params)) = true := by kernel_rfl
theorem h_a (w : World) (os : OsState) : seen ((recsOf qw).map (·.name)) (ownsOf qw) [] { s4 w os with gens := #[] } = expectedOf qw := by kernel_rfl
theorem h_b (P : Params) : (hH4 P).bltView = bltViewBooted := by kernel_rfl
theorem h_c1 (P : Params) : (hH4 P).keysOk (looseW qw loose0) ((recsOf qw).map (·.name)) ((litsOf qw).map (·.1)) ((clssOf qw (looseW qw loose0)).map (·.name)) = true := by kernel_rfl
theorem h_c2 (P : Params) : (hH4 P).accountedOkI mods0 = true := by kernel_rfl
theorem zsG (P : Params) : (hH4 P).isNs mainGlobals = true := by kernel_rfl
theorem zsF (P : Params) : (hH4 P).isNs builtinsNs = true := by kernel_rfl
theorem h_c3 (w : World) (os : OsState) : (tablesOk qw (hH4 w.params) && Xt0 (s4 w os)) = true := by kernel_rfl
theorem h_d (w : World) (os : OsState) : tabsOk qw (s4 w os) = true := by kernel_rfl
theorem h_e (w : World) (os : OsState) : pinSeenD qw (drecsOf qw) (s4 w os) = pinGoodD (drecsOf qw) := by kernel_rfl
theorem h_f (w : World) (os : OsState) : plainSeenE qw (looseW qw loose0) (s4 w os) = plainGoodE qw (looseW qw loose0) := by kernel_rfl
theorem h_g (w : World) (os : OsState) : plainSeenD qw loose0 (s4 w os) = plainGoodD qw loose0 := by kernel_rfl
theorem h_h (w : World) (os : OsState) : wideSeen qw (s4 w os) = wideGood qw := by kernel_rfl
theorem h_i (w : World) (os : OsState) : clsSeenW qw loose0 (s4 w os) = clsGoodW qw loose0 := by kernel_rfl
theorem zq0 (P : Params) : attrB (K0 P) attrRows = true := by kernel_rfl
theorem zqX (P : Params) : methB (K0 P) methRows = true := by kernel_rfl
theorem zqZ (P : Params) : globB (K0 P) globRows = true := by kernel_rfl
theorem f_bf (P : Params) : bfB (K0 P) bfRows = true := by kernel_rfl
theorem zqY (P : Params) : keepB (K0 P) (fnRows.map (·.1) ++ clsRows.map (·.1)) = true := by kernel_rfl
theorem f_d1 (P : Params) : dOk (K0 P) fnRows = true := by kernel_rfl
theorem f_d2 (P : Params) : fnRows.map (fun p => faceK (K0 P) p.1) = fnRows.map (fun p => faceT p.2) := by kernel_rfl
theorem zsT (P : Params) : clsB (K0 P) clsRows = true := by kernel_rfl
theorem f_exc (P : Params) : excB (K0 P) = true := by kernel_rfl
theorem zlZ : ∀ {l : Frag} {a : Addr} {o : Obj}, l.lookup a = some o → (a, o) ∈ l
 | [], _, _, e => by cases e
 | (b, o') :: r, a, o, e => by
  rw [List.lookup_cons] at e
  split at e
  ·rename_i z
   cases e
   have z' : a = b := eq_of_beq z
   subst z'
   exact List.mem_cons_self
  ·exact List.mem_cons_of_mem _ (zlZ e)
theorem ztE (P : Params) : (K0 P).In (hH4 P) := fun a o e => by
 refine zqC ?_
 have hm : (a, o) ∈ K0 P := zlZ e
 unfold K0 at hm
 rcases List.mem_append.mp hm with h | h
 ·obtain ⟨b, hb, eb⟩ := List.mem_map.mp h
  cases eb
  have hl : a < (hL4 P).length := by
   rw [zsH]
   have : ∀ x ∈ ([68, 67, 96, 95, 144, 143, 225, 224, 267, 266, 449, 448, 519, 518, 677, 676] : List Nat), x < 735 := by decide
   exact this a hb
  rw [List.getD_eq_getElem?_getD, List.getElem?_eq_getElem hl]; rfl
 ·exact (zfZ h).2
noncomputable def hook : Hook := ⟨Heap, fun s => s.heap, fun w => hH4 w.params, fun w h => (K0 w.params).In h, fun w s e => by rw [show s.heap = _ from e]; exact ztE _, fun _ _ _ X k => X.keeps k⟩
theorem znQ (w : World) (os : OsState) : openSeen qw loose0 mods0 Xt0 true (s4 w os) = openGood qw loose0 := by
 unfold openSeen openGood
 refine looks_pair (h_a w os) (looks_pair (h_b _) (looks_pair ?_ (looks_pair (h_d w os) (looks_pair (h_e w os) (looks_pair (h_f w os) (looks_pair (h_g w os) (looks_pair (h_h w os) (h_i w os))))))))
 have c3 := Bool.and_eq_true_iff.mp (h_c3 w os)
 rw [h_c1, h_c2, c3.1, c3.2, zsG, zsF]; rfl
theorem zsD (w : World) (os : OsState) : topRun treeTable pw w 11 (some (R 6)) (12 + (1 + (2000 + (2000 + (2000 + (2000 + 2)))))) ⟨boot_heap w.params, Array.mk [], boot_drawn, boot_toks, os⟩ (topStub pw) = some (s4 w os) := (zsB w os).trans (congrArg some (zsN w os))
theorem zsM (w : World) (os : OsState) : ((staticsOk mods0 (boot_heap w.params) (hH4 w.params) && namesBound pw (hH4 w.params) && gensDone (s4 w os) && laidKept (boot_heap w.params) (hH4 w.params)), openSeen qw loose0 mods0 Xt0 true (s4 w os), hook.obs (s4 w os)) = (true, openGood qw loose0, hook.val w) :=
 looks_pair (h_l1 w os) (looks_pair (znQ w os) rfl)
theorem zr9 : LeftO pw qw loose0 Xt0 hook.obs hook.val 9000 :=
 LeftO.of_pieces (boot_open zp8 (show Nat.ble 600 9000 = true from rfl) znR) (fun w => zp6 w.params) zsD rfl fun w => funext fun os => zsM w os
theorem h_ws : rw1.wellSaid = true := (congrFun PySem.W.Fast.te9446332074065402090 rw1).trans (by kernel_rfl)
theorem h_ok : (chainsOk qw && opensWell pw && (frees rw1.row.toRowW && rw1.row.toRowW.within.isEmpty)) = true := by kernel_rfl
theorem h_tw : pw.tablesWhole = true := by kernel_rfl
theorem zqA : pw.bare := ⟨rfl, rfl, rfl, rfl, rfl, h_tw⟩
theorem zp7 : rw1.row.toRowW.promised := ⟨[WData.list []], by kernel_rfl, by kernel_rfl⟩
noncomputable def lawD : DefRec := ((defOf qw rw1.row.name).map (·.1)).getD ⟨Str.ofString "law", ⟨[], [], none, [], [], none, []⟩, [], ⟨.function, [], false, false, []⟩, ⟨0, 0, 0, 0⟩⟩
theorem zsJ : defOf qw rw1.row.name = some (lawD, []) := by kernel_rfl
theorem zsC : pw.theDef rw1.row.name = some (lawD.params, lawD.body, lawD.scope) := by kernel_rfl
theorem h_kw : kwWritten? lawD.params.kwonlyargs lawD.params.kw_defaults = some [] := by kernel_rfl
theorem head0 (call : WalkO qw loose0 (XL qw []) hook.says rw1.row.toRowW lawD [] fun f vs => PySem.call f vs) : rw1.Holds :=
 holds_law h_ws fun said => holds_open (r := rw1.row) (q := qw) (loose := loose0) (Xt := Xt0) (XP := XL qw []) (Yf := hook.obs) (Ya := hook.val) (YP := hook.says) (N := 9000) zr9 hook.of hook.keeps (fun s e => xl_of s (Bool.and_eq_true_iff.mp e).1) XL.keeps zsJ zsC h_kw (fun s e => recFacts_of (Bool.and_eq_true_iff.mp e).2) rfl said h_ok zqA zp7 call
theorem f_mb : bfRows.all (fun p => (bootBuiltins p.1 == some p.2.val) && (p.1 != ("__name__" : Str))) = true := by kernel_rfl
theorem zsS {mb : Str → Option Value} (h : ∀ x : Str, x ≠ "__name__" → mb x = bootBuiltins x) (x : Str) (f : BF) (e : lk bfRows x = some f) : mb x = some f.val := by
 have hm : (x, f) ∈ bfRows := by rw [zbP] at e; exact mem_of_lookup e
 have := List.all_eq_true.mp f_mb _ hm
 simp only [Bool.and_eq_true, bne_iff_ne, ne_eq, beq_iff_eq] at this
 rw [h x this.2]; exact this.1
theorem zp5 (P : Params) : ((K0 P).lookup 734).isSome = true := by kernel_rfl
theorem k0_big {P : Params} {h : Heap} (X : (K0 P).In h) : ∃ a o, sysModules < a ∧ h.get? a = some o :=
 let ⟨o, e⟩ := Option.isSome_iff_exists.mp (zp5 P)
 ⟨734, o, (by show 1 < 734; decide), X _ _ e⟩
theorem facts {g : Gl} {P : Params} (e : g.K = K0 P) (h : ∀ x : Str, x ≠ "__name__" → g.mb x = bootBuiltins x) : Facts g :=
 ⟨e ▸ zq0 P, e ▸ zqX P, e ▸ zqZ P, e ▸ f_bf P, e ▸ zqY P, fun x f q => zsS h x f q, e ▸ f_d1 P, e ▸ f_d2 P, e ▸ zsT P⟩
end Mine
theorem PySem.Challenge.cw_pq0299_01_holds : PySem.Challenge.rw_pq0299_01.Holds := by
 refine Mine.head0 ?_
 intro w s₀ s₁ mg mb G Y fa o pm cd doc dV kV ho hd hcd hD hmg hg args vals as hpre hlay hrd hwl hlo
 have KX : (Mine.K0 w.params).In s₁.heap := Y
 have X := G.X.1
 have V := G.X.2
 refine G.open ?_
 intro T B D TE TW
 try (refine guard_noD D (by decide +kernel) ?_; clear D)
 obtain ⟨_, _, M⟩ := bmod_of_top T
 have TA := at_of_top T
 try (obtain ⟨_, _, he, B0⟩ := based_of_top T rfl hmg ho hd; have he' : cd = _ := he; subst he'; clear he)
 clear hmg
 wrow_args hpre hlay hrd hwl hlo
 refine enter_call ?_
 w_top on
 try refine codeAny_mono ?_ (fun _ _ g => GoodW.toG g)
 have K0 := below_caller (Top.heap T)
 w_call any ho hd hcd hD T F
 clear hd TA
 k_drop
 rename Top _ _ _ _ _ _ => T
 rename Fr _ _ _ _ => F
 rename Well _ _ _ _ => W
 refine Mine.law_run (g := ⟨_, _, Mine.K0 _, _, _, _, _, _, KX, topRead_of T, Mine.k0_big KX⟩) (Mine.facts rfl T.builtins) (Mine.f_exc _) ?hb ?hs F ?hm W ?hl (fun h' tk' hk => ?_)
 case hb => kernel_rfl
 case hs => kernel_rfl
 case hm => rfl
 case hl => omega
 refine ⟨.inl ⟨.bool true, .bool true, [], rfl, fun cls => rfl, .bool true, ?hp, fun _ => ⟨List.nodup_nil, fun a h => by cases h⟩⟩, hk, rfl, ?hg⟩
 case hp => wrow_post
 case hg => assumption
