import PyProof.Rows.All
import Wide.All
import OpenK.AllK
import Wide.FinOn
import Lean
import PySem.Challenge.RW_ok0056_01
set_option Elab.async false
set_option autoImplicit false
set_option linter.unusedVariables false
set_option linter.unusedSimpArgs false
set_option linter.unusedSectionVars false
set_option maxRecDepth 100000
set_option genSizeOf false
namespace Mine

/-! The mini language: values, heaps, expressions, statements, and the transformer. -/

inductive V where
  | none
  | bool (b : Bool)
  | int (i : Int)
  | str
  | ref (a : Nat)
  | tup (vs : List V)
  | fl (vs : List V)

inductive Var where
  | self | total | plist | length | node | tree | other | parent | son | difference | waiting | top | here | many | begin | ahead | own | at
  | fresh | before | rest | above | moved | left | «end» | found | script | pot | cases | index | due | behind | first | last
  | start | place | each_turn | size | way | deck | nodes | places | lap
deriving DecidableEq

inductive Fld where
  | total | plist | left | right | parent | root
deriving DecidableEq

inductive Cls where
  | Interval | IntervalTree
deriving DecidableEq

inductive Fn where
  | init_Interval | init_IntervalTree
  | total_of | own_length | text_length | put_in_stead | set_left | set_right | rotate_right | rotate_left
  | right_turn_helps | left_turn_helps | settle | settle_up | add_above | find_interval | leftmost | rightmost
  | following | preceding | put_behind | put_ahead | split_at | drop_interval | insert_interval | delete_range
  | interval_rows | tree_error
  | law_pot | law_dip | law_parted | law_index | law_came | law_gone | law_is_as
  | law_deck | law_draw | law_walked | law_found | law_spread
  | law
deriving DecidableEq

noncomputable def initOf : Cls → Fn
  | .Interval => .init_Interval
  | .IntervalTree => .init_IntervalTree

inductive Obj where
  | lst (vs : List V)
  | inst (c : Cls) (fs : Fld → Option V)

abbrev Hp := Nat → Option Obj
abbrev Loc := Var → Option V

noncomputable def upd (h : Hp) (a : Nat) (o : Obj) : Hp := fun b => if b = a then some o else h b
noncomputable def era (h : Hp) (a : Nat) : Hp := fun b => if b = a then none else h b
noncomputable def setL (m : Loc) (x : Var) (v : V) : Loc := fun y => if y = x then some v else m y
noncomputable def setF (fs : Fld → Option V) (f : Fld) (v : V) : Fld → Option V := fun g => if g = f then some v else fs g
noncomputable def noF : Fld → Option V := fun _ => Option.none
noncomputable def Sub (h h' : Hp) : Prop := ∀ a o, h a = some o → h' a = some o

mutual
noncomputable def peq : V → V → Bool
  | .int i, .int j => i == j
  | .tup a, .tup b => peqs a b
  | .fl a, .fl b => peqs a b
  | _, _ => false
noncomputable def peqs : List V → List V → Bool
  | [], [] => true
  | x :: xs, y :: ys => peq x y && peqs xs ys
  | _, _ => false
end
/-- data: intsV, tuples and lists of them -/
noncomputable def dataN : Nat → V → Bool
  | _, .int _ => true
  | n + 1, .tup vs => vs.all (dataN n)
  | n + 1, .fl vs => vs.all (dataN n)
  | _, _ => false

/-- how long a list may grow -/
noncomputable def line : Nat := 100000

inductive Op where
  | add | sub | mul | fdiv | mod | lt | le | gt | ge | is | isnt
deriving DecidableEq

noncomputable def smallInt (i : Int) : Bool := decide (-(2 ^ 40) ≤ i) && decide (i ≤ 2 ^ 40)

/-- `is`, of nodes and None -/
noncomputable def sameV (h : Hp) : V → V → Option Bool
  | .none, .none => some true
  | .none, .ref _ => some false
  | .ref _, .none => some false
  | .ref a, .ref b => if a = b then some true else match h a, h b with
    | some (.inst _ _), some (.inst _ _) => some false
    | _, _ => Option.none
  | .str, .none => some false
  | .fl _, .none => some false
  | _, _ => Option.none

noncomputable def intsV (x y : V) (k : Int → Int → Option V) : Option V := match x with
  | .int i => match y with | .int j => k i j | _ => Option.none
  | _ => Option.none
noncomputable def addV (x y : V) : Option V := match x with
  | .fl xs => match y with | .fl ys => if xs.length + ys.length ≤ line then some (.fl (xs ++ ys)) else Option.none | _ => Option.none
  | x => intsV x y fun i j => some (.int (i + j))
noncomputable def mulV (x y : V) : Option V := match x with
  | .fl xs => match xs with
    | [z] => match y with | .int j => if decide (j ≤ 1000) && decide (-1000 ≤ j) then some (.fl (List.replicate j.toNat z)) else Option.none | _ => Option.none
    | _ => Option.none
  | x => intsV x y fun i j => if smallInt i && smallInt j then some (.int (i * j)) else Option.none
noncomputable def binop (h : Hp) (op : Op) (x y : V) : Option V := match op with
  | .add => addV x y
  | .sub => intsV x y fun i j => some (.int (i - j))
  | .mul => mulV x y
  | .fdiv => intsV x y fun i j => if decide (0 < j) && decide (j < 2 ^ 20) then some (.int (i / j)) else Option.none
  | .mod => intsV x y fun i j => if 0 < j then some (.int (i % j)) else Option.none
  | .lt => intsV x y fun i j => some (.bool (decide (i < j)))
  | .le => intsV x y fun i j => some (.bool (decide (i ≤ j)))
  | .gt => intsV x y fun i j => some (.bool (decide (j < i)))
  | .ge => intsV x y fun i j => some (.bool (decide (j ≤ i)))
  | .is => (sameV h x y).map V.bool
  | .isnt => (sameV h x y).map fun b => V.bool (!b)

/-- what an == looks at -/
noncomputable def eqArg (h : Hp) : V → Option V
  | .ref a => match h a with
    | some (.lst vs) => some (.fl vs)
    | _ => Option.none
  | v => some v
noncomputable def eqV (h : Hp) (x y : V) : Option Bool := match eqArg h x, eqArg h y with
  | some x', some y' => if dataN 8 x' && dataN 8 y' then some (peq x' y') else Option.none
  | _, _ => Option.none

noncomputable def sumInts : List V → Option Int
  | [] => some 0
  | .int i :: r => (sumInts r).map (i + ·)
  | _ :: _ => Option.none
noncomputable def modInts (m : Int) : List V → Option (List V)
  | [] => some []
  | .int i :: r => (modInts m r).map (V.int (i % m) :: ·)
  | _ :: _ => Option.none
noncomputable def absInts (m : Int) : List V → Option (List V)
  | [] => some []
  | .int i :: r => (absInts m r).map (V.int ((i.natAbs : Int) % m) :: ·)
  | _ :: _ => Option.none
noncomputable def firsts : List V → Option (List V)
  | [] => some []
  | .tup [x, _] :: r => (firsts r).map (x :: ·)
  | _ :: _ => Option.none

/-- the items of a sequence -/
noncomputable def seqOf (h : Hp) : V → Option (List V)
  | .fl vs => some vs
  | .tup vs => some vs
  | .ref a => match h a with
    | some (.lst vs) => some vs
    | _ => Option.none
  | _ => Option.none

noncomputable def getF (h : Hp) (v : V) (f : Fld) : Option V := match v with
  | .ref a => match h a with
    | some (.inst _ fs) => fs f
    | _ => Option.none
  | _ => Option.none

noncomputable def tru (v : V) (k : Bool → Prop) : Prop := match v with
  | .bool b => k b
  | _ => False
noncomputable def opt {α : Type} (x : Option α) (k : α → Prop) : Prop := match x with
  | some a => k a
  | Option.none => False

set_option genInjectivity false in
inductive ME where
  | non | bool (b : Bool) | int (i : Int) | str | ten30
  | loc (x : Var)
  | attr (e : ME) (f : Fld)
  | bin (op : Op) (a b : ME)
  | eq (neg : Bool) (a b : ME)
  | chain (o₁ o₂ : Op) (a b c : ME)
  | not (a : ME) | and (a b : ME) | or (a b : ME) | ife (t a b : ME)
  | anil | acons (e es : ME)
  | tup (es : ME) | fls (es : ME) | mls (es : ME)
  | call (f : Fn) (es : ME)
  | new (c : Cls) (es : ME)
  | len (e : ME) | abs (e : ME) | sum (e : ME) | toInt (e : ME) | toList (e : ME)
  | append (e x : ME) | pop (e : ME) | popAt0 (e : ME) | extend (e es : ME)
  | sub (e i : ME)
  | slTo (e i : ME) | slFrom (e i : ME) | slRev (e : ME)
  | catM (a b : ME)
  | compMod (e : ME) | compAbs (e : ME) | compFst (e : ME)

abbrev Ctr := Fn → List V → (V → Hp → Prop) → Hp → Prop

section
variable (Γ : Ctr) (m : Loc)

noncomputable def wpE : ME → (V → Hp → Prop) → Hp → Prop
  | .non, Q, h => Q .none h
  | .bool b, Q, h => Q (.bool b) h
  | .int i, Q, h => Q (.int i) h
  | .str, Q, h => Q .str h
  | .ten30, Q, h => Q (.int (10 ^ 30)) h
  | .loc x, Q, h => opt (m x) fun v => Q v h
  | .attr e f, Q, h => wpE e (fun v h => opt (getF h v f) fun w => Q w h) h
  | .bin op a b, Q, h => wpE a (fun x h => wpE b (fun y h => opt (binop h op x y) fun r => Q r h) h) h
  | .eq neg a b, Q, h => wpE a (fun x h => wpE b (fun y h => opt (eqV h x y) fun r => Q (.bool (if neg then !r else r)) h) h) h
  | .chain o₁ o₂ a b c, Q, h => wpE a (fun x h => wpE b (fun y h => opt (binop h o₁ x y) fun r => tru r fun t =>
      if t then wpE c (fun z h => opt (binop h o₂ y z) fun r => Q r h) h else Q r h) h) h
  | .not a, Q, h => wpE a (fun v h => tru v fun b => Q (.bool (!b)) h) h
  | .and a b, Q, h => wpE a (fun v h => tru v fun t => if t then wpE b Q h else Q v h) h
  | .or a b, Q, h => wpE a (fun v h => tru v fun t => if t then Q v h else wpE b Q h) h
  | .ife t a b, Q, h => wpE t (fun v h => tru v fun c => if c then wpE a Q h else wpE b Q h) h
  | .anil, Q, h => Q (.tup []) h
  | .acons e es, Q, h => wpE e (fun v h => wpE es (fun w h => match w with | .tup vs => Q (.tup (v :: vs)) h | _ => False) h) h
  | .tup es, Q, h => wpE es Q h
  | .fls es, Q, h => wpE es (fun w h => match w with | .tup vs => Q (.fl vs) h | _ => False) h
  | .mls es, Q, h => wpE es (fun w h => match w with | .tup vs => ∀ a, h a = Option.none → Q (.ref a) (upd h a (.lst vs)) | _ => False) h
  | .call f es, Q, h => wpE es (fun w h => match w with | .tup vs => Γ f vs Q h | _ => False) h
  | .new c es, Q, h => wpE es (fun w h => match w with
      | .tup vs => ∀ a, h a = Option.none → Γ (initOf c) (.ref a :: vs) (fun v h => v = .none ∧ Q (.ref a) h) (upd h a (.inst c noF))
      | _ => False) h
  | .len e, Q, h => wpE e (fun v h => opt (seqOf h v) fun vs => vs.length ≤ line ∧ Q (.int vs.length) h) h
  | .abs e, Q, h => wpE e (fun v h => match v with | .int i => Q (.int i.natAbs) h | _ => False) h
  | .sum e, Q, h => wpE e (fun v h => match v with | .fl vs => opt (sumInts vs) fun i => Q (.int i) h | _ => False) h
  | .toInt e, Q, h => wpE e (fun v h => match v with | .int i => Q (.int i) h | _ => False) h
  | .toList e, Q, h => wpE e (fun v h => match v with | .fl vs => vs.length ≤ line ∧ Q (.fl vs) h | _ => False) h
  | .append e x, Q, h => wpE e (fun v h => match v with
      | .ref a => match h a with
        | some (.lst _) => wpE x (fun w h => match h a with | some (.lst vs) => vs.length ≤ line ∧ Q .none (upd h a (.lst (vs ++ [w]))) | _ => False) h
        | _ => False
      | _ => False) h
  | .pop e, Q, h => wpE e (fun v h => match v with
      | .ref a => match h a with | some (.lst vs) => vs.length ≤ line ∧ opt vs.getLast? fun x => Q x (upd h a (.lst vs.dropLast)) | _ => False
      | _ => False) h
  | .popAt0 e, Q, h => wpE e (fun v h => match v with
      | .ref a => match h a with | some (.lst vs) => vs.length ≤ line ∧ opt vs.head? fun x => Q x (upd h a (.lst vs.tail)) | _ => False
      | _ => False) h
  | .extend e es, Q, h => wpE e (fun v h => match v with
      | .ref a => match h a with
        | some (.lst _) => wpE es (fun w h => match w with
          | .tup ws => match h a with | some (.lst vs) => vs.length + ws.length ≤ line ∧ Q .none (upd h a (.lst (vs ++ ws))) | _ => False
          | _ => False) h
        | _ => False
      | _ => False) h
  | .sub e i, Q, h => wpE e (fun v h => wpE i (fun w h => match w with
      | .int k => 0 ≤ k ∧ k ≤ line ∧ opt (seqOf h v) fun vs => opt vs[k.toNat]? fun x => Q x h
      | _ => False) h) h
  | .slTo e i, Q, h => wpE e (fun v h => wpE i (fun w h => match v, w with
      | .fl vs, .int k => 0 ≤ k ∧ vs.length ≤ line ∧ Q (.fl (vs.take k.toNat)) h
      | _, _ => False) h) h
  | .slFrom e i, Q, h => wpE e (fun v h => wpE i (fun w h => match v, w with
      | .fl vs, .int k => 0 ≤ k ∧ vs.length ≤ line ∧ Q (.fl (vs.drop k.toNat)) h
      | _, _ => False) h) h
  | .slRev e, Q, h => wpE e (fun v h => match v with | .fl vs => vs.length ≤ line ∧ Q (.fl vs.reverse) h | _ => False) h
  | .catM x y, Q, h => wpE x (fun v h => wpE y (fun w h => match v, w with
      | .ref b, .fl ys => match h b with | some (.lst xs) => xs.length + ys.length ≤ line ∧ ∀ a, h a = Option.none → Q (.ref a) (upd h a (.lst (xs ++ ys))) | _ => False
      | _, _ => False) h) h
  | .compMod e, Q, h => wpE e (fun v h => match v with | .fl vs => vs.length ≤ line ∧ opt (modInts 1009 vs) fun ws => Q (.fl ws) h | _ => False) h
  | .compAbs e, Q, h => wpE e (fun v h => match v with | .fl vs => vs.length ≤ line ∧ opt (absInts (10 ^ 30) vs) fun ws => ∀ a, h a = Option.none → Q (.ref a) (upd h a (.lst ws)) | _ => False) h
  | .compFst e, Q, h => wpE e (fun v h => match v with | .fl vs => vs.length ≤ line ∧ opt (firsts vs) fun ws => Q (.fl ws) h | _ => False) h
end

set_option genInjectivity false in
inductive MS where
  | snil | scons (s ss : MS)
  | asg (x : Var) (e : ME)
  | asgF (o : ME) (f : Fld) (e : ME)
  | asgI (o i e : ME)
  | asgT (xs : List Var) (e : ME)
  | asgN (xs : List Var) (es : ME)
  | expr (e : ME)
  | ife (t : ME) (a b : MS)
  | whl (t : ME) (b : MS)
  | for1 (x : Var) (e : ME) (b : MS)
  | forT (xs : List Var) (e : ME) (b : MS)
  | forR1 (x : Var) (hi : ME) (b : MS)
  | forR2 (x : Var) (lo hi : ME) (b : MS)
  | ret (e : ME)
  | ret0
  | frz (x : Var)

inductive Fl where
  | next
  | ret (v : V)

noncomputable def setAll : List Var → List V → Loc → Option Loc
  | [], [], m => some m
  | x :: xs, v :: vs, m => setAll xs vs (setL m x v)
  | _, _, _ => Option.none
noncomputable def setT (xs : List Var) (v : V) (m : Loc) : Option Loc := match v with
  | .tup vs => setAll xs vs m
  | _ => Option.none

abbrev Post := Fl → Loc → Hp → Prop

noncomputable def forL (body : Post → Loc → Hp → Prop) (set : V → Loc → Option Loc) : List V → Post → Loc → Hp → Prop
  | [], Q, m, h => Q .next m h
  | v :: vs, Q, m, h => opt (set v m) fun m' => body (fun f m'' h'' => match f with | .next => forL body set vs Q m'' h'' | f => Q f m'' h'') m' h

noncomputable def intsFrom (lo : Int) : Nat → List V
  | 0 => []
  | n + 1 => .int lo :: intsFrom (lo + 1) n

noncomputable def wpS (Γ : Ctr) : MS → Post → Loc → Hp → Prop
  | .snil, Q, m, h => Q .next m h
  | .scons s ss, Q, m, h => wpS Γ s (fun f m h => match f with | .next => wpS Γ ss Q m h | f => Q f m h) m h
  | .asg x e, Q, m, h => wpE Γ m e (fun v h => Q .next (setL m x v) h) h
  | .asgF o f e, Q, m, h => wpE Γ m e (fun v h => wpE Γ m o (fun ov h => match ov with
      | .ref a => match h a with | some (.inst c fs) => Q .next m (upd h a (.inst c (setF fs f v))) | _ => False
      | _ => False) h) h
  | .asgI o i e, Q, m, h => wpE Γ m e (fun v h => wpE Γ m o (fun ov h => wpE Γ m i (fun iv h => match ov, iv with
      | .ref a, .int k => match h a with | some (.lst vs) => 0 ≤ k ∧ k.toNat < vs.length ∧ vs.length ≤ line ∧ Q .next m (upd h a (.lst (vs.set k.toNat v))) | _ => False
      | _, _ => False) h) h) h
  | .asgT xs e, Q, m, h => wpE Γ m e (fun v h => opt (setT xs v m) fun m' => Q .next m' h) h
  | .asgN xs es, Q, m, h => wpE Γ m es (fun v h => opt (setT xs v m) fun m' => Q .next m' h) h
  | .expr e, Q, m, h => wpE Γ m e (fun _ h => Q .next m h) h
  | .ife t a b, Q, m, h => wpE Γ m t (fun v h => tru v fun c => if c then wpS Γ a Q m h else wpS Γ b Q m h) h
  | .whl t b, Q, m, h => ∃ I : Nat → Loc → Hp → Prop, (∃ n, I n m h) ∧ ∀ n m h, I n m h →
      wpE Γ m t (fun v h => tru v fun c => if c then wpS Γ b (fun f m' h' => match f with | .next => ∃ k, k < n ∧ I k m' h' | f => Q f m' h') m h else Q .next m h) h
  | .for1 x e b, Q, m, h => wpE Γ m e (fun v h => match v with
      | .fl vs => forL (fun Q m h => wpS Γ b Q m h) (fun v m => some (setL m x v)) vs Q m h
      | .tup vs => forL (fun Q m h => wpS Γ b Q m h) (fun v m => some (setL m x v)) vs Q m h
      | _ => False) h
  | .forT xs e b, Q, m, h => wpE Γ m e (fun v h => match v with
      | .fl vs => forL (fun Q m h => wpS Γ b Q m h) (fun v m => setT xs v m) vs Q m h
      | _ => False) h
  | .forR1 x hi b, Q, m, h => wpE Γ m hi (fun w h => match w with
      | .int j => smallInt j = true ∧ forL (fun Q m h => wpS Γ b Q m h) (fun v m => some (setL m x v)) (intsFrom 0 j.toNat) Q m h
      | _ => False) h
  | .forR2 x lo hi b, Q, m, h => wpE Γ m lo (fun v h => wpE Γ m hi (fun w h => match v, w with
      | .int i, .int j => smallInt i = true ∧ smallInt j = true ∧ forL (fun Q m h => wpS Γ b Q m h) (fun v m => some (setL m x v)) (intsFrom i (j - i).toNat) Q m h
      | _, _ => False) h) h
  | .ret e, Q, m, h => wpE Γ m e (fun v h => Q (.ret v) m h) h
  | .ret0, Q, m, h => Q (.ret .none) m h
  | .frz x, Q, m, h => match m x with
      | some (.ref a) => match h a with | some (.lst vs) => Q .next (setL m x (.fl vs)) (era h a) | _ => False
      | _ => False

noncomputable def noL : Loc := fun _ => Option.none

/-- the transformer of a def -/
noncomputable def wpB (Γ : Ctr) (params : List Var) (body : MS) (args : List V) (Q : V → Hp → Prop) (h : Hp) : Prop :=
  opt (setAll params args noL) fun m => wpS Γ body (fun f _ h' => ∃ h'', Sub h'' h' ∧ Q (match f with | .ret v => v | .next => .none) h'') m h

end Mine

namespace Mine
noncomputable def p_init_Interval : List Var := [.self, .total, .plist]
noncomputable def b_init_Interval : MS :=
  (.scons (.asgF (.loc .self) .total (.loc .total)) <|
  .scons (.asgF (.loc .self) .plist (.loc .plist)) <|
  .scons (.asgF (.loc .self) .left .non) <|
  .scons (.asgF (.loc .self) .right .non) <|
  .scons (.asgF (.loc .self) .parent .non) <|
  .snil)
noncomputable def p_init_IntervalTree : List Var := [.self, .length, .plist]
noncomputable def b_init_IntervalTree : MS :=
  (.scons (.asgF (.loc .self) .root (.ife (.bin .gt (.loc .length) (.int 0)) (.new .Interval (.acons (.loc .length) (.acons (.loc .plist) .anil))) .non)) <|
  .snil)
noncomputable def p_total_of : List Var := [.node]
noncomputable def b_total_of : MS :=
  (.scons (.ret (.ife (.bin .is (.loc .node) .non) (.int 0) (.attr (.loc .node) .total))) <|
  .snil)
noncomputable def p_own_length : List Var := [.node]
noncomputable def b_own_length : MS :=
  (.scons (.ret (.bin .sub (.bin .sub (.attr (.loc .node) .total) (.call .total_of (.acons (.attr (.loc .node) .left) .anil))) (.call .total_of (.acons (.attr (.loc .node) .right) .anil)))) <|
  .snil)
noncomputable def p_text_length : List Var := [.tree]
noncomputable def b_text_length : MS :=
  (.scons (.ret (.call .total_of (.acons (.attr (.loc .tree) .root) .anil))) <|
  .snil)
noncomputable def p_put_in_stead : List Var := [.tree, .node, .other]
noncomputable def b_put_in_stead : MS :=
  (.scons (.asg .parent (.attr (.loc .node) .parent)) <|
  .scons (.ife (.bin .isnt (.loc .other) .non)
    (.scons (.asgF (.loc .other) .parent (.loc .parent)) <|
    .snil)
    (.snil)) <|
  .scons (.ife (.bin .is (.loc .parent) .non)
    (.scons (.asgF (.loc .tree) .root (.loc .other)) <|
    .snil)
    (.scons (.ife (.bin .is (.attr (.loc .parent) .left) (.loc .node))
      (.scons (.asgF (.loc .parent) .left (.loc .other)) <|
      .snil)
      (.scons (.asgF (.loc .parent) .right (.loc .other)) <|
      .snil)) <|
    .snil)) <|
  .snil)
noncomputable def p_set_left : List Var := [.node, .son]
noncomputable def b_set_left : MS :=
  (.scons (.asgF (.loc .node) .left (.loc .son)) <|
  .scons (.ife (.bin .isnt (.loc .son) .non)
    (.scons (.asgF (.loc .son) .parent (.loc .node)) <|
    .snil)
    (.snil)) <|
  .snil)
noncomputable def p_set_right : List Var := [.node, .son]
noncomputable def b_set_right : MS :=
  (.scons (.asgF (.loc .node) .right (.loc .son)) <|
  .scons (.ife (.bin .isnt (.loc .son) .non)
    (.scons (.asgF (.loc .son) .parent (.loc .node)) <|
    .snil)
    (.snil)) <|
  .snil)
noncomputable def p_rotate_right : List Var := [.tree, .node]
noncomputable def b_rotate_right : MS :=
  (.scons (.asg .son (.attr (.loc .node) .left)) <|
  .scons (.expr (.call .put_in_stead (.acons (.loc .tree) (.acons (.loc .node) (.acons (.loc .son) .anil))))) <|
  .scons (.asg .total (.attr (.loc .node) .total)) <|
  .scons (.asgF (.loc .node) .total (.bin .add (.bin .sub (.attr (.loc .node) .total) (.attr (.loc .son) .total)) (.call .total_of (.acons (.attr (.loc .son) .right) .anil)))) <|
  .scons (.expr (.call .set_left (.acons (.loc .node) (.acons (.attr (.loc .son) .right) .anil)))) <|
  .scons (.expr (.call .set_right (.acons (.loc .son) (.acons (.loc .node) .anil)))) <|
  .scons (.asgF (.loc .son) .total (.loc .total)) <|
  .scons (.ret (.loc .son)) <|
  .snil)
noncomputable def p_rotate_left : List Var := [.tree, .node]
noncomputable def b_rotate_left : MS :=
  (.scons (.asg .son (.attr (.loc .node) .right)) <|
  .scons (.expr (.call .put_in_stead (.acons (.loc .tree) (.acons (.loc .node) (.acons (.loc .son) .anil))))) <|
  .scons (.asg .total (.attr (.loc .node) .total)) <|
  .scons (.asgF (.loc .node) .total (.bin .add (.bin .sub (.attr (.loc .node) .total) (.attr (.loc .son) .total)) (.call .total_of (.acons (.attr (.loc .son) .left) .anil)))) <|
  .scons (.expr (.call .set_right (.acons (.loc .node) (.acons (.attr (.loc .son) .left) .anil)))) <|
  .scons (.expr (.call .set_left (.acons (.loc .son) (.acons (.loc .node) .anil)))) <|
  .scons (.asgF (.loc .son) .total (.loc .total)) <|
  .scons (.ret (.loc .son)) <|
  .snil)
noncomputable def p_right_turn_helps : List Var := [.node]
noncomputable def b_right_turn_helps : MS :=
  (.scons (.asg .son (.attr (.loc .node) .left)) <|
  .scons (.asg .difference (.bin .sub (.call .total_of (.acons (.loc .son) .anil)) (.call .total_of (.acons (.attr (.loc .node) .right) .anil)))) <|
  .scons (.ife (.bin .le (.loc .difference) (.int 0))
    (.scons (.ret (.bool false)) <|
    .snil)
    (.snil)) <|
  .scons (.ret (.bin .lt (.abs (.bin .sub (.call .total_of (.acons (.attr (.loc .son) .left) .anil)) (.bin .add (.bin .sub (.attr (.loc .node) .total) (.attr (.loc .son) .total)) (.call .total_of (.acons (.attr (.loc .son) .right) .anil))))) (.loc .difference))) <|
  .snil)
noncomputable def p_left_turn_helps : List Var := [.node]
noncomputable def b_left_turn_helps : MS :=
  (.scons (.asg .son (.attr (.loc .node) .right)) <|
  .scons (.asg .difference (.bin .sub (.call .total_of (.acons (.loc .son) .anil)) (.call .total_of (.acons (.attr (.loc .node) .left) .anil)))) <|
  .scons (.ife (.bin .le (.loc .difference) (.int 0))
    (.scons (.ret (.bool false)) <|
    .snil)
    (.snil)) <|
  .scons (.ret (.bin .lt (.abs (.bin .sub (.call .total_of (.acons (.attr (.loc .son) .right) .anil)) (.bin .add (.bin .sub (.attr (.loc .node) .total) (.attr (.loc .son) .total)) (.call .total_of (.acons (.attr (.loc .son) .left) .anil))))) (.loc .difference))) <|
  .snil)
noncomputable def p_settle : List Var := [.tree, .node]
noncomputable def b_settle : MS :=
  (.scons (.asg .waiting (.mls (.acons (.loc .node) .anil))) <|
  .scons (.asg .top (.loc .node)) <|
  .scons (.whl (.bin .gt (.len (.loc .waiting)) (.int 0))
    (.scons (.asg .here (.pop (.loc .waiting))) <|
    .scons (.ife (.call .right_turn_helps (.acons (.loc .here) .anil))
      (.scons (.asg .son (.call .rotate_right (.acons (.loc .tree) (.acons (.loc .here) .anil)))) <|
      .scons (.asg .top (.ife (.bin .is (.loc .here) (.loc .top)) (.loc .son) (.loc .top))) <|
      .scons (.expr (.extend (.loc .waiting) (.acons (.loc .son) (.acons (.loc .here) .anil)))) <|
      .snil)
      (.scons (.ife (.call .left_turn_helps (.acons (.loc .here) .anil))
        (.scons (.asg .son (.call .rotate_left (.acons (.loc .tree) (.acons (.loc .here) .anil)))) <|
        .scons (.asg .top (.ife (.bin .is (.loc .here) (.loc .top)) (.loc .son) (.loc .top))) <|
        .scons (.expr (.extend (.loc .waiting) (.acons (.loc .son) (.acons (.loc .here) .anil)))) <|
        .snil)
        (.snil)) <|
      .snil)) <|
    .snil)) <|
  .scons (.ret (.loc .top)) <|
  .snil)
noncomputable def p_settle_up : List Var := [.tree, .node]
noncomputable def b_settle_up : MS :=
  (.scons (.whl (.bin .isnt (.loc .node) .non)
    (.scons (.asg .node (.attr (.call .settle (.acons (.loc .tree) (.acons (.loc .node) .anil))) .parent)) <|
    .snil)) <|
  .snil)
noncomputable def p_add_above : List Var := [.node, .many]
noncomputable def b_add_above : MS :=
  (.scons (.whl (.bin .isnt (.loc .node) .non)
    (.scons (.asgF (.loc .node) .total (.bin .add (.attr (.loc .node) .total) (.loc .many))) <|
    .scons (.asg .node (.attr (.loc .node) .parent)) <|
    .snil)) <|
  .snil)
noncomputable def p_find_interval : List Var := [.tree, .at]
noncomputable def b_find_interval : MS :=
  (.scons (.asg .node (.attr (.loc .tree) .root)) <|
  .scons (.asg .begin (.int 0)) <|
  .scons (.whl (.bool true)
    (.scons (.asg .ahead (.call .total_of (.acons (.attr (.loc .node) .left) .anil))) <|
    .scons (.asg .own (.call .own_length (.acons (.loc .node) .anil))) <|
    .scons (.ife (.bin .lt (.loc .at) (.bin .add (.loc .begin) (.loc .ahead)))
      (.scons (.asg .node (.attr (.loc .node) .left)) <|
      .snil)
      (.scons (.ife (.bin .lt (.loc .at) (.bin .add (.bin .add (.loc .begin) (.loc .ahead)) (.loc .own)))
        (.scons (.ret (.tup (.acons (.loc .node) (.acons (.bin .add (.loc .begin) (.loc .ahead)) .anil)))) <|
        .snil)
        (.scons (.asg .begin (.bin .add (.bin .add (.loc .begin) (.loc .ahead)) (.loc .own))) <|
        .scons (.asg .node (.attr (.loc .node) .right)) <|
        .snil)) <|
      .snil)) <|
    .snil)) <|
  .snil)
noncomputable def p_leftmost : List Var := [.node]
noncomputable def b_leftmost : MS :=
  (.scons (.whl (.bin .isnt (.attr (.loc .node) .left) .non)
    (.scons (.asg .node (.attr (.loc .node) .left)) <|
    .snil)) <|
  .scons (.ret (.loc .node)) <|
  .snil)
noncomputable def p_rightmost : List Var := [.node]
noncomputable def b_rightmost : MS :=
  (.scons (.whl (.bin .isnt (.attr (.loc .node) .right) .non)
    (.scons (.asg .node (.attr (.loc .node) .right)) <|
    .snil)) <|
  .scons (.ret (.loc .node)) <|
  .snil)
noncomputable def p_following : List Var := [.node]
noncomputable def b_following : MS :=
  (.scons (.ife (.bin .isnt (.attr (.loc .node) .right) .non)
    (.scons (.ret (.call .leftmost (.acons (.attr (.loc .node) .right) .anil))) <|
    .snil)
    (.snil)) <|
  .scons (.whl (.and (.bin .isnt (.attr (.loc .node) .parent) .non) (.bin .is (.attr (.attr (.loc .node) .parent) .right) (.loc .node)))
    (.scons (.asg .node (.attr (.loc .node) .parent)) <|
    .snil)) <|
  .scons (.ret (.attr (.loc .node) .parent)) <|
  .snil)
noncomputable def p_preceding : List Var := [.node]
noncomputable def b_preceding : MS :=
  (.scons (.ife (.bin .isnt (.attr (.loc .node) .left) .non)
    (.scons (.ret (.call .rightmost (.acons (.attr (.loc .node) .left) .anil))) <|
    .snil)
    (.snil)) <|
  .scons (.whl (.and (.bin .isnt (.attr (.loc .node) .parent) .non) (.bin .is (.attr (.attr (.loc .node) .parent) .left) (.loc .node)))
    (.scons (.asg .node (.attr (.loc .node) .parent)) <|
    .snil)) <|
  .scons (.ret (.attr (.loc .node) .parent)) <|
  .snil)
noncomputable def p_put_behind : List Var := [.tree, .node, .fresh]
noncomputable def b_put_behind : MS :=
  (.scons (.ife (.bin .is (.attr (.loc .node) .right) .non)
    (.scons (.expr (.call .set_right (.acons (.loc .node) (.acons (.loc .fresh) .anil)))) <|
    .snil)
    (.scons (.asg .node (.call .leftmost (.acons (.attr (.loc .node) .right) .anil))) <|
    .scons (.expr (.call .set_left (.acons (.loc .node) (.acons (.loc .fresh) .anil)))) <|
    .snil)) <|
  .scons (.expr (.call .add_above (.acons (.attr (.loc .fresh) .parent) (.acons (.attr (.loc .fresh) .total) .anil)))) <|
  .scons (.expr (.call .settle_up (.acons (.loc .tree) (.acons (.attr (.loc .fresh) .parent) .anil)))) <|
  .snil)
noncomputable def p_put_ahead : List Var := [.tree, .node, .fresh]
noncomputable def b_put_ahead : MS :=
  (.scons (.asg .before (.call .preceding (.acons (.loc .node) .anil))) <|
  .scons (.ife (.bin .isnt (.loc .before) .non)
    (.scons (.expr (.call .put_behind (.acons (.loc .tree) (.acons (.loc .before) (.acons (.loc .fresh) .anil))))) <|
    .scons .ret0 <|
    .snil)
    (.snil)) <|
  .scons (.expr (.call .set_left (.acons (.loc .node) (.acons (.loc .fresh) .anil)))) <|
  .scons (.expr (.call .add_above (.acons (.loc .node) (.acons (.attr (.loc .fresh) .total) .anil)))) <|
  .scons (.expr (.call .settle_up (.acons (.loc .tree) (.acons (.loc .node) .anil)))) <|
  .snil)
noncomputable def p_split_at : List Var := [.tree, .at]
noncomputable def b_split_at : MS :=
  (.scons (.ife (.not (.chain .lt .lt (.int 0) (.loc .at) (.call .text_length (.acons (.loc .tree) .anil))))
    (.scons .ret0 <|
    .snil)
    (.snil)) <|
  .scons (.asgT [.node, .begin] (.call .find_interval (.acons (.loc .tree) (.acons (.loc .at) .anil)))) <|
  .scons (.ife (.eq false (.loc .begin) (.loc .at))
    (.scons .ret0 <|
    .snil)
    (.snil)) <|
  .scons (.asg .rest (.bin .sub (.call .own_length (.acons (.loc .node) .anil)) (.bin .sub (.loc .at) (.loc .begin)))) <|
  .scons (.expr (.call .add_above (.acons (.loc .node) (.acons (.bin .sub (.int 0) (.loc .rest)) .anil)))) <|
  .scons (.expr (.call .put_behind (.acons (.loc .tree) (.acons (.loc .node) (.acons (.new .Interval (.acons (.loc .rest) (.acons (.attr (.loc .node) .plist) .anil))) .anil))))) <|
  .snil)
noncomputable def p_drop_interval : List Var := [.tree, .node]
noncomputable def b_drop_interval : MS :=
  (.scons (.expr (.call .add_above (.acons (.attr (.loc .node) .parent) (.acons (.bin .sub (.int 0) (.call .own_length (.acons (.loc .node) .anil))) .anil)))) <|
  .scons (.asg .above (.attr (.loc .node) .parent)) <|
  .scons (.ife (.or (.bin .is (.attr (.loc .node) .left) .non) (.bin .is (.attr (.loc .node) .right) .non))
    (.scons (.asg .son (.ife (.bin .is (.attr (.loc .node) .right) .non) (.attr (.loc .node) .left) (.attr (.loc .node) .right))) <|
    .scons (.expr (.call .put_in_stead (.acons (.loc .tree) (.acons (.loc .node) (.acons (.loc .son) .anil))))) <|
    .scons (.expr (.call .settle_up (.acons (.loc .tree) (.acons (.loc .above) .anil)))) <|
    .scons .ret0 <|
    .snil)
    (.snil)) <|
  .scons (.asg .moved (.attr (.loc .node) .left)) <|
  .scons (.asg .here (.call .leftmost (.acons (.attr (.loc .node) .right) .anil))) <|
  .scons (.expr (.call .put_in_stead (.acons (.loc .tree) (.acons (.loc .node) (.acons (.attr (.loc .node) .right) .anil))))) <|
  .scons (.expr (.call .set_left (.acons (.loc .here) (.acons (.loc .moved) .anil)))) <|
  .scons (.whl (.bin .isnt (.loc .here) (.loc .above))
    (.scons (.asgF (.loc .here) .total (.bin .add (.attr (.loc .here) .total) (.attr (.loc .moved) .total))) <|
    .scons (.asg .here (.attr (.loc .here) .parent)) <|
    .snil)) <|
  .scons (.expr (.call .settle_up (.acons (.loc .tree) (.acons (.attr (.loc .moved) .parent) .anil)))) <|
  .snil)
noncomputable def p_insert_interval : List Var := [.tree, .at, .many, .plist]
noncomputable def b_insert_interval : MS :=
  (.scons (.ife (.eq false (.loc .many) (.int 0))
    (.scons .ret0 <|
    .snil)
    (.snil)) <|
  .scons (.asg .fresh (.new .Interval (.acons (.loc .many) (.acons (.loc .plist) .anil)))) <|
  .scons (.ife (.bin .is (.attr (.loc .tree) .root) .non)
    (.scons (.asgF (.loc .tree) .root (.loc .fresh)) <|
    .scons .ret0 <|
    .snil)
    (.snil)) <|
  .scons (.expr (.call .split_at (.acons (.loc .tree) (.acons (.loc .at) .anil)))) <|
  .scons (.ife (.eq false (.loc .at) (.call .text_length (.acons (.loc .tree) .anil)))
    (.scons (.expr (.call .put_behind (.acons (.loc .tree) (.acons (.call .rightmost (.acons (.attr (.loc .tree) .root) .anil)) (.acons (.loc .fresh) .anil))))) <|
    .snil)
    (.scons (.expr (.call .put_ahead (.acons (.loc .tree) (.acons (.sub (.call .find_interval (.acons (.loc .tree) (.acons (.loc .at) .anil))) (.int 0)) (.acons (.loc .fresh) .anil))))) <|
    .snil)) <|
  .snil)
noncomputable def p_delete_range : List Var := [.tree, .begin, .«end»]
noncomputable def b_delete_range : MS :=
  (.scons (.ife (.bin .ge (.loc .begin) (.loc .«end»))
    (.scons .ret0 <|
    .snil)
    (.snil)) <|
  .scons (.expr (.call .split_at (.acons (.loc .tree) (.acons (.loc .begin) .anil)))) <|
  .scons (.expr (.call .split_at (.acons (.loc .tree) (.acons (.loc .«end») .anil)))) <|
  .scons (.asg .left (.bin .sub (.loc .«end») (.loc .begin))) <|
  .scons (.whl (.bin .gt (.loc .left) (.int 0))
    (.scons (.asg .node (.sub (.call .find_interval (.acons (.loc .tree) (.acons (.loc .begin) .anil))) (.int 0))) <|
    .scons (.asg .left (.bin .sub (.loc .left) (.call .own_length (.acons (.loc .node) .anil)))) <|
    .scons (.expr (.call .drop_interval (.acons (.loc .tree) (.acons (.loc .node) .anil)))) <|
    .snil)) <|
  .snil)
noncomputable def p_interval_rows : List Var := [.tree]
noncomputable def b_interval_rows : MS :=
  (.scons (.asg .found (.mls .anil)) <|
  .scons (.asg .begin (.int 0)) <|
  .scons (.asg .node (.ife (.bin .is (.attr (.loc .tree) .root) .non) .non (.call .leftmost (.acons (.attr (.loc .tree) .root) .anil)))) <|
  .scons (.whl (.bin .isnt (.loc .node) .non)
    (.scons (.asg .«end» (.bin .add (.loc .begin) (.call .own_length (.acons (.loc .node) .anil)))) <|
    .scons (.expr (.append (.loc .found) (.tup (.acons (.loc .begin) (.acons (.loc .«end») (.acons (.attr (.loc .node) .plist) .anil)))))) <|
    .scons (.asg .begin (.loc .«end»)) <|
    .scons (.asg .node (.call .following (.acons (.loc .node) .anil))) <|
    .snil)) <|
  .scons (.frz .found) <|
  .scons (.ret (.loc .found)) <|
  .snil)
noncomputable def p_tree_error : List Var := [.tree]
noncomputable def b_tree_error : MS :=
  (.scons (.ife (.bin .is (.attr (.loc .tree) .root) .non)
    (.scons (.ret .non) <|
    .snil)
    (.snil)) <|
  .scons (.ife (.bin .isnt (.attr (.attr (.loc .tree) .root) .parent) .non)
    (.scons (.ret .str) <|
    .snil)
    (.snil)) <|
  .scons (.asg .waiting (.mls (.acons (.attr (.loc .tree) .root) .anil))) <|
  .scons (.whl (.bin .gt (.len (.loc .waiting)) (.int 0))
    (.scons (.asg .node (.pop (.loc .waiting))) <|
    .scons (.ife (.bin .le (.call .own_length (.acons (.loc .node) .anil)) (.int 0))
      (.scons (.ret .str) <|
      .snil)
      (.snil)) <|
    .scons (.for1 .son (.tup (.acons (.attr (.loc .node) .left) (.acons (.attr (.loc .node) .right) .anil)))
      (.scons (.ife (.bin .isnt (.loc .son) .non)
        (.scons (.ife (.bin .isnt (.attr (.loc .son) .parent) (.loc .node))
          (.scons (.ret .str) <|
          .snil)
          (.snil)) <|
        .scons (.expr (.append (.loc .waiting) (.loc .son))) <|
        .snil)
        (.snil)) <|
      .snil)) <|
    .snil)) <|
  .scons (.ret .non) <|
  .snil)
end Mine

namespace Mine
noncomputable def p_law_pot : List Var := [.script]
noncomputable def b_law_pot : MS :=
  (.scons (.ret (.mls (.acons (.toList (.slTo (.loc .script) (.int 63))) (.acons (.int 0) (.acons (.bin .add (.sum (.compMod (.slTo (.loc .script) (.int 63)))) (.int 3)) .anil))))) <|
  .snil)
noncomputable def p_law_dip : List Var := [.pot, .many]
noncomputable def b_law_dip : MS :=
  (.scons (.asg .at (.sub (.loc .pot) (.int 1))) <|
  .scons (.asgI (.loc .pot) (.int 1) (.bin .add (.loc .at) (.int 1))) <|
  .scons (.ife (.bin .lt (.loc .at) (.len (.sub (.loc .pot) (.int 0))))
    (.scons (.ret (.bin .mod (.sub (.sub (.loc .pot) (.int 0)) (.loc .at)) (.loc .many))) <|
    .snil)
    (.snil)) <|
  .scons (.asgI (.loc .pot) (.int 2) (.bin .mod (.bin .add (.bin .mul (.sub (.loc .pot) (.int 2)) (.int 75)) (.int 74)) (.int 65537))) <|
  .scons (.ret (.bin .mod (.sub (.loc .pot) (.int 2)) (.loc .many))) <|
  .snil)
noncomputable def p_law_parted : List Var := [.cases, .at]
noncomputable def b_law_parted : MS :=
  (.scons (.asgN [.found, .begin] (.acons (.mls .anil) (.acons (.int 0) .anil))) <|
  .scons (.forT [.many, .plist] (.loc .cases)
    (.scons (.ife (.chain .lt .lt (.loc .begin) (.loc .at) (.bin .add (.loc .begin) (.loc .many)))
      (.scons (.asg .found (.catM (.loc .found) (.fls (.acons (.tup (.acons (.bin .sub (.loc .at) (.loc .begin)) (.acons (.loc .plist) .anil))) (.acons (.tup (.acons (.bin .sub (.bin .add (.loc .begin) (.loc .many)) (.loc .at)) (.acons (.loc .plist) .anil))) .anil))))) <|
      .snil)
      (.scons (.expr (.append (.loc .found) (.tup (.acons (.loc .many) (.acons (.loc .plist) .anil))))) <|
      .snil)) <|
    .scons (.asg .begin (.bin .add (.loc .begin) (.loc .many))) <|
    .snil)) <|
  .scons (.frz .found) <|
  .scons (.ret (.loc .found)) <|
  .snil)
noncomputable def p_law_index : List Var := [.cases, .at]
noncomputable def b_law_index : MS :=
  (.scons (.asgN [.index, .begin] (.acons (.int 0) (.acons (.int 0) .anil))) <|
  .scons (.whl (.bin .lt (.loc .begin) (.loc .at))
    (.scons (.asgN [.begin, .index] (.acons (.bin .add (.loc .begin) (.sub (.sub (.loc .cases) (.loc .index)) (.int 0))) (.acons (.bin .add (.loc .index) (.int 1)) .anil))) <|
    .snil)) <|
  .scons (.ret (.loc .index)) <|
  .snil)
noncomputable def p_law_came : List Var := [.cases, .at, .many, .plist]
noncomputable def b_law_came : MS :=
  (.scons (.ife (.eq false (.loc .many) (.int 0))
    (.scons (.ret (.loc .cases)) <|
    .snil)
    (.snil)) <|
  .scons (.asg .cases (.call .law_parted (.acons (.loc .cases) (.acons (.loc .at) .anil)))) <|
  .scons (.asg .index (.call .law_index (.acons (.loc .cases) (.acons (.loc .at) .anil)))) <|
  .scons (.ret (.bin .add (.bin .add (.slTo (.loc .cases) (.loc .index)) (.fls (.acons (.tup (.acons (.loc .many) (.acons (.loc .plist) .anil))) .anil))) (.slFrom (.loc .cases) (.loc .index)))) <|
  .snil)
noncomputable def p_law_gone : List Var := [.cases, .begin, .«end»]
noncomputable def b_law_gone : MS :=
  (.scons (.ife (.eq false (.loc .begin) (.loc .«end»))
    (.scons (.ret (.loc .cases)) <|
    .snil)
    (.snil)) <|
  .scons (.asg .cases (.call .law_parted (.acons (.call .law_parted (.acons (.loc .cases) (.acons (.loc .begin) .anil))) (.acons (.loc .«end») .anil)))) <|
  .scons (.ret (.bin .add (.slTo (.loc .cases) (.call .law_index (.acons (.loc .cases) (.acons (.loc .begin) .anil)))) (.slFrom (.loc .cases) (.call .law_index (.acons (.loc .cases) (.acons (.loc .«end») .anil)))))) <|
  .snil)
noncomputable def p_law_is_as : List Var := [.tree, .cases]
noncomputable def b_law_is_as : MS :=
  (.scons (.asgN [.due, .begin] (.acons (.mls .anil) (.acons (.int 0) .anil))) <|
  .scons (.forT [.many, .plist] (.loc .cases)
    (.scons (.expr (.append (.loc .due) (.tup (.acons (.loc .begin) (.acons (.bin .add (.loc .begin) (.loc .many)) (.acons (.loc .plist) .anil)))))) <|
    .scons (.asg .begin (.bin .add (.loc .begin) (.loc .many))) <|
    .snil)) <|
  .scons (.frz .due) <|
  .scons (.ife (.or (.bin .isnt (.call .tree_error (.acons (.loc .tree) .anil)) .non) (.or (.eq true (.call .interval_rows (.acons (.loc .tree) .anil)) (.loc .due)) (.eq true (.call .text_length (.acons (.loc .tree) .anil)) (.loc .begin))))
    (.scons (.ret (.bool false)) <|
    .snil)
    (.snil)) <|
  .scons (.ife (.eq false (.loc .cases) (.fls .anil))
    (.scons (.ret (.bin .is (.attr (.loc .tree) .root) .non)) <|
    .snil)
    (.snil)) <|
  .scons (.asgN [.ahead, .behind, .first, .last] (.acons (.mls .anil) (.acons (.mls .anil) (.acons (.call .leftmost (.acons (.attr (.loc .tree) .root) .anil)) (.acons (.call .rightmost (.acons (.attr (.loc .tree) .root) .anil)) .anil))))) <|
  .scons (.whl (.and (.bin .isnt (.loc .first) .non) (.bin .le (.len (.loc .ahead)) (.len (.loc .cases))))
    (.scons (.expr (.append (.loc .ahead) (.tup (.acons (.call .own_length (.acons (.loc .first) .anil)) (.acons (.attr (.loc .first) .plist) .anil))))) <|
    .scons (.asg .first (.call .following (.acons (.loc .first) .anil))) <|
    .snil)) <|
  .scons (.whl (.and (.bin .isnt (.loc .last) .non) (.bin .le (.len (.loc .behind)) (.len (.loc .cases))))
    (.scons (.expr (.append (.loc .behind) (.tup (.acons (.call .own_length (.acons (.loc .last) .anil)) (.acons (.attr (.loc .last) .plist) .anil))))) <|
    .scons (.asg .last (.call .preceding (.acons (.loc .last) .anil))) <|
    .snil)) <|
  .scons (.ife (.or (.eq true (.loc .ahead) (.loc .cases)) (.eq true (.loc .behind) (.slRev (.loc .cases))))
    (.scons (.ret (.bool false)) <|
    .snil)
    (.snil)) <|
  .scons (.forT [.start, .«end», .plist] (.loc .due)
    (.scons (.forR2 .at (.loc .start) (.loc .«end»)
      (.scons (.asgT [.node, .place] (.call .find_interval (.acons (.loc .tree) (.acons (.loc .at) .anil)))) <|
      .scons (.ife (.or (.eq true (.loc .place) (.loc .start)) (.or (.eq true (.call .own_length (.acons (.loc .node) .anil)) (.bin .sub (.loc .«end») (.loc .start))) (.eq true (.attr (.loc .node) .plist) (.loc .plist))))
        (.scons (.ret (.bool false)) <|
        .snil)
        (.snil)) <|
      .snil)) <|
    .snil)) <|
  .scons (.ret (.bool true)) <|
  .snil)
noncomputable def p_law : List Var := [.script]
noncomputable def b_law : MS :=
  (.scons (.asg .pot (.call .law_pot (.acons (.loc .script) .anil))) <|
  .scons (.asg .many (.call .law_dip (.acons (.loc .pot) (.acons (.int 4) .anil)))) <|
  .scons (.asgN [.tree, .cases] (.acons (.new .IntervalTree (.acons (.loc .many) (.acons (.fls .anil) .anil))) (.acons (.ife (.bin .gt (.loc .many) (.int 0)) (.fls (.acons (.tup (.acons (.loc .many) (.acons (.fls .anil) .anil))) .anil)) (.fls .anil)) .anil))) <|
  .scons (.forR1 .each_turn (.bin .add (.int 4) (.call .law_dip (.acons (.loc .pot) (.acons (.int 6) .anil))))
    (.scons (.asg .size (.sum (.compFst (.loc .cases)))) <|
    .scons (.asgN [.way, .at] (.acons (.call .law_dip (.acons (.loc .pot) (.acons (.int 4) .anil))) (.acons (.call .law_dip (.acons (.loc .pot) (.acons (.bin .add (.loc .size) (.int 1)) .anil))) .anil))) <|
    .scons (.ife (.bin .lt (.loc .way) (.int 2))
      (.scons (.asgN [.many, .plist] (.acons (.call .law_dip (.acons (.loc .pot) (.acons (.int 4) .anil))) (.acons (.fls (.acons (.tup (.acons (.bin .add (.int 1) (.call .law_dip (.acons (.loc .pot) (.acons (.int 3) .anil)))) (.acons (.int 5) .anil))) .anil)) .anil))) <|
      .scons (.expr (.call .insert_interval (.acons (.loc .tree) (.acons (.loc .at) (.acons (.loc .many) (.acons (.loc .plist) .anil)))))) <|
      .scons (.asg .cases (.call .law_came (.acons (.loc .cases) (.acons (.loc .at) (.acons (.loc .many) (.acons (.loc .plist) .anil)))))) <|
      .snil)
      (.scons (.ife (.eq false (.loc .way) (.int 2))
        (.scons (.asg .«end» (.bin .add (.loc .at) (.call .law_dip (.acons (.loc .pot) (.acons (.bin .sub (.bin .add (.loc .size) (.int 1)) (.loc .at)) .anil))))) <|
        .scons (.expr (.call .delete_range (.acons (.loc .tree) (.acons (.loc .at) (.acons (.loc .«end») .anil))))) <|
        .scons (.asg .cases (.call .law_gone (.acons (.loc .cases) (.acons (.loc .at) (.acons (.loc .«end») .anil))))) <|
        .snil)
        (.scons (.expr (.call .split_at (.acons (.loc .tree) (.acons (.loc .at) .anil)))) <|
        .scons (.asg .cases (.call .law_parted (.acons (.loc .cases) (.acons (.loc .at) .anil)))) <|
        .snil)) <|
      .snil)) <|
    .scons (.ife (.not (.call .law_is_as (.acons (.loc .tree) (.acons (.loc .cases) .anil))))
      (.scons (.ret (.bool false)) <|
      .snil)
      (.snil)) <|
    .snil)) <|
  .scons (.ret (.bool true)) <|
  .snil)
noncomputable def params : Fn → List Var
  | .init_Interval => p_init_Interval
  | .init_IntervalTree => p_init_IntervalTree
  | .total_of => p_total_of
  | .own_length => p_own_length
  | .text_length => p_text_length
  | .put_in_stead => p_put_in_stead
  | .set_left => p_set_left
  | .set_right => p_set_right
  | .rotate_right => p_rotate_right
  | .rotate_left => p_rotate_left
  | .right_turn_helps => p_right_turn_helps
  | .left_turn_helps => p_left_turn_helps
  | .settle => p_settle
  | .settle_up => p_settle_up
  | .add_above => p_add_above
  | .find_interval => p_find_interval
  | .leftmost => p_leftmost
  | .rightmost => p_rightmost
  | .following => p_following
  | .preceding => p_preceding
  | .put_behind => p_put_behind
  | .put_ahead => p_put_ahead
  | .split_at => p_split_at
  | .drop_interval => p_drop_interval
  | .insert_interval => p_insert_interval
  | .delete_range => p_delete_range
  | .interval_rows => p_interval_rows
  | .tree_error => p_tree_error
  | .law_pot => p_law_pot
  | .law_dip => p_law_dip
  | .law_parted => p_law_parted
  | .law_index => p_law_index
  | .law_came => p_law_came
  | .law_gone => p_law_gone
  | .law_is_as => p_law_is_as
  | .law => p_law
  | _ => []
noncomputable def body : Fn → MS
  | .init_Interval => b_init_Interval
  | .init_IntervalTree => b_init_IntervalTree
  | .total_of => b_total_of
  | .own_length => b_own_length
  | .text_length => b_text_length
  | .put_in_stead => b_put_in_stead
  | .set_left => b_set_left
  | .set_right => b_set_right
  | .rotate_right => b_rotate_right
  | .rotate_left => b_rotate_left
  | .right_turn_helps => b_right_turn_helps
  | .left_turn_helps => b_left_turn_helps
  | .settle => b_settle
  | .settle_up => b_settle_up
  | .add_above => b_add_above
  | .find_interval => b_find_interval
  | .leftmost => b_leftmost
  | .rightmost => b_rightmost
  | .following => b_following
  | .preceding => b_preceding
  | .put_behind => b_put_behind
  | .put_ahead => b_put_ahead
  | .split_at => b_split_at
  | .drop_interval => b_drop_interval
  | .insert_interval => b_insert_interval
  | .delete_range => b_delete_range
  | .interval_rows => b_interval_rows
  | .tree_error => b_tree_error
  | .law_pot => b_law_pot
  | .law_dip => b_law_dip
  | .law_parted => b_law_parted
  | .law_index => b_law_index
  | .law_came => b_law_came
  | .law_gone => b_law_gone
  | .law_is_as => b_law_is_as
  | .law => b_law
  | _ => .snil
end Mine

section
open PySem PySem.W PyProof.Rows
namespace Mine

/-! The check that a mini text stands for a text of the model. -/

noncomputable def Var.nm (x : Var) : Str := match x with
  | .self => "self" | .total => "total" | .plist => "plist" | .length => "length" | .node => "node" | .tree => "tree" | .other => "other"
  | .parent => "parent" | .son => "son" | .difference => "difference" | .waiting => "waiting" | .top => "top" | .here => "here"
  | .many => "many" | .begin => "begin" | .ahead => "ahead" | .own => "own" | .at => "at" | .fresh => "fresh" | .before => "before"
  | .rest => "rest" | .above => "above" | .moved => "moved" | .left => "left" | .«end» => "end" | .found => "found" | .script => "script"
  | .pot => "pot" | .cases => "cases" | .index => "index" | .due => "due" | .behind => "behind" | .first => "first" | .last => "last"
  | .start => "start" | .place => "place" | .each_turn => "each_turn" | .size => "size" | .way => "way" | .deck => "deck"
  | .nodes => "nodes" | .places => "places" | .lap => "lap"
noncomputable def Fld.nm (f : Fld) : Str := match f with
  | .total => "total" | .plist => "plist" | .left => "left" | .right => "right" | .parent => "parent" | .root => "root"
noncomputable def Cls.nm (c : Cls) : Str := match c with
  | .Interval => "Interval" | .IntervalTree => "IntervalTree"
noncomputable def Fn.nm (f : Fn) : Str := match f with
  | .init_Interval => "__init__" | .init_IntervalTree => "__init__"
  | .total_of => "total_of" | .own_length => "own_length" | .text_length => "text_length" | .put_in_stead => "put_in_stead"
  | .set_left => "set_left" | .set_right => "set_right" | .rotate_right => "rotate_right" | .rotate_left => "rotate_left"
  | .right_turn_helps => "right_turn_helps" | .left_turn_helps => "left_turn_helps" | .settle => "settle" | .settle_up => "settle_up"
  | .add_above => "add_above" | .find_interval => "find_interval" | .leftmost => "leftmost" | .rightmost => "rightmost"
  | .following => "following" | .preceding => "preceding" | .put_behind => "put_behind" | .put_ahead => "put_ahead" | .split_at => "split_at"
  | .drop_interval => "drop_interval" | .insert_interval => "insert_interval" | .delete_range => "delete_range"
  | .interval_rows => "interval_rows" | .tree_error => "tree_error"
  | .law_pot => "_law_pot" | .law_dip => "_law_dip" | .law_parted => "_law_parted" | .law_index => "_law_index" | .law_came => "_law_came"
  | .law_gone => "_law_gone" | .law_is_as => "_law_is_as" | .law_deck => "_law_deck" | .law_draw => "_law_draw" | .law_walked => "_law_walked"
  | .law_found => "_law_found" | .law_spread => "_law_spread" | .law => "law"
/-- the height of a def in the tree of calls -/
noncomputable def Fn.lv (f : Fn) : Nat := match f with
  | .init_Interval => 0 | .init_IntervalTree => 1
  | .total_of => 0 | .own_length => 1 | .text_length => 1 | .put_in_stead => 0
  | .set_left => 0 | .set_right => 0 | .rotate_right => 1 | .rotate_left => 1
  | .right_turn_helps => 1 | .left_turn_helps => 1 | .settle => 2 | .settle_up => 3
  | .add_above => 0 | .find_interval => 2 | .leftmost => 0 | .rightmost => 0
  | .following => 1 | .preceding => 1 | .put_behind => 4 | .put_ahead => 5 | .split_at => 5
  | .drop_interval => 4 | .insert_interval => 6 | .delete_range => 6
  | .interval_rows => 2 | .tree_error => 2
  | .law_pot => 0 | .law_dip => 0 | .law_parted => 0 | .law_index => 0 | .law_came => 1
  | .law_gone => 1 | .law_is_as => 3 | .law_deck => 0 | .law_draw => 0 | .law_walked => 2
  | .law_found => 3 | .law_spread => 3 | .law => 7

noncomputable def opA : Op → Option Operator
  | .add => some .Add | .sub => some .Sub | .mul => some .Mult | .fdiv => some .FloorDiv | .mod => some .Mod | _ => none
noncomputable def opC : Op → Option CmpOp
  | .lt => some .Lt | .le => some .LtE | .gt => some .Gt | .ge => some .GtE | .is => some .Is | .isnt => some .IsNot | _ => none

noncomputable def plainBase : Expr → Bool
  | .Call _ [] _ _ => false
  | _ => true
noncomputable def notStar : Expr → Bool
  | .Starred _ _ => false
  | _ => true
noncomputable def notComp : Expr → Bool
  | .ListComp .. => false | .SetComp .. => false | .DictComp .. => false
  | _ => true
noncomputable def notTuple : Expr → Bool
  | .Tuple .. => false
  | _ => true
noncomputable def notSlice : Expr → Bool
  | .Slice .. => false
  | _ => true
noncomputable def notSet : Expr → Bool
  | .Set .. => false
  | _ => true

/-! what a text of the model is, and the way back -/
theorem nb {P : Prop} (h : false = true) : P := nomatch h
theorem and_t {a b : Bool} (h : (a && b) = true) : a = true ∧ b = true := by cases a <;> cases b <;> first | exact ⟨rfl, rfl⟩ | cases h
theorem not_t {b : Bool} (h : (!b) = true) : b = false := by cases b <;> first | rfl | cases h
@[elab_as_elim] theorem beq_e {α : Type} [BEq α] [LawfulBEq α] {M : α → Prop} {p : α → Bool} {n a : α} (h : (n == a && p n) = true) (c : p a = true → M a) : M n := by
  obtain ⟨h1, h2⟩ := and_t h
  cases eq_of_beq h1
  exact c h2
@[elab_as_elim] theorem beq_c {α : Type} [BEq α] [LawfulBEq α] {M : α → Prop} {q : Bool} {n a : α} (h : (n == a && q) = true) (c : q = true → M a) : M n := @beq_e α _ _ M (fun _ => q) n a h c
theorem and_e {M : Prop} {a b : Bool} (h : (a && b) = true) (c : a = true → b = true → M) : M := c (and_t h).1 (and_t h).2
@[elab_as_elim] theorem emp_e {α : Type} {M : List α → Prop} {p : Bool} {l : List α} (h : (l.isEmpty && p) = true) (c : p = true → M []) : M l := by
  cases l with
  | nil => exact c h
  | cons x l => exact nb h
@[elab_as_elim] theorem nn_e {α : Type} {M : Option α → Prop} {p : Bool} {l : Option α} (h : (l.isNone && p) = true) (c : p = true → M none) : M l := by
  cases l with
  | none => exact c h
  | some x => exact nb h
@[elab_as_elim] theorem so_e {α : Type} {M : Option α → Prop} {p : α → Bool} {l : Option α} (h : l.any p = true) (c : ∀ x, p x = true → M (some x)) : M l := by
  cases l with
  | none => exact nb h
  | some x => exact c x h
noncomputable def asConst (e : Expr) (k : Const → Bool) : Bool := match e with | .Constant c _ _ => k c | _ => false
noncomputable def asName (e : Expr) (k : Str → Bool) : Bool := match e with | .Name n _ => k n | _ => false
noncomputable def asAttr (e : Expr) (k : Expr → Str → Pos → Bool) : Bool := match e with | .Attribute o n p => k o n p | _ => false
noncomputable def asBin (e : Expr) (k : Expr → Operator → Expr → Bool) : Bool := match e with | .BinOp l o r _ => k l o r | _ => false
noncomputable def asCmp (e : Expr) (k : Expr → List CmpOp → List Expr → Bool) : Bool := match e with | .Compare l o r _ => k l o r | _ => false
noncomputable def asUn (e : Expr) (k : UnaryOp → Expr → Bool) : Bool := match e with | .UnaryOp o x _ => k o x | _ => false
noncomputable def asBool (e : Expr) (k : BoolOp → List Expr → Pos → Bool) : Bool := match e with | .BoolOp o x p => k o x p | _ => false
noncomputable def asIf (e : Expr) (k : Expr → Expr → Expr → Bool) : Bool := match e with | .IfExp x y z _ => k x y z | _ => false
noncomputable def asTup (e : Expr) (k : List Expr → Bool) : Bool := match e with | .Tuple xs _ _ => k xs | _ => false
noncomputable def asList (e : Expr) (k : List Expr → Bool) : Bool := match e with | .List xs _ => k xs | _ => false
noncomputable def asCall (e : Expr) (k : Expr → List Expr → List Keyword → Pos → Bool) : Bool := match e with | .Call f xs ks p => k f xs ks p | _ => false
noncomputable def asSub (e : Expr) (k : Expr → Expr → Bool) : Bool := match e with | .Subscript v s _ => k v s | _ => false
noncomputable def asSlice (e : Expr) (k : Option Expr → Option Expr → Option Expr → Bool) : Bool := match e with | .Slice a b c _ => k a b c | _ => false
noncomputable def asComp (e : Expr) (k : Expr → List Comprehension → Scope → Bool) : Bool := match e with | .ListComp e g s _ => k e g s | _ => false
section
variable {e : Expr}
@[elab_as_elim] theorem asConst_e {M : Expr → Prop} {k : Const → Bool} (h : asConst e k = true) (c : ∀ c n p, k c = true → M (.Constant c n p)) : M e := by
  cases e <;> first | exact nb h | exact c _ _ _ h
@[elab_as_elim] theorem asName_e {M : Expr → Prop} {k : Str → Bool} (h : asName e k = true) (c : ∀ n p, k n = true → M (.Name n p)) : M e := by
  cases e <;> first | exact nb h | exact c _ _ h
@[elab_as_elim] theorem asAttr_e {M : Expr → Prop} {k : Expr → Str → Pos → Bool} (h : asAttr e k = true) (c : ∀ o n p, k o n p = true → M (.Attribute o n p)) : M e := by
  cases e <;> first | exact nb h | exact c _ _ _ h
@[elab_as_elim] theorem asBin_e {M : Expr → Prop} {k : Expr → Operator → Expr → Bool} (h : asBin e k = true) (c : ∀ l o r p, k l o r = true → M (.BinOp l o r p)) : M e := by
  cases e <;> first | exact nb h | exact c _ _ _ _ h
@[elab_as_elim] theorem asCmp_e {M : Expr → Prop} {k : Expr → List CmpOp → List Expr → Bool} (h : asCmp e k = true) (c : ∀ l o r p, k l o r = true → M (.Compare l o r p)) : M e := by
  cases e <;> first | exact nb h | exact c _ _ _ _ h
@[elab_as_elim] theorem asUn_e {M : Expr → Prop} {k : UnaryOp → Expr → Bool} (h : asUn e k = true) (c : ∀ o x p, k o x = true → M (.UnaryOp o x p)) : M e := by
  cases e <;> first | exact nb h | exact c _ _ _ h
@[elab_as_elim] theorem asBool_e {M : Expr → Prop} {k : BoolOp → List Expr → Pos → Bool} (h : asBool e k = true) (c : ∀ o x p, k o x p = true → M (.BoolOp o x p)) : M e := by
  cases e <;> first | exact nb h | exact c _ _ _ h
@[elab_as_elim] theorem asIf_e {M : Expr → Prop} {k : Expr → Expr → Expr → Bool} (h : asIf e k = true) (c : ∀ x y z p, k x y z = true → M (.IfExp x y z p)) : M e := by
  cases e <;> first | exact nb h | exact c _ _ _ _ h
@[elab_as_elim] theorem asTup_e {M : Expr → Prop} {k : List Expr → Bool} (h : asTup e k = true) (c : ∀ xs n p, k xs = true → M (.Tuple xs n p)) : M e := by
  cases e <;> first | exact nb h | exact c _ _ _ h
@[elab_as_elim] theorem asList_e {M : Expr → Prop} {k : List Expr → Bool} (h : asList e k = true) (c : ∀ xs p, k xs = true → M (.List xs p)) : M e := by
  cases e <;> first | exact nb h | exact c _ _ h
@[elab_as_elim] theorem asCall_e {M : Expr → Prop} {k : Expr → List Expr → List Keyword → Pos → Bool} (h : asCall e k = true) (c : ∀ f xs ks p, k f xs ks p = true → M (.Call f xs ks p)) : M e := by
  cases e <;> first | exact nb h | exact c _ _ _ _ h
@[elab_as_elim] theorem asSub_e {M : Expr → Prop} {k : Expr → Expr → Bool} (h : asSub e k = true) (c : ∀ v s p, k v s = true → M (.Subscript v s p)) : M e := by
  cases e <;> first | exact nb h | exact c _ _ _ h
@[elab_as_elim] theorem asSlice_e {M : Expr → Prop} {k : Option Expr → Option Expr → Option Expr → Bool} (h : asSlice e k = true) (c : ∀ a b c p, k a b c = true → M (.Slice a b c p)) : M e := by
  cases e <;> first | exact nb h | exact c _ _ _ _ h
@[elab_as_elim] theorem asComp_e {M : Expr → Prop} {k : Expr → List Comprehension → Scope → Bool} (h : asComp e k = true) (c : ∀ x g s p, k x g s = true → M (.ListComp x g s p)) : M e := by
  cases e <;> first | exact nb h | exact c _ _ _ _ h
end
noncomputable def one {α : Type} (l : List α) (k : α → Bool) : Bool := match l with | [a] => k a | _ => false
noncomputable def two {α : Type} (l : List α) (k : α → α → Bool) : Bool := match l with | [a, b] => k a b | _ => false
@[elab_as_elim] theorem one_e {α : Type} {M : List α → Prop} {k : α → Bool} : ∀ {l : List α}, one l k = true → (∀ a, k a = true → M [a]) → M l
  | [], h, _ => nb h
  | [a], h, c => c a h
  | _ :: _ :: _, h, _ => nb h
@[elab_as_elim] theorem two_e {α : Type} {M : List α → Prop} {k : α → α → Bool} : ∀ {l : List α}, two l k = true → (∀ a b, k a b = true → M [a, b]) → M l
  | [], h, _ => nb h
  | [_], h, _ => nb h
  | [a, b], h, c => c a b h
  | _ :: _ :: _ :: _, h, _ => nb h
noncomputable def cStr (c : Const) : Bool := match c with | .str _ => true | _ => false
@[elab_as_elim] theorem cStr_e {M : Const → Prop} {x : Const} (h : cStr x = true) (c : ∀ s, M (.str s)) : M x := by cases x <;> first | exact nb h | exact c _
/-- is it this constant? -/
noncomputable def isC (v : Const) (e : Expr) : Bool := asConst e fun x => x == v && true
@[elab_as_elim] theorem isC_e {M : Expr → Prop} {v : Const} {e : Expr} (h : isC v e = true) (c : ∀ n p, M (.Constant v n p)) : M e :=
  asConst_e h fun _ n p h => beq_c (M := fun x => M (.Constant x n p)) h fun _ => c n p
section
variable {M : Expr → Prop}
/-- a comparison of two -/
noncomputable def asCmp1 (e : Expr) (k : Expr → CmpOp → Expr → Bool) : Bool := asCmp e fun l os rs => one os fun o => one rs fun r => k l o r
@[elab_as_elim] theorem asCmp1_e {e : Expr} {k : Expr → CmpOp → Expr → Bool} (h : asCmp1 e k = true) (c : ∀ l o r p, k l o r = true → M (.Compare l [o] [r] p)) : M e :=
  asCmp_e h fun l os rs p h => one_e (M := fun os => M (.Compare l os rs p)) h fun o h => one_e (M := fun rs => M (.Compare l [o] rs p)) h fun r h => c l o r p h
/-- «x and y», or «x and y and ..» with the rest put together -/
noncomputable def cut (op : BoolOp) (p : Pos) (l : List Expr) (k : Expr → Expr → Bool) : Bool := match l with
  | [x, y] => k x y
  | x :: y :: z :: r => k x (.BoolOp op (y :: z :: r) p)
  | _ => false
@[elab_as_elim] theorem cut_e {M : List Expr → Prop} {op : BoolOp} {p : Pos} {k : Expr → Expr → Bool} : ∀ {l : List Expr}, cut op p l k = true → (∀ x y, k x y = true → M [x, y]) → (∀ x y z r, k x (.BoolOp op (y :: z :: r) p) = true → M (x :: y :: z :: r)) → M l
  | [], h, _, _ => nb h
  | [_], h, _, _ => nb h
  | [x, y], h, c, _ => c x y h
  | x :: y :: z :: r, h, _, c => c x y z r h
noncomputable def asAO (op : BoolOp) (e : Expr) (k : Expr → Expr → Bool) : Bool := asBool e fun o l p => o == op && cut op p l k
@[elab_as_elim] theorem asAO_e {op : BoolOp} {e : Expr} {k : Expr → Expr → Bool} (h : asAO op e k = true) (c : ∀ x y p, k x y = true → M (.BoolOp op [x, y] p)) (d : ∀ x y z r p, k x (.BoolOp op (y :: z :: r) p) = true → M (.BoolOp op (x :: y :: z :: r) p)) : M e :=
  asBool_e h fun o l p h => beq_c (M := fun o => M (.BoolOp o l p)) h fun h => cut_e (M := fun l => M (.BoolOp op l p)) h (fun x y => c x y p) (fun x y z r => d x y z r p)
/-- a call by name, without keywords -/
noncomputable def asNCall (e : Expr) (k : Str → List Expr → Bool) : Bool := asCall e fun f xs ks _ => ks.isEmpty && asName f fun n => k n xs
@[elab_as_elim] theorem asNCall_e {e : Expr} {k : Str → List Expr → Bool} (h : asNCall e k = true) (c : ∀ n xs p pos, k n xs = true → M (.Call (.Name n p) xs [] pos)) : M e :=
  asCall_e h fun f xs ks pos h => emp_e (M := fun ks => M (.Call f xs ks pos)) h fun h => asName_e (M := fun f => M (.Call f xs [] pos)) h fun n p h => c n xs p pos h
/-- a method's call, without keywords -/
noncomputable def asMCall (m : Str) (e : Expr) (k : Expr → List Expr → Bool) : Bool := asCall e fun f xs ks p => ks.isEmpty && asAttr f fun o n ap => n == m && (ap.endLine == p.line && (plainBase o && k o xs))
@[elab_as_elim] theorem asMCall_e {m : Str} {e : Expr} {k : Expr → List Expr → Bool} (h : asMCall m e k = true) (c : ∀ o xs ap pos, (ap.endLine == pos.line) = true → plainBase o = true → k o xs = true → M (.Call (.Attribute o m ap) xs [] pos)) : M e :=
  asCall_e h fun f xs ks pos h => emp_e (M := fun ks => M (.Call f xs ks pos)) h fun h => asAttr_e (M := fun f => M (.Call f xs [] pos)) h fun o n ap h =>
    beq_c (M := fun n => M (.Call (.Attribute o n ap) xs [] pos)) h fun h => and_e h fun h1 h => and_e h fun h2 h => c o xs ap pos h1 h2 h
noncomputable def upTo (e : Expr) (k : Expr → Bool) : Bool := asSlice e fun a b c => a.isNone && (c.isNone && b.any k)
@[elab_as_elim] theorem upTo_e {e : Expr} {k : Expr → Bool} (h : upTo e k = true) (c : ∀ u p, k u = true → M (.Slice none (some u) none p)) : M e :=
  asSlice_e h fun a b d p h => nn_e (M := fun a => M (.Slice a b d p)) h fun h => nn_e (M := fun d => M (.Slice none b d p)) h fun h => so_e (M := fun b => M (.Slice none b none p)) h fun u h => c u p h
noncomputable def onFrom (e : Expr) (k : Expr → Bool) : Bool := asSlice e fun a b c => b.isNone && (c.isNone && a.any k)
@[elab_as_elim] theorem onFrom_e {e : Expr} {k : Expr → Bool} (h : onFrom e k = true) (c : ∀ u p, k u = true → M (.Slice (some u) none none p)) : M e :=
  asSlice_e h fun a b d p h => nn_e (M := fun b => M (.Slice a b d p)) h fun h => nn_e (M := fun d => M (.Slice a none d p)) h fun h => so_e (M := fun a => M (.Slice a none none p)) h fun u h => c u p h
/-- is it «[::-1]»? -/
noncomputable def isRev (e : Expr) : Bool := asSlice e fun a b c => a.isNone && (b.isNone && c.any fun x => asUn x fun o y => o == .USub && isC (.int 1) y)
@[elab_as_elim] theorem isRev_e {e : Expr} (h : isRev e = true) (c : ∀ k p₁ p₂ p, M (.Slice none none (some (.UnaryOp .USub (.Constant (.int 1) k p₁) p₂)) p)) : M e :=
  asSlice_e h fun a b d p h => nn_e (M := fun a => M (.Slice a b d p)) h fun h => nn_e (M := fun b => M (.Slice none b d p)) h fun h => so_e (M := fun d => M (.Slice none none d p)) h fun x h =>
    asUn_e (M := fun x => M (.Slice none none (some x) p)) h fun o y p₂ h => beq_c (M := fun o => M (.Slice none none (some (.UnaryOp o y p₂)) p)) h fun h =>
      isC_e (M := fun y => M (.Slice none none (some (.UnaryOp .USub y p₂)) p)) h fun k p₁ => c k p₁ p₂ p
/-- a comprehension over one sequence, without conditions -/
noncomputable def asComp1 (e : Expr) (k : Expr → Expr → Expr → Scope → Bool) : Bool := asComp e fun x gs s => one gs fun g => g.ifs.isEmpty && (g.is_async == 0 && (notSet g.iter && k x g.target g.iter s))
@[elab_as_elim] theorem asComp1_e {e : Expr} {k : Expr → Expr → Expr → Scope → Bool} (h : asComp1 e k = true) (c : ∀ x t it s p, notSet it = true → k x t it s = true → M (.ListComp x [⟨t, it, [], 0⟩] s p)) : M e :=
  asComp_e h fun x gs s p h => one_e (M := fun gs => M (.ListComp x gs s p)) h fun ⟨t, it, fs, as⟩ h => emp_e (M := fun fs => M (.ListComp x [⟨t, it, fs, as⟩] s p)) h fun h =>
    beq_c (M := fun as => M (.ListComp x [⟨t, it, [], as⟩] s p)) h fun h => and_e h fun h1 h => c x t it s p h1 h
end

section
variable (sc : Scope) (cur : Nat) (av : Fn → Bool)
noncomputable def isLoc (x : Var) (n : Str) : Bool := n == x.nm && sc.names.lookup n == some .local
noncomputable def isGlo (n : Str) : Bool := sc.names.lookup n == some .globalImplicit
/-- a call of a built-in name with one argument -/
noncomputable def bi (b : Str) (e : Expr) (k : Expr → Bool) : Bool := asNCall e fun n xs => n == b && (isGlo sc n && one xs fun a => notStar a && k a)

/-- the scope of a comprehension: its own names, nothing captured -/
noncomputable def compOk (scp : Scope) (xs : List Str) : Bool := scp.kind == .function && scp.names.all (fun y => y.2 != .free && y.2 != .cell && (y.2 != .local || scp.names.lookup y.1 == some .local)) && xs.all (fun x => scp.names.lookup x == some .local)
section
variable {M : Expr → Prop}
/-- «b(x)», x the name -/
noncomputable def asBx (b : Str) (scp : Scope) (e : Expr) (k : Str → Bool) : Bool := asNCall e fun n xs => n == b && (scp.names.lookup n == some .globalImplicit && one xs fun a => asName a k)
@[elab_as_elim] theorem asBx_e {b : Str} {scp : Scope} {e : Expr} {k : Str → Bool} (h : asBx b scp e k = true) (c : ∀ x p q r, scp.names.lookup b = some .globalImplicit → k x = true → M (.Call (.Name b p) [.Name x q] [] r)) : M e :=
  asNCall_e h fun n xs p r h => beq_e (M := fun n => M (.Call (.Name n p) xs [] r)) (p := fun n => scp.names.lookup n == some .globalImplicit && one xs fun a => asName a k) h fun h => and_e h fun h1 h =>
    one_e (M := fun xs => M (.Call (.Name b p) xs [] r)) h fun a h => asName_e (M := fun a => M (.Call (.Name b p) [a] [] r)) h fun x q h => c x p q r (eq_of_beq h1) h
/-- is it the name x, its scope fit for a comprehension? -/
noncomputable def compX (x : Str) (t : Expr) (scp : Scope) : Bool := asName t fun y => y == x && (compOk scp [x] && !(x == ("__debug__" : Str)))
@[elab_as_elim] theorem compX_e {x : Str} {t : Expr} {scp : Scope} (h : compX x t scp = true) (c : ∀ q, compOk scp [x] = true → (x == ("__debug__" : Str)) = false → M (.Name x q)) : M t :=
  asName_e h fun y q h => beq_c (M := fun y => M (.Name y q)) h fun h => and_e h fun h1 h2 => c q h1 (not_t h2)
/-- «b(x) % m» for x in .. -/
noncomputable def asMod (b : Str) (m : Expr → Bool) (e : Expr) (k : Expr → Bool) : Bool := asComp1 e fun x t it s => k it && asBin x fun l o r => o == .Mod && (m r && asBx b s l fun x => compX x t s)
@[elab_as_elim] theorem asMod_e {b : Str} {m : Expr → Bool} {e : Expr} {k : Expr → Bool} (h : asMod b m e k = true)
    (c : ∀ x r t it scp q₁ q₂ q₃ p₁ p, m r = true → scp.names.lookup b = some .globalImplicit → compOk scp [x] = true → (x == ("__debug__" : Str)) = false → notSet it = true → k it = true →
      M (.ListComp (.BinOp (.Call (.Name b q₁) [.Name x q₂] [] q₃) .Mod r p₁) [⟨.Name x t, it, [], 0⟩] scp p)) : M e :=
  asComp1_e h fun x t it s p h0 h => and_e h fun h1 h => asBin_e (M := fun x => M (.ListComp x [⟨t, it, [], 0⟩] s p)) h fun l o r p₁ h =>
    beq_c (M := fun o => M (.ListComp (.BinOp l o r p₁) [⟨t, it, [], 0⟩] s p)) h fun h => and_e h fun h3 h => asBx_e (M := fun l => M (.ListComp (.BinOp l .Mod r p₁) [⟨t, it, [], 0⟩] s p)) h fun x q₁ q₂ q₃ h4 h =>
      compX_e (M := fun t => M (.ListComp (.BinOp (.Call (.Name b q₁) [.Name x q₂] [] q₃) .Mod r p₁) [⟨t, it, [], 0⟩] s p)) h fun q h5 h6 => c x r q it s q₁ q₂ q₃ p₁ p h3 h4 h5 h6 h0 h1
noncomputable def isTen30 (e : Expr) : Bool := asBin e fun l o r => o == .Pow && (isC (.int 10) l && isC (.int 30) r)
@[elab_as_elim] theorem isTen30_e {e : Expr} (h : isTen30 e = true) (c : ∀ k₁ k₂ p₁ p₂ p, M (.BinOp (.Constant (.int 10) k₁ p₁) .Pow (.Constant (.int 30) k₂ p₂) p)) : M e :=
  asBin_e h fun l o r p h => beq_c (M := fun o => M (.BinOp l o r p)) h fun h => and_e h fun h2 h3 => isC_e (M := fun l => M (.BinOp l .Pow r p)) h2 fun k₁ p₁ => isC_e (M := fun r => M (.BinOp _ .Pow r p)) h3 fun k₂ p₂ => c k₁ k₂ p₁ p₂ p
/-- «x for x, z in ..» -/
noncomputable def asFst (e : Expr) (k : Expr → Bool) : Bool := asComp1 e fun x t it s => k it && asName x fun x => asTup t fun ts => two ts fun a b => asName a fun y => y == x && asName b fun z => !(x == z) && (compOk s [x, z] && !(x == ("__debug__" : Str)))
@[elab_as_elim] theorem asFst_e {e : Expr} {k : Expr → Bool} (h : asFst e k = true)
    (c : ∀ x z it scp q₀ q₁ q₂ n tp p, (x == z) = false → compOk scp [x, z] = true → (x == ("__debug__" : Str)) = false → notSet it = true → k it = true → M (.ListComp (.Name x q₀) [⟨.Tuple [.Name x q₁, .Name z q₂] n tp, it, [], 0⟩] scp p)) : M e :=
  asComp1_e h fun x t it s p h0 h => and_e h fun h1 h => asName_e (M := fun x => M (.ListComp x [⟨t, it, [], 0⟩] s p)) h fun x q₀ h => asTup_e (M := fun t => M (.ListComp (.Name x q₀) [⟨t, it, [], 0⟩] s p)) h fun ts n tp h =>
    two_e (M := fun ts => M (.ListComp (.Name x q₀) [⟨.Tuple ts n tp, it, [], 0⟩] s p)) h fun a b h => asName_e (M := fun a => M (.ListComp (.Name x q₀) [⟨.Tuple [a, b] n tp, it, [], 0⟩] s p)) h fun y q₁ h =>
      beq_c (M := fun y => M (.ListComp (.Name x q₀) [⟨.Tuple [.Name y q₁, b] n tp, it, [], 0⟩] s p)) h fun h =>
        asName_e (M := fun b => M (.ListComp (.Name x q₀) [⟨.Tuple [.Name x q₁, b] n tp, it, [], 0⟩] s p)) h fun z q₂ h => and_e h fun h3 h => and_e h fun h4 h5 => c x z it s q₀ q₁ q₂ n tp p (not_t h3) h4 (not_t h5) h0 h1
end

mutual
noncomputable def isE : ME → Expr → Bool
  | .non, e => isC .none e
  | .bool b, e => isC (.bool b) e
  | .int i, e => isC (.int i) e
  | .str, e => asConst e cStr
  | .ten30, _ => false
  | .loc x, e => asName e fun n => isLoc sc x n
  | .attr a f, e => asAttr e fun o n _ => n == f.nm && (plainBase o && isE a o)
  | .bin op a b, e => (asBin e fun l o r => opA op == some o && (isE a l && isE b r)) || (asCmp1 e fun l o r => opC op == some o && (!behindInMarks o r && (isE a l && isE b r)))
  | .eq neg a b, e => asCmp1 e fun l o r => o == (if neg then CmpOp.NotEq else CmpOp.Eq) && (!behindInMarks o r && (isE a l && isE b r))
  | .chain o₁ o₂ a b d, e => asCmp e fun l os rs => two os fun p q => two rs fun r s => opC o₁ == some p && (opC o₂ == some q && (!lastMarks [p, q] [r, s] && (isE a l && (isE b r && isE d s))))
  | .not a, e => asUn e fun o x => o == .Not && isE a x
  | .and a b, e => asAO .And e fun x y => isE a x && isE b y
  | .or a b, e => asAO .Or e fun x y => isE a x && isE b y
  | .ife t a b, e => asIf e fun x y z => isE t x && (isE a y && isE b z)
  | .anil, _ => false
  | .acons _ _, _ => false
  | .tup es, e => asTup e fun xs => decide (xs.length ≤ 100) && isAs es xs
  | .fls es, e => asList e fun xs => decide (xs.length ≤ 100) && isAs es xs
  | .mls es, e => asList e fun xs => decide (xs.length ≤ 100) && isAs es xs
  | .call f es, e => asNCall e fun n xs => n == f.nm && (isGlo sc n && (av f && (decide (f.lv < cur) && (!xs.isEmpty && isAs es xs))))
  | .new k es, e => asNCall e fun n xs => n == k.nm && (isGlo sc n && (decide ((initOf k).lv < cur) && (!xs.isEmpty && isAs es xs)))
  | .len a, e => bi sc "len" e fun x => isE a x
  | .abs a, e => bi sc "abs" e fun x => isE a x
  | .sum a, e => bi sc "sum" e fun x => isE a x
  | .toInt a, e => bi sc "int" e fun x => isE a x
  | .toList a, e => bi sc "list" e fun x => isE a x
  | .append a x, e => asMCall "append" e fun o xs => isE a o && one xs fun y => notStar y && isE x y
  | .pop a, e => asMCall "pop" e fun o xs => xs.isEmpty && isE a o
  | .popAt0 a, e => asMCall "pop" e fun o xs => isE a o && one xs fun y => isC (.int 0) y
  | .extend a es, e => asMCall "extend" e fun o xs => isE a o && one xs fun y => asList y fun xs => decide (xs.length ≤ 100) && isAs es xs
  | .sub a i, e => asSub e fun v s => notSlice s && (isE a v && isE i s)
  | .slTo a i, e => asSub e fun v s => isE a v && upTo s fun u => isE i u
  | .slFrom a i, e => asSub e fun v s => isE a v && onFrom s fun u => isE i u
  | .slRev a, e => asSub e fun v s => isE a v && isRev s
  | .catM a b, e => asBin e fun l o r => o == .Add && (isE a l && isE b r)
  | .compMod a, e => asMod "int" (isC (.int 1009)) e fun it => isE a it
  | .compAbs a, e => asMod "abs" isTen30 e fun it => isE a it
  | .compFst a, e => asFst e fun it => isE a it
noncomputable def isAs : ME → List Expr → Bool
  | .anil, es => es.isEmpty
  | .acons a as, es => es.head?.any fun e => notStar e && (isE a e && isAs as es.tail)
  | _, _ => false
end

noncomputable def isNames (sc : Scope) : List Var → List Expr → Bool
  | [], es => es.isEmpty
  | x :: xs, es => es.head?.any fun e => asName e fun n => isLoc sc x n && isNames sc xs es.tail

/-- is the pair of tuples one that the model stores straight on, or one whose stores it turns round? either is told -/
noncomputable def swapOk (ts vs : List Expr) : Bool :=
  !(ts.length == 2 || ts.length == 3) ||
  (!(vs.any fun | .Starred .. => true | _ => false) && ts.all (fun t => t.pos.line == (ts.head?.map (·.pos.line)).getD 0) &&
    (vs.all (foldedForSure 8) || !vs.all (constantsAlone 8)))

noncomputable def asAsg (s : Stmt) (k : Expr → Expr → Bool) : Bool := match s with | .Assign ts v _ => one ts fun t => k t v | _ => false
noncomputable def asExp (s : Stmt) (k : Expr → Bool) : Bool := match s with | .Expr v _ => k v | _ => false
noncomputable def asIfS (s : Stmt) (k : Expr → List Stmt → List Stmt → Bool) : Bool := match s with | .If x y z _ => k x y z | _ => false
noncomputable def asWhl (s : Stmt) (k : Expr → List Stmt → Bool) : Bool := match s with | .While x y z _ => z.isEmpty && k x y | _ => false
noncomputable def asFor (s : Stmt) (k : Expr → Expr → List Stmt → Bool) : Bool := match s with | .For t it y z _ => z.isEmpty && k t it y | _ => false
noncomputable def asRet (s : Stmt) (k : Option Expr → Bool) : Bool := match s with | .Return v _ => k v | _ => false
section
variable {s : Stmt}
@[elab_as_elim] theorem asAsg_e {M : Stmt → Prop} {k : Expr → Expr → Bool} (h : asAsg s k = true) (c : ∀ t v p, k t v = true → M (.Assign [t] v p)) : M s := by
  cases s <;> first | exact nb h | exact one_e (M := fun ts => M (.Assign ts _ _)) h fun t h => c t _ _ h
@[elab_as_elim] theorem asExp_e {M : Stmt → Prop} {k : Expr → Bool} (h : asExp s k = true) (c : ∀ v p, k v = true → M (.Expr v p)) : M s := by
  cases s <;> first | exact nb h | exact c _ _ h
@[elab_as_elim] theorem asIfS_e {M : Stmt → Prop} {k : Expr → List Stmt → List Stmt → Bool} (h : asIfS s k = true) (c : ∀ x y z p, k x y z = true → M (.If x y z p)) : M s := by
  cases s <;> first | exact nb h | exact c _ _ _ _ h
@[elab_as_elim] theorem asWhl_e {M : Stmt → Prop} {k : Expr → List Stmt → Bool} (h : asWhl s k = true) (c : ∀ x y p, k x y = true → M (.While x y [] p)) : M s := by
  cases s <;> first | exact nb h | exact emp_e (M := fun z => M (.While _ _ z _)) h fun h => c _ _ _ h
@[elab_as_elim] theorem asFor_e {M : Stmt → Prop} {k : Expr → Expr → List Stmt → Bool} (h : asFor s k = true) (c : ∀ t it y p, k t it y = true → M (.For t it y [] p)) : M s := by
  cases s <;> first | exact nb h | exact emp_e (M := fun z => M (.For _ _ _ z _)) h fun h => c _ _ _ _ h
@[elab_as_elim] theorem asRet_e {M : Stmt → Prop} {k : Option Expr → Bool} (h : asRet s k = true) (c : ∀ v p, k v = true → M (.Return v p)) : M s := by
  cases s <;> first | exact nb h | exact c _ _ h
end

mutual
noncomputable def isS : MS → Stmt → Bool
  | .asg x e, s => asAsg s fun t v => asName t fun n => isLoc sc x n && (notComp v && isE sc cur av e v)
  | .asgF o f e, s => asAsg s fun t v => asAttr t fun ov n _ => n == f.nm && (notComp v && (isE sc cur av e v && isE sc cur av o ov))
  | .asgI o i e, s => asAsg s fun t v => asSub t fun ov iv => notComp v && (isE sc cur av e v && (isE sc cur av o ov && isE sc cur av i iv))
  | .asgT xs e, s => asAsg s fun t v => asTup t fun ts => isNames sc xs ts && (notComp v && (notTuple v && isE sc cur av e v))
  | .asgN xs es, s => asAsg s fun t v => asTup t fun ts => asTup v fun vs => decide xs.Nodup && (ts.length == vs.length && (isNames sc xs ts && (swapOk ts vs && isAs sc cur av es vs)))
  | .expr e, s => asExp s fun v => notComp v && isE sc cur av e v
  | .ife t a b, s => asIfS s fun x y z => isE sc cur av t x && (isSs a y && isSs b z)
  | .whl t b, s => asWhl s fun x y => isE sc cur av t x && isSs b y
  | .for1 x e b, s => asFor s fun t it y => asName t fun n => isLoc sc x n && (notSet it && (isE sc cur av e it && isSs b y))
  | .forT xs e b, s => asFor s fun t it y => asTup t fun ts => isNames sc xs ts && (notSet it && (isE sc cur av e it && isSs b y))
  | .forR1 x hi b, s => asFor s fun t it y => asName t fun n => isLoc sc x n && (isSs b y && asNCall it fun r as => r == ("range" : Str) && (isGlo sc r && one as fun h => notStar h && isE sc cur av hi h))
  | .forR2 x lo hi b, s => asFor s fun t it y => asName t fun n => isLoc sc x n && (isSs b y && asNCall it fun r as => r == ("range" : Str) && (isGlo sc r && two as fun l h => notStar l && (notStar h && (isE sc cur av lo l && isE sc cur av hi h))))
  | .ret e, s => asRet s fun v => v.any fun v => isE sc cur av e v
  | .ret0, s => asRet s fun v => v.isNone && true
  | .frz _, _ => false
  | .snil, _ => false
  | .scons _ _, _ => false
noncomputable def isSs : MS → List Stmt → Bool
  | .snil, ss => ss.isEmpty
  | .scons s r, ss => match s with
    | .frz _ => isSs r ss
    | s => ss.head?.any fun t => isS s t && isSs r ss.tail
  | _, _ => false
end
end

/-- the def of a name stands in the written part, with this text -/
noncomputable def fnHas (K : Frag) (av : Fn → Bool) (f : Fn) (a : Addr) (ps : List Var) (b : MS) : Bool := match K.lookup a with
  | some ⟨.type "function", _, .func fd, _⟩ =>
    fd.name == f.nm && decide (fd.params.posonlyargs.length = 0) && fd.params.args.map (·.arg) == ps.map Var.nm && fd.params.vararg.isNone && decide (fd.params.kwonlyargs.length = 0) && fd.params.kwarg.isNone && fd.defaults == .none && decide (ps.map Var.nm).Nodup &&
    (match fd.body with | .stmts ss => isSs fd.scope f.lv av b ss | .expr _ => false) &&
    fd.scope.kind == .function && !fd.scope.isGenerator && !fd.scope.isCoroutine && fd.scope.names.all (fun x => x.2 != .cell) &&
    ps.all (fun x => fd.scope.names.lookup x.nm == some .local) && fd.globals == mainGlobals && fd.closure.isEmpty && fd.builtins == builtinsNs && codeIn K fd.code fd.qualname
  | _ => false

end Mine

end
section
open PySem PySem.W PyProof.Rows
namespace Mine

/-! The relation of the mini heap to the model's heap. -/

abbrev Own := Nat → Option Nat

mutual
noncomputable def RV (own : Own) (hp : Heap) : V → Value → Prop
  | .none, x => x = .none
  | .bool b, x => x = .bool b
  | .int i, x => ∃ t, x = .int i t
  | .str, x => ∃ s t, x = .str s t
  | .ref a, x => x = .ref a
  | .tup vs, x => ∃ a its, x = .ref a ∧ own a = none ∧ IsTup hp a (List.toArray its) ∧ RVs own hp vs its
  | .fl vs, x => ∃ a its, x = .ref a ∧ own a = none ∧ hp.IsList a (List.toArray its) ∧ RVs own hp vs its
noncomputable def RVs (own : Own) (hp : Heap) : List V → List Value → Prop
  | [], its => its = []
  | v :: vs, its => ∃ x xs, its = x :: xs ∧ RV own hp v x ∧ RVs own hp vs xs
end

/-- what no step of the code may touch: the sequences that nobody owns -/
noncomputable def Keep (own : Own) (hp : Heap) (own' : Own) (hp' : Heap) : Prop :=
  ∀ a o, own a = none → hp.get? a = some o → (∃ xs n, o.data = .seq xs n) → own' a = none ∧ hp'.get? a = some o
/-- nothing that nobody owns is touched -/
noncomputable def Grow (own : Own) (hp : Heap) (own' : Own) (hp' : Heap) : Prop :=
  ∀ a o, own a = none → hp.get? a = some o → own' a = none ∧ hp'.get? a = some o
noncomputable def GrowL (L : Nat) (own : Own) (hp : Heap) (own' : Own) (hp' : Heap) : Prop :=
  ∀ a o, a ≠ L → own a = none → hp.get? a = some o → own' a = none ∧ hp'.get? a = some o

theorem Grow.refl {own : Own} {hp : Heap} : Grow own hp own hp := fun _ _ h e => ⟨h, e⟩
theorem Grow.trans {o₁ o₂ o₃ : Own} {h₁ h₂ h₃ : Heap} (x : Grow o₁ h₁ o₂ h₂) (y : Grow o₂ h₂ o₃ h₃) : Grow o₁ h₁ o₃ h₃ :=
  fun a o e g => let ⟨p, q⟩ := x a o e g; y a o p q
theorem Grow.keep {o₁ o₂ : Own} {h₁ h₂ : Heap} (x : Grow o₁ h₁ o₂ h₂) : Keep o₁ h₁ o₂ h₂ := fun a o e g _ => x a o e g
theorem Grow.toL {L : Nat} {o₁ o₂ : Own} {h₁ h₂ : Heap} (x : Grow o₁ h₁ o₂ h₂) : GrowL L o₁ h₁ o₂ h₂ := fun a o _ e g => x a o e g
theorem GrowL.refl {L : Nat} {own : Own} {hp : Heap} : GrowL L own hp own hp := fun _ _ _ h e => ⟨h, e⟩
theorem GrowL.trans {L : Nat} {o₁ o₂ o₃ : Own} {h₁ h₂ h₃ : Heap} (x : GrowL L o₁ h₁ o₂ h₂) (y : GrowL L o₂ h₂ o₃ h₃) : GrowL L o₁ h₁ o₃ h₃ :=
  fun a o n e g => let ⟨p, q⟩ := x a o n e g; y a o n p q
theorem Keep.refl {own : Own} {hp : Heap} : Keep own hp own hp := fun _ _ h e _ => ⟨h, e⟩
theorem Keep.trans {o₁ o₂ o₃ : Own} {h₁ h₂ h₃ : Heap} (x : Keep o₁ h₁ o₂ h₂) (y : Keep o₂ h₂ o₃ h₃) : Keep o₁ h₁ o₃ h₃ :=
  fun a o e g d => let ⟨p, q⟩ := x a o e g d; y a o p q d

mutual
theorem RV.keep {o₁ o₂ : Own} {h₁ h₂ : Heap} (k : Keep o₁ h₁ o₂ h₂) : ∀ {v : V} {x : Value}, RV o₁ h₁ v x → RV o₂ h₂ v x
  | .none, _, h => by rw [RV] at h ⊢; exact h
  | .bool _, _, h => by rw [RV] at h ⊢; exact h
  | .int _, _, h => by rw [RV] at h ⊢; exact h
  | .str, _, h => by rw [RV] at h ⊢; exact h
  | .ref _, _, h => by rw [RV] at h ⊢; exact h
  | .tup vs, _, h => by
    rw [RV] at h ⊢
    obtain ⟨a, its, e, n, ⟨o, ho, hc, d, hd⟩, r⟩ := h
    obtain ⟨n', ho'⟩ := k a o n ho ⟨_, _, hd⟩
    exact ⟨a, its, e, n', ⟨o, ho', hc, d, hd⟩, RVs.keep k r⟩
  | .fl vs, _, h => by
    rw [RV] at h ⊢
    obtain ⟨a, its, e, n, ⟨o, ho, hc, d, hd⟩, r⟩ := h
    obtain ⟨n', ho'⟩ := k a o n ho ⟨_, _, hd⟩
    exact ⟨a, its, e, n', ⟨o, ho', hc, d, hd⟩, RVs.keep k r⟩
theorem RVs.keep {o₁ o₂ : Own} {h₁ h₂ : Heap} (k : Keep o₁ h₁ o₂ h₂) : ∀ {vs : List V} {xs : List Value}, RVs o₁ h₁ vs xs → RVs o₂ h₂ vs xs
  | [], _, h => by rw [RVs] at h ⊢; exact h
  | v :: vs, _, h => by
    rw [RVs] at h ⊢
    obtain ⟨x, xs, e, r, rs⟩ := h
    exact ⟨x, xs, e, RV.keep k r, RVs.keep k rs⟩
end

theorem RVs.length {own : Own} {hp : Heap} : ∀ {vs : List V} {xs : List Value}, RVs own hp vs xs → xs.length = vs.length
  | [], _, h => by rw [RVs] at h; subst h; rfl
  | v :: vs, _, h => by
    rw [RVs] at h
    obtain ⟨x, xs, rfl, _, rs⟩ := h
    simp [RVs.length rs]
theorem RVs.nil {own : Own} {hp : Heap} : RVs own hp [] [] := by rw [RVs]
theorem RVs.cons {own : Own} {hp : Heap} {v : V} {x : Value} {vs : List V} {xs : List Value} (h : RV own hp v x) (r : RVs own hp vs xs) : RVs own hp (v :: vs) (x :: xs) := by
  rw [RVs]; exact ⟨x, xs, rfl, h, r⟩
theorem RVs.append {own : Own} {hp : Heap} : ∀ {vs ws : List V} {xs ys : List Value}, RVs own hp vs xs → RVs own hp ws ys → RVs own hp (vs ++ ws) (xs ++ ys)
  | [], _, _, _, h, g => by rw [RVs] at h; subst h; exact g
  | v :: vs, _, _, _, h, g => by
    rw [RVs] at h
    obtain ⟨x, xs, rfl, r, rs⟩ := h
    exact .cons r (RVs.append rs g)
theorem RVs.get {own : Own} {hp : Heap} : ∀ {vs : List V} {xs : List Value} {k : Nat} {v : V}, RVs own hp vs xs → vs[k]? = some v → ∃ x, xs[k]? = some x ∧ RV own hp v x
  | [], _, _, _, _, e => by simp at e
  | v :: vs, _, 0, w, h, e => by
    rw [RVs] at h
    obtain ⟨x, xs, rfl, r, rs⟩ := h
    simp at e; subst e; exact ⟨x, by simp, r⟩
  | v :: vs, _, k + 1, w, h, e => by
    rw [RVs] at h
    obtain ⟨x, xs, rfl, r, rs⟩ := h
    simp at e
    obtain ⟨y, hy, ry⟩ := RVs.get rs e
    exact ⟨y, by simpa using hy, ry⟩
theorem RVs.take {own : Own} {hp : Heap} : ∀ {vs : List V} {xs : List Value} (k : Nat), RVs own hp vs xs → RVs own hp (vs.take k) (xs.take k)
  | _, _, 0, _ => by simp [RVs.nil]
  | [], _, k + 1, h => by rw [RVs] at h; subst h; simp [RVs.nil]
  | v :: vs, _, k + 1, h => by
    rw [RVs] at h
    obtain ⟨x, xs, rfl, r, rs⟩ := h
    exact .cons r (RVs.take k rs)
theorem RVs.drop {own : Own} {hp : Heap} : ∀ {vs : List V} {xs : List Value} (k : Nat), RVs own hp vs xs → RVs own hp (vs.drop k) (xs.drop k)
  | _, _, 0, h => by simpa using h
  | [], _, k + 1, h => by rw [RVs] at h; subst h; simp [RVs.nil]
  | v :: vs, _, k + 1, h => by
    rw [RVs] at h
    obtain ⟨x, xs, rfl, r, rs⟩ := h
    exact RVs.drop k rs
theorem RVs.reverse {own : Own} {hp : Heap} : ∀ {vs : List V} {xs : List Value}, RVs own hp vs xs → RVs own hp vs.reverse xs.reverse
  | [], _, h => by rw [RVs] at h; subst h; simp [RVs.nil]
  | v :: vs, _, h => by
    rw [RVs] at h
    obtain ⟨x, xs, rfl, r, rs⟩ := h
    simp only [List.reverse_cons]
    exact RVs.append (RVs.reverse rs) (.cons r .nil)
theorem RVs.replicate {own : Own} {hp : Heap} {v : V} {x : Value} (r : RV own hp v x) : ∀ n : Nat, RVs own hp (List.replicate n v) (List.replicate n x)
  | 0 => .nil
  | n + 1 => .cons r (RVs.replicate r n)
theorem RVs.set {own : Own} {hp : Heap} {w : V} {y : Value} (q : RV own hp w y) : ∀ {vs : List V} {xs : List Value} (k : Nat), RVs own hp vs xs → RVs own hp (vs.set k w) (xs.set k y)
  | [], _, _, h => by rw [RVs] at h; subst h; simp [RVs.nil]
  | v :: vs, _, 0, h => by
    rw [RVs] at h
    obtain ⟨x, xs, rfl, r, rs⟩ := h
    exact .cons q rs
  | v :: vs, _, k + 1, h => by
    rw [RVs] at h
    obtain ⟨x, xs, rfl, r, rs⟩ := h
    exact .cons r (RVs.set q k rs)

/-- the fields of an object, in the order of its dict -/
inductive Ent (own : Own) (hp : Heap) (fs : Fld → Option V) : List Fld → List DictEntry → Prop
  | nil : Ent own hp fs [] []
  | cons {f : Fld} {v : V} {x : Value} {t : Tok} {hs : Int} {flds : List Fld} {es : List DictEntry} : fs f = some v → RV own hp v x → Ent own hp fs flds es →
      Ent own hp fs (f :: flds) (⟨hs, .str f.nm t, x⟩ :: es)

theorem Ent.keep {o₁ o₂ : Own} {h₁ h₂ : Heap} (k : Keep o₁ h₁ o₂ h₂) {fs : Fld → Option V} {flds : List Fld} {es : List DictEntry} (e : Ent o₁ h₁ fs flds es) : Ent o₂ h₂ fs flds es := by
  induction e with
  | nil => exact .nil
  | cons a b _ ih => exact .cons a (b.keep k) ih

structure Cx where
  prog : Program
  w : World
  K : Frag
  base : Heap
  ca : Cls → Addr
  fa : Fn → Addr
  os : OsState

noncomputable def Conc (c : Cx) (own : Own) (hp : Heap) (x : Nat) : Obj → Prop
  | .lst vs => ∃ its n, hp.get? x = some (listOf (List.toArray its) n) ∧ RVs own hp vs its
  | .inst k fs => ∃ dx es n flds, hp.get? x = some (instObj (c.ca k) dx) ∧ own dx = some x ∧ dx ≠ x ∧ hp.get? dx = some (dictOf es n) ∧
      flds.Nodup ∧ Ent own hp fs flds es ∧ ∀ f, f ∉ flds → fs f = none

structure HRel (c : Cx) (own : Own) (h : Hp) (hp : Heap) : Prop where
  keep : ∀ b o, c.base.get? b = some o → hp.get? b = some o
  disj : ∀ a x, own a = some x → c.base.get? a = none ∧ ∃ o, hp.get? a = some o
  conc : ∀ x o, h x = some o → own x = some x ∧ Conc c own hp x o

theorem HRel.sub {c : Cx} {own : Own} {h h' : Hp} {hp : Heap} (H : HRel c own h hp) (s : Sub h' h) : HRel c own h' hp :=
  ⟨H.keep, H.disj, fun x o e => H.conc x o (s x o e)⟩

/-- a step that leaves all that is owned as it was -/
theorem HRel.grow {c : Cx} {own own' : Own} {h : Hp} {hp hp' : Heap} (H : HRel c own h hp) (hk : ∀ b o, c.base.get? b = some o → hp'.get? b = some o)
    (k : Keep own hp own' hp') (hd : ∀ a x, own' a = some x → c.base.get? a = none ∧ ∃ o, hp'.get? a = some o)
    (ho : ∀ a x, own a = some x → own' a = some x ∧ hp'.get? a = hp.get? a) : HRel c own' h hp' := by
  refine ⟨hk, hd, fun x o e => ?_⟩
  obtain ⟨ox, cx⟩ := H.conc x o e
  refine ⟨(ho _ _ ox).1, ?_⟩
  cases o with
  | lst vs =>
    obtain ⟨its, n, hx, r⟩ := cx
    exact ⟨its, n, (ho _ _ ox).2.trans hx, r.keep k⟩
  | inst q fs =>
    obtain ⟨dx, es, n, flds, hx, od, ne, hdx, nd, en, no⟩ := cx
    exact ⟨dx, es, n, flds, (ho _ _ ox).2.trans hx, (ho _ _ od).1, ne, (ho _ _ od).2.trans hdx, nd, en.keep k, no⟩

theorem HRel.fresh {c : Cx} {own : Own} {h : Hp} {hp : Heap} (H : HRel c own h hp) {a : Nat} (ha : hp.get? a = none) : own a = none := by
  cases e : own a with
  | none => rfl
  | some x => obtain ⟨_, o, ho⟩ := H.disj a x e; rw [ha] at ho; cases ho
theorem HRel.gone {c : Cx} {own : Own} {h : Hp} {hp : Heap} (H : HRel c own h hp) {a : Nat} (ha : own a = none) : h a = none := by
  cases e : h a with
  | none => rfl
  | some o => have := (H.conc a o e).1; rw [ha] at this; cases this

/-- what a run of a tree ends in -/
noncomputable def Post1 {β : Type} (rel : Own → Heap → V → β → Prop) (c : Cx) (own : Own) (hp : Heap) (Q : V → Hp → Prop) (x : β) (s' : Shared) : Prop :=
  ∃ v own' h', Q v h' ∧ rel own' s'.heap v x ∧ HRel c own' h' s'.heap ∧ Grow own hp own' s'.heap ∧ s'.os = c.os ∧ s'.gens = #[]

abbrev PostV := Post1 RV
abbrev PostB := Post1 (fun _ _ v (b : Bool) => v = V.bool b)
abbrev PostA := Post1 (fun own hp v (xs : List Value) => ∃ vs, v = V.tup vs ∧ RVs own hp vs xs)

theorem Post1.grow {β : Type} {rel : Own → Heap → V → β → Prop} {c : Cx} {o₁ o₂ : Own} {h₁ h₂ : Heap} {Q : V → Hp → Prop} {x : β} {s' : Shared}
    (g : Grow o₁ h₁ o₂ h₂) (p : Post1 rel c o₂ h₂ Q x s') : Post1 rel c o₁ h₁ Q x s' := by
  obtain ⟨v, own', h', q, r, H, g', os, gn⟩ := p
  exact ⟨v, own', h', q, r, H, g.trans g', os, gn⟩
theorem Post1.imp {β : Type} {rel : Own → Heap → V → β → Prop} {c : Cx} {o₁ : Own} {h₁ : Heap} {Q Q' : V → Hp → Prop} {x : β} {s' : Shared}
    (i : ∀ v h, Q v h → Q' v h) (p : Post1 rel c o₁ h₁ Q x s') : Post1 rel c o₁ h₁ Q' x s' := by
  obtain ⟨v, own', h', q, r⟩ := p
  exact ⟨v, own', h', i _ _ q, r⟩

/-- room on the stack -/
structure Room (A : Around) (n : Nat) : Prop where
  handled : A.handled = none
  depth : A.depth + 8 * n + 20 ≤ 1000
  units : A.units + 40 * n + 200 ≤ 9900

structure FR (c : Cx) (L : Addr) (m : Str → Option Value) (own : Own) (loc : Loc) (h : Hp) (s : Shared) : Prop where
  fr : Fr c.base L s.heap m
  ownL : own L = none
  locs : ∀ x v, loc x = some v → ∃ y, m x.nm = some y ∧ RV own s.heap v y
  hr : HRel c own h s.heap
  os : s.os = c.os
  gens : s.gens = #[]

theorem FR.step {c : Cx} {L : Addr} {m : Str → Option Value} {own own' : Own} {loc : Loc} {h h' : Hp} {s s' : Shared} (F : FR c L m own loc h s)
    (H : HRel c own' h' s'.heap) (g : Grow own s.heap own' s'.heap) (os : s'.os = c.os) (gn : s'.gens = #[]) : FR c L m own' loc h' s' := by
  obtain ⟨oL, es, ep, hL, hd, hk, hf⟩ := F.fr.ns
  obtain ⟨oL', hL'⟩ := g L oL F.ownL hL
  exact ⟨⟨⟨oL, es, ep, hL', hd, hk, hf⟩, H.keep, F.fr.above⟩, oL', fun x v e => let ⟨y, hy, r⟩ := F.locs x v e; ⟨y, hy, r.keep g.keep⟩, H, os, gn⟩
end Mine

end
section
open PySem PySem.W PyProof.Rows
namespace Mine

theorem Grow.ext {own : Own} {hp hp' : Heap} (k : ∀ b o, hp.get? b = some o → hp'.get? b = some o) : Grow own hp own hp' := fun a o e g => ⟨e, k a o g⟩
theorem HRel.ext {c : Cx} {own : Own} {h : Hp} {hp hp' : Heap} (H : HRel c own h hp) (k : ∀ b o, hp.get? b = some o → hp'.get? b = some o) : HRel c own h hp' := by
  refine H.grow (fun b o e => k b o (H.keep b o e)) (Grow.ext k).keep (fun a x e => ?_) (fun a x e => ⟨e, ?_⟩)
  · obtain ⟨b, o, ho⟩ := H.disj a x e
    exact ⟨b, o, k a o ho⟩
  · obtain ⟨b, o, ho⟩ := H.disj a x e
    rw [k a o ho, ho]

noncomputable def setOwn (own : Own) (a x : Nat) : Own := fun b => if b = a then some x else own b

theorem setOwn_ne {own : Own} {a x b : Nat} (h : b ≠ a) : setOwn own a x b = own b := if_neg h
theorem setOwn_eq {own : Own} {a x : Nat} : setOwn own a x a = some x := if_pos rfl
theorem upd_ne {h : Hp} {a b : Nat} {o : Obj} (e : b ≠ a) : upd h a o b = h b := if_neg e
theorem upd_eq {h : Hp} {a : Nat} {o : Obj} : upd h a o a = some o := if_pos rfl
theorem era_ne {h : Hp} {a b : Nat} (e : b ≠ a) : era h a b = h b := if_neg e
theorem era_eq {h : Hp} {a : Nat} : era h a a = none := if_pos rfl

theorem grow_own {own : Own} {hp hp' : Heap} {a x : Nat} (ha : hp.get? a = none) (k : ∀ b o, hp.get? b = some o → hp'.get? b = some o) : Grow own hp (setOwn own a x) hp' := by
  intro b o e g
  have : b ≠ a := fun q => by rw [q, ha] at g; cases g
  exact ⟨(setOwn_ne this).trans e, k b o g⟩

/-- an address that is new becomes somebody's -/
theorem HRel.own {c : Cx} {own : Own} {h : Hp} {hp : Heap} (H : HRel c own h hp) {a x : Nat} (ha : hp.get? a = none) {hp' : Heap} {o : PySem.Obj} (ho : hp'.get? a = some o)
    (k : ∀ b o, hp.get? b = some o → hp'.get? b = some o) : HRel c (setOwn own a x) h hp' := by
  refine H.grow (fun b o e => k b o (H.keep b o e)) (grow_own ha k).keep (fun b y e => ?_) (fun b y e => ?_)
  · by_cases q : b = a
    · subst q
      refine ⟨?_, o, ho⟩
      cases hb : c.base.get? b with
      | none => rfl
      | some ob => rw [H.keep b ob hb] at ha; cases ha
    · rw [setOwn_ne q] at e
      obtain ⟨z, ob, hb⟩ := H.disj b y e
      exact ⟨z, ob, k b ob hb⟩
  · obtain ⟨z, ob, hb⟩ := H.disj b y e
    have q : b ≠ a := fun q => by rw [q, ha] at hb; cases hb
    exact ⟨(setOwn_ne q).trans e, by rw [k b ob hb, hb]⟩

theorem HRel.put {c : Cx} {own : Own} {h : Hp} {hp : Heap} (H : HRel c own h hp) {a : Nat} {o : Obj} (e : own a = some a) (q : Conc c own hp a o) : HRel c own (upd h a o) hp := by
  refine ⟨H.keep, H.disj, fun x ox ex => ?_⟩
  by_cases z : x = a
  · subst z
    rw [upd_eq] at ex
    cases ex
    exact ⟨e, q⟩
  · rw [upd_ne z] at ex
    exact H.conc x ox ex

theorem HRel.newLst {c : Cx} {own : Own} {h : Hp} {hp : Heap} (H : HRel c own h hp) {a : Nat} (ha : hp.get? a = none) {hp' : Heap} {its : List Value} {n : Nat}
    (ho : hp'.get? a = some (listOf its.toArray n)) (k : ∀ b o, hp.get? b = some o → hp'.get? b = some o) {vs : List V} (r : RVs own hp vs its) :
    HRel c (setOwn own a a) (upd h a (.lst vs)) hp' :=
  (H.own (x := a) ha ho k).put setOwn_eq ⟨its, n, ho, r.keep (grow_own ha k).keep⟩

/-- an owned list is changed -/
theorem HRel.updLst {c : Cx} {own : Own} {h : Hp} {hp hp' : Heap} (H : HRel c own h hp) {a : Nat} {vs₀ : List V} (e : h a = some (.lst vs₀)) (sb : Heap.SameBut a hp hp')
    {its : List Value} {n : Nat} (ho : hp'.get? a = some (listOf its.toArray n)) {vs : List V} (r : RVs own hp vs its) : HRel c own (upd h a (.lst vs)) hp' ∧ Grow own hp own hp' := by
  have oa := (H.conc a _ e).1
  have g : Grow own hp own hp' := fun b o eb gb => ⟨eb, (sb.2 b (fun q => by rw [q, oa] at eb; cases eb)).trans gb⟩
  refine ⟨⟨fun b o eb => ?_, fun b x eb => ?_, fun x o ex => ?_⟩, g⟩
  · refine (sb.2 b fun q => ?_).trans (H.keep b o eb)
    rw [q, (H.disj a a oa).1] at eb; cases eb
  · obtain ⟨z, o, hb⟩ := H.disj b x eb
    by_cases q : b = a
    · subst q; exact ⟨z, _, ho⟩
    · exact ⟨z, o, (sb.2 b q).trans hb⟩
  · by_cases q : x = a
    · subst q
      rw [upd_eq] at ex
      cases ex
      exact ⟨oa, its, n, ho, r.keep g.keep⟩
    · rw [upd_ne q] at ex
      obtain ⟨ox, cx⟩ := H.conc x o ex
      refine ⟨ox, ?_⟩
      cases o with
      | lst ws =>
        obtain ⟨its', n', hx, rr⟩ := cx
        exact ⟨its', n', (sb.2 x q).trans hx, rr.keep g.keep⟩
      | inst q' fs =>
        obtain ⟨dx, es, n', flds, hx, od, ne, hdx, nd, en, no⟩ := cx
        refine ⟨dx, es, n', flds, (sb.2 x q).trans hx, od, ne, (sb.2 dx fun z => ?_).trans hdx, nd, en.keep g.keep, no⟩
        rw [z, oa] at od; cases od; exact q rfl

/-- an owned object's dict is changed -/
theorem HRel.updInst {c : Cx} {own : Own} {h : Hp} {hp hp' : Heap} (H : HRel c own h hp) {a dx : Nat} {k : Cls} {fs₀ : Fld → Option V} (e : h a = some (.inst k fs₀))
    (hx : hp.get? a = some (instObj (c.ca k) dx)) (od : own dx = some a) (ne : dx ≠ a) (sb : Heap.SameBut dx hp hp')
    {es : List DictEntry} {n : Nat} (ho : hp'.get? dx = some (dictOf es n)) {fs : Fld → Option V} {flds : List Fld} (nd : flds.Nodup) (en : Ent own hp fs flds es) (no : ∀ f, f ∉ flds → fs f = none) :
    HRel c own (upd h a (.inst k fs)) hp' ∧ Grow own hp own hp' := by
  have oa := (H.conc a _ e).1
  have g : Grow own hp own hp' := fun b o eb gb => ⟨eb, (sb.2 b (fun q => by rw [q, od] at eb; cases eb)).trans gb⟩
  refine ⟨⟨fun b o eb => ?_, fun b x eb => ?_, fun x o ex => ?_⟩, g⟩
  · refine (sb.2 b fun q => ?_).trans (H.keep b o eb)
    rw [q, (H.disj dx a od).1] at eb; cases eb
  · obtain ⟨z, o, hb⟩ := H.disj b x eb
    by_cases q : b = dx
    · subst q; exact ⟨z, _, ho⟩
    · exact ⟨z, o, (sb.2 b q).trans hb⟩
  · by_cases q : x = a
    · subst q
      rw [upd_eq] at ex
      cases ex
      exact ⟨oa, dx, es, n, flds, (sb.2 x (Ne.symm ne)).trans hx, od, ne, ho, nd, en.keep g.keep, no⟩
    · rw [upd_ne q] at ex
      obtain ⟨ox, cx⟩ := H.conc x o ex
      refine ⟨ox, ?_⟩
      have nx : x ≠ dx := fun z => by rw [z, od] at ox; cases ox; exact ne rfl
      cases o with
      | lst ws =>
        obtain ⟨its', n', hx', rr⟩ := cx
        exact ⟨its', n', (sb.2 x nx).trans hx', rr.keep g.keep⟩
      | inst q' fs' =>
        obtain ⟨dx', es', n', flds', hx', od', ne', hdx', nd', en', no'⟩ := cx
        refine ⟨dx', es', n', flds', (sb.2 x nx).trans hx', od', ne', (sb.2 dx' fun z => ?_).trans hdx', nd', en'.keep g.keep, no'⟩
        rw [z, od] at od'; cases od'; exact q rfl

/-- an owned list is let alone from now on -/
noncomputable def relOwn (own : Own) (a : Nat) : Own := fun b => if b = a then none else own b
theorem relOwn_ne {own : Own} {a b : Nat} (h : b ≠ a) : relOwn own a b = own b := if_neg h
theorem relOwn_eq {own : Own} {a : Nat} : relOwn own a a = none := if_pos rfl
theorem grow_rel {own : Own} {hp : Heap} {a : Nat} : Grow own hp (relOwn own a) hp := fun b o e g => by
  by_cases q : b = a
  · subst q; exact ⟨relOwn_eq, g⟩
  · exact ⟨(relOwn_ne q).trans e, g⟩
theorem HRel.frz {c : Cx} {own : Own} {h : Hp} {hp : Heap} (H : HRel c own h hp) {a : Nat} {vs : List V} (e : h a = some (.lst vs)) :
    HRel c (relOwn own a) (era h a) hp ∧ RV (relOwn own a) hp (.fl vs) (.ref a) := by
  obtain ⟨oa, its, n, ha, r⟩ := H.conc a _ e
  refine ⟨⟨H.keep, fun b x eb => ?_, fun x o ex => ?_⟩, ?_⟩
  · by_cases q : b = a
    · subst q; rw [relOwn_eq] at eb; cases eb
    · rw [relOwn_ne q] at eb; exact H.disj b x eb
  · by_cases q : x = a
    · subst q; rw [era_eq] at ex; cases ex
    · rw [era_ne q] at ex
      obtain ⟨ox, cx⟩ := H.conc x o ex
      refine ⟨(relOwn_ne q).trans ox, ?_⟩
      cases o with
      | lst ws =>
        obtain ⟨its', n', hx, rr⟩ := cx
        exact ⟨its', n', hx, rr.keep grow_rel.keep⟩
      | inst q' fs =>
        obtain ⟨dx, es, n', flds, hx, od, ne, hdx, nd, en, no⟩ := cx
        refine ⟨dx, es, n', flds, hx, (relOwn_ne fun z => ?_).trans od, ne, hdx, nd, en.keep grow_rel.keep, no⟩
        rw [z, oa] at od; cases od; exact q rfl
  · rw [RV]
    exact ⟨a, its, rfl, relOwn_eq, ⟨_, ha, rfl, n, rfl⟩, r.keep grow_rel.keep⟩

/-- a new tuple, a new list that nobody will change -/
theorem RV.newTup {own : Own} {hp hp' : Heap} {a : Nat} (oa : own a = none) {its : List Value} {n : Nat} (ho : hp'.get? a = some { cls := .type "tuple", data := .seq its.toArray n })
    (k : ∀ b o, hp.get? b = some o → hp'.get? b = some o) {vs : List V} (r : RVs own hp vs its) : RV own hp' (.tup vs) (.ref a) := by
  rw [RV]; exact ⟨a, its, rfl, oa, ⟨_, ho, rfl, n, rfl⟩, r.keep (Grow.ext k).keep⟩
theorem RV.newFl {own : Own} {hp hp' : Heap} {a : Nat} (oa : own a = none) {its : List Value} {n : Nat} (ho : hp'.get? a = some (listOf its.toArray n))
    (k : ∀ b o, hp.get? b = some o → hp'.get? b = some o) {vs : List V} (r : RVs own hp vs its) : RV own hp' (.fl vs) (.ref a) := by
  rw [RV]; exact ⟨a, its, rfl, oa, ⟨_, ho, rfl, n, rfl⟩, r.keep (Grow.ext k).keep⟩

theorem push_ext {hp : Heap} {o : PySem.Obj} : ∀ b ob, hp.get? b = some ob → (hp.push o).get? b = some ob := fun _ _ e => Heap.get?_push_of_some _ e
theorem size_none {hp : Heap} {a : Nat} (h : hp.objs.size ≤ a) : hp.get? a = none := Heap.get?_none_of_le h

/-- what an object's dict tells of a field -/
theorem nm_inj : ∀ {f g : Fld}, f.nm = g.nm → f = g := by
  intro f g; cases f <;> cases g <;> first | (intro _; rfl) | (intro h; exact absurd h (by decide))
theorem isStr_nm {f : Fld} {g : Str} {t : Tok} : (Value.str f.nm t).isStr g = (f.nm == g) := rfl
theorem Ent.getL {own : Own} {hp : Heap} {fs : Fld → Option V} {flds : List Fld} {es : List DictEntry} (e : Ent own hp fs flds es) {f : Fld} {v : V} (hv : fs f = some v) (no : f ∉ flds → fs f = none) :
    ∃ x, getL f.nm es = some (some x) ∧ RV own hp v x := by
  have hm : f ∈ flds := Classical.byContradiction fun q => by rw [no q] at hv; cases hv
  have : ∃ en, es.find? (·.key.isStr f.nm) = some en ∧ RV own hp v en.val := by
    clear no
    induction e with
    | nil => cases hm
    | @cons g w x t hs flds es hg r _ ih =>
      by_cases q : g = f
      · subst q
        rw [hv] at hg; cases hg
        exact ⟨_, List.find?_cons_of_pos (by rw [isStr_nm]; exact beq_self_eq_true _), r⟩
      · have : (Value.str g.nm t).isStr f.nm = false := by
          rw [isStr_nm]; exact beq_eq_false_iff_ne.mpr fun z => q (nm_inj z)
        obtain ⟨en, h1, h2⟩ := ih (by cases hm with | head => exact absurd rfl q | tail _ h => exact h)
        exact ⟨en, by rw [List.find?_cons]; simp only [this]; exact h1, h2⟩
  obtain ⟨en, h1, h2⟩ := this
  exact ⟨en.val, by unfold PySem.W.getL; rw [h1], h2⟩
theorem Ent.noRef {own : Own} {hp : Heap} {fs : Fld → Option V} {flds : List Fld} {es : List DictEntry} (e : Ent own hp fs flds es) : es.any (·.refKey) = false := by
  induction e with
  | nil => rfl
  | cons _ _ _ ih => rw [List.any_cons, ih]; rfl
theorem Ent.lookSome {own : Own} {hp : Heap} {fs : Fld → Option V} {flds : List Fld} {es : List DictEntry} (e : Ent own hp fs flds es) (x : Str) : (PySem.W.getL x es).isSome = true := by
  unfold PySem.W.getL
  split
  · rfl
  · rw [e.noRef]; rfl
/-- a field is stored -/
theorem Ent.putL {own : Own} {hp : Heap} {fs : Fld → Option V} {flds : List Fld} {es : List DictEntry} (e : Ent own hp fs flds es) (f : Fld) {v : V} {x : Value} (r : RV own hp v x) (hs : Int) (t : Tok) (nd : flds.Nodup) :
    ∃ flds', Ent own hp (setF fs f v) flds' (PySem.W.putL f.nm hs (.str f.nm t) x es) ∧ flds'.Nodup ∧ ∀ g, g ∈ flds' ↔ g = f ∨ g ∈ flds := by
  induction e with
  | nil => exact ⟨[f], .cons (if_pos rfl) r .nil, by simp, by simp⟩
  | @cons g w y t' hs' flds es hg rg en ih =>
    rw [List.nodup_cons] at nd
    by_cases q : g = f
    · subst q
      refine ⟨g :: flds, ?_, List.nodup_cons.mpr nd, fun z => by simp⟩
      have z : (Value.str g.nm t').isStr g.nm = true := by rw [isStr_nm]; exact beq_self_eq_true _
      unfold PySem.W.putL
      rw [if_pos z]
      refine .cons (if_pos rfl) r ?_
      have : ∀ {flds : List Fld} {es : List DictEntry}, g ∉ flds → Ent own hp fs flds es → Ent own hp (setF fs g v) flds es := by
        intro flds es hn en
        induction en with
        | nil => exact .nil
        | @cons k _ _ _ _ _ _ hk rk _ ih => exact .cons ((if_neg fun z => hn (by rw [z]; exact .head _)).trans hk) rk (ih fun m => hn (.tail _ m))
      exact this nd.1 en
    · obtain ⟨flds', h1, h2, h3⟩ := ih nd.2
      refine ⟨g :: flds', ?_, List.nodup_cons.mpr ⟨fun m => ?_, h2⟩, fun z => ?_⟩
      · have : (Value.str g.nm t').isStr f.nm = false := by
          rw [isStr_nm]; exact beq_eq_false_iff_ne.mpr fun z => q (nm_inj z)
        unfold PySem.W.putL
        rw [if_neg (by rw [this]; exact Bool.false_ne_true)]
        exact .cons ((if_neg q).trans hg) rg h1
      · rcases (h3 g).mp m with z | z
        · exact q z
        · exact nd.1 z
      · simp only [List.mem_cons, h3]
        constructor
        · rintro (a | a | a)
          · exact .inr (.inl a)
          · exact .inl a
          · exact .inr (.inr a)
        · rintro (a | a | a)
          · exact .inr (.inl a)
          · exact .inl a
          · exact .inr (.inr a)
theorem Ent.length {own : Own} {hp : Heap} {fs : Fld → Option V} {flds : List Fld} {es : List DictEntry} (e : Ent own hp fs flds es) : es.length = flds.length := by
  induction e with
  | nil => rfl
  | cons _ _ _ ih => simp [ih]
noncomputable def Fld.no : Fld → Nat
  | .total => 0 | .plist => 1 | .left => 2 | .right => 3 | .parent => 4 | .root => 5
theorem nodup_bound : ∀ (n : Nat) (l : List Nat), l.Nodup → (∀ x ∈ l, x < n) → l.length ≤ n
  | 0, l, _, h => by
    cases l with
    | nil => simp
    | cons a l => exact absurd (h a (.head _)) (Nat.not_lt_zero _)
  | n + 1, l, nd, h => by
    have : (l.filter (· != n)).length ≤ n := nodup_bound n _ (nd.filter _) fun x hx => by
      rw [List.mem_filter] at hx
      have := h x hx.1
      have : x ≠ n := by simpa using hx.2
      omega
    have q : l.length ≤ (l.filter (· != n)).length + 1 := by
      clear this h
      induction l with
      | nil => simp
      | cons a l ih =>
        rw [List.nodup_cons] at nd
        by_cases e : a = n
        · subst e
          have : l.filter (· != a) = l := List.filter_eq_self.mpr fun x hx => by
            have : x ≠ a := fun z => nd.1 (z ▸ hx)
            simpa using this
          simp [this]
        · have := ih nd.2
          simp [e]; omega
    omega
theorem flds_le {l : List Fld} (nd : l.Nodup) : l.length ≤ 6 := by
  have : (l.map Fld.no).Nodup := by
    refine List.Pairwise.map _ (fun a b (h : a ≠ b) q => h ?_) nd
    cases a <;> cases b <;> first | rfl | exact absurd q (by decide)
  have := nodup_bound 6 _ this fun x hx => by
    obtain ⟨f, _, rfl⟩ := List.mem_map.mp hx
    cases f <;> decide
  simpa using this
end Mine

end
section
open PySem PySem.W PyProof.Rows
namespace Mine

section
variable {c : Cx} {A : Around} {own : Own} {h : Hp} {s : Shared}

abbrev noE : Value → Shared → Prop := fun _ _ => False

theorem line_le : line ≤ sizeLine := by decide

theorem list_add {l b : Addr} {xs ys : List Value} {Q : Value → Shared → Prop} {E : Value → Shared → Prop} (hl : s.heap.IsList l xs.toArray) (hb : s.heap.IsList b ys.toArray) (hsz : xs.length + ys.length ≤ line)
    (q : Q (.ref s.heap.objs.size) { s with heap := s.heap.push (listOf (xs ++ ys).toArray 0) }) : wpAny (model c.prog c.w) A (binaryOp .Add (.ref l) (.ref b)) Q E s := by
  obtain ⟨⟨cl, d, dt, sl⟩, ho, hc, n, hd⟩ := hl
  obtain ⟨⟨cl', d', dt', sl'⟩, ho', hc', n', hd'⟩ := hb
  dsimp only at hc hd hc' hd'
  subst hc hd hc' hd'
  refine concat_meets ⟨_, ho, rfl⟩ ⟨_, ho', rfl⟩ noFill_list_add seq_list_add PySem.F.slot_list_add PySem.F.entry_list_add (PySem.F.args_list_add_2 _ _)
    (list_addW l b xs.toArray ys.toArray n n' d d' sl sl' (by have := line_le; simp only [List.size_toArray]; omega)) ⟨ho, ho', ?_⟩
  have e : xs.toArray ++ ys.toArray = (xs ++ ys).toArray := by simp
  rw [e]
  exact q

theorem list_rep {l : Addr} {x : Value} {k : Int} {u : Tok} {Q : Value → Shared → Prop} {E : Value → Shared → Prop} (hl : s.heap.IsList l [x].toArray) (h1 : k ≤ 1000) (h2 : -1000 ≤ k)
    (q : Q (.ref s.heap.objs.size) { s with heap := s.heap.push (listOf (List.replicate k.toNat x).toArray 0) }) : wpAny (model c.prog c.w) A (binaryOp .Mult (.ref l) (.int k u)) Q E s := by
  obtain ⟨⟨cl, d, dt, sl⟩, ho, hc, n, hd⟩ := hl
  dsimp only at hc hd
  subst hc hd
  have hz : [x].toArray.size * k.toNat ≤ 1000 := by simp; omega
  refine wpAny_binaryOp_repeat_ref (T := "list") (U := "int") (by decide) ⟨_, ho, rfl⟩ (fun s' => typeIs_int s' k u) noFill_list_mul F.fills_int_mul F.slot_int_rmul repeat_list F.slot_int_index.lookup
    (call_meets F.slot_int_rmul (typeIs_int s k u) F.entry_int_rmul (F.args_int_rmul_2 _ _) (lm_int_rmul_list_any k u l [x].toArray n d sl)
      ⟨ho, rfl, ⟨_, ho, rfl⟩, call_meets F.slot_list_mul ⟨_, ho, rfl⟩ F.entry_list_mul (F.args_list_mul_2 _ _)
        (lm_list_mul_any l [x].toArray n d sl k u (by simp [Builtin.List.listFitsIndex]; omega) (by omega) (by simp [Builtin.List.listTooLong, sizeLine]; omega))
        ⟨ho, ?_⟩⟩)
  have e : List.foldl (fun x1 x2 => x1 ++ x2) #[] (List.replicate (if [x].toArray.isEmpty = true then 0 else k.toNat) [x].toArray) = (List.replicate k.toNat x).toArray := by
    rw [listMul_foldl_if, lm_rep_flat_one]
  rw [e]
  exact q

/-- an end at the same heap -/
theorem here {β : Type} {rel : Own → Heap → V → β → Prop} {Q : V → Hp → Prop} {s' : Shared} {v : V} {x : β} (H : HRel c own h s.heap) (os : s.os = c.os) (gn : s.gens = #[]) (q : Q v h) (r : rel own s.heap v x)
    (eh : s'.heap = s.heap := by rfl) (eo : s'.os = s.os := by rfl) (eg : s'.gens = s.gens := by rfl) : Post1 rel c own s.heap Q x s' := by
  refine ⟨v, own, h, q, ?_, ?_, ?_, eo.trans os, eg.trans gn⟩
  · rw [eh]; exact r
  · rw [eh]; exact H
  · rw [eh]; exact Grow.refl

/-- an end at a heap with something new in it that nobody owns -/
theorem hereNew {β : Type} {rel : Own → Heap → V → β → Prop} {Q : V → Hp → Prop} {s' : Shared} {v : V} {x : β} (H : HRel c own h s.heap) (os : s.os = c.os) (gn : s.gens = #[]) (q : Q v h)
    (k : ∀ b o, s.heap.get? b = some o → s'.heap.get? b = some o) (r : rel own s'.heap v x) (eo : s'.os = s.os := by rfl) (eg : s'.gens = s.gens := by rfl) : Post1 rel c own s.heap Q x s' :=
  ⟨v, own, h, q, r, H.ext k, Grow.ext k, eo.trans os, eg.trans gn⟩

theorem intMul_ok {i j : Int} (hi : smallInt i = true) : IntMulOk i j := by
  simp only [smallInt, Bool.and_eq_true, decide_eq_true_eq] at hi
  exact IntMulOk.of_left (intBits_le_64 (by omega) (by omega))

theorem rv_ref {own : Own} {hp : Heap} {a : Nat} {x : Value} (h : RV own hp (.ref a) x) : x = .ref a := by rwa [RV] at h
theorem rv_int {own : Own} {hp : Heap} {i : Int} {x : Value} (h : RV own hp (.int i) x) : ∃ t, x = .int i t := by rwa [RV] at h
theorem rv_none {own : Own} {hp : Heap} {x : Value} (h : RV own hp .none x) : x = .none := by rwa [RV] at h
theorem rv_bool {own : Own} {hp : Heap} {b : Bool} {x : Value} (h : RV own hp (.bool b) x) : x = .bool b := by rwa [RV] at h
theorem rv_fl {own : Own} {hp : Heap} {vs : List V} {x : Value} (h : RV own hp (.fl vs) x) : ∃ a its, x = .ref a ∧ own a = none ∧ hp.IsList a (List.toArray its) ∧ RVs own hp vs its := by rwa [RV] at h
theorem rv_tup {own : Own} {hp : Heap} {vs : List V} {x : Value} (h : RV own hp (.tup vs) x) : ∃ a its, x = .ref a ∧ own a = none ∧ IsTup hp a (List.toArray its) ∧ RVs own hp vs its := by rwa [RV] at h
theorem mk_int {own : Own} {hp : Heap} {i : Int} {t : Tok} : RV own hp (.int i) (.int i t) := by rw [RV]; exact ⟨t, rfl⟩
theorem mk_bool {own : Own} {hp : Heap} {b : Bool} : RV own hp (.bool b) (.bool b) := by rw [RV]
theorem mk_none {own : Own} {hp : Heap} : RV own hp .none .none := by rw [RV]
theorem mk_ref {own : Own} {hp : Heap} {a : Nat} : RV own hp (.ref a) (.ref a) := by rw [RV]
theorem mk_str {own : Own} {hp : Heap} {x : Str} {t : Tok} : RV own hp .str (.str x t) := by rw [RV]; exact ⟨x, t, rfl⟩

/-- the operators of arithmetic -/
theorem no_v {α : Type} {x : α} {P : Prop} (h : none = some x) : P := nomatch h
theorem ints_s {vx vy r : V} {k : Int → Int → Option V} (h : intsV vx vy k = some r) : ∃ i j, vx = .int i ∧ vy = .int j ∧ k i j = some r := by
  cases vx <;> first | exact no_v h | skip
  cases vy <;> first | exact no_v h | exact ⟨_, _, rfl, rfl, h⟩
theorem ints_v {own : Own} {hp : Heap} {vx vy r : V} {x y : Value} {k : Int → Int → Option V} (h : intsV vx vy k = some r) (rx : RV own hp vx x) (ry : RV own hp vy y) : ∃ i j t u, x = .int i t ∧ y = .int j u ∧ k i j = some r := by
  obtain ⟨i, j, rfl, rfl, e⟩ := ints_s h
  obtain ⟨t, rfl⟩ := rv_int rx
  obtain ⟨u, rfl⟩ := rv_int ry
  exact ⟨i, j, t, u, rfl, rfl, e⟩
theorem addV_s {vx vy r : V} (h : addV vx vy = some r) : intsV vx vy (fun i j => some (.int (i + j))) = some r ∨ ∃ xs ys, vx = .fl xs ∧ vy = .fl ys ∧ xs.length + ys.length ≤ line ∧ r = .fl (xs ++ ys) := by
  cases vx <;> first | exact .inl h | skip
  cases vy <;> first | exact no_v h | skip
  rename_i xs ys
  by_cases z : xs.length + ys.length ≤ line
  · exact .inr ⟨xs, ys, rfl, rfl, z, (Option.some.inj ((if_pos z).symm.trans h)).symm⟩
  · exact no_v ((if_neg z).symm.trans h)
theorem mulV_s {vx vy r : V} (h : mulV vx vy = some r) : intsV vx vy (fun i j => if smallInt i && smallInt j then some (.int (i * j)) else none) = some r ∨ ∃ z j, vx = .fl [z] ∧ vy = .int j ∧ (j ≤ 1000 ∧ -1000 ≤ j) ∧ r = .fl (List.replicate j.toNat z) := by
  cases vx <;> first | exact .inl h | skip
  rename_i xs
  rcases xs with _ | ⟨z, _ | ⟨_, _⟩⟩
  · exact no_v h
  · cases vy <;> first | exact no_v h | skip
    rename_i j
    by_cases w : (decide (j ≤ 1000) && decide (-1000 ≤ j)) = true
    · have w' := and_t w
      exact .inr ⟨z, j, rfl, rfl, ⟨of_decide_eq_true w'.1, of_decide_eq_true w'.2⟩, (Option.some.inj ((if_pos w).symm.trans h)).symm⟩
    · exact no_v ((if_neg w).symm.trans h)
  · exact no_v h
theorem ite_v {p : Prop} [Decidable p] {α : Type} {x y : α} (h : (if p then some x else none) = some y) : p ∧ x = y := by
  by_cases z : p
  · exact ⟨z, Option.some.inj ((if_pos z).symm.trans h)⟩
  · exact no_v ((if_neg z).symm.trans h)
theorem op_arith {op : Op} {o : Operator} {vx vy r : V} {x y : Value} {Q : V → Hp → Prop} (H : HRel c own h s.heap) (os : s.os = c.os) (gn : s.gens = #[]) (e : opA op = some o) (b : binop h op vx vy = some r)
    (rx : RV own s.heap vx x) (ry : RV own s.heap vy y) (q : Q r h) : wpAny (model c.prog c.w) A (binaryOp o x y) (PostV c own s.heap Q) noE s := by
  cases op <;> first | exact no_v e | cases e
  · rcases addV_s b with b | ⟨xs, ys, rfl, rfl, hz, rfl⟩
    · obtain ⟨i, j, t, u, rfl, rfl, b⟩ := ints_v b rx ry
      cases b
      exact add_int (here H os gn q mk_int)
    · obtain ⟨a, xs, rfl, _, hl, rr⟩ := rv_fl rx
      obtain ⟨a', ys, rfl, _, hl', rr'⟩ := rv_fl ry
      refine list_add hl hl' (by rw [rr.length, rr'.length]; exact hz) (hereNew H os gn q push_ext ?_)
      exact RV.newFl (H.fresh (size_none (Nat.le_refl _))) (Heap.get?_push_size _ rfl) push_ext (rr.append rr')
  · obtain ⟨i, j, t, u, rfl, rfl, b⟩ := ints_v b rx ry
    cases b
    exact PySem.P.sub_int (here H os gn q mk_int)
  · rcases mulV_s b with b | ⟨z, j, rfl, rfl, hz, rfl⟩
    · obtain ⟨i, j, t, u, rfl, rfl, b⟩ := ints_v b rx ry
      obtain ⟨hz, rfl⟩ := ite_v b
      exact PyProof.Rows.mul_int (here H os gn q mk_int) (intMul_ok (and_t hz).1)
    · obtain ⟨a, xs, rfl, _, hl, rr⟩ := rv_fl rx
      obtain ⟨u, rfl⟩ := rv_int ry
      rw [RVs] at rr
      obtain ⟨z, zs, rfl, rz, rr⟩ := rr
      rw [RVs] at rr
      subst rr
      refine list_rep hl hz.1 hz.2 (hereNew H os gn q push_ext ?_)
      exact RV.newFl (H.fresh (size_none (Nat.le_refl _))) (Heap.get?_push_size _ rfl) push_ext (RVs.replicate rz _)
  · obtain ⟨i, j, t, u, rfl, rfl, b⟩ := ints_v b rx ry
    obtain ⟨hz, rfl⟩ := ite_v b
    have h1 := of_decide_eq_true (and_t hz).1
    have h2 := of_decide_eq_true (and_t hz).2
    refine floordiv_int (by omega) ?_ (.inl (PyProof.noPylong_small (by omega)))
    rw [Int.fdiv_eq_ediv_of_nonneg _ (by omega)]
    exact here H os gn q mk_int
  · obtain ⟨i, j, t, u, rfl, rfl, b⟩ := ints_v b rx ry
    obtain ⟨hz, rfl⟩ := ite_v b
    refine mod_int' (by omega) ?_
    rw [Int.fmod_eq_emod_of_nonneg _ (by omega)]
    exact here H os gn q mk_int

theorem inst_obj {a : Nat} {k : Cls} {fs : Fld → Option V} (H : HRel c own h s.heap) (e : h a = some (.inst k fs)) : ∃ dx, s.heap.get? a = some (instObj (c.ca k) dx) := by
  obtain ⟨_, dx, _, _, _, hx, _⟩ := H.conc _ _ e
  exact ⟨dx, hx⟩

theorem same_ok {vx vy : V} {b : Bool} {x y : Value} {Q : Bool → Shared → Prop} (H : HRel c own h s.heap) (e : sameV h vx vy = some b)
    (rx : RV own s.heap vx x) (ry : RV own s.heap vy y) (q : Q b s) : wpAny (model c.prog c.w) A (isSame x y) Q noE s := by
  unfold sameV at e
  split at e
  · cases e; obtain rfl := rv_none rx; obtain rfl := rv_none ry; exact wpAny_pure q
  · cases e; obtain rfl := rv_none rx; obtain rfl := rv_ref ry; exact wpAny_pure q
  · cases e; obtain rfl := rv_ref rx; obtain rfl := rv_none ry; exact wpAny_pure q
  · obtain rfl := rv_ref rx; obtain rfl := rv_ref ry
    split at e
    · rename_i z
      cases e; subst z
      unfold isSame
      dsimp only
      rw [if_pos (beq_self_eq_true _)]
      exact wpAny_pure q
    · rename_i a b z
      split at e
      · rename_i c1 f1 c2 f2 h1 h2
        cases e
        obtain ⟨d1, g1⟩ := inst_obj H h1
        obtain ⟨d2, g2⟩ := inst_obj H h2
        unfold isSame
        dsimp only
        rw [if_neg (by rw [beq_iff_eq]; exact z)]
        exact wpAny_bind (wpAny_load g1 (wpAny_bind (wpAny_load g2 (wpAny_pure q))))
      · cases e
  · cases e; rw [RV] at rx; obtain ⟨_, _, rfl⟩ := rx; obtain rfl := rv_none ry; exact wpAny_pure q
  · cases e; obtain ⟨a, _, rfl, _⟩ := rv_fl rx; obtain rfl := rv_none ry; exact wpAny_pure q
  · cases e

/-- the operators of comparison -/
theorem op_cmp {op : Op} {o : CmpOp} {vx vy r : V} {x y : Value} {Q : V → Hp → Prop} (H : HRel c own h s.heap) (os : s.os = c.os) (gn : s.gens = #[]) (e : opC op = some o) (b : binop h op vx vy = some r)
    (rx : RV own s.heap vx x) (ry : RV own s.heap vy y) (q : Q r h) : wpAny (model c.prog c.w) A (compareOp o x y) (PostV c own s.heap Q) noE s := by
  cases op <;> first | exact no_v e | cases e
  · obtain ⟨i, j, t, u, rfl, rfl, b⟩ := ints_v b rx ry
    cases b
    exact PySem.P.lt_int (here H os gn q mk_bool)
  · obtain ⟨i, j, t, u, rfl, rfl, b⟩ := ints_v b rx ry
    cases b
    exact PySem.P.le_int (here H os gn q mk_bool)
  · obtain ⟨i, j, t, u, rfl, rfl, b⟩ := ints_v b rx ry
    cases b
    exact PySem.P.gt_int (here H os gn q mk_bool)
  · obtain ⟨i, j, t, u, rfl, rfl, b⟩ := ints_v b rx ry
    cases b
    exact PySem.P.ge_int (here H os gn q mk_bool)
  · obtain ⟨t, ht, rfl⟩ := Option.map_eq_some_iff.mp b
    show wpAny _ _ (do return Value.bool (← isSame x y)) _ _ _
    exact wpAny_bind (same_ok H ht rx ry (wpAny_pure (here H os gn q mk_bool)))
  · obtain ⟨t, ht, rfl⟩ := Option.map_eq_some_iff.mp b
    show wpAny _ _ (do return Value.bool (!(← isSame x y))) _ _ _
    exact wpAny_bind (same_ok H ht rx ry (wpAny_pure (here H os gn q mk_bool)))
end

/-! equality of data -/
mutual
noncomputable def toP : V → PyData
  | .int i => .int i
  | .tup vs => .tuple (toPs vs)
  | .fl vs => .list (toPs vs)
  | _ => .none
noncomputable def toPs : List V → List PyData
  | [] => []
  | v :: vs => toP v :: toPs vs
end
mutual
theorem reads_of {own : Own} {hp : Heap} : ∀ (n : Nat) {v : V} {x : Value}, RV own hp v x → dataN n v = true → ∃ as, Reads hp x (toP v) as
  | n, .int i, _, r, _ => by obtain ⟨t, rfl⟩ := rv_int r; rw [toP]; exact ⟨_, .int i t⟩
  | n + 1, .tup vs, _, r, d => by
    obtain ⟨a, its, rfl, _, ⟨o, ho, hc, k, hd⟩, rr⟩ := rv_tup r
    obtain ⟨as, q⟩ := reads_all n rr (by simpa [dataN] using d)
    rw [toP]; exact ⟨_, reads_tuple_at ho hc hd (by simpa using q)⟩
  | n + 1, .fl vs, _, r, d => by
    obtain ⟨a, its, rfl, _, ⟨o, ho, hc, k, hd⟩, rr⟩ := rv_fl r
    obtain ⟨as, q⟩ := reads_all n rr (by simpa [dataN] using d)
    rw [toP]; exact ⟨_, reads_list_at ho hc hd (by simpa using q)⟩
  | 0, .tup vs, _, _, d => by simp [dataN] at d
  | 0, .fl vs, _, _, d => by simp [dataN] at d
  | n, .none, _, _, d => by simp [dataN] at d
  | n, .bool _, _, _, d => by simp [dataN] at d
  | n, .str, _, _, d => by simp [dataN] at d
  | n, .ref _, _, _, d => by simp [dataN] at d
theorem reads_all {own : Own} {hp : Heap} : ∀ (n : Nat) {vs : List V} {xs : List Value}, RVs own hp vs xs → (∀ v ∈ vs, dataN n v = true) → ∃ as, ReadsAll hp xs (toPs vs) as
  | n, [], _, r, _ => by rw [RVs] at r; subst r; rw [toPs]; exact ⟨_, .nil⟩
  | n, v :: vs, _, r, d => by
    rw [RVs] at r
    obtain ⟨x, xs, rfl, r1, r2⟩ := r
    obtain ⟨as, q⟩ := reads_of n r1 (d v (.head _))
    obtain ⟨bs, p⟩ := reads_all n r2 fun w hw => d w (.tail _ hw)
    rw [toPs]; exact ⟨_, .cons q p⟩
end
mutual
theorem lay_of : ∀ (n : Nat) {v : V}, dataN n v = true → (toP v).canLay0 = true ∧ (toP v).depth ≤ n
  | n, .int i, _ => by simp [toP, PyData.canLay0, PyData.depth]
  | n + 1, .tup vs, d => by
    have := lay_all n (vs := vs) (by simpa [dataN] using d)
    simp only [toP, PyData.canLay0, PyData.depth]
    exact ⟨this.1, by omega⟩
  | n + 1, .fl vs, d => by
    have := lay_all n (vs := vs) (by simpa [dataN] using d)
    simp only [toP, PyData.canLay0, PyData.depth]
    exact ⟨this.1, by omega⟩
  | 0, .tup vs, d => by simp [dataN] at d
  | 0, .fl vs, d => by simp [dataN] at d
  | n, .none, d => by simp [dataN] at d
  | n, .bool _, d => by simp [dataN] at d
  | n, .str, d => by simp [dataN] at d
  | n, .ref _, d => by simp [dataN] at d
theorem lay_all : ∀ (n : Nat) {vs : List V}, (∀ v ∈ vs, dataN n v = true) → PyData.canLayAll0 (toPs vs) = true ∧ PyData.depthAll (toPs vs) ≤ n
  | n, [], _ => by simp [toPs, PyData.canLayAll0, PyData.depthAll]
  | n, v :: vs, d => by
    have h1 := lay_of n (d v (.head _))
    have h2 := lay_all n (vs := vs) fun w hw => d w (.tail _ hw)
    simp only [toPs, PyData.canLayAll0, PyData.depthAll, h1.1, h2.1, Bool.and_self, true_and]
    have a1 := h1.2
    have a2 := h2.2
    omega
end
mutual
theorem eqv_of : ∀ (n m : Nat) {v w : V}, dataN n v = true → dataN m w = true → PyData.eqv (toP v) (toP w) = peq v w
  | n, m, .int i, w, d, d' => by
    cases w with
    | int j => simp [toP, PyData.eqv, peq]
    | tup _ => simp [toP, PyData.eqv, peq]
    | fl _ => simp [toP, PyData.eqv, peq]
    | _ => simp [dataN] at d'
  | n + 1, m, .tup vs, w, d, d' => by
    cases w with
    | int j => simp [toP, PyData.eqv, peq]
    | fl _ => simp [toP, PyData.eqv, peq]
    | tup ws =>
      cases m with
      | zero => simp [dataN] at d'
      | succ m =>
        simp only [toP, PyData.eqv, peq]
        exact eqv_all n m (by simpa [dataN] using d) (by simpa [dataN] using d')
    | _ => simp [dataN] at d'
  | n + 1, m, .fl vs, w, d, d' => by
    cases w with
    | int j => simp [toP, PyData.eqv, peq]
    | tup _ => simp [toP, PyData.eqv, peq]
    | fl ws =>
      cases m with
      | zero => simp [dataN] at d'
      | succ m =>
        simp only [toP, PyData.eqv, peq]
        exact eqv_all n m (by simpa [dataN] using d) (by simpa [dataN] using d')
    | _ => simp [dataN] at d'
  | 0, _, .tup vs, _, d, _ => by simp [dataN] at d
  | 0, _, .fl vs, _, d, _ => by simp [dataN] at d
  | n, _, .none, _, d, _ => by simp [dataN] at d
  | n, _, .bool _, _, d, _ => by simp [dataN] at d
  | n, _, .str, _, d, _ => by simp [dataN] at d
  | n, _, .ref _, _, d, _ => by simp [dataN] at d
theorem eqv_all : ∀ (n m : Nat) {vs ws : List V}, (∀ v ∈ vs, dataN n v = true) → (∀ v ∈ ws, dataN m v = true) → PyData.eqvAll (toPs vs) (toPs ws) = peqs vs ws
  | n, m, [], ws, _, _ => by cases ws <;> simp [toPs, PyData.eqvAll, peqs]
  | n, m, v :: vs, ws, d, d' => by
    cases ws with
    | nil => simp [toPs, PyData.eqvAll, peqs]
    | cons w ws =>
      have h1 := eqv_of n m (d v (.head _)) (d' w (.head _))
      have h2 := eqv_all n m (vs := vs) (ws := ws) (fun x hx => d x (.tail _ hx)) fun x hx => d' x (.tail _ hx)
      simp only [toPs, PyData.eqvAll, peqs, h1, h2]
end

section
variable {c : Cx} {A : Around} {own : Own} {h : Hp} {s : Shared}

theorem eqArg_reads {v v' : V} {x : Value} (H : HRel c own h s.heap) (e : eqArg h v = some v') (d : dataN 8 v' = true) (r : RV own s.heap v x) : ∃ as, Reads s.heap x (toP v') as := by
  unfold eqArg at e
  split at e
  · rename_i a
    split at e
    · rename_i vs ha
      cases e
      obtain rfl := rv_ref r
      obtain ⟨_, its, n, hx, rr⟩ := H.conc _ _ ha
      obtain ⟨as, q⟩ := reads_all 7 rr (by simpa [dataN] using d)
      rw [toP]; exact ⟨_, reads_list_at hx rfl rfl (by simpa using q)⟩
    · cases e
  · cases e; exact reads_of 8 r d

theorem op_eq {neg : Bool} {vx vy : V} {b : Bool} {x y : Value} {Q : V → Hp → Prop} (R : A.units + 64 < cLine) (H : HRel c own h s.heap) (os : s.os = c.os) (gn : s.gens = #[]) (e : eqV h vx vy = some b)
    (rx : RV own s.heap vx x) (ry : RV own s.heap vy y) (q : Q (.bool (if neg then !b else b)) h) : wpAny (model c.prog c.w) A (compareOp (if neg then .NotEq else .Eq) x y) (PostV c own s.heap Q) noE s := by
  unfold eqV at e
  split at e
  · rename_i x' y' hx hy
    split at e
    · rename_i hd
      rw [Bool.and_eq_true] at hd
      cases e
      obtain ⟨as, ra⟩ := eqArg_reads H hx hd.1 rx
      obtain ⟨bs, rb⟩ := eqArg_reads H hy hd.2 ry
      have la := lay_of 8 hd.1
      have lb := lay_of 8 hd.2
      have sa : SeqAt.shaped (toP x') = true := by unfold SeqAt.shaped; rw [la.1, Bool.true_and]; exact decide_eq_true (Nat.le_trans la.2 (by decide))
      have sb : SeqAt.shaped (toP y') = true := by unfold SeqAt.shaped; rw [lb.1, Bool.true_and]; exact decide_eq_true (Nat.le_trans lb.2 (by decide))
      rw [← eqv_of 8 8 hd.1 hd.2] at q
      cases neg with
      | true => exact ne_dataH ra rb sa sb R (here H os gn q mk_bool)
      | false => exact eq_dataH ra rb sa sb R (here H os gn q mk_bool)
    · cases e
  · cases e
end
end Mine

end
section
open PySem PySem.W PyProof.Rows
namespace Mine

/-! Soundness of the transformer for expressions. -/

noncomputable def bltNames : List Str := ["len", "abs", "sum", "int", "list", "range"]

noncomputable def attrOk (K : Frag) (C : Addr) (x : Str) : Bool := plainGet K C x && hasDictIn K C && findIn K (.ref C) x == some none && takerIn K C x == some none

noncomputable def clsOk (K : Frag) (ca : Cls → Addr) (fa : Fn → Addr) (k : Cls) : Bool :=
  nsIn K mainGlobals k.nm == some (some (.ref (ca k))) && keepIn K (.ref (ca k)) && makesIn K (ca k) && findIn K (.ref (ca k)) "__init__" == some (some (.ref (fa (initOf k)))) && typeIn K (.ref (fa (initOf k))) == some (.type "function") &&
  plainOver K (ca k) && findIn K (.ref (ca k)) "__setattr__" == some (some (.builtin "object.__setattr__")) &&
  [Fld.total, .plist, .left, .right, .parent, .root].all fun f => attrOk K (ca k) f.nm

noncomputable def fnOk (c : Cx) (f : Fn) : Bool := nsIn c.K mainGlobals f.nm == some (some (.ref (c.fa f))) && keepIn c.K (.ref (c.fa f))
structure Glob (c : Cx) (av : Fn → Bool) : Prop where
  X : c.K.In c.base
  T : ∃ p loose mg mb, TopRead p loose mg mb c.base
  tight : c.base.objs.size = 0 ∨ ∃ o, c.base.get? (c.base.objs.size - 1) = some o
  cls : ∀ k, clsOk c.K c.ca c.fa k = true
  fns : ∀ f, av f = true → fnOk c f = true
  blt : bltNames.all (fun b => nsIn c.K mainGlobals b == some none) = true

/-- room for a call -/
structure RoomC (A : Around) (n : Nat) : Prop where
  handled : A.handled = none
  depth : A.depth + 8 * n + 22 ≤ 1000
  units : A.units + 40 * n + 210 ≤ 9900

/-- what the model makes of a call, told in the mini language -/
noncomputable def Sat (c : Cx) : Ctr := fun f args Q h =>
  ∀ (A : Around) (own : Own) (s : Shared) (xs : List Value), RoomC A f.lv → HRel c own h s.heap → s.os = c.os → s.gens = #[] → RVs own s.heap args xs →
    codeAny (model c.prog c.w) A (.call (.ref (c.fa f)) ⟨xs, []⟩) (fun r s' => ∃ x, r = .ok (.ret x) ∧ PostV c own s.heap Q x s') s
section
variable {c : Cx} {A : Around} {env : Env} {L : Addr} {loc : Loc}

noncomputable def Ev (c : Cx) (A : Around) (L : Addr) (loc : Loc) {β : Type} (rel : Own → Heap → V → β → Prop) (t : Sem β) (Q : V → Hp → Prop) (h : Hp) : Prop :=
  ∀ m own s, FR c L m own loc h s → wpAny (model c.prog c.w) A t (Post1 rel c own s.heap Q) noE s

abbrev relB : Own → Heap → V → Bool → Prop := fun _ _ v b => v = V.bool b
abbrev relA : Own → Heap → V → List Value → Prop := fun own hp v xs => ∃ vs, v = V.tup vs ∧ RVs own hp vs xs

theorem Ev.use {β : Type} {rel : Own → Heap → V → β → Prop} {t : Sem β} {Q : V → Hp → Prop} {h : Hp} (e : Ev c A L loc rel t Q h) {m : Str → Option Value} {own : Own} {s : Shared}
    (F : FR c L m own loc h s) {P : β → Shared → Prop} (k : ∀ x s' v own' h', Q v h' → rel own' s'.heap v x → FR c L m own' loc h' s' → Grow own s.heap own' s'.heap → P x s') :
    wpAny (model c.prog c.w) A t P noE s := by
  refine wpAny_mono (e m own s F) (fun x s' p => ?_) fun _ _ e => e
  obtain ⟨v, own', h', q, r, H, g, os, gn⟩ := p
  exact k x s' v own' h' q r (F.step H g os gn) g

theorem Ev.imp {β : Type} {rel : Own → Heap → V → β → Prop} {t : Sem β} {Q Q' : V → Hp → Prop} {h : Hp} (e : Ev c A L loc rel t Q h) (i : ∀ v h, Q v h → Q' v h) : Ev c A L loc rel t Q' h :=
  fun m own s F => wpAny_mono (e m own s F) (fun _ _ p => p.imp i) fun _ _ e => e

/-- a last step from a later state -/
theorem last {β : Type} {rel : Own → Heap → V → β → Prop} {t : Sem β} {Q : V → Hp → Prop} {o₁ o₂ : Own} {h₁ h₂ : Heap} {s : Shared} (g : Grow o₁ h₁ o₂ h₂)
    (e : wpAny (model c.prog c.w) A t (Post1 rel c o₂ h₂ Q) noE s) : wpAny (model c.prog c.w) A t (Post1 rel c o₁ h₁ Q) noE s :=
  wpAny_mono e (fun _ _ p => p.grow g) fun _ _ e => e

theorem fin {β : Type} {rel : Own → Heap → V → β → Prop} {Q : V → Hp → Prop} {h : Hp} {m : Str → Option Value} {own : Own} {s : Shared} {v : V} {x : β}
    (F : FR c L m own loc h s) (q : Q v h) (r : rel own s.heap v x) {s' : Shared} (eh : s'.heap = s.heap := by rfl) (eo : s'.os = s.os := by rfl) (eg : s'.gens = s.gens := by rfl) : Post1 rel c own s.heap Q x s' :=
  here F.hr F.os F.gens q r eh eo eg

theorem opt_some {α : Type} {x : Option α} {k : α → Prop} (h : opt x k) : ∃ a, x = some a ∧ k a := by cases x with | none => exact h.elim | some a => exact ⟨a, rfl, h⟩
theorem tru_bool {v : V} {k : Bool → Prop} (h : tru v k) : ∃ b, v = .bool b ∧ k b := by cases v <;> first | exact ⟨_, rfl, h⟩ | exact h.elim

theorem nm_debug (x : Var) : (x.nm == ("__debug__" : Str)) = false := by cases x <;> decide

variable {qn : Str} {sc : Scope} {fadr : Addr} {cd : Value}

theorem e_loc (hk : sc.kind = .function) {x : Var} {n : Str} {pos : Pos} {Q : V → Hp → Prop} {h : Hp} (hl : isLoc sc x n = true) (w : opt (loc x) fun v => Q v h) :
    Ev c A L loc RV (eval (.Name n pos) (envX qn sc L fadr cd [])) Q h := by
  intro m own s F
  obtain ⟨v, hv, q⟩ := opt_some w
  simp only [isLoc, Bool.and_eq_true, beq_iff_eq] at hl
  obtain ⟨rfl, hl⟩ := hl
  obtain ⟨y, hy, r⟩ := F.locs x v hv
  exact nameX_L F.fr hy (fin F q r) hk hl (nm_debug x)

theorem e_bin {op : Op} {a b : Expr} {o : Operator} {pos : Pos} {Q : V → Hp → Prop} {h : Hp} {Qa : V → Hp → Prop} (ho : opA op = some o)
    (ha : Ev c A L loc RV (eval a env) Qa h) (hb : ∀ x h', Qa x h' → ∃ Qb, Ev c A L loc RV (eval b env) Qb h' ∧ ∀ y h'', Qb y h'' → opt (binop h'' op x y) fun r => Q r h'') :
    Ev c A L loc RV (eval (.BinOp a o b pos) env) Q h := by
  intro m own s F
  refine wpAny_BinOp (ha.use F fun x s₁ v o₁ h₁ q₁ r₁ F₁ g₁ => ?_)
  obtain ⟨Qb, eb, qb⟩ := hb v h₁ q₁
  refine eb.use F₁ fun y s₂ w o₂ h₂ q₂ r₂ F₂ g₂ => ?_
  obtain ⟨r, hr, q⟩ := opt_some (qb w h₂ q₂)
  exact last (g₁.trans g₂) (op_arith F₂.hr F₂.os F₂.gens ho hr (r₁.keep g₂.keep) r₂ q)

theorem e_cmp {op : Op} {a b : Expr} {o : CmpOp} {pos : Pos} {Q : V → Hp → Prop} {h : Hp} {Qa : V → Hp → Prop} (ho : opC op = some o) (hm : behindInMarks o b = false)
    (ha : Ev c A L loc RV (eval a env) Qa h) (hb : ∀ x h', Qa x h' → ∃ Qb, Ev c A L loc RV (eval b env) Qb h' ∧ ∀ y h'', Qb y h'' → opt (binop h'' op x y) fun r => Q r h'') :
    Ev c A L loc RV (eval (.Compare a [o] [b] pos) env) Q h := by
  intro m own s F
  refine wpAny_Compare1 (ha.use F fun x s₁ v o₁ h₁ q₁ r₁ F₁ g₁ => ?_) hm
  obtain ⟨Qb, eb, qb⟩ := hb v h₁ q₁
  refine eb.use F₁ fun y s₂ w o₂ h₂ q₂ r₂ F₂ g₂ => ?_
  obtain ⟨r, hr, q⟩ := opt_some (qb w h₂ q₂)
  exact last (g₁.trans g₂) (op_cmp F₂.hr F₂.os F₂.gens ho hr (r₁.keep g₂.keep) r₂ q)

/-- the truth of a value that is a bool -/
theorem truth {own : Own} {hp : Heap} {v : V} {x : Value} {b : Bool} {s : Shared} {Q : Bool → Shared → Prop} {M : Model} {E : Value → Shared → Prop} (r : RV own hp v x) (e : v = .bool b) (q : Q b s) : wpAny M A (truthy x) Q E s := by
  subst e
  obtain rfl := rv_bool r
  exact wpAny_truthy_bool q

theorem t_cmp {op : Op} {a b : Expr} {o : CmpOp} {pos : Pos} {whole : Sem Value} {Q : V → Hp → Prop} {h : Hp} {Qa : V → Hp → Prop} (ho : opC op = some o) (hm : behindInMarks o b = false)
    (ha : Ev c A L loc RV (eval a env) Qa h) (hb : ∀ x h', Qa x h' → ∃ Qb, Ev c A L loc RV (eval b env) Qb h' ∧ ∀ y h'', Qb y h'' → opt (binop h'' op x y) fun r => tru r fun t => Q (.bool t) h'') :
    Ev c A L loc relB (isTrue (.Compare a [o] [b] pos) env whole) Q h := by
  intro m own s F
  refine wpAny_isTrue_Compare1 (ha.use F fun x s₁ v o₁ h₁ q₁ r₁ F₁ g₁ => ?_) hm
  obtain ⟨Qb, eb, qb⟩ := hb v h₁ q₁
  refine eb.use F₁ fun y s₂ w o₂ h₂ q₂ r₂ F₂ g₂ => ?_
  obtain ⟨r, hr, q⟩ := opt_some (qb w h₂ q₂)
  obtain ⟨t, rfl, q⟩ := tru_bool q
  refine wpAny_mono (op_cmp (Q := fun v' h' => v' = .bool t ∧ Q v' h') F₂.hr F₂.os F₂.gens ho hr (r₁.keep g₂.keep) r₂ ⟨rfl, q⟩) (fun z s₃ p => ?_) fun _ _ e => e
  obtain ⟨v', o₃, h₃, ⟨rfl, q'⟩, r', p⟩ := p
  exact truth r' rfl (Post1.grow (g₁.trans g₂) ⟨_, o₃, h₃, q', rfl, p⟩)

theorem e_eq {neg : Bool} {a b : Expr} {pos : Pos} {Q : V → Hp → Prop} {h : Hp} {Qa : V → Hp → Prop} (R : A.units + 64 < cLine) (hm : behindInMarks (if neg then .NotEq else .Eq) b = false)
    (ha : Ev c A L loc RV (eval a env) Qa h) (hb : ∀ x h', Qa x h' → ∃ Qb, Ev c A L loc RV (eval b env) Qb h' ∧ ∀ y h'', Qb y h'' → opt (eqV h'' x y) fun r => Q (.bool (if neg then !r else r)) h'') :
    Ev c A L loc RV (eval (.Compare a [if neg then .NotEq else .Eq] [b] pos) env) Q h := by
  intro m own s F
  refine wpAny_Compare1 (ha.use F fun x s₁ v o₁ h₁ q₁ r₁ F₁ g₁ => ?_) hm
  obtain ⟨Qb, eb, qb⟩ := hb v h₁ q₁
  refine eb.use F₁ fun y s₂ w o₂ h₂ q₂ r₂ F₂ g₂ => ?_
  obtain ⟨r, hr, q⟩ := opt_some (qb w h₂ q₂)
  exact last (g₁.trans g₂) (op_eq R F₂.hr F₂.os F₂.gens hr (r₁.keep g₂.keep) r₂ q)
theorem t_eq {neg : Bool} {a b : Expr} {pos : Pos} {whole : Sem Value} {Q : V → Hp → Prop} {h : Hp} {Qa : V → Hp → Prop} (R : A.units + 64 < cLine) (hm : behindInMarks (if neg then .NotEq else .Eq) b = false)
    (ha : Ev c A L loc RV (eval a env) Qa h) (hb : ∀ x h', Qa x h' → ∃ Qb, Ev c A L loc RV (eval b env) Qb h' ∧ ∀ y h'', Qb y h'' → opt (eqV h'' x y) fun r => Q (.bool (if neg then !r else r)) h'') :
    Ev c A L loc relB (isTrue (.Compare a [if neg then .NotEq else .Eq] [b] pos) env whole) Q h := by
  intro m own s F
  refine wpAny_isTrue_Compare1 (ha.use F fun x s₁ v o₁ h₁ q₁ r₁ F₁ g₁ => ?_) hm
  obtain ⟨Qb, eb, qb⟩ := hb v h₁ q₁
  refine eb.use F₁ fun y s₂ w o₂ h₂ q₂ r₂ F₂ g₂ => ?_
  obtain ⟨r, hr, q⟩ := opt_some (qb w h₂ q₂)
  refine wpAny_mono (op_eq (Q := fun v' h' => v' = .bool (if neg then !r else r) ∧ Q v' h') R F₂.hr F₂.os F₂.gens hr (r₁.keep g₂.keep) r₂ ⟨rfl, q⟩) (fun z s₃ p => ?_) fun _ _ e => e
  obtain ⟨v', o₃, h₃, ⟨rfl, q'⟩, r', p⟩ := p
  exact truth r' rfl (Post1.grow (g₁.trans g₂) ⟨_, o₃, h₃, q', rfl, p⟩)

theorem e_chain {o₁ o₂ : Op} {p₁ p₂ : CmpOp} {a b d : Expr} {pos : Pos} {Q : V → Hp → Prop} {h : Hp} {Qa : V → Hp → Prop} (e₁ : opC o₁ = some p₁) (e₂ : opC o₂ = some p₂) (hm : lastMarks [p₁, p₂] [b, d] = false)
    (ha : Ev c A L loc RV (eval a env) Qa h)
    (hb : ∀ x h', Qa x h' → ∃ Qb, Ev c A L loc RV (eval b env) Qb h' ∧ ∀ y h'', Qb y h'' → opt (binop h'' o₁ x y) fun r => tru r fun t => if t then ∃ Qd, Ev c A L loc RV (eval d env) Qd h'' ∧ ∀ z h₃, Qd z h₃ → opt (binop h₃ o₂ y z) fun r => Q r h₃ else Q r h'') :
    Ev c A L loc RV (eval (.Compare a [p₁, p₂] [b, d] pos) env) Q h := by
  intro m own s F
  refine Compare_chain (ha.use F fun x s₁ v o₁' h₁ q₁ r₁ F₁ g₁ => ?_) hm
  obtain ⟨Qb, eb, qb⟩ := hb v h₁ q₁
  refine chain_link (eb.use F₁ fun y s₂ w o₂' h₂ q₂ r₂ F₂ g₂ => ?_)
  obtain ⟨r, hr, q⟩ := opt_some (qb w h₂ q₂)
  obtain ⟨t, rfl, q⟩ := tru_bool q
  refine wpAny_mono (op_cmp (Q := fun v' h' => v' = .bool t ∧ h' = h₂) F₂.hr F₂.os F₂.gens e₁ hr (r₁.keep g₂.keep) r₂ ⟨rfl, rfl⟩) (fun z s₃ p => ?_) fun _ _ e => e
  obtain ⟨v', o₃, h₃, ⟨rfl, rfl⟩, r', H₃, g₃, os₃, gn₃⟩ := p
  have F₃ := F₂.step H₃ g₃ os₃ gn₃
  refine truth r' rfl ?_
  cases t with
  | false => exact Post1.grow ((g₁.trans g₂).trans g₃) (fin F₃ q r')
  | true =>
    obtain ⟨Qd, ed, qd⟩ := q
    refine chain_last (ed.use F₃ fun z s₄ w' o₄ h₄ q₄ r₄ F₄ g₄ => ?_)
    obtain ⟨r, hr, q⟩ := opt_some (qd w' h₄ q₄)
    exact last (((g₁.trans g₂).trans g₃).trans g₄) (op_cmp F₄.hr F₄.os F₄.gens e₂ hr ((r₂.keep g₃.keep).keep g₄.keep) r₄ q)
theorem t_chain {o₁ o₂ : Op} {p₁ p₂ : CmpOp} {a b d : Expr} {pos : Pos} {whole : Sem Value} {Q : V → Hp → Prop} {h : Hp} {Qa : V → Hp → Prop} (e₁ : opC o₁ = some p₁) (e₂ : opC o₂ = some p₂) (hm : lastMarks [p₁, p₂] [b, d] = false)
    (ha : Ev c A L loc RV (eval a env) Qa h)
    (hb : ∀ x h', Qa x h' → ∃ Qb, Ev c A L loc RV (eval b env) Qb h' ∧ ∀ y h'', Qb y h'' → opt (binop h'' o₁ x y) fun r => tru r fun t => if t then ∃ Qd, Ev c A L loc RV (eval d env) Qd h'' ∧ ∀ z h₃, Qd z h₃ → opt (binop h₃ o₂ y z) fun r => tru r fun t => Q (.bool t) h₃ else Q r h'') :
    Ev c A L loc relB (isTrue (.Compare a [p₁, p₂] [b, d] pos) env whole) Q h := by
  intro m own s F
  refine isTrue_chain (ha.use F fun x s₁ v o₁' h₁ q₁ r₁ F₁ g₁ => ?_) hm
  obtain ⟨Qb, eb, qb⟩ := hb v h₁ q₁
  refine test_link (eb.use F₁ fun y s₂ w o₂' h₂ q₂ r₂ F₂ g₂ => ?_)
  obtain ⟨r, hr, q⟩ := opt_some (qb w h₂ q₂)
  obtain ⟨t, rfl, q⟩ := tru_bool q
  refine wpAny_mono (op_cmp (Q := fun v' h' => v' = .bool t ∧ h' = h₂) F₂.hr F₂.os F₂.gens e₁ hr (r₁.keep g₂.keep) r₂ ⟨rfl, rfl⟩) (fun z s₃ p => ?_) fun _ _ e => e
  obtain ⟨v', o₃, h₃, ⟨rfl, rfl⟩, r', H₃, g₃, os₃, gn₃⟩ := p
  have F₃ := F₂.step H₃ g₃ os₃ gn₃
  refine truth r' rfl ?_
  cases t with
  | false => exact Post1.grow ((g₁.trans g₂).trans g₃) (fin F₃ q rfl)
  | true =>
    obtain ⟨Qd, ed, qd⟩ := q
    refine test_last (ed.use F₃ fun z s₄ w' o₄ h₄ q₄ r₄ F₄ g₄ => ?_)
    obtain ⟨r, hr, q⟩ := opt_some (qd w' h₄ q₄)
    obtain ⟨t, rfl, q⟩ := tru_bool q
    refine wpAny_mono (op_cmp (Q := fun v' h' => v' = .bool t ∧ Q v' h') F₄.hr F₄.os F₄.gens e₂ hr ((r₂.keep g₃.keep).keep g₄.keep) r₄ ⟨rfl, q⟩) (fun z s₅ p => ?_) fun _ _ e => e
    obtain ⟨v', o₅, h₅, ⟨rfl, q'⟩, r', p⟩ := p
    exact truth r' rfl (Post1.grow (((g₁.trans g₂).trans g₃).trans g₄) ⟨_, o₅, h₅, q', rfl, p⟩)

theorem e_not {x : Expr} {pos : Pos} {Q : V → Hp → Prop} {h : Hp} (ha : Ev c A L loc RV (eval x env) (fun v h => tru v fun b => Q (.bool (!b)) h) h) : Ev c A L loc RV (eval (.UnaryOp .Not x pos) env) Q h := by
  intro m own s F
  refine UnaryOp_ (ha.use F fun y s₁ v o₁ h₁ q₁ r₁ F₁ g₁ => ?_)
  obtain ⟨b, rfl, q⟩ := tru_bool q₁
  exact not_of (truth r₁ rfl (Post1.grow g₁ (fin F₁ q mk_bool)))
theorem t_not {x : Expr} {pos : Pos} {whole : Sem Value} {Q : V → Hp → Prop} {h : Hp} (ha : Ev c A L loc relB (isTrue x env (eval x env)) (fun v h => tru v fun b => Q (.bool (!b)) h) h) : Ev c A L loc relB (isTrue (.UnaryOp .Not x pos) env whole) Q h := by
  intro m own s F
  refine PyProof.Rows.isTrue_not (ha.use F fun y s₁ v o₁ h₁ q₁ r₁ F₁ g₁ => ?_)
  cases r₁
  exact Post1.grow g₁ (fin F₁ q₁ rfl)

theorem e_and {x y : Expr} {es : List Expr} {pos : Pos} {Q : V → Hp → Prop} {h : Hp} (ha : Ev c A L loc RV (eval x env) (fun v h => tru v fun t => if t then Ev c A L loc RV (eval (.BoolOp .And (y :: es) pos) env) Q h else Q v h) h) :
    Ev c A L loc RV (eval (.BoolOp .And (x :: y :: es) pos) env) Q h := by
  intro m own s F
  refine BoolOp_and (ha.use F fun z s₁ v o₁ h₁ q₁ r₁ F₁ g₁ => ?_)
  obtain ⟨b, rfl, q⟩ := tru_bool q₁
  refine truth r₁ rfl ?_
  cases b with
  | false => exact Post1.grow g₁ (fin F₁ q r₁)
  | true => exact last g₁ (q m o₁ s₁ F₁)
theorem t_and {x : Expr} {es : List Expr} {pos : Pos} {whole : Sem Value} {Q : V → Hp → Prop} {h : Hp} (ha : Ev c A L loc relB (isTrue x env (eval x env)) (fun v h => tru v fun t => if t then Ev c A L loc relB (isTrue (.BoolOp .And es pos) env whole) Q h else Q v h) h) :
    Ev c A L loc relB (isTrue (.BoolOp .And (x :: es) pos) env whole) Q h := by
  intro m own s F
  refine PyProof.Rows.isTrue_and (ha.use F fun z s₁ v o₁ h₁ q₁ r₁ F₁ g₁ => ?_)
  cases r₁
  cases z with
  | false => exact Post1.grow g₁ (fin F₁ q₁ rfl)
  | true => exact last g₁ (q₁ m o₁ s₁ F₁)
theorem e_or {x y : Expr} {es : List Expr} {pos : Pos} {Q : V → Hp → Prop} {h : Hp} (ha : Ev c A L loc RV (eval x env) (fun v h => tru v fun t => if t then Q v h else Ev c A L loc RV (eval (.BoolOp .Or (y :: es) pos) env) Q h) h) :
    Ev c A L loc RV (eval (.BoolOp .Or (x :: y :: es) pos) env) Q h := by
  intro m own s F
  refine BoolOp_or (ha.use F fun z s₁ v o₁ h₁ q₁ r₁ F₁ g₁ => ?_)
  obtain ⟨b, rfl, q⟩ := tru_bool q₁
  refine truth r₁ rfl ?_
  cases b with
  | true => exact Post1.grow g₁ (fin F₁ q r₁)
  | false => exact last g₁ (q m o₁ s₁ F₁)
theorem t_or {x : Expr} {es : List Expr} {pos : Pos} {whole : Sem Value} {Q : V → Hp → Prop} {h : Hp} (ha : Ev c A L loc relB (isTrue x env (eval x env)) (fun v h => tru v fun t => if t then Q v h else Ev c A L loc relB (isTrue (.BoolOp .Or es pos) env whole) Q h) h) :
    Ev c A L loc relB (isTrue (.BoolOp .Or (x :: es) pos) env whole) Q h := by
  intro m own s F
  refine PyProof.Rows.isTrue_or (ha.use F fun z s₁ v o₁ h₁ q₁ r₁ F₁ g₁ => ?_)
  cases r₁
  cases z with
  | true => exact Post1.grow g₁ (fin F₁ q₁ rfl)
  | false => exact last g₁ (q₁ m o₁ s₁ F₁)
/-- the last place of an and | or asked as a test -/
theorem t_one_and {x : Expr} {pos : Pos} {whole : Sem Value} {Q : V → Hp → Prop} {h : Hp} (ha : Ev c A L loc relB (isTrue x env (eval x env)) Q h) : Ev c A L loc relB (isTrue (.BoolOp .And [x] pos) env whole) Q h := by
  intro m own s F
  refine PyProof.Rows.isTrue_and (ha.use F fun z s₁ v o₁ h₁ q₁ r₁ F₁ g₁ => ?_)
  cases r₁
  cases z with
  | false => exact Post1.grow g₁ (fin F₁ q₁ rfl)
  | true => exact isTrue_and_nil (Post1.grow g₁ (fin F₁ q₁ rfl))
theorem t_one_or {x : Expr} {pos : Pos} {whole : Sem Value} {Q : V → Hp → Prop} {h : Hp} (ha : Ev c A L loc relB (isTrue x env (eval x env)) Q h) : Ev c A L loc relB (isTrue (.BoolOp .Or [x] pos) env whole) Q h := by
  intro m own s F
  refine PyProof.Rows.isTrue_or (ha.use F fun z s₁ v o₁ h₁ q₁ r₁ F₁ g₁ => ?_)
  cases r₁
  cases z with
  | true => exact Post1.grow g₁ (fin F₁ q₁ rfl)
  | false => exact isTrue_or_nil (Post1.grow g₁ (fin F₁ q₁ rfl))
theorem e_ife {t a b : Expr} {pos : Pos} {Q : V → Hp → Prop} {h : Hp} (ht : Ev c A L loc relB (isTrue t env (eval t env)) (fun v h => tru v fun z => if z then Ev c A L loc RV (eval a env) Q h else Ev c A L loc RV (eval b env) Q h) h) :
    Ev c A L loc RV (eval (.IfExp t a b pos) env) Q h := by
  intro m own s F
  refine IfExp_ (ht.use F fun z s₁ v o₁ h₁ q₁ r₁ F₁ g₁ => ?_)
  cases r₁
  cases z with
  | true => exact last g₁ (q₁ m o₁ s₁ F₁)
  | false => exact last g₁ (q₁ m o₁ s₁ F₁)
theorem t_ife {t a b : Expr} {pos : Pos} {whole : Sem Value} {Q : V → Hp → Prop} {h : Hp} (ht : Ev c A L loc relB (isTrue t env (eval t env)) (fun v h => tru v fun z => if z then Ev c A L loc relB (isTrue a env (eval a env)) Q h else Ev c A L loc relB (isTrue b env (eval b env)) Q h) h) :
    Ev c A L loc relB (isTrue (.IfExp t a b pos) env whole) Q h := by
  intro m own s F
  refine PyProof.Rows.isTrue_IfExp (ht.use F fun z s₁ v o₁ h₁ q₁ r₁ F₁ g₁ => ?_)
  cases r₁
  cases z with
  | true => exact last g₁ (q₁ m o₁ s₁ F₁)
  | false => exact last g₁ (q₁ m o₁ s₁ F₁)

/-- a test that is asked for its value -/
theorem t_plain {e : Expr} {Q : V → Hp → Prop} {h : Hp} (ha : Ev c A L loc RV (eval e env) (fun v h => tru v fun b => Q (.bool b) h) h)
    (he : isTrue e env (eval e env) = (do let v ← eval e env; standAt e.pos; holding [v] (truthy v)) := by rfl) : Ev c A L loc relB (isTrue e env (eval e env)) Q h := by
  intro m own s F
  refine isTrue_plain (ha.use F fun z s₁ v o₁ h₁ q₁ r₁ F₁ g₁ => ?_) he
  obtain ⟨b, rfl, q⟩ := tru_bool q₁
  exact truth r₁ rfl (Post1.grow g₁ (fin F₁ q rfl))

theorem a_nil {pos : Pos} {Q : V → Hp → Prop} {h : Hp} (q : Q (.tup []) h) : Ev c A L loc relA (spliced (backTo pos (starEach [] env))) Q h := fun _ _ _ F =>
  Calls.spliced_nil (fin F q ⟨[], rfl, .nil⟩)
theorem star_no {e : Expr} {es : List Expr} (h : notStar e = true) : starEach (e :: es) env = (false, eval e env) :: starEach es env := by cases e <;> first | rfl | cases h
theorem a_cons {e : Expr} {es : List Expr} {pos : Pos} {Q Qe : V → Hp → Prop} {h : Hp} (hs : notStar e = true) (he : Ev c A L loc RV (eval e env) Qe h)
    (hr : ∀ v h', Qe v h' → Ev c A L loc relA (spliced (backTo pos (starEach es env))) (fun w h => match w with | .tup vs => Q (.tup (v :: vs)) h | _ => False) h') :
    Ev c A L loc relA (spliced (backTo pos (starEach (e :: es) env))) Q h := by
  intro m own s F
  refine wpAny_items_cons (he.use F fun z s₁ v o₁ h₁ q₁ r₁ F₁ g₁ => ?_) (star_no hs)
  refine (hr v h₁ q₁).use F₁ fun zs s₂ w o₂ h₂ q₂ r₂ F₂ g₂ => ?_
  obtain ⟨vs, rfl, rs⟩ := r₂
  exact Post1.grow (g₁.trans g₂) (fin F₂ q₂ ⟨_, rfl, .cons (r₁.keep g₂.keep) rs⟩)

theorem RVs.len_line {own : Own} {hp : Heap} {vs : List V} {xs : List Value} (r : RVs own hp vs xs) (h : vs.length ≤ line) : xs.length ≤ sizeLine := by
  rw [r.length]; exact Nat.le_trans h line_le

theorem e_tup {es : List Expr} {k : Nat} {pos : Pos} {Q : V → Hp → Prop} {h : Hp} (ha : Ev c A L loc relA (spliced (backTo pos (starEach es env))) (fun v h => (∀ vs, v = .tup vs → vs.length ≤ line) ∧ Q v h) h) :
    Ev c A L loc RV (eval (.Tuple es k pos) env) Q h := by
  intro m own s F
  refine wpAny_Tuple (ha.use F fun z s₁ v o₁ h₁ q₁ r₁ F₁ g₁ => ?_)
  obtain ⟨vs, rfl, rs⟩ := r₁
  exact ⟨rs.len_line (q₁.1 _ rfl), Post1.grow g₁ (hereNew F₁.hr F₁.os F₁.gens q₁.2 push_ext (RV.newTup (F₁.hr.fresh (size_none (Nat.le_refl _))) (Heap.get?_push_size _ rfl) push_ext rs))⟩
theorem e_fls {es : List Expr} {pos : Pos} {Q : V → Hp → Prop} {h : Hp} (ha : Ev c A L loc relA (spliced (backTo pos (starEach es env))) (fun w h => match w with | .tup vs => vs.length ≤ line ∧ Q (.fl vs) h | _ => False) h) :
    Ev c A L loc RV (eval (.List es pos) env) Q h := by
  intro m own s F
  refine wpAny_List (ha.use F fun z s₁ v o₁ h₁ q₁ r₁ F₁ g₁ => ?_)
  obtain ⟨vs, rfl, rs⟩ := r₁
  exact ⟨rs.len_line q₁.1, Post1.grow g₁ (hereNew F₁.hr F₁.os F₁.gens q₁.2 push_ext (RV.newFl (F₁.hr.fresh (size_none (Nat.le_refl _))) (Heap.get?_push_size _ rfl) push_ext rs))⟩
theorem e_mls {es : List Expr} {pos : Pos} {Q : V → Hp → Prop} {h : Hp} (ha : Ev c A L loc relA (spliced (backTo pos (starEach es env))) (fun w h => match w with | .tup vs => vs.length ≤ line ∧ ∀ a, h a = none → Q (.ref a) (upd h a (.lst vs)) | _ => False) h) :
    Ev c A L loc RV (eval (.List es pos) env) Q h := by
  intro m own s F
  refine wpAny_List (ha.use F fun z s₁ v o₁ h₁ q₁ r₁ F₁ g₁ => ?_)
  obtain ⟨vs, rfl, rs⟩ := r₁
  have nn : s₁.heap.get? s₁.heap.objs.size = none := size_none (Nat.le_refl _)
  exact ⟨rs.len_line q₁.1, Post1.grow g₁ ⟨_, _, _, q₁.2 _ (F₁.hr.gone (F₁.hr.fresh nn)), mk_ref, F₁.hr.newLst nn (Heap.get?_push_size _ rfl) push_ext rs, grow_own nn push_ext, F₁.os, F₁.gens⟩⟩
end
end Mine

end
section
open PySem PySem.W PyProof.Rows
namespace Mine

section
variable {c : Cx} {av : Fn → Bool} {A : Around} {env : Env} {L : Addr} {loc : Loc} {qn : Str} {sc : Scope} {fadr : Addr} {cd : Value}

theorem base_of {o : Expr} {n : Str} {env : Env} {t : Sem Value} (h : plainBase o = true) : attributeBase o n env t = t := by
  unfold attributeBase
  split
  · cases h
  · rfl

theorem Fld.mem (f : Fld) : f ∈ [Fld.total, .plist, .left, .right, .parent, .root] := by cases f <;> decide
structure AttrFacts (K : Frag) (C : Addr) (x : Str) : Prop where
  get : plainGet K C x = true
  dict : hasDictIn K C = true
  find : findIn K (.ref C) x = some none
  take : takerIn K C x = some none
structure ClsFacts (K : Frag) (ca : Cls → Addr) (fa : Fn → Addr) (k : Cls) : Prop where
  name : nsIn K mainGlobals k.nm = some (some (.ref (ca k)))
  keep : keepIn K (.ref (ca k)) = true
  makes : makesIn K (ca k) = true
  init : findIn K (.ref (ca k)) "__init__" = some (some (.ref (fa (initOf k))))
  fn : typeIn K (.ref (fa (initOf k))) = some (.type "function")
  over : plainOver K (ca k) = true
  set : findIn K (.ref (ca k)) "__setattr__" = some (some (.builtin "object.__setattr__"))
  attr : ∀ f : Fld, AttrFacts K (ca k) f.nm
theorem Glob.facts {c : Cx} {av : Fn → Bool} (G : Glob c av) (k : Cls) : ClsFacts c.K c.ca c.fa k := by
  have h := G.cls k
  simp only [clsOk, Bool.and_eq_true, beq_iff_eq, List.all_eq_true] at h
  obtain ⟨⟨⟨⟨⟨⟨⟨h1, h2⟩, h3⟩, h4⟩, h5⟩, h6⟩, h7⟩, h8⟩ := h
  refine ⟨h1, h2, h3, h4, h5, h6, h7, fun f => ?_⟩
  have := h8 f (Fld.mem f)
  simp only [attrOk, Bool.and_eq_true, beq_iff_eq] at this
  exact ⟨this.1.1.1, this.1.1.2, this.1.2, this.2⟩

theorem getF_some {h : Hp} {v : V} {f : Fld} {w : V} (e : getF h v f = some w) : ∃ a k fs, v = .ref a ∧ h a = some (.inst k fs) ∧ fs f = some w := by
  unfold getF at e
  split at e
  · split at e
    · rename_i hx; exact ⟨_, _, _, rfl, hx, e⟩
    · cases e
  · cases e

theorem e_attr (G : Glob c av) {o : Expr} {f : Fld} {pos : Pos} {Q : V → Hp → Prop} {h : Hp} (hb : plainBase o = true) (ha : Ev c A L loc RV (eval o env) (fun v h => opt (getF h v f) fun w => Q w h) h) :
    Ev c A L loc RV (eval (.Attribute o f.nm pos) env) Q h := by
  intro m own s F
  refine Attribute_any_ (ha.use F fun y s₁ v o₁ h₁ q₁ r₁ F₁ g₁ => ?_) ?_
  · obtain ⟨w, hw, q⟩ := opt_some q₁
    obtain ⟨a, k, fs, rfl, hx, hf⟩ := getF_some hw
    obtain rfl := rv_ref r₁
    obtain ⟨_, dx, es, n, flds, hi, od, ne, hd, nd, en, no⟩ := F₁.hr.conc _ _ hx
    obtain ⟨z, hz, rz⟩ := en.getL hf (no f)
    have T := (G.facts k).attr f
    have hh : handedIn z = true := by
      cases w with
      | none => obtain rfl := rv_none rz; rfl
      | bool b => obtain rfl := rv_bool rz; rfl
      | int i => obtain ⟨t, rfl⟩ := rv_int rz; rfl
      | str => rw [RV] at rz; obtain ⟨x, t, rfl⟩ := rz; rfl
      | ref b => obtain rfl := rv_ref rz; rfl
      | tup vs => obtain ⟨b, its, rfl, _⟩ := rv_tup rz; rfl
      | fl vs => obtain ⟨b, its, rfl, _⟩ := rv_fl rz; rfl
    refine get_own F₁.fr G.X ⟨hi, rfl, rfl, hd⟩ T.get T.dict T.find (by rfl) hz hh ?_
    exact Post1.grow g₁ (fin F₁ q rz)
  · show (do let o' ← attributeBase o f.nm env (eval o env); standAt pos.atName; let r ← holding [o'] (getAttr o' f.nm true); letTemporaryGo o o' r; pure r) = _
    rw [base_of hb]

theorem stars_no {es : List Expr} (pos : Pos) (h : es.all notStar = true) : (backTo pos (starEach es env)).any (·.1) = false := by
  induction es with
  | nil => rfl
  | cons e es ih =>
    rw [List.all_cons, Bool.and_eq_true] at h
    rw [star_no h.1]
    have := ih h.2
    simp only [backTo, List.map_cons, List.any_cons] at this ⊢
    rw [this]; rfl

theorem call_post {f : Fn} {vs : List V} {xs : List Value} {Q : V → Hp → Prop} {h : Hp} {own : Own} {s : Shared} (S : Sat c f vs Q h) (R : RoomC A f.lv) (H : HRel c own h s.heap) (os : s.os = c.os) (gn : s.gens = #[]) (r : RVs own s.heap vs xs) :
    wpAny (model c.prog c.w) A (call (.ref (c.fa f)) xs) (PostV c own s.heap Q) noE s :=
  wpAny_call (codeAny_mono (S A own s xs R H os gn r) fun _ _ ⟨x, e, p⟩ => by subst e; exact p)

theorem glob_name (G : Glob c av) {x : Str} {v : Value} {pos : Pos} {m : Str → Option Value} {own : Own} {h : Hp} {s : Shared} {P : Value → Shared → Prop} (F : FR c L m own loc h s) (hk : sc.kind = .function) (hg : isGlo sc x = true)
    (e : nsIn c.K mainGlobals x = some (some v)) (hd : (x == ("__debug__" : Str)) = false) (q : P v s) : wpAny (model c.prog c.w) A (eval (.Name x pos) (envX qn sc L fadr cd [])) P noE s := by
  obtain ⟨p, loose, mg, mb, T⟩ := G.T
  simp only [isGlo, beq_iff_eq] at hg
  exact nameX_K F.fr G.X T e q hk hg hd
theorem blt_name (G : Glob c av) {x : Str} {v : Value} {pos : Pos} {m : Str → Option Value} {own : Own} {h : Hp} {s : Shared} {P : Value → Shared → Prop} (F : FR c L m own loc h s) (hk : sc.kind = .function) (hg : isGlo sc x = true)
    (hm : x ∈ bltNames) (hv : bootBuiltins x = some v) (hd : (x == ("__debug__" : Str)) = false) (hn : x ≠ "__name__") (q : P v s) : wpAny (model c.prog c.w) A (eval (.Name x pos) (envX qn sc L fadr cd [])) P noE s := by
  obtain ⟨p, loose, mg, mb, T⟩ := G.T
  simp only [isGlo, beq_iff_eq] at hg
  exact nameX_B F.fr G.X T (by simpa using List.all_eq_true.mp G.blt x hm) hv hn q hk hg hd

theorem fn_debug (f : Fn) : (f.nm == ("__debug__" : Str)) = false := by cases f <;> decide
theorem cls_debug (k : Cls) : (k.nm == ("__debug__" : Str)) = false := by cases k <;> decide

/-- the arguments of a call of a name that stands in the text -/
theorem args_K (G : Glob c av) {f : Value} {e : Expr} {es : List Expr} {pos : Pos} {Q QA : V → Hp → Prop} {h : Hp} {m : Str → Option Value} {own : Own} {s : Shared} (F : FR c L m own loc h s) (hk : keepIn c.K f = true) (hs : (e :: es).all notStar = true)
    (ha : ∀ pos, Ev c A L loc relA (spliced (backTo pos (starEach (e :: es) env))) QA h)
    (k : ∀ xs s' vs own' h', QA (.tup vs) h' → RVs own' s'.heap vs xs → FR c L m own' loc h' s' → wpAny (model c.prog c.w) A (call f xs) (PostV c own' s'.heap Q) noE s') :
    wpAny (model c.prog c.w) A (callWith pos f [] (backTo pos (starEach (e :: es) env)) []) (PostV c own s.heap Q) noE s := by
  rw [List.all_cons, Bool.and_eq_true] at hs
  refine callWith_K G.X hk ((ha pos).use F fun xs s₁ v o₁ h₁ q₁ r₁ F₁ g₁ => ?_) (star_no hs.1) (stars_no pos hs.2)
  obtain ⟨vs, rfl, rs⟩ := r₁
  exact ⟨G.X.keeps F₁.hr.keep, last g₁ (k xs s₁ vs o₁ h₁ q₁ rs F₁)⟩

theorem e_call (G : Glob c av) (hk : sc.kind = .function) {f : Fn} {e : Expr} {es : List Expr} {p pos : Pos} {Q : V → Hp → Prop} {h : Hp} (R : RoomC A f.lv) (hg : isGlo sc f.nm = true) (hs : (e :: es).all notStar = true)
    (ha : ∀ pos, Ev c A L loc relA (spliced (backTo pos (starEach (e :: es) (envX qn sc L fadr cd [])))) (fun w h => match w with | .tup vs => Sat c f vs Q h | _ => False) h)
    (hv : av f = true) : Ev c A L loc RV (eval (.Call (.Name f.nm p) (e :: es) [] pos) (envX qn sc L fadr cd [])) Q h := by
  intro m own s F
  have ok := G.fns f hv
  simp only [fnOk, Bool.and_eq_true, beq_iff_eq] at ok
  refine wpAny_Call_NameR (glob_name G F hk hg ok.1 (fn_debug f) ?_)
  refine args_K G F ok.2 hs ha fun xs s₁ vs o₁ h₁ q₁ rs F₁ => ?_
  exact call_post q₁ R F₁.hr F₁.os F₁.gens rs

theorem e_new (G : Glob c av) (hk : sc.kind = .function) {k : Cls} {e : Expr} {es : List Expr} {p pos : Pos} {Q : V → Hp → Prop} {h : Hp} {n : Nat} (R : Room A n) (hn : (initOf k).lv < n) (hg : isGlo sc k.nm = true) (hs : (e :: es).all notStar = true)
    (ha : ∀ pos, Ev c A L loc relA (spliced (backTo pos (starEach (e :: es) (envX qn sc L fadr cd [])))) (fun w h => match w with
      | .tup vs => ∀ a, h a = none → Sat c (initOf k) (.ref a :: vs) (fun v h => v = .none ∧ Q (.ref a) h) (upd h a (.inst k noF))
      | _ => False) h) :
    Ev c A L loc RV (eval (.Call (.Name k.nm p) (e :: es) [] pos) (envX qn sc L fadr cd [])) Q h := by
  intro m own s F
  have K := G.facts k
  refine wpAny_Call_NameR (glob_name G F hk hg K.name (cls_debug k) ?_)
  refine args_K G F K.keep hs ha fun xs s₁ vs o₁ h₁ q₁ rs F₁ => ?_
  have X := G.X.keeps F₁.hr.keep
  obtain ⟨hh, g, d, t, os⟩ := s₁
  have F₂ := F₁
  obtain ⟨-, -, -, H, os₁, gn₁⟩ := F₂
  dsimp only at H rs X os₁ gn₁ ⊢
  refine wpAny_call (make_core (makes_of X K.makes) (looks_findIn X K.init) (fun self => bind_fn X self K.fn) (.inl rfl) ?_)
  have n0 : hh.get? hh.objs.size = none := size_none (Nat.le_refl _)
  have n1 : (hh.push emptyDict).get? (hh.objs.size + 1) = none := size_none (by rw [Heap.size_push]; exact Nat.le_refl _)
  have z : (hh.push emptyDict).objs.size = hh.objs.size + 1 := Heap.size_push ..
  have k1 : ∀ b o, hh.get? b = some o → ((hh.push emptyDict).push (instObj (c.ca k) hh.objs.size)).get? b = some o := fun b o e => push_ext b o (push_ext b o e)
  have gd : (hh.push emptyDict).get? hh.objs.size = some emptyDict := Heap.get?_push_size _ rfl
  have gx : ((hh.push emptyDict).push (instObj (c.ca k) hh.objs.size)).get? (hh.objs.size + 1) = some (instObj (c.ca k) hh.objs.size) := by rw [← z]; exact Heap.get?_push_size _ rfl
  have H1 := H.own (x := hh.objs.size + 1) n0 gd push_ext
  have H2 := H1.own (x := hh.objs.size + 1) n1 gx push_ext
  have gr : Grow o₁ hh (setOwn (setOwn o₁ hh.objs.size (hh.objs.size + 1)) (hh.objs.size + 1) (hh.objs.size + 1)) ((hh.push emptyDict).push (instObj (c.ca k) hh.objs.size)) := (grow_own n0 push_ext).trans (grow_own n1 push_ext)
  have ne : hh.objs.size ≠ hh.objs.size + 1 := Nat.ne_of_lt (Nat.lt_succ_self _)
  have H3 := H2.put (a := hh.objs.size + 1) (o := .inst k noF) setOwn_eq ⟨hh.objs.size, [], 0, [], gx, by rw [setOwn_ne ne]; exact setOwn_eq, ne, push_ext _ _ gd, .nil, .nil, fun _ _ => rfl⟩
  have fresh : h₁ (hh.objs.size + 1) = none := H.gone (H.fresh (size_none (Nat.le_succ _)))
  have S := q₁ _ fresh
  refine codeAny_mono (S _ _ _ (.ref (hh.objs.size + 1) :: xs) ?_ H3 os₁ gn₁ (.cons mk_ref (rs.keep gr.keep))) fun r s' ⟨x, e, p⟩ => ?_
  · have hw : (Code.builtin "type.__call__" ⟨.ref (c.ca k) :: xs, []⟩).weight = 1 := by rfl
    have hu : (Code.builtin "type.__call__" ⟨.ref (c.ca k) :: xs, []⟩).cUnits = 1 := by rfl
    refine ⟨R.handled, ?_, ?_⟩
    · show A.depth + (Code.builtin "type.__call__" ⟨.ref (c.ca k) :: xs, []⟩).weight + 8 * (initOf k).lv + 22 ≤ 1000
      have := R.depth
      omega
    · show A.units + (Code.builtin "type.__call__" ⟨.ref (c.ca k) :: xs, []⟩).cUnits + 40 * (initOf k).lv + 210 ≤ 9900
      have := R.units
      omega
  · subst e
    obtain ⟨v, o₂, h₂, ⟨rfl, q⟩, r, H₂, g₂, os₂, gn₂⟩ := p
    obtain rfl := rv_none r
    exact ⟨rfl, _, o₂, h₂, q, mk_ref, H₂, gr.trans g₂, os₂, gn₂⟩
end
end Mine

end
section
open PySem PySem.W PyProof.Rows
namespace Mine

section
variable {c : Cx} {av : Fn → Bool} {A : Around} {env : Env} {L : Addr} {loc : Loc} {qn : Str} {sc : Scope} {fadr : Addr} {cd : Value}

@[elab_as_elim] theorem bi_e {M : Expr → Prop} {b : Str} {e : Expr} {k : Expr → Bool} (h : bi sc b e k = true) (c : ∀ x p pos, isGlo sc b = true → notStar x = true → k x = true → M (.Call (.Name b p) [x] [] pos)) : M e :=
  asNCall_e h fun n xs p r h => beq_e (M := fun n => M (.Call (.Name n p) xs [] r)) (p := fun n => isGlo sc n && one xs fun a => notStar a && k a) h fun h => and_e h fun h1 h =>
    one_e (M := fun xs => M (.Call (.Name b p) xs [] r)) h fun a h => and_e h fun h2 h => c a p r h1 h2 h

/-- a call of a built-in function, of a built-in type, with one argument -/
theorem e_bi (G : Glob c av) (hk : sc.kind = .function) {b : Str} {id : String} {x : Expr} {p pos : Pos} {Q QE : V → Hp → Prop} {h : Hp} (hm : b ∈ bltNames) (hv : bootBuiltins b = some (.builtin id)) (hd : (b == ("__debug__" : Str)) = false) (hn : b ≠ "__name__")
    (hg : isGlo sc b = true) (hs : notStar x = true) (ha : Ev c A L loc RV (eval x (envX qn sc L fadr cd [])) QE h)
    (k : ∀ (m : Str → Option Value) x s own v h', QE v h' → RV own s.heap v x → FR c L m own loc h' s → wpAny (model c.prog c.w) A (call (.builtin id) [x]) (PostV c own s.heap Q) noE s) :
    Ev c A L loc RV (eval (.Call (.Name b p) [x] [] pos) (envX qn sc L fadr cd [])) Q h := by
  intro m own s F
  refine wpAny_Call_NameR (blt_name G F hk hg hm hv hd hn ?_)
  refine PyProof.Rows.callWith_builtin1 ?_ (star_no hs) rfl
  refine wpAny_items_cons (ha.use F fun y s₁ v o₁ h₁ q₁ r₁ F₁ g₁ => ?_) (star_no hs)
  exact Calls.spliced_nil (last g₁ (k m y s₁ o₁ v h₁ q₁ r₁ F₁))
theorem e_ty (G : Glob c av) (hk : sc.kind = .function) {b : Str} {id : String} {x : Expr} {p pos : Pos} {Q QE : V → Hp → Prop} {h : Hp} (hm : b ∈ bltNames) (hv : bootBuiltins b = some (.type id)) (hd : (b == ("__debug__" : Str)) = false) (hn : b ≠ "__name__")
    (hg : isGlo sc b = true) (hs : notStar x = true) (ha : Ev c A L loc RV (eval x (envX qn sc L fadr cd [])) QE h)
    (k : ∀ (m : Str → Option Value) x s own v h', QE v h' → RV own s.heap v x → FR c L m own loc h' s → wpAny (model c.prog c.w) A (call (.type id) [x]) (PostV c own s.heap Q) noE s) :
    Ev c A L loc RV (eval (.Call (.Name b p) [x] [] pos) (envX qn sc L fadr cd [])) Q h := by
  intro m own s F
  refine wpAny_Call_NameR (blt_name G F hk hg hm hv hd hn ?_)
  refine PyProof.Rows.callWith_type1 ?_ (star_no hs) rfl
  refine wpAny_items_cons (ha.use F fun y s₁ v o₁ h₁ q₁ r₁ F₁ g₁ => ?_) (star_no hs)
  exact Calls.spliced_nil (last g₁ (k m y s₁ o₁ v h₁ q₁ r₁ F₁))

theorem lst_obj {own : Own} {h : Hp} {s : Shared} {a : Nat} {vs : List V} (H : HRel c own h s.heap) (e : h a = some (.lst vs)) : ∃ its n, s.heap.get? a = some (listOf (List.toArray its) n) ∧ RVs own s.heap vs its := (H.conc _ _ e).2

theorem e_len (G : Glob c av) (hk : sc.kind = .function) {x : Expr} {p pos : Pos} {Q : V → Hp → Prop} {h : Hp} (hg : isGlo sc "len" = true) (hs : notStar x = true)
    (ha : Ev c A L loc RV (eval x (envX qn sc L fadr cd [])) (fun v h => opt (seqOf h v) fun vs => vs.length ≤ line ∧ Q (.int vs.length) h) h) :
    Ev c A L loc RV (eval (.Call (.Name "len" p) [x] [] pos) (envX qn sc L fadr cd [])) Q h := by
  refine e_bi G hk (id := "len") (by decide) (by kernel_rfl) (by decide) (by decide) hg hs ha fun m y s own v h' q₀ r F => ?_
  obtain ⟨vs, hv, hl, q⟩ := opt_some q₀
  have big : (line : Int) < 2 ^ 63 := by decide
  unfold seqOf at hv
  split at hv
  · cases hv
    obtain ⟨a, its, rfl, _, hi, rr⟩ := rv_fl r
    have e : (its.toArray.size : Int) = (vs.length : Int) := by rw [List.size_toArray, rr.length]
    refine PyProof.Rows.len_list hi (by rw [e]; omega) ?_
    rw [e]; exact fin F q mk_int
  · cases hv
    obtain ⟨a, its, rfl, _, hi, rr⟩ := rv_tup r
    have e : (its.toArray.size : Int) = (vs.length : Int) := by rw [List.size_toArray, rr.length]
    refine PyProof.Rows.len_tuple hi (by rw [e]; omega) ?_
    rw [e]; exact fin F q mk_int
  · split at hv
    · rename_i hx
      cases hv
      obtain rfl := rv_ref r
      obtain ⟨its, n, hi, rr⟩ := lst_obj F.hr hx
      have e : (its.toArray.size : Int) = (vs.length : Int) := by rw [List.size_toArray, rr.length]
      refine PyProof.Rows.len_list ⟨_, hi, rfl, n, rfl⟩ (by rw [e]; omega) ?_
      rw [e]; exact fin F q mk_int
    · cases hv
  · cases hv

theorem e_abs (G : Glob c av) (hk : sc.kind = .function) {x : Expr} {p pos : Pos} {Q : V → Hp → Prop} {h : Hp} (hg : isGlo sc "abs" = true) (hs : notStar x = true)
    (ha : Ev c A L loc RV (eval x (envX qn sc L fadr cd [])) (fun v h => match v with | .int i => Q (.int i.natAbs) h | _ => False) h) :
    Ev c A L loc RV (eval (.Call (.Name "abs" p) [x] [] pos) (envX qn sc L fadr cd [])) Q h := by
  refine e_bi G hk (id := "abs") (by decide) (by kernel_rfl) (by decide) (by decide) hg hs ha fun m y s own v h' q r F => ?_
  cases v <;> try exact q.elim
  rename_i i
  obtain ⟨t, rfl⟩ := rv_int r
  refine call_abs_int fun u tk => ?_
  have e : (if i < 0 then -i else i) = (i.natAbs : Int) := by split <;> omega
  rw [e]
  exact fin F q mk_int

theorem ints_of {own : Own} {hp : Heap} : ∀ {vs : List V} {xs : List Value} {i : Int}, RVs own hp vs xs → sumInts vs = some i → ∃ ns, IntsAre xs ns ∧ ns.sum = i
  | [], _, _, r, e => by rw [RVs] at r; subst r; simp [sumInts] at e; exact ⟨[], .nil, by simpa using e⟩
  | .int k :: vs, _, i, r, e => by
    rw [RVs] at r
    obtain ⟨x, xs, rfl, r1, r2⟩ := r
    obtain ⟨t, rfl⟩ := rv_int r1
    simp only [sumInts, Option.map_eq_some_iff] at e
    obtain ⟨j, hj, rfl⟩ := e
    obtain ⟨ns, h1, h2⟩ := ints_of r2 hj
    exact ⟨k :: ns, .cons k t h1, by simp [h2]⟩
  | .none :: _, _, _, _, e => by simp [sumInts] at e
  | .bool _ :: _, _, _, _, e => by simp [sumInts] at e
  | .str :: _, _, _, _, e => by simp [sumInts] at e
  | .ref _ :: _, _, _, _, e => by simp [sumInts] at e
  | .tup _ :: _, _, _, _, e => by simp [sumInts] at e
  | .fl _ :: _, _, _, _, e => by simp [sumInts] at e

theorem e_sum (G : Glob c av) (hk : sc.kind = .function) {n : Nat} (R : Room A n) {x : Expr} {p pos : Pos} {Q : V → Hp → Prop} {h : Hp} (hg : isGlo sc "sum" = true) (hs : notStar x = true)
    (ha : Ev c A L loc RV (eval x (envX qn sc L fadr cd [])) (fun v h => match v with | .fl vs => opt (sumInts vs) fun i => Q (.int i) h | _ => False) h) :
    Ev c A L loc RV (eval (.Call (.Name "sum" p) [x] [] pos) (envX qn sc L fadr cd [])) Q h := by
  refine e_bi G hk (id := "sum") (by decide) (by kernel_rfl) (by decide) (by decide) hg hs ha fun m y s own v h' q r F => ?_
  cases v <;> try exact q.elim
  rename_i vs
  obtain ⟨i, hi, q⟩ := opt_some q
  obtain ⟨a, its, rfl, _, hl, rr⟩ := rv_fl r
  obtain ⟨ns, hI, hsum⟩ := ints_of rr hi
  obtain ⟨xs, e⟩ := hI.allInts.items
  rw [e] at hl
  refine sum_intListG R.handled hl fun h'' tk t' hkp => ?_
  have e2 : preSum (numAt xs) xs.size = i := by
    rw [preSum_eq, List.take_of_length_le (by simp), ← nums_intItems, ← e, ← hsum]
    rw [show its.toArray.toList = its from rfl, hI.numsOf]
  rw [e2]
  exact hereNew F.hr F.os F.gens q hkp mk_int

theorem e_int (G : Glob c av) (hk : sc.kind = .function) {x : Expr} {p pos : Pos} {Q : V → Hp → Prop} {h : Hp} (hg : isGlo sc "int" = true) (hs : notStar x = true)
    (ha : Ev c A L loc RV (eval x (envX qn sc L fadr cd [])) (fun v h => match v with | .int i => Q (.int i) h | _ => False) h) :
    Ev c A L loc RV (eval (.Call (.Name "int" p) [x] [] pos) (envX qn sc L fadr cd [])) Q h := by
  refine e_ty G hk (id := "int") (by decide) (by kernel_rfl) (by decide) (by decide) hg hs ha fun m y s own v h' q r F => ?_
  cases v <;> try exact q.elim
  obtain ⟨t, rfl⟩ := rv_int r
  exact call_int_int (fin F q mk_int)

theorem e_list (G : Glob c av) (hk : sc.kind = .function) {x : Expr} {p pos : Pos} {Q : V → Hp → Prop} {h : Hp} (hg : isGlo sc "list" = true) (hs : notStar x = true)
    (ha : Ev c A L loc RV (eval x (envX qn sc L fadr cd [])) (fun v h => match v with | .fl vs => vs.length ≤ line ∧ Q (.fl vs) h | _ => False) h) :
    Ev c A L loc RV (eval (.Call (.Name "list" p) [x] [] pos) (envX qn sc L fadr cd [])) Q h := by
  refine e_ty G hk (id := "list") (by decide) (by kernel_rfl) (by decide) (by decide) hg hs ha fun m y s own v h' q r F => ?_
  cases v <;> try exact q.elim
  obtain ⟨a, its, rfl, _, ⟨o, ho, hc, n, hd⟩, rr⟩ := rv_fl r
  refine call_list_seq (hsz := by rw [List.size_toArray]; exact rr.len_line q.1) a (.inl rfl) ho hc hd fun h'' c' hkp hD => ?_
  exact hereNew F.hr F.os F.gens q.2 hkp (RV.newFl (F.hr.fresh (size_none (Nat.le_refl _))) hD hkp rr)

/-! methods of lists -/
theorem m_list {o : Expr} {args : List Expr} {nm : Str} {id : String} {ap pos : Pos} {Q QE : V → Hp → Prop} {h : Hp} (hb : plainBase o = true) (hl : (ap.endLine == pos.line) = true) (sl : Slot "list" nm id) (ty : typeOf (.builtin id) = pure (.type "method_descriptor"))
    (hf : ((backTo pos (starEach args env)).all (fun x => !x.1) && (backToKw pos (keywordEach [] env)).all (fun x => x.1.isSome) && decide (args.length + ([] : List Keyword).length + (if ([] : List Keyword).isEmpty then 0 else 1) < 30)) = true)
    (ha : Ev c A L loc RV (eval o env) QE h)
    (k : ∀ (m : Str → Option Value) own s v y h', QE v h' → RV own s.heap v y → FR c L m own loc h' s → (∃ a its n, v = .ref a ∧ y = .ref a ∧ s.heap.get? a = some (listOf its n)) ∧ wpAny (model c.prog c.w) A (callWith pos (.builtin id) [y] (backTo pos (starEach args env)) []) (PostV c own s.heap Q) noE s) :
    Ev c A L loc RV (eval (.Call (.Attribute o nm ap) args [] pos) env) Q h := by
  intro m own s F
  refine wpAny_Call_method_lateS (base_of hb) hf hl (ha.use F fun y s₁ v o₁ h₁ q₁ r₁ F₁ g₁ => ?_)
  obtain ⟨⟨a, its, n, rfl, rfl, hi⟩, w⟩ := k m o₁ s₁ v y h₁ q₁ r₁ F₁
  exact ⟨"list", id, PySem.F.plainAttrs_list, sl, ty, ⟨_, hi, rfl⟩, fun b e => by cases e; exact ⟨_, hi, rfl⟩, last g₁ w⟩

theorem upd_lst {own : Own} {h : Hp} {s : Shared} {a : Nat} {vs : List V} {its : List Value} {n : Nat} {f : Array Value → Array Value} {its' : List Value} {vs' : List V} {Q : V → Hp → Prop} {v : V} {y : Value} {m : Str → Option Value} (F : FR c L m own loc h s) (e : h a = some (.lst vs))
    (hi : s.heap.get? a = some (listOf its.toArray n)) (hf : f its.toArray = its'.toArray) (r : RVs own s.heap vs' its') (q : Q v (upd h a (.lst vs'))) (rv : RV own s.heap v y) :
    PostV c own s.heap Q y { s with heap := s.heap.update a (Obj.mapSeq f) } := by
  have hi' : IsL s.heap a its.toArray n := hi
  have h2 := hi'.update f
  rw [hf] at h2
  obtain ⟨H, g⟩ := F.hr.updLst e (Heap.SameBut.update s.heap a (Obj.mapSeq f)) h2 r
  exact ⟨v, own, _, q, rv.keep g.keep, H, g, F.os, F.gens⟩

theorem few1 {e : Expr} {pos : Pos} (hs : notStar e = true) : ((backTo pos (starEach [e] env)).all (fun x => !x.1) && (backToKw pos (keywordEach [] env)).all (fun x => x.1.isSome) && decide ([e].length + ([] : List Keyword).length + (if ([] : List Keyword).isEmpty then 0 else 1) < 30)) = true := by
  rw [star_no hs]; rfl
theorem one_tree {e : Expr} {pos : Pos} (hs : notStar e = true) : backTo pos (starEach [e] env) = [(false, eval e env)] := by rw [star_no hs]; rfl

theorem e_append {o x : Expr} {ap pos : Pos} {Q : V → Hp → Prop} {h : Hp} (hb : plainBase o = true) (hl : (ap.endLine == pos.line) = true) (hs : notStar x = true)
    (ha : Ev c A L loc RV (eval o env) (fun v h => match v with
      | .ref a => match h a with
        | some (.lst _) => Ev c A L loc RV (eval x env) (fun w h => match h a with | some (.lst vs) => vs.length ≤ line ∧ Q .none (upd h a (.lst (vs ++ [w]))) | _ => False) h
        | _ => False
      | _ => False) h) :
    Ev c A L loc RV (eval (.Call (.Attribute o "append" ap) [x] [] pos) env) Q h := by
  refine m_list hb hl PySem.F.slot_list_append PySem.F.type_list_append (few1 hs) ha fun m own s v y h' q r F => ?_
  cases v <;> try exact q.elim
  rename_i a
  dsimp only at q
  split at q <;> try exact q.elim
  rename_i vs₀ hx
  obtain rfl := rv_ref r
  obtain ⟨its, n, hi, -⟩ := lst_obj F.hr hx
  refine ⟨⟨a, _, n, rfl, rfl, hi⟩, ?_⟩
  rw [one_tree hs]
  refine PySem.P.append_list (q.use F fun z s₁ w o₁ h₁ q₁ r₁ F₁ g₁ => ?_)
  split at q₁ <;> try exact q₁.elim
  rename_i vs hx
  obtain ⟨its, n, hi, rr⟩ := lst_obj F₁.hr hx
  exact ⟨its.toArray, n, by rw [List.size_toArray]; exact rr.len_line q₁.1, hi, Post1.grow g₁ (upd_lst F₁ hx hi (its' := its ++ [z]) (by simp) (rr.append (.cons r₁ .nil)) q₁.2 mk_none)⟩

theorem RVs.dropLast {own : Own} {hp : Heap} {vs : List V} {xs : List Value} (r : RVs own hp vs xs) : RVs own hp vs.dropLast xs.dropLast := by
  rw [List.dropLast_eq_take, List.dropLast_eq_take, r.length]; exact r.take _

theorem erase_last (its : List Value) : its.toArray.eraseIdxIfInBounds (its.toArray.size - 1) = its.dropLast.toArray := by
  rcases List.eq_nil_or_concat its with rfl | ⟨l, x, rfl⟩
  · rfl
  · unfold Array.eraseIdxIfInBounds
    simp [List.eraseIdx_append_of_length_le]

theorem e_pop {o : Expr} {ap pos : Pos} {Q : V → Hp → Prop} {h : Hp} (hb : plainBase o = true) (hl : (ap.endLine == pos.line) = true)
    (ha : Ev c A L loc RV (eval o env) (fun v h => match v with
      | .ref a => match h a with | some (.lst vs) => vs.length ≤ line ∧ opt vs.getLast? fun x => Q x (upd h a (.lst vs.dropLast)) | _ => False
      | _ => False) h) :
    Ev c A L loc RV (eval (.Call (.Attribute o "pop" ap) [] [] pos) env) Q h := by
  refine m_list hb hl PySem.F.slot_list_pop PySem.F.type_list_pop rfl ha fun m own s v y h' q r F => ?_
  cases v <;> try exact q.elim
  rename_i a
  dsimp only at q
  split at q <;> try exact q.elim
  rename_i vs hx
  obtain rfl := rv_ref r
  obtain ⟨its, n, hi, rr⟩ := lst_obj F.hr hx
  refine ⟨⟨a, _, n, rfl, rfl, hi⟩, ?_⟩
  obtain ⟨w, hw, qw⟩ := opt_some q.2
  rw [List.getLast?_eq_getElem?] at hw
  obtain ⟨z, hz, rz⟩ := rr.get hw
  rw [← rr.length] at hz
  refine PySem.P.pop_list (hsz := by rw [List.size_toArray]; exact rr.len_line q.1) hi (y := z) (by simpa using hz) ?_
  exact upd_lst F hx hi (erase_last its) rr.dropLast qw rz

theorem e_popAt0 {o : Expr} {ap pos p₀ : Pos} {k₀ : Nat} {Q : V → Hp → Prop} {h : Hp} (hb : plainBase o = true) (hl : (ap.endLine == pos.line) = true)
    (ha : Ev c A L loc RV (eval o env) (fun v h => match v with
      | .ref a => match h a with | some (.lst vs) => vs.length ≤ line ∧ opt vs.head? fun x => Q x (upd h a (.lst vs.tail)) | _ => False
      | _ => False) h) :
    Ev c A L loc RV (eval (.Call (.Attribute o "pop" ap) [.Constant (.int 0) k₀ p₀] [] pos) env) Q h := by
  refine m_list hb hl PySem.F.slot_list_pop PySem.F.type_list_pop (few1 rfl) ha fun m own s v y h' q r F => ?_
  cases v <;> try exact q.elim
  rename_i a
  dsimp only at q
  split at q <;> try exact q.elim
  rename_i vs hx
  obtain rfl := rv_ref r
  obtain ⟨its, n, hi, rr⟩ := lst_obj F.hr hx
  refine ⟨⟨a, _, n, rfl, rfl, hi⟩, ?_⟩
  obtain ⟨w, hw, qw⟩ := opt_some q.2
  cases vs with
  | nil => cases hw
  | cons w' vs =>
    cases hw
    rw [RVs] at rr
    obtain ⟨z, zs, rfl, rz, rr⟩ := rr
    rw [one_tree rfl]
    refine PySem.P.pop_at_list (wpAny_Constant_int ?_)
    refine ⟨(z :: zs).toArray, n, 0, _, 0, z, ?_, rfl, hi, by decide, by simp [seqIndex?], by simp, ?_⟩
    · have := q.1
      have e := rr.length
      have := line_le
      simp only [List.size_toArray, List.length_cons] at *
      omega
    · exact upd_lst (s := { s with toks := s.toks + 1 }) ⟨F.fr, F.ownL, F.locs, F.hr, F.os, F.gens⟩ hx hi (its' := zs) (by unfold Array.eraseIdxIfInBounds; simp) rr qw rz

theorem e_extend {o : Expr} {xs : List Expr} {ap pos lp : Pos} {Q : V → Hp → Prop} {h : Hp} (hb : plainBase o = true) (hl : (ap.endLine == pos.line) = true)
    (ha : Ev c A L loc RV (eval o env) (fun v h => match v with
      | .ref a => match h a with
        | some (.lst _) => Ev c A L loc relA (spliced (backTo lp (starEach xs env))) (fun w h => match w with
          | .tup ws => match h a with | some (.lst vs) => vs.length + ws.length ≤ line ∧ Q .none (upd h a (.lst (vs ++ ws))) | _ => False
          | _ => False) h
        | _ => False
      | _ => False) h) :
    Ev c A L loc RV (eval (.Call (.Attribute o "extend" ap) [.List xs lp] [] pos) env) Q h := by
  refine m_list hb hl PySem.F.slot_list_extend PySem.F.type_list_extend (few1 rfl) ha fun m own s v y h' q r F => ?_
  cases v <;> try exact q.elim
  rename_i a
  dsimp only at q
  split at q <;> try exact q.elim
  rename_i vs₀ hx
  obtain rfl := rv_ref r
  obtain ⟨its, n, hi, -⟩ := lst_obj F.hr hx
  refine ⟨⟨a, _, n, rfl, rfl, hi⟩, ?_⟩
  rw [one_tree rfl]
  refine PySem.P.extend_list (wpAny_List (q.use F fun zs s₁ w o₁ h₁ q₁ r₁ F₁ g₁ => ?_))
  obtain ⟨ws, rfl, rs⟩ := r₁
  dsimp only at q₁
  split at q₁ <;> try exact q₁.elim
  rename_i vs hx
  obtain ⟨its, n, hi, rr⟩ := lst_obj F₁.hr hx
  have e1 := rr.length
  have e2 := rs.length
  have e3 := q₁.1
  have e4 := line_le
  have e5 : sizeLine = 2 ^ 24 := rfl
  have e6 : line = 100000 := rfl
  refine ⟨by omega, s₁.heap.objs.size, its.toArray, zs.toArray, n, 0, by simp only [List.size_toArray]; omega, by simp only [List.size_toArray]; omega, ?_, rfl, push_ext _ _ hi, Heap.get?_push_size _ rfl, ?_⟩
  · simp only [List.size_toArray, Builtin.List.listTooLong, Bool.and_eq_true, decide_eq_true_eq, not_and]
    intro _
    omega
  · have F₂ : FR c L m o₁ loc h₁ { s₁ with heap := s₁.heap.push { cls := .type "list", data := .seq zs.toArray } } := F₁.step (F₁.hr.ext push_ext) (Grow.ext push_ext) F₁.os F₁.gens
    exact Post1.grow (g₁.trans (Grow.ext push_ext)) (upd_lst F₂ hx (push_ext _ _ hi) (its' := its ++ zs) (by simp) ((rr.append rs).keep (Grow.ext push_ext).keep) q₁.2 mk_none)
end
end Mine

end
section
open PySem PySem.W PyProof.Rows
namespace Mine

section
variable {c : Cx} {av : Fn → Bool} {A : Around} {env : Env} {L : Addr} {loc : Loc} {qn : Str} {sc : Scope} {fadr : Addr} {cd : Value}

theorem subd_of {slice : Expr} {o i : Value} (h : notSlice slice = true) : subscripted slice false o i = operate [o, i] (getItem o i) := by
  cases slice <;> first | rfl | cases h

theorem e_sub {v i : Expr} {pos : Pos} {Q Qa : V → Hp → Prop} {h : Hp} (hs : notSlice i = true) (ha : Ev c A L loc RV (eval v env) Qa h)
    (hb : ∀ x h', Qa x h' → ∃ Qb, Ev c A L loc RV (eval i env) Qb h' ∧ ∀ w h'', Qb w h'' → match w with
      | .int k => 0 ≤ k ∧ k ≤ line ∧ opt (seqOf h'' x) fun vs => opt vs[k.toNat]? fun y => Q y h''
      | _ => False) :
    Ev c A L loc RV (eval (.Subscript v i pos) env) Q h := by
  intro m own s F
  refine Subscript_ (ha.use F fun x s₁ vx o₁ h₁ q₁ r₁ F₁ g₁ => ?_)
  obtain ⟨Qb, eb, qb⟩ := hb vx h₁ q₁
  refine eb.use F₁ fun y s₂ w o₂ h₂ q₂ r₂ F₂ g₂ => ?_
  have q := qb w h₂ q₂
  cases w <;> try exact q.elim
  rename_i k
  obtain ⟨t, rfl⟩ := rv_int r₂
  obtain ⟨k0, kl, q'⟩ := q
  obtain ⟨vs, hv, q''⟩ := opt_some q'
  obtain ⟨z, hz, q⟩ := opt_some q''
  have big : (line : Int) < 2 ^ 63 := by decide
  have rx := r₁.keep g₂.keep
  unfold seqOf at hv
  split at hv
  · cases hv
    obtain ⟨a, its, rfl, _, hi, rr⟩ := rv_fl rx
    obtain ⟨u, hu, ru⟩ := rr.get hz
    exact PyProof.Rows.tail_any hi.typeIs slot_list_getitem.lookup (wpAny_getItem_list hi k0 (by omega) (by simpa using hu) (Post1.grow (g₁.trans g₂) (fin F₂ q ru))) (subd_of hs)
  · cases hv
    obtain ⟨a, its, rfl, _, hi, rr⟩ := rv_tup rx
    obtain ⟨u, hu, ru⟩ := rr.get hz
    have hlt : k.toNat < its.length := (List.getElem?_eq_some_iff.mp hu).1
    refine PyProof.Rows.tail_any hi.typeIs PyProof.Rows.slot_tuple_getitem.lookup (PyProof.Rows.getItem_tuple hi (by omega) (by omega) (j := k.toNat) ?_ (by simpa using hu) (Post1.grow (g₁.trans g₂) (fin F₂ q ru))) (subd_of hs)
    unfold seqIndex?
    have : ¬ k < 0 := by omega
    simp [this]
    omega
  · split at hv
    · rename_i hx
      cases hv
      obtain rfl := rv_ref rx
      obtain ⟨its, n, hi, rr⟩ := lst_obj F₂.hr hx
      obtain ⟨u, hu, ru⟩ := rr.get hz
      have hl : s₂.heap.IsList _ its.toArray := ⟨_, hi, rfl, n, rfl⟩
      exact PyProof.Rows.tail_any hl.typeIs slot_list_getitem.lookup (wpAny_getItem_list hl k0 (by omega) (by simpa using hu) (Post1.grow (g₁.trans g₂) (fin F₂ q ru))) (subd_of hs)
    · cases hv
  · cases hv

/-- the end of a slice -/
theorem slice_end {own : Own} {h : Hp} {s : Shared} {m : Str → Option Value} {vs vs' : List V} {x : Value} {v : Expr} {sl : Expr} {vl vu vk : Value} {lo hi st : Option Int} {Q : V → Hp → Prop} (F : FR c L m own loc h s)
    (r : RV own s.heap (.fl vs) x) (hz : vs.length ≤ line) (pl : IsPart vl lo) (pu : IsPart vu hi) (pk : IsPart vk st) (h0 : st ≠ some 0)
    (hs : ∀ o i, ∃ l, subscripted sl false o i = operate l (getItem o i)) (hp : ∀ its : List Value, RVs own s.heap vs its → ∃ its', slicePick its.toArray lo hi st = List.toArray its' ∧ RVs own s.heap vs' its') (q : Q (.fl vs') h) :
    wpAny (model c.prog c.w) A (subscriptTail v sl x (.ref s.heap.objs.size)) (PostV c own s.heap Q) noE { s with heap := s.heap.push { cls := .type "slice", data := .fields #[vl, vu, vk] } } := by
  obtain ⟨a, its, rfl, _, hl, rr⟩ := rv_fl r
  obtain ⟨its', e, rr'⟩ := hp its rr
  obtain ⟨l, el⟩ := hs (.ref a) (.ref s.heap.objs.size)
  have hl' := hl.push { cls := .type "slice", data := .fields #[vl, vu, vk] }
  refine PyProof.Rows.tail_any hl'.typeIs slot_list_getitem.lookup (wpAny_getItem_list_slice hl' (Heap.IsSliceOf.new ..) pl pu pk h0 ?_ (by rw [List.size_toArray]; exact rr.len_line hz)) el
  rw [e]
  have k : ∀ b o, s.heap.get? b = some o → ((s.heap.push { cls := .type "slice", data := .fields #[vl, vu, vk] }).push { cls := .type "list", data := .seq its'.toArray }).get? b = some o := fun b o e => push_ext b o (push_ext b o e)
  refine hereNew F.hr F.os F.gens q k ?_
  refine RV.newFl (F.hr.fresh (size_none ?_)) (Heap.get?_push_size _ rfl) k rr'
  show _ ≤ (s.heap.push _).objs.size
  rw [Heap.size_push]; exact Nat.le_succ _

theorem pick_to {own : Own} {hp : Heap} {vs : List V} {k : Int} (h : 0 ≤ k) (its : List Value) (r : RVs own hp vs its) : ∃ its', slicePick its.toArray none (some k) none = List.toArray its' ∧ RVs own hp (vs.take k.toNat) its' := by
  refine ⟨its.take k.toNat, ?_, r.take _⟩
  have e : sliceBounds none (some k) none its.toArray.size = (((0 : Nat) : Int), ((min k.toNat its.length : Nat) : Int), 1) := by
    simp only [sliceBounds, Option.getD_none, List.size_toArray]
    have h1 : ¬ k < 0 := by omega
    simp only [h1, if_false, show (1 : Int) > 0 by decide, if_true]
    congr 1
    congr 1
    omega
  rw [kmk_pick_nat its.toArray e]
  simp only [List.drop_zero, Nat.sub_zero]
  rw [kmk_take_min]
theorem pick_from {own : Own} {hp : Heap} {vs : List V} {k : Int} (h : 0 ≤ k) (its : List Value) (r : RVs own hp vs its) : ∃ its', slicePick its.toArray (some k) none none = List.toArray its' ∧ RVs own hp (vs.drop k.toNat) its' := by
  refine ⟨its.drop k.toNat, ?_, r.drop _⟩
  have e : sliceBounds (some k) none none its.toArray.size = (((min k.toNat its.length : Nat) : Int), ((its.length : Nat) : Int), 1) := by
    simp only [sliceBounds, Option.getD_none, List.size_toArray]
    have h1 : ¬ k < 0 := by omega
    simp only [h1, if_false, show (1 : Int) > 0 by decide, if_true]
    congr 1
    omega
  rw [kmk_pick_nat its.toArray e]
  rw [show its.toArray.toList = its from rfl, kmk_drop_min, List.take_of_length_le]
  rw [List.length_drop]
  omega

theorem e_slTo {v u : Expr} {p pos : Pos} {Q Qa : V → Hp → Prop} {h : Hp} (ha : Ev c A L loc RV (eval v env) Qa h)
    (hb : ∀ x h', Qa x h' → ∃ Qb, Ev c A L loc RV (eval u env) Qb h' ∧ ∀ w h'', Qb w h'' → match x, w with
      | .fl vs, .int k => 0 ≤ k ∧ vs.length ≤ line ∧ Q (.fl (vs.take k.toNat)) h''
      | _, _ => False) :
    Ev c A L loc RV (eval (.Subscript v (.Slice none (some u) none p) pos) env) Q h := by
  intro m own s F
  refine Subscript_ (ha.use F fun x s₁ vx o₁ h₁ q₁ r₁ F₁ g₁ => ?_)
  obtain ⟨Qb, eb, qb⟩ := hb vx h₁ q₁
  refine wpAny_Slice ?_
  rw [evalPart_none]
  refine wpAny_pure ?_
  rw [evalPart_some]
  refine eb.use F₁ fun y s₂ w o₂ h₂ q₂ r₂ F₂ g₂ => ?_
  refine wpAny_pure ?_
  have q := qb w h₂ q₂
  cases vx <;> try exact q.elim
  cases w <;> try exact q.elim
  obtain ⟨t, rfl⟩ := rv_int r₂
  exact last (g₁.trans g₂) (slice_end F₂ (r₁.keep g₂.keep) q.2.1 .none (.int _ t) .none (by decide) (fun _ _ => ⟨_, rfl⟩) (pick_to q.1) q.2.2)
theorem e_slFrom {v u : Expr} {p pos : Pos} {Q Qa : V → Hp → Prop} {h : Hp} (ha : Ev c A L loc RV (eval v env) Qa h)
    (hb : ∀ x h', Qa x h' → ∃ Qb, Ev c A L loc RV (eval u env) Qb h' ∧ ∀ w h'', Qb w h'' → match x, w with
      | .fl vs, .int k => 0 ≤ k ∧ vs.length ≤ line ∧ Q (.fl (vs.drop k.toNat)) h''
      | _, _ => False) :
    Ev c A L loc RV (eval (.Subscript v (.Slice (some u) none none p) pos) env) Q h := by
  intro m own s F
  refine Subscript_ (ha.use F fun x s₁ vx o₁ h₁ q₁ r₁ F₁ g₁ => ?_)
  obtain ⟨Qb, eb, qb⟩ := hb vx h₁ q₁
  refine wpAny_Slice ?_
  rw [evalPart_some]
  refine eb.use F₁ fun y s₂ w o₂ h₂ q₂ r₂ F₂ g₂ => ?_
  rw [evalPart_none]
  refine wpAny_pure ?_
  refine wpAny_pure ?_
  have q := qb w h₂ q₂
  cases vx <;> try exact q.elim
  cases w <;> try exact q.elim
  obtain ⟨t, rfl⟩ := rv_int r₂
  exact last (g₁.trans g₂) (slice_end F₂ (r₁.keep g₂.keep) q.2.1 (.int _ t) .none .none (by decide) (fun _ _ => ⟨_, rfl⟩) (pick_from q.1) q.2.2)
theorem e_slRev {v : Expr} {k₁ : Nat} {p₁ p₂ p pos : Pos} {Q : V → Hp → Prop} {h : Hp} (ha : Ev c A L loc RV (eval v env) (fun x h => match x with | .fl vs => vs.length ≤ line ∧ Q (.fl vs.reverse) h | _ => False) h) :
    Ev c A L loc RV (eval (.Subscript v (.Slice none none (some (.UnaryOp .USub (.Constant (.int 1) k₁ p₁) p₂)) p) pos) env) Q h := by
  intro m own s F
  refine Subscript_ (ha.use F fun x s₁ vx o₁ h₁ q₁ r₁ F₁ g₁ => ?_)
  cases vx <;> try exact q₁.elim
  refine wpAny_Slice ?_
  rw [evalPart_none]
  refine wpAny_pure (wpAny_pure ?_)
  rw [evalPart_some]
  refine UnaryOp_ (wpAny_Constant_int (PySem.P.neg_int ?_))
  have F₂ : FR c L m o₁ loc h₁ { s₁ with toks := s₁.toks + 1 + 1 } := ⟨F₁.fr, F₁.ownL, F₁.locs, F₁.hr, F₁.os, F₁.gens⟩
  exact last g₁ (slice_end (s := { s₁ with toks := s₁.toks + 1 + 1 }) F₂ r₁ q₁.1 .none .none (.int _ _) (by decide) (fun _ _ => ⟨_, rfl⟩) (fun its r => ⟨its.reverse, by rw [krv_pick], r.reverse⟩) q₁.2)

theorem e_catM {a b : Expr} {pos : Pos} {Q Qa : V → Hp → Prop} {h : Hp} (ha : Ev c A L loc RV (eval a env) Qa h)
    (hb : ∀ x h', Qa x h' → ∃ Qb, Ev c A L loc RV (eval b env) Qb h' ∧ ∀ w h'', Qb w h'' → match x, w with
      | .ref d, .fl ys => match h'' d with | some (.lst xs) => xs.length + ys.length ≤ line ∧ ∀ a, h'' a = none → Q (.ref a) (upd h'' a (.lst (xs ++ ys))) | _ => False
      | _, _ => False) :
    Ev c A L loc RV (eval (.BinOp a .Add b pos) env) Q h := by
  intro m own s F
  refine wpAny_BinOp (ha.use F fun x s₁ v o₁ h₁ q₁ r₁ F₁ g₁ => ?_)
  obtain ⟨Qb, eb, qb⟩ := hb v h₁ q₁
  refine eb.use F₁ fun y s₂ w o₂ h₂ q₂ r₂ F₂ g₂ => ?_
  have q := qb w h₂ q₂
  cases v <;> try exact q.elim
  cases w <;> try exact q.elim
  dsimp only at q
  split at q <;> try exact q.elim
  rename_i xs hx
  obtain rfl := rv_ref r₁
  obtain ⟨its, n, hi, rr⟩ := lst_obj F₂.hr hx
  obtain ⟨b', its', rfl, _, hl, rr'⟩ := rv_fl r₂
  have nn : s₂.heap.get? s₂.heap.objs.size = none := size_none (Nat.le_refl _)
  refine list_add ⟨_, hi, rfl, n, rfl⟩ hl (by rw [rr.length, rr'.length]; exact q.1) (Post1.grow (g₁.trans g₂) ?_)
  exact ⟨_, _, _, q.2 _ (F₂.hr.gone (F₂.hr.fresh nn)), mk_ref, F₂.hr.newLst nn (Heap.get?_push_size _ rfl) push_ext (rr.append rr'), grow_own nn push_ext, F₂.os, F₂.gens⟩
end
end Mine

end
section
open PySem PySem.W PyProof.Rows
namespace Mine

/-! Soundness for statements. -/
theorem vnm_inj : ∀ {x y : Var}, x.nm = y.nm → x = y := by
  intro x y h
  have k : ∀ x y : Var, decide (x.nm = y.nm) = decide (x = y) := by
    have all : ([Var.self, .total, .plist, .length, .node, .tree, .other, .parent, .son, .difference, .waiting, .top, .here, .many, .begin, .ahead, .own, .at, .fresh, .before, .rest, .above, .moved, .left, .«end», .found, .script, .pot, .cases, .index, .due, .behind, .first, .last, .start, .place, .each_turn, .size, .way, .deck, .nodes, .places, .lap].all fun x =>
        [Var.self, .total, .plist, .length, .node, .tree, .other, .parent, .son, .difference, .waiting, .top, .here, .many, .begin, .ahead, .own, .at, .fresh, .before, .rest, .above, .moved, .left, .«end», .found, .script, .pot, .cases, .index, .due, .behind, .first, .last, .start, .place, .each_turn, .size, .way, .deck, .nodes, .places, .lap].all fun y => decide (x.nm = y.nm) == decide (x = y)) = true := by decide +kernel
    intro x y
    have mem : ∀ x : Var, x ∈ [Var.self, .total, .plist, .length, .node, .tree, .other, .parent, .son, .difference, .waiting, .top, .here, .many, .begin, .ahead, .own, .at, .fresh, .before, .rest, .above, .moved, .left, .«end», .found, .script, .pot, .cases, .index, .due, .behind, .first, .last, .start, .place, .each_turn, .size, .way, .deck, .nodes, .places, .lap] := by intro x; cases x <;> decide
    exact eq_of_beq (List.all_eq_true.mp (List.all_eq_true.mp all x (mem x)) y (mem y))
  have := k x y
  rw [decide_eq_true h] at this
  exact of_decide_eq_true this.symm

section
variable {c : Cx} {av : Fn → Bool} {A : Around} {env : Env} {L : Addr} {loc : Loc} {qn : Str} {sc : Scope} {fadr : Addr} {cd : Value}

noncomputable def RF (own : Own) (hp : Heap) : Fl → Flow → Prop
  | .next, f => f = .next
  | .ret v, f => ∃ x, f = .ret x ∧ RV own hp v x

noncomputable def PostS (c : Cx) (L : Addr) (own : Own) (hp : Heap) (Q : Post) (f' : Flow) (s' : Shared) : Prop :=
  ∃ f loc' h' own' m', Q f loc' h' ∧ RF own' s'.heap f f' ∧ FR c L m' own' loc' h' s' ∧ GrowL L own hp own' s'.heap

noncomputable def Ex (c : Cx) (A : Around) (L : Addr) (t : Sem Flow) (Q : Post) (loc : Loc) (h : Hp) : Prop :=
  ∀ m own s, FR c L m own loc h s → wpAny (model c.prog c.w) A t (PostS c L own s.heap Q) noE s

theorem PostS.grow {L : Addr} {o₁ o₂ : Own} {h₁ h₂ : Heap} {Q : Post} {f' : Flow} {s' : Shared} (g : GrowL L o₁ h₁ o₂ h₂) (p : PostS c L o₂ h₂ Q f' s') : PostS c L o₁ h₁ Q f' s' := by
  obtain ⟨f, l, h', own', m', q, r, F, g'⟩ := p
  exact ⟨f, l, h', own', m', q, r, F, g.trans g'⟩
theorem PostS.imp {L : Addr} {o₁ : Own} {h₁ : Heap} {Q Q' : Post} {f' : Flow} {s' : Shared} (i : ∀ f l h, Q f l h → Q' f l h) (p : PostS c L o₁ h₁ Q f' s') : PostS c L o₁ h₁ Q' f' s' := by
  obtain ⟨f, l, h', own', m', q, r⟩ := p
  exact ⟨f, l, h', own', m', i _ _ _ q, r⟩
theorem lastS {t : Sem Flow} {Q : Post} {o₁ o₂ : Own} {h₁ h₂ : Heap} {s : Shared} (g : GrowL L o₁ h₁ o₂ h₂)
    (e : wpAny (model c.prog c.w) A t (PostS c L o₂ h₂ Q) noE s) : wpAny (model c.prog c.w) A t (PostS c L o₁ h₁ Q) noE s :=
  wpAny_mono e (fun _ _ p => p.grow g) fun _ _ e => e
theorem Ex.imp {t : Sem Flow} {Q Q' : Post} {h : Hp} (e : Ex c A L t Q loc h) (i : ∀ f l h, Q f l h → Q' f l h) : Ex c A L t Q' loc h :=
  fun m own s F => wpAny_mono (e m own s F) (fun _ _ p => p.imp i) fun _ _ e => e

theorem finS {Q : Post} {h : Hp} {m : Str → Option Value} {own : Own} {s : Shared} (F : FR c L m own loc h s) (q : Q .next loc h) : PostS c L own s.heap Q .next s :=
  ⟨.next, loc, h, own, m, q, rfl, F, GrowL.refl⟩

/-- a name is stored -/
theorem FR.store {m : Str → Option Value} {own : Own} {h : Hp} {s : Shared} (F : FR c L m own loc h s) {x : Var} {v : V} {y : Value} (r : RV own s.heap v y) {h' : Heap}
    (hn : h'.Ns L (fun z => if z = x.nm then some y else m z)) (hs : Heap.SameBut L s.heap h') (tk : Nat) :
    FR c L (fun z => if z = x.nm then some y else m z) own (setL loc x v) h { s with heap := h', toks := tk } ∧ GrowL L own s.heap own h' ∧ Keep own s.heap own h' := by
  obtain ⟨oL, es, ep, hL, hd, -, -⟩ := F.fr.ns
  have g : GrowL L own s.heap own h' := fun a o n e q => ⟨e, (hs.2 a n).trans q⟩
  have k : Keep own s.heap own h' := fun a o e q ⟨xs, n, hq⟩ => by
    refine ⟨e, (hs.2 a fun z => ?_).trans q⟩
    subst z
    rw [hL] at q; cases q
    rw [hd] at hq; cases hq
  refine ⟨⟨F.fr.set hn hs, F.ownL, fun z w e => ?_, ?_, F.os, F.gens⟩, g, k⟩
  · unfold setL at e
    split at e
    · rename_i q; cases e; subst q
      exact ⟨y, if_pos rfl, r.keep k⟩
    · rename_i q
      obtain ⟨u, hu, ru⟩ := F.locs z w e
      exact ⟨u, (if_neg fun z => q (vnm_inj z)).trans hu, ru.keep k⟩
  · have nl : ∀ {a x : Nat}, own a = some x → a ≠ L := fun e z => by rw [z, F.ownL] at e; cases e
    refine F.hr.grow (fun b o e => (F.fr.set hn hs).keep b o e) k (fun a x e => ?_) (fun a x e => ⟨e, hs.2 a (nl e)⟩)
    obtain ⟨z, o, ho⟩ := F.hr.disj a x e
    exact ⟨z, o, (hs.2 a (nl e)).trans ho⟩

theorem fn_scope (hk : sc.kind = .function) : (((envX qn sc L fadr cd []).scope.kind == .class || ((envX qn sc L fadr cd []).scope.kind == .module && (envX qn sc L fadr cd []).locals != (envX qn sc L fadr cd []).globals)) = false) := by
  show (sc.kind == .class || (sc.kind == .module && L != mainGlobals)) = false
  rw [hk]; rfl

theorem loc_of {x : Var} {n : Str} (hl : isLoc sc x n = true) : n = x.nm ∧ sc.names.lookup x.nm = some .local := by
  simp only [isLoc, Bool.and_eq_true, beq_iff_eq] at hl
  obtain ⟨rfl, hl⟩ := hl
  exact ⟨rfl, hl⟩

theorem store {x : Var} {v : V} {y : Value} {m : Str → Option Value} {own : Own} {h : Hp} {s : Shared} {P : Unit → Shared → Prop} (hk : sc.kind = .function) (hl : sc.names.lookup x.nm = some .local) (F : FR c L m own loc h s) (r : RV own s.heap v y)
    (k : ∀ m' s', FR c L m' own (setL loc x v) h s' → GrowL L own s.heap own s'.heap → Keep own s.heap own s'.heap → P () s') : wpAny (model c.prog c.w) A (storeName (envX qn sc L fadr cd []) x.nm y) P noE s :=
  wpAny_storeName_local hl F.fr.ns (fun h' hn hs => let ⟨a, b, d⟩ := F.store r hn hs (s.toks + 1); k _ _ a b d) (fn_scope hk)

theorem swaps_no {v : Expr} {t : Option Expr} {l : Nat} {env : Env} (h : notComp v = true) : swapsWith v t l env = pure false := by
  cases v <;> first | rfl | cases h

theorem s_asg (hk : sc.kind = .function) {x : Var} {n : Str} {p pos : Pos} {v : Expr} {Q : Post} {h : Hp} (hl : isLoc sc x n = true) (hc : notComp v = true)
    (ha : Ev c A L loc RV (eval v (envX qn sc L fadr cd [])) (fun w h => Q .next (setL loc x w) h) h) : Ex c A L (exec (.Assign [.Name n p] v pos) (envX qn sc L fadr cd [])) Q loc h := by
  obtain ⟨rfl, hl'⟩ := loc_of hl
  intro m own s F
  refine wpAny_Assign_Name (ha.use F fun y s₁ w o₁ h₁ q₁ r₁ F₁ g₁ => ?_) (swaps_no hc)
  exact store hk hl' F₁ r₁ fun m' s₂ F₂ g₂ k₂ => PostS.grow (g₁.toL.trans g₂) (finS F₂ q₁)

theorem s_expr (hk : sc.kind = .function) {pos : Pos} {v : Expr} {Q : Post} {h : Hp} (hc : notComp v = true)
    (ha : Ev c A L loc RV (eval v (envX qn sc L fadr cd [])) (fun _ h => Q .next loc h) h) : Ex c A L (exec (.Expr v pos) (envX qn sc L fadr cd [])) Q loc h := by
  intro m own s F
  refine wpAny_Expr_any (ha.use F fun y s₁ w o₁ h₁ q₁ r₁ F₁ g₁ => PostS.grow g₁.toL (finS F₁ q₁)) ?_ (swaps_no hc)
  show (sc.kind == .module && _) = false
  rw [hk]; rfl

theorem s_ret {pos : Pos} {v : Expr} {Q : Post} {h : Hp} (ha : Ev c A L loc RV (eval v env) (fun w h => Q (.ret w) loc h) h) : Ex c A L (exec (.Return (some v) pos) env) Q loc h := by
  intro m own s F
  exact wpAny_Return_some (ha.use F fun y s₁ w o₁ h₁ q₁ r₁ F₁ g₁ => ⟨.ret w, loc, h₁, o₁, m, q₁, ⟨y, rfl, r₁⟩, F₁, g₁.toL⟩)
theorem s_ret0 {pos : Pos} {Q : Post} {h : Hp} (q : Q (.ret .none) loc h) : Ex c A L (exec (.Return none pos) env) Q loc h := by
  intro m own s F
  exact wpAny_Return_none ⟨.ret .none, loc, h, own, m, q, ⟨.none, rfl, mk_none⟩, F, GrowL.refl⟩

theorem s_nil {Q : Post} {h : Hp} (q : Q .next loc h) : Ex c A L (execs [] env) Q loc h := fun _ _ _ F => wpAny_execs_nil (finS F q)
theorem s_cons {st : Stmt} {rest : List Stmt} {Q : Post} {h : Hp} (ha : Ex c A L (exec st env) (fun f l h => match f with | .next => Ex c A L (execs rest env) Q l h | f => Q f l h) loc h) : Ex c A L (execs (st :: rest) env) Q loc h := by
  intro m own s F
  refine wpAny_execs_cons (wpAny_mono (ha m own s F) (fun f s₁ p => ?_) fun _ _ e => e)
  obtain ⟨f', l, h', own', m', q, r, F₁, g⟩ := p
  cases f' with
  | next =>
    cases r
    exact lastS g (q m' own' s₁ F₁)
  | ret v =>
    obtain ⟨x, rfl, rx⟩ := r
    exact ⟨.ret v, l, h', own', m', q, ⟨x, rfl, rx⟩, F₁, g⟩

theorem s_if {t : Expr} {a b : List Stmt} {pos : Pos} {Q : Post} {h : Hp} (ht : Ev c A L loc relB (isTrue t env (eval t env)) (fun v h => tru v fun z => if z then Ex c A L (execs a env) Q loc h else Ex c A L (execs b env) Q loc h) h) :
    Ex c A L (exec (.If t a b pos) env) Q loc h := by
  intro m own s F
  refine wpAny_If (ht.use F fun z s₁ v o₁ h₁ q₁ r₁ F₁ g₁ => ?_)
  cases r₁
  cases z with
  | true => exact lastS g₁.toL (q₁ m o₁ s₁ F₁)
  | false => exact lastS g₁.toL (q₁ m o₁ s₁ F₁)

theorem s_while {t : Expr} {b : List Stmt} {pos : Pos} {Q : Post} {h : Hp} (I : Nat → Loc → Hp → Prop) {n : Nat} (hI : I n loc h)
    (turn : ∀ n loc h, I n loc h → Ev c A L loc relB (isTrue t env (eval t env)) (fun v h => tru v fun z =>
      if z then Ex c A L (execs b env) (fun f l h => match f with | .next => ∃ k, k < n ∧ I k l h | f => Q f l h) loc h else Q .next loc h) h) :
    Ex c A L (exec (.While t b [] pos) env) Q loc h := by
  intro m own s F
  refine wpAny_While (codeAny_mono (R := fun r s' => ∃ f, r = .ok f ∧ PostS c L own s.heap Q f s') ?_ fun r s' ⟨f, e, p⟩ => by subst e; exact p)
  refine codeAny_whileLoop (fun n s' => ∃ own' m' l h', I n l h' ∧ FR c L m' own' l h' s' ∧ GrowL L own s.heap own' s'.heap) (fun n s' ⟨own', m', l, h', hI, F', g'⟩ => ?_) n ⟨own, m, loc, h, hI, F, GrowL.refl⟩
  refine wpAny_mono ((turn n l h' hI).use F' (P := fun z s₁ => if z then wpAny (model c.prog c.w) A (execs b env) (fun f s₃ => match f with
      | .next | .cont => ∃ k, k < n ∧ ∃ own' m' l h', I k l h' ∧ FR c L m' own' l h' s₃ ∧ GrowL L own s.heap own' s₃.heap
      | .brk => False
      | .ret v => PostS c L own s.heap Q (.ret v) s₃) noE s₁ else PostS c L own s.heap Q .next s₁) fun z s₁ v o₁ h₁ q₁ r₁ F₁ g₁ => ?_) (fun z s₁ p => ?_) fun _ _ e => e.elim
  · cases r₁
    cases z with
    | true =>
      refine wpAny_mono (q₁ m' o₁ s₁ F₁) (fun f s₂ p => ?_) fun _ _ e => e
      obtain ⟨f', l', h₂, o₂, m₂, q, r, F₂, g₂⟩ := p
      cases f' with
      | next =>
        cases r
        obtain ⟨k, hk, hI⟩ := q
        exact ⟨k, hk, o₂, m₂, l', h₂, hI, F₂, (g'.trans g₁.toL).trans g₂⟩
      | ret v =>
        obtain ⟨x, rfl, rx⟩ := r
        exact ⟨.ret v, l', h₂, o₂, m₂, q, ⟨x, rfl, rx⟩, F₂, (g'.trans g₁.toL).trans g₂⟩
    | false => exact PostS.grow (g'.trans g₁.toL) (finS F₁ q₁)
  · cases z with
    | true =>
      refine wpAny_mono p (fun f s₂ p => ?_) fun _ _ e => e.elim
      cases f with
      | next => exact p
      | cont => exact p
      | brk => exact p.elim
      | ret v => exact ⟨_, rfl, p⟩
    | false => exact wpAny_execs_nil ⟨_, rfl, p⟩

/-- a field is stored -/
theorem set_fld (G : Glob c av) {m : Str → Option Value} {own : Own} {h : Hp} {s : Shared} {a : Nat} {k : Cls} {fs : Fld → Option V} {f : Fld} {v : V} {y : Value} {P : Unit → Shared → Prop} (F : FR c L m own loc h s) (hx : h a = some (.inst k fs)) (r : RV own s.heap v y)
    (q : ∀ s', FR c L m own loc (upd h a (.inst k (setF fs f v))) s' → Grow own s.heap own s'.heap → P () s') : wpAny (model c.prog c.w) A (setAttr (.ref a) f.nm y) P noE s := by
  have X := G.X.keeps F.hr.keep
  have K := G.facts k
  have T := K.attr f
  obtain ⟨_, dx, es, n, flds, hi, od, ne, hd, nd, en, no⟩ := F.hr.conc _ _ hx
  obtain ⟨flds', en', nd', mem'⟩ := en.putL f r (PyData.keyHash c.w.params f.nm) (s.toks + 1) nd
  have I : ∀ tk, InstAt ({ s with toks := tk } : Shared).heap a (instObj (c.ca k) dx) (c.ca k) (some (dictOf es n)) := fun tk => ⟨hi, rfl, rfl, hd⟩
  refine set_plain X (I _) K.set ?_
  refine osa_open (r := none) X (I _) K.over T.take fun b => ?_
  obtain ⟨cdd, hc, hdi⟩ := any_some T.dict
  have hp : Obj.putName f.nm (PyData.keyHash c.w.params f.nm) (.str f.nm (s.toks + 1)) y (dictOf es n) = dictOf (PySem.W.putL f.nm (PyData.keyHash c.w.params f.nm) (.str f.nm (s.toks + 1)) y es) (putN f.nm es n) := putName_dict ..
  have hg : (s.heap.update dx (Obj.putName f.nm (PyData.keyHash c.w.params f.nm) (.str f.nm (s.toks + 1)) y)).get? dx = some (dictOf (PySem.W.putL f.nm (PyData.keyHash c.w.params f.nm) (.str f.nm (s.toks + 1)) y es) (putN f.nm es n)) := by
    rw [Heap.get?_update_self _ hd (by rw [hp]; rfl), hp]
  have sm : (PySem.W.putL f.nm (PyData.keyHash c.w.params f.nm) (.str f.nm (s.toks + 1)) y es).length ≤ 1000 := by
    rw [en'.length]; exact Nat.le_trans (flds_le nd') (by decide)
  have hl := en.lookSome f.nm
  refine wpAny_bind (wpAny_pure (wpAny_bind (wpAny_bind (wpAny_loadPart hi (wpAny_bind (looks_clsIn X hc _ _ _ _ (fun _ _ e => e) ?_))))))
  rw [hdi]
  refine wpAny_pure (a := some dx) (wpAny_bind (wpAny_pure (wpAny_bind ?_)))
  unfold nsSet
  refine wpAny_bind (wpAny_bind (wpAny_askSetting (wpAny_pure (wpAny_bind (wpAny_mkText (wpAny_bind (wpAny_loadPart hd ?_)))))))
  have c0 : (!(es.toArray.any (·.key.isStr f.nm)) && es.toArray.any (·.refKey)) = false := by
    rw [← Array.any_toList, ← Array.any_toList]
    show (_ && es.any _) = false
    rw [en.noRef, Bool.and_false]
  dsimp only
  rw [aRefKeyMayBeTheName_at, c0]
  refine wpAny_updatePart hd ?_
  refine wpAny_bind (wpAny_lookBehind hg (pastItsLine_dict (by rw [List.size_toArray, sizeLine_eq]; omega)) ?_)
  refine wpAny_pure ?_
  obtain ⟨H, g⟩ := F.hr.updInst (fs := setF fs f v) hx hi od ne (Heap.SameBut.update s.heap dx _) hg nd' (by exact en') (fun f' hf' => by
    have h1 : f' ≠ f := fun z => hf' ((mem' f').mpr (.inl z))
    have h2 : f' ∉ flds := fun z => hf' ((mem' f').mpr (.inr z))
    unfold setF; rw [if_neg h1]; exact no f' h2)
  exact q _ (F.step H g F.os F.gens) g

theorem s_asgF (G : Glob c av) {o v : Expr} {f : Fld} {p pos : Pos} {Q : Post} {Qv : V → Hp → Prop} {h : Hp} (hc : notComp v = true) (hv : Ev c A L loc RV (eval v env) Qv h)
    (ho : ∀ w h', Qv w h' → Ev c A L loc RV (eval o env) (fun ov h => match ov with
      | .ref a => match h a with | some (.inst k fs) => Q .next loc (upd h a (.inst k (setF fs f w))) | _ => False
      | _ => False) h') : Ex c A L (exec (.Assign [.Attribute o f.nm p] v pos) env) Q loc h := by
  intro m own s F
  refine plainObj_wpAny_Assign_Attribute (hv.use F fun y s₁ w o₁ h₁ q₁ r₁ F₁ g₁ => ?_) (swaps_no hc)
  refine (ho w h₁ q₁).use F₁ fun z s₂ ov o₂ h₂ q₂ r₂ F₂ g₂ => ?_
  cases ov <;> try exact q₂.elim
  dsimp only at q₂
  split at q₂ <;> try exact q₂.elim
  rename_i k fs hx
  obtain rfl := rv_ref r₂
  exact set_fld G F₂ hx (r₁.keep g₂.keep) fun s₃ F₃ g₃ => PostS.grow ((g₁.trans g₂).trans g₃).toL (finS F₃ q₂)

theorem s_asgI {o i v : Expr} {p pos : Pos} {Q : Post} {Qv : V → Hp → Prop} {h : Hp} (hc : notComp v = true) (hv : Ev c A L loc RV (eval v env) Qv h)
    (ho : ∀ w h', Qv w h' → ∃ Qo, Ev c A L loc RV (eval o env) Qo h' ∧ ∀ ov h'', Qo ov h'' → Ev c A L loc RV (eval i env) (fun iv h => match ov, iv with
      | .ref a, .int k => match h a with | some (.lst vs) => 0 ≤ k ∧ k.toNat < vs.length ∧ vs.length ≤ line ∧ Q .next loc (upd h a (.lst (vs.set k.toNat w))) | _ => False
      | _, _ => False) h'') : Ex c A L (exec (.Assign [.Subscript o i p] v pos) env) Q loc h := by
  intro m own s F
  refine wpAny_Assign_Subscript (hv.use F fun y s₁ w o₁ h₁ q₁ r₁ F₁ g₁ => ?_) (swaps_no hc)
  obtain ⟨Qo, eo, qo⟩ := ho w h₁ q₁
  refine eo.use F₁ fun z s₂ ov o₂ h₂ q₂ r₂ F₂ g₂ => ?_
  refine (qo ov h₂ q₂).use F₂ fun u s₃ iv o₃ h₃ q₃ r₃ F₃ g₃ => ?_
  cases ov <;> try exact q₃.elim
  cases iv <;> try exact q₃.elim
  rename_i kk
  dsimp only at q₃
  split at q₃ <;> try exact q₃.elim
  rename_i vs hx
  obtain rfl := rv_ref r₂
  obtain ⟨t, rfl⟩ := rv_int r₃
  obtain ⟨its, n, hi, rr⟩ := lst_obj F₃.hr hx
  obtain ⟨k0, kl, kz, q⟩ := q₃
  have big : (line : Int) < 2 ^ 63 := by decide
  have e := rr.length
  refine ki_setAt hi k0 (by omega) (by rw [List.size_toArray]; omega) ?_
  obtain ⟨v', o₄, h₄, q₄, r₄, H₄, g₄, os₄, gn₄⟩ := upd_lst (Q := fun _ h => Q .next loc h) (v := .none) (y := .none) F₃ hx hi (f := (·.setIfInBounds kk.toNat y)) (its' := its.set kk.toNat y) (by simp) (rr.set ((r₁.keep g₂.keep).keep g₃.keep) kk.toNat) q mk_none
  exact PostS.grow (((g₁.trans g₂).trans g₃).trans g₄).toL (finS (F₃.step H₄ g₄ os₄ gn₄) q₄)
end
end Mine

end
section
open PySem PySem.W PyProof.Rows
namespace Mine

section
variable {c : Cx} {av : Fn → Bool} {A : Around} {env : Env} {L : Addr} {loc : Loc} {qn : Str} {sc : Scope} {fadr : Addr} {cd : Value}

theorem names_cons {x : Var} {xs : List Var} {t : Expr} {ts : List Expr} (h : isNames sc (x :: xs) (t :: ts) = true) : ∃ n p, t = .Name n p ∧ isLoc sc x n = true ∧ isNames sc xs ts = true := by
  have h : asName t (fun n => isLoc sc x n && isNames sc xs ts) = true := h
  exact asName_e (M := fun t => ∃ n p, t = .Name n p ∧ isLoc sc x n = true ∧ isNames sc xs ts = true) h fun n p h => ⟨n, p, rfl, and_t h⟩
/-- many names are stored, in order -/
theorem store_names (hk : sc.kind = .function) : ∀ (xs : List Var) (ts : List Expr) (vs : List V) (ys : List Value) (loc loc' : Loc) (m : Str → Option Value) (own : Own) (h : Hp) (s : Shared) (P : Unit → Shared → Prop),
    isNames sc xs ts = true → setAll xs vs loc = some loc' → FR c L m own loc h s → RVs own s.heap vs ys →
    (∀ m' s', FR c L m' own loc' h s' → GrowL L own s.heap own s'.heap → Keep own s.heap own s'.heap → P () s') →
    wpAny (model c.prog c.w) A (assignInOrder ((assignEach ts (envX qn sc L fadr cd [])).map (·.2)) ys) P noE s
  | [], ts, vs, ys, loc, loc', m, own, h, s, P, hn, hs, F, r, k => by
    cases ts with
    | cons t ts => exact absurd hn Bool.false_ne_true
    | nil =>
      cases vs with
      | cons v vs => simp [setAll] at hs
      | nil =>
        simp [setAll] at hs
        subst hs
        rw [RVs] at r; subst r
        exact wpAny_pure (k m s F GrowL.refl Keep.refl)
  | x :: xs, ts, vs, ys, loc, loc', m, own, h, s, P, hn, hs, F, r, k => by
    cases ts with
    | nil => exact absurd hn Bool.false_ne_true
    | cons t ts =>
      cases vs with
      | nil => simp [setAll] at hs
      | cons v vs =>
        simp only [setAll] at hs
        rw [RVs] at r
        obtain ⟨y, ys, rfl, r1, r2⟩ := r
        obtain ⟨_, _, rfl, hn1, hn2⟩ := names_cons hn
        obtain ⟨rfl, hl⟩ := loc_of hn1
        refine wpAny_bind (wpAny_holding (wpAny_assign_Name (store hk hl F r1 fun m₁ s₁ F₁ g₁ k₁ => ?_)))
        exact store_names hk xs ts vs ys _ loc' m₁ own h s₁ P hn2 hs F₁ (r2.keep k₁) fun m₂ s₂ F₂ g₂ k₂ => k m₂ s₂ F₂ (g₁.trans g₂) (k₁.trans k₂)

theorem names_len : ∀ {xs : List Var} {ts : List Expr}, isNames sc xs ts = true → ts.length = xs.length
  | [], [], _ => rfl
  | [], _ :: _, h => absurd h Bool.false_ne_true
  | _ :: _, [], h => absurd h Bool.false_ne_true
  | x :: xs, t :: ts, h => by
    obtain ⟨_, _, rfl, _, h2⟩ := names_cons h
    exact congrArg (· + 1) (names_len h2)
theorem names_noStar {env : Env} : ∀ {xs : List Var} {ts : List Expr}, isNames sc xs ts = true → (assignEach ts env).findIdx? (·.1) = none ∧ (assignEach ts env).length = ts.length
  | [], [], _ => by simp [assignEach]
  | [], _ :: _, h => absurd h Bool.false_ne_true
  | _ :: _, [], h => absurd h Bool.false_ne_true
  | x :: xs, t :: ts, h => by
    obtain ⟨_, _, rfl, _, h2⟩ := names_cons h
    have := names_noStar (env := env) h2
    rw [List.findIdx?_eq_none_iff] at this ⊢
    refine ⟨fun x hx => ?_, ?_⟩
    · rcases List.mem_cons.mp hx with rfl | hx
      · rfl
      · exact this.1 x hx
    · show ((false, _) :: assignEach ts env).length = _
      simp [this.2]
theorem setAll_len : ∀ {xs : List Var} {vs : List V} {l l' : Loc}, setAll xs vs l = some l' → vs.length = xs.length
  | [], [], _, _, _ => rfl
  | [], _ :: _, _, _, h => by simp [setAll] at h
  | _ :: _, [], _, _, h => by simp [setAll] at h
  | x :: xs, v :: vs, _, _, h => by simp only [setAll] at h; simp [setAll_len h]

theorem unpack_ext {s : Shared} {h' : Heap} (e : Heap.ExtBut s.heap.objs.size s.heap h') : ∀ b o, s.heap.get? b = some o → h'.get? b = some o :=
  fun b o g => e b o (Nat.ne_of_lt (Heap.lt_size g)) g

/-- a tuple is unpacked into names -/
theorem assign_tup (hk : sc.kind = .function) {n : Nat} (R : Room A n) {xs : List Var} {ts : List Expr} {k : Nat} {p : Pos} {v : V} {y : Value} {loc loc' : Loc} {m : Str → Option Value} {own : Own} {h : Hp} {s : Shared} {P : Unit → Shared → Prop}
    (hn : isNames sc xs ts = true) (hs : setT xs v loc = some loc') (F : FR c L m own loc h s) (r : RV own s.heap v y)
    (kk : ∀ m' s', FR c L m' own loc' h s' → GrowL L own s.heap own s'.heap → Keep own s.heap own s'.heap → P () s') :
    wpAny (model c.prog c.w) A (assign (.Tuple ts k p) (envX qn sc L fadr cd []) y) P noE s := by
  obtain ⟨vs, rfl⟩ : ∃ vs, v = .tup vs := by cases v <;> first | exact ⟨_, rfl⟩ | simp [setT] at hs
  obtain ⟨a, its, rfl, _, ht, rr⟩ := rv_tup r
  rw [PyProof.Rows.assign_Tuple]
  refine wpAny_bind (wpAny_standAt ?_)
  unfold unpack
  have ns := names_noStar (env := envX qn sc L fadr cd []) hn
  have len : (assignEach ts (envX qn sc L fadr cd [])).length = its.toArray.size := by rw [ns.2, names_len hn, List.size_toArray, rr.length, setAll_len hs]
  rw [ns.1, len]
  refine wpAny_bind (wpAny_holding (unpackItems_tuple R.handled ht fun h' e => ?_))
  have kx := unpack_ext e
  exact store_names hk xs ts vs its loc loc' m own h { s with heap := h' } P hn hs (F.step (F.hr.ext kx) (Grow.ext kx) F.os F.gens) (rr.keep (Grow.ext kx).keep) fun m' s' F' g' k' =>
    kk m' s' F' ((Grow.ext kx).toL.trans g') ((Grow.ext kx).keep.trans k')

theorem no_swap {ts : List Expr} {k : Nat} {p : Pos} {v : Expr} {env : Env} (h : notTuple v = true) : swappedStores [.Tuple ts k p] v env = pure none := by
  cases v <;> first | rfl | cases h

theorem s_asgT (hk : sc.kind = .function) {n : Nat} (R : Room A n) {xs : List Var} {ts : List Expr} {k : Nat} {p pos : Pos} {v : Expr} {Q : Post} {h : Hp} (hn : isNames sc xs ts = true) (hc : notComp v = true) (ht : notTuple v = true)
    (ha : Ev c A L loc RV (eval v (envX qn sc L fadr cd [])) (fun w h => opt (setT xs w loc) fun l => Q .next l h) h) : Ex c A L (exec (.Assign [.Tuple ts k p] v pos) (envX qn sc L fadr cd [])) Q loc h := by
  intro m own s F
  refine PyProof.Rows.Assign_Tuple (ha.use F fun y s₁ w o₁ h₁ q₁ r₁ F₁ g₁ => ?_) (by unfold swapsWithSole; exact swaps_no hc) (no_swap ht)
  obtain ⟨l, hl, q⟩ := opt_some q₁
  exact assign_tup hk R hn hl F₁ r₁ fun m' s₂ F₂ g₂ k₂ => PostS.grow (g₁.toL.trans g₂) (finS F₂ q)

theorem names_map : ∀ {xs : List Var} {ts : List Expr} {ln : Nat} {qn : Str}, isNames sc xs ts = true → ts.all (fun t => t.pos.line == ln) = true →
    ts.filterMap (fun | .Name id pos => if (envX qn sc L fadr cd []).kindOf id == some .local && pos.line == ln then some id else none | _ => none) = xs.map Var.nm
  | [], [], _, _, _, _ => rfl
  | [], _ :: _, _, _, h, _ => absurd h Bool.false_ne_true
  | _ :: _, [], _, _, h, _ => absurd h Bool.false_ne_true
  | x :: xs, t :: ts, ln, qn, h, hl => by
    obtain ⟨n, p, rfl, h1, h2⟩ := names_cons h
    rw [List.all_cons, Bool.and_eq_true] at hl
    obtain ⟨rfl, hx⟩ := loc_of h1
    have e : ((envX qn sc L fadr cd []).kindOf x.nm == some .local && p.line == ln) = true := by
      rw [Bool.and_eq_true]
      exact ⟨by show (sc.names.lookup x.nm == some .local) = true; rw [hx]; rfl, hl.1⟩
    rw [List.filterMap_cons_some (b := x.nm) (by dsimp only; rw [if_pos e]), names_map h2 hl.2]
    rfl

theorem nm_nodup {xs : List Var} (h : xs.Nodup) : (xs.map Var.nm).Nodup :=
  List.Pairwise.map _ (fun _ _ (h : _ ≠ _) q => h (vnm_inj q)) h
theorem eraseDups_nodup {l : List Str} (h : l.Nodup) : l.eraseDups = l := by
  induction l with
  | nil => rfl
  | cons a l ih =>
    rw [List.nodup_cons] at h
    rw [List.eraseDups_cons]
    have : l.filter (fun b => !b == a) = l := List.filter_eq_self.mpr fun x hx => by
      have : x ≠ a := fun z => h.1 (z ▸ hx)
      simpa using this
    rw [this, ih h.2]

/-- which way two or three stores go -/
theorem swap_of (hk : sc.kind = .function) {xs : List Var} {ts vs : List Expr} {k k' : Nat} {p p' : Pos} (hn : isNames sc xs ts = true) (nd : xs.Nodup) (hl : ts.length = vs.length) (ho : swapOk ts vs = true) :
    swappedStores [.Tuple ts k p] (.Tuple vs k' p') (envX qn sc L fadr cd []) = pure none ∨
    (swappedStores [.Tuple ts k p] (.Tuple vs k' p') (envX qn sc L fadr cd []) = pure (some (xs.map Var.nm)) ∧ (xs.length = 2 ∨ xs.length = 3)) := by
  have hb : ((envX qn sc L fadr cd []).blockKind != .function) = false := by
    show ((if sc.kind.isAnnotationScope then ScopeKind.function else sc.kind) != .function) = false
    rw [hk]; rfl
  have hle := names_len hn
  unfold swappedStores
  dsimp only
  unfold swapOk at ho
  by_cases h23 : (ts.length == 2 || ts.length == 3) = true
  · rw [h23] at ho
    simp only [Bool.not_true, Bool.false_or, Bool.and_eq_true, Bool.not_eq_true', Bool.or_eq_true] at ho
    obtain ⟨⟨hs, hline⟩, hf⟩ := ho
    have hm := names_map (L := L) (fadr := fadr) (cd := cd) (qn := qn) hn hline
    have hed : (xs.map Var.nm).eraseDups.length = (xs.map Var.nm).length := by rw [eraseDups_nodup (nm_nodup nd)]
    have c1 : (!(ts.length == 2 || ts.length == 3) || vs.length != ts.length || (envX qn sc L fadr cd []).blockKind != .function) = false := by
      rw [h23, hb, ← hl]; simp
    have c2 : ((xs.map Var.nm).length != ts.length || (xs.map Var.nm).eraseDups.length != (xs.map Var.nm).length) = false := by
      rw [hed, List.length_map, hle]; simp
    rw [if_neg (by rw [c1]; decide)]
    generalize hN : List.filterMap _ ts = N
    obtain rfl : N = xs.map Var.nm := hN.symm.trans hm
    split
    · rename_i z; exact absurd (hs.symm.trans z) (by decide)
    rw [if_neg (by rw [c2]; decide)]
    by_cases hff : vs.all (foldedForSure 8) = true
    · left; rw [if_pos hff]
    · right
      have hc := hf.resolve_left hff
      rw [if_neg hff, if_neg (by rw [hc]; decide)]
      refine ⟨rfl, ?_⟩
      rw [← hle]
      simpa using h23
  · rw [Bool.not_eq_true] at h23
    left
    rw [if_pos (by rw [h23]; rfl)]

theorem setL_comm {l : Loc} {x y : Var} {v w : V} (h : x ≠ y) : setL (setL l x v) y w = setL (setL l y w) x v := by
  funext z
  unfold setL
  by_cases h1 : z = y
  · subst h1; rw [if_pos rfl, if_neg (Ne.symm h), if_pos rfl]
  · by_cases h2 : z = x
    · subst h2; rw [if_neg h1, if_pos rfl, if_pos rfl]
    · rw [if_neg h1, if_neg h2, if_neg h2, if_neg h1]

theorem len_two {α : Type} : ∀ {l : List α}, l.length = 2 → ∃ a b, l = [a, b]
  | [a, b], _ => ⟨a, b, rfl⟩
theorem len_three {α : Type} : ∀ {l : List α}, l.length = 3 → ∃ a b d, l = [a, b, d]
  | [a, b, d], _ => ⟨a, b, d, rfl⟩
theorem s_asgN (hk : sc.kind = .function) {n : Nat} (R : Room A n) {xs : List Var} {ts vs : List Expr} {k k' : Nat} {p p' pos : Pos} {Q : Post} {h : Hp} (hn : isNames sc xs ts = true) (nd : xs.Nodup) (hl : ts.length = vs.length) (ho : swapOk ts vs = true)
    (ha : Ev c A L loc RV (eval (.Tuple vs k' p') (envX qn sc L fadr cd [])) (fun w h => opt (setT xs w loc) fun l => Q .next l h) h) : Ex c A L (exec (.Assign [.Tuple ts k p] (.Tuple vs k' p') pos) (envX qn sc L fadr cd [])) Q loc h := by
  intro m own s F
  have hs : swapsWithSole [.Tuple ts k p] (.Tuple vs k' p') pos.line (envX qn sc L fadr cd []) = pure false := by unfold swapsWithSole; exact swaps_no rfl
  rcases swap_of (L := L) (qn := qn) (fadr := fadr) (cd := cd) (k := k) (k' := k') (p := p) (p' := p') hk hn nd hl ho with hw | ⟨hw, h23⟩
  · refine PyProof.Rows.Assign_Tuple (ha.use F fun y s₁ w o₁ h₁ q₁ r₁ F₁ g₁ => ?_) hs hw
    obtain ⟨l, hl, q⟩ := opt_some q₁
    exact assign_tup hk R hn hl F₁ r₁ fun m' s₂ F₂ g₂ k₂ => PostS.grow (g₁.toL.trans g₂) (finS F₂ q)
  · refine PyProof.Rows.Assign_Tuple_swapped (ha.use F fun y s₁ w o₁ h₁ q₁ r₁ F₁ g₁ => ?_) hs hw
    obtain ⟨l, hl, q⟩ := opt_some q₁
    obtain ⟨us, rfl⟩ : ∃ us, w = .tup us := by cases w <;> first | exact ⟨_, rfl⟩ | simp [setT] at hl
    simp only [setT] at hl
    obtain ⟨a, its, rfl, _, ht, rr⟩ := rv_tup r₁
    have len : (xs.map Var.nm).length = its.toArray.size := by rw [List.length_map, List.size_toArray, rr.length, setAll_len hl]
    rw [len]
    refine unpackItems_tuple R.handled ht fun h' e => ?_
    have kx := unpack_ext e
    have F₂ : FR c L m o₁ loc h₁ { s₁ with heap := h' } := F₁.step (F₁.hr.ext kx) (Grow.ext kx) F₁.os F₁.gens
    have r₂ := rr.keep (Grow.ext kx).keep
    have g₂ : GrowL L own s.heap o₁ h' := (g₁.trans (Grow.ext kx)).toL
    have nl : ∀ {xs : List Var} {ts : List Expr}, isNames sc xs ts = true → ∀ x ∈ xs, sc.names.lookup x.nm = some .local := by
      intro xs
      induction xs with
      | nil => intro _ _ x hx; cases hx
      | cons x xs ih =>
        intro ts h z hz
        cases ts with
        | nil => exact absurd h Bool.false_ne_true
        | cons t ts =>
          obtain ⟨_, _, rfl, h1, h2⟩ := names_cons h
          rcases List.mem_cons.mp hz with rfl | hz
          · exact (loc_of h1).2
          · exact ih h2 z hz
    have nl := nl hn
    rcases h23 with h2 | h3
    · obtain ⟨x₁, x₂, rfl⟩ := len_two h2
      obtain ⟨v₁, v₂, rfl⟩ := len_two (setAll_len hl)
      · have hl : setL (setL loc x₁ v₁) x₂ v₂ = l := Option.some.inj hl
        rw [RVs] at r₂
        obtain ⟨y₁, _, rfl, ra, r₂⟩ := r₂
        rw [RVs] at r₂
        obtain ⟨y₂, _, rfl, rb, r₂⟩ := r₂
        rw [RVs] at r₂; subst r₂
        have ne : x₂ ≠ x₁ := by rw [List.nodup_cons] at nd; intro e; exact nd.1 (by simp [e])
        show wpAny _ _ (assignInOrder [bindName _ x₂.nm, bindName _ x₁.nm] [y₂, y₁]) _ _ _
        refine wpAny_bind (wpAny_holding (wpAny_bindName (store hk (nl x₂ (by simp)) F₂ rb fun m₃ s₃ F₃ g₃ k₃ => ?_)))
        refine wpAny_bind (wpAny_holding (wpAny_bindName (store hk (nl x₁ (by simp)) F₃ (ra.keep k₃) fun m₄ s₄ F₄ g₄ k₄ => ?_)))
        rw [setL_comm ne, hl] at F₄
        exact wpAny_pure (PostS.grow ((g₂.trans g₃).trans g₄) (finS F₄ q))
    · obtain ⟨x₁, x₂, x₃, rfl⟩ := len_three h3
      obtain ⟨v₁, v₂, v₃, rfl⟩ := len_three (setAll_len hl)
      · have hl : setL (setL (setL loc x₁ v₁) x₂ v₂) x₃ v₃ = l := Option.some.inj hl
        rw [RVs] at r₂
        obtain ⟨y₁, _, rfl, ra, r₂⟩ := r₂
        rw [RVs] at r₂
        obtain ⟨y₂, _, rfl, rb, r₂⟩ := r₂
        rw [RVs] at r₂
        obtain ⟨y₃, _, rfl, rd, r₂⟩ := r₂
        rw [RVs] at r₂; subst r₂
        have nd' := nd
        rw [List.nodup_cons, List.nodup_cons] at nd'
        have ne1 : x₂ ≠ x₁ := fun e => nd'.1 (by simp [e])
        have ne2 : x₃ ≠ x₁ := fun e => nd'.1 (by simp [e])
        have ne3 : x₃ ≠ x₂ := fun e => nd'.2.1 (by simp [e])
        show wpAny _ _ (assignInOrder [bindName _ x₃.nm, bindName _ x₂.nm, bindName _ x₁.nm] [y₃, y₂, y₁]) _ _ _
        refine wpAny_bind (wpAny_holding (wpAny_bindName (store hk (nl x₃ (by simp)) F₂ rd fun m₃ s₃ F₃ g₃ k₃ => ?_)))
        refine wpAny_bind (wpAny_holding (wpAny_bindName (store hk (nl x₂ (by simp)) F₃ (rb.keep k₃) fun m₄ s₄ F₄ g₄ k₄ => ?_)))
        refine wpAny_bind (wpAny_holding (wpAny_bindName (store hk (nl x₁ (by simp)) F₄ ((ra.keep k₃).keep k₄) fun m₅ s₅ F₅ g₅ k₅ => ?_)))
        rw [setL_comm ne1, setL_comm ne2, setL_comm ne3, hl] at F₅
        exact wpAny_pure (PostS.grow (((g₂.trans g₃).trans g₄).trans g₅) (finS F₅ q))

/-! loops -/
theorem GrowL.keep {own own' : Own} {hp' : Heap} {m : Str → Option Value} {h : Hp} {s : Shared} (F : FR c L m own loc h s) (g : GrowL L own s.heap own' hp') : Keep own s.heap own' hp' := by
  intro a o e q ⟨xs, n, hq⟩
  refine g a o (fun z => ?_) e q
  obtain ⟨oL, es, ep, hL, hd, -, -⟩ := F.fr.ns
  subst z
  rw [hL] at q; cases q
  rw [hd] at hq; cases hq

/-- the iterator goes on -/
theorem FR.tick {m : Str → Option Value} {own : Own} {h : Hp} {s : Shared} {I : Nat} {h' : Heap} (F : FR c L m own loc h s) (hI : own I = none) (hL : I ≠ L) (hb : c.base.get? I = none) (hs : ∃ o, s.heap.get? I = some o ∧ ∀ xs n, o.data ≠ .seq xs n)
    (k : ∀ b o, b ≠ I → s.heap.get? b = some o → h'.get? b = some o) (tk : Nat) : FR c L m own loc h { s with heap := h', toks := tk } ∧ Keep own s.heap own h' := by
  obtain ⟨oI, hoI, nI⟩ := hs
  have kp : Keep own s.heap own h' := fun a o e q ⟨xs, n, hq⟩ => ⟨e, k a o (fun z => by subst z; rw [hoI] at q; cases q; exact nI _ _ hq) q⟩
  have kb : ∀ b o, c.base.get? b = some o → h'.get? b = some o := fun b o e => k b o (fun z => by rw [z, hb] at e; cases e) (F.hr.keep b o e)
  have ow : ∀ {a x : Nat}, own a = some x → a ≠ I := fun e z => by rw [z, hI] at e; cases e
  obtain ⟨oL, es, ep, hL', hd, hk, hf⟩ := F.fr.ns
  refine ⟨⟨⟨⟨oL, es, ep, k _ _ (Ne.symm hL) hL', hd, hk, hf⟩, kb, F.fr.above⟩, F.ownL, fun z w e => ?_, ?_, F.os, F.gens⟩, kp⟩
  · obtain ⟨u, hu, ru⟩ := F.locs z w e
    exact ⟨u, hu, ru.keep kp⟩
  · refine F.hr.grow kb kp (fun a x e => ?_) fun a x e => ⟨e, ?_⟩
    · obtain ⟨z, o, ho⟩ := F.hr.disj a x e
      exact ⟨z, o, k a o (ow e) ho⟩
    · obtain ⟨z, o, ho⟩ := F.hr.disj a x e
      rw [k a o (ow e) ho, ho]

theorem for_core {target : Expr} {body : List Stmt} {set : V → Loc → Option Loc} {B : Post → Loc → Hp → Prop} {vs : List V} {I : Addr} {fp : List Addr} {P : Nat → Value → Prop} {St : Nat → Heap → Prop} {Q : Post}
    (W : Walks c.prog c.w A I fp [I] vs.length P St) (Is : ∀ i h, St i h → ∃ o, h.get? I = some o ∧ (o.cls = .type "list_iterator" ∨ o.cls = .type "tuple_iterator" ∨ o.cls = .type "range_iterator") ∧ ∃ fs, o.data = .fields fs)
    (hb : ∀ Q loc h, B Q loc h → Ex c A L (execs body env) Q loc h)
    (asn : ∀ (v : V) (x : Value) (l l' : Loc) (m : Str → Option Value) (own : Own) (h : Hp) (s : Shared) (P : Unit → Shared → Prop), set v l = some l' → FR c L m own l h s → RV own s.heap v x →
      (∀ m' s', FR c L m' own l' h s' → GrowL L own s.heap own s'.heap → Keep own s.heap own s'.heap → P () s') → wpAny (model c.prog c.w) A (assign target env x) P noE s)
    {own₀ : Own} {hp₀ : Heap} (hI₀ : hp₀.get? I = none) (item : ∀ i x, i < vs.length → P i x → ∃ v, vs[i]? = some v ∧ RV own₀ hp₀ v x)
    {m : Str → Option Value} {own : Own} {h : Hp} {s : Shared} (F : FR c L m own loc h s) (g : GrowL L own₀ hp₀ own s.heap) (kp : Keep own₀ hp₀ own s.heap) (hS : St 0 s.heap) (hIL : I ≠ L) (hIb : c.base.get? I = none)
    (hfp : ∀ b ∈ fp, own b = none ∧ b ≠ L ∧ ∃ o, s.heap.get? b = some o) (hIf : I ∈ fp) (q : forL B set vs Q loc h) :
    codeAny (model c.prog c.w) A (.forLoop target (.ref I) body [] env) (fun r s' => ∃ f, r = .ok f ∧ PostS c L own₀ hp₀ Q f s') s := by
  refine codeAny_loop' rfl (fun n s' => ∃ i own' m' l h', n + i = vs.length ∧ forL B set (vs.drop i) Q l h' ∧ FR c L m' own' l h' s' ∧ GrowL L own₀ hp₀ own' s'.heap ∧ Keep own₀ hp₀ own' s'.heap ∧ St i s'.heap ∧
    ∀ b ∈ fp, own' b = none ∧ b ≠ L ∧ ∃ o, s'.heap.get? b = some o) (fun n s' ⟨i, own', m', l, h', hn, hf, F', g', k', hS', hfp'⟩ => ?_) vs.length ⟨0, own, m, loc, h, rfl, by simpa using q, F, g, kp, hS, hfp⟩
  show wpAny _ _ ((forTurn target (.ref I) body [] env).onRaise (fun x => do noteFrame x env; theTreesLotGoes x)) _ _ s'
  refine wpAny_noted ?_
  obtain ⟨oI, hoI, clI, fsI, dI⟩ := Is i _ hS'
  have hoI' : ∃ o, s'.heap.get? I = some o ∧ ∀ xs n, o.data ≠ .seq xs n := ⟨oI, hoI, fun xs n e => by rw [dI] at e; cases e⟩
  simp only [forTurn]
  refine wpAny_bind (wpAny_standAt (wpAny_bind (wpAny_onRaise ?_)))
  -- the relation at a heap at which the iterator alone has gone on
  have after : ∀ h'' tk, (∀ b o, b ∉ [I] → s'.heap.get? b = some o → h''.get? b = some o) → FR c L m' own' l h' { s' with heap := h'', toks := tk } ∧ GrowL L own₀ hp₀ own' h'' ∧ Keep own₀ hp₀ own' h'' := fun h'' tk hk => by
    obtain ⟨F₁, k₁⟩ := F'.tick (hfp' I hIf).1 hIL hIb hoI' (fun b o n e => hk b o (by simpa using n) e) tk
    refine ⟨F₁, fun a o n e q => ?_, k'.trans k₁⟩
    obtain ⟨e', q'⟩ := g' a o n e q
    exact ⟨e', hk a o (by simp; intro z; rw [z, hI₀] at q; cases q) q'⟩
  by_cases hlt : i < vs.length
  · refine W.item i s' _ _ hlt hS' fun x h'' tk hP hS'' hk => ?_
    obtain ⟨F₁, g₁, k₁⟩ := after h'' tk hk
    obtain ⟨v, hv, rv⟩ := item i x hlt hP
    have hd : vs.drop i = v :: vs.drop (i + 1) := by
      have := List.getElem?_eq_some_iff.mp hv
      obtain ⟨z, rfl⟩ := this
      exact List.drop_eq_getElem_cons z
    rw [hd] at hf
    obtain ⟨l', hl', hf⟩ := opt_some hf
    dsimp only
    have go : ∀ {P : Unit → Shared → Prop} {E : Value → Shared → Prop}, P () { s' with heap := h'', toks := tk } → wpAny (model c.prog c.w) A (letOwnedTupleGo target (.ref I) x) P E { s' with heap := h'', toks := tk } := by
      intro P E p
      obtain ⟨o, ho, hc, fs, hdd⟩ := Is _ _ hS''
      unfold letOwnedTupleGo
      have inner : wpAny (model c.prog c.w) A (do
          let (.ref r, .ref a) := ((.ref I : Value), x) | return
          let o ← load r
          match o.cls, o.data with
          | .type n, .fields vs =>
            if ["enumerate", "zip", "dict_itemiterator", "dict_reverseitemiterator", "odict_iterator", "itertools.zip_longest", "itertools.pairwise"].contains n && vs[0]? == some (rawInt a) then
              rule "for.unpacks-the-owned-tuple"
              updateField r 0 .none
          | _, _ => pure () : Sem Unit) P E { s' with heap := h'', toks := tk } := by
        cases x <;> try exact wpAny_pure p
        refine wpAny_bind (wpAny_load ho ?_)
        rcases hc with hc | hc | hc <;> rw [hc, hdd] <;> exact wpAny_pure p
      split
      · exact inner
      · exact inner
      · exact wpAny_pure p
    refine wpAny_bind (go ?_)
    refine wpAny_bind (wpAny_mono (asn v x l l' m' own' h' { s' with heap := h'', toks := tk } _ hl' F₁ (rv.keep k₁) fun m₂ s₂ F₂ g₂ k₂ => ?_) (fun _ _ p => p) fun _ _ e => e.elim)
    refine wpAny_bind (wpAny_mono (hb _ l' h' hf m₂ own' s₂ F₂) (fun f s₃ p => ?_) fun _ _ e => e.elim)
    obtain ⟨f', l₃, h₃, o₃, m₃, q₃, r₃, F₃, g₃⟩ := p
    cases f' with
    | next =>
      cases r₃
      have gg := (g₁.trans g₂).trans g₃
      have live : ∀ b ∈ fp, ∀ o, h''.get? b = some o → s₃.heap.get? b = some o := fun b hbm o e =>
        let ⟨z, e⟩ := g₂ b o (hfp' b hbm).2.1 (hfp' b hbm).1 e
        (g₃ b o (hfp' b hbm).2.1 z e).2
      have ex : ∀ b ∈ fp, ∃ o, h''.get? b = some o := fun b hbm => by
        by_cases z : b = I
        · subst z; obtain ⟨o, ho, _⟩ := Is _ _ hS''; exact ⟨o, ho⟩
        · obtain ⟨o, ho⟩ := (hfp' b hbm).2.2
          exact ⟨o, hk b o (by simpa using z) ho⟩
      refine wpAny_pure (.inl ⟨rfl, n - 1, by omega, i + 1, o₃, m₃, l₃, h₃, by omega, q₃, F₃, gg, (k₁.trans k₂).trans (GrowL.keep F₂ g₃), W.frame _ _ _ hS'' live, fun b hbm => ?_⟩)
      obtain ⟨o, ho⟩ := ex b hbm
      obtain ⟨z, ho⟩ := g₂ b o (hfp' b hbm).2.1 (hfp' b hbm).1 ho
      obtain ⟨z, ho⟩ := g₃ b o (hfp' b hbm).2.1 z ho
      exact ⟨z, (hfp' b hbm).2.1, o, ho⟩
    | ret w =>
      obtain ⟨y, rfl, ry⟩ := r₃
      exact wpAny_pure ⟨_, rfl, .ret w, l₃, h₃, o₃, m₃, q₃, ⟨y, rfl, ry⟩, F₃, (g₁.trans g₂).trans g₃⟩
  · have hi : i = vs.length := by omega
    subst hi
    refine W.done s' _ _ hS' fun h'' tk hk => ?_
    obtain ⟨F₁, g₁, k₁⟩ := after h'' tk hk
    rw [List.drop_length] at hf
    refine wpAny_pure (.inr ⟨rfl, codeAny_block (wpAny_execs_nil ⟨_, rfl, ?_⟩)⟩)
    exact ⟨.next, l, h', own', m', hf, rfl, F₁, g₁⟩

theorem no_set {it : Expr} {env : Env} (h : notSet it = true) (x : Value) : foldedSetIterable it env x = pure x := by
  cases it <;> first | rfl | cases h

theorem asn_name (hk : sc.kind = .function) {x : Var} (hl : sc.names.lookup x.nm = some .local) {p : Pos} (v : V) (y : Value) (l l' : Loc) (m : Str → Option Value) (own : Own) (h : Hp) (s : Shared) (P : Unit → Shared → Prop) (e : some (setL l x v) = some l') (F : FR c L m own l h s) (r : RV own s.heap v y)
    (k : ∀ m' s', FR c L m' own l' h s' → GrowL L own s.heap own s'.heap → Keep own s.heap own s'.heap → P () s') : wpAny (model c.prog c.w) A (assign (.Name x.nm p) (envX qn sc L fadr cd []) y) P noE s := by
  cases e
  exact wpAny_assign_Name (store hk hl F r k)

/-- over a list that nobody changes -/
theorem for_fl {target : Expr} {body : List Stmt} {set : V → Loc → Option Loc} {B : Post → Loc → Hp → Prop} {vs : List V} {Q : Post} {n : Nat} (R : Room A n)
    (hb : ∀ Q loc h, B Q loc h → Ex c A L (execs body env) Q loc h)
    (asn : ∀ (v : V) (x : Value) (l l' : Loc) (m : Str → Option Value) (own : Own) (h : Hp) (s : Shared) (P : Unit → Shared → Prop), set v l = some l' → FR c L m own l h s → RV own s.heap v x →
      (∀ m' s', FR c L m' own l' h s' → GrowL L own s.heap own s'.heap → Keep own s.heap own s'.heap → P () s') → wpAny (model c.prog c.w) A (assign target env x) P noE s)
    {m : Str → Option Value} {own : Own} {h : Hp} {s : Shared} {x : Value} (F : FR c L m own loc h s) (r : RV own s.heap (.fl vs) x) (q : forL B set vs Q loc h) :
    wpAny (model c.prog c.w) A (pyIter x) (fun it s₂ => codeAny (model c.prog c.w) A (.forLoop target it body [] env) (fun r s' => ∃ f, r = .ok f ∧ PostS c L own s.heap Q f s') s₂) noE s := by
  obtain ⟨a, its, rfl, oa, hl, rr⟩ := rv_fl r
  refine wpAny_pyIter_list hl ?_
  have hI₀ : s.heap.get? s.heap.objs.size = none := size_none (Nat.le_refl _)
  have la : a < s.heap.objs.size := by obtain ⟨o, ho, _⟩ := hl; exact Heap.lt_size ho
  have W := Walks.list (prog := c.prog) (w := c.w) (A := A) R.handled s.heap.objs.size a (Nat.ne_of_lt la) its.toArray
  have hsz : its.toArray.size = vs.length := by rw [List.size_toArray, rr.length]
  rw [hsz] at W
  have g : Grow own s.heap own (s.heap.push { cls := .type "list_iterator", data := .fields #[.ref a, .int 0 0] }) := Grow.ext push_ext
  have nI : own s.heap.objs.size = none := F.hr.fresh hI₀
  have aL : a ≠ L := by
    obtain ⟨oL, es, ep, hL, hd, -, -⟩ := F.fr.ns
    obtain ⟨o, ho, _, n, hd'⟩ := hl
    intro z; subst z; rw [hL] at ho; cases ho; rw [hd] at hd'; cases hd'
  have IL : s.heap.objs.size ≠ L := fun z => by
    obtain ⟨oL, es, ep, hL, -⟩ := F.fr.ns
    rw [← z, hI₀] at hL; cases hL
  have gI : (s.heap.push { cls := .type "list_iterator", data := .fields #[.ref a, .int 0 0] }).get? s.heap.objs.size = some { cls := .type "list_iterator", data := .fields #[.ref a, .int 0 0] } := Heap.get?_push_size _ rfl
  refine for_core W (fun i h ⟨⟨o, ho, hc, hd⟩, _⟩ => ⟨o, ho, .inl hc, _, hd⟩) hb asn hI₀ (fun i x _ hx => ?_) (F.step (F.hr.ext push_ext) g F.os F.gens) g.toL g.keep ⟨⟨_, gI, rfl, rfl⟩, hl.push _⟩ IL ?_ (fun b hbm => ?_) (by simp) q
  · have hlt := (Array.getElem?_eq_some_iff.mp hx).1
    have hx' : its[i]? = some x := by simpa using hx
    have hlt' : i < vs.length := by rw [← hsz]; exact hlt
    obtain ⟨y, hy, ry⟩ := rr.get (List.getElem?_eq_getElem hlt')
    rw [hx'] at hy; cases hy
    exact ⟨_, List.getElem?_eq_getElem hlt', ry⟩
  · cases e : c.base.get? s.heap.objs.size with
    | none => rfl
    | some o => rw [F.hr.keep _ _ e] at hI₀; cases hI₀
  · rcases List.mem_cons.mp hbm with rfl | hbm
    · exact ⟨nI, IL, _, gI⟩
    · rcases List.mem_cons.mp hbm with rfl | hbm
      · obtain ⟨o, ho, _⟩ := hl
        exact ⟨oa, aL, o, push_ext _ _ ho⟩
      · cases hbm
/-- over a tuple -/
theorem for_tup {target : Expr} {body : List Stmt} {set : V → Loc → Option Loc} {B : Post → Loc → Hp → Prop} {vs : List V} {Q : Post} {n : Nat} (R : Room A n)
    (hb : ∀ Q loc h, B Q loc h → Ex c A L (execs body env) Q loc h)
    (asn : ∀ (v : V) (x : Value) (l l' : Loc) (m : Str → Option Value) (own : Own) (h : Hp) (s : Shared) (P : Unit → Shared → Prop), set v l = some l' → FR c L m own l h s → RV own s.heap v x →
      (∀ m' s', FR c L m' own l' h s' → GrowL L own s.heap own s'.heap → Keep own s.heap own s'.heap → P () s') → wpAny (model c.prog c.w) A (assign target env x) P noE s)
    {m : Str → Option Value} {own : Own} {h : Hp} {s : Shared} {x : Value} (F : FR c L m own loc h s) (r : RV own s.heap (.tup vs) x) (q : forL B set vs Q loc h) :
    wpAny (model c.prog c.w) A (pyIter x) (fun it s₂ => codeAny (model c.prog c.w) A (.forLoop target it body [] env) (fun r s' => ∃ f, r = .ok f ∧ PostS c L own s.heap Q f s') s₂) noE s := by
  obtain ⟨a, its, rfl, oa, hl, rr⟩ := rv_tup r
  refine PyProof.Rows.iter_tuple hl ?_
  have hI₀ : s.heap.get? s.heap.objs.size = none := size_none (Nat.le_refl _)
  have la : a < s.heap.objs.size := by obtain ⟨o, ho, _⟩ := hl; exact Heap.lt_size ho
  have W := Walks.tuple (prog := c.prog) (w := c.w) (A := A) R.handled s.heap.objs.size a (Nat.ne_of_lt la) its.toArray
  have hsz : its.toArray.size = vs.length := by rw [List.size_toArray, rr.length]
  rw [hsz] at W
  have g : Grow own s.heap own (s.heap.push { cls := .type "tuple_iterator", data := .fields #[.ref a, .int 0 0] }) := Grow.ext push_ext
  have nI : own s.heap.objs.size = none := F.hr.fresh hI₀
  have aL : a ≠ L := by
    obtain ⟨oL, es, ep, hL, hd, -, -⟩ := F.fr.ns
    obtain ⟨o, ho, _, n, hd'⟩ := hl
    intro z; subst z; rw [hL] at ho; cases ho; rw [hd] at hd'; cases hd'
  have IL : s.heap.objs.size ≠ L := fun z => by
    obtain ⟨oL, es, ep, hL, -⟩ := F.fr.ns
    rw [← z, hI₀] at hL; cases hL
  have gI : (s.heap.push { cls := .type "tuple_iterator", data := .fields #[.ref a, .int 0 0] }).get? s.heap.objs.size = some { cls := .type "tuple_iterator", data := .fields #[.ref a, .int 0 0] } := Heap.get?_push_size _ rfl
  refine for_core W (fun i h ⟨⟨o, ho, hc, hd⟩, _⟩ => ⟨o, ho, .inr (.inl hc), _, hd⟩) hb asn hI₀ (fun i x _ hx => ?_) (F.step (F.hr.ext push_ext) g F.os F.gens) g.toL g.keep ⟨⟨_, gI, rfl, rfl⟩, hl.keeps push_ext⟩ IL ?_ (fun b hbm => ?_) (by simp) q
  · have hlt := (Array.getElem?_eq_some_iff.mp hx).1
    have hx' : its[i]? = some x := by simpa using hx
    have hlt' : i < vs.length := by rw [← hsz]; exact hlt
    obtain ⟨y, hy, ry⟩ := rr.get (List.getElem?_eq_getElem hlt')
    rw [hx'] at hy; cases hy
    exact ⟨_, List.getElem?_eq_getElem hlt', ry⟩
  · cases e : c.base.get? s.heap.objs.size with
    | none => rfl
    | some o => rw [F.hr.keep _ _ e] at hI₀; cases hI₀
  · rcases List.mem_cons.mp hbm with rfl | hbm
    · exact ⟨nI, IL, _, gI⟩
    · rcases List.mem_cons.mp hbm with rfl | hbm
      · obtain ⟨o, ho, _⟩ := hl
        exact ⟨oa, aL, o, push_ext _ _ ho⟩
      · cases hbm

theorem back {L : Addr} {own : Own} {hp : Heap} {Q : Post} {env : Env} {M : Model} {c' : Code} {s : Shared} (h : codeAny M A c' (fun r s' => ∃ f, r = .ok f ∧ PostS c L own hp Q f s') s) :
    codeAny M A c' (fun r s' => match r with | .ok f => PostS c L own hp Q f s' | .error e => cameBackBy M A env noE e s') s :=
  codeAny_mono h fun _ _ ⟨f, e, p⟩ => by subst e; exact p

theorem s_for {target it : Expr} {body : List Stmt} {pos : Pos} {set : V → Loc → Option Loc} {B : Post → Loc → Hp → Prop} {Q : Post} {n : Nat} {h : Hp} (R : Room A n) (hs : notSet it = true)
    (hb : ∀ Q loc h, B Q loc h → Ex c A L (execs body env) Q loc h)
    (asn : ∀ (v : V) (x : Value) (l l' : Loc) (m : Str → Option Value) (own : Own) (h : Hp) (s : Shared) (P : Unit → Shared → Prop), set v l = some l' → FR c L m own l h s → RV own s.heap v x →
      (∀ m' s', FR c L m' own l' h s' → GrowL L own s.heap own s'.heap → Keep own s.heap own s'.heap → P () s') → wpAny (model c.prog c.w) A (assign target env x) P noE s)
    (ha : Ev c A L loc RV (eval it env) (fun v h => match v with
      | .fl vs => forL B set vs Q loc h
      | .tup vs => forL B set vs Q loc h
      | _ => False) h) : Ex c A L (exec (.For target it body [] pos) env) Q loc h := by
  intro m own s F
  refine wpAny_For (ha.use F fun y s₁ w o₁ h₁ q₁ r₁ F₁ g₁ => ?_) (no_set hs)
  cases w <;> try exact q₁.elim
  · refine wpAny_mono (for_tup R hb asn F₁ r₁ q₁) (fun it s₂ p => back (codeAny_mono p fun _ _ ⟨f, e, p⟩ => ⟨f, e, p.grow g₁.toL⟩)) fun _ _ e => e
  · refine wpAny_mono (for_fl R hb asn F₁ r₁ q₁) (fun it s₂ p => back (codeAny_mono p fun _ _ ⟨f, e, p⟩ => ⟨f, e, p.grow g₁.toL⟩)) fun _ _ e => e

theorem ints_get : ∀ (n : Nat) (lo : Int) (i : Nat), i < n → (intsFrom lo n)[i]? = some (.int (lo + i))
  | 0, _, _, h => by omega
  | n + 1, lo, 0, _ => by simp [intsFrom]
  | n + 1, lo, i + 1, h => by
    simp only [intsFrom, List.getElem?_cons_succ]
    rw [ints_get n (lo + 1) i (by omega)]
    congr 2
    omega
theorem ints_len : ∀ (n : Nat) (lo : Int), (intsFrom lo n).length = n
  | 0, _ => rfl
  | n + 1, lo => by simp [intsFrom, ints_len n]

/-- over a range, from its object on -/
theorem for_range {target : Expr} {body : List Stmt} {set : V → Loc → Option Loc} {B : Post → Loc → Hp → Prop} {lo hi : Int} {Q : Post} {n : Nat} (R : Room A n)
    (hb : ∀ Q loc h, B Q loc h → Ex c A L (execs body env) Q loc h)
    (asn : ∀ (v : V) (x : Value) (l l' : Loc) (m : Str → Option Value) (own : Own) (h : Hp) (s : Shared) (P : Unit → Shared → Prop), set v l = some l' → FR c L m own l h s → RV own s.heap v x →
      (∀ m' s', FR c L m' own l' h s' → GrowL L own s.heap own s'.heap → Keep own s.heap own s'.heap → P () s') → wpAny (model c.prog c.w) A (assign target env x) P noE s)
    {m : Str → Option Value} {own : Own} {h : Hp} {s : Shared} {r : Addr} {t u v : Tok} (F : FR c L m own loc h s) (hr : IsRange s.heap r lo hi 1 t u v) (h1 : smallInt lo = true) (h2 : smallInt hi = true) (q : forL B set (intsFrom lo (hi - lo).toNat) Q loc h) :
    wpAny (model c.prog c.w) A (pyIter (.ref r)) (fun it s₂ => codeAny (model c.prog c.w) A (.forLoop target it body [] env) (fun r s' => ∃ f, r = .ok f ∧ PostS c L own s.heap Q f s') s₂) noE s := by
  simp only [smallInt, Bool.and_eq_true, decide_eq_true_eq] at h1 h2
  refine wpAny_pyIter_range hr (small_one (by omega) (by omega) (by omega) (by omega)) ?_
  have hI₀ : s.heap.get? s.heap.objs.size = none := size_none (Nat.le_refl _)
  have W := Walks.range (prog := c.prog) (w := c.w) (A := A) R.handled s.heap.objs.size lo 1 (hi - lo).toNat
  have hsz : (hi - lo).toNat = (intsFrom lo (hi - lo).toNat).length := (ints_len _ _).symm
  have e1 : Builtin.Range.rangeSize lo hi 1 = (((hi - lo).toNat : Nat) : Int) := by rw [rangeSize_one]; split <;> omega
  have gI : (s.heap.push { cls := .type "range_iterator", data := .fields #[rawInt lo, rawInt (Builtin.Range.rangeSize lo hi 1), rawInt 1] }).get? s.heap.objs.size = some { cls := .type "range_iterator", data := .fields #[rawInt lo, rawInt (Builtin.Range.rangeSize lo hi 1), rawInt 1] } := Heap.get?_push_size _ rfl
  have S0 : IsRangeIter (s.heap.push { cls := .type "range_iterator", data := .fields #[rawInt lo, rawInt (Builtin.Range.rangeSize lo hi 1), rawInt 1] }) s.heap.objs.size (lo + ((0 : Nat) : Int) * 1) ((((hi - lo).toNat : Nat) : Int) - ((0 : Nat) : Int)) 1 := by
    have z1 : lo + ((0 : Nat) : Int) * 1 = lo := by simp
    have z2 : (((hi - lo).toNat : Nat) : Int) - ((0 : Nat) : Int) = Builtin.Range.rangeSize lo hi 1 := by rw [e1]; simp
    rw [z1, z2]
    exact gI
  have g : Grow own s.heap own (s.heap.push { cls := .type "range_iterator", data := .fields #[rawInt lo, rawInt (Builtin.Range.rangeSize lo hi 1), rawInt 1] }) := Grow.ext push_ext
  have nI : own s.heap.objs.size = none := F.hr.fresh hI₀
  have IL : s.heap.objs.size ≠ L := fun z => by
    obtain ⟨oL, es, ep, hL, -⟩ := F.fr.ns
    rw [← z, hI₀] at hL; cases hL
  have W' : Walks c.prog c.w A s.heap.objs.size [s.heap.objs.size] [s.heap.objs.size] (intsFrom lo (hi - lo).toNat).length (fun i v => ∃ t, v = .int (lo + i * 1) t) (fun i h => IsRangeIter h s.heap.objs.size (lo + (i : Nat) * 1) (((hi - lo).toNat : Int) - (i : Nat)) 1) := by
    rw [← hsz]; exact W
  refine for_core W' (fun i h e => ⟨_, e, .inr (.inr rfl), _, rfl⟩) hb asn hI₀ (fun i x hlt ⟨t, hx⟩ => ?_) (F.step (F.hr.ext push_ext) g F.os F.gens) g.toL g.keep S0 IL ?_ (fun b hbm => ?_) (by simp) q
  · subst hx
    refine ⟨_, ints_get _ _ i (by rw [ints_len] at hlt; exact hlt), ?_⟩
    rw [Int.mul_one]
    exact mk_int
  · cases e : c.base.get? s.heap.objs.size with
    | none => rfl
    | some o => rw [F.hr.keep _ _ e] at hI₀; cases hI₀
  · rcases List.mem_cons.mp hbm with rfl | hbm
    · exact ⟨nI, IL, _, gI⟩
    · cases hbm

theorem tok_FR {m : Str → Option Value} {own : Own} {h : Hp} {s s' : Shared} (F : FR c L m own loc h s) (k : ∀ b o, s.heap.get? b = some o → s'.heap.get? b = some o) (eo : s'.os = s.os := by rfl) (eg : s'.gens = s.gens := by rfl) :
    FR c L m own loc h s' ∧ Grow own s.heap own s'.heap :=
  ⟨F.step (F.hr.ext k) (Grow.ext k) (eo.trans F.os) (eg.trans F.gens), Grow.ext k⟩

theorem s_forR1 (G : Glob c av) (hk : sc.kind = .function) {target hi : Expr} {body : List Stmt} {p rpos pos : Pos} {set : V → Loc → Option Loc} {B : Post → Loc → Hp → Prop} {Q : Post} {n : Nat} {h : Hp} (R : Room A n) (hg : isGlo sc "range" = true) (hs : notStar hi = true)
    (hb : ∀ Q loc h, B Q loc h → Ex c A L (execs body (envX qn sc L fadr cd [])) Q loc h)
    (asn : ∀ (v : V) (x : Value) (l l' : Loc) (m : Str → Option Value) (own : Own) (h : Hp) (s : Shared) (P : Unit → Shared → Prop), set v l = some l' → FR c L m own l h s → RV own s.heap v x →
      (∀ m' s', FR c L m' own l' h s' → GrowL L own s.heap own s'.heap → Keep own s.heap own s'.heap → P () s') → wpAny (model c.prog c.w) A (assign target (envX qn sc L fadr cd []) x) P noE s)
    (ha : Ev c A L loc RV (eval hi (envX qn sc L fadr cd [])) (fun w h => match w with
      | .int j => smallInt j = true ∧ forL B set (intsFrom 0 j.toNat) Q loc h
      | _ => False) h) : Ex c A L (exec (.For target (.Call (.Name "range" p) [hi] [] rpos) body [] pos) (envX qn sc L fadr cd [])) Q loc h := by
  intro m own s F
  refine wpAny_For (wpAny_Call_NameR (blt_name G F hk hg (v := .type "range") (by decide) (by kernel_rfl) (by decide) (by decide) ?_)) (no_set rfl)
  refine PyProof.Rows.callWith_type1 (wpAny_items_cons (ha.use F fun y s₁ w o₁ h₁ q₁ r₁ F₁ g₁ => ?_) (star_no hs)) (star_no hs) rfl
  cases w <;> try exact q₁.elim
  rename_i j
  obtain ⟨t, rfl⟩ := rv_int r₁
  refine Calls.spliced_nil (call_range_1 ?_)
  obtain ⟨F₂, g₂⟩ := tok_FR F₁ (s' := { s₁ with heap := s₁.heap.push { cls := .type "range", data := .fields #[.int 0 s₁.toks, .int j t, .int 1 (s₁.toks + 1)] }, toks := s₁.toks + 1 + 1 }) push_ext
  refine wpAny_mono (for_range (lo := 0) R hb asn F₂ (IsRange.new ..) (by decide) q₁.1 (by simpa using q₁.2)) (fun it s₂ p => back (codeAny_mono p fun _ _ ⟨f, e, p⟩ => ⟨f, e, p.grow (g₁.trans g₂).toL⟩)) fun _ _ e => e

theorem s_forR2 (G : Glob c av) (hk : sc.kind = .function) {target lo hi : Expr} {body : List Stmt} {p rpos pos : Pos} {set : V → Loc → Option Loc} {B : Post → Loc → Hp → Prop} {Q : Post} {Qa : V → Hp → Prop} {n : Nat} {h : Hp} (R : Room A n) (hg : isGlo sc "range" = true) (hs : notStar lo = true) (hs' : notStar hi = true)
    (hb : ∀ Q loc h, B Q loc h → Ex c A L (execs body (envX qn sc L fadr cd [])) Q loc h)
    (asn : ∀ (v : V) (x : Value) (l l' : Loc) (m : Str → Option Value) (own : Own) (h : Hp) (s : Shared) (P : Unit → Shared → Prop), set v l = some l' → FR c L m own l h s → RV own s.heap v x →
      (∀ m' s', FR c L m' own l' h s' → GrowL L own s.heap own s'.heap → Keep own s.heap own s'.heap → P () s') → wpAny (model c.prog c.w) A (assign target (envX qn sc L fadr cd []) x) P noE s)
    (ha : Ev c A L loc RV (eval lo (envX qn sc L fadr cd [])) Qa h)
    (hc : ∀ v h', Qa v h' → ∃ Qb, Ev c A L loc RV (eval hi (envX qn sc L fadr cd [])) Qb h' ∧ ∀ w h'', Qb w h'' → match v, w with
      | .int i, .int j => smallInt i = true ∧ smallInt j = true ∧ forL B set (intsFrom i (j - i).toNat) Q loc h''
      | _, _ => False) : Ex c A L (exec (.For target (.Call (.Name "range" p) [lo, hi] [] rpos) body [] pos) (envX qn sc L fadr cd [])) Q loc h := by
  intro m own s F
  refine wpAny_For (wpAny_Call_NameR (blt_name G F hk hg (v := .type "range") (by decide) (by kernel_rfl) (by decide) (by decide) ?_)) (no_set rfl)
  refine PyProof.Rows.callWith_type1 (wpAny_items_cons (ha.use F fun y s₁ v o₁ h₁ q₁ r₁ F₁ g₁ => ?_) (star_no hs)) (star_no hs) (stars_no _ (by simp [hs']))
  obtain ⟨Qb, eb, qb⟩ := hc v h₁ q₁
  refine wpAny_items_cons (eb.use F₁ fun z s₂ w o₂ h₂ q₂ r₂ F₂ g₂ => ?_) (star_no hs')
  have q := qb w h₂ q₂
  cases v <;> try exact q.elim
  cases w <;> try exact q.elim
  rename_i i j
  obtain ⟨t, rfl⟩ := rv_int r₁
  obtain ⟨u, rfl⟩ := rv_int r₂
  refine Calls.spliced_nil (call_range_2 ?_)
  obtain ⟨F₃, g₃⟩ := tok_FR F₂ (s' := { s₂ with heap := s₂.heap.push { cls := .type "range", data := .fields #[.int i t, .int j u, .int 1 s₂.toks] }, toks := s₂.toks + 1 }) push_ext
  refine wpAny_mono (for_range R hb asn F₃ (IsRange.new ..) q.1 q.2.1 q.2.2) (fun it s₂ p => back (codeAny_mono p fun _ _ ⟨f, e, p⟩ => ⟨f, e, p.grow ((g₁.trans g₂).trans g₃).toL⟩)) fun _ _ e => e

/-- the ghost: a list is let alone from now on -/
theorem FR.frz {m : Str → Option Value} {own : Own} {h : Hp} {s : Shared} {x : Var} {a : Nat} {vs : List V} (F : FR c L m own loc h s) (hx : loc x = some (.ref a)) (e : h a = some (.lst vs)) :
    FR c L m (relOwn own a) (setL loc x (.fl vs)) (era h a) s ∧ Grow own s.heap (relOwn own a) s.heap := by
  obtain ⟨H, r⟩ := F.hr.frz e
  refine ⟨⟨F.fr, ?_, fun z w q => ?_, H, F.os, F.gens⟩, grow_rel⟩
  · unfold relOwn; split
    · rfl
    · exact F.ownL
  · unfold setL at q
    split at q
    · rename_i zx
      cases q; subst zx
      obtain ⟨y, hy, ry⟩ := F.locs z _ hx
      obtain rfl := rv_ref ry
      exact ⟨_, hy, r⟩
    · obtain ⟨y, hy, ry⟩ := F.locs z w q
      exact ⟨y, hy, ry.keep grow_rel.keep⟩
theorem s_frz {st : Sem Flow} {x : Var} {a : Nat} {vs : List V} {Q : Post} {h : Hp} (hx : loc x = some (.ref a)) (e : h a = some (.lst vs)) (k : Ex c A L st Q (setL loc x (.fl vs)) (era h a)) : Ex c A L st Q loc h := by
  intro m own s F
  obtain ⟨F', g⟩ := F.frz hx e
  exact lastS g.toL (k m _ s F')
end
end Mine

end
section
open PySem PySem.W PyProof.Rows
namespace Mine

section
variable {c : Cx} {av : Fn → Bool} {A : Around} {env : Env} {L : Addr} {loc : Loc} {qn : Str} {sc : Scope} {fadr : Addr} {cd : Value}

structure CompFacts (scp : Scope) (xs : List Str) : Prop where
  kind : scp.kind = .function
  free : ∀ y ∈ scp.names, y.2 ≠ .free
  cell : ∀ y ∈ scp.names, y.2 ≠ .cell
  names : ∀ y ∈ scp.names, y.2 = .local → scp.names.lookup y.1 = some .local
  loc : ∀ x ∈ xs, scp.names.lookup x = some .local
theorem comp_facts {scp : Scope} {xs : List Str} (h : compOk scp xs = true) : CompFacts scp xs := by
  simp only [compOk, Bool.and_eq_true, beq_iff_eq, List.all_eq_true, bne_iff_ne, Bool.or_eq_true] at h
  obtain ⟨⟨h1, h2⟩, h3⟩ := h
  refine ⟨h1, fun y hy => (h2 y hy).1.1, fun y hy => (h2 y hy).1.2, fun y hy e => ?_, h3⟩
  exact (h2 y hy).2.resolve_left fun z => z e

theorem relabel_id {scp : Scope} {env : Env} (hf : ∀ y ∈ scp.names, y.2 ≠ .free) : relabel scp env = scp := by
  have : (scp.names.map fun (n, k) => if (k == .free && env.scope.kind == .function && env.kindOf n == some .cell) then (n, NameKind.cell) else (n, k)) = scp.names := by
    conv => rhs; rw [← List.map_id scp.names]
    apply List.map_congr_left
    intro y hy
    obtain ⟨n, k⟩ := y
    have := hf _ hy
    have e : (k == NameKind.free) = false := beq_eq_false_iff_ne.mpr this
    simp only [e, Bool.false_and, Bool.false_eq_true, if_false, id]
  unfold relabel
  rw [this]

/-- a built-in's name within a comprehension -/
theorem comp_blt (G : Glob c av) {scp : Scope} {x : Str} {v : Value} {p : Pos} {C : Addr} {Q : Value → Shared → Prop} {E : Value → Shared → Prop} {s : Shared} (hk : scp.kind = .function) (hf : ∀ y ∈ scp.names, y.2 ≠ .free) (hx : scp.names.lookup x = some .globalImplicit)
    (hm : x ∈ bltNames) (hv : bootBuiltins x = some v) (hn : x ≠ "__name__") (hd : (x == ("__debug__" : Str)) = false) (kb : ∀ b o, c.base.get? b = some o → s.heap.get? b = some o) (q : Q v s) :
    wpAny (model c.prog c.w) A (eval (.Name x p) (compEnvC scp [] C (envX qn sc L fadr cd []))) Q E s := by
  obtain ⟨pr, loose, mg, mb, T⟩ := G.T
  have e : nsIn c.K mainGlobals x = some none := by simpa using List.all_eq_true.mp G.blt x hm
  refine Calls.Name_function_global ?_ ?_ (Calls.loadGlobal_builtin (mg := mg) (mb := mb) ?_ (mg_none_of G.X T.g e) ?_ ((T.builtins x hn).trans hv) q) hd
  · show (relabel scp _).kind = _
    rw [relabel_id hf]; exact hk
  · show (relabel scp _).names.lookup x = _
    rw [relabel_id hf]; exact hx
  · exact T.g.keeps kb
  · exact T.b.keeps kb
theorem comp_loc {scp : Scope} {x : Str} {v : Value} {p : Pos} {C : Addr} {Q : Value → Shared → Prop} {E : Value → Shared → Prop} {s : Shared} {m : Str → Option Value} (hk : scp.kind = .function) (hf : ∀ y ∈ scp.names, y.2 ≠ .free) (hx : scp.names.lookup x = some .local)
    (hn : s.heap.Ns C m) (hm : m x = some v) (hd : (x == ("__debug__" : Str)) = false) (q : Q v s) :
    wpAny (model c.prog c.w) A (eval (.Name x p) (compEnvC scp [] C (envX qn sc L fadr cd []))) Q E s := by
  refine wpAny_Name (wpAny_loadName_local ?_ ?_ hn hm q) hd
  · show (relabel scp _).kind = _
    rw [relabel_id hf]; exact hk
  · show (relabel scp _).names.lookup x = _
    rw [relabel_id hf]; exact hx

theorem keeps_refl {s : Shared} {tk : Nat} : Keeps s { s with toks := tk } := ⟨s.heap, tk, rfl, fun _ _ e => e⟩

/-- the element «int(x) % 1009» -/
theorem el_mod (G : Glob c av) {scp : Scope} {x : Str} {i : Int} {t : Tok} {p₁ p₂ p₃ p₄ p₅ : Pos} {k₁ : Nat} {C : Addr} {E : Value → Shared → Prop} {s : Shared} {m : Str → Option Value} (K : CompFacts scp [x]) (hi : scp.names.lookup ("int" : Str) = some .globalImplicit) (hd : (x == ("__debug__" : Str)) = false)
    (hn : s.heap.Ns C m) (hm : m x = some (.int i t)) (kb : ∀ b o, c.base.get? b = some o → s.heap.get? b = some o) :
    wpAny (model c.prog c.w) A (eval (.BinOp (.Call (.Name "int" p₁) [.Name x p₂] [] p₃) .Mod (.Constant (.int 1009) k₁ p₄) p₅) (compEnvC scp [] C (envX qn sc L fadr cd [])))
      (fun y s' => (∃ u, y = .int (i % 1009) u) ∧ Keeps s s') E s := by
  refine wpAny_BinOp (wpAny_Call_NameR (comp_blt G K.kind K.free hi (v := .type "int") (by decide) (by kernel_rfl) (by decide) (by decide) kb ?_))
  refine PyProof.Rows.callWith_type1 (wpAny_items_cons (comp_loc K.kind K.free (K.loc x (by simp)) hn hm hd ?_) (star_no rfl)) (star_no rfl) rfl
  refine Calls.spliced_nil (call_int_int (wpAny_Constant_int (mod_int' (by decide) ?_)))
  rw [Int.fmod_eq_emod_of_nonneg _ (by decide)]
  exact ⟨⟨_, rfl⟩, keeps_refl⟩
/-- the element «abs(x) % 10 ** 30» -/
theorem el_abs (G : Glob c av) {scp : Scope} {x : Str} {i : Int} {t : Tok} {p₁ p₂ p₃ p₄ p₅ p₆ p₇ : Pos} {k₁ k₂ : Nat} {C : Addr} {E : Value → Shared → Prop} {s : Shared} {m : Str → Option Value} (K : CompFacts scp [x]) (hi : scp.names.lookup ("abs" : Str) = some .globalImplicit) (hd : (x == ("__debug__" : Str)) = false)
    (hn : s.heap.Ns C m) (hm : m x = some (.int i t)) (kb : ∀ b o, c.base.get? b = some o → s.heap.get? b = some o) :
    wpAny (model c.prog c.w) A (eval (.BinOp (.Call (.Name "abs" p₁) [.Name x p₂] [] p₃) .Mod (.BinOp (.Constant (.int 10) k₁ p₄) .Pow (.Constant (.int 30) k₂ p₅) p₆) p₇) (compEnvC scp [] C (envX qn sc L fadr cd [])))
      (fun y s' => (∃ u, y = .int ((i.natAbs : Int) % 10 ^ 30) u) ∧ Keeps s s') E s := by
  refine wpAny_BinOp (wpAny_Call_NameR (comp_blt G K.kind K.free hi (v := .builtin "abs") (by decide) (by kernel_rfl) (by decide) (by decide) kb ?_))
  refine PyProof.Rows.callWith_builtin1 (wpAny_items_cons (comp_loc K.kind K.free (K.loc x (by simp)) hn hm hd ?_) (star_no rfl)) (star_no rfl) rfl
  refine Calls.spliced_nil (call_abs_int fun u tk => ?_)
  refine wpAny_BinOp (wpAny_Constant_int (wpAny_Constant_int (PyProof.Rows.pow_int_small (by decide) (by decide) (by decide) ?_)))
  refine mod_int' (by decide) ?_
  have e : (if i < 0 then -i else i) = (i.natAbs : Int) := by split <;> omega
  rw [e, Int.fmod_eq_emod_of_nonneg _ (by decide)]
  exact ⟨⟨_, rfl⟩, keeps_refl⟩

/-- a comprehension over itsInt, its element shown for one int -/
theorem comp_ints {elt it : Expr} {x : Str} {px pos : Pos} {scp : Scope} {f : Int → Int} {Q QE : V → Hp → Prop} {h : Hp} {n : Nat} (R : Room A n) (K : CompFacts scp [x]) (hs : notSet it = true)
    (el : ∀ (i : Int) (t : Tok) (C : Addr) (E : Value → Shared → Prop) (s : Shared) (m : Str → Option Value), s.heap.Ns C m → m x = some (.int i t) → (∀ b o, c.base.get? b = some o → s.heap.get? b = some o) →
      wpAny (model c.prog c.w) A (eval elt (compEnvC scp [] C (envX qn sc L fadr cd []))) (fun y s' => (∃ u, y = .int (f i) u) ∧ Keeps s s') E s)
    (ha : Ev c A L loc RV (eval it (envX qn sc L fadr cd [])) QE h)
    (k : ∀ v h', QE v h' → ∃ (vs : List V) (js : List Int), v = .fl vs ∧ vs.length ≤ line ∧ vs = js.map V.int ∧
      ∀ own s m D ys k' h'' tk, FR c L m own loc h' s → s.heap.get? D = none → h''.get? D = some (listOf (List.toArray ys) k') → (∀ b o, s.heap.get? b = some o → h''.get? b = some o) → RVs own s.heap (js.map fun i => V.int (f i)) ys →
        PostV c own s.heap Q (.ref D) { s with heap := h'', toks := tk }) :
    Ev c A L loc RV (eval (.ListComp elt [⟨.Name x px, it, [], 0⟩] scp pos) (envX qn sc L fadr cd [])) Q h := by
  intro m own s F
  refine wpAny_ListComp_free (cl := []) (fun _ => true) (fun v y => ∃ i t u, v = .int i t ∧ y = .int (f i) u) (closureFor_none K.free) K.cell K.kind K.names (K.loc x (by simp)) (ha.use F fun y s₁ v o₁ h₁ q₁ r₁ F₁ g₁ => ?_) (no_set hs)
  obtain ⟨vs, js, rfl, hz, hvs, kk⟩ := k v h₁ q₁
  subst hvs
  obtain ⟨a, its, rfl, oa, hl, rr⟩ := rv_fl r₁
  refine wpAny_pyIter_list hl ?_
  have la : a < s₁.heap.objs.size := by obtain ⟨o, ho, _⟩ := hl; exact Heap.lt_size ho
  have hI₀ : s₁.heap.get? s₁.heap.objs.size = none := size_none (Nat.le_refl _)
  have W := Walks.list (prog := c.prog) (w := c.w) (A := A) R.handled s₁.heap.objs.size a (Nat.ne_of_lt la) its.toArray
  have itsInt : ∀ (i : Nat) (v : Value), its.toArray[i]? = some v → ∃ k t, v = .int k t ∧ js[i]? = some k := by
    intro i v hv
    have hv' : its[i]? = some v := by simpa using hv
    have hlt := (List.getElem?_eq_some_iff.mp hv').1
    rw [rr.length] at hlt
    obtain ⟨z, hz, rz⟩ := rr.get (List.getElem?_eq_getElem hlt)
    rw [hv'] at hz; cases hz
    simp only [List.getElem_map] at rz
    obtain ⟨t, rfl⟩ := rv_int rz
    exact ⟨_, t, rfl, List.getElem?_eq_getElem (by simpa using hlt)⟩
  have gI : (s₁.heap.push { cls := .type "list_iterator", data := .fields #[.ref a, .int 0 0] }).get? s₁.heap.objs.size = some { cls := .type "list_iterator", data := .fields #[.ref a, .int 0 0] } := Heap.get?_push_size _ rfl
  have kbase : ∀ (s₃ : Shared), (∀ b o, b ∉ [s₁.heap.objs.size] → (s₁.heap.push { cls := .type "list_iterator", data := .fields #[.ref a, .int 0 0] }).get? b = some o → s₃.heap.get? b = some o) → ∀ b o, c.base.get? b = some o → s₃.heap.get? b = some o := by
    intro s₃ hk b o e
    have e1 := F₁.hr.keep b o e
    exact hk b o (by simp; intro z; rw [z, hI₀] at e1; cases e1) (push_ext _ _ e1)
  refine ⟨_, _, _, _, _, _, rfl, W, by rw [List.size_toArray]; exact rr.len_line hz, ⟨⟨_, gI, rfl, rfl⟩, hl.push _⟩, ?_, ⟨?_, ?_⟩, ?_⟩
  · intro b hb
    show b < (s₁.heap.push _).objs.size
    rw [Heap.size_push]
    rcases List.mem_cons.mp hb with rfl | hb
    · exact Nat.lt_succ_self _
    · rcases List.mem_cons.mp hb with rfl | hb
      · exact Nat.lt_succ_of_lt la
      · cases hb
  · intro C i v s₃ m₃ E' _ _ _ _ _ _
    exact wpAny_pure ⟨rfl, s₃.heap, s₃.toks, rfl, fun _ _ e => e⟩
  · intro C i v s₃ m₃ E' _ hP _ hn hm hk _
    obtain ⟨j, t, rfl, _⟩ := itsInt i v hP
    refine wpAny_mono (el j t C E' s₃ m₃ hn hm (kbase s₃ hk)) (fun y s₄ p => ?_) fun _ _ e => e
    obtain ⟨⟨u, e⟩, kp⟩ := p
    exact ⟨⟨j, t, u, rfl, e⟩, kp⟩
  · intro D h' tk ys vs hD hl' hpl hlen hP hF hk
    obtain ⟨k', hpl⟩ := hpl
    have hD' : s₁.heap.get? D = none := by
      cases e : s₁.heap.get? D with
      | none => rfl
      | some o => rw [push_ext _ _ e] at hD; cases hD
    have kx : ∀ b o, s₁.heap.get? b = some o → h'.get? b = some o := fun b o e => hk b o (by simp; intro z; rw [z, hI₀] at e; cases e) (push_ext _ _ e)
    have evs : vs = its := by
      apply List.ext_getElem?
      intro j
      rw [List.size_toArray] at hlen
      cases hj : vs[j]? with
      | some v => have := hP j v hj; simpa using this.symm
      | none =>
        have : vs.length ≤ j := by simpa using hj
        rw [List.getElem?_eq_none (by omega)]
    subst evs
    have filt : (vs.filter fun _ => true) = vs := List.filter_eq_self.mpr fun _ _ => rfl
    rw [filt] at hF
    refine Post1.grow g₁ (kk o₁ s₁ m D ys.toList k' h' tk F₁ hD' (by simpa using hpl) kx ?_)
    clear hP hlen hpl hl' kk itsInt W filt q₁ hz hl
    generalize ys.toList = zs at hF
    clear r₁ g₁ gI kbase F₁
    induction js generalizing vs zs with
    | nil =>
      simp only [List.map_nil] at rr
      rw [RVs] at rr
      subst rr
      cases hF
      exact .nil
    | cons i js ih =>
      simp only [List.map_cons] at rr ⊢
      rw [RVs] at rr
      obtain ⟨z, zs', rfl, rz, rr⟩ := rr
      obtain ⟨t, rfl⟩ := rv_int rz
      cases hF with
      | cons hd tl =>
        obtain ⟨i', t', u, e, rfl⟩ := hd
        cases e
        exact .cons mk_int (ih _ rr _ tl)

theorem mod_some {m : Int} : ∀ {vs ws : List V}, modInts m vs = some ws → ∃ js : List Int, vs = js.map V.int ∧ ws = js.map fun i => V.int (i % m)
  | [], ws, e => by simp [modInts] at e; exact ⟨[], rfl, e⟩
  | .int i :: vs, ws, e => by
    simp only [modInts, Option.map_eq_some_iff] at e
    obtain ⟨ws', h, rfl⟩ := e
    obtain ⟨js, rfl, rfl⟩ := mod_some h
    exact ⟨i :: js, rfl, rfl⟩
  | .none :: _, _, e => by simp [modInts] at e
  | .bool _ :: _, _, e => by simp [modInts] at e
  | .str :: _, _, e => by simp [modInts] at e
  | .ref _ :: _, _, e => by simp [modInts] at e
  | .tup _ :: _, _, e => by simp [modInts] at e
  | .fl _ :: _, _, e => by simp [modInts] at e
theorem abs_some {m : Int} : ∀ {vs ws : List V}, absInts m vs = some ws → ∃ js : List Int, vs = js.map V.int ∧ ws = js.map fun i => V.int ((i.natAbs : Int) % m)
  | [], ws, e => by simp [absInts] at e; exact ⟨[], rfl, e⟩
  | .int i :: vs, ws, e => by
    simp only [absInts, Option.map_eq_some_iff] at e
    obtain ⟨ws', h, rfl⟩ := e
    obtain ⟨js, rfl, rfl⟩ := abs_some h
    exact ⟨i :: js, rfl, rfl⟩
  | .none :: _, _, e => by simp [absInts] at e
  | .bool _ :: _, _, e => by simp [absInts] at e
  | .str :: _, _, e => by simp [absInts] at e
  | .ref _ :: _, _, e => by simp [absInts] at e
  | .tup _ :: _, _, e => by simp [absInts] at e
  | .fl _ :: _, _, e => by simp [absInts] at e

theorem e_compMod (G : Glob c av) {it : Expr} {x : Str} {px pos p₁ p₂ p₃ p₄ p₅ : Pos} {k₁ : Nat} {scp : Scope} {Q : V → Hp → Prop} {h : Hp} {n : Nat} (R : Room A n) (K : CompFacts scp [x]) (hs : notSet it = true) (hi : scp.names.lookup ("int" : Str) = some .globalImplicit) (hd : (x == ("__debug__" : Str)) = false)
    (ha : Ev c A L loc RV (eval it (envX qn sc L fadr cd [])) (fun v h => match v with | .fl vs => vs.length ≤ line ∧ opt (modInts 1009 vs) fun ws => Q (.fl ws) h | _ => False) h) :
    Ev c A L loc RV (eval (.ListComp (.BinOp (.Call (.Name "int" p₁) [.Name x p₂] [] p₃) .Mod (.Constant (.int 1009) k₁ p₄) p₅) [⟨.Name x px, it, [], 0⟩] scp pos) (envX qn sc L fadr cd [])) Q h := by
  refine comp_ints (f := fun i => i % 1009) R K hs (fun i t C E s m hn hm kb => el_mod G K hi hd hn hm kb) ha fun v h' q => ?_
  cases v <;> try exact q.elim
  rename_i vs
  obtain ⟨ws, hw, q'⟩ := opt_some q.2
  obtain ⟨js, rfl, rfl⟩ := mod_some hw
  refine ⟨_, js, rfl, q.1, rfl, fun own s m D ys k' h'' tk F hD hg kx r => ?_⟩
  exact hereNew F.hr F.os F.gens q' kx (RV.newFl (F.hr.fresh hD) hg kx r)
theorem e_compAbs (G : Glob c av) {it : Expr} {x : Str} {px pos p₁ p₂ p₃ p₄ p₅ p₆ p₇ : Pos} {k₁ k₂ : Nat} {scp : Scope} {Q : V → Hp → Prop} {h : Hp} {n : Nat} (R : Room A n) (K : CompFacts scp [x]) (hs : notSet it = true) (hi : scp.names.lookup ("abs" : Str) = some .globalImplicit) (hd : (x == ("__debug__" : Str)) = false)
    (ha : Ev c A L loc RV (eval it (envX qn sc L fadr cd [])) (fun v h => match v with | .fl vs => vs.length ≤ line ∧ opt (absInts (10 ^ 30) vs) fun ws => ∀ a, h a = none → Q (.ref a) (upd h a (.lst ws)) | _ => False) h) :
    Ev c A L loc RV (eval (.ListComp (.BinOp (.Call (.Name "abs" p₁) [.Name x p₂] [] p₃) .Mod (.BinOp (.Constant (.int 10) k₁ p₄) .Pow (.Constant (.int 30) k₂ p₅) p₆) p₇) [⟨.Name x px, it, [], 0⟩] scp pos) (envX qn sc L fadr cd [])) Q h := by
  refine comp_ints (f := fun i => (i.natAbs : Int) % 10 ^ 30) R K hs (fun i t C E s m hn hm kb => el_abs G K hi hd hn hm kb) ha fun v h' q => ?_
  cases v <;> try exact q.elim
  rename_i vs
  obtain ⟨ws, hw, q'⟩ := opt_some q.2
  obtain ⟨js, rfl, rfl⟩ := abs_some hw
  refine ⟨_, js, rfl, q.1, rfl, fun own s m D ys k' h'' tk F hD hg kx r => ?_⟩
  exact ⟨_, _, _, q' _ (F.hr.gone (F.hr.fresh hD)), mk_ref, F.hr.newLst hD hg kx r, grow_own hD kx, F.os, F.gens⟩

theorem comp_store {scp : Scope} {x : Str} {y : Value} {C : Addr} {m : Str → Option Value} {P : Unit → Shared → Prop} {E : Value → Shared → Prop} {s : Shared} (K : scp.kind = .function) (hf : ∀ y ∈ scp.names, y.2 ≠ .free) (hx : scp.names.lookup x = some .local)
    (hn : s.heap.Ns C m) (k : ∀ h', h'.Ns C (fun z => if z = x then some y else m z) → Heap.SameBut C s.heap h' → P () { s with heap := h', toks := s.toks + 1 }) :
    wpAny (model c.prog c.w) A (storeName (compEnvC scp [] C (envX qn sc L fadr cd [])) x y) P E s := by
  refine wpAny_storeName_local ?_ hn k ?_
  · show (relabel scp _).names.lookup x = _
    rw [relabel_id hf]; exact hx
  · show ((relabel scp _).kind == .class || ((relabel scp _).kind == .module && _)) = false
    rw [relabel_id hf, K]; rfl

theorem firsts_at : ∀ {vs ws : List V}, firsts vs = some ws → ws.length = vs.length ∧ ∀ (i : Nat) (v : V), vs[i]? = some v → ∃ a b, v = V.tup [a, b] ∧ ws[i]? = some a
  | [], ws, e => by simp [firsts] at e; subst e; exact ⟨rfl, fun i v h => by cases i <;> cases h⟩
  | u :: vs, ws, e => by
    unfold firsts at e
    split at e
    · rename_i e'; cases e'
    · rename_i x y r e'
      cases e'
      obtain ⟨ws', h, rfl⟩ := Option.map_eq_some_iff.mp e
      obtain ⟨h1, h2⟩ := firsts_at h
      refine ⟨by simp [h1], fun i v hv => ?_⟩
      cases i with
      | zero => simp at hv; subst hv; exact ⟨x, y, rfl, by simp⟩
      | succ i => simp at hv; simpa using h2 i v hv
    · cases e

theorem nlt {a b : Nat} (h : a < b) : a ≠ b := Nat.ne_of_lt h
theorem ngt {a b : Nat} (h : b < a) : a ≠ b := Nat.ne_of_gt h

/-- the first places of a list of pairs -/
theorem e_compFst {it : Expr} {x y : Str} {p₀ px py tp pos : Pos} {kt : Nat} {scp : Scope} {Q : V → Hp → Prop} {h : Hp} {n : Nat} (R : Room A n) (K : CompFacts scp [x, y]) (hxy : x ≠ y) (hs : notSet it = true) (hd : (x == ("__debug__" : Str)) = false)
    (ha : Ev c A L loc RV (eval it (envX qn sc L fadr cd [])) (fun v h => match v with | .fl vs => vs.length ≤ line ∧ opt (firsts vs) fun ws => Q (.fl ws) h | _ => False) h) :
    Ev c A L loc RV (eval (.ListComp (.Name x p₀) [⟨.Tuple [.Name x px, .Name y py] kt tp, it, [], 0⟩] scp pos) (envX qn sc L fadr cd [])) Q h := by
  intro m own s F
  rw [eval_ListComp]
  refine wpAny_comprehension_free (cl := []) rfl (no_set hs) (closureFor_none K.free) K.kind K.names (ha.use F fun z s₁ v o₁ h₁ q₁ r₁ F₁ g₁ => ?_)
  cases v <;> try exact q₁.elim
  rename_i vs
  obtain ⟨ws, hw, q⟩ := opt_some q₁.2
  obtain ⟨a, its, rfl, oa, hl, rr⟩ := rv_fl r₁
  refine wpAny_pyIter_list hl ?_
  have la : a < s₁.heap.objs.size := by obtain ⟨o, ho, _⟩ := hl; exact Heap.lt_size ho
  refine wpAny_newObj_type (wpAny_newFunctionEnv K.cell (by intro y hy; simp at hy) (fun H hns hsb => ?_) K.kind)
  dsimp only at hns hsb ⊢
  generalize hH1 : s₁.heap.push { cls := .type "list_iterator", data := .fields #[.ref a, .int 0 0] } = H1 at hns hsb ⊢
  have z1 : H1.objs.size = s₁.heap.objs.size + 1 := by rw [← hH1, Heap.size_push]
  generalize hH2 : H1.push { cls := .type "list", dict := none, data := .seq ([] : List Value).toArray } = H2 at hns hsb ⊢
  have z2 : H2.objs.size = s₁.heap.objs.size + 2 := by rw [← hH2, Heap.size_push, z1]
  generalize hI : s₁.heap.objs.size = I at *
  have old2 : ∀ b o, s₁.heap.get? b = some o → H2.get? b = some o := fun b o e => by rw [← hH2]; exact push_ext _ _ (by rw [← hH1]; exact push_ext _ _ e)
  have kx : ∀ b o, H2.get? b = some o → H.get? b = some o := fun b o e => hsb.extBut b o (Nat.ne_of_lt (Heap.lt_size e)) (push_ext _ _ e)
  have gI : H.get? I = some { cls := .type "list_iterator", data := .fields #[.ref a, .int 0 0] } := kx _ _ (by rw [← hH2]; refine push_ext _ _ ?_; rw [← hH1, ← hI]; exact Heap.get?_push_size _ rfl)
  have gD : H.get? (I + 1) = some (listOf ([] : List Value).toArray 0) := kx _ _ (by rw [← hH2, ← z1]; exact Heap.get?_push_size _ rfl)
  have hnone : ∀ b, I ≤ b → s₁.heap.get? b = none := fun b hb => size_none (by rw [hI]; exact hb)
  have hlH : H.IsList a its.toArray := by obtain ⟨o, ho, rest⟩ := hl; exact ⟨o, kx _ _ (old2 _ _ ho), rest⟩
  rw [z2] at hns hsb ⊢
  -- the turns
  have loop : ∀ s₂ : Shared, s₂ = { s₁ with heap := H, toks := s₁.toks + ([] : List (Str × Value)).length } →
      codeAny (model c.prog c.w) A (.compLoop (.ListComp (.Name x p₀) [⟨.Tuple [.Name x px, .Name y py] kt tp, it, [], 0⟩] scp pos) 0 (.ref I) (.ref (I + 1)) (compEnvC scp [] (I + 2) (envX qn sc L fadr cd [])))
        (compPost (model c.prog c.w) A noE none (PostV c own s.heap Q) (.ref (I + 1)) (I + 2)) s₂ := by
    rintro s₂ rfl
    refine LCp.codeAny_compLoop_pair (fun k s' => ∃ h' tk m' i ys n', s' = { s₁ with heap := h', toks := tk } ∧ h'.IsListIter I a i ∧ h'.IsList a its.toArray ∧ h'.get? (I + 1) = some (listOf (List.toArray ys) n') ∧ h'.Ns (I + 2) m' ∧
      (∀ b o, s₁.heap.get? b = some o → h'.get? b = some o) ∧ i ≤ its.length ∧ k = its.length - i ∧ ys.length = i ∧ RVs o₁ s₁.heap (ws.take i) ys) ?_ its.length
      ⟨H, _, _, 0, [], 0, rfl, ⟨_, gI, rfl, rfl⟩, hlH, gD, hns, fun b o e => kx _ _ (old2 _ _ e), Nat.zero_le _, by simp, rfl, by simp [RVs.nil]⟩
    rintro k s' ⟨h', tk, m', i, ys, n', rfl, hit, hls, hD, hC, hk, hi, rfl, hyl, hys⟩
    obtain ⟨wl, wat⟩ := firsts_at hw
    have tl := rr.length
    cases hv : its[i]? with
    | none =>
      have hge : its.length ≤ i := by simpa using hv
      refine wpAny_pyNext_list_end R.handled hit hls (by simpa using hv) fun h'' he => ?_
      refine ⟨m', hC.extBut he (ngt (by omega)), fun h₃ hs₃ => ?_⟩
      have k3 : ∀ b o, s₁.heap.get? b = some o → h₃.get? b = some o := fun b o e => by
        have lb : (b : Nat) < (I : Nat) := by rw [← hI]; exact Heap.lt_size e
        exact hs₃.extBut b o (nlt (Nat.lt_of_lt_of_le lb (Nat.le_add_right I 2))) (he b o (nlt lb) (hk b o e))
      have g3 : h₃.get? (I + 1) = some (listOf (List.toArray ys) n') := hs₃.extBut _ _ (nlt (by omega)) (he _ _ (ngt (by omega)) hD)
      rw [List.take_of_length_le (by omega)] at hys
      exact Post1.grow g₁ (hereNew F₁.hr F₁.os F₁.gens q k3 (RV.newFl (F₁.hr.fresh (hnone _ (Nat.le_succ _))) g3 k3 hys))
    | some v =>
      have hlt : i < its.length := (List.getElem?_eq_some_iff.mp hv).1
      have hlv : i < vs.length := by omega
      obtain ⟨u, hu, ru⟩ := rr.get (List.getElem?_eq_getElem hlv)
      rw [hv] at hu; cases hu
      obtain ⟨ta, tb, et, ew⟩ := wat i _ (List.getElem?_eq_getElem hlv)
      rw [et] at ru
      obtain ⟨t, tis, rfl, ot, ht, rt⟩ := rv_tup ru
      rw [RVs] at rt
      obtain ⟨xa, _, rfl, ra, rt⟩ := rt
      rw [RVs] at rt
      obtain ⟨xb, _, rfl, rb, rt⟩ := rt
      rw [RVs] at rt; subst rt
      have lt : t < I := by obtain ⟨o, ho, _⟩ := ht; rw [← hI]; exact Heap.lt_size ho
      refine wpAny_pyNext_list_item hit hls (by simpa using hv) fun h₁' hit₁ hs₁ => ?_
      have k1 : ∀ b o, s₁.heap.get? b = some o → h₁'.get? b = some o := fun b o e => by
        have lb : (b : Nat) < (I : Nat) := by rw [← hI]; exact Heap.lt_size e
        exact hs₁.extBut b o (nlt (by omega)) (hk b o e)
      refine wpAny_letOwnedTupleGo_listiter hit₁ ?_
      refine assign_Tuple_tuple R.handled (ht.keeps k1) rfl rfl fun h₅ he => ?_
      have k5 : ∀ b o, h₁'.get? b = some o → h₅.get? b = some o := unpack_ext (s := { s₁ with heap := h₁', toks := tk }) he
      have c1 : h₁'.Ns (I + 2) m' := hC.sameBut hs₁ (ngt (by omega))
      refine assignInOrder_cons (wpAny_assign_Name (comp_store K.kind K.free (K.loc x (by simp)) (c1.keeps k5) fun h₆ hn₆ hs₆ => ?_))
      refine assignInOrder_cons (wpAny_assign_Name (comp_store K.kind K.free (K.loc y (by simp)) hn₆ fun h₇ hn₇ hs₇ => ?_))
      refine assignInOrder_nil ?_
      refine comp_loc K.kind K.free (K.loc x (by simp)) hn₇ (v := xa) (by rw [if_neg hxy, if_pos rfl]) hd ?_
      have k7 : ∀ b o, b ≠ I + 2 → h₁'.get? b = some o → h₇.get? b = some o := fun b o n e => hs₇.extBut b o n (hs₆.extBut b o n (k5 b o e))
      have d7 : h₇.get? (I + 1) = some (listOf (List.toArray ys) n') := k7 _ _ (nlt (by omega)) (hs₁.extBut _ _ (ngt (by omega)) hD)
      refine append_at (hsz := by have := rr.len_line q₁.1; rw [List.size_toArray]; omega) d7 fun h₈ hs₈ hD₈ => ?_
      have k8 : ∀ b o, s₁.heap.get? b = some o → h₈.get? b = some o := fun b o e => by
        have lb : (b : Nat) < (I : Nat) := by rw [← hI]; exact Heap.lt_size e
        exact hs₈.extBut b o (nlt (Nat.lt_of_lt_of_le lb (Nat.le_add_right I 1))) (k7 b o (nlt (Nat.lt_of_lt_of_le lb (Nat.le_add_right I 2))) (k1 b o e))
      have hit8 : h₈.IsListIter I a (i + 1) := by
        obtain ⟨o, ho, rest⟩ := hit₁
        exact ⟨o, hs₈.extBut _ _ (nlt (by omega)) (k7 _ _ (nlt (by omega)) ho), rest⟩
      have hls8 : h₈.IsList a its.toArray := by obtain ⟨o, ho, rest⟩ := hl; exact ⟨o, k8 _ _ ho, rest⟩
      refine ⟨its.length - (i + 1), by omega, h₈, _, _, i + 1, ys ++ [xa], n' + 1, rfl, hit8, hls8, ?_, hn₇.sameBut hs₈ (ngt (by omega)), k8, by omega, rfl, by simp [hyl], ?_⟩
      · rw [hD₈]; simp
      · have : ws.take (i + 1) = ws.take i ++ [ta] := by rw [List.take_add_one, ew]; rfl
        rw [this]
        exact hys.append (.cons ra .nil)
  rw [z1]
  refine codeAny_compStart_list (loop _ rfl) ?_
  have hit0 : H.IsListIter I a 0 := ⟨_, gI, rfl, rfl⟩
  exact wpAny_pyIter_listiter hit0 (loop _ rfl)
end
end Mine

end
section
open PySem PySem.W PyProof.Rows
namespace Mine

/-! The transformer is sound: expressions. -/
noncomputable def plainT : Expr → Bool
  | .UnaryOp .Not _ _ => false
  | .BoolOp .. => false
  | .IfExp .. => false
  | .Compare .. => false
  | _ => true
theorem plain_true {e : Expr} {env : Env} (h : plainT e = true) : isTrue e env (eval e env) = (do let v ← eval e env; standAt e.pos; holding [v] (truthy v)) := by
  cases e <;> first | rfl | cases h | skip
  rename_i op _ _
  cases op <;> first | rfl | cases h

theorem Room.mono {A : Around} {m n : Nat} (R : Room A n) (h : m ≤ n) : Room A m := ⟨R.handled, by have := R.depth; omega, by have := R.units; omega⟩
theorem Room.call {A : Around} {m n : Nat} (R : Room A n) (h : m < n) : RoomC A m := ⟨R.handled, by have := R.depth; omega, by have := R.units; omega⟩
theorem RoomC.deeper {A : Around} {n : Nat} (R : RoomC A n) (env : Env) : Room (A.deeper env) n := ⟨R.handled, by have := R.depth; show A.depth + 1 + _ + _ ≤ _; omega, by have := R.units; show A.units + 3 + _ + _ ≤ _; omega⟩
theorem Room.eq {A : Around} {n : Nat} (R : Room A n) : A.units + 64 < cLine := by
  have := R.units
  have e : cLine = 9900 := rfl
  omega

section
variable {c : Cx} {av : Fn → Bool} {A : Around} {L : Addr} {loc : Loc} {qn : Str} {sc : Scope} {fadr : Addr} {cd : Value} {cur : Nat}

structure SoundE (c : Cx) (av : Fn → Bool) (A : Around) (L : Addr) (loc : Loc) (qn : Str) (sc : Scope) (fadr : Addr) (cd : Value) (cur : Nat) (me : ME) : Prop where
  E : ∀ e Q h, isE sc cur av me e = true → wpE (Sat c) loc me Q h → Ev c A L loc RV (eval e (envX qn sc L fadr cd [])) Q h
  T : ∀ e Q h, isE sc cur av me e = true → wpE (Sat c) loc me (fun v h => tru v fun b => Q (.bool b) h) h → Ev c A L loc relB (isTrue e (envX qn sc L fadr cd []) (eval e (envX qn sc L fadr cd []))) Q h
  S : ∀ es Q h pos, isAs sc cur av me es = true → wpE (Sat c) loc me Q h → Ev c A L loc relA (spliced (backTo pos (starEach es (envX qn sc L fadr cd [])))) (fun w h => (∀ vs, w = .tup vs → vs.length = es.length) ∧ Q w h) h
  N : ∀ es, isAs sc cur av me es = true → es.all notStar = true

theorem SoundE.plain {me : ME} (hp : ∀ e, isE sc cur av me e = true → plainT e = true ∧ ∀ Q h, wpE (Sat c) loc me Q h → Ev c A L loc RV (eval e (envX qn sc L fadr cd [])) Q h)
    (hs : ∀ es, isAs sc cur av me es = false) : SoundE c av A L loc qn sc fadr cd cur me :=
  ⟨fun e Q h i w => (hp e i).2 Q h w, fun e Q h i w => t_plain ((hp e i).2 _ h w) (plain_true (hp e i).1), fun es _ _ _ i => absurd i (by rw [hs es]; decide), fun es i => absurd i (by rw [hs es]; decide)⟩
theorem SoundE.test {me : ME} (hp : ∀ e, isE sc cur av me e = true → ∀ h, (∀ Q, wpE (Sat c) loc me Q h → Ev c A L loc RV (eval e (envX qn sc L fadr cd [])) Q h) ∧
      ∀ Q, wpE (Sat c) loc me (fun v h => tru v fun b => Q (.bool b) h) h → Ev c A L loc relB (isTrue e (envX qn sc L fadr cd []) (eval e (envX qn sc L fadr cd []))) Q h)
    (hs : ∀ es, isAs sc cur av me es = false) : SoundE c av A L loc qn sc fadr cd cur me :=
  ⟨fun e Q h i w => (hp e i h).1 Q w, fun e Q h i w => (hp e i h).2 Q w, fun es _ _ _ i => absurd i (by rw [hs es]; decide), fun es i => absurd i (by rw [hs es]; decide)⟩

theorem and_post {X : Hp → Prop} {Q : V → Hp → Prop} : (fun (v : V) (h : Hp) => tru v fun t => if t then X h else tru v fun b => Q (.bool b) h) = fun v h => tru v fun b => (fun v h => tru v fun t => if t then X h else Q v h) (.bool b) h := by
  funext v h
  cases v <;> rfl
theorem or_post {X : Hp → Prop} {Q : V → Hp → Prop} : (fun (v : V) (h : Hp) => tru v fun t => if t then tru v fun b => Q (.bool b) h else X h) = fun v h => tru v fun b => (fun v h => tru v fun t => if t then Q v h else X h) (.bool b) h := by
  funext v h
  cases v <;> rfl
theorem line100 : 100 ≤ line := by decide

theorem full {es : List Expr} (h : (!es.isEmpty) = true) : ∃ x xs, es = x :: xs := by cases es with | nil => exact nb h | cons x xs => exact ⟨x, xs, rfl⟩
theorem sound_E (G : Glob c av) (hk : sc.kind = .function) (R : Room A cur) : ∀ me : ME, SoundE c av A L loc qn sc fadr cd cur me := by
  intro me
  induction me with
  | non =>
    refine .plain (fun e i => ?_) fun _ => rfl
    refine isC_e i fun _ _ => ?_
    exact ⟨rfl, fun Q h w m own s F => PyProof.Rows.Constant_none (fin F w mk_none)⟩
  | bool b =>
    refine .plain (fun e i => ?_) fun _ => rfl
    refine isC_e i fun _ _ => ?_
    exact ⟨rfl, fun Q h w m own s F => PyProof.Rows.Constant_bool (fin F w mk_bool)⟩
  | int k =>
    refine .plain (fun e i => ?_) fun _ => rfl
    refine isC_e i fun _ _ => ?_
    exact ⟨rfl, fun Q h w m own s F => wpAny_Constant_int (fin F w mk_int)⟩
  | str =>
    refine .plain (fun e i => ?_) fun _ => rfl
    refine asConst_e i fun x _ _ j1 => ?_
    refine cStr_e j1 fun _ => ?_
    exact ⟨rfl, fun Q h w m own s F => wpAny_Constant_str (fin F w mk_str)⟩
  | ten30 => exact .plain (fun e i => nb i) fun _ => rfl
  | loc x =>
    refine .plain (fun e i => ?_) fun _ => rfl
    refine asName_e i fun n _ j1 => ?_
    exact ⟨rfl, fun Q h w => e_loc hk j1 w⟩
  | attr a f ih =>
    refine .plain (fun e i => ?_) fun _ => rfl
    refine asAttr_e i fun o n p j1 => ?_
    obtain ⟨hq, j2⟩ := and_t j1
    have eo := eq_of_beq hq
    subst eo
    refine and_e j2 fun hb j3 => ?_
    exact ⟨rfl, fun Q h w => e_attr G hb (ih.E _ _ _ j3 w)⟩
  | bin op a b iha ihb =>
    refine .test (fun e i h => ?_) fun _ => rfl
    rcases Bool.or_eq_true_iff.mp i with i0 | i0
    · refine asBin_e i0 fun l o r p j1 => ?_
      refine and_e j1 fun ho j2 => ?_
      refine and_e j2 fun i1 i2 => ?_
      have z : ∀ Q, wpE (Sat c) loc (.bin op a b) Q h → Ev c A L loc RV (eval (.BinOp l o r p) (envX qn sc L fadr cd [])) Q h := fun Q w => e_bin (eq_of_beq ho) (iha.E _ _ _ i1 w) fun x h' q => ⟨_, ihb.E _ _ _ i2 q, fun _ _ q => q⟩
      exact ⟨z, fun Q w => t_plain (z _ w)⟩
    · refine asCmp1_e i0 fun l o r _ j3 => ?_
      refine and_e j3 fun ho j4 => ?_
      refine and_e j4 fun hm j5 => ?_
      refine and_e j5 fun i1 i2 => ?_
      have hm := not_t hm
      exact ⟨fun Q w => e_cmp (eq_of_beq ho) hm (iha.E _ _ _ i1 w) fun x h' q => ⟨_, ihb.E _ _ _ i2 q, fun _ _ q => q⟩,
        fun Q w => t_cmp (eq_of_beq ho) hm (iha.E _ _ _ i1 w) fun x h' q => ⟨_, ihb.E _ _ _ i2 q, fun _ _ q => q⟩⟩
  | eq neg a b iha ihb =>
    refine .test (fun e i h => ?_) fun _ => rfl
    refine asCmp1_e i fun l o r _ j1 => ?_
    obtain ⟨hq, j2⟩ := and_t j1
    have eo := eq_of_beq hq
    subst eo
    refine and_e j2 fun hm j3 => ?_
    refine and_e j3 fun i1 i2 => ?_
    have hm := not_t hm
    exact ⟨fun Q w => e_eq R.eq hm (iha.E _ _ _ i1 w) fun x h' q => ⟨_, ihb.E _ _ _ i2 q, fun _ _ q => q⟩,
      fun Q w => t_eq R.eq hm (iha.E _ _ _ i1 w) fun x h' q => ⟨_, ihb.E _ _ _ i2 q, fun _ _ q => q⟩⟩
  | chain o₁ o₂ a b d iha ihb ihd =>
    refine .test (fun e i h => ?_) fun _ => rfl
    refine asCmp_e i fun l os rs _ j1 => ?_
    refine two_e j1 fun p q j2 => ?_
    refine two_e j2 fun r s j3 => ?_
    refine and_e j3 fun e1 j4 => ?_
    refine and_e j4 fun e2 j5 => ?_
    refine and_e j5 fun hm j6 => ?_
    refine and_e j6 fun i1 j7 => ?_
    refine and_e j7 fun i2 i3 => ?_
    have hm := not_t hm
    refine ⟨fun Q w => e_chain (eq_of_beq e1) (eq_of_beq e2) hm (iha.E _ _ _ i1 w) fun x h' q => ⟨_, ihb.E _ _ _ i2 q, fun y h'' q => ?_⟩,
      fun Q w => t_chain (eq_of_beq e1) (eq_of_beq e2) hm (iha.E _ _ _ i1 w) fun x h' q => ⟨_, ihb.E _ _ _ i2 q, fun y h'' q => ?_⟩⟩ <;>
    · obtain ⟨r, hr, q⟩ := opt_some q
      obtain ⟨t, rfl, q⟩ := tru_bool q
      rw [hr]
      cases t with
      | true => exact ⟨_, ihd.E _ _ _ i3 q, fun _ _ q => q⟩
      | false => exact q
  | not a ih =>
    refine .test (fun e i h => ?_) fun _ => rfl
    refine asUn_e i fun o x _ j1 => ?_
    obtain ⟨hq, j2⟩ := and_t j1
    have eo := eq_of_beq hq
    subst eo
    exact ⟨fun Q w => e_not (ih.E _ _ _ j2 w), fun Q w => t_not (ih.T _ _ _ j2 w)⟩
  | and a b iha ihb =>
    refine .test (fun e i h => ?_) fun _ => rfl
    have TT : ∀ x, isE sc cur av a x = true → ∀ Q : V → Hp → Prop, wpE (Sat c) loc (.and a b) (fun v h => tru v fun b => Q (.bool b) h) h → Ev c A L loc relB (isTrue x (envX qn sc L fadr cd []) (eval x (envX qn sc L fadr cd []))) (fun v h => tru v fun t => if t then wpE (Sat c) loc b (fun v h => tru v fun b => Q (.bool b) h) h else Q v h) h := fun x i1 Q w =>
      iha.T _ (fun v h => tru v fun t => if t then wpE (Sat c) loc b (fun v h => tru v fun b => Q (.bool b) h) h else Q v h) _ i1 ((congrArg (fun q => wpE (Sat c) loc a q h) (and_post (X := fun h => wpE (Sat c) loc b (fun v h => tru v fun b => Q (.bool b) h) h) (Q := Q))).mp w)
    refine asAO_e i (fun x y _ i0 => ?_) (fun x y z r _ i0 => ?_)
    · refine and_e i0 fun i1 i2 => ?_
      refine ⟨fun Q w => e_and ((iha.E _ _ _ i1 w).imp fun v h q => ?_), fun Q w => t_and ((TT x i1 Q w).imp fun v h q => ?_)⟩ <;>
      · obtain ⟨t, rfl, q⟩ := tru_bool q
        cases t with
        | true => first | exact fun m own s F => BoolOp_one (ihb.E _ _ _ i2 q m own s F) | exact t_one_and (ihb.T _ _ _ i2 q)
        | false => exact q
    · refine and_e i0 fun i1 i2 => ?_
      refine ⟨fun Q w => e_and ((iha.E _ _ _ i1 w).imp fun v h q => ?_), fun Q w => t_and ((TT x i1 Q w).imp fun v h q => ?_)⟩ <;>
      · obtain ⟨t, rfl, q⟩ := tru_bool q
        cases t with
        | true => first | exact ihb.E _ _ _ i2 q | exact ihb.T _ _ _ i2 q
        | false => exact q
  | or a b iha ihb =>
    refine .test (fun e i h => ?_) fun _ => rfl
    have TT : ∀ x, isE sc cur av a x = true → ∀ Q : V → Hp → Prop, wpE (Sat c) loc (.or a b) (fun v h => tru v fun b => Q (.bool b) h) h → Ev c A L loc relB (isTrue x (envX qn sc L fadr cd []) (eval x (envX qn sc L fadr cd []))) (fun v h => tru v fun t => if t then Q v h else wpE (Sat c) loc b (fun v h => tru v fun b => Q (.bool b) h) h) h := fun x i1 Q w =>
      iha.T _ (fun v h => tru v fun t => if t then Q v h else wpE (Sat c) loc b (fun v h => tru v fun b => Q (.bool b) h) h) _ i1 ((congrArg (fun q => wpE (Sat c) loc a q h) (or_post (X := fun h => wpE (Sat c) loc b (fun v h => tru v fun b => Q (.bool b) h) h) (Q := Q))).mp w)
    refine asAO_e i (fun x y _ i0 => ?_) (fun x y z r _ i0 => ?_)
    · refine and_e i0 fun i1 i2 => ?_
      refine ⟨fun Q w => e_or ((iha.E _ _ _ i1 w).imp fun v h q => ?_), fun Q w => t_or ((TT x i1 Q w).imp fun v h q => ?_)⟩ <;>
      · obtain ⟨t, rfl, q⟩ := tru_bool q
        cases t with
        | false => first | exact fun m own s F => BoolOp_one (ihb.E _ _ _ i2 q m own s F) | exact t_one_or (ihb.T _ _ _ i2 q)
        | true => exact q
    · refine and_e i0 fun i1 i2 => ?_
      refine ⟨fun Q w => e_or ((iha.E _ _ _ i1 w).imp fun v h q => ?_), fun Q w => t_or ((TT x i1 Q w).imp fun v h q => ?_)⟩ <;>
      · obtain ⟨t, rfl, q⟩ := tru_bool q
        cases t with
        | false => first | exact ihb.E _ _ _ i2 q | exact ihb.T _ _ _ i2 q
        | true => exact q
  | ife t a b iht iha ihb =>
    refine .test (fun e i h => ?_) fun _ => rfl
    refine asIf_e i fun x y z _ j1 => ?_
    refine and_e j1 fun i0 j2 => ?_
    refine and_e j2 fun i1 i2 => ?_
    refine ⟨fun Q w => e_ife ((iht.T _ (fun v h => tru v fun z => if z then wpE (Sat c) loc a Q h else wpE (Sat c) loc b Q h) _ i0 w).imp fun v h q => ?_),
      fun Q w => t_ife ((iht.T _ (fun v h => tru v fun z => if z then wpE (Sat c) loc a (fun v h => tru v fun b => Q (.bool b) h) h else wpE (Sat c) loc b (fun v h => tru v fun b => Q (.bool b) h) h) _ i0 w).imp fun v h q => ?_)⟩
    · obtain ⟨z, rfl, q⟩ := tru_bool q
      cases z with
      | true => exact iha.E _ _ _ i1 q
      | false => exact ihb.E _ _ _ i2 q
    · obtain ⟨z, rfl, q⟩ := tru_bool q
      cases z with
      | true => exact iha.T _ _ _ i1 q
      | false => exact ihb.T _ _ _ i2 q
  | anil =>
    refine ⟨fun e Q h i w => nb i, fun e Q h i w => nb i, fun es Q h pos i w => ?_, fun es i => ?_⟩
    · cases List.isEmpty_iff.mp i
      exact a_nil ⟨fun vs e => by cases e; rfl, w⟩
    · cases List.isEmpty_iff.mp i; rfl
  | acons a as iha ihs =>
    refine ⟨fun e Q h i w => nb i, fun e Q h i w => nb i, fun es Q h pos i w => ?_, fun es i => ?_⟩
    · cases es with
      | nil => exact nb i
      | cons e es =>
        refine and_e (a := notStar e) i fun i0 i => ?_
        refine and_e i fun i1 i2 => ?_
        refine a_cons i0 (iha.E _ _ _ i1 w) fun v h' q => (ihs.S _ _ _ pos i2 q).imp fun w h q => ?_
        cases w <;> try exact q.2.elim
        exact ⟨fun vs e => by cases e; exact congrArg (· + 1) (q.1 _ rfl), q.2⟩
    · cases es with
      | nil => exact nb i
      | cons e es =>
        refine and_e (a := notStar e) i fun i0 k => ?_
        refine and_e k fun i1 i2 => ?_
        rw [List.all_cons, i0, ihs.N es i2]; rfl
  | tup es ih =>
    refine .plain (fun e i => ?_) fun _ => rfl
    refine asTup_e i fun xs _ _ j1 => ?_
    refine and_e j1 fun i1 j2 => ?_
    exact ⟨rfl, fun Q h w => e_tup ((ih.S _ _ _ _ j2 w).imp fun w h q => ⟨fun vs e => by rw [q.1 vs e]; exact Nat.le_trans (of_decide_eq_true i1) line100, q.2⟩)⟩
  | fls es ih =>
    refine .plain (fun e i => ?_) fun _ => rfl
    refine asList_e i fun xs _ j1 => ?_
    refine and_e j1 fun i1 j2 => ?_
    refine ⟨rfl, fun Q h w => e_fls ((ih.S _ _ _ _ j2 w).imp fun w h q => ?_)⟩
    cases w <;> try exact q.2.elim
    exact ⟨by rw [q.1 _ rfl]; exact Nat.le_trans (of_decide_eq_true i1) line100, q.2⟩
  | mls es ih =>
    refine .plain (fun e i => ?_) fun _ => rfl
    refine asList_e i fun xs _ j1 => ?_
    refine and_e j1 fun i1 j2 => ?_
    refine ⟨rfl, fun Q h w => e_mls ((ih.S _ _ _ _ j2 w).imp fun w h q => ?_)⟩
    cases w <;> try exact q.2.elim
    exact ⟨by rw [q.1 _ rfl]; exact Nat.le_trans (of_decide_eq_true i1) line100, q.2⟩
  | call f es ih =>
    refine .plain (fun e i => ?_) fun _ => rfl
    refine asNCall_e i fun n xs _ _ j1 => ?_
    obtain ⟨hq, j2⟩ := and_t j1
    have eo := eq_of_beq hq
    subst eo
    refine and_e j2 fun hg j3 => ?_
    refine and_e j3 fun ha j4 => ?_
    refine and_e j4 fun hl j5 => ?_
    obtain ⟨hf, j6⟩ := and_t j5
    obtain ⟨x, xs', rfl⟩ := full hf
    exact ⟨rfl, fun Q h w => e_call G hk (R.call (of_decide_eq_true hl)) hg (ih.N _ j6) (fun pos => (ih.S _ _ _ pos j6 w).imp fun w h q => q.2) ha⟩
  | new k es ih =>
    refine .plain (fun e i => ?_) fun _ => rfl
    refine asNCall_e i fun n xs _ _ j1 => ?_
    obtain ⟨hq, j2⟩ := and_t j1
    have eo := eq_of_beq hq
    subst eo
    refine and_e j2 fun hg j3 => ?_
    refine and_e j3 fun hl j4 => ?_
    obtain ⟨hf, j5⟩ := and_t j4
    obtain ⟨x, xs', rfl⟩ := full hf
    exact ⟨rfl, fun Q h w => e_new G hk R (of_decide_eq_true hl) hg (ih.N _ j5) (fun pos => (ih.S _ _ _ pos j5 w).imp fun w h q => q.2)⟩
  | len a ih =>
    refine .plain (fun e i => ?_) fun _ => rfl
    refine bi_e i fun x p pos hg hs j1 => ?_
    exact ⟨rfl, fun Q h w => e_len G hk hg hs (ih.E _ _ _ j1 w)⟩
  | abs a ih =>
    refine .plain (fun e i => ?_) fun _ => rfl
    refine bi_e i fun x p pos hg hs j1 => ?_
    exact ⟨rfl, fun Q h w => e_abs G hk hg hs (ih.E _ _ _ j1 w)⟩
  | sum a ih =>
    refine .plain (fun e i => ?_) fun _ => rfl
    refine bi_e i fun x p pos hg hs j1 => ?_
    exact ⟨rfl, fun Q h w => e_sum G hk R hg hs (ih.E _ _ _ j1 w)⟩
  | toInt a ih =>
    refine .plain (fun e i => ?_) fun _ => rfl
    refine bi_e i fun x p pos hg hs j1 => ?_
    exact ⟨rfl, fun Q h w => e_int G hk hg hs (ih.E _ _ _ j1 w)⟩
  | toList a ih =>
    refine .plain (fun e i => ?_) fun _ => rfl
    refine bi_e i fun x p pos hg hs j1 => ?_
    exact ⟨rfl, fun Q h w => e_list G hk hg hs (ih.E _ _ _ j1 w)⟩
  | append a x iha ihx =>
    refine .plain (fun e i => ?_) fun _ => rfl
    refine asMCall_e i fun o xs _ _ hl hb j1 => ?_
    refine and_e j1 fun i1 j2 => ?_
    refine one_e j2 fun y j3 => ?_
    refine and_e j3 fun hs i2 => ?_
    refine ⟨rfl, fun Q h w => e_append hb hl hs ((iha.E _ _ _ i1 w).imp fun v h q => ?_)⟩
    cases v <;> try exact q.elim
    dsimp only at q ⊢
    split at q <;> try exact q.elim
    rename_i hx
    try rw [hx]
    exact ihx.E _ _ _ i2 q
  | pop a ih =>
    refine .plain (fun e i => ?_) fun _ => rfl
    refine asMCall_e i fun o xs _ _ hl hb j1 => ?_
    refine emp_e j1 fun i1 => ?_
    exact ⟨rfl, fun Q h w => e_pop hb hl (ih.E _ _ _ i1 w)⟩
  | popAt0 a ih =>
    refine .plain (fun e i => ?_) fun _ => rfl
    refine asMCall_e i fun o xs _ _ hl hb j1 => ?_
    refine and_e j1 fun i1 j2 => ?_
    refine one_e j2 fun y j3 => ?_
    refine isC_e j3 fun _ _ => ?_
    exact ⟨rfl, fun Q h w => e_popAt0 hb hl (ih.E _ _ _ i1 w)⟩
  | extend a es iha ihs =>
    refine .plain (fun e i => ?_) fun _ => rfl
    refine asMCall_e i fun o xs _ _ hl hb j1 => ?_
    refine and_e j1 fun i1 j2 => ?_
    refine one_e j2 fun y j3 => ?_
    refine asList_e j3 fun ys _ j4 => ?_
    refine and_e j4 fun _ i2 => ?_
    refine ⟨rfl, fun Q h w => e_extend hb hl ((iha.E _ _ _ i1 w).imp fun v h q => ?_)⟩
    cases v <;> try exact q.elim
    dsimp only at q ⊢
    split at q <;> try exact q.elim
    rename_i hx
    try rw [hx]
    exact (ihs.S _ _ _ _ i2 q).imp fun w h q => q.2
  | sub a b iha ihb =>
    refine .plain (fun e i => ?_) fun _ => rfl
    refine asSub_e i fun v t _ j1 => ?_
    refine and_e j1 fun hs j2 => ?_
    refine and_e j2 fun i1 i2 => ?_
    exact ⟨rfl, fun Q h w => e_sub hs (iha.E _ _ _ i1 w) fun x h' q => ⟨_, ihb.E _ _ _ i2 q, fun _ _ q => q⟩⟩
  | slTo a b iha ihb =>
    refine .plain (fun e i => ?_) fun _ => rfl
    refine asSub_e i fun v t _ j1 => ?_
    refine and_e j1 fun i1 j2 => ?_
    refine upTo_e j2 fun u _ i2 => ?_
    exact ⟨rfl, fun Q h w => e_slTo (iha.E _ _ _ i1 w) fun x h' q => ⟨_, ihb.E _ _ _ i2 q, fun _ _ q => q⟩⟩
  | slFrom a b iha ihb =>
    refine .plain (fun e i => ?_) fun _ => rfl
    refine asSub_e i fun v t _ j1 => ?_
    refine and_e j1 fun i1 j2 => ?_
    refine onFrom_e j2 fun u _ i2 => ?_
    exact ⟨rfl, fun Q h w => e_slFrom (iha.E _ _ _ i1 w) fun x h' q => ⟨_, ihb.E _ _ _ i2 q, fun _ _ q => q⟩⟩
  | slRev a ih =>
    refine .plain (fun e i => ?_) fun _ => rfl
    refine asSub_e i fun v t _ j1 => ?_
    refine and_e j1 fun i1 j2 => ?_
    refine isRev_e j2 fun _ _ _ _ => ?_
    exact ⟨rfl, fun Q h w => e_slRev (ih.E _ _ _ i1 w)⟩
  | catM a b iha ihb =>
    refine .plain (fun e i => ?_) fun _ => rfl
    refine asBin_e i fun l o r _ j1 => ?_
    obtain ⟨hq, j2⟩ := and_t j1
    have eo := eq_of_beq hq
    subst eo
    refine and_e j2 fun i1 i2 => ?_
    exact ⟨rfl, fun Q h w => e_catM (iha.E _ _ _ i1 w) fun x h' q => ⟨_, ihb.E _ _ _ i2 q, fun _ _ q => q⟩⟩
  | compMod a ih =>
    refine .plain (fun e i => ?_) fun _ => rfl
    refine asMod_e i fun x r t it scp _ _ _ _ _ hm hi hc hd hs j1 => ?_
    refine isC_e hm fun _ _ => ?_
    exact ⟨rfl, fun Q h w => e_compMod G R (comp_facts hc) hs hi hd (ih.E _ _ _ j1 w)⟩
  | compAbs a ih =>
    refine .plain (fun e i => ?_) fun _ => rfl
    refine asMod_e i fun x r t it scp _ _ _ _ _ hm hi hc hd hs j1 => ?_
    refine isTen30_e hm fun _ _ _ _ _ => ?_
    exact ⟨rfl, fun Q h w => e_compAbs G R (comp_facts hc) hs hi hd (ih.E _ _ _ j1 w)⟩
  | compFst a ih =>
    refine .plain (fun e i => ?_) fun _ => rfl
    refine asFst_e i fun x z it scp _ _ _ _ _ _ hne hc hd hs j1 => ?_
    exact ⟨rfl, fun Q h w => e_compFst R (comp_facts hc) (beq_eq_false_iff_ne.mp hne) hs hd (ih.E _ _ _ j1 w)⟩
end
end Mine

end
section
open PySem PySem.W PyProof.Rows
namespace Mine

/-! The transformer is sound: statements. -/
section
variable {c : Cx} {av : Fn → Bool} {A : Around} {L : Addr} {qn : Str} {sc : Scope} {fadr : Addr} {cd : Value} {cur : Nat}

structure SoundS (c : Cx) (av : Fn → Bool) (A : Around) (L : Addr) (qn : Str) (sc : Scope) (fadr : Addr) (cd : Value) (cur : Nat) (ms : MS) : Prop where
  S : ∀ loc st Q h, isS sc cur av ms st = true → wpS (Sat c) ms Q loc h → Ex c A L (exec st (envX qn sc L fadr cd [])) Q loc h
  B : ∀ loc ss Q h, isSs sc cur av ms ss = true → wpS (Sat c) ms Q loc h → Ex c A L (execs ss (envX qn sc L fadr cd [])) Q loc h

theorem SoundS.one {ms : MS} (h : ∀ loc st Q h, isS sc cur av ms st = true → wpS (Sat c) ms Q loc h → Ex c A L (exec st (envX qn sc L fadr cd [])) Q loc h)
    (e : ∀ ss, isSs sc cur av ms ss = false) : SoundS c av A L qn sc fadr cd cur ms := ⟨h, fun _ ss _ _ i => absurd i (by rw [e ss]; decide)⟩

theorem tru_imp {v : V} {p q : Bool → Prop} (i : ∀ b, p b → q b) (h : tru v p) : tru v q := by cases v <;> first | exact i _ h | exact h.elim
theorem opt_imp {α : Type} {x : Option α} {p q : α → Prop} (i : ∀ b, p b → q b) (h : opt x p) : opt x q := by cases x <;> first | exact i _ h | exact h.elim

theorem vars_le {l : List Var} (nd : l.Nodup) : l.length ≤ line := by
  have : (l.map Var.ctorIdx).Nodup := by
    refine List.Pairwise.map _ (fun a b (h : a ≠ b) q => h ?_) nd
    rw [← Var.ofNat_ctorIdx a, ← Var.ofNat_ctorIdx b, q]
  have := nodup_bound 43 _ this fun x hx => by
    obtain ⟨f, _, rfl⟩ := List.mem_map.mp hx
    cases f <;> decide
  rw [List.length_map] at this
  exact Nat.le_trans this (by decide)

theorem sound_S (G : Glob c av) (hk : sc.kind = .function) (R : Room A cur) : ∀ ms : MS, SoundS c av A L qn sc fadr cd cur ms := by
  intro ms
  induction ms with
  | snil =>
    refine ⟨fun _ _ _ _ i => nb i, fun loc ss Q h i w => ?_⟩
    cases List.isEmpty_iff.mp i
    exact s_nil w
  | scons s r ihs ihr =>
    refine ⟨fun _ _ _ _ i => nb i, fun loc ss Q h i w => ?_⟩
    have one : (∀ x, s ≠ .frz x) → ∃ t ts, ss = t :: ts ∧ isS sc cur av s t = true ∧ isSs sc cur av r ts = true := fun n => by
      cases ss with
      | nil => cases s <;> first | exact absurd rfl (n _) | exact nb i
      | cons t ts => cases s <;> first | exact absurd rfl (n _) | exact ⟨t, ts, rfl, and_t i⟩
    by_cases z : ∃ x, s = .frz x
    · obtain ⟨x, rfl⟩ := z
      have w : (match loc x with
        | some (.ref a) => match h a with | some (.lst vs) => wpS (Sat c) r Q (setL loc x (.fl vs)) (era h a) | _ => False
        | _ => False) := w
      split at w <;> try exact w.elim
      rename_i a e
      split at w <;> try exact w.elim
      rename_i vs e'
      exact s_frz e e' (ihr.B _ _ _ _ i w)
    · obtain ⟨t, ts, rfl, i1, i2⟩ := one fun x e => z ⟨x, e⟩
      refine s_cons ((ihs.S _ _ _ _ i1 w).imp fun f l h q => ?_)
      cases f with
      | next => exact ihr.B _ _ _ _ i2 q
      | ret v => exact q
  | asg x e =>
    refine .one (fun loc st Q h i w => ?_) fun ss => rfl
    refine asAsg_e i fun t v _ j1 => ?_
    refine asName_e j1 fun n _ j2 => ?_
    refine and_e j2 fun h1 j3 => ?_
    refine and_e j3 fun h2 j4 => ?_
    exact s_asg hk h1 h2 ((sound_E G hk R e).E _ _ _ j4 w)
  | asgF o f e =>
    refine .one (fun loc st Q h i w => ?_) fun ss => rfl
    refine asAsg_e i fun t v _ j1 => ?_
    refine asAttr_e j1 fun ov n _ j2 => ?_
    obtain ⟨hq, j3⟩ := and_t j2
    have eo := eq_of_beq hq
    subst eo
    refine and_e j3 fun h2 j4 => ?_
    refine and_e j4 fun h3 h4 => ?_
    exact s_asgF G h2 ((sound_E G hk R e).E _ _ _ h3 w) fun w' h' q => (sound_E G hk R o).E _ _ _ h4 q
  | asgI o k e =>
    refine .one (fun loc st Q h i w => ?_) fun ss => rfl
    refine asAsg_e i fun t v _ j1 => ?_
    refine asSub_e j1 fun ov iv _ j2 => ?_
    refine and_e j2 fun h1 j3 => ?_
    refine and_e j3 fun h2 j4 => ?_
    refine and_e j4 fun h3 h4 => ?_
    exact s_asgI h1 ((sound_E G hk R e).E _ _ _ h2 w) fun w' h' q => ⟨_, (sound_E G hk R o).E _ _ _ h3 q, fun _ _ q => (sound_E G hk R k).E _ _ _ h4 q⟩
  | asgT xs e =>
    refine .one (fun loc st Q h i w => ?_) fun ss => rfl
    refine asAsg_e i fun t v _ j1 => ?_
    refine asTup_e j1 fun ts _ _ j2 => ?_
    refine and_e j2 fun h2 j3 => ?_
    refine and_e j3 fun h3 j4 => ?_
    refine and_e j4 fun h4 h5 => ?_
    exact s_asgT hk R h2 h3 h4 ((sound_E G hk R e).E _ _ _ h5 w)
  | asgN xs es =>
    refine .one (fun loc st Q h i w => ?_) fun ss => rfl
    refine asAsg_e i fun t v _ j1 => ?_
    refine asTup_e j1 fun ts _ _ j2 => ?_
    refine asTup_e j2 fun vs _ _ j3 => ?_
    refine and_e j3 fun h1 j4 => ?_
    refine and_e j4 fun h2 j5 => ?_
    refine and_e j5 fun h3 j6 => ?_
    refine and_e j6 fun h4 h5 => ?_
    have nd := of_decide_eq_true h1
    have hl := eq_of_beq h2
    refine s_asgN hk R h3 nd hl h4 (e_tup (((sound_E G hk R es).S _ _ _ _ h5 w).imp fun v h q => ⟨fun vs e => ?_, q.2⟩))
    rw [q.1 vs e, ← hl, names_len h3]
    exact vars_le nd
  | expr e =>
    refine .one (fun loc st Q h i w => ?_) fun ss => rfl
    refine asExp_e i fun v _ j1 => ?_
    refine and_e j1 fun h1 h2 => ?_
    exact s_expr hk h1 ((sound_E G hk R e).E _ _ _ h2 w)
  | ife t a b iha ihb =>
    refine .one (fun loc st Q h i w => ?_) fun ss => rfl
    refine asIfS_e i fun x y z _ j1 => ?_
    refine and_e j1 fun h1 j2 => ?_
    refine and_e j2 fun h2 h3 => ?_
    refine s_if (((sound_E G hk R t).T _ (fun v h => tru v fun z => if z then wpS (Sat c) a Q loc h else wpS (Sat c) b Q loc h) _ h1 w).imp fun v h q => tru_imp (fun z q => ?_) q)
    cases z with
    | true => exact iha.B _ _ _ _ h2 q
    | false => exact ihb.B _ _ _ _ h3 q
  | whl t b ihb =>
    refine .one (fun loc st Q h i w => ?_) fun ss => rfl
    refine asWhl_e i fun x y _ j1 => ?_
    refine and_e j1 fun h1 h2 => ?_
    obtain ⟨I, ⟨n, hI⟩, turn⟩ := w
    refine s_while I hI fun n loc h hI => ?_
    refine ((sound_E G hk R t).T _ (fun v h => tru v fun z => if z then wpS (Sat c) b (fun f m' h' => match f with | .next => ∃ k, k < n ∧ I k m' h' | f => Q f m' h') loc h else Q .next loc h) _ h1 (turn n loc h hI)).imp fun v h q => tru_imp (fun z q => ?_) q
    cases z with
    | true => exact ihb.B _ _ _ _ h2 q
    | false => exact q
  | for1 x e b ihb =>
    refine .one (fun loc st Q h i w => ?_) fun ss => rfl
    refine asFor_e i fun t it y _ j1 => ?_
    refine asName_e j1 fun n _ j2 => ?_
    refine and_e j2 fun h1 j3 => ?_
    refine and_e j3 fun h2 j4 => ?_
    refine and_e j4 fun h3 h4 => ?_
    obtain ⟨rfl, hl⟩ := loc_of h1
    exact s_for (B := fun Q m h => wpS (Sat c) b Q m h) (set := fun v m => some (setL m x v)) R h2 (fun Q loc h q => ihb.B _ _ _ _ h4 q) (fun v y l l' m own h s P e F r k => asn_name hk hl v y l l' m own h s P e F r k) ((sound_E G hk R e).E _ _ _ h3 w)
  | forT xs e b ihb =>
    refine .one (fun loc st Q h i w => ?_) fun ss => rfl
    refine asFor_e i fun t it y _ j1 => ?_
    refine asTup_e j1 fun ts _ _ j2 => ?_
    refine and_e j2 fun h1 j3 => ?_
    refine and_e j3 fun h2 j4 => ?_
    refine and_e j4 fun h3 h4 => ?_
    refine s_for (B := fun Q m h => wpS (Sat c) b Q m h) (set := fun v m => setT xs v m) R h2 (fun Q loc h q => ihb.B _ _ _ _ h4 q) (fun v y l l' m own h s P e F r k => assign_tup hk R h1 e F r k) (((sound_E G hk R e).E _ _ _ h3 w).imp fun v h q => ?_)
    cases v <;> first | exact q | exact q.elim
  | forR1 x hi b ihb =>
    refine .one (fun loc st Q h i w => ?_) fun ss => rfl
    refine asFor_e i fun t it y _ j1 => ?_
    refine asName_e j1 fun n _ j2 => ?_
    refine and_e j2 fun h1 j3 => ?_
    refine and_e j3 fun h6 j4 => ?_
    refine asNCall_e j4 fun r as _ _ j5 => ?_
    obtain ⟨hq, j6⟩ := and_t j5
    have eo := eq_of_beq hq
    subst eo
    refine and_e j6 fun h3 j7 => ?_
    refine one_e j7 fun z j8 => ?_
    refine and_e j8 fun h4 h5 => ?_
    obtain ⟨rfl, hl⟩ := loc_of h1
    exact s_forR1 G hk (B := fun Q m h => wpS (Sat c) b Q m h) (set := fun v m => some (setL m x v)) R h3 h4 (fun Q loc h q => ihb.B _ _ _ _ h6 q) (fun v y l l' m own h s P e F r k => asn_name hk hl v y l l' m own h s P e F r k) ((sound_E G hk R hi).E _ _ _ h5 w)
  | forR2 x lo hi b ihb =>
    refine .one (fun loc st Q h i w => ?_) fun ss => rfl
    refine asFor_e i fun t it y _ j1 => ?_
    refine asName_e j1 fun n _ j2 => ?_
    refine and_e j2 fun h1 j3 => ?_
    refine and_e j3 fun h8 j4 => ?_
    refine asNCall_e j4 fun r as _ _ j5 => ?_
    obtain ⟨hq, j6⟩ := and_t j5
    have eo := eq_of_beq hq
    subst eo
    refine and_e j6 fun h3 j7 => ?_
    refine two_e j7 fun z1 z2 j8 => ?_
    refine and_e j8 fun h4 j9 => ?_
    refine and_e j9 fun h5 j10 => ?_
    refine and_e j10 fun h6 h7 => ?_
    obtain ⟨rfl, hl⟩ := loc_of h1
    exact s_forR2 G hk (B := fun Q m h => wpS (Sat c) b Q m h) (set := fun v m => some (setL m x v)) R h3 h4 h5 (fun Q loc h q => ihb.B _ _ _ _ h8 q) (fun v y l l' m own h s P e F r k => asn_name hk hl v y l l' m own h s P e F r k)
      ((sound_E G hk R lo).E _ _ _ h6 w) fun v h' q => ⟨_, (sound_E G hk R hi).E _ _ _ h7 q, fun w h'' q => q⟩
  | ret e =>
    refine .one (fun loc st Q h i w => ?_) fun ss => rfl
    refine asRet_e i fun v _ j1 => ?_
    refine so_e j1 fun v j2 => ?_
    exact s_ret ((sound_E G hk R e).E _ _ _ j2 w)
  | ret0 =>
    refine .one (fun loc st Q h i w => ?_) fun ss => rfl
    refine asRet_e i fun v _ j1 => ?_
    refine nn_e j1 fun _ => ?_
    exact s_ret0 w
  | frz x => exact ⟨fun _ _ _ _ i => nb i, fun _ _ _ _ i => nb i⟩
end
end Mine

end
section
open PySem PySem.W PyProof.Rows
namespace Mine

/-! The transformer is sound: defs. -/

theorem lookup_zip {β : Type} : ∀ (ps : List Str) (xs : List β), xs.length = ps.length → ∀ n ∈ ps, ((ps.zip xs).lookup n).isNone = false
  | [], _, _, n, h => nomatch h
  | p :: ps, [], e, _, _ => by simp at e
  | p :: ps, x :: xs, e, n, h => by
    rw [List.zip_cons_cons, List.lookup_cons]
    by_cases q : (n == p) = true
    · rw [q]; rfl
    · rw [Bool.not_eq_true] at q
      rw [q]
      refine lookup_zip ps xs (by simpa using e) n ?_
      rcases List.mem_cons.mp h with rfl | h
      · rw [beq_self_eq_true] at q; cases q
      · exact h
theorem zip_self : ∀ (ps : List Str) (xs : List Value), ps.Nodup → xs.length = ps.length → List.filterMap (fun n => Option.map (fun x => (n, x)) (List.lookup n (ps.zip xs))) ps = ps.zip xs
  | [], _, _, _ => by simp
  | p :: ps, [], _, e => by simp at e
  | p :: ps, x :: xs, nd, e => by
    rw [List.nodup_cons] at nd
    rw [List.zip_cons_cons, List.filterMap_cons_some (b := (p, x)) (by rw [List.lookup_cons, beq_self_eq_true]; rfl)]
    congr 1
    have : ∀ qs : List Str, (∀ q ∈ qs, q ≠ p) → List.filterMap (fun n => Option.map (fun x => (n, x)) (List.lookup n ((p, x) :: ps.zip xs))) qs = List.filterMap (fun n => Option.map (fun x => (n, x)) (List.lookup n (ps.zip xs))) qs := by
      intro qs
      induction qs with
      | nil => intro _; rfl
      | cons q qs ih =>
        intro h
        have e : List.lookup q ((p, x) :: ps.zip xs) = List.lookup q (ps.zip xs) := by
          rw [List.lookup_cons, beq_eq_false_iff_ne.mpr (h q (.head _))]
        rw [List.filterMap_cons, List.filterMap_cons, e, ih fun r hr => h r (.tail _ hr)]
    rw [this ps fun q hq z => nd.1 (z ▸ hq), zip_self ps xs nd.2 (by simpa using e)]
theorem bind_plain (fd : FuncData) (xs : List Value) (ps : List Str) (h1 : fd.params.posonlyargs = []) (h2 : fd.params.args.map (·.arg) = ps) (hv : fd.params.vararg = none) (hk : fd.params.kwonlyargs = [])
    (hkw : fd.params.kwarg = none) (hd : fd.defaults = .none) (hl : xs.length = ps.length) (nd : ps.Nodup) : bindArgs fd ⟨xs, []⟩ = pure (ps.zip xs) := by
  have hs : seqItems? Value.none = pure none := by rfl
  have hf : (List.filter (fun n => (List.lookup n (ps.zip xs)).isNone) ps) = [] := List.filter_eq_nil_iff.mpr fun n hn => by rw [lookup_zip ps xs hl n hn]; decide
  have hf2 : (List.filter (fun n => (List.lookup n (ps.zip xs)).isNone) (ps.take ps.length)) = [] := by rw [List.take_length]; exact hf
  unfold bindArgs
  simp only [h1, h2, hv, hk, hkw, hd, hs, List.map_nil, List.nil_append]
  simp [hl, hf, zip_self ps xs nd hl]

theorem trim : ∀ (n : Nat) (h : Heap), h.objs.size = n → ∃ h' : Heap, (∀ b, h'.get? b = h.get? b) ∧ (h'.objs.size = 0 ∨ ∃ o, h'.get? (h'.objs.size - 1) = some o)
  | 0, h, e => ⟨h, fun _ => rfl, .inl e⟩
  | n + 1, h, e => by
    cases q : h.get? n with
    | some o => exact ⟨h, fun _ => rfl, .inr ⟨o, by rw [e]; exact q⟩⟩
    | none =>
      obtain ⟨objs, l⟩ := h
      have e' : objs.size = n + 1 := e
      obtain ⟨h', h1, h2⟩ := trim n ⟨objs.pop, l⟩ (by show objs.pop.size = n; rw [Array.size_pop, e']; rfl)
      refine ⟨h', fun b => (h1 b).trans ?_, h2⟩
      by_cases z : b < n
      · show (match (objs.pop)[b]? with | some ⟨_, _, .freed, _⟩ => none | o => o) = (match objs[b]? with | some ⟨_, _, .freed, _⟩ => none | o => o)
        have : (objs.pop)[b]? = objs[b]? := by rw [Array.getElem?_pop]; exact if_pos (by rw [e']; exact z)
        rw [this]
      · have a : (⟨objs.pop, l⟩ : Heap).get? b = none := size_none (by show objs.pop.size ≤ b; rw [Array.size_pop, e']; exact Nat.le_of_not_lt z)
        rw [a]
        by_cases y : b = n
        · rw [y, q]
        · exact (size_none (by show objs.size ≤ b; rw [e']; exact Nat.lt_of_le_of_ne (Nat.le_of_not_lt z) (Ne.symm y))).symm
theorem tight_le {base hp : Heap} (t : base.objs.size = 0 ∨ ∃ o, base.get? (base.objs.size - 1) = some o) (k : ∀ b o, base.get? b = some o → hp.get? b = some o) : base.objs.size ≤ hp.objs.size := by
  rcases t with t | ⟨o, t⟩
  · rw [t]; exact Nat.zero_le _
  · exact Nat.le_of_pred_lt (Heap.lt_size (k _ _ t))

theorem lookup_append_some {β : Type} {n : Str} : ∀ {l : List (Str × β)} {r : List (Str × β)} {v : β}, l.lookup n = some v → (l ++ r).lookup n = some v
  | [], _, _, h => by cases h
  | (k, w) :: l, r, v, h => by
    rw [List.cons_append, List.lookup_cons]
    rw [List.lookup_cons] at h
    split
    · rename_i q; rw [q] at h; exact h
    · rename_i q; rw [q] at h; exact lookup_append_some h
theorem lookup_append_none {β : Type} {n : Str} : ∀ {l : List (Str × β)} {r : List (Str × β)}, (∀ p ∈ l, p.1 ≠ n) → (l ++ r).lookup n = r.lookup n
  | [], _, _ => rfl
  | (k, w) :: l, r, h => by
    rw [List.cons_append, List.lookup_cons, beq_eq_false_iff_ne.mpr (Ne.symm (h (k, w) (.head _)))]
    exact lookup_append_none fun p hp => h p (.tail _ hp)

theorem binds_locs {own : Own} {hp : Heap} : ∀ {ps : List Var} {args : List V} {xs : List Value} {m m' : Loc}, (ps.map Var.nm).Nodup → setAll ps args m = some m' → RVs own hp args xs →
    ∀ x v, m' x = some v → (∃ y, ((ps.map Var.nm).zip xs).reverse.lookup x.nm = some y ∧ RV own hp v y) ∨ (m x = some v ∧ x ∉ ps)
  | [], args, xs, m, m', nd, e, r, x, v, h => by
    cases args with
    | nil => simp only [setAll, Option.some.injEq] at e; subst e; exact .inr ⟨h, by simp⟩
    | cons _ _ => simp [setAll] at e
  | p :: ps, args, xs, m, m', nd, e, r, x, v, h => by
    cases args with
    | nil => simp [setAll] at e
    | cons a args =>
      simp only [setAll] at e
      rw [RVs] at r
      obtain ⟨y, ys, rfl, r1, r2⟩ := r
      rw [List.map_cons, List.nodup_cons] at nd
      rw [List.map_cons, List.zip_cons_cons, List.reverse_cons]
      rcases binds_locs nd.2 e r2 x v h with ⟨z, hz, rz⟩ | ⟨hm, hn⟩
      · exact .inl ⟨z, lookup_append_some hz, rz⟩
      · unfold setL at hm
        split at hm
        · rename_i q; cases hm; subst q
          refine .inl ⟨y, ?_, r1⟩
          rw [lookup_append_none]
          · rw [List.lookup_cons, beq_self_eq_true]
          · intro p hp q
            have := (List.mem_reverse.mp hp)
            have := (List.of_mem_zip this).1
            rw [q] at this
            exact nd.1 this
        · rename_i q
          exact .inr ⟨hm, by simp [hn, q]⟩

section
variable {c : Cx} {av : Fn → Bool}
theorem sound_def (G : Glob c av) {f : Fn} {ps : List Var} {b : MS} (hf : fnHas c.K av f (c.fa f) ps b = true) {args : List V} {Q : V → Hp → Prop} {h : Hp} (w : wpB (Sat c) ps b args Q h) : Sat c f args Q h := by
  intro A own s xs R H os gn r
  unfold fnHas at hf
  split at hf <;> try cases hf
  rename_i od fd osl ho
  simp only [Bool.and_eq_true, beq_iff_eq, decide_eq_true_eq, List.all_eq_true, bne_iff_ne, ne_eq, Bool.not_eq_true', Option.isNone_iff_eq_none, List.isEmpty_iff] at hf
  obtain ⟨⟨⟨⟨⟨⟨⟨⟨⟨⟨⟨⟨⟨⟨⟨⟨⟨h1, h2⟩, h3⟩, h4⟩, h5⟩, h6⟩, h7⟩, h8⟩, h9⟩, h10⟩, h11⟩, h12⟩, h13⟩, h14⟩, h15⟩, h16⟩, h17⟩, h18⟩ := hf
  obtain ⟨m, em, w⟩ := opt_some w
  have X := G.X.keeps H.keep
  obtain ⟨pp, loose, mg, mb, T⟩ := G.T
  obtain ⟨body, hb, i⟩ : ∃ ss, fd.body = .stmts ss ∧ isSs fd.scope f.lv av b ss = true := by
    split at h9
    · rename_i ss e; exact ⟨ss, e, h9⟩
    · cases h9
  have lx : xs.length = (ps.map Var.nm).length := by rw [List.length_map, r.length, setAll_len em]
  have hd := R.depth
  refine codeAny_call_def (fd := fd) (body := body) (binds := (ps.map Var.nm).zip xs) (by show A.depth < 1000; omega) (X _ _ ho) rfl (T.nolimit.keeps H.keep) (codeRec_of X h18) hb
    (BindsTo.of_eq (bind_plain fd xs _ (List.eq_nil_of_length_eq_zero h2) h3 h4 (List.eq_nil_of_length_eq_zero h5) h6 h7 lx h8)) h13 (fun x hx => ?_) (fun h₀ hns hk => ?_) h12 h11 h10
  · obtain ⟨p, hp, e⟩ := List.mem_map.mp (List.of_mem_zip (a := x.1) (b := x.2) hx).1
    rw [← e]
    exact h14 p hp
  · have he : callEnv fd s.heap.objs.size (c.fa f) = envX fd.qualname fd.scope s.heap.objs.size (c.fa f) fd.code [] := by
      unfold callEnv newEnv
      rw [h15, h16, h17]
    rw [he]
    have n0 : s.heap.get? s.heap.objs.size = none := size_none (Nat.le_refl _)
    have F : FR c s.heap.objs.size (fun x => ((ps.map Var.nm).zip xs).reverse.lookup x) own m h { s with heap := h₀, toks := s.toks + ((ps.map Var.nm).zip xs).length } :=
      ⟨⟨hns, fun b o e => hk b o (H.keep b o e), tight_le G.tight H.keep⟩, H.fresh n0, fun x v e => (binds_locs h8 em r x v e).elim (fun ⟨y, hy, ry⟩ => ⟨y, hy, ry.keep (Grow.ext hk).keep⟩) (fun z => nomatch z.1), H.ext hk, os, gn⟩
    refine wpAny_mono ((sound_S G h10 (R.deeper _) b).B m body _ h i w _ own _ F) (fun fl s' p => ?_) fun _ _ e => e.elim
    obtain ⟨f', l', h', own', m', q, rf, F', g⟩ := p
    obtain ⟨h'', sb, q⟩ := q
    have gr : Grow own s.heap own' s'.heap := fun a o e ha => g a o (fun z => by rw [z, n0] at ha; cases ha) e (hk a o ha)
    cases f' with
    | next =>
      cases rf
      exact ⟨_, rfl, .none, own', h'', q, mk_none, F'.hr.sub sb, gr, F'.os, F'.gens⟩
    | ret v =>
      obtain ⟨x, rfl, rx⟩ := rf
      exact ⟨_, rfl, v, own', h'', q, rx, F'.hr.sub sb, gr, F'.os, F'.gens⟩
end
end Mine

end
section
open PySem PySem.W PyProof.Rows
namespace Mine

/-! The checks of a whole program, and the run of a law. -/
noncomputable def addrOf (K : Frag) (f : Fn) : Option Addr := match f with
  | .init_Interval => (match nsIn K mainGlobals "Interval" with | some (some (.ref C)) => (match findIn K (.ref C) "__init__" with | some (some (.ref a)) => some a | _ => none) | _ => none)
  | .init_IntervalTree => (match nsIn K mainGlobals "IntervalTree" with | some (some (.ref C)) => (match findIn K (.ref C) "__init__" with | some (some (.ref a)) => some a | _ => none) | _ => none)
  | f => match nsIn K mainGlobals f.nm with | some (some (.ref a)) => some a | _ => none
noncomputable def faOf (K : Frag) (f : Fn) : Addr := (addrOf K f).getD 0
noncomputable def caOf (K : Frag) (k : Cls) : Addr := match nsIn K mainGlobals k.nm with | some (some (.ref C)) => C | _ => 0
noncomputable def cx (p : Program) (w : World) (K : Frag) (base : Heap) (os : OsState) : Cx := { prog := p, w := w, K := K, base := base, ca := caOf K, fa := faOf K, os := os }
noncomputable def fnOkK (K : Frag) (f : Fn) : Bool := nsIn K mainGlobals f.nm == some (some (.ref (faOf K f))) && keepIn K (.ref (faOf K f))
noncomputable def globOk (K : Frag) (fs : List Fn) : Bool := clsOk K (caOf K) (faOf K) .Interval && clsOk K (caOf K) (faOf K) .IntervalTree && bltNames.all (fun b => nsIn K mainGlobals b == some none) && fs.all (fnOkK K)

theorem glob_of {p : Program} {w : World} {K : Frag} {base : Heap} {os : OsState} {av : Fn → Bool} {fs : List Fn} (X : K.In base) (T : ∃ p loose mg mb, TopRead p loose mg mb base)
    (t : base.objs.size = 0 ∨ ∃ o, base.get? (base.objs.size - 1) = some o) (ok : globOk K fs = true) (ha : ∀ f, av f = true → f ∈ fs) : Glob (cx p w K base os) av := by
  simp only [globOk, Bool.and_eq_true, List.all_eq_true] at ok
  obtain ⟨⟨⟨c1, c2⟩, c3⟩, c4⟩ := ok
  exact ⟨X, T, t, fun k => by cases k <;> assumption, fun f h => c4 f (ha f h), List.all_eq_true.mpr c3⟩

theorem rvs_ints {own : Own} {hp : Heap} {vs : List Value} {zs : List Int} (h : IntsAre vs zs) : RVs own hp (zs.map V.int) vs := by
  induction h with
  | nil => exact .nil
  | cons n t _ ih => exact .cons mk_int ih

/-- the run of a law -/
theorem law_run {p : Program} {w : World} {K : Frag} {av : Fn → Bool} {fs : List Fn} {s₁ : Shared} {loose : List Str} {mg mb : Str → Option Value} {q : Program} {A : Around}
    {qn : Str} {sc : Scope} {fadr : Addr} {cd : Value} {ss : List Stmt} {b : MS} {h₁ : Heap} {m : Str → Option Value} {a : Addr} {ws : List Value} {zs : List Int} {tk : Nat} {Q : Flow → Shared → Prop} {E : Value → Shared → Prop}
    (KX : K.In s₁.heap) (T : TopRead q loose mg mb s₁.heap) (hg : s₁.gens = #[]) (ok : globOk K fs = true) (ha : ∀ f, av f = true → f ∈ fs) (hL : s₁.heap.IsList a ws.toArray) (hI : IntsAre ws zs)
    (F : Fr s₁.heap s₁.heap.objs.size h₁ m) (hm : m "script" = some (.ref a)) (R : Room A Fn.law.lv) (hk : sc.kind = .function) (hss : isSs sc Fn.law.lv av b ss = true)
    (ps : Fn → List Var) (bs : Fn → MS) (us : List Fn) (hf : ∀ f, f ∈ us → fnHas K av f (faOf K f) (ps f) (bs f) = true)
    (B : ∀ Γ : Ctr, (∀ f, f ∈ us → ∀ args Q h, wpB Γ (ps f) (bs f) args Q h → Γ f args Q h) → wpB Γ [.script] b [.fl (zs.map V.int)] (fun v _ => v = .bool true) (fun _ => none))
    (fin : ∀ s', (∀ b o, s₁.heap.get? b = some o → s'.heap.get? b = some o) → s'.os = s₁.os → s'.gens = #[] → Q (.ret (.bool true)) s') :
    wpAny (model p w) A (execs ss (envX qn sc s₁.heap.objs.size fadr cd [])) Q E { s₁ with heap := h₁, toks := tk } := by
  obtain ⟨base, hb, ht⟩ := trim _ s₁.heap rfl
  have kb : ∀ b o, s₁.heap.get? b = some o → base.get? b = some o := fun b o e => (hb b).trans e
  have kb' : ∀ b o, base.get? b = some o → s₁.heap.get? b = some o := fun b o e => (hb b).symm.trans e
  have G : Glob (cx p w K base s₁.os) av := glob_of (KX.keeps kb) ⟨_, _, _, _, T.keeps kb⟩ ht ok ha
  have W := B (Sat (cx p w K base s₁.os)) fun f hu args Q h wb => sound_def G (hf f hu) wb
  have W' : wpS (Sat (cx p w K base s₁.os)) b _ (setL noL .script (.fl (zs.map V.int))) (fun _ => none) := W
  have H : HRel (cx p w K base s₁.os) (fun _ => none) (fun _ => none) h₁ := ⟨fun b o e => F.keep b o (kb' b o e), (fun _ _ e => nomatch e), (fun _ _ e => nomatch e)⟩
  have FF : FR (cx p w K base s₁.os) s₁.heap.objs.size m (fun _ => none) (setL noL .script (.fl (zs.map V.int))) (fun _ => none) { s₁ with heap := h₁, toks := tk } := by
    refine ⟨⟨F.ns, fun b o e => F.keep b o (kb' b o e), tight_le ht kb'⟩, rfl, fun x v e => ?_, H, rfl, hg⟩
    unfold setL at e
    split at e
    · rename_i z; subst z; cases e
      refine ⟨_, hm, ?_⟩
      obtain ⟨o, ho, h2, h3⟩ := hL
      rw [RV]
      exact ⟨a, ws, rfl, rfl, ⟨o, F.keep _ _ ho, h2, h3⟩, rvs_ints hI⟩
    · cases e
  refine wpAny_mono ((sound_S G hk R b).B _ ss _ _ hss W' m _ _ FF) (fun f s' pp => ?_) fun _ _ e => e.elim
  obtain ⟨f', l', h', own', m', ⟨h'', sb, q⟩, rf, F', g⟩ := pp
  have keep : ∀ b o, s₁.heap.get? b = some o → s'.heap.get? b = some o := fun b o e => F'.hr.keep b o (kb b o e)
  cases f' with
  | next => cases q
  | ret v =>
    obtain ⟨x, rfl, rx⟩ := rf
    dsimp only at q
    subst q
    obtain rfl := rv_bool rx
    exact fin s' keep F'.os F'.gens
end Mine

end
section
open PySem PySem.W PyProof.Rows
namespace Mine

/-! The head in one check. -/
noncomputable def fragOf (h : Heap) : Frag := (List.range h.objs.size).filterMap fun a => (h.get? a).map fun o => (a, o)
theorem lookup_mem {β : Type} : ∀ {l : List (Nat × β)} {a : Nat} {b : β}, l.lookup a = some b → (a, b) ∈ l
  | [], _, _, h => by cases h
  | (k, v) :: l, a, b, h => by
    rw [List.lookup_cons] at h
    split at h
    · rename_i e
      cases h
      rw [beq_iff_eq] at e
      subst e
      exact .head _
    · exact .tail _ (lookup_mem h)
theorem fragOf_in (h : Heap) : (fragOf h).In h := by
  intro a o e
  have m := lookup_mem e
  obtain ⟨b, _, hb⟩ := List.mem_filterMap.mp m
  obtain ⟨o', ho, he⟩ := Option.map_eq_some_iff.mp hb
  cases he
  exact ho
noncomputable def allOk (av : Fn → Bool) (fs us : List Fn) (ps : Fn → List Var) (bs : Fn → MS) (K : Frag) : Bool := globOk K fs && us.all fun f => fnHas K av f (faOf K f) (ps f) (bs f)
noncomputable def hook (ok : Frag → Bool) : Hook :=
  ⟨Bool, fun s => ok (fragOf s.heap), fun _ => true, fun _ h => ∃ K : Frag, K.In h ∧ ok K = true, fun _ s e => ⟨_, fragOf_in s.heap, e⟩, fun _ _ _ ⟨K, X, e⟩ hk => ⟨K, X.keeps hk, e⟩⟩
theorem allOk_of {av : Fn → Bool} {fs us : List Fn} {ps : Fn → List Var} {bs : Fn → MS} {K : Frag} (h : allOk av fs us ps bs K = true) : globOk K fs = true ∧ ∀ f, f ∈ us → fnHas K av f (faOf K f) (ps f) (bs f) = true := by
  simp only [allOk, Bool.and_eq_true, List.all_eq_true] at h
  exact h
end Mine

end
namespace Mine
/-- the defs that both laws share -/
noncomputable def isBase : Fn → Bool
  | .init_Interval => true
  | .init_IntervalTree => true
  | .total_of => true
  | .own_length => true
  | .text_length => true
  | .put_in_stead => true
  | .set_left => true
  | .set_right => true
  | .rotate_right => true
  | .rotate_left => true
  | .right_turn_helps => true
  | .left_turn_helps => true
  | .settle => true
  | .settle_up => true
  | .add_above => true
  | .find_interval => true
  | .leftmost => true
  | .rightmost => true
  | .following => true
  | .preceding => true
  | .put_behind => true
  | .put_ahead => true
  | .split_at => true
  | .drop_interval => true
  | .insert_interval => true
  | .delete_range => true
  | .interval_rows => true
  | .tree_error => true
  | _ => false
noncomputable def baseP : Fn → List Var
  | .init_Interval => p_init_Interval
  | .init_IntervalTree => p_init_IntervalTree
  | .total_of => p_total_of
  | .own_length => p_own_length
  | .text_length => p_text_length
  | .put_in_stead => p_put_in_stead
  | .set_left => p_set_left
  | .set_right => p_set_right
  | .rotate_right => p_rotate_right
  | .rotate_left => p_rotate_left
  | .right_turn_helps => p_right_turn_helps
  | .left_turn_helps => p_left_turn_helps
  | .settle => p_settle
  | .settle_up => p_settle_up
  | .add_above => p_add_above
  | .find_interval => p_find_interval
  | .leftmost => p_leftmost
  | .rightmost => p_rightmost
  | .following => p_following
  | .preceding => p_preceding
  | .put_behind => p_put_behind
  | .put_ahead => p_put_ahead
  | .split_at => p_split_at
  | .drop_interval => p_drop_interval
  | .insert_interval => p_insert_interval
  | .delete_range => p_delete_range
  | .interval_rows => p_interval_rows
  | .tree_error => p_tree_error
  | _ => []
noncomputable def baseB : Fn → MS
  | .init_Interval => b_init_Interval
  | .init_IntervalTree => b_init_IntervalTree
  | .total_of => b_total_of
  | .own_length => b_own_length
  | .text_length => b_text_length
  | .put_in_stead => b_put_in_stead
  | .set_left => b_set_left
  | .set_right => b_set_right
  | .rotate_right => b_rotate_right
  | .rotate_left => b_rotate_left
  | .right_turn_helps => b_right_turn_helps
  | .left_turn_helps => b_left_turn_helps
  | .settle => b_settle
  | .settle_up => b_settle_up
  | .add_above => b_add_above
  | .find_interval => b_find_interval
  | .leftmost => b_leftmost
  | .rightmost => b_rightmost
  | .following => b_following
  | .preceding => b_preceding
  | .put_behind => b_put_behind
  | .put_ahead => b_put_ahead
  | .split_at => b_split_at
  | .drop_interval => b_drop_interval
  | .insert_interval => b_insert_interval
  | .delete_range => b_delete_range
  | .interval_rows => b_interval_rows
  | .tree_error => b_tree_error
  | _ => .snil
noncomputable def Base (Γ : Ctr) : Prop := ∀ f, isBase f = true → ∀ args Q h, wpB Γ (baseP f) (baseB f) args Q h → Γ f args Q h
end Mine

namespace Mine

/-! Trees in the abstract heap. -/
noncomputable def ndF (t : Int) (p l r q : V) : Fld → Option V := fun f => match f with
  | .total => some (.int t) | .plist => some p | .left => some l | .right => some r | .parent => some q | .root => none
noncomputable abbrev nd (t : Int) (p l r q : V) : Obj := .inst .Interval (ndF t p l r q)
noncomputable def rtF (v : V) : Fld → Option V := fun f => match f with
  | .root => some v | _ => none
noncomputable abbrev rootO (v : V) : Obj := .inst .IntervalTree (rtF v)
section
variable {t t' : Int} {p l r q v : V}
theorem Zd : ndF t p l r q .total = some (.int t) := rfl
theorem Ze : ndF t p l r q .plist = some p := rfl
theorem Zf : ndF t p l r q .left = some l := rfl
theorem Zg : ndF t p l r q .right = some r := rfl
theorem Zh : ndF t p l r q .parent = some q := rfl
theorem Zi : rtF v .root = some v := rfl
theorem Yv : setF (ndF t p l r q) .total (.int t') = ndF t' p l r q := by funext f; cases f <;> rfl
theorem Yw : setF (ndF t p l r q) .left v = ndF t p v r q := by funext f; cases f <;> rfl
theorem Yx : setF (ndF t p l r q) .right v = ndF t p l v q := by funext f; cases f <;> rfl
theorem Yy : setF (ndF t p l r q) .parent v = ndF t p l r v := by funext f; cases f <;> rfl
theorem Zj : setF (rtF v) .root q = rtF q := by funext f; cases f <;> rfl
theorem X0 : setF (setF (setF (setF (setF noF .total (.int t)) .plist p) .left l) .right r) .parent q = ndF t p l r q := by funext f; cases f <;> rfl
theorem X1 : setF noF .root v = rtF v := by funext f; cases f <;> rfl
end
theorem Xg {h : Hp} {a : Nat} {o : Obj} : upd h a o a = some o := if_pos rfl
theorem Xa {h : Hp} {a b : Nat} {o : Obj} (n : b ≠ a) : upd h a o b = h b := if_neg n
theorem Xu {h : Hp} {a : Nat} {o o' : Obj} : upd (upd h a o) a o' = upd h a o' := by funext b; unfold upd; split <;> rfl
theorem Yz {α : Type} {a : α} {k : α → Prop} : opt (some a) k = k a := rfl
theorem YA {b : Bool} {k : Bool → Prop} : tru (.bool b) k = k b := rfl
theorem X2 {m : Loc} {x : Var} {v : V} : setL m x v x = some v := if_pos rfl
theorem X3 {m : Loc} {x y : Var} {v : V} (n : y ≠ x) : setL m x v y = m y := if_neg n
theorem YB {h : Hp} {a : Nat} {k : Cls} {fs : Fld → Option V} {f : Fld} (e : h a = some (.inst k fs)) : getF h (.ref a) f = fs f := by unfold getF; simp only [e]
theorem YC {h : Hp} {a : Nat} {k : Cls} {fs : Fld → Option V} {f : Fld} : getF (upd h a (.inst k fs)) (.ref a) f = fs f := YB (if_pos rfl)
theorem YD {h : Hp} {a b : Nat} {o : Obj} {f : Fld} (n : b ≠ a) : getF (upd h a o) (.ref b) f = getF h (.ref b) f := by unfold getF; simp only [upd, if_neg n]
section
variable {h : Hp} {i j : Int} {x y : V} {a b : Nat} {xs ys : List V}
theorem Xv : binop h .add (.int i) (.int j) = some (.int (i + j)) := rfl
theorem Xw : binop h .sub (.int i) (.int j) = some (.int (i - j)) := rfl
theorem X4 : binop h .lt (.int i) (.int j) = some (.bool (decide (i < j))) := rfl
theorem X5 : binop h .le (.int i) (.int j) = some (.bool (decide (i ≤ j))) := rfl
theorem X6 : binop h .gt (.int i) (.int j) = some (.bool (decide (j < i))) := rfl
theorem X7 : binop h .ge (.int i) (.int j) = some (.bool (decide (j ≤ i))) := rfl
theorem Xx (z : 0 < j) : binop h .mod (.int i) (.int j) = some (.int (i % j)) := if_pos z
theorem Xy (z : xs.length + ys.length ≤ line) : binop h .add (.fl xs) (.fl ys) = some (.fl (xs ++ ys)) := if_pos z
theorem Xz (z : smallInt i = true) (w : smallInt j = true) : binop h .mul (.int i) (.int j) = some (.int (i * j)) := by
  show (if smallInt i && smallInt j then _ else _) = _
  rw [z, w]; rfl
theorem X8 : binop h .is x y = (sameV h x y).map V.bool := rfl
theorem Xh : binop h .isnt x y = (sameV h x y).map fun b => V.bool (!b) := rfl
theorem XA : sameV h .none .none = some true := rfl
theorem XB : sameV h .none (.ref a) = some false := rfl
theorem XC : sameV h (.ref a) .none = some false := rfl
theorem XD : sameV h .str .none = some false := rfl
theorem XE : sameV h (.fl xs) .none = some false := rfl
theorem XF : sameV h (.ref a) (.ref a) = some true := if_pos rfl
theorem XG {k k' : Cls} {fs fs' : Fld → Option V} (n : a ≠ b) (ea : h a = some (.inst k fs)) (eb : h b = some (.inst k' fs')) : sameV h (.ref a) (.ref b) = some false := by
  show (if a = b then _ else _) = _
  rw [if_neg n, ea, eb]
theorem YE : eqV h (.int i) (.int j) = some (i == j) := rfl
theorem X9 : seqOf h (.fl xs) = some xs := rfl
theorem XH : seqOf h (.tup xs) = some xs := rfl
theorem XI (e : h a = some (.lst xs)) : seqOf h (.ref a) = some xs := by unfold seqOf; simp only [e]
end
/-- what comes behind, not yet looked at -/
@[irreducible] def later (Γ : Ctr) (s : MS) (Q : Post) (m : Loc) (h : Hp) : Prop := wpS Γ s Q m h
noncomputable def seqP (Γ : Ctr) (ss : MS) (Q : Post) : Post := fun f m h => match f with | .next => wpS Γ ss Q m h | f => Q f m h
noncomputable def whlP (n : Nat) (I : Nat → Loc → Hp → Prop) (Q : Post) : Post := fun f m h => match f with | .next => ∃ k, k < n ∧ I k m h | f => Q f m h
@[irreducible] def forS (Γ : Ctr) (b : MS) (set : V → Loc → Option Loc) (vs : List V) (Q : Post) (m : Loc) (h : Hp) : Prop := forL (fun Q m h => wpS Γ b Q m h) set vs Q m h
noncomputable def forP (Γ : Ctr) (b : MS) (set : V → Loc → Option Loc) (vs : List V) (Q : Post) : Post := fun f m h => match f with | .next => forL (fun Q m h => wpS Γ b Q m h) set vs Q m h | f => Q f m h
noncomputable def endP (Q : V → Hp → Prop) : Post := fun f _ h' => ∃ h'', Sub h'' h' ∧ Q (match f with | .ret v => v | .next => .none) h''
section
variable {Γ : Ctr} {Q : Post} {R : V → Hp → Prop} {m : Loc} {h : Hp} {s ss a b : MS} {e o i t hi lo : ME} {x y : Var} {xs : List Var} {f : Fld} {v : V} {n : Nat} {I : Nat → Loc → Hp → Prop}
theorem XJ (k : wpS Γ s Q m h) : later Γ s Q m h := by with_unfolding_all exact k
theorem XK (k : later Γ s Q m h) : wpS Γ s Q m h := by with_unfolding_all exact k
theorem wpB_i {ps : List Var} {args : List V} (e : setAll ps args noL = some m) (k : later Γ b (endP R) m h) : wpB Γ ps b args R h := by
  unfold wpB; rw [e]; exact XK k
theorem Xi : seqP Γ ss Q .next m h = later Γ ss Q m h := by with_unfolding_all exact propext ⟨id, id⟩
theorem XM : seqP Γ ss Q (.ret v) m h = Q (.ret v) m h := rfl
theorem Xj : whlP n I Q .next m h = ∃ k, k < n ∧ I k m h := propext ⟨id, id⟩
theorem XN : whlP n I Q (.ret v) m h = Q (.ret v) m h := rfl
theorem Xk : endP R .next m h = ∃ h'', Sub h'' h ∧ R .none h'' := rfl
theorem XO : endP R (.ret v) m h = ∃ h'', Sub h'' h ∧ R v h'' := rfl
theorem Yb : wpS Γ .snil Q m h = Q .next m h := rfl
theorem YF : later Γ .snil Q m h = Q .next m h := by with_unfolding_all exact propext ⟨id, id⟩
theorem YG : later Γ (.scons (.ret e) ss) Q m h = wpE Γ m e (fun v h => Q (.ret v) m h) h := by with_unfolding_all exact propext ⟨id, id⟩
theorem Yc : later Γ (.scons .ret0 ss) Q m h = Q (.ret .none) m h := by with_unfolding_all exact propext ⟨id, id⟩
theorem XQ : wpS Γ (.scons s ss) Q m h = wpS Γ s (seqP Γ ss Q) m h := rfl
theorem YH : wpS Γ (.asg x e) Q m h = wpE Γ m e (fun v h => Q .next (setL m x v) h) h := rfl
theorem Yd : wpS Γ (.asgF o f e) Q m h = wpE Γ m e (fun v h => wpE Γ m o (fun ov h => match ov with
      | .ref a => match h a with | some (.inst c fs) => Q .next m (upd h a (.inst c (setF fs f v))) | _ => False
      | _ => False) h) h := rfl
theorem Ye : wpS Γ (.asgI o i e) Q m h = wpE Γ m e (fun v h => wpE Γ m o (fun ov h => wpE Γ m i (fun iv h => match ov, iv with
      | .ref a, .int k => match h a with | some (.lst vs) => 0 ≤ k ∧ k.toNat < vs.length ∧ vs.length ≤ line ∧ Q .next m (upd h a (.lst (vs.set k.toNat v))) | _ => False
      | _, _ => False) h) h) h := rfl
theorem Yg : wpS Γ (.asgT xs e) Q m h = wpE Γ m e (fun v h => opt (setT xs v m) fun m' => Q .next m' h) h := rfl
theorem Yh : wpS Γ (.asgN xs e) Q m h = wpE Γ m e (fun v h => opt (setT xs v m) fun m' => Q .next m' h) h := rfl
theorem Yi : wpS Γ (.expr e) Q m h = wpE Γ m e (fun _ h => Q .next m h) h := rfl
theorem YI : wpS Γ (.ife t a b) Q m h = wpE Γ m t (fun v h => tru v fun c => if c then later Γ a Q m h else later Γ b Q m h) h := by with_unfolding_all exact propext ⟨id, id⟩
theorem YJ : wpS Γ (.whl t b) Q m h = ∃ I : Nat → Loc → Hp → Prop, (∃ n, I n m h) ∧ ∀ n m h, I n m h →
      wpE Γ m t (fun v h => tru v fun c => if c then later Γ b (whlP n I Q) m h else Q .next m h) h := by with_unfolding_all exact propext ⟨id, id⟩
theorem Yj : wpS Γ (.for1 x e b) Q m h = wpE Γ m e (fun v h => match v with
      | .fl vs => forS Γ b (fun v m => some (setL m x v)) vs Q m h
      | .tup vs => forS Γ b (fun v m => some (setL m x v)) vs Q m h
      | _ => False) h := by with_unfolding_all exact propext ⟨id, id⟩
theorem Yk : wpS Γ (.forT xs e b) Q m h = wpE Γ m e (fun v h => match v with
      | .fl vs => forS Γ b (fun v m => setT xs v m) vs Q m h
      | _ => False) h := by with_unfolding_all exact propext ⟨id, id⟩
theorem XR : wpS Γ (.forR1 x hi b) Q m h = wpE Γ m hi (fun w h => match w with
      | .int j => smallInt j = true ∧ forS Γ b (fun v m => some (setL m x v)) (intsFrom 0 j.toNat) Q m h
      | _ => False) h := by with_unfolding_all exact propext ⟨id, id⟩
theorem XS : wpS Γ (.forR2 x lo hi b) Q m h = wpE Γ m lo (fun v h => wpE Γ m hi (fun w h => match v, w with
      | .int i, .int j => smallInt i = true ∧ smallInt j = true ∧ forS Γ b (fun v m => some (setL m x v)) (intsFrom i (j - i).toNat) Q m h
      | _, _ => False) h) h := by with_unfolding_all exact propext ⟨id, id⟩
theorem Xl {set : V → Loc → Option Loc} : forS Γ b set [] Q m h = Q .next m h := by with_unfolding_all exact propext ⟨id, id⟩
theorem Xb {set : V → Loc → Option Loc} {vs : List V} : forS Γ b set (v :: vs) Q m h = opt (set v m) fun m' => later Γ b (forP Γ b set vs Q) m' h := by with_unfolding_all exact propext ⟨id, id⟩
theorem Xc {set : V → Loc → Option Loc} {vs : List V} : forP Γ b set vs Q .next m h = forS Γ b set vs Q m h := by with_unfolding_all exact propext ⟨id, id⟩
theorem Xm {set : V → Loc → Option Loc} {vs : List V} : forP Γ b set vs Q (.ret v) m h = Q (.ret v) m h := rfl
theorem XT {b' : MS} (e : b = b') (k : later Γ b' Q m h) : later Γ b Q m h := e ▸ k
theorem Yl {vs : List V} : setT xs (.tup vs) m = setAll xs vs m := rfl
theorem YK : wpS Γ (.ret e) Q m h = wpE Γ m e (fun v h => Q (.ret v) m h) h := rfl
theorem Ym : wpS Γ .ret0 Q m h = Q (.ret .none) m h := rfl
theorem YL : wpS Γ (.frz x) Q m h = match m x with
      | some (.ref a) => match h a with | some (.lst vs) => Q .next (setL m x (.fl vs)) (era h a) | _ => False
      | _ => False := rfl
end
section
variable {Γ : Ctr} {m : Loc} {Q : V → Hp → Prop} {h : Hp} {x : Var} {op o₁ o₂ : Op} {e a b c es i t y : ME} {f : Fld} {fn : Fn} {k : Cls} {neg bb : Bool} {z : Int}
theorem YM : wpE Γ m (.non) Q h = (Q .none h) := rfl
theorem Yn : wpE Γ m (.bool bb) Q h = (Q (.bool bb) h) := rfl
theorem YN : wpE Γ m (.int z) Q h = (Q (.int z) h) := rfl
theorem YO : wpE Γ m (.str) Q h = (Q .str h) := rfl
theorem XU : wpE Γ m (.ten30) Q h = (Q (.int (10 ^ 30)) h) := rfl
theorem YQ : wpE Γ m (.loc x) Q h = (opt (m x) fun v => Q v h) := rfl
theorem Yo : wpE Γ m (.attr e f) Q h = (wpE Γ m e (fun v h => opt (getF h v f) fun w => Q w h) h) := rfl
theorem YR : wpE Γ m (.bin op a b) Q h = (wpE Γ m a (fun x h => wpE Γ m b (fun y h => opt (binop h op x y) fun r => Q r h) h) h) := rfl
theorem Zk : wpE Γ m (.eq neg a b) Q h = (wpE Γ m a (fun x h => wpE Γ m b (fun y h => opt (eqV h x y) fun r => Q (.bool (if neg then !r else r)) h) h) h) := rfl
theorem XV : wpE Γ m (.chain o₁ o₂ a b c) Q h = (wpE Γ m a (fun x h => wpE Γ m b (fun y h => opt (binop h o₁ x y) fun r => tru r fun t =>
      if t then wpE Γ m c (fun z h => opt (binop h o₂ y z) fun r => Q r h) h else Q r h) h) h) := rfl
theorem YS : wpE Γ m (.not a) Q h = (wpE Γ m a (fun v h => tru v fun b => Q (.bool (!b)) h) h) := rfl
theorem YT : wpE Γ m (.and a b) Q h = (wpE Γ m a (fun v h => tru v fun t => if t then wpE Γ m b Q h else Q v h) h) := rfl
theorem Zl : wpE Γ m (.or a b) Q h = (wpE Γ m a (fun v h => tru v fun t => if t then Q v h else wpE Γ m b Q h) h) := rfl
theorem YU : wpE Γ m (.ife t a b) Q h = (wpE Γ m t (fun v h => tru v fun c => if c then wpE Γ m a Q h else wpE Γ m b Q h) h) := rfl
theorem Yp : wpE Γ m (.anil) Q h = (Q (.tup []) h) := rfl
theorem XW : wpE Γ m (.acons e es) Q h = (wpE Γ m e (fun v h => wpE Γ m es (fun w h => match w with | .tup vs => Q (.tup (v :: vs)) h | _ => False) h) h) := rfl
theorem YV : wpE Γ m (.tup es) Q h = (wpE Γ m es Q h) := rfl
theorem YW : wpE Γ m (.fls es) Q h = (wpE Γ m es (fun w h => match w with | .tup vs => Q (.fl vs) h | _ => False) h) := rfl
theorem YX : wpE Γ m (.mls es) Q h = (wpE Γ m es (fun w h => match w with | .tup vs => ∀ a, h a = Option.none → Q (.ref a) (upd h a (.lst vs)) | _ => False) h) := rfl
theorem Yq : wpE Γ m (.call fn es) Q h = (wpE Γ m es (fun w h => match w with | .tup vs => Γ fn vs Q h | _ => False) h) := rfl
theorem YY : wpE Γ m (.new k es) Q h = (wpE Γ m es (fun w h => match w with
      | .tup vs => ∀ a, h a = Option.none → Γ (initOf k) (.ref a :: vs) (fun v h => v = .none ∧ Q (.ref a) h) (upd h a (.inst k noF))
      | _ => False) h) := rfl
theorem YZ : wpE Γ m (.len e) Q h = (wpE Γ m e (fun v h => opt (seqOf h v) fun vs => vs.length ≤ line ∧ Q (.int vs.length) h) h) := rfl
theorem Y0 : wpE Γ m (.abs e) Q h = (wpE Γ m e (fun v h => match v with | .int i => Q (.int i.natAbs) h | _ => False) h) := rfl
theorem Y1 : wpE Γ m (.sum e) Q h = (wpE Γ m e (fun v h => match v with | .fl vs => opt (sumInts vs) fun i => Q (.int i) h | _ => False) h) := rfl
theorem XX : wpE Γ m (.toInt e) Q h = (wpE Γ m e (fun v h => match v with | .int i => Q (.int i) h | _ => False) h) := rfl
theorem Xn : wpE Γ m (.toList e) Q h = (wpE Γ m e (fun v h => match v with | .fl vs => vs.length ≤ line ∧ Q (.fl vs) h | _ => False) h) := rfl
theorem Xo : wpE Γ m (.append e y) Q h = (wpE Γ m e (fun v h => match v with
      | .ref a => match h a with
        | some (.lst _) => wpE Γ m y (fun w h => match h a with | some (.lst vs) => vs.length ≤ line ∧ Q .none (upd h a (.lst (vs ++ [w]))) | _ => False) h
        | _ => False
      | _ => False) h) := rfl
theorem Y2 : wpE Γ m (.pop e) Q h = (wpE Γ m e (fun v h => match v with
      | .ref a => match h a with | some (.lst vs) => vs.length ≤ line ∧ opt vs.getLast? fun x => Q x (upd h a (.lst vs.dropLast)) | _ => False
      | _ => False) h) := rfl
theorem Xp : wpE Γ m (.popAt0 e) Q h = (wpE Γ m e (fun v h => match v with
      | .ref a => match h a with | some (.lst vs) => vs.length ≤ line ∧ opt vs.head? fun x => Q x (upd h a (.lst vs.tail)) | _ => False
      | _ => False) h) := rfl
theorem Xq : wpE Γ m (.extend e es) Q h = (wpE Γ m e (fun v h => match v with
      | .ref a => match h a with
        | some (.lst _) => wpE Γ m es (fun w h => match w with
          | .tup ws => match h a with | some (.lst vs) => vs.length + ws.length ≤ line ∧ Q .none (upd h a (.lst (vs ++ ws))) | _ => False
          | _ => False) h
        | _ => False
      | _ => False) h) := rfl
theorem Y3 : wpE Γ m (.sub e i) Q h = (wpE Γ m e (fun v h => wpE Γ m i (fun w h => match w with
      | .int k => 0 ≤ k ∧ k ≤ line ∧ opt (seqOf h v) fun vs => opt vs[k.toNat]? fun x => Q x h
      | _ => False) h) h) := rfl
theorem Yr : wpE Γ m (.slTo e i) Q h = (wpE Γ m e (fun v h => wpE Γ m i (fun w h => match v, w with
      | .fl vs, .int k => 0 ≤ k ∧ vs.length ≤ line ∧ Q (.fl (vs.take k.toNat)) h
      | _, _ => False) h) h) := rfl
theorem Xr : wpE Γ m (.slFrom e i) Q h = (wpE Γ m e (fun v h => wpE Γ m i (fun w h => match v, w with
      | .fl vs, .int k => 0 ≤ k ∧ vs.length ≤ line ∧ Q (.fl (vs.drop k.toNat)) h
      | _, _ => False) h) h) := rfl
theorem XY : wpE Γ m (.slRev e) Q h = (wpE Γ m e (fun v h => match v with | .fl vs => vs.length ≤ line ∧ Q (.fl vs.reverse) h | _ => False) h) := rfl
theorem Ys : wpE Γ m (.catM a b) Q h = (wpE Γ m a (fun v h => wpE Γ m b (fun w h => match v, w with
      | .ref b, .fl ys => match h b with | some (.lst xs) => xs.length + ys.length ≤ line ∧ ∀ a, h a = Option.none → Q (.ref a) (upd h a (.lst (xs ++ ys))) | _ => False
      | _, _ => False) h) h) := rfl
theorem Xd : wpE Γ m (.compMod e) Q h = (wpE Γ m e (fun v h => match v with | .fl vs => vs.length ≤ line ∧ opt (modInts 1009 vs) fun ws => Q (.fl ws) h | _ => False) h) := rfl
theorem Xe : wpE Γ m (.compAbs e) Q h = (wpE Γ m e (fun v h => match v with | .fl vs => vs.length ≤ line ∧ opt (absInts (10 ^ 30) vs) fun ws => ∀ a, h a = Option.none → Q (.ref a) (upd h a (.lst ws)) | _ => False) h) := rfl
theorem Xf : wpE Γ m (.compFst e) Q h = (wpE Γ m e (fun v h => match v with | .fl vs => vs.length ≤ line ∧ opt (firsts vs) fun ws => Q (.fl ws) h | _ => False) h) := rfl
end
theorem Y4 {m : Loc} {x : Var} {v : V} {k : V → Prop} : opt (setL m x v x) k = k v := by unfold setL opt; rw [if_pos rfl]
theorem Y5 {m : Loc} {x y : Var} {v : V} {k : V → Prop} (n : y ≠ x) : opt (setL m x v y) k = opt (m y) k := by unfold setL; rw [if_neg n]
theorem Yt {α : Type} {x : Option α} {a : α} {k : α → Prop} (e : x = some a) : opt x k = k a := by rw [e]; rfl
theorem Y6 {h : Hp} {a : Nat} {c : Cls} {fs : Fld → Option V} {f : Fld} {k : V → Prop} (e : h a = some (.inst c fs)) : opt (getF h (.ref a) f) k = opt (fs f) k := by rw [YB e]
theorem Y7 {h : Hp} {a : Nat} {c : Cls} {fs : Fld → Option V} {f : Fld} {k : V → Prop} : opt (getF (upd h a (.inst c fs)) (.ref a) f) k = opt (fs f) k := by rw [YC]
section
variable {t : Int} {p l r q v : V} {k : V → Prop}
theorem Y8 : opt (ndF t p l r q .total) k = k (.int t) := propext ⟨id, id⟩
theorem Y9 : opt (ndF t p l r q .plist) k = k p := propext ⟨id, id⟩
theorem Za : opt (ndF t p l r q .left) k = k l := propext ⟨id, id⟩
theorem Zb : opt (ndF t p l r q .right) k = k r := propext ⟨id, id⟩
theorem Zc : opt (ndF t p l r q .parent) k = k q := propext ⟨id, id⟩
theorem Yu : opt (rtF v .root) k = k v := propext ⟨id, id⟩
end
theorem Sub.refl {h : Hp} : Sub h h := fun _ _ e => e

inductive T where
  | nil
  | node (a : Nat) (o : Int) (p : V) (l r : T)
noncomputable def T.tot : T → Int
  | .nil => 0
  | .node _ o _ l r => o + l.tot + r.tot
noncomputable def T.ptr : T → V
  | .nil => .none
  | .node a _ _ _ _ => .ref a
noncomputable def T.ino : T → List (Nat × Int × V)
  | .nil => []
  | .node a o p l r => l.ino ++ (a, o, p) :: r.ino
noncomputable def T.ads (t : T) : List Nat := t.ino.map (·.1)
noncomputable def IsT (h : Hp) : T → V → Prop
  | .nil, _ => True
  | .node a o p l r, par => h a = some (nd (o + l.tot + r.tot) p l.ptr r.ptr par) ∧ IsT h l (.ref a) ∧ IsT h r (.ref a)

theorem ads_nil : T.nil.ads = [] := rfl
theorem ads_node {a : Nat} {o : Int} {p : V} {l r : T} : (T.node a o p l r).ads = l.ads ++ a :: r.ads := by simp [T.ads, T.ino]

structure Frm where
  lft : Bool
  a : Nat
  o : Int
  p : V
  sib : T
abbrev Ctx := List Frm
noncomputable def Frm.fill (f : Frm) (t : T) : T := if f.lft then .node f.a f.o f.p t f.sib else .node f.a f.o f.p f.sib t
noncomputable def plug : Ctx → T → T
  | [], t => t
  | f :: c, t => plug c (f.fill t)
noncomputable def par (c : Ctx) (pt : V) : V := match c with
  | [] => pt
  | f :: _ => .ref f.a
theorem XZ {pt : V} : par [] pt = pt := rfl
theorem Xs {f : Frm} {c : Ctx} {pt : V} : par (f :: c) pt = .ref f.a := rfl
noncomputable def topP : Ctx → V → V
  | [], v => v
  | f :: c, _ => topP c (.ref f.a)
noncomputable def Frm.obj (f : Frm) (n : Int) (v up : V) : Obj := nd (n + f.o + f.sib.tot) f.p (if f.lft then v else f.sib.ptr) (if f.lft then f.sib.ptr else v) up
noncomputable def IsK (h : Hp) (pt : V) : Ctx → V → Int → Prop
  | [], _, _ => True
  | f :: c, v, n => h f.a = some (f.obj n v (par c pt)) ∧ IsT h f.sib (.ref f.a) ∧ IsK h pt c (.ref f.a) (n + f.o + f.sib.tot)
noncomputable def inoL : Ctx → List (Nat × Int × V)
  | [] => []
  | f :: c => inoL c ++ (if f.lft then [] else f.sib.ino ++ [(f.a, f.o, f.p)])
noncomputable def inoR : Ctx → List (Nat × Int × V)
  | [] => []
  | f :: c => (if f.lft then (f.a, f.o, f.p) :: f.sib.ino else []) ++ inoR c
noncomputable def adsC : Ctx → List Nat
  | [] => []
  | f :: c => f.a :: (f.sib.ads ++ adsC c)

theorem fill_tot (f : Frm) (t : T) : (f.fill t).tot = t.tot + f.o + f.sib.tot := by
  unfold Frm.fill; split <;> simp only [T.tot] <;> omega
theorem fill_ptr (f : Frm) (t : T) : (f.fill t).ptr = .ref f.a := by unfold Frm.fill; split <;> rfl
theorem fill_isT {h : Hp} {f : Frm} {t : T} {q : V} : IsT h (f.fill t) q ↔ h f.a = some (f.obj t.tot t.ptr q) ∧ IsT h t (.ref f.a) ∧ IsT h f.sib (.ref f.a) := by
  unfold Frm.fill Frm.obj
  cases f.lft <;> simp only [IsT, if_true, if_false, Bool.false_eq_true]
  · rw [show f.o + f.sib.tot + t.tot = t.tot + f.o + f.sib.tot by omega]
    constructor <;> (rintro ⟨a, b, d⟩; exact ⟨a, d, b⟩)
  · rw [show f.o + t.tot + f.sib.tot = t.tot + f.o + f.sib.tot by omega]
theorem isT_plug {h : Hp} {pt : V} : ∀ {c : Ctx} {t : T}, IsT h (plug c t) pt ↔ IsK h pt c t.ptr t.tot ∧ IsT h t (par c pt)
  | [], t => by simp [plug, IsK, par]
  | f :: c, t => by
    rw [plug, isT_plug, fill_isT, IsK, fill_ptr, fill_tot]
    constructor
    · rintro ⟨a, b, d, e⟩; exact ⟨⟨b, e, a⟩, d⟩
    · rintro ⟨⟨b, e, a⟩, d⟩; exact ⟨a, b, d, e⟩
theorem ptr_plug : ∀ {c : Ctx} {t : T}, (plug c t).ptr = topP c t.ptr
  | [], _ => rfl
  | f :: c, t => by rw [plug, ptr_plug, topP, fill_ptr]
theorem fill_ino (f : Frm) (t : T) : (f.fill t).ino = (if f.lft then [] else f.sib.ino ++ [(f.a, f.o, f.p)]) ++ t.ino ++ (if f.lft then (f.a, f.o, f.p) :: f.sib.ino else []) := by
  unfold Frm.fill; cases f.lft <;> simp [T.ino]
theorem ino_plug : ∀ {c : Ctx} {t : T}, (plug c t).ino = inoL c ++ t.ino ++ inoR c
  | [], t => by simp [plug, inoL, inoR]
  | f :: c, t => by rw [plug, ino_plug, fill_ino, inoL, inoR]; simp only [List.append_assoc]
theorem plug_append : ∀ {c d : Ctx} {t : T}, plug (c ++ d) t = plug d (plug c t)
  | [], _, _ => rfl
  | f :: c, d, t => by rw [List.cons_append, plug, plug_append, plug]

theorem perm_ads : ∀ {c : Ctx} {t : T}, (plug c t).ads.Perm (adsC c ++ t.ads)
  | [], t => by simp [plug, adsC]
  | f :: c, t => by
    rw [plug, adsC]
    refine perm_ads.trans ?_
    have : (f.fill t).ads.Perm (f.a :: (f.sib.ads ++ t.ads)) := by
      unfold Frm.fill; cases f.lft <;> simp only [ads_node, if_true, if_false, Bool.false_eq_true]
      · exact List.perm_middle
      · exact List.perm_middle.trans (List.Perm.cons _ List.perm_append_comm)
    refine (List.Perm.append_left _ this).trans ?_
    refine List.perm_middle.trans (List.Perm.cons _ ?_)
    rw [← List.append_assoc]
    exact (List.Perm.append_right _ List.perm_append_comm).trans (by simp)

theorem IsT.frame {h h' : Hp} : ∀ {t : T} {q : V}, IsT h t q → (∀ x, x ∈ t.ads → h' x = h x) → IsT h' t q
  | .nil, _, _, _ => trivial
  | .node a o p l r, q, ⟨e, hl, hr⟩, k => ⟨(k a (by simp [ads_node])).trans e, hl.frame fun x m => k x (by simp [ads_node, m]), hr.frame fun x m => k x (by simp [ads_node, m])⟩
theorem IsK.frame {h h' : Hp} {pt : V} : ∀ {c : Ctx} {v : V} {n : Int}, IsK h pt c v n → (∀ x, x ∈ adsC c → h' x = h x) → IsK h' pt c v n
  | [], _, _, _, _ => trivial
  | f :: c, v, n, ⟨e, hl, hr⟩, k => ⟨(k f.a (by simp [adsC])).trans e, hl.frame fun x m => k x (by simp [adsC, m]), hr.frame fun x m => k x (by simp [adsC, m])⟩

/-- a tree stands at rt -/
structure Holds (h : Hp) (rt : Nat) (W : T) : Prop where
  root : h rt = some (rootO W.ptr)
  tree : IsT h W .none
  nodup : (rt :: W.ads).Nodup
/-- the tree with a hole -/
structure HoldC (h : Hp) (rt : Nat) (c : Ctx) (v : V) (n : Int) : Prop where
  root : h rt = some (rootO (topP c v))
  ctx : IsK h .none c v n
theorem Holds.split {h : Hp} {rt : Nat} {c : Ctx} {t : T} (H : Holds h rt (plug c t)) : HoldC h rt c t.ptr t.tot ∧ IsT h t (par c .none) ∧ (rt :: (adsC c ++ t.ads)).Nodup := by
  obtain ⟨r, i, n⟩ := H
  rw [ptr_plug] at r
  obtain ⟨k, i⟩ := isT_plug.mp i
  exact ⟨⟨r, k⟩, i, (List.Perm.cons rt perm_ads).nodup_iff.mp n⟩
theorem HoldC.join {h : Hp} {rt : Nat} {c : Ctx} {t : T} (H : HoldC h rt c t.ptr t.tot) (i : IsT h t (par c .none)) (n : (rt :: (adsC c ++ t.ads)).Nodup) : Holds h rt (plug c t) :=
  ⟨by rw [ptr_plug]; exact H.root, isT_plug.mpr ⟨H.ctx, i⟩, (List.Perm.cons rt perm_ads).nodup_iff.mpr n⟩
theorem HoldC.frame {h h' : Hp} {rt : Nat} {c : Ctx} {v : V} {n : Int} (H : HoldC h rt c v n) (k : ∀ x, x = rt ∨ x ∈ adsC c → h' x = h x) : HoldC h' rt c v n :=
  ⟨(k rt (.inl rfl)).trans H.root, H.ctx.frame fun x m => k x (.inr m)⟩
theorem Holds.frame {h h' : Hp} {rt : Nat} {W : T} (H : Holds h rt W) (k : ∀ x, x = rt ∨ x ∈ W.ads → h' x = h x) : Holds h' rt W :=
  ⟨(k rt (.inl rfl)).trans H.root, H.tree.frame fun x m => k x (.inr m), H.nodup⟩

/-- what a deed does to the heap -/
structure Step (h : Hp) (rt : Nat) (W : T) (h' : Hp) (W' : T) : Prop where
  holds : Holds h' rt W'
  keep : ∀ b o, b ≠ rt → b ∉ W.ads → h b = some o → h' b = some o
  new : ∀ b, b ∈ W'.ads → b ∈ W.ads ∨ h b = none
theorem Step.trans {h₁ h₂ h₃ : Hp} {rt : Nat} {W₁ W₂ W₃ : T} (x : Step h₁ rt W₁ h₂ W₂) (y : Step h₂ rt W₂ h₃ W₃) : Step h₁ rt W₁ h₃ W₃ := by
  refine ⟨y.holds, fun b o n m e => y.keep b o n (fun z => ?_) (x.keep b o n m e), fun b m => ?_⟩
  · rcases x.new b z with z | z
    · exact m z
    · rw [z] at e; cases e
  · rcases y.new b m with z | z
    · exact x.new b z
    · by_cases q : b ∈ W₁.ads
      · exact .inl q
      · refine .inr ?_
        cases e : h₁ b with
        | none => rfl
        | some o =>
          have nb : b ≠ rt := fun w => by
            have := y.holds.nodup
            rw [List.nodup_cons] at this
            exact this.1 (w ▸ m)
          rw [x.keep b o nb q e] at z; cases z
theorem Step.same {h : Hp} {rt : Nat} {W : T} (H : Holds h rt W) : Step h rt W h W := ⟨H, fun _ _ _ _ e => e, fun _ m => .inl m⟩
end Mine

namespace Mine
section
variable {Γ : Ctr} (U : Base Γ)
include U

theorem c_total_of {t : T} {q : V} {h : Hp} {Q : V → Hp → Prop} (ht : IsT h t q) (k : Q (.int t.tot) h) : Γ .total_of [t.ptr] Q h := by
  refine U .total_of rfl _ _ _ (wpB_i (ps := p_total_of) (b := b_total_of) rfl ?_)
  cases t with
  | nil =>
    repeat (first | refine XJ ?_ | simp only [b_total_of, p_total_of, T.ptr, ↓Yb, ↓XQ, ↓YH, ↓Yd, ↓Ye, ↓Yg, ↓Yh, ↓Yi, ↓YI, ↓YJ, ↓Yj, ↓Yk, ↓XR, ↓XS, ↓YK, ↓Ym, ↓YL, ↓YM, ↓Yn, ↓YN, ↓YO, ↓XU, ↓YQ, ↓Yo, ↓YR, ↓Zk, ↓XV, ↓YS, ↓YT, ↓Zl, ↓YU, ↓Yp, ↓XW, ↓YV, ↓YW, ↓YX, ↓Yq, ↓YY, ↓YZ, ↓Y0, ↓Y1, ↓XX, ↓Xn, ↓Xo, ↓Y2, ↓Xp, ↓Xq, ↓Y3, ↓Yr, ↓Xr, ↓XY, ↓Ys, ↓Xd, ↓Xe, ↓Xf, ↓Y4, ↓Y5, ↓Y7, ↓Y8, ↓Y9, ↓Za, ↓Zb, ↓Zc, ↓Yu, ↓Yz, ↓YA, ↓YF, ↓Xi, ↓XM, ↓Xl, ↓Xb, ↓Xc, ↓Xm, ↓Xj, ↓XN, ↓Xk, ↓XO, Zd, Ze, Zf, Zg, Zh, Zi, Yv, Yw, Yx, Yy, Zj, X0, X1, Xg, Xu, X2, X3, YC, YD, XZ, Xs, Xv, Xw, X4, X5, X6, X7, X8, Xh, XA, XB, XC, XD, XE, XF, YE, X9, XH, setAll, Yl, reduceCtorEq, ne_eq, not_false_eq_true, if_true, if_false, Bool.false_eq_true, Option.map_some, decide_eq_true_eq, Bool.not_true, Bool.not_false])
    exact ⟨h, Sub.refl, k⟩
  | node a o p l r =>
    obtain ⟨e, -, -⟩ := ht
    repeat (first | refine XJ ?_ | simp only [b_total_of, p_total_of, T.ptr, ↓Y6 e, YB e, ↓Yb, ↓XQ, ↓YH, ↓Yd, ↓Ye, ↓Yg, ↓Yh, ↓Yi, ↓YI, ↓YJ, ↓Yj, ↓Yk, ↓XR, ↓XS, ↓YK, ↓Ym, ↓YL, ↓YM, ↓Yn, ↓YN, ↓YO, ↓XU, ↓YQ, ↓Yo, ↓YR, ↓Zk, ↓XV, ↓YS, ↓YT, ↓Zl, ↓YU, ↓Yp, ↓XW, ↓YV, ↓YW, ↓YX, ↓Yq, ↓YY, ↓YZ, ↓Y0, ↓Y1, ↓XX, ↓Xn, ↓Xo, ↓Y2, ↓Xp, ↓Xq, ↓Y3, ↓Yr, ↓Xr, ↓XY, ↓Ys, ↓Xd, ↓Xe, ↓Xf, ↓Y4, ↓Y5, ↓Y7, ↓Y8, ↓Y9, ↓Za, ↓Zb, ↓Zc, ↓Yu, ↓Yz, ↓YA, ↓YF, ↓Xi, ↓XM, ↓Xl, ↓Xb, ↓Xc, ↓Xm, ↓Xj, ↓XN, ↓Xk, ↓XO, Zd, Ze, Zf, Zg, Zh, Zi, Yv, Yw, Yx, Yy, Zj, X0, X1, Xg, Xu, X2, X3, YC, YD, XZ, Xs, Xv, Xw, X4, X5, X6, X7, X8, Xh, XA, XB, XC, XD, XE, XF, YE, X9, XH, setAll, Yl, reduceCtorEq, ne_eq, not_false_eq_true, if_true, if_false, Bool.false_eq_true, Option.map_some, decide_eq_true_eq, Bool.not_true, Bool.not_false])
    exact ⟨h, Sub.refl, k⟩

theorem c_own_length {a : Nat} {o : Int} {p : V} {l r : T} {q : V} {h : Hp} {Q : V → Hp → Prop} (ht : IsT h (.node a o p l r) q) (k : Q (.int o) h) : Γ .own_length [.ref a] Q h := by
  refine U .own_length rfl _ _ _ (wpB_i (ps := p_own_length) (b := b_own_length) rfl ?_)
  obtain ⟨e, hl, hr⟩ := ht
  repeat (first | refine XJ ?_ | simp only [b_own_length, p_own_length, ↓Y6 e, YB e, ↓Yb, ↓XQ, ↓YH, ↓Yd, ↓Ye, ↓Yg, ↓Yh, ↓Yi, ↓YI, ↓YJ, ↓Yj, ↓Yk, ↓XR, ↓XS, ↓YK, ↓Ym, ↓YL, ↓YM, ↓Yn, ↓YN, ↓YO, ↓XU, ↓YQ, ↓Yo, ↓YR, ↓Zk, ↓XV, ↓YS, ↓YT, ↓Zl, ↓YU, ↓Yp, ↓XW, ↓YV, ↓YW, ↓YX, ↓Yq, ↓YY, ↓YZ, ↓Y0, ↓Y1, ↓XX, ↓Xn, ↓Xo, ↓Y2, ↓Xp, ↓Xq, ↓Y3, ↓Yr, ↓Xr, ↓XY, ↓Ys, ↓Xd, ↓Xe, ↓Xf, ↓Y4, ↓Y5, ↓Y7, ↓Y8, ↓Y9, ↓Za, ↓Zb, ↓Zc, ↓Yu, ↓Yz, ↓YA, ↓YF, ↓Xi, ↓XM, ↓Xl, ↓Xb, ↓Xc, ↓Xm, ↓Xj, ↓XN, ↓Xk, ↓XO, Zd, Ze, Zf, Zg, Zh, Zi, Yv, Yw, Yx, Yy, Zj, X0, X1, Xg, Xu, X2, X3, YC, YD, XZ, Xs, Xv, Xw, X4, X5, X6, X7, X8, Xh, XA, XB, XC, XD, XE, XF, YE, X9, XH, setAll, Yl, reduceCtorEq, ne_eq, not_false_eq_true, if_true, if_false, Bool.false_eq_true, Option.map_some, decide_eq_true_eq, Bool.not_true, Bool.not_false])
  refine c_total_of U hl ?_
  repeat (first | refine XJ ?_ | simp only [↓Y6 e, YB e, ↓Yb, ↓XQ, ↓YH, ↓Yd, ↓Ye, ↓Yg, ↓Yh, ↓Yi, ↓YI, ↓YJ, ↓Yj, ↓Yk, ↓XR, ↓XS, ↓YK, ↓Ym, ↓YL, ↓YM, ↓Yn, ↓YN, ↓YO, ↓XU, ↓YQ, ↓Yo, ↓YR, ↓Zk, ↓XV, ↓YS, ↓YT, ↓Zl, ↓YU, ↓Yp, ↓XW, ↓YV, ↓YW, ↓YX, ↓Yq, ↓YY, ↓YZ, ↓Y0, ↓Y1, ↓XX, ↓Xn, ↓Xo, ↓Y2, ↓Xp, ↓Xq, ↓Y3, ↓Yr, ↓Xr, ↓XY, ↓Ys, ↓Xd, ↓Xe, ↓Xf, ↓Y4, ↓Y5, ↓Y7, ↓Y8, ↓Y9, ↓Za, ↓Zb, ↓Zc, ↓Yu, ↓Yz, ↓YA, ↓YF, ↓Xi, ↓XM, ↓Xl, ↓Xb, ↓Xc, ↓Xm, ↓Xj, ↓XN, ↓Xk, ↓XO, Zd, Ze, Zf, Zg, Zh, Zi, Yv, Yw, Yx, Yy, Zj, X0, X1, Xg, Xu, X2, X3, YC, YD, XZ, Xs, Xv, Xw, X4, X5, X6, X7, X8, Xh, XA, XB, XC, XD, XE, XF, YE, X9, XH, setAll, Yl, reduceCtorEq, ne_eq, not_false_eq_true, if_true, if_false, Bool.false_eq_true, Option.map_some, decide_eq_true_eq, Bool.not_true, Bool.not_false])
  refine c_total_of U hr ?_
  repeat (first | refine XJ ?_ | simp only [↓Yb, ↓XQ, ↓YH, ↓Yd, ↓Ye, ↓Yg, ↓Yh, ↓Yi, ↓YI, ↓YJ, ↓Yj, ↓Yk, ↓XR, ↓XS, ↓YK, ↓Ym, ↓YL, ↓YM, ↓Yn, ↓YN, ↓YO, ↓XU, ↓YQ, ↓Yo, ↓YR, ↓Zk, ↓XV, ↓YS, ↓YT, ↓Zl, ↓YU, ↓Yp, ↓XW, ↓YV, ↓YW, ↓YX, ↓Yq, ↓YY, ↓YZ, ↓Y0, ↓Y1, ↓XX, ↓Xn, ↓Xo, ↓Y2, ↓Xp, ↓Xq, ↓Y3, ↓Yr, ↓Xr, ↓XY, ↓Ys, ↓Xd, ↓Xe, ↓Xf, ↓Y4, ↓Y5, ↓Y7, ↓Y8, ↓Y9, ↓Za, ↓Zb, ↓Zc, ↓Yu, ↓Yz, ↓YA, ↓YF, ↓Xi, ↓XM, ↓Xl, ↓Xb, ↓Xc, ↓Xm, ↓Xj, ↓XN, ↓Xk, ↓XO, Zd, Ze, Zf, Zg, Zh, Zi, Yv, Yw, Yx, Yy, Zj, X0, X1, Xg, Xu, X2, X3, YC, YD, XZ, Xs, Xv, Xw, X4, X5, X6, X7, X8, Xh, XA, XB, XC, XD, XE, XF, YE, X9, XH, setAll, Yl, reduceCtorEq, ne_eq, not_false_eq_true, if_true, if_false, Bool.false_eq_true, Option.map_some, decide_eq_true_eq, Bool.not_true, Bool.not_false])
  refine ⟨h, Sub.refl, ?_⟩
  rw [show o + l.tot + r.tot - l.tot - r.tot = o by omega]
  exact k

theorem c_text_length {rt : Nat} {W : T} {h : Hp} {Q : V → Hp → Prop} (H : Holds h rt W) (k : Q (.int W.tot) h) : Γ .text_length [.ref rt] Q h := by
  refine U .text_length rfl _ _ _ (wpB_i (ps := p_text_length) (b := b_text_length) rfl ?_)
  repeat (first | refine XJ ?_ | simp only [b_text_length, p_text_length, ↓Y6 H.root, YB H.root, ↓Yb, ↓XQ, ↓YH, ↓Yd, ↓Ye, ↓Yg, ↓Yh, ↓Yi, ↓YI, ↓YJ, ↓Yj, ↓Yk, ↓XR, ↓XS, ↓YK, ↓Ym, ↓YL, ↓YM, ↓Yn, ↓YN, ↓YO, ↓XU, ↓YQ, ↓Yo, ↓YR, ↓Zk, ↓XV, ↓YS, ↓YT, ↓Zl, ↓YU, ↓Yp, ↓XW, ↓YV, ↓YW, ↓YX, ↓Yq, ↓YY, ↓YZ, ↓Y0, ↓Y1, ↓XX, ↓Xn, ↓Xo, ↓Y2, ↓Xp, ↓Xq, ↓Y3, ↓Yr, ↓Xr, ↓XY, ↓Ys, ↓Xd, ↓Xe, ↓Xf, ↓Y4, ↓Y5, ↓Y7, ↓Y8, ↓Y9, ↓Za, ↓Zb, ↓Zc, ↓Yu, ↓Yz, ↓YA, ↓YF, ↓Xi, ↓XM, ↓Xl, ↓Xb, ↓Xc, ↓Xm, ↓Xj, ↓XN, ↓Xk, ↓XO, Zd, Ze, Zf, Zg, Zh, Zi, Yv, Yw, Yx, Yy, Zj, X0, X1, Xg, Xu, X2, X3, YC, YD, XZ, Xs, Xv, Xw, X4, X5, X6, X7, X8, Xh, XA, XB, XC, XD, XE, XF, YE, X9, XH, setAll, Yl, reduceCtorEq, ne_eq, not_false_eq_true, if_true, if_false, Bool.false_eq_true, Option.map_some, decide_eq_true_eq, Bool.not_true, Bool.not_false])
  exact c_total_of U H.tree ⟨h, Sub.refl, k⟩

theorem c_init_Interval {a : Nat} {m : Int} {p : V} {h : Hp} {Q : V → Hp → Prop} (e : h a = some (.inst .Interval noF)) (k : Q .none (upd h a (nd m p .none .none .none))) : Γ .init_Interval [.ref a, .int m, p] Q h := by
  refine U .init_Interval rfl _ _ _ (wpB_i (ps := p_init_Interval) (b := b_init_Interval) rfl ?_)
  repeat (first | refine XJ ?_ | simp only [b_init_Interval, p_init_Interval, e, ↓Yb, ↓XQ, ↓YH, ↓Yd, ↓Ye, ↓Yg, ↓Yh, ↓Yi, ↓YI, ↓YJ, ↓Yj, ↓Yk, ↓XR, ↓XS, ↓YK, ↓Ym, ↓YL, ↓YM, ↓Yn, ↓YN, ↓YO, ↓XU, ↓YQ, ↓Yo, ↓YR, ↓Zk, ↓XV, ↓YS, ↓YT, ↓Zl, ↓YU, ↓Yp, ↓XW, ↓YV, ↓YW, ↓YX, ↓Yq, ↓YY, ↓YZ, ↓Y0, ↓Y1, ↓XX, ↓Xn, ↓Xo, ↓Y2, ↓Xp, ↓Xq, ↓Y3, ↓Yr, ↓Xr, ↓XY, ↓Ys, ↓Xd, ↓Xe, ↓Xf, ↓Y4, ↓Y5, ↓Y7, ↓Y8, ↓Y9, ↓Za, ↓Zb, ↓Zc, ↓Yu, ↓Yz, ↓YA, ↓YF, ↓Xi, ↓XM, ↓Xl, ↓Xb, ↓Xc, ↓Xm, ↓Xj, ↓XN, ↓Xk, ↓XO, Zd, Ze, Zf, Zg, Zh, Zi, Yv, Yw, Yx, Yy, Zj, X0, X1, Xg, Xu, X2, X3, YC, YD, XZ, Xs, Xv, Xw, X4, X5, X6, X7, X8, Xh, XA, XB, XC, XD, XE, XF, YE, X9, XH, setAll, Yl, reduceCtorEq, ne_eq, not_false_eq_true, if_true, if_false, Bool.false_eq_true, Option.map_some, decide_eq_true_eq, Bool.not_true, Bool.not_false])
  exact ⟨_, Sub.refl, k⟩

omit U
theorem IsT.reparent {h : Hp} {b : Nat} {o : Int} {p : V} {l r : T} {q q' : V} (i : IsT h (.node b o p l r) q) (nd' : (T.node b o p l r).ads.Nodup) : IsT (upd h b (nd (o + l.tot + r.tot) p l.ptr r.ptr q')) (.node b o p l r) q' := by
  obtain ⟨e, hl, hr⟩ := i
  rw [ads_node] at nd'
  simp only [List.nodup_append, List.nodup_cons, List.mem_cons] at nd'
  refine ⟨Xg, hl.frame fun x m => Xa fun z => ?_, hr.frame fun x m => Xa fun z => ?_⟩
  · subst z; exact nd'.2.2 x m x (.inl rfl) rfl
  · subst z; exact nd'.2.1.1 m
include U

theorem c_set_left {a : Nat} {t : Int} {p l r q q' : V} {s : T} {h : Hp} {Q : V → Hp → Prop} (e : h a = some (nd t p l r q)) (i : IsT h s q') (ns : s.ads.Nodup) (na : a ∉ s.ads)
    (k : ∀ h', h' a = some (nd t p s.ptr r q) → IsT h' s (.ref a) → (∀ x, x ≠ a → x ∉ s.ads → h' x = h x) → Q .none h') : Γ .set_left [.ref a, s.ptr] Q h := by
  refine U .set_left rfl _ _ _ (wpB_i (ps := p_set_left) (b := b_set_left) rfl ?_)
  cases s with
  | nil =>
    repeat (first | refine XJ ?_ | simp only [b_set_left, p_set_left, T.ptr, e, ↓Yb, ↓XQ, ↓YH, ↓Yd, ↓Ye, ↓Yg, ↓Yh, ↓Yi, ↓YI, ↓YJ, ↓Yj, ↓Yk, ↓XR, ↓XS, ↓YK, ↓Ym, ↓YL, ↓YM, ↓Yn, ↓YN, ↓YO, ↓XU, ↓YQ, ↓Yo, ↓YR, ↓Zk, ↓XV, ↓YS, ↓YT, ↓Zl, ↓YU, ↓Yp, ↓XW, ↓YV, ↓YW, ↓YX, ↓Yq, ↓YY, ↓YZ, ↓Y0, ↓Y1, ↓XX, ↓Xn, ↓Xo, ↓Y2, ↓Xp, ↓Xq, ↓Y3, ↓Yr, ↓Xr, ↓XY, ↓Ys, ↓Xd, ↓Xe, ↓Xf, ↓Y4, ↓Y5, ↓Y7, ↓Y8, ↓Y9, ↓Za, ↓Zb, ↓Zc, ↓Yu, ↓Yz, ↓YA, ↓YF, ↓Xi, ↓XM, ↓Xl, ↓Xb, ↓Xc, ↓Xm, ↓Xj, ↓XN, ↓Xk, ↓XO, Zd, Ze, Zf, Zg, Zh, Zi, Yv, Yw, Yx, Yy, Zj, X0, X1, Xg, Xu, X2, X3, YC, YD, XZ, Xs, Xv, Xw, X4, X5, X6, X7, X8, Xh, XA, XB, XC, XD, XE, XF, YE, X9, XH, setAll, Yl, reduceCtorEq, ne_eq, not_false_eq_true, if_true, if_false, Bool.false_eq_true, Option.map_some, decide_eq_true_eq, Bool.not_true, Bool.not_false])
    exact ⟨_, Sub.refl, k _ Xg trivial fun x n _ => Xa n⟩
  | node b o p' l' r' =>
    have ba : b ≠ a := fun z => na (by simp [ads_node, z])
    have i' : IsT (upd h a (nd t p (.ref b) r q)) (.node b o p' l' r') q' := i.frame fun x m => Xa fun z => na (z ▸ m)
    have eb := i'.1
    repeat (first | refine XJ ?_ | simp only [b_set_left, p_set_left, T.ptr, e, eb, ↓Yb, ↓XQ, ↓YH, ↓Yd, ↓Ye, ↓Yg, ↓Yh, ↓Yi, ↓YI, ↓YJ, ↓Yj, ↓Yk, ↓XR, ↓XS, ↓YK, ↓Ym, ↓YL, ↓YM, ↓Yn, ↓YN, ↓YO, ↓XU, ↓YQ, ↓Yo, ↓YR, ↓Zk, ↓XV, ↓YS, ↓YT, ↓Zl, ↓YU, ↓Yp, ↓XW, ↓YV, ↓YW, ↓YX, ↓Yq, ↓YY, ↓YZ, ↓Y0, ↓Y1, ↓XX, ↓Xn, ↓Xo, ↓Y2, ↓Xp, ↓Xq, ↓Y3, ↓Yr, ↓Xr, ↓XY, ↓Ys, ↓Xd, ↓Xe, ↓Xf, ↓Y4, ↓Y5, ↓Y7, ↓Y8, ↓Y9, ↓Za, ↓Zb, ↓Zc, ↓Yu, ↓Yz, ↓YA, ↓YF, ↓Xi, ↓XM, ↓Xl, ↓Xb, ↓Xc, ↓Xm, ↓Xj, ↓XN, ↓Xk, ↓XO, Zd, Ze, Zf, Zg, Zh, Zi, Yv, Yw, Yx, Yy, Zj, X0, X1, Xg, Xu, X2, X3, YC, YD, XZ, Xs, Xv, Xw, X4, X5, X6, X7, X8, Xh, XA, XB, XC, XD, XE, XF, YE, X9, XH, setAll, Yl, reduceCtorEq, ne_eq, not_false_eq_true, if_true, if_false, Bool.false_eq_true, Option.map_some, decide_eq_true_eq, Bool.not_true, Bool.not_false])
    refine ⟨_, Sub.refl, k _ ?_ (i'.reparent ns) fun x n m => ?_⟩
    · exact (Xa ba.symm).trans Xg
    · exact (Xa fun z => m (by simp [ads_node, z])).trans (Xa n)
theorem c_set_right {a : Nat} {t : Int} {p l r q q' : V} {s : T} {h : Hp} {Q : V → Hp → Prop} (e : h a = some (nd t p l r q)) (i : IsT h s q') (ns : s.ads.Nodup) (na : a ∉ s.ads)
    (k : ∀ h', h' a = some (nd t p l s.ptr q) → IsT h' s (.ref a) → (∀ x, x ≠ a → x ∉ s.ads → h' x = h x) → Q .none h') : Γ .set_right [.ref a, s.ptr] Q h := by
  refine U .set_right rfl _ _ _ (wpB_i (ps := p_set_right) (b := b_set_right) rfl ?_)
  cases s with
  | nil =>
    repeat (first | refine XJ ?_ | simp only [b_set_right, p_set_right, T.ptr, e, ↓Yb, ↓XQ, ↓YH, ↓Yd, ↓Ye, ↓Yg, ↓Yh, ↓Yi, ↓YI, ↓YJ, ↓Yj, ↓Yk, ↓XR, ↓XS, ↓YK, ↓Ym, ↓YL, ↓YM, ↓Yn, ↓YN, ↓YO, ↓XU, ↓YQ, ↓Yo, ↓YR, ↓Zk, ↓XV, ↓YS, ↓YT, ↓Zl, ↓YU, ↓Yp, ↓XW, ↓YV, ↓YW, ↓YX, ↓Yq, ↓YY, ↓YZ, ↓Y0, ↓Y1, ↓XX, ↓Xn, ↓Xo, ↓Y2, ↓Xp, ↓Xq, ↓Y3, ↓Yr, ↓Xr, ↓XY, ↓Ys, ↓Xd, ↓Xe, ↓Xf, ↓Y4, ↓Y5, ↓Y7, ↓Y8, ↓Y9, ↓Za, ↓Zb, ↓Zc, ↓Yu, ↓Yz, ↓YA, ↓YF, ↓Xi, ↓XM, ↓Xl, ↓Xb, ↓Xc, ↓Xm, ↓Xj, ↓XN, ↓Xk, ↓XO, Zd, Ze, Zf, Zg, Zh, Zi, Yv, Yw, Yx, Yy, Zj, X0, X1, Xg, Xu, X2, X3, YC, YD, XZ, Xs, Xv, Xw, X4, X5, X6, X7, X8, Xh, XA, XB, XC, XD, XE, XF, YE, X9, XH, setAll, Yl, reduceCtorEq, ne_eq, not_false_eq_true, if_true, if_false, Bool.false_eq_true, Option.map_some, decide_eq_true_eq, Bool.not_true, Bool.not_false])
    exact ⟨_, Sub.refl, k _ Xg trivial fun x n _ => Xa n⟩
  | node b o p' l' r' =>
    have ba : b ≠ a := fun z => na (by simp [ads_node, z])
    have i' : IsT (upd h a (nd t p l (.ref b) q)) (.node b o p' l' r') q' := i.frame fun x m => Xa fun z => na (z ▸ m)
    have eb := i'.1
    repeat (first | refine XJ ?_ | simp only [b_set_right, p_set_right, T.ptr, e, eb, ↓Yb, ↓XQ, ↓YH, ↓Yd, ↓Ye, ↓Yg, ↓Yh, ↓Yi, ↓YI, ↓YJ, ↓Yj, ↓Yk, ↓XR, ↓XS, ↓YK, ↓Ym, ↓YL, ↓YM, ↓Yn, ↓YN, ↓YO, ↓XU, ↓YQ, ↓Yo, ↓YR, ↓Zk, ↓XV, ↓YS, ↓YT, ↓Zl, ↓YU, ↓Yp, ↓XW, ↓YV, ↓YW, ↓YX, ↓Yq, ↓YY, ↓YZ, ↓Y0, ↓Y1, ↓XX, ↓Xn, ↓Xo, ↓Y2, ↓Xp, ↓Xq, ↓Y3, ↓Yr, ↓Xr, ↓XY, ↓Ys, ↓Xd, ↓Xe, ↓Xf, ↓Y4, ↓Y5, ↓Y7, ↓Y8, ↓Y9, ↓Za, ↓Zb, ↓Zc, ↓Yu, ↓Yz, ↓YA, ↓YF, ↓Xi, ↓XM, ↓Xl, ↓Xb, ↓Xc, ↓Xm, ↓Xj, ↓XN, ↓Xk, ↓XO, Zd, Ze, Zf, Zg, Zh, Zi, Yv, Yw, Yx, Yy, Zj, X0, X1, Xg, Xu, X2, X3, YC, YD, XZ, Xs, Xv, Xw, X4, X5, X6, X7, X8, Xh, XA, XB, XC, XD, XE, XF, YE, X9, XH, setAll, Yl, reduceCtorEq, ne_eq, not_false_eq_true, if_true, if_false, Bool.false_eq_true, Option.map_some, decide_eq_true_eq, Bool.not_true, Bool.not_false])
    refine ⟨_, Sub.refl, k _ ?_ (i'.reparent ns) fun x n m => ?_⟩
    · exact (Xa ba.symm).trans Xg
    · exact (Xa fun z => m (by simp [ads_node, z])).trans (Xa n)

omit U
noncomputable def pisRest : MS := match b_put_in_stead with
  | .scons _ (.scons _ r) => r
  | _ => .snil
theorem pis2 {h : Hp} {rt a : Nat} {c : Ctx} {n t : Int} {p l r q v : V} {post : Post} {m : Loc} (H : HoldC h rt c (.ref a) n) (ha : h a = some (nd t p l r q)) (hn : (rt :: adsC c).Nodup) (na : a ∉ adsC c)
    (m1 : m .parent = some (par c .none)) (m2 : m .node = some (.ref a)) (m3 : m .tree = some (.ref rt)) (m4 : m .other = some v)
    (k : ∀ h', HoldC h' rt c v n → (∀ x, x ≠ rt → x ∉ adsC c → h' x = h x) → post .next m h') : later Γ pisRest post m h := by
  cases c with
  | nil =>
    repeat (first | refine XJ ?_ | simp only [pisRest, b_put_in_stead, ↓Yt m1, m1, ↓Yt m2, m2, ↓Yt m3, m3, ↓Yt m4, m4, H.root, ↓Yb, ↓XQ, ↓YH, ↓Yd, ↓Ye, ↓Yg, ↓Yh, ↓Yi, ↓YI, ↓YJ, ↓Yj, ↓Yk, ↓XR, ↓XS, ↓YK, ↓Ym, ↓YL, ↓YM, ↓Yn, ↓YN, ↓YO, ↓XU, ↓YQ, ↓Yo, ↓YR, ↓Zk, ↓XV, ↓YS, ↓YT, ↓Zl, ↓YU, ↓Yp, ↓XW, ↓YV, ↓YW, ↓YX, ↓Yq, ↓YY, ↓YZ, ↓Y0, ↓Y1, ↓XX, ↓Xn, ↓Xo, ↓Y2, ↓Xp, ↓Xq, ↓Y3, ↓Yr, ↓Xr, ↓XY, ↓Ys, ↓Xd, ↓Xe, ↓Xf, ↓Y4, ↓Y5, ↓Y7, ↓Y8, ↓Y9, ↓Za, ↓Zb, ↓Zc, ↓Yu, ↓Yz, ↓YA, ↓YF, ↓Xi, ↓XM, ↓Xl, ↓Xb, ↓Xc, ↓Xm, ↓Xj, ↓XN, ↓Xk, ↓XO, Zd, Ze, Zf, Zg, Zh, Zi, Yv, Yw, Yx, Yy, Zj, X0, X1, Xg, Xu, X2, X3, YC, YD, XZ, Xs, Xv, Xw, X4, X5, X6, X7, X8, Xh, XA, XB, XC, XD, XE, XF, YE, X9, XH, setAll, Yl, reduceCtorEq, ne_eq, not_false_eq_true, if_true, if_false, Bool.false_eq_true, Option.map_some, decide_eq_true_eq, Bool.not_true, Bool.not_false])
    exact k _ ⟨Xg, trivial⟩ fun x n _ => Xa n
  | cons f c =>
    obtain ⟨hr, e, hs, hk⟩ := H
    simp only [adsC, List.nodup_cons, List.mem_cons, List.mem_append, not_or, List.nodup_append] at hn na
    obtain ⟨⟨n1, n2, n3⟩, ⟨n4, n5⟩, n6, n7, n8⟩ := hn
    have K : ∀ o : Obj, o = f.obj n v (par c .none) → HoldC (upd h f.a o) rt (f :: c) v n := fun o e => by
      subst e
      refine ⟨(Xa n1).trans hr, Xg, hs.frame fun x m => Xa fun z => n4 (z ▸ m), hk.frame fun x m => Xa fun z => n5 (z ▸ m)⟩
    have F : ∀ o : Obj, ∀ x, x ≠ rt → x ∉ adsC (f :: c) → upd h f.a o x = h x := fun o x _ m => Xa fun z => m (by simp [adsC, z])
    obtain ⟨lft, b, o, p', s⟩ := f
    cases lft with
    | true =>
      simp only [Frm.obj, if_true] at e
      repeat (first | refine XJ ?_ | simp only [pisRest, b_put_in_stead, ↓Yt m1, m1, ↓Yt m2, m2, ↓Yt m3, m3, ↓Yt m4, m4, e, ↓Y6 e, YB e, ↓Yb, ↓XQ, ↓YH, ↓Yd, ↓Ye, ↓Yg, ↓Yh, ↓Yi, ↓YI, ↓YJ, ↓Yj, ↓Yk, ↓XR, ↓XS, ↓YK, ↓Ym, ↓YL, ↓YM, ↓Yn, ↓YN, ↓YO, ↓XU, ↓YQ, ↓Yo, ↓YR, ↓Zk, ↓XV, ↓YS, ↓YT, ↓Zl, ↓YU, ↓Yp, ↓XW, ↓YV, ↓YW, ↓YX, ↓Yq, ↓YY, ↓YZ, ↓Y0, ↓Y1, ↓XX, ↓Xn, ↓Xo, ↓Y2, ↓Xp, ↓Xq, ↓Y3, ↓Yr, ↓Xr, ↓XY, ↓Ys, ↓Xd, ↓Xe, ↓Xf, ↓Y4, ↓Y5, ↓Y7, ↓Y8, ↓Y9, ↓Za, ↓Zb, ↓Zc, ↓Yu, ↓Yz, ↓YA, ↓YF, ↓Xi, ↓XM, ↓Xl, ↓Xb, ↓Xc, ↓Xm, ↓Xj, ↓XN, ↓Xk, ↓XO, Zd, Ze, Zf, Zg, Zh, Zi, Yv, Yw, Yx, Yy, Zj, X0, X1, Xg, Xu, X2, X3, YC, YD, XZ, Xs, Xv, Xw, X4, X5, X6, X7, X8, Xh, XA, XB, XC, XD, XE, XF, YE, X9, XH, setAll, Yl, reduceCtorEq, ne_eq, not_false_eq_true, if_true, if_false, Bool.false_eq_true, Option.map_some, decide_eq_true_eq, Bool.not_true, Bool.not_false])
      exact k _ (K _ rfl) (F _)
    | false =>
      simp only [Frm.obj, Bool.false_eq_true, if_false] at e
      cases s with
      | nil =>
        repeat (first | refine XJ ?_ | simp only [pisRest, b_put_in_stead, ↓Yt m1, m1, ↓Yt m2, m2, ↓Yt m3, m3, ↓Yt m4, m4, e, ↓Y6 e, YB e, T.ptr, ↓Yb, ↓XQ, ↓YH, ↓Yd, ↓Ye, ↓Yg, ↓Yh, ↓Yi, ↓YI, ↓YJ, ↓Yj, ↓Yk, ↓XR, ↓XS, ↓YK, ↓Ym, ↓YL, ↓YM, ↓Yn, ↓YN, ↓YO, ↓XU, ↓YQ, ↓Yo, ↓YR, ↓Zk, ↓XV, ↓YS, ↓YT, ↓Zl, ↓YU, ↓Yp, ↓XW, ↓YV, ↓YW, ↓YX, ↓Yq, ↓YY, ↓YZ, ↓Y0, ↓Y1, ↓XX, ↓Xn, ↓Xo, ↓Y2, ↓Xp, ↓Xq, ↓Y3, ↓Yr, ↓Xr, ↓XY, ↓Ys, ↓Xd, ↓Xe, ↓Xf, ↓Y4, ↓Y5, ↓Y7, ↓Y8, ↓Y9, ↓Za, ↓Zb, ↓Zc, ↓Yu, ↓Yz, ↓YA, ↓YF, ↓Xi, ↓XM, ↓Xl, ↓Xb, ↓Xc, ↓Xm, ↓Xj, ↓XN, ↓Xk, ↓XO, Zd, Ze, Zf, Zg, Zh, Zi, Yv, Yw, Yx, Yy, Zj, X0, X1, Xg, Xu, X2, X3, YC, YD, XZ, Xs, Xv, Xw, X4, X5, X6, X7, X8, Xh, XA, XB, XC, XD, XE, XF, YE, X9, XH, setAll, Yl, reduceCtorEq, ne_eq, not_false_eq_true, if_true, if_false, Bool.false_eq_true, Option.map_some, decide_eq_true_eq, Bool.not_true, Bool.not_false])
        exact k _ (K _ rfl) (F _)
      | node d o' p'' l' r' =>
        have da : d ≠ a := fun z => na.2.1 (by simp [ads_node, z])
        repeat (first | refine XJ ?_ | simp only [pisRest, b_put_in_stead, ↓Yt m1, m1, ↓Yt m2, m2, ↓Yt m3, m3, ↓Yt m4, m4, e, ↓Y6 e, YB e, T.ptr, ↓Yb, ↓XQ, ↓YH, ↓Yd, ↓Ye, ↓Yg, ↓Yh, ↓Yi, ↓YI, ↓YJ, ↓Yj, ↓Yk, ↓XR, ↓XS, ↓YK, ↓Ym, ↓YL, ↓YM, ↓Yn, ↓YN, ↓YO, ↓XU, ↓YQ, ↓Yo, ↓YR, ↓Zk, ↓XV, ↓YS, ↓YT, ↓Zl, ↓YU, ↓Yp, ↓XW, ↓YV, ↓YW, ↓YX, ↓Yq, ↓YY, ↓YZ, ↓Y0, ↓Y1, ↓XX, ↓Xn, ↓Xo, ↓Y2, ↓Xp, ↓Xq, ↓Y3, ↓Yr, ↓Xr, ↓XY, ↓Ys, ↓Xd, ↓Xe, ↓Xf, ↓Y4, ↓Y5, ↓Y7, ↓Y8, ↓Y9, ↓Za, ↓Zb, ↓Zc, ↓Yu, ↓Yz, ↓YA, ↓YF, ↓Xi, ↓XM, ↓Xl, ↓Xb, ↓Xc, ↓Xm, ↓Xj, ↓XN, ↓Xk, ↓XO, Zd, Ze, Zf, Zg, Zh, Zi, Yv, Yw, Yx, Yy, Zj, X0, X1, Xg, Xu, X2, X3, YC, YD, XZ, Xs, Xv, Xw, X4, X5, X6, X7, X8, Xh, XA, XB, XC, XD, XE, XF, YE, X9, XH, setAll, Yl, reduceCtorEq, ne_eq, not_false_eq_true, if_true, if_false, Bool.false_eq_true, Option.map_some, decide_eq_true_eq, Bool.not_true, Bool.not_false, XG da hs.1 ha])
        exact k _ (K _ rfl) (F _)
include U
theorem c_put_in_stead {h : Hp} {rt a : Nat} {c : Ctx} {n t : Int} {p l r q' : V} {s : T} {Q : V → Hp → Prop} (H : HoldC h rt c (.ref a) n) (ha : h a = some (nd t p l r (par c .none))) (hn : (rt :: (adsC c ++ s.ads)).Nodup) (na : a ∉ adsC c) (nas : a ∉ s.ads)
    (i : IsT h s q') (k : ∀ h', HoldC h' rt c s.ptr n → IsT h' s (par c .none) → (∀ x, x ≠ rt → x ∉ adsC c → x ∉ s.ads → h' x = h x) → Q .none h') : Γ .put_in_stead [.ref rt, .ref a, s.ptr] Q h := by
  refine U .put_in_stead rfl _ _ _ (wpB_i (ps := p_put_in_stead) (b := b_put_in_stead) rfl ?_)
  have hn' : (rt :: adsC c).Nodup := by simp only [List.nodup_cons, List.nodup_append, List.mem_append, not_or] at hn ⊢; exact ⟨hn.1.1, hn.2.1⟩
  have ns : s.ads.Nodup := by simp only [List.nodup_cons, List.nodup_append, List.mem_append, not_or] at hn ⊢; exact hn.2.2.1
  have dj : ∀ x, x = rt ∨ x ∈ adsC c → x ∉ s.ads := fun x m z => by
    simp only [List.nodup_cons, List.nodup_append, List.mem_append, not_or] at hn
    rcases m with rfl | m
    · exact hn.1.2 z
    · exact hn.2.2.2 x m x z rfl
  have R : ∀ (h' : Hp) (m : Loc) (post : Post), IsT h' s (par c .none) → (∀ x, x ∉ s.ads → h' x = h x) → m .parent = some (par c .none) ∧ m .node = some (.ref a) ∧ m .tree = some (.ref rt) ∧ m .other = some s.ptr →
      (∀ h, post .next m h = ∃ h'', Sub h'' h ∧ Q .none h'') → later Γ pisRest post m h' := fun h' m post i' fr ⟨m1, m2, m3, m4⟩ hp =>
    pis2 (H.frame fun x m => fr x (dj x m)) ((fr a nas).trans ha) hn' na m1 m2 m3 m4 fun h'' H'' f'' => by
      rw [hp h'']
      repeat (first | refine XJ ?_ | simp only [↓Yb, ↓XQ, ↓YH, ↓Yd, ↓Ye, ↓Yg, ↓Yh, ↓Yi, ↓YI, ↓YJ, ↓Yj, ↓Yk, ↓XR, ↓XS, ↓YK, ↓Ym, ↓YL, ↓YM, ↓Yn, ↓YN, ↓YO, ↓XU, ↓YQ, ↓Yo, ↓YR, ↓Zk, ↓XV, ↓YS, ↓YT, ↓Zl, ↓YU, ↓Yp, ↓XW, ↓YV, ↓YW, ↓YX, ↓Yq, ↓YY, ↓YZ, ↓Y0, ↓Y1, ↓XX, ↓Xn, ↓Xo, ↓Y2, ↓Xp, ↓Xq, ↓Y3, ↓Yr, ↓Xr, ↓XY, ↓Ys, ↓Xd, ↓Xe, ↓Xf, ↓Y4, ↓Y5, ↓Y7, ↓Y8, ↓Y9, ↓Za, ↓Zb, ↓Zc, ↓Yu, ↓Yz, ↓YA, ↓YF, ↓Xi, ↓XM, ↓Xl, ↓Xb, ↓Xc, ↓Xm, ↓Xj, ↓XN, ↓Xk, ↓XO, Zd, Ze, Zf, Zg, Zh, Zi, Yv, Yw, Yx, Yy, Zj, X0, X1, Xg, Xu, X2, X3, YC, YD, XZ, Xs, Xv, Xw, X4, X5, X6, X7, X8, Xh, XA, XB, XC, XD, XE, XF, YE, X9, XH, setAll, Yl, reduceCtorEq, ne_eq, not_false_eq_true, if_true, if_false, Bool.false_eq_true, Option.map_some, decide_eq_true_eq, Bool.not_true, Bool.not_false])
      exact ⟨_, Sub.refl, k h'' H'' (i'.frame fun x m => f'' x (fun z => dj x (.inl z) m) fun z => dj x (.inr z) m) fun x a b d => (f'' x a b).trans (fr x d)⟩
  have eb : b_put_in_stead = .scons (.asg .parent (.attr (.loc .node) .parent)) (.scons (.ife (.bin .isnt (.loc .other) .non) (.scons (.asgF (.loc .other) .parent (.loc .parent)) .snil) .snil) pisRest) := rfl
  rw [eb]
  cases s with
  | nil =>
    repeat (first | refine XJ ?_ | simp only [p_put_in_stead, T.ptr, ↓Y6 ha, YB ha, ↓Yb, ↓XQ, ↓YH, ↓Yd, ↓Ye, ↓Yg, ↓Yh, ↓Yi, ↓YI, ↓YJ, ↓Yj, ↓Yk, ↓XR, ↓XS, ↓YK, ↓Ym, ↓YL, ↓YM, ↓Yn, ↓YN, ↓YO, ↓XU, ↓YQ, ↓Yo, ↓YR, ↓Zk, ↓XV, ↓YS, ↓YT, ↓Zl, ↓YU, ↓Yp, ↓XW, ↓YV, ↓YW, ↓YX, ↓Yq, ↓YY, ↓YZ, ↓Y0, ↓Y1, ↓XX, ↓Xn, ↓Xo, ↓Y2, ↓Xp, ↓Xq, ↓Y3, ↓Yr, ↓Xr, ↓XY, ↓Ys, ↓Xd, ↓Xe, ↓Xf, ↓Y4, ↓Y5, ↓Y7, ↓Y8, ↓Y9, ↓Za, ↓Zb, ↓Zc, ↓Yu, ↓Yz, ↓YA, ↓YF, ↓Xi, ↓XM, ↓Xl, ↓Xb, ↓Xc, ↓Xm, ↓Xj, ↓XN, ↓Xk, ↓XO, Zd, Ze, Zf, Zg, Zh, Zi, Yv, Yw, Yx, Yy, Zj, X0, X1, Xg, Xu, X2, X3, YC, YD, XZ, Xs, Xv, Xw, X4, X5, X6, X7, X8, Xh, XA, XB, XC, XD, XE, XF, YE, X9, XH, setAll, Yl, reduceCtorEq, ne_eq, not_false_eq_true, if_true, if_false, Bool.false_eq_true, Option.map_some, decide_eq_true_eq, Bool.not_true, Bool.not_false])
    refine XK ?_
    exact R h _ _ trivial (fun _ _ => rfl) ⟨rfl, rfl, rfl, rfl⟩ fun _ => rfl
  | node b o p' l' r' =>
    repeat (first | refine XJ ?_ | simp only [p_put_in_stead, T.ptr, ↓Y6 ha, YB ha, i.1, ↓Yb, ↓XQ, ↓YH, ↓Yd, ↓Ye, ↓Yg, ↓Yh, ↓Yi, ↓YI, ↓YJ, ↓Yj, ↓Yk, ↓XR, ↓XS, ↓YK, ↓Ym, ↓YL, ↓YM, ↓Yn, ↓YN, ↓YO, ↓XU, ↓YQ, ↓Yo, ↓YR, ↓Zk, ↓XV, ↓YS, ↓YT, ↓Zl, ↓YU, ↓Yp, ↓XW, ↓YV, ↓YW, ↓YX, ↓Yq, ↓YY, ↓YZ, ↓Y0, ↓Y1, ↓XX, ↓Xn, ↓Xo, ↓Y2, ↓Xp, ↓Xq, ↓Y3, ↓Yr, ↓Xr, ↓XY, ↓Ys, ↓Xd, ↓Xe, ↓Xf, ↓Y4, ↓Y5, ↓Y7, ↓Y8, ↓Y9, ↓Za, ↓Zb, ↓Zc, ↓Yu, ↓Yz, ↓YA, ↓YF, ↓Xi, ↓XM, ↓Xl, ↓Xb, ↓Xc, ↓Xm, ↓Xj, ↓XN, ↓Xk, ↓XO, Zd, Ze, Zf, Zg, Zh, Zi, Yv, Yw, Yx, Yy, Zj, X0, X1, Xg, Xu, X2, X3, YC, YD, XZ, Xs, Xv, Xw, X4, X5, X6, X7, X8, Xh, XA, XB, XC, XD, XE, XF, YE, X9, XH, setAll, Yl, reduceCtorEq, ne_eq, not_false_eq_true, if_true, if_false, Bool.false_eq_true, Option.map_some, decide_eq_true_eq, Bool.not_true, Bool.not_false])
    refine XK ?_
    exact R _ _ _ (i.reparent ns) (fun x m => Xa fun z => m (by simp [ads_node, z])) ⟨rfl, rfl, rfl, rfl⟩ fun _ => rfl
end
end Mine

namespace Mine
/-- what turning the tree does to the heap -/
structure Mv (h : Hp) (rt : Nat) (W : T) (h' : Hp) (W' : T) : Prop where
  holds : Holds h' rt W'
  ino : W'.ino = W.ino
  fr : ∀ x, x ≠ rt → x ∉ W.ads → h' x = h x
theorem Mv.ads {h h' : Hp} {rt : Nat} {W W' : T} (x : Mv h rt W h' W') : W'.ads = W.ads := by unfold T.ads; rw [x.ino]
theorem Mv.trans {h₁ h₂ h₃ : Hp} {rt : Nat} {W₁ W₂ W₃ : T} (x : Mv h₁ rt W₁ h₂ W₂) (y : Mv h₂ rt W₂ h₃ W₃) : Mv h₁ rt W₁ h₃ W₃ :=
  ⟨y.holds, y.ino.trans x.ino, fun b n m => (y.fr b n (x.ads ▸ m)).trans (x.fr b n m)⟩
theorem Mv.refl {h : Hp} {rt : Nat} {W : T} (H : Holds h rt W) : Mv h rt W h W := ⟨H, rfl, fun _ _ _ => rfl⟩
theorem Mv.step {h h' : Hp} {rt : Nat} {W W' : T} (x : Mv h rt W h' W') : Step h rt W h' W' :=
  ⟨x.holds, fun b o n m e => (x.fr b n m).trans e, fun b m => .inl (x.ads ▸ m)⟩
section
variable {Γ : Ctr} (U : Base Γ)
include U
theorem c_rotate_right {h : Hp} {rt a b : Nat} {o o' : Int} {p p' : V} {A B C : T} {c : Ctx} {Q : V → Hp → Prop} (H : Holds h rt (plug c (.node a o p (.node b o' p' A B) C)))
    (k : ∀ h', Mv h rt (plug c (.node a o p (.node b o' p' A B) C)) h' (plug c (.node b o' p' A (.node a o p B C))) → Q (.ref b) h') : Γ .rotate_right [.ref rt, .ref a] Q h := by
  obtain ⟨H, i, hn⟩ := H.split
  simp only [T.ptr, T.tot] at H
  refine U .rotate_right rfl _ _ _ (wpB_i (ps := p_rotate_right) (b := b_rotate_right) rfl ?_)
  obtain ⟨e, ⟨eb, iA, iB⟩, iC⟩ := i
  have hn0 := hn
  simp only [ads_node, List.nodup_cons, List.nodup_append, List.mem_append, List.mem_cons, not_or] at hn
  have ba : b ≠ a := by grind
  have iS : IsT h (.node b o' p' A B) (.ref a) := ⟨eb, iA, iB⟩
  simp only [T.tot, T.ptr] at e
  repeat (first | refine XJ ?_ | simp only [b_rotate_right, p_rotate_right, ↓Y6 e, YB e, T.ptr, ↓Yb, ↓XQ, ↓YH, ↓Yd, ↓Ye, ↓Yg, ↓Yh, ↓Yi, ↓YI, ↓YJ, ↓Yj, ↓Yk, ↓XR, ↓XS, ↓YK, ↓Ym, ↓YL, ↓YM, ↓Yn, ↓YN, ↓YO, ↓XU, ↓YQ, ↓Yo, ↓YR, ↓Zk, ↓XV, ↓YS, ↓YT, ↓Zl, ↓YU, ↓Yp, ↓XW, ↓YV, ↓YW, ↓YX, ↓Yq, ↓YY, ↓YZ, ↓Y0, ↓Y1, ↓XX, ↓Xn, ↓Xo, ↓Y2, ↓Xp, ↓Xq, ↓Y3, ↓Yr, ↓Xr, ↓XY, ↓Ys, ↓Xd, ↓Xe, ↓Xf, ↓Y4, ↓Y5, ↓Y7, ↓Y8, ↓Y9, ↓Za, ↓Zb, ↓Zc, ↓Yu, ↓Yz, ↓YA, ↓YF, ↓Xi, ↓XM, ↓Xl, ↓Xb, ↓Xc, ↓Xm, ↓Xj, ↓XN, ↓Xk, ↓XO, Zd, Ze, Zf, Zg, Zh, Zi, Yv, Yw, Yx, Yy, Zj, X0, X1, Xg, Xu, X2, X3, YC, YD, XZ, Xs, Xv, Xw, X4, X5, X6, X7, X8, Xh, XA, XB, XC, XD, XE, XF, YE, X9, XH, setAll, Yl, reduceCtorEq, ne_eq, not_false_eq_true, if_true, if_false, Bool.false_eq_true, Option.map_some, decide_eq_true_eq, Bool.not_true, Bool.not_false])
  refine c_put_in_stead U (s := .node b o' p' A B) H e (by simp only [ads_node, List.nodup_cons, List.nodup_append, List.mem_append, List.mem_cons, not_or]; grind) (by grind) (by simp only [ads_node, List.mem_append, List.mem_cons]; grind) iS fun h1 H1 i1 f1 => ?_
  simp only [ads_node, List.mem_append, List.mem_cons, not_or] at f1
  have e1 : h1 a = _ := (f1 a (by grind) (by grind) (by grind)).trans e
  have C1 : IsT h1 C (.ref a) := iC.frame fun x m => f1 x (by grind) (by grind) (by grind)
  obtain ⟨eb1, A1, B1⟩ := i1
  repeat (first | refine XJ ?_ | simp only [↓Y6 e1, YB e1, ↓Y6 eb1, YB eb1, T.ptr, ↓Yb, ↓XQ, ↓YH, ↓Yd, ↓Ye, ↓Yg, ↓Yh, ↓Yi, ↓YI, ↓YJ, ↓Yj, ↓Yk, ↓XR, ↓XS, ↓YK, ↓Ym, ↓YL, ↓YM, ↓Yn, ↓YN, ↓YO, ↓XU, ↓YQ, ↓Yo, ↓YR, ↓Zk, ↓XV, ↓YS, ↓YT, ↓Zl, ↓YU, ↓Yp, ↓XW, ↓YV, ↓YW, ↓YX, ↓Yq, ↓YY, ↓YZ, ↓Y0, ↓Y1, ↓XX, ↓Xn, ↓Xo, ↓Y2, ↓Xp, ↓Xq, ↓Y3, ↓Yr, ↓Xr, ↓XY, ↓Ys, ↓Xd, ↓Xe, ↓Xf, ↓Y4, ↓Y5, ↓Y7, ↓Y8, ↓Y9, ↓Za, ↓Zb, ↓Zc, ↓Yu, ↓Yz, ↓YA, ↓YF, ↓Xi, ↓XM, ↓Xl, ↓Xb, ↓Xc, ↓Xm, ↓Xj, ↓XN, ↓Xk, ↓XO, Zd, Ze, Zf, Zg, Zh, Zi, Yv, Yw, Yx, Yy, Zj, X0, X1, Xg, Xu, X2, X3, YC, YD, XZ, Xs, Xv, Xw, X4, X5, X6, X7, X8, Xh, XA, XB, XC, XD, XE, XF, YE, X9, XH, setAll, Yl, reduceCtorEq, ne_eq, not_false_eq_true, if_true, if_false, Bool.false_eq_true, Option.map_some, decide_eq_true_eq, Bool.not_true, Bool.not_false])
  refine c_total_of U B1 ?_
  repeat (first | refine XJ ?_ | simp only [e1, ↓Y6 eb1, YB eb1, ba, ↓Yb, ↓XQ, ↓YH, ↓Yd, ↓Ye, ↓Yg, ↓Yh, ↓Yi, ↓YI, ↓YJ, ↓Yj, ↓Yk, ↓XR, ↓XS, ↓YK, ↓Ym, ↓YL, ↓YM, ↓Yn, ↓YN, ↓YO, ↓XU, ↓YQ, ↓Yo, ↓YR, ↓Zk, ↓XV, ↓YS, ↓YT, ↓Zl, ↓YU, ↓Yp, ↓XW, ↓YV, ↓YW, ↓YX, ↓Yq, ↓YY, ↓YZ, ↓Y0, ↓Y1, ↓XX, ↓Xn, ↓Xo, ↓Y2, ↓Xp, ↓Xq, ↓Y3, ↓Yr, ↓Xr, ↓XY, ↓Ys, ↓Xd, ↓Xe, ↓Xf, ↓Y4, ↓Y5, ↓Y7, ↓Y8, ↓Y9, ↓Za, ↓Zb, ↓Zc, ↓Yu, ↓Yz, ↓YA, ↓YF, ↓Xi, ↓XM, ↓Xl, ↓Xb, ↓Xc, ↓Xm, ↓Xj, ↓XN, ↓Xk, ↓XO, Zd, Ze, Zf, Zg, Zh, Zi, Yv, Yw, Yx, Yy, Zj, X0, X1, Xg, Xu, X2, X3, YC, YD, XZ, Xs, Xv, Xw, X4, X5, X6, X7, X8, Xh, XA, XB, XC, XD, XE, XF, YE, X9, XH, setAll, Yl, reduceCtorEq, ne_eq, not_false_eq_true, if_true, if_false, Bool.false_eq_true, Option.map_some, decide_eq_true_eq, Bool.not_true, Bool.not_false])
  rw [show (o + (o' + A.tot + B.tot) + C.tot - (o' + A.tot + B.tot) + B.tot) = o + B.tot + C.tot by omega]
  repeat (first | refine XJ ?_ | simp only [↓Yb, ↓XQ, ↓YH, ↓Yd, ↓Ye, ↓Yg, ↓Yh, ↓Yi, ↓YI, ↓YJ, ↓Yj, ↓Yk, ↓XR, ↓XS, ↓YK, ↓Ym, ↓YL, ↓YM, ↓Yn, ↓YN, ↓YO, ↓XU, ↓YQ, ↓Yo, ↓YR, ↓Zk, ↓XV, ↓YS, ↓YT, ↓Zl, ↓YU, ↓Yp, ↓XW, ↓YV, ↓YW, ↓YX, ↓Yq, ↓YY, ↓YZ, ↓Y0, ↓Y1, ↓XX, ↓Xn, ↓Xo, ↓Y2, ↓Xp, ↓Xq, ↓Y3, ↓Yr, ↓Xr, ↓XY, ↓Ys, ↓Xd, ↓Xe, ↓Xf, ↓Y4, ↓Y5, ↓Y7, ↓Y8, ↓Y9, ↓Za, ↓Zb, ↓Zc, ↓Yu, ↓Yz, ↓YA, ↓YF, ↓Xi, ↓XM, ↓Xl, ↓Xb, ↓Xc, ↓Xm, ↓Xj, ↓XN, ↓Xk, ↓XO, Zd, Ze, Zf, Zg, Zh, Zi, Yv, Yw, Yx, Yy, Zj, X0, X1, Xg, Xu, X2, X3, YC, YD, XZ, Xs, Xv, Xw, X4, X5, X6, X7, X8, Xh, XA, XB, XC, XD, XE, XF, YE, X9, XH, setAll, Yl, reduceCtorEq, ne_eq, not_false_eq_true, if_true, if_false, Bool.false_eq_true, Option.map_some, decide_eq_true_eq, Bool.not_true, Bool.not_false])
  refine c_set_left U Xg (B1.frame fun x m => Xa (by grind)) (by grind) (by grind) fun h3 e3 B3 f3 => ?_
  have eb3 : h3 b = _ := (f3 b ba (by grind)).trans ((Xa ba).trans eb1)
  have C3 : IsT h3 C (.ref a) := C1.frame fun x m => (f3 x (by grind) (by grind)).trans (Xa (by grind))
  have i3 : IsT h3 (.node a o p B C) (par c .none) := ⟨e3, B3, C3⟩
  repeat (first | refine XJ ?_ | simp only [↓Yb, ↓XQ, ↓YH, ↓Yd, ↓Ye, ↓Yg, ↓Yh, ↓Yi, ↓YI, ↓YJ, ↓Yj, ↓Yk, ↓XR, ↓XS, ↓YK, ↓Ym, ↓YL, ↓YM, ↓Yn, ↓YN, ↓YO, ↓XU, ↓YQ, ↓Yo, ↓YR, ↓Zk, ↓XV, ↓YS, ↓YT, ↓Zl, ↓YU, ↓Yp, ↓XW, ↓YV, ↓YW, ↓YX, ↓Yq, ↓YY, ↓YZ, ↓Y0, ↓Y1, ↓XX, ↓Xn, ↓Xo, ↓Y2, ↓Xp, ↓Xq, ↓Y3, ↓Yr, ↓Xr, ↓XY, ↓Ys, ↓Xd, ↓Xe, ↓Xf, ↓Y4, ↓Y5, ↓Y7, ↓Y8, ↓Y9, ↓Za, ↓Zb, ↓Zc, ↓Yu, ↓Yz, ↓YA, ↓YF, ↓Xi, ↓XM, ↓Xl, ↓Xb, ↓Xc, ↓Xm, ↓Xj, ↓XN, ↓Xk, ↓XO, Zd, Ze, Zf, Zg, Zh, Zi, Yv, Yw, Yx, Yy, Zj, X0, X1, Xg, Xu, X2, X3, YC, YD, XZ, Xs, Xv, Xw, X4, X5, X6, X7, X8, Xh, XA, XB, XC, XD, XE, XF, YE, X9, XH, setAll, Yl, reduceCtorEq, ne_eq, not_false_eq_true, if_true, if_false, Bool.false_eq_true, Option.map_some, decide_eq_true_eq, Bool.not_true, Bool.not_false])
  refine c_set_right (s := .node a o p B C) U eb3 i3 (by simp only [ads_node, List.nodup_cons, List.nodup_append, List.mem_append, List.mem_cons, not_or]; grind) (by simp only [ads_node, List.mem_append, List.mem_cons]; grind) fun h4 e4 i4 f4 => ?_
  simp only [ads_node, List.mem_append, List.mem_cons, not_or] at f4
  repeat (first | refine XJ ?_ | simp only [e4, ↓Yb, ↓XQ, ↓YH, ↓Yd, ↓Ye, ↓Yg, ↓Yh, ↓Yi, ↓YI, ↓YJ, ↓Yj, ↓Yk, ↓XR, ↓XS, ↓YK, ↓Ym, ↓YL, ↓YM, ↓Yn, ↓YN, ↓YO, ↓XU, ↓YQ, ↓Yo, ↓YR, ↓Zk, ↓XV, ↓YS, ↓YT, ↓Zl, ↓YU, ↓Yp, ↓XW, ↓YV, ↓YW, ↓YX, ↓Yq, ↓YY, ↓YZ, ↓Y0, ↓Y1, ↓XX, ↓Xn, ↓Xo, ↓Y2, ↓Xp, ↓Xq, ↓Y3, ↓Yr, ↓Xr, ↓XY, ↓Ys, ↓Xd, ↓Xe, ↓Xf, ↓Y4, ↓Y5, ↓Y7, ↓Y8, ↓Y9, ↓Za, ↓Zb, ↓Zc, ↓Yu, ↓Yz, ↓YA, ↓YF, ↓Xi, ↓XM, ↓Xl, ↓Xb, ↓Xc, ↓Xm, ↓Xj, ↓XN, ↓Xk, ↓XO, Zd, Ze, Zf, Zg, Zh, Zi, Yv, Yw, Yx, Yy, Zj, X0, X1, Xg, Xu, X2, X3, YC, YD, XZ, Xs, Xv, Xw, X4, X5, X6, X7, X8, Xh, XA, XB, XC, XD, XE, XF, YE, X9, XH, setAll, Yl, reduceCtorEq, ne_eq, not_false_eq_true, if_true, if_false, Bool.false_eq_true, Option.map_some, decide_eq_true_eq, Bool.not_true, Bool.not_false])
  have fA : ∀ x, x ≠ b → x ≠ a → x ∉ B.ads → x ∉ C.ads → ∀ o, upd h4 b o x = h1 x := fun x a1 a2 a3 a4 o => (Xa a1).trans ((f4 x a1 ⟨a3, a2, a4⟩).trans ((f3 x a2 a3).trans (Xa a2)))
  repeat (first | refine XJ ?_ | simp only [↓Yb, ↓XQ, ↓YH, ↓Yd, ↓Ye, ↓Yg, ↓Yh, ↓Yi, ↓YI, ↓YJ, ↓Yj, ↓Yk, ↓XR, ↓XS, ↓YK, ↓Ym, ↓YL, ↓YM, ↓Yn, ↓YN, ↓YO, ↓XU, ↓YQ, ↓Yo, ↓YR, ↓Zk, ↓XV, ↓YS, ↓YT, ↓Zl, ↓YU, ↓Yp, ↓XW, ↓YV, ↓YW, ↓YX, ↓Yq, ↓YY, ↓YZ, ↓Y0, ↓Y1, ↓XX, ↓Xn, ↓Xo, ↓Y2, ↓Xp, ↓Xq, ↓Y3, ↓Yr, ↓Xr, ↓XY, ↓Ys, ↓Xd, ↓Xe, ↓Xf, ↓Y4, ↓Y5, ↓Y7, ↓Y8, ↓Y9, ↓Za, ↓Zb, ↓Zc, ↓Yu, ↓Yz, ↓YA, ↓YF, ↓Xi, ↓XM, ↓Xl, ↓Xb, ↓Xc, ↓Xm, ↓Xj, ↓XN, ↓Xk, ↓XO, Zd, Ze, Zf, Zg, Zh, Zi, Yv, Yw, Yx, Yy, Zj, X0, X1, Xg, Xu, X2, X3, YC, YD, XZ, Xs, Xv, Xw, X4, X5, X6, X7, X8, Xh, XA, XB, XC, XD, XE, XF, YE, X9, XH, setAll, Yl, reduceCtorEq, ne_eq, not_false_eq_true, if_true, if_false, Bool.false_eq_true, Option.map_some, decide_eq_true_eq, Bool.not_true, Bool.not_false])
  refine ⟨_, Sub.refl, k _ ⟨HoldC.join (t := .node b o' p' A (.node a o p B C)) ?_ ⟨?_, ?_, ?_⟩ ?_, ?_, fun x n m => ?_⟩⟩
  · simp only [T.ptr, T.tot]
    rw [show o' + A.tot + (o + B.tot + C.tot) = o + (o' + A.tot + B.tot) + C.tot by omega]
    exact H1.frame fun x m => fA x (by grind) (by grind) (by grind) (by grind) _
  · simp only [T.ptr, T.tot]
    rw [show o' + A.tot + (o + B.tot + C.tot) = o + (o' + A.tot + B.tot) + C.tot by omega]
    exact Xg
  · exact A1.frame fun x m => fA x (by grind) (by grind) (by grind) (by grind) _
  · exact i4.frame fun x m => Xa (by simp only [ads_node, List.mem_append, List.mem_cons] at m; grind)
  · simpa only [ads_node, List.append_assoc, List.cons_append] using hn0
  · simp only [ino_plug, T.ino, List.append_assoc, List.cons_append]
  · have m' : x ∉ adsC c ++ (T.node a o p (.node b o' p' A B) C).ads := fun z => m (perm_ads.mem_iff.mpr z)
    simp only [ads_node, List.mem_append, List.mem_cons, not_or] at m'
    exact (fA x (by grind) (by grind) (by grind) (by grind) _).trans (f1 x n (by grind) (by grind))
theorem c_rotate_left {h : Hp} {rt a b : Nat} {o o' : Int} {p p' : V} {A B C : T} {c : Ctx} {Q : V → Hp → Prop} (H : Holds h rt (plug c (.node a o p C (.node b o' p' B A))))
    (k : ∀ h', Mv h rt (plug c (.node a o p C (.node b o' p' B A))) h' (plug c (.node b o' p' (.node a o p C B) A)) → Q (.ref b) h') : Γ .rotate_left [.ref rt, .ref a] Q h := by
  obtain ⟨H, i, hn⟩ := H.split
  simp only [T.ptr, T.tot] at H
  refine U .rotate_left rfl _ _ _ (wpB_i (ps := p_rotate_left) (b := b_rotate_left) rfl ?_)
  obtain ⟨e, iC, eb, iB, iA⟩ := i
  have hn0 := hn
  simp only [ads_node, List.nodup_cons, List.nodup_append, List.mem_append, List.mem_cons, not_or] at hn
  have ba : b ≠ a := by grind
  have iS : IsT h (.node b o' p' B A) (.ref a) := ⟨eb, iB, iA⟩
  simp only [T.tot, T.ptr] at e
  repeat (first | refine XJ ?_ | simp only [b_rotate_left, p_rotate_left, ↓Y6 e, YB e, T.ptr, ↓Yb, ↓XQ, ↓YH, ↓Yd, ↓Ye, ↓Yg, ↓Yh, ↓Yi, ↓YI, ↓YJ, ↓Yj, ↓Yk, ↓XR, ↓XS, ↓YK, ↓Ym, ↓YL, ↓YM, ↓Yn, ↓YN, ↓YO, ↓XU, ↓YQ, ↓Yo, ↓YR, ↓Zk, ↓XV, ↓YS, ↓YT, ↓Zl, ↓YU, ↓Yp, ↓XW, ↓YV, ↓YW, ↓YX, ↓Yq, ↓YY, ↓YZ, ↓Y0, ↓Y1, ↓XX, ↓Xn, ↓Xo, ↓Y2, ↓Xp, ↓Xq, ↓Y3, ↓Yr, ↓Xr, ↓XY, ↓Ys, ↓Xd, ↓Xe, ↓Xf, ↓Y4, ↓Y5, ↓Y7, ↓Y8, ↓Y9, ↓Za, ↓Zb, ↓Zc, ↓Yu, ↓Yz, ↓YA, ↓YF, ↓Xi, ↓XM, ↓Xl, ↓Xb, ↓Xc, ↓Xm, ↓Xj, ↓XN, ↓Xk, ↓XO, Zd, Ze, Zf, Zg, Zh, Zi, Yv, Yw, Yx, Yy, Zj, X0, X1, Xg, Xu, X2, X3, YC, YD, XZ, Xs, Xv, Xw, X4, X5, X6, X7, X8, Xh, XA, XB, XC, XD, XE, XF, YE, X9, XH, setAll, Yl, reduceCtorEq, ne_eq, not_false_eq_true, if_true, if_false, Bool.false_eq_true, Option.map_some, decide_eq_true_eq, Bool.not_true, Bool.not_false])
  refine c_put_in_stead U (s := .node b o' p' B A) H e (by simp only [ads_node, List.nodup_cons, List.nodup_append, List.mem_append, List.mem_cons, not_or]; grind) (by grind) (by simp only [ads_node, List.mem_append, List.mem_cons]; grind) iS fun h1 H1 i1 f1 => ?_
  simp only [ads_node, List.mem_append, List.mem_cons, not_or] at f1
  have e1 : h1 a = _ := (f1 a (by grind) (by grind) (by grind)).trans e
  have C1 : IsT h1 C (.ref a) := iC.frame fun x m => f1 x (by grind) (by grind) (by grind)
  obtain ⟨eb1, B1, A1⟩ := i1
  repeat (first | refine XJ ?_ | simp only [↓Y6 e1, YB e1, ↓Y6 eb1, YB eb1, T.ptr, ↓Yb, ↓XQ, ↓YH, ↓Yd, ↓Ye, ↓Yg, ↓Yh, ↓Yi, ↓YI, ↓YJ, ↓Yj, ↓Yk, ↓XR, ↓XS, ↓YK, ↓Ym, ↓YL, ↓YM, ↓Yn, ↓YN, ↓YO, ↓XU, ↓YQ, ↓Yo, ↓YR, ↓Zk, ↓XV, ↓YS, ↓YT, ↓Zl, ↓YU, ↓Yp, ↓XW, ↓YV, ↓YW, ↓YX, ↓Yq, ↓YY, ↓YZ, ↓Y0, ↓Y1, ↓XX, ↓Xn, ↓Xo, ↓Y2, ↓Xp, ↓Xq, ↓Y3, ↓Yr, ↓Xr, ↓XY, ↓Ys, ↓Xd, ↓Xe, ↓Xf, ↓Y4, ↓Y5, ↓Y7, ↓Y8, ↓Y9, ↓Za, ↓Zb, ↓Zc, ↓Yu, ↓Yz, ↓YA, ↓YF, ↓Xi, ↓XM, ↓Xl, ↓Xb, ↓Xc, ↓Xm, ↓Xj, ↓XN, ↓Xk, ↓XO, Zd, Ze, Zf, Zg, Zh, Zi, Yv, Yw, Yx, Yy, Zj, X0, X1, Xg, Xu, X2, X3, YC, YD, XZ, Xs, Xv, Xw, X4, X5, X6, X7, X8, Xh, XA, XB, XC, XD, XE, XF, YE, X9, XH, setAll, Yl, reduceCtorEq, ne_eq, not_false_eq_true, if_true, if_false, Bool.false_eq_true, Option.map_some, decide_eq_true_eq, Bool.not_true, Bool.not_false])
  refine c_total_of U B1 ?_
  repeat (first | refine XJ ?_ | simp only [e1, ↓Y6 eb1, YB eb1, ba, ↓Yb, ↓XQ, ↓YH, ↓Yd, ↓Ye, ↓Yg, ↓Yh, ↓Yi, ↓YI, ↓YJ, ↓Yj, ↓Yk, ↓XR, ↓XS, ↓YK, ↓Ym, ↓YL, ↓YM, ↓Yn, ↓YN, ↓YO, ↓XU, ↓YQ, ↓Yo, ↓YR, ↓Zk, ↓XV, ↓YS, ↓YT, ↓Zl, ↓YU, ↓Yp, ↓XW, ↓YV, ↓YW, ↓YX, ↓Yq, ↓YY, ↓YZ, ↓Y0, ↓Y1, ↓XX, ↓Xn, ↓Xo, ↓Y2, ↓Xp, ↓Xq, ↓Y3, ↓Yr, ↓Xr, ↓XY, ↓Ys, ↓Xd, ↓Xe, ↓Xf, ↓Y4, ↓Y5, ↓Y7, ↓Y8, ↓Y9, ↓Za, ↓Zb, ↓Zc, ↓Yu, ↓Yz, ↓YA, ↓YF, ↓Xi, ↓XM, ↓Xl, ↓Xb, ↓Xc, ↓Xm, ↓Xj, ↓XN, ↓Xk, ↓XO, Zd, Ze, Zf, Zg, Zh, Zi, Yv, Yw, Yx, Yy, Zj, X0, X1, Xg, Xu, X2, X3, YC, YD, XZ, Xs, Xv, Xw, X4, X5, X6, X7, X8, Xh, XA, XB, XC, XD, XE, XF, YE, X9, XH, setAll, Yl, reduceCtorEq, ne_eq, not_false_eq_true, if_true, if_false, Bool.false_eq_true, Option.map_some, decide_eq_true_eq, Bool.not_true, Bool.not_false])
  rw [show (o + C.tot + (o' + B.tot + A.tot) - (o' + B.tot + A.tot) + B.tot) = o + C.tot + B.tot by omega]
  repeat (first | refine XJ ?_ | simp only [↓Yb, ↓XQ, ↓YH, ↓Yd, ↓Ye, ↓Yg, ↓Yh, ↓Yi, ↓YI, ↓YJ, ↓Yj, ↓Yk, ↓XR, ↓XS, ↓YK, ↓Ym, ↓YL, ↓YM, ↓Yn, ↓YN, ↓YO, ↓XU, ↓YQ, ↓Yo, ↓YR, ↓Zk, ↓XV, ↓YS, ↓YT, ↓Zl, ↓YU, ↓Yp, ↓XW, ↓YV, ↓YW, ↓YX, ↓Yq, ↓YY, ↓YZ, ↓Y0, ↓Y1, ↓XX, ↓Xn, ↓Xo, ↓Y2, ↓Xp, ↓Xq, ↓Y3, ↓Yr, ↓Xr, ↓XY, ↓Ys, ↓Xd, ↓Xe, ↓Xf, ↓Y4, ↓Y5, ↓Y7, ↓Y8, ↓Y9, ↓Za, ↓Zb, ↓Zc, ↓Yu, ↓Yz, ↓YA, ↓YF, ↓Xi, ↓XM, ↓Xl, ↓Xb, ↓Xc, ↓Xm, ↓Xj, ↓XN, ↓Xk, ↓XO, Zd, Ze, Zf, Zg, Zh, Zi, Yv, Yw, Yx, Yy, Zj, X0, X1, Xg, Xu, X2, X3, YC, YD, XZ, Xs, Xv, Xw, X4, X5, X6, X7, X8, Xh, XA, XB, XC, XD, XE, XF, YE, X9, XH, setAll, Yl, reduceCtorEq, ne_eq, not_false_eq_true, if_true, if_false, Bool.false_eq_true, Option.map_some, decide_eq_true_eq, Bool.not_true, Bool.not_false])
  refine c_set_right U Xg (B1.frame fun x m => Xa (by grind)) (by grind) (by grind) fun h3 e3 B3 f3 => ?_
  have eb3 : h3 b = _ := (f3 b ba (by grind)).trans ((Xa ba).trans eb1)
  have C3 : IsT h3 C (.ref a) := C1.frame fun x m => (f3 x (by grind) (by grind)).trans (Xa (by grind))
  have i3 : IsT h3 (.node a o p C B) (par c .none) := ⟨e3, C3, B3⟩
  repeat (first | refine XJ ?_ | simp only [↓Yb, ↓XQ, ↓YH, ↓Yd, ↓Ye, ↓Yg, ↓Yh, ↓Yi, ↓YI, ↓YJ, ↓Yj, ↓Yk, ↓XR, ↓XS, ↓YK, ↓Ym, ↓YL, ↓YM, ↓Yn, ↓YN, ↓YO, ↓XU, ↓YQ, ↓Yo, ↓YR, ↓Zk, ↓XV, ↓YS, ↓YT, ↓Zl, ↓YU, ↓Yp, ↓XW, ↓YV, ↓YW, ↓YX, ↓Yq, ↓YY, ↓YZ, ↓Y0, ↓Y1, ↓XX, ↓Xn, ↓Xo, ↓Y2, ↓Xp, ↓Xq, ↓Y3, ↓Yr, ↓Xr, ↓XY, ↓Ys, ↓Xd, ↓Xe, ↓Xf, ↓Y4, ↓Y5, ↓Y7, ↓Y8, ↓Y9, ↓Za, ↓Zb, ↓Zc, ↓Yu, ↓Yz, ↓YA, ↓YF, ↓Xi, ↓XM, ↓Xl, ↓Xb, ↓Xc, ↓Xm, ↓Xj, ↓XN, ↓Xk, ↓XO, Zd, Ze, Zf, Zg, Zh, Zi, Yv, Yw, Yx, Yy, Zj, X0, X1, Xg, Xu, X2, X3, YC, YD, XZ, Xs, Xv, Xw, X4, X5, X6, X7, X8, Xh, XA, XB, XC, XD, XE, XF, YE, X9, XH, setAll, Yl, reduceCtorEq, ne_eq, not_false_eq_true, if_true, if_false, Bool.false_eq_true, Option.map_some, decide_eq_true_eq, Bool.not_true, Bool.not_false])
  refine c_set_left (s := .node a o p C B) U eb3 i3 (by simp only [ads_node, List.nodup_cons, List.nodup_append, List.mem_append, List.mem_cons, not_or]; grind) (by simp only [ads_node, List.mem_append, List.mem_cons]; grind) fun h4 e4 i4 f4 => ?_
  simp only [ads_node, List.mem_append, List.mem_cons, not_or] at f4
  repeat (first | refine XJ ?_ | simp only [e4, ↓Yb, ↓XQ, ↓YH, ↓Yd, ↓Ye, ↓Yg, ↓Yh, ↓Yi, ↓YI, ↓YJ, ↓Yj, ↓Yk, ↓XR, ↓XS, ↓YK, ↓Ym, ↓YL, ↓YM, ↓Yn, ↓YN, ↓YO, ↓XU, ↓YQ, ↓Yo, ↓YR, ↓Zk, ↓XV, ↓YS, ↓YT, ↓Zl, ↓YU, ↓Yp, ↓XW, ↓YV, ↓YW, ↓YX, ↓Yq, ↓YY, ↓YZ, ↓Y0, ↓Y1, ↓XX, ↓Xn, ↓Xo, ↓Y2, ↓Xp, ↓Xq, ↓Y3, ↓Yr, ↓Xr, ↓XY, ↓Ys, ↓Xd, ↓Xe, ↓Xf, ↓Y4, ↓Y5, ↓Y7, ↓Y8, ↓Y9, ↓Za, ↓Zb, ↓Zc, ↓Yu, ↓Yz, ↓YA, ↓YF, ↓Xi, ↓XM, ↓Xl, ↓Xb, ↓Xc, ↓Xm, ↓Xj, ↓XN, ↓Xk, ↓XO, Zd, Ze, Zf, Zg, Zh, Zi, Yv, Yw, Yx, Yy, Zj, X0, X1, Xg, Xu, X2, X3, YC, YD, XZ, Xs, Xv, Xw, X4, X5, X6, X7, X8, Xh, XA, XB, XC, XD, XE, XF, YE, X9, XH, setAll, Yl, reduceCtorEq, ne_eq, not_false_eq_true, if_true, if_false, Bool.false_eq_true, Option.map_some, decide_eq_true_eq, Bool.not_true, Bool.not_false])
  have fA : ∀ x, x ≠ b → x ≠ a → x ∉ B.ads → x ∉ C.ads → ∀ o, upd h4 b o x = h1 x := fun x a1 a2 a3 a4 o => (Xa a1).trans ((f4 x a1 ⟨a4, a2, a3⟩).trans ((f3 x a2 a3).trans (Xa a2)))
  repeat (first | refine XJ ?_ | simp only [↓Yb, ↓XQ, ↓YH, ↓Yd, ↓Ye, ↓Yg, ↓Yh, ↓Yi, ↓YI, ↓YJ, ↓Yj, ↓Yk, ↓XR, ↓XS, ↓YK, ↓Ym, ↓YL, ↓YM, ↓Yn, ↓YN, ↓YO, ↓XU, ↓YQ, ↓Yo, ↓YR, ↓Zk, ↓XV, ↓YS, ↓YT, ↓Zl, ↓YU, ↓Yp, ↓XW, ↓YV, ↓YW, ↓YX, ↓Yq, ↓YY, ↓YZ, ↓Y0, ↓Y1, ↓XX, ↓Xn, ↓Xo, ↓Y2, ↓Xp, ↓Xq, ↓Y3, ↓Yr, ↓Xr, ↓XY, ↓Ys, ↓Xd, ↓Xe, ↓Xf, ↓Y4, ↓Y5, ↓Y7, ↓Y8, ↓Y9, ↓Za, ↓Zb, ↓Zc, ↓Yu, ↓Yz, ↓YA, ↓YF, ↓Xi, ↓XM, ↓Xl, ↓Xb, ↓Xc, ↓Xm, ↓Xj, ↓XN, ↓Xk, ↓XO, Zd, Ze, Zf, Zg, Zh, Zi, Yv, Yw, Yx, Yy, Zj, X0, X1, Xg, Xu, X2, X3, YC, YD, XZ, Xs, Xv, Xw, X4, X5, X6, X7, X8, Xh, XA, XB, XC, XD, XE, XF, YE, X9, XH, setAll, Yl, reduceCtorEq, ne_eq, not_false_eq_true, if_true, if_false, Bool.false_eq_true, Option.map_some, decide_eq_true_eq, Bool.not_true, Bool.not_false])
  refine ⟨_, Sub.refl, k _ ⟨HoldC.join (t := .node b o' p' (.node a o p C B) A) ?_ ⟨?_, ?_, ?_⟩ ?_, ?_, fun x n m => ?_⟩⟩
  · simp only [T.ptr, T.tot]
    rw [show o' + (o + C.tot + B.tot) + A.tot = o + C.tot + (o' + B.tot + A.tot) by omega]
    exact H1.frame fun x m => fA x (by grind) (by grind) (by grind) (by grind) _
  · simp only [T.ptr, T.tot]
    rw [show o' + (o + C.tot + B.tot) + A.tot = o + C.tot + (o' + B.tot + A.tot) by omega]
    exact Xg
  · exact i4.frame fun x m => Xa (by simp only [ads_node, List.mem_append, List.mem_cons] at m; grind)
  · exact A1.frame fun x m => fA x (by grind) (by grind) (by grind) (by grind) _
  · simpa only [ads_node, List.append_assoc, List.cons_append] using hn0
  · simp only [ino_plug, T.ino, List.append_assoc, List.cons_append]
  · have m' : x ∉ adsC c ++ (T.node a o p C (.node b o' p' B A)).ads := fun z => m (perm_ads.mem_iff.mpr z)
    simp only [ads_node, List.mem_append, List.mem_cons, not_or] at m'
    exact (fA x (by grind) (by grind) (by grind) (by grind) _).trans (f1 x n (by grind) (by grind))
end
end Mine

namespace Mine
noncomputable def Pos (t : T) : Prop := ∀ x, x ∈ t.ino → 0 < x.2.1
theorem Pos.node {a : Nat} {o : Int} {p : V} {l r : T} : Pos (.node a o p l r) ↔ 0 < o ∧ Pos l ∧ Pos r := by
  unfold Pos
  simp only [T.ino, List.mem_append, List.mem_cons]
  constructor
  · intro h; exact ⟨h (a, o, p) (.inr (.inl rfl)), fun x m => h x (.inl m), fun x m => h x (.inr (.inr m))⟩
  · rintro ⟨h1, h2, h3⟩ x (m | rfl | m)
    · exact h2 x m
    · exact h1
    · exact h3 x m
theorem Pos.tot : ∀ {t : T}, Pos t → 0 ≤ t.tot
  | .nil, _ => by simp [T.tot]
  | .node a o p l r, h => by
    rw [Pos.node] at h
    have := h.2.1.tot
    have := h.2.2.tot
    simp only [T.tot]; omega
theorem Pos.len : ∀ {t : T}, Pos t → (t.ino.length : Int) ≤ t.tot
  | .nil, _ => by simp [T.tot, T.ino]
  | .node a o p l r, h => by
    rw [Pos.node] at h
    have := h.2.1.len
    have := h.2.2.len
    simp only [T.tot, T.ino, List.length_append, List.length_cons]; omega
noncomputable def sumI (xs : List (Nat × Int × V)) : Int := (xs.map (·.2.1)).sum
theorem sumI_append {xs ys : List (Nat × Int × V)} : sumI (xs ++ ys) = sumI xs + sumI ys := by simp [sumI]
theorem sumI_cons {a : Nat} {o : Int} {p : V} {ys : List (Nat × Int × V)} : sumI ((a, o, p) :: ys) = o + sumI ys := by simp [sumI]
theorem tot_sum : ∀ t : T, t.tot = sumI t.ino
  | .nil => rfl
  | .node a o p l r => by
    simp only [T.tot, T.ino, sumI_append, sumI_cons, tot_sum l, tot_sum r]; omega
theorem tot_of {t u : T} (e : t.ino = u.ino) : t.tot = u.tot := by rw [tot_sum, tot_sum, e]

noncomputable def helpR : T → Bool
  | .node a o p (.node b o' p' A B) C => decide (0 < o' + A.tot + B.tot - C.tot) && decide (((A.tot - (o + C.tot + B.tot)).natAbs : Int) < o' + A.tot + B.tot - C.tot)
  | _ => false
noncomputable def helpL : T → Bool
  | .node a o p C (.node b o' p' B A) => decide (0 < o' + B.tot + A.tot - C.tot) && decide (((A.tot - (o + C.tot + B.tot)).natAbs : Int) < o' + B.tot + A.tot - C.tot)
  | _ => false
section
variable {Γ : Ctr} (U : Base Γ)
include U
theorem c_right_helps {a : Nat} {o : Int} {p : V} {l r : T} {q : V} {h : Hp} {Q : V → Hp → Prop} (i : IsT h (.node a o p l r) q) (P : Pos (.node a o p l r)) (k : Q (.bool (helpR (.node a o p l r))) h) : Γ .right_turn_helps [.ref a] Q h := by
  refine U .right_turn_helps rfl _ _ _ (wpB_i (ps := p_right_turn_helps) (b := b_right_turn_helps) rfl ?_)
  obtain ⟨e, il, ir⟩ := i
  rw [Pos.node] at P
  repeat (first | refine XJ ?_ | simp only [b_right_turn_helps, p_right_turn_helps, ↓Y6 e, YB e, ↓Yb, ↓XQ, ↓YH, ↓Yd, ↓Ye, ↓Yg, ↓Yh, ↓Yi, ↓YI, ↓YJ, ↓Yj, ↓Yk, ↓XR, ↓XS, ↓YK, ↓Ym, ↓YL, ↓YM, ↓Yn, ↓YN, ↓YO, ↓XU, ↓YQ, ↓Yo, ↓YR, ↓Zk, ↓XV, ↓YS, ↓YT, ↓Zl, ↓YU, ↓Yp, ↓XW, ↓YV, ↓YW, ↓YX, ↓Yq, ↓YY, ↓YZ, ↓Y0, ↓Y1, ↓XX, ↓Xn, ↓Xo, ↓Y2, ↓Xp, ↓Xq, ↓Y3, ↓Yr, ↓Xr, ↓XY, ↓Ys, ↓Xd, ↓Xe, ↓Xf, ↓Y4, ↓Y5, ↓Y7, ↓Y8, ↓Y9, ↓Za, ↓Zb, ↓Zc, ↓Yu, ↓Yz, ↓YA, ↓YF, ↓Xi, ↓XM, ↓Xl, ↓Xb, ↓Xc, ↓Xm, ↓Xj, ↓XN, ↓Xk, ↓XO, Zd, Ze, Zf, Zg, Zh, Zi, Yv, Yw, Yx, Yy, Zj, X0, X1, Xg, Xu, X2, X3, YC, YD, XZ, Xs, Xv, Xw, X4, X5, X6, X7, X8, Xh, XA, XB, XC, XD, XE, XF, YE, X9, XH, setAll, Yl, reduceCtorEq, ne_eq, not_false_eq_true, if_true, if_false, Bool.false_eq_true, Option.map_some, decide_eq_true_eq, Bool.not_true, Bool.not_false])
  refine c_total_of U il ?_
  repeat (first | refine XJ ?_ | simp only [↓Y6 e, YB e, ↓Yb, ↓XQ, ↓YH, ↓Yd, ↓Ye, ↓Yg, ↓Yh, ↓Yi, ↓YI, ↓YJ, ↓Yj, ↓Yk, ↓XR, ↓XS, ↓YK, ↓Ym, ↓YL, ↓YM, ↓Yn, ↓YN, ↓YO, ↓XU, ↓YQ, ↓Yo, ↓YR, ↓Zk, ↓XV, ↓YS, ↓YT, ↓Zl, ↓YU, ↓Yp, ↓XW, ↓YV, ↓YW, ↓YX, ↓Yq, ↓YY, ↓YZ, ↓Y0, ↓Y1, ↓XX, ↓Xn, ↓Xo, ↓Y2, ↓Xp, ↓Xq, ↓Y3, ↓Yr, ↓Xr, ↓XY, ↓Ys, ↓Xd, ↓Xe, ↓Xf, ↓Y4, ↓Y5, ↓Y7, ↓Y8, ↓Y9, ↓Za, ↓Zb, ↓Zc, ↓Yu, ↓Yz, ↓YA, ↓YF, ↓Xi, ↓XM, ↓Xl, ↓Xb, ↓Xc, ↓Xm, ↓Xj, ↓XN, ↓Xk, ↓XO, Zd, Ze, Zf, Zg, Zh, Zi, Yv, Yw, Yx, Yy, Zj, X0, X1, Xg, Xu, X2, X3, YC, YD, XZ, Xs, Xv, Xw, X4, X5, X6, X7, X8, Xh, XA, XB, XC, XD, XE, XF, YE, X9, XH, setAll, Yl, reduceCtorEq, ne_eq, not_false_eq_true, if_true, if_false, Bool.false_eq_true, Option.map_some, decide_eq_true_eq, Bool.not_true, Bool.not_false])
  refine c_total_of U ir ?_
  repeat (first | refine XJ ?_ | simp only [↓Yb, ↓XQ, ↓YH, ↓Yd, ↓Ye, ↓Yg, ↓Yh, ↓Yi, ↓YI, ↓YJ, ↓Yj, ↓Yk, ↓XR, ↓XS, ↓YK, ↓Ym, ↓YL, ↓YM, ↓Yn, ↓YN, ↓YO, ↓XU, ↓YQ, ↓Yo, ↓YR, ↓Zk, ↓XV, ↓YS, ↓YT, ↓Zl, ↓YU, ↓Yp, ↓XW, ↓YV, ↓YW, ↓YX, ↓Yq, ↓YY, ↓YZ, ↓Y0, ↓Y1, ↓XX, ↓Xn, ↓Xo, ↓Y2, ↓Xp, ↓Xq, ↓Y3, ↓Yr, ↓Xr, ↓XY, ↓Ys, ↓Xd, ↓Xe, ↓Xf, ↓Y4, ↓Y5, ↓Y7, ↓Y8, ↓Y9, ↓Za, ↓Zb, ↓Zc, ↓Yu, ↓Yz, ↓YA, ↓YF, ↓Xi, ↓XM, ↓Xl, ↓Xb, ↓Xc, ↓Xm, ↓Xj, ↓XN, ↓Xk, ↓XO, Zd, Ze, Zf, Zg, Zh, Zi, Yv, Yw, Yx, Yy, Zj, X0, X1, Xg, Xu, X2, X3, YC, YD, XZ, Xs, Xv, Xw, X4, X5, X6, X7, X8, Xh, XA, XB, XC, XD, XE, XF, YE, X9, XH, setAll, Yl, reduceCtorEq, ne_eq, not_false_eq_true, if_true, if_false, Bool.false_eq_true, Option.map_some, decide_eq_true_eq, Bool.not_true, Bool.not_false])
  have := P.2.2.tot
  cases l with
  | nil =>
    rw [if_pos (by simp only [T.tot]; omega)]
    repeat (first | refine XJ ?_ | simp only [↓Yb, ↓XQ, ↓YH, ↓Yd, ↓Ye, ↓Yg, ↓Yh, ↓Yi, ↓YI, ↓YJ, ↓Yj, ↓Yk, ↓XR, ↓XS, ↓YK, ↓Ym, ↓YL, ↓YM, ↓Yn, ↓YN, ↓YO, ↓XU, ↓YQ, ↓Yo, ↓YR, ↓Zk, ↓XV, ↓YS, ↓YT, ↓Zl, ↓YU, ↓Yp, ↓XW, ↓YV, ↓YW, ↓YX, ↓Yq, ↓YY, ↓YZ, ↓Y0, ↓Y1, ↓XX, ↓Xn, ↓Xo, ↓Y2, ↓Xp, ↓Xq, ↓Y3, ↓Yr, ↓Xr, ↓XY, ↓Ys, ↓Xd, ↓Xe, ↓Xf, ↓Y4, ↓Y5, ↓Y7, ↓Y8, ↓Y9, ↓Za, ↓Zb, ↓Zc, ↓Yu, ↓Yz, ↓YA, ↓YF, ↓Xi, ↓XM, ↓Xl, ↓Xb, ↓Xc, ↓Xm, ↓Xj, ↓XN, ↓Xk, ↓XO, Zd, Ze, Zf, Zg, Zh, Zi, Yv, Yw, Yx, Yy, Zj, X0, X1, Xg, Xu, X2, X3, YC, YD, XZ, Xs, Xv, Xw, X4, X5, X6, X7, X8, Xh, XA, XB, XC, XD, XE, XF, YE, X9, XH, setAll, Yl, reduceCtorEq, ne_eq, not_false_eq_true, if_true, if_false, Bool.false_eq_true, Option.map_some, decide_eq_true_eq, Bool.not_true, Bool.not_false])
    exact ⟨_, Sub.refl, k⟩
  | node b o' p' A B =>
    simp only [helpR] at k
    split
    · rename_i z
      simp only [T.tot] at z
      rw [show decide (0 < o' + A.tot + B.tot - r.tot) = false by simp; omega] at k
      repeat (first | refine XJ ?_ | simp only [↓Yb, ↓XQ, ↓YH, ↓Yd, ↓Ye, ↓Yg, ↓Yh, ↓Yi, ↓YI, ↓YJ, ↓Yj, ↓Yk, ↓XR, ↓XS, ↓YK, ↓Ym, ↓YL, ↓YM, ↓Yn, ↓YN, ↓YO, ↓XU, ↓YQ, ↓Yo, ↓YR, ↓Zk, ↓XV, ↓YS, ↓YT, ↓Zl, ↓YU, ↓Yp, ↓XW, ↓YV, ↓YW, ↓YX, ↓Yq, ↓YY, ↓YZ, ↓Y0, ↓Y1, ↓XX, ↓Xn, ↓Xo, ↓Y2, ↓Xp, ↓Xq, ↓Y3, ↓Yr, ↓Xr, ↓XY, ↓Ys, ↓Xd, ↓Xe, ↓Xf, ↓Y4, ↓Y5, ↓Y7, ↓Y8, ↓Y9, ↓Za, ↓Zb, ↓Zc, ↓Yu, ↓Yz, ↓YA, ↓YF, ↓Xi, ↓XM, ↓Xl, ↓Xb, ↓Xc, ↓Xm, ↓Xj, ↓XN, ↓Xk, ↓XO, Zd, Ze, Zf, Zg, Zh, Zi, Yv, Yw, Yx, Yy, Zj, X0, X1, Xg, Xu, X2, X3, YC, YD, XZ, Xs, Xv, Xw, X4, X5, X6, X7, X8, Xh, XA, XB, XC, XD, XE, XF, YE, X9, XH, setAll, Yl, reduceCtorEq, ne_eq, not_false_eq_true, if_true, if_false, Bool.false_eq_true, Option.map_some, decide_eq_true_eq, Bool.not_true, Bool.not_false])
      exact ⟨_, Sub.refl, k⟩
    · rename_i z
      simp only [T.tot] at z
      rw [show decide (0 < o' + A.tot + B.tot - r.tot) = true by simp; omega] at k
      obtain ⟨eb, iA, iB⟩ := il
      repeat (first | refine XJ ?_ | simp only [T.ptr, ↓Y6 eb, YB eb, ↓Y6 e, YB e, ↓Yb, ↓XQ, ↓YH, ↓Yd, ↓Ye, ↓Yg, ↓Yh, ↓Yi, ↓YI, ↓YJ, ↓Yj, ↓Yk, ↓XR, ↓XS, ↓YK, ↓Ym, ↓YL, ↓YM, ↓Yn, ↓YN, ↓YO, ↓XU, ↓YQ, ↓Yo, ↓YR, ↓Zk, ↓XV, ↓YS, ↓YT, ↓Zl, ↓YU, ↓Yp, ↓XW, ↓YV, ↓YW, ↓YX, ↓Yq, ↓YY, ↓YZ, ↓Y0, ↓Y1, ↓XX, ↓Xn, ↓Xo, ↓Y2, ↓Xp, ↓Xq, ↓Y3, ↓Yr, ↓Xr, ↓XY, ↓Ys, ↓Xd, ↓Xe, ↓Xf, ↓Y4, ↓Y5, ↓Y7, ↓Y8, ↓Y9, ↓Za, ↓Zb, ↓Zc, ↓Yu, ↓Yz, ↓YA, ↓YF, ↓Xi, ↓XM, ↓Xl, ↓Xb, ↓Xc, ↓Xm, ↓Xj, ↓XN, ↓Xk, ↓XO, Zd, Ze, Zf, Zg, Zh, Zi, Yv, Yw, Yx, Yy, Zj, X0, X1, Xg, Xu, X2, X3, YC, YD, XZ, Xs, Xv, Xw, X4, X5, X6, X7, X8, Xh, XA, XB, XC, XD, XE, XF, YE, X9, XH, setAll, Yl, reduceCtorEq, ne_eq, not_false_eq_true, if_true, if_false, Bool.false_eq_true, Option.map_some, decide_eq_true_eq, Bool.not_true, Bool.not_false])
      refine c_total_of U iA ?_
      repeat (first | refine XJ ?_ | simp only [T.ptr, ↓Y6 eb, YB eb, ↓Y6 e, YB e, ↓Yb, ↓XQ, ↓YH, ↓Yd, ↓Ye, ↓Yg, ↓Yh, ↓Yi, ↓YI, ↓YJ, ↓Yj, ↓Yk, ↓XR, ↓XS, ↓YK, ↓Ym, ↓YL, ↓YM, ↓Yn, ↓YN, ↓YO, ↓XU, ↓YQ, ↓Yo, ↓YR, ↓Zk, ↓XV, ↓YS, ↓YT, ↓Zl, ↓YU, ↓Yp, ↓XW, ↓YV, ↓YW, ↓YX, ↓Yq, ↓YY, ↓YZ, ↓Y0, ↓Y1, ↓XX, ↓Xn, ↓Xo, ↓Y2, ↓Xp, ↓Xq, ↓Y3, ↓Yr, ↓Xr, ↓XY, ↓Ys, ↓Xd, ↓Xe, ↓Xf, ↓Y4, ↓Y5, ↓Y7, ↓Y8, ↓Y9, ↓Za, ↓Zb, ↓Zc, ↓Yu, ↓Yz, ↓YA, ↓YF, ↓Xi, ↓XM, ↓Xl, ↓Xb, ↓Xc, ↓Xm, ↓Xj, ↓XN, ↓Xk, ↓XO, Zd, Ze, Zf, Zg, Zh, Zi, Yv, Yw, Yx, Yy, Zj, X0, X1, Xg, Xu, X2, X3, YC, YD, XZ, Xs, Xv, Xw, X4, X5, X6, X7, X8, Xh, XA, XB, XC, XD, XE, XF, YE, X9, XH, setAll, Yl, reduceCtorEq, ne_eq, not_false_eq_true, if_true, if_false, Bool.false_eq_true, Option.map_some, decide_eq_true_eq, Bool.not_true, Bool.not_false])
      refine c_total_of U iB ?_
      repeat (first | refine XJ ?_ | simp only [↓Yb, ↓XQ, ↓YH, ↓Yd, ↓Ye, ↓Yg, ↓Yh, ↓Yi, ↓YI, ↓YJ, ↓Yj, ↓Yk, ↓XR, ↓XS, ↓YK, ↓Ym, ↓YL, ↓YM, ↓Yn, ↓YN, ↓YO, ↓XU, ↓YQ, ↓Yo, ↓YR, ↓Zk, ↓XV, ↓YS, ↓YT, ↓Zl, ↓YU, ↓Yp, ↓XW, ↓YV, ↓YW, ↓YX, ↓Yq, ↓YY, ↓YZ, ↓Y0, ↓Y1, ↓XX, ↓Xn, ↓Xo, ↓Y2, ↓Xp, ↓Xq, ↓Y3, ↓Yr, ↓Xr, ↓XY, ↓Ys, ↓Xd, ↓Xe, ↓Xf, ↓Y4, ↓Y5, ↓Y7, ↓Y8, ↓Y9, ↓Za, ↓Zb, ↓Zc, ↓Yu, ↓Yz, ↓YA, ↓YF, ↓Xi, ↓XM, ↓Xl, ↓Xb, ↓Xc, ↓Xm, ↓Xj, ↓XN, ↓Xk, ↓XO, Zd, Ze, Zf, Zg, Zh, Zi, Yv, Yw, Yx, Yy, Zj, X0, X1, Xg, Xu, X2, X3, YC, YD, XZ, Xs, Xv, Xw, X4, X5, X6, X7, X8, Xh, XA, XB, XC, XD, XE, XF, YE, X9, XH, setAll, Yl, reduceCtorEq, ne_eq, not_false_eq_true, if_true, if_false, Bool.false_eq_true, Option.map_some, decide_eq_true_eq, Bool.not_true, Bool.not_false, T.tot])
      rw [show o + (o' + A.tot + B.tot) + r.tot - (o' + A.tot + B.tot) + B.tot = o + r.tot + B.tot by omega]
      repeat (first | refine XJ ?_ | simp only [↓Yb, ↓XQ, ↓YH, ↓Yd, ↓Ye, ↓Yg, ↓Yh, ↓Yi, ↓YI, ↓YJ, ↓Yj, ↓Yk, ↓XR, ↓XS, ↓YK, ↓Ym, ↓YL, ↓YM, ↓Yn, ↓YN, ↓YO, ↓XU, ↓YQ, ↓Yo, ↓YR, ↓Zk, ↓XV, ↓YS, ↓YT, ↓Zl, ↓YU, ↓Yp, ↓XW, ↓YV, ↓YW, ↓YX, ↓Yq, ↓YY, ↓YZ, ↓Y0, ↓Y1, ↓XX, ↓Xn, ↓Xo, ↓Y2, ↓Xp, ↓Xq, ↓Y3, ↓Yr, ↓Xr, ↓XY, ↓Ys, ↓Xd, ↓Xe, ↓Xf, ↓Y4, ↓Y5, ↓Y7, ↓Y8, ↓Y9, ↓Za, ↓Zb, ↓Zc, ↓Yu, ↓Yz, ↓YA, ↓YF, ↓Xi, ↓XM, ↓Xl, ↓Xb, ↓Xc, ↓Xm, ↓Xj, ↓XN, ↓Xk, ↓XO, Zd, Ze, Zf, Zg, Zh, Zi, Yv, Yw, Yx, Yy, Zj, X0, X1, Xg, Xu, X2, X3, YC, YD, XZ, Xs, Xv, Xw, X4, X5, X6, X7, X8, Xh, XA, XB, XC, XD, XE, XF, YE, X9, XH, setAll, Yl, reduceCtorEq, ne_eq, not_false_eq_true, if_true, if_false, Bool.false_eq_true, Option.map_some, decide_eq_true_eq, Bool.not_true, Bool.not_false])
      exact ⟨_, Sub.refl, k⟩
theorem c_left_helps {a : Nat} {o : Int} {p : V} {l r : T} {q : V} {h : Hp} {Q : V → Hp → Prop} (i : IsT h (.node a o p l r) q) (P : Pos (.node a o p l r)) (k : Q (.bool (helpL (.node a o p l r))) h) : Γ .left_turn_helps [.ref a] Q h := by
  refine U .left_turn_helps rfl _ _ _ (wpB_i (ps := p_left_turn_helps) (b := b_left_turn_helps) rfl ?_)
  obtain ⟨e, il, ir⟩ := i
  rw [Pos.node] at P
  repeat (first | refine XJ ?_ | simp only [b_left_turn_helps, p_left_turn_helps, ↓Y6 e, YB e, ↓Yb, ↓XQ, ↓YH, ↓Yd, ↓Ye, ↓Yg, ↓Yh, ↓Yi, ↓YI, ↓YJ, ↓Yj, ↓Yk, ↓XR, ↓XS, ↓YK, ↓Ym, ↓YL, ↓YM, ↓Yn, ↓YN, ↓YO, ↓XU, ↓YQ, ↓Yo, ↓YR, ↓Zk, ↓XV, ↓YS, ↓YT, ↓Zl, ↓YU, ↓Yp, ↓XW, ↓YV, ↓YW, ↓YX, ↓Yq, ↓YY, ↓YZ, ↓Y0, ↓Y1, ↓XX, ↓Xn, ↓Xo, ↓Y2, ↓Xp, ↓Xq, ↓Y3, ↓Yr, ↓Xr, ↓XY, ↓Ys, ↓Xd, ↓Xe, ↓Xf, ↓Y4, ↓Y5, ↓Y7, ↓Y8, ↓Y9, ↓Za, ↓Zb, ↓Zc, ↓Yu, ↓Yz, ↓YA, ↓YF, ↓Xi, ↓XM, ↓Xl, ↓Xb, ↓Xc, ↓Xm, ↓Xj, ↓XN, ↓Xk, ↓XO, Zd, Ze, Zf, Zg, Zh, Zi, Yv, Yw, Yx, Yy, Zj, X0, X1, Xg, Xu, X2, X3, YC, YD, XZ, Xs, Xv, Xw, X4, X5, X6, X7, X8, Xh, XA, XB, XC, XD, XE, XF, YE, X9, XH, setAll, Yl, reduceCtorEq, ne_eq, not_false_eq_true, if_true, if_false, Bool.false_eq_true, Option.map_some, decide_eq_true_eq, Bool.not_true, Bool.not_false])
  refine c_total_of U ir ?_
  repeat (first | refine XJ ?_ | simp only [↓Y6 e, YB e, ↓Yb, ↓XQ, ↓YH, ↓Yd, ↓Ye, ↓Yg, ↓Yh, ↓Yi, ↓YI, ↓YJ, ↓Yj, ↓Yk, ↓XR, ↓XS, ↓YK, ↓Ym, ↓YL, ↓YM, ↓Yn, ↓YN, ↓YO, ↓XU, ↓YQ, ↓Yo, ↓YR, ↓Zk, ↓XV, ↓YS, ↓YT, ↓Zl, ↓YU, ↓Yp, ↓XW, ↓YV, ↓YW, ↓YX, ↓Yq, ↓YY, ↓YZ, ↓Y0, ↓Y1, ↓XX, ↓Xn, ↓Xo, ↓Y2, ↓Xp, ↓Xq, ↓Y3, ↓Yr, ↓Xr, ↓XY, ↓Ys, ↓Xd, ↓Xe, ↓Xf, ↓Y4, ↓Y5, ↓Y7, ↓Y8, ↓Y9, ↓Za, ↓Zb, ↓Zc, ↓Yu, ↓Yz, ↓YA, ↓YF, ↓Xi, ↓XM, ↓Xl, ↓Xb, ↓Xc, ↓Xm, ↓Xj, ↓XN, ↓Xk, ↓XO, Zd, Ze, Zf, Zg, Zh, Zi, Yv, Yw, Yx, Yy, Zj, X0, X1, Xg, Xu, X2, X3, YC, YD, XZ, Xs, Xv, Xw, X4, X5, X6, X7, X8, Xh, XA, XB, XC, XD, XE, XF, YE, X9, XH, setAll, Yl, reduceCtorEq, ne_eq, not_false_eq_true, if_true, if_false, Bool.false_eq_true, Option.map_some, decide_eq_true_eq, Bool.not_true, Bool.not_false])
  refine c_total_of U il ?_
  repeat (first | refine XJ ?_ | simp only [↓Yb, ↓XQ, ↓YH, ↓Yd, ↓Ye, ↓Yg, ↓Yh, ↓Yi, ↓YI, ↓YJ, ↓Yj, ↓Yk, ↓XR, ↓XS, ↓YK, ↓Ym, ↓YL, ↓YM, ↓Yn, ↓YN, ↓YO, ↓XU, ↓YQ, ↓Yo, ↓YR, ↓Zk, ↓XV, ↓YS, ↓YT, ↓Zl, ↓YU, ↓Yp, ↓XW, ↓YV, ↓YW, ↓YX, ↓Yq, ↓YY, ↓YZ, ↓Y0, ↓Y1, ↓XX, ↓Xn, ↓Xo, ↓Y2, ↓Xp, ↓Xq, ↓Y3, ↓Yr, ↓Xr, ↓XY, ↓Ys, ↓Xd, ↓Xe, ↓Xf, ↓Y4, ↓Y5, ↓Y7, ↓Y8, ↓Y9, ↓Za, ↓Zb, ↓Zc, ↓Yu, ↓Yz, ↓YA, ↓YF, ↓Xi, ↓XM, ↓Xl, ↓Xb, ↓Xc, ↓Xm, ↓Xj, ↓XN, ↓Xk, ↓XO, Zd, Ze, Zf, Zg, Zh, Zi, Yv, Yw, Yx, Yy, Zj, X0, X1, Xg, Xu, X2, X3, YC, YD, XZ, Xs, Xv, Xw, X4, X5, X6, X7, X8, Xh, XA, XB, XC, XD, XE, XF, YE, X9, XH, setAll, Yl, reduceCtorEq, ne_eq, not_false_eq_true, if_true, if_false, Bool.false_eq_true, Option.map_some, decide_eq_true_eq, Bool.not_true, Bool.not_false])
  have := P.2.1.tot
  cases r with
  | nil =>
    rw [if_pos (by simp only [T.tot]; omega)]
    have z : helpL (.node a o p l .nil) = false := by cases l <;> rfl
    rw [z] at k
    repeat (first | refine XJ ?_ | simp only [↓Yb, ↓XQ, ↓YH, ↓Yd, ↓Ye, ↓Yg, ↓Yh, ↓Yi, ↓YI, ↓YJ, ↓Yj, ↓Yk, ↓XR, ↓XS, ↓YK, ↓Ym, ↓YL, ↓YM, ↓Yn, ↓YN, ↓YO, ↓XU, ↓YQ, ↓Yo, ↓YR, ↓Zk, ↓XV, ↓YS, ↓YT, ↓Zl, ↓YU, ↓Yp, ↓XW, ↓YV, ↓YW, ↓YX, ↓Yq, ↓YY, ↓YZ, ↓Y0, ↓Y1, ↓XX, ↓Xn, ↓Xo, ↓Y2, ↓Xp, ↓Xq, ↓Y3, ↓Yr, ↓Xr, ↓XY, ↓Ys, ↓Xd, ↓Xe, ↓Xf, ↓Y4, ↓Y5, ↓Y7, ↓Y8, ↓Y9, ↓Za, ↓Zb, ↓Zc, ↓Yu, ↓Yz, ↓YA, ↓YF, ↓Xi, ↓XM, ↓Xl, ↓Xb, ↓Xc, ↓Xm, ↓Xj, ↓XN, ↓Xk, ↓XO, Zd, Ze, Zf, Zg, Zh, Zi, Yv, Yw, Yx, Yy, Zj, X0, X1, Xg, Xu, X2, X3, YC, YD, XZ, Xs, Xv, Xw, X4, X5, X6, X7, X8, Xh, XA, XB, XC, XD, XE, XF, YE, X9, XH, setAll, Yl, reduceCtorEq, ne_eq, not_false_eq_true, if_true, if_false, Bool.false_eq_true, Option.map_some, decide_eq_true_eq, Bool.not_true, Bool.not_false])
    exact ⟨_, Sub.refl, k⟩
  | node b o' p' B A =>
    have z : helpL (.node a o p l (.node b o' p' B A)) = (decide (0 < o' + B.tot + A.tot - l.tot) && decide (((A.tot - (o + l.tot + B.tot)).natAbs : Int) < o' + B.tot + A.tot - l.tot)) := by cases l <;> rfl
    rw [z] at k
    split
    · rename_i z
      simp only [T.tot] at z
      rw [show decide (0 < o' + B.tot + A.tot - l.tot) = false by simp; omega] at k
      repeat (first | refine XJ ?_ | simp only [↓Yb, ↓XQ, ↓YH, ↓Yd, ↓Ye, ↓Yg, ↓Yh, ↓Yi, ↓YI, ↓YJ, ↓Yj, ↓Yk, ↓XR, ↓XS, ↓YK, ↓Ym, ↓YL, ↓YM, ↓Yn, ↓YN, ↓YO, ↓XU, ↓YQ, ↓Yo, ↓YR, ↓Zk, ↓XV, ↓YS, ↓YT, ↓Zl, ↓YU, ↓Yp, ↓XW, ↓YV, ↓YW, ↓YX, ↓Yq, ↓YY, ↓YZ, ↓Y0, ↓Y1, ↓XX, ↓Xn, ↓Xo, ↓Y2, ↓Xp, ↓Xq, ↓Y3, ↓Yr, ↓Xr, ↓XY, ↓Ys, ↓Xd, ↓Xe, ↓Xf, ↓Y4, ↓Y5, ↓Y7, ↓Y8, ↓Y9, ↓Za, ↓Zb, ↓Zc, ↓Yu, ↓Yz, ↓YA, ↓YF, ↓Xi, ↓XM, ↓Xl, ↓Xb, ↓Xc, ↓Xm, ↓Xj, ↓XN, ↓Xk, ↓XO, Zd, Ze, Zf, Zg, Zh, Zi, Yv, Yw, Yx, Yy, Zj, X0, X1, Xg, Xu, X2, X3, YC, YD, XZ, Xs, Xv, Xw, X4, X5, X6, X7, X8, Xh, XA, XB, XC, XD, XE, XF, YE, X9, XH, setAll, Yl, reduceCtorEq, ne_eq, not_false_eq_true, if_true, if_false, Bool.false_eq_true, Option.map_some, decide_eq_true_eq, Bool.not_true, Bool.not_false])
      exact ⟨_, Sub.refl, k⟩
    · rename_i z
      simp only [T.tot] at z
      rw [show decide (0 < o' + B.tot + A.tot - l.tot) = true by simp; omega] at k
      obtain ⟨eb, iB, iA⟩ := ir
      repeat (first | refine XJ ?_ | simp only [T.ptr, ↓Y6 eb, YB eb, ↓Y6 e, YB e, ↓Yb, ↓XQ, ↓YH, ↓Yd, ↓Ye, ↓Yg, ↓Yh, ↓Yi, ↓YI, ↓YJ, ↓Yj, ↓Yk, ↓XR, ↓XS, ↓YK, ↓Ym, ↓YL, ↓YM, ↓Yn, ↓YN, ↓YO, ↓XU, ↓YQ, ↓Yo, ↓YR, ↓Zk, ↓XV, ↓YS, ↓YT, ↓Zl, ↓YU, ↓Yp, ↓XW, ↓YV, ↓YW, ↓YX, ↓Yq, ↓YY, ↓YZ, ↓Y0, ↓Y1, ↓XX, ↓Xn, ↓Xo, ↓Y2, ↓Xp, ↓Xq, ↓Y3, ↓Yr, ↓Xr, ↓XY, ↓Ys, ↓Xd, ↓Xe, ↓Xf, ↓Y4, ↓Y5, ↓Y7, ↓Y8, ↓Y9, ↓Za, ↓Zb, ↓Zc, ↓Yu, ↓Yz, ↓YA, ↓YF, ↓Xi, ↓XM, ↓Xl, ↓Xb, ↓Xc, ↓Xm, ↓Xj, ↓XN, ↓Xk, ↓XO, Zd, Ze, Zf, Zg, Zh, Zi, Yv, Yw, Yx, Yy, Zj, X0, X1, Xg, Xu, X2, X3, YC, YD, XZ, Xs, Xv, Xw, X4, X5, X6, X7, X8, Xh, XA, XB, XC, XD, XE, XF, YE, X9, XH, setAll, Yl, reduceCtorEq, ne_eq, not_false_eq_true, if_true, if_false, Bool.false_eq_true, Option.map_some, decide_eq_true_eq, Bool.not_true, Bool.not_false])
      refine c_total_of U iA ?_
      repeat (first | refine XJ ?_ | simp only [T.ptr, ↓Y6 eb, YB eb, ↓Y6 e, YB e, ↓Yb, ↓XQ, ↓YH, ↓Yd, ↓Ye, ↓Yg, ↓Yh, ↓Yi, ↓YI, ↓YJ, ↓Yj, ↓Yk, ↓XR, ↓XS, ↓YK, ↓Ym, ↓YL, ↓YM, ↓Yn, ↓YN, ↓YO, ↓XU, ↓YQ, ↓Yo, ↓YR, ↓Zk, ↓XV, ↓YS, ↓YT, ↓Zl, ↓YU, ↓Yp, ↓XW, ↓YV, ↓YW, ↓YX, ↓Yq, ↓YY, ↓YZ, ↓Y0, ↓Y1, ↓XX, ↓Xn, ↓Xo, ↓Y2, ↓Xp, ↓Xq, ↓Y3, ↓Yr, ↓Xr, ↓XY, ↓Ys, ↓Xd, ↓Xe, ↓Xf, ↓Y4, ↓Y5, ↓Y7, ↓Y8, ↓Y9, ↓Za, ↓Zb, ↓Zc, ↓Yu, ↓Yz, ↓YA, ↓YF, ↓Xi, ↓XM, ↓Xl, ↓Xb, ↓Xc, ↓Xm, ↓Xj, ↓XN, ↓Xk, ↓XO, Zd, Ze, Zf, Zg, Zh, Zi, Yv, Yw, Yx, Yy, Zj, X0, X1, Xg, Xu, X2, X3, YC, YD, XZ, Xs, Xv, Xw, X4, X5, X6, X7, X8, Xh, XA, XB, XC, XD, XE, XF, YE, X9, XH, setAll, Yl, reduceCtorEq, ne_eq, not_false_eq_true, if_true, if_false, Bool.false_eq_true, Option.map_some, decide_eq_true_eq, Bool.not_true, Bool.not_false])
      refine c_total_of U iB ?_
      repeat (first | refine XJ ?_ | simp only [↓Yb, ↓XQ, ↓YH, ↓Yd, ↓Ye, ↓Yg, ↓Yh, ↓Yi, ↓YI, ↓YJ, ↓Yj, ↓Yk, ↓XR, ↓XS, ↓YK, ↓Ym, ↓YL, ↓YM, ↓Yn, ↓YN, ↓YO, ↓XU, ↓YQ, ↓Yo, ↓YR, ↓Zk, ↓XV, ↓YS, ↓YT, ↓Zl, ↓YU, ↓Yp, ↓XW, ↓YV, ↓YW, ↓YX, ↓Yq, ↓YY, ↓YZ, ↓Y0, ↓Y1, ↓XX, ↓Xn, ↓Xo, ↓Y2, ↓Xp, ↓Xq, ↓Y3, ↓Yr, ↓Xr, ↓XY, ↓Ys, ↓Xd, ↓Xe, ↓Xf, ↓Y4, ↓Y5, ↓Y7, ↓Y8, ↓Y9, ↓Za, ↓Zb, ↓Zc, ↓Yu, ↓Yz, ↓YA, ↓YF, ↓Xi, ↓XM, ↓Xl, ↓Xb, ↓Xc, ↓Xm, ↓Xj, ↓XN, ↓Xk, ↓XO, Zd, Ze, Zf, Zg, Zh, Zi, Yv, Yw, Yx, Yy, Zj, X0, X1, Xg, Xu, X2, X3, YC, YD, XZ, Xs, Xv, Xw, X4, X5, X6, X7, X8, Xh, XA, XB, XC, XD, XE, XF, YE, X9, XH, setAll, Yl, reduceCtorEq, ne_eq, not_false_eq_true, if_true, if_false, Bool.false_eq_true, Option.map_some, decide_eq_true_eq, Bool.not_true, Bool.not_false, T.tot])
      rw [show o + l.tot + (o' + B.tot + A.tot) - (o' + B.tot + A.tot) + B.tot = o + l.tot + B.tot by omega]
      repeat (first | refine XJ ?_ | simp only [↓Yb, ↓XQ, ↓YH, ↓Yd, ↓Ye, ↓Yg, ↓Yh, ↓Yi, ↓YI, ↓YJ, ↓Yj, ↓Yk, ↓XR, ↓XS, ↓YK, ↓Ym, ↓YL, ↓YM, ↓Yn, ↓YN, ↓YO, ↓XU, ↓YQ, ↓Yo, ↓YR, ↓Zk, ↓XV, ↓YS, ↓YT, ↓Zl, ↓YU, ↓Yp, ↓XW, ↓YV, ↓YW, ↓YX, ↓Yq, ↓YY, ↓YZ, ↓Y0, ↓Y1, ↓XX, ↓Xn, ↓Xo, ↓Y2, ↓Xp, ↓Xq, ↓Y3, ↓Yr, ↓Xr, ↓XY, ↓Ys, ↓Xd, ↓Xe, ↓Xf, ↓Y4, ↓Y5, ↓Y7, ↓Y8, ↓Y9, ↓Za, ↓Zb, ↓Zc, ↓Yu, ↓Yz, ↓YA, ↓YF, ↓Xi, ↓XM, ↓Xl, ↓Xb, ↓Xc, ↓Xm, ↓Xj, ↓XN, ↓Xk, ↓XO, Zd, Ze, Zf, Zg, Zh, Zi, Yv, Yw, Yx, Yy, Zj, X0, X1, Xg, Xu, X2, X3, YC, YD, XZ, Xs, Xv, Xw, X4, X5, X6, X7, X8, Xh, XA, XB, XC, XD, XE, XF, YE, X9, XH, setAll, Yl, reduceCtorEq, ne_eq, not_false_eq_true, if_true, if_false, Bool.false_eq_true, Option.map_some, decide_eq_true_eq, Bool.not_true, Bool.not_false])
      exact ⟨_, Sub.refl, k⟩
end

/-- the turns of settle -/
inductive Go : Ctx → T → Nat → Prop
  | done {u : T} : helpR u = false → helpL u = false → Go [] u 1
  | up {u : T} {f : Frm} {c : Ctx} {n : Nat} : helpR u = false → helpL u = false → Go c (f.fill u) n → Go (f :: c) u (n + 1)
  | right {a b : Nat} {o o' : Int} {p p' : V} {A B C : T} {c : Ctx} {n : Nat} : helpR (.node a o p (.node b o' p' A B) C) = true → Go (⟨false, b, o', p', A⟩ :: c) (.node a o p B C) n → Go c (.node a o p (.node b o' p' A B) C) (n + 1)
  | left {a b : Nat} {o o' : Int} {p p' : V} {A B C : T} {c : Ctx} {n : Nat} : helpR (.node a o p C (.node b o' p' B A)) = false → helpL (.node a o p C (.node b o' p' B A)) = true → Go (⟨true, b, o', p', A⟩ :: c) (.node a o p C B) n →
      Go c (.node a o p C (.node b o' p' B A)) (n + 1)
theorem Go.inv {c : Ctx} {a : Nat} {o : Int} {p : V} {l r : T} {n : Nat} (g : Go c (.node a o p l r) n) :
    (helpR (.node a o p l r) = true → ∃ b o' p' A B j, l = .node b o' p' A B ∧ n = j + 1 ∧ Go (⟨false, b, o', p', A⟩ :: c) (.node a o p B r) j) ∧
    (helpR (.node a o p l r) = false → helpL (.node a o p l r) = true → ∃ b o' p' A B j, r = .node b o' p' B A ∧ n = j + 1 ∧ Go (⟨true, b, o', p', A⟩ :: c) (.node a o p l B) j) ∧
    (helpR (.node a o p l r) = false → helpL (.node a o p l r) = false → (c = [] ∧ n = 1) ∨ ∃ f c' j, c = f :: c' ∧ n = j + 1 ∧ Go c' (f.fill (.node a o p l r)) j) := by
  generalize hu : T.node a o p l r = u at g ⊢
  cases g with
  | done h1 h2 => exact ⟨fun h => (Bool.false_ne_true (h1.symm.trans h)).elim, fun _ h => (Bool.false_ne_true (h2.symm.trans h)).elim, fun _ _ => .inl ⟨rfl, rfl⟩⟩
  | up h1 h2 g => exact ⟨fun h => (Bool.false_ne_true (h1.symm.trans h)).elim, fun _ h => (Bool.false_ne_true (h2.symm.trans h)).elim, fun _ _ => .inr ⟨_, _, _, rfl, rfl, g⟩⟩
  | right h1 g =>
    cases hu
    exact ⟨fun _ => ⟨_, _, _, _, _, _, rfl, rfl, g⟩, fun h => (Bool.false_ne_true (h.symm.trans h1)).elim, fun h => (Bool.false_ne_true (h.symm.trans h1)).elim⟩
  | left h1 h2 g =>
    cases hu
    exact ⟨fun h => (Bool.false_ne_true (h1.symm.trans h)).elim, fun _ _ => ⟨_, _, _, _, _, _, rfl, rfl, g⟩, fun _ h => (Bool.false_ne_true (h.symm.trans h2)).elim⟩
noncomputable def After (c : Ctx) (D : T) (n : Nat) : Prop := match c with
  | [] => True
  | f :: c => Go c (f.fill D) n
noncomputable def imb : T → Nat
  | .nil => 0
  | .node _ _ _ l r => (l.tot - r.tot).natAbs
theorem go_ex : ∀ (s d : Nat) (u : T) (c : Ctx), u.ino.length ≤ s → imb u = d → Pos u → (∀ D : T, D.ino = u.ino → ∃ n, After c D n) → ∃ n, Go c u n := by
  intro s
  induction s with
  | zero =>
    intro d u c h1 _ P K
    cases u with
    | nil =>
      cases c with
      | nil => exact ⟨_, .done rfl rfl⟩
      | cons f c => obtain ⟨n, k⟩ := K .nil rfl; exact ⟨_, .up rfl rfl k⟩
    | node a o p l r => simp [T.ino] at h1
  | succ s ihs =>
    intro d
    induction d using Nat.strongRecOn with
    | _ d ihd =>
      intro u c h1 h2 P K
      cases hR : helpR u with
      | true =>
        cases u with
        | nil => cases hR
        | node a o p l C =>
          cases l with
          | nil => cases hR
          | node b o' p' A B =>
            simp only [Pos.node] at P
            have hR' := hR
            simp only [helpR, Bool.and_eq_true, decide_eq_true_eq] at hR'
            simp only [T.ino, List.length_append, List.length_cons] at h1
            have h2' : ((imb (.node a o p (.node b o' p' A B) C) : Nat) : Int) = d := by rw [h2]
            simp only [imb, T.tot] at h2'
            obtain ⟨n, g⟩ := ihs _ (.node a o p B C) (⟨false, b, o', p', A⟩ :: c) (by simp only [T.ino, List.length_append, List.length_cons]; omega) rfl (by simp only [Pos.node]; exact ⟨P.1, P.2.1.2.2, P.2.2⟩) fun D hD => by
              have tD := tot_of hD
              simp only [T.tot] at tD
              have iD : (T.node b o' p' A D).ino = (T.node a o p (.node b o' p' A B) C).ino := by simp [T.ino, hD]
              refine ihd (imb (.node b o' p' A D)) (by simp only [imb]; omega) (.node b o' p' A D) c ?_ rfl ?_ fun E hE => K E (hE.trans iD)
              · rw [iD]; simp only [T.ino, List.length_append, List.length_cons]; omega
              · unfold Pos; rw [iD]; exact Pos.node.mpr ⟨P.1, Pos.node.mpr P.2.1, P.2.2⟩
            exact ⟨_, .right hR g⟩
      | false =>
        cases hL : helpL u with
        | true =>
          cases u with
          | nil => cases hL
          | node a o p C r =>
            cases r with
            | nil => cases C <;> cases hL
            | node b o' p' B A =>
              simp only [Pos.node] at P
              have hL' : (decide (0 < o' + B.tot + A.tot - C.tot) && decide (((A.tot - (o + C.tot + B.tot)).natAbs : Int) < o' + B.tot + A.tot - C.tot)) = true := by cases C <;> exact hL
              simp only [Bool.and_eq_true, decide_eq_true_eq] at hL'
              simp only [T.ino, List.length_append, List.length_cons] at h1
              have h2' : ((imb (.node a o p C (.node b o' p' B A)) : Nat) : Int) = d := by rw [h2]
              simp only [imb, T.tot] at h2'
              obtain ⟨n, g⟩ := ihs _ (.node a o p C B) (⟨true, b, o', p', A⟩ :: c) (by simp only [T.ino, List.length_append, List.length_cons]; omega) rfl (by simp only [Pos.node]; exact ⟨P.1, P.2.1, P.2.2.2.1⟩) fun D hD => by
                have tD := tot_of hD
                simp only [T.tot] at tD
                have iD : (T.node b o' p' D A).ino = (T.node a o p C (.node b o' p' B A)).ino := by simp [T.ino, hD]
                refine ihd (imb (.node b o' p' D A)) (by simp only [imb]; omega) (.node b o' p' D A) c ?_ rfl ?_ fun E hE => K E (hE.trans iD)
                · rw [iD]; simp only [T.ino, List.length_append, List.length_cons]; omega
                · unfold Pos; rw [iD]; exact Pos.node.mpr ⟨P.1, P.2.1, Pos.node.mpr P.2.2⟩
              exact ⟨_, .left hR hL g⟩
        | false =>
          cases c with
          | nil => exact ⟨_, .done hR hL⟩
          | cons f c => obtain ⟨n, k⟩ := K u rfl; exact ⟨_, .up hR hL k⟩
end Mine

namespace Mine
theorem plug_len : ∀ {c : Ctx} {u : T}, c.length + u.ino.length ≤ (plug c u).ino.length
  | [], u => by simp [plug]
  | f :: c, u => by
    have := plug_len (c := c) (u := f.fill u)
    have : (f.fill u).ino.length = u.ino.length + 1 + f.sib.ino.length := by
      rw [fill_ino]; cases f.lft <;> simp <;> omega
    simp only [plug, List.length_cons]; omega
theorem len_ads {t : T} : t.ads.length = t.ino.length := by simp [T.ads]
theorem Pos.plug {c : Ctx} {u : T} (P : Pos (plug c u)) : Pos u := fun x m => P x (by rw [ino_plug]; simp [m])
theorem Pos.same {t u : T} (P : Pos t) (e : u.ino = t.ino) : Pos u := fun x m => P x (e ▸ m)
/-- the top pointer of a context is a node of it -/
theorem top_inst {h : Hp} {pt : V} : ∀ {c : Ctx} {v : V} {n : Int}, IsK h pt c v n → c ≠ [] → ∃ d t p l r q, topP c v = .ref d ∧ d ∈ adsC c ∧ h d = some (nd t p l r q)
  | [], _, _, _, e => absurd rfl e
  | [f], v, n, ⟨e, _, _⟩, _ => ⟨f.a, _, _, _, _, _, rfl, by simp [adsC], e⟩
  | f :: g :: c, v, n, ⟨e, _, k⟩, _ => by
    obtain ⟨d, t, p, l, r, q, h1, h2, h3⟩ := top_inst k (by simp)
    exact ⟨d, t, p, l, r, q, h1, by rw [adsC]; simp [h2], h3⟩
noncomputable def addrsUp (c : Ctx) : List V := c.reverse.map fun f => V.ref f.a
theorem addrsUp_cons {f : Frm} {c : Ctx} : addrsUp (f :: c) = addrsUp c ++ [V.ref f.a] := by simp [addrsUp]
theorem addrsUp_len {c : Ctx} : (addrsUp c).length = c.length := by simp [addrsUp]
theorem par_append {c d : Ctx} {pt : V} : par (c ++ d) pt = par c (par d pt) := by cases c <;> rfl
theorem isK_append {h : Hp} {pt : V} : ∀ {c d : Ctx} {v : V} {n : Int}, IsK h pt (c ++ d) v n → IsK h (par d pt) c v n
  | [], _, _, _, _ => trivial
  | f :: c, d, v, n, ⟨e, s, k⟩ => ⟨by rw [← par_append]; exact e, s, isK_append k⟩
theorem adsC_append : ∀ {c d : Ctx}, adsC (c ++ d) = adsC c ++ adsC d
  | [], _ => rfl
  | f :: c, d => by rw [List.cons_append, adsC, adsC, adsC_append]; simp
/-- the state of settle's loop -/
noncomputable def SInv (h : Hp) (rt w : Nat) (c : Ctx) (t : T) (k : Nat) (m : Loc) (h' : Hp) : Prop :=
  m .tree = some (.ref rt) ∧ m .waiting = some (.ref w) ∧ ∃ t', m .top = some t'.ptr ∧ Holds h' rt (plug c t') ∧ t'.ino = t.ino ∧ (∀ x, x ≠ rt → x ≠ w → x ∉ (plug c t).ads → h' x = h x) ∧
      ((∃ c' a o p l r, t' = plug c' (.node a o p l r) ∧ Go c' (.node a o p l r) k ∧ h' w = some (.lst (addrsUp c' ++ [.ref a]))) ∨ (k = 0 ∧ h' w = some (.lst [])))
theorem SInv.out {h : Hp} {t : T} {q : V} {w : Nat} (hw : h w = none) : IsT h t q → w ∉ t.ads := by
  induction t generalizing q with
  | nil => intro _ m; cases m
  | node a o p l r ihl ihr =>
    rintro ⟨e, i1, i2⟩ m
    rw [ads_node, List.mem_append, List.mem_cons] at m
    rcases m with m | rfl | m
    · exact ihl i1 m
    · rw [e] at hw; cases hw
    · exact ihr i2 m
section
variable {Γ : Ctr} (U : Base Γ)
include U
theorem c_settle {h : Hp} {rt a : Nat} {o : Int} {p : V} {l r : T} {c : Ctx} {Q : V → Hp → Prop} (H : Holds h rt (plug c (.node a o p l r))) (P : Pos (.node a o p l r)) (sz : (T.node a o p l r).ino.length ≤ 1000)
    (k : ∀ h' t', Mv h rt (plug c (.node a o p l r)) h' (plug c t') → t'.ino = (T.node a o p l r).ino → Q t'.ptr h') : Γ .settle [.ref rt, .ref a] Q h := by
  refine U .settle rfl _ _ _ (wpB_i (ps := p_settle) (b := b_settle) rfl ?_)
  generalize ht : T.node a o p l r = t at *
  have hpt : t.ptr = .ref a := by subst ht; rfl
  repeat (first | refine XJ ?_ | simp only [b_settle, p_settle, ↓Yb, ↓XQ, ↓YH, ↓Yd, ↓Ye, ↓Yg, ↓Yh, ↓Yi, ↓YI, ↓YJ, ↓Yj, ↓Yk, ↓XR, ↓XS, ↓YK, ↓Ym, ↓YL, ↓YM, ↓Yn, ↓YN, ↓YO, ↓XU, ↓YQ, ↓Yo, ↓YR, ↓Zk, ↓XV, ↓YS, ↓YT, ↓Zl, ↓YU, ↓Yp, ↓XW, ↓YV, ↓YW, ↓YX, ↓Yq, ↓YY, ↓YZ, ↓Y0, ↓Y1, ↓XX, ↓Xn, ↓Xo, ↓Y2, ↓Xp, ↓Xq, ↓Y3, ↓Yr, ↓Xr, ↓XY, ↓Ys, ↓Xd, ↓Xe, ↓Xf, ↓Y4, ↓Y5, ↓Y7, ↓Y8, ↓Y9, ↓Za, ↓Zb, ↓Zc, ↓Yu, ↓Yz, ↓YA, ↓YF, ↓Xi, ↓XM, ↓Xl, ↓Xb, ↓Xc, ↓Xm, ↓Xj, ↓XN, ↓Xk, ↓XO, Zd, Ze, Zf, Zg, Zh, Zi, Yv, Yw, Yx, Yy, Zj, X0, X1, Xg, Xu, X2, X3, YC, YD, XZ, Xs, Xv, Xw, X4, X5, X6, X7, X8, Xh, XA, XB, XC, XD, XE, XF, YE, X9, XH, setAll, Yl, reduceCtorEq, ne_eq, not_false_eq_true, if_true, if_false, Bool.false_eq_true, Option.map_some, decide_eq_true_eq, Bool.not_true, Bool.not_false])
  intro w hw
  have wrt : w ≠ rt := fun z => by rw [z, H.root] at hw; cases hw
  have wads : w ∉ (plug c t).ads := SInv.out hw H.tree
  obtain ⟨n, g⟩ := go_ex _ _ t [] (Nat.le_refl _) rfl P fun D _ => ⟨0, trivial⟩
  repeat (first | refine XJ ?_ | simp only [↓Yb, ↓XQ, ↓YH, ↓Yd, ↓Ye, ↓Yg, ↓Yh, ↓Yi, ↓YI, ↓YJ, ↓Yj, ↓Yk, ↓XR, ↓XS, ↓YK, ↓Ym, ↓YL, ↓YM, ↓Yn, ↓YN, ↓YO, ↓XU, ↓YQ, ↓Yo, ↓YR, ↓Zk, ↓XV, ↓YS, ↓YT, ↓Zl, ↓YU, ↓Yp, ↓XW, ↓YV, ↓YW, ↓YX, ↓Yq, ↓YY, ↓YZ, ↓Y0, ↓Y1, ↓XX, ↓Xn, ↓Xo, ↓Y2, ↓Xp, ↓Xq, ↓Y3, ↓Yr, ↓Xr, ↓XY, ↓Ys, ↓Xd, ↓Xe, ↓Xf, ↓Y4, ↓Y5, ↓Y7, ↓Y8, ↓Y9, ↓Za, ↓Zb, ↓Zc, ↓Yu, ↓Yz, ↓YA, ↓YF, ↓Xi, ↓XM, ↓Xl, ↓Xb, ↓Xc, ↓Xm, ↓Xj, ↓XN, ↓Xk, ↓XO, Zd, Ze, Zf, Zg, Zh, Zi, Yv, Yw, Yx, Yy, Zj, X0, X1, Xg, Xu, X2, X3, YC, YD, XZ, Xs, Xv, Xw, X4, X5, X6, X7, X8, Xh, XA, XB, XC, XD, XE, XF, YE, X9, XH, setAll, Yl, reduceCtorEq, ne_eq, not_false_eq_true, if_true, if_false, Bool.false_eq_true, Option.map_some, decide_eq_true_eq, Bool.not_true, Bool.not_false])
  refine ⟨SInv h rt w c t, ⟨n, rfl, rfl, t, ?_⟩, ?_⟩
  · rw [hpt]
    refine ⟨rfl, H.frame fun x m => Xa fun z => ?_, rfl, fun x n1 n2 _ => Xa n2, .inl ⟨[], a, o, p, l, r, by rw [plug, ht], by rw [ht]; exact g, Xg⟩⟩
    subst z
    rcases m with m | m
    · exact wrt m
    · exact wads m
  · rintro k m h' ⟨m1, m2, t', m3, H', ei, fr, st⟩
    have adsE : (plug c t').ads = (plug c t).ads := by unfold T.ads; rw [ino_plug, ino_plug, ei]
    have P' : Pos t' := P.same ei
    rcases st with ⟨c', a, o, p, l, r, et, g, hl⟩ | ⟨rfl, hl⟩
    · have sz' : c'.length + 1 ≤ 1000 := by
        have := plug_len (c := c') (u := .node a o p l r)
        rw [← et, ei] at this
        simp only [T.ino, List.length_append, List.length_cons] at this
        omega
      have ll : (addrsUp c' ++ [V.ref a]).length = c'.length + 1 := by simp [addrsUp_len]
      have l0 : ((0 : Int) < ((addrsUp c' ++ [V.ref a]).length : Nat)) := by rw [ll]; omega
      repeat (first | refine XJ ?_ | simp only [↓Yt m1, m1, ↓Yt m2, m2, ↓Yt m3, m3, hl, XI hl, l0, ↓Yb, ↓XQ, ↓YH, ↓Yd, ↓Ye, ↓Yg, ↓Yh, ↓Yi, ↓YI, ↓YJ, ↓Yj, ↓Yk, ↓XR, ↓XS, ↓YK, ↓Ym, ↓YL, ↓YM, ↓Yn, ↓YN, ↓YO, ↓XU, ↓YQ, ↓Yo, ↓YR, ↓Zk, ↓XV, ↓YS, ↓YT, ↓Zl, ↓YU, ↓Yp, ↓XW, ↓YV, ↓YW, ↓YX, ↓Yq, ↓YY, ↓YZ, ↓Y0, ↓Y1, ↓XX, ↓Xn, ↓Xo, ↓Y2, ↓Xp, ↓Xq, ↓Y3, ↓Yr, ↓Xr, ↓XY, ↓Ys, ↓Xd, ↓Xe, ↓Xf, ↓Y4, ↓Y5, ↓Y7, ↓Y8, ↓Y9, ↓Za, ↓Zb, ↓Zc, ↓Yu, ↓Yz, ↓YA, ↓YF, ↓Xi, ↓XM, ↓Xl, ↓Xb, ↓Xc, ↓Xm, ↓Xj, ↓XN, ↓Xk, ↓XO, Zd, Ze, Zf, Zg, Zh, Zi, Yv, Yw, Yx, Yy, Zj, X0, X1, Xg, Xu, X2, X3, YC, YD, XZ, Xs, Xv, Xw, X4, X5, X6, X7, X8, Xh, XA, XB, XC, XD, XE, XF, YE, X9, XH, setAll, Yl, reduceCtorEq, ne_eq, not_false_eq_true, if_true, if_false, Bool.false_eq_true, Option.map_some, decide_eq_true_eq, Bool.not_true, Bool.not_false, decide_true])
      refine ⟨by rw [ll]; unfold line; omega, ?_⟩
      repeat (first | refine XJ ?_ | simp only [↓Yt m1, m1, ↓Yt m2, m2, ↓Yt m3, m3, hl, ↓Yb, ↓XQ, ↓YH, ↓Yd, ↓Ye, ↓Yg, ↓Yh, ↓Yi, ↓YI, ↓YJ, ↓Yj, ↓Yk, ↓XR, ↓XS, ↓YK, ↓Ym, ↓YL, ↓YM, ↓Yn, ↓YN, ↓YO, ↓XU, ↓YQ, ↓Yo, ↓YR, ↓Zk, ↓XV, ↓YS, ↓YT, ↓Zl, ↓YU, ↓Yp, ↓XW, ↓YV, ↓YW, ↓YX, ↓Yq, ↓YY, ↓YZ, ↓Y0, ↓Y1, ↓XX, ↓Xn, ↓Xo, ↓Y2, ↓Xp, ↓Xq, ↓Y3, ↓Yr, ↓Xr, ↓XY, ↓Ys, ↓Xd, ↓Xe, ↓Xf, ↓Y4, ↓Y5, ↓Y7, ↓Y8, ↓Y9, ↓Za, ↓Zb, ↓Zc, ↓Yu, ↓Yz, ↓YA, ↓YF, ↓Xi, ↓XM, ↓Xl, ↓Xb, ↓Xc, ↓Xm, ↓Xj, ↓XN, ↓Xk, ↓XO, Zd, Ze, Zf, Zg, Zh, Zi, Yv, Yw, Yx, Yy, Zj, X0, X1, Xg, Xu, X2, X3, YC, YD, XZ, Xs, Xv, Xw, X4, X5, X6, X7, X8, Xh, XA, XB, XC, XD, XE, XF, YE, X9, XH, setAll, Yl, reduceCtorEq, ne_eq, not_false_eq_true, if_true, if_false, Bool.false_eq_true, Option.map_some, decide_eq_true_eq, Bool.not_true, Bool.not_false, List.getLast?_append, List.getLast?_singleton, Option.some_or, List.dropLast_concat])
      refine ⟨by rw [ll]; unfold line; omega, ?_⟩
      have wt : w ∉ (plug c t').ads := adsE ▸ wads
      have H2 : Holds (upd h' w (.lst (addrsUp c'))) rt (plug (c' ++ c) (.node a o p l r)) := by
        rw [plug_append, ← et]
        refine H'.frame fun x m => Xa fun z => ?_
        subst z
        rcases m with m | m
        · exact wrt m
        · exact wt m
      have Pu : Pos (.node a o p l r) := (et ▸ P').plug
      have iu := H2.split.2.1
      have nu := H2.split.2.2
      have fr2 : ∀ x, x ≠ rt → x ≠ w → x ∉ (plug c t).ads → upd h' w (.lst (addrsUp c')) x = h x := fun x n1 n2 m => (Xa n2).trans (fr x n1 n2 m)
      have adsU : (plug (c' ++ c) (.node a o p l r)).ads = (plug c t').ads := by rw [plug_append, ← et]
      have turn : ∀ (b : Nat) (h3 : Hp) (f : Frm) (o1 : Int) (p1 : V) (l1 r1 : T) (j : Nat), f.a = b → Mv (upd h' w (.lst (addrsUp c'))) rt (plug (c' ++ c) (.node a o p l r)) h3 (plug ((f :: c') ++ c) (.node a o1 p1 l1 r1)) → Go (f :: c') (.node a o1 p1 l1 r1) j →
          sameV h3 (.ref a) t'.ptr = some (decide (c' = [])) ∧ h3 w = some (.lst (addrsUp c')) ∧
          ∀ m' : Loc, m' .tree = some (.ref rt) → m' .waiting = some (.ref w) → m' .top = some (if c' = [] then .ref b else t'.ptr) → SInv h rt w c t j m' (upd h3 w (.lst (addrsUp c' ++ [.ref b, .ref a]))) := by
        intro b h3 f o1 p1 l1 r1 j fb M3 g3
        have hw3 : h3 w = some (.lst (addrsUp c')) := (M3.fr w wrt (adsU ▸ wt)).trans Xg
        have M3i := M3.ino
        rw [plug_append, plug_append, ← et, ino_plug, ino_plug (t := t')] at M3i
        simp only [List.append_assoc, List.append_cancel_left_eq, List.append_cancel_right_eq] at M3i
        have S3 := M3.holds.split
        refine ⟨?_, hw3, fun m' e1 e2 e3 => ⟨e1, e2, plug (f :: c') (.node a o1 p1 l1 r1), ?_, ?_, M3i.trans ei, ?_, .inl ⟨f :: c', a, o1, p1, l1, r1, rfl, g3, ?_⟩⟩⟩
        · cases c' with
          | nil =>
            rw [et, plug]
            exact XF
          | cons gf c' =>
            have ck : IsK h3 .none ((gf :: c') ++ c) (.ref f.a) ((T.node a o1 p1 l1 r1).tot + f.o + f.sib.tot) := S3.1.ctx.2.2
            obtain ⟨d, t1, p1, l2, r2, q2, d1, d2, d3⟩ := top_inst (isK_append ck) (by simp)
            have da : a ≠ d := by
              have nn := S3.2.2
              simp only [List.cons_append, adsC, adsC_append, ads_node, List.nodup_cons, List.nodup_append, List.mem_append, List.mem_cons, not_or] at nn d2
              intro z
              subst z
              grind
            have pe : t'.ptr = .ref d := by rw [et, ptr_plug, ← d1]; rfl
            rw [pe, XG da S3.2.1.1 d3]
            simp
        · rw [e3, ptr_plug, et, ptr_plug]
          cases c' with
          | nil => simp [topP, fb]
          | cons gf c' => simp [topP]
        · rw [← plug_append]
          refine M3.holds.frame fun x m => Xa fun z => ?_
          subst z
          rcases m with m | m
          · exact wrt m
          · exact wt (adsU ▸ M3.ads ▸ m)
        · intro x n1 n2 n3
          exact (Xa n2).trans ((M3.fr x n1 (by rw [adsU, adsE]; exact n3)).trans (fr2 x n1 n2 n3))
        · rw [Xg, addrsUp_cons, fb]; simp
      repeat (first | refine XJ ?_ | simp only [↓Yb, ↓XQ, ↓YH, ↓Yd, ↓Ye, ↓Yg, ↓Yh, ↓Yi, ↓YI, ↓YJ, ↓Yj, ↓Yk, ↓XR, ↓XS, ↓YK, ↓Ym, ↓YL, ↓YM, ↓Yn, ↓YN, ↓YO, ↓XU, ↓YQ, ↓Yo, ↓YR, ↓Zk, ↓XV, ↓YS, ↓YT, ↓Zl, ↓YU, ↓Yp, ↓XW, ↓YV, ↓YW, ↓YX, ↓Yq, ↓YY, ↓YZ, ↓Y0, ↓Y1, ↓XX, ↓Xn, ↓Xo, ↓Y2, ↓Xp, ↓Xq, ↓Y3, ↓Yr, ↓Xr, ↓XY, ↓Ys, ↓Xd, ↓Xe, ↓Xf, ↓Y4, ↓Y5, ↓Y7, ↓Y8, ↓Y9, ↓Za, ↓Zb, ↓Zc, ↓Yu, ↓Yz, ↓YA, ↓YF, ↓Xi, ↓XM, ↓Xl, ↓Xb, ↓Xc, ↓Xm, ↓Xj, ↓XN, ↓Xk, ↓XO, Zd, Ze, Zf, Zg, Zh, Zi, Yv, Yw, Yx, Yy, Zj, X0, X1, Xg, Xu, X2, X3, YC, YD, XZ, Xs, Xv, Xw, X4, X5, X6, X7, X8, Xh, XA, XB, XC, XD, XE, XF, YE, X9, XH, setAll, Yl, reduceCtorEq, ne_eq, not_false_eq_true, if_true, if_false, Bool.false_eq_true, Option.map_some, decide_eq_true_eq, Bool.not_true, Bool.not_false])
      refine c_right_helps U iu Pu ?_
      cases hR : helpR (.node a o p l r) with
      | true =>
        repeat (first | refine XJ ?_ | simp only [↓Yt m1, m1, ↓Yt m2, m2, ↓Yb, ↓XQ, ↓YH, ↓Yd, ↓Ye, ↓Yg, ↓Yh, ↓Yi, ↓YI, ↓YJ, ↓Yj, ↓Yk, ↓XR, ↓XS, ↓YK, ↓Ym, ↓YL, ↓YM, ↓Yn, ↓YN, ↓YO, ↓XU, ↓YQ, ↓Yo, ↓YR, ↓Zk, ↓XV, ↓YS, ↓YT, ↓Zl, ↓YU, ↓Yp, ↓XW, ↓YV, ↓YW, ↓YX, ↓Yq, ↓YY, ↓YZ, ↓Y0, ↓Y1, ↓XX, ↓Xn, ↓Xo, ↓Y2, ↓Xp, ↓Xq, ↓Y3, ↓Yr, ↓Xr, ↓XY, ↓Ys, ↓Xd, ↓Xe, ↓Xf, ↓Y4, ↓Y5, ↓Y7, ↓Y8, ↓Y9, ↓Za, ↓Zb, ↓Zc, ↓Yu, ↓Yz, ↓YA, ↓YF, ↓Xi, ↓XM, ↓Xl, ↓Xb, ↓Xc, ↓Xm, ↓Xj, ↓XN, ↓Xk, ↓XO, Zd, Ze, Zf, Zg, Zh, Zi, Yv, Yw, Yx, Yy, Zj, X0, X1, Xg, Xu, X2, X3, YC, YD, XZ, Xs, Xv, Xw, X4, X5, X6, X7, X8, Xh, XA, XB, XC, XD, XE, XF, YE, X9, XH, setAll, Yl, reduceCtorEq, ne_eq, not_false_eq_true, if_true, if_false, Bool.false_eq_true, Option.map_some, decide_eq_true_eq, Bool.not_true, Bool.not_false])
        obtain ⟨b, o', p', A, B, j, rfl, rfl, g3⟩ := g.inv.1 hR
        · repeat (first | refine XJ ?_ | simp only [↓Yb, ↓XQ, ↓YH, ↓Yd, ↓Ye, ↓Yg, ↓Yh, ↓Yi, ↓YI, ↓YJ, ↓Yj, ↓Yk, ↓XR, ↓XS, ↓YK, ↓Ym, ↓YL, ↓YM, ↓Yn, ↓YN, ↓YO, ↓XU, ↓YQ, ↓Yo, ↓YR, ↓Zk, ↓XV, ↓YS, ↓YT, ↓Zl, ↓YU, ↓Yp, ↓XW, ↓YV, ↓YW, ↓YX, ↓Yq, ↓YY, ↓YZ, ↓Y0, ↓Y1, ↓XX, ↓Xn, ↓Xo, ↓Y2, ↓Xp, ↓Xq, ↓Y3, ↓Yr, ↓Xr, ↓XY, ↓Ys, ↓Xd, ↓Xe, ↓Xf, ↓Y4, ↓Y5, ↓Y7, ↓Y8, ↓Y9, ↓Za, ↓Zb, ↓Zc, ↓Yu, ↓Yz, ↓YA, ↓YF, ↓Xi, ↓XM, ↓Xl, ↓Xb, ↓Xc, ↓Xm, ↓Xj, ↓XN, ↓Xk, ↓XO, Zd, Ze, Zf, Zg, Zh, Zi, Yv, Yw, Yx, Yy, Zj, X0, X1, Xg, Xu, X2, X3, YC, YD, XZ, Xs, Xv, Xw, X4, X5, X6, X7, X8, Xh, XA, XB, XC, XD, XE, XF, YE, X9, XH, setAll, Yl, reduceCtorEq, ne_eq, not_false_eq_true, if_true, if_false, Bool.false_eq_true, Option.map_some, decide_eq_true_eq, Bool.not_true, Bool.not_false])
          refine c_rotate_right U H2 fun h3 M3 => ?_
          obtain ⟨s1, s2, s3⟩ := turn b h3 ⟨false, b, o', p', A⟩ o p B r j rfl M3 g3
          by_cases z : c' = []
          · rw [decide_eq_true z] at s1
            repeat (first | refine XJ ?_ | simp only [s1, s2, ↓Yt m2, m2, ↓Yt m3, m3, ↓Yb, ↓XQ, ↓YH, ↓Yd, ↓Ye, ↓Yg, ↓Yh, ↓Yi, ↓YI, ↓YJ, ↓Yj, ↓Yk, ↓XR, ↓XS, ↓YK, ↓Ym, ↓YL, ↓YM, ↓Yn, ↓YN, ↓YO, ↓XU, ↓YQ, ↓Yo, ↓YR, ↓Zk, ↓XV, ↓YS, ↓YT, ↓Zl, ↓YU, ↓Yp, ↓XW, ↓YV, ↓YW, ↓YX, ↓Yq, ↓YY, ↓YZ, ↓Y0, ↓Y1, ↓XX, ↓Xn, ↓Xo, ↓Y2, ↓Xp, ↓Xq, ↓Y3, ↓Yr, ↓Xr, ↓XY, ↓Ys, ↓Xd, ↓Xe, ↓Xf, ↓Y4, ↓Y5, ↓Y7, ↓Y8, ↓Y9, ↓Za, ↓Zb, ↓Zc, ↓Yu, ↓Yz, ↓YA, ↓YF, ↓Xi, ↓XM, ↓Xl, ↓Xb, ↓Xc, ↓Xm, ↓Xj, ↓XN, ↓Xk, ↓XO, Zd, Ze, Zf, Zg, Zh, Zi, Yv, Yw, Yx, Yy, Zj, X0, X1, Xg, Xu, X2, X3, YC, YD, XZ, Xs, Xv, Xw, X4, X5, X6, X7, X8, Xh, XA, XB, XC, XD, XE, XF, YE, X9, XH, setAll, Yl, reduceCtorEq, ne_eq, not_false_eq_true, if_true, if_false, Bool.false_eq_true, Option.map_some, decide_eq_true_eq, Bool.not_true, Bool.not_false])
            refine ⟨?_, j, by omega, s3 _ (by simp [setL, m1]) (by simp [setL, m2]) (by simp [setL, z])⟩
            rw [addrsUp_len]; simp only [List.length_cons, List.length_nil]; unfold line; omega
          · rw [decide_eq_false z] at s1
            repeat (first | refine XJ ?_ | simp only [s1, s2, ↓Yt m2, m2, ↓Yt m3, m3, ↓Yb, ↓XQ, ↓YH, ↓Yd, ↓Ye, ↓Yg, ↓Yh, ↓Yi, ↓YI, ↓YJ, ↓Yj, ↓Yk, ↓XR, ↓XS, ↓YK, ↓Ym, ↓YL, ↓YM, ↓Yn, ↓YN, ↓YO, ↓XU, ↓YQ, ↓Yo, ↓YR, ↓Zk, ↓XV, ↓YS, ↓YT, ↓Zl, ↓YU, ↓Yp, ↓XW, ↓YV, ↓YW, ↓YX, ↓Yq, ↓YY, ↓YZ, ↓Y0, ↓Y1, ↓XX, ↓Xn, ↓Xo, ↓Y2, ↓Xp, ↓Xq, ↓Y3, ↓Yr, ↓Xr, ↓XY, ↓Ys, ↓Xd, ↓Xe, ↓Xf, ↓Y4, ↓Y5, ↓Y7, ↓Y8, ↓Y9, ↓Za, ↓Zb, ↓Zc, ↓Yu, ↓Yz, ↓YA, ↓YF, ↓Xi, ↓XM, ↓Xl, ↓Xb, ↓Xc, ↓Xm, ↓Xj, ↓XN, ↓Xk, ↓XO, Zd, Ze, Zf, Zg, Zh, Zi, Yv, Yw, Yx, Yy, Zj, X0, X1, Xg, Xu, X2, X3, YC, YD, XZ, Xs, Xv, Xw, X4, X5, X6, X7, X8, Xh, XA, XB, XC, XD, XE, XF, YE, X9, XH, setAll, Yl, reduceCtorEq, ne_eq, not_false_eq_true, if_true, if_false, Bool.false_eq_true, Option.map_some, decide_eq_true_eq, Bool.not_true, Bool.not_false])
            refine ⟨?_, j, by omega, s3 _ (by simp [setL, m1]) (by simp [setL, m2]) (by simp [setL, z])⟩
            rw [addrsUp_len]; simp only [List.length_cons, List.length_nil]; unfold line; omega
      | false =>
        repeat (first | refine XJ ?_ | simp only [↓Yb, ↓XQ, ↓YH, ↓Yd, ↓Ye, ↓Yg, ↓Yh, ↓Yi, ↓YI, ↓YJ, ↓Yj, ↓Yk, ↓XR, ↓XS, ↓YK, ↓Ym, ↓YL, ↓YM, ↓Yn, ↓YN, ↓YO, ↓XU, ↓YQ, ↓Yo, ↓YR, ↓Zk, ↓XV, ↓YS, ↓YT, ↓Zl, ↓YU, ↓Yp, ↓XW, ↓YV, ↓YW, ↓YX, ↓Yq, ↓YY, ↓YZ, ↓Y0, ↓Y1, ↓XX, ↓Xn, ↓Xo, ↓Y2, ↓Xp, ↓Xq, ↓Y3, ↓Yr, ↓Xr, ↓XY, ↓Ys, ↓Xd, ↓Xe, ↓Xf, ↓Y4, ↓Y5, ↓Y7, ↓Y8, ↓Y9, ↓Za, ↓Zb, ↓Zc, ↓Yu, ↓Yz, ↓YA, ↓YF, ↓Xi, ↓XM, ↓Xl, ↓Xb, ↓Xc, ↓Xm, ↓Xj, ↓XN, ↓Xk, ↓XO, Zd, Ze, Zf, Zg, Zh, Zi, Yv, Yw, Yx, Yy, Zj, X0, X1, Xg, Xu, X2, X3, YC, YD, XZ, Xs, Xv, Xw, X4, X5, X6, X7, X8, Xh, XA, XB, XC, XD, XE, XF, YE, X9, XH, setAll, Yl, reduceCtorEq, ne_eq, not_false_eq_true, if_true, if_false, Bool.false_eq_true, Option.map_some, decide_eq_true_eq, Bool.not_true, Bool.not_false])
        refine c_left_helps U iu Pu ?_
        cases hL : helpL (.node a o p l r) with
        | true =>
          repeat (first | refine XJ ?_ | simp only [↓Yt m1, m1, ↓Yt m2, m2, ↓Yb, ↓XQ, ↓YH, ↓Yd, ↓Ye, ↓Yg, ↓Yh, ↓Yi, ↓YI, ↓YJ, ↓Yj, ↓Yk, ↓XR, ↓XS, ↓YK, ↓Ym, ↓YL, ↓YM, ↓Yn, ↓YN, ↓YO, ↓XU, ↓YQ, ↓Yo, ↓YR, ↓Zk, ↓XV, ↓YS, ↓YT, ↓Zl, ↓YU, ↓Yp, ↓XW, ↓YV, ↓YW, ↓YX, ↓Yq, ↓YY, ↓YZ, ↓Y0, ↓Y1, ↓XX, ↓Xn, ↓Xo, ↓Y2, ↓Xp, ↓Xq, ↓Y3, ↓Yr, ↓Xr, ↓XY, ↓Ys, ↓Xd, ↓Xe, ↓Xf, ↓Y4, ↓Y5, ↓Y7, ↓Y8, ↓Y9, ↓Za, ↓Zb, ↓Zc, ↓Yu, ↓Yz, ↓YA, ↓YF, ↓Xi, ↓XM, ↓Xl, ↓Xb, ↓Xc, ↓Xm, ↓Xj, ↓XN, ↓Xk, ↓XO, Zd, Ze, Zf, Zg, Zh, Zi, Yv, Yw, Yx, Yy, Zj, X0, X1, Xg, Xu, X2, X3, YC, YD, XZ, Xs, Xv, Xw, X4, X5, X6, X7, X8, Xh, XA, XB, XC, XD, XE, XF, YE, X9, XH, setAll, Yl, reduceCtorEq, ne_eq, not_false_eq_true, if_true, if_false, Bool.false_eq_true, Option.map_some, decide_eq_true_eq, Bool.not_true, Bool.not_false])
          obtain ⟨b, o', p', A, B, j, rfl, rfl, g3⟩ := g.inv.2.1 hR hL
          · repeat (first | refine XJ ?_ | simp only [↓Yb, ↓XQ, ↓YH, ↓Yd, ↓Ye, ↓Yg, ↓Yh, ↓Yi, ↓YI, ↓YJ, ↓Yj, ↓Yk, ↓XR, ↓XS, ↓YK, ↓Ym, ↓YL, ↓YM, ↓Yn, ↓YN, ↓YO, ↓XU, ↓YQ, ↓Yo, ↓YR, ↓Zk, ↓XV, ↓YS, ↓YT, ↓Zl, ↓YU, ↓Yp, ↓XW, ↓YV, ↓YW, ↓YX, ↓Yq, ↓YY, ↓YZ, ↓Y0, ↓Y1, ↓XX, ↓Xn, ↓Xo, ↓Y2, ↓Xp, ↓Xq, ↓Y3, ↓Yr, ↓Xr, ↓XY, ↓Ys, ↓Xd, ↓Xe, ↓Xf, ↓Y4, ↓Y5, ↓Y7, ↓Y8, ↓Y9, ↓Za, ↓Zb, ↓Zc, ↓Yu, ↓Yz, ↓YA, ↓YF, ↓Xi, ↓XM, ↓Xl, ↓Xb, ↓Xc, ↓Xm, ↓Xj, ↓XN, ↓Xk, ↓XO, Zd, Ze, Zf, Zg, Zh, Zi, Yv, Yw, Yx, Yy, Zj, X0, X1, Xg, Xu, X2, X3, YC, YD, XZ, Xs, Xv, Xw, X4, X5, X6, X7, X8, Xh, XA, XB, XC, XD, XE, XF, YE, X9, XH, setAll, Yl, reduceCtorEq, ne_eq, not_false_eq_true, if_true, if_false, Bool.false_eq_true, Option.map_some, decide_eq_true_eq, Bool.not_true, Bool.not_false])
            refine c_rotate_left U H2 fun h3 M3 => ?_
            obtain ⟨s1, s2, s3⟩ := turn b h3 ⟨true, b, o', p', A⟩ o p l B j rfl M3 g3
            by_cases z : c' = []
            · rw [decide_eq_true z] at s1
              repeat (first | refine XJ ?_ | simp only [s1, s2, ↓Yt m2, m2, ↓Yt m3, m3, ↓Yb, ↓XQ, ↓YH, ↓Yd, ↓Ye, ↓Yg, ↓Yh, ↓Yi, ↓YI, ↓YJ, ↓Yj, ↓Yk, ↓XR, ↓XS, ↓YK, ↓Ym, ↓YL, ↓YM, ↓Yn, ↓YN, ↓YO, ↓XU, ↓YQ, ↓Yo, ↓YR, ↓Zk, ↓XV, ↓YS, ↓YT, ↓Zl, ↓YU, ↓Yp, ↓XW, ↓YV, ↓YW, ↓YX, ↓Yq, ↓YY, ↓YZ, ↓Y0, ↓Y1, ↓XX, ↓Xn, ↓Xo, ↓Y2, ↓Xp, ↓Xq, ↓Y3, ↓Yr, ↓Xr, ↓XY, ↓Ys, ↓Xd, ↓Xe, ↓Xf, ↓Y4, ↓Y5, ↓Y7, ↓Y8, ↓Y9, ↓Za, ↓Zb, ↓Zc, ↓Yu, ↓Yz, ↓YA, ↓YF, ↓Xi, ↓XM, ↓Xl, ↓Xb, ↓Xc, ↓Xm, ↓Xj, ↓XN, ↓Xk, ↓XO, Zd, Ze, Zf, Zg, Zh, Zi, Yv, Yw, Yx, Yy, Zj, X0, X1, Xg, Xu, X2, X3, YC, YD, XZ, Xs, Xv, Xw, X4, X5, X6, X7, X8, Xh, XA, XB, XC, XD, XE, XF, YE, X9, XH, setAll, Yl, reduceCtorEq, ne_eq, not_false_eq_true, if_true, if_false, Bool.false_eq_true, Option.map_some, decide_eq_true_eq, Bool.not_true, Bool.not_false])
              refine ⟨?_, j, by omega, s3 _ (by simp [setL, m1]) (by simp [setL, m2]) (by simp [setL, z])⟩
              rw [addrsUp_len]; simp only [List.length_cons, List.length_nil]; unfold line; omega
            · rw [decide_eq_false z] at s1
              repeat (first | refine XJ ?_ | simp only [s1, s2, ↓Yt m2, m2, ↓Yt m3, m3, ↓Yb, ↓XQ, ↓YH, ↓Yd, ↓Ye, ↓Yg, ↓Yh, ↓Yi, ↓YI, ↓YJ, ↓Yj, ↓Yk, ↓XR, ↓XS, ↓YK, ↓Ym, ↓YL, ↓YM, ↓Yn, ↓YN, ↓YO, ↓XU, ↓YQ, ↓Yo, ↓YR, ↓Zk, ↓XV, ↓YS, ↓YT, ↓Zl, ↓YU, ↓Yp, ↓XW, ↓YV, ↓YW, ↓YX, ↓Yq, ↓YY, ↓YZ, ↓Y0, ↓Y1, ↓XX, ↓Xn, ↓Xo, ↓Y2, ↓Xp, ↓Xq, ↓Y3, ↓Yr, ↓Xr, ↓XY, ↓Ys, ↓Xd, ↓Xe, ↓Xf, ↓Y4, ↓Y5, ↓Y7, ↓Y8, ↓Y9, ↓Za, ↓Zb, ↓Zc, ↓Yu, ↓Yz, ↓YA, ↓YF, ↓Xi, ↓XM, ↓Xl, ↓Xb, ↓Xc, ↓Xm, ↓Xj, ↓XN, ↓Xk, ↓XO, Zd, Ze, Zf, Zg, Zh, Zi, Yv, Yw, Yx, Yy, Zj, X0, X1, Xg, Xu, X2, X3, YC, YD, XZ, Xs, Xv, Xw, X4, X5, X6, X7, X8, Xh, XA, XB, XC, XD, XE, XF, YE, X9, XH, setAll, Yl, reduceCtorEq, ne_eq, not_false_eq_true, if_true, if_false, Bool.false_eq_true, Option.map_some, decide_eq_true_eq, Bool.not_true, Bool.not_false])
              refine ⟨?_, j, by omega, s3 _ (by simp [setL, m1]) (by simp [setL, m2]) (by simp [setL, z])⟩
              rw [addrsUp_len]; simp only [List.length_cons, List.length_nil]; unfold line; omega
        | false =>
          repeat (first | refine XJ ?_ | simp only [↓Yt m1, m1, ↓Yt m2, m2, ↓Yb, ↓XQ, ↓YH, ↓Yd, ↓Ye, ↓Yg, ↓Yh, ↓Yi, ↓YI, ↓YJ, ↓Yj, ↓Yk, ↓XR, ↓XS, ↓YK, ↓Ym, ↓YL, ↓YM, ↓Yn, ↓YN, ↓YO, ↓XU, ↓YQ, ↓Yo, ↓YR, ↓Zk, ↓XV, ↓YS, ↓YT, ↓Zl, ↓YU, ↓Yp, ↓XW, ↓YV, ↓YW, ↓YX, ↓Yq, ↓YY, ↓YZ, ↓Y0, ↓Y1, ↓XX, ↓Xn, ↓Xo, ↓Y2, ↓Xp, ↓Xq, ↓Y3, ↓Yr, ↓Xr, ↓XY, ↓Ys, ↓Xd, ↓Xe, ↓Xf, ↓Y4, ↓Y5, ↓Y7, ↓Y8, ↓Y9, ↓Za, ↓Zb, ↓Zc, ↓Yu, ↓Yz, ↓YA, ↓YF, ↓Xi, ↓XM, ↓Xl, ↓Xb, ↓Xc, ↓Xm, ↓Xj, ↓XN, ↓Xk, ↓XO, Zd, Ze, Zf, Zg, Zh, Zi, Yv, Yw, Yx, Yy, Zj, X0, X1, Xg, Xu, X2, X3, YC, YD, XZ, Xs, Xv, Xw, X4, X5, X6, X7, X8, Xh, XA, XB, XC, XD, XE, XF, YE, X9, XH, setAll, Yl, reduceCtorEq, ne_eq, not_false_eq_true, if_true, if_false, Bool.false_eq_true, Option.map_some, decide_eq_true_eq, Bool.not_true, Bool.not_false])
          rcases g.inv.2.2 hR hL with ⟨rfl, rfl⟩ | ⟨f, c'', j, rfl, rfl, g3⟩
          · exact ⟨0, by omega, m1, m2, _, m3, by rw [plug_append, ← et] at H2; exact H2, ei, fr2, .inr ⟨rfl, Xg⟩⟩
          · refine ⟨j, by omega, m1, m2, _, m3, by rw [plug_append, ← et] at H2; exact H2, ei, fr2, .inl ?_⟩
            cases hf : f.lft with
            | true => exact ⟨c'', f.a, f.o, f.p, .node a o p l r, f.sib, by rw [et, plug]; simp [Frm.fill, hf], by simpa [Frm.fill, hf] using g3, by rw [Xg, addrsUp_cons]⟩
            | false => exact ⟨c'', f.a, f.o, f.p, f.sib, .node a o p l r, by rw [et, plug]; simp [Frm.fill, hf], by simpa [Frm.fill, hf] using g3, by rw [Xg, addrsUp_cons]⟩
    · repeat (first | refine XJ ?_ | simp only [↓Yt m1, m1, ↓Yt m2, m2, ↓Yt m3, m3, hl, XI hl, ↓Yb, ↓XQ, ↓YH, ↓Yd, ↓Ye, ↓Yg, ↓Yh, ↓Yi, ↓YI, ↓YJ, ↓Yj, ↓Yk, ↓XR, ↓XS, ↓YK, ↓Ym, ↓YL, ↓YM, ↓Yn, ↓YN, ↓YO, ↓XU, ↓YQ, ↓Yo, ↓YR, ↓Zk, ↓XV, ↓YS, ↓YT, ↓Zl, ↓YU, ↓Yp, ↓XW, ↓YV, ↓YW, ↓YX, ↓Yq, ↓YY, ↓YZ, ↓Y0, ↓Y1, ↓XX, ↓Xn, ↓Xo, ↓Y2, ↓Xp, ↓Xq, ↓Y3, ↓Yr, ↓Xr, ↓XY, ↓Ys, ↓Xd, ↓Xe, ↓Xf, ↓Y4, ↓Y5, ↓Y7, ↓Y8, ↓Y9, ↓Za, ↓Zb, ↓Zc, ↓Yu, ↓Yz, ↓YA, ↓YF, ↓Xi, ↓XM, ↓Xl, ↓Xb, ↓Xc, ↓Xm, ↓Xj, ↓XN, ↓Xk, ↓XO, Zd, Ze, Zf, Zg, Zh, Zi, Yv, Yw, Yx, Yy, Zj, X0, X1, Xg, Xu, X2, X3, YC, YD, XZ, Xs, Xv, Xw, X4, X5, X6, X7, X8, Xh, XA, XB, XC, XD, XE, XF, YE, X9, XH, setAll, Yl, reduceCtorEq, ne_eq, not_false_eq_true, if_true, if_false, Bool.false_eq_true, Option.map_some, decide_eq_true_eq, Bool.not_true, Bool.not_false, List.length_nil])
      refine ⟨by unfold line; omega, ?_⟩
      rw [if_neg (by simp)]
      repeat (first | refine XJ ?_ | simp only [↓Yt m3, m3, ↓Yb, ↓XQ, ↓YH, ↓Yd, ↓Ye, ↓Yg, ↓Yh, ↓Yi, ↓YI, ↓YJ, ↓Yj, ↓Yk, ↓XR, ↓XS, ↓YK, ↓Ym, ↓YL, ↓YM, ↓Yn, ↓YN, ↓YO, ↓XU, ↓YQ, ↓Yo, ↓YR, ↓Zk, ↓XV, ↓YS, ↓YT, ↓Zl, ↓YU, ↓Yp, ↓XW, ↓YV, ↓YW, ↓YX, ↓Yq, ↓YY, ↓YZ, ↓Y0, ↓Y1, ↓XX, ↓Xn, ↓Xo, ↓Y2, ↓Xp, ↓Xq, ↓Y3, ↓Yr, ↓Xr, ↓XY, ↓Ys, ↓Xd, ↓Xe, ↓Xf, ↓Y4, ↓Y5, ↓Y7, ↓Y8, ↓Y9, ↓Za, ↓Zb, ↓Zc, ↓Yu, ↓Yz, ↓YA, ↓YF, ↓Xi, ↓XM, ↓Xl, ↓Xb, ↓Xc, ↓Xm, ↓Xj, ↓XN, ↓Xk, ↓XO, Zd, Ze, Zf, Zg, Zh, Zi, Yv, Yw, Yx, Yy, Zj, X0, X1, Xg, Xu, X2, X3, YC, YD, XZ, Xs, Xv, Xw, X4, X5, X6, X7, X8, Xh, XA, XB, XC, XD, XE, XF, YE, X9, XH, setAll, Yl, reduceCtorEq, ne_eq, not_false_eq_true, if_true, if_false, Bool.false_eq_true, Option.map_some, decide_eq_true_eq, Bool.not_true, Bool.not_false])
      refine ⟨era h' w, fun x o e => ?_, k _ t' ⟨H'.frame fun x m => ?_, ?_, fun x n1 n2 => ?_⟩ ei⟩
      · unfold era at e; split at e
        · cases e
        · exact e
      · refine if_neg fun z => ?_
        subst z
        rcases m with m | m
        · exact wrt m
        · exact wads (adsE ▸ m)
      · rw [ino_plug, ino_plug, ei]
      · unfold era
        split
        · rename_i z; rw [z, hw]
        · rename_i z; exact fr x n1 z n2
end
end Mine

namespace Mine
theorem fill_node (f : Frm) (t : T) : ∃ l r, f.fill t = .node f.a f.o f.p l r := by unfold Frm.fill; split <;> exact ⟨_, _, rfl⟩
section
variable {Γ : Ctr} (U : Base Γ)
include U
theorem c_settle_up {h : Hp} {rt : Nat} {t : T} {c : Ctx} {Q : V → Hp → Prop} (H : Holds h rt (plug c t)) (P : Pos (plug c t)) (sz : (plug c t).ino.length ≤ 1000)
    (k : ∀ h' W', Mv h rt (plug c t) h' W' → Q .none h') : Γ .settle_up [.ref rt, par c .none] Q h := by
  refine U .settle_up rfl _ _ _ (wpB_i (ps := p_settle_up) (b := b_settle_up) rfl ?_)
  repeat (first | refine XJ ?_ | simp only [b_settle_up, p_settle_up, ↓Yb, ↓XQ, ↓YH, ↓Yd, ↓Ye, ↓Yg, ↓Yh, ↓Yi, ↓YI, ↓YJ, ↓Yj, ↓Yk, ↓XR, ↓XS, ↓YK, ↓Ym, ↓YL, ↓YM, ↓Yn, ↓YN, ↓YO, ↓XU, ↓YQ, ↓Yo, ↓YR, ↓Zk, ↓XV, ↓YS, ↓YT, ↓Zl, ↓YU, ↓Yp, ↓XW, ↓YV, ↓YW, ↓YX, ↓Yq, ↓YY, ↓YZ, ↓Y0, ↓Y1, ↓XX, ↓Xn, ↓Xo, ↓Y2, ↓Xp, ↓Xq, ↓Y3, ↓Yr, ↓Xr, ↓XY, ↓Ys, ↓Xd, ↓Xe, ↓Xf, ↓Y4, ↓Y5, ↓Y7, ↓Y8, ↓Y9, ↓Za, ↓Zb, ↓Zc, ↓Yu, ↓Yz, ↓YA, ↓YF, ↓Xi, ↓XM, ↓Xl, ↓Xb, ↓Xc, ↓Xm, ↓Xj, ↓XN, ↓Xk, ↓XO, Zd, Ze, Zf, Zg, Zh, Zi, Yv, Yw, Yx, Yy, Zj, X0, X1, Xg, Xu, X2, X3, YC, YD, XZ, Xs, Xv, Xw, X4, X5, X6, X7, X8, Xh, XA, XB, XC, XD, XE, XF, YE, X9, XH, setAll, Yl, reduceCtorEq, ne_eq, not_false_eq_true, if_true, if_false, Bool.false_eq_true, Option.map_some, decide_eq_true_eq, Bool.not_true, Bool.not_false])
  refine ⟨fun n m h' => m .tree = some (.ref rt) ∧ ∃ c1 t1, m .node = some (par c1 .none) ∧ n = c1.length ∧ Mv h rt (plug c t) h' (plug c1 t1), ⟨c.length, rfl, c, t, rfl, rfl, .refl H⟩, ?_⟩
  rintro n m h1 ⟨m1, c1, t1, m2, rfl, M⟩
  cases c1 with
  | nil =>
    repeat (first | refine XJ ?_ | simp only [↓Yt m2, m2, ↓Yb, ↓XQ, ↓YH, ↓Yd, ↓Ye, ↓Yg, ↓Yh, ↓Yi, ↓YI, ↓YJ, ↓Yj, ↓Yk, ↓XR, ↓XS, ↓YK, ↓Ym, ↓YL, ↓YM, ↓Yn, ↓YN, ↓YO, ↓XU, ↓YQ, ↓Yo, ↓YR, ↓Zk, ↓XV, ↓YS, ↓YT, ↓Zl, ↓YU, ↓Yp, ↓XW, ↓YV, ↓YW, ↓YX, ↓Yq, ↓YY, ↓YZ, ↓Y0, ↓Y1, ↓XX, ↓Xn, ↓Xo, ↓Y2, ↓Xp, ↓Xq, ↓Y3, ↓Yr, ↓Xr, ↓XY, ↓Ys, ↓Xd, ↓Xe, ↓Xf, ↓Y4, ↓Y5, ↓Y7, ↓Y8, ↓Y9, ↓Za, ↓Zb, ↓Zc, ↓Yu, ↓Yz, ↓YA, ↓YF, ↓Xi, ↓XM, ↓Xl, ↓Xb, ↓Xc, ↓Xm, ↓Xj, ↓XN, ↓Xk, ↓XO, Zd, Ze, Zf, Zg, Zh, Zi, Yv, Yw, Yx, Yy, Zj, X0, X1, Xg, Xu, X2, X3, YC, YD, XZ, Xs, Xv, Xw, X4, X5, X6, X7, X8, Xh, XA, XB, XC, XD, XE, XF, YE, X9, XH, setAll, Yl, reduceCtorEq, ne_eq, not_false_eq_true, if_true, if_false, Bool.false_eq_true, Option.map_some, decide_eq_true_eq, Bool.not_true, Bool.not_false])
    exact ⟨_, Sub.refl, k _ _ M⟩
  | cons f c1 =>
    repeat (first | refine XJ ?_ | simp only [↓Yt m1, m1, ↓Yt m2, m2, ↓Yb, ↓XQ, ↓YH, ↓Yd, ↓Ye, ↓Yg, ↓Yh, ↓Yi, ↓YI, ↓YJ, ↓Yj, ↓Yk, ↓XR, ↓XS, ↓YK, ↓Ym, ↓YL, ↓YM, ↓Yn, ↓YN, ↓YO, ↓XU, ↓YQ, ↓Yo, ↓YR, ↓Zk, ↓XV, ↓YS, ↓YT, ↓Zl, ↓YU, ↓Yp, ↓XW, ↓YV, ↓YW, ↓YX, ↓Yq, ↓YY, ↓YZ, ↓Y0, ↓Y1, ↓XX, ↓Xn, ↓Xo, ↓Y2, ↓Xp, ↓Xq, ↓Y3, ↓Yr, ↓Xr, ↓XY, ↓Ys, ↓Xd, ↓Xe, ↓Xf, ↓Y4, ↓Y5, ↓Y7, ↓Y8, ↓Y9, ↓Za, ↓Zb, ↓Zc, ↓Yu, ↓Yz, ↓YA, ↓YF, ↓Xi, ↓XM, ↓Xl, ↓Xb, ↓Xc, ↓Xm, ↓Xj, ↓XN, ↓Xk, ↓XO, Zd, Ze, Zf, Zg, Zh, Zi, Yv, Yw, Yx, Yy, Zj, X0, X1, Xg, Xu, X2, X3, YC, YD, XZ, Xs, Xv, Xw, X4, X5, X6, X7, X8, Xh, XA, XB, XC, XD, XE, XF, YE, X9, XH, setAll, Yl, reduceCtorEq, ne_eq, not_false_eq_true, if_true, if_false, Bool.false_eq_true, Option.map_some, decide_eq_true_eq, Bool.not_true, Bool.not_false])
    obtain ⟨l, r, e⟩ := fill_node f t1
    have e2 : plug (f :: c1) t1 = plug c1 (.node f.a f.o f.p l r) := by rw [plug, e]
    rw [e2] at M
    have P1 : Pos (.node f.a f.o f.p l r) := (P.same M.ino).plug
    have sz1 : (T.node f.a f.o f.p l r).ino.length ≤ 1000 := by
      have := plug_len (c := c1) (u := .node f.a f.o f.p l r)
      rw [M.ino] at this
      omega
    repeat (first | refine XJ ?_ | simp only [↓Yb, ↓XQ, ↓YH, ↓Yd, ↓Ye, ↓Yg, ↓Yh, ↓Yi, ↓YI, ↓YJ, ↓Yj, ↓Yk, ↓XR, ↓XS, ↓YK, ↓Ym, ↓YL, ↓YM, ↓Yn, ↓YN, ↓YO, ↓XU, ↓YQ, ↓Yo, ↓YR, ↓Zk, ↓XV, ↓YS, ↓YT, ↓Zl, ↓YU, ↓Yp, ↓XW, ↓YV, ↓YW, ↓YX, ↓Yq, ↓YY, ↓YZ, ↓Y0, ↓Y1, ↓XX, ↓Xn, ↓Xo, ↓Y2, ↓Xp, ↓Xq, ↓Y3, ↓Yr, ↓Xr, ↓XY, ↓Ys, ↓Xd, ↓Xe, ↓Xf, ↓Y4, ↓Y5, ↓Y7, ↓Y8, ↓Y9, ↓Za, ↓Zb, ↓Zc, ↓Yu, ↓Yz, ↓YA, ↓YF, ↓Xi, ↓XM, ↓Xl, ↓Xb, ↓Xc, ↓Xm, ↓Xj, ↓XN, ↓Xk, ↓XO, Zd, Ze, Zf, Zg, Zh, Zi, Yv, Yw, Yx, Yy, Zj, X0, X1, Xg, Xu, X2, X3, YC, YD, XZ, Xs, Xv, Xw, X4, X5, X6, X7, X8, Xh, XA, XB, XC, XD, XE, XF, YE, X9, XH, setAll, Yl, reduceCtorEq, ne_eq, not_false_eq_true, if_true, if_false, Bool.false_eq_true, Option.map_some, decide_eq_true_eq, Bool.not_true, Bool.not_false])
    refine c_settle U M.holds P1 sz1 fun h2 t2 M2 e3 => ?_
    have i2 := M2.holds.split.2.1
    cases t2 with
    | nil => simp [T.ino] at e3
    | node a o p l' r' =>
      repeat (first | refine XJ ?_ | simp only [T.ptr, ↓Y6 i2.1, YB i2.1, ↓Yt m1, m1, ↓Yb, ↓XQ, ↓YH, ↓Yd, ↓Ye, ↓Yg, ↓Yh, ↓Yi, ↓YI, ↓YJ, ↓Yj, ↓Yk, ↓XR, ↓XS, ↓YK, ↓Ym, ↓YL, ↓YM, ↓Yn, ↓YN, ↓YO, ↓XU, ↓YQ, ↓Yo, ↓YR, ↓Zk, ↓XV, ↓YS, ↓YT, ↓Zl, ↓YU, ↓Yp, ↓XW, ↓YV, ↓YW, ↓YX, ↓Yq, ↓YY, ↓YZ, ↓Y0, ↓Y1, ↓XX, ↓Xn, ↓Xo, ↓Y2, ↓Xp, ↓Xq, ↓Y3, ↓Yr, ↓Xr, ↓XY, ↓Ys, ↓Xd, ↓Xe, ↓Xf, ↓Y4, ↓Y5, ↓Y7, ↓Y8, ↓Y9, ↓Za, ↓Zb, ↓Zc, ↓Yu, ↓Yz, ↓YA, ↓YF, ↓Xi, ↓XM, ↓Xl, ↓Xb, ↓Xc, ↓Xm, ↓Xj, ↓XN, ↓Xk, ↓XO, Zd, Ze, Zf, Zg, Zh, Zi, Yv, Yw, Yx, Yy, Zj, X0, X1, Xg, Xu, X2, X3, YC, YD, XZ, Xs, Xv, Xw, X4, X5, X6, X7, X8, Xh, XA, XB, XC, XD, XE, XF, YE, X9, XH, setAll, Yl, reduceCtorEq, ne_eq, not_false_eq_true, if_true, if_false, Bool.false_eq_true, Option.map_some, decide_eq_true_eq, Bool.not_true, Bool.not_false, List.length_cons, true_and])
      exact ⟨c1.length, Nat.lt_succ_self _, c1, _, rfl, rfl, M.trans M2⟩
theorem c_add_above {h : Hp} {rt : Nat} {c : Ctx} {v : V} {n m : Int} {Q : V → Hp → Prop} (H : HoldC h rt c v n) (hn : (rt :: adsC c).Nodup)
    (k : ∀ h', HoldC h' rt c v (n + m) → (∀ x, x ∉ adsC c → h' x = h x) → Q .none h') : Γ .add_above [par c .none, .int m] Q h := by
  refine U .add_above rfl _ _ _ (wpB_i (ps := p_add_above) (b := b_add_above) rfl ?_)
  repeat (first | refine XJ ?_ | simp only [b_add_above, p_add_above, ↓Yb, ↓XQ, ↓YH, ↓Yd, ↓Ye, ↓Yg, ↓Yh, ↓Yi, ↓YI, ↓YJ, ↓Yj, ↓Yk, ↓XR, ↓XS, ↓YK, ↓Ym, ↓YL, ↓YM, ↓Yn, ↓YN, ↓YO, ↓XU, ↓YQ, ↓Yo, ↓YR, ↓Zk, ↓XV, ↓YS, ↓YT, ↓Zl, ↓YU, ↓Yp, ↓XW, ↓YV, ↓YW, ↓YX, ↓Yq, ↓YY, ↓YZ, ↓Y0, ↓Y1, ↓XX, ↓Xn, ↓Xo, ↓Y2, ↓Xp, ↓Xq, ↓Y3, ↓Yr, ↓Xr, ↓XY, ↓Ys, ↓Xd, ↓Xe, ↓Xf, ↓Y4, ↓Y5, ↓Y7, ↓Y8, ↓Y9, ↓Za, ↓Zb, ↓Zc, ↓Yu, ↓Yz, ↓YA, ↓YF, ↓Xi, ↓XM, ↓Xl, ↓Xb, ↓Xc, ↓Xm, ↓Xj, ↓XN, ↓Xk, ↓XO, Zd, Ze, Zf, Zg, Zh, Zi, Yv, Yw, Yx, Yy, Zj, X0, X1, Xg, Xu, X2, X3, YC, YD, XZ, Xs, Xv, Xw, X4, X5, X6, X7, X8, Xh, XA, XB, XC, XD, XE, XF, YE, X9, XH, setAll, Yl, reduceCtorEq, ne_eq, not_false_eq_true, if_true, if_false, Bool.false_eq_true, Option.map_some, decide_eq_true_eq, Bool.not_true, Bool.not_false])
  refine ⟨fun j l h' => l .many = some (.int m) ∧ ∃ c1 c2 v2 n2, l .node = some (par c2 .none) ∧ j = c2.length ∧ c = c1 ++ c2 ∧ h' rt = some (rootO (topP c v)) ∧ IsK h' .none c2 v2 n2 ∧ (∀ x, x ∉ adsC c → h' x = h x) ∧
    (∀ h'', IsK h'' .none c2 v2 (n2 + m) → (∀ x, x ∉ adsC c2 → h'' x = h' x) → IsK h'' .none c v (n + m)), ⟨c.length, rfl, [], c, v, n, rfl, rfl, rfl, H.root, H.ctx, fun _ _ => rfl, fun _ i _ => i⟩, ?_⟩
  rintro j l h1 ⟨l1, c1, c2, v2, n2, l2, rfl, e, hr, hk, fr, fin⟩
  cases c2 with
  | nil =>
    repeat (first | refine XJ ?_ | simp only [↓Yt l2, l2, ↓Yb, ↓XQ, ↓YH, ↓Yd, ↓Ye, ↓Yg, ↓Yh, ↓Yi, ↓YI, ↓YJ, ↓Yj, ↓Yk, ↓XR, ↓XS, ↓YK, ↓Ym, ↓YL, ↓YM, ↓Yn, ↓YN, ↓YO, ↓XU, ↓YQ, ↓Yo, ↓YR, ↓Zk, ↓XV, ↓YS, ↓YT, ↓Zl, ↓YU, ↓Yp, ↓XW, ↓YV, ↓YW, ↓YX, ↓Yq, ↓YY, ↓YZ, ↓Y0, ↓Y1, ↓XX, ↓Xn, ↓Xo, ↓Y2, ↓Xp, ↓Xq, ↓Y3, ↓Yr, ↓Xr, ↓XY, ↓Ys, ↓Xd, ↓Xe, ↓Xf, ↓Y4, ↓Y5, ↓Y7, ↓Y8, ↓Y9, ↓Za, ↓Zb, ↓Zc, ↓Yu, ↓Yz, ↓YA, ↓YF, ↓Xi, ↓XM, ↓Xl, ↓Xb, ↓Xc, ↓Xm, ↓Xj, ↓XN, ↓Xk, ↓XO, Zd, Ze, Zf, Zg, Zh, Zi, Yv, Yw, Yx, Yy, Zj, X0, X1, Xg, Xu, X2, X3, YC, YD, XZ, Xs, Xv, Xw, X4, X5, X6, X7, X8, Xh, XA, XB, XC, XD, XE, XF, YE, X9, XH, setAll, Yl, reduceCtorEq, ne_eq, not_false_eq_true, if_true, if_false, Bool.false_eq_true, Option.map_some, decide_eq_true_eq, Bool.not_true, Bool.not_false])
    exact ⟨_, Sub.refl, k _ ⟨hr, fin h1 trivial fun _ _ => rfl⟩ fr⟩
  | cons f c2 =>
    obtain ⟨e1, hs, hk⟩ := hk
    have e1' := e1
    unfold Frm.obj at e1'
    repeat (first | refine XJ ?_ | simp only [↓Yt l1, l1, ↓Yt l2, l2, e1', ↓Y6 e1', YB e1', ↓Yb, ↓XQ, ↓YH, ↓Yd, ↓Ye, ↓Yg, ↓Yh, ↓Yi, ↓YI, ↓YJ, ↓Yj, ↓Yk, ↓XR, ↓XS, ↓YK, ↓Ym, ↓YL, ↓YM, ↓Yn, ↓YN, ↓YO, ↓XU, ↓YQ, ↓Yo, ↓YR, ↓Zk, ↓XV, ↓YS, ↓YT, ↓Zl, ↓YU, ↓Yp, ↓XW, ↓YV, ↓YW, ↓YX, ↓Yq, ↓YY, ↓YZ, ↓Y0, ↓Y1, ↓XX, ↓Xn, ↓Xo, ↓Y2, ↓Xp, ↓Xq, ↓Y3, ↓Yr, ↓Xr, ↓XY, ↓Ys, ↓Xd, ↓Xe, ↓Xf, ↓Y4, ↓Y5, ↓Y7, ↓Y8, ↓Y9, ↓Za, ↓Zb, ↓Zc, ↓Yu, ↓Yz, ↓YA, ↓YF, ↓Xi, ↓XM, ↓Xl, ↓Xb, ↓Xc, ↓Xm, ↓Xj, ↓XN, ↓Xk, ↓XO, Zd, Ze, Zf, Zg, Zh, Zi, Yv, Yw, Yx, Yy, Zj, X0, X1, Xg, Xu, X2, X3, YC, YD, XZ, Xs, Xv, Xw, X4, X5, X6, X7, X8, Xh, XA, XB, XC, XD, XE, XF, YE, X9, XH, setAll, Yl, reduceCtorEq, ne_eq, not_false_eq_true, if_true, if_false, Bool.false_eq_true, Option.map_some, decide_eq_true_eq, Bool.not_true, Bool.not_false, true_and])
    have nn : (rt :: (adsC c1 ++ adsC (f :: c2))).Nodup := by rw [← adsC_append, ← e]; exact hn
    simp only [adsC, List.nodup_cons, List.nodup_append, List.mem_append, List.mem_cons, not_or] at nn
    refine ⟨c2.length, by simp, c1 ++ [f], c2, .ref f.a, _, rfl, rfl, by rw [e]; simp, (Xa (by grind)).trans hr, hk.frame fun x m => Xa (by grind), fun x m => (Xa fun z => m (by rw [e, adsC_append]; simp [adsC, z])).trans (fr x m), fun h'' K F => ?_⟩
    refine fin h'' ⟨?_, hs.frame fun x m => ?_, ?_⟩ fun x m => ?_
    · rw [F f.a (by grind), Xg]
      simp only [Frm.obj]
      rw [show n2 + m + f.o + f.sib.tot = n2 + f.o + f.sib.tot + m by omega]
    · exact (F x (by grind)).trans (Xa (by grind))
    · rw [show n2 + m + f.o + f.sib.tot = n2 + f.o + f.sib.tot + m by omega]; exact K
    · simp only [adsC, List.mem_append, List.mem_cons, not_or] at m
      exact (F x m.2.2).trans (Xa m.1)
end
end Mine

namespace Mine
noncomputable def headP : List (Nat × Int × V) → V
  | [] => .none
  | x :: _ => .ref x.1
noncomputable def lastP (xs : List (Nat × Int × V)) : V := headP xs.reverse
theorem headP_app {xs ys : List (Nat × Int × V)} {x : Nat × Int × V} (e : xs = []) : headP (xs ++ x :: ys) = .ref x.1 := by subst e; rfl
theorem lastP_app {xs ys : List (Nat × Int × V)} {x : Nat × Int × V} (e : ys = []) : lastP (xs ++ x :: ys) = .ref x.1 := by subst e; simp [lastP, headP]
section
variable {Γ : Ctr} (U : Base Γ)
include U
theorem c_leftmost {h : Hp} {a : Nat} {o : Int} {p : V} {l r : T} {q : V} {Q : V → Hp → Prop} (i : IsT h (.node a o p l r) q)
    (k : ∀ c' b o' p' r', T.node a o p l r = plug c' (.node b o' p' .nil r') → inoL c' = [] → Q (.ref b) h) : Γ .leftmost [.ref a] Q h := by
  refine U .leftmost rfl _ _ _ (wpB_i (ps := p_leftmost) (b := b_leftmost) rfl ?_)
  repeat (first | refine XJ ?_ | simp only [b_leftmost, p_leftmost, ↓Yb, ↓XQ, ↓YH, ↓Yd, ↓Ye, ↓Yg, ↓Yh, ↓Yi, ↓YI, ↓YJ, ↓Yj, ↓Yk, ↓XR, ↓XS, ↓YK, ↓Ym, ↓YL, ↓YM, ↓Yn, ↓YN, ↓YO, ↓XU, ↓YQ, ↓Yo, ↓YR, ↓Zk, ↓XV, ↓YS, ↓YT, ↓Zl, ↓YU, ↓Yp, ↓XW, ↓YV, ↓YW, ↓YX, ↓Yq, ↓YY, ↓YZ, ↓Y0, ↓Y1, ↓XX, ↓Xn, ↓Xo, ↓Y2, ↓Xp, ↓Xq, ↓Y3, ↓Yr, ↓Xr, ↓XY, ↓Ys, ↓Xd, ↓Xe, ↓Xf, ↓Y4, ↓Y5, ↓Y7, ↓Y8, ↓Y9, ↓Za, ↓Zb, ↓Zc, ↓Yu, ↓Yz, ↓YA, ↓YF, ↓Xi, ↓XM, ↓Xl, ↓Xb, ↓Xc, ↓Xm, ↓Xj, ↓XN, ↓Xk, ↓XO, Zd, Ze, Zf, Zg, Zh, Zi, Yv, Yw, Yx, Yy, Zj, X0, X1, Xg, Xu, X2, X3, YC, YD, XZ, Xs, Xv, Xw, X4, X5, X6, X7, X8, Xh, XA, XB, XC, XD, XE, XF, YE, X9, XH, setAll, Yl, reduceCtorEq, ne_eq, not_false_eq_true, if_true, if_false, Bool.false_eq_true, Option.map_some, decide_eq_true_eq, Bool.not_true, Bool.not_false])
  refine ⟨fun n m h' => h' = h ∧ ∃ c1 a1 o1 p1 l1 r1, m .node = some (.ref a1) ∧ n = l1.ino.length ∧ T.node a o p l r = plug c1 (.node a1 o1 p1 l1 r1) ∧ inoL c1 = [], ⟨_, rfl, [], a, o, p, l, r, rfl, rfl, rfl, rfl⟩, ?_⟩
  rintro n m h' ⟨rfl, c1, a1, o1, p1, l1, r1, m1, rfl, e, e2⟩
  have i1 : IsT h' (.node a1 o1 p1 l1 r1) (par c1 q) := by rw [e] at i; exact (isT_plug.mp i).2
  repeat (first | refine XJ ?_ | simp only [↓Yt m1, m1, ↓Y6 i1.1, YB i1.1, ↓Yb, ↓XQ, ↓YH, ↓Yd, ↓Ye, ↓Yg, ↓Yh, ↓Yi, ↓YI, ↓YJ, ↓Yj, ↓Yk, ↓XR, ↓XS, ↓YK, ↓Ym, ↓YL, ↓YM, ↓Yn, ↓YN, ↓YO, ↓XU, ↓YQ, ↓Yo, ↓YR, ↓Zk, ↓XV, ↓YS, ↓YT, ↓Zl, ↓YU, ↓Yp, ↓XW, ↓YV, ↓YW, ↓YX, ↓Yq, ↓YY, ↓YZ, ↓Y0, ↓Y1, ↓XX, ↓Xn, ↓Xo, ↓Y2, ↓Xp, ↓Xq, ↓Y3, ↓Yr, ↓Xr, ↓XY, ↓Ys, ↓Xd, ↓Xe, ↓Xf, ↓Y4, ↓Y5, ↓Y7, ↓Y8, ↓Y9, ↓Za, ↓Zb, ↓Zc, ↓Yu, ↓Yz, ↓YA, ↓YF, ↓Xi, ↓XM, ↓Xl, ↓Xb, ↓Xc, ↓Xm, ↓Xj, ↓XN, ↓Xk, ↓XO, Zd, Ze, Zf, Zg, Zh, Zi, Yv, Yw, Yx, Yy, Zj, X0, X1, Xg, Xu, X2, X3, YC, YD, XZ, Xs, Xv, Xw, X4, X5, X6, X7, X8, Xh, XA, XB, XC, XD, XE, XF, YE, X9, XH, setAll, Yl, reduceCtorEq, ne_eq, not_false_eq_true, if_true, if_false, Bool.false_eq_true, Option.map_some, decide_eq_true_eq, Bool.not_true, Bool.not_false])
  cases l1 with
  | nil =>
    repeat (first | refine XJ ?_ | simp only [T.ptr, ↓Yt m1, m1, ↓Yb, ↓XQ, ↓YH, ↓Yd, ↓Ye, ↓Yg, ↓Yh, ↓Yi, ↓YI, ↓YJ, ↓Yj, ↓Yk, ↓XR, ↓XS, ↓YK, ↓Ym, ↓YL, ↓YM, ↓Yn, ↓YN, ↓YO, ↓XU, ↓YQ, ↓Yo, ↓YR, ↓Zk, ↓XV, ↓YS, ↓YT, ↓Zl, ↓YU, ↓Yp, ↓XW, ↓YV, ↓YW, ↓YX, ↓Yq, ↓YY, ↓YZ, ↓Y0, ↓Y1, ↓XX, ↓Xn, ↓Xo, ↓Y2, ↓Xp, ↓Xq, ↓Y3, ↓Yr, ↓Xr, ↓XY, ↓Ys, ↓Xd, ↓Xe, ↓Xf, ↓Y4, ↓Y5, ↓Y7, ↓Y8, ↓Y9, ↓Za, ↓Zb, ↓Zc, ↓Yu, ↓Yz, ↓YA, ↓YF, ↓Xi, ↓XM, ↓Xl, ↓Xb, ↓Xc, ↓Xm, ↓Xj, ↓XN, ↓Xk, ↓XO, Zd, Ze, Zf, Zg, Zh, Zi, Yv, Yw, Yx, Yy, Zj, X0, X1, Xg, Xu, X2, X3, YC, YD, XZ, Xs, Xv, Xw, X4, X5, X6, X7, X8, Xh, XA, XB, XC, XD, XE, XF, YE, X9, XH, setAll, Yl, reduceCtorEq, ne_eq, not_false_eq_true, if_true, if_false, Bool.false_eq_true, Option.map_some, decide_eq_true_eq, Bool.not_true, Bool.not_false])
    exact ⟨_, Sub.refl, k _ _ _ _ _ e e2⟩
  | node b o' p' l' r' =>
    repeat (first | refine XJ ?_ | simp only [T.ptr, ↓Yt m1, m1, ↓Y6 i1.1, YB i1.1, ↓Yb, ↓XQ, ↓YH, ↓Yd, ↓Ye, ↓Yg, ↓Yh, ↓Yi, ↓YI, ↓YJ, ↓Yj, ↓Yk, ↓XR, ↓XS, ↓YK, ↓Ym, ↓YL, ↓YM, ↓Yn, ↓YN, ↓YO, ↓XU, ↓YQ, ↓Yo, ↓YR, ↓Zk, ↓XV, ↓YS, ↓YT, ↓Zl, ↓YU, ↓Yp, ↓XW, ↓YV, ↓YW, ↓YX, ↓Yq, ↓YY, ↓YZ, ↓Y0, ↓Y1, ↓XX, ↓Xn, ↓Xo, ↓Y2, ↓Xp, ↓Xq, ↓Y3, ↓Yr, ↓Xr, ↓XY, ↓Ys, ↓Xd, ↓Xe, ↓Xf, ↓Y4, ↓Y5, ↓Y7, ↓Y8, ↓Y9, ↓Za, ↓Zb, ↓Zc, ↓Yu, ↓Yz, ↓YA, ↓YF, ↓Xi, ↓XM, ↓Xl, ↓Xb, ↓Xc, ↓Xm, ↓Xj, ↓XN, ↓Xk, ↓XO, Zd, Ze, Zf, Zg, Zh, Zi, Yv, Yw, Yx, Yy, Zj, X0, X1, Xg, Xu, X2, X3, YC, YD, XZ, Xs, Xv, Xw, X4, X5, X6, X7, X8, Xh, XA, XB, XC, XD, XE, XF, YE, X9, XH, setAll, Yl, reduceCtorEq, ne_eq, not_false_eq_true, if_true, if_false, Bool.false_eq_true, Option.map_some, decide_eq_true_eq, Bool.not_true, Bool.not_false, true_and])
    refine ⟨l'.ino.length, by simp only [T.ino, List.length_append, List.length_cons]; omega, ⟨true, a1, o1, p1, r1⟩ :: c1, b, o', p', l', r', rfl, rfl, e, by simp [inoL, e2]⟩
theorem c_rightmost {h : Hp} {a : Nat} {o : Int} {p : V} {l r : T} {q : V} {Q : V → Hp → Prop} (i : IsT h (.node a o p l r) q)
    (k : ∀ c' b o' p' l', T.node a o p l r = plug c' (.node b o' p' l' .nil) → inoR c' = [] → Q (.ref b) h) : Γ .rightmost [.ref a] Q h := by
  refine U .rightmost rfl _ _ _ (wpB_i (ps := p_rightmost) (b := b_rightmost) rfl ?_)
  repeat (first | refine XJ ?_ | simp only [b_rightmost, p_rightmost, ↓Yb, ↓XQ, ↓YH, ↓Yd, ↓Ye, ↓Yg, ↓Yh, ↓Yi, ↓YI, ↓YJ, ↓Yj, ↓Yk, ↓XR, ↓XS, ↓YK, ↓Ym, ↓YL, ↓YM, ↓Yn, ↓YN, ↓YO, ↓XU, ↓YQ, ↓Yo, ↓YR, ↓Zk, ↓XV, ↓YS, ↓YT, ↓Zl, ↓YU, ↓Yp, ↓XW, ↓YV, ↓YW, ↓YX, ↓Yq, ↓YY, ↓YZ, ↓Y0, ↓Y1, ↓XX, ↓Xn, ↓Xo, ↓Y2, ↓Xp, ↓Xq, ↓Y3, ↓Yr, ↓Xr, ↓XY, ↓Ys, ↓Xd, ↓Xe, ↓Xf, ↓Y4, ↓Y5, ↓Y7, ↓Y8, ↓Y9, ↓Za, ↓Zb, ↓Zc, ↓Yu, ↓Yz, ↓YA, ↓YF, ↓Xi, ↓XM, ↓Xl, ↓Xb, ↓Xc, ↓Xm, ↓Xj, ↓XN, ↓Xk, ↓XO, Zd, Ze, Zf, Zg, Zh, Zi, Yv, Yw, Yx, Yy, Zj, X0, X1, Xg, Xu, X2, X3, YC, YD, XZ, Xs, Xv, Xw, X4, X5, X6, X7, X8, Xh, XA, XB, XC, XD, XE, XF, YE, X9, XH, setAll, Yl, reduceCtorEq, ne_eq, not_false_eq_true, if_true, if_false, Bool.false_eq_true, Option.map_some, decide_eq_true_eq, Bool.not_true, Bool.not_false])
  refine ⟨fun n m h' => h' = h ∧ ∃ c1 a1 o1 p1 l1 r1, m .node = some (.ref a1) ∧ n = r1.ino.length ∧ T.node a o p l r = plug c1 (.node a1 o1 p1 l1 r1) ∧ inoR c1 = [], ⟨_, rfl, [], a, o, p, l, r, rfl, rfl, rfl, rfl⟩, ?_⟩
  rintro n m h' ⟨rfl, c1, a1, o1, p1, l1, r1, m1, rfl, e, e2⟩
  have i1 : IsT h' (.node a1 o1 p1 l1 r1) (par c1 q) := by rw [e] at i; exact (isT_plug.mp i).2
  repeat (first | refine XJ ?_ | simp only [↓Yt m1, m1, ↓Y6 i1.1, YB i1.1, ↓Yb, ↓XQ, ↓YH, ↓Yd, ↓Ye, ↓Yg, ↓Yh, ↓Yi, ↓YI, ↓YJ, ↓Yj, ↓Yk, ↓XR, ↓XS, ↓YK, ↓Ym, ↓YL, ↓YM, ↓Yn, ↓YN, ↓YO, ↓XU, ↓YQ, ↓Yo, ↓YR, ↓Zk, ↓XV, ↓YS, ↓YT, ↓Zl, ↓YU, ↓Yp, ↓XW, ↓YV, ↓YW, ↓YX, ↓Yq, ↓YY, ↓YZ, ↓Y0, ↓Y1, ↓XX, ↓Xn, ↓Xo, ↓Y2, ↓Xp, ↓Xq, ↓Y3, ↓Yr, ↓Xr, ↓XY, ↓Ys, ↓Xd, ↓Xe, ↓Xf, ↓Y4, ↓Y5, ↓Y7, ↓Y8, ↓Y9, ↓Za, ↓Zb, ↓Zc, ↓Yu, ↓Yz, ↓YA, ↓YF, ↓Xi, ↓XM, ↓Xl, ↓Xb, ↓Xc, ↓Xm, ↓Xj, ↓XN, ↓Xk, ↓XO, Zd, Ze, Zf, Zg, Zh, Zi, Yv, Yw, Yx, Yy, Zj, X0, X1, Xg, Xu, X2, X3, YC, YD, XZ, Xs, Xv, Xw, X4, X5, X6, X7, X8, Xh, XA, XB, XC, XD, XE, XF, YE, X9, XH, setAll, Yl, reduceCtorEq, ne_eq, not_false_eq_true, if_true, if_false, Bool.false_eq_true, Option.map_some, decide_eq_true_eq, Bool.not_true, Bool.not_false])
  cases r1 with
  | nil =>
    repeat (first | refine XJ ?_ | simp only [T.ptr, ↓Yt m1, m1, ↓Yb, ↓XQ, ↓YH, ↓Yd, ↓Ye, ↓Yg, ↓Yh, ↓Yi, ↓YI, ↓YJ, ↓Yj, ↓Yk, ↓XR, ↓XS, ↓YK, ↓Ym, ↓YL, ↓YM, ↓Yn, ↓YN, ↓YO, ↓XU, ↓YQ, ↓Yo, ↓YR, ↓Zk, ↓XV, ↓YS, ↓YT, ↓Zl, ↓YU, ↓Yp, ↓XW, ↓YV, ↓YW, ↓YX, ↓Yq, ↓YY, ↓YZ, ↓Y0, ↓Y1, ↓XX, ↓Xn, ↓Xo, ↓Y2, ↓Xp, ↓Xq, ↓Y3, ↓Yr, ↓Xr, ↓XY, ↓Ys, ↓Xd, ↓Xe, ↓Xf, ↓Y4, ↓Y5, ↓Y7, ↓Y8, ↓Y9, ↓Za, ↓Zb, ↓Zc, ↓Yu, ↓Yz, ↓YA, ↓YF, ↓Xi, ↓XM, ↓Xl, ↓Xb, ↓Xc, ↓Xm, ↓Xj, ↓XN, ↓Xk, ↓XO, Zd, Ze, Zf, Zg, Zh, Zi, Yv, Yw, Yx, Yy, Zj, X0, X1, Xg, Xu, X2, X3, YC, YD, XZ, Xs, Xv, Xw, X4, X5, X6, X7, X8, Xh, XA, XB, XC, XD, XE, XF, YE, X9, XH, setAll, Yl, reduceCtorEq, ne_eq, not_false_eq_true, if_true, if_false, Bool.false_eq_true, Option.map_some, decide_eq_true_eq, Bool.not_true, Bool.not_false])
    exact ⟨_, Sub.refl, k _ _ _ _ _ e e2⟩
  | node b o' p' l' r' =>
    repeat (first | refine XJ ?_ | simp only [T.ptr, ↓Yt m1, m1, ↓Y6 i1.1, YB i1.1, ↓Yb, ↓XQ, ↓YH, ↓Yd, ↓Ye, ↓Yg, ↓Yh, ↓Yi, ↓YI, ↓YJ, ↓Yj, ↓Yk, ↓XR, ↓XS, ↓YK, ↓Ym, ↓YL, ↓YM, ↓Yn, ↓YN, ↓YO, ↓XU, ↓YQ, ↓Yo, ↓YR, ↓Zk, ↓XV, ↓YS, ↓YT, ↓Zl, ↓YU, ↓Yp, ↓XW, ↓YV, ↓YW, ↓YX, ↓Yq, ↓YY, ↓YZ, ↓Y0, ↓Y1, ↓XX, ↓Xn, ↓Xo, ↓Y2, ↓Xp, ↓Xq, ↓Y3, ↓Yr, ↓Xr, ↓XY, ↓Ys, ↓Xd, ↓Xe, ↓Xf, ↓Y4, ↓Y5, ↓Y7, ↓Y8, ↓Y9, ↓Za, ↓Zb, ↓Zc, ↓Yu, ↓Yz, ↓YA, ↓YF, ↓Xi, ↓XM, ↓Xl, ↓Xb, ↓Xc, ↓Xm, ↓Xj, ↓XN, ↓Xk, ↓XO, Zd, Ze, Zf, Zg, Zh, Zi, Yv, Yw, Yx, Yy, Zj, X0, X1, Xg, Xu, X2, X3, YC, YD, XZ, Xs, Xv, Xw, X4, X5, X6, X7, X8, Xh, XA, XB, XC, XD, XE, XF, YE, X9, XH, setAll, Yl, reduceCtorEq, ne_eq, not_false_eq_true, if_true, if_false, Bool.false_eq_true, Option.map_some, decide_eq_true_eq, Bool.not_true, Bool.not_false, true_and])
    refine ⟨r'.ino.length, by simp only [T.ino, List.length_append, List.length_cons]; omega, ⟨false, a1, o1, p1, l1⟩ :: c1, b, o', p', l', r', rfl, rfl, e, by simp [inoR, e2]⟩

theorem c_following {h : Hp} {rt a : Nat} {o : Int} {p : V} {l r : T} {c : Ctx} {Q : V → Hp → Prop} (H : Holds h rt (plug c (.node a o p l r))) (k : Q (headP (r.ino ++ inoR c)) h) : Γ .following [.ref a] Q h := by
  refine U .following rfl _ _ _ (wpB_i (ps := p_following) (b := b_following) rfl ?_)
  have i := H.split.2.1
  repeat (first | refine XJ ?_ | simp only [b_following, p_following, ↓Y6 i.1, YB i.1, ↓Yb, ↓XQ, ↓YH, ↓Yd, ↓Ye, ↓Yg, ↓Yh, ↓Yi, ↓YI, ↓YJ, ↓Yj, ↓Yk, ↓XR, ↓XS, ↓YK, ↓Ym, ↓YL, ↓YM, ↓Yn, ↓YN, ↓YO, ↓XU, ↓YQ, ↓Yo, ↓YR, ↓Zk, ↓XV, ↓YS, ↓YT, ↓Zl, ↓YU, ↓Yp, ↓XW, ↓YV, ↓YW, ↓YX, ↓Yq, ↓YY, ↓YZ, ↓Y0, ↓Y1, ↓XX, ↓Xn, ↓Xo, ↓Y2, ↓Xp, ↓Xq, ↓Y3, ↓Yr, ↓Xr, ↓XY, ↓Ys, ↓Xd, ↓Xe, ↓Xf, ↓Y4, ↓Y5, ↓Y7, ↓Y8, ↓Y9, ↓Za, ↓Zb, ↓Zc, ↓Yu, ↓Yz, ↓YA, ↓YF, ↓Xi, ↓XM, ↓Xl, ↓Xb, ↓Xc, ↓Xm, ↓Xj, ↓XN, ↓Xk, ↓XO, Zd, Ze, Zf, Zg, Zh, Zi, Yv, Yw, Yx, Yy, Zj, X0, X1, Xg, Xu, X2, X3, YC, YD, XZ, Xs, Xv, Xw, X4, X5, X6, X7, X8, Xh, XA, XB, XC, XD, XE, XF, YE, X9, XH, setAll, Yl, reduceCtorEq, ne_eq, not_false_eq_true, if_true, if_false, Bool.false_eq_true, Option.map_some, decide_eq_true_eq, Bool.not_true, Bool.not_false])
  cases r with
  | node b o' p' l' r' =>
    repeat (first | refine XJ ?_ | simp only [T.ptr, ↓Y6 i.1, YB i.1, ↓Yb, ↓XQ, ↓YH, ↓Yd, ↓Ye, ↓Yg, ↓Yh, ↓Yi, ↓YI, ↓YJ, ↓Yj, ↓Yk, ↓XR, ↓XS, ↓YK, ↓Ym, ↓YL, ↓YM, ↓Yn, ↓YN, ↓YO, ↓XU, ↓YQ, ↓Yo, ↓YR, ↓Zk, ↓XV, ↓YS, ↓YT, ↓Zl, ↓YU, ↓Yp, ↓XW, ↓YV, ↓YW, ↓YX, ↓Yq, ↓YY, ↓YZ, ↓Y0, ↓Y1, ↓XX, ↓Xn, ↓Xo, ↓Y2, ↓Xp, ↓Xq, ↓Y3, ↓Yr, ↓Xr, ↓XY, ↓Ys, ↓Xd, ↓Xe, ↓Xf, ↓Y4, ↓Y5, ↓Y7, ↓Y8, ↓Y9, ↓Za, ↓Zb, ↓Zc, ↓Yu, ↓Yz, ↓YA, ↓YF, ↓Xi, ↓XM, ↓Xl, ↓Xb, ↓Xc, ↓Xm, ↓Xj, ↓XN, ↓Xk, ↓XO, Zd, Ze, Zf, Zg, Zh, Zi, Yv, Yw, Yx, Yy, Zj, X0, X1, Xg, Xu, X2, X3, YC, YD, XZ, Xs, Xv, Xw, X4, X5, X6, X7, X8, Xh, XA, XB, XC, XD, XE, XF, YE, X9, XH, setAll, Yl, reduceCtorEq, ne_eq, not_false_eq_true, if_true, if_false, Bool.false_eq_true, Option.map_some, decide_eq_true_eq, Bool.not_true, Bool.not_false])
    refine c_leftmost U i.2.2 fun c' b o' p' r' e e2 => ⟨_, Sub.refl, ?_⟩
    rw [e, ino_plug, e2] at k
    exact k
  | nil =>
    repeat (first | refine XJ ?_ | simp only [T.ptr, ↓Yb, ↓XQ, ↓YH, ↓Yd, ↓Ye, ↓Yg, ↓Yh, ↓Yi, ↓YI, ↓YJ, ↓Yj, ↓Yk, ↓XR, ↓XS, ↓YK, ↓Ym, ↓YL, ↓YM, ↓Yn, ↓YN, ↓YO, ↓XU, ↓YQ, ↓Yo, ↓YR, ↓Zk, ↓XV, ↓YS, ↓YT, ↓Zl, ↓YU, ↓Yp, ↓XW, ↓YV, ↓YW, ↓YX, ↓Yq, ↓YY, ↓YZ, ↓Y0, ↓Y1, ↓XX, ↓Xn, ↓Xo, ↓Y2, ↓Xp, ↓Xq, ↓Y3, ↓Yr, ↓Xr, ↓XY, ↓Ys, ↓Xd, ↓Xe, ↓Xf, ↓Y4, ↓Y5, ↓Y7, ↓Y8, ↓Y9, ↓Za, ↓Zb, ↓Zc, ↓Yu, ↓Yz, ↓YA, ↓YF, ↓Xi, ↓XM, ↓Xl, ↓Xb, ↓Xc, ↓Xm, ↓Xj, ↓XN, ↓Xk, ↓XO, Zd, Ze, Zf, Zg, Zh, Zi, Yv, Yw, Yx, Yy, Zj, X0, X1, Xg, Xu, X2, X3, YC, YD, XZ, Xs, Xv, Xw, X4, X5, X6, X7, X8, Xh, XA, XB, XC, XD, XE, XF, YE, X9, XH, setAll, Yl, reduceCtorEq, ne_eq, not_false_eq_true, if_true, if_false, Bool.false_eq_true, Option.map_some, decide_eq_true_eq, Bool.not_true, Bool.not_false])
    refine ⟨fun n m h' => h' = h ∧ ∃ c1 a1 o1 p1 l1 r1, m .node = some (.ref a1) ∧ n = c1.length ∧ plug c (.node a o p l .nil) = plug c1 (.node a1 o1 p1 l1 r1) ∧ inoR c1 = inoR c, ⟨_, rfl, c, a, o, p, l, .nil, rfl, rfl, rfl, rfl⟩, ?_⟩
    rintro n m h' ⟨rfl, c1, a1, o1, p1, l1, r1, m1, rfl, e, e2⟩
    have H1 := H
    rw [e] at H1
    obtain ⟨⟨_, K⟩, i1, nn⟩ := H1.split
    repeat (first | refine XJ ?_ | simp only [↓Yt m1, m1, ↓Y6 i1.1, YB i1.1, ↓Yb, ↓XQ, ↓YH, ↓Yd, ↓Ye, ↓Yg, ↓Yh, ↓Yi, ↓YI, ↓YJ, ↓Yj, ↓Yk, ↓XR, ↓XS, ↓YK, ↓Ym, ↓YL, ↓YM, ↓Yn, ↓YN, ↓YO, ↓XU, ↓YQ, ↓Yo, ↓YR, ↓Zk, ↓XV, ↓YS, ↓YT, ↓Zl, ↓YU, ↓Yp, ↓XW, ↓YV, ↓YW, ↓YX, ↓Yq, ↓YY, ↓YZ, ↓Y0, ↓Y1, ↓XX, ↓Xn, ↓Xo, ↓Y2, ↓Xp, ↓Xq, ↓Y3, ↓Yr, ↓Xr, ↓XY, ↓Ys, ↓Xd, ↓Xe, ↓Xf, ↓Y4, ↓Y5, ↓Y7, ↓Y8, ↓Y9, ↓Za, ↓Zb, ↓Zc, ↓Yu, ↓Yz, ↓YA, ↓YF, ↓Xi, ↓XM, ↓Xl, ↓Xb, ↓Xc, ↓Xm, ↓Xj, ↓XN, ↓Xk, ↓XO, Zd, Ze, Zf, Zg, Zh, Zi, Yv, Yw, Yx, Yy, Zj, X0, X1, Xg, Xu, X2, X3, YC, YD, XZ, Xs, Xv, Xw, X4, X5, X6, X7, X8, Xh, XA, XB, XC, XD, XE, XF, YE, X9, XH, setAll, Yl, reduceCtorEq, ne_eq, not_false_eq_true, if_true, if_false, Bool.false_eq_true, Option.map_some, decide_eq_true_eq, Bool.not_true, Bool.not_false])
    cases c1 with
    | nil =>
      repeat (first | refine XJ ?_ | simp only [↓Yt m1, m1, ↓Y6 i1.1, YB i1.1, ↓Yb, ↓XQ, ↓YH, ↓Yd, ↓Ye, ↓Yg, ↓Yh, ↓Yi, ↓YI, ↓YJ, ↓Yj, ↓Yk, ↓XR, ↓XS, ↓YK, ↓Ym, ↓YL, ↓YM, ↓Yn, ↓YN, ↓YO, ↓XU, ↓YQ, ↓Yo, ↓YR, ↓Zk, ↓XV, ↓YS, ↓YT, ↓Zl, ↓YU, ↓Yp, ↓XW, ↓YV, ↓YW, ↓YX, ↓Yq, ↓YY, ↓YZ, ↓Y0, ↓Y1, ↓XX, ↓Xn, ↓Xo, ↓Y2, ↓Xp, ↓Xq, ↓Y3, ↓Yr, ↓Xr, ↓XY, ↓Ys, ↓Xd, ↓Xe, ↓Xf, ↓Y4, ↓Y5, ↓Y7, ↓Y8, ↓Y9, ↓Za, ↓Zb, ↓Zc, ↓Yu, ↓Yz, ↓YA, ↓YF, ↓Xi, ↓XM, ↓Xl, ↓Xb, ↓Xc, ↓Xm, ↓Xj, ↓XN, ↓Xk, ↓XO, Zd, Ze, Zf, Zg, Zh, Zi, Yv, Yw, Yx, Yy, Zj, X0, X1, Xg, Xu, X2, X3, YC, YD, XZ, Xs, Xv, Xw, X4, X5, X6, X7, X8, Xh, XA, XB, XC, XD, XE, XF, YE, X9, XH, setAll, Yl, reduceCtorEq, ne_eq, not_false_eq_true, if_true, if_false, Bool.false_eq_true, Option.map_some, decide_eq_true_eq, Bool.not_true, Bool.not_false])
      rw [← e2] at k
      repeat (first | refine XJ ?_ | simp only [↓Yb, ↓XQ, ↓YH, ↓Yd, ↓Ye, ↓Yg, ↓Yh, ↓Yi, ↓YI, ↓YJ, ↓Yj, ↓Yk, ↓XR, ↓XS, ↓YK, ↓Ym, ↓YL, ↓YM, ↓Yn, ↓YN, ↓YO, ↓XU, ↓YQ, ↓Yo, ↓YR, ↓Zk, ↓XV, ↓YS, ↓YT, ↓Zl, ↓YU, ↓Yp, ↓XW, ↓YV, ↓YW, ↓YX, ↓Yq, ↓YY, ↓YZ, ↓Y0, ↓Y1, ↓XX, ↓Xn, ↓Xo, ↓Y2, ↓Xp, ↓Xq, ↓Y3, ↓Yr, ↓Xr, ↓XY, ↓Ys, ↓Xd, ↓Xe, ↓Xf, ↓Y4, ↓Y5, ↓Y7, ↓Y8, ↓Y9, ↓Za, ↓Zb, ↓Zc, ↓Yu, ↓Yz, ↓YA, ↓YF, ↓Xi, ↓XM, ↓Xl, ↓Xb, ↓Xc, ↓Xm, ↓Xj, ↓XN, ↓Xk, ↓XO, Zd, Ze, Zf, Zg, Zh, Zi, Yv, Yw, Yx, Yy, Zj, X0, X1, Xg, Xu, X2, X3, YC, YD, XZ, Xs, Xv, Xw, X4, X5, X6, X7, X8, Xh, XA, XB, XC, XD, XE, XF, YE, X9, XH, setAll, Yl, reduceCtorEq, ne_eq, not_false_eq_true, if_true, if_false, Bool.false_eq_true, Option.map_some, decide_eq_true_eq, Bool.not_true, Bool.not_false])
      exact ⟨_, Sub.refl, k⟩
    | cons f c1 =>
      obtain ⟨ef, is, K⟩ := K
      unfold Frm.obj at ef
      repeat (first | refine XJ ?_ | simp only [↓Yt m1, m1, ↓Y6 i1.1, YB i1.1, ↓Y6 ef, YB ef, ↓Yb, ↓XQ, ↓YH, ↓Yd, ↓Ye, ↓Yg, ↓Yh, ↓Yi, ↓YI, ↓YJ, ↓Yj, ↓Yk, ↓XR, ↓XS, ↓YK, ↓Ym, ↓YL, ↓YM, ↓Yn, ↓YN, ↓YO, ↓XU, ↓YQ, ↓Yo, ↓YR, ↓Zk, ↓XV, ↓YS, ↓YT, ↓Zl, ↓YU, ↓Yp, ↓XW, ↓YV, ↓YW, ↓YX, ↓Yq, ↓YY, ↓YZ, ↓Y0, ↓Y1, ↓XX, ↓Xn, ↓Xo, ↓Y2, ↓Xp, ↓Xq, ↓Y3, ↓Yr, ↓Xr, ↓XY, ↓Ys, ↓Xd, ↓Xe, ↓Xf, ↓Y4, ↓Y5, ↓Y7, ↓Y8, ↓Y9, ↓Za, ↓Zb, ↓Zc, ↓Yu, ↓Yz, ↓YA, ↓YF, ↓Xi, ↓XM, ↓Xl, ↓Xb, ↓Xc, ↓Xm, ↓Xj, ↓XN, ↓Xk, ↓XO, Zd, Ze, Zf, Zg, Zh, Zi, Yv, Yw, Yx, Yy, Zj, X0, X1, Xg, Xu, X2, X3, YC, YD, XZ, Xs, Xv, Xw, X4, X5, X6, X7, X8, Xh, XA, XB, XC, XD, XE, XF, YE, X9, XH, setAll, Yl, reduceCtorEq, ne_eq, not_false_eq_true, if_true, if_false, Bool.false_eq_true, Option.map_some, decide_eq_true_eq, Bool.not_true, Bool.not_false])
      obtain ⟨lft, b, o', p', s⟩ := f
      cases lft with
      | false =>
        repeat (first | refine XJ ?_ | simp only [T.ptr, ↓Yt m1, m1, ↓Y6 i1.1, YB i1.1, ↓Y6 ef, YB ef, ↓Yb, ↓XQ, ↓YH, ↓Yd, ↓Ye, ↓Yg, ↓Yh, ↓Yi, ↓YI, ↓YJ, ↓Yj, ↓Yk, ↓XR, ↓XS, ↓YK, ↓Ym, ↓YL, ↓YM, ↓Yn, ↓YN, ↓YO, ↓XU, ↓YQ, ↓Yo, ↓YR, ↓Zk, ↓XV, ↓YS, ↓YT, ↓Zl, ↓YU, ↓Yp, ↓XW, ↓YV, ↓YW, ↓YX, ↓Yq, ↓YY, ↓YZ, ↓Y0, ↓Y1, ↓XX, ↓Xn, ↓Xo, ↓Y2, ↓Xp, ↓Xq, ↓Y3, ↓Yr, ↓Xr, ↓XY, ↓Ys, ↓Xd, ↓Xe, ↓Xf, ↓Y4, ↓Y5, ↓Y7, ↓Y8, ↓Y9, ↓Za, ↓Zb, ↓Zc, ↓Yu, ↓Yz, ↓YA, ↓YF, ↓Xi, ↓XM, ↓Xl, ↓Xb, ↓Xc, ↓Xm, ↓Xj, ↓XN, ↓Xk, ↓XO, Zd, Ze, Zf, Zg, Zh, Zi, Yv, Yw, Yx, Yy, Zj, X0, X1, Xg, Xu, X2, X3, YC, YD, XZ, Xs, Xv, Xw, X4, X5, X6, X7, X8, Xh, XA, XB, XC, XD, XE, XF, YE, X9, XH, setAll, Yl, reduceCtorEq, ne_eq, not_false_eq_true, if_true, if_false, Bool.false_eq_true, Option.map_some, decide_eq_true_eq, Bool.not_true, Bool.not_false, true_and])
        refine ⟨c1.length, by simp, c1, b, o', p', s, .node a1 o1 p1 l1 r1, rfl, rfl, ?_, ?_⟩
        · rw [e, plug]; rfl
        · rw [← e2]; simp [inoR]
      | true =>
        have ex : Q (.ref b) h' := by rw [← e2] at k; exact k
        cases s with
        | nil =>
          repeat (first | refine XJ ?_ | simp only [T.ptr, ↓Yt m1, m1, ↓Y6 i1.1, YB i1.1, ↓Yb, ↓XQ, ↓YH, ↓Yd, ↓Ye, ↓Yg, ↓Yh, ↓Yi, ↓YI, ↓YJ, ↓Yj, ↓Yk, ↓XR, ↓XS, ↓YK, ↓Ym, ↓YL, ↓YM, ↓Yn, ↓YN, ↓YO, ↓XU, ↓YQ, ↓Yo, ↓YR, ↓Zk, ↓XV, ↓YS, ↓YT, ↓Zl, ↓YU, ↓Yp, ↓XW, ↓YV, ↓YW, ↓YX, ↓Yq, ↓YY, ↓YZ, ↓Y0, ↓Y1, ↓XX, ↓Xn, ↓Xo, ↓Y2, ↓Xp, ↓Xq, ↓Y3, ↓Yr, ↓Xr, ↓XY, ↓Ys, ↓Xd, ↓Xe, ↓Xf, ↓Y4, ↓Y5, ↓Y7, ↓Y8, ↓Y9, ↓Za, ↓Zb, ↓Zc, ↓Yu, ↓Yz, ↓YA, ↓YF, ↓Xi, ↓XM, ↓Xl, ↓Xb, ↓Xc, ↓Xm, ↓Xj, ↓XN, ↓Xk, ↓XO, Zd, Ze, Zf, Zg, Zh, Zi, Yv, Yw, Yx, Yy, Zj, X0, X1, Xg, Xu, X2, X3, YC, YD, XZ, Xs, Xv, Xw, X4, X5, X6, X7, X8, Xh, XA, XB, XC, XD, XE, XF, YE, X9, XH, setAll, Yl, reduceCtorEq, ne_eq, not_false_eq_true, if_true, if_false, Bool.false_eq_true, Option.map_some, decide_eq_true_eq, Bool.not_true, Bool.not_false])
          exact ⟨_, Sub.refl, ex⟩
        | node d o2 p2 l2 r2 =>
          have da : d ≠ a1 := by
            simp only [adsC, ads_node, List.nodup_cons, List.nodup_append, List.mem_append, List.mem_cons, not_or] at nn
            grind
          repeat (first | refine XJ ?_ | simp only [T.ptr, XG da is.1 i1.1, ↓Yt m1, m1, ↓Y6 i1.1, YB i1.1, ↓Yb, ↓XQ, ↓YH, ↓Yd, ↓Ye, ↓Yg, ↓Yh, ↓Yi, ↓YI, ↓YJ, ↓Yj, ↓Yk, ↓XR, ↓XS, ↓YK, ↓Ym, ↓YL, ↓YM, ↓Yn, ↓YN, ↓YO, ↓XU, ↓YQ, ↓Yo, ↓YR, ↓Zk, ↓XV, ↓YS, ↓YT, ↓Zl, ↓YU, ↓Yp, ↓XW, ↓YV, ↓YW, ↓YX, ↓Yq, ↓YY, ↓YZ, ↓Y0, ↓Y1, ↓XX, ↓Xn, ↓Xo, ↓Y2, ↓Xp, ↓Xq, ↓Y3, ↓Yr, ↓Xr, ↓XY, ↓Ys, ↓Xd, ↓Xe, ↓Xf, ↓Y4, ↓Y5, ↓Y7, ↓Y8, ↓Y9, ↓Za, ↓Zb, ↓Zc, ↓Yu, ↓Yz, ↓YA, ↓YF, ↓Xi, ↓XM, ↓Xl, ↓Xb, ↓Xc, ↓Xm, ↓Xj, ↓XN, ↓Xk, ↓XO, Zd, Ze, Zf, Zg, Zh, Zi, Yv, Yw, Yx, Yy, Zj, X0, X1, Xg, Xu, X2, X3, YC, YD, XZ, Xs, Xv, Xw, X4, X5, X6, X7, X8, Xh, XA, XB, XC, XD, XE, XF, YE, X9, XH, setAll, Yl, reduceCtorEq, ne_eq, not_false_eq_true, if_true, if_false, Bool.false_eq_true, Option.map_some, decide_eq_true_eq, Bool.not_true, Bool.not_false])
          exact ⟨_, Sub.refl, ex⟩
theorem c_preceding {h : Hp} {rt a : Nat} {o : Int} {p : V} {l r : T} {c : Ctx} {Q : V → Hp → Prop} (H : Holds h rt (plug c (.node a o p l r))) (k : Q (lastP (inoL c ++ l.ino)) h) : Γ .preceding [.ref a] Q h := by
  refine U .preceding rfl _ _ _ (wpB_i (ps := p_preceding) (b := b_preceding) rfl ?_)
  have i := H.split.2.1
  repeat (first | refine XJ ?_ | simp only [b_preceding, p_preceding, ↓Y6 i.1, YB i.1, ↓Yb, ↓XQ, ↓YH, ↓Yd, ↓Ye, ↓Yg, ↓Yh, ↓Yi, ↓YI, ↓YJ, ↓Yj, ↓Yk, ↓XR, ↓XS, ↓YK, ↓Ym, ↓YL, ↓YM, ↓Yn, ↓YN, ↓YO, ↓XU, ↓YQ, ↓Yo, ↓YR, ↓Zk, ↓XV, ↓YS, ↓YT, ↓Zl, ↓YU, ↓Yp, ↓XW, ↓YV, ↓YW, ↓YX, ↓Yq, ↓YY, ↓YZ, ↓Y0, ↓Y1, ↓XX, ↓Xn, ↓Xo, ↓Y2, ↓Xp, ↓Xq, ↓Y3, ↓Yr, ↓Xr, ↓XY, ↓Ys, ↓Xd, ↓Xe, ↓Xf, ↓Y4, ↓Y5, ↓Y7, ↓Y8, ↓Y9, ↓Za, ↓Zb, ↓Zc, ↓Yu, ↓Yz, ↓YA, ↓YF, ↓Xi, ↓XM, ↓Xl, ↓Xb, ↓Xc, ↓Xm, ↓Xj, ↓XN, ↓Xk, ↓XO, Zd, Ze, Zf, Zg, Zh, Zi, Yv, Yw, Yx, Yy, Zj, X0, X1, Xg, Xu, X2, X3, YC, YD, XZ, Xs, Xv, Xw, X4, X5, X6, X7, X8, Xh, XA, XB, XC, XD, XE, XF, YE, X9, XH, setAll, Yl, reduceCtorEq, ne_eq, not_false_eq_true, if_true, if_false, Bool.false_eq_true, Option.map_some, decide_eq_true_eq, Bool.not_true, Bool.not_false])
  cases l with
  | node b o' p' l' r' =>
    repeat (first | refine XJ ?_ | simp only [T.ptr, ↓Y6 i.1, YB i.1, ↓Yb, ↓XQ, ↓YH, ↓Yd, ↓Ye, ↓Yg, ↓Yh, ↓Yi, ↓YI, ↓YJ, ↓Yj, ↓Yk, ↓XR, ↓XS, ↓YK, ↓Ym, ↓YL, ↓YM, ↓Yn, ↓YN, ↓YO, ↓XU, ↓YQ, ↓Yo, ↓YR, ↓Zk, ↓XV, ↓YS, ↓YT, ↓Zl, ↓YU, ↓Yp, ↓XW, ↓YV, ↓YW, ↓YX, ↓Yq, ↓YY, ↓YZ, ↓Y0, ↓Y1, ↓XX, ↓Xn, ↓Xo, ↓Y2, ↓Xp, ↓Xq, ↓Y3, ↓Yr, ↓Xr, ↓XY, ↓Ys, ↓Xd, ↓Xe, ↓Xf, ↓Y4, ↓Y5, ↓Y7, ↓Y8, ↓Y9, ↓Za, ↓Zb, ↓Zc, ↓Yu, ↓Yz, ↓YA, ↓YF, ↓Xi, ↓XM, ↓Xl, ↓Xb, ↓Xc, ↓Xm, ↓Xj, ↓XN, ↓Xk, ↓XO, Zd, Ze, Zf, Zg, Zh, Zi, Yv, Yw, Yx, Yy, Zj, X0, X1, Xg, Xu, X2, X3, YC, YD, XZ, Xs, Xv, Xw, X4, X5, X6, X7, X8, Xh, XA, XB, XC, XD, XE, XF, YE, X9, XH, setAll, Yl, reduceCtorEq, ne_eq, not_false_eq_true, if_true, if_false, Bool.false_eq_true, Option.map_some, decide_eq_true_eq, Bool.not_true, Bool.not_false])
    refine c_rightmost U i.2.1 fun c' b o' p' r' e e2 => ⟨_, Sub.refl, ?_⟩
    rw [e, ino_plug, e2, T.ino] at k
    simpa [lastP, headP, T.ino] using k
  | nil =>
    repeat (first | refine XJ ?_ | simp only [T.ptr, ↓Yb, ↓XQ, ↓YH, ↓Yd, ↓Ye, ↓Yg, ↓Yh, ↓Yi, ↓YI, ↓YJ, ↓Yj, ↓Yk, ↓XR, ↓XS, ↓YK, ↓Ym, ↓YL, ↓YM, ↓Yn, ↓YN, ↓YO, ↓XU, ↓YQ, ↓Yo, ↓YR, ↓Zk, ↓XV, ↓YS, ↓YT, ↓Zl, ↓YU, ↓Yp, ↓XW, ↓YV, ↓YW, ↓YX, ↓Yq, ↓YY, ↓YZ, ↓Y0, ↓Y1, ↓XX, ↓Xn, ↓Xo, ↓Y2, ↓Xp, ↓Xq, ↓Y3, ↓Yr, ↓Xr, ↓XY, ↓Ys, ↓Xd, ↓Xe, ↓Xf, ↓Y4, ↓Y5, ↓Y7, ↓Y8, ↓Y9, ↓Za, ↓Zb, ↓Zc, ↓Yu, ↓Yz, ↓YA, ↓YF, ↓Xi, ↓XM, ↓Xl, ↓Xb, ↓Xc, ↓Xm, ↓Xj, ↓XN, ↓Xk, ↓XO, Zd, Ze, Zf, Zg, Zh, Zi, Yv, Yw, Yx, Yy, Zj, X0, X1, Xg, Xu, X2, X3, YC, YD, XZ, Xs, Xv, Xw, X4, X5, X6, X7, X8, Xh, XA, XB, XC, XD, XE, XF, YE, X9, XH, setAll, Yl, reduceCtorEq, ne_eq, not_false_eq_true, if_true, if_false, Bool.false_eq_true, Option.map_some, decide_eq_true_eq, Bool.not_true, Bool.not_false])
    refine ⟨fun n m h' => h' = h ∧ ∃ c1 a1 o1 p1 l1 r1, m .node = some (.ref a1) ∧ n = c1.length ∧ plug c (.node a o p .nil r) = plug c1 (.node a1 o1 p1 l1 r1) ∧ inoL c1 = inoL c, ⟨_, rfl, c, a, o, p, .nil, r, rfl, rfl, rfl, rfl⟩, ?_⟩
    rintro n m h' ⟨rfl, c1, a1, o1, p1, l1, r1, m1, rfl, e, e2⟩
    have H1 := H
    rw [e] at H1
    obtain ⟨⟨_, K⟩, i1, nn⟩ := H1.split
    repeat (first | refine XJ ?_ | simp only [↓Yt m1, m1, ↓Y6 i1.1, YB i1.1, ↓Yb, ↓XQ, ↓YH, ↓Yd, ↓Ye, ↓Yg, ↓Yh, ↓Yi, ↓YI, ↓YJ, ↓Yj, ↓Yk, ↓XR, ↓XS, ↓YK, ↓Ym, ↓YL, ↓YM, ↓Yn, ↓YN, ↓YO, ↓XU, ↓YQ, ↓Yo, ↓YR, ↓Zk, ↓XV, ↓YS, ↓YT, ↓Zl, ↓YU, ↓Yp, ↓XW, ↓YV, ↓YW, ↓YX, ↓Yq, ↓YY, ↓YZ, ↓Y0, ↓Y1, ↓XX, ↓Xn, ↓Xo, ↓Y2, ↓Xp, ↓Xq, ↓Y3, ↓Yr, ↓Xr, ↓XY, ↓Ys, ↓Xd, ↓Xe, ↓Xf, ↓Y4, ↓Y5, ↓Y7, ↓Y8, ↓Y9, ↓Za, ↓Zb, ↓Zc, ↓Yu, ↓Yz, ↓YA, ↓YF, ↓Xi, ↓XM, ↓Xl, ↓Xb, ↓Xc, ↓Xm, ↓Xj, ↓XN, ↓Xk, ↓XO, Zd, Ze, Zf, Zg, Zh, Zi, Yv, Yw, Yx, Yy, Zj, X0, X1, Xg, Xu, X2, X3, YC, YD, XZ, Xs, Xv, Xw, X4, X5, X6, X7, X8, Xh, XA, XB, XC, XD, XE, XF, YE, X9, XH, setAll, Yl, reduceCtorEq, ne_eq, not_false_eq_true, if_true, if_false, Bool.false_eq_true, Option.map_some, decide_eq_true_eq, Bool.not_true, Bool.not_false])
    cases c1 with
    | nil =>
      repeat (first | refine XJ ?_ | simp only [↓Yt m1, m1, ↓Y6 i1.1, YB i1.1, ↓Yb, ↓XQ, ↓YH, ↓Yd, ↓Ye, ↓Yg, ↓Yh, ↓Yi, ↓YI, ↓YJ, ↓Yj, ↓Yk, ↓XR, ↓XS, ↓YK, ↓Ym, ↓YL, ↓YM, ↓Yn, ↓YN, ↓YO, ↓XU, ↓YQ, ↓Yo, ↓YR, ↓Zk, ↓XV, ↓YS, ↓YT, ↓Zl, ↓YU, ↓Yp, ↓XW, ↓YV, ↓YW, ↓YX, ↓Yq, ↓YY, ↓YZ, ↓Y0, ↓Y1, ↓XX, ↓Xn, ↓Xo, ↓Y2, ↓Xp, ↓Xq, ↓Y3, ↓Yr, ↓Xr, ↓XY, ↓Ys, ↓Xd, ↓Xe, ↓Xf, ↓Y4, ↓Y5, ↓Y7, ↓Y8, ↓Y9, ↓Za, ↓Zb, ↓Zc, ↓Yu, ↓Yz, ↓YA, ↓YF, ↓Xi, ↓XM, ↓Xl, ↓Xb, ↓Xc, ↓Xm, ↓Xj, ↓XN, ↓Xk, ↓XO, Zd, Ze, Zf, Zg, Zh, Zi, Yv, Yw, Yx, Yy, Zj, X0, X1, Xg, Xu, X2, X3, YC, YD, XZ, Xs, Xv, Xw, X4, X5, X6, X7, X8, Xh, XA, XB, XC, XD, XE, XF, YE, X9, XH, setAll, Yl, reduceCtorEq, ne_eq, not_false_eq_true, if_true, if_false, Bool.false_eq_true, Option.map_some, decide_eq_true_eq, Bool.not_true, Bool.not_false])
      rw [← e2] at k
      repeat (first | refine XJ ?_ | simp only [↓Yb, ↓XQ, ↓YH, ↓Yd, ↓Ye, ↓Yg, ↓Yh, ↓Yi, ↓YI, ↓YJ, ↓Yj, ↓Yk, ↓XR, ↓XS, ↓YK, ↓Ym, ↓YL, ↓YM, ↓Yn, ↓YN, ↓YO, ↓XU, ↓YQ, ↓Yo, ↓YR, ↓Zk, ↓XV, ↓YS, ↓YT, ↓Zl, ↓YU, ↓Yp, ↓XW, ↓YV, ↓YW, ↓YX, ↓Yq, ↓YY, ↓YZ, ↓Y0, ↓Y1, ↓XX, ↓Xn, ↓Xo, ↓Y2, ↓Xp, ↓Xq, ↓Y3, ↓Yr, ↓Xr, ↓XY, ↓Ys, ↓Xd, ↓Xe, ↓Xf, ↓Y4, ↓Y5, ↓Y7, ↓Y8, ↓Y9, ↓Za, ↓Zb, ↓Zc, ↓Yu, ↓Yz, ↓YA, ↓YF, ↓Xi, ↓XM, ↓Xl, ↓Xb, ↓Xc, ↓Xm, ↓Xj, ↓XN, ↓Xk, ↓XO, Zd, Ze, Zf, Zg, Zh, Zi, Yv, Yw, Yx, Yy, Zj, X0, X1, Xg, Xu, X2, X3, YC, YD, XZ, Xs, Xv, Xw, X4, X5, X6, X7, X8, Xh, XA, XB, XC, XD, XE, XF, YE, X9, XH, setAll, Yl, reduceCtorEq, ne_eq, not_false_eq_true, if_true, if_false, Bool.false_eq_true, Option.map_some, decide_eq_true_eq, Bool.not_true, Bool.not_false])
      exact ⟨_, Sub.refl, k⟩
    | cons f c1 =>
      obtain ⟨ef, is, K⟩ := K
      unfold Frm.obj at ef
      repeat (first | refine XJ ?_ | simp only [↓Yt m1, m1, ↓Y6 i1.1, YB i1.1, ↓Y6 ef, YB ef, ↓Yb, ↓XQ, ↓YH, ↓Yd, ↓Ye, ↓Yg, ↓Yh, ↓Yi, ↓YI, ↓YJ, ↓Yj, ↓Yk, ↓XR, ↓XS, ↓YK, ↓Ym, ↓YL, ↓YM, ↓Yn, ↓YN, ↓YO, ↓XU, ↓YQ, ↓Yo, ↓YR, ↓Zk, ↓XV, ↓YS, ↓YT, ↓Zl, ↓YU, ↓Yp, ↓XW, ↓YV, ↓YW, ↓YX, ↓Yq, ↓YY, ↓YZ, ↓Y0, ↓Y1, ↓XX, ↓Xn, ↓Xo, ↓Y2, ↓Xp, ↓Xq, ↓Y3, ↓Yr, ↓Xr, ↓XY, ↓Ys, ↓Xd, ↓Xe, ↓Xf, ↓Y4, ↓Y5, ↓Y7, ↓Y8, ↓Y9, ↓Za, ↓Zb, ↓Zc, ↓Yu, ↓Yz, ↓YA, ↓YF, ↓Xi, ↓XM, ↓Xl, ↓Xb, ↓Xc, ↓Xm, ↓Xj, ↓XN, ↓Xk, ↓XO, Zd, Ze, Zf, Zg, Zh, Zi, Yv, Yw, Yx, Yy, Zj, X0, X1, Xg, Xu, X2, X3, YC, YD, XZ, Xs, Xv, Xw, X4, X5, X6, X7, X8, Xh, XA, XB, XC, XD, XE, XF, YE, X9, XH, setAll, Yl, reduceCtorEq, ne_eq, not_false_eq_true, if_true, if_false, Bool.false_eq_true, Option.map_some, decide_eq_true_eq, Bool.not_true, Bool.not_false])
      obtain ⟨lft, b, o', p', s⟩ := f
      cases lft with
      | true =>
        repeat (first | refine XJ ?_ | simp only [T.ptr, ↓Yt m1, m1, ↓Y6 i1.1, YB i1.1, ↓Y6 ef, YB ef, ↓Yb, ↓XQ, ↓YH, ↓Yd, ↓Ye, ↓Yg, ↓Yh, ↓Yi, ↓YI, ↓YJ, ↓Yj, ↓Yk, ↓XR, ↓XS, ↓YK, ↓Ym, ↓YL, ↓YM, ↓Yn, ↓YN, ↓YO, ↓XU, ↓YQ, ↓Yo, ↓YR, ↓Zk, ↓XV, ↓YS, ↓YT, ↓Zl, ↓YU, ↓Yp, ↓XW, ↓YV, ↓YW, ↓YX, ↓Yq, ↓YY, ↓YZ, ↓Y0, ↓Y1, ↓XX, ↓Xn, ↓Xo, ↓Y2, ↓Xp, ↓Xq, ↓Y3, ↓Yr, ↓Xr, ↓XY, ↓Ys, ↓Xd, ↓Xe, ↓Xf, ↓Y4, ↓Y5, ↓Y7, ↓Y8, ↓Y9, ↓Za, ↓Zb, ↓Zc, ↓Yu, ↓Yz, ↓YA, ↓YF, ↓Xi, ↓XM, ↓Xl, ↓Xb, ↓Xc, ↓Xm, ↓Xj, ↓XN, ↓Xk, ↓XO, Zd, Ze, Zf, Zg, Zh, Zi, Yv, Yw, Yx, Yy, Zj, X0, X1, Xg, Xu, X2, X3, YC, YD, XZ, Xs, Xv, Xw, X4, X5, X6, X7, X8, Xh, XA, XB, XC, XD, XE, XF, YE, X9, XH, setAll, Yl, reduceCtorEq, ne_eq, not_false_eq_true, if_true, if_false, Bool.false_eq_true, Option.map_some, decide_eq_true_eq, Bool.not_true, Bool.not_false, true_and])
        refine ⟨c1.length, by simp, c1, b, o', p', .node a1 o1 p1 l1 r1, s, rfl, rfl, ?_, ?_⟩
        · rw [e, plug]; rfl
        · rw [← e2]; simp [inoL]
      | false =>
        have ex : Q (.ref b) h' := by rw [← e2] at k; simpa [inoL, T.ino, lastP, headP] using k
        cases s with
        | nil =>
          repeat (first | refine XJ ?_ | simp only [T.ptr, ↓Yt m1, m1, ↓Y6 i1.1, YB i1.1, ↓Yb, ↓XQ, ↓YH, ↓Yd, ↓Ye, ↓Yg, ↓Yh, ↓Yi, ↓YI, ↓YJ, ↓Yj, ↓Yk, ↓XR, ↓XS, ↓YK, ↓Ym, ↓YL, ↓YM, ↓Yn, ↓YN, ↓YO, ↓XU, ↓YQ, ↓Yo, ↓YR, ↓Zk, ↓XV, ↓YS, ↓YT, ↓Zl, ↓YU, ↓Yp, ↓XW, ↓YV, ↓YW, ↓YX, ↓Yq, ↓YY, ↓YZ, ↓Y0, ↓Y1, ↓XX, ↓Xn, ↓Xo, ↓Y2, ↓Xp, ↓Xq, ↓Y3, ↓Yr, ↓Xr, ↓XY, ↓Ys, ↓Xd, ↓Xe, ↓Xf, ↓Y4, ↓Y5, ↓Y7, ↓Y8, ↓Y9, ↓Za, ↓Zb, ↓Zc, ↓Yu, ↓Yz, ↓YA, ↓YF, ↓Xi, ↓XM, ↓Xl, ↓Xb, ↓Xc, ↓Xm, ↓Xj, ↓XN, ↓Xk, ↓XO, Zd, Ze, Zf, Zg, Zh, Zi, Yv, Yw, Yx, Yy, Zj, X0, X1, Xg, Xu, X2, X3, YC, YD, XZ, Xs, Xv, Xw, X4, X5, X6, X7, X8, Xh, XA, XB, XC, XD, XE, XF, YE, X9, XH, setAll, Yl, reduceCtorEq, ne_eq, not_false_eq_true, if_true, if_false, Bool.false_eq_true, Option.map_some, decide_eq_true_eq, Bool.not_true, Bool.not_false])
          exact ⟨_, Sub.refl, ex⟩
        | node d o2 p2 l2 r2 =>
          have da : d ≠ a1 := by
            simp only [adsC, ads_node, List.nodup_cons, List.nodup_append, List.mem_append, List.mem_cons, not_or] at nn
            grind
          repeat (first | refine XJ ?_ | simp only [T.ptr, XG da is.1 i1.1, ↓Yt m1, m1, ↓Y6 i1.1, YB i1.1, ↓Yb, ↓XQ, ↓YH, ↓Yd, ↓Ye, ↓Yg, ↓Yh, ↓Yi, ↓YI, ↓YJ, ↓Yj, ↓Yk, ↓XR, ↓XS, ↓YK, ↓Ym, ↓YL, ↓YM, ↓Yn, ↓YN, ↓YO, ↓XU, ↓YQ, ↓Yo, ↓YR, ↓Zk, ↓XV, ↓YS, ↓YT, ↓Zl, ↓YU, ↓Yp, ↓XW, ↓YV, ↓YW, ↓YX, ↓Yq, ↓YY, ↓YZ, ↓Y0, ↓Y1, ↓XX, ↓Xn, ↓Xo, ↓Y2, ↓Xp, ↓Xq, ↓Y3, ↓Yr, ↓Xr, ↓XY, ↓Ys, ↓Xd, ↓Xe, ↓Xf, ↓Y4, ↓Y5, ↓Y7, ↓Y8, ↓Y9, ↓Za, ↓Zb, ↓Zc, ↓Yu, ↓Yz, ↓YA, ↓YF, ↓Xi, ↓XM, ↓Xl, ↓Xb, ↓Xc, ↓Xm, ↓Xj, ↓XN, ↓Xk, ↓XO, Zd, Ze, Zf, Zg, Zh, Zi, Yv, Yw, Yx, Yy, Zj, X0, X1, Xg, Xu, X2, X3, YC, YD, XZ, Xs, Xv, Xw, X4, X5, X6, X7, X8, Xh, XA, XB, XC, XD, XE, XF, YE, X9, XH, setAll, Yl, reduceCtorEq, ne_eq, not_false_eq_true, if_true, if_false, Bool.false_eq_true, Option.map_some, decide_eq_true_eq, Bool.not_true, Bool.not_false])
          exact ⟨_, Sub.refl, ex⟩

theorem c_find_interval {h : Hp} {rt : Nat} {W : T} {i : Int} {Q : V → Hp → Prop} (H : Holds h rt W) (P : Pos W) (i0 : 0 ≤ i) (i1 : i < W.tot)
    (k : ∀ c a o p l r, W = plug c (.node a o p l r) → sumI (inoL c ++ l.ino) ≤ i → i < sumI (inoL c ++ l.ino) + o → Q (.tup [.ref a, .int (sumI (inoL c ++ l.ino))]) h) : Γ .find_interval [.ref rt, .int i] Q h := by
  refine U .find_interval rfl _ _ _ (wpB_i (ps := p_find_interval) (b := b_find_interval) rfl ?_)
  repeat (first | refine XJ ?_ | simp only [b_find_interval, p_find_interval, ↓Y6 H.root, YB H.root, ↓Yb, ↓XQ, ↓YH, ↓Yd, ↓Ye, ↓Yg, ↓Yh, ↓Yi, ↓YI, ↓YJ, ↓Yj, ↓Yk, ↓XR, ↓XS, ↓YK, ↓Ym, ↓YL, ↓YM, ↓Yn, ↓YN, ↓YO, ↓XU, ↓YQ, ↓Yo, ↓YR, ↓Zk, ↓XV, ↓YS, ↓YT, ↓Zl, ↓YU, ↓Yp, ↓XW, ↓YV, ↓YW, ↓YX, ↓Yq, ↓YY, ↓YZ, ↓Y0, ↓Y1, ↓XX, ↓Xn, ↓Xo, ↓Y2, ↓Xp, ↓Xq, ↓Y3, ↓Yr, ↓Xr, ↓XY, ↓Ys, ↓Xd, ↓Xe, ↓Xf, ↓Y4, ↓Y5, ↓Y7, ↓Y8, ↓Y9, ↓Za, ↓Zb, ↓Zc, ↓Yu, ↓Yz, ↓YA, ↓YF, ↓Xi, ↓XM, ↓Xl, ↓Xb, ↓Xc, ↓Xm, ↓Xj, ↓XN, ↓Xk, ↓XO, Zd, Ze, Zf, Zg, Zh, Zi, Yv, Yw, Yx, Yy, Zj, X0, X1, Xg, Xu, X2, X3, YC, YD, XZ, Xs, Xv, Xw, X4, X5, X6, X7, X8, Xh, XA, XB, XC, XD, XE, XF, YE, X9, XH, setAll, Yl, reduceCtorEq, ne_eq, not_false_eq_true, if_true, if_false, Bool.false_eq_true, Option.map_some, decide_eq_true_eq, Bool.not_true, Bool.not_false])
  refine ⟨fun n m h' => h' = h ∧ m .at = some (.int i) ∧ ∃ c1 u, m .node = some u.ptr ∧ m .begin = some (.int (sumI (inoL c1))) ∧ n = u.ino.length ∧ W = plug c1 u ∧ sumI (inoL c1) ≤ i ∧ i < sumI (inoL c1) + u.tot, ⟨_, rfl, rfl, [], W, rfl, rfl, rfl, rfl, by simpa [inoL, sumI] using i0, by simpa [inoL, sumI] using i1⟩, ?_⟩
  rintro n m h' ⟨rfl, m0, c1, u, m1, m2, rfl, e, j0, j1⟩
  cases u with
  | nil => simp only [T.tot] at j1; omega
  | node a o p l r =>
    have it : IsT h' (.node a o p l r) (par c1 .none) := by have := H; rw [e] at this; exact this.split.2.1
    simp only [T.tot] at j1
    repeat (first | refine XJ ?_ | simp only [T.ptr, ↓Yt m0, m0, ↓Yt m1, m1, ↓Yt m2, m2, ↓Y6 it.1, YB it.1, ↓Yb, ↓XQ, ↓YH, ↓Yd, ↓Ye, ↓Yg, ↓Yh, ↓Yi, ↓YI, ↓YJ, ↓Yj, ↓Yk, ↓XR, ↓XS, ↓YK, ↓Ym, ↓YL, ↓YM, ↓Yn, ↓YN, ↓YO, ↓XU, ↓YQ, ↓Yo, ↓YR, ↓Zk, ↓XV, ↓YS, ↓YT, ↓Zl, ↓YU, ↓Yp, ↓XW, ↓YV, ↓YW, ↓YX, ↓Yq, ↓YY, ↓YZ, ↓Y0, ↓Y1, ↓XX, ↓Xn, ↓Xo, ↓Y2, ↓Xp, ↓Xq, ↓Y3, ↓Yr, ↓Xr, ↓XY, ↓Ys, ↓Xd, ↓Xe, ↓Xf, ↓Y4, ↓Y5, ↓Y7, ↓Y8, ↓Y9, ↓Za, ↓Zb, ↓Zc, ↓Yu, ↓Yz, ↓YA, ↓YF, ↓Xi, ↓XM, ↓Xl, ↓Xb, ↓Xc, ↓Xm, ↓Xj, ↓XN, ↓Xk, ↓XO, Zd, Ze, Zf, Zg, Zh, Zi, Yv, Yw, Yx, Yy, Zj, X0, X1, Xg, Xu, X2, X3, YC, YD, XZ, Xs, Xv, Xw, X4, X5, X6, X7, X8, Xh, XA, XB, XC, XD, XE, XF, YE, X9, XH, setAll, Yl, reduceCtorEq, ne_eq, not_false_eq_true, if_true, if_false, Bool.false_eq_true, Option.map_some, decide_eq_true_eq, Bool.not_true, Bool.not_false])
    refine c_total_of U it.2.1 ?_
    repeat (first | refine XJ ?_ | simp only [↓Yt m0, m0, ↓Yt m1, m1, T.ptr, ↓Yb, ↓XQ, ↓YH, ↓Yd, ↓Ye, ↓Yg, ↓Yh, ↓Yi, ↓YI, ↓YJ, ↓Yj, ↓Yk, ↓XR, ↓XS, ↓YK, ↓Ym, ↓YL, ↓YM, ↓Yn, ↓YN, ↓YO, ↓XU, ↓YQ, ↓Yo, ↓YR, ↓Zk, ↓XV, ↓YS, ↓YT, ↓Zl, ↓YU, ↓Yp, ↓XW, ↓YV, ↓YW, ↓YX, ↓Yq, ↓YY, ↓YZ, ↓Y0, ↓Y1, ↓XX, ↓Xn, ↓Xo, ↓Y2, ↓Xp, ↓Xq, ↓Y3, ↓Yr, ↓Xr, ↓XY, ↓Ys, ↓Xd, ↓Xe, ↓Xf, ↓Y4, ↓Y5, ↓Y7, ↓Y8, ↓Y9, ↓Za, ↓Zb, ↓Zc, ↓Yu, ↓Yz, ↓YA, ↓YF, ↓Xi, ↓XM, ↓Xl, ↓Xb, ↓Xc, ↓Xm, ↓Xj, ↓XN, ↓Xk, ↓XO, Zd, Ze, Zf, Zg, Zh, Zi, Yv, Yw, Yx, Yy, Zj, X0, X1, Xg, Xu, X2, X3, YC, YD, XZ, Xs, Xv, Xw, X4, X5, X6, X7, X8, Xh, XA, XB, XC, XD, XE, XF, YE, X9, XH, setAll, Yl, reduceCtorEq, ne_eq, not_false_eq_true, if_true, if_false, Bool.false_eq_true, Option.map_some, decide_eq_true_eq, Bool.not_true, Bool.not_false])
    refine c_own_length U it ?_
    repeat (first | refine XJ ?_ | simp only [↓Yt m0, m0, ↓Yt m1, m1, ↓Yt m2, m2, T.ptr, ↓Y6 it.1, YB it.1, ↓Yb, ↓XQ, ↓YH, ↓Yd, ↓Ye, ↓Yg, ↓Yh, ↓Yi, ↓YI, ↓YJ, ↓Yj, ↓Yk, ↓XR, ↓XS, ↓YK, ↓Ym, ↓YL, ↓YM, ↓Yn, ↓YN, ↓YO, ↓XU, ↓YQ, ↓Yo, ↓YR, ↓Zk, ↓XV, ↓YS, ↓YT, ↓Zl, ↓YU, ↓Yp, ↓XW, ↓YV, ↓YW, ↓YX, ↓Yq, ↓YY, ↓YZ, ↓Y0, ↓Y1, ↓XX, ↓Xn, ↓Xo, ↓Y2, ↓Xp, ↓Xq, ↓Y3, ↓Yr, ↓Xr, ↓XY, ↓Ys, ↓Xd, ↓Xe, ↓Xf, ↓Y4, ↓Y5, ↓Y7, ↓Y8, ↓Y9, ↓Za, ↓Zb, ↓Zc, ↓Yu, ↓Yz, ↓YA, ↓YF, ↓Xi, ↓XM, ↓Xl, ↓Xb, ↓Xc, ↓Xm, ↓Xj, ↓XN, ↓Xk, ↓XO, Zd, Ze, Zf, Zg, Zh, Zi, Yv, Yw, Yx, Yy, Zj, X0, X1, Xg, Xu, X2, X3, YC, YD, XZ, Xs, Xv, Xw, X4, X5, X6, X7, X8, Xh, XA, XB, XC, XD, XE, XF, YE, X9, XH, setAll, Yl, reduceCtorEq, ne_eq, not_false_eq_true, if_true, if_false, Bool.false_eq_true, Option.map_some, decide_eq_true_eq, Bool.not_true, Bool.not_false])
    have sl : sumI (inoL c1 ++ l.ino) = sumI (inoL c1) + l.tot := by rw [sumI_append, tot_sum]
    split
    · repeat (first | refine XJ ?_ | simp only [↓Yt m0, m0, ↓Yt m1, m1, ↓Yt m2, m2, ↓Y6 it.1, YB it.1, T.ptr, true_and, ↓Yb, ↓XQ, ↓YH, ↓Yd, ↓Ye, ↓Yg, ↓Yh, ↓Yi, ↓YI, ↓YJ, ↓Yj, ↓Yk, ↓XR, ↓XS, ↓YK, ↓Ym, ↓YL, ↓YM, ↓Yn, ↓YN, ↓YO, ↓XU, ↓YQ, ↓Yo, ↓YR, ↓Zk, ↓XV, ↓YS, ↓YT, ↓Zl, ↓YU, ↓Yp, ↓XW, ↓YV, ↓YW, ↓YX, ↓Yq, ↓YY, ↓YZ, ↓Y0, ↓Y1, ↓XX, ↓Xn, ↓Xo, ↓Y2, ↓Xp, ↓Xq, ↓Y3, ↓Yr, ↓Xr, ↓XY, ↓Ys, ↓Xd, ↓Xe, ↓Xf, ↓Y4, ↓Y5, ↓Y7, ↓Y8, ↓Y9, ↓Za, ↓Zb, ↓Zc, ↓Yu, ↓Yz, ↓YA, ↓YF, ↓Xi, ↓XM, ↓Xl, ↓Xb, ↓Xc, ↓Xm, ↓Xj, ↓XN, ↓Xk, ↓XO, Zd, Ze, Zf, Zg, Zh, Zi, Yv, Yw, Yx, Yy, Zj, X0, X1, Xg, Xu, X2, X3, YC, YD, XZ, Xs, Xv, Xw, X4, X5, X6, X7, X8, Xh, XA, XB, XC, XD, XE, XF, YE, X9, XH, setAll, Yl, reduceCtorEq, ne_eq, not_false_eq_true, if_true, if_false, Bool.false_eq_true, Option.map_some, decide_eq_true_eq, Bool.not_true, Bool.not_false])
      exact ⟨_, by simp only [T.ino, List.length_append, List.length_cons]; omega, ⟨true, a, o, p, r⟩ :: c1, l, rfl, by simp [inoL], rfl, by rw [e]; rfl, by simpa [inoL] using j0, by simpa [inoL] using (by assumption)⟩
    · repeat (first | refine XJ ?_ | simp only [↓Yt m0, m0, ↓Yt m1, m1, ↓Yt m2, m2, ↓Yb, ↓XQ, ↓YH, ↓Yd, ↓Ye, ↓Yg, ↓Yh, ↓Yi, ↓YI, ↓YJ, ↓Yj, ↓Yk, ↓XR, ↓XS, ↓YK, ↓Ym, ↓YL, ↓YM, ↓Yn, ↓YN, ↓YO, ↓XU, ↓YQ, ↓Yo, ↓YR, ↓Zk, ↓XV, ↓YS, ↓YT, ↓Zl, ↓YU, ↓Yp, ↓XW, ↓YV, ↓YW, ↓YX, ↓Yq, ↓YY, ↓YZ, ↓Y0, ↓Y1, ↓XX, ↓Xn, ↓Xo, ↓Y2, ↓Xp, ↓Xq, ↓Y3, ↓Yr, ↓Xr, ↓XY, ↓Ys, ↓Xd, ↓Xe, ↓Xf, ↓Y4, ↓Y5, ↓Y7, ↓Y8, ↓Y9, ↓Za, ↓Zb, ↓Zc, ↓Yu, ↓Yz, ↓YA, ↓YF, ↓Xi, ↓XM, ↓Xl, ↓Xb, ↓Xc, ↓Xm, ↓Xj, ↓XN, ↓Xk, ↓XO, Zd, Ze, Zf, Zg, Zh, Zi, Yv, Yw, Yx, Yy, Zj, X0, X1, Xg, Xu, X2, X3, YC, YD, XZ, Xs, Xv, Xw, X4, X5, X6, X7, X8, Xh, XA, XB, XC, XD, XE, XF, YE, X9, XH, setAll, Yl, reduceCtorEq, ne_eq, not_false_eq_true, if_true, if_false, Bool.false_eq_true, Option.map_some, decide_eq_true_eq, Bool.not_true, Bool.not_false])
      split
      · repeat (first | refine XJ ?_ | simp only [↓Yt m1, m1, ↓Yt m2, m2, ↓Yb, ↓XQ, ↓YH, ↓Yd, ↓Ye, ↓Yg, ↓Yh, ↓Yi, ↓YI, ↓YJ, ↓Yj, ↓Yk, ↓XR, ↓XS, ↓YK, ↓Ym, ↓YL, ↓YM, ↓Yn, ↓YN, ↓YO, ↓XU, ↓YQ, ↓Yo, ↓YR, ↓Zk, ↓XV, ↓YS, ↓YT, ↓Zl, ↓YU, ↓Yp, ↓XW, ↓YV, ↓YW, ↓YX, ↓Yq, ↓YY, ↓YZ, ↓Y0, ↓Y1, ↓XX, ↓Xn, ↓Xo, ↓Y2, ↓Xp, ↓Xq, ↓Y3, ↓Yr, ↓Xr, ↓XY, ↓Ys, ↓Xd, ↓Xe, ↓Xf, ↓Y4, ↓Y5, ↓Y7, ↓Y8, ↓Y9, ↓Za, ↓Zb, ↓Zc, ↓Yu, ↓Yz, ↓YA, ↓YF, ↓Xi, ↓XM, ↓Xl, ↓Xb, ↓Xc, ↓Xm, ↓Xj, ↓XN, ↓Xk, ↓XO, Zd, Ze, Zf, Zg, Zh, Zi, Yv, Yw, Yx, Yy, Zj, X0, X1, Xg, Xu, X2, X3, YC, YD, XZ, Xs, Xv, Xw, X4, X5, X6, X7, X8, Xh, XA, XB, XC, XD, XE, XF, YE, X9, XH, setAll, Yl, reduceCtorEq, ne_eq, not_false_eq_true, if_true, if_false, Bool.false_eq_true, Option.map_some, decide_eq_true_eq, Bool.not_true, Bool.not_false])
        refine ⟨_, Sub.refl, ?_⟩
        have := k c1 a o p l r e (by rw [sl]; omega) (by rw [sl]; omega)
        rw [sl] at this
        exact this
      · repeat (first | refine XJ ?_ | simp only [↓Yt m0, m0, ↓Yt m1, m1, ↓Yt m2, m2, ↓Y6 it.1, YB it.1, T.ptr, true_and, ↓Yb, ↓XQ, ↓YH, ↓Yd, ↓Ye, ↓Yg, ↓Yh, ↓Yi, ↓YI, ↓YJ, ↓Yj, ↓Yk, ↓XR, ↓XS, ↓YK, ↓Ym, ↓YL, ↓YM, ↓Yn, ↓YN, ↓YO, ↓XU, ↓YQ, ↓Yo, ↓YR, ↓Zk, ↓XV, ↓YS, ↓YT, ↓Zl, ↓YU, ↓Yp, ↓XW, ↓YV, ↓YW, ↓YX, ↓Yq, ↓YY, ↓YZ, ↓Y0, ↓Y1, ↓XX, ↓Xn, ↓Xo, ↓Y2, ↓Xp, ↓Xq, ↓Y3, ↓Yr, ↓Xr, ↓XY, ↓Ys, ↓Xd, ↓Xe, ↓Xf, ↓Y4, ↓Y5, ↓Y7, ↓Y8, ↓Y9, ↓Za, ↓Zb, ↓Zc, ↓Yu, ↓Yz, ↓YA, ↓YF, ↓Xi, ↓XM, ↓Xl, ↓Xb, ↓Xc, ↓Xm, ↓Xj, ↓XN, ↓Xk, ↓XO, Zd, Ze, Zf, Zg, Zh, Zi, Yv, Yw, Yx, Yy, Zj, X0, X1, Xg, Xu, X2, X3, YC, YD, XZ, Xs, Xv, Xw, X4, X5, X6, X7, X8, Xh, XA, XB, XC, XD, XE, XF, YE, X9, XH, setAll, Yl, reduceCtorEq, ne_eq, not_false_eq_true, if_true, if_false, Bool.false_eq_true, Option.map_some, decide_eq_true_eq, Bool.not_true, Bool.not_false])
        have sr : sumI (inoL (⟨false, a, o, p, l⟩ :: c1)) = sumI (inoL c1) + l.tot + o := by simp [inoL, sumI_append, sumI_cons, tot_sum]; simp [sumI]; omega
        exact ⟨_, by simp only [T.ino, List.length_append, List.length_cons]; omega, ⟨false, a, o, p, l⟩ :: c1, r, rfl, by rw [sr], rfl, by rw [e]; rfl, by rw [sr]; omega, by rw [sr]; omega⟩
end
end Mine

namespace Mine
theorem inoL_append : ∀ {c d : Ctx}, inoL (c ++ d) = inoL d ++ inoL c
  | [], d => by simp [inoL]
  | f :: c, d => by rw [List.cons_append, inoL, inoL, inoL_append]; simp
theorem inoR_append : ∀ {c d : Ctx}, inoR (c ++ d) = inoR c ++ inoR d
  | [], d => by simp [inoR]
  | f :: c, d => by rw [List.cons_append, inoR, inoR, inoR_append]; simp
theorem splitT : ∀ (W : T) (xs ys : List (Nat × Int × V)) (a : Nat) (o : Int) (p : V), W.ino = xs ++ (a, o, p) :: ys → ∃ c l r, W = plug c (.node a o p l r) ∧ inoL c ++ l.ino = xs ∧ r.ino ++ inoR c = ys
  | .nil, xs, ys, a, o, p, e => by simp [T.ino] at e
  | .node b ob pb l r, xs, ys, a, o, p, e => by
    rw [T.ino] at e
    rcases List.append_eq_append_iff.mp e with ⟨as, e1, e2⟩ | ⟨bs, e1, e2⟩
    · cases as with
      | nil =>
        simp only [List.nil_append, List.cons.injEq, Prod.mk.injEq] at e2
        obtain ⟨⟨rfl, rfl, rfl⟩, rfl⟩ := e2
        exact ⟨[], l, r, rfl, by simp [inoL, e1], by simp [inoR]⟩
      | cons y as =>
        simp only [List.cons_append, List.cons.injEq] at e2
        obtain ⟨rfl, e2⟩ := e2
        obtain ⟨c, l', r', h1, h2, h3⟩ := splitT r as ys a o p e2
        refine ⟨c ++ [⟨false, b, ob, pb, l⟩], l', r', ?_, ?_, ?_⟩
        · rw [plug_append, ← h1]; rfl
        · rw [inoL_append, e1, ← h2]; simp [inoL]
        · rw [inoR_append, ← h3]; simp [inoR]
    · cases bs with
      | nil =>
        simp only [List.nil_append, List.cons.injEq, Prod.mk.injEq] at e2
        obtain ⟨⟨rfl, rfl, rfl⟩, rfl⟩ := e2
        exact ⟨[], l, r, rfl, by simpa [inoL] using e1, by simp [inoR]⟩
      | cons y bs =>
        simp only [List.cons_append, List.cons.injEq] at e2
        obtain ⟨rfl, e2⟩ := e2
        obtain ⟨c, l', r', h1, h2, h3⟩ := splitT l xs bs a o p e1
        refine ⟨c ++ [⟨true, b, ob, pb, r⟩], l', r', ?_, ?_, ?_⟩
        · rw [plug_append, ← h1]; rfl
        · rw [inoL_append, ← h2]; simp [inoL]
        · rw [inoR_append, e2, ← h3]; simp [inoR]
theorem mem_adsC {c : Ctx} {t : T} {x : Nat} : x ∈ (plug c t).ads ↔ x ∈ adsC c ∨ x ∈ t.ads := by rw [perm_ads.mem_iff, List.mem_append]

/-- a node is hung into a hole -/
theorem hang {h h1 : Hp} {rt x : Nat} {f : Frm} {c : Ctx} {m : Int} {pl : V} (H : Holds h rt (plug (f :: c) .nil)) (nx : x ≠ rt) (xW : x ∉ (plug (f :: c) .nil).ads)
    (e : h1 f.a = some (f.obj 0 (.ref x) (par c .none))) (fr : ∀ y, y ≠ f.a → y ≠ x → h1 y = h y) : HoldC h1 rt (f :: c) (.ref x) 0 ∧ (rt :: (adsC (f :: c) ++ (T.node x m pl .nil .nil).ads)).Nodup := by
  obtain ⟨⟨hr, ef, hs, hk⟩, _, nn⟩ := H.split
  rw [mem_adsC, not_or] at xW
  have x1 := xW.1
  simp only [ads_nil, ads_node, adsC, List.append_nil, List.nil_append, List.nodup_cons, List.nodup_append, List.mem_append, List.mem_cons, not_or] at nn x1 ⊢
  refine ⟨⟨(fr rt (by grind) (Ne.symm nx)).trans hr, e, hs.frame fun y m => fr y (by grind) (by grind), hk.frame fun y m => fr y (by grind) (by grind)⟩, ?_⟩
  grind
section
variable {Γ : Ctr} (U : Base Γ)
include U
theorem c_tail {h1 : Hp} {rt x : Nat} {f : Frm} {c : Ctx} {m : Int} {pl : V} {R : Hp → Prop} {F : V → Hp → Prop} (H : HoldC h1 rt (f :: c) (.ref x) 0) (nn : (rt :: (adsC (f :: c) ++ (T.node x m pl .nil .nil).ads)).Nodup)
    (i : IsT h1 (.node x m pl .nil .nil) (.ref f.a)) (P : Pos (plug (f :: c) (.node x m pl .nil .nil))) (sz : (plug (f :: c) (.node x m pl .nil .nil)).ino.length ≤ 1000)
    (hF : ∀ v h, h x = some (nd m pl .none .none (.ref f.a)) → Γ .settle_up [.ref rt, .ref f.a] (fun _ h => R h) h → F v h)
    (k : ∀ h' W', Holds h' rt W' → W'.ino = (plug (f :: c) (.node x m pl .nil .nil)).ino → (∀ y, y ≠ rt → y ∉ adsC (f :: c) → y ≠ x → h' y = h1 y) → R h') :
    Γ .add_above [.ref f.a, .int m] F h1 := by
  have nn2 : (rt :: adsC (f :: c)).Nodup := by simp only [List.nodup_cons, List.nodup_append, List.mem_append, not_or] at nn ⊢; exact ⟨nn.1.1, nn.2.1⟩
  have xn : ∀ y, y ∈ (T.node x m pl .nil .nil).ads → y ∉ adsC (f :: c) := fun y m m' => by
    simp only [List.nodup_cons, List.nodup_append, List.mem_append, not_or] at nn
    exact nn.2.2.2 y m' y m rfl
  repeat (first | refine XJ ?_ | simp only [↓Yb, ↓XQ, ↓YH, ↓Yd, ↓Ye, ↓Yg, ↓Yh, ↓Yi, ↓YI, ↓YJ, ↓Yj, ↓Yk, ↓XR, ↓XS, ↓YK, ↓Ym, ↓YL, ↓YM, ↓Yn, ↓YN, ↓YO, ↓XU, ↓YQ, ↓Yo, ↓YR, ↓Zk, ↓XV, ↓YS, ↓YT, ↓Zl, ↓YU, ↓Yp, ↓XW, ↓YV, ↓YW, ↓YX, ↓Yq, ↓YY, ↓YZ, ↓Y0, ↓Y1, ↓XX, ↓Xn, ↓Xo, ↓Y2, ↓Xp, ↓Xq, ↓Y3, ↓Yr, ↓Xr, ↓XY, ↓Ys, ↓Xd, ↓Xe, ↓Xf, ↓Y4, ↓Y5, ↓Y7, ↓Y8, ↓Y9, ↓Za, ↓Zb, ↓Zc, ↓Yu, ↓Yz, ↓YA, ↓YF, ↓Xi, ↓XM, ↓Xl, ↓Xb, ↓Xc, ↓Xm, ↓Xj, ↓XN, ↓Xk, ↓XO, Zd, Ze, Zf, Zg, Zh, Zi, Yv, Yw, Yx, Yy, Zj, X0, X1, Xg, Xu, X2, X3, YC, YD, XZ, Xs, Xv, Xw, X4, X5, X6, X7, X8, Xh, XA, XB, XC, XD, XE, XF, YE, X9, XH, setAll, Yl, reduceCtorEq, ne_eq, not_false_eq_true, if_true, if_false, Bool.false_eq_true, Option.map_some, decide_eq_true_eq, Bool.not_true, Bool.not_false])
  refine c_add_above U (c := f :: c) H nn2 fun h2 H2 fr2 => ?_
  have i2 := i.frame fun y m => fr2 y (xn y m)
  have H3 : Holds h2 rt (plug (f :: c) (.node x m pl .nil .nil)) := HoldC.join (by
    simp only [T.tot, T.ptr]
    rw [show m + 0 + 0 = 0 + m by omega]; exact H2) i2 nn
  refine hF .none h2 ?_ (c_settle_up U (c := f :: c) H3 P sz fun h3 W' M => k h3 W' M.holds M.ino fun y n1 n2 n3 => (M.fr y n1 ?_).trans (fr2 y n2))
  · have := i2.1
    simp only [T.tot, T.ptr] at this
    rw [show m + 0 + 0 = m by omega] at this; exact this
  · rw [mem_adsC]
    simp only [ads_node, ads_nil, List.nil_append, List.mem_cons, List.not_mem_nil, or_false, not_or]
    exact ⟨n2, n3⟩
theorem c_put_behind {h : Hp} {rt a x : Nat} {o m : Int} {p pl : V} {l r : T} {c : Ctx} {Q : V → Hp → Prop} (H : Holds h rt (plug c (.node a o p l r))) (P : Pos (plug c (.node a o p l r))) (hm : 0 < m)
    (ex : h x = some (nd m pl .none .none .none)) (nx : x ≠ rt) (xW : x ∉ (plug c (.node a o p l r)).ads) (sz : (plug c (.node a o p l r)).ino.length + 1 ≤ 1000)
    (k : ∀ h' W', Holds h' rt W' → W'.ino = inoL c ++ l.ino ++ (a, o, p) :: (x, m, pl) :: (r.ino ++ inoR c) → (∀ y, y ≠ rt → y ∉ (plug c (.node a o p l r)).ads → y ≠ x → h' y = h y) → Q .none h') : Γ .put_behind [.ref rt, .ref a, .ref x] Q h := by
  refine U .put_behind rfl _ _ _ (wpB_i (ps := p_put_behind) (b := b_put_behind) rfl ?_)
  have ina : a ∈ (plug c (.node a o p l r)).ads := by rw [mem_adsC]; simp [ads_node]
  have xa : x ≠ a := fun z => xW (z ▸ ina)
  have i := H.split.2.1
  have ix : IsT h (.node x m pl .nil .nil) .none := ⟨by simp only [T.tot, T.ptr, Int.add_zero]; exact ex, trivial, trivial⟩
  have nx1 : (T.node x m pl .nil .nil).ads.Nodup := by simp [ads_node, ads_nil]
  have key : ∀ (f : Frm) (c2 : Ctx) (h1 : Hp) (F : V → Hp → Prop), plug c (.node a o p l r) = plug (f :: c2) .nil → (plug (f :: c2) (.node x m pl .nil .nil)).ino = inoL c ++ l.ino ++ (a, o, p) :: (x, m, pl) :: (r.ino ++ inoR c) →
      h1 f.a = some (f.obj 0 (.ref x) (par c2 .none)) → IsT h1 (.node x m pl .nil .nil) (.ref f.a) → (∀ y, y ≠ f.a → y ∉ (T.node x m pl .nil .nil).ads → h1 y = h y) →
      (∀ v h, h x = some (nd m pl .none .none (.ref f.a)) → Γ .settle_up [.ref rt, .ref f.a] (fun _ h => ∃ h'', Sub h'' h ∧ Q .none h'') h → F v h) → Γ .add_above [.ref f.a, .int m] F h1 := by
    intro f c2 h1 F e1 e2 e3 i1 f1 hF
    have fr : ∀ y, y ≠ f.a → y ≠ x → h1 y = h y := fun y n1 n2 => f1 y n1 (by simp [ads_node, ads_nil, n2])
    obtain ⟨H1, nn⟩ := hang (m := m) (pl := pl) (e1 ▸ H) nx (e1 ▸ xW) e3 fr
    repeat (first | refine XJ ?_ | simp only [↓Yb, ↓XQ, ↓YH, ↓Yd, ↓Ye, ↓Yg, ↓Yh, ↓Yi, ↓YI, ↓YJ, ↓Yj, ↓Yk, ↓XR, ↓XS, ↓YK, ↓Ym, ↓YL, ↓YM, ↓Yn, ↓YN, ↓YO, ↓XU, ↓YQ, ↓Yo, ↓YR, ↓Zk, ↓XV, ↓YS, ↓YT, ↓Zl, ↓YU, ↓Yp, ↓XW, ↓YV, ↓YW, ↓YX, ↓Yq, ↓YY, ↓YZ, ↓Y0, ↓Y1, ↓XX, ↓Xn, ↓Xo, ↓Y2, ↓Xp, ↓Xq, ↓Y3, ↓Yr, ↓Xr, ↓XY, ↓Ys, ↓Xd, ↓Xe, ↓Xf, ↓Y4, ↓Y5, ↓Y7, ↓Y8, ↓Y9, ↓Za, ↓Zb, ↓Zc, ↓Yu, ↓Yz, ↓YA, ↓YF, ↓Xi, ↓XM, ↓Xl, ↓Xb, ↓Xc, ↓Xm, ↓Xj, ↓XN, ↓Xk, ↓XO, Zd, Ze, Zf, Zg, Zh, Zi, Yv, Yw, Yx, Yy, Zj, X0, X1, Xg, Xu, X2, X3, YC, YD, XZ, Xs, Xv, Xw, X4, X5, X6, X7, X8, Xh, XA, XB, XC, XD, XE, XF, YE, X9, XH, setAll, Yl, reduceCtorEq, ne_eq, not_false_eq_true, if_true, if_false, Bool.false_eq_true, Option.map_some, decide_eq_true_eq, Bool.not_true, Bool.not_false])
    refine c_tail U H1 nn i1 ?_ ?_ hF fun h' W' H' eW f' => ⟨_, Sub.refl, k h' W' H' (eW.trans e2) fun y n1 n2 n3 => ?_⟩
    · unfold Pos
      rw [e2]
      intro z mz
      simp only [List.mem_append, List.mem_cons] at mz
      have : z = (x, m, pl) ∨ z ∈ (plug c (.node a o p l r)).ino := by rw [ino_plug, T.ino]; simp only [List.mem_append, List.mem_cons]; grind
      rcases this with rfl | mz
      · exact hm
      · exact P z mz
    · rw [e2]
      have := sz
      rw [ino_plug, T.ino] at this
      simp only [List.length_append, List.length_cons] at this ⊢
      omega
    · rw [e1, mem_adsC, not_or] at n2
      exact (f' y n1 n2.1 n3).trans (fr y (fun z => n2.1 (by simp [adsC, z])) n3)
  repeat (first | refine XJ ?_ | simp only [b_put_behind, p_put_behind, ↓Y6 i.1, YB i.1, ↓Yb, ↓XQ, ↓YH, ↓Yd, ↓Ye, ↓Yg, ↓Yh, ↓Yi, ↓YI, ↓YJ, ↓Yj, ↓Yk, ↓XR, ↓XS, ↓YK, ↓Ym, ↓YL, ↓YM, ↓Yn, ↓YN, ↓YO, ↓XU, ↓YQ, ↓Yo, ↓YR, ↓Zk, ↓XV, ↓YS, ↓YT, ↓Zl, ↓YU, ↓Yp, ↓XW, ↓YV, ↓YW, ↓YX, ↓Yq, ↓YY, ↓YZ, ↓Y0, ↓Y1, ↓XX, ↓Xn, ↓Xo, ↓Y2, ↓Xp, ↓Xq, ↓Y3, ↓Yr, ↓Xr, ↓XY, ↓Ys, ↓Xd, ↓Xe, ↓Xf, ↓Y4, ↓Y5, ↓Y7, ↓Y8, ↓Y9, ↓Za, ↓Zb, ↓Zc, ↓Yu, ↓Yz, ↓YA, ↓YF, ↓Xi, ↓XM, ↓Xl, ↓Xb, ↓Xc, ↓Xm, ↓Xj, ↓XN, ↓Xk, ↓XO, Zd, Ze, Zf, Zg, Zh, Zi, Yv, Yw, Yx, Yy, Zj, X0, X1, Xg, Xu, X2, X3, YC, YD, XZ, Xs, Xv, Xw, X4, X5, X6, X7, X8, Xh, XA, XB, XC, XD, XE, XF, YE, X9, XH, setAll, Yl, reduceCtorEq, ne_eq, not_false_eq_true, if_true, if_false, Bool.false_eq_true, Option.map_some, decide_eq_true_eq, Bool.not_true, Bool.not_false])
  cases r with
  | nil =>
    repeat (first | refine XJ ?_ | simp only [T.ptr, ↓Yb, ↓XQ, ↓YH, ↓Yd, ↓Ye, ↓Yg, ↓Yh, ↓Yi, ↓YI, ↓YJ, ↓Yj, ↓Yk, ↓XR, ↓XS, ↓YK, ↓Ym, ↓YL, ↓YM, ↓Yn, ↓YN, ↓YO, ↓XU, ↓YQ, ↓Yo, ↓YR, ↓Zk, ↓XV, ↓YS, ↓YT, ↓Zl, ↓YU, ↓Yp, ↓XW, ↓YV, ↓YW, ↓YX, ↓Yq, ↓YY, ↓YZ, ↓Y0, ↓Y1, ↓XX, ↓Xn, ↓Xo, ↓Y2, ↓Xp, ↓Xq, ↓Y3, ↓Yr, ↓Xr, ↓XY, ↓Ys, ↓Xd, ↓Xe, ↓Xf, ↓Y4, ↓Y5, ↓Y7, ↓Y8, ↓Y9, ↓Za, ↓Zb, ↓Zc, ↓Yu, ↓Yz, ↓YA, ↓YF, ↓Xi, ↓XM, ↓Xl, ↓Xb, ↓Xc, ↓Xm, ↓Xj, ↓XN, ↓Xk, ↓XO, Zd, Ze, Zf, Zg, Zh, Zi, Yv, Yw, Yx, Yy, Zj, X0, X1, Xg, Xu, X2, X3, YC, YD, XZ, Xs, Xv, Xw, X4, X5, X6, X7, X8, Xh, XA, XB, XC, XD, XE, XF, YE, X9, XH, setAll, Yl, reduceCtorEq, ne_eq, not_false_eq_true, if_true, if_false, Bool.false_eq_true, Option.map_some, decide_eq_true_eq, Bool.not_true, Bool.not_false])
    refine c_set_right (s := .node x m pl .nil .nil) U i.1 ix nx1 (by simp [ads_node, ads_nil, Ne.symm xa]) fun h1 e1 i1 f1 => ?_
    repeat (first | refine XJ ?_ | simp only [↓Y6 i1.1, YB i1.1, T.tot, Int.add_zero, ↓Yb, ↓XQ, ↓YH, ↓Yd, ↓Ye, ↓Yg, ↓Yh, ↓Yi, ↓YI, ↓YJ, ↓Yj, ↓Yk, ↓XR, ↓XS, ↓YK, ↓Ym, ↓YL, ↓YM, ↓Yn, ↓YN, ↓YO, ↓XU, ↓YQ, ↓Yo, ↓YR, ↓Zk, ↓XV, ↓YS, ↓YT, ↓Zl, ↓YU, ↓Yp, ↓XW, ↓YV, ↓YW, ↓YX, ↓Yq, ↓YY, ↓YZ, ↓Y0, ↓Y1, ↓XX, ↓Xn, ↓Xo, ↓Y2, ↓Xp, ↓Xq, ↓Y3, ↓Yr, ↓Xr, ↓XY, ↓Ys, ↓Xd, ↓Xe, ↓Xf, ↓Y4, ↓Y5, ↓Y7, ↓Y8, ↓Y9, ↓Za, ↓Zb, ↓Zc, ↓Yu, ↓Yz, ↓YA, ↓YF, ↓Xi, ↓XM, ↓Xl, ↓Xb, ↓Xc, ↓Xm, ↓Xj, ↓XN, ↓Xk, ↓XO, Zd, Ze, Zf, Zg, Zh, Zi, Yv, Yw, Yx, Yy, Zj, X0, X1, Xg, Xu, X2, X3, YC, YD, XZ, Xs, Xv, Xw, X4, X5, X6, X7, X8, Xh, XA, XB, XC, XD, XE, XF, YE, X9, XH, setAll, Yl, reduceCtorEq, ne_eq, not_false_eq_true, if_true, if_false, Bool.false_eq_true, Option.map_some, decide_eq_true_eq, Bool.not_true, Bool.not_false])
    refine key ⟨false, a, o, p, l⟩ c h1 _ rfl ?_ ?_ i1 f1 fun v h2 e2 s2 => ?_
    · rw [ino_plug]; simp [inoL, inoR, T.ino]
    · rw [e1]; simp only [Frm.obj, T.tot, ↓Yb, ↓XQ, ↓YH, ↓Yd, ↓Ye, ↓Yg, ↓Yh, ↓Yi, ↓YI, ↓YJ, ↓Yj, ↓Yk, ↓XR, ↓XS, ↓YK, ↓Ym, ↓YL, ↓YM, ↓Yn, ↓YN, ↓YO, ↓XU, ↓YQ, ↓Yo, ↓YR, ↓Zk, ↓XV, ↓YS, ↓YT, ↓Zl, ↓YU, ↓Yp, ↓XW, ↓YV, ↓YW, ↓YX, ↓Yq, ↓YY, ↓YZ, ↓Y0, ↓Y1, ↓XX, ↓Xn, ↓Xo, ↓Y2, ↓Xp, ↓Xq, ↓Y3, ↓Yr, ↓Xr, ↓XY, ↓Ys, ↓Xd, ↓Xe, ↓Xf, ↓Y4, ↓Y5, ↓Y7, ↓Y8, ↓Y9, ↓Za, ↓Zb, ↓Zc, ↓Yu, ↓Yz, ↓YA, ↓YF, ↓Xi, ↓XM, ↓Xl, ↓Xb, ↓Xc, ↓Xm, ↓Xj, ↓XN, ↓Xk, ↓XO, Zd, Ze, Zf, Zg, Zh, Zi, Yv, Yw, Yx, Yy, Zj, X0, X1, Xg, Xu, X2, X3, YC, YD, XZ, Xs, Xv, Xw, X4, X5, X6, X7, X8, Xh, XA, XB, XC, XD, XE, XF, YE, X9, XH, setAll, Yl, reduceCtorEq, ne_eq, not_false_eq_true, if_true, if_false, Bool.false_eq_true, Option.map_some, decide_eq_true_eq, Bool.not_true, Bool.not_false, T.ptr]; rw [show o + l.tot + 0 = 0 + o + l.tot by omega]
    · repeat (first | refine XJ ?_ | simp only [↓Y6 e2, YB e2, ↓Yb, ↓XQ, ↓YH, ↓Yd, ↓Ye, ↓Yg, ↓Yh, ↓Yi, ↓YI, ↓YJ, ↓Yj, ↓Yk, ↓XR, ↓XS, ↓YK, ↓Ym, ↓YL, ↓YM, ↓Yn, ↓YN, ↓YO, ↓XU, ↓YQ, ↓Yo, ↓YR, ↓Zk, ↓XV, ↓YS, ↓YT, ↓Zl, ↓YU, ↓Yp, ↓XW, ↓YV, ↓YW, ↓YX, ↓Yq, ↓YY, ↓YZ, ↓Y0, ↓Y1, ↓XX, ↓Xn, ↓Xo, ↓Y2, ↓Xp, ↓Xq, ↓Y3, ↓Yr, ↓Xr, ↓XY, ↓Ys, ↓Xd, ↓Xe, ↓Xf, ↓Y4, ↓Y5, ↓Y7, ↓Y8, ↓Y9, ↓Za, ↓Zb, ↓Zc, ↓Yu, ↓Yz, ↓YA, ↓YF, ↓Xi, ↓XM, ↓Xl, ↓Xb, ↓Xc, ↓Xm, ↓Xj, ↓XN, ↓Xk, ↓XO, Zd, Ze, Zf, Zg, Zh, Zi, Yv, Yw, Yx, Yy, Zj, X0, X1, Xg, Xu, X2, X3, YC, YD, XZ, Xs, Xv, Xw, X4, X5, X6, X7, X8, Xh, XA, XB, XC, XD, XE, XF, YE, X9, XH, setAll, Yl, reduceCtorEq, ne_eq, not_false_eq_true, if_true, if_false, Bool.false_eq_true, Option.map_some, decide_eq_true_eq, Bool.not_true, Bool.not_false])
      exact s2
  | node b ob pb lb rb =>
    repeat (first | refine XJ ?_ | simp only [T.ptr, ↓Y6 i.1, YB i.1, ↓Yb, ↓XQ, ↓YH, ↓Yd, ↓Ye, ↓Yg, ↓Yh, ↓Yi, ↓YI, ↓YJ, ↓Yj, ↓Yk, ↓XR, ↓XS, ↓YK, ↓Ym, ↓YL, ↓YM, ↓Yn, ↓YN, ↓YO, ↓XU, ↓YQ, ↓Yo, ↓YR, ↓Zk, ↓XV, ↓YS, ↓YT, ↓Zl, ↓YU, ↓Yp, ↓XW, ↓YV, ↓YW, ↓YX, ↓Yq, ↓YY, ↓YZ, ↓Y0, ↓Y1, ↓XX, ↓Xn, ↓Xo, ↓Y2, ↓Xp, ↓Xq, ↓Y3, ↓Yr, ↓Xr, ↓XY, ↓Ys, ↓Xd, ↓Xe, ↓Xf, ↓Y4, ↓Y5, ↓Y7, ↓Y8, ↓Y9, ↓Za, ↓Zb, ↓Zc, ↓Yu, ↓Yz, ↓YA, ↓YF, ↓Xi, ↓XM, ↓Xl, ↓Xb, ↓Xc, ↓Xm, ↓Xj, ↓XN, ↓Xk, ↓XO, Zd, Ze, Zf, Zg, Zh, Zi, Yv, Yw, Yx, Yy, Zj, X0, X1, Xg, Xu, X2, X3, YC, YD, XZ, Xs, Xv, Xw, X4, X5, X6, X7, X8, Xh, XA, XB, XC, XD, XE, XF, YE, X9, XH, setAll, Yl, reduceCtorEq, ne_eq, not_false_eq_true, if_true, if_false, Bool.false_eq_true, Option.map_some, decide_eq_true_eq, Bool.not_true, Bool.not_false])
    refine c_leftmost U i.2.2 fun c' b1 o1 p1 r1 e e2 => ?_
    have eW : plug c (.node a o p l (.node b ob pb lb rb)) = plug (⟨true, b1, o1, p1, r1⟩ :: (c' ++ ⟨false, a, o, p, l⟩ :: c)) .nil := by
      rw [e, plug, plug_append]; rfl
    have H1 := H
    rw [eW] at H1
    obtain ⟨⟨_, ef, _⟩, _, _⟩ := H1.split
    have xb : x ≠ b1 := fun z => by
      rw [eW, mem_adsC] at xW
      exact xW (.inl (by simp [adsC, z]))
    repeat (first | refine XJ ?_ | simp only [↓Yb, ↓XQ, ↓YH, ↓Yd, ↓Ye, ↓Yg, ↓Yh, ↓Yi, ↓YI, ↓YJ, ↓Yj, ↓Yk, ↓XR, ↓XS, ↓YK, ↓Ym, ↓YL, ↓YM, ↓Yn, ↓YN, ↓YO, ↓XU, ↓YQ, ↓Yo, ↓YR, ↓Zk, ↓XV, ↓YS, ↓YT, ↓Zl, ↓YU, ↓Yp, ↓XW, ↓YV, ↓YW, ↓YX, ↓Yq, ↓YY, ↓YZ, ↓Y0, ↓Y1, ↓XX, ↓Xn, ↓Xo, ↓Y2, ↓Xp, ↓Xq, ↓Y3, ↓Yr, ↓Xr, ↓XY, ↓Ys, ↓Xd, ↓Xe, ↓Xf, ↓Y4, ↓Y5, ↓Y7, ↓Y8, ↓Y9, ↓Za, ↓Zb, ↓Zc, ↓Yu, ↓Yz, ↓YA, ↓YF, ↓Xi, ↓XM, ↓Xl, ↓Xb, ↓Xc, ↓Xm, ↓Xj, ↓XN, ↓Xk, ↓XO, Zd, Ze, Zf, Zg, Zh, Zi, Yv, Yw, Yx, Yy, Zj, X0, X1, Xg, Xu, X2, X3, YC, YD, XZ, Xs, Xv, Xw, X4, X5, X6, X7, X8, Xh, XA, XB, XC, XD, XE, XF, YE, X9, XH, setAll, Yl, reduceCtorEq, ne_eq, not_false_eq_true, if_true, if_false, Bool.false_eq_true, Option.map_some, decide_eq_true_eq, Bool.not_true, Bool.not_false])
    refine c_set_left (s := .node x m pl .nil .nil) U ef ix nx1 (by simp [ads_node, ads_nil, Ne.symm xb]) fun h1 e1 i1 f1 => ?_
    repeat (first | refine XJ ?_ | simp only [↓Y6 i1.1, YB i1.1, T.tot, Int.add_zero, ↓Yb, ↓XQ, ↓YH, ↓Yd, ↓Ye, ↓Yg, ↓Yh, ↓Yi, ↓YI, ↓YJ, ↓Yj, ↓Yk, ↓XR, ↓XS, ↓YK, ↓Ym, ↓YL, ↓YM, ↓Yn, ↓YN, ↓YO, ↓XU, ↓YQ, ↓Yo, ↓YR, ↓Zk, ↓XV, ↓YS, ↓YT, ↓Zl, ↓YU, ↓Yp, ↓XW, ↓YV, ↓YW, ↓YX, ↓Yq, ↓YY, ↓YZ, ↓Y0, ↓Y1, ↓XX, ↓Xn, ↓Xo, ↓Y2, ↓Xp, ↓Xq, ↓Y3, ↓Yr, ↓Xr, ↓XY, ↓Ys, ↓Xd, ↓Xe, ↓Xf, ↓Y4, ↓Y5, ↓Y7, ↓Y8, ↓Y9, ↓Za, ↓Zb, ↓Zc, ↓Yu, ↓Yz, ↓YA, ↓YF, ↓Xi, ↓XM, ↓Xl, ↓Xb, ↓Xc, ↓Xm, ↓Xj, ↓XN, ↓Xk, ↓XO, Zd, Ze, Zf, Zg, Zh, Zi, Yv, Yw, Yx, Yy, Zj, X0, X1, Xg, Xu, X2, X3, YC, YD, XZ, Xs, Xv, Xw, X4, X5, X6, X7, X8, Xh, XA, XB, XC, XD, XE, XF, YE, X9, XH, setAll, Yl, reduceCtorEq, ne_eq, not_false_eq_true, if_true, if_false, Bool.false_eq_true, Option.map_some, decide_eq_true_eq, Bool.not_true, Bool.not_false])
    refine key ⟨true, b1, o1, p1, r1⟩ (c' ++ ⟨false, a, o, p, l⟩ :: c) h1 _ eW ?_ ?_ i1 f1 fun v h2 e2 s2 => ?_
    · have : (T.node b ob pb lb rb).ino = _ := congrArg T.ino e
      rw [this]
      repeat (first | refine XJ ?_ | simp only [ino_plug, inoL, inoR, inoL_append, inoR_append, e2, T.ino, ↓Yb, ↓XQ, ↓YH, ↓Yd, ↓Ye, ↓Yg, ↓Yh, ↓Yi, ↓YI, ↓YJ, ↓Yj, ↓Yk, ↓XR, ↓XS, ↓YK, ↓Ym, ↓YL, ↓YM, ↓Yn, ↓YN, ↓YO, ↓XU, ↓YQ, ↓Yo, ↓YR, ↓Zk, ↓XV, ↓YS, ↓YT, ↓Zl, ↓YU, ↓Yp, ↓XW, ↓YV, ↓YW, ↓YX, ↓Yq, ↓YY, ↓YZ, ↓Y0, ↓Y1, ↓XX, ↓Xn, ↓Xo, ↓Y2, ↓Xp, ↓Xq, ↓Y3, ↓Yr, ↓Xr, ↓XY, ↓Ys, ↓Xd, ↓Xe, ↓Xf, ↓Y4, ↓Y5, ↓Y7, ↓Y8, ↓Y9, ↓Za, ↓Zb, ↓Zc, ↓Yu, ↓Yz, ↓YA, ↓YF, ↓Xi, ↓XM, ↓Xl, ↓Xb, ↓Xc, ↓Xm, ↓Xj, ↓XN, ↓Xk, ↓XO, Zd, Ze, Zf, Zg, Zh, Zi, Yv, Yw, Yx, Yy, Zj, X0, X1, Xg, Xu, X2, X3, YC, YD, XZ, Xs, Xv, Xw, X4, X5, X6, X7, X8, Xh, XA, XB, XC, XD, XE, XF, YE, X9, XH, setAll, Yl, reduceCtorEq, ne_eq, not_false_eq_true, if_true, if_false, Bool.false_eq_true, Option.map_some, decide_eq_true_eq, Bool.not_true, Bool.not_false])
      simp
    · rw [e1]; simp only [Frm.obj, T.tot, ↓Yb, ↓XQ, ↓YH, ↓Yd, ↓Ye, ↓Yg, ↓Yh, ↓Yi, ↓YI, ↓YJ, ↓Yj, ↓Yk, ↓XR, ↓XS, ↓YK, ↓Ym, ↓YL, ↓YM, ↓Yn, ↓YN, ↓YO, ↓XU, ↓YQ, ↓Yo, ↓YR, ↓Zk, ↓XV, ↓YS, ↓YT, ↓Zl, ↓YU, ↓Yp, ↓XW, ↓YV, ↓YW, ↓YX, ↓Yq, ↓YY, ↓YZ, ↓Y0, ↓Y1, ↓XX, ↓Xn, ↓Xo, ↓Y2, ↓Xp, ↓Xq, ↓Y3, ↓Yr, ↓Xr, ↓XY, ↓Ys, ↓Xd, ↓Xe, ↓Xf, ↓Y4, ↓Y5, ↓Y7, ↓Y8, ↓Y9, ↓Za, ↓Zb, ↓Zc, ↓Yu, ↓Yz, ↓YA, ↓YF, ↓Xi, ↓XM, ↓Xl, ↓Xb, ↓Xc, ↓Xm, ↓Xj, ↓XN, ↓Xk, ↓XO, Zd, Ze, Zf, Zg, Zh, Zi, Yv, Yw, Yx, Yy, Zj, X0, X1, Xg, Xu, X2, X3, YC, YD, XZ, Xs, Xv, Xw, X4, X5, X6, X7, X8, Xh, XA, XB, XC, XD, XE, XF, YE, X9, XH, setAll, Yl, reduceCtorEq, ne_eq, not_false_eq_true, if_true, if_false, Bool.false_eq_true, Option.map_some, decide_eq_true_eq, Bool.not_true, Bool.not_false, T.ptr]
    · repeat (first | refine XJ ?_ | simp only [↓Y6 e2, YB e2, ↓Yb, ↓XQ, ↓YH, ↓Yd, ↓Ye, ↓Yg, ↓Yh, ↓Yi, ↓YI, ↓YJ, ↓Yj, ↓Yk, ↓XR, ↓XS, ↓YK, ↓Ym, ↓YL, ↓YM, ↓Yn, ↓YN, ↓YO, ↓XU, ↓YQ, ↓Yo, ↓YR, ↓Zk, ↓XV, ↓YS, ↓YT, ↓Zl, ↓YU, ↓Yp, ↓XW, ↓YV, ↓YW, ↓YX, ↓Yq, ↓YY, ↓YZ, ↓Y0, ↓Y1, ↓XX, ↓Xn, ↓Xo, ↓Y2, ↓Xp, ↓Xq, ↓Y3, ↓Yr, ↓Xr, ↓XY, ↓Ys, ↓Xd, ↓Xe, ↓Xf, ↓Y4, ↓Y5, ↓Y7, ↓Y8, ↓Y9, ↓Za, ↓Zb, ↓Zc, ↓Yu, ↓Yz, ↓YA, ↓YF, ↓Xi, ↓XM, ↓Xl, ↓Xb, ↓Xc, ↓Xm, ↓Xj, ↓XN, ↓Xk, ↓XO, Zd, Ze, Zf, Zg, Zh, Zi, Yv, Yw, Yx, Yy, Zj, X0, X1, Xg, Xu, X2, X3, YC, YD, XZ, Xs, Xv, Xw, X4, X5, X6, X7, X8, Xh, XA, XB, XC, XD, XE, XF, YE, X9, XH, setAll, Yl, reduceCtorEq, ne_eq, not_false_eq_true, if_true, if_false, Bool.false_eq_true, Option.map_some, decide_eq_true_eq, Bool.not_true, Bool.not_false])
      exact s2
end
end Mine

namespace Mine
section
variable {Γ : Ctr} (U : Base Γ)
include U
theorem c_put_ahead {h : Hp} {rt a x : Nat} {o m : Int} {p pl : V} {l r : T} {c : Ctx} {Q : V → Hp → Prop} (H : Holds h rt (plug c (.node a o p l r))) (P : Pos (plug c (.node a o p l r))) (hm : 0 < m)
    (ex : h x = some (nd m pl .none .none .none)) (nx : x ≠ rt) (xW : x ∉ (plug c (.node a o p l r)).ads) (sz : (plug c (.node a o p l r)).ino.length + 1 ≤ 1000)
    (k : ∀ h' W', Holds h' rt W' → W'.ino = inoL c ++ l.ino ++ (x, m, pl) :: (a, o, p) :: (r.ino ++ inoR c) → (∀ y, y ≠ rt → y ∉ (plug c (.node a o p l r)).ads → y ≠ x → h' y = h y) → Q .none h') : Γ .put_ahead [.ref rt, .ref a, .ref x] Q h := by
  refine U .put_ahead rfl _ _ _ (wpB_i (ps := p_put_ahead) (b := b_put_ahead) rfl ?_)
  repeat (first | refine XJ ?_ | simp only [b_put_ahead, p_put_ahead, ↓Yb, ↓XQ, ↓YH, ↓Yd, ↓Ye, ↓Yg, ↓Yh, ↓Yi, ↓YI, ↓YJ, ↓Yj, ↓Yk, ↓XR, ↓XS, ↓YK, ↓Ym, ↓YL, ↓YM, ↓Yn, ↓YN, ↓YO, ↓XU, ↓YQ, ↓Yo, ↓YR, ↓Zk, ↓XV, ↓YS, ↓YT, ↓Zl, ↓YU, ↓Yp, ↓XW, ↓YV, ↓YW, ↓YX, ↓Yq, ↓YY, ↓YZ, ↓Y0, ↓Y1, ↓XX, ↓Xn, ↓Xo, ↓Y2, ↓Xp, ↓Xq, ↓Y3, ↓Yr, ↓Xr, ↓XY, ↓Ys, ↓Xd, ↓Xe, ↓Xf, ↓Y4, ↓Y5, ↓Y7, ↓Y8, ↓Y9, ↓Za, ↓Zb, ↓Zc, ↓Yu, ↓Yz, ↓YA, ↓YF, ↓Xi, ↓XM, ↓Xl, ↓Xb, ↓Xc, ↓Xm, ↓Xj, ↓XN, ↓Xk, ↓XO, Zd, Ze, Zf, Zg, Zh, Zi, Yv, Yw, Yx, Yy, Zj, X0, X1, Xg, Xu, X2, X3, YC, YD, XZ, Xs, Xv, Xw, X4, X5, X6, X7, X8, Xh, XA, XB, XC, XD, XE, XF, YE, X9, XH, setAll, Yl, reduceCtorEq, ne_eq, not_false_eq_true, if_true, if_false, Bool.false_eq_true, Option.map_some, decide_eq_true_eq, Bool.not_true, Bool.not_false])
  refine c_preceding U H ?_
  rcases List.eq_nil_or_concat (inoL c ++ l.ino) with e | ⟨xs, b, e⟩
  · rw [e]
    repeat (first | refine XJ ?_ | simp only [lastP, headP, List.reverse_nil, ↓Yb, ↓XQ, ↓YH, ↓Yd, ↓Ye, ↓Yg, ↓Yh, ↓Yi, ↓YI, ↓YJ, ↓Yj, ↓Yk, ↓XR, ↓XS, ↓YK, ↓Ym, ↓YL, ↓YM, ↓Yn, ↓YN, ↓YO, ↓XU, ↓YQ, ↓Yo, ↓YR, ↓Zk, ↓XV, ↓YS, ↓YT, ↓Zl, ↓YU, ↓Yp, ↓XW, ↓YV, ↓YW, ↓YX, ↓Yq, ↓YY, ↓YZ, ↓Y0, ↓Y1, ↓XX, ↓Xn, ↓Xo, ↓Y2, ↓Xp, ↓Xq, ↓Y3, ↓Yr, ↓Xr, ↓XY, ↓Ys, ↓Xd, ↓Xe, ↓Xf, ↓Y4, ↓Y5, ↓Y7, ↓Y8, ↓Y9, ↓Za, ↓Zb, ↓Zc, ↓Yu, ↓Yz, ↓YA, ↓YF, ↓Xi, ↓XM, ↓Xl, ↓Xb, ↓Xc, ↓Xm, ↓Xj, ↓XN, ↓Xk, ↓XO, Zd, Ze, Zf, Zg, Zh, Zi, Yv, Yw, Yx, Yy, Zj, X0, X1, Xg, Xu, X2, X3, YC, YD, XZ, Xs, Xv, Xw, X4, X5, X6, X7, X8, Xh, XA, XB, XC, XD, XE, XF, YE, X9, XH, setAll, Yl, reduceCtorEq, ne_eq, not_false_eq_true, if_true, if_false, Bool.false_eq_true, Option.map_some, decide_eq_true_eq, Bool.not_true, Bool.not_false])
    rw [List.append_eq_nil_iff] at e
    obtain ⟨e1, e2⟩ := e
    have el : l = .nil := by cases l <;> simp [T.ino] at e2 ⊢
    subst el
    have ina : a ∈ (plug c (.node a o p .nil r)).ads := by rw [mem_adsC]; simp [ads_node]
    have xa : x ≠ a := fun z => xW (z ▸ ina)
    have i := H.split.2.1
    have ix : IsT h (.node x m pl .nil .nil) .none := ⟨by simp only [T.tot, T.ptr, Int.add_zero]; exact ex, trivial, trivial⟩
    have nx1 : (T.node x m pl .nil .nil).ads.Nodup := by simp [ads_node, ads_nil]
    repeat (first | refine XJ ?_ | simp only [↓Yb, ↓XQ, ↓YH, ↓Yd, ↓Ye, ↓Yg, ↓Yh, ↓Yi, ↓YI, ↓YJ, ↓Yj, ↓Yk, ↓XR, ↓XS, ↓YK, ↓Ym, ↓YL, ↓YM, ↓Yn, ↓YN, ↓YO, ↓XU, ↓YQ, ↓Yo, ↓YR, ↓Zk, ↓XV, ↓YS, ↓YT, ↓Zl, ↓YU, ↓Yp, ↓XW, ↓YV, ↓YW, ↓YX, ↓Yq, ↓YY, ↓YZ, ↓Y0, ↓Y1, ↓XX, ↓Xn, ↓Xo, ↓Y2, ↓Xp, ↓Xq, ↓Y3, ↓Yr, ↓Xr, ↓XY, ↓Ys, ↓Xd, ↓Xe, ↓Xf, ↓Y4, ↓Y5, ↓Y7, ↓Y8, ↓Y9, ↓Za, ↓Zb, ↓Zc, ↓Yu, ↓Yz, ↓YA, ↓YF, ↓Xi, ↓XM, ↓Xl, ↓Xb, ↓Xc, ↓Xm, ↓Xj, ↓XN, ↓Xk, ↓XO, Zd, Ze, Zf, Zg, Zh, Zi, Yv, Yw, Yx, Yy, Zj, X0, X1, Xg, Xu, X2, X3, YC, YD, XZ, Xs, Xv, Xw, X4, X5, X6, X7, X8, Xh, XA, XB, XC, XD, XE, XF, YE, X9, XH, setAll, Yl, reduceCtorEq, ne_eq, not_false_eq_true, if_true, if_false, Bool.false_eq_true, Option.map_some, decide_eq_true_eq, Bool.not_true, Bool.not_false])
    refine c_set_left (s := .node x m pl .nil .nil) U i.1 ix nx1 (by simp [ads_node, ads_nil, Ne.symm xa]) fun h1 e3 i1 f1 => ?_
    repeat (first | refine XJ ?_ | simp only [↓Y6 i1.1, YB i1.1, T.tot, Int.add_zero, ↓Yb, ↓XQ, ↓YH, ↓Yd, ↓Ye, ↓Yg, ↓Yh, ↓Yi, ↓YI, ↓YJ, ↓Yj, ↓Yk, ↓XR, ↓XS, ↓YK, ↓Ym, ↓YL, ↓YM, ↓Yn, ↓YN, ↓YO, ↓XU, ↓YQ, ↓Yo, ↓YR, ↓Zk, ↓XV, ↓YS, ↓YT, ↓Zl, ↓YU, ↓Yp, ↓XW, ↓YV, ↓YW, ↓YX, ↓Yq, ↓YY, ↓YZ, ↓Y0, ↓Y1, ↓XX, ↓Xn, ↓Xo, ↓Y2, ↓Xp, ↓Xq, ↓Y3, ↓Yr, ↓Xr, ↓XY, ↓Ys, ↓Xd, ↓Xe, ↓Xf, ↓Y4, ↓Y5, ↓Y7, ↓Y8, ↓Y9, ↓Za, ↓Zb, ↓Zc, ↓Yu, ↓Yz, ↓YA, ↓YF, ↓Xi, ↓XM, ↓Xl, ↓Xb, ↓Xc, ↓Xm, ↓Xj, ↓XN, ↓Xk, ↓XO, Zd, Ze, Zf, Zg, Zh, Zi, Yv, Yw, Yx, Yy, Zj, X0, X1, Xg, Xu, X2, X3, YC, YD, XZ, Xs, Xv, Xw, X4, X5, X6, X7, X8, Xh, XA, XB, XC, XD, XE, XF, YE, X9, XH, setAll, Yl, reduceCtorEq, ne_eq, not_false_eq_true, if_true, if_false, Bool.false_eq_true, Option.map_some, decide_eq_true_eq, Bool.not_true, Bool.not_false])
    have fr : ∀ y, y ≠ a → y ≠ x → h1 y = h y := fun y n1 n2 => f1 y n1 (by simp [ads_node, ads_nil, n2])
    have eW : (plug (⟨true, a, o, p, r⟩ :: c) (.node x m pl .nil .nil)).ino = (x, m, pl) :: (a, o, p) :: (r.ino ++ inoR c) := by rw [ino_plug]; simp [inoL, inoR, T.ino, e1]
    have eW0 : (plug c (.node a o p .nil r)).ino = (a, o, p) :: (r.ino ++ inoR c) := by rw [ino_plug]; simp [T.ino, e1]
    obtain ⟨H1, nn⟩ := hang (f := ⟨true, a, o, p, r⟩) (m := m) (pl := pl) H nx xW (by rw [e3]; simp only [Frm.obj, T.tot, T.ptr, ↓Yb, ↓XQ, ↓YH, ↓Yd, ↓Ye, ↓Yg, ↓Yh, ↓Yi, ↓YI, ↓YJ, ↓Yj, ↓Yk, ↓XR, ↓XS, ↓YK, ↓Ym, ↓YL, ↓YM, ↓Yn, ↓YN, ↓YO, ↓XU, ↓YQ, ↓Yo, ↓YR, ↓Zk, ↓XV, ↓YS, ↓YT, ↓Zl, ↓YU, ↓Yp, ↓XW, ↓YV, ↓YW, ↓YX, ↓Yq, ↓YY, ↓YZ, ↓Y0, ↓Y1, ↓XX, ↓Xn, ↓Xo, ↓Y2, ↓Xp, ↓Xq, ↓Y3, ↓Yr, ↓Xr, ↓XY, ↓Ys, ↓Xd, ↓Xe, ↓Xf, ↓Y4, ↓Y5, ↓Y7, ↓Y8, ↓Y9, ↓Za, ↓Zb, ↓Zc, ↓Yu, ↓Yz, ↓YA, ↓YF, ↓Xi, ↓XM, ↓Xl, ↓Xb, ↓Xc, ↓Xm, ↓Xj, ↓XN, ↓Xk, ↓XO, Zd, Ze, Zf, Zg, Zh, Zi, Yv, Yw, Yx, Yy, Zj, X0, X1, Xg, Xu, X2, X3, YC, YD, XZ, Xs, Xv, Xw, X4, X5, X6, X7, X8, Xh, XA, XB, XC, XD, XE, XF, YE, X9, XH, setAll, Yl, reduceCtorEq, ne_eq, not_false_eq_true, if_true, if_false, Bool.false_eq_true, Option.map_some, decide_eq_true_eq, Bool.not_true, Bool.not_false]; rw [show o + 0 + r.tot = 0 + o + r.tot by omega]) fr
    repeat (first | refine XJ ?_ | simp only [↓Yb, ↓XQ, ↓YH, ↓Yd, ↓Ye, ↓Yg, ↓Yh, ↓Yi, ↓YI, ↓YJ, ↓Yj, ↓Yk, ↓XR, ↓XS, ↓YK, ↓Ym, ↓YL, ↓YM, ↓Yn, ↓YN, ↓YO, ↓XU, ↓YQ, ↓Yo, ↓YR, ↓Zk, ↓XV, ↓YS, ↓YT, ↓Zl, ↓YU, ↓Yp, ↓XW, ↓YV, ↓YW, ↓YX, ↓Yq, ↓YY, ↓YZ, ↓Y0, ↓Y1, ↓XX, ↓Xn, ↓Xo, ↓Y2, ↓Xp, ↓Xq, ↓Y3, ↓Yr, ↓Xr, ↓XY, ↓Ys, ↓Xd, ↓Xe, ↓Xf, ↓Y4, ↓Y5, ↓Y7, ↓Y8, ↓Y9, ↓Za, ↓Zb, ↓Zc, ↓Yu, ↓Yz, ↓YA, ↓YF, ↓Xi, ↓XM, ↓Xl, ↓Xb, ↓Xc, ↓Xm, ↓Xj, ↓XN, ↓Xk, ↓XO, Zd, Ze, Zf, Zg, Zh, Zi, Yv, Yw, Yx, Yy, Zj, X0, X1, Xg, Xu, X2, X3, YC, YD, XZ, Xs, Xv, Xw, X4, X5, X6, X7, X8, Xh, XA, XB, XC, XD, XE, XF, YE, X9, XH, setAll, Yl, reduceCtorEq, ne_eq, not_false_eq_true, if_true, if_false, Bool.false_eq_true, Option.map_some, decide_eq_true_eq, Bool.not_true, Bool.not_false])
    refine c_tail (R := fun h => ∃ h'', Sub h'' h ∧ Q .none h'') U H1 nn i1 ?_ ?_ (fun v h s1 s2 => XJ (by simp only [↓Yb, ↓XQ, ↓YH, ↓Yd, ↓Ye, ↓Yg, ↓Yh, ↓Yi, ↓YI, ↓YJ, ↓Yj, ↓Yk, ↓XR, ↓XS, ↓YK, ↓Ym, ↓YL, ↓YM, ↓Yn, ↓YN, ↓YO, ↓XU, ↓YQ, ↓Yo, ↓YR, ↓Zk, ↓XV, ↓YS, ↓YT, ↓Zl, ↓YU, ↓Yp, ↓XW, ↓YV, ↓YW, ↓YX, ↓Yq, ↓YY, ↓YZ, ↓Y0, ↓Y1, ↓XX, ↓Xn, ↓Xo, ↓Y2, ↓Xp, ↓Xq, ↓Y3, ↓Yr, ↓Xr, ↓XY, ↓Ys, ↓Xd, ↓Xe, ↓Xf, ↓Y4, ↓Y5, ↓Y7, ↓Y8, ↓Y9, ↓Za, ↓Zb, ↓Zc, ↓Yu, ↓Yz, ↓YA, ↓YF, ↓Xi, ↓XM, ↓Xl, ↓Xb, ↓Xc, ↓Xm, ↓Xj, ↓XN, ↓Xk, ↓XO, Zd, Ze, Zf, Zg, Zh, Zi, Yv, Yw, Yx, Yy, Zj, X0, X1, Xg, Xu, X2, X3, YC, YD, XZ, Xs, Xv, Xw, X4, X5, X6, X7, X8, Xh, XA, XB, XC, XD, XE, XF, YE, X9, XH, setAll, Yl, reduceCtorEq, ne_eq, not_false_eq_true, if_true, if_false, Bool.false_eq_true, Option.map_some, decide_eq_true_eq, Bool.not_true, Bool.not_false]; exact s2)) fun h' W' H' e4 f' => ⟨_, Sub.refl, k h' W' H' ?_ fun y n1 n2 n3 => ?_⟩
    · unfold Pos
      rw [eW]
      intro z mz
      rcases List.mem_cons.mp mz with rfl | mz
      · exact hm
      · exact P z (by rw [eW0]; exact mz)
    · rw [eW]; rw [eW0] at sz; simpa using sz
    · rw [e4, eW, e1]; simp [T.ino]
    · have : plug c (.node a o p .nil r) = plug (⟨true, a, o, p, r⟩ :: c) .nil := rfl
      rw [this, mem_adsC, not_or] at n2
      exact (f' y n1 n2.1 n3).trans (fr y (fun z => n2.1 (by simp [adsC, z])) n3)
  · obtain ⟨b, ob, pb⟩ := b
    rw [e, List.concat_eq_append]
    repeat (first | refine XJ ?_ | simp only [lastP, headP, List.reverse_append, List.reverse_cons, List.reverse_nil, List.nil_append, List.cons_append, ↓Yb, ↓XQ, ↓YH, ↓Yd, ↓Ye, ↓Yg, ↓Yh, ↓Yi, ↓YI, ↓YJ, ↓Yj, ↓Yk, ↓XR, ↓XS, ↓YK, ↓Ym, ↓YL, ↓YM, ↓Yn, ↓YN, ↓YO, ↓XU, ↓YQ, ↓Yo, ↓YR, ↓Zk, ↓XV, ↓YS, ↓YT, ↓Zl, ↓YU, ↓Yp, ↓XW, ↓YV, ↓YW, ↓YX, ↓Yq, ↓YY, ↓YZ, ↓Y0, ↓Y1, ↓XX, ↓Xn, ↓Xo, ↓Y2, ↓Xp, ↓Xq, ↓Y3, ↓Yr, ↓Xr, ↓XY, ↓Ys, ↓Xd, ↓Xe, ↓Xf, ↓Y4, ↓Y5, ↓Y7, ↓Y8, ↓Y9, ↓Za, ↓Zb, ↓Zc, ↓Yu, ↓Yz, ↓YA, ↓YF, ↓Xi, ↓XM, ↓Xl, ↓Xb, ↓Xc, ↓Xm, ↓Xj, ↓XN, ↓Xk, ↓XO, Zd, Ze, Zf, Zg, Zh, Zi, Yv, Yw, Yx, Yy, Zj, X0, X1, Xg, Xu, X2, X3, YC, YD, XZ, Xs, Xv, Xw, X4, X5, X6, X7, X8, Xh, XA, XB, XC, XD, XE, XF, YE, X9, XH, setAll, Yl, reduceCtorEq, ne_eq, not_false_eq_true, if_true, if_false, Bool.false_eq_true, Option.map_some, decide_eq_true_eq, Bool.not_true, Bool.not_false])
    obtain ⟨c', l', r', w1, w2, w3⟩ := splitT (plug c (.node a o p l r)) xs ((a, o, p) :: (r.ino ++ inoR c)) b ob pb (by
      rw [ino_plug, T.ino]
      have : inoL c ++ (l.ino ++ (a, o, p) :: r.ino) ++ inoR c = (inoL c ++ l.ino) ++ (a, o, p) :: (r.ino ++ inoR c) := by simp
      rw [this, e]; simp)
    rw [w1] at H P xW sz
    repeat (first | refine XJ ?_ | simp only [↓Yb, ↓XQ, ↓YH, ↓Yd, ↓Ye, ↓Yg, ↓Yh, ↓Yi, ↓YI, ↓YJ, ↓Yj, ↓Yk, ↓XR, ↓XS, ↓YK, ↓Ym, ↓YL, ↓YM, ↓Yn, ↓YN, ↓YO, ↓XU, ↓YQ, ↓Yo, ↓YR, ↓Zk, ↓XV, ↓YS, ↓YT, ↓Zl, ↓YU, ↓Yp, ↓XW, ↓YV, ↓YW, ↓YX, ↓Yq, ↓YY, ↓YZ, ↓Y0, ↓Y1, ↓XX, ↓Xn, ↓Xo, ↓Y2, ↓Xp, ↓Xq, ↓Y3, ↓Yr, ↓Xr, ↓XY, ↓Ys, ↓Xd, ↓Xe, ↓Xf, ↓Y4, ↓Y5, ↓Y7, ↓Y8, ↓Y9, ↓Za, ↓Zb, ↓Zc, ↓Yu, ↓Yz, ↓YA, ↓YF, ↓Xi, ↓XM, ↓Xl, ↓Xb, ↓Xc, ↓Xm, ↓Xj, ↓XN, ↓Xk, ↓XO, Zd, Ze, Zf, Zg, Zh, Zi, Yv, Yw, Yx, Yy, Zj, X0, X1, Xg, Xu, X2, X3, YC, YD, XZ, Xs, Xv, Xw, X4, X5, X6, X7, X8, Xh, XA, XB, XC, XD, XE, XF, YE, X9, XH, setAll, Yl, reduceCtorEq, ne_eq, not_false_eq_true, if_true, if_false, Bool.false_eq_true, Option.map_some, decide_eq_true_eq, Bool.not_true, Bool.not_false])
    refine c_put_behind U H P hm ex nx xW sz fun h' W' H' eW f' => ?_
    repeat (first | refine XJ ?_ | simp only [↓Yb, ↓XQ, ↓YH, ↓Yd, ↓Ye, ↓Yg, ↓Yh, ↓Yi, ↓YI, ↓YJ, ↓Yj, ↓Yk, ↓XR, ↓XS, ↓YK, ↓Ym, ↓YL, ↓YM, ↓Yn, ↓YN, ↓YO, ↓XU, ↓YQ, ↓Yo, ↓YR, ↓Zk, ↓XV, ↓YS, ↓YT, ↓Zl, ↓YU, ↓Yp, ↓XW, ↓YV, ↓YW, ↓YX, ↓Yq, ↓YY, ↓YZ, ↓Y0, ↓Y1, ↓XX, ↓Xn, ↓Xo, ↓Y2, ↓Xp, ↓Xq, ↓Y3, ↓Yr, ↓Xr, ↓XY, ↓Ys, ↓Xd, ↓Xe, ↓Xf, ↓Y4, ↓Y5, ↓Y7, ↓Y8, ↓Y9, ↓Za, ↓Zb, ↓Zc, ↓Yu, ↓Yz, ↓YA, ↓YF, ↓Xi, ↓XM, ↓Xl, ↓Xb, ↓Xc, ↓Xm, ↓Xj, ↓XN, ↓Xk, ↓XO, Zd, Ze, Zf, Zg, Zh, Zi, Yv, Yw, Yx, Yy, Zj, X0, X1, Xg, Xu, X2, X3, YC, YD, XZ, Xs, Xv, Xw, X4, X5, X6, X7, X8, Xh, XA, XB, XC, XD, XE, XF, YE, X9, XH, setAll, Yl, reduceCtorEq, ne_eq, not_false_eq_true, if_true, if_false, Bool.false_eq_true, Option.map_some, decide_eq_true_eq, Bool.not_true, Bool.not_false])
    refine ⟨_, Sub.refl, k h' W' H' ?_ fun y n1 n2 n3 => f' y n1 (w1 ▸ n2) n3⟩
    rw [eW, w2, w3, e]
    simp
end

/-! rows -/
noncomputable def T.rows (t : T) : List (Int × V) := t.ino.map (·.2)
noncomputable def sumR (xs : List (Int × V)) : Int := (xs.map (·.1)).sum
noncomputable def PosR (xs : List (Int × V)) : Prop := ∀ x, x ∈ xs → 0 < x.1
theorem sumR_nil : sumR [] = 0 := rfl
theorem sumR_cons {o : Int} {p : V} {ys : List (Int × V)} : sumR ((o, p) :: ys) = o + sumR ys := by simp [sumR]
theorem sumR_append {xs ys : List (Int × V)} : sumR (xs ++ ys) = sumR xs + sumR ys := by simp [sumR]
theorem sumI_rows {xs : List (Nat × Int × V)} : sumI xs = sumR (xs.map (·.2)) := by simp [sumI, sumR, Function.comp_def]
theorem tot_rows {t : T} : t.tot = sumR t.rows := by rw [tot_sum, sumI_rows]; rfl
theorem posR_rows {t : T} : Pos t ↔ PosR t.rows := by
  unfold Pos PosR T.rows
  constructor
  · intro h x m
    obtain ⟨y, my, rfl⟩ := List.mem_map.mp m
    exact h y my
  · intro h x m
    exact h x.2 (List.mem_map_of_mem m)
theorem PosR.cons {o : Int} {p : V} {ys : List (Int × V)} : PosR ((o, p) :: ys) ↔ 0 < o ∧ PosR ys := by simp [PosR]
theorem PosR.append {xs ys : List (Int × V)} : PosR (xs ++ ys) ↔ PosR xs ∧ PosR ys := by
  unfold PosR
  simp only [List.mem_append]
  constructor
  · intro h; exact ⟨fun x m => h x (.inl m), fun x m => h x (.inr m)⟩
  · rintro ⟨a, b⟩ x (m | m)
    · exact a x m
    · exact b x m
theorem PosR.sum : ∀ {xs : List (Int × V)}, PosR xs → 0 ≤ sumR xs
  | [], _ => Int.le_refl _
  | (o, p) :: xs, h => by rw [PosR.cons] at h; have := h.2.sum; rw [sumR_cons]; omega
theorem PosR.len : ∀ {xs : List (Int × V)}, PosR xs → (xs.length : Int) ≤ sumR xs
  | [], _ => Int.le_refl _
  | (o, p) :: xs, h => by rw [PosR.cons] at h; have := h.2.len; rw [sumR_cons, List.length_cons]; omega
noncomputable def partR (b i : Int) : List (Int × V) → List (Int × V)
  | [] => []
  | (o, p) :: r => (if b < i ∧ i < b + o then [(i - b, p), (b + o - i, p)] else [(o, p)]) ++ partR (b + o) i r
theorem partR_append : ∀ {xs ys : List (Int × V)} {b i : Int}, partR b i (xs ++ ys) = partR b i xs ++ partR (b + sumR xs) i ys
  | [], ys, b, i => by simp [partR, sumR_nil]
  | (o, p) :: xs, ys, b, i => by rw [List.cons_append, partR, partR, partR_append, sumR_cons, List.append_assoc, Int.add_assoc]
theorem partR_low : ∀ {ys : List (Int × V)} {b i : Int}, PosR ys → i ≤ b → partR b i ys = ys
  | [], _, _, _, _ => rfl
  | (o, p) :: ys, b, i, h, e => by
    rw [PosR.cons] at h
    rw [partR, if_neg (by omega), partR_low h.2 (by omega)]; rfl
theorem partR_high : ∀ {ys : List (Int × V)} {b i : Int}, PosR ys → b + sumR ys ≤ i → partR b i ys = ys
  | [], _, _, _, _ => rfl
  | (o, p) :: ys, b, i, h, e => by
    rw [PosR.cons] at h
    rw [sumR_cons] at e
    have := h.2.sum
    rw [partR, if_neg (by omega), partR_high h.2 (by omega)]; rfl
theorem partR_sum : ∀ {ys : List (Int × V)} {b i : Int}, sumR (partR b i ys) = sumR ys
  | [], _, _ => rfl
  | (o, p) :: ys, b, i => by
    rw [partR, sumR_append, partR_sum, sumR_cons]
    split
    · rw [sumR_cons, sumR_cons, sumR_nil]; omega
    · rw [sumR_cons, sumR_nil]; omega
theorem partR_pos : ∀ {ys : List (Int × V)} {b i : Int}, PosR ys → PosR (partR b i ys)
  | [], _, _, _ => fun _ m => nomatch m
  | (o, p) :: ys, b, i, h => by
    rw [PosR.cons] at h
    rw [partR, PosR.append]
    refine ⟨?_, partR_pos h.2⟩
    split
    · rw [PosR.cons, PosR.cons]; exact ⟨by omega, by omega, fun _ m => nomatch m⟩
    · rw [PosR.cons]; exact ⟨h.1, fun _ m => nomatch m⟩
theorem partR_at {xs ys : List (Int × V)} {o i : Int} {p : V} (h : PosR (xs ++ (o, p) :: ys)) (h1 : sumR xs < i) (h2 : i < sumR xs + o) : partR 0 i (xs ++ (o, p) :: ys) = xs ++ (i - sumR xs, p) :: (sumR xs + o - i, p) :: ys := by
  rw [PosR.append, PosR.cons] at h
  rw [partR_append, partR_high h.1 (by omega), partR, if_pos (by omega), partR_low h.2.2 (by omega)]
  simp
theorem partR_edge {xs ys : List (Int × V)} (h : PosR (xs ++ ys)) : partR 0 (sumR xs) (xs ++ ys) = xs ++ ys := by
  rw [PosR.append] at h
  rw [partR_append, partR_high h.1 (by omega), partR_low h.2 (by omega)]
/-- the rows are parted at i -/
theorem partR_cut : ∀ {ys : List (Int × V)} {b i : Int}, PosR ys → b ≤ i → i ≤ b + sumR ys → ∃ us vs, partR b i ys = us ++ vs ∧ b + sumR us = i
  | [], b, i, _, h1, h2 => ⟨[], [], rfl, by rw [sumR_nil] at h2 ⊢; omega⟩
  | (o, p) :: ys, b, i, h, h1, h2 => by
    have hp := h
    rw [PosR.cons] at h
    rw [sumR_cons] at h2
    by_cases e : i = b
    · exact ⟨[], _, rfl, by rw [sumR_nil]; omega⟩
    · by_cases e2 : i < b + o
      · rw [partR, if_pos (by omega)]
        exact ⟨[(i - b, p)], _, rfl, by rw [sumR_cons, sumR_nil]; omega⟩
      · obtain ⟨us, vs, e3, e4⟩ := partR_cut (b := b + o) (i := i) h.2 (by omega) (by omega)
        rw [partR, if_neg (by omega), e3]
        exact ⟨(o, p) :: us, vs, by simp, by rw [sumR_cons]; omega⟩
/-- there is one place at i -/
theorem cut_one : ∀ {us vs us' vs' : List (Int × V)}, us ++ vs = us' ++ vs' → PosR (us ++ vs) → sumR us = sumR us' → us = us' ∧ vs = vs'
  | [], vs, [], vs', e, _, _ => ⟨rfl, e⟩
  | [], vs, (o, p) :: us', vs', e, h, s => by
    simp only [List.nil_append] at e h
    rw [e, List.cons_append, PosR.cons, PosR.append] at h
    rw [sumR_nil, sumR_cons] at s
    have := h.2.1.sum
    omega
  | (o, p) :: us, vs, [], vs', e, h, s => by
    rw [List.cons_append, PosR.cons, PosR.append] at h
    rw [sumR_nil, sumR_cons] at s
    have := h.2.1.sum
    omega
  | (o, p) :: us, vs, (o', p') :: us', vs', e, h, s => by
    simp only [List.cons_append, List.cons.injEq, Prod.mk.injEq] at e
    obtain ⟨⟨rfl, rfl⟩, e⟩ := e
    rw [List.cons_append, PosR.cons] at h
    rw [sumR_cons, sumR_cons] at s
    obtain ⟨a, b⟩ := cut_one e h.2 (by omega)
    exact ⟨by rw [a], b⟩
/-- the row that holds i, where one begins there -/
theorem row_one : ∀ {us vs us' vs' : List (Int × V)} {o : Int} {p : V}, us ++ vs = us' ++ (o, p) :: vs' → PosR (us ++ vs) → sumR us' ≤ sumR us → sumR us < sumR us' + o → us = us' ∧ vs = (o, p) :: vs'
  | [], vs, [], vs', o, p, e, _, _, _ => ⟨rfl, e⟩
  | [], vs, (o1, p1) :: us', vs', o, p, e, h, s1, s2 => by
    simp only [List.nil_append] at e h
    rw [e, List.cons_append, PosR.cons, PosR.append] at h
    rw [sumR_nil, sumR_cons] at s1
    have := h.2.1.sum
    omega
  | (o2, p2) :: us, vs, [], vs', o, p, e, h, s1, s2 => by
    rw [List.cons_append, PosR.cons, PosR.append] at h
    simp only [List.cons_append, List.nil_append, List.cons.injEq, Prod.mk.injEq] at e
    rw [sumR_nil, sumR_cons] at s2
    have := h.2.1.sum
    omega
  | (o2, p2) :: us, vs, (o', p') :: us', vs', o, p, e, h, s1, s2 => by
    simp only [List.cons_append, List.cons.injEq, Prod.mk.injEq] at e
    obtain ⟨⟨rfl, rfl⟩, e⟩ := e
    rw [List.cons_append, PosR.cons] at h
    rw [sumR_cons, sumR_cons] at s1 s2
    obtain ⟨a, b⟩ := row_one e h.2 (by omega) (by omega)
    exact ⟨by rw [a], b⟩
end Mine

namespace Mine
theorem rows_plug {c : Ctx} {t : T} : (plug c t).rows = (inoL c).map (·.2) ++ t.rows ++ (inoR c).map (·.2) := by simp [T.rows, ino_plug]
theorem rows_len {t : T} : t.rows.length = t.ino.length := by simp [T.rows]
section
variable {Γ : Ctr} (U : Base Γ)
include U
theorem c_split_at {h : Hp} {rt : Nat} {W : T} {i : Int} {Q : V → Hp → Prop} (H : Holds h rt W) (P : Pos W) (sz : W.ino.length + 1 ≤ 1000)
    (k : ∀ h' W', Step h rt W h' W' → W'.rows = partR 0 i W.rows → Q .none h') : Γ .split_at [.ref rt, .int i] Q h := by
  refine U .split_at rfl _ _ _ (wpB_i (ps := p_split_at) (b := b_split_at) rfl ?_)
  have PR := posR_rows.mp P
  repeat (first | refine XJ ?_ | simp only [b_split_at, p_split_at, ↓Yb, ↓XQ, ↓YH, ↓Yd, ↓Ye, ↓Yg, ↓Yh, ↓Yi, ↓YI, ↓YJ, ↓Yj, ↓Yk, ↓XR, ↓XS, ↓YK, ↓Ym, ↓YL, ↓YM, ↓Yn, ↓YN, ↓YO, ↓XU, ↓YQ, ↓Yo, ↓YR, ↓Zk, ↓XV, ↓YS, ↓YT, ↓Zl, ↓YU, ↓Yp, ↓XW, ↓YV, ↓YW, ↓YX, ↓Yq, ↓YY, ↓YZ, ↓Y0, ↓Y1, ↓XX, ↓Xn, ↓Xo, ↓Y2, ↓Xp, ↓Xq, ↓Y3, ↓Yr, ↓Xr, ↓XY, ↓Ys, ↓Xd, ↓Xe, ↓Xf, ↓Y4, ↓Y5, ↓Y7, ↓Y8, ↓Y9, ↓Za, ↓Zb, ↓Zc, ↓Yu, ↓Yz, ↓YA, ↓YF, ↓Xi, ↓XM, ↓Xl, ↓Xb, ↓Xc, ↓Xm, ↓Xj, ↓XN, ↓Xk, ↓XO, Zd, Ze, Zf, Zg, Zh, Zi, Yv, Yw, Yx, Yy, Zj, X0, X1, Xg, Xu, X2, X3, YC, YD, XZ, Xs, Xv, Xw, X4, X5, X6, X7, X8, Xh, XA, XB, XC, XD, XE, XF, YE, X9, XH, setAll, Yl, reduceCtorEq, ne_eq, not_false_eq_true, if_true, if_false, Bool.false_eq_true, Option.map_some, decide_eq_true_eq, Bool.not_true, Bool.not_false])
  split
  · rename_i i0
    repeat (first | refine XJ ?_ | simp only [↓Yb, ↓XQ, ↓YH, ↓Yd, ↓Ye, ↓Yg, ↓Yh, ↓Yi, ↓YI, ↓YJ, ↓Yj, ↓Yk, ↓XR, ↓XS, ↓YK, ↓Ym, ↓YL, ↓YM, ↓Yn, ↓YN, ↓YO, ↓XU, ↓YQ, ↓Yo, ↓YR, ↓Zk, ↓XV, ↓YS, ↓YT, ↓Zl, ↓YU, ↓Yp, ↓XW, ↓YV, ↓YW, ↓YX, ↓Yq, ↓YY, ↓YZ, ↓Y0, ↓Y1, ↓XX, ↓Xn, ↓Xo, ↓Y2, ↓Xp, ↓Xq, ↓Y3, ↓Yr, ↓Xr, ↓XY, ↓Ys, ↓Xd, ↓Xe, ↓Xf, ↓Y4, ↓Y5, ↓Y7, ↓Y8, ↓Y9, ↓Za, ↓Zb, ↓Zc, ↓Yu, ↓Yz, ↓YA, ↓YF, ↓Xi, ↓XM, ↓Xl, ↓Xb, ↓Xc, ↓Xm, ↓Xj, ↓XN, ↓Xk, ↓XO, Zd, Ze, Zf, Zg, Zh, Zi, Yv, Yw, Yx, Yy, Zj, X0, X1, Xg, Xu, X2, X3, YC, YD, XZ, Xs, Xv, Xw, X4, X5, X6, X7, X8, Xh, XA, XB, XC, XD, XE, XF, YE, X9, XH, setAll, Yl, reduceCtorEq, ne_eq, not_false_eq_true, if_true, if_false, Bool.false_eq_true, Option.map_some, decide_eq_true_eq, Bool.not_true, Bool.not_false])
    refine c_text_length U H ?_
    repeat (first | refine XJ ?_ | simp only [↓Yb, ↓XQ, ↓YH, ↓Yd, ↓Ye, ↓Yg, ↓Yh, ↓Yi, ↓YI, ↓YJ, ↓Yj, ↓Yk, ↓XR, ↓XS, ↓YK, ↓Ym, ↓YL, ↓YM, ↓Yn, ↓YN, ↓YO, ↓XU, ↓YQ, ↓Yo, ↓YR, ↓Zk, ↓XV, ↓YS, ↓YT, ↓Zl, ↓YU, ↓Yp, ↓XW, ↓YV, ↓YW, ↓YX, ↓Yq, ↓YY, ↓YZ, ↓Y0, ↓Y1, ↓XX, ↓Xn, ↓Xo, ↓Y2, ↓Xp, ↓Xq, ↓Y3, ↓Yr, ↓Xr, ↓XY, ↓Ys, ↓Xd, ↓Xe, ↓Xf, ↓Y4, ↓Y5, ↓Y7, ↓Y8, ↓Y9, ↓Za, ↓Zb, ↓Zc, ↓Yu, ↓Yz, ↓YA, ↓YF, ↓Xi, ↓XM, ↓Xl, ↓Xb, ↓Xc, ↓Xm, ↓Xj, ↓XN, ↓Xk, ↓XO, Zd, Ze, Zf, Zg, Zh, Zi, Yv, Yw, Yx, Yy, Zj, X0, X1, Xg, Xu, X2, X3, YC, YD, XZ, Xs, Xv, Xw, X4, X5, X6, X7, X8, Xh, XA, XB, XC, XD, XE, XF, YE, X9, XH, setAll, Yl, reduceCtorEq, ne_eq, not_false_eq_true, if_true, if_false, Bool.false_eq_true, Option.map_some, decide_eq_true_eq, Bool.not_true, Bool.not_false])
    rw [tot_rows]
    by_cases i1 : i < sumR W.rows
    · rw [decide_eq_true i1]
      repeat (first | refine XJ ?_ | simp only [↓Yb, ↓XQ, ↓YH, ↓Yd, ↓Ye, ↓Yg, ↓Yh, ↓Yi, ↓YI, ↓YJ, ↓Yj, ↓Yk, ↓XR, ↓XS, ↓YK, ↓Ym, ↓YL, ↓YM, ↓Yn, ↓YN, ↓YO, ↓XU, ↓YQ, ↓Yo, ↓YR, ↓Zk, ↓XV, ↓YS, ↓YT, ↓Zl, ↓YU, ↓Yp, ↓XW, ↓YV, ↓YW, ↓YX, ↓Yq, ↓YY, ↓YZ, ↓Y0, ↓Y1, ↓XX, ↓Xn, ↓Xo, ↓Y2, ↓Xp, ↓Xq, ↓Y3, ↓Yr, ↓Xr, ↓XY, ↓Ys, ↓Xd, ↓Xe, ↓Xf, ↓Y4, ↓Y5, ↓Y7, ↓Y8, ↓Y9, ↓Za, ↓Zb, ↓Zc, ↓Yu, ↓Yz, ↓YA, ↓YF, ↓Xi, ↓XM, ↓Xl, ↓Xb, ↓Xc, ↓Xm, ↓Xj, ↓XN, ↓Xk, ↓XO, Zd, Ze, Zf, Zg, Zh, Zi, Yv, Yw, Yx, Yy, Zj, X0, X1, Xg, Xu, X2, X3, YC, YD, XZ, Xs, Xv, Xw, X4, X5, X6, X7, X8, Xh, XA, XB, XC, XD, XE, XF, YE, X9, XH, setAll, Yl, reduceCtorEq, ne_eq, not_false_eq_true, if_true, if_false, Bool.false_eq_true, Option.map_some, decide_eq_true_eq, Bool.not_true, Bool.not_false])
      refine c_find_interval U H P (by omega) (by rw [tot_rows]; exact i1) fun c a o p l r eW j0 j1 => ?_
      repeat (first | refine XJ ?_ | simp only [↓Yb, ↓XQ, ↓YH, ↓Yd, ↓Ye, ↓Yg, ↓Yh, ↓Yi, ↓YI, ↓YJ, ↓Yj, ↓Yk, ↓XR, ↓XS, ↓YK, ↓Ym, ↓YL, ↓YM, ↓Yn, ↓YN, ↓YO, ↓XU, ↓YQ, ↓Yo, ↓YR, ↓Zk, ↓XV, ↓YS, ↓YT, ↓Zl, ↓YU, ↓Yp, ↓XW, ↓YV, ↓YW, ↓YX, ↓Yq, ↓YY, ↓YZ, ↓Y0, ↓Y1, ↓XX, ↓Xn, ↓Xo, ↓Y2, ↓Xp, ↓Xq, ↓Y3, ↓Yr, ↓Xr, ↓XY, ↓Ys, ↓Xd, ↓Xe, ↓Xf, ↓Y4, ↓Y5, ↓Y7, ↓Y8, ↓Y9, ↓Za, ↓Zb, ↓Zc, ↓Yu, ↓Yz, ↓YA, ↓YF, ↓Xi, ↓XM, ↓Xl, ↓Xb, ↓Xc, ↓Xm, ↓Xj, ↓XN, ↓Xk, ↓XO, Zd, Ze, Zf, Zg, Zh, Zi, Yv, Yw, Yx, Yy, Zj, X0, X1, Xg, Xu, X2, X3, YC, YD, XZ, Xs, Xv, Xw, X4, X5, X6, X7, X8, Xh, XA, XB, XC, XD, XE, XF, YE, X9, XH, setAll, Yl, reduceCtorEq, ne_eq, not_false_eq_true, if_true, if_false, Bool.false_eq_true, Option.map_some, decide_eq_true_eq, Bool.not_true, Bool.not_false])
      generalize hs : sumI (inoL c ++ l.ino) = s at j0 j1
      have hs' : sumR ((inoL c ++ l.ino).map (·.2)) = s := by rw [← hs, sumI_rows]
      have er : W.rows = (inoL c ++ l.ino).map (·.2) ++ (o, p) :: (r.ino ++ inoR c).map (·.2) := by rw [eW, rows_plug]; simp [T.rows, T.ino]
      by_cases e : s = i
      · rw [show (s == i) = true by simpa using e]
        repeat (first | refine XJ ?_ | simp only [↓Yb, ↓XQ, ↓YH, ↓Yd, ↓Ye, ↓Yg, ↓Yh, ↓Yi, ↓YI, ↓YJ, ↓Yj, ↓Yk, ↓XR, ↓XS, ↓YK, ↓Ym, ↓YL, ↓YM, ↓Yn, ↓YN, ↓YO, ↓XU, ↓YQ, ↓Yo, ↓YR, ↓Zk, ↓XV, ↓YS, ↓YT, ↓Zl, ↓YU, ↓Yp, ↓XW, ↓YV, ↓YW, ↓YX, ↓Yq, ↓YY, ↓YZ, ↓Y0, ↓Y1, ↓XX, ↓Xn, ↓Xo, ↓Y2, ↓Xp, ↓Xq, ↓Y3, ↓Yr, ↓Xr, ↓XY, ↓Ys, ↓Xd, ↓Xe, ↓Xf, ↓Y4, ↓Y5, ↓Y7, ↓Y8, ↓Y9, ↓Za, ↓Zb, ↓Zc, ↓Yu, ↓Yz, ↓YA, ↓YF, ↓Xi, ↓XM, ↓Xl, ↓Xb, ↓Xc, ↓Xm, ↓Xj, ↓XN, ↓Xk, ↓XO, Zd, Ze, Zf, Zg, Zh, Zi, Yv, Yw, Yx, Yy, Zj, X0, X1, Xg, Xu, X2, X3, YC, YD, XZ, Xs, Xv, Xw, X4, X5, X6, X7, X8, Xh, XA, XB, XC, XD, XE, XF, YE, X9, XH, setAll, Yl, reduceCtorEq, ne_eq, not_false_eq_true, if_true, if_false, Bool.false_eq_true, Option.map_some, decide_eq_true_eq, Bool.not_true, Bool.not_false])
        refine ⟨_, Sub.refl, k h W (.same H) ?_⟩
        rw [er, ← e, ← hs', partR_edge (er ▸ PR)]
      · rw [show (s == i) = false by simpa using e]
        repeat (first | refine XJ ?_ | simp only [↓Yb, ↓XQ, ↓YH, ↓Yd, ↓Ye, ↓Yg, ↓Yh, ↓Yi, ↓YI, ↓YJ, ↓Yj, ↓Yk, ↓XR, ↓XS, ↓YK, ↓Ym, ↓YL, ↓YM, ↓Yn, ↓YN, ↓YO, ↓XU, ↓YQ, ↓Yo, ↓YR, ↓Zk, ↓XV, ↓YS, ↓YT, ↓Zl, ↓YU, ↓Yp, ↓XW, ↓YV, ↓YW, ↓YX, ↓Yq, ↓YY, ↓YZ, ↓Y0, ↓Y1, ↓XX, ↓Xn, ↓Xo, ↓Y2, ↓Xp, ↓Xq, ↓Y3, ↓Yr, ↓Xr, ↓XY, ↓Ys, ↓Xd, ↓Xe, ↓Xf, ↓Y4, ↓Y5, ↓Y7, ↓Y8, ↓Y9, ↓Za, ↓Zb, ↓Zc, ↓Yu, ↓Yz, ↓YA, ↓YF, ↓Xi, ↓XM, ↓Xl, ↓Xb, ↓Xc, ↓Xm, ↓Xj, ↓XN, ↓Xk, ↓XO, Zd, Ze, Zf, Zg, Zh, Zi, Yv, Yw, Yx, Yy, Zj, X0, X1, Xg, Xu, X2, X3, YC, YD, XZ, Xs, Xv, Xw, X4, X5, X6, X7, X8, Xh, XA, XB, XC, XD, XE, XF, YE, X9, XH, setAll, Yl, reduceCtorEq, ne_eq, not_false_eq_true, if_true, if_false, Bool.false_eq_true, Option.map_some, decide_eq_true_eq, Bool.not_true, Bool.not_false])
        have H1 := H
        rw [eW] at H1
        have it := H1.split.2.1
        repeat (first | refine XJ ?_ | simp only [↓Yb, ↓XQ, ↓YH, ↓Yd, ↓Ye, ↓Yg, ↓Yh, ↓Yi, ↓YI, ↓YJ, ↓Yj, ↓Yk, ↓XR, ↓XS, ↓YK, ↓Ym, ↓YL, ↓YM, ↓Yn, ↓YN, ↓YO, ↓XU, ↓YQ, ↓Yo, ↓YR, ↓Zk, ↓XV, ↓YS, ↓YT, ↓Zl, ↓YU, ↓Yp, ↓XW, ↓YV, ↓YW, ↓YX, ↓Yq, ↓YY, ↓YZ, ↓Y0, ↓Y1, ↓XX, ↓Xn, ↓Xo, ↓Y2, ↓Xp, ↓Xq, ↓Y3, ↓Yr, ↓Xr, ↓XY, ↓Ys, ↓Xd, ↓Xe, ↓Xf, ↓Y4, ↓Y5, ↓Y7, ↓Y8, ↓Y9, ↓Za, ↓Zb, ↓Zc, ↓Yu, ↓Yz, ↓YA, ↓YF, ↓Xi, ↓XM, ↓Xl, ↓Xb, ↓Xc, ↓Xm, ↓Xj, ↓XN, ↓Xk, ↓XO, Zd, Ze, Zf, Zg, Zh, Zi, Yv, Yw, Yx, Yy, Zj, X0, X1, Xg, Xu, X2, X3, YC, YD, XZ, Xs, Xv, Xw, X4, X5, X6, X7, X8, Xh, XA, XB, XC, XD, XE, XF, YE, X9, XH, setAll, Yl, reduceCtorEq, ne_eq, not_false_eq_true, if_true, if_false, Bool.false_eq_true, Option.map_some, decide_eq_true_eq, Bool.not_true, Bool.not_false])
        refine c_own_length U it ?_
        repeat (first | refine XJ ?_ | simp only [↓Yb, ↓XQ, ↓YH, ↓Yd, ↓Ye, ↓Yg, ↓Yh, ↓Yi, ↓YI, ↓YJ, ↓Yj, ↓Yk, ↓XR, ↓XS, ↓YK, ↓Ym, ↓YL, ↓YM, ↓Yn, ↓YN, ↓YO, ↓XU, ↓YQ, ↓Yo, ↓YR, ↓Zk, ↓XV, ↓YS, ↓YT, ↓Zl, ↓YU, ↓Yp, ↓XW, ↓YV, ↓YW, ↓YX, ↓Yq, ↓YY, ↓YZ, ↓Y0, ↓Y1, ↓XX, ↓Xn, ↓Xo, ↓Y2, ↓Xp, ↓Xq, ↓Y3, ↓Yr, ↓Xr, ↓XY, ↓Ys, ↓Xd, ↓Xe, ↓Xf, ↓Y4, ↓Y5, ↓Y7, ↓Y8, ↓Y9, ↓Za, ↓Zb, ↓Zc, ↓Yu, ↓Yz, ↓YA, ↓YF, ↓Xi, ↓XM, ↓Xl, ↓Xb, ↓Xc, ↓Xm, ↓Xj, ↓XN, ↓Xk, ↓XO, Zd, Ze, Zf, Zg, Zh, Zi, Yv, Yw, Yx, Yy, Zj, X0, X1, Xg, Xu, X2, X3, YC, YD, XZ, Xs, Xv, Xw, X4, X5, X6, X7, X8, Xh, XA, XB, XC, XD, XE, XF, YE, X9, XH, setAll, Yl, reduceCtorEq, ne_eq, not_false_eq_true, if_true, if_false, Bool.false_eq_true, Option.map_some, decide_eq_true_eq, Bool.not_true, Bool.not_false])
        have H2 : Holds h rt (plug (⟨false, a, o, p, l⟩ :: c) r) := H1
        obtain ⟨HC, ir, nn⟩ := H2.split
        have nn2 : (rt :: adsC (⟨false, a, o, p, l⟩ :: c)).Nodup := by simp only [List.nodup_cons, List.nodup_append, List.mem_append, not_or] at nn ⊢; exact ⟨nn.1.1, nn.2.1⟩
        repeat (first | refine XJ ?_ | simp only [↓Yb, ↓XQ, ↓YH, ↓Yd, ↓Ye, ↓Yg, ↓Yh, ↓Yi, ↓YI, ↓YJ, ↓Yj, ↓Yk, ↓XR, ↓XS, ↓YK, ↓Ym, ↓YL, ↓YM, ↓Yn, ↓YN, ↓YO, ↓XU, ↓YQ, ↓Yo, ↓YR, ↓Zk, ↓XV, ↓YS, ↓YT, ↓Zl, ↓YU, ↓Yp, ↓XW, ↓YV, ↓YW, ↓YX, ↓Yq, ↓YY, ↓YZ, ↓Y0, ↓Y1, ↓XX, ↓Xn, ↓Xo, ↓Y2, ↓Xp, ↓Xq, ↓Y3, ↓Yr, ↓Xr, ↓XY, ↓Ys, ↓Xd, ↓Xe, ↓Xf, ↓Y4, ↓Y5, ↓Y7, ↓Y8, ↓Y9, ↓Za, ↓Zb, ↓Zc, ↓Yu, ↓Yz, ↓YA, ↓YF, ↓Xi, ↓XM, ↓Xl, ↓Xb, ↓Xc, ↓Xm, ↓Xj, ↓XN, ↓Xk, ↓XO, Zd, Ze, Zf, Zg, Zh, Zi, Yv, Yw, Yx, Yy, Zj, X0, X1, Xg, Xu, X2, X3, YC, YD, XZ, Xs, Xv, Xw, X4, X5, X6, X7, X8, Xh, XA, XB, XC, XD, XE, XF, YE, X9, XH, setAll, Yl, reduceCtorEq, ne_eq, not_false_eq_true, if_true, if_false, Bool.false_eq_true, Option.map_some, decide_eq_true_eq, Bool.not_true, Bool.not_false])
        refine c_add_above U (c := ⟨false, a, o, p, l⟩ :: c) HC nn2 fun h1 H3 f1 => ?_
        have ir1 : IsT h1 r (.ref a) := ir.frame fun x m => f1 x fun z => by
          simp only [List.nodup_cons, List.nodup_append, List.mem_append, not_or] at nn
          exact nn.2.2.2 x z x m rfl
        have H4 : Holds h1 rt (plug c (.node a (i - s) p l r)) := by
          show Holds h1 rt (plug (⟨false, a, i - s, p, l⟩ :: c) r)
          refine HoldC.join ⟨H3.root, ?_, ?_, ?_⟩ ir1 nn
          · have := H3.ctx.1
            simp only [Frm.obj] at this ⊢
            rw [show r.tot + (i - s) + l.tot = r.tot + (0 - (o - (i - s))) + o + l.tot by omega]
            exact this
          · exact H3.ctx.2.1
          · have := H3.ctx.2.2
            dsimp only at this ⊢
            rw [show r.tot + (i - s) + l.tot = r.tot + (0 - (o - (i - s))) + o + l.tot by omega]
            exact this
        have it1 := H4.split.2.1
        have eads : (plug c (.node a (i - s) p l r)).ads = W.ads := by rw [eW]; simp [T.ads, ino_plug, T.ino]
        repeat (first | refine XJ ?_ | simp only [↓Y6 it1.1, YB it1.1, ↓Yb, ↓XQ, ↓YH, ↓Yd, ↓Ye, ↓Yg, ↓Yh, ↓Yi, ↓YI, ↓YJ, ↓Yj, ↓Yk, ↓XR, ↓XS, ↓YK, ↓Ym, ↓YL, ↓YM, ↓Yn, ↓YN, ↓YO, ↓XU, ↓YQ, ↓Yo, ↓YR, ↓Zk, ↓XV, ↓YS, ↓YT, ↓Zl, ↓YU, ↓Yp, ↓XW, ↓YV, ↓YW, ↓YX, ↓Yq, ↓YY, ↓YZ, ↓Y0, ↓Y1, ↓XX, ↓Xn, ↓Xo, ↓Y2, ↓Xp, ↓Xq, ↓Y3, ↓Yr, ↓Xr, ↓XY, ↓Ys, ↓Xd, ↓Xe, ↓Xf, ↓Y4, ↓Y5, ↓Y7, ↓Y8, ↓Y9, ↓Za, ↓Zb, ↓Zc, ↓Yu, ↓Yz, ↓YA, ↓YF, ↓Xi, ↓XM, ↓Xl, ↓Xb, ↓Xc, ↓Xm, ↓Xj, ↓XN, ↓Xk, ↓XO, Zd, Ze, Zf, Zg, Zh, Zi, Yv, Yw, Yx, Yy, Zj, X0, X1, Xg, Xu, X2, X3, YC, YD, XZ, Xs, Xv, Xw, X4, X5, X6, X7, X8, Xh, XA, XB, XC, XD, XE, XF, YE, X9, XH, setAll, Yl, reduceCtorEq, ne_eq, not_false_eq_true, if_true, if_false, Bool.false_eq_true, Option.map_some, decide_eq_true_eq, Bool.not_true, Bool.not_false])
        intro x hx
        have xW : x ∉ (plug c (.node a (i - s) p l r)).ads := SInv.out hx H4.tree
        have xr : x ≠ rt := fun z => by rw [z, H4.root] at hx; cases hx
        repeat (first | refine XJ ?_ | simp only [↓Yb, ↓XQ, ↓YH, ↓Yd, ↓Ye, ↓Yg, ↓Yh, ↓Yi, ↓YI, ↓YJ, ↓Yj, ↓Yk, ↓XR, ↓XS, ↓YK, ↓Ym, ↓YL, ↓YM, ↓Yn, ↓YN, ↓YO, ↓XU, ↓YQ, ↓Yo, ↓YR, ↓Zk, ↓XV, ↓YS, ↓YT, ↓Zl, ↓YU, ↓Yp, ↓XW, ↓YV, ↓YW, ↓YX, ↓Yq, ↓YY, ↓YZ, ↓Y0, ↓Y1, ↓XX, ↓Xn, ↓Xo, ↓Y2, ↓Xp, ↓Xq, ↓Y3, ↓Yr, ↓Xr, ↓XY, ↓Ys, ↓Xd, ↓Xe, ↓Xf, ↓Y4, ↓Y5, ↓Y7, ↓Y8, ↓Y9, ↓Za, ↓Zb, ↓Zc, ↓Yu, ↓Yz, ↓YA, ↓YF, ↓Xi, ↓XM, ↓Xl, ↓Xb, ↓Xc, ↓Xm, ↓Xj, ↓XN, ↓Xk, ↓XO, Zd, Ze, Zf, Zg, Zh, Zi, Yv, Yw, Yx, Yy, Zj, X0, X1, Xg, Xu, X2, X3, YC, YD, XZ, Xs, Xv, Xw, X4, X5, X6, X7, X8, Xh, XA, XB, XC, XD, XE, XF, YE, X9, XH, setAll, Yl, reduceCtorEq, ne_eq, not_false_eq_true, if_true, if_false, Bool.false_eq_true, Option.map_some, decide_eq_true_eq, Bool.not_true, Bool.not_false])
        refine c_init_Interval U Xg ?_
        rw [Xu]
        have H5 : Holds (upd h1 x (nd (o - (i - s)) p .none .none .none)) rt (plug c (.node a (i - s) p l r)) := H4.frame fun y m => Xa fun z => by
          subst z
          rcases m with m | m
          · exact xr m
          · exact xW m
        have er2 : (plug c (.node a (i - s) p l r)).rows = (inoL c ++ l.ino).map (·.2) ++ (i - s, p) :: (r.ino ++ inoR c).map (·.2) := by rw [rows_plug]; simp [T.rows, T.ino]
        rw [er, PosR.append, PosR.cons] at PR
        have P5 : Pos (plug c (.node a (i - s) p l r)) := by
          rw [posR_rows, er2, PosR.append, PosR.cons]
          exact ⟨PR.1, by omega, PR.2.2⟩
        refine ⟨rfl, ?_⟩
        repeat (first | refine XJ ?_ | simp only [↓Yb, ↓XQ, ↓YH, ↓Yd, ↓Ye, ↓Yg, ↓Yh, ↓Yi, ↓YI, ↓YJ, ↓Yj, ↓Yk, ↓XR, ↓XS, ↓YK, ↓Ym, ↓YL, ↓YM, ↓Yn, ↓YN, ↓YO, ↓XU, ↓YQ, ↓Yo, ↓YR, ↓Zk, ↓XV, ↓YS, ↓YT, ↓Zl, ↓YU, ↓Yp, ↓XW, ↓YV, ↓YW, ↓YX, ↓Yq, ↓YY, ↓YZ, ↓Y0, ↓Y1, ↓XX, ↓Xn, ↓Xo, ↓Y2, ↓Xp, ↓Xq, ↓Y3, ↓Yr, ↓Xr, ↓XY, ↓Ys, ↓Xd, ↓Xe, ↓Xf, ↓Y4, ↓Y5, ↓Y7, ↓Y8, ↓Y9, ↓Za, ↓Zb, ↓Zc, ↓Yu, ↓Yz, ↓YA, ↓YF, ↓Xi, ↓XM, ↓Xl, ↓Xb, ↓Xc, ↓Xm, ↓Xj, ↓XN, ↓Xk, ↓XO, Zd, Ze, Zf, Zg, Zh, Zi, Yv, Yw, Yx, Yy, Zj, X0, X1, Xg, Xu, X2, X3, YC, YD, XZ, Xs, Xv, Xw, X4, X5, X6, X7, X8, Xh, XA, XB, XC, XD, XE, XF, YE, X9, XH, setAll, Yl, reduceCtorEq, ne_eq, not_false_eq_true, if_true, if_false, Bool.false_eq_true, Option.map_some, decide_eq_true_eq, Bool.not_true, Bool.not_false])
        refine c_put_behind U H5 P5 (by omega) Xg xr xW ?_ fun h' W' H' eW' f' => ⟨_, Sub.refl, k h' W' ⟨H', fun b ob n1 n2 e1 => ?_, fun b mb => ?_⟩ ?_⟩
        · have : (plug c (.node a (i - s) p l r)).ino.length = W.ino.length := by rw [← len_ads, eads, len_ads]
          omega
        · have : h1 b = h b := f1 b fun z => n2 (by rw [eW]; exact (mem_adsC (c := ⟨false, a, o, p, l⟩ :: c) (t := r)).mpr (.inl z))
          have bx : b ≠ x := fun z => by rw [← z, this, e1] at hx; cases hx
          rw [f' b n1 (eads ▸ n2) bx, Xa bx, this, e1]
        · have : b ∈ W.ads ∨ b = x := by
            rw [← eads, T.ads, ino_plug, T.ino]
            unfold T.ads at mb
            rw [eW'] at mb
            simp only [List.map_append, List.map_cons, List.mem_append, List.mem_cons] at mb ⊢
            grind
          rcases this with m | rfl
          · exact .inl m
          · by_cases m : b ∈ W.ads
            · exact .inl m
            · refine .inr ?_
              have : h1 b = h b := f1 b fun z => m (by rw [eW]; exact (mem_adsC (c := ⟨false, a, o, p, l⟩ :: c) (t := r)).mpr (.inl z))
              rw [← this, hx]
        · rw [er, partR_at (PosR.append.mpr ⟨PR.1, PosR.cons.mpr PR.2⟩) (by rw [hs']; omega) (by rw [hs']; omega), hs']
          unfold T.rows
          rw [eW']
          simp
          omega
    · rw [decide_eq_false i1]
      repeat (first | refine XJ ?_ | simp only [↓Yb, ↓XQ, ↓YH, ↓Yd, ↓Ye, ↓Yg, ↓Yh, ↓Yi, ↓YI, ↓YJ, ↓Yj, ↓Yk, ↓XR, ↓XS, ↓YK, ↓Ym, ↓YL, ↓YM, ↓Yn, ↓YN, ↓YO, ↓XU, ↓YQ, ↓Yo, ↓YR, ↓Zk, ↓XV, ↓YS, ↓YT, ↓Zl, ↓YU, ↓Yp, ↓XW, ↓YV, ↓YW, ↓YX, ↓Yq, ↓YY, ↓YZ, ↓Y0, ↓Y1, ↓XX, ↓Xn, ↓Xo, ↓Y2, ↓Xp, ↓Xq, ↓Y3, ↓Yr, ↓Xr, ↓XY, ↓Ys, ↓Xd, ↓Xe, ↓Xf, ↓Y4, ↓Y5, ↓Y7, ↓Y8, ↓Y9, ↓Za, ↓Zb, ↓Zc, ↓Yu, ↓Yz, ↓YA, ↓YF, ↓Xi, ↓XM, ↓Xl, ↓Xb, ↓Xc, ↓Xm, ↓Xj, ↓XN, ↓Xk, ↓XO, Zd, Ze, Zf, Zg, Zh, Zi, Yv, Yw, Yx, Yy, Zj, X0, X1, Xg, Xu, X2, X3, YC, YD, XZ, Xs, Xv, Xw, X4, X5, X6, X7, X8, Xh, XA, XB, XC, XD, XE, XF, YE, X9, XH, setAll, Yl, reduceCtorEq, ne_eq, not_false_eq_true, if_true, if_false, Bool.false_eq_true, Option.map_some, decide_eq_true_eq, Bool.not_true, Bool.not_false])
      refine ⟨_, Sub.refl, k h W (.same H) ?_⟩
      rw [partR_high PR (by omega)]
  · rename_i i0
    rw [decide_eq_false i0]
    repeat (first | refine XJ ?_ | simp only [↓Yb, ↓XQ, ↓YH, ↓Yd, ↓Ye, ↓Yg, ↓Yh, ↓Yi, ↓YI, ↓YJ, ↓Yj, ↓Yk, ↓XR, ↓XS, ↓YK, ↓Ym, ↓YL, ↓YM, ↓Yn, ↓YN, ↓YO, ↓XU, ↓YQ, ↓Yo, ↓YR, ↓Zk, ↓XV, ↓YS, ↓YT, ↓Zl, ↓YU, ↓Yp, ↓XW, ↓YV, ↓YW, ↓YX, ↓Yq, ↓YY, ↓YZ, ↓Y0, ↓Y1, ↓XX, ↓Xn, ↓Xo, ↓Y2, ↓Xp, ↓Xq, ↓Y3, ↓Yr, ↓Xr, ↓XY, ↓Ys, ↓Xd, ↓Xe, ↓Xf, ↓Y4, ↓Y5, ↓Y7, ↓Y8, ↓Y9, ↓Za, ↓Zb, ↓Zc, ↓Yu, ↓Yz, ↓YA, ↓YF, ↓Xi, ↓XM, ↓Xl, ↓Xb, ↓Xc, ↓Xm, ↓Xj, ↓XN, ↓Xk, ↓XO, Zd, Ze, Zf, Zg, Zh, Zi, Yv, Yw, Yx, Yy, Zj, X0, X1, Xg, Xu, X2, X3, YC, YD, XZ, Xs, Xv, Xw, X4, X5, X6, X7, X8, Xh, XA, XB, XC, XD, XE, XF, YE, X9, XH, setAll, Yl, reduceCtorEq, ne_eq, not_false_eq_true, if_true, if_false, Bool.false_eq_true, Option.map_some, decide_eq_true_eq, Bool.not_true, Bool.not_false])
    refine ⟨_, Sub.refl, k h W (.same H) ?_⟩
    rw [partR_low PR (by omega)]
end
end Mine

namespace Mine
section
variable {Γ : Ctr} (U : Base Γ)
include U
theorem c_drop_interval {h : Hp} {rt a : Nat} {o : Int} {p : V} {l r : T} {c : Ctx} {Q : V → Hp → Prop} (H : Holds h rt (plug c (.node a o p l r))) (P : Pos (plug c (.node a o p l r))) (sz : (plug c (.node a o p l r)).ino.length ≤ 1000)
    (k : ∀ h' W', Step h rt (plug c (.node a o p l r)) h' W' → W'.ino = inoL c ++ l.ino ++ (r.ino ++ inoR c) → Q .none h') : Γ .drop_interval [.ref rt, .ref a] Q h := by
  refine U .drop_interval rfl _ _ _ (wpB_i (ps := p_drop_interval) (b := b_drop_interval) rfl ?_)
  obtain ⟨HC, it, nn⟩ := H.split
  have nn1 := nn
  simp only [ads_node, List.nodup_cons, List.nodup_append, List.mem_append, List.mem_cons, not_or] at nn
  have nn2 : (rt :: adsC c).Nodup := by simp only [List.nodup_cons]; exact ⟨nn.1.1, nn.2.1⟩
  repeat (first | refine XJ ?_ | simp only [b_drop_interval, p_drop_interval, ↓Y6 it.1, YB it.1, ↓Yb, ↓XQ, ↓YH, ↓Yd, ↓Ye, ↓Yg, ↓Yh, ↓Yi, ↓YI, ↓YJ, ↓Yj, ↓Yk, ↓XR, ↓XS, ↓YK, ↓Ym, ↓YL, ↓YM, ↓Yn, ↓YN, ↓YO, ↓XU, ↓YQ, ↓Yo, ↓YR, ↓Zk, ↓XV, ↓YS, ↓YT, ↓Zl, ↓YU, ↓Yp, ↓XW, ↓YV, ↓YW, ↓YX, ↓Yq, ↓YY, ↓YZ, ↓Y0, ↓Y1, ↓XX, ↓Xn, ↓Xo, ↓Y2, ↓Xp, ↓Xq, ↓Y3, ↓Yr, ↓Xr, ↓XY, ↓Ys, ↓Xd, ↓Xe, ↓Xf, ↓Y4, ↓Y5, ↓Y7, ↓Y8, ↓Y9, ↓Za, ↓Zb, ↓Zc, ↓Yu, ↓Yz, ↓YA, ↓YF, ↓Xi, ↓XM, ↓Xl, ↓Xb, ↓Xc, ↓Xm, ↓Xj, ↓XN, ↓Xk, ↓XO, Zd, Ze, Zf, Zg, Zh, Zi, Yv, Yw, Yx, Yy, Zj, X0, X1, Xg, Xu, X2, X3, YC, YD, XZ, Xs, Xv, Xw, X4, X5, X6, X7, X8, Xh, XA, XB, XC, XD, XE, XF, YE, X9, XH, setAll, Yl, reduceCtorEq, ne_eq, not_false_eq_true, if_true, if_false, Bool.false_eq_true, Option.map_some, decide_eq_true_eq, Bool.not_true, Bool.not_false])
  refine c_own_length U it ?_
  repeat (first | refine XJ ?_ | simp only [↓Yb, ↓XQ, ↓YH, ↓Yd, ↓Ye, ↓Yg, ↓Yh, ↓Yi, ↓YI, ↓YJ, ↓Yj, ↓Yk, ↓XR, ↓XS, ↓YK, ↓Ym, ↓YL, ↓YM, ↓Yn, ↓YN, ↓YO, ↓XU, ↓YQ, ↓Yo, ↓YR, ↓Zk, ↓XV, ↓YS, ↓YT, ↓Zl, ↓YU, ↓Yp, ↓XW, ↓YV, ↓YW, ↓YX, ↓Yq, ↓YY, ↓YZ, ↓Y0, ↓Y1, ↓XX, ↓Xn, ↓Xo, ↓Y2, ↓Xp, ↓Xq, ↓Y3, ↓Yr, ↓Xr, ↓XY, ↓Ys, ↓Xd, ↓Xe, ↓Xf, ↓Y4, ↓Y5, ↓Y7, ↓Y8, ↓Y9, ↓Za, ↓Zb, ↓Zc, ↓Yu, ↓Yz, ↓YA, ↓YF, ↓Xi, ↓XM, ↓Xl, ↓Xb, ↓Xc, ↓Xm, ↓Xj, ↓XN, ↓Xk, ↓XO, Zd, Ze, Zf, Zg, Zh, Zi, Yv, Yw, Yx, Yy, Zj, X0, X1, Xg, Xu, X2, X3, YC, YD, XZ, Xs, Xv, Xw, X4, X5, X6, X7, X8, Xh, XA, XB, XC, XD, XE, XF, YE, X9, XH, setAll, Yl, reduceCtorEq, ne_eq, not_false_eq_true, if_true, if_false, Bool.false_eq_true, Option.map_some, decide_eq_true_eq, Bool.not_true, Bool.not_false])
  refine c_add_above U HC nn2 fun h1 H1 f1 => ?_
  have it1 : IsT h1 (.node a o p l r) (par c .none) := it.frame fun x m => f1 x (by simp only [ads_node, List.mem_append, List.mem_cons] at m; grind)
  simp only [T.ptr] at H1
  rw [show (T.node a o p l r).tot + (0 - o) = l.tot + r.tot by simp only [T.tot]; omega] at H1
  obtain ⟨e1, il1, ir1⟩ := it1
  have PW : ∀ {W' : T}, W'.ino = inoL c ++ l.ino ++ (r.ino ++ inoR c) → Pos W' ∧ W'.ino.length ≤ 1000 ∧ ∀ b, b ∈ W'.ads → b ∈ (plug c (.node a o p l r)).ads := fun {W'} e => by
    refine ⟨fun x m => P x ?_, ?_, fun b m => ?_⟩
    · rw [ino_plug, T.ino]
      rw [e] at m
      simp only [List.mem_append, List.mem_cons] at m ⊢
      grind
    · rw [e]; rw [ino_plug, T.ino] at sz
      simp only [List.length_append, List.length_cons] at sz ⊢; omega
    · rw [T.ads, ino_plug, T.ino]
      unfold T.ads at m
      rw [e] at m
      simp only [List.map_append, List.map_cons, List.mem_append, List.mem_cons] at m ⊢
      grind
  have nin : ∀ y, y ∉ (plug c (.node a o p l r)).ads → y ∉ adsC c ∧ y ≠ a ∧ y ∉ l.ads ∧ y ∉ r.ads := fun y m => by
    rw [mem_adsC] at m
    simp only [ads_node, List.mem_append, List.mem_cons, not_or] at m
    grind
  -- one son at most
  have one : ∀ (s : T) (R : V → Hp → Prop), (s = l ∧ r = .nil ∨ s = r ∧ l = .nil) → (∀ v h', Γ .settle_up [.ref rt, par c .none] (fun _ h => ∃ h'', Sub h'' h ∧ Q .none h'') h' → R v h') → Γ .put_in_stead [.ref rt, .ref a, s.ptr] R h1 := by
    intro s R hs hR
    have ei : s.ino = l.ino ++ r.ino := by rcases hs with ⟨rfl, rfl⟩ | ⟨rfl, rfl⟩ <;> simp [T.ino]
    have et : s.tot = l.tot + r.tot := by rw [tot_sum, tot_sum, tot_sum, ei, sumI_append]
    have ea : s.ads = l.ads ++ r.ads := by unfold T.ads; rw [ei]; simp
    have ist : IsT h1 s (.ref a) := by rcases hs with ⟨rfl, rfl⟩ | ⟨rfl, rfl⟩ <;> assumption
    have ns : (rt :: (adsC c ++ s.ads)).Nodup := by
      rw [ea]
      simp only [List.nodup_cons, List.nodup_append, List.mem_append, not_or]
      grind
    repeat (first | refine XJ ?_ | simp only [↓Yb, ↓XQ, ↓YH, ↓Yd, ↓Ye, ↓Yg, ↓Yh, ↓Yi, ↓YI, ↓YJ, ↓Yj, ↓Yk, ↓XR, ↓XS, ↓YK, ↓Ym, ↓YL, ↓YM, ↓Yn, ↓YN, ↓YO, ↓XU, ↓YQ, ↓Yo, ↓YR, ↓Zk, ↓XV, ↓YS, ↓YT, ↓Zl, ↓YU, ↓Yp, ↓XW, ↓YV, ↓YW, ↓YX, ↓Yq, ↓YY, ↓YZ, ↓Y0, ↓Y1, ↓XX, ↓Xn, ↓Xo, ↓Y2, ↓Xp, ↓Xq, ↓Y3, ↓Yr, ↓Xr, ↓XY, ↓Ys, ↓Xd, ↓Xe, ↓Xf, ↓Y4, ↓Y5, ↓Y7, ↓Y8, ↓Y9, ↓Za, ↓Zb, ↓Zc, ↓Yu, ↓Yz, ↓YA, ↓YF, ↓Xi, ↓XM, ↓Xl, ↓Xb, ↓Xc, ↓Xm, ↓Xj, ↓XN, ↓Xk, ↓XO, Zd, Ze, Zf, Zg, Zh, Zi, Yv, Yw, Yx, Yy, Zj, X0, X1, Xg, Xu, X2, X3, YC, YD, XZ, Xs, Xv, Xw, X4, X5, X6, X7, X8, Xh, XA, XB, XC, XD, XE, XF, YE, X9, XH, setAll, Yl, reduceCtorEq, ne_eq, not_false_eq_true, if_true, if_false, Bool.false_eq_true, Option.map_some, decide_eq_true_eq, Bool.not_true, Bool.not_false])
    refine c_put_in_stead U H1 e1 ns (by grind) (by rw [ea, List.mem_append]; grind) ist fun h2 H2 i2 f2 => hR _ _ ?_
    rw [← et] at H2
    have H3 : Holds h2 rt (plug c s) := H2.join i2 ns
    have eW : (plug c s).ino = inoL c ++ l.ino ++ (r.ino ++ inoR c) := by rw [ino_plug, ei]; simp
    obtain ⟨p1, p2, p3⟩ := PW eW
    repeat (first | refine XJ ?_ | simp only [↓Yb, ↓XQ, ↓YH, ↓Yd, ↓Ye, ↓Yg, ↓Yh, ↓Yi, ↓YI, ↓YJ, ↓Yj, ↓Yk, ↓XR, ↓XS, ↓YK, ↓Ym, ↓YL, ↓YM, ↓Yn, ↓YN, ↓YO, ↓XU, ↓YQ, ↓Yo, ↓YR, ↓Zk, ↓XV, ↓YS, ↓YT, ↓Zl, ↓YU, ↓Yp, ↓XW, ↓YV, ↓YW, ↓YX, ↓Yq, ↓YY, ↓YZ, ↓Y0, ↓Y1, ↓XX, ↓Xn, ↓Xo, ↓Y2, ↓Xp, ↓Xq, ↓Y3, ↓Yr, ↓Xr, ↓XY, ↓Ys, ↓Xd, ↓Xe, ↓Xf, ↓Y4, ↓Y5, ↓Y7, ↓Y8, ↓Y9, ↓Za, ↓Zb, ↓Zc, ↓Yu, ↓Yz, ↓YA, ↓YF, ↓Xi, ↓XM, ↓Xl, ↓Xb, ↓Xc, ↓Xm, ↓Xj, ↓XN, ↓Xk, ↓XO, Zd, Ze, Zf, Zg, Zh, Zi, Yv, Yw, Yx, Yy, Zj, X0, X1, Xg, Xu, X2, X3, YC, YD, XZ, Xs, Xv, Xw, X4, X5, X6, X7, X8, Xh, XA, XB, XC, XD, XE, XF, YE, X9, XH, setAll, Yl, reduceCtorEq, ne_eq, not_false_eq_true, if_true, if_false, Bool.false_eq_true, Option.map_some, decide_eq_true_eq, Bool.not_true, Bool.not_false])
    refine c_settle_up U H3 p1 p2 fun h3 W' M => ⟨_, Sub.refl, k h3 W' ⟨M.holds, fun b ob n1 n2 eb => ?_, fun b m => .inl (p3 b (M.ads ▸ m))⟩ (M.ino.trans eW)⟩
    obtain ⟨m1, m2, m3, m4⟩ := nin b n2
    have q2 : b ∉ s.ads := by rw [ea, List.mem_append]; grind
    rw [M.fr b n1 (by rw [mem_adsC]; grind), f2 b n1 m1 q2, f1 b m1, eb]
  repeat (first | refine XJ ?_ | simp only [↓Y6 e1, YB e1, ↓Yb, ↓XQ, ↓YH, ↓Yd, ↓Ye, ↓Yg, ↓Yh, ↓Yi, ↓YI, ↓YJ, ↓Yj, ↓Yk, ↓XR, ↓XS, ↓YK, ↓Ym, ↓YL, ↓YM, ↓Yn, ↓YN, ↓YO, ↓XU, ↓YQ, ↓Yo, ↓YR, ↓Zk, ↓XV, ↓YS, ↓YT, ↓Zl, ↓YU, ↓Yp, ↓XW, ↓YV, ↓YW, ↓YX, ↓Yq, ↓YY, ↓YZ, ↓Y0, ↓Y1, ↓XX, ↓Xn, ↓Xo, ↓Y2, ↓Xp, ↓Xq, ↓Y3, ↓Yr, ↓Xr, ↓XY, ↓Ys, ↓Xd, ↓Xe, ↓Xf, ↓Y4, ↓Y5, ↓Y7, ↓Y8, ↓Y9, ↓Za, ↓Zb, ↓Zc, ↓Yu, ↓Yz, ↓YA, ↓YF, ↓Xi, ↓XM, ↓Xl, ↓Xb, ↓Xc, ↓Xm, ↓Xj, ↓XN, ↓Xk, ↓XO, Zd, Ze, Zf, Zg, Zh, Zi, Yv, Yw, Yx, Yy, Zj, X0, X1, Xg, Xu, X2, X3, YC, YD, XZ, Xs, Xv, Xw, X4, X5, X6, X7, X8, Xh, XA, XB, XC, XD, XE, XF, YE, X9, XH, setAll, Yl, reduceCtorEq, ne_eq, not_false_eq_true, if_true, if_false, Bool.false_eq_true, Option.map_some, decide_eq_true_eq, Bool.not_true, Bool.not_false])
  cases l with
  | nil =>
    repeat (first | refine XJ ?_ | simp only [T.ptr, ↓Yb, ↓XQ, ↓YH, ↓Yd, ↓Ye, ↓Yg, ↓Yh, ↓Yi, ↓YI, ↓YJ, ↓Yj, ↓Yk, ↓XR, ↓XS, ↓YK, ↓Ym, ↓YL, ↓YM, ↓Yn, ↓YN, ↓YO, ↓XU, ↓YQ, ↓Yo, ↓YR, ↓Zk, ↓XV, ↓YS, ↓YT, ↓Zl, ↓YU, ↓Yp, ↓XW, ↓YV, ↓YW, ↓YX, ↓Yq, ↓YY, ↓YZ, ↓Y0, ↓Y1, ↓XX, ↓Xn, ↓Xo, ↓Y2, ↓Xp, ↓Xq, ↓Y3, ↓Yr, ↓Xr, ↓XY, ↓Ys, ↓Xd, ↓Xe, ↓Xf, ↓Y4, ↓Y5, ↓Y7, ↓Y8, ↓Y9, ↓Za, ↓Zb, ↓Zc, ↓Yu, ↓Yz, ↓YA, ↓YF, ↓Xi, ↓XM, ↓Xl, ↓Xb, ↓Xc, ↓Xm, ↓Xj, ↓XN, ↓Xk, ↓XO, Zd, Ze, Zf, Zg, Zh, Zi, Yv, Yw, Yx, Yy, Zj, X0, X1, Xg, Xu, X2, X3, YC, YD, XZ, Xs, Xv, Xw, X4, X5, X6, X7, X8, Xh, XA, XB, XC, XD, XE, XF, YE, X9, XH, setAll, Yl, reduceCtorEq, ne_eq, not_false_eq_true, if_true, if_false, Bool.false_eq_true, Option.map_some, decide_eq_true_eq, Bool.not_true, Bool.not_false])
    cases r with
    | nil =>
      repeat (first | refine XJ ?_ | simp only [T.ptr, ↓Y6 e1, YB e1, ↓Yb, ↓XQ, ↓YH, ↓Yd, ↓Ye, ↓Yg, ↓Yh, ↓Yi, ↓YI, ↓YJ, ↓Yj, ↓Yk, ↓XR, ↓XS, ↓YK, ↓Ym, ↓YL, ↓YM, ↓Yn, ↓YN, ↓YO, ↓XU, ↓YQ, ↓Yo, ↓YR, ↓Zk, ↓XV, ↓YS, ↓YT, ↓Zl, ↓YU, ↓Yp, ↓XW, ↓YV, ↓YW, ↓YX, ↓Yq, ↓YY, ↓YZ, ↓Y0, ↓Y1, ↓XX, ↓Xn, ↓Xo, ↓Y2, ↓Xp, ↓Xq, ↓Y3, ↓Yr, ↓Xr, ↓XY, ↓Ys, ↓Xd, ↓Xe, ↓Xf, ↓Y4, ↓Y5, ↓Y7, ↓Y8, ↓Y9, ↓Za, ↓Zb, ↓Zc, ↓Yu, ↓Yz, ↓YA, ↓YF, ↓Xi, ↓XM, ↓Xl, ↓Xb, ↓Xc, ↓Xm, ↓Xj, ↓XN, ↓Xk, ↓XO, Zd, Ze, Zf, Zg, Zh, Zi, Yv, Yw, Yx, Yy, Zj, X0, X1, Xg, Xu, X2, X3, YC, YD, XZ, Xs, Xv, Xw, X4, X5, X6, X7, X8, Xh, XA, XB, XC, XD, XE, XF, YE, X9, XH, setAll, Yl, reduceCtorEq, ne_eq, not_false_eq_true, if_true, if_false, Bool.false_eq_true, Option.map_some, decide_eq_true_eq, Bool.not_true, Bool.not_false])
      exact one .nil _ (.inl ⟨rfl, rfl⟩) fun v h' s => XJ (by simp only [Yc, ↓Yb, ↓XQ, ↓YH, ↓Yd, ↓Ye, ↓Yg, ↓Yh, ↓Yi, ↓YI, ↓YJ, ↓Yj, ↓Yk, ↓XR, ↓XS, ↓YK, ↓Ym, ↓YL, ↓YM, ↓Yn, ↓YN, ↓YO, ↓XU, ↓YQ, ↓Yo, ↓YR, ↓Zk, ↓XV, ↓YS, ↓YT, ↓Zl, ↓YU, ↓Yp, ↓XW, ↓YV, ↓YW, ↓YX, ↓Yq, ↓YY, ↓YZ, ↓Y0, ↓Y1, ↓XX, ↓Xn, ↓Xo, ↓Y2, ↓Xp, ↓Xq, ↓Y3, ↓Yr, ↓Xr, ↓XY, ↓Ys, ↓Xd, ↓Xe, ↓Xf, ↓Y4, ↓Y5, ↓Y7, ↓Y8, ↓Y9, ↓Za, ↓Zb, ↓Zc, ↓Yu, ↓Yz, ↓YA, ↓YF, ↓Xi, ↓XM, ↓Xl, ↓Xb, ↓Xc, ↓Xm, ↓Xj, ↓XN, ↓Xk, ↓XO, Zd, Ze, Zf, Zg, Zh, Zi, Yv, Yw, Yx, Yy, Zj, X0, X1, Xg, Xu, X2, X3, YC, YD, XZ, Xs, Xv, Xw, X4, X5, X6, X7, X8, Xh, XA, XB, XC, XD, XE, XF, YE, X9, XH, setAll, Yl, reduceCtorEq, ne_eq, not_false_eq_true, if_true, if_false, Bool.false_eq_true, Option.map_some, decide_eq_true_eq, Bool.not_true, Bool.not_false]; exact s)
    | node br orr pr lr rr =>
      repeat (first | refine XJ ?_ | simp only [T.ptr, ↓Y6 e1, YB e1, ↓Yb, ↓XQ, ↓YH, ↓Yd, ↓Ye, ↓Yg, ↓Yh, ↓Yi, ↓YI, ↓YJ, ↓Yj, ↓Yk, ↓XR, ↓XS, ↓YK, ↓Ym, ↓YL, ↓YM, ↓Yn, ↓YN, ↓YO, ↓XU, ↓YQ, ↓Yo, ↓YR, ↓Zk, ↓XV, ↓YS, ↓YT, ↓Zl, ↓YU, ↓Yp, ↓XW, ↓YV, ↓YW, ↓YX, ↓Yq, ↓YY, ↓YZ, ↓Y0, ↓Y1, ↓XX, ↓Xn, ↓Xo, ↓Y2, ↓Xp, ↓Xq, ↓Y3, ↓Yr, ↓Xr, ↓XY, ↓Ys, ↓Xd, ↓Xe, ↓Xf, ↓Y4, ↓Y5, ↓Y7, ↓Y8, ↓Y9, ↓Za, ↓Zb, ↓Zc, ↓Yu, ↓Yz, ↓YA, ↓YF, ↓Xi, ↓XM, ↓Xl, ↓Xb, ↓Xc, ↓Xm, ↓Xj, ↓XN, ↓Xk, ↓XO, Zd, Ze, Zf, Zg, Zh, Zi, Yv, Yw, Yx, Yy, Zj, X0, X1, Xg, Xu, X2, X3, YC, YD, XZ, Xs, Xv, Xw, X4, X5, X6, X7, X8, Xh, XA, XB, XC, XD, XE, XF, YE, X9, XH, setAll, Yl, reduceCtorEq, ne_eq, not_false_eq_true, if_true, if_false, Bool.false_eq_true, Option.map_some, decide_eq_true_eq, Bool.not_true, Bool.not_false])
      exact one (.node br orr pr lr rr) _ (.inr ⟨rfl, rfl⟩) fun v h' s => XJ (by simp only [Yc, ↓Yb, ↓XQ, ↓YH, ↓Yd, ↓Ye, ↓Yg, ↓Yh, ↓Yi, ↓YI, ↓YJ, ↓Yj, ↓Yk, ↓XR, ↓XS, ↓YK, ↓Ym, ↓YL, ↓YM, ↓Yn, ↓YN, ↓YO, ↓XU, ↓YQ, ↓Yo, ↓YR, ↓Zk, ↓XV, ↓YS, ↓YT, ↓Zl, ↓YU, ↓Yp, ↓XW, ↓YV, ↓YW, ↓YX, ↓Yq, ↓YY, ↓YZ, ↓Y0, ↓Y1, ↓XX, ↓Xn, ↓Xo, ↓Y2, ↓Xp, ↓Xq, ↓Y3, ↓Yr, ↓Xr, ↓XY, ↓Ys, ↓Xd, ↓Xe, ↓Xf, ↓Y4, ↓Y5, ↓Y7, ↓Y8, ↓Y9, ↓Za, ↓Zb, ↓Zc, ↓Yu, ↓Yz, ↓YA, ↓YF, ↓Xi, ↓XM, ↓Xl, ↓Xb, ↓Xc, ↓Xm, ↓Xj, ↓XN, ↓Xk, ↓XO, Zd, Ze, Zf, Zg, Zh, Zi, Yv, Yw, Yx, Yy, Zj, X0, X1, Xg, Xu, X2, X3, YC, YD, XZ, Xs, Xv, Xw, X4, X5, X6, X7, X8, Xh, XA, XB, XC, XD, XE, XF, YE, X9, XH, setAll, Yl, reduceCtorEq, ne_eq, not_false_eq_true, if_true, if_false, Bool.false_eq_true, Option.map_some, decide_eq_true_eq, Bool.not_true, Bool.not_false]; exact s)
  | node bl ol pl ll rl =>
    cases r with
    | nil =>
      repeat (first | refine XJ ?_ | simp only [T.ptr, ↓Y6 e1, YB e1, ↓Yb, ↓XQ, ↓YH, ↓Yd, ↓Ye, ↓Yg, ↓Yh, ↓Yi, ↓YI, ↓YJ, ↓Yj, ↓Yk, ↓XR, ↓XS, ↓YK, ↓Ym, ↓YL, ↓YM, ↓Yn, ↓YN, ↓YO, ↓XU, ↓YQ, ↓Yo, ↓YR, ↓Zk, ↓XV, ↓YS, ↓YT, ↓Zl, ↓YU, ↓Yp, ↓XW, ↓YV, ↓YW, ↓YX, ↓Yq, ↓YY, ↓YZ, ↓Y0, ↓Y1, ↓XX, ↓Xn, ↓Xo, ↓Y2, ↓Xp, ↓Xq, ↓Y3, ↓Yr, ↓Xr, ↓XY, ↓Ys, ↓Xd, ↓Xe, ↓Xf, ↓Y4, ↓Y5, ↓Y7, ↓Y8, ↓Y9, ↓Za, ↓Zb, ↓Zc, ↓Yu, ↓Yz, ↓YA, ↓YF, ↓Xi, ↓XM, ↓Xl, ↓Xb, ↓Xc, ↓Xm, ↓Xj, ↓XN, ↓Xk, ↓XO, Zd, Ze, Zf, Zg, Zh, Zi, Yv, Yw, Yx, Yy, Zj, X0, X1, Xg, Xu, X2, X3, YC, YD, XZ, Xs, Xv, Xw, X4, X5, X6, X7, X8, Xh, XA, XB, XC, XD, XE, XF, YE, X9, XH, setAll, Yl, reduceCtorEq, ne_eq, not_false_eq_true, if_true, if_false, Bool.false_eq_true, Option.map_some, decide_eq_true_eq, Bool.not_true, Bool.not_false])
      exact one (.node bl ol pl ll rl) _ (.inl ⟨rfl, rfl⟩) fun v h' s => XJ (by simp only [Yc, ↓Yb, ↓XQ, ↓YH, ↓Yd, ↓Ye, ↓Yg, ↓Yh, ↓Yi, ↓YI, ↓YJ, ↓Yj, ↓Yk, ↓XR, ↓XS, ↓YK, ↓Ym, ↓YL, ↓YM, ↓Yn, ↓YN, ↓YO, ↓XU, ↓YQ, ↓Yo, ↓YR, ↓Zk, ↓XV, ↓YS, ↓YT, ↓Zl, ↓YU, ↓Yp, ↓XW, ↓YV, ↓YW, ↓YX, ↓Yq, ↓YY, ↓YZ, ↓Y0, ↓Y1, ↓XX, ↓Xn, ↓Xo, ↓Y2, ↓Xp, ↓Xq, ↓Y3, ↓Yr, ↓Xr, ↓XY, ↓Ys, ↓Xd, ↓Xe, ↓Xf, ↓Y4, ↓Y5, ↓Y7, ↓Y8, ↓Y9, ↓Za, ↓Zb, ↓Zc, ↓Yu, ↓Yz, ↓YA, ↓YF, ↓Xi, ↓XM, ↓Xl, ↓Xb, ↓Xc, ↓Xm, ↓Xj, ↓XN, ↓Xk, ↓XO, Zd, Ze, Zf, Zg, Zh, Zi, Yv, Yw, Yx, Yy, Zj, X0, X1, Xg, Xu, X2, X3, YC, YD, XZ, Xs, Xv, Xw, X4, X5, X6, X7, X8, Xh, XA, XB, XC, XD, XE, XF, YE, X9, XH, setAll, Yl, reduceCtorEq, ne_eq, not_false_eq_true, if_true, if_false, Bool.false_eq_true, Option.map_some, decide_eq_true_eq, Bool.not_true, Bool.not_false]; exact s)
    | node br orr pr lr rr =>
      repeat (first | refine XJ ?_ | simp only [T.ptr, ↓Y6 e1, YB e1, ↓Yb, ↓XQ, ↓YH, ↓Yd, ↓Ye, ↓Yg, ↓Yh, ↓Yi, ↓YI, ↓YJ, ↓Yj, ↓Yk, ↓XR, ↓XS, ↓YK, ↓Ym, ↓YL, ↓YM, ↓Yn, ↓YN, ↓YO, ↓XU, ↓YQ, ↓Yo, ↓YR, ↓Zk, ↓XV, ↓YS, ↓YT, ↓Zl, ↓YU, ↓Yp, ↓XW, ↓YV, ↓YW, ↓YX, ↓Yq, ↓YY, ↓YZ, ↓Y0, ↓Y1, ↓XX, ↓Xn, ↓Xo, ↓Y2, ↓Xp, ↓Xq, ↓Y3, ↓Yr, ↓Xr, ↓XY, ↓Ys, ↓Xd, ↓Xe, ↓Xf, ↓Y4, ↓Y5, ↓Y7, ↓Y8, ↓Y9, ↓Za, ↓Zb, ↓Zc, ↓Yu, ↓Yz, ↓YA, ↓YF, ↓Xi, ↓XM, ↓Xl, ↓Xb, ↓Xc, ↓Xm, ↓Xj, ↓XN, ↓Xk, ↓XO, Zd, Ze, Zf, Zg, Zh, Zi, Yv, Yw, Yx, Yy, Zj, X0, X1, Xg, Xu, X2, X3, YC, YD, XZ, Xs, Xv, Xw, X4, X5, X6, X7, X8, Xh, XA, XB, XC, XD, XE, XF, YE, X9, XH, setAll, Yl, reduceCtorEq, ne_eq, not_false_eq_true, if_true, if_false, Bool.false_eq_true, Option.map_some, decide_eq_true_eq, Bool.not_true, Bool.not_false])
      refine c_leftmost U ir1 fun c' b o' p' r' er er2 => ?_
      repeat (first | refine XJ ?_ | simp only [↓Y6 e1, YB e1, T.ptr, ↓Yb, ↓XQ, ↓YH, ↓Yd, ↓Ye, ↓Yg, ↓Yh, ↓Yi, ↓YI, ↓YJ, ↓Yj, ↓Yk, ↓XR, ↓XS, ↓YK, ↓Ym, ↓YL, ↓YM, ↓Yn, ↓YN, ↓YO, ↓XU, ↓YQ, ↓Yo, ↓YR, ↓Zk, ↓XV, ↓YS, ↓YT, ↓Zl, ↓YU, ↓Yp, ↓XW, ↓YV, ↓YW, ↓YX, ↓Yq, ↓YY, ↓YZ, ↓Y0, ↓Y1, ↓XX, ↓Xn, ↓Xo, ↓Y2, ↓Xp, ↓Xq, ↓Y3, ↓Yr, ↓Xr, ↓XY, ↓Ys, ↓Xd, ↓Xe, ↓Xf, ↓Y4, ↓Y5, ↓Y7, ↓Y8, ↓Y9, ↓Za, ↓Zb, ↓Zc, ↓Yu, ↓Yz, ↓YA, ↓YF, ↓Xi, ↓XM, ↓Xl, ↓Xb, ↓Xc, ↓Xm, ↓Xj, ↓XN, ↓Xk, ↓XO, Zd, Ze, Zf, Zg, Zh, Zi, Yv, Yw, Yx, Yy, Zj, X0, X1, Xg, Xu, X2, X3, YC, YD, XZ, Xs, Xv, Xw, X4, X5, X6, X7, X8, Xh, XA, XB, XC, XD, XE, XF, YE, X9, XH, setAll, Yl, reduceCtorEq, ne_eq, not_false_eq_true, if_true, if_false, Bool.false_eq_true, Option.map_some, decide_eq_true_eq, Bool.not_true, Bool.not_false])
      generalize hl : T.node bl ol pl ll rl = l at *
      generalize hr : T.node br orr pr lr rr = r at *
      have hrp : r.ptr = .ref br := by rw [← hr]; rfl
      have hlp : l.ptr = .ref bl := by rw [← hl]; rfl
      have ns : (rt :: (adsC c ++ r.ads)).Nodup := by
        simp only [List.nodup_cons, List.nodup_append, List.mem_append, not_or]
        grind
      rw [← hrp]
      repeat (first | refine XJ ?_ | simp only [↓Yb, ↓XQ, ↓YH, ↓Yd, ↓Ye, ↓Yg, ↓Yh, ↓Yi, ↓YI, ↓YJ, ↓Yj, ↓Yk, ↓XR, ↓XS, ↓YK, ↓Ym, ↓YL, ↓YM, ↓Yn, ↓YN, ↓YO, ↓XU, ↓YQ, ↓Yo, ↓YR, ↓Zk, ↓XV, ↓YS, ↓YT, ↓Zl, ↓YU, ↓Yp, ↓XW, ↓YV, ↓YW, ↓YX, ↓Yq, ↓YY, ↓YZ, ↓Y0, ↓Y1, ↓XX, ↓Xn, ↓Xo, ↓Y2, ↓Xp, ↓Xq, ↓Y3, ↓Yr, ↓Xr, ↓XY, ↓Ys, ↓Xd, ↓Xe, ↓Xf, ↓Y4, ↓Y5, ↓Y7, ↓Y8, ↓Y9, ↓Za, ↓Zb, ↓Zc, ↓Yu, ↓Yz, ↓YA, ↓YF, ↓Xi, ↓XM, ↓Xl, ↓Xb, ↓Xc, ↓Xm, ↓Xj, ↓XN, ↓Xk, ↓XO, Zd, Ze, Zf, Zg, Zh, Zi, Yv, Yw, Yx, Yy, Zj, X0, X1, Xg, Xu, X2, X3, YC, YD, XZ, Xs, Xv, Xw, X4, X5, X6, X7, X8, Xh, XA, XB, XC, XD, XE, XF, YE, X9, XH, setAll, Yl, reduceCtorEq, ne_eq, not_false_eq_true, if_true, if_false, Bool.false_eq_true, Option.map_some, decide_eq_true_eq, Bool.not_true, Bool.not_false])
      refine c_put_in_stead U H1 e1 ns (by grind) (by grind) ir1 fun h2 H2 i2 f2 => ?_
      have F0 : r = plug (⟨true, b, o', p', r'⟩ :: c') .nil := er
      have hl0 : l ≠ .nil := by rw [← hl]; simp
      obtain ⟨bo, bp, bl1, bl2, hl2⟩ : ∃ bo bp bl1 bl2, l = .node bl bo bp bl1 bl2 := ⟨_, _, _, _, hl.symm⟩
      have rads : ∀ x, x ∈ r.ads ↔ x = b ∨ x ∈ r'.ads ∨ x ∈ adsC c' := fun x => by rw [F0, mem_adsC]; simp [adsC, ads_nil]
      have nr : (rt :: adsC (⟨true, b, o', p', r'⟩ :: c')).Nodup := by
        have : (r.ads).Perm (adsC (⟨true, b, o', p', r'⟩ :: c')) := by rw [F0]; simpa [ads_nil] using perm_ads (c := ⟨true, b, o', p', r'⟩ :: c') (t := .nil)
        refine (List.Perm.cons rt this).nodup_iff.mp ?_
        simp only [List.nodup_cons]
        grind
      have i2' := i2
      rw [F0] at i2'
      obtain ⟨e3, is3, ik3⟩ := (isT_plug.mp i2').1
      have bin : b ∈ r.ads := (rads b).mpr (.inl rfl)
      have bl_ : b ∉ l.ads := by grind
      have il2 : IsT h2 l (.ref a) := il1.frame fun x m => f2 x (by grind) (by grind) (by grind)
      repeat (first | refine XJ ?_ | simp only [↓Yb, ↓XQ, ↓YH, ↓Yd, ↓Ye, ↓Yg, ↓Yh, ↓Yi, ↓YI, ↓YJ, ↓Yj, ↓Yk, ↓XR, ↓XS, ↓YK, ↓Ym, ↓YL, ↓YM, ↓Yn, ↓YN, ↓YO, ↓XU, ↓YQ, ↓Yo, ↓YR, ↓Zk, ↓XV, ↓YS, ↓YT, ↓Zl, ↓YU, ↓Yp, ↓XW, ↓YV, ↓YW, ↓YX, ↓Yq, ↓YY, ↓YZ, ↓Y0, ↓Y1, ↓XX, ↓Xn, ↓Xo, ↓Y2, ↓Xp, ↓Xq, ↓Y3, ↓Yr, ↓Xr, ↓XY, ↓Ys, ↓Xd, ↓Xe, ↓Xf, ↓Y4, ↓Y5, ↓Y7, ↓Y8, ↓Y9, ↓Za, ↓Zb, ↓Zc, ↓Yu, ↓Yz, ↓YA, ↓YF, ↓Xi, ↓XM, ↓Xl, ↓Xb, ↓Xc, ↓Xm, ↓Xj, ↓XN, ↓Xk, ↓XO, Zd, Ze, Zf, Zg, Zh, Zi, Yv, Yw, Yx, Yy, Zj, X0, X1, Xg, Xu, X2, X3, YC, YD, XZ, Xs, Xv, Xw, X4, X5, X6, X7, X8, Xh, XA, XB, XC, XD, XE, XF, YE, X9, XH, setAll, Yl, reduceCtorEq, ne_eq, not_false_eq_true, if_true, if_false, Bool.false_eq_true, Option.map_some, decide_eq_true_eq, Bool.not_true, Bool.not_false])
      rw [show [V.ref b, V.ref bl] = [V.ref b, l.ptr] by rw [hlp]]
      repeat (first | refine XJ ?_ | simp only [↓Yb, ↓XQ, ↓YH, ↓Yd, ↓Ye, ↓Yg, ↓Yh, ↓Yi, ↓YI, ↓YJ, ↓Yj, ↓Yk, ↓XR, ↓XS, ↓YK, ↓Ym, ↓YL, ↓YM, ↓Yn, ↓YN, ↓YO, ↓XU, ↓YQ, ↓Yo, ↓YR, ↓Zk, ↓XV, ↓YS, ↓YT, ↓Zl, ↓YU, ↓Yp, ↓XW, ↓YV, ↓YW, ↓YX, ↓Yq, ↓YY, ↓YZ, ↓Y0, ↓Y1, ↓XX, ↓Xn, ↓Xo, ↓Y2, ↓Xp, ↓Xq, ↓Y3, ↓Yr, ↓Xr, ↓XY, ↓Ys, ↓Xd, ↓Xe, ↓Xf, ↓Y4, ↓Y5, ↓Y7, ↓Y8, ↓Y9, ↓Za, ↓Zb, ↓Zc, ↓Yu, ↓Yz, ↓YA, ↓YF, ↓Xi, ↓XM, ↓Xl, ↓Xb, ↓Xc, ↓Xm, ↓Xj, ↓XN, ↓Xk, ↓XO, Zd, Ze, Zf, Zg, Zh, Zi, Yv, Yw, Yx, Yy, Zj, X0, X1, Xg, Xu, X2, X3, YC, YD, XZ, Xs, Xv, Xw, X4, X5, X6, X7, X8, Xh, XA, XB, XC, XD, XE, XF, YE, X9, XH, setAll, Yl, reduceCtorEq, ne_eq, not_false_eq_true, if_true, if_false, Bool.false_eq_true, Option.map_some, decide_eq_true_eq, Bool.not_true, Bool.not_false])
      refine c_set_left U e3 il2 (by grind) bl_ fun h3 e4 i4 f3 => ?_
      simp only [adsC, List.nodup_cons, List.nodup_append, List.mem_append, List.mem_cons, not_or] at nr
      have K3 : IsK h3 (par c .none) (⟨true, b, o', p', r'⟩ :: c') l.ptr 0 :=
        ⟨e4, is3.frame fun x m => f3 x (by grind) (by grind), ik3.frame fun x m => f3 x (by grind) (by grind)⟩
      have HC3 : ∀ x, x = rt ∨ x ∈ adsC c → h3 x = h2 x := fun x m => f3 x (by grind) (by grind)
      repeat (first | refine XJ ?_ | simp only [↓Yb, ↓XQ, ↓YH, ↓Yd, ↓Ye, ↓Yg, ↓Yh, ↓Yi, ↓YI, ↓YJ, ↓Yj, ↓Yk, ↓XR, ↓XS, ↓YK, ↓Ym, ↓YL, ↓YM, ↓Yn, ↓YN, ↓YO, ↓XU, ↓YQ, ↓Yo, ↓YR, ↓Zk, ↓XV, ↓YS, ↓YT, ↓Zl, ↓YU, ↓Yp, ↓XW, ↓YV, ↓YW, ↓YX, ↓Yq, ↓YY, ↓YZ, ↓Y0, ↓Y1, ↓XX, ↓Xn, ↓Xo, ↓Y2, ↓Xp, ↓Xq, ↓Y3, ↓Yr, ↓Xr, ↓XY, ↓Ys, ↓Xd, ↓Xe, ↓Xf, ↓Y4, ↓Y5, ↓Y7, ↓Y8, ↓Y9, ↓Za, ↓Zb, ↓Zc, ↓Yu, ↓Yz, ↓YA, ↓YF, ↓Xi, ↓XM, ↓Xl, ↓Xb, ↓Xc, ↓Xm, ↓Xj, ↓XN, ↓Xk, ↓XO, Zd, Ze, Zf, Zg, Zh, Zi, Yv, Yw, Yx, Yy, Zj, X0, X1, Xg, Xu, X2, X3, YC, YD, XZ, Xs, Xv, Xw, X4, X5, X6, X7, X8, Xh, XA, XB, XC, XD, XE, XF, YE, X9, XH, setAll, Yl, reduceCtorEq, ne_eq, not_false_eq_true, if_true, if_false, Bool.false_eq_true, Option.map_some, decide_eq_true_eq, Bool.not_true, Bool.not_false])
      refine ⟨fun n m h' => m .tree = some (.ref rt) ∧ m .above = some (par c .none) ∧ m .moved = some (.ref bl) ∧ ∃ c1 c2 v2 n2, m .here = some (par c2 (par c .none)) ∧ n = c2.length ∧ ⟨true, b, o', p', r'⟩ :: c' = c1 ++ c2 ∧
        IsK h' (par c .none) c2 v2 n2 ∧ (∀ x, x ∉ adsC (⟨true, b, o', p', r'⟩ :: c') → h' x = h3 x) ∧
        (∀ h'', IsK h'' (par c .none) c2 v2 (n2 + l.tot) → (∀ x, x ∉ adsC c2 → h'' x = h' x) → IsK h'' (par c .none) (⟨true, b, o', p', r'⟩ :: c') l.ptr (0 + l.tot)),
        ⟨_, rfl, rfl, rfl, [], _, _, _, rfl, rfl, rfl, K3, fun _ _ => rfl, fun _ K _ => K⟩, ?_⟩
      rintro n m h4 ⟨m1, m2, m3, c1, c2, v2, n2, m4, rfl, ec, K4, f4, fin⟩
      have i5 : IsT h4 l (.ref b) := i4.frame fun x m => f4 x (by simp only [adsC, List.mem_append, List.mem_cons, not_or]; grind)
      have HC4 : ∀ x, x = rt ∨ x ∈ adsC c → h4 x = h2 x := fun x m => (f4 x (by simp only [adsC, List.mem_append, List.mem_cons, not_or]; grind)).trans (HC3 x m)
      have i5' := i5
      rw [hl2] at i5'
      cases c2 with
      | nil =>
        have sm : sameV h4 (par c .none) (par c .none) = some true := by
          cases c with
          | nil => rfl
          | cons f c => exact XF
        repeat (first | refine XJ ?_ | simp only [↓Yt m2, m2, ↓Yt m4, m4, sm, ↓Yb, ↓XQ, ↓YH, ↓Yd, ↓Ye, ↓Yg, ↓Yh, ↓Yi, ↓YI, ↓YJ, ↓Yj, ↓Yk, ↓XR, ↓XS, ↓YK, ↓Ym, ↓YL, ↓YM, ↓Yn, ↓YN, ↓YO, ↓XU, ↓YQ, ↓Yo, ↓YR, ↓Zk, ↓XV, ↓YS, ↓YT, ↓Zl, ↓YU, ↓Yp, ↓XW, ↓YV, ↓YW, ↓YX, ↓Yq, ↓YY, ↓YZ, ↓Y0, ↓Y1, ↓XX, ↓Xn, ↓Xo, ↓Y2, ↓Xp, ↓Xq, ↓Y3, ↓Yr, ↓Xr, ↓XY, ↓Ys, ↓Xd, ↓Xe, ↓Xf, ↓Y4, ↓Y5, ↓Y7, ↓Y8, ↓Y9, ↓Za, ↓Zb, ↓Zc, ↓Yu, ↓Yz, ↓YA, ↓YF, ↓Xi, ↓XM, ↓Xl, ↓Xb, ↓Xc, ↓Xm, ↓Xj, ↓XN, ↓Xk, ↓XO, Zd, Ze, Zf, Zg, Zh, Zi, Yv, Yw, Yx, Yy, Zj, X0, X1, Xg, Xu, X2, X3, YC, YD, XZ, Xs, Xv, Xw, X4, X5, X6, X7, X8, Xh, XA, XB, XC, XD, XE, XF, YE, X9, XH, setAll, Yl, reduceCtorEq, ne_eq, not_false_eq_true, if_true, if_false, Bool.false_eq_true, Option.map_some, decide_eq_true_eq, Bool.not_true, Bool.not_false])
        repeat (first | refine XJ ?_ | simp only [↓Yt m1, m1, ↓Yt m3, m3, ↓Y6 i5'.1, YB i5'.1, ↓Yb, ↓XQ, ↓YH, ↓Yd, ↓Ye, ↓Yg, ↓Yh, ↓Yi, ↓YI, ↓YJ, ↓Yj, ↓Yk, ↓XR, ↓XS, ↓YK, ↓Ym, ↓YL, ↓YM, ↓Yn, ↓YN, ↓YO, ↓XU, ↓YQ, ↓Yo, ↓YR, ↓Zk, ↓XV, ↓YS, ↓YT, ↓Zl, ↓YU, ↓Yp, ↓XW, ↓YV, ↓YW, ↓YX, ↓Yq, ↓YY, ↓YZ, ↓Y0, ↓Y1, ↓XX, ↓Xn, ↓Xo, ↓Y2, ↓Xp, ↓Xq, ↓Y3, ↓Yr, ↓Xr, ↓XY, ↓Ys, ↓Xd, ↓Xe, ↓Xf, ↓Y4, ↓Y5, ↓Y7, ↓Y8, ↓Y9, ↓Za, ↓Zb, ↓Zc, ↓Yu, ↓Yz, ↓YA, ↓YF, ↓Xi, ↓XM, ↓Xl, ↓Xb, ↓Xc, ↓Xm, ↓Xj, ↓XN, ↓Xk, ↓XO, Zd, Ze, Zf, Zg, Zh, Zi, Yv, Yw, Yx, Yy, Zj, X0, X1, Xg, Xu, X2, X3, YC, YD, XZ, Xs, Xv, Xw, X4, X5, X6, X7, X8, Xh, XA, XB, XC, XD, XE, XF, YE, X9, XH, setAll, Yl, reduceCtorEq, ne_eq, not_false_eq_true, if_true, if_false, Bool.false_eq_true, Option.map_some, decide_eq_true_eq, Bool.not_true, Bool.not_false])
        have K5 := fin h4 trivial fun _ _ => rfl
        have eino : (plug (⟨true, b, o', p', r'⟩ :: c') l).ino = l.ino ++ r.ino := by
          rw [F0, ino_plug, ino_plug]; simp [inoL, inoR, er2, T.ino]
        have etot : (plug (⟨true, b, o', p', r'⟩ :: c') l).tot = l.tot + r.tot := by rw [tot_sum, eino, sumI_append, tot_sum, tot_sum]
        have eptr : (plug (⟨true, b, o', p', r'⟩ :: c') l).ptr = r.ptr := by rw [ptr_plug, er, ptr_plug]; rfl
        have H5 : Holds h4 rt (plug c (plug (⟨true, b, o', p', r'⟩ :: c') l)) := by
          refine HoldC.join ?_ (isT_plug.mpr ⟨by rw [show l.tot = 0 + l.tot by omega]; exact K5, i5⟩) ?_
          · rw [etot, eptr]; exact H2.frame HC4
          · have : (plug (⟨true, b, o', p', r'⟩ :: c') l).ads = l.ads ++ r.ads := by unfold T.ads; rw [eino]; simp
            rw [this]
            simp only [List.nodup_cons, List.nodup_append, List.mem_append, not_or]
            grind
        rw [← plug_append] at H5
        have eW : (plug ((⟨true, b, o', p', r'⟩ :: c') ++ c) l).ino = inoL c ++ l.ino ++ (r.ino ++ inoR c) := by rw [plug_append, ino_plug, eino]; simp
        obtain ⟨p1, p2, p3⟩ := PW eW
        repeat (first | refine XJ ?_ | simp only [↓Yb, ↓XQ, ↓YH, ↓Yd, ↓Ye, ↓Yg, ↓Yh, ↓Yi, ↓YI, ↓YJ, ↓Yj, ↓Yk, ↓XR, ↓XS, ↓YK, ↓Ym, ↓YL, ↓YM, ↓Yn, ↓YN, ↓YO, ↓XU, ↓YQ, ↓Yo, ↓YR, ↓Zk, ↓XV, ↓YS, ↓YT, ↓Zl, ↓YU, ↓Yp, ↓XW, ↓YV, ↓YW, ↓YX, ↓Yq, ↓YY, ↓YZ, ↓Y0, ↓Y1, ↓XX, ↓Xn, ↓Xo, ↓Y2, ↓Xp, ↓Xq, ↓Y3, ↓Yr, ↓Xr, ↓XY, ↓Ys, ↓Xd, ↓Xe, ↓Xf, ↓Y4, ↓Y5, ↓Y7, ↓Y8, ↓Y9, ↓Za, ↓Zb, ↓Zc, ↓Yu, ↓Yz, ↓YA, ↓YF, ↓Xi, ↓XM, ↓Xl, ↓Xb, ↓Xc, ↓Xm, ↓Xj, ↓XN, ↓Xk, ↓XO, Zd, Ze, Zf, Zg, Zh, Zi, Yv, Yw, Yx, Yy, Zj, X0, X1, Xg, Xu, X2, X3, YC, YD, XZ, Xs, Xv, Xw, X4, X5, X6, X7, X8, Xh, XA, XB, XC, XD, XE, XF, YE, X9, XH, setAll, Yl, reduceCtorEq, ne_eq, not_false_eq_true, if_true, if_false, Bool.false_eq_true, Option.map_some, decide_eq_true_eq, Bool.not_true, Bool.not_false])
        refine c_settle_up U (c := (⟨true, b, o', p', r'⟩ :: c') ++ c) H5 p1 p2 fun h5 W' M => ⟨_, Sub.refl, k h5 W' ⟨M.holds, fun y ob n1 n2 eb => ?_, fun y m => .inl (p3 y (M.ads ▸ m))⟩ (M.ino.trans eW)⟩
        obtain ⟨q1, q2, q3, q4⟩ := nin y n2
        have q5 : y ∉ (plug ((⟨true, b, o', p', r'⟩ :: c') ++ c) l).ads := by
          rw [T.ads, eW]
          simp only [List.map_append, List.mem_append, not_or]
          rw [mem_adsC] at n2
          have : y ∉ (plug c (.node a o p l r)).ads := by rw [mem_adsC]; exact n2
          rw [T.ads, ino_plug, T.ino] at this
          simp only [List.map_append, List.map_cons, List.mem_append, List.mem_cons, not_or] at this
          grind
        rw [M.fr y n1 q5, f4 y (by simp only [adsC, List.mem_append, List.mem_cons, not_or]; grind), f3 y (by grind) q3, f2 y n1 q1 q4, f1 y q1, eb]
      | cons f c2 =>
        obtain ⟨e5, hs5, hk5⟩ := K4
        have e5' := e5
        unfold Frm.obj at e5'
        have fin2 : f.a ∈ r.ads := by
          have : f.a ∈ adsC (⟨true, b, o', p', r'⟩ :: c') := by rw [ec, adsC_append]; simp [adsC]
          simp only [adsC, List.mem_append, List.mem_cons] at this
          exact (rads f.a).mpr this
        have sm : sameV h4 (.ref f.a) (par c .none) = some false := by
          cases hc : c with
          | nil => rfl
          | cons g c3 =>
            have gin : g.a ∈ adsC c := by rw [hc]; simp [adsC]
            have := (H2.ctx)
            rw [hc] at this
            have eg := this.1
            rw [← HC4 g.a (.inr gin)] at eg
            unfold Frm.obj at eg
            exact XG (by grind) e5' eg
        have nn6 : (adsC c1 ++ adsC (f :: c2)).Nodup := by
          rw [← adsC_append, ← ec]
          simp only [adsC, List.nodup_cons, List.nodup_append, List.mem_append, List.mem_cons, not_or]
          exact ⟨nr.2.1, nr.2.2⟩
        simp only [adsC, List.nodup_cons, List.nodup_append, List.mem_append, List.mem_cons, not_or] at nn6
        have fl : f.a ≠ bl := fun z => by
          have : bl ∈ l.ads := by rw [hl2, ads_node]; simp
          grind
        repeat (first | refine XJ ?_ | simp only [↓Yt m1, m1, ↓Yt m2, m2, ↓Yt m3, m3, ↓Yt m4, m4, Xs, sm, ↓Y6 e5', YB e5', e5', ↓Y6 i5'.1, YB i5'.1, ↓Yb, ↓XQ, ↓YH, ↓Yd, ↓Ye, ↓Yg, ↓Yh, ↓Yi, ↓YI, ↓YJ, ↓Yj, ↓Yk, ↓XR, ↓XS, ↓YK, ↓Ym, ↓YL, ↓YM, ↓Yn, ↓YN, ↓YO, ↓XU, ↓YQ, ↓Yo, ↓YR, ↓Zk, ↓XV, ↓YS, ↓YT, ↓Zl, ↓YU, ↓Yp, ↓XW, ↓YV, ↓YW, ↓YX, ↓Yq, ↓YY, ↓YZ, ↓Y0, ↓Y1, ↓XX, ↓Xn, ↓Xo, ↓Y2, ↓Xp, ↓Xq, ↓Y3, ↓Yr, ↓Xr, ↓XY, ↓Ys, ↓Xd, ↓Xe, ↓Xf, ↓Y4, ↓Y5, ↓Y7, ↓Y8, ↓Y9, ↓Za, ↓Zb, ↓Zc, ↓Yu, ↓Yz, ↓YA, ↓YF, ↓Xi, ↓XM, ↓Xl, ↓Xb, ↓Xc, ↓Xm, ↓Xj, ↓XN, ↓Xk, ↓XO, Zd, Ze, Zf, Zg, Zh, Zi, Yv, Yw, Yx, Yy, Zj, X0, X1, Xg, Xu, X2, X3, YC, YD, XZ, Xs, Xv, Xw, X4, X5, X6, X7, X8, Xh, XA, XB, XC, XD, XE, XF, YE, X9, XH, setAll, Yl, reduceCtorEq, ne_eq, not_false_eq_true, if_true, if_false, Bool.false_eq_true, Option.map_some, decide_eq_true_eq, Bool.not_true, Bool.not_false, true_and])
        have lt : bo + bl1.tot + bl2.tot = l.tot := by rw [hl2]; rfl
        rw [lt]
        refine ⟨c2.length, by simp, c1 ++ [f], c2, .ref f.a, _, rfl, rfl, by rw [ec]; simp, hk5.frame fun x m => Xa (by grind), fun x m => (Xa fun z => m (by rw [ec, adsC_append]; simp [adsC, z])).trans (f4 x m), fun h'' K F => ?_⟩
        refine fin h'' ⟨?_, hs5.frame fun x m => ?_, ?_⟩ fun x m => ?_
        · rw [F f.a (by grind), Xg]
          simp only [Frm.obj]
          rw [show n2 + l.tot + f.o + f.sib.tot = n2 + f.o + f.sib.tot + l.tot by omega]
        · exact (F x (by grind)).trans (Xa (by grind))
        · rw [show n2 + l.tot + f.o + f.sib.tot = n2 + f.o + f.sib.tot + l.tot by omega]; exact K
        · simp only [adsC, List.mem_append, List.mem_cons, not_or] at m
          exact (F x m.2.2).trans (Xa m.1)
end
end Mine

namespace Mine
theorem Step.fresh {h h2 h' : Hp} {rt x : Nat} {o : Obj} {W W1 W' : T} (hx : h x = none) (S : Step (upd h x o) rt W h2 W1) (H' : Holds h' rt W') (ha : ∀ b, b ∈ W'.ads → b = x ∨ b ∈ W1.ads)
    (fr : ∀ y, y ≠ rt → y ∉ W1.ads → y ≠ x → h' y = h2 y) : Step h rt W h' W' := by
  refine ⟨H', fun b ob n1 n2 e => ?_, fun b m => ?_⟩
  · have bx : b ≠ x := fun z => by rw [z, hx] at e; cases e
    have e1 : upd h x o b = some ob := (Xa bx).trans e
    have n3 : b ∉ W1.ads := fun z => by
      rcases S.new b z with z | z
      · exact n2 z
      · rw [z] at e1; cases e1
    rw [fr b n1 n3 bx]
    exact S.keep b ob n1 n2 e1
  · rcases ha b m with rfl | m
    · exact .inr hx
    · by_cases q : b = x
      · subst q; exact .inr hx
      · rcases S.new b m with z | z
        · exact .inl z
        · rw [Xa q] at z; exact .inr z
section
variable {Γ : Ctr} (U : Base Γ)
include U
theorem c_insert_interval {h : Hp} {rt : Nat} {W : T} {i m : Int} {pl : V} {Q : V → Hp → Prop} (H : Holds h rt W) (P : Pos W) (i0 : 0 ≤ i) (i1 : i ≤ W.tot) (m0 : 0 ≤ m) (sz : W.ino.length + 2 ≤ 1000)
    (k : ∀ h' W', Step h rt W h' W' → (m = 0 → W'.rows = W.rows) → (0 < m → ∀ us vs, partR 0 i W.rows = us ++ vs → sumR us = i → W'.rows = us ++ (m, pl) :: vs) → Q .none h') : Γ .insert_interval [.ref rt, .int i, .int m, pl] Q h := by
  refine U .insert_interval rfl _ _ _ (wpB_i (ps := p_insert_interval) (b := b_insert_interval) rfl ?_)
  have PR := posR_rows.mp P
  repeat (first | refine XJ ?_ | simp only [b_insert_interval, p_insert_interval, ↓Yb, ↓XQ, ↓YH, ↓Yd, ↓Ye, ↓Yg, ↓Yh, ↓Yi, ↓YI, ↓YJ, ↓Yj, ↓Yk, ↓XR, ↓XS, ↓YK, ↓Ym, ↓YL, ↓YM, ↓Yn, ↓YN, ↓YO, ↓XU, ↓YQ, ↓Yo, ↓YR, ↓Zk, ↓XV, ↓YS, ↓YT, ↓Zl, ↓YU, ↓Yp, ↓XW, ↓YV, ↓YW, ↓YX, ↓Yq, ↓YY, ↓YZ, ↓Y0, ↓Y1, ↓XX, ↓Xn, ↓Xo, ↓Y2, ↓Xp, ↓Xq, ↓Y3, ↓Yr, ↓Xr, ↓XY, ↓Ys, ↓Xd, ↓Xe, ↓Xf, ↓Y4, ↓Y5, ↓Y7, ↓Y8, ↓Y9, ↓Za, ↓Zb, ↓Zc, ↓Yu, ↓Yz, ↓YA, ↓YF, ↓Xi, ↓XM, ↓Xl, ↓Xb, ↓Xc, ↓Xm, ↓Xj, ↓XN, ↓Xk, ↓XO, Zd, Ze, Zf, Zg, Zh, Zi, Yv, Yw, Yx, Yy, Zj, X0, X1, Xg, Xu, X2, X3, YC, YD, XZ, Xs, Xv, Xw, X4, X5, X6, X7, X8, Xh, XA, XB, XC, XD, XE, XF, YE, X9, XH, setAll, Yl, reduceCtorEq, ne_eq, not_false_eq_true, if_true, if_false, Bool.false_eq_true, Option.map_some, decide_eq_true_eq, Bool.not_true, Bool.not_false])
  by_cases em : m = 0
  · rw [show (m == 0) = true by simpa using em]
    repeat (first | refine XJ ?_ | simp only [↓Yb, ↓XQ, ↓YH, ↓Yd, ↓Ye, ↓Yg, ↓Yh, ↓Yi, ↓YI, ↓YJ, ↓Yj, ↓Yk, ↓XR, ↓XS, ↓YK, ↓Ym, ↓YL, ↓YM, ↓Yn, ↓YN, ↓YO, ↓XU, ↓YQ, ↓Yo, ↓YR, ↓Zk, ↓XV, ↓YS, ↓YT, ↓Zl, ↓YU, ↓Yp, ↓XW, ↓YV, ↓YW, ↓YX, ↓Yq, ↓YY, ↓YZ, ↓Y0, ↓Y1, ↓XX, ↓Xn, ↓Xo, ↓Y2, ↓Xp, ↓Xq, ↓Y3, ↓Yr, ↓Xr, ↓XY, ↓Ys, ↓Xd, ↓Xe, ↓Xf, ↓Y4, ↓Y5, ↓Y7, ↓Y8, ↓Y9, ↓Za, ↓Zb, ↓Zc, ↓Yu, ↓Yz, ↓YA, ↓YF, ↓Xi, ↓XM, ↓Xl, ↓Xb, ↓Xc, ↓Xm, ↓Xj, ↓XN, ↓Xk, ↓XO, Zd, Ze, Zf, Zg, Zh, Zi, Yv, Yw, Yx, Yy, Zj, X0, X1, Xg, Xu, X2, X3, YC, YD, XZ, Xs, Xv, Xw, X4, X5, X6, X7, X8, Xh, XA, XB, XC, XD, XE, XF, YE, X9, XH, setAll, Yl, reduceCtorEq, ne_eq, not_false_eq_true, if_true, if_false, Bool.false_eq_true, Option.map_some, decide_eq_true_eq, Bool.not_true, Bool.not_false])
    exact ⟨_, Sub.refl, k h W (.same H) (fun _ => rfl) fun z => by omega⟩
  · rw [show (m == 0) = false by simpa using em]
    repeat (first | refine XJ ?_ | simp only [↓Yb, ↓XQ, ↓YH, ↓Yd, ↓Ye, ↓Yg, ↓Yh, ↓Yi, ↓YI, ↓YJ, ↓Yj, ↓Yk, ↓XR, ↓XS, ↓YK, ↓Ym, ↓YL, ↓YM, ↓Yn, ↓YN, ↓YO, ↓XU, ↓YQ, ↓Yo, ↓YR, ↓Zk, ↓XV, ↓YS, ↓YT, ↓Zl, ↓YU, ↓Yp, ↓XW, ↓YV, ↓YW, ↓YX, ↓Yq, ↓YY, ↓YZ, ↓Y0, ↓Y1, ↓XX, ↓Xn, ↓Xo, ↓Y2, ↓Xp, ↓Xq, ↓Y3, ↓Yr, ↓Xr, ↓XY, ↓Ys, ↓Xd, ↓Xe, ↓Xf, ↓Y4, ↓Y5, ↓Y7, ↓Y8, ↓Y9, ↓Za, ↓Zb, ↓Zc, ↓Yu, ↓Yz, ↓YA, ↓YF, ↓Xi, ↓XM, ↓Xl, ↓Xb, ↓Xc, ↓Xm, ↓Xj, ↓XN, ↓Xk, ↓XO, Zd, Ze, Zf, Zg, Zh, Zi, Yv, Yw, Yx, Yy, Zj, X0, X1, Xg, Xu, X2, X3, YC, YD, XZ, Xs, Xv, Xw, X4, X5, X6, X7, X8, Xh, XA, XB, XC, XD, XE, XF, YE, X9, XH, setAll, Yl, reduceCtorEq, ne_eq, not_false_eq_true, if_true, if_false, Bool.false_eq_true, Option.map_some, decide_eq_true_eq, Bool.not_true, Bool.not_false])
    intro x hx
    have xW : x ∉ W.ads := SInv.out hx H.tree
    have xr : x ≠ rt := fun z => by rw [z, H.root] at hx; cases hx
    repeat (first | refine XJ ?_ | simp only [↓Yb, ↓XQ, ↓YH, ↓Yd, ↓Ye, ↓Yg, ↓Yh, ↓Yi, ↓YI, ↓YJ, ↓Yj, ↓Yk, ↓XR, ↓XS, ↓YK, ↓Ym, ↓YL, ↓YM, ↓Yn, ↓YN, ↓YO, ↓XU, ↓YQ, ↓Yo, ↓YR, ↓Zk, ↓XV, ↓YS, ↓YT, ↓Zl, ↓YU, ↓Yp, ↓XW, ↓YV, ↓YW, ↓YX, ↓Yq, ↓YY, ↓YZ, ↓Y0, ↓Y1, ↓XX, ↓Xn, ↓Xo, ↓Y2, ↓Xp, ↓Xq, ↓Y3, ↓Yr, ↓Xr, ↓XY, ↓Ys, ↓Xd, ↓Xe, ↓Xf, ↓Y4, ↓Y5, ↓Y7, ↓Y8, ↓Y9, ↓Za, ↓Zb, ↓Zc, ↓Yu, ↓Yz, ↓YA, ↓YF, ↓Xi, ↓XM, ↓Xl, ↓Xb, ↓Xc, ↓Xm, ↓Xj, ↓XN, ↓Xk, ↓XO, Zd, Ze, Zf, Zg, Zh, Zi, Yv, Yw, Yx, Yy, Zj, X0, X1, Xg, Xu, X2, X3, YC, YD, XZ, Xs, Xv, Xw, X4, X5, X6, X7, X8, Xh, XA, XB, XC, XD, XE, XF, YE, X9, XH, setAll, Yl, reduceCtorEq, ne_eq, not_false_eq_true, if_true, if_false, Bool.false_eq_true, Option.map_some, decide_eq_true_eq, Bool.not_true, Bool.not_false])
    refine c_init_Interval U Xg ?_
    rw [Xu]
    refine ⟨rfl, ?_⟩
    have H1 : Holds (upd h x (nd m pl .none .none .none)) rt W := H.frame fun y mm => Xa fun z => by
      subst z
      rcases mm with mm | mm
      · exact xr mm
      · exact xW mm
    repeat (first | refine XJ ?_ | simp only [↓Y6 H1.root, YB H1.root, ↓Yb, ↓XQ, ↓YH, ↓Yd, ↓Ye, ↓Yg, ↓Yh, ↓Yi, ↓YI, ↓YJ, ↓Yj, ↓Yk, ↓XR, ↓XS, ↓YK, ↓Ym, ↓YL, ↓YM, ↓Yn, ↓YN, ↓YO, ↓XU, ↓YQ, ↓Yo, ↓YR, ↓Zk, ↓XV, ↓YS, ↓YT, ↓Zl, ↓YU, ↓Yp, ↓XW, ↓YV, ↓YW, ↓YX, ↓Yq, ↓YY, ↓YZ, ↓Y0, ↓Y1, ↓XX, ↓Xn, ↓Xo, ↓Y2, ↓Xp, ↓Xq, ↓Y3, ↓Yr, ↓Xr, ↓XY, ↓Ys, ↓Xd, ↓Xe, ↓Xf, ↓Y4, ↓Y5, ↓Y7, ↓Y8, ↓Y9, ↓Za, ↓Zb, ↓Zc, ↓Yu, ↓Yz, ↓YA, ↓YF, ↓Xi, ↓XM, ↓Xl, ↓Xb, ↓Xc, ↓Xm, ↓Xj, ↓XN, ↓Xk, ↓XO, Zd, Ze, Zf, Zg, Zh, Zi, Yv, Yw, Yx, Yy, Zj, X0, X1, Xg, Xu, X2, X3, YC, YD, XZ, Xs, Xv, Xw, X4, X5, X6, X7, X8, Xh, XA, XB, XC, XD, XE, XF, YE, X9, XH, setAll, Yl, reduceCtorEq, ne_eq, not_false_eq_true, if_true, if_false, Bool.false_eq_true, Option.map_some, decide_eq_true_eq, Bool.not_true, Bool.not_false])
    cases W with
    | nil =>
      repeat (first | refine XJ ?_ | simp only [T.ptr, H1.root, ↓Yb, ↓XQ, ↓YH, ↓Yd, ↓Ye, ↓Yg, ↓Yh, ↓Yi, ↓YI, ↓YJ, ↓Yj, ↓Yk, ↓XR, ↓XS, ↓YK, ↓Ym, ↓YL, ↓YM, ↓Yn, ↓YN, ↓YO, ↓XU, ↓YQ, ↓Yo, ↓YR, ↓Zk, ↓XV, ↓YS, ↓YT, ↓Zl, ↓YU, ↓Yp, ↓XW, ↓YV, ↓YW, ↓YX, ↓Yq, ↓YY, ↓YZ, ↓Y0, ↓Y1, ↓XX, ↓Xn, ↓Xo, ↓Y2, ↓Xp, ↓Xq, ↓Y3, ↓Yr, ↓Xr, ↓XY, ↓Ys, ↓Xd, ↓Xe, ↓Xf, ↓Y4, ↓Y5, ↓Y7, ↓Y8, ↓Y9, ↓Za, ↓Zb, ↓Zc, ↓Yu, ↓Yz, ↓YA, ↓YF, ↓Xi, ↓XM, ↓Xl, ↓Xb, ↓Xc, ↓Xm, ↓Xj, ↓XN, ↓Xk, ↓XO, Zd, Ze, Zf, Zg, Zh, Zi, Yv, Yw, Yx, Yy, Zj, X0, X1, Xg, Xu, X2, X3, YC, YD, XZ, Xs, Xv, Xw, X4, X5, X6, X7, X8, Xh, XA, XB, XC, XD, XE, XF, YE, X9, XH, setAll, Yl, reduceCtorEq, ne_eq, not_false_eq_true, if_true, if_false, Bool.false_eq_true, Option.map_some, decide_eq_true_eq, Bool.not_true, Bool.not_false])
      have e1 : i = 0 := by simp only [T.tot] at i1; omega
      have hl : Holds (upd (upd h x (nd m pl .none .none .none)) rt (rootO (.ref x))) rt (.node x m pl .nil .nil) :=
        ⟨Xg, ⟨by simp only [T.tot, T.ptr, Int.add_zero]; exact (Xa xr).trans Xg, trivial, trivial⟩, by simp [ads_node, ads_nil, Ne.symm xr]⟩
      repeat (first | refine XJ ?_ | simp only [↓Yb, ↓XQ, ↓YH, ↓Yd, ↓Ye, ↓Yg, ↓Yh, ↓Yi, ↓YI, ↓YJ, ↓Yj, ↓Yk, ↓XR, ↓XS, ↓YK, ↓Ym, ↓YL, ↓YM, ↓Yn, ↓YN, ↓YO, ↓XU, ↓YQ, ↓Yo, ↓YR, ↓Zk, ↓XV, ↓YS, ↓YT, ↓Zl, ↓YU, ↓Yp, ↓XW, ↓YV, ↓YW, ↓YX, ↓Yq, ↓YY, ↓YZ, ↓Y0, ↓Y1, ↓XX, ↓Xn, ↓Xo, ↓Y2, ↓Xp, ↓Xq, ↓Y3, ↓Yr, ↓Xr, ↓XY, ↓Ys, ↓Xd, ↓Xe, ↓Xf, ↓Y4, ↓Y5, ↓Y7, ↓Y8, ↓Y9, ↓Za, ↓Zb, ↓Zc, ↓Yu, ↓Yz, ↓YA, ↓YF, ↓Xi, ↓XM, ↓Xl, ↓Xb, ↓Xc, ↓Xm, ↓Xj, ↓XN, ↓Xk, ↓XO, Zd, Ze, Zf, Zg, Zh, Zi, Yv, Yw, Yx, Yy, Zj, X0, X1, Xg, Xu, X2, X3, YC, YD, XZ, Xs, Xv, Xw, X4, X5, X6, X7, X8, Xh, XA, XB, XC, XD, XE, XF, YE, X9, XH, setAll, Yl, reduceCtorEq, ne_eq, not_false_eq_true, if_true, if_false, Bool.false_eq_true, Option.map_some, decide_eq_true_eq, Bool.not_true, Bool.not_false])
      refine ⟨_, Sub.refl, k _ (.node x m pl .nil .nil) ⟨hl, fun b ob n1 n2 e => ?_, fun b mb => ?_⟩ (fun z => absurd z em) fun _ us vs e s => ?_⟩
      · exact (Xa n1).trans ((Xa fun z => by rw [z, hx] at e; cases e).trans e)
      · simp only [ads_node, ads_nil, List.nil_append, List.mem_singleton] at mb
        subst mb; exact .inr hx
      · have : us ++ vs = [] := by rw [← e]; rfl
        rw [List.append_eq_nil_iff] at this
        obtain ⟨rfl, rfl⟩ := this
        rfl
    | node wa wo wp wl wr =>
      generalize hW : T.node wa wo wp wl wr = W at *
      have hptr : W.ptr = .ref wa := by rw [← hW]; rfl
      repeat (first | refine XJ ?_ | simp only [hptr, ↓Yb, ↓XQ, ↓YH, ↓Yd, ↓Ye, ↓Yg, ↓Yh, ↓Yi, ↓YI, ↓YJ, ↓Yj, ↓Yk, ↓XR, ↓XS, ↓YK, ↓Ym, ↓YL, ↓YM, ↓Yn, ↓YN, ↓YO, ↓XU, ↓YQ, ↓Yo, ↓YR, ↓Zk, ↓XV, ↓YS, ↓YT, ↓Zl, ↓YU, ↓Yp, ↓XW, ↓YV, ↓YW, ↓YX, ↓Yq, ↓YY, ↓YZ, ↓Y0, ↓Y1, ↓XX, ↓Xn, ↓Xo, ↓Y2, ↓Xp, ↓Xq, ↓Y3, ↓Yr, ↓Xr, ↓XY, ↓Ys, ↓Xd, ↓Xe, ↓Xf, ↓Y4, ↓Y5, ↓Y7, ↓Y8, ↓Y9, ↓Za, ↓Zb, ↓Zc, ↓Yu, ↓Yz, ↓YA, ↓YF, ↓Xi, ↓XM, ↓Xl, ↓Xb, ↓Xc, ↓Xm, ↓Xj, ↓XN, ↓Xk, ↓XO, Zd, Ze, Zf, Zg, Zh, Zi, Yv, Yw, Yx, Yy, Zj, X0, X1, Xg, Xu, X2, X3, YC, YD, XZ, Xs, Xv, Xw, X4, X5, X6, X7, X8, Xh, XA, XB, XC, XD, XE, XF, YE, X9, XH, setAll, Yl, reduceCtorEq, ne_eq, not_false_eq_true, if_true, if_false, Bool.false_eq_true, Option.map_some, decide_eq_true_eq, Bool.not_true, Bool.not_false])
      refine c_split_at U H1 P (by omega) fun h2 W1 S1 er => ?_
      have S1h := S1.holds
      have P1 : Pos W1 := by rw [posR_rows, er]; exact partR_pos PR
      have t1 : W1.tot = W.tot := by rw [tot_rows, tot_rows, er, partR_sum]
      have x2 : h2 x = some (nd m pl .none .none .none) := S1.keep x _ xr xW Xg
      have xW1 : x ∉ W1.ads := fun z => by
        rcases S1.new x z with z | z
        · exact xW z
        · rw [Xg] at z; cases z
      have tp : 0 < W.tot := by rw [← hW] at P ⊢; have := Pos.len P; simp only [T.ino, List.length_append, List.length_cons] at this; omega
      have sz1 : W1.ino.length + 1 ≤ 1000 := by
        have a1 : W1.rows.length ≤ W.rows.length + 1 := by
          rw [er]
          have : ∀ (ys : List (Int × V)) (b : Int), PosR ys → (partR b i ys).length ≤ ys.length + 1 := by
            intro ys
            induction ys with
            | nil => intro b _; simp [partR]
            | cons y ys ih =>
              intro b hp
              obtain ⟨o, p⟩ := y
              rw [PosR.cons] at hp
              rw [partR]
              split
              · rw [partR_low hp.2 (by omega)]; simp
              · have := ih (b + o) hp.2
                simp only [List.length_append, List.length_cons, List.length_nil]; omega
          exact this _ _ PR
        rw [rows_len, rows_len] at a1
        omega
      have fin : ∀ h' W' us vs, Holds h' rt W' → us ++ vs = W1.rows → sumR us = i → (∀ b, b ∈ W'.ads → b = x ∨ b ∈ W1.ads) → W'.rows = us ++ (m, pl) :: vs → (∀ y, y ≠ rt → y ∉ W1.ads → y ≠ x → h' y = h2 y) → Q .none h' := by
        intro h' W' us vs H' e1 e2 ha e3 fr
        refine k h' W' (Step.fresh hx S1 H' ha fr) (fun z => absurd z em) fun _ us' vs' e4 e5 => ?_
        obtain ⟨a1, a2⟩ := cut_one (e4.symm.trans (er.symm.trans e1.symm)) (by rw [← e4]; exact partR_pos PR) (by omega)
        rw [e3, a1, a2]
      repeat (first | refine XJ ?_ | simp only [↓Yb, ↓XQ, ↓YH, ↓Yd, ↓Ye, ↓Yg, ↓Yh, ↓Yi, ↓YI, ↓YJ, ↓Yj, ↓Yk, ↓XR, ↓XS, ↓YK, ↓Ym, ↓YL, ↓YM, ↓Yn, ↓YN, ↓YO, ↓XU, ↓YQ, ↓Yo, ↓YR, ↓Zk, ↓XV, ↓YS, ↓YT, ↓Zl, ↓YU, ↓Yp, ↓XW, ↓YV, ↓YW, ↓YX, ↓Yq, ↓YY, ↓YZ, ↓Y0, ↓Y1, ↓XX, ↓Xn, ↓Xo, ↓Y2, ↓Xp, ↓Xq, ↓Y3, ↓Yr, ↓Xr, ↓XY, ↓Ys, ↓Xd, ↓Xe, ↓Xf, ↓Y4, ↓Y5, ↓Y7, ↓Y8, ↓Y9, ↓Za, ↓Zb, ↓Zc, ↓Yu, ↓Yz, ↓YA, ↓YF, ↓Xi, ↓XM, ↓Xl, ↓Xb, ↓Xc, ↓Xm, ↓Xj, ↓XN, ↓Xk, ↓XO, Zd, Ze, Zf, Zg, Zh, Zi, Yv, Yw, Yx, Yy, Zj, X0, X1, Xg, Xu, X2, X3, YC, YD, XZ, Xs, Xv, Xw, X4, X5, X6, X7, X8, Xh, XA, XB, XC, XD, XE, XF, YE, X9, XH, setAll, Yl, reduceCtorEq, ne_eq, not_false_eq_true, if_true, if_false, Bool.false_eq_true, Option.map_some, decide_eq_true_eq, Bool.not_true, Bool.not_false])
      refine c_text_length U S1h ?_
      repeat (first | refine XJ ?_ | simp only [↓Yb, ↓XQ, ↓YH, ↓Yd, ↓Ye, ↓Yg, ↓Yh, ↓Yi, ↓YI, ↓YJ, ↓Yj, ↓Yk, ↓XR, ↓XS, ↓YK, ↓Ym, ↓YL, ↓YM, ↓Yn, ↓YN, ↓YO, ↓XU, ↓YQ, ↓Yo, ↓YR, ↓Zk, ↓XV, ↓YS, ↓YT, ↓Zl, ↓YU, ↓Yp, ↓XW, ↓YV, ↓YW, ↓YX, ↓Yq, ↓YY, ↓YZ, ↓Y0, ↓Y1, ↓XX, ↓Xn, ↓Xo, ↓Y2, ↓Xp, ↓Xq, ↓Y3, ↓Yr, ↓Xr, ↓XY, ↓Ys, ↓Xd, ↓Xe, ↓Xf, ↓Y4, ↓Y5, ↓Y7, ↓Y8, ↓Y9, ↓Za, ↓Zb, ↓Zc, ↓Yu, ↓Yz, ↓YA, ↓YF, ↓Xi, ↓XM, ↓Xl, ↓Xb, ↓Xc, ↓Xm, ↓Xj, ↓XN, ↓Xk, ↓XO, Zd, Ze, Zf, Zg, Zh, Zi, Yv, Yw, Yx, Yy, Zj, X0, X1, Xg, Xu, X2, X3, YC, YD, XZ, Xs, Xv, Xw, X4, X5, X6, X7, X8, Xh, XA, XB, XC, XD, XE, XF, YE, X9, XH, setAll, Yl, reduceCtorEq, ne_eq, not_false_eq_true, if_true, if_false, Bool.false_eq_true, Option.map_some, decide_eq_true_eq, Bool.not_true, Bool.not_false])
      rw [t1]
      by_cases ei : i = W.tot
      · rw [show (i == W.tot) = true by simpa using ei]
        repeat (first | refine XJ ?_ | simp only [↓Y6 S1h.root, YB S1h.root, ↓Yb, ↓XQ, ↓YH, ↓Yd, ↓Ye, ↓Yg, ↓Yh, ↓Yi, ↓YI, ↓YJ, ↓Yj, ↓Yk, ↓XR, ↓XS, ↓YK, ↓Ym, ↓YL, ↓YM, ↓Yn, ↓YN, ↓YO, ↓XU, ↓YQ, ↓Yo, ↓YR, ↓Zk, ↓XV, ↓YS, ↓YT, ↓Zl, ↓YU, ↓Yp, ↓XW, ↓YV, ↓YW, ↓YX, ↓Yq, ↓YY, ↓YZ, ↓Y0, ↓Y1, ↓XX, ↓Xn, ↓Xo, ↓Y2, ↓Xp, ↓Xq, ↓Y3, ↓Yr, ↓Xr, ↓XY, ↓Ys, ↓Xd, ↓Xe, ↓Xf, ↓Y4, ↓Y5, ↓Y7, ↓Y8, ↓Y9, ↓Za, ↓Zb, ↓Zc, ↓Yu, ↓Yz, ↓YA, ↓YF, ↓Xi, ↓XM, ↓Xl, ↓Xb, ↓Xc, ↓Xm, ↓Xj, ↓XN, ↓Xk, ↓XO, Zd, Ze, Zf, Zg, Zh, Zi, Yv, Yw, Yx, Yy, Zj, X0, X1, Xg, Xu, X2, X3, YC, YD, XZ, Xs, Xv, Xw, X4, X5, X6, X7, X8, Xh, XA, XB, XC, XD, XE, XF, YE, X9, XH, setAll, Yl, reduceCtorEq, ne_eq, not_false_eq_true, if_true, if_false, Bool.false_eq_true, Option.map_some, decide_eq_true_eq, Bool.not_true, Bool.not_false])
        cases W1 with
        | nil => simp only [T.tot] at t1; omega
        | node a1 o1 p1 l1 r1 =>
          simp only [T.ptr]
          repeat (first | refine XJ ?_ | simp only [↓Yb, ↓XQ, ↓YH, ↓Yd, ↓Ye, ↓Yg, ↓Yh, ↓Yi, ↓YI, ↓YJ, ↓Yj, ↓Yk, ↓XR, ↓XS, ↓YK, ↓Ym, ↓YL, ↓YM, ↓Yn, ↓YN, ↓YO, ↓XU, ↓YQ, ↓Yo, ↓YR, ↓Zk, ↓XV, ↓YS, ↓YT, ↓Zl, ↓YU, ↓Yp, ↓XW, ↓YV, ↓YW, ↓YX, ↓Yq, ↓YY, ↓YZ, ↓Y0, ↓Y1, ↓XX, ↓Xn, ↓Xo, ↓Y2, ↓Xp, ↓Xq, ↓Y3, ↓Yr, ↓Xr, ↓XY, ↓Ys, ↓Xd, ↓Xe, ↓Xf, ↓Y4, ↓Y5, ↓Y7, ↓Y8, ↓Y9, ↓Za, ↓Zb, ↓Zc, ↓Yu, ↓Yz, ↓YA, ↓YF, ↓Xi, ↓XM, ↓Xl, ↓Xb, ↓Xc, ↓Xm, ↓Xj, ↓XN, ↓Xk, ↓XO, Zd, Ze, Zf, Zg, Zh, Zi, Yv, Yw, Yx, Yy, Zj, X0, X1, Xg, Xu, X2, X3, YC, YD, XZ, Xs, Xv, Xw, X4, X5, X6, X7, X8, Xh, XA, XB, XC, XD, XE, XF, YE, X9, XH, setAll, Yl, reduceCtorEq, ne_eq, not_false_eq_true, if_true, if_false, Bool.false_eq_true, Option.map_some, decide_eq_true_eq, Bool.not_true, Bool.not_false])
          refine c_rightmost U S1h.tree fun c' b o' p' l' e e2 => ?_
          rw [e] at S1h P1 xW1 sz1
          repeat (first | refine XJ ?_ | simp only [↓Yb, ↓XQ, ↓YH, ↓Yd, ↓Ye, ↓Yg, ↓Yh, ↓Yi, ↓YI, ↓YJ, ↓Yj, ↓Yk, ↓XR, ↓XS, ↓YK, ↓Ym, ↓YL, ↓YM, ↓Yn, ↓YN, ↓YO, ↓XU, ↓YQ, ↓Yo, ↓YR, ↓Zk, ↓XV, ↓YS, ↓YT, ↓Zl, ↓YU, ↓Yp, ↓XW, ↓YV, ↓YW, ↓YX, ↓Yq, ↓YY, ↓YZ, ↓Y0, ↓Y1, ↓XX, ↓Xn, ↓Xo, ↓Y2, ↓Xp, ↓Xq, ↓Y3, ↓Yr, ↓Xr, ↓XY, ↓Ys, ↓Xd, ↓Xe, ↓Xf, ↓Y4, ↓Y5, ↓Y7, ↓Y8, ↓Y9, ↓Za, ↓Zb, ↓Zc, ↓Yu, ↓Yz, ↓YA, ↓YF, ↓Xi, ↓XM, ↓Xl, ↓Xb, ↓Xc, ↓Xm, ↓Xj, ↓XN, ↓Xk, ↓XO, Zd, Ze, Zf, Zg, Zh, Zi, Yv, Yw, Yx, Yy, Zj, X0, X1, Xg, Xu, X2, X3, YC, YD, XZ, Xs, Xv, Xw, X4, X5, X6, X7, X8, Xh, XA, XB, XC, XD, XE, XF, YE, X9, XH, setAll, Yl, reduceCtorEq, ne_eq, not_false_eq_true, if_true, if_false, Bool.false_eq_true, Option.map_some, decide_eq_true_eq, Bool.not_true, Bool.not_false])
          refine c_put_behind U S1h P1 (by omega) x2 xr xW1 sz1 fun h' W' H' eW f' => ⟨_, Sub.refl, fin h' W' (T.node a1 o1 p1 l1 r1).rows [] H' (by simp) ?_ (fun b mb => ?_) ?_ fun y n1 n2 n3 => f' y n1 (e ▸ n2) n3⟩
          · rw [← tot_rows, t1, ei]
          · rw [e, T.ads, ino_plug, T.ino]
            unfold T.ads at mb
            rw [eW] at mb
            simp only [List.map_append, List.map_cons, List.mem_append, List.mem_cons] at mb ⊢
            grind
          · rw [e, rows_plug]
            unfold T.rows
            rw [eW, e2]
            simp [T.ino]
      · rw [show (i == W.tot) = false by simpa using ei]
        repeat (first | refine XJ ?_ | simp only [↓Yb, ↓XQ, ↓YH, ↓Yd, ↓Ye, ↓Yg, ↓Yh, ↓Yi, ↓YI, ↓YJ, ↓Yj, ↓Yk, ↓XR, ↓XS, ↓YK, ↓Ym, ↓YL, ↓YM, ↓Yn, ↓YN, ↓YO, ↓XU, ↓YQ, ↓Yo, ↓YR, ↓Zk, ↓XV, ↓YS, ↓YT, ↓Zl, ↓YU, ↓Yp, ↓XW, ↓YV, ↓YW, ↓YX, ↓Yq, ↓YY, ↓YZ, ↓Y0, ↓Y1, ↓XX, ↓Xn, ↓Xo, ↓Y2, ↓Xp, ↓Xq, ↓Y3, ↓Yr, ↓Xr, ↓XY, ↓Ys, ↓Xd, ↓Xe, ↓Xf, ↓Y4, ↓Y5, ↓Y7, ↓Y8, ↓Y9, ↓Za, ↓Zb, ↓Zc, ↓Yu, ↓Yz, ↓YA, ↓YF, ↓Xi, ↓XM, ↓Xl, ↓Xb, ↓Xc, ↓Xm, ↓Xj, ↓XN, ↓Xk, ↓XO, Zd, Ze, Zf, Zg, Zh, Zi, Yv, Yw, Yx, Yy, Zj, X0, X1, Xg, Xu, X2, X3, YC, YD, XZ, Xs, Xv, Xw, X4, X5, X6, X7, X8, Xh, XA, XB, XC, XD, XE, XF, YE, X9, XH, setAll, Yl, reduceCtorEq, ne_eq, not_false_eq_true, if_true, if_false, Bool.false_eq_true, Option.map_some, decide_eq_true_eq, Bool.not_true, Bool.not_false])
        refine c_find_interval U S1h P1 i0 (by omega) fun c a o p l r eW1 j0 j1 => ?_
        repeat (first | refine XJ ?_ | simp only [show (0 : Int) ≤ 0 from Int.le_refl 0, show (0 : Int) ≤ (line : Nat) from by unfold line; omega, ↓Yb, ↓XQ, ↓YH, ↓Yd, ↓Ye, ↓Yg, ↓Yh, ↓Yi, ↓YI, ↓YJ, ↓Yj, ↓Yk, ↓XR, ↓XS, ↓YK, ↓Ym, ↓YL, ↓YM, ↓Yn, ↓YN, ↓YO, ↓XU, ↓YQ, ↓Yo, ↓YR, ↓Zk, ↓XV, ↓YS, ↓YT, ↓Zl, ↓YU, ↓Yp, ↓XW, ↓YV, ↓YW, ↓YX, ↓Yq, ↓YY, ↓YZ, ↓Y0, ↓Y1, ↓XX, ↓Xn, ↓Xo, ↓Y2, ↓Xp, ↓Xq, ↓Y3, ↓Yr, ↓Xr, ↓XY, ↓Ys, ↓Xd, ↓Xe, ↓Xf, ↓Y4, ↓Y5, ↓Y7, ↓Y8, ↓Y9, ↓Za, ↓Zb, ↓Zc, ↓Yu, ↓Yz, ↓YA, ↓YF, ↓Xi, ↓XM, ↓Xl, ↓Xb, ↓Xc, ↓Xm, ↓Xj, ↓XN, ↓Xk, ↓XO, Zd, Ze, Zf, Zg, Zh, Zi, Yv, Yw, Yx, Yy, Zj, X0, X1, Xg, Xu, X2, X3, YC, YD, XZ, Xs, Xv, Xw, X4, X5, X6, X7, X8, Xh, XA, XB, XC, XD, XE, XF, YE, X9, XH, setAll, Yl, reduceCtorEq, ne_eq, not_false_eq_true, if_true, if_false, Bool.false_eq_true, Option.map_some, decide_eq_true_eq, Bool.not_true, Bool.not_false, true_and, Int.toNat_zero, List.getElem?_cons_zero])
        obtain ⟨us, vs, c1, c2⟩ := partR_cut (b := 0) (i := i) PR i0 (by rw [← tot_rows]; omega)
        have er1 : W1.rows = (inoL c ++ l.ino).map (·.2) ++ (o, p) :: (r.ino ++ inoR c).map (·.2) := by rw [eW1, rows_plug]; simp [T.rows, T.ino]
        obtain ⟨d1, d2⟩ := row_one (us := us) (vs := vs) (c1.symm.trans (er.symm.trans er1)) (by rw [← c1]; exact partR_pos PR) (by rw [← sumI_rows]; omega) (by rw [← sumI_rows]; omega)
        rw [eW1] at S1h P1 xW1 sz1
        repeat (first | refine XJ ?_ | simp only [↓Yb, ↓XQ, ↓YH, ↓Yd, ↓Ye, ↓Yg, ↓Yh, ↓Yi, ↓YI, ↓YJ, ↓Yj, ↓Yk, ↓XR, ↓XS, ↓YK, ↓Ym, ↓YL, ↓YM, ↓Yn, ↓YN, ↓YO, ↓XU, ↓YQ, ↓Yo, ↓YR, ↓Zk, ↓XV, ↓YS, ↓YT, ↓Zl, ↓YU, ↓Yp, ↓XW, ↓YV, ↓YW, ↓YX, ↓Yq, ↓YY, ↓YZ, ↓Y0, ↓Y1, ↓XX, ↓Xn, ↓Xo, ↓Y2, ↓Xp, ↓Xq, ↓Y3, ↓Yr, ↓Xr, ↓XY, ↓Ys, ↓Xd, ↓Xe, ↓Xf, ↓Y4, ↓Y5, ↓Y7, ↓Y8, ↓Y9, ↓Za, ↓Zb, ↓Zc, ↓Yu, ↓Yz, ↓YA, ↓YF, ↓Xi, ↓XM, ↓Xl, ↓Xb, ↓Xc, ↓Xm, ↓Xj, ↓XN, ↓Xk, ↓XO, Zd, Ze, Zf, Zg, Zh, Zi, Yv, Yw, Yx, Yy, Zj, X0, X1, Xg, Xu, X2, X3, YC, YD, XZ, Xs, Xv, Xw, X4, X5, X6, X7, X8, Xh, XA, XB, XC, XD, XE, XF, YE, X9, XH, setAll, Yl, reduceCtorEq, ne_eq, not_false_eq_true, if_true, if_false, Bool.false_eq_true, Option.map_some, decide_eq_true_eq, Bool.not_true, Bool.not_false])
        refine c_put_ahead U S1h P1 (by omega) x2 xr xW1 sz1 fun h' W' H' eW f' => ⟨_, Sub.refl, fin h' W' us vs H' (by rw [er, c1]) (by omega) (fun b mb => ?_) ?_ fun y n1 n2 n3 => f' y n1 (eW1 ▸ n2) n3⟩
        · rw [eW1, T.ads, ino_plug, T.ino]
          unfold T.ads at mb
          rw [eW] at mb
          simp only [List.map_append, List.map_cons, List.mem_append, List.mem_cons] at mb ⊢
          grind
        · unfold T.rows
          rw [eW, d1, d2]
          simp
theorem c_delete_range {h : Hp} {rt : Nat} {W : T} {b e : Int} {Q : V → Hp → Prop} (H : Holds h rt W) (P : Pos W) (b0 : 0 ≤ b) (be : b ≤ e) (e1 : e ≤ W.tot) (tot : W.tot ≤ 900)
    (k : ∀ h' W', Step h rt W h' W' → (b = e → W'.rows = W.rows) → (b < e → ∀ us ms vs, partR 0 e (partR 0 b W.rows) = us ++ (ms ++ vs) → sumR us = b → sumR ms = e - b → W'.rows = us ++ vs) → Q .none h') : Γ .delete_range [.ref rt, .int b, .int e] Q h := by
  refine U .delete_range rfl _ _ _ (wpB_i (ps := p_delete_range) (b := b_delete_range) rfl ?_)
  have PR := posR_rows.mp P
  have szz : ∀ {X : T}, Pos X → X.tot ≤ 900 → X.ino.length + 1 ≤ 1000 := fun {X} p t => by have := Pos.len p; omega
  repeat (first | refine XJ ?_ | simp only [b_delete_range, p_delete_range, ↓Yb, ↓XQ, ↓YH, ↓Yd, ↓Ye, ↓Yg, ↓Yh, ↓Yi, ↓YI, ↓YJ, ↓Yj, ↓Yk, ↓XR, ↓XS, ↓YK, ↓Ym, ↓YL, ↓YM, ↓Yn, ↓YN, ↓YO, ↓XU, ↓YQ, ↓Yo, ↓YR, ↓Zk, ↓XV, ↓YS, ↓YT, ↓Zl, ↓YU, ↓Yp, ↓XW, ↓YV, ↓YW, ↓YX, ↓Yq, ↓YY, ↓YZ, ↓Y0, ↓Y1, ↓XX, ↓Xn, ↓Xo, ↓Y2, ↓Xp, ↓Xq, ↓Y3, ↓Yr, ↓Xr, ↓XY, ↓Ys, ↓Xd, ↓Xe, ↓Xf, ↓Y4, ↓Y5, ↓Y7, ↓Y8, ↓Y9, ↓Za, ↓Zb, ↓Zc, ↓Yu, ↓Yz, ↓YA, ↓YF, ↓Xi, ↓XM, ↓Xl, ↓Xb, ↓Xc, ↓Xm, ↓Xj, ↓XN, ↓Xk, ↓XO, Zd, Ze, Zf, Zg, Zh, Zi, Yv, Yw, Yx, Yy, Zj, X0, X1, Xg, Xu, X2, X3, YC, YD, XZ, Xs, Xv, Xw, X4, X5, X6, X7, X8, Xh, XA, XB, XC, XD, XE, XF, YE, X9, XH, setAll, Yl, reduceCtorEq, ne_eq, not_false_eq_true, if_true, if_false, Bool.false_eq_true, Option.map_some, decide_eq_true_eq, Bool.not_true, Bool.not_false])
  split
  · repeat (first | refine XJ ?_ | simp only [↓Yb, ↓XQ, ↓YH, ↓Yd, ↓Ye, ↓Yg, ↓Yh, ↓Yi, ↓YI, ↓YJ, ↓Yj, ↓Yk, ↓XR, ↓XS, ↓YK, ↓Ym, ↓YL, ↓YM, ↓Yn, ↓YN, ↓YO, ↓XU, ↓YQ, ↓Yo, ↓YR, ↓Zk, ↓XV, ↓YS, ↓YT, ↓Zl, ↓YU, ↓Yp, ↓XW, ↓YV, ↓YW, ↓YX, ↓Yq, ↓YY, ↓YZ, ↓Y0, ↓Y1, ↓XX, ↓Xn, ↓Xo, ↓Y2, ↓Xp, ↓Xq, ↓Y3, ↓Yr, ↓Xr, ↓XY, ↓Ys, ↓Xd, ↓Xe, ↓Xf, ↓Y4, ↓Y5, ↓Y7, ↓Y8, ↓Y9, ↓Za, ↓Zb, ↓Zc, ↓Yu, ↓Yz, ↓YA, ↓YF, ↓Xi, ↓XM, ↓Xl, ↓Xb, ↓Xc, ↓Xm, ↓Xj, ↓XN, ↓Xk, ↓XO, Zd, Ze, Zf, Zg, Zh, Zi, Yv, Yw, Yx, Yy, Zj, X0, X1, Xg, Xu, X2, X3, YC, YD, XZ, Xs, Xv, Xw, X4, X5, X6, X7, X8, Xh, XA, XB, XC, XD, XE, XF, YE, X9, XH, setAll, Yl, reduceCtorEq, ne_eq, not_false_eq_true, if_true, if_false, Bool.false_eq_true, Option.map_some, decide_eq_true_eq, Bool.not_true, Bool.not_false])
    exact ⟨_, Sub.refl, k h W (.same H) (fun _ => rfl) fun z => by omega⟩
  · repeat (first | refine XJ ?_ | simp only [↓Yb, ↓XQ, ↓YH, ↓Yd, ↓Ye, ↓Yg, ↓Yh, ↓Yi, ↓YI, ↓YJ, ↓Yj, ↓Yk, ↓XR, ↓XS, ↓YK, ↓Ym, ↓YL, ↓YM, ↓Yn, ↓YN, ↓YO, ↓XU, ↓YQ, ↓Yo, ↓YR, ↓Zk, ↓XV, ↓YS, ↓YT, ↓Zl, ↓YU, ↓Yp, ↓XW, ↓YV, ↓YW, ↓YX, ↓Yq, ↓YY, ↓YZ, ↓Y0, ↓Y1, ↓XX, ↓Xn, ↓Xo, ↓Y2, ↓Xp, ↓Xq, ↓Y3, ↓Yr, ↓Xr, ↓XY, ↓Ys, ↓Xd, ↓Xe, ↓Xf, ↓Y4, ↓Y5, ↓Y7, ↓Y8, ↓Y9, ↓Za, ↓Zb, ↓Zc, ↓Yu, ↓Yz, ↓YA, ↓YF, ↓Xi, ↓XM, ↓Xl, ↓Xb, ↓Xc, ↓Xm, ↓Xj, ↓XN, ↓Xk, ↓XO, Zd, Ze, Zf, Zg, Zh, Zi, Yv, Yw, Yx, Yy, Zj, X0, X1, Xg, Xu, X2, X3, YC, YD, XZ, Xs, Xv, Xw, X4, X5, X6, X7, X8, Xh, XA, XB, XC, XD, XE, XF, YE, X9, XH, setAll, Yl, reduceCtorEq, ne_eq, not_false_eq_true, if_true, if_false, Bool.false_eq_true, Option.map_some, decide_eq_true_eq, Bool.not_true, Bool.not_false])
    refine c_split_at U H P (szz P tot) fun h1 W1 S1 er1 => ?_
    have P1 : Pos W1 := by rw [posR_rows, er1]; exact partR_pos PR
    have t1 : W1.tot = W.tot := by rw [tot_rows, tot_rows, er1, partR_sum]
    repeat (first | refine XJ ?_ | simp only [↓Yb, ↓XQ, ↓YH, ↓Yd, ↓Ye, ↓Yg, ↓Yh, ↓Yi, ↓YI, ↓YJ, ↓Yj, ↓Yk, ↓XR, ↓XS, ↓YK, ↓Ym, ↓YL, ↓YM, ↓Yn, ↓YN, ↓YO, ↓XU, ↓YQ, ↓Yo, ↓YR, ↓Zk, ↓XV, ↓YS, ↓YT, ↓Zl, ↓YU, ↓Yp, ↓XW, ↓YV, ↓YW, ↓YX, ↓Yq, ↓YY, ↓YZ, ↓Y0, ↓Y1, ↓XX, ↓Xn, ↓Xo, ↓Y2, ↓Xp, ↓Xq, ↓Y3, ↓Yr, ↓Xr, ↓XY, ↓Ys, ↓Xd, ↓Xe, ↓Xf, ↓Y4, ↓Y5, ↓Y7, ↓Y8, ↓Y9, ↓Za, ↓Zb, ↓Zc, ↓Yu, ↓Yz, ↓YA, ↓YF, ↓Xi, ↓XM, ↓Xl, ↓Xb, ↓Xc, ↓Xm, ↓Xj, ↓XN, ↓Xk, ↓XO, Zd, Ze, Zf, Zg, Zh, Zi, Yv, Yw, Yx, Yy, Zj, X0, X1, Xg, Xu, X2, X3, YC, YD, XZ, Xs, Xv, Xw, X4, X5, X6, X7, X8, Xh, XA, XB, XC, XD, XE, XF, YE, X9, XH, setAll, Yl, reduceCtorEq, ne_eq, not_false_eq_true, if_true, if_false, Bool.false_eq_true, Option.map_some, decide_eq_true_eq, Bool.not_true, Bool.not_false])
    refine c_split_at U S1.holds P1 (szz P1 (by omega)) fun h2 W2 S2 er2 => ?_
    have P2 : Pos W2 := by rw [posR_rows, er2, er1]; exact partR_pos (partR_pos PR)
    have t2 : W2.tot = W.tot := by rw [tot_rows, tot_rows, er2, er1, partR_sum, partR_sum]
    obtain ⟨us, ys, c1, c2⟩ := partR_cut (b := 0) (i := b) PR b0 (by rw [← tot_rows]; omega)
    have pc : PosR (us ++ ys) := c1 ▸ partR_pos PR
    rw [PosR.append] at pc
    have sy : sumR us + sumR ys = W.tot := by rw [← sumR_append, ← c1, partR_sum, tot_rows]
    obtain ⟨ms, vs, c3, c4⟩ := partR_cut (b := b) (i := e) pc.2 be (by omega)
    have rows2 : W2.rows = us ++ (ms ++ vs) := by
      rw [er2, er1, c1, partR_append, partR_high pc.1 (by omega), show 0 + sumR us = b by omega, c3]
    repeat (first | refine XJ ?_ | simp only [↓Yb, ↓XQ, ↓YH, ↓Yd, ↓Ye, ↓Yg, ↓Yh, ↓Yi, ↓YI, ↓YJ, ↓Yj, ↓Yk, ↓XR, ↓XS, ↓YK, ↓Ym, ↓YL, ↓YM, ↓Yn, ↓YN, ↓YO, ↓XU, ↓YQ, ↓Yo, ↓YR, ↓Zk, ↓XV, ↓YS, ↓YT, ↓Zl, ↓YU, ↓Yp, ↓XW, ↓YV, ↓YW, ↓YX, ↓Yq, ↓YY, ↓YZ, ↓Y0, ↓Y1, ↓XX, ↓Xn, ↓Xo, ↓Y2, ↓Xp, ↓Xq, ↓Y3, ↓Yr, ↓Xr, ↓XY, ↓Ys, ↓Xd, ↓Xe, ↓Xf, ↓Y4, ↓Y5, ↓Y7, ↓Y8, ↓Y9, ↓Za, ↓Zb, ↓Zc, ↓Yu, ↓Yz, ↓YA, ↓YF, ↓Xi, ↓XM, ↓Xl, ↓Xb, ↓Xc, ↓Xm, ↓Xj, ↓XN, ↓Xk, ↓XO, Zd, Ze, Zf, Zg, Zh, Zi, Yv, Yw, Yx, Yy, Zj, X0, X1, Xg, Xu, X2, X3, YC, YD, XZ, Xs, Xv, Xw, X4, X5, X6, X7, X8, Xh, XA, XB, XC, XD, XE, XF, YE, X9, XH, setAll, Yl, reduceCtorEq, ne_eq, not_false_eq_true, if_true, if_false, Bool.false_eq_true, Option.map_some, decide_eq_true_eq, Bool.not_true, Bool.not_false])
    refine ⟨fun n m h' => m .tree = some (.ref rt) ∧ m .begin = some (.int b) ∧ ∃ W3 ms3, m .left = some (.int (sumR ms3)) ∧ n = ms3.length ∧ Step h rt W h' W3 ∧ W3.rows = us ++ (ms3 ++ vs) ∧ PosR (us ++ (ms3 ++ vs)) ∧ W3.tot ≤ 900,
      ⟨_, rfl, rfl, W2, ms, by rw [show sumR ms = e - b by omega]; rfl, rfl, S1.trans S2, rows2, rows2 ▸ posR_rows.mp P2, by omega⟩, ?_⟩
    rintro n m h3 ⟨m1, m2, W3, ms3, m3, rfl, S3, r3, p3, t3⟩
    repeat (first | refine XJ ?_ | simp only [↓Yt m1, m1, ↓Yt m2, m2, ↓Yt m3, m3, ↓Yb, ↓XQ, ↓YH, ↓Yd, ↓Ye, ↓Yg, ↓Yh, ↓Yi, ↓YI, ↓YJ, ↓Yj, ↓Yk, ↓XR, ↓XS, ↓YK, ↓Ym, ↓YL, ↓YM, ↓Yn, ↓YN, ↓YO, ↓XU, ↓YQ, ↓Yo, ↓YR, ↓Zk, ↓XV, ↓YS, ↓YT, ↓Zl, ↓YU, ↓Yp, ↓XW, ↓YV, ↓YW, ↓YX, ↓Yq, ↓YY, ↓YZ, ↓Y0, ↓Y1, ↓XX, ↓Xn, ↓Xo, ↓Y2, ↓Xp, ↓Xq, ↓Y3, ↓Yr, ↓Xr, ↓XY, ↓Ys, ↓Xd, ↓Xe, ↓Xf, ↓Y4, ↓Y5, ↓Y7, ↓Y8, ↓Y9, ↓Za, ↓Zb, ↓Zc, ↓Yu, ↓Yz, ↓YA, ↓YF, ↓Xi, ↓XM, ↓Xl, ↓Xb, ↓Xc, ↓Xm, ↓Xj, ↓XN, ↓Xk, ↓XO, Zd, Ze, Zf, Zg, Zh, Zi, Yv, Yw, Yx, Yy, Zj, X0, X1, Xg, Xu, X2, X3, YC, YD, XZ, Xs, Xv, Xw, X4, X5, X6, X7, X8, Xh, XA, XB, XC, XD, XE, XF, YE, X9, XH, setAll, Yl, reduceCtorEq, ne_eq, not_false_eq_true, if_true, if_false, Bool.false_eq_true, Option.map_some, decide_eq_true_eq, Bool.not_true, Bool.not_false])
    have p3' := p3
    rw [PosR.append, PosR.append] at p3
    cases ms3 with
    | nil =>
      rw [sumR_nil, if_neg (by omega)]
      repeat (first | refine XJ ?_ | simp only [↓Yb, ↓XQ, ↓YH, ↓Yd, ↓Ye, ↓Yg, ↓Yh, ↓Yi, ↓YI, ↓YJ, ↓Yj, ↓Yk, ↓XR, ↓XS, ↓YK, ↓Ym, ↓YL, ↓YM, ↓Yn, ↓YN, ↓YO, ↓XU, ↓YQ, ↓Yo, ↓YR, ↓Zk, ↓XV, ↓YS, ↓YT, ↓Zl, ↓YU, ↓Yp, ↓XW, ↓YV, ↓YW, ↓YX, ↓Yq, ↓YY, ↓YZ, ↓Y0, ↓Y1, ↓XX, ↓Xn, ↓Xo, ↓Y2, ↓Xp, ↓Xq, ↓Y3, ↓Yr, ↓Xr, ↓XY, ↓Ys, ↓Xd, ↓Xe, ↓Xf, ↓Y4, ↓Y5, ↓Y7, ↓Y8, ↓Y9, ↓Za, ↓Zb, ↓Zc, ↓Yu, ↓Yz, ↓YA, ↓YF, ↓Xi, ↓XM, ↓Xl, ↓Xb, ↓Xc, ↓Xm, ↓Xj, ↓XN, ↓Xk, ↓XO, Zd, Ze, Zf, Zg, Zh, Zi, Yv, Yw, Yx, Yy, Zj, X0, X1, Xg, Xu, X2, X3, YC, YD, XZ, Xs, Xv, Xw, X4, X5, X6, X7, X8, Xh, XA, XB, XC, XD, XE, XF, YE, X9, XH, setAll, Yl, reduceCtorEq, ne_eq, not_false_eq_true, if_true, if_false, Bool.false_eq_true, Option.map_some, decide_eq_true_eq, Bool.not_true, Bool.not_false])
      refine ⟨_, Sub.refl, k h3 W3 S3 (fun z => by omega) fun _ us' ms' vs' q1 q2 q3 => ?_⟩
      have q0 : us ++ (ms ++ vs) = us' ++ (ms' ++ vs') := by rw [← q1, ← er1, ← er2, rows2]
      obtain ⟨a1, a2⟩ := cut_one q0 (rows2 ▸ posR_rows.mp P2) (by omega)
      have pp : PosR (us ++ (ms ++ vs)) := rows2 ▸ posR_rows.mp P2
      obtain ⟨a3, a4⟩ := cut_one a2 (PosR.append.mp pp).2 (by omega)
      rw [r3, a1, a4]; rfl
    | cons x ms4 =>
      obtain ⟨o, p⟩ := x
      have hp := p3.2.1
      rw [PosR.cons] at hp
      have := hp.2.sum
      have := p3.2.2.sum
      rw [sumR_cons, if_pos (by omega)]
      have P3 : Pos W3 := by rw [posR_rows, r3]; exact p3'
      repeat (first | refine XJ ?_ | simp only [↓Yt m1, m1, ↓Yt m2, m2, ↓Yb, ↓XQ, ↓YH, ↓Yd, ↓Ye, ↓Yg, ↓Yh, ↓Yi, ↓YI, ↓YJ, ↓Yj, ↓Yk, ↓XR, ↓XS, ↓YK, ↓Ym, ↓YL, ↓YM, ↓Yn, ↓YN, ↓YO, ↓XU, ↓YQ, ↓Yo, ↓YR, ↓Zk, ↓XV, ↓YS, ↓YT, ↓Zl, ↓YU, ↓Yp, ↓XW, ↓YV, ↓YW, ↓YX, ↓Yq, ↓YY, ↓YZ, ↓Y0, ↓Y1, ↓XX, ↓Xn, ↓Xo, ↓Y2, ↓Xp, ↓Xq, ↓Y3, ↓Yr, ↓Xr, ↓XY, ↓Ys, ↓Xd, ↓Xe, ↓Xf, ↓Y4, ↓Y5, ↓Y7, ↓Y8, ↓Y9, ↓Za, ↓Zb, ↓Zc, ↓Yu, ↓Yz, ↓YA, ↓YF, ↓Xi, ↓XM, ↓Xl, ↓Xb, ↓Xc, ↓Xm, ↓Xj, ↓XN, ↓Xk, ↓XO, Zd, Ze, Zf, Zg, Zh, Zi, Yv, Yw, Yx, Yy, Zj, X0, X1, Xg, Xu, X2, X3, YC, YD, XZ, Xs, Xv, Xw, X4, X5, X6, X7, X8, Xh, XA, XB, XC, XD, XE, XF, YE, X9, XH, setAll, Yl, reduceCtorEq, ne_eq, not_false_eq_true, if_true, if_false, Bool.false_eq_true, Option.map_some, decide_eq_true_eq, Bool.not_true, Bool.not_false])
      refine c_find_interval U S3.holds P3 b0 (by rw [tot_rows, r3, sumR_append, sumR_append, sumR_cons]; omega) fun c a o2 p2 l r eW j0 j1 => ?_
      repeat (first | refine XJ ?_ | simp only [↓Yt m1, m1, ↓Yt m2, m2, ↓Yt m3, m3, show (0 : Int) ≤ 0 from Int.le_refl 0, show (0 : Int) ≤ (line : Nat) from by unfold line; omega, ↓Yb, ↓XQ, ↓YH, ↓Yd, ↓Ye, ↓Yg, ↓Yh, ↓Yi, ↓YI, ↓YJ, ↓Yj, ↓Yk, ↓XR, ↓XS, ↓YK, ↓Ym, ↓YL, ↓YM, ↓Yn, ↓YN, ↓YO, ↓XU, ↓YQ, ↓Yo, ↓YR, ↓Zk, ↓XV, ↓YS, ↓YT, ↓Zl, ↓YU, ↓Yp, ↓XW, ↓YV, ↓YW, ↓YX, ↓Yq, ↓YY, ↓YZ, ↓Y0, ↓Y1, ↓XX, ↓Xn, ↓Xo, ↓Y2, ↓Xp, ↓Xq, ↓Y3, ↓Yr, ↓Xr, ↓XY, ↓Ys, ↓Xd, ↓Xe, ↓Xf, ↓Y4, ↓Y5, ↓Y7, ↓Y8, ↓Y9, ↓Za, ↓Zb, ↓Zc, ↓Yu, ↓Yz, ↓YA, ↓YF, ↓Xi, ↓XM, ↓Xl, ↓Xb, ↓Xc, ↓Xm, ↓Xj, ↓XN, ↓Xk, ↓XO, Zd, Ze, Zf, Zg, Zh, Zi, Yv, Yw, Yx, Yy, Zj, X0, X1, Xg, Xu, X2, X3, YC, YD, XZ, Xs, Xv, Xw, X4, X5, X6, X7, X8, Xh, XA, XB, XC, XD, XE, XF, YE, X9, XH, setAll, Yl, reduceCtorEq, ne_eq, not_false_eq_true, if_true, if_false, Bool.false_eq_true, Option.map_some, decide_eq_true_eq, Bool.not_true, Bool.not_false, true_and, Int.toNat_zero, List.getElem?_cons_zero])
      have er : W3.rows = (inoL c ++ l.ino).map (·.2) ++ (o2, p2) :: (r.ino ++ inoR c).map (·.2) := by rw [eW, rows_plug]; simp [T.rows, T.ino]
      obtain ⟨d1, d2⟩ := row_one (r3.symm.trans er) p3' (by rw [← sumI_rows]; omega) (by rw [← sumI_rows]; omega)
      simp only [List.cons_append, List.cons.injEq, Prod.mk.injEq] at d2
      obtain ⟨⟨rfl, rfl⟩, d2⟩ := d2
      have H3 := S3.holds
      rw [eW] at H3
      repeat (first | refine XJ ?_ | simp only [↓Yb, ↓XQ, ↓YH, ↓Yd, ↓Ye, ↓Yg, ↓Yh, ↓Yi, ↓YI, ↓YJ, ↓Yj, ↓Yk, ↓XR, ↓XS, ↓YK, ↓Ym, ↓YL, ↓YM, ↓Yn, ↓YN, ↓YO, ↓XU, ↓YQ, ↓Yo, ↓YR, ↓Zk, ↓XV, ↓YS, ↓YT, ↓Zl, ↓YU, ↓Yp, ↓XW, ↓YV, ↓YW, ↓YX, ↓Yq, ↓YY, ↓YZ, ↓Y0, ↓Y1, ↓XX, ↓Xn, ↓Xo, ↓Y2, ↓Xp, ↓Xq, ↓Y3, ↓Yr, ↓Xr, ↓XY, ↓Ys, ↓Xd, ↓Xe, ↓Xf, ↓Y4, ↓Y5, ↓Y7, ↓Y8, ↓Y9, ↓Za, ↓Zb, ↓Zc, ↓Yu, ↓Yz, ↓YA, ↓YF, ↓Xi, ↓XM, ↓Xl, ↓Xb, ↓Xc, ↓Xm, ↓Xj, ↓XN, ↓Xk, ↓XO, Zd, Ze, Zf, Zg, Zh, Zi, Yv, Yw, Yx, Yy, Zj, X0, X1, Xg, Xu, X2, X3, YC, YD, XZ, Xs, Xv, Xw, X4, X5, X6, X7, X8, Xh, XA, XB, XC, XD, XE, XF, YE, X9, XH, setAll, Yl, reduceCtorEq, ne_eq, not_false_eq_true, if_true, if_false, Bool.false_eq_true, Option.map_some, decide_eq_true_eq, Bool.not_true, Bool.not_false])
      refine c_own_length U H3.split.2.1 ?_
      repeat (first | refine XJ ?_ | simp only [↓Yt m1, m1, ↓Yt m2, m2, ↓Yt m3, m3, ↓Yb, ↓XQ, ↓YH, ↓Yd, ↓Ye, ↓Yg, ↓Yh, ↓Yi, ↓YI, ↓YJ, ↓Yj, ↓Yk, ↓XR, ↓XS, ↓YK, ↓Ym, ↓YL, ↓YM, ↓Yn, ↓YN, ↓YO, ↓XU, ↓YQ, ↓Yo, ↓YR, ↓Zk, ↓XV, ↓YS, ↓YT, ↓Zl, ↓YU, ↓Yp, ↓XW, ↓YV, ↓YW, ↓YX, ↓Yq, ↓YY, ↓YZ, ↓Y0, ↓Y1, ↓XX, ↓Xn, ↓Xo, ↓Y2, ↓Xp, ↓Xq, ↓Y3, ↓Yr, ↓Xr, ↓XY, ↓Ys, ↓Xd, ↓Xe, ↓Xf, ↓Y4, ↓Y5, ↓Y7, ↓Y8, ↓Y9, ↓Za, ↓Zb, ↓Zc, ↓Yu, ↓Yz, ↓YA, ↓YF, ↓Xi, ↓XM, ↓Xl, ↓Xb, ↓Xc, ↓Xm, ↓Xj, ↓XN, ↓Xk, ↓XO, Zd, Ze, Zf, Zg, Zh, Zi, Yv, Yw, Yx, Yy, Zj, X0, X1, Xg, Xu, X2, X3, YC, YD, XZ, Xs, Xv, Xw, X4, X5, X6, X7, X8, Xh, XA, XB, XC, XD, XE, XF, YE, X9, XH, setAll, Yl, reduceCtorEq, ne_eq, not_false_eq_true, if_true, if_false, Bool.false_eq_true, Option.map_some, decide_eq_true_eq, Bool.not_true, Bool.not_false])
      rw [eW] at P3
      repeat (first | refine XJ ?_ | simp only [↓Yb, ↓XQ, ↓YH, ↓Yd, ↓Ye, ↓Yg, ↓Yh, ↓Yi, ↓YI, ↓YJ, ↓Yj, ↓Yk, ↓XR, ↓XS, ↓YK, ↓Ym, ↓YL, ↓YM, ↓Yn, ↓YN, ↓YO, ↓XU, ↓YQ, ↓Yo, ↓YR, ↓Zk, ↓XV, ↓YS, ↓YT, ↓Zl, ↓YU, ↓Yp, ↓XW, ↓YV, ↓YW, ↓YX, ↓Yq, ↓YY, ↓YZ, ↓Y0, ↓Y1, ↓XX, ↓Xn, ↓Xo, ↓Y2, ↓Xp, ↓Xq, ↓Y3, ↓Yr, ↓Xr, ↓XY, ↓Ys, ↓Xd, ↓Xe, ↓Xf, ↓Y4, ↓Y5, ↓Y7, ↓Y8, ↓Y9, ↓Za, ↓Zb, ↓Zc, ↓Yu, ↓Yz, ↓YA, ↓YF, ↓Xi, ↓XM, ↓Xl, ↓Xb, ↓Xc, ↓Xm, ↓Xj, ↓XN, ↓Xk, ↓XO, Zd, Ze, Zf, Zg, Zh, Zi, Yv, Yw, Yx, Yy, Zj, X0, X1, Xg, Xu, X2, X3, YC, YD, XZ, Xs, Xv, Xw, X4, X5, X6, X7, X8, Xh, XA, XB, XC, XD, XE, XF, YE, X9, XH, setAll, Yl, reduceCtorEq, ne_eq, not_false_eq_true, if_true, if_false, Bool.false_eq_true, Option.map_some, decide_eq_true_eq, Bool.not_true, Bool.not_false])
      refine c_drop_interval U H3 P3 (by have := szz P3 (eW ▸ t3); omega) fun h4 W4 S4 e4 => ?_
      have r4 : W4.rows = us ++ (ms4 ++ vs) := by unfold T.rows; rw [e4, d1, d2]; simp
      repeat (first | refine XJ ?_ | simp only [↓Yt m1, m1, ↓Yt m2, m2, ↓Yb, ↓XQ, ↓YH, ↓Yd, ↓Ye, ↓Yg, ↓Yh, ↓Yi, ↓YI, ↓YJ, ↓Yj, ↓Yk, ↓XR, ↓XS, ↓YK, ↓Ym, ↓YL, ↓YM, ↓Yn, ↓YN, ↓YO, ↓XU, ↓YQ, ↓Yo, ↓YR, ↓Zk, ↓XV, ↓YS, ↓YT, ↓Zl, ↓YU, ↓Yp, ↓XW, ↓YV, ↓YW, ↓YX, ↓Yq, ↓YY, ↓YZ, ↓Y0, ↓Y1, ↓XX, ↓Xn, ↓Xo, ↓Y2, ↓Xp, ↓Xq, ↓Y3, ↓Yr, ↓Xr, ↓XY, ↓Ys, ↓Xd, ↓Xe, ↓Xf, ↓Y4, ↓Y5, ↓Y7, ↓Y8, ↓Y9, ↓Za, ↓Zb, ↓Zc, ↓Yu, ↓Yz, ↓YA, ↓YF, ↓Xi, ↓XM, ↓Xl, ↓Xb, ↓Xc, ↓Xm, ↓Xj, ↓XN, ↓Xk, ↓XO, Zd, Ze, Zf, Zg, Zh, Zi, Yv, Yw, Yx, Yy, Zj, X0, X1, Xg, Xu, X2, X3, YC, YD, XZ, Xs, Xv, Xw, X4, X5, X6, X7, X8, Xh, XA, XB, XC, XD, XE, XF, YE, X9, XH, setAll, Yl, reduceCtorEq, ne_eq, not_false_eq_true, if_true, if_false, Bool.false_eq_true, Option.map_some, decide_eq_true_eq, Bool.not_true, Bool.not_false, true_and])
      refine ⟨ms4.length, by simp, W4, ms4, ?_, rfl, S3.trans (eW ▸ S4), r4, ?_, ?_⟩
      · rw [sumR_cons, show o + sumR ms4 - o = sumR ms4 by omega]
      · rw [PosR.append, PosR.append]; exact ⟨p3.1, hp.2, p3.2.2⟩
      · rw [tot_rows, r4]
        rw [tot_rows, r3] at t3
        simp only [sumR_append, sumR_cons] at t3 ⊢
        omega
end
end Mine

namespace Mine
noncomputable def spans : Int → List (Int × V) → List V
  | _, [] => []
  | b, (o, p) :: r => .tup [.int b, .int (b + o), p] :: spans (b + o) r
theorem spans_append : ∀ {xs ys : List (Int × V)} {b : Int}, spans b (xs ++ ys) = spans b xs ++ spans (b + sumR xs) ys
  | [], ys, b => by simp [spans, sumR_nil]
  | (o, p) :: xs, ys, b => by rw [List.cons_append, spans, spans, spans_append, sumR_cons, List.cons_append, Int.add_assoc]
theorem spans_len : ∀ {xs : List (Int × V)} {b : Int}, (spans b xs).length = xs.length
  | [], _ => rfl
  | (o, p) :: xs, b => by rw [spans, List.length_cons, spans_len, List.length_cons]
theorem head_left {W : T} {c' : Ctx} {b : Nat} {o' : Int} {p' : V} {r' : T} (e : W = plug c' (.node b o' p' .nil r')) (e2 : inoL c' = []) : headP W.ino = .ref b := by
  rw [e, ino_plug, e2]; rfl
theorem last_right {W : T} {c' : Ctx} {b : Nat} {o' : Int} {p' : V} {l' : T} (e : W = plug c' (.node b o' p' l' .nil)) (e2 : inoR c' = []) : lastP W.ino = .ref b := by
  rw [e, ino_plug, e2]; simp [lastP, headP, T.ino]
noncomputable def irTail : MS := match b_interval_rows with
  | .scons _ (.scons _ (.scons _ r)) => r
  | _ => .snil
theorem ir_eq : b_interval_rows = .scons (.asg .found (.mls .anil)) (.scons (.asg .begin (.int 0)) (.scons (.asg .node (.ife (.bin .is (.attr (.loc .tree) .root) .non) .non (.call .leftmost (.acons (.attr (.loc .tree) .root) .anil)))) irTail)) := rfl
section
variable {Γ : Ctr} (U : Base Γ)
include U
theorem c_init_tree {h : Hp} {rt : Nat} {n : Int} {pl : V} {Q : V → Hp → Prop} (e : h rt = some (.inst .IntervalTree noF))
    (k : ∀ h' W, Holds h' rt W → W.rows = (if 0 < n then [(n, pl)] else []) → (∀ b o, b ≠ rt → h b = some o → h' b = some o) → (∀ b, b ∈ W.ads → h b = none) → Q .none h') : Γ .init_IntervalTree [.ref rt, .int n, pl] Q h := by
  refine U .init_IntervalTree rfl _ _ _ (wpB_i (ps := p_init_IntervalTree) (b := b_init_IntervalTree) rfl ?_)
  repeat (first | refine XJ ?_ | simp only [b_init_IntervalTree, p_init_IntervalTree, ↓Yb, ↓XQ, ↓YH, ↓Yd, ↓Ye, ↓Yg, ↓Yh, ↓Yi, ↓YI, ↓YJ, ↓Yj, ↓Yk, ↓XR, ↓XS, ↓YK, ↓Ym, ↓YL, ↓YM, ↓Yn, ↓YN, ↓YO, ↓XU, ↓YQ, ↓Yo, ↓YR, ↓Zk, ↓XV, ↓YS, ↓YT, ↓Zl, ↓YU, ↓Yp, ↓XW, ↓YV, ↓YW, ↓YX, ↓Yq, ↓YY, ↓YZ, ↓Y0, ↓Y1, ↓XX, ↓Xn, ↓Xo, ↓Y2, ↓Xp, ↓Xq, ↓Y3, ↓Yr, ↓Xr, ↓XY, ↓Ys, ↓Xd, ↓Xe, ↓Xf, ↓Y4, ↓Y5, ↓Y7, ↓Y8, ↓Y9, ↓Za, ↓Zb, ↓Zc, ↓Yu, ↓Yz, ↓YA, ↓YF, ↓Xi, ↓XM, ↓Xl, ↓Xb, ↓Xc, ↓Xm, ↓Xj, ↓XN, ↓Xk, ↓XO, Zd, Ze, Zf, Zg, Zh, Zi, Yv, Yw, Yx, Yy, Zj, X0, X1, Xg, Xu, X2, X3, YC, YD, XZ, Xs, Xv, Xw, X4, X5, X6, X7, X8, Xh, XA, XB, XC, XD, XE, XF, YE, X9, XH, setAll, Yl, reduceCtorEq, ne_eq, not_false_eq_true, if_true, if_false, Bool.false_eq_true, Option.map_some, decide_eq_true_eq, Bool.not_true, Bool.not_false])
  split
  · rename_i hn
    intro x hx
    have xr : rt ≠ x := fun z => by rw [← z, e] at hx; cases hx
    repeat (first | refine XJ ?_ | simp only [↓Yb, ↓XQ, ↓YH, ↓Yd, ↓Ye, ↓Yg, ↓Yh, ↓Yi, ↓YI, ↓YJ, ↓Yj, ↓Yk, ↓XR, ↓XS, ↓YK, ↓Ym, ↓YL, ↓YM, ↓Yn, ↓YN, ↓YO, ↓XU, ↓YQ, ↓Yo, ↓YR, ↓Zk, ↓XV, ↓YS, ↓YT, ↓Zl, ↓YU, ↓Yp, ↓XW, ↓YV, ↓YW, ↓YX, ↓Yq, ↓YY, ↓YZ, ↓Y0, ↓Y1, ↓XX, ↓Xn, ↓Xo, ↓Y2, ↓Xp, ↓Xq, ↓Y3, ↓Yr, ↓Xr, ↓XY, ↓Ys, ↓Xd, ↓Xe, ↓Xf, ↓Y4, ↓Y5, ↓Y7, ↓Y8, ↓Y9, ↓Za, ↓Zb, ↓Zc, ↓Yu, ↓Yz, ↓YA, ↓YF, ↓Xi, ↓XM, ↓Xl, ↓Xb, ↓Xc, ↓Xm, ↓Xj, ↓XN, ↓Xk, ↓XO, Zd, Ze, Zf, Zg, Zh, Zi, Yv, Yw, Yx, Yy, Zj, X0, X1, Xg, Xu, X2, X3, YC, YD, XZ, Xs, Xv, Xw, X4, X5, X6, X7, X8, Xh, XA, XB, XC, XD, XE, XF, YE, X9, XH, setAll, Yl, reduceCtorEq, ne_eq, not_false_eq_true, if_true, if_false, Bool.false_eq_true, Option.map_some, decide_eq_true_eq, Bool.not_true, Bool.not_false])
    refine c_init_Interval U Xg ?_
    rw [Xu]
    repeat (first | refine XJ ?_ | simp only [Xa xr, e, ↓Yb, ↓XQ, ↓YH, ↓Yd, ↓Ye, ↓Yg, ↓Yh, ↓Yi, ↓YI, ↓YJ, ↓Yj, ↓Yk, ↓XR, ↓XS, ↓YK, ↓Ym, ↓YL, ↓YM, ↓Yn, ↓YN, ↓YO, ↓XU, ↓YQ, ↓Yo, ↓YR, ↓Zk, ↓XV, ↓YS, ↓YT, ↓Zl, ↓YU, ↓Yp, ↓XW, ↓YV, ↓YW, ↓YX, ↓Yq, ↓YY, ↓YZ, ↓Y0, ↓Y1, ↓XX, ↓Xn, ↓Xo, ↓Y2, ↓Xp, ↓Xq, ↓Y3, ↓Yr, ↓Xr, ↓XY, ↓Ys, ↓Xd, ↓Xe, ↓Xf, ↓Y4, ↓Y5, ↓Y7, ↓Y8, ↓Y9, ↓Za, ↓Zb, ↓Zc, ↓Yu, ↓Yz, ↓YA, ↓YF, ↓Xi, ↓XM, ↓Xl, ↓Xb, ↓Xc, ↓Xm, ↓Xj, ↓XN, ↓Xk, ↓XO, Zd, Ze, Zf, Zg, Zh, Zi, Yv, Yw, Yx, Yy, Zj, X0, X1, Xg, Xu, X2, X3, YC, YD, XZ, Xs, Xv, Xw, X4, X5, X6, X7, X8, Xh, XA, XB, XC, XD, XE, XF, YE, X9, XH, setAll, Yl, reduceCtorEq, ne_eq, not_false_eq_true, if_true, if_false, Bool.false_eq_true, Option.map_some, decide_eq_true_eq, Bool.not_true, Bool.not_false, true_and])
    refine ⟨_, Sub.refl, k _ (.node x n pl .nil .nil) ⟨Xg, ⟨?_, trivial, trivial⟩, ?_⟩ ?_ (fun b o m1 m2 => ?_) fun b m => ?_⟩
    · simp only [T.tot, T.ptr, Int.add_zero]; exact (Xa (Ne.symm xr)).trans Xg
    · simp [ads_node, ads_nil, xr]
    · rw [if_pos hn]; rfl
    · exact (Xa m1).trans ((Xa fun z => by rw [z, hx] at m2; cases m2).trans m2)
    · simp only [ads_node, ads_nil, List.nil_append, List.mem_singleton] at m; subst m; exact hx
  · rename_i hn
    repeat (first | refine XJ ?_ | simp only [e, ↓Yb, ↓XQ, ↓YH, ↓Yd, ↓Ye, ↓Yg, ↓Yh, ↓Yi, ↓YI, ↓YJ, ↓Yj, ↓Yk, ↓XR, ↓XS, ↓YK, ↓Ym, ↓YL, ↓YM, ↓Yn, ↓YN, ↓YO, ↓XU, ↓YQ, ↓Yo, ↓YR, ↓Zk, ↓XV, ↓YS, ↓YT, ↓Zl, ↓YU, ↓Yp, ↓XW, ↓YV, ↓YW, ↓YX, ↓Yq, ↓YY, ↓YZ, ↓Y0, ↓Y1, ↓XX, ↓Xn, ↓Xo, ↓Y2, ↓Xp, ↓Xq, ↓Y3, ↓Yr, ↓Xr, ↓XY, ↓Ys, ↓Xd, ↓Xe, ↓Xf, ↓Y4, ↓Y5, ↓Y7, ↓Y8, ↓Y9, ↓Za, ↓Zb, ↓Zc, ↓Yu, ↓Yz, ↓YA, ↓YF, ↓Xi, ↓XM, ↓Xl, ↓Xb, ↓Xc, ↓Xm, ↓Xj, ↓XN, ↓Xk, ↓XO, Zd, Ze, Zf, Zg, Zh, Zi, Yv, Yw, Yx, Yy, Zj, X0, X1, Xg, Xu, X2, X3, YC, YD, XZ, Xs, Xv, Xw, X4, X5, X6, X7, X8, Xh, XA, XB, XC, XD, XE, XF, YE, X9, XH, setAll, Yl, reduceCtorEq, ne_eq, not_false_eq_true, if_true, if_false, Bool.false_eq_true, Option.map_some, decide_eq_true_eq, Bool.not_true, Bool.not_false])
    refine ⟨_, Sub.refl, k _ .nil ⟨Xg, trivial, by simp [ads_nil]⟩ ?_ (fun b o m1 m2 => (Xa m1).trans m2) fun b m => nomatch m⟩
    rw [if_neg hn]; rfl

theorem c_interval_rows {h : Hp} {rt : Nat} {W : T} {Q : V → Hp → Prop} (H : Holds h rt W) (sz : W.ino.length ≤ 1000) (k : Q (.fl (spans 0 W.rows)) h) : Γ .interval_rows [.ref rt] Q h := by
  refine U .interval_rows rfl _ _ _ (wpB_i (ps := p_interval_rows) (b := b_interval_rows) rfl ?_)
  rw [ir_eq]
  repeat (first | refine XJ ?_ | simp only [↓Yb, ↓XQ, ↓YH, ↓Yd, ↓Ye, ↓Yg, ↓Yh, ↓Yi, ↓YI, ↓YJ, ↓Yj, ↓Yk, ↓XR, ↓XS, ↓YK, ↓Ym, ↓YL, ↓YM, ↓Yn, ↓YN, ↓YO, ↓XU, ↓YQ, ↓Yo, ↓YR, ↓Zk, ↓XV, ↓YS, ↓YT, ↓Zl, ↓YU, ↓Yp, ↓XW, ↓YV, ↓YW, ↓YX, ↓Yq, ↓YY, ↓YZ, ↓Y0, ↓Y1, ↓XX, ↓Xn, ↓Xo, ↓Y2, ↓Xp, ↓Xq, ↓Y3, ↓Yr, ↓Xr, ↓XY, ↓Ys, ↓Xd, ↓Xe, ↓Xf, ↓Y4, ↓Y5, ↓Y7, ↓Y8, ↓Y9, ↓Za, ↓Zb, ↓Zc, ↓Yu, ↓Yz, ↓YA, ↓YF, ↓Xi, ↓XM, ↓Xl, ↓Xb, ↓Xc, ↓Xm, ↓Xj, ↓XN, ↓Xk, ↓XO, Zd, Ze, Zf, Zg, Zh, Zi, Yv, Yw, Yx, Yy, Zj, X0, X1, Xg, Xu, X2, X3, YC, YD, XZ, Xs, Xv, Xw, X4, X5, X6, X7, X8, Xh, XA, XB, XC, XD, XE, XF, YE, X9, XH, setAll, Yl, reduceCtorEq, ne_eq, not_false_eq_true, if_true, if_false, Bool.false_eq_true, Option.map_some, decide_eq_true_eq, Bool.not_true, Bool.not_false])
  intro f hf
  have fW : f ∉ W.ads := SInv.out hf H.tree
  have fr : f ≠ rt := fun z => by rw [z, H.root] at hf; cases hf
  have HF : ∀ o : Obj, Holds (upd h f o) rt W := fun o => H.frame fun y m => Xa fun z => by
    subst z
    rcases m with m | m
    · exact fr m
    · exact fW m
  have rest : ∀ m : Loc, m .found = some (.ref f) → m .begin = some (.int 0) → m .node = some (headP W.ino) → later Γ irTail (endP Q) m (upd h f (.lst [])) := by
    intro m m1 m2 m3
    repeat (first | refine XJ ?_ | simp only [irTail, b_interval_rows, ↓Yb, ↓XQ, ↓YH, ↓Yd, ↓Ye, ↓Yg, ↓Yh, ↓Yi, ↓YI, ↓YJ, ↓Yj, ↓Yk, ↓XR, ↓XS, ↓YK, ↓Ym, ↓YL, ↓YM, ↓Yn, ↓YN, ↓YO, ↓XU, ↓YQ, ↓Yo, ↓YR, ↓Zk, ↓XV, ↓YS, ↓YT, ↓Zl, ↓YU, ↓Yp, ↓XW, ↓YV, ↓YW, ↓YX, ↓Yq, ↓YY, ↓YZ, ↓Y0, ↓Y1, ↓XX, ↓Xn, ↓Xo, ↓Y2, ↓Xp, ↓Xq, ↓Y3, ↓Yr, ↓Xr, ↓XY, ↓Ys, ↓Xd, ↓Xe, ↓Xf, ↓Y4, ↓Y5, ↓Y7, ↓Y8, ↓Y9, ↓Za, ↓Zb, ↓Zc, ↓Yu, ↓Yz, ↓YA, ↓YF, ↓Xi, ↓XM, ↓Xl, ↓Xb, ↓Xc, ↓Xm, ↓Xj, ↓XN, ↓Xk, ↓XO, Zd, Ze, Zf, Zg, Zh, Zi, Yv, Yw, Yx, Yy, Zj, X0, X1, Xg, Xu, X2, X3, YC, YD, XZ, Xs, Xv, Xw, X4, X5, X6, X7, X8, Xh, XA, XB, XC, XD, XE, XF, YE, X9, XH, setAll, Yl, reduceCtorEq, ne_eq, not_false_eq_true, if_true, if_false, Bool.false_eq_true, Option.map_some, decide_eq_true_eq, Bool.not_true, Bool.not_false])
    refine ⟨fun n m h' => m .found = some (.ref f) ∧ ∃ ds rs, W.ino = ds ++ rs ∧ m .begin = some (.int (sumI ds)) ∧ m .node = some (headP rs) ∧ n = rs.length ∧ h' = upd h f (.lst (spans 0 (ds.map (·.2)))), ⟨_, m1, [], W.ino, rfl, m2, m3, rfl, rfl⟩, ?_⟩
    rintro n m h' ⟨m1, ds, rs, eW, m2, m3, rfl, rfl⟩
    cases rs with
    | nil =>
      simp only [headP] at m3
      repeat (first | refine XJ ?_ | simp only [↓Yt m1, m1, ↓Yt m2, m2, ↓Yt m3, m3, ↓Yb, ↓XQ, ↓YH, ↓Yd, ↓Ye, ↓Yg, ↓Yh, ↓Yi, ↓YI, ↓YJ, ↓Yj, ↓Yk, ↓XR, ↓XS, ↓YK, ↓Ym, ↓YL, ↓YM, ↓Yn, ↓YN, ↓YO, ↓XU, ↓YQ, ↓Yo, ↓YR, ↓Zk, ↓XV, ↓YS, ↓YT, ↓Zl, ↓YU, ↓Yp, ↓XW, ↓YV, ↓YW, ↓YX, ↓Yq, ↓YY, ↓YZ, ↓Y0, ↓Y1, ↓XX, ↓Xn, ↓Xo, ↓Y2, ↓Xp, ↓Xq, ↓Y3, ↓Yr, ↓Xr, ↓XY, ↓Ys, ↓Xd, ↓Xe, ↓Xf, ↓Y4, ↓Y5, ↓Y7, ↓Y8, ↓Y9, ↓Za, ↓Zb, ↓Zc, ↓Yu, ↓Yz, ↓YA, ↓YF, ↓Xi, ↓XM, ↓Xl, ↓Xb, ↓Xc, ↓Xm, ↓Xj, ↓XN, ↓Xk, ↓XO, Zd, Ze, Zf, Zg, Zh, Zi, Yv, Yw, Yx, Yy, Zj, X0, X1, Xg, Xu, X2, X3, YC, YD, XZ, Xs, Xv, Xw, X4, X5, X6, X7, X8, Xh, XA, XB, XC, XD, XE, XF, YE, X9, XH, setAll, Yl, reduceCtorEq, ne_eq, not_false_eq_true, if_true, if_false, Bool.false_eq_true, Option.map_some, decide_eq_true_eq, Bool.not_true, Bool.not_false])
      refine ⟨h, fun a o e => ?_, ?_⟩
      · have : a ≠ f := fun z => by rw [z, hf] at e; cases e
        rw [era, if_neg this, Xa this, e]
      · simp only [List.append_nil] at eW
        rw [← eW]; exact k
    | cons x rs =>
      obtain ⟨a, o, p⟩ := x
      simp only [headP] at m3
      obtain ⟨c, l, r, e1, e2, e3⟩ := splitT W ds rs a o p eW
      have H1 := HF (.lst (spans 0 (ds.map (·.2))))
      rw [e1] at H1
      have it := H1.split.2.1
      repeat (first | refine XJ ?_ | simp only [↓Yt m1, m1, ↓Yt m2, m2, ↓Yt m3, m3, ↓Yb, ↓XQ, ↓YH, ↓Yd, ↓Ye, ↓Yg, ↓Yh, ↓Yi, ↓YI, ↓YJ, ↓Yj, ↓Yk, ↓XR, ↓XS, ↓YK, ↓Ym, ↓YL, ↓YM, ↓Yn, ↓YN, ↓YO, ↓XU, ↓YQ, ↓Yo, ↓YR, ↓Zk, ↓XV, ↓YS, ↓YT, ↓Zl, ↓YU, ↓Yp, ↓XW, ↓YV, ↓YW, ↓YX, ↓Yq, ↓YY, ↓YZ, ↓Y0, ↓Y1, ↓XX, ↓Xn, ↓Xo, ↓Y2, ↓Xp, ↓Xq, ↓Y3, ↓Yr, ↓Xr, ↓XY, ↓Ys, ↓Xd, ↓Xe, ↓Xf, ↓Y4, ↓Y5, ↓Y7, ↓Y8, ↓Y9, ↓Za, ↓Zb, ↓Zc, ↓Yu, ↓Yz, ↓YA, ↓YF, ↓Xi, ↓XM, ↓Xl, ↓Xb, ↓Xc, ↓Xm, ↓Xj, ↓XN, ↓Xk, ↓XO, Zd, Ze, Zf, Zg, Zh, Zi, Yv, Yw, Yx, Yy, Zj, X0, X1, Xg, Xu, X2, X3, YC, YD, XZ, Xs, Xv, Xw, X4, X5, X6, X7, X8, Xh, XA, XB, XC, XD, XE, XF, YE, X9, XH, setAll, Yl, reduceCtorEq, ne_eq, not_false_eq_true, if_true, if_false, Bool.false_eq_true, Option.map_some, decide_eq_true_eq, Bool.not_true, Bool.not_false])
      refine c_own_length U it ?_
      repeat (first | refine XJ ?_ | simp only [↓Yt m1, m1, ↓Yt m2, m2, ↓Yt m3, m3, ↓Y6 it.1, YB it.1, ↓Yb, ↓XQ, ↓YH, ↓Yd, ↓Ye, ↓Yg, ↓Yh, ↓Yi, ↓YI, ↓YJ, ↓Yj, ↓Yk, ↓XR, ↓XS, ↓YK, ↓Ym, ↓YL, ↓YM, ↓Yn, ↓YN, ↓YO, ↓XU, ↓YQ, ↓Yo, ↓YR, ↓Zk, ↓XV, ↓YS, ↓YT, ↓Zl, ↓YU, ↓Yp, ↓XW, ↓YV, ↓YW, ↓YX, ↓Yq, ↓YY, ↓YZ, ↓Y0, ↓Y1, ↓XX, ↓Xn, ↓Xo, ↓Y2, ↓Xp, ↓Xq, ↓Y3, ↓Yr, ↓Xr, ↓XY, ↓Ys, ↓Xd, ↓Xe, ↓Xf, ↓Y4, ↓Y5, ↓Y7, ↓Y8, ↓Y9, ↓Za, ↓Zb, ↓Zc, ↓Yu, ↓Yz, ↓YA, ↓YF, ↓Xi, ↓XM, ↓Xl, ↓Xb, ↓Xc, ↓Xm, ↓Xj, ↓XN, ↓Xk, ↓XO, Zd, Ze, Zf, Zg, Zh, Zi, Yv, Yw, Yx, Yy, Zj, X0, X1, Xg, Xu, X2, X3, YC, YD, XZ, Xs, Xv, Xw, X4, X5, X6, X7, X8, Xh, XA, XB, XC, XD, XE, XF, YE, X9, XH, setAll, Yl, reduceCtorEq, ne_eq, not_false_eq_true, if_true, if_false, Bool.false_eq_true, Option.map_some, decide_eq_true_eq, Bool.not_true, Bool.not_false])
      refine ⟨?_, ?_⟩
      · rw [spans_len, List.length_map]
        rw [eW, List.length_append] at sz
        unfold line; omega
      · have H2 := HF (.lst (spans 0 (ds.map (·.2)) ++ [.tup [.int (sumI ds), .int (sumI ds + o), p]]))
        rw [e1] at H2
        repeat (first | refine XJ ?_ | simp only [↓Yt m1, m1, ↓Yt m2, m2, ↓Yt m3, m3, ↓Yb, ↓XQ, ↓YH, ↓Yd, ↓Ye, ↓Yg, ↓Yh, ↓Yi, ↓YI, ↓YJ, ↓Yj, ↓Yk, ↓XR, ↓XS, ↓YK, ↓Ym, ↓YL, ↓YM, ↓Yn, ↓YN, ↓YO, ↓XU, ↓YQ, ↓Yo, ↓YR, ↓Zk, ↓XV, ↓YS, ↓YT, ↓Zl, ↓YU, ↓Yp, ↓XW, ↓YV, ↓YW, ↓YX, ↓Yq, ↓YY, ↓YZ, ↓Y0, ↓Y1, ↓XX, ↓Xn, ↓Xo, ↓Y2, ↓Xp, ↓Xq, ↓Y3, ↓Yr, ↓Xr, ↓XY, ↓Ys, ↓Xd, ↓Xe, ↓Xf, ↓Y4, ↓Y5, ↓Y7, ↓Y8, ↓Y9, ↓Za, ↓Zb, ↓Zc, ↓Yu, ↓Yz, ↓YA, ↓YF, ↓Xi, ↓XM, ↓Xl, ↓Xb, ↓Xc, ↓Xm, ↓Xj, ↓XN, ↓Xk, ↓XO, Zd, Ze, Zf, Zg, Zh, Zi, Yv, Yw, Yx, Yy, Zj, X0, X1, Xg, Xu, X2, X3, YC, YD, XZ, Xs, Xv, Xw, X4, X5, X6, X7, X8, Xh, XA, XB, XC, XD, XE, XF, YE, X9, XH, setAll, Yl, reduceCtorEq, ne_eq, not_false_eq_true, if_true, if_false, Bool.false_eq_true, Option.map_some, decide_eq_true_eq, Bool.not_true, Bool.not_false])
        refine c_following U H2 ?_
        repeat (first | refine XJ ?_ | simp only [↓Yt m1, m1, ↓Yt m2, m2, ↓Yb, ↓XQ, ↓YH, ↓Yd, ↓Ye, ↓Yg, ↓Yh, ↓Yi, ↓YI, ↓YJ, ↓Yj, ↓Yk, ↓XR, ↓XS, ↓YK, ↓Ym, ↓YL, ↓YM, ↓Yn, ↓YN, ↓YO, ↓XU, ↓YQ, ↓Yo, ↓YR, ↓Zk, ↓XV, ↓YS, ↓YT, ↓Zl, ↓YU, ↓Yp, ↓XW, ↓YV, ↓YW, ↓YX, ↓Yq, ↓YY, ↓YZ, ↓Y0, ↓Y1, ↓XX, ↓Xn, ↓Xo, ↓Y2, ↓Xp, ↓Xq, ↓Y3, ↓Yr, ↓Xr, ↓XY, ↓Ys, ↓Xd, ↓Xe, ↓Xf, ↓Y4, ↓Y5, ↓Y7, ↓Y8, ↓Y9, ↓Za, ↓Zb, ↓Zc, ↓Yu, ↓Yz, ↓YA, ↓YF, ↓Xi, ↓XM, ↓Xl, ↓Xb, ↓Xc, ↓Xm, ↓Xj, ↓XN, ↓Xk, ↓XO, Zd, Ze, Zf, Zg, Zh, Zi, Yv, Yw, Yx, Yy, Zj, X0, X1, Xg, Xu, X2, X3, YC, YD, XZ, Xs, Xv, Xw, X4, X5, X6, X7, X8, Xh, XA, XB, XC, XD, XE, XF, YE, X9, XH, setAll, Yl, reduceCtorEq, ne_eq, not_false_eq_true, if_true, if_false, Bool.false_eq_true, Option.map_some, decide_eq_true_eq, Bool.not_true, Bool.not_false, true_and])
        refine ⟨rs.length, by simp, ds ++ [(a, o, p)], rs, by rw [eW]; simp, by rw [sumI_append, sumI_cons]; simp [sumI], by rw [e3], rfl, ?_⟩
        congr 2
        simp [spans_append, spans, sumI_rows]
  cases W with
  | nil =>
    repeat (first | refine XJ ?_ | simp only [Xa (Ne.symm fr), YD (Ne.symm fr), ↓Y6 H.root, YB H.root, T.ptr, ↓Yb, ↓XQ, ↓YH, ↓Yd, ↓Ye, ↓Yg, ↓Yh, ↓Yi, ↓YI, ↓YJ, ↓Yj, ↓Yk, ↓XR, ↓XS, ↓YK, ↓Ym, ↓YL, ↓YM, ↓Yn, ↓YN, ↓YO, ↓XU, ↓YQ, ↓Yo, ↓YR, ↓Zk, ↓XV, ↓YS, ↓YT, ↓Zl, ↓YU, ↓Yp, ↓XW, ↓YV, ↓YW, ↓YX, ↓Yq, ↓YY, ↓YZ, ↓Y0, ↓Y1, ↓XX, ↓Xn, ↓Xo, ↓Y2, ↓Xp, ↓Xq, ↓Y3, ↓Yr, ↓Xr, ↓XY, ↓Ys, ↓Xd, ↓Xe, ↓Xf, ↓Y4, ↓Y5, ↓Y7, ↓Y8, ↓Y9, ↓Za, ↓Zb, ↓Zc, ↓Yu, ↓Yz, ↓YA, ↓YF, ↓Xi, ↓XM, ↓Xl, ↓Xb, ↓Xc, ↓Xm, ↓Xj, ↓XN, ↓Xk, ↓XO, Zd, Ze, Zf, Zg, Zh, Zi, Yv, Yw, Yx, Yy, Zj, X0, X1, Xg, Xu, X2, X3, YC, YD, XZ, Xs, Xv, Xw, X4, X5, X6, X7, X8, Xh, XA, XB, XC, XD, XE, XF, YE, X9, XH, setAll, Yl, reduceCtorEq, ne_eq, not_false_eq_true, if_true, if_false, Bool.false_eq_true, Option.map_some, decide_eq_true_eq, Bool.not_true, Bool.not_false])
    refine XK ?_
    exact rest _ rfl rfl rfl
  | node a o p l r =>
    repeat (first | refine XJ ?_ | simp only [Xa (Ne.symm fr), YD (Ne.symm fr), ↓Y6 H.root, YB H.root, T.ptr, ↓Yb, ↓XQ, ↓YH, ↓Yd, ↓Ye, ↓Yg, ↓Yh, ↓Yi, ↓YI, ↓YJ, ↓Yj, ↓Yk, ↓XR, ↓XS, ↓YK, ↓Ym, ↓YL, ↓YM, ↓Yn, ↓YN, ↓YO, ↓XU, ↓YQ, ↓Yo, ↓YR, ↓Zk, ↓XV, ↓YS, ↓YT, ↓Zl, ↓YU, ↓Yp, ↓XW, ↓YV, ↓YW, ↓YX, ↓Yq, ↓YY, ↓YZ, ↓Y0, ↓Y1, ↓XX, ↓Xn, ↓Xo, ↓Y2, ↓Xp, ↓Xq, ↓Y3, ↓Yr, ↓Xr, ↓XY, ↓Ys, ↓Xd, ↓Xe, ↓Xf, ↓Y4, ↓Y5, ↓Y7, ↓Y8, ↓Y9, ↓Za, ↓Zb, ↓Zc, ↓Yu, ↓Yz, ↓YA, ↓YF, ↓Xi, ↓XM, ↓Xl, ↓Xb, ↓Xc, ↓Xm, ↓Xj, ↓XN, ↓Xk, ↓XO, Zd, Ze, Zf, Zg, Zh, Zi, Yv, Yw, Yx, Yy, Zj, X0, X1, Xg, Xu, X2, X3, YC, YD, XZ, Xs, Xv, Xw, X4, X5, X6, X7, X8, Xh, XA, XB, XC, XD, XE, XF, YE, X9, XH, setAll, Yl, reduceCtorEq, ne_eq, not_false_eq_true, if_true, if_false, Bool.false_eq_true, Option.map_some, decide_eq_true_eq, Bool.not_true, Bool.not_false])
    refine c_leftmost U (HF _).tree fun c' b o' p' r' e e2 => ?_
    exact rest _ rfl rfl (by rw [head_left e e2]; rfl)
end
end Mine

namespace Mine
noncomputable def szs (ts : List T) : Nat := (ts.map (·.ino.length)).sum
theorem szs_append {xs ys : List T} : szs (xs ++ ys) = szs xs + szs ys := by simp [szs]
theorem szs_one {t : T} : szs [t] = t.ino.length := by simp [szs]
theorem szs_len : ∀ {ts : List T}, (∀ t, t ∈ ts → t ≠ .nil) → ts.length ≤ szs ts
  | [], _ => Nat.le_refl _
  | t :: ts, h => by
    have := szs_len (ts := ts) fun t m => h t (.tail _ m)
    have h1 := h t (.head _)
    have : 1 ≤ t.ino.length := by cases t with
      | nil => exact absurd rfl h1
      | node => simp [T.ino]; omega
    have : szs (t :: ts) = t.ino.length + szs ts := by simp [szs]
    simp only [List.length_cons]; omega
section
variable {Γ : Ctr} (U : Base Γ)
include U
theorem c_tree_error {h : Hp} {rt : Nat} {W : T} {Q : V → Hp → Prop} (H : Holds h rt W) (P : Pos W) (sz : W.ino.length ≤ 1000) (k : Q .none h) : Γ .tree_error [.ref rt] Q h := by
  refine U .tree_error rfl _ _ _ (wpB_i (ps := p_tree_error) (b := b_tree_error) rfl ?_)
  repeat (first | refine XJ ?_ | simp only [b_tree_error, p_tree_error, ↓Y6 H.root, YB H.root, ↓Yb, ↓XQ, ↓YH, ↓Yd, ↓Ye, ↓Yg, ↓Yh, ↓Yi, ↓YI, ↓YJ, ↓Yj, ↓Yk, ↓XR, ↓XS, ↓YK, ↓Ym, ↓YL, ↓YM, ↓Yn, ↓YN, ↓YO, ↓XU, ↓YQ, ↓Yo, ↓YR, ↓Zk, ↓XV, ↓YS, ↓YT, ↓Zl, ↓YU, ↓Yp, ↓XW, ↓YV, ↓YW, ↓YX, ↓Yq, ↓YY, ↓YZ, ↓Y0, ↓Y1, ↓XX, ↓Xn, ↓Xo, ↓Y2, ↓Xp, ↓Xq, ↓Y3, ↓Yr, ↓Xr, ↓XY, ↓Ys, ↓Xd, ↓Xe, ↓Xf, ↓Y4, ↓Y5, ↓Y7, ↓Y8, ↓Y9, ↓Za, ↓Zb, ↓Zc, ↓Yu, ↓Yz, ↓YA, ↓YF, ↓Xi, ↓XM, ↓Xl, ↓Xb, ↓Xc, ↓Xm, ↓Xj, ↓XN, ↓Xk, ↓XO, Zd, Ze, Zf, Zg, Zh, Zi, Yv, Yw, Yx, Yy, Zj, X0, X1, Xg, Xu, X2, X3, YC, YD, XZ, Xs, Xv, Xw, X4, X5, X6, X7, X8, Xh, XA, XB, XC, XD, XE, XF, YE, X9, XH, setAll, Yl, reduceCtorEq, ne_eq, not_false_eq_true, if_true, if_false, Bool.false_eq_true, Option.map_some, decide_eq_true_eq, Bool.not_true, Bool.not_false])
  cases hW : W with
  | nil =>
    repeat (first | refine XJ ?_ | simp only [T.ptr, ↓Yb, ↓XQ, ↓YH, ↓Yd, ↓Ye, ↓Yg, ↓Yh, ↓Yi, ↓YI, ↓YJ, ↓Yj, ↓Yk, ↓XR, ↓XS, ↓YK, ↓Ym, ↓YL, ↓YM, ↓Yn, ↓YN, ↓YO, ↓XU, ↓YQ, ↓Yo, ↓YR, ↓Zk, ↓XV, ↓YS, ↓YT, ↓Zl, ↓YU, ↓Yp, ↓XW, ↓YV, ↓YW, ↓YX, ↓Yq, ↓YY, ↓YZ, ↓Y0, ↓Y1, ↓XX, ↓Xn, ↓Xo, ↓Y2, ↓Xp, ↓Xq, ↓Y3, ↓Yr, ↓Xr, ↓XY, ↓Ys, ↓Xd, ↓Xe, ↓Xf, ↓Y4, ↓Y5, ↓Y7, ↓Y8, ↓Y9, ↓Za, ↓Zb, ↓Zc, ↓Yu, ↓Yz, ↓YA, ↓YF, ↓Xi, ↓XM, ↓Xl, ↓Xb, ↓Xc, ↓Xm, ↓Xj, ↓XN, ↓Xk, ↓XO, Zd, Ze, Zf, Zg, Zh, Zi, Yv, Yw, Yx, Yy, Zj, X0, X1, Xg, Xu, X2, X3, YC, YD, XZ, Xs, Xv, Xw, X4, X5, X6, X7, X8, Xh, XA, XB, XC, XD, XE, XF, YE, X9, XH, setAll, Yl, reduceCtorEq, ne_eq, not_false_eq_true, if_true, if_false, Bool.false_eq_true, Option.map_some, decide_eq_true_eq, Bool.not_true, Bool.not_false])
    exact ⟨_, Sub.refl, k⟩
  | node a o p l r =>
    have it := H.tree
    rw [hW] at it
    repeat (first | refine XJ ?_ | simp only [T.ptr, ↓Y6 H.root, YB H.root, ↓Y6 it.1, YB it.1, hW, ↓Yb, ↓XQ, ↓YH, ↓Yd, ↓Ye, ↓Yg, ↓Yh, ↓Yi, ↓YI, ↓YJ, ↓Yj, ↓Yk, ↓XR, ↓XS, ↓YK, ↓Ym, ↓YL, ↓YM, ↓Yn, ↓YN, ↓YO, ↓XU, ↓YQ, ↓Yo, ↓YR, ↓Zk, ↓XV, ↓YS, ↓YT, ↓Zl, ↓YU, ↓Yp, ↓XW, ↓YV, ↓YW, ↓YX, ↓Yq, ↓YY, ↓YZ, ↓Y0, ↓Y1, ↓XX, ↓Xn, ↓Xo, ↓Y2, ↓Xp, ↓Xq, ↓Y3, ↓Yr, ↓Xr, ↓XY, ↓Ys, ↓Xd, ↓Xe, ↓Xf, ↓Y4, ↓Y5, ↓Y7, ↓Y8, ↓Y9, ↓Za, ↓Zb, ↓Zc, ↓Yu, ↓Yz, ↓YA, ↓YF, ↓Xi, ↓XM, ↓Xl, ↓Xb, ↓Xc, ↓Xm, ↓Xj, ↓XN, ↓Xk, ↓XO, Zd, Ze, Zf, Zg, Zh, Zi, Yv, Yw, Yx, Yy, Zj, X0, X1, Xg, Xu, X2, X3, YC, YD, XZ, Xs, Xv, Xw, X4, X5, X6, X7, X8, Xh, XA, XB, XC, XD, XE, XF, YE, X9, XH, setAll, Yl, reduceCtorEq, ne_eq, not_false_eq_true, if_true, if_false, Bool.false_eq_true, Option.map_some, decide_eq_true_eq, Bool.not_true, Bool.not_false])
    intro w hw
    have wW : w ∉ W.ads := SInv.out hw H.tree
    have wr : w ≠ rt := fun z => by rw [z, H.root] at hw; cases hw
    have HF : ∀ o : Obj, Holds (upd h w o) rt W := fun o => H.frame fun y m => Xa fun z => by
      subst z
      rcases m with m | m
      · exact wr m
      · exact wW m
    repeat (first | refine XJ ?_ | simp only [↓Yb, ↓XQ, ↓YH, ↓Yd, ↓Ye, ↓Yg, ↓Yh, ↓Yi, ↓YI, ↓YJ, ↓Yj, ↓Yk, ↓XR, ↓XS, ↓YK, ↓Ym, ↓YL, ↓YM, ↓Yn, ↓YN, ↓YO, ↓XU, ↓YQ, ↓Yo, ↓YR, ↓Zk, ↓XV, ↓YS, ↓YT, ↓Zl, ↓YU, ↓Yp, ↓XW, ↓YV, ↓YW, ↓YX, ↓Yq, ↓YY, ↓YZ, ↓Y0, ↓Y1, ↓XX, ↓Xn, ↓Xo, ↓Y2, ↓Xp, ↓Xq, ↓Y3, ↓Yr, ↓Xr, ↓XY, ↓Ys, ↓Xd, ↓Xe, ↓Xf, ↓Y4, ↓Y5, ↓Y7, ↓Y8, ↓Y9, ↓Za, ↓Zb, ↓Zc, ↓Yu, ↓Yz, ↓YA, ↓YF, ↓Xi, ↓XM, ↓Xl, ↓Xb, ↓Xc, ↓Xm, ↓Xj, ↓XN, ↓Xk, ↓XO, Zd, Ze, Zf, Zg, Zh, Zi, Yv, Yw, Yx, Yy, Zj, X0, X1, Xg, Xu, X2, X3, YC, YD, XZ, Xs, Xv, Xw, X4, X5, X6, X7, X8, Xh, XA, XB, XC, XD, XE, XF, YE, X9, XH, setAll, Yl, reduceCtorEq, ne_eq, not_false_eq_true, if_true, if_false, Bool.false_eq_true, Option.map_some, decide_eq_true_eq, Bool.not_true, Bool.not_false])
    refine ⟨fun n m h' => m .waiting = some (.ref w) ∧ ∃ ts : List T, h' = upd h w (.lst (ts.map T.ptr)) ∧ (∀ t, t ∈ ts → t ≠ .nil ∧ ∃ c, W = plug c t) ∧ n = szs ts ∧ n ≤ 1000, ⟨_, rfl, [W], by rw [hW]; rfl, fun t m => by
        simp only [List.mem_singleton] at m
        subst m
        exact ⟨by rw [hW]; simp, [], rfl⟩, rfl, by rw [szs_one]; exact sz⟩, ?_⟩
    rintro n m h' ⟨m1, ts, rfl, ok, rfl, n1⟩
    have ll := szs_len fun t m => (ok t m).1
    rcases List.eq_nil_or_concat ts with e | ⟨ts', t, e⟩
    · subst e
      repeat (first | refine XJ ?_ | simp only [↓Yt m1, m1, XI Xg, List.map_nil, List.length_nil, ↓Yb, ↓XQ, ↓YH, ↓Yd, ↓Ye, ↓Yg, ↓Yh, ↓Yi, ↓YI, ↓YJ, ↓Yj, ↓Yk, ↓XR, ↓XS, ↓YK, ↓Ym, ↓YL, ↓YM, ↓Yn, ↓YN, ↓YO, ↓XU, ↓YQ, ↓Yo, ↓YR, ↓Zk, ↓XV, ↓YS, ↓YT, ↓Zl, ↓YU, ↓Yp, ↓XW, ↓YV, ↓YW, ↓YX, ↓Yq, ↓YY, ↓YZ, ↓Y0, ↓Y1, ↓XX, ↓Xn, ↓Xo, ↓Y2, ↓Xp, ↓Xq, ↓Y3, ↓Yr, ↓Xr, ↓XY, ↓Ys, ↓Xd, ↓Xe, ↓Xf, ↓Y4, ↓Y5, ↓Y7, ↓Y8, ↓Y9, ↓Za, ↓Zb, ↓Zc, ↓Yu, ↓Yz, ↓YA, ↓YF, ↓Xi, ↓XM, ↓Xl, ↓Xb, ↓Xc, ↓Xm, ↓Xj, ↓XN, ↓Xk, ↓XO, Zd, Ze, Zf, Zg, Zh, Zi, Yv, Yw, Yx, Yy, Zj, X0, X1, Xg, Xu, X2, X3, YC, YD, XZ, Xs, Xv, Xw, X4, X5, X6, X7, X8, Xh, XA, XB, XC, XD, XE, XF, YE, X9, XH, setAll, Yl, reduceCtorEq, ne_eq, not_false_eq_true, if_true, if_false, Bool.false_eq_true, Option.map_some, decide_eq_true_eq, Bool.not_true, Bool.not_false])
      refine ⟨by omega, ?_⟩
      rw [if_neg (by simp)]
      repeat (first | refine XJ ?_ | simp only [↓Yt m1, m1, T.ptr, ↓Yb, ↓XQ, ↓YH, ↓Yd, ↓Ye, ↓Yg, ↓Yh, ↓Yi, ↓YI, ↓YJ, ↓Yj, ↓Yk, ↓XR, ↓XS, ↓YK, ↓Ym, ↓YL, ↓YM, ↓Yn, ↓YN, ↓YO, ↓XU, ↓YQ, ↓Yo, ↓YR, ↓Zk, ↓XV, ↓YS, ↓YT, ↓Zl, ↓YU, ↓Yp, ↓XW, ↓YV, ↓YW, ↓YX, ↓Yq, ↓YY, ↓YZ, ↓Y0, ↓Y1, ↓XX, ↓Xn, ↓Xo, ↓Y2, ↓Xp, ↓Xq, ↓Y3, ↓Yr, ↓Xr, ↓XY, ↓Ys, ↓Xd, ↓Xe, ↓Xf, ↓Y4, ↓Y5, ↓Y7, ↓Y8, ↓Y9, ↓Za, ↓Zb, ↓Zc, ↓Yu, ↓Yz, ↓YA, ↓YF, ↓Xi, ↓XM, ↓Xl, ↓Xb, ↓Xc, ↓Xm, ↓Xj, ↓XN, ↓Xk, ↓XO, Zd, Ze, Zf, Zg, Zh, Zi, Yv, Yw, Yx, Yy, Zj, X0, X1, Xg, Xu, X2, X3, YC, YD, XZ, Xs, Xv, Xw, X4, X5, X6, X7, X8, Xh, XA, XB, XC, XD, XE, XF, YE, X9, XH, setAll, Yl, reduceCtorEq, ne_eq, not_false_eq_true, if_true, if_false, Bool.false_eq_true, Option.map_some, decide_eq_true_eq, Bool.not_true, Bool.not_false])
      refine ⟨h, fun a o e => ?_, k⟩
      have : a ≠ w := fun z => by rw [z, hw] at e; cases e
      rw [Xa this, e]
    · rw [List.concat_eq_append] at e
      subst e
      have l1 : (0 : Int) < ((List.map T.ptr (ts' ++ [t])).length : Nat) := by simp
      have l2 : (List.map T.ptr (ts' ++ [t])).length ≤ line := by rw [List.length_map]; unfold line; omega
      repeat (first | refine XJ ?_ | simp only [↓Yt m1, m1, XI Xg, l1, l2, decide_true, true_and, ↓Yb, ↓XQ, ↓YH, ↓Yd, ↓Ye, ↓Yg, ↓Yh, ↓Yi, ↓YI, ↓YJ, ↓Yj, ↓Yk, ↓XR, ↓XS, ↓YK, ↓Ym, ↓YL, ↓YM, ↓Yn, ↓YN, ↓YO, ↓XU, ↓YQ, ↓Yo, ↓YR, ↓Zk, ↓XV, ↓YS, ↓YT, ↓Zl, ↓YU, ↓Yp, ↓XW, ↓YV, ↓YW, ↓YX, ↓Yq, ↓YY, ↓YZ, ↓Y0, ↓Y1, ↓XX, ↓Xn, ↓Xo, ↓Y2, ↓Xp, ↓Xq, ↓Y3, ↓Yr, ↓Xr, ↓XY, ↓Ys, ↓Xd, ↓Xe, ↓Xf, ↓Y4, ↓Y5, ↓Y7, ↓Y8, ↓Y9, ↓Za, ↓Zb, ↓Zc, ↓Yu, ↓Yz, ↓YA, ↓YF, ↓Xi, ↓XM, ↓Xl, ↓Xb, ↓Xc, ↓Xm, ↓Xj, ↓XN, ↓Xk, ↓XO, Zd, Ze, Zf, Zg, Zh, Zi, Yv, Yw, Yx, Yy, Zj, X0, X1, Xg, Xu, X2, X3, YC, YD, XZ, Xs, Xv, Xw, X4, X5, X6, X7, X8, Xh, XA, XB, XC, XD, XE, XF, YE, X9, XH, setAll, Yl, reduceCtorEq, ne_eq, not_false_eq_true, if_true, if_false, Bool.false_eq_true, Option.map_some, decide_eq_true_eq, Bool.not_true, Bool.not_false])
      repeat (first | refine XJ ?_ | simp only [List.map_append, List.map_cons, List.map_nil, List.getLast?_append, List.getLast?_singleton, Option.some_or, List.dropLast_concat, ↓Yb, ↓XQ, ↓YH, ↓Yd, ↓Ye, ↓Yg, ↓Yh, ↓Yi, ↓YI, ↓YJ, ↓Yj, ↓Yk, ↓XR, ↓XS, ↓YK, ↓Ym, ↓YL, ↓YM, ↓Yn, ↓YN, ↓YO, ↓XU, ↓YQ, ↓Yo, ↓YR, ↓Zk, ↓XV, ↓YS, ↓YT, ↓Zl, ↓YU, ↓Yp, ↓XW, ↓YV, ↓YW, ↓YX, ↓Yq, ↓YY, ↓YZ, ↓Y0, ↓Y1, ↓XX, ↓Xn, ↓Xo, ↓Y2, ↓Xp, ↓Xq, ↓Y3, ↓Yr, ↓Xr, ↓XY, ↓Ys, ↓Xd, ↓Xe, ↓Xf, ↓Y4, ↓Y5, ↓Y7, ↓Y8, ↓Y9, ↓Za, ↓Zb, ↓Zc, ↓Yu, ↓Yz, ↓YA, ↓YF, ↓Xi, ↓XM, ↓Xl, ↓Xb, ↓Xc, ↓Xm, ↓Xj, ↓XN, ↓Xk, ↓XO, Zd, Ze, Zf, Zg, Zh, Zi, Yv, Yw, Yx, Yy, Zj, X0, X1, Xg, Xu, X2, X3, YC, YD, XZ, Xs, Xv, Xw, X4, X5, X6, X7, X8, Xh, XA, XB, XC, XD, XE, XF, YE, X9, XH, setAll, Yl, reduceCtorEq, ne_eq, not_false_eq_true, if_true, if_false, Bool.false_eq_true, Option.map_some, decide_eq_true_eq, Bool.not_true, Bool.not_false])
      obtain ⟨tn, c, eW⟩ := ok t (by simp)
      cases t with
      | nil => exact absurd rfl tn
      | node a o p l r =>
        have H1 := HF (.lst (List.map T.ptr ts'))
        rw [eW] at H1
        have it := H1.split.2.1
        have P1 := Pos.plug (eW ▸ P)
        rw [Pos.node] at P1
        repeat (first | refine XJ ?_ | simp only [↓Yb, ↓XQ, ↓YH, ↓Yd, ↓Ye, ↓Yg, ↓Yh, ↓Yi, ↓YI, ↓YJ, ↓Yj, ↓Yk, ↓XR, ↓XS, ↓YK, ↓Ym, ↓YL, ↓YM, ↓Yn, ↓YN, ↓YO, ↓XU, ↓YQ, ↓Yo, ↓YR, ↓Zk, ↓XV, ↓YS, ↓YT, ↓Zl, ↓YU, ↓Yp, ↓XW, ↓YV, ↓YW, ↓YX, ↓Yq, ↓YY, ↓YZ, ↓Y0, ↓Y1, ↓XX, ↓Xn, ↓Xo, ↓Y2, ↓Xp, ↓Xq, ↓Y3, ↓Yr, ↓Xr, ↓XY, ↓Ys, ↓Xd, ↓Xe, ↓Xf, ↓Y4, ↓Y5, ↓Y7, ↓Y8, ↓Y9, ↓Za, ↓Zb, ↓Zc, ↓Yu, ↓Yz, ↓YA, ↓YF, ↓Xi, ↓XM, ↓Xl, ↓Xb, ↓Xc, ↓Xm, ↓Xj, ↓XN, ↓Xk, ↓XO, Zd, Ze, Zf, Zg, Zh, Zi, Yv, Yw, Yx, Yy, Zj, X0, X1, Xg, Xu, X2, X3, YC, YD, XZ, Xs, Xv, Xw, X4, X5, X6, X7, X8, Xh, XA, XB, XC, XD, XE, XF, YE, X9, XH, setAll, Yl, reduceCtorEq, ne_eq, not_false_eq_true, if_true, if_false, Bool.false_eq_true, Option.map_some, decide_eq_true_eq, Bool.not_true, Bool.not_false])
        refine c_own_length U it ?_
        repeat (first | refine XJ ?_ | simp only [T.ptr, ↓Yt m1, m1, ↓Y6 it.1, YB it.1, ↓Yb, ↓XQ, ↓YH, ↓Yd, ↓Ye, ↓Yg, ↓Yh, ↓Yi, ↓YI, ↓YJ, ↓Yj, ↓Yk, ↓XR, ↓XS, ↓YK, ↓Ym, ↓YL, ↓YM, ↓Yn, ↓YN, ↓YO, ↓XU, ↓YQ, ↓Yo, ↓YR, ↓Zk, ↓XV, ↓YS, ↓YT, ↓Zl, ↓YU, ↓Yp, ↓XW, ↓YV, ↓YW, ↓YX, ↓Yq, ↓YY, ↓YZ, ↓Y0, ↓Y1, ↓XX, ↓Xn, ↓Xo, ↓Y2, ↓Xp, ↓Xq, ↓Y3, ↓Yr, ↓Xr, ↓XY, ↓Ys, ↓Xd, ↓Xe, ↓Xf, ↓Y4, ↓Y5, ↓Y7, ↓Y8, ↓Y9, ↓Za, ↓Zb, ↓Zc, ↓Yu, ↓Yz, ↓YA, ↓YF, ↓Xi, ↓XM, ↓Xl, ↓Xb, ↓Xc, ↓Xm, ↓Xj, ↓XN, ↓Xk, ↓XO, Zd, Ze, Zf, Zg, Zh, Zi, Yv, Yw, Yx, Yy, Zj, X0, X1, Xg, Xu, X2, X3, YC, YD, XZ, Xs, Xv, Xw, X4, X5, X6, X7, X8, Xh, XA, XB, XC, XD, XE, XF, YE, X9, XH, setAll, Yl, reduceCtorEq, ne_eq, not_false_eq_true, if_true, if_false, Bool.false_eq_true, Option.map_some, decide_eq_true_eq, Bool.not_true, Bool.not_false])
        rw [if_neg (by omega)]
        repeat (first | refine XJ ?_ | simp only [↓Yt m1, m1, T.ptr, ↓Y6 it.1, YB it.1, ↓Yb, ↓XQ, ↓YH, ↓Yd, ↓Ye, ↓Yg, ↓Yh, ↓Yi, ↓YI, ↓YJ, ↓Yj, ↓Yk, ↓XR, ↓XS, ↓YK, ↓Ym, ↓YL, ↓YM, ↓Yn, ↓YN, ↓YO, ↓XU, ↓YQ, ↓Yo, ↓YR, ↓Zk, ↓XV, ↓YS, ↓YT, ↓Zl, ↓YU, ↓Yp, ↓XW, ↓YV, ↓YW, ↓YX, ↓Yq, ↓YY, ↓YZ, ↓Y0, ↓Y1, ↓XX, ↓Xn, ↓Xo, ↓Y2, ↓Xp, ↓Xq, ↓Y3, ↓Yr, ↓Xr, ↓XY, ↓Ys, ↓Xd, ↓Xe, ↓Xf, ↓Y4, ↓Y5, ↓Y7, ↓Y8, ↓Y9, ↓Za, ↓Zb, ↓Zc, ↓Yu, ↓Yz, ↓YA, ↓YF, ↓Xi, ↓XM, ↓Xl, ↓Xb, ↓Xc, ↓Xm, ↓Xj, ↓XN, ↓Xk, ↓XO, Zd, Ze, Zf, Zg, Zh, Zi, Yv, Yw, Yx, Yy, Zj, X0, X1, Xg, Xu, X2, X3, YC, YD, XZ, Xs, Xv, Xw, X4, X5, X6, X7, X8, Xh, XA, XB, XC, XD, XE, XF, YE, X9, XH, setAll, Yl, reduceCtorEq, ne_eq, not_false_eq_true, if_true, if_false, Bool.false_eq_true, Option.map_some, decide_eq_true_eq, Bool.not_true, Bool.not_false])
        rw [szs_append, szs_one, T.ino, List.length_append, List.length_cons] at n1 ll ⊢
        simp only [List.length_append, List.length_cons, List.length_nil] at ll
        have okl : l ≠ .nil → l ≠ .nil ∧ ∃ c, W = plug c l := fun z => ⟨z, ⟨true, a, o, p, r⟩ :: c, eW⟩
        have okr : r ≠ .nil → r ≠ .nil ∧ ∃ c, W = plug c r := fun z => ⟨z, ⟨false, a, o, p, l⟩ :: c, eW⟩
        have okt : ∀ t, t ∈ ts' → t ≠ .nil ∧ ∃ c, W = plug c t := fun t m => ok t (by simp [m])
        have l3 : (List.map T.ptr ts').length ≤ line := by rw [List.length_map]; unfold line; omega
        have l4 : (List.map T.ptr ts').length + 1 ≤ line := by rw [List.length_map]; unfold line; omega
        have il := it.2.1
        have ir := it.2.2
        cases l with
        | nil =>
          cases r with
          | nil =>
            repeat (first | refine XJ ?_ | simp only [T.ptr, ↓Yt m1, m1, ↓Yb, ↓XQ, ↓YH, ↓Yd, ↓Ye, ↓Yg, ↓Yh, ↓Yi, ↓YI, ↓YJ, ↓Yj, ↓Yk, ↓XR, ↓XS, ↓YK, ↓Ym, ↓YL, ↓YM, ↓Yn, ↓YN, ↓YO, ↓XU, ↓YQ, ↓Yo, ↓YR, ↓Zk, ↓XV, ↓YS, ↓YT, ↓Zl, ↓YU, ↓Yp, ↓XW, ↓YV, ↓YW, ↓YX, ↓Yq, ↓YY, ↓YZ, ↓Y0, ↓Y1, ↓XX, ↓Xn, ↓Xo, ↓Y2, ↓Xp, ↓Xq, ↓Y3, ↓Yr, ↓Xr, ↓XY, ↓Ys, ↓Xd, ↓Xe, ↓Xf, ↓Y4, ↓Y5, ↓Y7, ↓Y8, ↓Y9, ↓Za, ↓Zb, ↓Zc, ↓Yu, ↓Yz, ↓YA, ↓YF, ↓Xi, ↓XM, ↓Xl, ↓Xb, ↓Xc, ↓Xm, ↓Xj, ↓XN, ↓Xk, ↓XO, Zd, Ze, Zf, Zg, Zh, Zi, Yv, Yw, Yx, Yy, Zj, X0, X1, Xg, Xu, X2, X3, YC, YD, XZ, Xs, Xv, Xw, X4, X5, X6, X7, X8, Xh, XA, XB, XC, XD, XE, XF, YE, X9, XH, setAll, Yl, reduceCtorEq, ne_eq, not_false_eq_true, if_true, if_false, Bool.false_eq_true, Option.map_some, decide_eq_true_eq, Bool.not_true, Bool.not_false])
            refine ⟨szs ts', by omega, True.intro, ts', rfl, okt, rfl, by omega⟩
          | node b ob pb lb rb =>
            have eb := ir.1
            repeat (first | refine XJ ?_ | simp only [T.ptr, ↓Yt m1, m1, ↓Y6 eb, YB eb, Xg, l3, ↓Yb, ↓XQ, ↓YH, ↓Yd, ↓Ye, ↓Yg, ↓Yh, ↓Yi, ↓YI, ↓YJ, ↓Yj, ↓Yk, ↓XR, ↓XS, ↓YK, ↓Ym, ↓YL, ↓YM, ↓Yn, ↓YN, ↓YO, ↓XU, ↓YQ, ↓Yo, ↓YR, ↓Zk, ↓XV, ↓YS, ↓YT, ↓Zl, ↓YU, ↓Yp, ↓XW, ↓YV, ↓YW, ↓YX, ↓Yq, ↓YY, ↓YZ, ↓Y0, ↓Y1, ↓XX, ↓Xn, ↓Xo, ↓Y2, ↓Xp, ↓Xq, ↓Y3, ↓Yr, ↓Xr, ↓XY, ↓Ys, ↓Xd, ↓Xe, ↓Xf, ↓Y4, ↓Y5, ↓Y7, ↓Y8, ↓Y9, ↓Za, ↓Zb, ↓Zc, ↓Yu, ↓Yz, ↓YA, ↓YF, ↓Xi, ↓XM, ↓Xl, ↓Xb, ↓Xc, ↓Xm, ↓Xj, ↓XN, ↓Xk, ↓XO, Zd, Ze, Zf, Zg, Zh, Zi, Yv, Yw, Yx, Yy, Zj, X0, X1, Xg, Xu, X2, X3, YC, YD, XZ, Xs, Xv, Xw, X4, X5, X6, X7, X8, Xh, XA, XB, XC, XD, XE, XF, YE, X9, XH, setAll, Yl, reduceCtorEq, ne_eq, not_false_eq_true, if_true, if_false, Bool.false_eq_true, Option.map_some, decide_eq_true_eq, Bool.not_true, Bool.not_false, true_and])
            refine ⟨szs (ts' ++ [.node b ob pb lb rb]), ?_, ts' ++ [.node b ob pb lb rb], by simp [T.ptr], ?_, rfl, ?_⟩
            · rw [szs_append, szs_one]; simp only [T.ino, List.length_nil]; omega
            · intro t m
              rcases List.mem_append.mp m with m | m
              · exact okt t m
              · rw [List.mem_singleton] at m; subst m; exact okr (by simp)
            · rw [szs_append, szs_one]; simp only [T.ino, List.length_nil] at n1 ⊢; omega
        | node d od pd ld rd =>
          have ed := il.1
          cases r with
          | nil =>
            repeat (first | refine XJ ?_ | simp only [T.ptr, ↓Yt m1, m1, ↓Y6 ed, YB ed, Xg, l3, ↓Yb, ↓XQ, ↓YH, ↓Yd, ↓Ye, ↓Yg, ↓Yh, ↓Yi, ↓YI, ↓YJ, ↓Yj, ↓Yk, ↓XR, ↓XS, ↓YK, ↓Ym, ↓YL, ↓YM, ↓Yn, ↓YN, ↓YO, ↓XU, ↓YQ, ↓Yo, ↓YR, ↓Zk, ↓XV, ↓YS, ↓YT, ↓Zl, ↓YU, ↓Yp, ↓XW, ↓YV, ↓YW, ↓YX, ↓Yq, ↓YY, ↓YZ, ↓Y0, ↓Y1, ↓XX, ↓Xn, ↓Xo, ↓Y2, ↓Xp, ↓Xq, ↓Y3, ↓Yr, ↓Xr, ↓XY, ↓Ys, ↓Xd, ↓Xe, ↓Xf, ↓Y4, ↓Y5, ↓Y7, ↓Y8, ↓Y9, ↓Za, ↓Zb, ↓Zc, ↓Yu, ↓Yz, ↓YA, ↓YF, ↓Xi, ↓XM, ↓Xl, ↓Xb, ↓Xc, ↓Xm, ↓Xj, ↓XN, ↓Xk, ↓XO, Zd, Ze, Zf, Zg, Zh, Zi, Yv, Yw, Yx, Yy, Zj, X0, X1, Xg, Xu, X2, X3, YC, YD, XZ, Xs, Xv, Xw, X4, X5, X6, X7, X8, Xh, XA, XB, XC, XD, XE, XF, YE, X9, XH, setAll, Yl, reduceCtorEq, ne_eq, not_false_eq_true, if_true, if_false, Bool.false_eq_true, Option.map_some, decide_eq_true_eq, Bool.not_true, Bool.not_false, true_and])
            refine ⟨szs (ts' ++ [.node d od pd ld rd]), ?_, ts' ++ [.node d od pd ld rd], by simp [T.ptr], ?_, rfl, ?_⟩
            · rw [szs_append, szs_one]; simp only [T.ino, List.length_nil]; omega
            · intro t m
              rcases List.mem_append.mp m with m | m
              · exact okt t m
              · rw [List.mem_singleton] at m; subst m; exact okl (by simp)
            · rw [szs_append, szs_one]; simp only [T.ino, List.length_nil] at n1 ⊢; omega
          | node b ob pb lb rb =>
            have H2 := HF (.lst (List.map T.ptr ts' ++ [.ref d]))
            rw [eW] at H2
            have eb := H2.split.2.1.2.2.1
            repeat (first | refine XJ ?_ | simp only [T.ptr, ↓Yt m1, m1, ↓Y6 ed, YB ed, ↓Y6 eb, YB eb, Xg, l3, l4, List.length_append, List.length_cons, List.length_nil, ↓Yb, ↓XQ, ↓YH, ↓Yd, ↓Ye, ↓Yg, ↓Yh, ↓Yi, ↓YI, ↓YJ, ↓Yj, ↓Yk, ↓XR, ↓XS, ↓YK, ↓Ym, ↓YL, ↓YM, ↓Yn, ↓YN, ↓YO, ↓XU, ↓YQ, ↓Yo, ↓YR, ↓Zk, ↓XV, ↓YS, ↓YT, ↓Zl, ↓YU, ↓Yp, ↓XW, ↓YV, ↓YW, ↓YX, ↓Yq, ↓YY, ↓YZ, ↓Y0, ↓Y1, ↓XX, ↓Xn, ↓Xo, ↓Y2, ↓Xp, ↓Xq, ↓Y3, ↓Yr, ↓Xr, ↓XY, ↓Ys, ↓Xd, ↓Xe, ↓Xf, ↓Y4, ↓Y5, ↓Y7, ↓Y8, ↓Y9, ↓Za, ↓Zb, ↓Zc, ↓Yu, ↓Yz, ↓YA, ↓YF, ↓Xi, ↓XM, ↓Xl, ↓Xb, ↓Xc, ↓Xm, ↓Xj, ↓XN, ↓Xk, ↓XO, Zd, Ze, Zf, Zg, Zh, Zi, Yv, Yw, Yx, Yy, Zj, X0, X1, Xg, Xu, X2, X3, YC, YD, XZ, Xs, Xv, Xw, X4, X5, X6, X7, X8, Xh, XA, XB, XC, XD, XE, XF, YE, X9, XH, setAll, Yl, reduceCtorEq, ne_eq, not_false_eq_true, if_true, if_false, Bool.false_eq_true, Option.map_some, decide_eq_true_eq, Bool.not_true, Bool.not_false, true_and])
            refine ⟨szs (ts' ++ [.node d od pd ld rd, .node b ob pb lb rb]), ?_, ts' ++ [.node d od pd ld rd, .node b ob pb lb rb], by simp [T.ptr], ?_, rfl, ?_⟩
            · rw [szs_append]; simp only [szs, List.map_cons, List.map_nil, List.sum_cons, List.sum_nil]; omega
            · intro t m
              rcases List.mem_append.mp m with m | m
              · exact okt t m
              · simp only [List.mem_cons, List.not_mem_nil, or_false] at m
                rcases m with rfl | rfl
                · exact okl (by simp)
                · exact okr (by simp)
            · rw [szs_append]; simp only [szs, List.map_cons, List.map_nil, List.sum_cons, List.sum_nil] at n1 ⊢; omega
end
end Mine

namespace Mine
/-- the bodies of the for-loops, by name -/
noncomputable def l_law_parted_1 : MS := (.scons (.ife (.chain .lt .lt (.loc .begin) (.loc .at) (.bin .add (.loc .begin) (.loc .many))) (.scons (.asg .found (.catM (.loc .found) (.fls (.acons (.tup (.acons (.bin .sub (.loc .at) (.loc .begin)) (.acons (.loc .plist) .anil))) (.acons (.tup (.acons (.bin .sub (.bin .add (.loc .begin) (.loc .many)) (.loc .at)) (.acons (.loc .plist) .anil))) .anil))))) .snil) (.scons (.expr (.append (.loc .found) (.tup (.acons (.loc .many) (.acons (.loc .plist) .anil))))) .snil)) (.scons (.asg .begin (.bin .add (.loc .begin) (.loc .many))) .snil))
noncomputable def a_law_parted : MS := (.scons (.asgN [.found, .begin] (.acons (.mls .anil) (.acons (.int 0) .anil))) (.scons (.forT [.many, .plist] (.loc .cases) l_law_parted_1) (.scons (.frz .found) (.scons (.ret (.loc .found)) .snil))))
theorem a_law_parted_eq : b_law_parted = a_law_parted := rfl
noncomputable def l_law_is_as_1 : MS := (.scons (.expr (.append (.loc .due) (.tup (.acons (.loc .begin) (.acons (.bin .add (.loc .begin) (.loc .many)) (.acons (.loc .plist) .anil)))))) (.scons (.asg .begin (.bin .add (.loc .begin) (.loc .many))) .snil))
noncomputable def l_law_is_as_2 : MS := (.scons (.asgT [.node, .place] (.call .find_interval (.acons (.loc .tree) (.acons (.loc .at) .anil)))) (.scons (.ife (.or (.eq true (.loc .place) (.loc .start)) (.or (.eq true (.call .own_length (.acons (.loc .node) .anil)) (.bin .sub (.loc .«end») (.loc .start))) (.eq true (.attr (.loc .node) .plist) (.loc .plist)))) (.scons (.ret (.bool false)) .snil) (.snil)) .snil))
noncomputable def l_law_is_as_3 : MS := (.scons (.forR2 .at (.loc .start) (.loc .«end») l_law_is_as_2) .snil)
noncomputable def a_law_is_as : MS := (.scons (.asgN [.due, .begin] (.acons (.mls .anil) (.acons (.int 0) .anil))) (.scons (.forT [.many, .plist] (.loc .cases) l_law_is_as_1) (.scons (.frz .due) (.scons (.ife (.or (.bin .isnt (.call .tree_error (.acons (.loc .tree) .anil)) .non) (.or (.eq true (.call .interval_rows (.acons (.loc .tree) .anil)) (.loc .due)) (.eq true (.call .text_length (.acons (.loc .tree) .anil)) (.loc .begin)))) (.scons (.ret (.bool false)) .snil) (.snil)) (.scons (.ife (.eq false (.loc .cases) (.fls .anil)) (.scons (.ret (.bin .is (.attr (.loc .tree) .root) .non)) .snil) (.snil)) (.scons (.asgN [.ahead, .behind, .first, .last] (.acons (.mls .anil) (.acons (.mls .anil) (.acons (.call .leftmost (.acons (.attr (.loc .tree) .root) .anil)) (.acons (.call .rightmost (.acons (.attr (.loc .tree) .root) .anil)) .anil))))) (.scons (.whl (.and (.bin .isnt (.loc .first) .non) (.bin .le (.len (.loc .ahead)) (.len (.loc .cases)))) (.scons (.expr (.append (.loc .ahead) (.tup (.acons (.call .own_length (.acons (.loc .first) .anil)) (.acons (.attr (.loc .first) .plist) .anil))))) (.scons (.asg .first (.call .following (.acons (.loc .first) .anil))) .snil))) (.scons (.whl (.and (.bin .isnt (.loc .last) .non) (.bin .le (.len (.loc .behind)) (.len (.loc .cases)))) (.scons (.expr (.append (.loc .behind) (.tup (.acons (.call .own_length (.acons (.loc .last) .anil)) (.acons (.attr (.loc .last) .plist) .anil))))) (.scons (.asg .last (.call .preceding (.acons (.loc .last) .anil))) .snil))) (.scons (.ife (.or (.eq true (.loc .ahead) (.loc .cases)) (.eq true (.loc .behind) (.slRev (.loc .cases)))) (.scons (.ret (.bool false)) .snil) (.snil)) (.scons (.forT [.start, .«end», .plist] (.loc .due) l_law_is_as_3) (.scons (.ret (.bool true)) .snil)))))))))))
theorem a_law_is_as_eq : b_law_is_as = a_law_is_as := rfl
noncomputable def l_law_1 : MS := (.scons (.asg .size (.sum (.compFst (.loc .cases)))) (.scons (.asgN [.way, .at] (.acons (.call .law_dip (.acons (.loc .pot) (.acons (.int 4) .anil))) (.acons (.call .law_dip (.acons (.loc .pot) (.acons (.bin .add (.loc .size) (.int 1)) .anil))) .anil))) (.scons (.ife (.bin .lt (.loc .way) (.int 2)) (.scons (.asgN [.many, .plist] (.acons (.call .law_dip (.acons (.loc .pot) (.acons (.int 4) .anil))) (.acons (.fls (.acons (.tup (.acons (.bin .add (.int 1) (.call .law_dip (.acons (.loc .pot) (.acons (.int 3) .anil)))) (.acons (.int 5) .anil))) .anil)) .anil))) (.scons (.expr (.call .insert_interval (.acons (.loc .tree) (.acons (.loc .at) (.acons (.loc .many) (.acons (.loc .plist) .anil)))))) (.scons (.asg .cases (.call .law_came (.acons (.loc .cases) (.acons (.loc .at) (.acons (.loc .many) (.acons (.loc .plist) .anil)))))) .snil))) (.scons (.ife (.eq false (.loc .way) (.int 2)) (.scons (.asg .«end» (.bin .add (.loc .at) (.call .law_dip (.acons (.loc .pot) (.acons (.bin .sub (.bin .add (.loc .size) (.int 1)) (.loc .at)) .anil))))) (.scons (.expr (.call .delete_range (.acons (.loc .tree) (.acons (.loc .at) (.acons (.loc .«end») .anil))))) (.scons (.asg .cases (.call .law_gone (.acons (.loc .cases) (.acons (.loc .at) (.acons (.loc .«end») .anil))))) .snil))) (.scons (.expr (.call .split_at (.acons (.loc .tree) (.acons (.loc .at) .anil)))) (.scons (.asg .cases (.call .law_parted (.acons (.loc .cases) (.acons (.loc .at) .anil)))) .snil))) .snil)) (.scons (.ife (.not (.call .law_is_as (.acons (.loc .tree) (.acons (.loc .cases) .anil)))) (.scons (.ret (.bool false)) .snil) (.snil)) .snil))))
noncomputable def a_law : MS := (.scons (.asg .pot (.call .law_pot (.acons (.loc .script) .anil))) (.scons (.asg .many (.call .law_dip (.acons (.loc .pot) (.acons (.int 4) .anil)))) (.scons (.asgN [.tree, .cases] (.acons (.new .IntervalTree (.acons (.loc .many) (.acons (.fls .anil) .anil))) (.acons (.ife (.bin .gt (.loc .many) (.int 0)) (.fls (.acons (.tup (.acons (.loc .many) (.acons (.fls .anil) .anil))) .anil)) (.fls .anil)) .anil))) (.scons (.forR1 .each_turn (.bin .add (.int 4) (.call .law_dip (.acons (.loc .pot) (.acons (.int 6) .anil)))) l_law_1) (.scons (.ret (.bool true)) .snil)))))
theorem a_law_eq : b_law = a_law := rfl
end Mine

namespace Mine
noncomputable def isLaw : Fn → Bool
  | .law_pot => true | .law_dip => true | .law_parted => true | .law_index => true | .law_came => true | .law_gone => true | .law_is_as => true | .law => true | _ => false
noncomputable def LawC (Γ : Ctr) : Prop := ∀ f, isLaw f = true → ∀ args Q h, wpB Γ (params f) (body f) args Q h → Γ f args Q h
noncomputable def rowV (x : Int × V) : V := .tup [.int x.1, x.2]
noncomputable def rowsV (rs : List (Int × V)) : List V := rs.map rowV
theorem rowsV_append {xs ys : List (Int × V)} : rowsV (xs ++ ys) = rowsV xs ++ rowsV ys := by simp [rowsV]
theorem rowsV_len {xs : List (Int × V)} : (rowsV xs).length = xs.length := by simp [rowsV]
noncomputable def PotOk (h : Hp) (pot : Nat) : Prop := ∃ (zs : List Int) (i s : Int), h pot = some (.lst [.fl (zs.map V.int), .int i, .int s]) ∧ zs.length ≤ 63 ∧ 0 ≤ i ∧ 0 ≤ s ∧ s ≤ 100000
theorem modInts_map {m : Int} : ∀ zs : List Int, modInts m (zs.map V.int) = some ((zs.map (· % m)).map V.int)
  | [] => rfl
  | z :: zs => by simp [modInts, modInts_map zs]
theorem sumInts_map : ∀ zs : List Int, sumInts (zs.map V.int) = some zs.sum
  | [] => rfl
  | z :: zs => by simp [sumInts, sumInts_map zs]
theorem mod_sum {m : Int} (hm : 0 < m) : ∀ zs : List Int, 0 ≤ (zs.map (· % m)).sum ∧ (zs.map (· % m)).sum ≤ zs.length * (m - 1)
  | [] => by simp
  | z :: zs => by
    have ⟨a, b⟩ := mod_sum hm zs
    have c := Int.emod_nonneg z (show m ≠ 0 by omega)
    have d := Int.emod_lt_of_pos z hm
    simp only [List.map_cons, List.sum_cons, List.length_cons]
    refine ⟨by omega, ?_⟩
    have : ((zs.length + 1 : Nat) : Int) * (m - 1) = zs.length * (m - 1) + (m - 1) := by rw [Int.natCast_add]; simp [Int.add_mul]
    omega
theorem seq_u {h : Hp} {a : Nat} {vs : List V} : seqOf (upd h a (.lst vs)) (.ref a) = some vs := XI Xg
section
variable {Γ : Ctr} (L : LawC Γ)
include L
theorem c_law_pot {zs : List Int} {h : Hp} {Q : V → Hp → Prop} (hz : zs.length ≤ line) (k : ∀ pot h', h pot = none → PotOk h' pot → (∀ x, x ≠ pot → h' x = h x) → Q (.ref pot) h') : Γ .law_pot [.fl (zs.map V.int)] Q h := by
  refine L .law_pot rfl _ _ _ (wpB_i (ps := p_law_pot) (b := b_law_pot) rfl ?_)
  have e : (List.map V.int zs).take 63 = (zs.take 63).map V.int := by rw [List.map_take]
  have l2 : (zs.take 63).length ≤ line := by rw [List.length_take]; unfold line; omega
  repeat (first | refine XJ ?_ | simp only [b_law_pot, p_law_pot, ↓Yb, ↓XQ, ↓YH, ↓Yd, ↓Ye, ↓Yg, ↓Yh, ↓Yi, ↓YI, ↓YJ, ↓Yj, ↓Yk, ↓XR, ↓XS, ↓YK, ↓Ym, ↓YL, ↓YM, ↓Yn, ↓YN, ↓YO, ↓XU, ↓YQ, ↓Yo, ↓YR, ↓Zk, ↓XV, ↓YS, ↓YT, ↓Zl, ↓YU, ↓Yp, ↓XW, ↓YV, ↓YW, ↓YX, ↓Yq, ↓YY, ↓YZ, ↓Y0, ↓Y1, ↓XX, ↓Xn, ↓Xo, ↓Y2, ↓Xp, ↓Xq, ↓Y3, ↓Yr, ↓Xr, ↓XY, ↓Ys, ↓Xd, ↓Xe, ↓Xf, ↓Y4, ↓Y5, ↓Y7, ↓Y8, ↓Y9, ↓Za, ↓Zb, ↓Zc, ↓Yu, ↓Yz, ↓YA, ↓YF, ↓Xi, ↓XM, ↓Xl, ↓Xb, ↓Xc, ↓Xm, ↓Xj, ↓XN, ↓Xk, ↓XO, Zd, Ze, Zf, Zg, Zh, Zi, Yv, Yw, Yx, Yy, Zj, X0, X1, Xg, Xu, X2, X3, YC, YD, XZ, Xs, Xv, Xw, X4, X5, X6, X7, X8, Xh, XA, XB, XC, XD, XE, XF, YE, X9, XH, setAll, Yl, reduceCtorEq, ne_eq, not_false_eq_true, if_true, if_false, Bool.false_eq_true, Option.map_some, decide_eq_true_eq, Bool.not_true, Bool.not_false, e, modInts_map, sumInts_map, List.length_map, show (63 : Int).toNat = 63 from rfl, true_and])
  refine ⟨by omega, hz, l2, by omega, hz, l2, fun pot hp => ⟨_, Sub.refl, k _ _ hp ⟨zs.take 63, 0, _, Xg, by rw [List.length_take]; omega, by omega, ?_, ?_⟩ fun x n => Xa n⟩⟩
  · have := (mod_sum (m := 1009) (by omega) (zs.take 63)).1; omega
  · have := (mod_sum (m := 1009) (by omega) (zs.take 63)).2
    have : (zs.take 63).length ≤ 63 := by rw [List.length_take]; omega
    have : ((zs.take 63).length : Int) * (1009 - 1) ≤ 63 * (1009 - 1) := Int.mul_le_mul_of_nonneg_right (by omega) (by omega)
    omega
theorem c_law_dip {pot : Nat} {m : Int} {h : Hp} {Q : V → Hp → Prop} (hm : 0 < m) (P : PotOk h pot) (k : ∀ r h', 0 ≤ r → r < m → PotOk h' pot → (∀ x, x ≠ pot → h' x = h x) → Q (.int r) h') : Γ .law_dip [.ref pot, .int m] Q h := by
  refine L .law_dip rfl _ _ _ (wpB_i (ps := p_law_dip) (b := b_law_dip) rfl ?_)
  obtain ⟨zs, i, s, e, z1, i0, s0, s1⟩ := P
  have r0 : (0 : Int) ≤ 0 := Int.le_refl 0
  have r1 : (0 : Int) ≤ 1 := by omega
  have r2 : (0 : Int) ≤ 2 := by omega
  have q0 : (0 : Int) ≤ (line : Nat) := by unfold line; omega
  have q1 : (1 : Int) ≤ (line : Nat) := by unfold line; omega
  have q2 : (2 : Int) ≤ (line : Nat) := by unfold line; omega
  have e2 : upd h pot (.lst ([V.fl (zs.map V.int), .int i, .int s].set 1 (.int (i + 1)))) pot = some (.lst [.fl (zs.map V.int), .int (i + 1), .int s]) := Xg
  repeat (first | refine XJ ?_ | simp only [b_law_dip, p_law_dip, ↓Yb, ↓XQ, ↓YH, ↓Yd, ↓Ye, ↓Yg, ↓Yh, ↓Yi, ↓YI, ↓YJ, ↓Yj, ↓Yk, ↓XR, ↓XS, ↓YK, ↓Ym, ↓YL, ↓YM, ↓Yn, ↓YN, ↓YO, ↓XU, ↓YQ, ↓Yo, ↓YR, ↓Zk, ↓XV, ↓YS, ↓YT, ↓Zl, ↓YU, ↓Yp, ↓XW, ↓YV, ↓YW, ↓YX, ↓Yq, ↓YY, ↓YZ, ↓Y0, ↓Y1, ↓XX, ↓Xn, ↓Xo, ↓Y2, ↓Xp, ↓Xq, ↓Y3, ↓Yr, ↓Xr, ↓XY, ↓Ys, ↓Xd, ↓Xe, ↓Xf, ↓Y4, ↓Y5, ↓Y7, ↓Y8, ↓Y9, ↓Za, ↓Zb, ↓Zc, ↓Yu, ↓Yz, ↓YA, ↓YF, ↓Xi, ↓XM, ↓Xl, ↓Xb, ↓Xc, ↓Xm, ↓Xj, ↓XN, ↓Xk, ↓XO, Zd, Ze, Zf, Zg, Zh, Zi, Yv, Yw, Yx, Yy, Zj, X0, X1, Xg, Xu, X2, X3, YC, YD, XZ, Xs, Xv, Xw, X4, X5, X6, X7, X8, Xh, XA, XB, XC, XD, XE, XF, YE, X9, XH, setAll, Yl, reduceCtorEq, ne_eq, not_false_eq_true, if_true, if_false, Bool.false_eq_true, Option.map_some, decide_eq_true_eq, Bool.not_true, Bool.not_false, XI e, e, r0, r1, r2, q0, q1, q2, true_and, show (0 : Int).toNat = 0 from rfl, show (1 : Int).toNat = 1 from rfl, show (2 : Int).toNat = 2 from rfl, List.getElem?_cons_zero, List.getElem?_cons_succ, List.length_cons, List.length_nil])
  refine ⟨by omega, by unfold line; omega, ?_⟩
  repeat (first | refine XJ ?_ | simp only [↓Yb, ↓XQ, ↓YH, ↓Yd, ↓Ye, ↓Yg, ↓Yh, ↓Yi, ↓YI, ↓YJ, ↓Yj, ↓Yk, ↓XR, ↓XS, ↓YK, ↓Ym, ↓YL, ↓YM, ↓Yn, ↓YN, ↓YO, ↓XU, ↓YQ, ↓Yo, ↓YR, ↓Zk, ↓XV, ↓YS, ↓YT, ↓Zl, ↓YU, ↓Yp, ↓XW, ↓YV, ↓YW, ↓YX, ↓Yq, ↓YY, ↓YZ, ↓Y0, ↓Y1, ↓XX, ↓Xn, ↓Xo, ↓Y2, ↓Xp, ↓Xq, ↓Y3, ↓Yr, ↓Xr, ↓XY, ↓Ys, ↓Xd, ↓Xe, ↓Xf, ↓Y4, ↓Y5, ↓Y7, ↓Y8, ↓Y9, ↓Za, ↓Zb, ↓Zc, ↓Yu, ↓Yz, ↓YA, ↓YF, ↓Xi, ↓XM, ↓Xl, ↓Xb, ↓Xc, ↓Xm, ↓Xj, ↓XN, ↓Xk, ↓XO, Zd, Ze, Zf, Zg, Zh, Zi, Yv, Yw, Yx, Yy, Zj, X0, X1, Xg, Xu, X2, X3, YC, YD, XZ, Xs, Xv, Xw, X4, X5, X6, X7, X8, Xh, XA, XB, XC, XD, XE, XF, YE, X9, XH, setAll, Yl, reduceCtorEq, ne_eq, not_false_eq_true, if_true, if_false, Bool.false_eq_true, Option.map_some, decide_eq_true_eq, Bool.not_true, Bool.not_false, XI e2, r0, q0, true_and, show (0 : Int).toNat = 0 from rfl, List.getElem?_cons_zero, List.length_map])
  refine ⟨by unfold line; omega, ?_⟩
  split
  · rename_i hi
    repeat (first | refine XJ ?_ | simp only [↓Yb, ↓XQ, ↓YH, ↓Yd, ↓Ye, ↓Yg, ↓Yh, ↓Yi, ↓YI, ↓YJ, ↓Yj, ↓Yk, ↓XR, ↓XS, ↓YK, ↓Ym, ↓YL, ↓YM, ↓Yn, ↓YN, ↓YO, ↓XU, ↓YQ, ↓Yo, ↓YR, ↓Zk, ↓XV, ↓YS, ↓YT, ↓Zl, ↓YU, ↓Yp, ↓XW, ↓YV, ↓YW, ↓YX, ↓Yq, ↓YY, ↓YZ, ↓Y0, ↓Y1, ↓XX, ↓Xn, ↓Xo, ↓Y2, ↓Xp, ↓Xq, ↓Y3, ↓Yr, ↓Xr, ↓XY, ↓Ys, ↓Xd, ↓Xe, ↓Xf, ↓Y4, ↓Y5, ↓Y7, ↓Y8, ↓Y9, ↓Za, ↓Zb, ↓Zc, ↓Yu, ↓Yz, ↓YA, ↓YF, ↓Xi, ↓XM, ↓Xl, ↓Xb, ↓Xc, ↓Xm, ↓Xj, ↓XN, ↓Xk, ↓XO, Zd, Ze, Zf, Zg, Zh, Zi, Yv, Yw, Yx, Yy, Zj, X0, X1, Xg, Xu, X2, X3, YC, YD, XZ, Xs, Xv, Xw, X4, X5, X6, X7, X8, Xh, XA, XB, XC, XD, XE, XF, YE, X9, XH, setAll, Yl, reduceCtorEq, ne_eq, not_false_eq_true, if_true, if_false, Bool.false_eq_true, Option.map_some, decide_eq_true_eq, Bool.not_true, Bool.not_false, XI e2, r0, q0, true_and, show (0 : Int).toNat = 0 from rfl, List.getElem?_cons_zero, List.length_map])
    refine ⟨i0, by unfold line; omega, ?_⟩
    have hz : (zs.map V.int)[i.toNat]? = some (.int (zs[i.toNat]'(by omega))) := by simp
    repeat (first | refine XJ ?_ | simp only [hz, Xx hm, ↓Yb, ↓XQ, ↓YH, ↓Yd, ↓Ye, ↓Yg, ↓Yh, ↓Yi, ↓YI, ↓YJ, ↓Yj, ↓Yk, ↓XR, ↓XS, ↓YK, ↓Ym, ↓YL, ↓YM, ↓Yn, ↓YN, ↓YO, ↓XU, ↓YQ, ↓Yo, ↓YR, ↓Zk, ↓XV, ↓YS, ↓YT, ↓Zl, ↓YU, ↓Yp, ↓XW, ↓YV, ↓YW, ↓YX, ↓Yq, ↓YY, ↓YZ, ↓Y0, ↓Y1, ↓XX, ↓Xn, ↓Xo, ↓Y2, ↓Xp, ↓Xq, ↓Y3, ↓Yr, ↓Xr, ↓XY, ↓Ys, ↓Xd, ↓Xe, ↓Xf, ↓Y4, ↓Y5, ↓Y7, ↓Y8, ↓Y9, ↓Za, ↓Zb, ↓Zc, ↓Yu, ↓Yz, ↓YA, ↓YF, ↓Xi, ↓XM, ↓Xl, ↓Xb, ↓Xc, ↓Xm, ↓Xj, ↓XN, ↓Xk, ↓XO, Zd, Ze, Zf, Zg, Zh, Zi, Yv, Yw, Yx, Yy, Zj, X0, X1, Xg, Xu, X2, X3, YC, YD, XZ, Xs, Xv, Xw, X4, X5, X6, X7, X8, Xh, XA, XB, XC, XD, XE, XF, YE, X9, XH, setAll, Yl, reduceCtorEq, ne_eq, not_false_eq_true, if_true, if_false, Bool.false_eq_true, Option.map_some, decide_eq_true_eq, Bool.not_true, Bool.not_false])
    refine ⟨_, Sub.refl, k _ _ (Int.emod_nonneg _ (by omega)) (Int.emod_lt_of_pos _ hm) ⟨zs, i + 1, s, e2, z1, by omega, s0, s1⟩ fun x n => Xa n⟩
  · have b1 : ∀ hh : Hp, binop hh .mul (.int s) (.int 75) = some (.int (s * 75)) := fun hh => by
      have : smallInt s = true := by unfold smallInt; simp; omega
      have : smallInt 75 = true := by decide
      exact Xz (by assumption) (by assumption)
    have b2 : ∀ hh : Hp, binop hh .mod (.int (s * 75 + 74)) (.int 65537) = some (.int ((s * 75 + 74) % 65537)) := fun hh => Xx (by omega)
    repeat (first | refine XJ ?_ | simp only [↓Yb, ↓XQ, ↓YH, ↓Yd, ↓Ye, ↓Yg, ↓Yh, ↓Yi, ↓YI, ↓YJ, ↓Yj, ↓Yk, ↓XR, ↓XS, ↓YK, ↓Ym, ↓YL, ↓YM, ↓Yn, ↓YN, ↓YO, ↓XU, ↓YQ, ↓Yo, ↓YR, ↓Zk, ↓XV, ↓YS, ↓YT, ↓Zl, ↓YU, ↓Yp, ↓XW, ↓YV, ↓YW, ↓YX, ↓Yq, ↓YY, ↓YZ, ↓Y0, ↓Y1, ↓XX, ↓Xn, ↓Xo, ↓Y2, ↓Xp, ↓Xq, ↓Y3, ↓Yr, ↓Xr, ↓XY, ↓Ys, ↓Xd, ↓Xe, ↓Xf, ↓Y4, ↓Y5, ↓Y7, ↓Y8, ↓Y9, ↓Za, ↓Zb, ↓Zc, ↓Yu, ↓Yz, ↓YA, ↓YF, ↓Xi, ↓XM, ↓Xl, ↓Xb, ↓Xc, ↓Xm, ↓Xj, ↓XN, ↓Xk, ↓XO, Zd, Ze, Zf, Zg, Zh, Zi, Yv, Yw, Yx, Yy, Zj, X0, X1, Xg, Xu, X2, X3, YC, YD, XZ, Xs, Xv, Xw, X4, X5, X6, X7, X8, Xh, XA, XB, XC, XD, XE, XF, YE, X9, XH, setAll, Yl, reduceCtorEq, ne_eq, not_false_eq_true, if_true, if_false, Bool.false_eq_true, Option.map_some, decide_eq_true_eq, Bool.not_true, Bool.not_false, seq_u, r2, q2, true_and, show (2 : Int).toNat = 2 from rfl, List.getElem?_cons_succ, List.getElem?_cons_zero, b1, b2, List.set_cons_succ, List.set_cons_zero, List.length_cons, List.length_nil, Xx hm])
    refine ⟨by omega, by unfold line; omega, ?_⟩
    repeat (first | refine XJ ?_ | simp only [↓Yb, ↓XQ, ↓YH, ↓Yd, ↓Ye, ↓Yg, ↓Yh, ↓Yi, ↓YI, ↓YJ, ↓Yj, ↓Yk, ↓XR, ↓XS, ↓YK, ↓Ym, ↓YL, ↓YM, ↓Yn, ↓YN, ↓YO, ↓XU, ↓YQ, ↓Yo, ↓YR, ↓Zk, ↓XV, ↓YS, ↓YT, ↓Zl, ↓YU, ↓Yp, ↓XW, ↓YV, ↓YW, ↓YX, ↓Yq, ↓YY, ↓YZ, ↓Y0, ↓Y1, ↓XX, ↓Xn, ↓Xo, ↓Y2, ↓Xp, ↓Xq, ↓Y3, ↓Yr, ↓Xr, ↓XY, ↓Ys, ↓Xd, ↓Xe, ↓Xf, ↓Y4, ↓Y5, ↓Y7, ↓Y8, ↓Y9, ↓Za, ↓Zb, ↓Zc, ↓Yu, ↓Yz, ↓YA, ↓YF, ↓Xi, ↓XM, ↓Xl, ↓Xb, ↓Xc, ↓Xm, ↓Xj, ↓XN, ↓Xk, ↓XO, Zd, Ze, Zf, Zg, Zh, Zi, Yv, Yw, Yx, Yy, Zj, X0, X1, Xg, Xu, X2, X3, YC, YD, XZ, Xs, Xv, Xw, X4, X5, X6, X7, X8, Xh, XA, XB, XC, XD, XE, XF, YE, X9, XH, setAll, Yl, reduceCtorEq, ne_eq, not_false_eq_true, if_true, if_false, Bool.false_eq_true, Option.map_some, decide_eq_true_eq, Bool.not_true, Bool.not_false, seq_u, r2, q2, true_and, show (2 : Int).toNat = 2 from rfl, List.getElem?_cons_succ, List.getElem?_cons_zero, b1, b2, List.set_cons_succ, List.set_cons_zero, List.length_cons, List.length_nil, Xx hm])
    exact ⟨_, Sub.refl, k _ _ (Int.emod_nonneg _ (by omega)) (Int.emod_lt_of_pos _ hm) ⟨zs, i + 1, _, Xg, z1, by omega, Int.emod_nonneg _ (by omega), by have := Int.emod_lt_of_pos (s * 75 + 74) (show (0 : Int) < 65537 by omega); omega⟩ fun x n => Xa n⟩

theorem c_law_parted {rs : List (Int × V)} {i : Int} {h : Hp} {Q : V → Hp → Prop} (sz : rs.length ≤ 1000) (k : Q (.fl (rowsV (partR 0 i rs))) h) : Γ .law_parted [.fl (rowsV rs), .int i] Q h := by
  refine L .law_parted rfl _ _ _ (wpB_i (ps := p_law_parted) (b := a_law_parted) rfl ?_)
  have loop : ∀ (rs ds : List (Int × V)) (b : Int) (post : Post) (m : Loc) (h1 : Hp) (f : Nat), ds.length + 2 * rs.length ≤ 2000 → m .found = some (.ref f) → m .begin = some (.int b) → m .at = some (.int i) → h1 f = some (.lst (rowsV ds)) → h f = none → (∀ a o, h a = some o → h1 a = some o) →
      (∀ m' h' f, m' .found = some (.ref f) → h' f = some (.lst (rowsV (ds ++ partR b i rs))) → h f = none → (∀ a o, h a = some o → h' a = some o) → post .next m' h') →
      forS Γ l_law_parted_1 (fun v m => setT [.many, .plist] v m) (rowsV rs) post m h1 := by
    intro rs
    induction rs with
    | nil =>
      intro ds b post m h1 f sz m1 m2 m3 e hf hk kk
      show forS _ _ _ [] _ _ _
      rw [Xl]
      exact kk m h1 f m1 (by simpa [partR] using e) hf hk
    | cons x rs ih =>
      obtain ⟨o, p⟩ := x
      intro ds b post m h1 f sz m1 m2 m3 e hf hk kk
      simp only [List.length_cons] at sz
      show forS _ _ _ (rowV (o, p) :: rowsV rs) post m h1
      rw [Xb]
      simp only [rowV, Yl, setAll, Yz]
      have c1 : ∀ (hh : Hp) (f' : Nat) (ds' : List (Int × V)), hh f' = some (.lst (rowsV ds')) → h f' = none → (∀ a o, h a = some o → hh a = some o) → ds'.length + 2 * rs.length ≤ 2000 → ds' ++ partR (b + o) i rs = ds ++ partR b i ((o, p) :: rs) → ∀ m', m' .found = some (.ref f') → m' .begin = some (.int (b + o)) → m' .at = some (.int i) →
          forS Γ l_law_parted_1 (fun v m => setT [.many, .plist] v m) (rowsV rs) post m' hh := fun hh f' ds' e1 e2 e3 e4 e5 m' q1 q2 q3 =>
        ih ds' (b + o) post m' hh f' e4 q1 q2 q3 e1 e2 e3 fun m'' h'' f'' r1 r2 r3 r4 => kk m'' h'' f'' r1 (e5 ▸ r2) r3 r4
      have ll : (rowsV ds).length ≤ line := by rw [rowsV_len]; unfold line; omega
      refine XT l_law_parted_1.eq_1 ?_
      repeat (first | refine XJ ?_ | simp only [↓Yt m1, m1, ↓Yt m2, m2, ↓Yt m3, m3, ↓Yb, ↓XQ, ↓YH, ↓Yd, ↓Ye, ↓Yg, ↓Yh, ↓Yi, ↓YI, ↓YJ, ↓Yj, ↓Yk, ↓XR, ↓XS, ↓YK, ↓Ym, ↓YL, ↓YM, ↓Yn, ↓YN, ↓YO, ↓XU, ↓YQ, ↓Yo, ↓YR, ↓Zk, ↓XV, ↓YS, ↓YT, ↓Zl, ↓YU, ↓Yp, ↓XW, ↓YV, ↓YW, ↓YX, ↓Yq, ↓YY, ↓YZ, ↓Y0, ↓Y1, ↓XX, ↓Xn, ↓Xo, ↓Y2, ↓Xp, ↓Xq, ↓Y3, ↓Yr, ↓Xr, ↓XY, ↓Ys, ↓Xd, ↓Xe, ↓Xf, ↓Y4, ↓Y5, ↓Y7, ↓Y8, ↓Y9, ↓Za, ↓Zb, ↓Zc, ↓Yu, ↓Yz, ↓YA, ↓YF, ↓Xi, ↓XM, ↓Xl, ↓Xb, ↓Xc, ↓Xm, ↓Xj, ↓XN, ↓Xk, ↓XO, Zd, Ze, Zf, Zg, Zh, Zi, Yv, Yw, Yx, Yy, Zj, X0, X1, Xg, Xu, X2, X3, YC, YD, XZ, Xs, Xv, Xw, X4, X5, X6, X7, X8, Xh, XA, XB, XC, XD, XE, XF, YE, X9, XH, setAll, Yl, reduceCtorEq, ne_eq, not_false_eq_true, if_true, if_false, Bool.false_eq_true, Option.map_some, decide_eq_true_eq, Bool.not_true, Bool.not_false])
      by_cases b1 : b < i
      · repeat (first | refine XJ ?_ | simp only [b1, decide_true, ↓Yb, ↓XQ, ↓YH, ↓Yd, ↓Ye, ↓Yg, ↓Yh, ↓Yi, ↓YI, ↓YJ, ↓Yj, ↓Yk, ↓XR, ↓XS, ↓YK, ↓Ym, ↓YL, ↓YM, ↓Yn, ↓YN, ↓YO, ↓XU, ↓YQ, ↓Yo, ↓YR, ↓Zk, ↓XV, ↓YS, ↓YT, ↓Zl, ↓YU, ↓Yp, ↓XW, ↓YV, ↓YW, ↓YX, ↓Yq, ↓YY, ↓YZ, ↓Y0, ↓Y1, ↓XX, ↓Xn, ↓Xo, ↓Y2, ↓Xp, ↓Xq, ↓Y3, ↓Yr, ↓Xr, ↓XY, ↓Ys, ↓Xd, ↓Xe, ↓Xf, ↓Y4, ↓Y5, ↓Y7, ↓Y8, ↓Y9, ↓Za, ↓Zb, ↓Zc, ↓Yu, ↓Yz, ↓YA, ↓YF, ↓Xi, ↓XM, ↓Xl, ↓Xb, ↓Xc, ↓Xm, ↓Xj, ↓XN, ↓Xk, ↓XO, Zd, Ze, Zf, Zg, Zh, Zi, Yv, Yw, Yx, Yy, Zj, X0, X1, Xg, Xu, X2, X3, YC, YD, XZ, Xs, Xv, Xw, X4, X5, X6, X7, X8, Xh, XA, XB, XC, XD, XE, XF, YE, X9, XH, setAll, Yl, reduceCtorEq, ne_eq, not_false_eq_true, if_true, if_false, Bool.false_eq_true, Option.map_some, decide_eq_true_eq, Bool.not_true, Bool.not_false, ↓Yt m1, m1, ↓Yt m2, m2, ↓Yt m3, m3])
        by_cases b2 : i < b + o
        · repeat (first | refine XJ ?_ | simp only [b2, decide_true, ↓Yb, ↓XQ, ↓YH, ↓Yd, ↓Ye, ↓Yg, ↓Yh, ↓Yi, ↓YI, ↓YJ, ↓Yj, ↓Yk, ↓XR, ↓XS, ↓YK, ↓Ym, ↓YL, ↓YM, ↓Yn, ↓YN, ↓YO, ↓XU, ↓YQ, ↓Yo, ↓YR, ↓Zk, ↓XV, ↓YS, ↓YT, ↓Zl, ↓YU, ↓Yp, ↓XW, ↓YV, ↓YW, ↓YX, ↓Yq, ↓YY, ↓YZ, ↓Y0, ↓Y1, ↓XX, ↓Xn, ↓Xo, ↓Y2, ↓Xp, ↓Xq, ↓Y3, ↓Yr, ↓Xr, ↓XY, ↓Ys, ↓Xd, ↓Xe, ↓Xf, ↓Y4, ↓Y5, ↓Y7, ↓Y8, ↓Y9, ↓Za, ↓Zb, ↓Zc, ↓Yu, ↓Yz, ↓YA, ↓YF, ↓Xi, ↓XM, ↓Xl, ↓Xb, ↓Xc, ↓Xm, ↓Xj, ↓XN, ↓Xk, ↓XO, Zd, Ze, Zf, Zg, Zh, Zi, Yv, Yw, Yx, Yy, Zj, X0, X1, Xg, Xu, X2, X3, YC, YD, XZ, Xs, Xv, Xw, X4, X5, X6, X7, X8, Xh, XA, XB, XC, XD, XE, XF, YE, X9, XH, setAll, Yl, reduceCtorEq, ne_eq, not_false_eq_true, if_true, if_false, Bool.false_eq_true, Option.map_some, decide_eq_true_eq, Bool.not_true, Bool.not_false, ↓Yt m1, m1, ↓Yt m2, m2, ↓Yt m3, m3, e])
          refine ⟨by rw [rowsV_len]; simp only [List.length_cons, List.length_nil]; unfold line; omega, fun g hg => ?_⟩
          have gf : g ≠ f := fun z => by rw [z, e] at hg; cases hg
          repeat (first | refine XJ ?_ | simp only [↓Yt m1, m1, ↓Yt m2, m2, ↓Yt m3, m3, ↓Yb, ↓XQ, ↓YH, ↓Yd, ↓Ye, ↓Yg, ↓Yh, ↓Yi, ↓YI, ↓YJ, ↓Yj, ↓Yk, ↓XR, ↓XS, ↓YK, ↓Ym, ↓YL, ↓YM, ↓Yn, ↓YN, ↓YO, ↓XU, ↓YQ, ↓Yo, ↓YR, ↓Zk, ↓XV, ↓YS, ↓YT, ↓Zl, ↓YU, ↓Yp, ↓XW, ↓YV, ↓YW, ↓YX, ↓Yq, ↓YY, ↓YZ, ↓Y0, ↓Y1, ↓XX, ↓Xn, ↓Xo, ↓Y2, ↓Xp, ↓Xq, ↓Y3, ↓Yr, ↓Xr, ↓XY, ↓Ys, ↓Xd, ↓Xe, ↓Xf, ↓Y4, ↓Y5, ↓Y7, ↓Y8, ↓Y9, ↓Za, ↓Zb, ↓Zc, ↓Yu, ↓Yz, ↓YA, ↓YF, ↓Xi, ↓XM, ↓Xl, ↓Xb, ↓Xc, ↓Xm, ↓Xj, ↓XN, ↓Xk, ↓XO, Zd, Ze, Zf, Zg, Zh, Zi, Yv, Yw, Yx, Yy, Zj, X0, X1, Xg, Xu, X2, X3, YC, YD, XZ, Xs, Xv, Xw, X4, X5, X6, X7, X8, Xh, XA, XB, XC, XD, XE, XF, YE, X9, XH, setAll, Yl, reduceCtorEq, ne_eq, not_false_eq_true, if_true, if_false, Bool.false_eq_true, Option.map_some, decide_eq_true_eq, Bool.not_true, Bool.not_false])
          refine c1 _ g (ds ++ [(i - b, p), (b + o - i, p)]) (by rw [Xg, rowsV_append]; rfl) ?_ ?_ ?_ ?_ _ rfl rfl (by simp [setL, m3])
          · cases q : h g with
            | none => rfl
            | some ob => rw [hk g ob q] at hg; cases hg
          · intro a ob q; exact (Xa fun z => by rw [z] at q; rw [hk g ob q] at hg; cases hg).trans (hk a ob q)
          · simp only [List.length_append, List.length_cons, List.length_nil]; omega
          · rw [partR, if_pos ⟨b1, b2⟩]; simp
        · repeat (first | refine XJ ?_ | simp only [b2, decide_false, ↓Yb, ↓XQ, ↓YH, ↓Yd, ↓Ye, ↓Yg, ↓Yh, ↓Yi, ↓YI, ↓YJ, ↓Yj, ↓Yk, ↓XR, ↓XS, ↓YK, ↓Ym, ↓YL, ↓YM, ↓Yn, ↓YN, ↓YO, ↓XU, ↓YQ, ↓Yo, ↓YR, ↓Zk, ↓XV, ↓YS, ↓YT, ↓Zl, ↓YU, ↓Yp, ↓XW, ↓YV, ↓YW, ↓YX, ↓Yq, ↓YY, ↓YZ, ↓Y0, ↓Y1, ↓XX, ↓Xn, ↓Xo, ↓Y2, ↓Xp, ↓Xq, ↓Y3, ↓Yr, ↓Xr, ↓XY, ↓Ys, ↓Xd, ↓Xe, ↓Xf, ↓Y4, ↓Y5, ↓Y7, ↓Y8, ↓Y9, ↓Za, ↓Zb, ↓Zc, ↓Yu, ↓Yz, ↓YA, ↓YF, ↓Xi, ↓XM, ↓Xl, ↓Xb, ↓Xc, ↓Xm, ↓Xj, ↓XN, ↓Xk, ↓XO, Zd, Ze, Zf, Zg, Zh, Zi, Yv, Yw, Yx, Yy, Zj, X0, X1, Xg, Xu, X2, X3, YC, YD, XZ, Xs, Xv, Xw, X4, X5, X6, X7, X8, Xh, XA, XB, XC, XD, XE, XF, YE, X9, XH, setAll, Yl, reduceCtorEq, ne_eq, not_false_eq_true, if_true, if_false, Bool.false_eq_true, Option.map_some, decide_eq_true_eq, Bool.not_true, Bool.not_false, ↓Yt m1, m1, ↓Yt m2, m2, ↓Yt m3, m3, e])
          refine ⟨ll, ?_⟩
          repeat (first | refine XJ ?_ | simp only [↓Yt m1, m1, ↓Yt m2, m2, ↓Yt m3, m3, ↓Yb, ↓XQ, ↓YH, ↓Yd, ↓Ye, ↓Yg, ↓Yh, ↓Yi, ↓YI, ↓YJ, ↓Yj, ↓Yk, ↓XR, ↓XS, ↓YK, ↓Ym, ↓YL, ↓YM, ↓Yn, ↓YN, ↓YO, ↓XU, ↓YQ, ↓Yo, ↓YR, ↓Zk, ↓XV, ↓YS, ↓YT, ↓Zl, ↓YU, ↓Yp, ↓XW, ↓YV, ↓YW, ↓YX, ↓Yq, ↓YY, ↓YZ, ↓Y0, ↓Y1, ↓XX, ↓Xn, ↓Xo, ↓Y2, ↓Xp, ↓Xq, ↓Y3, ↓Yr, ↓Xr, ↓XY, ↓Ys, ↓Xd, ↓Xe, ↓Xf, ↓Y4, ↓Y5, ↓Y7, ↓Y8, ↓Y9, ↓Za, ↓Zb, ↓Zc, ↓Yu, ↓Yz, ↓YA, ↓YF, ↓Xi, ↓XM, ↓Xl, ↓Xb, ↓Xc, ↓Xm, ↓Xj, ↓XN, ↓Xk, ↓XO, Zd, Ze, Zf, Zg, Zh, Zi, Yv, Yw, Yx, Yy, Zj, X0, X1, Xg, Xu, X2, X3, YC, YD, XZ, Xs, Xv, Xw, X4, X5, X6, X7, X8, Xh, XA, XB, XC, XD, XE, XF, YE, X9, XH, setAll, Yl, reduceCtorEq, ne_eq, not_false_eq_true, if_true, if_false, Bool.false_eq_true, Option.map_some, decide_eq_true_eq, Bool.not_true, Bool.not_false])
          refine c1 _ f (ds ++ [(o, p)]) (by rw [Xg, rowsV_append]; rfl) hf ?_ ?_ ?_ _ (by simp [setL, m1]) rfl (by simp [setL, m3])
          · intro a ob q; exact (Xa fun z => by rw [z, hf] at q; cases q).trans (hk a ob q)
          · simp only [List.length_append, List.length_cons, List.length_nil]; omega
          · rw [partR, if_neg (by omega)]; simp
      · repeat (first | refine XJ ?_ | simp only [b1, decide_false, ↓Yb, ↓XQ, ↓YH, ↓Yd, ↓Ye, ↓Yg, ↓Yh, ↓Yi, ↓YI, ↓YJ, ↓Yj, ↓Yk, ↓XR, ↓XS, ↓YK, ↓Ym, ↓YL, ↓YM, ↓Yn, ↓YN, ↓YO, ↓XU, ↓YQ, ↓Yo, ↓YR, ↓Zk, ↓XV, ↓YS, ↓YT, ↓Zl, ↓YU, ↓Yp, ↓XW, ↓YV, ↓YW, ↓YX, ↓Yq, ↓YY, ↓YZ, ↓Y0, ↓Y1, ↓XX, ↓Xn, ↓Xo, ↓Y2, ↓Xp, ↓Xq, ↓Y3, ↓Yr, ↓Xr, ↓XY, ↓Ys, ↓Xd, ↓Xe, ↓Xf, ↓Y4, ↓Y5, ↓Y7, ↓Y8, ↓Y9, ↓Za, ↓Zb, ↓Zc, ↓Yu, ↓Yz, ↓YA, ↓YF, ↓Xi, ↓XM, ↓Xl, ↓Xb, ↓Xc, ↓Xm, ↓Xj, ↓XN, ↓Xk, ↓XO, Zd, Ze, Zf, Zg, Zh, Zi, Yv, Yw, Yx, Yy, Zj, X0, X1, Xg, Xu, X2, X3, YC, YD, XZ, Xs, Xv, Xw, X4, X5, X6, X7, X8, Xh, XA, XB, XC, XD, XE, XF, YE, X9, XH, setAll, Yl, reduceCtorEq, ne_eq, not_false_eq_true, if_true, if_false, Bool.false_eq_true, Option.map_some, decide_eq_true_eq, Bool.not_true, Bool.not_false, ↓Yt m1, m1, ↓Yt m2, m2, ↓Yt m3, m3, e])
        refine ⟨ll, ?_⟩
        repeat (first | refine XJ ?_ | simp only [↓Yt m1, m1, ↓Yt m2, m2, ↓Yt m3, m3, ↓Yb, ↓XQ, ↓YH, ↓Yd, ↓Ye, ↓Yg, ↓Yh, ↓Yi, ↓YI, ↓YJ, ↓Yj, ↓Yk, ↓XR, ↓XS, ↓YK, ↓Ym, ↓YL, ↓YM, ↓Yn, ↓YN, ↓YO, ↓XU, ↓YQ, ↓Yo, ↓YR, ↓Zk, ↓XV, ↓YS, ↓YT, ↓Zl, ↓YU, ↓Yp, ↓XW, ↓YV, ↓YW, ↓YX, ↓Yq, ↓YY, ↓YZ, ↓Y0, ↓Y1, ↓XX, ↓Xn, ↓Xo, ↓Y2, ↓Xp, ↓Xq, ↓Y3, ↓Yr, ↓Xr, ↓XY, ↓Ys, ↓Xd, ↓Xe, ↓Xf, ↓Y4, ↓Y5, ↓Y7, ↓Y8, ↓Y9, ↓Za, ↓Zb, ↓Zc, ↓Yu, ↓Yz, ↓YA, ↓YF, ↓Xi, ↓XM, ↓Xl, ↓Xb, ↓Xc, ↓Xm, ↓Xj, ↓XN, ↓Xk, ↓XO, Zd, Ze, Zf, Zg, Zh, Zi, Yv, Yw, Yx, Yy, Zj, X0, X1, Xg, Xu, X2, X3, YC, YD, XZ, Xs, Xv, Xw, X4, X5, X6, X7, X8, Xh, XA, XB, XC, XD, XE, XF, YE, X9, XH, setAll, Yl, reduceCtorEq, ne_eq, not_false_eq_true, if_true, if_false, Bool.false_eq_true, Option.map_some, decide_eq_true_eq, Bool.not_true, Bool.not_false])
        refine c1 _ f (ds ++ [(o, p)]) (by rw [Xg, rowsV_append]; rfl) hf ?_ ?_ ?_ _ (by simp [setL, m1]) rfl (by simp [setL, m3])
        · intro a ob q; exact (Xa fun z => by rw [z, hf] at q; cases q).trans (hk a ob q)
        · simp only [List.length_append, List.length_cons, List.length_nil]; omega
        · rw [partR, if_neg (by omega)]; simp
  repeat (first | refine XJ ?_ | simp only [a_law_parted, p_law_parted, ↓Yb, ↓XQ, ↓YH, ↓Yd, ↓Ye, ↓Yg, ↓Yh, ↓Yi, ↓YI, ↓YJ, ↓Yj, ↓Yk, ↓XR, ↓XS, ↓YK, ↓Ym, ↓YL, ↓YM, ↓Yn, ↓YN, ↓YO, ↓XU, ↓YQ, ↓Yo, ↓YR, ↓Zk, ↓XV, ↓YS, ↓YT, ↓Zl, ↓YU, ↓Yp, ↓XW, ↓YV, ↓YW, ↓YX, ↓Yq, ↓YY, ↓YZ, ↓Y0, ↓Y1, ↓XX, ↓Xn, ↓Xo, ↓Y2, ↓Xp, ↓Xq, ↓Y3, ↓Yr, ↓Xr, ↓XY, ↓Ys, ↓Xd, ↓Xe, ↓Xf, ↓Y4, ↓Y5, ↓Y7, ↓Y8, ↓Y9, ↓Za, ↓Zb, ↓Zc, ↓Yu, ↓Yz, ↓YA, ↓YF, ↓Xi, ↓XM, ↓Xl, ↓Xb, ↓Xc, ↓Xm, ↓Xj, ↓XN, ↓Xk, ↓XO, Zd, Ze, Zf, Zg, Zh, Zi, Yv, Yw, Yx, Yy, Zj, X0, X1, Xg, Xu, X2, X3, YC, YD, XZ, Xs, Xv, Xw, X4, X5, X6, X7, X8, Xh, XA, XB, XC, XD, XE, XF, YE, X9, XH, setAll, Yl, reduceCtorEq, ne_eq, not_false_eq_true, if_true, if_false, Bool.false_eq_true, Option.map_some, decide_eq_true_eq, Bool.not_true, Bool.not_false])
  intro f hf
  repeat (first | refine XJ ?_ | simp only [↓Yb, ↓XQ, ↓YH, ↓Yd, ↓Ye, ↓Yg, ↓Yh, ↓Yi, ↓YI, ↓YJ, ↓Yj, ↓Yk, ↓XR, ↓XS, ↓YK, ↓Ym, ↓YL, ↓YM, ↓Yn, ↓YN, ↓YO, ↓XU, ↓YQ, ↓Yo, ↓YR, ↓Zk, ↓XV, ↓YS, ↓YT, ↓Zl, ↓YU, ↓Yp, ↓XW, ↓YV, ↓YW, ↓YX, ↓Yq, ↓YY, ↓YZ, ↓Y0, ↓Y1, ↓XX, ↓Xn, ↓Xo, ↓Y2, ↓Xp, ↓Xq, ↓Y3, ↓Yr, ↓Xr, ↓XY, ↓Ys, ↓Xd, ↓Xe, ↓Xf, ↓Y4, ↓Y5, ↓Y7, ↓Y8, ↓Y9, ↓Za, ↓Zb, ↓Zc, ↓Yu, ↓Yz, ↓YA, ↓YF, ↓Xi, ↓XM, ↓Xl, ↓Xb, ↓Xc, ↓Xm, ↓Xj, ↓XN, ↓Xk, ↓XO, Zd, Ze, Zf, Zg, Zh, Zi, Yv, Yw, Yx, Yy, Zj, X0, X1, Xg, Xu, X2, X3, YC, YD, XZ, Xs, Xv, Xw, X4, X5, X6, X7, X8, Xh, XA, XB, XC, XD, XE, XF, YE, X9, XH, setAll, Yl, reduceCtorEq, ne_eq, not_false_eq_true, if_true, if_false, Bool.false_eq_true, Option.map_some, decide_eq_true_eq, Bool.not_true, Bool.not_false])
  refine loop rs [] 0 _ _ _ f (by simp; omega) rfl rfl rfl Xg hf (fun a o e => (Xa fun z => by rw [z, hf] at e; cases e).trans e) fun m' h' f' m1 e hf' hk => ?_
  repeat (first | refine XJ ?_ | simp only [↓Yt m1, m1, e, ↓Yb, ↓XQ, ↓YH, ↓Yd, ↓Ye, ↓Yg, ↓Yh, ↓Yi, ↓YI, ↓YJ, ↓Yj, ↓Yk, ↓XR, ↓XS, ↓YK, ↓Ym, ↓YL, ↓YM, ↓Yn, ↓YN, ↓YO, ↓XU, ↓YQ, ↓Yo, ↓YR, ↓Zk, ↓XV, ↓YS, ↓YT, ↓Zl, ↓YU, ↓Yp, ↓XW, ↓YV, ↓YW, ↓YX, ↓Yq, ↓YY, ↓YZ, ↓Y0, ↓Y1, ↓XX, ↓Xn, ↓Xo, ↓Y2, ↓Xp, ↓Xq, ↓Y3, ↓Yr, ↓Xr, ↓XY, ↓Ys, ↓Xd, ↓Xe, ↓Xf, ↓Y4, ↓Y5, ↓Y7, ↓Y8, ↓Y9, ↓Za, ↓Zb, ↓Zc, ↓Yu, ↓Yz, ↓YA, ↓YF, ↓Xi, ↓XM, ↓Xl, ↓Xb, ↓Xc, ↓Xm, ↓Xj, ↓XN, ↓Xk, ↓XO, Zd, Ze, Zf, Zg, Zh, Zi, Yv, Yw, Yx, Yy, Zj, X0, X1, Xg, Xu, X2, X3, YC, YD, XZ, Xs, Xv, Xw, X4, X5, X6, X7, X8, Xh, XA, XB, XC, XD, XE, XF, YE, X9, XH, setAll, Yl, reduceCtorEq, ne_eq, not_false_eq_true, if_true, if_false, Bool.false_eq_true, Option.map_some, decide_eq_true_eq, Bool.not_true, Bool.not_false])
  refine ⟨h, fun a o q => ?_, by simpa using k⟩
  rw [era, if_neg fun z => by rw [z, hf'] at q; cases q]
  exact hk a o q

theorem c_law_index {us vs : List (Int × V)} {h : Hp} {Q : V → Hp → Prop} (P : PosR (us ++ vs)) (sz : us.length ≤ 2000) (k : Q (.int us.length) h) : Γ .law_index [.fl (rowsV (us ++ vs)), .int (sumR us)] Q h := by
  refine L .law_index rfl _ _ _ (wpB_i (ps := p_law_index) (b := b_law_index) rfl ?_)
  repeat (first | refine XJ ?_ | simp only [b_law_index, p_law_index, ↓Yb, ↓XQ, ↓YH, ↓Yd, ↓Ye, ↓Yg, ↓Yh, ↓Yi, ↓YI, ↓YJ, ↓Yj, ↓Yk, ↓XR, ↓XS, ↓YK, ↓Ym, ↓YL, ↓YM, ↓Yn, ↓YN, ↓YO, ↓XU, ↓YQ, ↓Yo, ↓YR, ↓Zk, ↓XV, ↓YS, ↓YT, ↓Zl, ↓YU, ↓Yp, ↓XW, ↓YV, ↓YW, ↓YX, ↓Yq, ↓YY, ↓YZ, ↓Y0, ↓Y1, ↓XX, ↓Xn, ↓Xo, ↓Y2, ↓Xp, ↓Xq, ↓Y3, ↓Yr, ↓Xr, ↓XY, ↓Ys, ↓Xd, ↓Xe, ↓Xf, ↓Y4, ↓Y5, ↓Y7, ↓Y8, ↓Y9, ↓Za, ↓Zb, ↓Zc, ↓Yu, ↓Yz, ↓YA, ↓YF, ↓Xi, ↓XM, ↓Xl, ↓Xb, ↓Xc, ↓Xm, ↓Xj, ↓XN, ↓Xk, ↓XO, Zd, Ze, Zf, Zg, Zh, Zi, Yv, Yw, Yx, Yy, Zj, X0, X1, Xg, Xu, X2, X3, YC, YD, XZ, Xs, Xv, Xw, X4, X5, X6, X7, X8, Xh, XA, XB, XC, XD, XE, XF, YE, X9, XH, setAll, Yl, reduceCtorEq, ne_eq, not_false_eq_true, if_true, if_false, Bool.false_eq_true, Option.map_some, decide_eq_true_eq, Bool.not_true, Bool.not_false])
  refine ⟨fun n m h' => h' = h ∧ m .cases = some (.fl (rowsV (us ++ vs))) ∧ m .at = some (.int (sumR us)) ∧ ∃ ds es, us = ds ++ es ∧ m .index = some (.int ds.length) ∧ m .begin = some (.int (sumR ds)) ∧ n = es.length, ⟨_, rfl, rfl, rfl, [], us, rfl, rfl, rfl, rfl⟩, ?_⟩
  rintro n m h' ⟨rfl, m1, m2, ds, es, e, m3, m4, rfl⟩
  repeat (first | refine XJ ?_ | simp only [↓Yt m1, m1, ↓Yt m2, m2, ↓Yt m3, m3, ↓Yt m4, m4, ↓Yb, ↓XQ, ↓YH, ↓Yd, ↓Ye, ↓Yg, ↓Yh, ↓Yi, ↓YI, ↓YJ, ↓Yj, ↓Yk, ↓XR, ↓XS, ↓YK, ↓Ym, ↓YL, ↓YM, ↓Yn, ↓YN, ↓YO, ↓XU, ↓YQ, ↓Yo, ↓YR, ↓Zk, ↓XV, ↓YS, ↓YT, ↓Zl, ↓YU, ↓Yp, ↓XW, ↓YV, ↓YW, ↓YX, ↓Yq, ↓YY, ↓YZ, ↓Y0, ↓Y1, ↓XX, ↓Xn, ↓Xo, ↓Y2, ↓Xp, ↓Xq, ↓Y3, ↓Yr, ↓Xr, ↓XY, ↓Ys, ↓Xd, ↓Xe, ↓Xf, ↓Y4, ↓Y5, ↓Y7, ↓Y8, ↓Y9, ↓Za, ↓Zb, ↓Zc, ↓Yu, ↓Yz, ↓YA, ↓YF, ↓Xi, ↓XM, ↓Xl, ↓Xb, ↓Xc, ↓Xm, ↓Xj, ↓XN, ↓Xk, ↓XO, Zd, Ze, Zf, Zg, Zh, Zi, Yv, Yw, Yx, Yy, Zj, X0, X1, Xg, Xu, X2, X3, YC, YD, XZ, Xs, Xv, Xw, X4, X5, X6, X7, X8, Xh, XA, XB, XC, XD, XE, XF, YE, X9, XH, setAll, Yl, reduceCtorEq, ne_eq, not_false_eq_true, if_true, if_false, Bool.false_eq_true, Option.map_some, decide_eq_true_eq, Bool.not_true, Bool.not_false])
  rw [PosR.append] at P
  have Pu := P.1
  rw [e, PosR.append] at Pu
  cases es with
  | nil =>
    have : sumR us = sumR ds := by rw [e]; simp
    rw [if_neg (by omega)]
    repeat (first | refine XJ ?_ | simp only [↓Yt m3, m3, ↓Yb, ↓XQ, ↓YH, ↓Yd, ↓Ye, ↓Yg, ↓Yh, ↓Yi, ↓YI, ↓YJ, ↓Yj, ↓Yk, ↓XR, ↓XS, ↓YK, ↓Ym, ↓YL, ↓YM, ↓Yn, ↓YN, ↓YO, ↓XU, ↓YQ, ↓Yo, ↓YR, ↓Zk, ↓XV, ↓YS, ↓YT, ↓Zl, ↓YU, ↓Yp, ↓XW, ↓YV, ↓YW, ↓YX, ↓Yq, ↓YY, ↓YZ, ↓Y0, ↓Y1, ↓XX, ↓Xn, ↓Xo, ↓Y2, ↓Xp, ↓Xq, ↓Y3, ↓Yr, ↓Xr, ↓XY, ↓Ys, ↓Xd, ↓Xe, ↓Xf, ↓Y4, ↓Y5, ↓Y7, ↓Y8, ↓Y9, ↓Za, ↓Zb, ↓Zc, ↓Yu, ↓Yz, ↓YA, ↓YF, ↓Xi, ↓XM, ↓Xl, ↓Xb, ↓Xc, ↓Xm, ↓Xj, ↓XN, ↓Xk, ↓XO, Zd, Ze, Zf, Zg, Zh, Zi, Yv, Yw, Yx, Yy, Zj, X0, X1, Xg, Xu, X2, X3, YC, YD, XZ, Xs, Xv, Xw, X4, X5, X6, X7, X8, Xh, XA, XB, XC, XD, XE, XF, YE, X9, XH, setAll, Yl, reduceCtorEq, ne_eq, not_false_eq_true, if_true, if_false, Bool.false_eq_true, Option.map_some, decide_eq_true_eq, Bool.not_true, Bool.not_false])
    have : us.length = ds.length := by rw [e]; simp
    rw [this] at k
    repeat (first | refine XJ ?_ | simp only [↓Yb, ↓XQ, ↓YH, ↓Yd, ↓Ye, ↓Yg, ↓Yh, ↓Yi, ↓YI, ↓YJ, ↓Yj, ↓Yk, ↓XR, ↓XS, ↓YK, ↓Ym, ↓YL, ↓YM, ↓Yn, ↓YN, ↓YO, ↓XU, ↓YQ, ↓Yo, ↓YR, ↓Zk, ↓XV, ↓YS, ↓YT, ↓Zl, ↓YU, ↓Yp, ↓XW, ↓YV, ↓YW, ↓YX, ↓Yq, ↓YY, ↓YZ, ↓Y0, ↓Y1, ↓XX, ↓Xn, ↓Xo, ↓Y2, ↓Xp, ↓Xq, ↓Y3, ↓Yr, ↓Xr, ↓XY, ↓Ys, ↓Xd, ↓Xe, ↓Xf, ↓Y4, ↓Y5, ↓Y7, ↓Y8, ↓Y9, ↓Za, ↓Zb, ↓Zc, ↓Yu, ↓Yz, ↓YA, ↓YF, ↓Xi, ↓XM, ↓Xl, ↓Xb, ↓Xc, ↓Xm, ↓Xj, ↓XN, ↓Xk, ↓XO, Zd, Ze, Zf, Zg, Zh, Zi, Yv, Yw, Yx, Yy, Zj, X0, X1, Xg, Xu, X2, X3, YC, YD, XZ, Xs, Xv, Xw, X4, X5, X6, X7, X8, Xh, XA, XB, XC, XD, XE, XF, YE, X9, XH, setAll, Yl, reduceCtorEq, ne_eq, not_false_eq_true, if_true, if_false, Bool.false_eq_true, Option.map_some, decide_eq_true_eq, Bool.not_true, Bool.not_false])
    exact ⟨_, Sub.refl, k⟩
  | cons x es =>
    obtain ⟨o, p⟩ := x
    have hp := Pu.2
    rw [PosR.cons] at hp
    have := hp.2.sum
    have es' : sumR us = sumR ds + (o + sumR es) := by rw [e, sumR_append, sumR_cons]
    rw [if_pos (by omega)]
    have g : (rowsV (us ++ vs))[ds.length]? = some (rowV (o, p)) := by
      rw [e]; simp [rowsV]
    have l1 : us.length = ds.length + (es.length + 1) := by rw [e]; simp
    have l2 : (0 : Int) ≤ (ds.length : Nat) := by omega
    have l3 : ((ds.length : Nat) : Int) ≤ (line : Nat) := by unfold line; omega
    repeat (first | refine XJ ?_ | simp only [↓Yt m1, m1, ↓Yt m2, m2, ↓Yt m3, m3, ↓Yt m4, m4, l2, l3, Int.toNat_natCast, g, rowV, ↓Yb, ↓XQ, ↓YH, ↓Yd, ↓Ye, ↓Yg, ↓Yh, ↓Yi, ↓YI, ↓YJ, ↓Yj, ↓Yk, ↓XR, ↓XS, ↓YK, ↓Ym, ↓YL, ↓YM, ↓Yn, ↓YN, ↓YO, ↓XU, ↓YQ, ↓Yo, ↓YR, ↓Zk, ↓XV, ↓YS, ↓YT, ↓Zl, ↓YU, ↓Yp, ↓XW, ↓YV, ↓YW, ↓YX, ↓Yq, ↓YY, ↓YZ, ↓Y0, ↓Y1, ↓XX, ↓Xn, ↓Xo, ↓Y2, ↓Xp, ↓Xq, ↓Y3, ↓Yr, ↓Xr, ↓XY, ↓Ys, ↓Xd, ↓Xe, ↓Xf, ↓Y4, ↓Y5, ↓Y7, ↓Y8, ↓Y9, ↓Za, ↓Zb, ↓Zc, ↓Yu, ↓Yz, ↓YA, ↓YF, ↓Xi, ↓XM, ↓Xl, ↓Xb, ↓Xc, ↓Xm, ↓Xj, ↓XN, ↓Xk, ↓XO, Zd, Ze, Zf, Zg, Zh, Zi, Yv, Yw, Yx, Yy, Zj, X0, X1, Xg, Xu, X2, X3, YC, YD, XZ, Xs, Xv, Xw, X4, X5, X6, X7, X8, Xh, XA, XB, XC, XD, XE, XF, YE, X9, XH, setAll, Yl, reduceCtorEq, ne_eq, not_false_eq_true, if_true, if_false, Bool.false_eq_true, Option.map_some, decide_eq_true_eq, Bool.not_true, Bool.not_false, true_and, show (0 : Int) ≤ 0 from Int.le_refl 0, show (0 : Int) ≤ (line : Nat) from by unfold line; omega, show (0 : Int).toNat = 0 from rfl, List.getElem?_cons_zero])
    refine ⟨es.length, by simp, ds ++ [(o, p)], es, by rw [e]; simp, by simp, by rw [sumR_append, sumR_cons]; simp [sumR], rfl⟩
theorem c_law_came {rs : List (Int × V)} {i m : Int} {pl : V} {h : Hp} {Q : V → Hp → Prop} (P : PosR rs) (tot : sumR rs ≤ 900) (i0 : 0 ≤ i) (i1 : i ≤ sumR rs) (m0 : 0 ≤ m)
    (k : ∀ rs', (m = 0 → rs' = rs) → (0 < m → ∀ us vs, partR 0 i rs = us ++ vs → sumR us = i → rs' = us ++ (m, pl) :: vs) → Q (.fl (rowsV rs')) h) : Γ .law_came [.fl (rowsV rs), .int i, .int m, pl] Q h := by
  refine L .law_came rfl _ _ _ (wpB_i (ps := p_law_came) (b := b_law_came) rfl ?_)
  have len := P.len
  repeat (first | refine XJ ?_ | simp only [b_law_came, p_law_came, ↓Yb, ↓XQ, ↓YH, ↓Yd, ↓Ye, ↓Yg, ↓Yh, ↓Yi, ↓YI, ↓YJ, ↓Yj, ↓Yk, ↓XR, ↓XS, ↓YK, ↓Ym, ↓YL, ↓YM, ↓Yn, ↓YN, ↓YO, ↓XU, ↓YQ, ↓Yo, ↓YR, ↓Zk, ↓XV, ↓YS, ↓YT, ↓Zl, ↓YU, ↓Yp, ↓XW, ↓YV, ↓YW, ↓YX, ↓Yq, ↓YY, ↓YZ, ↓Y0, ↓Y1, ↓XX, ↓Xn, ↓Xo, ↓Y2, ↓Xp, ↓Xq, ↓Y3, ↓Yr, ↓Xr, ↓XY, ↓Ys, ↓Xd, ↓Xe, ↓Xf, ↓Y4, ↓Y5, ↓Y7, ↓Y8, ↓Y9, ↓Za, ↓Zb, ↓Zc, ↓Yu, ↓Yz, ↓YA, ↓YF, ↓Xi, ↓XM, ↓Xl, ↓Xb, ↓Xc, ↓Xm, ↓Xj, ↓XN, ↓Xk, ↓XO, Zd, Ze, Zf, Zg, Zh, Zi, Yv, Yw, Yx, Yy, Zj, X0, X1, Xg, Xu, X2, X3, YC, YD, XZ, Xs, Xv, Xw, X4, X5, X6, X7, X8, Xh, XA, XB, XC, XD, XE, XF, YE, X9, XH, setAll, Yl, reduceCtorEq, ne_eq, not_false_eq_true, if_true, if_false, Bool.false_eq_true, Option.map_some, decide_eq_true_eq, Bool.not_true, Bool.not_false])
  by_cases em : m = 0
  · rw [show (m == 0) = true by simpa using em]
    repeat (first | refine XJ ?_ | simp only [↓Yb, ↓XQ, ↓YH, ↓Yd, ↓Ye, ↓Yg, ↓Yh, ↓Yi, ↓YI, ↓YJ, ↓Yj, ↓Yk, ↓XR, ↓XS, ↓YK, ↓Ym, ↓YL, ↓YM, ↓Yn, ↓YN, ↓YO, ↓XU, ↓YQ, ↓Yo, ↓YR, ↓Zk, ↓XV, ↓YS, ↓YT, ↓Zl, ↓YU, ↓Yp, ↓XW, ↓YV, ↓YW, ↓YX, ↓Yq, ↓YY, ↓YZ, ↓Y0, ↓Y1, ↓XX, ↓Xn, ↓Xo, ↓Y2, ↓Xp, ↓Xq, ↓Y3, ↓Yr, ↓Xr, ↓XY, ↓Ys, ↓Xd, ↓Xe, ↓Xf, ↓Y4, ↓Y5, ↓Y7, ↓Y8, ↓Y9, ↓Za, ↓Zb, ↓Zc, ↓Yu, ↓Yz, ↓YA, ↓YF, ↓Xi, ↓XM, ↓Xl, ↓Xb, ↓Xc, ↓Xm, ↓Xj, ↓XN, ↓Xk, ↓XO, Zd, Ze, Zf, Zg, Zh, Zi, Yv, Yw, Yx, Yy, Zj, X0, X1, Xg, Xu, X2, X3, YC, YD, XZ, Xs, Xv, Xw, X4, X5, X6, X7, X8, Xh, XA, XB, XC, XD, XE, XF, YE, X9, XH, setAll, Yl, reduceCtorEq, ne_eq, not_false_eq_true, if_true, if_false, Bool.false_eq_true, Option.map_some, decide_eq_true_eq, Bool.not_true, Bool.not_false])
    exact ⟨_, Sub.refl, k rs (fun _ => rfl) fun z => by omega⟩
  · rw [show (m == 0) = false by simpa using em]
    repeat (first | refine XJ ?_ | simp only [↓Yb, ↓XQ, ↓YH, ↓Yd, ↓Ye, ↓Yg, ↓Yh, ↓Yi, ↓YI, ↓YJ, ↓Yj, ↓Yk, ↓XR, ↓XS, ↓YK, ↓Ym, ↓YL, ↓YM, ↓Yn, ↓YN, ↓YO, ↓XU, ↓YQ, ↓Yo, ↓YR, ↓Zk, ↓XV, ↓YS, ↓YT, ↓Zl, ↓YU, ↓Yp, ↓XW, ↓YV, ↓YW, ↓YX, ↓Yq, ↓YY, ↓YZ, ↓Y0, ↓Y1, ↓XX, ↓Xn, ↓Xo, ↓Y2, ↓Xp, ↓Xq, ↓Y3, ↓Yr, ↓Xr, ↓XY, ↓Ys, ↓Xd, ↓Xe, ↓Xf, ↓Y4, ↓Y5, ↓Y7, ↓Y8, ↓Y9, ↓Za, ↓Zb, ↓Zc, ↓Yu, ↓Yz, ↓YA, ↓YF, ↓Xi, ↓XM, ↓Xl, ↓Xb, ↓Xc, ↓Xm, ↓Xj, ↓XN, ↓Xk, ↓XO, Zd, Ze, Zf, Zg, Zh, Zi, Yv, Yw, Yx, Yy, Zj, X0, X1, Xg, Xu, X2, X3, YC, YD, XZ, Xs, Xv, Xw, X4, X5, X6, X7, X8, Xh, XA, XB, XC, XD, XE, XF, YE, X9, XH, setAll, Yl, reduceCtorEq, ne_eq, not_false_eq_true, if_true, if_false, Bool.false_eq_true, Option.map_some, decide_eq_true_eq, Bool.not_true, Bool.not_false])
    obtain ⟨us, vs, e1, e2⟩ := partR_cut (b := 0) (i := i) P i0 (by omega)
    have PP : PosR (us ++ vs) := e1 ▸ partR_pos P
    have len2 := PP.len
    rw [← e1, partR_sum, e1, List.length_append] at len2
    repeat (first | refine XJ ?_ | simp only [↓Yb, ↓XQ, ↓YH, ↓Yd, ↓Ye, ↓Yg, ↓Yh, ↓Yi, ↓YI, ↓YJ, ↓Yj, ↓Yk, ↓XR, ↓XS, ↓YK, ↓Ym, ↓YL, ↓YM, ↓Yn, ↓YN, ↓YO, ↓XU, ↓YQ, ↓Yo, ↓YR, ↓Zk, ↓XV, ↓YS, ↓YT, ↓Zl, ↓YU, ↓Yp, ↓XW, ↓YV, ↓YW, ↓YX, ↓Yq, ↓YY, ↓YZ, ↓Y0, ↓Y1, ↓XX, ↓Xn, ↓Xo, ↓Y2, ↓Xp, ↓Xq, ↓Y3, ↓Yr, ↓Xr, ↓XY, ↓Ys, ↓Xd, ↓Xe, ↓Xf, ↓Y4, ↓Y5, ↓Y7, ↓Y8, ↓Y9, ↓Za, ↓Zb, ↓Zc, ↓Yu, ↓Yz, ↓YA, ↓YF, ↓Xi, ↓XM, ↓Xl, ↓Xb, ↓Xc, ↓Xm, ↓Xj, ↓XN, ↓Xk, ↓XO, Zd, Ze, Zf, Zg, Zh, Zi, Yv, Yw, Yx, Yy, Zj, X0, X1, Xg, Xu, X2, X3, YC, YD, XZ, Xs, Xv, Xw, X4, X5, X6, X7, X8, Xh, XA, XB, XC, XD, XE, XF, YE, X9, XH, setAll, Yl, reduceCtorEq, ne_eq, not_false_eq_true, if_true, if_false, Bool.false_eq_true, Option.map_some, decide_eq_true_eq, Bool.not_true, Bool.not_false])
    refine c_law_parted L (by omega) ?_
    rw [e1]
    rw [show i = sumR us by omega]
    repeat (first | refine XJ ?_ | simp only [↓Yb, ↓XQ, ↓YH, ↓Yd, ↓Ye, ↓Yg, ↓Yh, ↓Yi, ↓YI, ↓YJ, ↓Yj, ↓Yk, ↓XR, ↓XS, ↓YK, ↓Ym, ↓YL, ↓YM, ↓Yn, ↓YN, ↓YO, ↓XU, ↓YQ, ↓Yo, ↓YR, ↓Zk, ↓XV, ↓YS, ↓YT, ↓Zl, ↓YU, ↓Yp, ↓XW, ↓YV, ↓YW, ↓YX, ↓Yq, ↓YY, ↓YZ, ↓Y0, ↓Y1, ↓XX, ↓Xn, ↓Xo, ↓Y2, ↓Xp, ↓Xq, ↓Y3, ↓Yr, ↓Xr, ↓XY, ↓Ys, ↓Xd, ↓Xe, ↓Xf, ↓Y4, ↓Y5, ↓Y7, ↓Y8, ↓Y9, ↓Za, ↓Zb, ↓Zc, ↓Yu, ↓Yz, ↓YA, ↓YF, ↓Xi, ↓XM, ↓Xl, ↓Xb, ↓Xc, ↓Xm, ↓Xj, ↓XN, ↓Xk, ↓XO, Zd, Ze, Zf, Zg, Zh, Zi, Yv, Yw, Yx, Yy, Zj, X0, X1, Xg, Xu, X2, X3, YC, YD, XZ, Xs, Xv, Xw, X4, X5, X6, X7, X8, Xh, XA, XB, XC, XD, XE, XF, YE, X9, XH, setAll, Yl, reduceCtorEq, ne_eq, not_false_eq_true, if_true, if_false, Bool.false_eq_true, Option.map_some, decide_eq_true_eq, Bool.not_true, Bool.not_false])
    refine c_law_index L PP (by omega) ?_
    have l1 : (rowsV us ++ rowsV vs).length ≤ line := by rw [List.length_append, rowsV_len, rowsV_len]; unfold line; omega
    have t1 : List.take us.length (rowsV us ++ rowsV vs) = rowsV us := by rw [← rowsV_len (xs := us)]; exact List.take_left
    have t2 : List.drop us.length (rowsV us ++ rowsV vs) = rowsV vs := by rw [← rowsV_len (xs := us)]; exact List.drop_left
    repeat (first | refine XJ ?_ | simp only [↓Yb, ↓XQ, ↓YH, ↓Yd, ↓Ye, ↓Yg, ↓Yh, ↓Yi, ↓YI, ↓YJ, ↓Yj, ↓Yk, ↓XR, ↓XS, ↓YK, ↓Ym, ↓YL, ↓YM, ↓Yn, ↓YN, ↓YO, ↓XU, ↓YQ, ↓Yo, ↓YR, ↓Zk, ↓XV, ↓YS, ↓YT, ↓Zl, ↓YU, ↓Yp, ↓XW, ↓YV, ↓YW, ↓YX, ↓Yq, ↓YY, ↓YZ, ↓Y0, ↓Y1, ↓XX, ↓Xn, ↓Xo, ↓Y2, ↓Xp, ↓Xq, ↓Y3, ↓Yr, ↓Xr, ↓XY, ↓Ys, ↓Xd, ↓Xe, ↓Xf, ↓Y4, ↓Y5, ↓Y7, ↓Y8, ↓Y9, ↓Za, ↓Zb, ↓Zc, ↓Yu, ↓Yz, ↓YA, ↓YF, ↓Xi, ↓XM, ↓Xl, ↓Xb, ↓Xc, ↓Xm, ↓Xj, ↓XN, ↓Xk, ↓XO, Zd, Ze, Zf, Zg, Zh, Zi, Yv, Yw, Yx, Yy, Zj, X0, X1, Xg, Xu, X2, X3, YC, YD, XZ, Xs, Xv, Xw, X4, X5, X6, X7, X8, Xh, XA, XB, XC, XD, XE, XF, YE, X9, XH, setAll, Yl, reduceCtorEq, ne_eq, not_false_eq_true, if_true, if_false, Bool.false_eq_true, Option.map_some, decide_eq_true_eq, Bool.not_true, Bool.not_false, rowsV_append, l1, Int.toNat_natCast, true_and, t1, t2, show (0 : Int) ≤ (us.length : Nat) from by omega])
    have b1 : binop h .add (.fl (rowsV us)) (.fl [.tup [.int m, pl]]) = some (.fl (rowsV us ++ [.tup [.int m, pl]])) := by
      refine Xy ?_; rw [rowsV_len]; simp only [List.length_cons, List.length_nil]; unfold line; omega
    have b2 : binop h .add (.fl (rowsV us ++ [.tup [.int m, pl]])) (.fl (rowsV vs)) = some (.fl (rowsV us ++ [.tup [.int m, pl]] ++ rowsV vs)) := by
      refine Xy ?_; simp only [List.length_append, rowsV_len, List.length_cons, List.length_nil]; unfold line; omega
    repeat (first | refine XJ ?_ | simp only [b1, b2, ↓Yb, ↓XQ, ↓YH, ↓Yd, ↓Ye, ↓Yg, ↓Yh, ↓Yi, ↓YI, ↓YJ, ↓Yj, ↓Yk, ↓XR, ↓XS, ↓YK, ↓Ym, ↓YL, ↓YM, ↓Yn, ↓YN, ↓YO, ↓XU, ↓YQ, ↓Yo, ↓YR, ↓Zk, ↓XV, ↓YS, ↓YT, ↓Zl, ↓YU, ↓Yp, ↓XW, ↓YV, ↓YW, ↓YX, ↓Yq, ↓YY, ↓YZ, ↓Y0, ↓Y1, ↓XX, ↓Xn, ↓Xo, ↓Y2, ↓Xp, ↓Xq, ↓Y3, ↓Yr, ↓Xr, ↓XY, ↓Ys, ↓Xd, ↓Xe, ↓Xf, ↓Y4, ↓Y5, ↓Y7, ↓Y8, ↓Y9, ↓Za, ↓Zb, ↓Zc, ↓Yu, ↓Yz, ↓YA, ↓YF, ↓Xi, ↓XM, ↓Xl, ↓Xb, ↓Xc, ↓Xm, ↓Xj, ↓XN, ↓Xk, ↓XO, Zd, Ze, Zf, Zg, Zh, Zi, Yv, Yw, Yx, Yy, Zj, X0, X1, Xg, Xu, X2, X3, YC, YD, XZ, Xs, Xv, Xw, X4, X5, X6, X7, X8, Xh, XA, XB, XC, XD, XE, XF, YE, X9, XH, setAll, Yl, reduceCtorEq, ne_eq, not_false_eq_true, if_true, if_false, Bool.false_eq_true, Option.map_some, decide_eq_true_eq, Bool.not_true, Bool.not_false, Int.toNat_natCast, true_and, t1, t2, l1, show (0 : Int) ≤ (us.length : Nat) from by omega])
    have := k (us ++ (m, pl) :: vs) (fun z => absurd z em) fun _ us' vs' q1 q2 => by
      obtain ⟨a1, a2⟩ := cut_one (e1.symm.trans q1) PP (by omega)
      rw [a1, a2]
    rw [rowsV_append] at this
    repeat (first | refine XJ ?_ | simp only [↓Yb, ↓XQ, ↓YH, ↓Yd, ↓Ye, ↓Yg, ↓Yh, ↓Yi, ↓YI, ↓YJ, ↓Yj, ↓Yk, ↓XR, ↓XS, ↓YK, ↓Ym, ↓YL, ↓YM, ↓Yn, ↓YN, ↓YO, ↓XU, ↓YQ, ↓Yo, ↓YR, ↓Zk, ↓XV, ↓YS, ↓YT, ↓Zl, ↓YU, ↓Yp, ↓XW, ↓YV, ↓YW, ↓YX, ↓Yq, ↓YY, ↓YZ, ↓Y0, ↓Y1, ↓XX, ↓Xn, ↓Xo, ↓Y2, ↓Xp, ↓Xq, ↓Y3, ↓Yr, ↓Xr, ↓XY, ↓Ys, ↓Xd, ↓Xe, ↓Xf, ↓Y4, ↓Y5, ↓Y7, ↓Y8, ↓Y9, ↓Za, ↓Zb, ↓Zc, ↓Yu, ↓Yz, ↓YA, ↓YF, ↓Xi, ↓XM, ↓Xl, ↓Xb, ↓Xc, ↓Xm, ↓Xj, ↓XN, ↓Xk, ↓XO, Zd, Ze, Zf, Zg, Zh, Zi, Yv, Yw, Yx, Yy, Zj, X0, X1, Xg, Xu, X2, X3, YC, YD, XZ, Xs, Xv, Xw, X4, X5, X6, X7, X8, Xh, XA, XB, XC, XD, XE, XF, YE, X9, XH, setAll, Yl, reduceCtorEq, ne_eq, not_false_eq_true, if_true, if_false, Bool.false_eq_true, Option.map_some, decide_eq_true_eq, Bool.not_true, Bool.not_false])
    refine ⟨_, Sub.refl, ?_⟩
    rw [List.append_assoc]
    exact this
theorem c_law_gone {rs : List (Int × V)} {b e : Int} {h : Hp} {Q : V → Hp → Prop} (P : PosR rs) (tot : sumR rs ≤ 900) (b0 : 0 ≤ b) (be : b ≤ e) (e1 : e ≤ sumR rs)
    (k : ∀ rs', (b = e → rs' = rs) → (b < e → ∀ us ms vs, partR 0 e (partR 0 b rs) = us ++ (ms ++ vs) → sumR us = b → sumR ms = e - b → rs' = us ++ vs) → Q (.fl (rowsV rs')) h) : Γ .law_gone [.fl (rowsV rs), .int b, .int e] Q h := by
  refine L .law_gone rfl _ _ _ (wpB_i (ps := p_law_gone) (b := b_law_gone) rfl ?_)
  have len := P.len
  repeat (first | refine XJ ?_ | simp only [b_law_gone, p_law_gone, ↓Yb, ↓XQ, ↓YH, ↓Yd, ↓Ye, ↓Yg, ↓Yh, ↓Yi, ↓YI, ↓YJ, ↓Yj, ↓Yk, ↓XR, ↓XS, ↓YK, ↓Ym, ↓YL, ↓YM, ↓Yn, ↓YN, ↓YO, ↓XU, ↓YQ, ↓Yo, ↓YR, ↓Zk, ↓XV, ↓YS, ↓YT, ↓Zl, ↓YU, ↓Yp, ↓XW, ↓YV, ↓YW, ↓YX, ↓Yq, ↓YY, ↓YZ, ↓Y0, ↓Y1, ↓XX, ↓Xn, ↓Xo, ↓Y2, ↓Xp, ↓Xq, ↓Y3, ↓Yr, ↓Xr, ↓XY, ↓Ys, ↓Xd, ↓Xe, ↓Xf, ↓Y4, ↓Y5, ↓Y7, ↓Y8, ↓Y9, ↓Za, ↓Zb, ↓Zc, ↓Yu, ↓Yz, ↓YA, ↓YF, ↓Xi, ↓XM, ↓Xl, ↓Xb, ↓Xc, ↓Xm, ↓Xj, ↓XN, ↓Xk, ↓XO, Zd, Ze, Zf, Zg, Zh, Zi, Yv, Yw, Yx, Yy, Zj, X0, X1, Xg, Xu, X2, X3, YC, YD, XZ, Xs, Xv, Xw, X4, X5, X6, X7, X8, Xh, XA, XB, XC, XD, XE, XF, YE, X9, XH, setAll, Yl, reduceCtorEq, ne_eq, not_false_eq_true, if_true, if_false, Bool.false_eq_true, Option.map_some, decide_eq_true_eq, Bool.not_true, Bool.not_false])
  by_cases em : b = e
  · rw [show (b == e) = true by simpa using em]
    repeat (first | refine XJ ?_ | simp only [↓Yb, ↓XQ, ↓YH, ↓Yd, ↓Ye, ↓Yg, ↓Yh, ↓Yi, ↓YI, ↓YJ, ↓Yj, ↓Yk, ↓XR, ↓XS, ↓YK, ↓Ym, ↓YL, ↓YM, ↓Yn, ↓YN, ↓YO, ↓XU, ↓YQ, ↓Yo, ↓YR, ↓Zk, ↓XV, ↓YS, ↓YT, ↓Zl, ↓YU, ↓Yp, ↓XW, ↓YV, ↓YW, ↓YX, ↓Yq, ↓YY, ↓YZ, ↓Y0, ↓Y1, ↓XX, ↓Xn, ↓Xo, ↓Y2, ↓Xp, ↓Xq, ↓Y3, ↓Yr, ↓Xr, ↓XY, ↓Ys, ↓Xd, ↓Xe, ↓Xf, ↓Y4, ↓Y5, ↓Y7, ↓Y8, ↓Y9, ↓Za, ↓Zb, ↓Zc, ↓Yu, ↓Yz, ↓YA, ↓YF, ↓Xi, ↓XM, ↓Xl, ↓Xb, ↓Xc, ↓Xm, ↓Xj, ↓XN, ↓Xk, ↓XO, Zd, Ze, Zf, Zg, Zh, Zi, Yv, Yw, Yx, Yy, Zj, X0, X1, Xg, Xu, X2, X3, YC, YD, XZ, Xs, Xv, Xw, X4, X5, X6, X7, X8, Xh, XA, XB, XC, XD, XE, XF, YE, X9, XH, setAll, Yl, reduceCtorEq, ne_eq, not_false_eq_true, if_true, if_false, Bool.false_eq_true, Option.map_some, decide_eq_true_eq, Bool.not_true, Bool.not_false])
    exact ⟨_, Sub.refl, k rs (fun _ => rfl) fun z => by omega⟩
  · rw [show (b == e) = false by simpa using em]
    repeat (first | refine XJ ?_ | simp only [↓Yb, ↓XQ, ↓YH, ↓Yd, ↓Ye, ↓Yg, ↓Yh, ↓Yi, ↓YI, ↓YJ, ↓Yj, ↓Yk, ↓XR, ↓XS, ↓YK, ↓Ym, ↓YL, ↓YM, ↓Yn, ↓YN, ↓YO, ↓XU, ↓YQ, ↓Yo, ↓YR, ↓Zk, ↓XV, ↓YS, ↓YT, ↓Zl, ↓YU, ↓Yp, ↓XW, ↓YV, ↓YW, ↓YX, ↓Yq, ↓YY, ↓YZ, ↓Y0, ↓Y1, ↓XX, ↓Xn, ↓Xo, ↓Y2, ↓Xp, ↓Xq, ↓Y3, ↓Yr, ↓Xr, ↓XY, ↓Ys, ↓Xd, ↓Xe, ↓Xf, ↓Y4, ↓Y5, ↓Y7, ↓Y8, ↓Y9, ↓Za, ↓Zb, ↓Zc, ↓Yu, ↓Yz, ↓YA, ↓YF, ↓Xi, ↓XM, ↓Xl, ↓Xb, ↓Xc, ↓Xm, ↓Xj, ↓XN, ↓Xk, ↓XO, Zd, Ze, Zf, Zg, Zh, Zi, Yv, Yw, Yx, Yy, Zj, X0, X1, Xg, Xu, X2, X3, YC, YD, XZ, Xs, Xv, Xw, X4, X5, X6, X7, X8, Xh, XA, XB, XC, XD, XE, XF, YE, X9, XH, setAll, Yl, reduceCtorEq, ne_eq, not_false_eq_true, if_true, if_false, Bool.false_eq_true, Option.map_some, decide_eq_true_eq, Bool.not_true, Bool.not_false])
    obtain ⟨us, ys, c1, c2⟩ := partR_cut (b := 0) (i := b) P b0 (by omega)
    have pc0 : PosR (us ++ ys) := c1 ▸ partR_pos P
    have pc := pc0
    rw [PosR.append] at pc
    have sy : sumR us + sumR ys = sumR rs := by rw [← sumR_append, ← c1, partR_sum]
    obtain ⟨ms, vs, c3, c4⟩ := partR_cut (b := b) (i := e) pc.2 be (by omega)
    have rows2 : partR 0 e (partR 0 b rs) = us ++ (ms ++ vs) := by
      rw [c1, partR_append, partR_high pc.1 (by omega), show 0 + sumR us = b by omega, c3]
    have PP : PosR (us ++ (ms ++ vs)) := rows2 ▸ partR_pos (partR_pos P)
    have len1 := pc0.len
    rw [sumR_append, sy] at len1
    have len2 := PP.len
    rw [← rows2, partR_sum, partR_sum, rows2, List.length_append, List.length_append] at len2
    repeat (first | refine XJ ?_ | simp only [↓Yb, ↓XQ, ↓YH, ↓Yd, ↓Ye, ↓Yg, ↓Yh, ↓Yi, ↓YI, ↓YJ, ↓Yj, ↓Yk, ↓XR, ↓XS, ↓YK, ↓Ym, ↓YL, ↓YM, ↓Yn, ↓YN, ↓YO, ↓XU, ↓YQ, ↓Yo, ↓YR, ↓Zk, ↓XV, ↓YS, ↓YT, ↓Zl, ↓YU, ↓Yp, ↓XW, ↓YV, ↓YW, ↓YX, ↓Yq, ↓YY, ↓YZ, ↓Y0, ↓Y1, ↓XX, ↓Xn, ↓Xo, ↓Y2, ↓Xp, ↓Xq, ↓Y3, ↓Yr, ↓Xr, ↓XY, ↓Ys, ↓Xd, ↓Xe, ↓Xf, ↓Y4, ↓Y5, ↓Y7, ↓Y8, ↓Y9, ↓Za, ↓Zb, ↓Zc, ↓Yu, ↓Yz, ↓YA, ↓YF, ↓Xi, ↓XM, ↓Xl, ↓Xb, ↓Xc, ↓Xm, ↓Xj, ↓XN, ↓Xk, ↓XO, Zd, Ze, Zf, Zg, Zh, Zi, Yv, Yw, Yx, Yy, Zj, X0, X1, Xg, Xu, X2, X3, YC, YD, XZ, Xs, Xv, Xw, X4, X5, X6, X7, X8, Xh, XA, XB, XC, XD, XE, XF, YE, X9, XH, setAll, Yl, reduceCtorEq, ne_eq, not_false_eq_true, if_true, if_false, Bool.false_eq_true, Option.map_some, decide_eq_true_eq, Bool.not_true, Bool.not_false])
    refine c_law_parted L (by omega) ?_
    repeat (first | refine XJ ?_ | simp only [↓Yb, ↓XQ, ↓YH, ↓Yd, ↓Ye, ↓Yg, ↓Yh, ↓Yi, ↓YI, ↓YJ, ↓Yj, ↓Yk, ↓XR, ↓XS, ↓YK, ↓Ym, ↓YL, ↓YM, ↓Yn, ↓YN, ↓YO, ↓XU, ↓YQ, ↓Yo, ↓YR, ↓Zk, ↓XV, ↓YS, ↓YT, ↓Zl, ↓YU, ↓Yp, ↓XW, ↓YV, ↓YW, ↓YX, ↓Yq, ↓YY, ↓YZ, ↓Y0, ↓Y1, ↓XX, ↓Xn, ↓Xo, ↓Y2, ↓Xp, ↓Xq, ↓Y3, ↓Yr, ↓Xr, ↓XY, ↓Ys, ↓Xd, ↓Xe, ↓Xf, ↓Y4, ↓Y5, ↓Y7, ↓Y8, ↓Y9, ↓Za, ↓Zb, ↓Zc, ↓Yu, ↓Yz, ↓YA, ↓YF, ↓Xi, ↓XM, ↓Xl, ↓Xb, ↓Xc, ↓Xm, ↓Xj, ↓XN, ↓Xk, ↓XO, Zd, Ze, Zf, Zg, Zh, Zi, Yv, Yw, Yx, Yy, Zj, X0, X1, Xg, Xu, X2, X3, YC, YD, XZ, Xs, Xv, Xw, X4, X5, X6, X7, X8, Xh, XA, XB, XC, XD, XE, XF, YE, X9, XH, setAll, Yl, reduceCtorEq, ne_eq, not_false_eq_true, if_true, if_false, Bool.false_eq_true, Option.map_some, decide_eq_true_eq, Bool.not_true, Bool.not_false])
    refine c_law_parted L (by rw [c1]; omega) ?_
    rw [rows2]
    rw [show b = sumR us by omega]
    repeat (first | refine XJ ?_ | simp only [↓Yb, ↓XQ, ↓YH, ↓Yd, ↓Ye, ↓Yg, ↓Yh, ↓Yi, ↓YI, ↓YJ, ↓Yj, ↓Yk, ↓XR, ↓XS, ↓YK, ↓Ym, ↓YL, ↓YM, ↓Yn, ↓YN, ↓YO, ↓XU, ↓YQ, ↓Yo, ↓YR, ↓Zk, ↓XV, ↓YS, ↓YT, ↓Zl, ↓YU, ↓Yp, ↓XW, ↓YV, ↓YW, ↓YX, ↓Yq, ↓YY, ↓YZ, ↓Y0, ↓Y1, ↓XX, ↓Xn, ↓Xo, ↓Y2, ↓Xp, ↓Xq, ↓Y3, ↓Yr, ↓Xr, ↓XY, ↓Ys, ↓Xd, ↓Xe, ↓Xf, ↓Y4, ↓Y5, ↓Y7, ↓Y8, ↓Y9, ↓Za, ↓Zb, ↓Zc, ↓Yu, ↓Yz, ↓YA, ↓YF, ↓Xi, ↓XM, ↓Xl, ↓Xb, ↓Xc, ↓Xm, ↓Xj, ↓XN, ↓Xk, ↓XO, Zd, Ze, Zf, Zg, Zh, Zi, Yv, Yw, Yx, Yy, Zj, X0, X1, Xg, Xu, X2, X3, YC, YD, XZ, Xs, Xv, Xw, X4, X5, X6, X7, X8, Xh, XA, XB, XC, XD, XE, XF, YE, X9, XH, setAll, Yl, reduceCtorEq, ne_eq, not_false_eq_true, if_true, if_false, Bool.false_eq_true, Option.map_some, decide_eq_true_eq, Bool.not_true, Bool.not_false])
    refine c_law_index L PP (by omega) ?_
    have l1 : (rowsV us ++ (rowsV ms ++ rowsV vs)).length ≤ line := by rw [List.length_append, List.length_append, rowsV_len, rowsV_len, rowsV_len]; unfold line; omega
    have t1 : List.take us.length (rowsV us ++ (rowsV ms ++ rowsV vs)) = rowsV us := by rw [← rowsV_len (xs := us)]; exact List.take_left
    have t2 : List.drop (us.length + ms.length) (rowsV us ++ (rowsV ms ++ rowsV vs)) = rowsV vs := by
      rw [← List.append_assoc, ← rowsV_len (xs := us), ← rowsV_len (xs := ms), ← List.length_append]; exact List.drop_left
    repeat (first | refine XJ ?_ | simp only [↓Yb, ↓XQ, ↓YH, ↓Yd, ↓Ye, ↓Yg, ↓Yh, ↓Yi, ↓YI, ↓YJ, ↓Yj, ↓Yk, ↓XR, ↓XS, ↓YK, ↓Ym, ↓YL, ↓YM, ↓Yn, ↓YN, ↓YO, ↓XU, ↓YQ, ↓Yo, ↓YR, ↓Zk, ↓XV, ↓YS, ↓YT, ↓Zl, ↓YU, ↓Yp, ↓XW, ↓YV, ↓YW, ↓YX, ↓Yq, ↓YY, ↓YZ, ↓Y0, ↓Y1, ↓XX, ↓Xn, ↓Xo, ↓Y2, ↓Xp, ↓Xq, ↓Y3, ↓Yr, ↓Xr, ↓XY, ↓Ys, ↓Xd, ↓Xe, ↓Xf, ↓Y4, ↓Y5, ↓Y7, ↓Y8, ↓Y9, ↓Za, ↓Zb, ↓Zc, ↓Yu, ↓Yz, ↓YA, ↓YF, ↓Xi, ↓XM, ↓Xl, ↓Xb, ↓Xc, ↓Xm, ↓Xj, ↓XN, ↓Xk, ↓XO, Zd, Ze, Zf, Zg, Zh, Zi, Yv, Yw, Yx, Yy, Zj, X0, X1, Xg, Xu, X2, X3, YC, YD, XZ, Xs, Xv, Xw, X4, X5, X6, X7, X8, Xh, XA, XB, XC, XD, XE, XF, YE, X9, XH, setAll, Yl, reduceCtorEq, ne_eq, not_false_eq_true, if_true, if_false, Bool.false_eq_true, Option.map_some, decide_eq_true_eq, Bool.not_true, Bool.not_false, rowsV_append, l1, Int.toNat_natCast, true_and, t1, show (0 : Int) ≤ (us.length : Nat) from by omega])
    rw [show e = sumR (us ++ ms) by rw [sumR_append]; omega, ← rowsV_append, ← rowsV_append, ← List.append_assoc]
    rw [← List.append_assoc] at PP
    repeat (first | refine XJ ?_ | simp only [↓Yb, ↓XQ, ↓YH, ↓Yd, ↓Ye, ↓Yg, ↓Yh, ↓Yi, ↓YI, ↓YJ, ↓Yj, ↓Yk, ↓XR, ↓XS, ↓YK, ↓Ym, ↓YL, ↓YM, ↓Yn, ↓YN, ↓YO, ↓XU, ↓YQ, ↓Yo, ↓YR, ↓Zk, ↓XV, ↓YS, ↓YT, ↓Zl, ↓YU, ↓Yp, ↓XW, ↓YV, ↓YW, ↓YX, ↓Yq, ↓YY, ↓YZ, ↓Y0, ↓Y1, ↓XX, ↓Xn, ↓Xo, ↓Y2, ↓Xp, ↓Xq, ↓Y3, ↓Yr, ↓Xr, ↓XY, ↓Ys, ↓Xd, ↓Xe, ↓Xf, ↓Y4, ↓Y5, ↓Y7, ↓Y8, ↓Y9, ↓Za, ↓Zb, ↓Zc, ↓Yu, ↓Yz, ↓YA, ↓YF, ↓Xi, ↓XM, ↓Xl, ↓Xb, ↓Xc, ↓Xm, ↓Xj, ↓XN, ↓Xk, ↓XO, Zd, Ze, Zf, Zg, Zh, Zi, Yv, Yw, Yx, Yy, Zj, X0, X1, Xg, Xu, X2, X3, YC, YD, XZ, Xs, Xv, Xw, X4, X5, X6, X7, X8, Xh, XA, XB, XC, XD, XE, XF, YE, X9, XH, setAll, Yl, reduceCtorEq, ne_eq, not_false_eq_true, if_true, if_false, Bool.false_eq_true, Option.map_some, decide_eq_true_eq, Bool.not_true, Bool.not_false])
    refine c_law_index L PP (by rw [List.length_append]; omega) ?_
    rw [List.append_assoc, rowsV_append, rowsV_append]
    simp only [l1, Int.toNat_natCast, true_and, List.length_append, t2, show (0 : Int) ≤ ((us.length + ms.length : Nat) : Int) from by omega]
    have b1 : binop h .add (.fl (rowsV us)) (.fl (rowsV vs)) = some (.fl (rowsV us ++ rowsV vs)) := by
      refine Xy ?_; simp only [rowsV_len]; unfold line; omega
    rw [b1]
    repeat (first | refine XJ ?_ | simp only [↓Yb, ↓XQ, ↓YH, ↓Yd, ↓Ye, ↓Yg, ↓Yh, ↓Yi, ↓YI, ↓YJ, ↓Yj, ↓Yk, ↓XR, ↓XS, ↓YK, ↓Ym, ↓YL, ↓YM, ↓Yn, ↓YN, ↓YO, ↓XU, ↓YQ, ↓Yo, ↓YR, ↓Zk, ↓XV, ↓YS, ↓YT, ↓Zl, ↓YU, ↓Yp, ↓XW, ↓YV, ↓YW, ↓YX, ↓Yq, ↓YY, ↓YZ, ↓Y0, ↓Y1, ↓XX, ↓Xn, ↓Xo, ↓Y2, ↓Xp, ↓Xq, ↓Y3, ↓Yr, ↓Xr, ↓XY, ↓Ys, ↓Xd, ↓Xe, ↓Xf, ↓Y4, ↓Y5, ↓Y7, ↓Y8, ↓Y9, ↓Za, ↓Zb, ↓Zc, ↓Yu, ↓Yz, ↓YA, ↓YF, ↓Xi, ↓XM, ↓Xl, ↓Xb, ↓Xc, ↓Xm, ↓Xj, ↓XN, ↓Xk, ↓XO, Zd, Ze, Zf, Zg, Zh, Zi, Yv, Yw, Yx, Yy, Zj, X0, X1, Xg, Xu, X2, X3, YC, YD, XZ, Xs, Xv, Xw, X4, X5, X6, X7, X8, Xh, XA, XB, XC, XD, XE, XF, YE, X9, XH, setAll, Yl, reduceCtorEq, ne_eq, not_false_eq_true, if_true, if_false, Bool.false_eq_true, Option.map_some, decide_eq_true_eq, Bool.not_true, Bool.not_false])
    have := k (us ++ vs) (fun z => absurd z em) fun _ us' ms' vs' q1 q2 q3 => by
      rw [List.append_assoc] at PP
      obtain ⟨a1, a2⟩ := cut_one (rows2.symm.trans q1) PP (by omega)
      obtain ⟨a3, a4⟩ := cut_one a2 (PosR.append.mp PP).2 (by omega)
      rw [a1, a4]
    rw [rowsV_append] at this
    exact ⟨by rw [List.length_append, List.length_append] at l1; exact l1, _, Sub.refl, this⟩
end
end Mine

namespace Mine
mutual
theorem peq_refl : ∀ (n : Nat) (v : V), dataN n v = true → peq v v = true
  | _, .int i, _ => by simp [peq]
  | 0, .tup vs, h => by simp [dataN] at h
  | 0, .fl vs, h => by simp [dataN] at h
  | n + 1, .tup vs, h => by
    rw [peq]
    exact peqs_refl n vs (by simpa [dataN] using h)
  | n + 1, .fl vs, h => by
    rw [peq]
    exact peqs_refl n vs (by simpa [dataN] using h)
  | 0, .none, h => by simp [dataN] at h
  | _ + 1, .none, h => by simp [dataN] at h
  | 0, .bool _, h => by simp [dataN] at h
  | _ + 1, .bool _, h => by simp [dataN] at h
  | 0, .str, h => by simp [dataN] at h
  | _ + 1, .str, h => by simp [dataN] at h
  | 0, .ref _, h => by simp [dataN] at h
  | _ + 1, .ref _, h => by simp [dataN] at h
theorem peqs_refl : ∀ (n : Nat) (vs : List V), (∀ v, v ∈ vs → dataN n v = true) → peqs vs vs = true
  | _, [], _ => by rw [peqs]
  | n, v :: vs, h => by
    rw [peqs, peq_refl n v (h v (.head _)), peqs_refl n vs fun w m => h w (.tail _ m)]; rfl
end
theorem eqV_refl {h : Hp} {v : V} (d : dataN 8 v = true) : eqV h v v = some true := by
  have e : eqArg h v = some v := by
    cases v <;> first | rfl | simp [dataN] at d
  simp only [eqV, e, d, Bool.and_true, if_true, peq_refl 8 v d]
theorem eqV_lst {h : Hp} {a : Nat} {vs : List V} (ha : h a = some (.lst vs)) (d : dataN 8 (.fl vs) = true) : eqV h (.ref a) (.fl vs) = some true := by
  have e : eqArg h (.ref a) = some (.fl vs) := by simp only [eqArg, ha]
  have e2 : eqArg h (.fl vs) = some (.fl vs) := rfl
  simp only [eqV, e, e2, d, Bool.and_true, if_true, peq_refl 8 _ d]
theorem eqV_nil {h : Hp} {vs : List V} (d : dataN 8 (.fl vs) = true) : eqV h (.fl vs) (.fl []) = some vs.isEmpty := by
  have e2 : eqArg h (.fl vs) = some (.fl vs) := rfl
  have e3 : eqArg h (.fl []) = some (.fl []) := rfl
  have d2 : dataN 8 (.fl []) = true := rfl
  simp only [eqV, e2, e3, d, d2, Bool.and_true, if_true, peq]
  cases vs <;> rfl
noncomputable def okP (p : V) : Prop := dataN 6 p = true ∧ dataN 7 p = true ∧ dataN 8 p = true
noncomputable def DataR (rs : List (Int × V)) : Prop := ∀ x, x ∈ rs → okP x.2
theorem DataR.append {xs ys : List (Int × V)} : DataR (xs ++ ys) ↔ DataR xs ∧ DataR ys := by
  unfold DataR
  simp only [List.mem_append]
  constructor
  · intro h; exact ⟨fun x m => h x (.inl m), fun x m => h x (.inr m)⟩
  · rintro ⟨a, b⟩ x (m | m)
    · exact a x m
    · exact b x m
theorem DataR.cons {o : Int} {p : V} {ys : List (Int × V)} : DataR ((o, p) :: ys) ↔ okP p ∧ DataR ys := by simp [DataR]
theorem DataR.part : ∀ {rs : List (Int × V)} {b i : Int}, DataR rs → DataR (partR b i rs)
  | [], _, _, _ => fun _ m => nomatch m
  | (o, p) :: rs, b, i, h => by
    rw [DataR.cons] at h
    rw [partR, DataR.append]
    refine ⟨?_, h.2.part⟩
    split
    · rw [DataR.cons, DataR.cons]; exact ⟨h.1, h.1, fun _ m => nomatch m⟩
    · rw [DataR.cons]; exact ⟨h.1, fun _ m => nomatch m⟩
theorem data_spans : ∀ {rs : List (Int × V)} {b : Int}, DataR rs → ∀ v, v ∈ spans b rs → dataN 7 v = true
  | [], _, _, _, m => nomatch m
  | (o, p) :: rs, b, h, v, m => by
    rw [DataR.cons] at h
    rw [spans, List.mem_cons] at m
    rcases m with rfl | m
    · simp [dataN, h.1.1]
    · exact data_spans h.2 v m
theorem data_fl {vs : List V} (h : ∀ v, v ∈ vs → dataN 7 v = true) : dataN 8 (.fl vs) = true := by simpa [dataN] using h
/-- one row holds i -/
theorem row_at : ∀ {us vs us' vs' : List (Int × V)} {o o' i : Int} {p p' : V}, us ++ (o, p) :: vs = us' ++ (o', p') :: vs' → PosR (us ++ (o, p) :: vs) → sumR us ≤ i → i < sumR us + o → sumR us' ≤ i → i < sumR us' + o' → us = us' ∧ o = o' ∧ p = p' ∧ vs = vs'
  | [], vs, [], vs', o, o', i, p, p', e, _, _, _, _, _ => by
    simp only [List.nil_append, List.cons.injEq, Prod.mk.injEq] at e
    exact ⟨rfl, e.1.1, e.1.2, e.2⟩
  | [], vs, (o1, p1) :: us', vs', o, o', i, p, p', e, h, s1, s2, s3, s4 => by
    simp only [List.cons_append, List.nil_append, List.cons.injEq, Prod.mk.injEq] at e h
    rw [PosR.cons, e.2, PosR.append] at h
    rw [sumR_nil] at s2
    rw [sumR_cons] at s3
    have := h.2.1.sum
    omega
  | (o1, p1) :: us, vs, [], vs', o, o', i, p, p', e, h, s1, s2, s3, s4 => by
    simp only [List.cons_append, List.nil_append, List.cons.injEq, Prod.mk.injEq] at e h
    rw [PosR.cons, PosR.append] at h
    rw [sumR_nil] at s4
    rw [sumR_cons] at s1
    have := h.2.1.sum
    omega
  | (o1, p1) :: us, vs, (o2, p2) :: us', vs', o, o', i, p, p', e, h, s1, s2, s3, s4 => by
    simp only [List.cons_append, List.cons.injEq, Prod.mk.injEq] at e
    obtain ⟨⟨rfl, rfl⟩, e⟩ := e
    rw [List.cons_append, PosR.cons] at h
    rw [sumR_cons] at s1 s2 s3 s4
    obtain ⟨a, b, c, d⟩ := row_at (i := i - o1) e h.2 (by omega) (by omega) (by omega) (by omega)
    exact ⟨by rw [a], b, c, d⟩
theorem era_upd {h : Hp} {d : Nat} {o : Obj} (e : h d = none) : era (upd h d o) d = h := by
  funext x
  unfold era upd
  split
  · rename_i z; rw [z, e]
  · rfl
theorem Holds.upd {h : Hp} {rt w : Nat} {W : T} {o : Obj} (H : Holds h rt W) (hw : h w = none) : Holds (upd h w o) rt W :=
  H.frame fun y m => Xa fun z => by
    subst z
    rcases m with rfl | m
    · rw [H.root] at hw; cases hw
    · exact SInv.out hw H.tree m
end Mine

namespace Mine
theorem data_rowsV {rs : List (Int × V)} (h : DataR rs) : ∀ v, v ∈ rowsV rs → dataN 7 v = true := by
  intro v m
  obtain ⟨x, mx, rfl⟩ := List.mem_map.mp m
  have := (h x mx).1
  simp [rowV, dataN, this]
theorem Holds.at {h : Hp} {rt : Nat} {W : T} {c : Ctx} {t : T} (H : Holds h rt W) (e : W = plug c t) : Holds h rt (plug c t) := e ▸ H
theorem seq_n {h : Hp} {a b : Nat} {o : Obj} (n : b ≠ a) : seqOf (upd h a o) (.ref b) = seqOf h (.ref b) := by simp only [seqOf, upd, if_neg n]
section
variable {Γ : Ctr} (U : Base Γ) (L : LawC Γ)
include U L
omit U L in
theorem due_loop {h : Hp} {d : Nat} : ∀ (rs : List (Int × V)) (ds : List V) (b : Int) (post : Post) (m : Loc), ds.length + rs.length ≤ line → m .due = some (.ref d) → m .begin = some (.int b) →
    (∀ m', m' .due = some (.ref d) → m' .begin = some (.int (b + sumR rs)) → m' .tree = m .tree → m' .cases = m .cases → post .next m' (upd h d (.lst (ds ++ spans b rs)))) →
    forS Γ l_law_is_as_1 (fun v m => setT [.many, .plist] v m) (rowsV rs) post m (upd h d (.lst ds))
  | [], ds, b, post, m, sz, m1, m2, k => by
    have := k m m1 (by rw [sumR_nil]; simpa using m2) rfl rfl
    simpa [spans, rowsV, Xl] using this
  | (o, p) :: rs, ds, b, post, m, sz, m1, m2, k => by
    show forS _ _ _ (rowV (o, p) :: rowsV rs) post m _
    rw [Xb]
    simp only [List.length_cons] at sz
    refine XT l_law_is_as_1.eq_1 ?_
    repeat (first | refine XJ ?_ | simp only [rowV, ↓Yt m1, m1, ↓Yt m2, m2, ↓Yb, ↓XQ, ↓YH, ↓Yd, ↓Ye, ↓Yg, ↓Yh, ↓Yi, ↓YI, ↓YJ, ↓Yj, ↓Yk, ↓XR, ↓XS, ↓YK, ↓Ym, ↓YL, ↓YM, ↓Yn, ↓YN, ↓YO, ↓XU, ↓YQ, ↓Yo, ↓YR, ↓Zk, ↓XV, ↓YS, ↓YT, ↓Zl, ↓YU, ↓Yp, ↓XW, ↓YV, ↓YW, ↓YX, ↓Yq, ↓YY, ↓YZ, ↓Y0, ↓Y1, ↓XX, ↓Xn, ↓Xo, ↓Y2, ↓Xp, ↓Xq, ↓Y3, ↓Yr, ↓Xr, ↓XY, ↓Ys, ↓Xd, ↓Xe, ↓Xf, ↓Y4, ↓Y5, ↓Y7, ↓Y8, ↓Y9, ↓Za, ↓Zb, ↓Zc, ↓Yu, ↓Yz, ↓YA, ↓YF, ↓Xi, ↓XM, ↓Xl, ↓Xb, ↓Xc, ↓Xm, ↓Xj, ↓XN, ↓Xk, ↓XO, Zd, Ze, Zf, Zg, Zh, Zi, Yv, Yw, Yx, Yy, Zj, X0, X1, Xg, Xu, X2, X3, YC, YD, XZ, Xs, Xv, Xw, X4, X5, X6, X7, X8, Xh, XA, XB, XC, XD, XE, XF, YE, X9, XH, setAll, Yl, reduceCtorEq, ne_eq, not_false_eq_true, if_true, if_false, Bool.false_eq_true, Option.map_some, decide_eq_true_eq, Bool.not_true, Bool.not_false])
    refine ⟨by omega, ?_⟩
    repeat (first | refine XJ ?_ | simp only [↓Yt m1, m1, ↓Yt m2, m2, ↓Yb, ↓XQ, ↓YH, ↓Yd, ↓Ye, ↓Yg, ↓Yh, ↓Yi, ↓YI, ↓YJ, ↓Yj, ↓Yk, ↓XR, ↓XS, ↓YK, ↓Ym, ↓YL, ↓YM, ↓Yn, ↓YN, ↓YO, ↓XU, ↓YQ, ↓Yo, ↓YR, ↓Zk, ↓XV, ↓YS, ↓YT, ↓Zl, ↓YU, ↓Yp, ↓XW, ↓YV, ↓YW, ↓YX, ↓Yq, ↓YY, ↓YZ, ↓Y0, ↓Y1, ↓XX, ↓Xn, ↓Xo, ↓Y2, ↓Xp, ↓Xq, ↓Y3, ↓Yr, ↓Xr, ↓XY, ↓Ys, ↓Xd, ↓Xe, ↓Xf, ↓Y4, ↓Y5, ↓Y7, ↓Y8, ↓Y9, ↓Za, ↓Zb, ↓Zc, ↓Yu, ↓Yz, ↓YA, ↓YF, ↓Xi, ↓XM, ↓Xl, ↓Xb, ↓Xc, ↓Xm, ↓Xj, ↓XN, ↓Xk, ↓XO, Zd, Ze, Zf, Zg, Zh, Zi, Yv, Yw, Yx, Yy, Zj, X0, X1, Xg, Xu, X2, X3, YC, YD, XZ, Xs, Xv, Xw, X4, X5, X6, X7, X8, Xh, XA, XB, XC, XD, XE, XF, YE, X9, XH, setAll, Yl, reduceCtorEq, ne_eq, not_false_eq_true, if_true, if_false, Bool.false_eq_true, Option.map_some, decide_eq_true_eq, Bool.not_true, Bool.not_false])
    refine due_loop rs (ds ++ [.tup [.int b, .int (b + o), p]]) (b + o) post (setL (setL (setL m .many (.int o)) .plist p) .begin (.int (b + o))) (by simp only [List.length_append, List.length_cons, List.length_nil]; omega) m1 rfl fun m' q1 q2 q3 q4 => ?_
    have := k m' q1 (by rw [q2, sumR_cons, Int.add_assoc]) (by rw [q3]; rfl) (by rw [q4]; rfl)
    simpa [spans] using this

omit L in
theorem at_loop {h : Hp} {rt : Nat} {W : T} {us vs : List (Int × V)} {o : Int} {p : V} (H : Holds h rt W) (P : Pos W) (e : W.rows = us ++ (o, p) :: vs) (dp : okP p) : ∀ (n : Nat) (i : Int) (post : Post) (m : Loc),
    m .tree = some (.ref rt) → m .start = some (.int (sumR us)) → m .«end» = some (.int (sumR us + o)) → m .plist = some p → sumR us ≤ i → i + n ≤ sumR us + o →
    (∀ m', m' .tree = some (.ref rt) → m' .due = m .due → post .next m' h) →
    forS Γ l_law_is_as_2 (fun v m => some (setL m .at v)) (intsFrom i n) post m h
  | 0, i, post, m, m1, m2, m3, m4, i1, i2, k => by
    rw [intsFrom, Xl]; exact k m m1 rfl
  | n + 1, i, post, m, m1, m2, m3, m4, i1, i2, k => by
    rw [intsFrom, Xb]
    have PR := posR_rows.mp P
    rw [e] at PR
    have PR' := PR
    rw [PosR.append, PosR.cons] at PR
    have := PR.1.sum
    have := PR.2.2.sum
    refine XT l_law_is_as_2.eq_1 ?_
    repeat (first | refine XJ ?_ | simp only [↓Yt m1, m1, ↓Yt m2, m2, ↓Yt m3, m3, ↓Yt m4, m4, ↓Yb, ↓XQ, ↓YH, ↓Yd, ↓Ye, ↓Yg, ↓Yh, ↓Yi, ↓YI, ↓YJ, ↓Yj, ↓Yk, ↓XR, ↓XS, ↓YK, ↓Ym, ↓YL, ↓YM, ↓Yn, ↓YN, ↓YO, ↓XU, ↓YQ, ↓Yo, ↓YR, ↓Zk, ↓XV, ↓YS, ↓YT, ↓Zl, ↓YU, ↓Yp, ↓XW, ↓YV, ↓YW, ↓YX, ↓Yq, ↓YY, ↓YZ, ↓Y0, ↓Y1, ↓XX, ↓Xn, ↓Xo, ↓Y2, ↓Xp, ↓Xq, ↓Y3, ↓Yr, ↓Xr, ↓XY, ↓Ys, ↓Xd, ↓Xe, ↓Xf, ↓Y4, ↓Y5, ↓Y7, ↓Y8, ↓Y9, ↓Za, ↓Zb, ↓Zc, ↓Yu, ↓Yz, ↓YA, ↓YF, ↓Xi, ↓XM, ↓Xl, ↓Xb, ↓Xc, ↓Xm, ↓Xj, ↓XN, ↓Xk, ↓XO, Zd, Ze, Zf, Zg, Zh, Zi, Yv, Yw, Yx, Yy, Zj, X0, X1, Xg, Xu, X2, X3, YC, YD, XZ, Xs, Xv, Xw, X4, X5, X6, X7, X8, Xh, XA, XB, XC, XD, XE, XF, YE, X9, XH, setAll, Yl, reduceCtorEq, ne_eq, not_false_eq_true, if_true, if_false, Bool.false_eq_true, Option.map_some, decide_eq_true_eq, Bool.not_true, Bool.not_false])
    refine c_find_interval U H P (by omega) (by rw [tot_rows, e, sumR_append, sumR_cons]; omega) fun c a o2 p2 l r eW j0 j1 => ?_
    have er : W.rows = (inoL c ++ l.ino).map (·.2) ++ (o2, p2) :: (r.ino ++ inoR c).map (·.2) := by rw [eW, rows_plug]; simp [T.rows, T.ino]
    obtain ⟨d1, rfl, rfl, d4⟩ := row_at (i := i) (e.symm.trans er) PR' (by omega) (by omega) (by rw [← sumI_rows]; omega) (by rw [← sumI_rows]; omega)
    have es : sumI (inoL c ++ l.ino) = sumR us := by rw [sumI_rows, d1]
    have it : IsT h (.node a o p l r) (par c .none) := by have := H; rw [eW] at this; exact this.split.2.1
    repeat (first | refine XJ ?_ | simp only [es, ↓Yt m1, m1, ↓Yt m2, m2, ↓Yt m3, m3, ↓Yt m4, m4, ↓Yb, ↓XQ, ↓YH, ↓Yd, ↓Ye, ↓Yg, ↓Yh, ↓Yi, ↓YI, ↓YJ, ↓Yj, ↓Yk, ↓XR, ↓XS, ↓YK, ↓Ym, ↓YL, ↓YM, ↓Yn, ↓YN, ↓YO, ↓XU, ↓YQ, ↓Yo, ↓YR, ↓Zk, ↓XV, ↓YS, ↓YT, ↓Zl, ↓YU, ↓Yp, ↓XW, ↓YV, ↓YW, ↓YX, ↓Yq, ↓YY, ↓YZ, ↓Y0, ↓Y1, ↓XX, ↓Xn, ↓Xo, ↓Y2, ↓Xp, ↓Xq, ↓Y3, ↓Yr, ↓Xr, ↓XY, ↓Ys, ↓Xd, ↓Xe, ↓Xf, ↓Y4, ↓Y5, ↓Y7, ↓Y8, ↓Y9, ↓Za, ↓Zb, ↓Zc, ↓Yu, ↓Yz, ↓YA, ↓YF, ↓Xi, ↓XM, ↓Xl, ↓Xb, ↓Xc, ↓Xm, ↓Xj, ↓XN, ↓Xk, ↓XO, Zd, Ze, Zf, Zg, Zh, Zi, Yv, Yw, Yx, Yy, Zj, X0, X1, Xg, Xu, X2, X3, YC, YD, XZ, Xs, Xv, Xw, X4, X5, X6, X7, X8, Xh, XA, XB, XC, XD, XE, XF, YE, X9, XH, setAll, Yl, reduceCtorEq, ne_eq, not_false_eq_true, if_true, if_false, Bool.false_eq_true, Option.map_some, decide_eq_true_eq, Bool.not_true, Bool.not_false, beq_self_eq_true])
    refine c_own_length U it ?_
    have e4 : sumR us + o - sumR us = o := by omega
    repeat (first | refine XJ ?_ | simp only [e4, ↓Yt m1, m1, ↓Yt m2, m2, ↓Yt m3, m3, ↓Yt m4, m4, ↓Yb, ↓XQ, ↓YH, ↓Yd, ↓Ye, ↓Yg, ↓Yh, ↓Yi, ↓YI, ↓YJ, ↓Yj, ↓Yk, ↓XR, ↓XS, ↓YK, ↓Ym, ↓YL, ↓YM, ↓Yn, ↓YN, ↓YO, ↓XU, ↓YQ, ↓Yo, ↓YR, ↓Zk, ↓XV, ↓YS, ↓YT, ↓Zl, ↓YU, ↓Yp, ↓XW, ↓YV, ↓YW, ↓YX, ↓Yq, ↓YY, ↓YZ, ↓Y0, ↓Y1, ↓XX, ↓Xn, ↓Xo, ↓Y2, ↓Xp, ↓Xq, ↓Y3, ↓Yr, ↓Xr, ↓XY, ↓Ys, ↓Xd, ↓Xe, ↓Xf, ↓Y4, ↓Y5, ↓Y7, ↓Y8, ↓Y9, ↓Za, ↓Zb, ↓Zc, ↓Yu, ↓Yz, ↓YA, ↓YF, ↓Xi, ↓XM, ↓Xl, ↓Xb, ↓Xc, ↓Xm, ↓Xj, ↓XN, ↓Xk, ↓XO, Zd, Ze, Zf, Zg, Zh, Zi, Yv, Yw, Yx, Yy, Zj, X0, X1, Xg, Xu, X2, X3, YC, YD, XZ, Xs, Xv, Xw, X4, X5, X6, X7, X8, Xh, XA, XB, XC, XD, XE, XF, YE, X9, XH, setAll, Yl, reduceCtorEq, ne_eq, not_false_eq_true, if_true, if_false, Bool.false_eq_true, Option.map_some, decide_eq_true_eq, Bool.not_true, Bool.not_false, beq_self_eq_true, ↓Y6 it.1, YB it.1, eqV_refl dp.2.2])
    exact at_loop H P e dp n (i + 1) post _ (by simp [setL, m1]) (by simp [setL, m2]) (by simp [setL, m3]) (by simp [setL, m4]) (by omega) (by omega) fun m' q1 q2 => k m' q1 (by rw [q2]; simp [setL])

omit L in
theorem rows_loop {h : Hp} {rt : Nat} {W : T} (H : Holds h rt W) (P : Pos W) (tt : W.tot ≤ 900) : ∀ (rs us : List (Int × V)) (post : Post) (m : Loc), W.rows = us ++ rs → DataR rs → m .tree = some (.ref rt) → (∀ m', post .next m' h) →
    forS Γ l_law_is_as_3 (fun v m => setT [.start, .«end», .plist] v m) (spans (sumR us) rs) post m h
  | [], us, post, m, e, d, m1, k => by rw [spans, Xl]; exact k m
  | (o, p) :: rs, us, post, m, e, d, m1, k => by
    rw [spans, Xb]
    have PR := posR_rows.mp P
    rw [e, PosR.append, PosR.cons] at PR
    have s1 := PR.1.sum
    have s2 := PR.2.2.sum
    have tt' := tt
    rw [tot_rows, e, sumR_append, sumR_cons] at tt'
    rw [DataR.cons] at d
    refine XT l_law_is_as_3.eq_1 ?_
    repeat (first | refine XJ ?_ | simp only [↓Yb, ↓XQ, ↓YH, ↓Yd, ↓Ye, ↓Yg, ↓Yh, ↓Yi, ↓YI, ↓YJ, ↓Yj, ↓Yk, ↓XR, ↓XS, ↓YK, ↓Ym, ↓YL, ↓YM, ↓Yn, ↓YN, ↓YO, ↓XU, ↓YQ, ↓Yo, ↓YR, ↓Zk, ↓XV, ↓YS, ↓YT, ↓Zl, ↓YU, ↓Yp, ↓XW, ↓YV, ↓YW, ↓YX, ↓Yq, ↓YY, ↓YZ, ↓Y0, ↓Y1, ↓XX, ↓Xn, ↓Xo, ↓Y2, ↓Xp, ↓Xq, ↓Y3, ↓Yr, ↓Xr, ↓XY, ↓Ys, ↓Xd, ↓Xe, ↓Xf, ↓Y4, ↓Y5, ↓Y7, ↓Y8, ↓Y9, ↓Za, ↓Zb, ↓Zc, ↓Yu, ↓Yz, ↓YA, ↓YF, ↓Xi, ↓XM, ↓Xl, ↓Xb, ↓Xc, ↓Xm, ↓Xj, ↓XN, ↓Xk, ↓XO, Zd, Ze, Zf, Zg, Zh, Zi, Yv, Yw, Yx, Yy, Zj, X0, X1, Xg, Xu, X2, X3, YC, YD, XZ, Xs, Xv, Xw, X4, X5, X6, X7, X8, Xh, XA, XB, XC, XD, XE, XF, YE, X9, XH, setAll, Yl, reduceCtorEq, ne_eq, not_false_eq_true, if_true, if_false, Bool.false_eq_true, Option.map_some, decide_eq_true_eq, Bool.not_true, Bool.not_false])
    refine ⟨by unfold smallInt; simp; omega, by unfold smallInt; simp; omega, ?_⟩
    refine at_loop U H P e d.1 _ (sumR us) _ _ (by simp [setL, m1]) rfl rfl rfl (by omega) (by omega) fun m' q1 q2 => ?_
    repeat (first | refine XJ ?_ | simp only [↓Yb, ↓XQ, ↓YH, ↓Yd, ↓Ye, ↓Yg, ↓Yh, ↓Yi, ↓YI, ↓YJ, ↓Yj, ↓Yk, ↓XR, ↓XS, ↓YK, ↓Ym, ↓YL, ↓YM, ↓Yn, ↓YN, ↓YO, ↓XU, ↓YQ, ↓Yo, ↓YR, ↓Zk, ↓XV, ↓YS, ↓YT, ↓Zl, ↓YU, ↓Yp, ↓XW, ↓YV, ↓YW, ↓YX, ↓Yq, ↓YY, ↓YZ, ↓Y0, ↓Y1, ↓XX, ↓Xn, ↓Xo, ↓Y2, ↓Xp, ↓Xq, ↓Y3, ↓Yr, ↓Xr, ↓XY, ↓Ys, ↓Xd, ↓Xe, ↓Xf, ↓Y4, ↓Y5, ↓Y7, ↓Y8, ↓Y9, ↓Za, ↓Zb, ↓Zc, ↓Yu, ↓Yz, ↓YA, ↓YF, ↓Xi, ↓XM, ↓Xl, ↓Xb, ↓Xc, ↓Xm, ↓Xj, ↓XN, ↓Xk, ↓XO, Zd, Ze, Zf, Zg, Zh, Zi, Yv, Yw, Yx, Yy, Zj, X0, X1, Xg, Xu, X2, X3, YC, YD, XZ, Xs, Xv, Xw, X4, X5, X6, X7, X8, Xh, XA, XB, XC, XD, XE, XF, YE, X9, XH, setAll, Yl, reduceCtorEq, ne_eq, not_false_eq_true, if_true, if_false, Bool.false_eq_true, Option.map_some, decide_eq_true_eq, Bool.not_true, Bool.not_false])
    have := rows_loop H P tt rs (us ++ [(o, p)]) post m' (by rw [e]; simp) d.2 q1 k
    rw [sumR_append, sumR_cons, sumR_nil, Int.add_zero] at this
    exact this

theorem c_law_is_as {h : Hp} {rt : Nat} {W : T} {Q : V → Hp → Prop} (H : Holds h rt W) (P : Pos W) (D : DataR W.rows) (tt : W.tot ≤ 900) (k : Q (.bool true) h) : Γ .law_is_as [.ref rt, .fl (rowsV W.rows)] Q h := by
  refine L .law_is_as rfl _ _ _ (wpB_i (ps := p_law_is_as) (b := a_law_is_as) rfl ?_)
  have lW := Pos.len P
  have lR : W.rows.length = W.ino.length := rows_len
  have lR2 : (rowsV W.rows).length = W.ino.length := by rw [rowsV_len, lR]
  repeat (first | refine XJ ?_ | simp only [a_law_is_as, p_law_is_as, ↓Yb, ↓XQ, ↓YH, ↓Yd, ↓Ye, ↓Yg, ↓Yh, ↓Yi, ↓YI, ↓YJ, ↓Yj, ↓Yk, ↓XR, ↓XS, ↓YK, ↓Ym, ↓YL, ↓YM, ↓Yn, ↓YN, ↓YO, ↓XU, ↓YQ, ↓Yo, ↓YR, ↓Zk, ↓XV, ↓YS, ↓YT, ↓Zl, ↓YU, ↓Yp, ↓XW, ↓YV, ↓YW, ↓YX, ↓Yq, ↓YY, ↓YZ, ↓Y0, ↓Y1, ↓XX, ↓Xn, ↓Xo, ↓Y2, ↓Xp, ↓Xq, ↓Y3, ↓Yr, ↓Xr, ↓XY, ↓Ys, ↓Xd, ↓Xe, ↓Xf, ↓Y4, ↓Y5, ↓Y7, ↓Y8, ↓Y9, ↓Za, ↓Zb, ↓Zc, ↓Yu, ↓Yz, ↓YA, ↓YF, ↓Xi, ↓XM, ↓Xl, ↓Xb, ↓Xc, ↓Xm, ↓Xj, ↓XN, ↓Xk, ↓XO, Zd, Ze, Zf, Zg, Zh, Zi, Yv, Yw, Yx, Yy, Zj, X0, X1, Xg, Xu, X2, X3, YC, YD, XZ, Xs, Xv, Xw, X4, X5, X6, X7, X8, Xh, XA, XB, XC, XD, XE, XF, YE, X9, XH, setAll, Yl, reduceCtorEq, ne_eq, not_false_eq_true, if_true, if_false, Bool.false_eq_true, Option.map_some, decide_eq_true_eq, Bool.not_true, Bool.not_false])
  intro d hd
  repeat (first | refine XJ ?_ | simp only [↓Yb, ↓XQ, ↓YH, ↓Yd, ↓Ye, ↓Yg, ↓Yh, ↓Yi, ↓YI, ↓YJ, ↓Yj, ↓Yk, ↓XR, ↓XS, ↓YK, ↓Ym, ↓YL, ↓YM, ↓Yn, ↓YN, ↓YO, ↓XU, ↓YQ, ↓Yo, ↓YR, ↓Zk, ↓XV, ↓YS, ↓YT, ↓Zl, ↓YU, ↓Yp, ↓XW, ↓YV, ↓YW, ↓YX, ↓Yq, ↓YY, ↓YZ, ↓Y0, ↓Y1, ↓XX, ↓Xn, ↓Xo, ↓Y2, ↓Xp, ↓Xq, ↓Y3, ↓Yr, ↓Xr, ↓XY, ↓Ys, ↓Xd, ↓Xe, ↓Xf, ↓Y4, ↓Y5, ↓Y7, ↓Y8, ↓Y9, ↓Za, ↓Zb, ↓Zc, ↓Yu, ↓Yz, ↓YA, ↓YF, ↓Xi, ↓XM, ↓Xl, ↓Xb, ↓Xc, ↓Xm, ↓Xj, ↓XN, ↓Xk, ↓XO, Zd, Ze, Zf, Zg, Zh, Zi, Yv, Yw, Yx, Yy, Zj, X0, X1, Xg, Xu, X2, X3, YC, YD, XZ, Xs, Xv, Xw, X4, X5, X6, X7, X8, Xh, XA, XB, XC, XD, XE, XF, YE, X9, XH, setAll, Yl, reduceCtorEq, ne_eq, not_false_eq_true, if_true, if_false, Bool.false_eq_true, Option.map_some, decide_eq_true_eq, Bool.not_true, Bool.not_false])
  refine due_loop W.rows [] 0 _ _ (by simp only [List.length_nil]; unfold line; omega) rfl rfl fun m q1 q2 q3 q4 => ?_
  simp only [List.nil_append, Int.zero_add, X2, X3, reduceCtorEq, ne_eq, not_false_eq_true] at q2 q3 q4
  simp only [List.nil_append]
  repeat (first | refine XJ ?_ | simp only [↓Yt q1, q1, ↓Yt q2, q2, ↓Yt q3, q3, ↓Yt q4, q4, ↓Yb, ↓XQ, ↓YH, ↓Yd, ↓Ye, ↓Yg, ↓Yh, ↓Yi, ↓YI, ↓YJ, ↓Yj, ↓Yk, ↓XR, ↓XS, ↓YK, ↓Ym, ↓YL, ↓YM, ↓Yn, ↓YN, ↓YO, ↓XU, ↓YQ, ↓Yo, ↓YR, ↓Zk, ↓XV, ↓YS, ↓YT, ↓Zl, ↓YU, ↓Yp, ↓XW, ↓YV, ↓YW, ↓YX, ↓Yq, ↓YY, ↓YZ, ↓Y0, ↓Y1, ↓XX, ↓Xn, ↓Xo, ↓Y2, ↓Xp, ↓Xq, ↓Y3, ↓Yr, ↓Xr, ↓XY, ↓Ys, ↓Xd, ↓Xe, ↓Xf, ↓Y4, ↓Y5, ↓Y7, ↓Y8, ↓Y9, ↓Za, ↓Zb, ↓Zc, ↓Yu, ↓Yz, ↓YA, ↓YF, ↓Xi, ↓XM, ↓Xl, ↓Xb, ↓Xc, ↓Xm, ↓Xj, ↓XN, ↓Xk, ↓XO, Zd, Ze, Zf, Zg, Zh, Zi, Yv, Yw, Yx, Yy, Zj, X0, X1, Xg, Xu, X2, X3, YC, YD, XZ, Xs, Xv, Xw, X4, X5, X6, X7, X8, Xh, XA, XB, XC, XD, XE, XF, YE, X9, XH, setAll, Yl, reduceCtorEq, ne_eq, not_false_eq_true, if_true, if_false, Bool.false_eq_true, Option.map_some, decide_eq_true_eq, Bool.not_true, Bool.not_false, era_upd hd])
  refine c_tree_error U H P (by omega) ?_
  repeat (first | refine XJ ?_ | simp only [↓Yt q1, q1, ↓Yt q2, q2, ↓Yt q3, q3, ↓Yt q4, q4, ↓Yb, ↓XQ, ↓YH, ↓Yd, ↓Ye, ↓Yg, ↓Yh, ↓Yi, ↓YI, ↓YJ, ↓Yj, ↓Yk, ↓XR, ↓XS, ↓YK, ↓Ym, ↓YL, ↓YM, ↓Yn, ↓YN, ↓YO, ↓XU, ↓YQ, ↓Yo, ↓YR, ↓Zk, ↓XV, ↓YS, ↓YT, ↓Zl, ↓YU, ↓Yp, ↓XW, ↓YV, ↓YW, ↓YX, ↓Yq, ↓YY, ↓YZ, ↓Y0, ↓Y1, ↓XX, ↓Xn, ↓Xo, ↓Y2, ↓Xp, ↓Xq, ↓Y3, ↓Yr, ↓Xr, ↓XY, ↓Ys, ↓Xd, ↓Xe, ↓Xf, ↓Y4, ↓Y5, ↓Y7, ↓Y8, ↓Y9, ↓Za, ↓Zb, ↓Zc, ↓Yu, ↓Yz, ↓YA, ↓YF, ↓Xi, ↓XM, ↓Xl, ↓Xb, ↓Xc, ↓Xm, ↓Xj, ↓XN, ↓Xk, ↓XO, Zd, Ze, Zf, Zg, Zh, Zi, Yv, Yw, Yx, Yy, Zj, X0, X1, Xg, Xu, X2, X3, YC, YD, XZ, Xs, Xv, Xw, X4, X5, X6, X7, X8, Xh, XA, XB, XC, XD, XE, XF, YE, X9, XH, setAll, Yl, reduceCtorEq, ne_eq, not_false_eq_true, if_true, if_false, Bool.false_eq_true, Option.map_some, decide_eq_true_eq, Bool.not_true, Bool.not_false])
  refine c_interval_rows U H (by omega) ?_
  repeat (first | refine XJ ?_ | simp only [↓Yt q1, q1, ↓Yt q2, q2, ↓Yt q3, q3, ↓Yt q4, q4, ↓Yb, ↓XQ, ↓YH, ↓Yd, ↓Ye, ↓Yg, ↓Yh, ↓Yi, ↓YI, ↓YJ, ↓Yj, ↓Yk, ↓XR, ↓XS, ↓YK, ↓Ym, ↓YL, ↓YM, ↓Yn, ↓YN, ↓YO, ↓XU, ↓YQ, ↓Yo, ↓YR, ↓Zk, ↓XV, ↓YS, ↓YT, ↓Zl, ↓YU, ↓Yp, ↓XW, ↓YV, ↓YW, ↓YX, ↓Yq, ↓YY, ↓YZ, ↓Y0, ↓Y1, ↓XX, ↓Xn, ↓Xo, ↓Y2, ↓Xp, ↓Xq, ↓Y3, ↓Yr, ↓Xr, ↓XY, ↓Ys, ↓Xd, ↓Xe, ↓Xf, ↓Y4, ↓Y5, ↓Y7, ↓Y8, ↓Y9, ↓Za, ↓Zb, ↓Zc, ↓Yu, ↓Yz, ↓YA, ↓YF, ↓Xi, ↓XM, ↓Xl, ↓Xb, ↓Xc, ↓Xm, ↓Xj, ↓XN, ↓Xk, ↓XO, Zd, Ze, Zf, Zg, Zh, Zi, Yv, Yw, Yx, Yy, Zj, X0, X1, Xg, Xu, X2, X3, YC, YD, XZ, Xs, Xv, Xw, X4, X5, X6, X7, X8, Xh, XA, XB, XC, XD, XE, XF, YE, X9, XH, setAll, Yl, reduceCtorEq, ne_eq, not_false_eq_true, if_true, if_false, Bool.false_eq_true, Option.map_some, decide_eq_true_eq, Bool.not_true, Bool.not_false, eqV_refl (data_fl (data_spans D))])
  refine c_text_length U H ?_
  have DV := data_fl (data_rowsV D)
  repeat (first | refine XJ ?_ | simp only [tot_rows, ↓Yt q2, q2, ↓Yt q4, q4, beq_self_eq_true, ↓Yb, ↓XQ, ↓YH, ↓Yd, ↓Ye, ↓Yg, ↓Yh, ↓Yi, ↓YI, ↓YJ, ↓Yj, ↓Yk, ↓XR, ↓XS, ↓YK, ↓Ym, ↓YL, ↓YM, ↓Yn, ↓YN, ↓YO, ↓XU, ↓YQ, ↓Yo, ↓YR, ↓Zk, ↓XV, ↓YS, ↓YT, ↓Zl, ↓YU, ↓Yp, ↓XW, ↓YV, ↓YW, ↓YX, ↓Yq, ↓YY, ↓YZ, ↓Y0, ↓Y1, ↓XX, ↓Xn, ↓Xo, ↓Y2, ↓Xp, ↓Xq, ↓Y3, ↓Yr, ↓Xr, ↓XY, ↓Ys, ↓Xd, ↓Xe, ↓Xf, ↓Y4, ↓Y5, ↓Y7, ↓Y8, ↓Y9, ↓Za, ↓Zb, ↓Zc, ↓Yu, ↓Yz, ↓YA, ↓YF, ↓Xi, ↓XM, ↓Xl, ↓Xb, ↓Xc, ↓Xm, ↓Xj, ↓XN, ↓Xk, ↓XO, Zd, Ze, Zf, Zg, Zh, Zi, Yv, Yw, Yx, Yy, Zj, X0, X1, Xg, Xu, X2, X3, YC, YD, XZ, Xs, Xv, Xw, X4, X5, X6, X7, X8, Xh, XA, XB, XC, XD, XE, XF, YE, X9, XH, setAll, Yl, reduceCtorEq, ne_eq, not_false_eq_true, if_true, if_false, Bool.false_eq_true, Option.map_some, decide_eq_true_eq, Bool.not_true, Bool.not_false, eqV_nil DV])
  cases hW : W with
  | nil =>
    have hr := H.root
    rw [hW] at hr
    have e0 : (rowsV T.nil.rows).isEmpty = true := rfl
    repeat (first | refine XJ ?_ | simp only [↓Yt q3, q3, e0, ↓Y6 hr, YB hr, T.ptr, ↓Yb, ↓XQ, ↓YH, ↓Yd, ↓Ye, ↓Yg, ↓Yh, ↓Yi, ↓YI, ↓YJ, ↓Yj, ↓Yk, ↓XR, ↓XS, ↓YK, ↓Ym, ↓YL, ↓YM, ↓Yn, ↓YN, ↓YO, ↓XU, ↓YQ, ↓Yo, ↓YR, ↓Zk, ↓XV, ↓YS, ↓YT, ↓Zl, ↓YU, ↓Yp, ↓XW, ↓YV, ↓YW, ↓YX, ↓Yq, ↓YY, ↓YZ, ↓Y0, ↓Y1, ↓XX, ↓Xn, ↓Xo, ↓Y2, ↓Xp, ↓Xq, ↓Y3, ↓Yr, ↓Xr, ↓XY, ↓Ys, ↓Xd, ↓Xe, ↓Xf, ↓Y4, ↓Y5, ↓Y7, ↓Y8, ↓Y9, ↓Za, ↓Zb, ↓Zc, ↓Yu, ↓Yz, ↓YA, ↓YF, ↓Xi, ↓XM, ↓Xl, ↓Xb, ↓Xc, ↓Xm, ↓Xj, ↓XN, ↓Xk, ↓XO, Zd, Ze, Zf, Zg, Zh, Zi, Yv, Yw, Yx, Yy, Zj, X0, X1, Xg, Xu, X2, X3, YC, YD, XZ, Xs, Xv, Xw, X4, X5, X6, X7, X8, Xh, XA, XB, XC, XD, XE, XF, YE, X9, XH, setAll, Yl, reduceCtorEq, ne_eq, not_false_eq_true, if_true, if_false, Bool.false_eq_true, Option.map_some, decide_eq_true_eq, Bool.not_true, Bool.not_false])
    exact ⟨h, Sub.refl, k⟩
  | node a0 o0 p0 l0 r0 =>
    rw [← hW]
    have e0 : (rowsV W.rows).isEmpty = false := by rw [hW]; simp [rowsV, T.rows, T.ino]
    have eP : W.ptr = .ref a0 := by rw [hW]; rfl
    repeat (first | refine XJ ?_ | simp only [e0, ↓Yb, ↓XQ, ↓YH, ↓Yd, ↓Ye, ↓Yg, ↓Yh, ↓Yi, ↓YI, ↓YJ, ↓Yj, ↓Yk, ↓XR, ↓XS, ↓YK, ↓Ym, ↓YL, ↓YM, ↓Yn, ↓YN, ↓YO, ↓XU, ↓YQ, ↓Yo, ↓YR, ↓Zk, ↓XV, ↓YS, ↓YT, ↓Zl, ↓YU, ↓Yp, ↓XW, ↓YV, ↓YW, ↓YX, ↓Yq, ↓YY, ↓YZ, ↓Y0, ↓Y1, ↓XX, ↓Xn, ↓Xo, ↓Y2, ↓Xp, ↓Xq, ↓Y3, ↓Yr, ↓Xr, ↓XY, ↓Ys, ↓Xd, ↓Xe, ↓Xf, ↓Y4, ↓Y5, ↓Y7, ↓Y8, ↓Y9, ↓Za, ↓Zb, ↓Zc, ↓Yu, ↓Yz, ↓YA, ↓YF, ↓Xi, ↓XM, ↓Xl, ↓Xb, ↓Xc, ↓Xm, ↓Xj, ↓XN, ↓Xk, ↓XO, Zd, Ze, Zf, Zg, Zh, Zi, Yv, Yw, Yx, Yy, Zj, X0, X1, Xg, Xu, X2, X3, YC, YD, XZ, Xs, Xv, Xw, X4, X5, X6, X7, X8, Xh, XA, XB, XC, XD, XE, XF, YE, X9, XH, setAll, Yl, reduceCtorEq, ne_eq, not_false_eq_true, if_true, if_false, Bool.false_eq_true, Option.map_some, decide_eq_true_eq, Bool.not_true, Bool.not_false])
    intro a1 h1
    have a1r : rt ≠ a1 := fun z => by rw [← z, H.root] at h1; cases h1
    intro a2 h2
    have a12 : a1 ≠ a2 := fun z => by rw [← z, Xg] at h2; cases h2
    have h2' : h a2 = none := by rwa [Xa (Ne.symm a12)] at h2
    have a2r : rt ≠ a2 := fun z => by rw [← z, H.root] at h2'; cases h2'
    have HH : ∀ o1 o2 : Obj, Holds (upd (upd h a1 o1) a2 o2) rt W := fun o1 o2 => (H.upd h1).upd (by rw [Xa (Ne.symm a12)]; exact h2')
    have i0 : ∀ o1 o2 : Obj, IsT (upd (upd h a1 o1) a2 o2) (.node a0 o0 p0 l0 r0) .none := fun o1 o2 => hW ▸ (HH o1 o2).tree
    repeat (first | refine XJ ?_ | simp only [↓Yt q3, q3, ↓Y6 (HH _ _).root, YB (HH _ _).root, eP, ↓Yb, ↓XQ, ↓YH, ↓Yd, ↓Ye, ↓Yg, ↓Yh, ↓Yi, ↓YI, ↓YJ, ↓Yj, ↓Yk, ↓XR, ↓XS, ↓YK, ↓Ym, ↓YL, ↓YM, ↓Yn, ↓YN, ↓YO, ↓XU, ↓YQ, ↓Yo, ↓YR, ↓Zk, ↓XV, ↓YS, ↓YT, ↓Zl, ↓YU, ↓Yp, ↓XW, ↓YV, ↓YW, ↓YX, ↓Yq, ↓YY, ↓YZ, ↓Y0, ↓Y1, ↓XX, ↓Xn, ↓Xo, ↓Y2, ↓Xp, ↓Xq, ↓Y3, ↓Yr, ↓Xr, ↓XY, ↓Ys, ↓Xd, ↓Xe, ↓Xf, ↓Y4, ↓Y5, ↓Y7, ↓Y8, ↓Y9, ↓Za, ↓Zb, ↓Zc, ↓Yu, ↓Yz, ↓YA, ↓YF, ↓Xi, ↓XM, ↓Xl, ↓Xb, ↓Xc, ↓Xm, ↓Xj, ↓XN, ↓Xk, ↓XO, Zd, Ze, Zf, Zg, Zh, Zi, Yv, Yw, Yx, Yy, Zj, X0, X1, Xg, Xu, X2, X3, YC, YD, XZ, Xs, Xv, Xw, X4, X5, X6, X7, X8, Xh, XA, XB, XC, XD, XE, XF, YE, X9, XH, setAll, Yl, reduceCtorEq, ne_eq, not_false_eq_true, if_true, if_false, Bool.false_eq_true, Option.map_some, decide_eq_true_eq, Bool.not_true, Bool.not_false])
    refine c_leftmost U (i0 _ _) fun c' b o' p' r' e e2 => ?_
    repeat (first | refine XJ ?_ | simp only [↓Yt q3, q3, ↓Y6 (HH _ _).root, YB (HH _ _).root, eP, ↓Yb, ↓XQ, ↓YH, ↓Yd, ↓Ye, ↓Yg, ↓Yh, ↓Yi, ↓YI, ↓YJ, ↓Yj, ↓Yk, ↓XR, ↓XS, ↓YK, ↓Ym, ↓YL, ↓YM, ↓Yn, ↓YN, ↓YO, ↓XU, ↓YQ, ↓Yo, ↓YR, ↓Zk, ↓XV, ↓YS, ↓YT, ↓Zl, ↓YU, ↓Yp, ↓XW, ↓YV, ↓YW, ↓YX, ↓Yq, ↓YY, ↓YZ, ↓Y0, ↓Y1, ↓XX, ↓Xn, ↓Xo, ↓Y2, ↓Xp, ↓Xq, ↓Y3, ↓Yr, ↓Xr, ↓XY, ↓Ys, ↓Xd, ↓Xe, ↓Xf, ↓Y4, ↓Y5, ↓Y7, ↓Y8, ↓Y9, ↓Za, ↓Zb, ↓Zc, ↓Yu, ↓Yz, ↓YA, ↓YF, ↓Xi, ↓XM, ↓Xl, ↓Xb, ↓Xc, ↓Xm, ↓Xj, ↓XN, ↓Xk, ↓XO, Zd, Ze, Zf, Zg, Zh, Zi, Yv, Yw, Yx, Yy, Zj, X0, X1, Xg, Xu, X2, X3, YC, YD, XZ, Xs, Xv, Xw, X4, X5, X6, X7, X8, Xh, XA, XB, XC, XD, XE, XF, YE, X9, XH, setAll, Yl, reduceCtorEq, ne_eq, not_false_eq_true, if_true, if_false, Bool.false_eq_true, Option.map_some, decide_eq_true_eq, Bool.not_true, Bool.not_false])
    refine c_rightmost U (i0 _ _) fun c'' b' o'' p'' l'' e' e2' => ?_
    have hb : V.ref b = headP W.ino := (head_left (hW.trans e) e2).symm
    have hb' : V.ref b' = lastP W.ino := (last_right (hW.trans e') e2').symm
    rw [hb, hb']
    repeat (first | refine XJ ?_ | simp only [↓Yb, ↓XQ, ↓YH, ↓Yd, ↓Ye, ↓Yg, ↓Yh, ↓Yi, ↓YI, ↓YJ, ↓Yj, ↓Yk, ↓XR, ↓XS, ↓YK, ↓Ym, ↓YL, ↓YM, ↓Yn, ↓YN, ↓YO, ↓XU, ↓YQ, ↓Yo, ↓YR, ↓Zk, ↓XV, ↓YS, ↓YT, ↓Zl, ↓YU, ↓Yp, ↓XW, ↓YV, ↓YW, ↓YX, ↓Yq, ↓YY, ↓YZ, ↓Y0, ↓Y1, ↓XX, ↓Xn, ↓Xo, ↓Y2, ↓Xp, ↓Xq, ↓Y3, ↓Yr, ↓Xr, ↓XY, ↓Ys, ↓Xd, ↓Xe, ↓Xf, ↓Y4, ↓Y5, ↓Y7, ↓Y8, ↓Y9, ↓Za, ↓Zb, ↓Zc, ↓Yu, ↓Yz, ↓YA, ↓YF, ↓Xi, ↓XM, ↓Xl, ↓Xb, ↓Xc, ↓Xm, ↓Xj, ↓XN, ↓Xk, ↓XO, Zd, Ze, Zf, Zg, Zh, Zi, Yv, Yw, Yx, Yy, Zj, X0, X1, Xg, Xu, X2, X3, YC, YD, XZ, Xs, Xv, Xw, X4, X5, X6, X7, X8, Xh, XA, XB, XC, XD, XE, XF, YE, X9, XH, setAll, Yl, reduceCtorEq, ne_eq, not_false_eq_true, if_true, if_false, Bool.false_eq_true, Option.map_some, decide_eq_true_eq, Bool.not_true, Bool.not_false])
    refine ⟨fun n m' h' => m' .tree = some (.ref rt) ∧ m' .cases = some (.fl (rowsV W.rows)) ∧ m' .due = some (.fl (spans 0 W.rows)) ∧ m' .ahead = some (.ref a1) ∧ m' .behind = some (.ref a2) ∧ m' .last = some (lastP W.ino) ∧
      ∃ ds rs, W.ino = ds ++ rs ∧ m' .first = some (headP rs) ∧ n = rs.length ∧ h' = upd (upd h a1 (.lst (rowsV (ds.map (·.2))))) a2 (.lst []), ⟨_, by simp [setL, q3], by simp [setL, q4], by simp [setL], rfl, rfl, rfl, [], W.ino, rfl, rfl, rfl, rfl⟩, ?_⟩
    rintro n m' h' ⟨m1, m2, m3, m4, m5, m6, ds, rs, eW, m7, rfl, rfl⟩
    have lds : ds.length + rs.length = W.ino.length := by rw [eW, List.length_append]
    cases rs with
    | cons x rs =>
      obtain ⟨a, o, p⟩ := x
      obtain ⟨c, l, r, g1, g2, g3⟩ := splitT W ds rs a o p eW
      have H1 := HH (.lst (rowsV (ds.map (·.2)))) (.lst [])
      have it : IsT (upd (upd h a1 (.lst (rowsV (ds.map (·.2))))) a2 (.lst [])) (.node a o p l r) (par c .none) := (H1.at g1).split.2.1
      simp only [List.length_cons] at lds
      have lc : ((ds.length : Nat) : Int) ≤ (W.ino.length : Nat) := by omega
      have ll : (rowsV (ds.map (·.2))).length = ds.length := by rw [rowsV_len, List.length_map]
      simp only [headP] at m7
      repeat (first | refine XJ ?_ | simp only [↓Yt m1, m1, ↓Yt m2, m2, ↓Yt m4, m4, ↓Yt m7, m7, ↓Yb, ↓XQ, ↓YH, ↓Yd, ↓Ye, ↓Yg, ↓Yh, ↓Yi, ↓YI, ↓YJ, ↓Yj, ↓Yk, ↓XR, ↓XS, ↓YK, ↓Ym, ↓YL, ↓YM, ↓Yn, ↓YN, ↓YO, ↓XU, ↓YQ, ↓Yo, ↓YR, ↓Zk, ↓XV, ↓YS, ↓YT, ↓Zl, ↓YU, ↓Yp, ↓XW, ↓YV, ↓YW, ↓YX, ↓Yq, ↓YY, ↓YZ, ↓Y0, ↓Y1, ↓XX, ↓Xn, ↓Xo, ↓Y2, ↓Xp, ↓Xq, ↓Y3, ↓Yr, ↓Xr, ↓XY, ↓Ys, ↓Xd, ↓Xe, ↓Xf, ↓Y4, ↓Y5, ↓Y7, ↓Y8, ↓Y9, ↓Za, ↓Zb, ↓Zc, ↓Yu, ↓Yz, ↓YA, ↓YF, ↓Xi, ↓XM, ↓Xl, ↓Xb, ↓Xc, ↓Xm, ↓Xj, ↓XN, ↓Xk, ↓XO, Zd, Ze, Zf, Zg, Zh, Zi, Yv, Yw, Yx, Yy, Zj, X0, X1, Xg, Xu, X2, X3, YC, YD, XZ, Xs, Xv, Xw, X4, X5, X6, X7, X8, Xh, XA, XB, XC, XD, XE, XF, YE, X9, XH, setAll, Yl, reduceCtorEq, ne_eq, not_false_eq_true, if_true, if_false, Bool.false_eq_true, Option.map_some, decide_eq_true_eq, Bool.not_true, Bool.not_false, seq_n a12, seq_u, ll, lR2, lc, decide_true])
      refine ⟨by unfold line; omega, by unfold line; omega, ?_⟩
      repeat (first | refine XJ ?_ | simp only [↓Yt m1, m1, ↓Yt m2, m2, ↓Yt m4, m4, ↓Yt m7, m7, ↓Yb, ↓XQ, ↓YH, ↓Yd, ↓Ye, ↓Yg, ↓Yh, ↓Yi, ↓YI, ↓YJ, ↓Yj, ↓Yk, ↓XR, ↓XS, ↓YK, ↓Ym, ↓YL, ↓YM, ↓Yn, ↓YN, ↓YO, ↓XU, ↓YQ, ↓Yo, ↓YR, ↓Zk, ↓XV, ↓YS, ↓YT, ↓Zl, ↓YU, ↓Yp, ↓XW, ↓YV, ↓YW, ↓YX, ↓Yq, ↓YY, ↓YZ, ↓Y0, ↓Y1, ↓XX, ↓Xn, ↓Xo, ↓Y2, ↓Xp, ↓Xq, ↓Y3, ↓Yr, ↓Xr, ↓XY, ↓Ys, ↓Xd, ↓Xe, ↓Xf, ↓Y4, ↓Y5, ↓Y7, ↓Y8, ↓Y9, ↓Za, ↓Zb, ↓Zc, ↓Yu, ↓Yz, ↓YA, ↓YF, ↓Xi, ↓XM, ↓Xl, ↓Xb, ↓Xc, ↓Xm, ↓Xj, ↓XN, ↓Xk, ↓XO, Zd, Ze, Zf, Zg, Zh, Zi, Yv, Yw, Yx, Yy, Zj, X0, X1, Xg, Xu, X2, X3, YC, YD, XZ, Xs, Xv, Xw, X4, X5, X6, X7, X8, Xh, XA, XB, XC, XD, XE, XF, YE, X9, XH, setAll, Yl, reduceCtorEq, ne_eq, not_false_eq_true, if_true, if_false, Bool.false_eq_true, Option.map_some, decide_eq_true_eq, Bool.not_true, Bool.not_false, Xa a12])
      refine c_own_length U it ?_
      repeat (first | refine XJ ?_ | simp only [↓Yt m1, m1, ↓Yt m2, m2, ↓Yt m4, m4, ↓Yt m7, m7, ↓Yb, ↓XQ, ↓YH, ↓Yd, ↓Ye, ↓Yg, ↓Yh, ↓Yi, ↓YI, ↓YJ, ↓Yj, ↓Yk, ↓XR, ↓XS, ↓YK, ↓Ym, ↓YL, ↓YM, ↓Yn, ↓YN, ↓YO, ↓XU, ↓YQ, ↓Yo, ↓YR, ↓Zk, ↓XV, ↓YS, ↓YT, ↓Zl, ↓YU, ↓Yp, ↓XW, ↓YV, ↓YW, ↓YX, ↓Yq, ↓YY, ↓YZ, ↓Y0, ↓Y1, ↓XX, ↓Xn, ↓Xo, ↓Y2, ↓Xp, ↓Xq, ↓Y3, ↓Yr, ↓Xr, ↓XY, ↓Ys, ↓Xd, ↓Xe, ↓Xf, ↓Y4, ↓Y5, ↓Y7, ↓Y8, ↓Y9, ↓Za, ↓Zb, ↓Zc, ↓Yu, ↓Yz, ↓YA, ↓YF, ↓Xi, ↓XM, ↓Xl, ↓Xb, ↓Xc, ↓Xm, ↓Xj, ↓XN, ↓Xk, ↓XO, Zd, Ze, Zf, Zg, Zh, Zi, Yv, Yw, Yx, Yy, Zj, X0, X1, Xg, Xu, X2, X3, YC, YD, XZ, Xs, Xv, Xw, X4, X5, X6, X7, X8, Xh, XA, XB, XC, XD, XE, XF, YE, X9, XH, setAll, Yl, reduceCtorEq, ne_eq, not_false_eq_true, if_true, if_false, Bool.false_eq_true, Option.map_some, decide_eq_true_eq, Bool.not_true, Bool.not_false, Xa a12, ↓Y6 it.1, YB it.1, ll])
      refine ⟨by unfold line; omega, ?_⟩
      have eh : upd (upd (upd h a1 (.lst (rowsV (ds.map (·.2))))) a2 (.lst [])) a1 (.lst (rowsV (ds.map (·.2)) ++ [.tup [.int o, p]])) = upd (upd h a1 (.lst (rowsV ((ds ++ [(a, o, p)]).map (·.2))))) a2 (.lst []) := by
        funext x
        have : rowsV (ds.map (·.2)) ++ [.tup [.int o, p]] = rowsV ((ds ++ [(a, o, p)]).map (·.2)) := by simp [rowsV, rowV]
        rw [this]
        unfold upd
        by_cases z1 : x = a1
        · subst z1; rw [if_pos rfl, if_neg a12, if_pos rfl]
        · simp [z1]
      rw [eh]
      have H2 := HH (.lst (rowsV ((ds ++ [(a, o, p)]).map (·.2)))) (.lst [])
      have H2 := H2.at g1
      repeat (first | refine XJ ?_ | simp only [↓Yt m7, m7, ↓Yb, ↓XQ, ↓YH, ↓Yd, ↓Ye, ↓Yg, ↓Yh, ↓Yi, ↓YI, ↓YJ, ↓Yj, ↓Yk, ↓XR, ↓XS, ↓YK, ↓Ym, ↓YL, ↓YM, ↓Yn, ↓YN, ↓YO, ↓XU, ↓YQ, ↓Yo, ↓YR, ↓Zk, ↓XV, ↓YS, ↓YT, ↓Zl, ↓YU, ↓Yp, ↓XW, ↓YV, ↓YW, ↓YX, ↓Yq, ↓YY, ↓YZ, ↓Y0, ↓Y1, ↓XX, ↓Xn, ↓Xo, ↓Y2, ↓Xp, ↓Xq, ↓Y3, ↓Yr, ↓Xr, ↓XY, ↓Ys, ↓Xd, ↓Xe, ↓Xf, ↓Y4, ↓Y5, ↓Y7, ↓Y8, ↓Y9, ↓Za, ↓Zb, ↓Zc, ↓Yu, ↓Yz, ↓YA, ↓YF, ↓Xi, ↓XM, ↓Xl, ↓Xb, ↓Xc, ↓Xm, ↓Xj, ↓XN, ↓Xk, ↓XO, Zd, Ze, Zf, Zg, Zh, Zi, Yv, Yw, Yx, Yy, Zj, X0, X1, Xg, Xu, X2, X3, YC, YD, XZ, Xs, Xv, Xw, X4, X5, X6, X7, X8, Xh, XA, XB, XC, XD, XE, XF, YE, X9, XH, setAll, Yl, reduceCtorEq, ne_eq, not_false_eq_true, if_true, if_false, Bool.false_eq_true, Option.map_some, decide_eq_true_eq, Bool.not_true, Bool.not_false])
      refine c_following U H2 ?_
      repeat (first | refine XJ ?_ | simp only [↓Yt m1, m1, ↓Yt m2, m2, ↓Yt m3, m3, ↓Yt m4, m4, ↓Yt m5, m5, ↓Yt m6, m6, ↓Yb, ↓XQ, ↓YH, ↓Yd, ↓Ye, ↓Yg, ↓Yh, ↓Yi, ↓YI, ↓YJ, ↓Yj, ↓Yk, ↓XR, ↓XS, ↓YK, ↓Ym, ↓YL, ↓YM, ↓Yn, ↓YN, ↓YO, ↓XU, ↓YQ, ↓Yo, ↓YR, ↓Zk, ↓XV, ↓YS, ↓YT, ↓Zl, ↓YU, ↓Yp, ↓XW, ↓YV, ↓YW, ↓YX, ↓Yq, ↓YY, ↓YZ, ↓Y0, ↓Y1, ↓XX, ↓Xn, ↓Xo, ↓Y2, ↓Xp, ↓Xq, ↓Y3, ↓Yr, ↓Xr, ↓XY, ↓Ys, ↓Xd, ↓Xe, ↓Xf, ↓Y4, ↓Y5, ↓Y7, ↓Y8, ↓Y9, ↓Za, ↓Zb, ↓Zc, ↓Yu, ↓Yz, ↓YA, ↓YF, ↓Xi, ↓XM, ↓Xl, ↓Xb, ↓Xc, ↓Xm, ↓Xj, ↓XN, ↓Xk, ↓XO, Zd, Ze, Zf, Zg, Zh, Zi, Yv, Yw, Yx, Yy, Zj, X0, X1, Xg, Xu, X2, X3, YC, YD, XZ, Xs, Xv, Xw, X4, X5, X6, X7, X8, Xh, XA, XB, XC, XD, XE, XF, YE, X9, XH, setAll, Yl, reduceCtorEq, ne_eq, not_false_eq_true, if_true, if_false, Bool.false_eq_true, Option.map_some, decide_eq_true_eq, Bool.not_true, Bool.not_false, true_and])
      exact ⟨rs.length, by simp, ds ++ [(a, o, p)], rs, by rw [eW]; simp, by rw [g3], rfl, rfl⟩
    | nil =>
      simp only [headP] at m7
      repeat (first | refine XJ ?_ | simp only [↓Yt m7, m7, ↓Yb, ↓XQ, ↓YH, ↓Yd, ↓Ye, ↓Yg, ↓Yh, ↓Yi, ↓YI, ↓YJ, ↓Yj, ↓Yk, ↓XR, ↓XS, ↓YK, ↓Ym, ↓YL, ↓YM, ↓Yn, ↓YN, ↓YO, ↓XU, ↓YQ, ↓Yo, ↓YR, ↓Zk, ↓XV, ↓YS, ↓YT, ↓Zl, ↓YU, ↓Yp, ↓XW, ↓YV, ↓YW, ↓YX, ↓Yq, ↓YY, ↓YZ, ↓Y0, ↓Y1, ↓XX, ↓Xn, ↓Xo, ↓Y2, ↓Xp, ↓Xq, ↓Y3, ↓Yr, ↓Xr, ↓XY, ↓Ys, ↓Xd, ↓Xe, ↓Xf, ↓Y4, ↓Y5, ↓Y7, ↓Y8, ↓Y9, ↓Za, ↓Zb, ↓Zc, ↓Yu, ↓Yz, ↓YA, ↓YF, ↓Xi, ↓XM, ↓Xl, ↓Xb, ↓Xc, ↓Xm, ↓Xj, ↓XN, ↓Xk, ↓XO, Zd, Ze, Zf, Zg, Zh, Zi, Yv, Yw, Yx, Yy, Zj, X0, X1, Xg, Xu, X2, X3, YC, YD, XZ, Xs, Xv, Xw, X4, X5, X6, X7, X8, Xh, XA, XB, XC, XD, XE, XF, YE, X9, XH, setAll, Yl, reduceCtorEq, ne_eq, not_false_eq_true, if_true, if_false, Bool.false_eq_true, Option.map_some, decide_eq_true_eq, Bool.not_true, Bool.not_false])
      simp only [List.append_nil] at eW
      have eR : rowsV (ds.map (·.2)) = rowsV W.rows := by rw [← eW]; rfl
      rw [eR]
      refine ⟨fun n m' h' => m' .tree = some (.ref rt) ∧ m' .cases = some (.fl (rowsV W.rows)) ∧ m' .due = some (.fl (spans 0 W.rows)) ∧ m' .ahead = some (.ref a1) ∧ m' .behind = some (.ref a2) ∧
        ∃ ds rs, W.ino = ds ++ rs ∧ m' .last = some (lastP ds) ∧ n = ds.length ∧ h' = upd (upd h a1 (.lst (rowsV W.rows))) a2 (.lst (rowsV (rs.map (·.2)).reverse)), ⟨_, m1, m2, m3, m4, m5, W.ino, [], by simp, m6, rfl, rfl⟩, ?_⟩
      rintro n m' h' ⟨m1, m2, m3, m4, m5, ds, rs, eW, m6, rfl, rfl⟩
      have lds : ds.length + rs.length = W.ino.length := by rw [eW, List.length_append]
      rcases List.eq_nil_or_concat ds with e | ⟨ds', x, e⟩
      · subst e
        simp only [lastP, headP, List.reverse_nil] at m6
        repeat (first | refine XJ ?_ | simp only [↓Yt m6, m6, ↓Yb, ↓XQ, ↓YH, ↓Yd, ↓Ye, ↓Yg, ↓Yh, ↓Yi, ↓YI, ↓YJ, ↓Yj, ↓Yk, ↓XR, ↓XS, ↓YK, ↓Ym, ↓YL, ↓YM, ↓Yn, ↓YN, ↓YO, ↓XU, ↓YQ, ↓Yo, ↓YR, ↓Zk, ↓XV, ↓YS, ↓YT, ↓Zl, ↓YU, ↓Yp, ↓XW, ↓YV, ↓YW, ↓YX, ↓Yq, ↓YY, ↓YZ, ↓Y0, ↓Y1, ↓XX, ↓Xn, ↓Xo, ↓Y2, ↓Xp, ↓Xq, ↓Y3, ↓Yr, ↓Xr, ↓XY, ↓Ys, ↓Xd, ↓Xe, ↓Xf, ↓Y4, ↓Y5, ↓Y7, ↓Y8, ↓Y9, ↓Za, ↓Zb, ↓Zc, ↓Yu, ↓Yz, ↓YA, ↓YF, ↓Xi, ↓XM, ↓Xl, ↓Xb, ↓Xc, ↓Xm, ↓Xj, ↓XN, ↓Xk, ↓XO, Zd, Ze, Zf, Zg, Zh, Zi, Yv, Yw, Yx, Yy, Zj, X0, X1, Xg, Xu, X2, X3, YC, YD, XZ, Xs, Xv, Xw, X4, X5, X6, X7, X8, Xh, XA, XB, XC, XD, XE, XF, YE, X9, XH, setAll, Yl, reduceCtorEq, ne_eq, not_false_eq_true, if_true, if_false, Bool.false_eq_true, Option.map_some, decide_eq_true_eq, Bool.not_true, Bool.not_false])
        have eR2 : rs.map (·.2) = W.rows := by rw [T.rows, eW]; simp
        rw [eR2]
        have eR3 : rowsV W.rows.reverse = (rowsV W.rows).reverse := by simp [rowsV]
        rw [eR3]
        have g1 : upd (upd h a1 (.lst (rowsV W.rows))) a2 (.lst (rowsV W.rows).reverse) a1 = some (.lst (rowsV W.rows)) := (Xa a12).trans Xg
        have g2 : upd (upd h a1 (.lst (rowsV W.rows))) a2 (.lst (rowsV W.rows).reverse) a2 = some (.lst (rowsV W.rows).reverse) := Xg
        have DV2 : dataN 8 (.fl (rowsV W.rows).reverse) = true := data_fl fun v m => data_rowsV D v (List.mem_reverse.mp m)
        repeat (first | refine XJ ?_ | simp only [↓Yt m1, m1, ↓Yt m2, m2, ↓Yt m3, m3, ↓Yt m4, m4, ↓Yt m5, m5, ↓Yb, ↓XQ, ↓YH, ↓Yd, ↓Ye, ↓Yg, ↓Yh, ↓Yi, ↓YI, ↓YJ, ↓Yj, ↓Yk, ↓XR, ↓XS, ↓YK, ↓Ym, ↓YL, ↓YM, ↓Yn, ↓YN, ↓YO, ↓XU, ↓YQ, ↓Yo, ↓YR, ↓Zk, ↓XV, ↓YS, ↓YT, ↓Zl, ↓YU, ↓Yp, ↓XW, ↓YV, ↓YW, ↓YX, ↓Yq, ↓YY, ↓YZ, ↓Y0, ↓Y1, ↓XX, ↓Xn, ↓Xo, ↓Y2, ↓Xp, ↓Xq, ↓Y3, ↓Yr, ↓Xr, ↓XY, ↓Ys, ↓Xd, ↓Xe, ↓Xf, ↓Y4, ↓Y5, ↓Y7, ↓Y8, ↓Y9, ↓Za, ↓Zb, ↓Zc, ↓Yu, ↓Yz, ↓YA, ↓YF, ↓Xi, ↓XM, ↓Xl, ↓Xb, ↓Xc, ↓Xm, ↓Xj, ↓XN, ↓Xk, ↓XO, Zd, Ze, Zf, Zg, Zh, Zi, Yv, Yw, Yx, Yy, Zj, X0, X1, Xg, Xu, X2, X3, YC, YD, XZ, Xs, Xv, Xw, X4, X5, X6, X7, X8, Xh, XA, XB, XC, XD, XE, XF, YE, X9, XH, setAll, Yl, reduceCtorEq, ne_eq, not_false_eq_true, if_true, if_false, Bool.false_eq_true, Option.map_some, decide_eq_true_eq, Bool.not_true, Bool.not_false, eqV_lst g1 DV, eqV_lst g2 DV2, lR2])
        refine ⟨by unfold line; omega, ?_⟩
        have := rows_loop U (HH (.lst (rowsV W.rows)) (.lst (rowsV W.rows).reverse)) P tt W.rows []
        rw [sumR_nil] at this
        repeat (first | refine XJ ?_ | simp only [↓Yt m3, m3, ↓Yb, ↓XQ, ↓YH, ↓Yd, ↓Ye, ↓Yg, ↓Yh, ↓Yi, ↓YI, ↓YJ, ↓Yj, ↓Yk, ↓XR, ↓XS, ↓YK, ↓Ym, ↓YL, ↓YM, ↓Yn, ↓YN, ↓YO, ↓XU, ↓YQ, ↓Yo, ↓YR, ↓Zk, ↓XV, ↓YS, ↓YT, ↓Zl, ↓YU, ↓Yp, ↓XW, ↓YV, ↓YW, ↓YX, ↓Yq, ↓YY, ↓YZ, ↓Y0, ↓Y1, ↓XX, ↓Xn, ↓Xo, ↓Y2, ↓Xp, ↓Xq, ↓Y3, ↓Yr, ↓Xr, ↓XY, ↓Ys, ↓Xd, ↓Xe, ↓Xf, ↓Y4, ↓Y5, ↓Y7, ↓Y8, ↓Y9, ↓Za, ↓Zb, ↓Zc, ↓Yu, ↓Yz, ↓YA, ↓YF, ↓Xi, ↓XM, ↓Xl, ↓Xb, ↓Xc, ↓Xm, ↓Xj, ↓XN, ↓Xk, ↓XO, Zd, Ze, Zf, Zg, Zh, Zi, Yv, Yw, Yx, Yy, Zj, X0, X1, Xg, Xu, X2, X3, YC, YD, XZ, Xs, Xv, Xw, X4, X5, X6, X7, X8, Xh, XA, XB, XC, XD, XE, XF, YE, X9, XH, setAll, Yl, reduceCtorEq, ne_eq, not_false_eq_true, if_true, if_false, Bool.false_eq_true, Option.map_some, decide_eq_true_eq, Bool.not_true, Bool.not_false])
        refine this _ m' rfl D m1 fun m'' => ?_
        repeat (first | refine XJ ?_ | simp only [↓Yb, ↓XQ, ↓YH, ↓Yd, ↓Ye, ↓Yg, ↓Yh, ↓Yi, ↓YI, ↓YJ, ↓Yj, ↓Yk, ↓XR, ↓XS, ↓YK, ↓Ym, ↓YL, ↓YM, ↓Yn, ↓YN, ↓YO, ↓XU, ↓YQ, ↓Yo, ↓YR, ↓Zk, ↓XV, ↓YS, ↓YT, ↓Zl, ↓YU, ↓Yp, ↓XW, ↓YV, ↓YW, ↓YX, ↓Yq, ↓YY, ↓YZ, ↓Y0, ↓Y1, ↓XX, ↓Xn, ↓Xo, ↓Y2, ↓Xp, ↓Xq, ↓Y3, ↓Yr, ↓Xr, ↓XY, ↓Ys, ↓Xd, ↓Xe, ↓Xf, ↓Y4, ↓Y5, ↓Y7, ↓Y8, ↓Y9, ↓Za, ↓Zb, ↓Zc, ↓Yu, ↓Yz, ↓YA, ↓YF, ↓Xi, ↓XM, ↓Xl, ↓Xb, ↓Xc, ↓Xm, ↓Xj, ↓XN, ↓Xk, ↓XO, Zd, Ze, Zf, Zg, Zh, Zi, Yv, Yw, Yx, Yy, Zj, X0, X1, Xg, Xu, X2, X3, YC, YD, XZ, Xs, Xv, Xw, X4, X5, X6, X7, X8, Xh, XA, XB, XC, XD, XE, XF, YE, X9, XH, setAll, Yl, reduceCtorEq, ne_eq, not_false_eq_true, if_true, if_false, Bool.false_eq_true, Option.map_some, decide_eq_true_eq, Bool.not_true, Bool.not_false])
        refine ⟨h, fun x o ex => ?_, k⟩
        have n1 : x ≠ a1 := fun z => by rw [z, h1] at ex; cases ex
        have n2 : x ≠ a2 := fun z => by rw [z, h2'] at ex; cases ex
        rw [Xa n2, Xa n1]
        exact ex
      · obtain ⟨a, o, p⟩ := x
        rw [List.concat_eq_append] at e
        subst e
        have eW' : W.ino = ds' ++ (a, o, p) :: rs := by rw [eW]; simp
        obtain ⟨c, l, r, g1, g2, g3⟩ := splitT W ds' rs a o p eW'
        have H1 := HH (.lst (rowsV W.rows)) (.lst (rowsV (rs.map (·.2)).reverse))
        have it : IsT (upd (upd h a1 (.lst (rowsV W.rows))) a2 (.lst (rowsV (rs.map (·.2)).reverse))) (.node a o p l r) (par c .none) := (H1.at g1).split.2.1
        simp only [List.length_append, List.length_cons, List.length_nil] at lds
        have lc : ((rs.length : Nat) : Int) ≤ (W.ino.length : Nat) := by omega
        have ll : (rowsV (rs.map (·.2)).reverse).length = rs.length := by rw [rowsV_len, List.length_reverse, List.length_map]
        have m6' : m' .last = some (.ref a) := by rw [m6]; simp [lastP, headP]
        repeat (first | refine XJ ?_ | simp only [↓Yt m1, m1, ↓Yt m2, m2, ↓Yt m5, m5, ↓Yt m6', m6', ↓Yb, ↓XQ, ↓YH, ↓Yd, ↓Ye, ↓Yg, ↓Yh, ↓Yi, ↓YI, ↓YJ, ↓Yj, ↓Yk, ↓XR, ↓XS, ↓YK, ↓Ym, ↓YL, ↓YM, ↓Yn, ↓YN, ↓YO, ↓XU, ↓YQ, ↓Yo, ↓YR, ↓Zk, ↓XV, ↓YS, ↓YT, ↓Zl, ↓YU, ↓Yp, ↓XW, ↓YV, ↓YW, ↓YX, ↓Yq, ↓YY, ↓YZ, ↓Y0, ↓Y1, ↓XX, ↓Xn, ↓Xo, ↓Y2, ↓Xp, ↓Xq, ↓Y3, ↓Yr, ↓Xr, ↓XY, ↓Ys, ↓Xd, ↓Xe, ↓Xf, ↓Y4, ↓Y5, ↓Y7, ↓Y8, ↓Y9, ↓Za, ↓Zb, ↓Zc, ↓Yu, ↓Yz, ↓YA, ↓YF, ↓Xi, ↓XM, ↓Xl, ↓Xb, ↓Xc, ↓Xm, ↓Xj, ↓XN, ↓Xk, ↓XO, Zd, Ze, Zf, Zg, Zh, Zi, Yv, Yw, Yx, Yy, Zj, X0, X1, Xg, Xu, X2, X3, YC, YD, XZ, Xs, Xv, Xw, X4, X5, X6, X7, X8, Xh, XA, XB, XC, XD, XE, XF, YE, X9, XH, setAll, Yl, reduceCtorEq, ne_eq, not_false_eq_true, if_true, if_false, Bool.false_eq_true, Option.map_some, decide_eq_true_eq, Bool.not_true, Bool.not_false, seq_u, ll, lR2, lc, decide_true])
        refine ⟨by unfold line; omega, by unfold line; omega, ?_⟩
        repeat (first | refine XJ ?_ | simp only [↓Yt m5, m5, ↓Yt m6', m6', ↓Yb, ↓XQ, ↓YH, ↓Yd, ↓Ye, ↓Yg, ↓Yh, ↓Yi, ↓YI, ↓YJ, ↓Yj, ↓Yk, ↓XR, ↓XS, ↓YK, ↓Ym, ↓YL, ↓YM, ↓Yn, ↓YN, ↓YO, ↓XU, ↓YQ, ↓Yo, ↓YR, ↓Zk, ↓XV, ↓YS, ↓YT, ↓Zl, ↓YU, ↓Yp, ↓XW, ↓YV, ↓YW, ↓YX, ↓Yq, ↓YY, ↓YZ, ↓Y0, ↓Y1, ↓XX, ↓Xn, ↓Xo, ↓Y2, ↓Xp, ↓Xq, ↓Y3, ↓Yr, ↓Xr, ↓XY, ↓Ys, ↓Xd, ↓Xe, ↓Xf, ↓Y4, ↓Y5, ↓Y7, ↓Y8, ↓Y9, ↓Za, ↓Zb, ↓Zc, ↓Yu, ↓Yz, ↓YA, ↓YF, ↓Xi, ↓XM, ↓Xl, ↓Xb, ↓Xc, ↓Xm, ↓Xj, ↓XN, ↓Xk, ↓XO, Zd, Ze, Zf, Zg, Zh, Zi, Yv, Yw, Yx, Yy, Zj, X0, X1, Xg, Xu, X2, X3, YC, YD, XZ, Xs, Xv, Xw, X4, X5, X6, X7, X8, Xh, XA, XB, XC, XD, XE, XF, YE, X9, XH, setAll, Yl, reduceCtorEq, ne_eq, not_false_eq_true, if_true, if_false, Bool.false_eq_true, Option.map_some, decide_eq_true_eq, Bool.not_true, Bool.not_false])
        refine c_own_length U it ?_
        repeat (first | refine XJ ?_ | simp only [↓Yt m1, m1, ↓Yt m2, m2, ↓Yt m5, m5, ↓Yt m6', m6', ↓Yb, ↓XQ, ↓YH, ↓Yd, ↓Ye, ↓Yg, ↓Yh, ↓Yi, ↓YI, ↓YJ, ↓Yj, ↓Yk, ↓XR, ↓XS, ↓YK, ↓Ym, ↓YL, ↓YM, ↓Yn, ↓YN, ↓YO, ↓XU, ↓YQ, ↓Yo, ↓YR, ↓Zk, ↓XV, ↓YS, ↓YT, ↓Zl, ↓YU, ↓Yp, ↓XW, ↓YV, ↓YW, ↓YX, ↓Yq, ↓YY, ↓YZ, ↓Y0, ↓Y1, ↓XX, ↓Xn, ↓Xo, ↓Y2, ↓Xp, ↓Xq, ↓Y3, ↓Yr, ↓Xr, ↓XY, ↓Ys, ↓Xd, ↓Xe, ↓Xf, ↓Y4, ↓Y5, ↓Y7, ↓Y8, ↓Y9, ↓Za, ↓Zb, ↓Zc, ↓Yu, ↓Yz, ↓YA, ↓YF, ↓Xi, ↓XM, ↓Xl, ↓Xb, ↓Xc, ↓Xm, ↓Xj, ↓XN, ↓Xk, ↓XO, Zd, Ze, Zf, Zg, Zh, Zi, Yv, Yw, Yx, Yy, Zj, X0, X1, Xg, Xu, X2, X3, YC, YD, XZ, Xs, Xv, Xw, X4, X5, X6, X7, X8, Xh, XA, XB, XC, XD, XE, XF, YE, X9, XH, setAll, Yl, reduceCtorEq, ne_eq, not_false_eq_true, if_true, if_false, Bool.false_eq_true, Option.map_some, decide_eq_true_eq, Bool.not_true, Bool.not_false, ↓Y6 it.1, YB it.1, ll])
        refine ⟨by unfold line; omega, ?_⟩
        have eh : rowsV (rs.map (·.2)).reverse ++ [.tup [.int o, p]] = rowsV (((a, o, p) :: rs).map (·.2)).reverse := by simp [rowsV, rowV]
        rw [eh]
        have H2 := HH (.lst (rowsV W.rows)) (.lst (rowsV (((a, o, p) :: rs).map (·.2)).reverse))
        have H2 := H2.at g1
        repeat (first | refine XJ ?_ | simp only [↓Yt m6', m6', ↓Yb, ↓XQ, ↓YH, ↓Yd, ↓Ye, ↓Yg, ↓Yh, ↓Yi, ↓YI, ↓YJ, ↓Yj, ↓Yk, ↓XR, ↓XS, ↓YK, ↓Ym, ↓YL, ↓YM, ↓Yn, ↓YN, ↓YO, ↓XU, ↓YQ, ↓Yo, ↓YR, ↓Zk, ↓XV, ↓YS, ↓YT, ↓Zl, ↓YU, ↓Yp, ↓XW, ↓YV, ↓YW, ↓YX, ↓Yq, ↓YY, ↓YZ, ↓Y0, ↓Y1, ↓XX, ↓Xn, ↓Xo, ↓Y2, ↓Xp, ↓Xq, ↓Y3, ↓Yr, ↓Xr, ↓XY, ↓Ys, ↓Xd, ↓Xe, ↓Xf, ↓Y4, ↓Y5, ↓Y7, ↓Y8, ↓Y9, ↓Za, ↓Zb, ↓Zc, ↓Yu, ↓Yz, ↓YA, ↓YF, ↓Xi, ↓XM, ↓Xl, ↓Xb, ↓Xc, ↓Xm, ↓Xj, ↓XN, ↓Xk, ↓XO, Zd, Ze, Zf, Zg, Zh, Zi, Yv, Yw, Yx, Yy, Zj, X0, X1, Xg, Xu, X2, X3, YC, YD, XZ, Xs, Xv, Xw, X4, X5, X6, X7, X8, Xh, XA, XB, XC, XD, XE, XF, YE, X9, XH, setAll, Yl, reduceCtorEq, ne_eq, not_false_eq_true, if_true, if_false, Bool.false_eq_true, Option.map_some, decide_eq_true_eq, Bool.not_true, Bool.not_false])
        refine c_preceding U H2 ?_
        repeat (first | refine XJ ?_ | simp only [↓Yt m1, m1, ↓Yt m2, m2, ↓Yt m3, m3, ↓Yt m4, m4, ↓Yt m5, m5, ↓Yb, ↓XQ, ↓YH, ↓Yd, ↓Ye, ↓Yg, ↓Yh, ↓Yi, ↓YI, ↓YJ, ↓Yj, ↓Yk, ↓XR, ↓XS, ↓YK, ↓Ym, ↓YL, ↓YM, ↓Yn, ↓YN, ↓YO, ↓XU, ↓YQ, ↓Yo, ↓YR, ↓Zk, ↓XV, ↓YS, ↓YT, ↓Zl, ↓YU, ↓Yp, ↓XW, ↓YV, ↓YW, ↓YX, ↓Yq, ↓YY, ↓YZ, ↓Y0, ↓Y1, ↓XX, ↓Xn, ↓Xo, ↓Y2, ↓Xp, ↓Xq, ↓Y3, ↓Yr, ↓Xr, ↓XY, ↓Ys, ↓Xd, ↓Xe, ↓Xf, ↓Y4, ↓Y5, ↓Y7, ↓Y8, ↓Y9, ↓Za, ↓Zb, ↓Zc, ↓Yu, ↓Yz, ↓YA, ↓YF, ↓Xi, ↓XM, ↓Xl, ↓Xb, ↓Xc, ↓Xm, ↓Xj, ↓XN, ↓Xk, ↓XO, Zd, Ze, Zf, Zg, Zh, Zi, Yv, Yw, Yx, Yy, Zj, X0, X1, Xg, Xu, X2, X3, YC, YD, XZ, Xs, Xv, Xw, X4, X5, X6, X7, X8, Xh, XA, XB, XC, XD, XE, XF, YE, X9, XH, setAll, Yl, reduceCtorEq, ne_eq, not_false_eq_true, if_true, if_false, Bool.false_eq_true, Option.map_some, decide_eq_true_eq, Bool.not_true, Bool.not_false, true_and])
        exact ⟨ds'.length, by simp, ds', (a, o, p) :: rs, by rw [eW]; simp, by rw [g2], rfl, rfl⟩
end
end Mine

namespace Mine
theorem firsts_rows : ∀ rs : List (Int × V), firsts (rowsV rs) = some ((rs.map (·.1)).map V.int)
  | [] => rfl
  | (o, p) :: rs => by
    show firsts (.tup [.int o, p] :: rowsV rs) = _
    simp [firsts, firsts_rows rs]
theorem PotOk.frame {h h' : Hp} {pot : Nat} (P : PotOk h pot) (e : h' pot = h pot) : PotOk h' pot := by
  obtain ⟨zs, i, s, q, r⟩ := P
  exact ⟨zs, i, s, e.trans q, r⟩
theorem PotOk.some {h : Hp} {pot : Nat} (P : PotOk h pot) : ∃ o, h pot = .some o := by
  obtain ⟨zs, i, s, q, r⟩ := P
  exact ⟨_, q⟩
/-- the state between the turns of law -/
structure LInv (h : Hp) (rt pot : Nat) (W : T) (n : Nat) : Prop where
  H : Holds h rt W
  P : Pos W
  D : DataR W.rows
  pok : PotOk h pot
  pr : pot ≠ rt
  pw : pot ∉ W.ads
  tot : W.tot + 3 * n ≤ 100
theorem LInv.dip {h h' : Hp} {rt pot : Nat} {W : T} {n : Nat} (I : LInv h rt pot W n) (P : PotOk h' pot) (f : ∀ x, x ≠ pot → h' x = h x) : LInv h' rt pot W n :=
  ⟨I.H.frame fun x m => f x fun z => by
    subst z
    rcases m with m | m
    · exact I.pr m
    · exact I.pw m, I.P, I.D, P, I.pr, I.pw, I.tot⟩
theorem LInv.step {h h' : Hp} {rt pot : Nat} {W W' : T} {n n' : Nat} (I : LInv h rt pot W n) (S : Step h rt W h' W') (P : PosR W'.rows) (D : DataR W'.rows) (t : sumR W'.rows + 3 * n' ≤ 100) : LInv h' rt pot W' n' := by
  obtain ⟨o, ho⟩ := I.pok.some
  refine ⟨S.holds, posR_rows.mpr P, D, I.pok.frame ((S.keep pot o I.pr I.pw ho).trans ho.symm), I.pr, fun m => ?_, by rw [tot_rows]; exact t⟩
  rcases S.new pot m with z | z
  · exact I.pw z
  · rw [z] at ho; cases ho
section
variable {Γ : Ctr} (U : Base Γ) (L : LawC Γ)
include U L
theorem law_turn {h : Hp} {rt pot : Nat} {W : T} {n : Nat} {m : Loc} {post : Post} (I : LInv h rt pot W (n + 1)) (m1 : m .pot = some (.ref pot)) (m2 : m .tree = some (.ref rt)) (m3 : m .cases = some (.fl (rowsV W.rows)))
    (k : ∀ h' W' m', LInv h' rt pot W' n → m' .pot = some (.ref pot) → m' .tree = some (.ref rt) → m' .cases = some (.fl (rowsV W'.rows)) → post .next m' h') : later Γ l_law_1 post m h := by
  have lW := Pos.len I.P
  have t0 := Pos.tot I.P
  have tt := I.tot
  have PR := posR_rows.mp I.P
  have fin : ∀ h' W' (m' : Loc) (F : V → Hp → Prop), LInv h' rt pot W' n → (F (.bool true) h') → Γ .law_is_as [.ref rt, .fl (rowsV W'.rows)] F h' := fun h' W' m' F I' hF => c_law_is_as U L I'.H I'.P I'.D (by have := I'.tot; omega) hF
  have f1 := firsts_rows W.rows
  have f2 : sumInts ((W.rows.map (·.1)).map V.int) = some W.tot := by rw [sumInts_map, tot_rows]; rfl
  refine XT l_law_1.eq_1 ?_
  repeat (first | refine XJ ?_ | simp only [↓Yt m1, m1, ↓Yt m2, m2, ↓Yt m3, m3, f1, f2, ↓Yb, ↓XQ, ↓YH, ↓Yd, ↓Ye, ↓Yg, ↓Yh, ↓Yi, ↓YI, ↓YJ, ↓Yj, ↓Yk, ↓XR, ↓XS, ↓YK, ↓Ym, ↓YL, ↓YM, ↓Yn, ↓YN, ↓YO, ↓XU, ↓YQ, ↓Yo, ↓YR, ↓Zk, ↓XV, ↓YS, ↓YT, ↓Zl, ↓YU, ↓Yp, ↓XW, ↓YV, ↓YW, ↓YX, ↓Yq, ↓YY, ↓YZ, ↓Y0, ↓Y1, ↓XX, ↓Xn, ↓Xo, ↓Y2, ↓Xp, ↓Xq, ↓Y3, ↓Yr, ↓Xr, ↓XY, ↓Ys, ↓Xd, ↓Xe, ↓Xf, ↓Y4, ↓Y5, ↓Y7, ↓Y8, ↓Y9, ↓Za, ↓Zb, ↓Zc, ↓Yu, ↓Yz, ↓YA, ↓YF, ↓Xi, ↓XM, ↓Xl, ↓Xb, ↓Xc, ↓Xm, ↓Xj, ↓XN, ↓Xk, ↓XO, Zd, Ze, Zf, Zg, Zh, Zi, Yv, Yw, Yx, Yy, Zj, X0, X1, Xg, Xu, X2, X3, YC, YD, XZ, Xs, Xv, Xw, X4, X5, X6, X7, X8, Xh, XA, XB, XC, XD, XE, XF, YE, X9, XH, setAll, Yl, reduceCtorEq, ne_eq, not_false_eq_true, if_true, if_false, Bool.false_eq_true, Option.map_some, decide_eq_true_eq, Bool.not_true, Bool.not_false])
  refine ⟨by rw [rowsV_len, rows_len]; unfold line; omega, ?_⟩
  repeat (first | refine XJ ?_ | simp only [↓Yt m1, m1, ↓Yt m2, m2, ↓Yt m3, m3, ↓Yb, ↓XQ, ↓YH, ↓Yd, ↓Ye, ↓Yg, ↓Yh, ↓Yi, ↓YI, ↓YJ, ↓Yj, ↓Yk, ↓XR, ↓XS, ↓YK, ↓Ym, ↓YL, ↓YM, ↓Yn, ↓YN, ↓YO, ↓XU, ↓YQ, ↓Yo, ↓YR, ↓Zk, ↓XV, ↓YS, ↓YT, ↓Zl, ↓YU, ↓Yp, ↓XW, ↓YV, ↓YW, ↓YX, ↓Yq, ↓YY, ↓YZ, ↓Y0, ↓Y1, ↓XX, ↓Xn, ↓Xo, ↓Y2, ↓Xp, ↓Xq, ↓Y3, ↓Yr, ↓Xr, ↓XY, ↓Ys, ↓Xd, ↓Xe, ↓Xf, ↓Y4, ↓Y5, ↓Y7, ↓Y8, ↓Y9, ↓Za, ↓Zb, ↓Zc, ↓Yu, ↓Yz, ↓YA, ↓YF, ↓Xi, ↓XM, ↓Xl, ↓Xb, ↓Xc, ↓Xm, ↓Xj, ↓XN, ↓Xk, ↓XO, Zd, Ze, Zf, Zg, Zh, Zi, Yv, Yw, Yx, Yy, Zj, X0, X1, Xg, Xu, X2, X3, YC, YD, XZ, Xs, Xv, Xw, X4, X5, X6, X7, X8, Xh, XA, XB, XC, XD, XE, XF, YE, X9, XH, setAll, Yl, reduceCtorEq, ne_eq, not_false_eq_true, if_true, if_false, Bool.false_eq_true, Option.map_some, decide_eq_true_eq, Bool.not_true, Bool.not_false])
  refine c_law_dip L (by omega) I.pok fun way h1 w0 w1 P1 fr1 => ?_
  have I1 := I.dip P1 fr1
  repeat (first | refine XJ ?_ | simp only [↓Yt m1, m1, ↓Yt m2, m2, ↓Yt m3, m3, ↓Yb, ↓XQ, ↓YH, ↓Yd, ↓Ye, ↓Yg, ↓Yh, ↓Yi, ↓YI, ↓YJ, ↓Yj, ↓Yk, ↓XR, ↓XS, ↓YK, ↓Ym, ↓YL, ↓YM, ↓Yn, ↓YN, ↓YO, ↓XU, ↓YQ, ↓Yo, ↓YR, ↓Zk, ↓XV, ↓YS, ↓YT, ↓Zl, ↓YU, ↓Yp, ↓XW, ↓YV, ↓YW, ↓YX, ↓Yq, ↓YY, ↓YZ, ↓Y0, ↓Y1, ↓XX, ↓Xn, ↓Xo, ↓Y2, ↓Xp, ↓Xq, ↓Y3, ↓Yr, ↓Xr, ↓XY, ↓Ys, ↓Xd, ↓Xe, ↓Xf, ↓Y4, ↓Y5, ↓Y7, ↓Y8, ↓Y9, ↓Za, ↓Zb, ↓Zc, ↓Yu, ↓Yz, ↓YA, ↓YF, ↓Xi, ↓XM, ↓Xl, ↓Xb, ↓Xc, ↓Xm, ↓Xj, ↓XN, ↓Xk, ↓XO, Zd, Ze, Zf, Zg, Zh, Zi, Yv, Yw, Yx, Yy, Zj, X0, X1, Xg, Xu, X2, X3, YC, YD, XZ, Xs, Xv, Xw, X4, X5, X6, X7, X8, Xh, XA, XB, XC, XD, XE, XF, YE, X9, XH, setAll, Yl, reduceCtorEq, ne_eq, not_false_eq_true, if_true, if_false, Bool.false_eq_true, Option.map_some, decide_eq_true_eq, Bool.not_true, Bool.not_false])
  refine c_law_dip L (by omega) P1 fun at_ h2 a0 a1 P2 fr2 => ?_
  have I2 := I1.dip P2 fr2
  repeat (first | refine XJ ?_ | simp only [↓Yt m1, m1, ↓Yt m2, m2, ↓Yt m3, m3, ↓Yb, ↓XQ, ↓YH, ↓Yd, ↓Ye, ↓Yg, ↓Yh, ↓Yi, ↓YI, ↓YJ, ↓Yj, ↓Yk, ↓XR, ↓XS, ↓YK, ↓Ym, ↓YL, ↓YM, ↓Yn, ↓YN, ↓YO, ↓XU, ↓YQ, ↓Yo, ↓YR, ↓Zk, ↓XV, ↓YS, ↓YT, ↓Zl, ↓YU, ↓Yp, ↓XW, ↓YV, ↓YW, ↓YX, ↓Yq, ↓YY, ↓YZ, ↓Y0, ↓Y1, ↓XX, ↓Xn, ↓Xo, ↓Y2, ↓Xp, ↓Xq, ↓Y3, ↓Yr, ↓Xr, ↓XY, ↓Ys, ↓Xd, ↓Xe, ↓Xf, ↓Y4, ↓Y5, ↓Y7, ↓Y8, ↓Y9, ↓Za, ↓Zb, ↓Zc, ↓Yu, ↓Yz, ↓YA, ↓YF, ↓Xi, ↓XM, ↓Xl, ↓Xb, ↓Xc, ↓Xm, ↓Xj, ↓XN, ↓Xk, ↓XO, Zd, Ze, Zf, Zg, Zh, Zi, Yv, Yw, Yx, Yy, Zj, X0, X1, Xg, Xu, X2, X3, YC, YD, XZ, Xs, Xv, Xw, X4, X5, X6, X7, X8, Xh, XA, XB, XC, XD, XE, XF, YE, X9, XH, setAll, Yl, reduceCtorEq, ne_eq, not_false_eq_true, if_true, if_false, Bool.false_eq_true, Option.map_some, decide_eq_true_eq, Bool.not_true, Bool.not_false])
  by_cases c1 : way < 2
  · repeat (first | refine XJ ?_ | simp only [c1, decide_true, ↓Yt m1, m1, ↓Yt m2, m2, ↓Yt m3, m3, ↓Yb, ↓XQ, ↓YH, ↓Yd, ↓Ye, ↓Yg, ↓Yh, ↓Yi, ↓YI, ↓YJ, ↓Yj, ↓Yk, ↓XR, ↓XS, ↓YK, ↓Ym, ↓YL, ↓YM, ↓Yn, ↓YN, ↓YO, ↓XU, ↓YQ, ↓Yo, ↓YR, ↓Zk, ↓XV, ↓YS, ↓YT, ↓Zl, ↓YU, ↓Yp, ↓XW, ↓YV, ↓YW, ↓YX, ↓Yq, ↓YY, ↓YZ, ↓Y0, ↓Y1, ↓XX, ↓Xn, ↓Xo, ↓Y2, ↓Xp, ↓Xq, ↓Y3, ↓Yr, ↓Xr, ↓XY, ↓Ys, ↓Xd, ↓Xe, ↓Xf, ↓Y4, ↓Y5, ↓Y7, ↓Y8, ↓Y9, ↓Za, ↓Zb, ↓Zc, ↓Yu, ↓Yz, ↓YA, ↓YF, ↓Xi, ↓XM, ↓Xl, ↓Xb, ↓Xc, ↓Xm, ↓Xj, ↓XN, ↓Xk, ↓XO, Zd, Ze, Zf, Zg, Zh, Zi, Yv, Yw, Yx, Yy, Zj, X0, X1, Xg, Xu, X2, X3, YC, YD, XZ, Xs, Xv, Xw, X4, X5, X6, X7, X8, Xh, XA, XB, XC, XD, XE, XF, YE, X9, XH, setAll, Yl, reduceCtorEq, ne_eq, not_false_eq_true, if_true, if_false, Bool.false_eq_true, Option.map_some, decide_eq_true_eq, Bool.not_true, Bool.not_false])
    refine c_law_dip L (by omega) P2 fun many h3 b0 b1 P3 fr3 => ?_
    have I3 := I2.dip P3 fr3
    repeat (first | refine XJ ?_ | simp only [↓Yt m1, m1, ↓Yt m2, m2, ↓Yt m3, m3, ↓Yb, ↓XQ, ↓YH, ↓Yd, ↓Ye, ↓Yg, ↓Yh, ↓Yi, ↓YI, ↓YJ, ↓Yj, ↓Yk, ↓XR, ↓XS, ↓YK, ↓Ym, ↓YL, ↓YM, ↓Yn, ↓YN, ↓YO, ↓XU, ↓YQ, ↓Yo, ↓YR, ↓Zk, ↓XV, ↓YS, ↓YT, ↓Zl, ↓YU, ↓Yp, ↓XW, ↓YV, ↓YW, ↓YX, ↓Yq, ↓YY, ↓YZ, ↓Y0, ↓Y1, ↓XX, ↓Xn, ↓Xo, ↓Y2, ↓Xp, ↓Xq, ↓Y3, ↓Yr, ↓Xr, ↓XY, ↓Ys, ↓Xd, ↓Xe, ↓Xf, ↓Y4, ↓Y5, ↓Y7, ↓Y8, ↓Y9, ↓Za, ↓Zb, ↓Zc, ↓Yu, ↓Yz, ↓YA, ↓YF, ↓Xi, ↓XM, ↓Xl, ↓Xb, ↓Xc, ↓Xm, ↓Xj, ↓XN, ↓Xk, ↓XO, Zd, Ze, Zf, Zg, Zh, Zi, Yv, Yw, Yx, Yy, Zj, X0, X1, Xg, Xu, X2, X3, YC, YD, XZ, Xs, Xv, Xw, X4, X5, X6, X7, X8, Xh, XA, XB, XC, XD, XE, XF, YE, X9, XH, setAll, Yl, reduceCtorEq, ne_eq, not_false_eq_true, if_true, if_false, Bool.false_eq_true, Option.map_some, decide_eq_true_eq, Bool.not_true, Bool.not_false])
    refine c_law_dip L (by omega) P3 fun q h4 d0 d1 P4 fr4 => ?_
    have I4 := I3.dip P4 fr4
    repeat (first | refine XJ ?_ | simp only [↓Yt m1, m1, ↓Yt m2, m2, ↓Yt m3, m3, ↓Yb, ↓XQ, ↓YH, ↓Yd, ↓Ye, ↓Yg, ↓Yh, ↓Yi, ↓YI, ↓YJ, ↓Yj, ↓Yk, ↓XR, ↓XS, ↓YK, ↓Ym, ↓YL, ↓YM, ↓Yn, ↓YN, ↓YO, ↓XU, ↓YQ, ↓Yo, ↓YR, ↓Zk, ↓XV, ↓YS, ↓YT, ↓Zl, ↓YU, ↓Yp, ↓XW, ↓YV, ↓YW, ↓YX, ↓Yq, ↓YY, ↓YZ, ↓Y0, ↓Y1, ↓XX, ↓Xn, ↓Xo, ↓Y2, ↓Xp, ↓Xq, ↓Y3, ↓Yr, ↓Xr, ↓XY, ↓Ys, ↓Xd, ↓Xe, ↓Xf, ↓Y4, ↓Y5, ↓Y7, ↓Y8, ↓Y9, ↓Za, ↓Zb, ↓Zc, ↓Yu, ↓Yz, ↓YA, ↓YF, ↓Xi, ↓XM, ↓Xl, ↓Xb, ↓Xc, ↓Xm, ↓Xj, ↓XN, ↓Xk, ↓XO, Zd, Ze, Zf, Zg, Zh, Zi, Yv, Yw, Yx, Yy, Zj, X0, X1, Xg, Xu, X2, X3, YC, YD, XZ, Xs, Xv, Xw, X4, X5, X6, X7, X8, Xh, XA, XB, XC, XD, XE, XF, YE, X9, XH, setAll, Yl, reduceCtorEq, ne_eq, not_false_eq_true, if_true, if_false, Bool.false_eq_true, Option.map_some, decide_eq_true_eq, Bool.not_true, Bool.not_false])
    refine c_insert_interval U I4.H I4.P a0 (by omega) b0 (by omega) fun h5 W' S e1 e2 => ?_
    repeat (first | refine XJ ?_ | simp only [↓Yt m1, m1, ↓Yt m2, m2, ↓Yt m3, m3, ↓Yb, ↓XQ, ↓YH, ↓Yd, ↓Ye, ↓Yg, ↓Yh, ↓Yi, ↓YI, ↓YJ, ↓Yj, ↓Yk, ↓XR, ↓XS, ↓YK, ↓Ym, ↓YL, ↓YM, ↓Yn, ↓YN, ↓YO, ↓XU, ↓YQ, ↓Yo, ↓YR, ↓Zk, ↓XV, ↓YS, ↓YT, ↓Zl, ↓YU, ↓Yp, ↓XW, ↓YV, ↓YW, ↓YX, ↓Yq, ↓YY, ↓YZ, ↓Y0, ↓Y1, ↓XX, ↓Xn, ↓Xo, ↓Y2, ↓Xp, ↓Xq, ↓Y3, ↓Yr, ↓Xr, ↓XY, ↓Ys, ↓Xd, ↓Xe, ↓Xf, ↓Y4, ↓Y5, ↓Y7, ↓Y8, ↓Y9, ↓Za, ↓Zb, ↓Zc, ↓Yu, ↓Yz, ↓YA, ↓YF, ↓Xi, ↓XM, ↓Xl, ↓Xb, ↓Xc, ↓Xm, ↓Xj, ↓XN, ↓Xk, ↓XO, Zd, Ze, Zf, Zg, Zh, Zi, Yv, Yw, Yx, Yy, Zj, X0, X1, Xg, Xu, X2, X3, YC, YD, XZ, Xs, Xv, Xw, X4, X5, X6, X7, X8, Xh, XA, XB, XC, XD, XE, XF, YE, X9, XH, setAll, Yl, reduceCtorEq, ne_eq, not_false_eq_true, if_true, if_false, Bool.false_eq_true, Option.map_some, decide_eq_true_eq, Bool.not_true, Bool.not_false])
    refine c_law_came L PR (by rw [← tot_rows]; omega) a0 (by rw [← tot_rows]; omega) b0 fun rs' e3 e4 => ?_
    obtain ⟨us, vs, q1, q2⟩ := partR_cut (b := 0) (i := at_) PR a0 (by rw [← tot_rows]; omega)
    have er : rs' = W'.rows := by
      by_cases z : many = 0
      · rw [e1 z, e3 z]
      · rw [e2 (by omega) us vs q1 (by omega), e4 (by omega) us vs q1 (by omega)]
    have props : PosR W'.rows ∧ DataR W'.rows ∧ sumR W'.rows = W.tot + many := by
      by_cases z : many = 0
      · rw [e1 z]; exact ⟨PR, I.D, by rw [tot_rows]; omega⟩
      · rw [e2 (by omega) us vs q1 (by omega)]
        have p1 : PosR (us ++ vs) := q1 ▸ partR_pos PR
        have p2 : DataR (us ++ vs) := q1 ▸ I.D.part
        have p3 : sumR (us ++ vs) = W.tot := by rw [← q1, partR_sum, tot_rows]
        rw [PosR.append] at p1
        rw [DataR.append] at p2
        rw [sumR_append] at p3
        rw [PosR.append, PosR.cons, DataR.append, DataR.cons, sumR_append, sumR_cons]
        exact ⟨⟨p1.1, by omega, p1.2⟩, ⟨p2.1, ⟨rfl, rfl, rfl⟩, p2.2⟩, by omega⟩
    have I5 := I4.step (n' := n) S props.1 props.2.1 (by rw [props.2.2]; omega)
    rw [er]
    repeat (first | refine XJ ?_ | simp only [↓Yt m1, m1, ↓Yt m2, m2, ↓Yt m3, m3, ↓Yb, ↓XQ, ↓YH, ↓Yd, ↓Ye, ↓Yg, ↓Yh, ↓Yi, ↓YI, ↓YJ, ↓Yj, ↓Yk, ↓XR, ↓XS, ↓YK, ↓Ym, ↓YL, ↓YM, ↓Yn, ↓YN, ↓YO, ↓XU, ↓YQ, ↓Yo, ↓YR, ↓Zk, ↓XV, ↓YS, ↓YT, ↓Zl, ↓YU, ↓Yp, ↓XW, ↓YV, ↓YW, ↓YX, ↓Yq, ↓YY, ↓YZ, ↓Y0, ↓Y1, ↓XX, ↓Xn, ↓Xo, ↓Y2, ↓Xp, ↓Xq, ↓Y3, ↓Yr, ↓Xr, ↓XY, ↓Ys, ↓Xd, ↓Xe, ↓Xf, ↓Y4, ↓Y5, ↓Y7, ↓Y8, ↓Y9, ↓Za, ↓Zb, ↓Zc, ↓Yu, ↓Yz, ↓YA, ↓YF, ↓Xi, ↓XM, ↓Xl, ↓Xb, ↓Xc, ↓Xm, ↓Xj, ↓XN, ↓Xk, ↓XO, Zd, Ze, Zf, Zg, Zh, Zi, Yv, Yw, Yx, Yy, Zj, X0, X1, Xg, Xu, X2, X3, YC, YD, XZ, Xs, Xv, Xw, X4, X5, X6, X7, X8, Xh, XA, XB, XC, XD, XE, XF, YE, X9, XH, setAll, Yl, reduceCtorEq, ne_eq, not_false_eq_true, if_true, if_false, Bool.false_eq_true, Option.map_some, decide_eq_true_eq, Bool.not_true, Bool.not_false])
    refine fin h5 W' m _ I5 ?_
    repeat (first | refine XJ ?_ | simp only [↓Yt m1, m1, ↓Yt m2, m2, ↓Yt m3, m3, ↓Yb, ↓XQ, ↓YH, ↓Yd, ↓Ye, ↓Yg, ↓Yh, ↓Yi, ↓YI, ↓YJ, ↓Yj, ↓Yk, ↓XR, ↓XS, ↓YK, ↓Ym, ↓YL, ↓YM, ↓Yn, ↓YN, ↓YO, ↓XU, ↓YQ, ↓Yo, ↓YR, ↓Zk, ↓XV, ↓YS, ↓YT, ↓Zl, ↓YU, ↓Yp, ↓XW, ↓YV, ↓YW, ↓YX, ↓Yq, ↓YY, ↓YZ, ↓Y0, ↓Y1, ↓XX, ↓Xn, ↓Xo, ↓Y2, ↓Xp, ↓Xq, ↓Y3, ↓Yr, ↓Xr, ↓XY, ↓Ys, ↓Xd, ↓Xe, ↓Xf, ↓Y4, ↓Y5, ↓Y7, ↓Y8, ↓Y9, ↓Za, ↓Zb, ↓Zc, ↓Yu, ↓Yz, ↓YA, ↓YF, ↓Xi, ↓XM, ↓Xl, ↓Xb, ↓Xc, ↓Xm, ↓Xj, ↓XN, ↓Xk, ↓XO, Zd, Ze, Zf, Zg, Zh, Zi, Yv, Yw, Yx, Yy, Zj, X0, X1, Xg, Xu, X2, X3, YC, YD, XZ, Xs, Xv, Xw, X4, X5, X6, X7, X8, Xh, XA, XB, XC, XD, XE, XF, YE, X9, XH, setAll, Yl, reduceCtorEq, ne_eq, not_false_eq_true, if_true, if_false, Bool.false_eq_true, Option.map_some, decide_eq_true_eq, Bool.not_true, Bool.not_false])
    exact k _ W' _ I5 (by simp [setL, m1]) (by simp [setL, m2]) rfl
  · repeat (first | refine XJ ?_ | simp only [c1, decide_false, ↓Yt m1, m1, ↓Yt m2, m2, ↓Yt m3, m3, ↓Yb, ↓XQ, ↓YH, ↓Yd, ↓Ye, ↓Yg, ↓Yh, ↓Yi, ↓YI, ↓YJ, ↓Yj, ↓Yk, ↓XR, ↓XS, ↓YK, ↓Ym, ↓YL, ↓YM, ↓Yn, ↓YN, ↓YO, ↓XU, ↓YQ, ↓Yo, ↓YR, ↓Zk, ↓XV, ↓YS, ↓YT, ↓Zl, ↓YU, ↓Yp, ↓XW, ↓YV, ↓YW, ↓YX, ↓Yq, ↓YY, ↓YZ, ↓Y0, ↓Y1, ↓XX, ↓Xn, ↓Xo, ↓Y2, ↓Xp, ↓Xq, ↓Y3, ↓Yr, ↓Xr, ↓XY, ↓Ys, ↓Xd, ↓Xe, ↓Xf, ↓Y4, ↓Y5, ↓Y7, ↓Y8, ↓Y9, ↓Za, ↓Zb, ↓Zc, ↓Yu, ↓Yz, ↓YA, ↓YF, ↓Xi, ↓XM, ↓Xl, ↓Xb, ↓Xc, ↓Xm, ↓Xj, ↓XN, ↓Xk, ↓XO, Zd, Ze, Zf, Zg, Zh, Zi, Yv, Yw, Yx, Yy, Zj, X0, X1, Xg, Xu, X2, X3, YC, YD, XZ, Xs, Xv, Xw, X4, X5, X6, X7, X8, Xh, XA, XB, XC, XD, XE, XF, YE, X9, XH, setAll, Yl, reduceCtorEq, ne_eq, not_false_eq_true, if_true, if_false, Bool.false_eq_true, Option.map_some, decide_eq_true_eq, Bool.not_true, Bool.not_false])
    by_cases c2 : way = 2
    · rw [show (way == 2) = true by simpa using c2]
      repeat (first | refine XJ ?_ | simp only [↓Yt m1, m1, ↓Yt m2, m2, ↓Yt m3, m3, ↓Yb, ↓XQ, ↓YH, ↓Yd, ↓Ye, ↓Yg, ↓Yh, ↓Yi, ↓YI, ↓YJ, ↓Yj, ↓Yk, ↓XR, ↓XS, ↓YK, ↓Ym, ↓YL, ↓YM, ↓Yn, ↓YN, ↓YO, ↓XU, ↓YQ, ↓Yo, ↓YR, ↓Zk, ↓XV, ↓YS, ↓YT, ↓Zl, ↓YU, ↓Yp, ↓XW, ↓YV, ↓YW, ↓YX, ↓Yq, ↓YY, ↓YZ, ↓Y0, ↓Y1, ↓XX, ↓Xn, ↓Xo, ↓Y2, ↓Xp, ↓Xq, ↓Y3, ↓Yr, ↓Xr, ↓XY, ↓Ys, ↓Xd, ↓Xe, ↓Xf, ↓Y4, ↓Y5, ↓Y7, ↓Y8, ↓Y9, ↓Za, ↓Zb, ↓Zc, ↓Yu, ↓Yz, ↓YA, ↓YF, ↓Xi, ↓XM, ↓Xl, ↓Xb, ↓Xc, ↓Xm, ↓Xj, ↓XN, ↓Xk, ↓XO, Zd, Ze, Zf, Zg, Zh, Zi, Yv, Yw, Yx, Yy, Zj, X0, X1, Xg, Xu, X2, X3, YC, YD, XZ, Xs, Xv, Xw, X4, X5, X6, X7, X8, Xh, XA, XB, XC, XD, XE, XF, YE, X9, XH, setAll, Yl, reduceCtorEq, ne_eq, not_false_eq_true, if_true, if_false, Bool.false_eq_true, Option.map_some, decide_eq_true_eq, Bool.not_true, Bool.not_false])
      refine c_law_dip L (by omega) P2 fun ln h3 b0 b1 P3 fr3 => ?_
      have I3 := I2.dip P3 fr3
      repeat (first | refine XJ ?_ | simp only [↓Yt m1, m1, ↓Yt m2, m2, ↓Yt m3, m3, ↓Yb, ↓XQ, ↓YH, ↓Yd, ↓Ye, ↓Yg, ↓Yh, ↓Yi, ↓YI, ↓YJ, ↓Yj, ↓Yk, ↓XR, ↓XS, ↓YK, ↓Ym, ↓YL, ↓YM, ↓Yn, ↓YN, ↓YO, ↓XU, ↓YQ, ↓Yo, ↓YR, ↓Zk, ↓XV, ↓YS, ↓YT, ↓Zl, ↓YU, ↓Yp, ↓XW, ↓YV, ↓YW, ↓YX, ↓Yq, ↓YY, ↓YZ, ↓Y0, ↓Y1, ↓XX, ↓Xn, ↓Xo, ↓Y2, ↓Xp, ↓Xq, ↓Y3, ↓Yr, ↓Xr, ↓XY, ↓Ys, ↓Xd, ↓Xe, ↓Xf, ↓Y4, ↓Y5, ↓Y7, ↓Y8, ↓Y9, ↓Za, ↓Zb, ↓Zc, ↓Yu, ↓Yz, ↓YA, ↓YF, ↓Xi, ↓XM, ↓Xl, ↓Xb, ↓Xc, ↓Xm, ↓Xj, ↓XN, ↓Xk, ↓XO, Zd, Ze, Zf, Zg, Zh, Zi, Yv, Yw, Yx, Yy, Zj, X0, X1, Xg, Xu, X2, X3, YC, YD, XZ, Xs, Xv, Xw, X4, X5, X6, X7, X8, Xh, XA, XB, XC, XD, XE, XF, YE, X9, XH, setAll, Yl, reduceCtorEq, ne_eq, not_false_eq_true, if_true, if_false, Bool.false_eq_true, Option.map_some, decide_eq_true_eq, Bool.not_true, Bool.not_false])
      refine c_delete_range U I3.H I3.P a0 (by omega) (by omega) (by omega) fun h5 W' S e1 e2 => ?_
      repeat (first | refine XJ ?_ | simp only [↓Yt m1, m1, ↓Yt m2, m2, ↓Yt m3, m3, ↓Yb, ↓XQ, ↓YH, ↓Yd, ↓Ye, ↓Yg, ↓Yh, ↓Yi, ↓YI, ↓YJ, ↓Yj, ↓Yk, ↓XR, ↓XS, ↓YK, ↓Ym, ↓YL, ↓YM, ↓Yn, ↓YN, ↓YO, ↓XU, ↓YQ, ↓Yo, ↓YR, ↓Zk, ↓XV, ↓YS, ↓YT, ↓Zl, ↓YU, ↓Yp, ↓XW, ↓YV, ↓YW, ↓YX, ↓Yq, ↓YY, ↓YZ, ↓Y0, ↓Y1, ↓XX, ↓Xn, ↓Xo, ↓Y2, ↓Xp, ↓Xq, ↓Y3, ↓Yr, ↓Xr, ↓XY, ↓Ys, ↓Xd, ↓Xe, ↓Xf, ↓Y4, ↓Y5, ↓Y7, ↓Y8, ↓Y9, ↓Za, ↓Zb, ↓Zc, ↓Yu, ↓Yz, ↓YA, ↓YF, ↓Xi, ↓XM, ↓Xl, ↓Xb, ↓Xc, ↓Xm, ↓Xj, ↓XN, ↓Xk, ↓XO, Zd, Ze, Zf, Zg, Zh, Zi, Yv, Yw, Yx, Yy, Zj, X0, X1, Xg, Xu, X2, X3, YC, YD, XZ, Xs, Xv, Xw, X4, X5, X6, X7, X8, Xh, XA, XB, XC, XD, XE, XF, YE, X9, XH, setAll, Yl, reduceCtorEq, ne_eq, not_false_eq_true, if_true, if_false, Bool.false_eq_true, Option.map_some, decide_eq_true_eq, Bool.not_true, Bool.not_false])
      refine c_law_gone L PR (by rw [← tot_rows]; omega) a0 (by omega) (by rw [← tot_rows]; omega) fun rs' e3 e4 => ?_
      obtain ⟨us, ys, d1, d2⟩ := partR_cut (b := 0) (i := at_) PR a0 (by rw [← tot_rows]; omega)
      have pc0 : PosR (us ++ ys) := d1 ▸ partR_pos PR
      have pc := pc0
      rw [PosR.append] at pc
      have sy : sumR us + sumR ys = sumR W.rows := by rw [← sumR_append, ← d1, partR_sum]
      rw [← tot_rows] at sy
      obtain ⟨ms, vs, d3, d4⟩ := partR_cut (b := at_) (i := at_ + ln) pc.2 (by omega) (by omega)
      have rows2 : partR 0 (at_ + ln) (partR 0 at_ W.rows) = us ++ (ms ++ vs) := by
        rw [d1, partR_append, partR_high pc.1 (by omega), show 0 + sumR us = at_ by omega, d3]
      have er : rs' = W'.rows := by
        by_cases z : at_ = at_ + ln
        · rw [e1 z, e3 z]
        · rw [e2 (by omega) us ms vs rows2 (by omega) (by omega), e4 (by omega) us ms vs rows2 (by omega) (by omega)]
      have props : PosR W'.rows ∧ DataR W'.rows ∧ sumR W'.rows ≤ W.tot := by
        by_cases z : at_ = at_ + ln
        · rw [e1 z]; exact ⟨PR, I.D, by rw [tot_rows]; omega⟩
        · rw [e2 (by omega) us ms vs rows2 (by omega) (by omega)]
          have p1 : PosR (us ++ (ms ++ vs)) := rows2 ▸ partR_pos (partR_pos PR)
          have p2 : DataR (us ++ (ms ++ vs)) := rows2 ▸ I.D.part.part
          have p3 : sumR (us ++ (ms ++ vs)) = W.tot := by rw [← rows2, partR_sum, partR_sum, tot_rows]
          rw [PosR.append, PosR.append] at p1
          rw [DataR.append, DataR.append] at p2
          rw [sumR_append, sumR_append] at p3
          have := p1.2.1.sum
          rw [PosR.append, DataR.append, sumR_append]
          exact ⟨⟨p1.1, p1.2.2⟩, ⟨p2.1, p2.2.2⟩, by omega⟩
      have I5 := I3.step (n' := n) S props.1 props.2.1 (by have := props.2.2; omega)
      rw [er]
      repeat (first | refine XJ ?_ | simp only [↓Yt m1, m1, ↓Yt m2, m2, ↓Yt m3, m3, ↓Yb, ↓XQ, ↓YH, ↓Yd, ↓Ye, ↓Yg, ↓Yh, ↓Yi, ↓YI, ↓YJ, ↓Yj, ↓Yk, ↓XR, ↓XS, ↓YK, ↓Ym, ↓YL, ↓YM, ↓Yn, ↓YN, ↓YO, ↓XU, ↓YQ, ↓Yo, ↓YR, ↓Zk, ↓XV, ↓YS, ↓YT, ↓Zl, ↓YU, ↓Yp, ↓XW, ↓YV, ↓YW, ↓YX, ↓Yq, ↓YY, ↓YZ, ↓Y0, ↓Y1, ↓XX, ↓Xn, ↓Xo, ↓Y2, ↓Xp, ↓Xq, ↓Y3, ↓Yr, ↓Xr, ↓XY, ↓Ys, ↓Xd, ↓Xe, ↓Xf, ↓Y4, ↓Y5, ↓Y7, ↓Y8, ↓Y9, ↓Za, ↓Zb, ↓Zc, ↓Yu, ↓Yz, ↓YA, ↓YF, ↓Xi, ↓XM, ↓Xl, ↓Xb, ↓Xc, ↓Xm, ↓Xj, ↓XN, ↓Xk, ↓XO, Zd, Ze, Zf, Zg, Zh, Zi, Yv, Yw, Yx, Yy, Zj, X0, X1, Xg, Xu, X2, X3, YC, YD, XZ, Xs, Xv, Xw, X4, X5, X6, X7, X8, Xh, XA, XB, XC, XD, XE, XF, YE, X9, XH, setAll, Yl, reduceCtorEq, ne_eq, not_false_eq_true, if_true, if_false, Bool.false_eq_true, Option.map_some, decide_eq_true_eq, Bool.not_true, Bool.not_false])
      refine fin h5 W' m _ I5 ?_
      repeat (first | refine XJ ?_ | simp only [↓Yt m1, m1, ↓Yt m2, m2, ↓Yt m3, m3, ↓Yb, ↓XQ, ↓YH, ↓Yd, ↓Ye, ↓Yg, ↓Yh, ↓Yi, ↓YI, ↓YJ, ↓Yj, ↓Yk, ↓XR, ↓XS, ↓YK, ↓Ym, ↓YL, ↓YM, ↓Yn, ↓YN, ↓YO, ↓XU, ↓YQ, ↓Yo, ↓YR, ↓Zk, ↓XV, ↓YS, ↓YT, ↓Zl, ↓YU, ↓Yp, ↓XW, ↓YV, ↓YW, ↓YX, ↓Yq, ↓YY, ↓YZ, ↓Y0, ↓Y1, ↓XX, ↓Xn, ↓Xo, ↓Y2, ↓Xp, ↓Xq, ↓Y3, ↓Yr, ↓Xr, ↓XY, ↓Ys, ↓Xd, ↓Xe, ↓Xf, ↓Y4, ↓Y5, ↓Y7, ↓Y8, ↓Y9, ↓Za, ↓Zb, ↓Zc, ↓Yu, ↓Yz, ↓YA, ↓YF, ↓Xi, ↓XM, ↓Xl, ↓Xb, ↓Xc, ↓Xm, ↓Xj, ↓XN, ↓Xk, ↓XO, Zd, Ze, Zf, Zg, Zh, Zi, Yv, Yw, Yx, Yy, Zj, X0, X1, Xg, Xu, X2, X3, YC, YD, XZ, Xs, Xv, Xw, X4, X5, X6, X7, X8, Xh, XA, XB, XC, XD, XE, XF, YE, X9, XH, setAll, Yl, reduceCtorEq, ne_eq, not_false_eq_true, if_true, if_false, Bool.false_eq_true, Option.map_some, decide_eq_true_eq, Bool.not_true, Bool.not_false])
      exact k _ W' _ I5 (by simp [setL, m1]) (by simp [setL, m2]) rfl
    · rw [show (way == 2) = false by simpa using c2]
      repeat (first | refine XJ ?_ | simp only [↓Yt m1, m1, ↓Yt m2, m2, ↓Yt m3, m3, ↓Yb, ↓XQ, ↓YH, ↓Yd, ↓Ye, ↓Yg, ↓Yh, ↓Yi, ↓YI, ↓YJ, ↓Yj, ↓Yk, ↓XR, ↓XS, ↓YK, ↓Ym, ↓YL, ↓YM, ↓Yn, ↓YN, ↓YO, ↓XU, ↓YQ, ↓Yo, ↓YR, ↓Zk, ↓XV, ↓YS, ↓YT, ↓Zl, ↓YU, ↓Yp, ↓XW, ↓YV, ↓YW, ↓YX, ↓Yq, ↓YY, ↓YZ, ↓Y0, ↓Y1, ↓XX, ↓Xn, ↓Xo, ↓Y2, ↓Xp, ↓Xq, ↓Y3, ↓Yr, ↓Xr, ↓XY, ↓Ys, ↓Xd, ↓Xe, ↓Xf, ↓Y4, ↓Y5, ↓Y7, ↓Y8, ↓Y9, ↓Za, ↓Zb, ↓Zc, ↓Yu, ↓Yz, ↓YA, ↓YF, ↓Xi, ↓XM, ↓Xl, ↓Xb, ↓Xc, ↓Xm, ↓Xj, ↓XN, ↓Xk, ↓XO, Zd, Ze, Zf, Zg, Zh, Zi, Yv, Yw, Yx, Yy, Zj, X0, X1, Xg, Xu, X2, X3, YC, YD, XZ, Xs, Xv, Xw, X4, X5, X6, X7, X8, Xh, XA, XB, XC, XD, XE, XF, YE, X9, XH, setAll, Yl, reduceCtorEq, ne_eq, not_false_eq_true, if_true, if_false, Bool.false_eq_true, Option.map_some, decide_eq_true_eq, Bool.not_true, Bool.not_false])
      refine c_split_at U I2.H I2.P (by omega) fun h5 W' S e1 => ?_
      repeat (first | refine XJ ?_ | simp only [↓Yt m1, m1, ↓Yt m2, m2, ↓Yt m3, m3, ↓Yb, ↓XQ, ↓YH, ↓Yd, ↓Ye, ↓Yg, ↓Yh, ↓Yi, ↓YI, ↓YJ, ↓Yj, ↓Yk, ↓XR, ↓XS, ↓YK, ↓Ym, ↓YL, ↓YM, ↓Yn, ↓YN, ↓YO, ↓XU, ↓YQ, ↓Yo, ↓YR, ↓Zk, ↓XV, ↓YS, ↓YT, ↓Zl, ↓YU, ↓Yp, ↓XW, ↓YV, ↓YW, ↓YX, ↓Yq, ↓YY, ↓YZ, ↓Y0, ↓Y1, ↓XX, ↓Xn, ↓Xo, ↓Y2, ↓Xp, ↓Xq, ↓Y3, ↓Yr, ↓Xr, ↓XY, ↓Ys, ↓Xd, ↓Xe, ↓Xf, ↓Y4, ↓Y5, ↓Y7, ↓Y8, ↓Y9, ↓Za, ↓Zb, ↓Zc, ↓Yu, ↓Yz, ↓YA, ↓YF, ↓Xi, ↓XM, ↓Xl, ↓Xb, ↓Xc, ↓Xm, ↓Xj, ↓XN, ↓Xk, ↓XO, Zd, Ze, Zf, Zg, Zh, Zi, Yv, Yw, Yx, Yy, Zj, X0, X1, Xg, Xu, X2, X3, YC, YD, XZ, Xs, Xv, Xw, X4, X5, X6, X7, X8, Xh, XA, XB, XC, XD, XE, XF, YE, X9, XH, setAll, Yl, reduceCtorEq, ne_eq, not_false_eq_true, if_true, if_false, Bool.false_eq_true, Option.map_some, decide_eq_true_eq, Bool.not_true, Bool.not_false])
      refine c_law_parted L (by rw [rows_len]; omega) ?_
      have I5 := I2.step (n' := n) S (e1 ▸ partR_pos PR) (e1 ▸ I.D.part) (by rw [e1, partR_sum, ← tot_rows]; omega)
      rw [← e1]
      repeat (first | refine XJ ?_ | simp only [↓Yt m1, m1, ↓Yt m2, m2, ↓Yt m3, m3, ↓Yb, ↓XQ, ↓YH, ↓Yd, ↓Ye, ↓Yg, ↓Yh, ↓Yi, ↓YI, ↓YJ, ↓Yj, ↓Yk, ↓XR, ↓XS, ↓YK, ↓Ym, ↓YL, ↓YM, ↓Yn, ↓YN, ↓YO, ↓XU, ↓YQ, ↓Yo, ↓YR, ↓Zk, ↓XV, ↓YS, ↓YT, ↓Zl, ↓YU, ↓Yp, ↓XW, ↓YV, ↓YW, ↓YX, ↓Yq, ↓YY, ↓YZ, ↓Y0, ↓Y1, ↓XX, ↓Xn, ↓Xo, ↓Y2, ↓Xp, ↓Xq, ↓Y3, ↓Yr, ↓Xr, ↓XY, ↓Ys, ↓Xd, ↓Xe, ↓Xf, ↓Y4, ↓Y5, ↓Y7, ↓Y8, ↓Y9, ↓Za, ↓Zb, ↓Zc, ↓Yu, ↓Yz, ↓YA, ↓YF, ↓Xi, ↓XM, ↓Xl, ↓Xb, ↓Xc, ↓Xm, ↓Xj, ↓XN, ↓Xk, ↓XO, Zd, Ze, Zf, Zg, Zh, Zi, Yv, Yw, Yx, Yy, Zj, X0, X1, Xg, Xu, X2, X3, YC, YD, XZ, Xs, Xv, Xw, X4, X5, X6, X7, X8, Xh, XA, XB, XC, XD, XE, XF, YE, X9, XH, setAll, Yl, reduceCtorEq, ne_eq, not_false_eq_true, if_true, if_false, Bool.false_eq_true, Option.map_some, decide_eq_true_eq, Bool.not_true, Bool.not_false])
      refine fin h5 W' m _ I5 ?_
      repeat (first | refine XJ ?_ | simp only [↓Yt m1, m1, ↓Yt m2, m2, ↓Yt m3, m3, ↓Yb, ↓XQ, ↓YH, ↓Yd, ↓Ye, ↓Yg, ↓Yh, ↓Yi, ↓YI, ↓YJ, ↓Yj, ↓Yk, ↓XR, ↓XS, ↓YK, ↓Ym, ↓YL, ↓YM, ↓Yn, ↓YN, ↓YO, ↓XU, ↓YQ, ↓Yo, ↓YR, ↓Zk, ↓XV, ↓YS, ↓YT, ↓Zl, ↓YU, ↓Yp, ↓XW, ↓YV, ↓YW, ↓YX, ↓Yq, ↓YY, ↓YZ, ↓Y0, ↓Y1, ↓XX, ↓Xn, ↓Xo, ↓Y2, ↓Xp, ↓Xq, ↓Y3, ↓Yr, ↓Xr, ↓XY, ↓Ys, ↓Xd, ↓Xe, ↓Xf, ↓Y4, ↓Y5, ↓Y7, ↓Y8, ↓Y9, ↓Za, ↓Zb, ↓Zc, ↓Yu, ↓Yz, ↓YA, ↓YF, ↓Xi, ↓XM, ↓Xl, ↓Xb, ↓Xc, ↓Xm, ↓Xj, ↓XN, ↓Xk, ↓XO, Zd, Ze, Zf, Zg, Zh, Zi, Yv, Yw, Yx, Yy, Zj, X0, X1, Xg, Xu, X2, X3, YC, YD, XZ, Xs, Xv, Xw, X4, X5, X6, X7, X8, Xh, XA, XB, XC, XD, XE, XF, YE, X9, XH, setAll, Yl, reduceCtorEq, ne_eq, not_false_eq_true, if_true, if_false, Bool.false_eq_true, Option.map_some, decide_eq_true_eq, Bool.not_true, Bool.not_false])
      exact k _ W' _ I5 (by simp [setL, m1]) (by simp [setL, m2]) rfl

theorem law_loop {rt pot : Nat} {post : Post} (k : ∀ m h, post .next m h) : ∀ (n : Nat) (i : Int) (h : Hp) (W : T) (m : Loc), LInv h rt pot W n → m .pot = some (.ref pot) → m .tree = some (.ref rt) → m .cases = some (.fl (rowsV W.rows)) →
    forS Γ l_law_1 (fun v m => some (setL m .each_turn v)) (intsFrom i n) post m h
  | 0, i, h, W, m, I, m1, m2, m3 => by rw [intsFrom, Xl]; exact k m h
  | n + 1, i, h, W, m, I, m1, m2, m3 => by
    rw [intsFrom, Xb, Yz]
    exact law_turn U L I (by simp [setL, m1]) (by simp [setL, m2]) (by simp [setL, m3]) fun h' W' m' I' q1 q2 q3 => by rw [Xc]; exact law_loop k n (i + 1) h' W' m' I' q1 q2 q3
theorem law_ok {zs : List Int} (hz : zs.length ≤ line) : wpB Γ (params .law) (body .law) [.fl (zs.map V.int)] (fun v _ => v = .bool true) (fun _ => none) := by
  refine wpB_i (ps := p_law) (b := a_law) rfl ?_
  repeat (first | refine XJ ?_ | simp only [a_law, ↓Yb, ↓XQ, ↓YH, ↓Yd, ↓Ye, ↓Yg, ↓Yh, ↓Yi, ↓YI, ↓YJ, ↓Yj, ↓Yk, ↓XR, ↓XS, ↓YK, ↓Ym, ↓YL, ↓YM, ↓Yn, ↓YN, ↓YO, ↓XU, ↓YQ, ↓Yo, ↓YR, ↓Zk, ↓XV, ↓YS, ↓YT, ↓Zl, ↓YU, ↓Yp, ↓XW, ↓YV, ↓YW, ↓YX, ↓Yq, ↓YY, ↓YZ, ↓Y0, ↓Y1, ↓XX, ↓Xn, ↓Xo, ↓Y2, ↓Xp, ↓Xq, ↓Y3, ↓Yr, ↓Xr, ↓XY, ↓Ys, ↓Xd, ↓Xe, ↓Xf, ↓Y4, ↓Y5, ↓Y7, ↓Y8, ↓Y9, ↓Za, ↓Zb, ↓Zc, ↓Yu, ↓Yz, ↓YA, ↓YF, ↓Xi, ↓XM, ↓Xl, ↓Xb, ↓Xc, ↓Xm, ↓Xj, ↓XN, ↓Xk, ↓XO, Zd, Ze, Zf, Zg, Zh, Zi, Yv, Yw, Yx, Yy, Zj, X0, X1, Xg, Xu, X2, X3, YC, YD, XZ, Xs, Xv, Xw, X4, X5, X6, X7, X8, Xh, XA, XB, XC, XD, XE, XF, YE, X9, XH, setAll, Yl, reduceCtorEq, ne_eq, not_false_eq_true, if_true, if_false, Bool.false_eq_true, Option.map_some, decide_eq_true_eq, Bool.not_true, Bool.not_false])
  refine c_law_pot L hz fun pot h1 hp P1 f1 => ?_
  repeat (first | refine XJ ?_ | simp only [↓Yb, ↓XQ, ↓YH, ↓Yd, ↓Ye, ↓Yg, ↓Yh, ↓Yi, ↓YI, ↓YJ, ↓Yj, ↓Yk, ↓XR, ↓XS, ↓YK, ↓Ym, ↓YL, ↓YM, ↓Yn, ↓YN, ↓YO, ↓XU, ↓YQ, ↓Yo, ↓YR, ↓Zk, ↓XV, ↓YS, ↓YT, ↓Zl, ↓YU, ↓Yp, ↓XW, ↓YV, ↓YW, ↓YX, ↓Yq, ↓YY, ↓YZ, ↓Y0, ↓Y1, ↓XX, ↓Xn, ↓Xo, ↓Y2, ↓Xp, ↓Xq, ↓Y3, ↓Yr, ↓Xr, ↓XY, ↓Ys, ↓Xd, ↓Xe, ↓Xf, ↓Y4, ↓Y5, ↓Y7, ↓Y8, ↓Y9, ↓Za, ↓Zb, ↓Zc, ↓Yu, ↓Yz, ↓YA, ↓YF, ↓Xi, ↓XM, ↓Xl, ↓Xb, ↓Xc, ↓Xm, ↓Xj, ↓XN, ↓Xk, ↓XO, Zd, Ze, Zf, Zg, Zh, Zi, Yv, Yw, Yx, Yy, Zj, X0, X1, Xg, Xu, X2, X3, YC, YD, XZ, Xs, Xv, Xw, X4, X5, X6, X7, X8, Xh, XA, XB, XC, XD, XE, XF, YE, X9, XH, setAll, Yl, reduceCtorEq, ne_eq, not_false_eq_true, if_true, if_false, Bool.false_eq_true, Option.map_some, decide_eq_true_eq, Bool.not_true, Bool.not_false])
  refine c_law_dip L (by omega) P1 fun many h2 w0 w1 P2 f2 => ?_
  repeat (first | refine XJ ?_ | simp only [↓Yb, ↓XQ, ↓YH, ↓Yd, ↓Ye, ↓Yg, ↓Yh, ↓Yi, ↓YI, ↓YJ, ↓Yj, ↓Yk, ↓XR, ↓XS, ↓YK, ↓Ym, ↓YL, ↓YM, ↓Yn, ↓YN, ↓YO, ↓XU, ↓YQ, ↓Yo, ↓YR, ↓Zk, ↓XV, ↓YS, ↓YT, ↓Zl, ↓YU, ↓Yp, ↓XW, ↓YV, ↓YW, ↓YX, ↓Yq, ↓YY, ↓YZ, ↓Y0, ↓Y1, ↓XX, ↓Xn, ↓Xo, ↓Y2, ↓Xp, ↓Xq, ↓Y3, ↓Yr, ↓Xr, ↓XY, ↓Ys, ↓Xd, ↓Xe, ↓Xf, ↓Y4, ↓Y5, ↓Y7, ↓Y8, ↓Y9, ↓Za, ↓Zb, ↓Zc, ↓Yu, ↓Yz, ↓YA, ↓YF, ↓Xi, ↓XM, ↓Xl, ↓Xb, ↓Xc, ↓Xm, ↓Xj, ↓XN, ↓Xk, ↓XO, Zd, Ze, Zf, Zg, Zh, Zi, Yv, Yw, Yx, Yy, Zj, X0, X1, Xg, Xu, X2, X3, YC, YD, XZ, Xs, Xv, Xw, X4, X5, X6, X7, X8, Xh, XA, XB, XC, XD, XE, XF, YE, X9, XH, setAll, Yl, reduceCtorEq, ne_eq, not_false_eq_true, if_true, if_false, Bool.false_eq_true, Option.map_some, decide_eq_true_eq, Bool.not_true, Bool.not_false])
  intro rt hrt
  have pr : pot ≠ rt := fun z => by
    obtain ⟨o, ho⟩ := P2.some
    rw [z, hrt] at ho; cases ho
  repeat (first | refine XJ ?_ | simp only [↓Yb, ↓XQ, ↓YH, ↓Yd, ↓Ye, ↓Yg, ↓Yh, ↓Yi, ↓YI, ↓YJ, ↓Yj, ↓Yk, ↓XR, ↓XS, ↓YK, ↓Ym, ↓YL, ↓YM, ↓Yn, ↓YN, ↓YO, ↓XU, ↓YQ, ↓Yo, ↓YR, ↓Zk, ↓XV, ↓YS, ↓YT, ↓Zl, ↓YU, ↓Yp, ↓XW, ↓YV, ↓YW, ↓YX, ↓Yq, ↓YY, ↓YZ, ↓Y0, ↓Y1, ↓XX, ↓Xn, ↓Xo, ↓Y2, ↓Xp, ↓Xq, ↓Y3, ↓Yr, ↓Xr, ↓XY, ↓Ys, ↓Xd, ↓Xe, ↓Xf, ↓Y4, ↓Y5, ↓Y7, ↓Y8, ↓Y9, ↓Za, ↓Zb, ↓Zc, ↓Yu, ↓Yz, ↓YA, ↓YF, ↓Xi, ↓XM, ↓Xl, ↓Xb, ↓Xc, ↓Xm, ↓Xj, ↓XN, ↓Xk, ↓XO, Zd, Ze, Zf, Zg, Zh, Zi, Yv, Yw, Yx, Yy, Zj, X0, X1, Xg, Xu, X2, X3, YC, YD, XZ, Xs, Xv, Xw, X4, X5, X6, X7, X8, Xh, XA, XB, XC, XD, XE, XF, YE, X9, XH, setAll, Yl, reduceCtorEq, ne_eq, not_false_eq_true, if_true, if_false, Bool.false_eq_true, Option.map_some, decide_eq_true_eq, Bool.not_true, Bool.not_false])
  refine c_init_tree U Xg fun h3 W H er fr nw => ?_
  have P3 : PotOk h3 pot := by
    obtain ⟨o, ho⟩ := P2.some
    exact P2.frame ((fr pot o pr ((Xa pr).trans ho)).trans ho.symm)
  have I : LInv h3 rt pot W 20 := by
    refine ⟨H, posR_rows.mpr ?_, ?_, P3, pr, fun m => ?_, ?_⟩
    · rw [er]; split
      · rw [PosR.cons]; exact ⟨by omega, fun _ m => nomatch m⟩
      · exact fun _ m => nomatch m
    · rw [er]; split
      · rw [DataR.cons]; exact ⟨⟨rfl, rfl, rfl⟩, fun _ m => nomatch m⟩
      · exact fun _ m => nomatch m
    · obtain ⟨o, ho⟩ := P2.some
      have := nw pot m
      rw [Xa pr, ho] at this; cases this
    · rw [tot_rows, er]; split
      · rw [sumR_cons, sumR_nil]; omega
      · rw [sumR_nil]; omega
  have go : ∀ (m : Loc) (post : Post), m .pot = some (.ref pot) → m .tree = some (.ref rt) → m .cases = some (.fl (rowsV W.rows)) → (∀ m h, post .next m h) →
      Γ .law_dip [.ref pot, .int 6] (fun y h => opt (binop h .add (.int 4) y) fun w => match w with
        | .int j => smallInt j = true ∧ forS Γ l_law_1 (fun v m => some (setL m .each_turn v)) (intsFrom 0 j.toNat) post m h
        | _ => False) h3 := by
    intro m post q1 q2 q3 kk
    repeat (first | refine XJ ?_ | simp only [↓Yb, ↓XQ, ↓YH, ↓Yd, ↓Ye, ↓Yg, ↓Yh, ↓Yi, ↓YI, ↓YJ, ↓Yj, ↓Yk, ↓XR, ↓XS, ↓YK, ↓Ym, ↓YL, ↓YM, ↓Yn, ↓YN, ↓YO, ↓XU, ↓YQ, ↓Yo, ↓YR, ↓Zk, ↓XV, ↓YS, ↓YT, ↓Zl, ↓YU, ↓Yp, ↓XW, ↓YV, ↓YW, ↓YX, ↓Yq, ↓YY, ↓YZ, ↓Y0, ↓Y1, ↓XX, ↓Xn, ↓Xo, ↓Y2, ↓Xp, ↓Xq, ↓Y3, ↓Yr, ↓Xr, ↓XY, ↓Ys, ↓Xd, ↓Xe, ↓Xf, ↓Y4, ↓Y5, ↓Y7, ↓Y8, ↓Y9, ↓Za, ↓Zb, ↓Zc, ↓Yu, ↓Yz, ↓YA, ↓YF, ↓Xi, ↓XM, ↓Xl, ↓Xb, ↓Xc, ↓Xm, ↓Xj, ↓XN, ↓Xk, ↓XO, Zd, Ze, Zf, Zg, Zh, Zi, Yv, Yw, Yx, Yy, Zj, X0, X1, Xg, Xu, X2, X3, YC, YD, XZ, Xs, Xv, Xw, X4, X5, X6, X7, X8, Xh, XA, XB, XC, XD, XE, XF, YE, X9, XH, setAll, Yl, reduceCtorEq, ne_eq, not_false_eq_true, if_true, if_false, Bool.false_eq_true, Option.map_some, decide_eq_true_eq, Bool.not_true, Bool.not_false])
    refine c_law_dip L (by omega) P3 fun n h4 b0 b1 P4 f4 => ?_
    repeat (first | refine XJ ?_ | simp only [↓Yb, ↓XQ, ↓YH, ↓Yd, ↓Ye, ↓Yg, ↓Yh, ↓Yi, ↓YI, ↓YJ, ↓Yj, ↓Yk, ↓XR, ↓XS, ↓YK, ↓Ym, ↓YL, ↓YM, ↓Yn, ↓YN, ↓YO, ↓XU, ↓YQ, ↓Yo, ↓YR, ↓Zk, ↓XV, ↓YS, ↓YT, ↓Zl, ↓YU, ↓Yp, ↓XW, ↓YV, ↓YW, ↓YX, ↓Yq, ↓YY, ↓YZ, ↓Y0, ↓Y1, ↓XX, ↓Xn, ↓Xo, ↓Y2, ↓Xp, ↓Xq, ↓Y3, ↓Yr, ↓Xr, ↓XY, ↓Ys, ↓Xd, ↓Xe, ↓Xf, ↓Y4, ↓Y5, ↓Y7, ↓Y8, ↓Y9, ↓Za, ↓Zb, ↓Zc, ↓Yu, ↓Yz, ↓YA, ↓YF, ↓Xi, ↓XM, ↓Xl, ↓Xb, ↓Xc, ↓Xm, ↓Xj, ↓XN, ↓Xk, ↓XO, Zd, Ze, Zf, Zg, Zh, Zi, Yv, Yw, Yx, Yy, Zj, X0, X1, Xg, Xu, X2, X3, YC, YD, XZ, Xs, Xv, Xw, X4, X5, X6, X7, X8, Xh, XA, XB, XC, XD, XE, XF, YE, X9, XH, setAll, Yl, reduceCtorEq, ne_eq, not_false_eq_true, if_true, if_false, Bool.false_eq_true, Option.map_some, decide_eq_true_eq, Bool.not_true, Bool.not_false])
    refine ⟨by unfold smallInt; simp; omega, ?_⟩
    have I4 := I.dip P4 f4
    exact law_loop U L kk _ 0 h4 W m ⟨I4.H, I4.P, I4.D, I4.pok, I4.pr, I4.pw, by have := I4.tot; omega⟩ q1 q2 q3
  repeat (first | refine XJ ?_ | simp only [↓Yb, ↓XQ, ↓YH, ↓Yd, ↓Ye, ↓Yg, ↓Yh, ↓Yi, ↓YI, ↓YJ, ↓Yj, ↓Yk, ↓XR, ↓XS, ↓YK, ↓Ym, ↓YL, ↓YM, ↓Yn, ↓YN, ↓YO, ↓XU, ↓YQ, ↓Yo, ↓YR, ↓Zk, ↓XV, ↓YS, ↓YT, ↓Zl, ↓YU, ↓Yp, ↓XW, ↓YV, ↓YW, ↓YX, ↓Yq, ↓YY, ↓YZ, ↓Y0, ↓Y1, ↓XX, ↓Xn, ↓Xo, ↓Y2, ↓Xp, ↓Xq, ↓Y3, ↓Yr, ↓Xr, ↓XY, ↓Ys, ↓Xd, ↓Xe, ↓Xf, ↓Y4, ↓Y5, ↓Y7, ↓Y8, ↓Y9, ↓Za, ↓Zb, ↓Zc, ↓Yu, ↓Yz, ↓YA, ↓YF, ↓Xi, ↓XM, ↓Xl, ↓Xb, ↓Xc, ↓Xm, ↓Xj, ↓XN, ↓Xk, ↓XO, Zd, Ze, Zf, Zg, Zh, Zi, Yv, Yw, Yx, Yy, Zj, X0, X1, Xg, Xu, X2, X3, YC, YD, XZ, Xs, Xv, Xw, X4, X5, X6, X7, X8, Xh, XA, XB, XC, XD, XE, XF, YE, X9, XH, setAll, Yl, reduceCtorEq, ne_eq, not_false_eq_true, if_true, if_false, Bool.false_eq_true, Option.map_some, decide_eq_true_eq, Bool.not_true, Bool.not_false, true_and])
  split
  · rename_i hm
    rw [if_pos hm] at er
    repeat (first | refine XJ ?_ | simp only [↓Yb, ↓XQ, ↓YH, ↓Yd, ↓Ye, ↓Yg, ↓Yh, ↓Yi, ↓YI, ↓YJ, ↓Yj, ↓Yk, ↓XR, ↓XS, ↓YK, ↓Ym, ↓YL, ↓YM, ↓Yn, ↓YN, ↓YO, ↓XU, ↓YQ, ↓Yo, ↓YR, ↓Zk, ↓XV, ↓YS, ↓YT, ↓Zl, ↓YU, ↓Yp, ↓XW, ↓YV, ↓YW, ↓YX, ↓Yq, ↓YY, ↓YZ, ↓Y0, ↓Y1, ↓XX, ↓Xn, ↓Xo, ↓Y2, ↓Xp, ↓Xq, ↓Y3, ↓Yr, ↓Xr, ↓XY, ↓Ys, ↓Xd, ↓Xe, ↓Xf, ↓Y4, ↓Y5, ↓Y7, ↓Y8, ↓Y9, ↓Za, ↓Zb, ↓Zc, ↓Yu, ↓Yz, ↓YA, ↓YF, ↓Xi, ↓XM, ↓Xl, ↓Xb, ↓Xc, ↓Xm, ↓Xj, ↓XN, ↓Xk, ↓XO, Zd, Ze, Zf, Zg, Zh, Zi, Yv, Yw, Yx, Yy, Zj, X0, X1, Xg, Xu, X2, X3, YC, YD, XZ, Xs, Xv, Xw, X4, X5, X6, X7, X8, Xh, XA, XB, XC, XD, XE, XF, YE, X9, XH, setAll, Yl, reduceCtorEq, ne_eq, not_false_eq_true, if_true, if_false, Bool.false_eq_true, Option.map_some, decide_eq_true_eq, Bool.not_true, Bool.not_false])
    refine go _ _ rfl rfl (by rw [er]; rfl) fun m h => ?_
    repeat (first | refine XJ ?_ | simp only [↓Yb, ↓XQ, ↓YH, ↓Yd, ↓Ye, ↓Yg, ↓Yh, ↓Yi, ↓YI, ↓YJ, ↓Yj, ↓Yk, ↓XR, ↓XS, ↓YK, ↓Ym, ↓YL, ↓YM, ↓Yn, ↓YN, ↓YO, ↓XU, ↓YQ, ↓Yo, ↓YR, ↓Zk, ↓XV, ↓YS, ↓YT, ↓Zl, ↓YU, ↓Yp, ↓XW, ↓YV, ↓YW, ↓YX, ↓Yq, ↓YY, ↓YZ, ↓Y0, ↓Y1, ↓XX, ↓Xn, ↓Xo, ↓Y2, ↓Xp, ↓Xq, ↓Y3, ↓Yr, ↓Xr, ↓XY, ↓Ys, ↓Xd, ↓Xe, ↓Xf, ↓Y4, ↓Y5, ↓Y7, ↓Y8, ↓Y9, ↓Za, ↓Zb, ↓Zc, ↓Yu, ↓Yz, ↓YA, ↓YF, ↓Xi, ↓XM, ↓Xl, ↓Xb, ↓Xc, ↓Xm, ↓Xj, ↓XN, ↓Xk, ↓XO, Zd, Ze, Zf, Zg, Zh, Zi, Yv, Yw, Yx, Yy, Zj, X0, X1, Xg, Xu, X2, X3, YC, YD, XZ, Xs, Xv, Xw, X4, X5, X6, X7, X8, Xh, XA, XB, XC, XD, XE, XF, YE, X9, XH, setAll, Yl, reduceCtorEq, ne_eq, not_false_eq_true, if_true, if_false, Bool.false_eq_true, Option.map_some, decide_eq_true_eq, Bool.not_true, Bool.not_false])
    exact ⟨_, Sub.refl, trivial⟩
  · rename_i hm
    rw [if_neg hm] at er
    repeat (first | refine XJ ?_ | simp only [↓Yb, ↓XQ, ↓YH, ↓Yd, ↓Ye, ↓Yg, ↓Yh, ↓Yi, ↓YI, ↓YJ, ↓Yj, ↓Yk, ↓XR, ↓XS, ↓YK, ↓Ym, ↓YL, ↓YM, ↓Yn, ↓YN, ↓YO, ↓XU, ↓YQ, ↓Yo, ↓YR, ↓Zk, ↓XV, ↓YS, ↓YT, ↓Zl, ↓YU, ↓Yp, ↓XW, ↓YV, ↓YW, ↓YX, ↓Yq, ↓YY, ↓YZ, ↓Y0, ↓Y1, ↓XX, ↓Xn, ↓Xo, ↓Y2, ↓Xp, ↓Xq, ↓Y3, ↓Yr, ↓Xr, ↓XY, ↓Ys, ↓Xd, ↓Xe, ↓Xf, ↓Y4, ↓Y5, ↓Y7, ↓Y8, ↓Y9, ↓Za, ↓Zb, ↓Zc, ↓Yu, ↓Yz, ↓YA, ↓YF, ↓Xi, ↓XM, ↓Xl, ↓Xb, ↓Xc, ↓Xm, ↓Xj, ↓XN, ↓Xk, ↓XO, Zd, Ze, Zf, Zg, Zh, Zi, Yv, Yw, Yx, Yy, Zj, X0, X1, Xg, Xu, X2, X3, YC, YD, XZ, Xs, Xv, Xw, X4, X5, X6, X7, X8, Xh, XA, XB, XC, XD, XE, XF, YE, X9, XH, setAll, Yl, reduceCtorEq, ne_eq, not_false_eq_true, if_true, if_false, Bool.false_eq_true, Option.map_some, decide_eq_true_eq, Bool.not_true, Bool.not_false])
    refine go _ _ rfl rfl (by rw [er]; rfl) fun m h => ?_
    repeat (first | refine XJ ?_ | simp only [↓Yb, ↓XQ, ↓YH, ↓Yd, ↓Ye, ↓Yg, ↓Yh, ↓Yi, ↓YI, ↓YJ, ↓Yj, ↓Yk, ↓XR, ↓XS, ↓YK, ↓Ym, ↓YL, ↓YM, ↓Yn, ↓YN, ↓YO, ↓XU, ↓YQ, ↓Yo, ↓YR, ↓Zk, ↓XV, ↓YS, ↓YT, ↓Zl, ↓YU, ↓Yp, ↓XW, ↓YV, ↓YW, ↓YX, ↓Yq, ↓YY, ↓YZ, ↓Y0, ↓Y1, ↓XX, ↓Xn, ↓Xo, ↓Y2, ↓Xp, ↓Xq, ↓Y3, ↓Yr, ↓Xr, ↓XY, ↓Ys, ↓Xd, ↓Xe, ↓Xf, ↓Y4, ↓Y5, ↓Y7, ↓Y8, ↓Y9, ↓Za, ↓Zb, ↓Zc, ↓Yu, ↓Yz, ↓YA, ↓YF, ↓Xi, ↓XM, ↓Xl, ↓Xb, ↓Xc, ↓Xm, ↓Xj, ↓XN, ↓Xk, ↓XO, Zd, Ze, Zf, Zg, Zh, Zi, Yv, Yw, Yx, Yy, Zj, X0, X1, Xg, Xu, X2, X3, YC, YD, XZ, Xs, Xv, Xw, X4, X5, X6, X7, X8, Xh, XA, XB, XC, XD, XE, XF, YE, X9, XH, setAll, Yl, reduceCtorEq, ne_eq, not_false_eq_true, if_true, if_false, Bool.false_eq_true, Option.map_some, decide_eq_true_eq, Bool.not_true, Bool.not_false])
    exact ⟨_, Sub.refl, trivial⟩
end
end Mine

open PySem PySem.W PyProof.Rows
namespace Mine
noncomputable def fns1 : List Fn := [.total_of, .own_length, .text_length, .put_in_stead, .set_left, .set_right, .rotate_right, .rotate_left, .right_turn_helps, .left_turn_helps, .settle, .settle_up, .add_above, .find_interval, .leftmost, .rightmost, .following, .preceding, .put_behind, .put_ahead, .split_at, .drop_interval, .insert_interval, .delete_range, .interval_rows, .tree_error, .law_pot, .law_dip, .law_parted, .law_index, .law_came, .law_gone, .law_is_as]
noncomputable def us1 : List Fn := [.init_Interval, .init_IntervalTree, .total_of, .own_length, .text_length, .put_in_stead, .set_left, .set_right, .rotate_right, .rotate_left, .right_turn_helps, .left_turn_helps, .settle, .settle_up, .add_above, .find_interval, .leftmost, .rightmost, .following, .preceding, .put_behind, .put_ahead, .split_at, .drop_interval, .insert_interval, .delete_range, .interval_rows, .tree_error, .law_pot, .law_dip, .law_parted, .law_index, .law_came, .law_gone, .law_is_as, .law]
noncomputable def av1 (f : Fn) : Bool := fns1.contains f
theorem av1_mem (f : Fn) (h : av1 f = true) : f ∈ fns1 := by simpa [av1] using h
theorem base_of1 {Γ : Ctr} (h : ∀ f, f ∈ us1 → ∀ args Q h, wpB Γ (params f) (body f) args Q h → Γ f args Q h) : Base Γ ∧ LawC Γ := by
  refine ⟨fun f hf => ?_, fun f hf => ?_⟩
  · cases f
    · exact h .init_Interval (by decide)
    · exact h .init_IntervalTree (by decide)
    · exact h .total_of (by decide)
    · exact h .own_length (by decide)
    · exact h .text_length (by decide)
    · exact h .put_in_stead (by decide)
    · exact h .set_left (by decide)
    · exact h .set_right (by decide)
    · exact h .rotate_right (by decide)
    · exact h .rotate_left (by decide)
    · exact h .right_turn_helps (by decide)
    · exact h .left_turn_helps (by decide)
    · exact h .settle (by decide)
    · exact h .settle_up (by decide)
    · exact h .add_above (by decide)
    · exact h .find_interval (by decide)
    · exact h .leftmost (by decide)
    · exact h .rightmost (by decide)
    · exact h .following (by decide)
    · exact h .preceding (by decide)
    · exact h .put_behind (by decide)
    · exact h .put_ahead (by decide)
    · exact h .split_at (by decide)
    · exact h .drop_interval (by decide)
    · exact h .insert_interval (by decide)
    · exact h .delete_range (by decide)
    · exact h .interval_rows (by decide)
    · exact h .tree_error (by decide)
    · exact absurd hf (by decide)
    · exact absurd hf (by decide)
    · exact absurd hf (by decide)
    · exact absurd hf (by decide)
    · exact absurd hf (by decide)
    · exact absurd hf (by decide)
    · exact absurd hf (by decide)
    · exact absurd hf (by decide)
    · exact absurd hf (by decide)
    · exact absurd hf (by decide)
    · exact absurd hf (by decide)
    · exact absurd hf (by decide)
    · exact absurd hf (by decide)
  · cases f
    · exact absurd hf (by decide)
    · exact absurd hf (by decide)
    · exact absurd hf (by decide)
    · exact absurd hf (by decide)
    · exact absurd hf (by decide)
    · exact absurd hf (by decide)
    · exact absurd hf (by decide)
    · exact absurd hf (by decide)
    · exact absurd hf (by decide)
    · exact absurd hf (by decide)
    · exact absurd hf (by decide)
    · exact absurd hf (by decide)
    · exact absurd hf (by decide)
    · exact absurd hf (by decide)
    · exact absurd hf (by decide)
    · exact absurd hf (by decide)
    · exact absurd hf (by decide)
    · exact absurd hf (by decide)
    · exact absurd hf (by decide)
    · exact absurd hf (by decide)
    · exact absurd hf (by decide)
    · exact absurd hf (by decide)
    · exact absurd hf (by decide)
    · exact absurd hf (by decide)
    · exact absurd hf (by decide)
    · exact absurd hf (by decide)
    · exact absurd hf (by decide)
    · exact absurd hf (by decide)
    · exact h .law_pot (by decide)
    · exact h .law_dip (by decide)
    · exact h .law_parted (by decide)
    · exact h .law_index (by decide)
    · exact h .law_came (by decide)
    · exact h .law_gone (by decide)
    · exact h .law_is_as (by decide)
    · exact absurd hf (by decide)
    · exact absurd hf (by decide)
    · exact absurd hf (by decide)
    · exact absurd hf (by decide)
    · exact absurd hf (by decide)
    · exact h .law (by decide)

noncomputable def keepDef (s : Stmt) : Bool := match s with
  | .Assign .. => false
  | _ => true
noncomputable def view1 : Program := { PySem.Challenge.pw_ok0056_01 with main := { PySem.Challenge.pw_ok0056_01.main with body := PySem.Challenge.pw_ok0056_01.main.body.filter keepDef } }
noncomputable abbrev rw1 : RowW := PySem.Challenge.rw_ok0056_01.row.toRowW
noncomputable def ok1 (K : Frag) : Bool := allOk av1 fns1 us1 params body K
theorem left1 : LeftO PySem.Challenge.rw_ok0056_01.row.prog view1 [] (fun s => xlAt view1 [] s && recOk (RowW.records rw1) s) (hook ok1).obs (hook ok1).val 3300 := fun w => by kernel_rfl
end Mine
set_option maxHeartbeats 8000000 in
theorem PySem.Challenge.cw_ok0056_01_holds : PySem.Challenge.rw_ok0056_01.Holds := by
  w_on
  refine holds_law (by kernel_rfl) fun said => ?_
  refine holds_open (q := Mine.view1) (loose := []) (Xt := fun s => xlAt Mine.view1 [] s && recOk (RowW.records Mine.rw1) s) (XP := XL Mine.view1 []) (Yf := (Mine.hook Mine.ok1).obs) (Ya := (Mine.hook Mine.ok1).val) (YP := (Mine.hook Mine.ok1).says) (N := 3300) Mine.left1
    (Mine.hook Mine.ok1).of (Mine.hook Mine.ok1).keeps (fun s e => xl_of s (Bool.and_eq_true_iff.mp e).1) XL.keeps (by rfl) (by rfl) (by rfl) (fun s e => recFacts_of (Bool.and_eq_true_iff.mp e).2) (by first | rfl | fail "writes") (by first | assumption | decide +kernel) (by decide +kernel) ⟨rfl, rfl, rfl, rfl, rfl, by decide +kernel⟩ ?hw ?hc
  case hw => w_witness2
  case hc =>
    intro w s₀ s₁ mg mb G Y fa o pm cd doc dV kV ho hd hcd hD hmg hg args vals as hpre hlay hrd hwl hlo
    obtain ⟨K, KX, ok⟩ := Y
    have X := (Ground.X G).1
    have V := (Ground.X G).2
    refine Ground.open G ?_
    intro T B D TE TW
    try (refine guard_noD D (by decide +kernel) ?_; clear D)
    obtain ⟨_, _, M⟩ := bmod_of_top T
    have TA := at_of_top T
    try (obtain ⟨_, _, he, B0⟩ := based_of_top T rfl hmg ho hd; have he' : cd = _ := he; subst he'; clear he)
    clear hmg
    wrow_args hpre hlay hrd hwl hlo
    all_goals (
      first | refine callC_kw (enter_call ?_) | refine enter_call ?_ | refine callC_kw (enter_callW ?_) | refine enter_callW ?_ | w_how
      w_top on
      try refine codeAny_mono ?_ (fun _ _ g => GoodW.toG g)
      have K0 := below_caller (Top.heap T)
      w_call any ho hd hcd hD T F
      clear hd TA
      k_drop
      skip)
    all_goals try k_fold
    refine Mine.law_run (av := Mine.av1) (fs := Mine.fns1) (b := Mine.body .law) KX (topRead_of (by assumption)) (by assumption) (Mine.allOk_of ok).1 Mine.av1_mem (by assumption) (by assumption) (by assumption) rfl ⟨rfl, Nat.le_of_ble_eq_true rfl, Nat.le_of_ble_eq_true rfl⟩ rfl (by kernel_rfl)
      Mine.params Mine.body Mine.us1 (Mine.allOk_of ok).2 (fun Γ h => ?_) (fun s' k o g => ?_)
    · refine Mine.law_ok (Mine.base_of1 h).1 (Mine.base_of1 h).2 ?_
      unfold Mine.line
      omega
    · exact ⟨.inl ⟨_, .bool true, [], rfl, fun _ => rfl, .bool true, by first | wrow_post | rfl, fun _ => ⟨.nil, nofun⟩⟩, k, o, g⟩
