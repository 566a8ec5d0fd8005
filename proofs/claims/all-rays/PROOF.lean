import PyProof.Rows.All
import Wide.All
import OpenK.AllK
import Wide.FinOn
import KE.KStateDown
import HandS.Head0
import HandS.Head1
import HandS.Head2
import HandS.Base
import HandS.Call
import HandS.Ends
import HandS.More
import HandS.Words
import HandS.WordsExc
import HandS.Defaults
import HandS.HeadEnd
import HandS.HeadHook1
import HandS.HeadHook2
import HandS.HeadWalk
import HandS.ForMost
import HandS.Wide
import HandS.Deep
import HandS.Zip
import HandS.Style
import HandS.AnyAll
import HandS.GenOver
import HandS.GenList
import PySem.Challenge.RW_raytrain_k90_whole_all_rays
set_option Elab.async false
set_option linter.all false
set_option maxRecDepth 100000
set_option maxHeartbeats 0
namespace Hd0
open PySem PySem.Spec PyProof.Rows L2
abbrev PG : Program := PySem.Challenge.pw_raytrain_k90_whole_all_rays
def top (i : Nat) : Stmt := PG.main.body.getD i (.Pass ⟨0, 0, 0, 0⟩)
def mkD (i : Nat) (x : Str) (dfl : List He.Dv) : He.DefD := ⟨(x, none), x, x, defArgs (top i), defBody (top i), defScope (top i), dfl, []⟩
def fn : List He.DefD := ([mkD 3 "common_divisor" [], mkD 4 "fraction" [.int 1], mkD 5 "add" [], mkD 6 "negative" [], mkD 7 "subtract" [], mkD 8 "multiply" [], mkD 9 "divide" [], mkD 10 "sign" [], mkD 11 "compare" [], mkD 12 "is_less" [], mkD 13 "least_of" [], mkD 14 "greatest_of" [], mkD 15 "nearest_to_zero" [], mkD 18 "element_map" [], mkD 19 "weighted" [], mkD 20 "apply_map" [], mkD 21 "compose_maps" [], mkD 22 "ray_transfer" [], mkD 24 "cross" [], mkD 25 "opposite" [], mkD 26 "reach" [], mkD 27 "in_first_half" [], mkD 28 "comes_before" [], mkD 29 "in_order" [], mkD 34 "make_half_plane" [], mkD 35 "edges_of" [], mkD 36 "half_planes_of" [], mkD 37 "value_at" [], mkD 38 "contains_ray" [], mkD 39 "determinant" []] : List He.DefD) ++ ([mkD 40 "product" [], mkD 41 "opposite_weights" [], mkD 42 "triple_weights" [], mkD 43 "opposing_sets" [], mkD 44 "number_of" [], mkD 45 "is_empty" [], mkD 46 "single_bound" [], mkD 47 "pair_weights" [], mkD 48 "pair_bound" [], mkD 49 "supremum" [], mkD 50 "infimum" [], mkD 51 "direction_range" [], mkD 52 "line_of" [], mkD 53 "region_kind" [], mkD 54 "sample_ray" [], mkD 56 "is_implied" [], mkD 58 "planes_of" [], mkD 59 "needed" [], mkD 60 "carrier" [], mkD 61 "line_planes" [], mkD 62 "point_planes" [], mkD 63 "canonical_half_planes" [], mkD 64 "base_rays" [], mkD 65 "canonical_form" [], mkD 66 "are_equivalent" [], mkD 67 "without_edge" [], mkD 68 "is_redundant" [], mkD 69 "redundant_edges" [], mkD 70 "simplify" [], mkD 72 "meeting" []] : List He.DefD) ++ ([mkD 73 "is_before" [], mkD 74 "put_in_order" [], mkD 75 "corners" [], mkD 77 "sample_at" [], mkD 78 "outside_value" [], mkD 79 "ray_outside" [], mkD 80 "other_value" [], mkD 81 "differing_ray" [], mkD 82 "distinguishing_ray" [], mkD 84 "_law_cell" [], mkD 85 "_law_row" [], mkD 86 "_law_box" [], mkD 87 "_law_draw" [], mkD 88 "_law_frac" [], mkD 89 "_law_add" [], mkD 90 "_law_neg" [], mkD 91 "_law_sub" [], mkD 92 "_law_mul" [], mkD 93 "_law_div" [], mkD 94 "_law_less" [], mkD 95 "_law_fraction" [], mkD 96 "_law_nonzero" [], mkD 97 "_law_stop" [], mkD 98 "_law_element" [], mkD 99 "_law_train" [], mkD 100 "_law_go" [], mkD 101 "_law_blocks" [], mkD 102 "_law_exit" [], mkD 103 "_law_other" [], mkD 104 "law" []] : List He.DefD)
/-! ### the head: what it says -/
def fa : List He.Fa := ([.glo "ZERO", .glo "ONE", .glo "IDENTITY", .glo "common_divisor", .glo "fraction", .glo "add", .glo "negative", .glo "subtract", .glo "multiply", .glo "divide", .glo "sign", .glo "compare", .glo "is_less", .glo "least_of", .glo "greatest_of", .glo "nearest_to_zero", .glo "element_map", .glo "weighted", .glo "apply_map", .glo "compose_maps", .glo "ray_transfer", .glo "cross", .glo "opposite", .glo "reach", .glo "in_first_half", .glo "comes_before", .glo "in_order", .glo "make_half_plane", .glo "edges_of", .glo "half_planes_of"] : List He.Fa) ++ ([.glo "value_at", .glo "contains_ray", .glo "determinant", .glo "product", .glo "opposite_weights", .glo "triple_weights", .glo "opposing_sets", .glo "number_of", .glo "is_empty", .glo "single_bound", .glo "pair_weights", .glo "pair_bound", .glo "supremum", .glo "infimum", .glo "direction_range", .glo "line_of", .glo "region_kind", .glo "sample_ray", .glo "is_implied", .glo "planes_of", .glo "needed", .glo "carrier", .glo "line_planes", .glo "point_planes", .glo "canonical_half_planes", .glo "base_rays", .glo "canonical_form", .glo "are_equivalent", .glo "without_edge", .glo "is_redundant"] : List He.Fa) ++ ([.glo "redundant_edges", .glo "simplify", .glo "meeting", .glo "is_before", .glo "put_in_order", .glo "corners", .glo "sample_at", .glo "outside_value", .glo "ray_outside", .glo "other_value", .glo "differing_ray", .glo "distinguishing_ray", .glo "_law_cell", .glo "_law_row", .glo "_law_box", .glo "_law_draw", .glo "_law_frac", .glo "_law_add", .glo "_law_neg", .glo "_law_sub", .glo "_law_mul", .glo "_law_div", .glo "_law_less", .glo "_law_fraction", .glo "_law_nonzero", .glo "_law_stop", .glo "_law_element", .glo "_law_train", .glo "_law_go", .glo "_law_blocks"] : List He.Fa) ++ ([.glo "_law_exit", .glo "_law_other", .glo "law", .free "abs", .free "len", .free "int", .free "sum", .free "any", .free "all", .free "range", .free "zip", .free "enumerate", .free "list", .free "tuple"] : List He.Fa)
def loose : List PySem.Str := (["__name__", "ZERO", "ONE", "common_divisor", "fraction", "add", "negative", "subtract", "multiply", "divide", "sign", "compare", "is_less", "least_of", "greatest_of", "nearest_to_zero", "IDENTITY", "element_map", "weighted", "apply_map", "compose_maps", "ray_transfer", "cross", "opposite", "reach", "in_first_half", "comes_before", "in_order", "RaytrainError", "NoDirection"] : List PySem.Str) ++ (["make_half_plane", "edges_of", "half_planes_of", "value_at", "determinant", "product", "opposite_weights", "opposing_sets", "number_of", "single_bound", "pair_weights", "pair_bound", "supremum", "infimum", "direction_range", "line_of", "region_kind", "sample_ray", "is_implied", "planes_of", "needed", "carrier", "line_planes", "point_planes", "canonical_half_planes", "base_rays", "canonical_form", "are_equivalent", "without_edge", "is_redundant"] : List PySem.Str) ++ (["redundant_edges", "simplify", "meeting", "is_before", "put_in_order", "corners", "sample_at", "outside_value", "ray_outside", "other_value", "differing_ray", "distinguishing_ray", "_law_cell", "_law_row", "_law_box", "_law_draw", "_law_frac", "_law_add", "_law_neg", "_law_sub", "_law_mul", "_law_div", "_law_less", "_law_fraction", "_law_nonzero", "_law_stop", "_law_element", "_law_train", "_law_go", "_law_blocks"] : List PySem.Str) ++ (["_law_exit", "_law_other"] : List PySem.Str)
/-- neither a list nor an empty table -/
def okO (o : Obj) : Bool := match o.cls with
  | .type c => !(c == "list")
  | .none => (match o.data with
    | .fields vs => !(vs.size == 0)
    | _ => true)
  | _ => true
def moreB (K : PySem.W.Frag) : Bool := He.tupB K "ZERO" [.int 0, .int 1] && (He.tupB K "ONE" [.int 1, .int 1] && (He.tupB K "IDENTITY" [.glo "ONE", .glo "ZERO", .glo "ZERO", .glo "ONE", .glo "ZERO", .glo "ZERO"] && K.all fun p => okO p.2))
def lookX (g : Addr → Option Obj) : He.AlD × Bool := (He.obsDG 2 fa fn g, moreB (He.frG g (He.asD g 2)))
def hkX : PySem.W.Hook where
  α := He.AlD × Bool
  obs := fun s => lookX s.heap.get?
  val := fun _ => (He.valD fn, true)
  says := fun _ h => ∃ K : PySem.W.Frag, K.In h ∧ He.SaysD fa fn K ∧ moreB K = true
  of := fun _ _ e => ⟨_, He.frG_in, congrArg Prod.fst e, congrArg Prod.snd e⟩
  keeps := fun _ _ _ ⟨K, h1, h2⟩ k => ⟨K, PySem.W.Frag.In.keeps h1 k, h2⟩
def obX (s : PySem.W.SharedT) : He.AlD × Bool := lookX (HandSHeadRun.getT s)
theorem obX_eq (s : PySem.W.SharedT) : obX s = hkX.obs s.abs := congrArg lookX (funext (HandSHeadRun.getT_eq s))
abbrev RR : PySem.W.OpenRow := PySem.W.OpenLaw.row PySem.Challenge.rw_raytrain_k90_whole_all_rays
theorem run (w : World) : HandSHeadRun.RunEq RR (PySem.W.view RR.prog [38, 42, 45, 104]) hkX obX 4000 loose w := by
  intro os
  kernel_rfl
end Hd0
namespace RT
open PySem PySem.Spec PyProof.Rows L2

/-! ### the evaluator over plain data -/
abbrev D := PyData
inductive Cell where
  | shr (d : D)
  | own (xs : List D)
  | box
abbrev RE := List (Option Cell)
abbrev QD := D → Int → Prop
abbrev WD := RE → Int → QD → Prop
abbrev WL := RE → Int → (List D → Int → Prop) → Prop
abbrev WB := RE → Int → (Bool → Int → Prop) → Prop
/-- what a def is worth: the box's row and count, the arguments, what is wanted -/
abbrev FnS := List Int → Int → List D → QD → Prop
structure Cfg where
  N : List Str
  own : Option Nat
  G : Str → Option FnS
  dfl : Str → Nat → List D
  ar : Str → Nat → Bool
  konst : Str → Option D
  row : List Int
  gens : Bool
  tabs : List Addr
  lev : Nat

/-- no generator expressions within -/
def Cfg.ng (C : Cfg) : Cfg := { C with gens := false }
def findIx : List Str → Str → Option Nat
  | [], _ => none
  | y :: r, x => if (y == x) = true then some 0 else (findIx r x).map (· + 1)
def visB (sc : Scope) (x : Str) : Bool := match sc.names.lookup x with
  | some .local => true
  | some .cell => true
  | some .free => true
  | _ => false
def glB (sc : Scope) (x : Str) : Bool := match sc.names.lookup x with
  | some .globalImplicit => true
  | _ => false
def locB (sc : Scope) (x : Str) : Bool := match sc.names.lookup x with
  | some .local => true
  | _ => false
/-- a name of ours: not one of the two that are told apart -/
def plainN (x : Str) : Bool := !(x == ("__debug__" : Str)) && !(x == ("__classdict__" : Str))
def slot (C : Cfg) (sc : Scope) (x : Str) : Option Nat := if (visB sc x && plainN x) = true then findIx C.N x else none
def cellOf (C : Cfg) (sc : Scope) (ρ : RE) (x : Str) : Option Cell := match slot C sc x with
  | some i => (match ρ[i]? with
    | some (some c) => some c
    | _ => none)
  | none => none
def noStar : Expr → Bool
  | .Starred .. => false
  | _ => true
def noBox : D → Bool
  | .dict _ => false
  | _ => true

def wNo {α : Type} : RE → Int → (α → Int → Prop) → Prop := fun _ _ _ => False
def wConst : Const → WD
  | .none => fun _ n Q => Q .none n
  | .bool b => fun _ n Q => Q (.bool b) n
  | .int i => fun _ n Q => Q (.int i) n
  | .str x => fun _ n Q => Q (.str x) n
  | _ => wNo
def wName (C : Cfg) (sc : Scope) (x : Str) : WD := match slot C sc x with
  | some i => fun ρ n Q => (match ρ[i]? with
    | some (some (.shr d)) => Q d n
    | _ => False)
  | none => if (glB sc x && plainN x) = true then (match C.konst x with
    | some d => fun _ n Q => Q d n
    | none => wNo) else wNo
/-- an argument: the box may be handed on -/
def wArg (C : Cfg) (sc : Scope) (w : Expr → WD) (e : Expr) : WD := match e with
  | .Name x p => fun ρ n Q => (match cellOf C sc ρ x with
    | some .box => Q (.dict []) n
    | _ => w (.Name x p) ρ n Q)
  | e => w e
def wArgs (wa : Expr → WD) : List Expr → WL
  | [] => fun _ n Q => Q [] n
  | e :: es => fun ρ n Q => wa e ρ n fun d n1 => wArgs wa es ρ n1 fun ds n2 => Q (d :: ds) n2

/-- factors of less than a million bits together, or the first one short -/
def CMulX (i j : Int) : Prop := i.natAbs.log2 + j.natAbs.log2 < 1000000 ∨ i.natAbs.log2 < 60
/-- a divisor: not 0, below 2 ^ 9000 -/
def CDivZ (_ j : Int) : Prop := j ≠ 0 ∧ j.natAbs.log2 < 9000
def addD : D → D → (D → Prop) → Prop
  | .int i, .int j, Q => Q (.int (i + j))
  | .list xs, .list ys, Q => xs.length + ys.length ≤ sizeLine ∧ Q (.list (xs ++ ys))
  | .tuple xs, .tuple ys, Q => xs ≠ [] ∧ ys ≠ [] ∧ xs.length + ys.length ≤ sizeLine ∧ Q (.tuple (xs ++ ys))
  | _, _, _ => False
def intD (Cn : Int → Int → Prop) (g : Int → Int → D) : D → D → (D → Prop) → Prop
  | .int i, .int j, Q => Cn i j ∧ Q (g i j)
  | _, _, _ => False
def binD : Operator → D → D → (D → Prop) → Prop
  | .Add => addD
  | .Sub => intD (fun _ _ => True) fun i j => .int (i - j)
  | .Mult => intD CMulX fun i j => .int (i * j)
  | .FloorDiv => intD CDivZ fun i j => .int (i.fdiv j)
  | .Mod => intD (fun _ j => j ≠ 0) fun i j => .int (i.fmod j)
  | .Pow => intD CPow fun i j => .int (i ^ j.toNat)
  | _ => fun _ _ _ => False
def wBin (op : Operator) (wa wb : WD) : WD := fun ρ n Q => wa ρ n fun x n1 => wb ρ n1 fun y n2 => binD op x y fun z => Q z n2
def wNeg (wa : WD) : WD := fun ρ n Q => wa ρ n fun x n1 => match x with
  | .int i => Q (.int (-i)) n1
  | _ => False
def isNoneD : D → Bool
  | .none => true
  | _ => false
def isBoolD (b : Bool) : D → Bool
  | .bool c => b == c
  | _ => false
def ltD (g : Int → Int → Bool) : D → D → (Bool → Prop) → Prop
  | .int i, .int j, Q => Q (g i j)
  | _, _, _ => False
def eqD (x y : D) (Q : Bool → Prop) : Prop := SeqAt.shaped x = true ∧ SeqAt.shaped y = true ∧ Q (PyData.eqv x y)
def inD (x y : D) (Q : Bool → Prop) : Prop := match y with
  | .list ds => SeqAt.shaped x = true ∧ SeqAt.shaped (.list ds) = true ∧ Q (ds.any fun z => PyData.eqv z x)
  | _ => False
def isD (neg : Bool) (x y : D) (Q : Bool → Prop) : Prop := match y with
  | .none => Q (if neg then !isNoneD x else isNoneD x)
  | .bool b => (match x with
    | .bool c => Q (if neg then !(b == c) else (b == c))
    | _ => False)
  | _ => False
def cmpD : CmpOp → D → D → (Bool → Prop) → Prop
  | .Eq => eqD
  | .NotEq => fun x y Q => eqD x y fun b => Q (!b)
  | .Lt => ltD fun i j => decide (i < j)
  | .LtE => ltD fun i j => decide (i ≤ j)
  | .Gt => ltD fun i j => decide (j < i)
  | .GtE => ltD fun i j => decide (j ≤ i)
  | .Is => isD false
  | .IsNot => isD true
  | .In => inD
  | .NotIn => fun x y Q => inD x y fun b => Q (!b)
def wCmp (w : Expr → WD) (a : Expr) (ops : List CmpOp) (cs : List Expr) : WD := match ops, cs with
  | [op], [b] => if behindInMarks op b = false then fun ρ n Q => w a ρ n fun x n1 => w b ρ n1 fun y n2 => cmpD op x y fun c => Q (.bool c) n2 else wNo
  | _, _ => wNo
def wAnd (w : Expr → WD) : List Expr → WD
  | [] => wNo
  | e :: r => match r with
    | [] => w e
    | _ :: _ => fun ρ n Q => w e ρ n fun x n1 => match x with
      | .bool b => if b = true then wAnd w r ρ n1 Q else Q (.bool false) n1
      | _ => False
def wOr (w : Expr → WD) : List Expr → WD
  | [] => wNo
  | e :: r => match r with
    | [] => w e
    | _ :: _ => fun ρ n Q => w e ρ n fun x n1 => match x with
      | .bool b => if b = true then Q (.bool true) n1 else wOr w r ρ n1 Q
      | _ => False
def ixD : D → D → (D → Prop) → Prop
  | .list xs, .int k, Q => (match atI xs k with
    | some d => Q d
    | none => False)
  | .tuple xs, .int k, Q => (match atI xs k with
    | some d => Q d
    | none => False)
  | _, _, _ => False
def boxIx (C : Cfg) (k : D) (n : Int) (Q : D → Prop) : Prop := match k with
  | .int 0 => Q (.list (C.row.map PyData.int))
  | .int 1 => Q (.int n)
  | _ => False
def wIx (C : Cfg) (sc : Scope) (w : Expr → WD) (a i : Expr) : WD := match a with
  | .Name x p => fun ρ n Q => (match cellOf C sc ρ x with
    | some .box => w i ρ n fun k n1 => boxIx C k n1 fun z => Q z n1
    | _ => w (.Name x p) ρ n fun x n1 => w i ρ n1 fun y n2 => ixD x y fun z => Q z n2)
  | a => fun ρ n Q => w a ρ n fun x n1 => w i ρ n1 fun y n2 => ixD x y fun z => Q z n2
def wPart (w : Expr → WD) : Option Expr → RE → Int → (Option Int → Int → Prop) → Prop
  | none => fun _ n Q => Q none n
  | some e => fun ρ n Q => w e ρ n fun x n1 => match x with
    | .int i => Q (some i) n1
    | _ => False
def cutD (xs : List D) (lo hi : Option Int) : List D := (xs.drop (HT.sIx xs.length 0 lo)).take (HT.sIx xs.length xs.length hi - HT.sIx xs.length 0 lo)
def wSlice (w : Expr → WD) (a : Expr) (lo hi : Option Expr) : WD := fun ρ n Q => w a ρ n fun x n1 => wPart w lo ρ n1 fun l n2 => wPart w hi ρ n2 fun u n3 => match x with
  | .list xs => Q (.list (cutD xs l u)) n3
  | _ => False
def wSub (C : Cfg) (sc : Scope) (w : Expr → WD) (a i : Expr) : WD := match i with
  | .Slice lo hi none _ => wSlice w a lo hi
  | .Slice _ _ (some _) _ => wNo
  | .Constant c k p => wIx C sc w a (.Constant c k p)
  | .Name x p => wIx C sc w a (.Name x p)
  | .Call f as ks p => wIx C sc w a (.Call f as ks p)
  | _ => wNo

/-! ### targets, what is walked, comprehensions -/
def asgName (C : Cfg) (blk : Bool) (sc : Scope) (x : Str) (d : D) (ρ : RE) (k : RE → Prop) : Prop := match findIx C.N x with
  | some i => ((locB sc x = true) ∨ (blk = false ∧ sc.names.lookup x = some .cell)) ∧ k (ρ.set i (some (.shr d)))
  | none => False
def asgNames (C : Cfg) (blk : Bool) (sc : Scope) : List Expr → List D → RE → (RE → Prop) → Prop
  | [], [], ρ, k => k ρ
  | e :: es, d :: ds, ρ, k => (match e with
    | .Name x _ => asgName C blk sc x d ρ fun ρ1 => asgNames C blk sc es ds ρ1 k
    | _ => False)
  | _, _, _, _ => False
def asgT (C : Cfg) (blk : Bool) (sc : Scope) (tg : Expr) (d : D) (ρ : RE) (k : RE → Prop) : Prop := match tg with
  | .Name x _ => asgName C blk sc x d ρ k
  | .Tuple es _ _ => (match d with
    | .tuple ds => asgNames C blk sc es ds ρ k
    | _ => False)
  | _ => False
def rngFrom (lo : Int) : Nat → Nat → List D
  | _, 0 => []
  | i, m + 1 => .int (lo + (i : Nat)) :: rngFrom lo (i + 1) m
def enumFrom (i : Nat) : List D → List D
  | [] => []
  | x :: xs => .tuple [.int (i : Nat), x] :: enumFrom (i + 1) xs
def zipD : List D → List D → List D
  | x :: xs, y :: ys => .tuple [x, y] :: zipD xs ys
  | _, _ => []
def isTup : Expr → Bool
  | .Tuple .. => true
  | _ => false
/-- the builtins that are walked -/
def wIter (C : Cfg) (sc : Scope) (w : Expr → WD) (tg : Expr) (e : Expr) : WL :=
  let plain : WL := fun ρ n Q => w e ρ n fun x n1 => match x with
    | .list xs => Q xs n1
    | .tuple xs => Q xs n1
    | _ => False
  match e with
  | .Call (.Name f _) [a] [] _ =>
    if (f == ("range" : Str)) = true then (if (glB sc f && noStar a) = true then fun ρ n Q => w a ρ n fun x n1 => match x with
        | .int j => (-1000000 ≤ j ∧ j ≤ 1000000) ∧ Q (rngFrom 0 0 j.toNat) n1
        | _ => False else wNo)
    else if (f == ("enumerate" : Str)) = true then (if (glB sc f && (isTup tg && noStar a)) = true then fun ρ n Q => w a ρ n fun x n1 => match x with
        | .list xs => Q (enumFrom 0 xs) n1
        | _ => False else wNo)
    else plain
  | .Call (.Name f _) [a, b] [] _ =>
    if (f == ("range" : Str)) = true then (if (glB sc f && (noStar a && noStar b)) = true then fun ρ n Q => w a ρ n fun x n1 => w b ρ n1 fun y n2 => match x, y with
        | .int i, .int j => (-1000000 ≤ i ∧ i ≤ 1000000 ∧ -1000000 ≤ j ∧ j ≤ 1000000) ∧ Q (rngFrom i 0 (j - i).toNat) n2
        | _, _ => False else wNo)
    else if (f == ("zip" : Str)) = true then (if (glB sc f && (isTup tg && (noStar a && noStar b))) = true then fun ρ n Q => w a ρ n fun x n1 => w b ρ n1 fun y n2 => match x, y with
        | .list xs, .list ys => Q (zipD xs ys) n2
        | .tuple xs, .tuple ys => Q (zipD xs ys) n2
        | _, _ => False else wNo)
    else plain
  | .Set .. => wNo
  | _ => plain
def ownOf (N : List Str) (scope : Scope) : List (Str × Nat) := scope.names.filterMap fun y => match y.2 with
  | .local => (findIx N y.1).map fun i => (y.1, i)
  | .cell => (findIx N y.1).map fun i => (y.1, i)
  | _ => none
def wipeR (ρ : RE) : List Nat → RE
  | [] => ρ
  | v :: vs => (wipeR ρ vs).set v none
def truthD : D → (Bool → Prop) → Prop
  | .bool b, Q => Q b
  | .list xs, Q => Q (!xs.isEmpty)
  | _, _ => False
/-- a plain test -/
def wCond (w : Expr → WD) (c : Expr) : WB := match c with
  | .Compare a ops cs _ => (match ops, cs with
    | [op], [b] => if behindInMarks op b = false then fun ρ n Q => w a ρ n fun x n1 => w b ρ n1 fun y n2 => cmpD op x y fun k => Q k n2 else wNo
    | _, _ => wNo)
  | .Name x p => fun ρ n Q => w (.Name x p) ρ n fun d n1 => truthD d fun b => Q b n1
  | .Call g es ks p => fun ρ n Q => w (.Call g es ks p) ρ n fun d n1 => truthD d fun b => Q b n1
  | _ => wNo
def wTests (w : Expr → WD) : List Expr → WB
  | [] => fun _ n Q => Q true n
  | [c] => wCond w c
  | _ => wNo
def compD (asg : D → (RE → Prop) → Prop) (tst : WB) (we : WD) : List D → List D → Int → (List D → Int → Prop) → Prop
  | [], acc, n, Q => Q acc n
  | x :: xs, acc, n, Q => asg x fun ρ1 => tst ρ1 n fun b n1 => if b = true then we ρ1 n1 fun d n2 => compD asg tst we xs (acc ++ [d]) n2 Q else compD asg tst we xs acc n1 Q
def wComp (C : Cfg) (w w' : Scope → Expr → WD) (sc scope : Scope) (elt : Expr) (gs : List Comprehension) : WL := match gs with
  | [⟨tg, iter, ifs, isa⟩] => if (decide (isa = 0) && blkC C.N sc scope (ownOf C.N scope)) = true then fun ρ n Q => wIter C sc (w sc) tg iter ρ n fun items n1 =>
      compD (fun d k => asgT C true (relS scope sc) tg d (wipeR ρ ((ownOf C.N scope).map (·.2))) k) (wTests (w' (relS scope sc)) ifs) (w' (relS scope sc) elt) items [] n1 Q else wNo
  | _ => wNo
/-- any, all of a generator expression: it stops at the first answer stp -/
def anyD (stp : Bool) (asg : D → (RE → Prop) → Prop) (we : WD) : List D → Int → (Bool → Int → Prop) → Prop
  | [], n, Q => Q (!stp) n
  | x :: xs, n, Q => asg x fun ρ1 => we ρ1 n fun d n1 => match d with
    | .bool b => if b = stp then Q stp n1 else anyD stp asg we xs n1 Q
    | _ => False
/-- the names of a generator's block -/
def genC (N : List Str) (sc scope : Scope) : Bool := scope.kind == .function && !scope.isCoroutine && decide (scope.names.lookup (".0" : Str) = some .local) &&
  scope.names.all fun y => decide (scope.names.lookup y.1 = some y.2) && match y.2 with
    | .cell => false
    | .free => (match sc.names.lookup y.1 with
      | some .cell => true
      | some .free => true
      | _ => false)
    | .local => true
    | .globalImplicit => true
    | .globalExplicit => false
def noFold : Expr → Bool
  | .List .. => false
  | .Set .. => false
  | _ => true
def wGen (C : Cfg) (w w' : Scope → Expr → WD) (stp : Bool) (sc scope : Scope) (elt : Expr) (gs : List Comprehension) : WD := match gs with
  | [⟨tg, iter, ifs, isa⟩] => if (C.gens && (decide (isa = 0) && (ifs.isEmpty && (noFold iter && genC C.N sc scope)))) = true then fun ρ n Q => wIter C sc (w sc) tg iter ρ n fun items n1 =>
      anyD stp (fun d k => asgT C true scope tg d (wipeR ρ ((ownOf C.N scope).map (·.2))) k) (w' scope elt) items n1 fun b n2 => Q (.bool b) n2 else wNo
  | _ => wNo

/-! ### calls -/
def sumD : List D → Option Int
  | [] => some 0
  | .int i :: r => (sumD r).map (i + ·)
  | _ => none
def callD (f : Str) (ds : List D) (Q : D → Prop) : Prop :=
  if (f == ("abs" : Str)) = true then (match ds with
    | [.int i] => Q (.int (if i < 0 then -i else i))
    | _ => False)
  else if (f == ("len" : Str)) = true then (match ds with
    | [.list xs] => Q (.int xs.length)
    | [.tuple xs] => Q (.int xs.length)
    | _ => False)
  else if (f == ("int" : Str)) = true then (match ds with
    | [.int i] => Q (.int i)
    | _ => False)
  else if (f == ("sum" : Str)) = true then (match ds with
    | [.list xs] => (match sumD xs with
      | some i => Q (.int i)
      | none => False)
    | _ => False)
  else if (f == ("list" : Str)) = true then (match ds with
    | [.list xs] => Q (.list xs)
    | _ => False)
  else if (f == ("tuple" : Str)) = true then (match ds with
    | [.list xs] => Q (.tuple xs)
    | _ => False)
  else False
def bltOne (f : Str) : Bool := f == ("abs" : Str) || (f == ("len" : Str) || (f == ("int" : Str) || (f == ("sum" : Str) || (f == ("list" : Str) || f == ("tuple" : Str)))))
def wCallF (C : Cfg) (sc : Scope) (w w' : Scope → Expr → WD) (f : Str) (es : List Expr) : WD := match C.G f with
  | some S => if (plainN f && (C.ar f es.length && (decide (0 < es.length) && es.all noStar))) = true then fun ρ n Q => wArgs (wArg C sc (w sc)) es ρ n fun ds n1 => S C.row n1 (ds ++ C.dfl f es.length) Q else wNo
  | none => match es with
    | [.GeneratorExp elt gs scope _] =>
      if (f == ("any" : Str)) = true then wGen C w w' true sc scope elt gs
      else if (f == ("all" : Str)) = true then wGen C w w' false sc scope elt gs
      else wNo
    | [e] => if (bltOne f && noStar e) = true then fun ρ n Q => w sc e ρ n fun d n1 => callD f [d] fun z => Q z n1 else wNo
    | _ => wNo
def wCall (C : Cfg) (sc : Scope) (w w' : Scope → Expr → WD) (g : Expr) (es : List Expr) (kws : List Keyword) : WD := match g, kws with
  | .Name f _, [] => if glB sc f = true then wCallF C sc w w' f es else wNo
  | _, _ => wNo

def wpE : Nat → Cfg → Scope → Expr → WD
  | 0, _, _, _ => wNo
  | f + 1, C, sc, e => match e with
    | .Constant c _ _ => wConst c
    | .Name x _ => wName C sc x
    | .Tuple es _ _ => fun ρ n Q => wArgs (wpE f C sc) es ρ n fun ds n1 => ds.length ≤ 1000 ∧ Q (.tuple ds) n1
    | .List es _ => fun ρ n Q => wArgs (wpE f C sc) es ρ n fun ds n1 => ds.length ≤ 1000 ∧ Q (.list ds) n1
    | .BinOp a op b _ => wBin op (wpE f C sc a) (wpE f C sc b)
    | .UnaryOp op a _ => (match op with
      | .USub => wNeg (wpE f C sc a)
      | _ => wNo)
    | .Compare a ops cs _ => wCmp (wpE f C sc) a ops cs
    | .BoolOp op es _ => (match op with
      | .And => wAnd (wpE f C sc) es
      | .Or => wOr (wpE f C sc) es)
    | .Subscript a i _ => wSub C sc (wpE f C sc) a i
    | .Call g es kws _ => wCall C sc (wpE f C) (wpE f C.ng) g es kws
    | .ListComp elt gs scope _ => fun ρ n Q => wComp C (wpE f C) (wpE f C.ng) sc scope elt gs ρ n fun ds n1 => Q (.list ds) n1
    | _ => wNo
/-- a list made anew -/
def wpF (C : Cfg) (f : Nat) (sc : Scope) (e : Expr) : WL := match e with
  | .List es _ => fun ρ n Q => wArgs (wpE f C sc) es ρ n fun ds n1 => ds.length ≤ 1000 ∧ Q ds n1
  | .ListComp elt gs scope _ => wComp C (wpE f C) (wpE f C.ng) sc scope elt gs
  | .BinOp a .Add b _ => fun ρ n Q => wpE f C sc a ρ n fun x n1 => wpE f C sc b ρ n1 fun y n2 => match x, y with
    | .list xs, .list ys => xs.length + ys.length ≤ sizeLine ∧ Q (xs ++ ys) n2
    | _, _ => False
  | _ => wNo

/-! ### tests -/
def tAnds (t : Expr → WB) : List Expr → WB
  | [] => wNo
  | e :: r => match r with
    | [] => t e
    | _ :: _ => fun ρ n Q => t e ρ n fun b n1 => if b = true then tAnds t r ρ n1 Q else Q false n1
def tOrs (t : Expr → WB) : List Expr → WB
  | [] => wNo
  | e :: r => match r with
    | [] => t e
    | _ :: _ => fun ρ n Q => t e ρ n fun b n1 => if b = true then Q true n1 else tOrs t r ρ n1 Q
def wpT (C : Cfg) : Nat → Scope → Expr → WB
  | 0, _, _ => wNo
  | f + 1, sc, e => match e with
    | .BoolOp op es _ => (match op with
      | .And => tAnds (wpT C f sc) es
      | .Or => tOrs (wpT C f sc) es)
    | .UnaryOp op a _ => (match op with
      | .Not => fun ρ n Q => wpT C f sc a ρ n fun b n1 => Q (!b) n1
      | _ => wNo)
    | .Compare a ops cs p => wCond (wpE f C sc) (.Compare a ops cs p)
    | .Name x p => wCond (wpE f C sc) (.Name x p)
    | .Call g es ks p => wCond (wpE f C sc) (.Call g es ks p)
    | _ => wNo

/-! ### statements -/
/-- the own list read as data; out of sight -/
def frzR (ρ : RE) : RE := ρ.map fun
  | some (.own xs) => some (.shr (.list xs))
  | c => c
def hidR (ρ : RE) : RE := ρ.map fun
  | some (.own _) => none
  | c => c
def scalD : D → Bool
  | .int _ => true
  | .bool _ => true
  | .none => true
  | _ => false
def isLen : Expr → Bool
  | .Call (.Name f _) _ _ _ => f == ("len" : Str)
  | _ => false
abbrev NX := RE → Int → Prop
abbrev WS := RE → Int → NX → QD → Prop
def sNo : WS := fun _ _ _ _ => False
/-- may a name take this value as it stands -/
def setOk (sc : Scope) (x : Str) (pp : Pos) : Expr → Bool
  | .ListComp _ gs scope lp => locB sc x && ((pp.line == lp.line) && (!(scope.names.any fun (n, k) => n == x && (k == .local || k == .cell)) && (match gs with
    | [_] => true
    | _ => false)))
  | .SetComp .. => false
  | .DictComp .. => false
  | _ => true
def wsSet (C : Cfg) (f : Nat) (sc : Scope) (x : Str) (pp : Pos) (e : Expr) : WS := match findIx C.N x with
  | none => sNo
  | some i => if ((locB sc x || decide (sc.names.lookup x = some .cell)) && (plainN x && setOk sc x pp e)) = true then (if C.own = some i then fun ρ n nx _ => wpF C f sc e (frzR ρ) n fun ds n1 => nx (ρ.set i (some (.own ds))) n1
      else if isLen e = true then fun ρ n nx _ => wpE f C sc e (frzR ρ) n fun d n1 => scalD d = true ∧ nx (ρ.set i (some (.shr d))) n1
      else fun ρ n nx _ => wpE f C sc e (hidR ρ) n fun d n1 => nx (ρ.set i (some (.shr d))) n1) else sNo
def wsPar (C : Cfg) (f : Nat) (sc : Scope) (x y : Str) (a b : Expr) : WS := match findIx C.N x, findIx C.N y with
  | some i, some j => if (locB sc x && (locB sc y && (decide (i ≠ j) && decide (C.own = none)))) = true then fun ρ n nx _ => wpE f C sc a ρ n fun d n1 => wpE f C sc b ρ n1 fun e n2 =>
      nx ((ρ.set i (some (.shr d))).set j (some (.shr e))) n2 else sNo
  | _, _ => sNo
def wsAssign (C : Cfg) (f : Nat) (sc : Scope) (tgs : List Expr) (e : Expr) : WS := match tgs with
  | [.Name x pp] => wsSet C f sc x pp e
  | [.Tuple ts kt pt] => (match e with
    | .Tuple vs k2 p2 => (match ts, vs with
      | [.Name x px, .Name y py], [a, b] => if (decide (px.line = py.line) && (!(([a, b] : List Expr).any fun | .Starred .. => true | _ => false) && (!(([a, b] : List Expr).all (foldedForSure 8)) && !(([a, b] : List Expr).all (constantsAlone 8))))) = true then wsPar C f sc x y a b else sNo
      | _, _ => sNo)
    | .Name x p => fun ρ n nx _ => wpE f C sc (.Name x p) (hidR ρ) n fun d n1 => asgT C false sc (.Tuple ts kt pt) d ρ fun ρ1 => nx ρ1 n1
    | .Call g es ks p => fun ρ n nx _ => wpE f C sc (.Call g es ks p) (hidR ρ) n fun d n1 => asgT C false sc (.Tuple ts kt pt) d ρ fun ρ1 => nx ρ1 n1
    | _ => sNo)
  | [.Subscript (.Name x _) (.Constant (.int 1) _ _) _] => fun ρ n nx _ => (match cellOf C sc ρ x with
    | some .box => wpE f C sc e (hidR ρ) n fun d _ => (match d with
      | .int m => nx ρ m
      | _ => False)
    | _ => False)
  | _ => sNo
def insD (xs : List D) (k d : D) : List D := match k with
  | .int j => xs.take j.toNat ++ [d] ++ xs.drop j.toNat
  | _ => xs
def InsOk (xs : List D) (k : D) : Prop := match k with
  | .int j => xs.length < sizeLine ∧ 0 ≤ j ∧ j < 2 ^ 63
  | _ => False
def AppOk (xs : List D) : Prop := xs.length < sizeLine
def wsMeth (C : Cfg) (f : Nat) (sc : Scope) (x m : Str) (ln : Bool) (es : List Expr) : WS := match slot C sc x with
  | none => sNo
  | some i => if (ln && es.all noStar) = false then sNo else if (m == ("append" : Str)) = true then (match es with
      | [e] => fun ρ n nx _ => (match ρ[i]? with
        | some (some (.own xs)) => wpE f C sc e (hidR ρ) n fun d n1 => AppOk xs ∧ nx (ρ.set i (some (.own (xs ++ [d])))) n1
        | _ => False)
      | _ => sNo)
    else if (m == ("insert" : Str)) = true then (match es with
      | [e, e2] => fun ρ n nx _ => (match ρ[i]? with
        | some (some (.own xs)) => wpE f C sc e (hidR ρ) n fun k n1 => wpE f C sc e2 (hidR ρ) n1 fun d n2 => InsOk xs k ∧ nx (ρ.set i (some (.own (insD xs k d)))) n2
        | _ => False)
      | _ => sNo)
    else sNo
def forD (asg : D → RE → (RE → Prop) → Prop) (body : WS) : List D → WS
  | [] => fun ρ n nx _ => nx ρ n
  | x :: xs => fun ρ n nx rt => asg x ρ fun ρ1 => body ρ1 n (fun ρ2 n2 => forD asg body xs ρ2 n2 nx rt) rt
def whileD (tst : WB) (body : WS) : WS := fun ρ n nx rt => ∃ I : Nat → RE → Int → Prop, (∃ m, I m ρ n) ∧ ∀ m ρ n, I m ρ n →
  tst (frzR ρ) n fun b n1 => if b = true then body ρ n1 (fun ρ2 n2 => ∃ m', m' < m ∧ I m' ρ2 n2) rt else nx ρ n1
def wpSs (s : Stmt → WS) : List Stmt → WS
  | [] => fun ρ n nx _ => nx ρ n
  | a :: r => match r with
    | [] => s a
    | _ :: _ => fun ρ n nx rt => s a ρ n (fun ρ1 n1 => wpSs s r ρ1 n1 nx rt) rt
def wpS (C : Cfg) : Nat → Scope → Stmt → WS
  | 0, _, _ => sNo
  | f + 1, sc, st => match st with
    | .Return (some e) _ => fun ρ n _ rt => wpE f C sc e (frzR ρ) n rt
    | .Return none _ => fun _ n _ rt => rt .none n
    | .Assign tgs e _ => wsAssign C f sc tgs e
    | .If c a b _ => fun ρ n nx rt => wpT C f sc c (frzR ρ) n fun t n1 => if t = true then wpSs (wpS C f sc) a ρ n1 nx rt else wpSs (wpS C f sc) b ρ n1 nx rt
    | .For tg iter body orelse _ => (match orelse with
      | [] => fun ρ n nx rt => wIter C sc (wpE f C sc) tg iter (hidR ρ) n fun items n1 => forD (asgT C false sc tg) (wpSs (wpS C f sc) body) items ρ n1 nx rt
      | _ => sNo)
    | .While c body orelse _ => (match orelse with
      | [] => whileD (wpT C f sc c) (wpSs (wpS C f sc) body)
      | _ => sNo)
    | .Expr e _ => (match e with
      | .Call (.Attribute (.Name x _) m ap) es [] cp => wsMeth C f sc x m (ap.endLine == cp.line) es
      | _ => sNo)
    | _ => sNo
end RT
namespace RT
open PySem PySem.Spec PyProof.Rows L2

/-! ### data in a view -/
mutual
inductive Dq (K : PySem.W.Frag) (H : Hp) : V → PyData → Prop
  | non : Dq K H .non .none
  | bl (b : Bool) : Dq K H (.bl b) (.bool b)
  | int (i : Int) : Dq K H (.int i) (.int i)
  | str (x : Str) : Dq K H (.str x) (.str x)
  | lst {a : Addr} {xs : List V} {ds : List PyData} : Rd H a (.lst xs) → DqAll K H xs ds → Dq K H (.ref a) (.list ds)
  | tup {a : Addr} {xs : List V} {ds : List PyData} : SqT K H a xs → DqAll K H xs ds → Dq K H (.ref a) (.tuple ds)
inductive DqAll (K : PySem.W.Frag) (H : Hp) : List V → List PyData → Prop
  | nil : DqAll K H [] []
  | cons {v : V} {vs : List V} {d : PyData} {ds : List PyData} : Dq K H v d → DqAll K H vs ds → DqAll K H (v :: vs) (d :: ds)
end
mutual
theorem dq_dp {K : PySem.W.Frag} {A : Hp} : ∀ (d : D) (v : V), Dq K A v d → Dp K A v d
  | .none, _, q => by cases q; exact .non
  | .bool _, _, q => by cases q; exact .bl _
  | .int _, _, q => by cases q; exact .int _
  | .str _, _, q => by cases q; exact .str _
  | .list ds, _, q => by
    cases q with
    | lst s r => exact .lst (.inl s) (dqAll_dp ds _ r)
  | .tuple ds, _, q => by
    cases q with
    | tup s r => exact .tup s (dqAll_dp ds _ r)
  | .dict _, _, q => by cases q
theorem dqAll_dp {K : PySem.W.Frag} {A : Hp} : ∀ (ds : List D) (vs : List V), DqAll K A vs ds → DpAll K A vs ds
  | [], _, q => by cases q; exact .nil
  | d :: ds, _, q => by
    cases q with
    | cons a b => exact .cons (dq_dp d _ a) (dqAll_dp ds _ b)
end
def Sub (A B : Hp) : Prop := ∀ a o, A a = some o → B a = some o
theorem Sub.refl (A : Hp) : Sub A A := fun _ _ h => h
theorem Sub.trans {A B C : Hp} (h : Sub A B) (g : Sub B C) : Sub A C := fun a o e => g a o (h a o e)
theorem Sub.seq {K : PySem.W.Frag} {A B : Hp} {a : Addr} {xs : List V} (h : Sub A B) (s : SqL K A a xs) : SqL K B a xs := by
  rcases s with (s | ⟨o, s⟩) | s
  · exact .inl (.inl (h _ _ s))
  · exact .inl (.inr ⟨o, h _ _ s⟩)
  · exact .inr s
theorem Sub.rd {A B : Hp} {a : Addr} {u : HO} (h : Sub A B) (s : Rd A a u) : Rd B a u := by
  rcases s with s | ⟨o, s⟩
  · exact .inl (h _ _ s)
  · exact .inr ⟨o, h _ _ s⟩
theorem Sub.tup {K : PySem.W.Frag} {A B : Hp} {a : Addr} {xs : List V} (h : Sub A B) (s : SqT K A a xs) : SqT K B a xs := by
  rcases s with (s | ⟨o, s⟩) | s
  · exact .inl (.inl (h _ _ s))
  · exact .inl (.inr ⟨o, h _ _ s⟩)
  · exact .inr s
mutual
theorem dp_mono {K : PySem.W.Frag} {A B : Hp} (h : Sub A B) : ∀ (d : D) (v : V), Dq K A v d → Dq K B v d
  | .none, _, q => by cases q; exact .non
  | .bool _, _, q => by cases q; exact .bl _
  | .int _, _, q => by cases q; exact .int _
  | .str _, _, q => by cases q; exact .str _
  | .list ds, _, q => by
    cases q with
    | lst s r => exact .lst (h.rd s) (dpAll_mono h ds _ r)
  | .tuple ds, _, q => by
    cases q with
    | tup s r => exact .tup (h.tup s) (dpAll_mono h ds _ r)
  | .dict _, _, q => by cases q
theorem dpAll_mono {K : PySem.W.Frag} {A B : Hp} (h : Sub A B) : ∀ (ds : List D) (vs : List V), DqAll K A vs ds → DqAll K B vs ds
  | [], _, q => by cases q; exact .nil
  | d :: ds, _, q => by
    cases q with
    | cons a b => exact .cons (dp_mono h d _ a) (dpAll_mono h ds _ b)
end
theorem dpa_len {K : PySem.W.Frag} {A : Hp} : ∀ {vs : List V} {ds : List D}, DqAll K A vs ds → vs.length = ds.length
  | _, _, .nil => rfl
  | _, _, .cons _ r => by simp [dpa_len r]
theorem dpa_get {K : PySem.W.Frag} {A : Hp} : ∀ {vs : List V} {ds : List D} {i : Nat} {v : V}, DqAll K A vs ds → vs[i]? = some v → ∃ d, ds[i]? = some d ∧ Dq K A v d
  | _, _, _, _, .nil, e => by simp at e
  | _, _, 0, _, .cons a _, e => by
    simp at e
    subst e
    exact ⟨_, rfl, a⟩
  | _, _, i + 1, _, .cons _ r, e => by
    obtain ⟨d, e1, e2⟩ := dpa_get (i := i) r (by simpa using e)
    exact ⟨d, by simpa using e1, e2⟩
theorem dpa_get2 {K : PySem.W.Frag} {A : Hp} : ∀ {vs : List V} {ds : List D} {i : Nat} {d : D}, DqAll K A vs ds → ds[i]? = some d → ∃ v, vs[i]? = some v ∧ Dq K A v d
  | _, _, _, _, .nil, e => by simp at e
  | _, _, 0, _, .cons a _, e => by
    simp at e
    subst e
    exact ⟨_, rfl, a⟩
  | _, _, i + 1, _, .cons _ r, e => by
    obtain ⟨d, e1, e2⟩ := dpa_get2 (i := i) r (by simpa using e)
    exact ⟨d, by simpa using e1, e2⟩
theorem dpa_app {K : PySem.W.Frag} {A : Hp} : ∀ {vs ws : List V} {ds es : List D}, DqAll K A vs ds → DqAll K A ws es → DqAll K A (vs ++ ws) (ds ++ es)
  | _, _, _, _, .nil, s => s
  | _, _, _, _, .cons a r, s => .cons a (dpa_app r s)
theorem dpa_take {K : PySem.W.Frag} {A : Hp} : ∀ {vs : List V} {ds : List D} (n : Nat), DqAll K A vs ds → DqAll K A (vs.take n) (ds.take n)
  | _, _, 0, _ => .nil
  | _, _, _ + 1, .nil => .nil
  | _, _, n + 1, .cons a r => .cons a (dpa_take n r)
theorem dpa_drop {K : PySem.W.Frag} {A : Hp} : ∀ {vs : List V} {ds : List D} (n : Nat), DqAll K A vs ds → DqAll K A (vs.drop n) (ds.drop n)
  | _, _, 0, r => r
  | _, _, _ + 1, .nil => .nil
  | _, _, n + 1, .cons _ r => dpa_drop n r
theorem dpa_snoc {K : PySem.W.Frag} {A : Hp} {vs : List V} {ds : List D} {v : V} {d : D} (r : DqAll K A vs ds) (h : Dq K A v d) : DqAll K A (vs ++ [v]) (ds ++ [d]) := dpa_app r (.cons h .nil)
theorem dpa_ints {K : PySem.W.Frag} {A : Hp} : ∀ (ns : List Int), DqAll K A (ns.map V.int) (ns.map PyData.int)
  | [] => .nil
  | _ :: r => .cons (.int _) (dpa_ints r)

/-- the box: its own object, its row's -/
structure BoxA where
  b : Addr
  r : Addr
/-- the box, the code tables -/
structure BxT where
  box : Option BoxA
  tabs : List Addr
def BoxOk (K : PySem.W.Frag) (bx : BxT) (row : List Int) (n : Int) (H Vw : Hp) : Prop :=
  ∀ b, bx.box = some b → H b.b = some (.lst [.ref b.r, .int n]) ∧ Rd Vw b.r (.lst (row.map V.int)) ∧ Vw b.b = none
/-- lists are not too long -/
def Big (K : PySem.W.Frag) (H : Hp) : Prop := (∀ a xs, SqL K H a xs → xs.length ≤ sizeLine) ∧ ∀ a xs, SqT K H a xs → xs.length ≤ sizeLine
structure Stt (K : PySem.W.Frag) (bx : BxT) (row : List Int) (n : Int) (H Vw : Hp) : Prop where
  sub : Sub Vw H
  box : BoxOk K bx row n H Vw
  tab : ∀ P ∈ bx.tabs, ∃ ps : Array Value, H P = some (.tbl ps) ∧ TriplesOk ps.toList
  vis : ∀ a ps, Vw a ≠ some (.tbl ps)
structure Stp (bx : BxT) (H Vw H' Vw' : Hp) : Prop where
  view : Sub Vw Vw'
  frame : ∀ a o, H a = some o → (∀ b, bx.box = some b → a ≠ b.b) → (∀ ps, o ≠ .tbl ps) → H' a = some o
  grow : ∀ a ps, H a = some (.tbl ps) → ∃ qs, H' a = some (.tbl qs)
  new : ∀ a o, Vw' a = some o → Vw a = some o ∨ H a = none
section
variable {K : PySem.W.Frag} {bx : BxT} {row : List Int} {n n1 n2 : Int} {H Vw H1 Vw1 H2 Vw2 : Hp}
theorem Stp.refl : Stp bx H Vw H Vw := ⟨Sub.refl _, fun _ _ h _ _ => h, fun _ ps h => ⟨ps, h⟩, fun _ _ h => .inl h⟩
/-- what was there is there -/
theorem Stp.there {x : Addr} {u : HO} (s1 : Stt K bx row n1 H1 Vw1) (a : Stp bx H Vw H1 Vw1) (q : H x = some u) : H1 x ≠ none := by
  intro h
  by_cases ht : ∃ ps, u = .tbl ps
  · obtain ⟨ps, rfl⟩ := ht
    obtain ⟨qs, e⟩ := a.grow x ps q
    rw [e] at h
    cases h
  · by_cases hb : ∃ b, bx.box = some b ∧ x = b.b
    · obtain ⟨b, e1, rfl⟩ := hb
      rw [(s1.box b e1).1] at h
      cases h
    · rw [a.frame x u q (fun b e1 e2 => hb ⟨b, e1, e2⟩) fun ps e => ht ⟨ps, e⟩] at h
      cases h
theorem Stp.fresh {p : Addr} (s1 : Stt K bx row n1 H1 Vw1) (a : Stp bx H Vw H1 Vw1) (h : H1 p = none) : H p = none := by
  cases q : H p with
  | none => rfl
  | some u => exact absurd h (a.there s1 q)
theorem Stp.trans (s1 : Stt K bx row n1 H1 Vw1) (a : Stp bx H Vw H1 Vw1) (b : Stp bx H1 Vw1 H2 Vw2) : Stp bx H Vw H2 Vw2 :=
  ⟨a.view.trans b.view, fun x o e h h2 => b.frame x o (a.frame x o e h h2) h h2, fun x ps e => by
    obtain ⟨qs, e1⟩ := a.grow x ps e
    exact b.grow x qs e1, fun x o e => by
    rcases b.new x o e with h | h
    · exact a.new x o h
    · exact .inr (a.fresh s1 h)⟩
theorem Stt.sub_new {p : Addr} {o : HO} (s : Stt K bx row n H Vw) (h : H p = none) : Sub Vw (upd Vw p o) := fun a u e => by
  rw [upd_ne (ne_of_none (s.sub a u e) h)]
  exact e
/-- a new object, laid and seen -/
theorem Stt.new {p : Addr} {o : HO} (s : Stt K bx row n H Vw) (h : H p = none) (ho : ∀ ps, o ≠ .tbl ps := by intro _ z; cases z) : Stt K bx row n (upd H p o) (upd Vw p o) := by
  refine ⟨fun a u e => ?_, fun b e => ?_, fun P hP => ?_, fun a ps e => ?_⟩
  · by_cases ha : a = p
    · rw [ha, upd_same] at e ⊢
      exact e
    · rw [upd_ne ha] at e ⊢
      exact s.sub a u e
  · obtain ⟨q1, q2, q3⟩ := s.box b e
    have hne : b.b ≠ p := ne_of_none q1 h
    exact ⟨by rw [upd_ne hne]; exact q1, (s.sub_new h).rd q2, by rw [upd_ne hne]; exact q3⟩
  · obtain ⟨ps, e1, e2⟩ := s.tab P hP
    exact ⟨ps, by rw [upd_ne (ne_of_none e1 h)]; exact e1, e2⟩
  · by_cases ha : a = p
    · rw [ha, upd_same] at e
      exact ho ps (Option.some.inj e)
    · rw [upd_ne ha] at e
      exact s.vis a ps e
theorem Stp.newv {p : Addr} {o : HO} (s : Stt K bx row n H Vw) (h : H p = none) : Stp bx H Vw (upd H p o) (upd Vw p o) := by
  refine ⟨s.sub_new h, fun a u e _ _ => ?_, fun a ps e => ⟨ps, ?_⟩, fun a u e => ?_⟩
  · rw [upd_ne (ne_of_none e h)]
    exact e
  · rw [upd_ne (ne_of_none e h)]
    exact e
  · by_cases ha : a = p
    · rw [ha]
      exact .inr h
    · rw [upd_ne ha] at e
      exact .inl e
/-- a new object, laid but out of the view -/
theorem Stt.newh {p : Addr} {o : HO} (s : Stt K bx row n H Vw) (h : H p = none) : Stt K bx row n (upd H p o) Vw := by
  refine ⟨fun a u e => ?_, fun b e => ?_, fun P hP => ?_, s.vis⟩
  · rw [upd_ne (ne_of_none (s.sub a u e) h)]
    exact s.sub a u e
  · obtain ⟨q1, q2, q3⟩ := s.box b e
    exact ⟨by rw [upd_ne (ne_of_none q1 h)]; exact q1, q2, q3⟩
  · obtain ⟨ps, e1, e2⟩ := s.tab P hP
    exact ⟨ps, by rw [upd_ne (ne_of_none e1 h)]; exact e1, e2⟩
theorem Stp.newh {p : Addr} {o : HO} (h : H p = none) : Stp bx H Vw (upd H p o) Vw :=
  ⟨Sub.refl _, fun a u e _ _ => by rw [upd_ne (ne_of_none e h)]; exact e, fun a ps e => ⟨ps, by rw [upd_ne (ne_of_none e h)]; exact e⟩, fun _ _ e => .inl e⟩
theorem Stt.none_of {p : Addr} (s : Stt K bx row n H Vw) (h : H p = none) : Vw p = none := by
  cases q : Vw p with
  | none => rfl
  | some o =>
    rw [s.sub p o q] at h
    cases h
theorem sub_freeze {p : Addr} {o : HO} (hv : Vw p = none) : Sub Vw (upd Vw p o) := fun a u e => by
  by_cases ha : a = p
  · rw [ha, hv] at e
    cases e
  · rw [upd_ne ha]
    exact e
/-- an object out of the view is now seen -/
theorem Stt.freeze {p : Addr} {xs : List V} (s : Stt K bx row n H Vw) (h : H p = some (.lst xs)) (hv : Vw p = none) (hb : ∀ b, bx.box = some b → p ≠ b.b) : Stt K bx row n H (upd Vw p (.lst xs)) := by
  refine ⟨fun a u e => ?_, fun b e => ?_, s.tab, fun a ps e => ?_⟩
  · by_cases ha : a = p
    · rw [ha, upd_same] at e
      rw [ha, h]
      exact e
    · rw [upd_ne ha] at e
      exact s.sub a u e
  · obtain ⟨q1, q2, q3⟩ := s.box b e
    exact ⟨q1, (sub_freeze hv).rd q2, by rw [upd_ne (hb b e).symm]; exact q3⟩
  · by_cases ha : a = p
    · rw [ha, upd_same] at e
      cases e
    · rw [upd_ne ha] at e
      exact s.vis a ps e
end

/-- a value's datum; the box's token -/
def Dv (K : PySem.W.Frag) (bx : BxT) (Vw : Hp) (v : V) (d : D) : Prop := Dq K Vw v d ∨ ∃ b, bx.box = some b ∧ v = .ref b.b ∧ d = .dict []
theorem Dv.mono {K : PySem.W.Frag} {bx : BxT} {A B : Hp} {v : V} {d : D} (h : Sub A B) (q : Dv K bx A v d) : Dv K bx B v d := q.imp (dp_mono h d v) id
def CellOk (K : PySem.W.Frag) (bx : BxT) (Vw : Hp) (v : V) : Cell → Prop
  | .shr d => Dq K Vw v d
  | .own _ => True
  | .box => ∃ b, bx.box = some b ∧ v = .ref b.b
/-- the slots hold these data -/
def Rep (K : PySem.W.Frag) (bx : BxT) (Vw : Hp) (σ : L2.St) (ρ : RE) : Prop := σ.length = ρ.length ∧ ∀ (i : Nat) (c : Cell), ρ[i]? = some (some c) → ∃ v, σ[i]? = some (some v) ∧ CellOk K bx Vw v c
theorem CellOk.mono {K : PySem.W.Frag} {bx : BxT} {A B : Hp} {v : V} (h : Sub A B) : ∀ {c : Cell}, CellOk K bx A v c → CellOk K bx B v c
  | .shr d, q => dp_mono h d v q
  | .own _, _ => trivial
  | .box, q => q
theorem Rep.mono {K : PySem.W.Frag} {bx : BxT} {A B : Hp} {σ : L2.St} {ρ : RE} (h : Sub A B) (q : Rep K bx A σ ρ) : Rep K bx B σ ρ :=
  ⟨q.1, fun i c e => let ⟨v, e1, e2⟩ := q.2 i c e; ⟨v, e1, e2.mono h⟩⟩
theorem Rep.set {K : PySem.W.Frag} {bx : BxT} {A : Hp} {σ : L2.St} {ρ : RE} {i : Nat} {v : V} {c : Cell} (q : Rep K bx A σ ρ) (h : CellOk K bx A v c) : Rep K bx A (σ.set i (some v)) (ρ.set i (some c)) := by
  refine ⟨by simp [q.1], fun j c' e => ?_⟩
  by_cases hj : i = j
  · subst hj
    by_cases hi : i < ρ.length
    · rw [List.getElem?_set_self hi] at e
      cases e
      exact ⟨v, by rw [List.getElem?_set_self (by rw [q.1]; exact hi)], h⟩
    · rw [List.getElem?_eq_none (by simpa using hi)] at e
      cases e
  · rw [List.getElem?_set_ne hj] at e
    obtain ⟨v', e1, e2⟩ := q.2 j c' e
    exact ⟨v', by rw [List.getElem?_set_ne hj]; exact e1, e2⟩
theorem wipeR_len (ρ : RE) : ∀ vs, (wipeR ρ vs).length = ρ.length
  | [] => rfl
  | v :: vs => by simp [wipeR, wipeR_len ρ vs]
theorem wipeR_some {ρ : RE} {i : Nat} {c : Cell} : ∀ {vs : List Nat}, (wipeR ρ vs)[i]? = some (some c) → ρ[i]? = some (some c) ∧ i ∉ vs
  | [], h => ⟨h, by simp⟩
  | v :: vs, h => by
    unfold wipeR at h
    by_cases hi : v = i
    · subst hi
      by_cases hv : v < (wipeR ρ vs).length
      · rw [List.getElem?_set_self hv] at h; cases h
      · rw [List.getElem?_eq_none (by simpa using hv)] at h; cases h
    · rw [List.getElem?_set_ne hi] at h
      obtain ⟨h1, h2⟩ := wipeR_some h
      exact ⟨h1, by simp only [List.mem_cons, not_or]; exact ⟨fun e => hi e.symm, h2⟩⟩
theorem wipe_get {σ : L2.St} {i : Nat} {v : V} : ∀ {vs : List Nat}, i ∉ vs → σ[i]? = some (some v) → (wipe σ vs)[i]? = some (some v)
  | [], _, h => h
  | w :: vs, hn, h => by
    unfold wipe
    have h1 : w ≠ i := fun e => hn (by simp [e])
    rw [List.getElem?_set_ne h1]
    exact wipe_get (fun e => hn (by simp [e])) h
theorem Rep.wipe {K : PySem.W.Frag} {bx : BxT} {A : Hp} {σ : L2.St} {ρ : RE} (q : Rep K bx A σ ρ) (vs : List Nat) : Rep K bx A (wipe σ vs) (wipeR ρ vs) := by
  refine ⟨by rw [wipe_length, wipeR_len, q.1], fun i c e => ?_⟩
  obtain ⟨e1, e2⟩ := wipeR_some e
  obtain ⟨v, h1, h2⟩ := q.2 i c e1
  exact ⟨v, wipe_get e2 h1, h2⟩

/-! ### the judgements -/
/-- t keeps w's word -/
def DEw (K : PySem.W.Frag) (C : Cfg) (bx : BxT) (t : TE) (w : WD) : Prop :=
  ∀ (σ : L2.St) (H Vw : Hp) (ρ : RE) (n : Int) (Qd : QD) (Q : VK), Stt K bx C.row n H Vw → Rep K bx Vw σ ρ → w ρ n Qd →
    (∀ v H' Vw' d n', Stp bx H Vw H' Vw' → Stt K bx C.row n' H' Vw' → Big K H' → Dq K Vw' v d → Qd d n' → Q v H') → t σ H Q
def DVw (K : PySem.W.Frag) (C : Cfg) (bx : BxT) (t : TE) (w : WD) : Prop :=
  ∀ (σ : L2.St) (H Vw : Hp) (ρ : RE) (n : Int) (Qd : QD) (Q : VK), Stt K bx C.row n H Vw → Rep K bx Vw σ ρ → w ρ n Qd →
    (∀ v H' Vw' d n', Stp bx H Vw H' Vw' → Stt K bx C.row n' H' Vw' → Big K H' → Dv K bx Vw' v d → Qd d n' → Q v H') → t σ H Q
def DAw (K : PySem.W.Frag) (C : Cfg) (bx : BxT) (t : TA) (w : WL) : Prop :=
  ∀ (σ : L2.St) (H Vw : Hp) (ρ : RE) (n : Int) (Qd : List D → Int → Prop) (Q : List V → Hp → Prop), Stt K bx C.row n H Vw → Rep K bx Vw σ ρ → w ρ n Qd →
    (∀ vs H' Vw' ds n', Stp bx H Vw H' Vw' → Stt K bx C.row n' H' Vw' → DqAll K Vw' vs ds → Qd ds n' → Q vs H') → t σ H Q
def DAVw (K : PySem.W.Frag) (C : Cfg) (bx : BxT) (t : TA) (w : WL) : Prop :=
  ∀ (σ : L2.St) (H Vw : Hp) (ρ : RE) (n : Int) (Qd : List D → Int → Prop) (Q : List V → Hp → Prop), Stt K bx C.row n H Vw → Rep K bx Vw σ ρ → w ρ n Qd →
    (∀ vs H' Vw' ds n', Stp bx H Vw H' Vw' → Stt K bx C.row n' H' Vw' → Paired (Dv K bx Vw') vs ds → Qd ds n' → Q vs H') → t σ H Q
/-- a list made anew, out of the view -/
def DFw (K : PySem.W.Frag) (C : Cfg) (bx : BxT) (t : TE) (w : WL) : Prop :=
  ∀ (σ : L2.St) (H Vw : Hp) (ρ : RE) (n : Int) (Qd : List D → Int → Prop) (Q : VK), Stt K bx C.row n H Vw → Rep K bx Vw σ ρ → w ρ n Qd →
    (∀ p vs H' Vw' ds n', Stp bx H Vw H' Vw' → Stt K bx C.row n' H' Vw' → Big K H' → H p = none → H' p = some (.lst vs) → Vw' p = none → DqAll K Vw' vs ds → Qd ds n' → Q (.ref p) H') → t σ H Q
def DTw (K : PySem.W.Frag) (C : Cfg) (bx : BxT) (t : TT) (w : WB) : Prop :=
  ∀ (σ : L2.St) (H Vw : Hp) (ρ : RE) (n : Int) (Qd : Bool → Int → Prop) (Q : Bool → Hp → Prop), Stt K bx C.row n H Vw → Rep K bx Vw σ ρ → w ρ n Qd →
    (∀ b H' Vw' n', Stp bx H Vw H' Vw' → Stt K bx C.row n' H' Vw' → Big K H' → Qd b n' → Q b H') → t σ H Q
def DE (X : Cx) (C : Cfg) (bx : BxT) (e : Expr) (w : WD) : Prop := ∃ t, PE X e t ∧ DEw X.K C bx t w
def DV (X : Cx) (C : Cfg) (bx : BxT) (e : Expr) (w : WD) : Prop := ∃ t, PE X e t ∧ DVw X.K C bx t w
def DA (X : Cx) (C : Cfg) (bx : BxT) (es : List Expr) (w : WL) : Prop := ∃ t, PA X es t ∧ DAw X.K C bx t w
def DAV (X : Cx) (C : Cfg) (bx : BxT) (es : List Expr) (w : WL) : Prop := ∃ t, PA X es t ∧ DAVw X.K C bx t w
def DF (X : Cx) (C : Cfg) (bx : BxT) (e : Expr) (w : WL) : Prop := ∃ t, PE X e t ∧ DFw X.K C bx t w
def DT (X : Cx) (C : Cfg) (bx : BxT) (e : Expr) (w : WB) : Prop := ∃ t, PT X e t ∧ DTw X.K C bx t w

theorem big_of {X : Cx} {pins : List (Addr × Obj)} {σ : L2.St} {H : Hp} {s : Shared} (I : Inv X pins σ H s) : Big X.K H := ⟨fun a xs h => by
  obtain ⟨_, _, _, z⟩ := I.list h
  exact z, fun a xs h => by
  obtain ⟨_, _, _, z⟩ := I.tuple h
  exact z⟩
/-- what is known of every state -/
def tInfo (K : PySem.W.Frag) (t : TE) : TE := fun σ H Q => Big K H → t σ H fun v H' => Big K H' → Q v H'
theorem pe_info {X : Cx} {e : Expr} {t : TE} (h : PE X e t) : PE X e (tInfo X.K t) :=
  ⟨fun pins s σ H Q I q => thn (h.run pins s σ H _ I (q (big_of I))) fun u s1 ⟨v, H', I', r, q'⟩ => ⟨v, H', I', r, q' (big_of I')⟩⟩
def tInfoT (K : PySem.W.Frag) (t : TT) : TT := fun σ H Q => Big K H → t σ H fun b H' => Big K H' → Q b H'
theorem pt_info {X : Cx} {e : Expr} {t : TT} (h : PT X e t) : PT X e (tInfoT X.K t) :=
  ⟨fun pins s σ H Q I q => thn (h.run pins s σ H _ I (q (big_of I))) fun u s1 ⟨H', I', q'⟩ => ⟨H', I', q' (big_of I')⟩⟩
def tInfoS (K : PySem.W.Frag) (t : TS) : TS := fun E σ H => Big K H → t { nx := fun σ' H' => Big K H' → E.nx σ' H', rt := fun v H' => Big K H' → E.rt v H', bk := E.bk, ct := E.ct } σ H
theorem ps_info {X : Cx} {e : Stmt} {t : TS} (h : PS X e t) : PS X e (tInfoS X.K t) :=
  ⟨fun pins s σ H E I q => thn (h.run pins s σ H _ I (q (big_of I))) fun f s1 z => by
    cases f with
    | next =>
      obtain ⟨σ', H', I', q'⟩ := z
      exact ⟨σ', H', I', q' (big_of I')⟩
    | ret u =>
      obtain ⟨v, σ', H', I', r, q'⟩ := z
      exact ⟨v, σ', H', I', r, q' (big_of I')⟩
    | brk => exact z
    | cont => exact z⟩
/-- nothing is promised -/
def tF : TE := fun _ _ _ => False
theorem pe_F {X : Cx} {e : Expr} : PE X e tF := ⟨fun _ _ _ _ _ _ h => h.elim⟩
def tFA : TA := fun _ _ _ => False
theorem pa_F {X : Cx} {e : List Expr} : PA X e tFA := ⟨fun _ _ _ _ _ _ _ h => h.elim⟩
def tFT : TT := fun _ _ _ => False
theorem pt_F {X : Cx} {e : Expr} : PT X e tFT := ⟨fun _ _ _ _ _ _ h => h.elim⟩
theorem de_F {X : Cx} {C : Cfg} {bx : BxT} {e : Expr} : DE X C bx e wNo := ⟨tF, pe_F, fun _ _ _ _ _ _ _ _ _ h _ => h⟩
theorem da_F {X : Cx} {C : Cfg} {bx : BxT} {e : List Expr} : DA X C bx e wNo := ⟨tFA, pa_F, fun _ _ _ _ _ _ _ _ _ h _ => h⟩
theorem df_F {X : Cx} {C : Cfg} {bx : BxT} {e : Expr} : DF X C bx e wNo := ⟨tF, pe_F, fun _ _ _ _ _ _ _ _ _ h _ => h⟩
theorem dt_F {X : Cx} {C : Cfg} {bx : BxT} {e : Expr} : DT X C bx e wNo := ⟨tFT, pt_F, fun _ _ _ _ _ _ _ _ _ h _ => h⟩
/-- by a rule's reading, told with what is known of the state behind -/
theorem DE.mk {X : Cx} {C : Cfg} {bx : BxT} {e : Expr} {w : WD} {t : TE} (h : PE X e t)
    (k : ∀ (σ : L2.St) (H Vw : Hp) (ρ : RE) (n : Int) (Qd : QD) (Q : VK), Stt X.K bx C.row n H Vw → Rep X.K bx Vw σ ρ → Big X.K H → w ρ n Qd →
      (∀ v H' Vw' d n', Stp bx H Vw H' Vw' → Stt X.K bx C.row n' H' Vw' → Dq X.K Vw' v d → Qd d n' → Q v H') → t σ H Q) : DE X C bx e w :=
  ⟨tInfo X.K t, pe_info h, fun σ H Vw ρ n Qd Q s r hw q => fun b2 => k σ H Vw ρ n Qd _ s r b2 hw fun v H' Vw' d n' s1 s2 dp qd => fun b3 => q v H' Vw' d n' s1 s2 b3 dp qd⟩
theorem DF.mk {X : Cx} {C : Cfg} {bx : BxT} {e : Expr} {w : WL} {t : TE} (h : PE X e t)
    (k : ∀ (σ : L2.St) (H Vw : Hp) (ρ : RE) (n : Int) (Qd : List D → Int → Prop) (Q : VK), Stt X.K bx C.row n H Vw → Rep X.K bx Vw σ ρ → Big X.K H → w ρ n Qd →
      (∀ p vs H' Vw' ds n', Stp bx H Vw H' Vw' → Stt X.K bx C.row n' H' Vw' → H p = none → H' p = some (.lst vs) → Vw' p = none → DqAll X.K Vw' vs ds → Qd ds n' → Q (.ref p) H') → t σ H Q) : DF X C bx e w :=
  ⟨tInfo X.K t, pe_info h, fun σ H Vw ρ n Qd Q s r hw q => fun b2 => k σ H Vw ρ n Qd _ s r b2 hw fun p vs H' Vw' ds n' s1 s2 h1 h2 h3 dp qd => fun b3 => q p vs H' Vw' ds n' s1 s2 b3 h1 h2 h3 dp qd⟩
theorem box_ne {K : PySem.W.Frag} {bx : BxT} {row : List Int} {n : Int} {H Vw : Hp} {p : Addr} (s : Stt K bx row n H Vw) (h : H p = none) : ∀ b, bx.box = some b → p ≠ b.b := fun b e z => by
  rw [z, (s.box b e).1] at h
  cases h
/-- a list made anew is a datum -/
theorem DF.de {X : Cx} {C : Cfg} {bx : BxT} {e : Expr} {w : WL} (h : DF X C bx e w) : DE X C bx e fun ρ n Q => w ρ n fun ds n1 => Q (.list ds) n1 := by
  obtain ⟨t, ht, k⟩ := h
  refine ⟨t, ht, fun σ H Vw ρ n Qd Q s r hw q => k σ H Vw ρ n _ Q s r hw fun p vs H' Vw' ds n' s1 s2 b3 h1 h2 h3 dp qd => ?_⟩
  have hb : ∀ b, bx.box = some b → p ≠ b.b := box_ne s h1
  refine q (.ref p) H' (upd Vw' p (.lst vs)) (.list ds) n' ⟨s1.view.trans (sub_freeze h3), s1.frame, s1.grow, fun a o e => ?_⟩ (s2.freeze h2 h3 hb) b3 (.lst (.inl upd_same) (dpAll_mono (sub_freeze h3) ds vs dp)) qd
  by_cases ha : a = p
  · rw [ha]
    exact .inr h1
  · rw [upd_ne ha] at e
    exact s1.new a o e
theorem DE.dv {X : Cx} {C : Cfg} {bx : BxT} {e : Expr} {w : WD} (h : DE X C bx e w) : DV X C bx e w := by
  obtain ⟨t, ht, k⟩ := h
  exact ⟨t, ht, fun σ H Vw ρ n Qd Q s r hw q => k σ H Vw ρ n Qd Q s r hw fun v H' Vw' d n' s1 s2 b3 dp qd => q v H' Vw' d n' s1 s2 b3 (.inl dp) qd⟩
end RT
namespace RT
open PySem PySem.Spec PyProof.Rows L2

/-! ### what is known of a context -/
def bltNames : List Str := ["abs", "len", "int", "sum", "any", "all", "range", "zip", "enumerate", "list", "tuple"]
/-- the promise: the arguments are data of a view -/
def spD (K : PySem.W.Frag) (T : List Addr) (ar : Nat) (S : FnS) : Sp := fun vs H Q _ => vs.length = ar ∧ ∃ (bx : BxT) (row : List Int) (n : Int) (Vw : Hp) (ds : List D) (Qd : QD),
  bx.tabs = T ∧ Stt K bx row n H Vw ∧ Paired (Dv K bx Vw) vs ds ∧ S row n ds Qd ∧ ∀ v H' Vw' d n', Stp bx H Vw H' Vw' → Stt K bx row n' H' Vw' → Dq K Vw' v d → Qd d n' → Q v H'
def dfV : D → V
  | .int i => .int i
  | _ => .non
def Callee (X : Cx) (C : Cfg) (g : Str) (S : FnS) (m : Nat) : Prop :=
  ∃ (f : Addr) (fd : FuncData) (ps : List Str) (ar : Nat) (dvs : List V) (ds : List Value),
    FnOk X.prog X.w X.K X.mg X.base CX0 C.lev f fd ps (spD X.K C.tabs ar S) ∧ X.mg g = some (.ref f) ∧ PySem.W.keepIn X.K (.ref f) = true ∧ Binds X.K fd ps ds ∧ Vals dvs ds ∧
    (∀ Vw, DqAll X.K Vw dvs (C.dfl g m)) ∧ m + dvs.length = ar
structure Ctx (X : Cx) (C : Cfg) (blk : Bool) (sc : Scope) : Prop where
  N : X.N = C.N
  nd : X.N.Nodup
  sc : X.env.scope = sc
  calm : X.calm = true
  room : Room (C.lev + (if C.gens then 12 else 8)) X.A
  call : ∀ g S m, C.G g = some S → C.ar g m = true → Callee X C g S m
  konst : ∀ x d, C.konst x = some d → ∃ v u, X.mg x = some u ∧ RelV v u ∧ ∀ Vw, Dq X.K Vw v d
  blt : ∀ f ∈ bltNames, X.mg f = none
  fn : blk = false → ∀ x, X.fn x = true
  gen : C.gens = true → ∃ c P, X.env.code = .ref c ∧ GxR.TabB X.base X.mg c P ∧ P ∈ C.tabs
  kind : blk = false → X.env.scope.kind = .function
  nox : X.xe = fun _ _ => False
section
variable {X : Cx} {C : Cfg} {blk : Bool} {sc : Scope} {bx : BxT}
theorem Ctx.room8 (cx : Ctx X C blk sc) : Room 8 X.A := cx.room.mono (by split <;> omega)
theorem Ctx.roomL (cx : Ctx X C blk sc) : Room C.lev X.A := cx.room.mono (by split <;> omega)
theorem findIx_ok : ∀ {N : List Str} {x : Str} {i : Nat}, findIx N x = some i → N[i]? = some x
  | [], _, _, h => by cases h
  | y :: r, x, i, h => by
    unfold findIx at h
    split at h
    · rename_i e
      cases h
      rw [← eq_of_beq e]
      rfl
    · cases q : findIx r x with
      | none => rw [q] at h; cases h
      | some j =>
        rw [q] at h
        cases h
        have ih := findIx_ok q
        show (y :: r)[j + 1]? = some x
        rw [List.getElem?_cons_succ]
        exact ih
theorem slot_ok {x : Str} {i : Nat} (h : slot C sc x = some i) : C.N[i]? = some x ∧ Vis sc x ∧ (x == ("__debug__" : Str)) = false ∧ (x == ("__classdict__" : Str)) = false := by
  unfold slot at h
  split at h
  · rename_i e
    rw [Bool.and_eq_true] at e
    refine ⟨findIx_ok h, ?_, ?_⟩
    · have e1 := e.1
      unfold visB at e1
      unfold Vis
      split at e1
      · rename_i q; exact .inl q
      · rename_i q; exact .inr (.inl q)
      · rename_i q; exact .inr (.inr q)
      · cases e1
    · have e2 := e.2
      unfold plainN at e2
      rw [Bool.and_eq_true, Bool.not_eq_true', Bool.not_eq_true'] at e2
      exact e2
  · cases h
theorem glB_ok {x : Str} (cx : Ctx X C blk sc) (h : glB sc x = true) : Gl X x := by
  unfold glB at h
  unfold Gl Env.kindOf
  rw [cx.sc]
  split at h
  · assumption
  · cases h
theorem de_const {c : Const} {j : Nat} {pos : Pos} : DE X C bx (.Constant c j pos) (wConst c) := by
  cases c with
  | none => exact .mk pe_non fun σ H Vw ρ n Qd Q s r b h q => q _ _ _ _ _ .refl s .non h
  | bool v => exact .mk pe_bl fun σ H Vw ρ n Qd Q s r b h q => q _ _ _ _ _ .refl s (.bl _) h
  | int v => exact .mk pe_int fun σ H Vw ρ n Qd Q s r b h q => q _ _ _ _ _ .refl s (.int _) h
  | str v => exact .mk pe_str fun σ H Vw ρ n Qd Q s r b h q => q _ _ _ _ _ .refl s (.str _) h
  | _ => exact de_F
theorem pe_slot {x : Str} {i : Nat} {pos : Pos} (cx : Ctx X C blk sc) (h : slot C sc x = some i) : PE X (.Name x pos) (tVar i) := by
  obtain ⟨h1, h2, h3, h4⟩ := slot_ok h
  exact pe_var (by rw [cx.N]; exact h1) (by rw [cx.sc]; exact h2) h3 h4
theorem de_name {x : Str} {pos : Pos} (cx : Ctx X C blk sc) : DE X C bx (.Name x pos) (wName C sc x) := by
  unfold wName
  split
  · rename_i i hi
    refine .mk (pe_slot cx hi) fun σ H Vw ρ n Qd Q s r b h q => ?_
    split at h
    · rename_i d hd
      obtain ⟨v, e1, e2⟩ := r.2 i _ hd
      exact ⟨v, e1, q _ _ _ _ _ .refl s e2 h⟩
    · exact h.elim
  · split
    · rename_i hg
      rw [Bool.and_eq_true] at hg
      split
      · rename_i d hd
        obtain ⟨v, u, h1, h2, h3⟩ := cx.konst x d hd
        have e2 := hg.2
        unfold plainN at e2
        rw [Bool.and_eq_true, Bool.not_eq_true', Bool.not_eq_true'] at e2
        exact .mk (pe_glob (glB_ok cx hg.1) h1 h2 e2.1) fun σ H Vw ρ n Qd Q s r b h q => q _ _ _ _ _ .refl s (h3 Vw) h
      · exact de_F
    · exact de_F
theorem cellOf_slot {x : Str} {i : Nat} {ρ : RE} (h : slot C sc x = some i) : cellOf C sc ρ x = (match ρ[i]? with | some (some c) => some c | _ => none) := by
  unfold cellOf
  rw [h] <;> rfl
theorem cell_at {x : Str} {i : Nat} {ρ : RE} {c : Cell} (h : slot C sc x = some i) (e : cellOf C sc ρ x = some c) : ρ[i]? = some (some c) := by
  rw [cellOf_slot h] at e
  split at e
  · rename_i c' hc
    cases e
    exact hc
  · cases e
theorem dv_arg {e : Expr} {w : Expr → WD} (cx : Ctx X C blk sc) (h : DE X C bx e (w e)) : DV X C bx e (wArg C sc w e) := by
  unfold wArg
  split
  · rename_i x p
    obtain ⟨t, ht, k⟩ := h.dv
    cases hs : slot C sc x with
    | none =>
      refine ⟨t, ht, fun σ H Vw ρ n Qd Q s r hw q => k σ H Vw ρ n Qd Q s r ?_ q⟩
      unfold cellOf at hw
      rw [hs] at hw
      exact hw
    | some i =>
      have hp := pe_slot (pos := p) cx hs
      refine ⟨fun σ H Q => t σ H Q ∨ tInfo X.K (tVar i) σ H Q, ⟨fun pins s σ H Q I hh => ?_⟩, fun σ H Vw ρ n Qd Q s r hw q => ?_⟩
      · rcases hh with hh | hh
        · exact ht.run pins s σ H Q I hh
        · exact (pe_info hp).run pins s σ H Q I hh
      · have e := cellOf_slot (ρ := ρ) hs
        dsimp only at hw ⊢
        by_cases hb : cellOf C sc ρ x = some .box
        · rw [hb] at hw
          right
          intro b0
          obtain ⟨v, e1, bb, e2, e3⟩ := r.2 i _ (cell_at hs hb)
          exact ⟨v, e1, fun b1 => q v H Vw _ n .refl s b1 (.inr ⟨bb, e2, e3, rfl⟩) hw⟩
        · left
          refine k σ H Vw ρ n Qd Q s r ?_ q
          split at hw
          · rename_i hc
            exact absurd hc hb
          · exact hw
  · exact h.dv
theorem star_ok {e : Expr} {es : List Expr} {env : Env} (h : noStar e = true) : starEach (e :: es) env = (false, eval e env) :: starEach es env := by
  cases e <;> first | rfl | cases h
theorem stars_ok : ∀ {es : List Expr} {env : Env} {pos : Pos}, es.all noStar = true → (backTo pos (starEach es env)).any (·.1) = false
  | [], _, _, _ => rfl
  | e :: es, env, pos, h => by
    rw [List.all_cons, Bool.and_eq_true] at h
    rw [star_ok h.1]
    show (false || (backTo pos (starEach es env)).any (·.1)) = false
    rw [stars_ok h.2]
    rfl
theorem de_star {e : Expr} {w : WD} (h : noStar e = false) (k : ∀ ρ n Q, ¬ w ρ n Q) : DE X C bx e w := ⟨tF, pe_F, fun σ H Vw ρ n Qd Q s r hw q => k _ _ _ hw⟩
theorem da_args {w : Expr → WD} (hw : ∀ e ρ n Q, noStar e = false → ¬ w e ρ n Q) (h : ∀ e, DE X C bx e (w e)) : ∀ es, DA X C bx es (wArgs w es)
  | [] => ⟨tNil, pa_nil, fun σ H Vw ρ n Qd Q s r h q => q _ _ _ _ _ .refl s .nil h⟩
  | e :: es => by
    cases hs : noStar e with
    | false => exact ⟨tFA, pa_F, fun σ H Vw ρ n Qd Q s r h q => absurd h (hw e _ _ _ hs)⟩
    | true =>
      obtain ⟨t, ht, k⟩ := h e
      obtain ⟨ts, hts, ks⟩ := da_args hw h es
      refine ⟨tCons t ts, pa_cons ht hts (star_ok hs), fun σ H Vw ρ n Qd Q s r h q => ?_⟩
      refine k σ H Vw ρ n _ _ s r h fun v H1 Vw1 d n1 s1 st1 b1 dp1 h1 => ?_
      refine ks σ H1 Vw1 ρ n1 _ _ st1 (r.mono s1.view) h1 fun vs H2 Vw2 ds n2 s2 st2 dp2 h2 => ?_
      exact q _ _ _ _ _ (s1.trans st1 s2) st2 (.cons (dp_mono s2.view _ _ dp1) dp2) h2
def DAL (X : Cx) (C : Cfg) (bx : BxT) (es : List Expr) (w : WL) : Prop := ∃ t, PA X es t ∧
  ∀ (σ : L2.St) (H Vw : Hp) (ρ : RE) (n : Int) (Qd : List D → Int → Prop) (Q : List V → Hp → Prop), Stt X.K bx C.row n H Vw → Rep X.K bx Vw σ ρ → w ρ n Qd →
    (∀ vs H' Vw' ds n', Stp bx H Vw H' Vw' → Stt X.K bx C.row n' H' Vw' → Paired (Dv X.K bx Vw') vs ds → vs.length = es.length → Qd ds n' → Q vs H') → t σ H Q
theorem dav_args {w : Expr → WD} (hw : ∀ e ρ n Q, noStar e = false → ¬ w e ρ n Q) (h : ∀ e, DV X C bx e (w e)) : ∀ es, DAL X C bx es (wArgs w es)
  | [] => ⟨tNil, pa_nil, fun σ H Vw ρ n Qd Q s r h q => q _ _ _ _ _ .refl s .nil rfl h⟩
  | e :: es => by
    cases hs : noStar e with
    | false => exact ⟨tFA, pa_F, fun σ H Vw ρ n Qd Q s r h q => absurd h (hw e _ _ _ hs)⟩
    | true =>
      obtain ⟨t, ht, k⟩ := h e
      obtain ⟨ts, hts, ks⟩ := dav_args hw h es
      refine ⟨tCons t ts, pa_cons ht hts (star_ok hs), fun σ H Vw ρ n Qd Q s r h q => ?_⟩
      refine k σ H Vw ρ n _ _ s r h fun v H1 Vw1 d n1 s1 st1 b1 dp1 h1 => ?_
      refine ks σ H1 Vw1 ρ n1 _ _ st1 (r.mono s1.view) h1 fun vs H2 Vw2 ds n2 s2 st2 dp2 hl h2 => ?_
      exact q _ _ _ _ _ (s1.trans st1 s2) st2 (.cons (dp1.mono s2.view) dp2) (by rw [List.length_cons, List.length_cons, hl]) h2
theorem pd_app {K : PySem.W.Frag} {A : Hp} : ∀ {vs ws : List V} {ds es : List D}, Paired (Dv K bx A) vs ds → Paired (Dv K bx A) ws es → Paired (Dv K bx A) (vs ++ ws) (ds ++ es)
  | _, _, _, _, .nil, s => s
  | _, _, _, _, .cons a r, s => .cons a (pd_app r s)
theorem pd_dq {K : PySem.W.Frag} {A : Hp} : ∀ {vs : List V} {ds : List D}, DqAll K A vs ds → Paired (Dv K bx A) vs ds
  | _, _, .nil => .nil
  | _, _, .cons a r => .cons (.inl a) (pd_dq r)
theorem sz1000 {n : Nat} (h : n ≤ 1000) : n ≤ sizeLine := Nat.le_trans h (by rw [sizeLine_eq]; decide)
theorem de_tuple {es : List Expr} {w : Expr → WD} {k : Nat} {pos : Pos} (h : DA X C bx es (wArgs w es)) :
    DE X C bx (.Tuple es k pos) fun ρ n Q => wArgs w es ρ n fun ds n1 => ds.length ≤ 1000 ∧ Q (.tuple ds) n1 := by
  obtain ⟨t, ht, kk⟩ := h
  refine .mk (pe_tup ht) fun σ H Vw ρ n Qd Q s r b h q => ?_
  refine kk σ H Vw ρ n _ _ s r h fun vs H1 Vw1 ds n1 s1 st1 dp ⟨h1, h2⟩ => ?_
  refine ⟨sz1000 (by rw [dpa_len dp]; exact h1), fun p hp => ?_⟩
  have st := st1.new (o := .tup vs) hp
  refine q (.ref p) _ _ (.tuple ds) n1 (s1.trans st1 (Stp.newv st1 hp)) st (.tup (.inl (.inl upd_same)) ?_) h2
  exact dpAll_mono (Stp.newv (o := .tup vs) st1 hp).view _ _ dp
theorem df_list {es : List Expr} {w : Expr → WD} {pos : Pos} (h : DA X C bx es (wArgs w es)) :
    DF X C bx (.List es pos) fun ρ n Q => wArgs w es ρ n fun ds n1 => ds.length ≤ 1000 ∧ Q ds n1 := by
  obtain ⟨t, ht, kk⟩ := h
  refine .mk (pe_lst ht) fun σ H Vw ρ n Qd Q s r b h q => ?_
  refine kk σ H Vw ρ n _ _ s r h fun vs H1 Vw1 ds n1 s1 st1 dp ⟨h1, h2⟩ => ?_
  refine ⟨sz1000 (by rw [dpa_len dp]; exact h1), fun p hp => ?_⟩
  have st := st1.newh (o := .lst vs) hp
  exact q p vs _ Vw1 ds n1 (s1.trans st1 (Stp.newh hp)) st (s1.fresh st1 hp) upd_same (st1.none_of hp) dp h2

/-! ### operators -/
theorem CMulX.ok {i j : Int} (h : CMulX i j) : IntMulOk i j := by
  rcases h with h | h
  · exact CMulW.ok h
  · refine IntMulOk.of_left ?_
    unfold Builtin.Int.intBits
    split <;> omega
theorem op_mulX : OpR X (binaryOp .Mult) (rI CMulX fun i j => .int (i * j)) := opI fun _ _ _ _ _ _ _ hc q => mul_int q hc.ok
theorem op_fdivZ : OpR X (binaryOp .FloorDiv) (rI CDivZ fun i j => .int (i.fdiv j)) := opI fun i j _ _ _ _ _ hc q => floordiv_int hc.1 q (.inl (PyProof.noPylong_of_log2 hc.2))
/-- an operator on data, by its rule -/
def ROk (K : PySem.W.Frag) (r : R2) (g : D → D → (D → Prop) → Prop) : Prop :=
  ∀ (bx : BxT) (row : List Int) (n : Int) (H Vw : Hp) (x y : V) (dx dy : D) (Qd : D → Prop) (Q : VK), Stt K bx row n H Vw → Dq K Vw x dx → Dq K Vw y dy → g dx dy Qd →
    (∀ v H' Vw' d, Stp bx H Vw H' Vw' → Stt K bx row n H' Vw' → Dq K Vw' v d → Qd d → Q v H') → r x y H Q
theorem rok_int {Cn : Int → Int → Prop} {g : Int → Int → D} {f : Int → Int → V} (hf : ∀ K Vw i j, Dq K Vw (f i j) (g i j)) {K : PySem.W.Frag} : ROk K (rI Cn f) (intD Cn g) := by
  intro bx row n H Vw x y dx dy Qd Q s hx hy h q
  cases hx <;> cases hy <;> first | exact h.elim | skip
  exact ⟨_, _, rfl, rfl, h.1, q _ _ _ _ .refl s (hf _ _ _ _) h.2⟩
/-- + of lists, wherever they stand -/
def rCatS (K : PySem.W.Frag) : R2 := fun x y H Q => ∃ l b xs zs, x = .ref l ∧ y = .ref b ∧ Rd H l (.lst xs) ∧ Rd H b (.lst zs) ∧ xs.length + zs.length ≤ sizeLine ∧ ∀ p, H p = none → Q (.ref p) (upd H p (.lst (xs ++ zs)))
theorem op_catS : OpR X (binaryOp .Add) (rCatS X.K) := by
  intro pins s σ H x y v u Q I rx ry h
  obtain ⟨l, b, xs, zs, rfl, rfl, hH, hB, hz, q⟩ := h
  cases rx
  cases ry
  obtain ⟨z, its, n, r, e⟩ := hH.ok I.hok
  obtain ⟨z2, its2, n2, r2, e2⟩ := hB.ok I.hok
  have hl := r.length
  have hl2 := r2.length
  refine PySem.P.add_list e e2 ?_ (by rw [List.size_toArray, List.size_toArray]; omega)
  have ea : its.toArray ++ its2.toArray = (its ++ its2).toArray := by simp
  rw [ea]
  exact ⟨.ref _, _, I.lnew (t' := s.toks) (r.append r2) (by rw [List.length_append]; omega), rfl, q _ I.fresh⟩
end
end RT
namespace RT
open PySem PySem.Spec PyProof.Rows L2
section
variable {X : Cx} {C : Cfg} {blk : Bool} {sc : Scope} {bx : BxT}
theorem ROk.or {K : PySem.W.Frag} {r r' : R2} {g : D → D → (D → Prop) → Prop} (h : ∀ (bx : BxT) (row : List Int) (n : Int) (H Vw : Hp) (x y : V) (dx dy : D) (Qd : D → Prop) (Q : VK), Stt K bx row n H Vw → Dq K Vw x dx → Dq K Vw y dy → g dx dy Qd →
    (∀ v H' Vw' d, Stp bx H Vw H' Vw' → Stt K bx row n H' Vw' → Dq K Vw' v d → Qd d → Q v H') → r x y H Q ∨ r' x y H Q) : ROk K (fun x y H Q => r x y H Q ∨ r' x y H Q) g := h
def rAddA (K : PySem.W.Frag) : R2 := fun x y H Q => rI0 (fun i j => .int (i + j)) x y H Q ∨ (rCatS K x y H Q ∨ rCatT K x y H Q)
theorem op_addA : OpR X (binaryOp .Add) (rAddA X.K) := op_add.or (op_catS.or op_catT)
theorem rok_add {K : PySem.W.Frag} : ROk K (rAddA K) addD := by
  intro bx row n H Vw x y dx dy Qd Q s hx hy h q
  cases hx with
  | int i =>
    cases hy with
    | int j => exact .inl ⟨_, _, rfl, rfl, q _ _ _ _ .refl s (.int _) h⟩
    | _ => exact h.elim
  | lst hl hd =>
    cases hy with
    | lst hl2 hd2 =>
      refine .inr (.inl ⟨_, _, _, _, rfl, rfl, s.sub.rd hl, s.sub.rd hl2, ?_, fun p hp => ?_⟩)
      · rw [dpa_len hd, dpa_len hd2]
        exact h.1
      · exact q _ _ _ _ (Stp.newv s hp) (s.new hp) (.lst (.inl upd_same) (dpa_app (dpAll_mono (s.sub_new hp) _ _ hd) (dpAll_mono (s.sub_new hp) _ _ hd2))) h.2
    | _ => exact h.elim
  | tup hl hd =>
    cases hy with
    | tup hl2 hd2 =>
      obtain ⟨h1, h2, h3, h4⟩ := h
      refine .inr (.inr ⟨_, _, _, _, rfl, rfl, s.sub.tup hl, s.sub.tup hl2, ?_, ?_, ?_, fun _ p hp => ?_⟩)
      · intro e
        subst e
        cases hd
        exact h1 rfl
      · rw [dpa_len hd, dpa_len hd2]
        exact h3
      · intro e
        subst e
        cases hd2
        exact (h2 rfl).elim
      · exact q _ _ _ _ (Stp.newv s hp) (s.new hp) (.tup (.inl (.inl upd_same)) (dpa_app (dpAll_mono (s.sub_new hp) _ _ hd) (dpAll_mono (s.sub_new hp) _ _ hd2))) h4
    | _ => exact h.elim
  | _ => cases hy <;> exact h.elim
theorem de_bin_of {op : Operator} {r : R2} {g : D → D → (D → Prop) → Prop} {a b : Expr} {wa wb : WD} {pos : Pos} (ho : OpR X (binaryOp op) r) (hr : ROk X.K r g) (ha : DE X C bx a wa) (hb : DE X C bx b wb) :
    DE X C bx (.BinOp a op b pos) fun ρ n Q => wa ρ n fun x n1 => wb ρ n1 fun y n2 => g x y fun z => Q z n2 := by
  obtain ⟨ta, ha, ka⟩ := ha
  obtain ⟨tb, hb, kb⟩ := hb
  refine .mk (pe_op ho ha hb) fun σ H Vw ρ n Qd Q s r b h q => ?_
  refine ka σ H Vw ρ n _ _ s r h fun x H1 Vw1 dx n1 s1 st1 b1 d1 h1 => ?_
  refine kb σ H1 Vw1 ρ n1 _ _ st1 (r.mono s1.view) h1 fun y H2 Vw2 dy n2 s2 st2 b2 d2 h2 => ?_
  refine hr bx C.row n2 H2 Vw2 x y dx dy _ Q st2 (dp_mono s2.view _ _ d1) d2 h2 fun v H3 Vw3 d s3 st3 d3 h3 => ?_
  exact q _ _ _ _ _ ((s1.trans st1 s2).trans st2 s3) st3 d3 h3
theorem op_sub1 : OpR X (binaryOp .Sub) (rI (fun _ _ => True) fun i j => .int (i - j)) := opI fun _ _ _ _ _ _ _ _ q => sub_int q
theorem de_bin {op : Operator} {a b : Expr} {wa wb : WD} {pos : Pos} (ha : DE X C bx a wa) (hb : DE X C bx b wb) : DE X C bx (.BinOp a op b pos) (wBin op wa wb) := by
  have no : DE X C bx (.BinOp a op b pos) fun ρ n Q => wa ρ n fun x n1 => wb ρ n1 fun y n2 => False := by
    obtain ⟨ta, ha', ka⟩ := ha
    obtain ⟨tb, hb', kb⟩ := hb
    refine .mk (pe_op (r := fun _ _ _ _ => False) (fun _ _ _ _ _ _ _ _ _ _ _ _ h => h.elim) ha' hb') fun σ H Vw ρ n Qd Q s r b h q => ?_
    refine ka σ H Vw ρ n _ _ s r h fun x H1 Vw1 dx n1 s1 st1 b1 d1 h1 => ?_
    exact kb σ H1 Vw1 ρ n1 _ _ st1 (r.mono s1.view) h1 fun y H2 Vw2 dy n2 s2 st2 b2 d2 h2 => h2
  cases op with
  | Add => exact de_bin_of op_addA rok_add ha hb
  | Sub => exact de_bin_of op_sub1 (rok_int fun _ _ _ _ => .int _) ha hb
  | Mult => exact de_bin_of op_mulX (rok_int fun _ _ _ _ => .int _) ha hb
  | FloorDiv => exact de_bin_of op_fdivZ (rok_int fun _ _ _ _ => .int _) ha hb
  | Mod => exact de_bin_of op_modN (rok_int fun _ _ _ _ => .int _) ha hb
  | Pow => exact de_bin_of op_pow (rok_int fun _ _ _ _ => .int _) ha hb
  | _ => exact no
/-- + of lists: a list made anew -/
theorem df_cat {a b : Expr} {wa wb : WD} {pos : Pos} (ha : DE X C bx a wa) (hb : DE X C bx b wb) :
    DF X C bx (.BinOp a .Add b pos) fun ρ n Q => wa ρ n fun x n1 => wb ρ n1 fun y n2 => match x, y with
      | .list xs, .list ys => xs.length + ys.length ≤ sizeLine ∧ Q (xs ++ ys) n2
      | _, _ => False := by
  obtain ⟨ta, ha, ka⟩ := ha
  obtain ⟨tb, hb, kb⟩ := hb
  refine .mk (pe_op op_catS ha hb) fun σ H Vw ρ n Qd Q s r b h q => ?_
  refine ka σ H Vw ρ n _ _ s r h fun x H1 Vw1 dx n1 s1 st1 b1 d1 h1 => ?_
  refine kb σ H1 Vw1 ρ n1 _ _ st1 (r.mono s1.view) h1 fun y H2 Vw2 dy n2 s2 st2 b2 d2 h2 => ?_
  have d1' := dp_mono s2.view _ _ d1
  cases d1' with
  | lst hl hd =>
    cases d2 with
    | lst hl2 hd2 =>
      refine ⟨_, _, _, _, rfl, rfl, st2.sub.rd hl, st2.sub.rd hl2, ?_, fun p hp => ?_⟩
      · rw [dpa_len hd, dpa_len hd2]
        exact h2.1
      · have s12 := s1.trans st1 s2
        exact q p _ _ Vw2 _ n2 (s12.trans st2 (Stp.newh hp)) (st2.newh hp) (s12.fresh st2 hp) upd_same (st2.none_of hp) (dpa_app hd hd2) h2.2
    | _ => exact h2.elim
  | _ => cases d2 <;> exact h2.elim
theorem de_neg {a : Expr} {wa : WD} {pos : Pos} (ha : DE X C bx a wa) : DE X C bx (.UnaryOp .USub a pos) (wNeg wa) := by
  obtain ⟨ta, ha, ka⟩ := ha
  refine .mk (pe_un un_neg ha) fun σ H Vw ρ n Qd Q s r b h q => ?_
  refine ka σ H Vw ρ n _ _ s r h fun x H1 Vw1 dx n1 s1 st1 b1 d1 h1 => ?_
  cases d1 with
  | int i => exact ⟨_, rfl, q _ _ _ _ _ s1 st1 (.int _) h1⟩
  | _ => exact h1.elim

/-! ### comparisons -/
def COk (K : PySem.W.Frag) (r : R2) (g : D → D → (Bool → Prop) → Prop) : Prop :=
  ∀ (H Vw : Hp) (x y : V) (dx dy : D) (Qd : Bool → Prop) (Q : VK), Sub Vw H → Dq K Vw x dx → Dq K Vw y dy → g dx dy Qd → (∀ b, Qd b → Q (.bl b) H) → r x y H Q
theorem de_cmp_of {op : CmpOp} {r : R2} {g : D → D → (Bool → Prop) → Prop} {a b : Expr} {wa wb : WD} {pos : Pos} (ho : OpR X (compareOp op) r) (hm : behindInMarks op b = false) (hr : COk X.K r g) (ha : DE X C bx a wa) (hb : DE X C bx b wb) :
    DE X C bx (.Compare a [op] [b] pos) fun ρ n Q => wa ρ n fun x n1 => wb ρ n1 fun y n2 => g x y fun c => Q (.bool c) n2 := by
  obtain ⟨ta, ha, ka⟩ := ha
  obtain ⟨tb, hb, kb⟩ := hb
  refine .mk (pe_cmpR ho ha hb hm) fun σ H Vw ρ n Qd Q s r b h q => ?_
  refine ka σ H Vw ρ n _ _ s r h fun x H1 Vw1 dx n1 s1 st1 b1 d1 h1 => ?_
  refine kb σ H1 Vw1 ρ n1 _ _ st1 (r.mono s1.view) h1 fun y H2 Vw2 dy n2 s2 st2 b2 d2 h2 => ?_
  exact hr H2 Vw2 x y dx dy _ Q st2.sub (dp_mono s2.view _ _ d1) d2 h2 fun c hc => q _ _ _ _ _ (s1.trans st1 s2) st2 (.bl _) hc
theorem cok_lt {g : Int → Int → Bool} {K : PySem.W.Frag} : COk K (rI0 fun i j => .bl (g i j)) (ltD g) := by
  intro H Vw x y dx dy Qd Q s hx hy h q
  cases hx <;> cases hy <;> first | exact h.elim | exact ⟨_, _, rfl, rfl, q _ h⟩
theorem cok_eq {K : PySem.W.Frag} : COk K (rEqD K) eqD := fun H Vw x y dx dy Qd Q s hx hy h q =>
  ⟨dx, dy, dq_dp _ _ (dp_mono s _ _ hx), dq_dp _ _ (dp_mono s _ _ hy), h.1, h.2.1, q _ h.2.2⟩
theorem cok_ne {K : PySem.W.Frag} : COk K (rNeD K) fun x y Q => eqD x y fun b => Q (!b) := fun H Vw x y dx dy Qd Q s hx hy h q =>
  ⟨dx, dy, dq_dp _ _ (dp_mono s _ _ hx), dq_dp _ _ (dp_mono s _ _ hy), h.1, h.2.1, q _ h.2.2⟩
theorem cok_in {K : PySem.W.Frag} : COk K (rInD K) inD := by
  intro H Vw x y dx dy Qd Q s hx hy h q
  cases hy with
  | lst hl hd => exact ⟨dx, _, dq_dp _ _ (dp_mono s _ _ hx), dq_dp _ _ (dp_mono s _ _ (.lst hl hd)), h.1, h.2.1, q _ h.2.2⟩
  | _ => exact h.elim
theorem cok_ni {K : PySem.W.Frag} : COk K (rNotInD K) fun x y Q => inD x y fun b => Q (!b) := by
  intro H Vw x y dx dy Qd Q s hx hy h q
  cases hy with
  | lst hl hd => exact ⟨dx, _, dq_dp _ _ (dp_mono s _ _ hx), dq_dp _ _ (dp_mono s _ _ (.lst hl hd)), h.1, h.2.1, q _ h.2.2⟩
  | _ => exact h.elim
def rIsA : R2 := fun x y H Q => (y = .non ∧ Q (.bl (decide (x = .non))) H) ∨ rIsB x y H Q
def rNotA : R2 := fun x y H Q => (y = .non ∧ Q (.bl (!decide (x = .non))) H) ∨ rNotB x y H Q
theorem op_isA : OpR X (compareOp .Is) rIsA := op_isN.or op_isBl
theorem op_notA : OpR X (compareOp .IsNot) rNotA := op_notN.or op_notBl
theorem none_dq {K : PySem.W.Frag} {A : Hp} {x : V} {d : D} (h : Dq K A x d) : decide (x = .non) = isNoneD d := by
  cases h <;> simp [isNoneD]
theorem cok_is {K : PySem.W.Frag} : COk K rIsA (isD false) := by
  intro H Vw x y dx dy Qd Q s hx hy h q
  cases hy with
  | non =>
    left
    refine ⟨rfl, ?_⟩
    rw [none_dq hx]
    exact q _ h
  | bl b =>
    cases hx with
    | bl c =>
      right
      refine ⟨_, _, rfl, rfl, ?_⟩
      have e : decide (c = b) = (b == c) := by cases b <;> cases c <;> rfl
      rw [e]
      exact q _ h
    | _ => exact h.elim
  | _ => exact h.elim
theorem cok_not {K : PySem.W.Frag} : COk K rNotA (isD true) := by
  intro H Vw x y dx dy Qd Q s hx hy h q
  cases hy with
  | non =>
    left
    refine ⟨rfl, ?_⟩
    rw [none_dq hx]
    exact q _ h
  | bl b =>
    cases hx with
    | bl c =>
      right
      refine ⟨_, _, rfl, rfl, ?_⟩
      have e : (!decide (c = b)) = !(b == c) := by cases b <;> cases c <;> rfl
      rw [e]
      exact q _ h
    | _ => exact h.elim
  | _ => exact h.elim
theorem de_cmp {w : Expr → WD} {a : Expr} {ops : List CmpOp} {cs : List Expr} {pos : Pos} (cx : Ctx X C blk sc) (h : ∀ e, DE X C bx e (w e)) : DE X C bx (.Compare a ops cs pos) (wCmp w a ops cs) := by
  unfold wCmp
  split
  · rename_i op b
    split
    · rename_i hm
      have hu : X.A.units + 64 < cLine := cx.room8.units
      have hu2 : X.A.units + 65 < cLine := by have := cx.room8.un; omega
      cases op with
      | Eq => exact de_cmp_of (op_eqD hu) hm cok_eq (h a) (h b)
      | NotEq => exact de_cmp_of (op_neD hu) hm cok_ne (h a) (h b)
      | Lt => exact de_cmp_of op_lt hm cok_lt (h a) (h b)
      | LtE => exact de_cmp_of op_le hm cok_lt (h a) (h b)
      | Gt => exact de_cmp_of op_gt hm cok_lt (h a) (h b)
      | GtE => exact de_cmp_of op_ge hm cok_lt (h a) (h b)
      | Is => exact de_cmp_of op_isA hm cok_is (h a) (h b)
      | IsNot => exact de_cmp_of op_notA hm cok_not (h a) (h b)
      | In => exact de_cmp_of (op_inD hu2) hm cok_in (h a) (h b)
      | NotIn => exact de_cmp_of (op_notInD hu2) hm cok_ni (h a) (h b)
    · exact de_F
  · exact de_F

/-! ### and, or -/
theorem de_and {w : Expr → WD} {pos : Pos} (h : ∀ e, DE X C bx e (w e)) : ∀ es, DE X C bx (.BoolOp .And es pos) (wAnd w es)
  | [] => de_F
  | [e] => by
    obtain ⟨t, ht, k⟩ := h e
    exact ⟨t, pe_one ht, k⟩
  | e :: e2 :: r => by
    obtain ⟨t, ht, k⟩ := h e
    obtain ⟨t2, ht2, k2⟩ := de_and (pos := pos) h (e2 :: r)
    refine .mk (pe_and ht ht2) fun σ H Vw ρ n Qd Q s rr b hw q => ?_
    refine k σ H Vw ρ n _ _ s rr hw fun x H1 Vw1 d n1 s1 st1 b1 d1 h1 => ?_
    cases d1 with
    | bl c =>
      refine ⟨c, rfl, ?_⟩
      cases c with
      | true => exact k2 σ H1 Vw1 ρ n1 _ _ st1 (rr.mono s1.view) h1 fun v H2 Vw2 d n2 s2 st2 b2 d2 h2 => q _ _ _ _ _ (s1.trans st1 s2) st2 d2 h2
      | false => exact q _ _ _ _ _ s1 st1 (.bl _) h1
    | _ => exact h1.elim
theorem de_or {w : Expr → WD} {pos : Pos} (h : ∀ e, DE X C bx e (w e)) : ∀ es, DE X C bx (.BoolOp .Or es pos) (wOr w es)
  | [] => de_F
  | [e] => by
    obtain ⟨t, ht, k⟩ := h e
    exact ⟨t, pe_one ht, k⟩
  | e :: e2 :: r => by
    obtain ⟨t, ht, k⟩ := h e
    obtain ⟨t2, ht2, k2⟩ := de_or (pos := pos) h (e2 :: r)
    refine .mk (pe_or ht ht2) fun σ H Vw ρ n Qd Q s rr b hw q => ?_
    refine k σ H Vw ρ n _ _ s rr hw fun x H1 Vw1 d n1 s1 st1 b1 d1 h1 => ?_
    cases d1 with
    | bl c =>
      refine ⟨c, rfl, ?_⟩
      cases c with
      | false => exact k2 σ H1 Vw1 ρ n1 _ _ st1 (rr.mono s1.view) h1 fun v H2 Vw2 d n2 s2 st2 b2 d2 h2 => q _ _ _ _ _ (s1.trans st1 s2) st2 d2 h2
      | true => exact q _ _ _ _ _ s1 st1 (.bl _) h1
    | _ => exact h1.elim

/-! ### subscripts -/
theorem rix_of {K : PySem.W.Frag} {H Vw : Hp} {x y : V} {dx dy : D} {Qd : D → Prop} {Q : VK} (s : Sub Vw H) (hx : Dq K Vw x dx) (hy : Dq K Vw y dy) (h : ixD dx dy Qd) (q : ∀ v d, Dq K Vw v d → Qd d → Q v H) : rIx K x y H Q := by
  have at_ : ∀ {vs : List V} {ds : List D} {k : Int} {d : D}, DqAll K Vw vs ds → atI ds k = some d → ∃ v, atI vs k = some v ∧ Dq K Vw v d := fun {vs ds k d} hd e => by
    unfold atI at e ⊢
    rw [dpa_len hd]
    cases q : ixN ds.length k with
    | none => rw [q] at e; cases e
    | some j =>
      rw [q] at e
      exact dpa_get2 hd e
  cases hx with
  | lst hl hd =>
    cases hy with
    | int k =>
      simp only [ixD] at h
      split at h
      · rename_i d e
        obtain ⟨v, e1, e2⟩ := at_ hd e
        exact .inl ⟨_, _, _, v, rfl, rfl, .inl (s.rd hl), e1, q v d e2 h⟩
      · exact h.elim
    | _ => exact h.elim
  | tup hl hd =>
    cases hy with
    | int k =>
      simp only [ixD] at h
      split at h
      · rename_i d e
        obtain ⟨v, e1, e2⟩ := at_ hd e
        exact .inr (.inl ⟨_, _, _, v, rfl, rfl, s.tup hl, e1, q v d e2 h⟩)
      · exact h.elim
    | _ => exact h.elim
  | _ => cases hy <;> exact h.elim
theorem de_ix {w : Expr → WD} {a i : Expr} {pos : Pos} (cx : Ctx X C blk sc) (hp : PlainIx i) (ha : DE X C bx a (w a)) (hi : DE X C bx i (w i)) : DE X C bx (.Subscript a i pos) (wIx C sc w a i) := by
  have gen : DE X C bx (.Subscript a i pos) fun ρ n Q => w a ρ n fun x n1 => w i ρ n1 fun y n2 => ixD x y fun z => Q z n2 := by
    obtain ⟨ta, ha, ka⟩ := ha
    obtain ⟨tb, hb, kb⟩ := hi
    refine .mk (pe_ix ix_seq ha hb hp) fun σ H Vw ρ n Qd Q s r b h q => ?_
    refine ka σ H Vw ρ n _ _ s r h fun x H1 Vw1 dx n1 s1 st1 b1 d1 h1 => ?_
    refine kb σ H1 Vw1 ρ n1 _ _ st1 (r.mono s1.view) h1 fun y H2 Vw2 dy n2 s2 st2 b2 d2 h2 => ?_
    exact rix_of st2.sub (dp_mono s2.view _ _ d1) d2 h2 fun v d hd hq => q _ _ _ _ _ (s1.trans st1 s2) st2 hd hq
  unfold wIx
  split
  · rename_i x p
    cases hs : slot C sc x with
    | none =>
      obtain ⟨t, ht, k⟩ := gen
      refine ⟨t, ht, fun σ H Vw ρ n Qd Q s r hw q => k σ H Vw ρ n Qd Q s r ?_ q⟩
      unfold cellOf at hw
      rw [hs] at hw
      exact hw
    | some j =>
      obtain ⟨t, ht, k⟩ := gen
      obtain ⟨tb, hb, kb⟩ := hi
      have hx := pe_ix (pos := pos) ix_seq (pe_slot (pos := p) cx hs) hb hp
      refine ⟨fun σ H Q => t σ H Q ∨ tInfo X.K (tOp (rIx X.K) (tVar j) tb) σ H Q, ⟨fun pins s σ H Q I hh => ?_⟩, fun σ H Vw ρ n Qd Q s r hw q => ?_⟩
      · rcases hh with hh | hh
        · exact ht.run pins s σ H Q I hh
        · exact (pe_info hx).run pins s σ H Q I hh
      · dsimp only at hw ⊢
        by_cases hb : cellOf C sc ρ x = some .box
        · rw [hb] at hw
          right
          intro b0
          obtain ⟨v, e1, bb, e2, e3⟩ := r.2 j _ (cell_at hs hb)
          refine ⟨v, e1, ?_⟩
          refine kb σ H Vw ρ n _ _ s r hw fun y H2 Vw2 dy n2 s2 st2 b2 d2 h2 => ?_
          obtain ⟨g1, g2, g3⟩ := st2.box bb e2
          subst e3
          unfold boxIx at h2
          split at h2
          · cases d2
            exact .inl ⟨_, _, 0, .ref bb.r, rfl, rfl, .inl (.inl g1), rfl, fun b3 => q _ _ _ _ _ s2 st2 b3 (.lst g2 (dpa_ints _)) h2⟩
          · cases d2
            exact .inl ⟨_, _, 1, .int n2, rfl, rfl, .inl (.inl g1), rfl, fun b3 => q _ _ _ _ _ s2 st2 b3 (.int _) h2⟩
          · exact h2.elim
        · left
          refine k σ H Vw ρ n Qd Q s r ?_ q
          split at hw
          · rename_i hc
            exact absurd hc hb
          · exact hw
  · exact gen
theorem part_of {w : Expr → WD} (h : ∀ e, DE X C bx e (w e)) (o : Option Expr) : ∃ t : TO, PO X o t ∧ ∀ (σ : L2.St) (H Vw : Hp) (ρ : RE) (n : Int) (Qd : Option Int → Int → Prop) (Q : Option Int → Hp → Prop),
    Stt X.K bx C.row n H Vw → Rep X.K bx Vw σ ρ → wPart w o ρ n Qd → (∀ i H' Vw' n', Stp bx H Vw H' Vw' → Stt X.K bx C.row n' H' Vw' → Qd i n' → Q i H') → t σ H Q := by
  cases o with
  | none => exact ⟨tNoPart, po_none, fun σ H Vw ρ n Qd Q s r h q => q _ _ _ _ .refl s h⟩
  | some e =>
    obtain ⟨t, ht, k⟩ := h e
    refine ⟨tPart t, po_some ht, fun σ H Vw ρ n Qd Q s r h q => ?_⟩
    refine k σ H Vw ρ n _ _ s r h fun x H1 Vw1 dx n1 s1 st1 b1 d1 h1 => ?_
    cases d1 with
    | int i => exact ⟨_, rfl, q _ _ _ _ s1 st1 h1⟩
    | _ => exact h1.elim
theorem de_slice {w : Expr → WD} {a : Expr} {lo hi : Option Expr} {p pos : Pos} (h : ∀ e, DE X C bx e (w e)) : DE X C bx (.Subscript a (.Slice lo hi none p) pos) (wSlice w a lo hi) := by
  obtain ⟨ta, ha, ka⟩ := h a
  obtain ⟨tl, hl, kl⟩ := part_of h lo
  obtain ⟨th, hh, kh⟩ := part_of h hi
  refine .mk (pe_slice sl_list ha hl hh) fun σ H Vw ρ n Qd Q s r b hw q => ?_
  refine ka σ H Vw ρ n _ _ s r hw fun x H1 Vw1 dx n1 s1 st1 b1 d1 h1 => ?_
  refine kl σ H1 Vw1 ρ n1 _ _ st1 (r.mono s1.view) h1 fun l H2 Vw2 n2 s2 st2 h2 => ?_
  have s12 := s1.trans st1 s2
  refine kh σ H2 Vw2 ρ n2 _ _ st2 (r.mono s12.view) h2 fun u H3 Vw3 n3 s3 st3 h3 => ?_
  have s13 := s12.trans st2 s3
  have d3 := dp_mono s3.view _ _ (dp_mono s2.view _ _ d1)
  cases d3 with
  | lst hl hd =>
    refine ⟨_, _, rfl, .inl (st3.sub.rd hl), fun p hp => ?_⟩
    refine q _ _ _ _ _ (s13.trans st3 (Stp.newv st3 hp)) (st3.new hp) (.lst (.inl upd_same) (dpAll_mono (st3.sub_new hp) _ _ ?_)) h3
    unfold cutV cutD
    rw [dpa_len hd]
    exact dpa_take _ (dpa_drop _ hd)
  | _ => exact h3.elim
theorem de_sub {w : Expr → WD} {a i : Expr} {pos : Pos} (cx : Ctx X C blk sc) (h : ∀ e, DE X C bx e (w e)) : DE X C bx (.Subscript a i pos) (wSub C sc w a i) := by
  unfold wSub
  split
  · exact de_slice h
  · exact de_F
  · exact de_ix cx (fun _ _ => rfl) (h _) (h _)
  · exact de_ix cx (fun _ _ => rfl) (h _) (h _)
  · exact de_ix cx (fun _ _ => rfl) (h _) (h _)
  · exact de_F
end
end RT
namespace RT
open PySem PySem.Spec PyProof.Rows L2
section
variable {X : Cx} {C : Cfg} {blk : Bool} {sc : Scope} {bx : BxT}
/-! ### calls -/
theorem sum_ints {K : PySem.W.Frag} {A : Hp} : ∀ {vs : List V} {ds : List D} {i : Int}, DqAll K A vs ds → sumD ds = some i → ∃ ns : List Int, vs = ns.map V.int ∧ ns.sum = i
  | _, _, i, .nil, h => by
    cases h
    exact ⟨[], rfl, rfl⟩
  | _, _, i, .cons (d := d) (ds := ds) a r, h => by
    cases a with
    | int j =>
      have h2 : (sumD ds).map (j + ·) = some i := h
      cases q : sumD ds with
      | none => rw [q] at h2; cases h2
      | some k =>
        rw [q] at h2
        cases h2
        obtain ⟨ns, e1, e2⟩ := sum_ints r q
        exact ⟨j :: ns, by rw [e1]; rfl, by rw [List.sum_cons, e2]⟩
    | _ => cases h
/-- a built-in of one argument, by its reading -/
def BOk (K : PySem.W.Frag) (r : List V → Hp → VK → Prop) (g : List D → (D → Prop) → Prop) : Prop :=
  ∀ (bx : BxT) (row : List Int) (n : Int) (H Vw : Hp) (x : V) (dx : D) (Qd : D → Prop) (Q : VK), Stt K bx row n H Vw → Dq K Vw x dx → g [dx] Qd →
    (∀ v H' Vw' d, Stp bx H Vw H' Vw' → Stt K bx row n H' Vw' → Dq K Vw' v d → Qd d → Q v H') → r [x] H Q
theorem de_blt_of {t : TE} {e : Expr} {ec : Expr} {w : WD} {r : List V → Hp → VK → Prop} {g : List D → (D → Prop) → Prop} (he : ∀ te, PE X e te → PE X ec (tCB r (tCons te tNil))) (hr : BOk X.K r g) (h : DE X C bx e w) :
    DE X C bx ec fun ρ n Q => w ρ n fun d n1 => g [d] fun z => Q z n1 := by
  obtain ⟨ta, ha, ka⟩ := h
  refine .mk (he ta ha) fun σ H Vw ρ n Qd Q s r b h q => ?_
  refine ka σ H Vw ρ n _ _ s r h fun x H1 Vw1 dx n1 s1 st1 b1 d1 h1 => ?_
  exact hr bx C.row n1 H1 Vw1 x dx _ Q st1 d1 h1 fun v H3 Vw3 d s3 st3 d3 h3 => q _ _ _ _ _ (s1.trans st1 s3) st3 d3 h3
theorem blt_none {f : Str} (cx : Ctx X C blk sc) (h : f ∈ bltNames) : X.mg f = none := cx.blt f h
theorem de_builtin {f : Str} {e : Expr} {w : WD} {p pos : Pos} (cx : Ctx X C blk sc) (hg : Gl X f) (hf : bltOne f = true) (hn : noStar e = true) (h : DE X C bx e w) :
    DE X C bx (.Call (.Name f p) [e] [] pos) fun ρ n Q => w ρ n fun d n1 => callD f [d] fun z => Q z n1 := by
  have hpa : ∀ te, PE X e te → PA X [e] (tCons te tNil) := fun te ht => pa_cons ht pa_nil (star_ok hn)
  have st : starEach [e] X.env = (false, eval e X.env) :: starEach [] X.env := star_ok hn
  by_cases h1 : (f == ("abs" : Str)) = true
  · obtain rfl := eq_of_beq h1
    refine de_blt_of (g := callD "abs") (t := tF) (fun te ht => pe_callB call_abs hg (blt_none cx (by decide)) (by decide +kernel) (hpa te ht) (he := st)) ?_ h
    intro bx row n H Vw x dx Qd Q s hx h q
    cases hx with
    | int i => exact ⟨_, rfl, q _ _ _ _ .refl s (.int _) h⟩
    | _ => exact h.elim
  by_cases h2 : (f == ("len" : Str)) = true
  · obtain rfl := eq_of_beq h2
    refine de_blt_of (g := callD "len") (t := tF) (fun te ht => pe_callB call_len_seq hg (blt_none cx (by decide)) (by decide +kernel) (hpa te ht) (he := st)) ?_ h
    intro bx row n H Vw x dx Qd Q s hx h q
    cases hx with
    | lst hl hd => exact ⟨_, _, rfl, .inl (.inl (s.sub.rd hl)), q _ _ _ _ .refl s (.int _) (by rw [dpa_len hd]; exact h)⟩
    | tup hl hd => exact ⟨_, _, rfl, .inr (s.sub.tup hl), q _ _ _ _ .refl s (.int _) (by rw [dpa_len hd]; exact h)⟩
    | _ => exact h.elim
  by_cases h3 : (f == ("int" : Str)) = true
  · obtain rfl := eq_of_beq h3
    refine de_blt_of (g := callD "int") (t := tF) (fun te ht => pe_callTy call_int1 hg (blt_none cx (by decide)) (by decide +kernel) (hpa te ht) (he := st)) ?_ h
    intro bx row n H Vw x dx Qd Q s hx h q
    cases hx with
    | int i => exact .inl ⟨_, rfl, q _ _ _ _ .refl s (.int _) h⟩
    | _ => exact h.elim
  by_cases h4 : (f == ("sum" : Str)) = true
  · obtain rfl := eq_of_beq h4
    refine de_blt_of (g := callD "sum") (t := tF) (fun te ht => pe_callB (cr_sum cx.calm) hg (blt_none cx (by decide)) (by decide +kernel) (hpa te ht) (he := st)) ?_ h
    intro bx row n H Vw x dx Qd Q s hx h q
    cases hx with
    | @lst a xs ds hl hd =>
      have h5 : (match sumD ds with | some i => Qd (.int i) | none => False) := h
      cases e : sumD ds with
      | none => rw [e] at h5; exact h5.elim
      | some i =>
        rw [e] at h5
        obtain ⟨ns, e1, e2⟩ := sum_ints hd e
        subst e1
        exact ⟨_, ns, rfl, .inl (s.sub.rd hl), q _ _ _ _ .refl s (.int _) (by rw [e2]; exact h5)⟩
    | _ => exact h.elim
  by_cases h5 : (f == ("list" : Str)) = true
  · obtain rfl := eq_of_beq h5
    refine de_blt_of (g := callD "list") (t := tF) (fun te ht => pe_callTy call_list_of hg (blt_none cx (by decide)) (by decide +kernel) (hpa te ht) (he := st)) ?_ h
    intro bx row n H Vw x dx Qd Q s hx h q
    cases hx with
    | lst hl hd =>
      exact ⟨_, _, rfl, .inl (.inl (s.sub.rd hl)), fun p hp => q _ _ _ _ (Stp.newv s hp) (s.new hp) (.lst (.inl upd_same) (dpAll_mono (s.sub_new hp) _ _ hd)) h⟩
    | _ => exact h.elim
  by_cases h6 : (f == ("tuple" : Str)) = true
  · obtain rfl := eq_of_beq h6
    refine de_blt_of (g := callD "tuple") (t := tF) (fun te ht => pe_callTy call_tuple_of hg (blt_none cx (by decide)) (by decide +kernel) (hpa te ht) (he := st)) ?_ h
    intro bx row n H Vw x dx Qd Q s hx h q
    cases hx with
    | lst hl hd =>
      exact ⟨_, _, rfl, .inl ⟨.inl (s.sub.rd hl), fun p hp => q _ _ _ _ (Stp.newv s hp) (s.new hp) (.tup (.inl (.inl upd_same)) (dpAll_mono (s.sub_new hp) _ _ hd)) h⟩⟩
    | _ => exact h.elim
  exfalso
  unfold bltOne at hf
  simp only [Bool.or_eq_true] at hf
  rcases hf with e | e | e | e | e | e
  · exact h1 e
  · exact h2 e
  · exact h3 e
  · exact h4 e
  · exact h5 e
  · exact h6 e
/-- a def of the text -/
theorem de_user {f : Str} {S : FnS} {es : List Expr} {w : Expr → WD} {p pos : Pos} (cx : Ctx X C blk sc) (hbt : bx.tabs = C.tabs) (hg : Gl X f) (hS : C.G f = some S) (hp : plainN f = true) (har : C.ar f es.length = true) (h0 : 0 < es.length) (hst : es.all noStar = true)
    (hw : ∀ e ρ n Q, noStar e = false → ¬ w e ρ n Q) (h : ∀ e, DV X C bx e (w e)) :
    DE X C bx (.Call (.Name f p) es [] pos) fun ρ n Q => wArgs w es ρ n fun ds n1 => S C.row n1 (ds ++ C.dfl f es.length) Q := by
  obtain ⟨fa, fd, ps, ar, dvs, dsv, F, hm, hk, hb, hd, hdf, hle⟩ := cx.call f S es.length hS har
  obtain ⟨t, ht, kt⟩ := dav_args hw h es
  have hdb : (f == ("__debug__" : Str)) = false := by
    unfold plainN at hp
    rw [Bool.and_eq_true, Bool.not_eq_true', Bool.not_eq_true'] at hp
    exact hp.1
  cases es with
  | nil => exact absurd h0 (by simp)
  | cons e0 er =>
    rw [List.all_cons, Bool.and_eq_true] at hst
    refine .mk (pe_call F cx.roomL hg hm hk hb hd pass0 ht hdb (star_ok hst.1) (stars_ok hst.2)) fun σ H Vw ρ n Qd Q s r b hw q => ?_
    refine kt σ H Vw ρ n _ _ s r hw fun vs H1 Vw1 ds n1 s1 st1 d1 hl h1 => ?_
    refine ⟨?_, bx, C.row, n1, Vw1, ds ++ C.dfl f (e0 :: er).length, Qd, hbt, st1, pd_app d1 (pd_dq (hdf Vw1)), h1, fun v H2 Vw2 d n2 s2 st2 d2 h2 => q _ _ _ _ _ (s1.trans st1 s2) st2 d2 h2⟩
    rw [List.length_append, hl, hle]
end
end RT
namespace RT
open PySem PySem.Spec PyProof.Rows L2

/-! ### what is walked -/
structure WalkD (K : PySem.W.Frag) (bx : BxT) (J : It) (items : List D) (Vw0 : Hp) : Prop where
  len : items.length ≤ sizeLine
  go : ∀ i H Vw, Sub Vw0 Vw → Sub Vw H → i < items.length → J.go i H
  stop : ∀ H Vw, Sub Vw0 Vw → Sub Vw H → J.stop items.length H
  yld : ∀ i x H H' Vw row n, Sub Vw0 Vw → Stt K bx row n H Vw → i < items.length → J.yld i H x H' → ∃ Vw' d, Stp bx H Vw H' Vw' ∧ Stt K bx row n H' Vw' ∧ items[i]? = some d ∧ Dq K Vw' x d
def DI (X : Cx) (C : Cfg) (bx : BxT) (tg e : Expr) (w : WL) : Prop := ∃ wi : TI, PI X tg e wi ∧
  ∀ (σ : L2.St) (H Vw : Hp) (ρ : RE) (n : Int) (Qd : List D → Int → Prop) (R : It → Hp → Prop), Stt X.K bx C.row n H Vw → Rep X.K bx Vw σ ρ → w ρ n Qd →
    (∀ J H' Vw' items n', Stp bx H Vw H' Vw' → Stt X.K bx C.row n' H' Vw' → WalkD X.K bx J items Vw' → Qd items n' → R J H') → wi σ H R
def iAny (K : PySem.W.Frag) (tl : TE) : TI := fun σ H R => tl σ H fun x H1 => (∃ a, x = .ref a ∧ (∃ xs, SqL K H1 a xs) ∧ R (Itl K a) H1) ∨ ∃ a, x = .ref a ∧ (∃ xs, SqT K H1 a xs) ∧ R (Itt K a) H1
theorem pi_any {X : Cx} {tg l : Expr} {tl : TE} (hl : PE X l tl) : PI X tg l (iAny X.K tl) := by
  refine ⟨fun pins s σ H R I h => ?_⟩
  refine thn (hl.run pins s σ H _ I h) fun v s1 ⟨x, H1, I1, r1, q1⟩ => ?_
  rcases q1 with ⟨a, e, ⟨xs, hq⟩, q⟩ | ⟨a, e, ⟨xs, hq⟩, q⟩
  · subst e
    cases r1
    obtain ⟨its, rv, p, hz⟩ := I1.list hq
    refine wpAny_pyIter_list p.isList ?_
    refine ⟨s1.heap.objs.size, [s1.heap.objs.size], _, _, H1, rfl, I1.kept (t' := s1.toks) fun b o e => Heap.get?_push_of_some _ e, turn_list a _, ⟨_, Heap.get?_push_size _ rfl, rfl, rfl⟩, fun b hb => ?_, q⟩
    have e : b = s1.heap.objs.size := by simpa using hb
    subst e
    exact I1.fpOk (Nat.le_refl _) (I1.hok.fresh (Nat.le_refl _))
  · subst e
    cases r1
    obtain ⟨its, rv, p, hz⟩ := I1.tuple hq
    refine wpAny_pyIter_tuple (show s1.heap.IsTuple a its.toArray from p) ?_
    refine ⟨s1.heap.objs.size, [s1.heap.objs.size], _, _, H1, rfl, I1.kept (t' := s1.toks) fun b o e => Heap.get?_push_of_some _ e, turn_tuple a _, ⟨_, Heap.get?_push_size _ rfl, rfl, rfl⟩, fun b hb => ?_, q⟩
    have e : b = s1.heap.objs.size := by simpa using hb
    subst e
    exact I1.fpOk (Nat.le_refl _) (I1.hok.fresh (Nat.le_refl _))
section
variable {K : PySem.W.Frag} {bx : BxT} {Vw : Hp}
theorem walk_lst {a : Addr} {xs : List V} {ds : List D} (h : Rd Vw a (.lst xs)) (hd : DqAll K Vw xs ds) (hl : xs.length ≤ sizeLine) : WalkD K bx (Itl K a) ds Vw where
  len := by rw [← dpa_len hd]; exact hl
  go := fun i H V1 s1 s2 hi => by
    have hi' : i < xs.length := by rw [dpa_len hd]; exact hi
    exact ⟨xs, xs[i], .inl ((s1.trans s2).rd h), List.getElem?_eq_getElem hi'⟩
  stop := fun H V1 s1 s2 => ⟨xs, .inl ((s1.trans s2).rd h), by rw [dpa_len hd]; exact Nat.le_refl _⟩
  yld := fun i x H H' V1 row n s1 st hi hy => by
    obtain ⟨rfl, hy⟩ := hy
    have e := hy xs (.inl ((s1.trans st.sub).rd h))
    obtain ⟨d, e1, e2⟩ := dpa_get hd e
    exact ⟨V1, d, .refl, st, e1, dp_mono s1 _ _ e2⟩
theorem walk_tp {a : Addr} {xs : List V} {ds : List D} (h : SqT K Vw a xs) (hd : DqAll K Vw xs ds) (hl : xs.length ≤ sizeLine) : WalkD K bx (Itt K a) ds Vw where
  len := by rw [← dpa_len hd]; exact hl
  go := fun i H V1 s1 s2 hi => by
    have hi' : i < xs.length := by rw [dpa_len hd]; exact hi
    exact ⟨xs, xs[i], (s1.trans s2).tup h, List.getElem?_eq_getElem hi'⟩
  stop := fun H V1 s1 s2 => ⟨xs, (s1.trans s2).tup h, by rw [dpa_len hd]; exact Nat.le_refl _⟩
  yld := fun i x H H' V1 row n s1 st hi hy => by
    obtain ⟨rfl, hy⟩ := hy
    have e := hy xs ((s1.trans st.sub).tup h)
    obtain ⟨d, e1, e2⟩ := dpa_get hd e
    exact ⟨V1, d, .refl, st, e1, dp_mono s1 _ _ e2⟩
theorem rng_len (lo : Int) : ∀ (m i : Nat), (rngFrom lo i m).length = m
  | 0, _ => rfl
  | m + 1, i => by
    show (rngFrom lo (i + 1) m).length + 1 = m + 1
    rw [rng_len lo m (i + 1)]
theorem rng_get (lo : Int) : ∀ (m i j : Nat), j < m → (rngFrom lo i m)[j]? = some (.int (lo + ((i + j : Nat) : Int)))
  | 0, _, _, h => absurd h (by simp)
  | m + 1, i, 0, _ => rfl
  | m + 1, i, j + 1, h => by
    show (rngFrom lo (i + 1) m)[j]? = _
    rw [rng_get lo m (i + 1) j (by omega)]
    have e : i + 1 + j = i + (j + 1) := by omega
    rw [e]
theorem walk_rng {lo : Int} {m : Nat} (hm : m ≤ 2000000) : WalkD K bx (Itr lo m) (rngFrom lo 0 m) Vw where
  len := by
    rw [rng_len]
    exact Nat.le_trans hm (by rw [sizeLine_eq]; decide)
  go := fun i H V1 s1 s2 hi => by
    rw [rng_len] at hi
    exact hi
  stop := fun H V1 s1 s2 => by
    rw [rng_len]
    exact Nat.le_refl m
  yld := fun i x H H' V1 row n s1 st hi hy => by
    obtain ⟨rfl, rfl⟩ := hy
    rw [rng_len] at hi
    refine ⟨V1, _, .refl, st, rng_get lo m 0 i hi, ?_⟩
    rw [Nat.zero_add]
    exact .int _
theorem enum_len : ∀ (xs : List D) (i : Nat), (enumFrom i xs).length = xs.length
  | [], _ => rfl
  | _ :: xs, i => by
    show (enumFrom (i + 1) xs).length + 1 = xs.length + 1
    rw [enum_len xs (i + 1)]
theorem enum_get : ∀ (xs : List D) (i j : Nat) (d : D), xs[j]? = some d → (enumFrom i xs)[j]? = some (.tuple [.int ((i + j : Nat) : Int), d])
  | [], _, _, _, h => by simp at h
  | x :: xs, i, 0, d, h => by
    have e : x = d := Option.some.inj h
    rw [e]
    rfl
  | x :: xs, i, j + 1, d, h => by
    show (enumFrom (i + 1) xs)[j]? = _
    rw [enum_get xs (i + 1) j d h]
    have e : i + 1 + j = i + (j + 1) := by omega
    rw [e]
theorem walk_en {a : Addr} {xs : List V} {ds : List D} (h : Rd Vw a (.lst xs)) (hd : DqAll K Vw xs ds) (hl : xs.length ≤ sizeLine) : WalkD K bx (Ite K a) (enumFrom 0 ds) Vw where
  len := by rw [enum_len, ← dpa_len hd]; exact hl
  go := fun i H V1 s1 s2 hi => by
    rw [enum_len, ← dpa_len hd] at hi
    exact ⟨xs, xs[i], .inl ((s1.trans s2).rd h), List.getElem?_eq_getElem hi⟩
  stop := fun H V1 s1 s2 => ⟨xs, .inl ((s1.trans s2).rd h), by rw [enum_len, dpa_len hd]; exact Nat.le_refl _⟩
  yld := fun i x H H' V1 row n s1 st hi hy => by
    obtain ⟨T, y, rfl, hT, rfl, hy⟩ := hy
    have e := hy xs (.inl ((s1.trans st.sub).rd h))
    obtain ⟨d, e1, e2⟩ := dpa_get hd e
    refine ⟨_, _, Stp.newv st hT, st.new hT, enum_get ds 0 i d e1, ?_⟩
    rw [Nat.zero_add]
    exact .tup (.inl (.inl upd_same)) (.cons (.int _) (.cons (dp_mono (s1.trans (st.sub_new hT)) _ _ e2) .nil))
theorem zip_len : ∀ (xs ys : List D), (zipD xs ys).length = min xs.length ys.length
  | [], ys => by simp [zipD]
  | _ :: _, [] => by simp [zipD]
  | x :: xs, y :: ys => by
    show (zipD xs ys).length + 1 = min (xs.length + 1) (ys.length + 1)
    rw [zip_len xs ys]
    omega
theorem zip_get : ∀ (xs ys : List D) (j : Nat) (d e : D), xs[j]? = some d → ys[j]? = some e → (zipD xs ys)[j]? = some (.tuple [d, e])
  | [], _, _, _, _, h, _ => by simp at h
  | _ :: _, [], _, _, _, _, h => by simp at h
  | x :: xs, y :: ys, 0, d, e, h, h2 => by
    have e1 : x = d := Option.some.inj h
    have e2 : y = e := Option.some.inj h2
    rw [e1, e2]
    rfl
  | x :: xs, y :: ys, j + 1, d, e, h, h2 => zip_get xs ys j d e h h2
theorem walk_zl {a b : Addr} {xs ys : List V} {ds es : List D} (h : Rd Vw a (.lst xs)) (hd : DqAll K Vw xs ds) (h2 : Rd Vw b (.lst ys)) (hd2 : DqAll K Vw ys es) (hl : xs.length ≤ sizeLine) : WalkD K bx (Itz K a b) (zipD ds es) Vw where
  len := by
    rw [zip_len, ← dpa_len hd]
    omega
  go := fun i H V1 s1 s2 hi => by
    rw [zip_len, ← dpa_len hd, ← dpa_len hd2] at hi
    exact ⟨xs, ys, xs[i], ys[i], .inl ((s1.trans s2).rd h), .inl ((s1.trans s2).rd h2), List.getElem?_eq_getElem (by omega), List.getElem?_eq_getElem (by omega)⟩
  stop := fun H V1 s1 s2 => ⟨xs, ys, .inl ((s1.trans s2).rd h), .inl ((s1.trans s2).rd h2), by rw [zip_len, dpa_len hd, dpa_len hd2]; omega⟩
  yld := fun i x H H' V1 row n s1 st hi hy => by
    obtain ⟨T, u, v, rfl, hT, rfl, hy, hz⟩ := hy
    obtain ⟨d, e1, e2⟩ := dpa_get hd (hy xs (.inl ((s1.trans st.sub).rd h)))
    obtain ⟨e, e3, e4⟩ := dpa_get hd2 (hz ys (.inl ((s1.trans st.sub).rd h2)))
    exact ⟨_, _, Stp.newv st hT, st.new hT, zip_get ds es i d e e1 e3, .tup (.inl (.inl upd_same)) (.cons (dp_mono (s1.trans (st.sub_new hT)) _ _ e2) (.cons (dp_mono (s1.trans (st.sub_new hT)) _ _ e4) .nil))⟩
theorem walk_zt {a b : Addr} {xs ys : List V} {ds es : List D} (h : SqT K Vw a xs) (hd : DqAll K Vw xs ds) (h2 : SqT K Vw b ys) (hd2 : DqAll K Vw ys es) (hl : xs.length ≤ sizeLine) : WalkD K bx (RZ.ItzT K a b) (zipD ds es) Vw where
  len := by
    rw [zip_len, ← dpa_len hd]
    omega
  go := fun i H V1 s1 s2 hi => by
    rw [zip_len, ← dpa_len hd, ← dpa_len hd2] at hi
    exact ⟨xs, ys, xs[i], ys[i], (s1.trans s2).tup h, (s1.trans s2).tup h2, List.getElem?_eq_getElem (by omega), List.getElem?_eq_getElem (by omega)⟩
  stop := fun H V1 s1 s2 => ⟨xs, ys, (s1.trans s2).tup h, (s1.trans s2).tup h2, by rw [zip_len, dpa_len hd, dpa_len hd2]; omega⟩
  yld := fun i x H H' V1 row n s1 st hi hy => by
    obtain ⟨T, u, v, rfl, hT, rfl, hy, hz⟩ := hy
    obtain ⟨d, e1, e2⟩ := dpa_get hd (hy xs ((s1.trans st.sub).tup h))
    obtain ⟨e, e3, e4⟩ := dpa_get hd2 (hz ys ((s1.trans st.sub).tup h2))
    exact ⟨_, _, Stp.newv st hT, st.new hT, zip_get ds es i d e e1 e3, .tup (.inl (.inl upd_same)) (.cons (dp_mono (s1.trans (st.sub_new hT)) _ _ e2) (.cons (dp_mono (s1.trans (st.sub_new hT)) _ _ e4) .nil))⟩
end
section
variable {X : Cx} {C : Cfg} {blk : Bool} {sc : Scope} {bx : BxT}
theorem di_F {tg e : Expr} : DI X C bx tg e wNo := ⟨fun _ _ _ => False, ⟨fun _ _ _ _ _ _ h => h.elim⟩, fun _ _ _ _ _ _ _ _ _ h _ => h⟩
theorem di_plain {tg e : Expr} {w : WD} (h : DE X C bx e w) : DI X C bx tg e fun ρ n Q => w ρ n fun x n1 => match x with
    | .list xs => Q xs n1
    | .tuple xs => Q xs n1
    | _ => False := by
  obtain ⟨t, ht, k⟩ := h
  refine ⟨iAny X.K t, pi_any ht, fun σ H Vw ρ n Qd R s r hw q => ?_⟩
  refine k σ H Vw ρ n _ _ s r hw fun v H1 Vw1 d n1 s1 st1 b1 d1 h1 => ?_
  cases d1 with
  | lst hl hd => exact .inl ⟨_, rfl, ⟨_, .inl (st1.sub.rd hl)⟩, q _ _ _ _ _ s1 st1 (walk_lst hl hd (b1.1 _ _ (.inl (st1.sub.rd hl)))) h1⟩
  | tup hl hd => exact .inr ⟨_, rfl, ⟨_, st1.sub.tup hl⟩, q _ _ _ _ _ s1 st1 (walk_tp hl hd (b1.2 _ _ (st1.sub.tup hl))) h1⟩
  | _ => exact h1.elim
theorem isTup_ok {tg : Expr} (h : isTup tg = true) : ∃ es k p, tg = .Tuple es k p := by
  cases tg <;> first | exact ⟨_, _, _, rfl⟩ | cases h
theorem di_iter {w : Expr → WD} {tg e : Expr} (cx : Ctx X C blk sc) (h : ∀ e, DE X C bx e (w e)) : DI X C bx tg e (wIter C sc w tg e) := by
  unfold wIter
  dsimp only
  split
  · rename_i f fp a cp
    split
    · rename_i hf
      obtain rfl := eq_of_beq hf
      split
      · rename_i hg
        rw [Bool.and_eq_true] at hg
        obtain ⟨hg, hs⟩ := hg
        obtain ⟨t, ht, k⟩ := h a
        refine ⟨_, pi_range1 (glB_ok cx hg) (cx.blt _ (by decide)) (pa_cons ht pa_nil (star_ok hs)) (star_ok hs), fun σ H Vw ρ n Qd R s r hh q => ?_⟩
        refine k σ H Vw ρ n _ _ s r hh fun v H1 Vw1 d n1 s1 st1 b1 d1 h1 => ?_
        cases d1 with
        | int j =>
          obtain ⟨⟨h2, h3⟩, h4⟩ := h1
          exact ⟨j, rfl, by omega, by omega, q _ _ _ _ _ s1 st1 (walk_rng (by omega)) h4⟩
        | _ => exact h1.elim
      · exact di_F
    · split
      · rename_i hf
        obtain rfl := eq_of_beq hf
        split
        · rename_i hg
          rw [Bool.and_eq_true, Bool.and_eq_true] at hg
          obtain ⟨hg, htp, hs⟩ := hg
          obtain ⟨es, kk, tp, rfl⟩ := isTup_ok htp
          obtain ⟨t, ht, k⟩ := h a
          refine ⟨_, pi_enum (glB_ok cx hg) (cx.blt _ (by decide)) (pa_cons ht pa_nil (star_ok hs)) (star_ok hs), fun σ H Vw ρ n Qd R s r hh q => ?_⟩
          refine k σ H Vw ρ n _ _ s r hh fun v H1 Vw1 d n1 s1 st1 b1 d1 h1 => ?_
          cases d1 with
          | lst hl hd => exact ⟨_, _, rfl, .inl (st1.sub.rd hl), q _ _ _ _ _ s1 st1 (walk_en hl hd (b1.1 _ _ (.inl (st1.sub.rd hl)))) h1⟩
          | _ => exact h1.elim
        · exact di_F
      · exact di_plain (h _)
  · rename_i f fp a b cp
    split
    · rename_i hf
      obtain rfl := eq_of_beq hf
      split
      · rename_i hg
        rw [Bool.and_eq_true, Bool.and_eq_true] at hg
        obtain ⟨hg, hs, hs2⟩ := hg
        obtain ⟨t, ht, k⟩ := h a
        obtain ⟨t2, ht2, k2⟩ := h b
        have e2 : ∀ env, starEach [b] env = [(false, eval b env)] := fun env => star_ok hs2
        refine ⟨_, pi_range2 (glB_ok cx hg) (cx.blt _ (by decide)) (pa_cons ht (pa_cons ht2 pa_nil (star_ok hs2)) (star_ok hs)) (by rw [star_ok hs, e2]) (e2 _), fun σ H Vw ρ n Qd R s r hh q => ?_⟩
        refine k σ H Vw ρ n _ _ s r hh fun v H1 Vw1 d n1 s1 st1 b1 d1 h1 => ?_
        refine k2 σ H1 Vw1 ρ n1 _ _ st1 (r.mono s1.view) h1 fun v2 H2 Vw2 d2 n2 s2 st2 b2 d2' h2 => ?_
        cases d1 with
        | int i =>
          cases d2' with
          | int j =>
            obtain ⟨⟨h3, h4, h5, h6⟩, h7⟩ := h2
            exact ⟨i, j, rfl, ⟨by omega, by omega, by omega, by omega⟩, q _ _ _ _ _ (s1.trans st1 s2) st2 (walk_rng (by omega)) h7⟩
          | _ => exact h2.elim
        | _ => cases d2' <;> exact h2.elim
      · exact di_F
    · split
      · rename_i hf
        obtain rfl := eq_of_beq hf
        split
        · rename_i hg
          rw [Bool.and_eq_true, Bool.and_eq_true, Bool.and_eq_true] at hg
          obtain ⟨hg, htp, hs, hs2⟩ := hg
          obtain ⟨es, kk, tp, rfl⟩ := isTup_ok htp
          obtain ⟨t, ht, k⟩ := h a
          obtain ⟨t2, ht2, k2⟩ := h b
          refine ⟨_, RZ.pi_zipA (glB_ok cx hg) (cx.blt _ (by decide)) (pa_cons ht (pa_cons ht2 pa_nil (star_ok hs2)) (star_ok hs)) (star_ok hs) (stars_ok (by simp [hs2])), fun σ H Vw ρ n Qd R s r hh q => ?_⟩
          refine k σ H Vw ρ n _ _ s r hh fun v H1 Vw1 d n1 s1 st1 b1 d1 h1 => ?_
          refine k2 σ H1 Vw1 ρ n1 _ _ st1 (r.mono s1.view) h1 fun v2 H2 Vw2 d2 n2 s2 st2 b2 d2' h2 => ?_
          have d1' := dp_mono s2.view _ _ d1
          cases d1' with
          | lst hl hd =>
            cases d2' with
            | lst hl2 hd2 => exact ⟨_, _, _, _, rfl, .inl ⟨.inl (st2.sub.rd hl), .inl (st2.sub.rd hl2), q _ _ _ _ _ (s1.trans st1 s2) st2 (walk_zl hl hd hl2 hd2 (b2.1 _ _ (.inl (st2.sub.rd hl)))) h2⟩⟩
            | _ => exact h2.elim
          | tup hl hd =>
            cases d2' with
            | tup hl2 hd2 => exact ⟨_, _, _, _, rfl, .inr ⟨st2.sub.tup hl, st2.sub.tup hl2, q _ _ _ _ _ (s1.trans st1 s2) st2 (walk_zt hl hd hl2 hd2 (b2.2 _ _ (st2.sub.tup hl))) h2⟩⟩
            | _ => exact h2.elim
          | _ => cases d2' <;> exact h2.elim
        · exact di_F
      · exact di_plain (h _)
  · exact di_F
  · exact di_plain (h _)
end
end RT
namespace RT
open PySem PySem.Spec PyProof.Rows L2
section
variable {X : Cx} {C : Cfg} {blk : Bool} {sc : Scope} {bx : BxT}
/-! ### targets -/
theorem wipe_set {i : Nat} {o : Option V} : ∀ {vs : List Nat} {σ : L2.St}, i ∈ vs → wipe (σ.set i o) vs = wipe σ vs
  | [], _, h => by cases h
  | v :: vs, σ, h => by
    unfold wipe
    by_cases hm : i ∈ vs
    · rw [wipe_set hm]
    · have e : v = i := by
        rcases List.mem_cons.mp h with e | e
        · exact e.symm
        · exact absurd e hm
      subst e
      have c : ∀ {us : List Nat}, v ∉ us → wipe (σ.set v o) us = (wipe σ us).set v o := by
        intro us
        induction us with
        | nil => intro _; rfl
        | cons u us ih =>
          intro hu
          have h1 : u ≠ v := fun e => hu (by simp [e])
          have h2 : v ∉ us := fun e => hu (by simp [e])
          unfold wipe
          rw [ih h2, List.set_comm _ _ (Ne.symm h1)]
      rw [c hm, List.set_set]
/-- the slots of names that the block stores -/
def OwnIn (C : Cfg) (sc : Scope) (vs : List Nat) : Prop := ∀ x i, findIx C.N x = some i → sc.names.lookup x = some .local → i ∈ vs
/-- slots that took data, one after another -/
inductive Sets (K : PySem.W.Frag) (Vw : Hp) : L2.St → RE → L2.St → RE → Prop
  | refl {σ : L2.St} {ρ : RE} : Sets K Vw σ ρ σ ρ
  | step {σ σ' : L2.St} {ρ ρ' : RE} {i : Nat} {v : V} {d : D} : Dq K Vw v d → Sets K Vw (σ.set i (some v)) (ρ.set i (some (.shr d))) σ' ρ' → Sets K Vw σ ρ σ' ρ'
theorem Sets.trans {K : PySem.W.Frag} {Vw : Hp} {σ σ' σ'' : L2.St} {ρ ρ' ρ'' : RE} (a : Sets K Vw σ ρ σ' ρ') (b : Sets K Vw σ' ρ' σ'' ρ'') : Sets K Vw σ ρ σ'' ρ'' := by
  induction a with
  | refl => exact b
  | step h _ ih => exact .step h (ih b)
def DGw (K : PySem.W.Frag) (C : Cfg) (bx : BxT) (blk : Bool) (sc : Scope) (g : TG) (a : D → RE → (RE → Prop) → Prop) : Prop :=
  ∀ (σ : L2.St) (H Vw : Hp) (ρ : RE) (v : V) (d : D) (k : RE → Prop) (Q : L2.St → Hp → Prop), Rep K bx Vw σ ρ → Sub Vw H → Dq K Vw v d → a d ρ k →
    (∀ σ' ρ', Rep K bx Vw σ' ρ' → (∀ vs, blk = true → OwnIn C sc vs → wipe σ' vs = wipe σ vs) → Sets K Vw σ ρ σ' ρ' → k ρ' → Q σ' H) → g v σ H Q
def DG (X : Cx) (C : Cfg) (bx : BxT) (blk : Bool) (sc : Scope) (tg : Expr) : Prop := ∃ g, PG X tg g ∧ DGw X.K C bx blk sc g (asgT C blk sc tg)
theorem dg_name {x : Str} {p : Pos} (cx : Ctx X C blk sc) : ∃ g, PG X (.Name x p) g ∧ DGw X.K C bx blk sc g (asgName C blk sc x) := by
  have no : (∀ d ρ k, ¬ asgName C blk sc x d ρ k) → ∃ g, PG X (.Name x p) g ∧ DGw X.K C bx blk sc g (asgName C blk sc x) := fun h =>
    ⟨fun _ _ _ _ => False, ⟨fun _ _ _ _ _ _ _ _ _ z => z.elim⟩, fun σ H Vw ρ v d k Q r s dq ha q => absurd ha (h _ _ _)⟩
  cases hi : findIx C.N x with
  | none => exact no fun d ρ k h => by unfold asgName at h; rw [hi] at h; exact h
  | some i =>
    by_cases hl : (locB sc x = true) ∨ (blk = false ∧ sc.names.lookup x = some .cell)
    · have hN : X.N[i]? = some x := by rw [cx.N]; exact findIx_ok hi
      have hloc : locB sc x = true → sc.names.lookup x = some .local := fun h => by
        unfold locB at h
        split at h
        · assumption
        · cases h
      have hx : Loc X.env.scope x := by
        rw [cx.sc]
        rcases hl with h | ⟨_, h⟩
        · exact .inl (hloc h)
        · exact .inr h
      have hf : X.fn x = true ∨ X.env.scope.names.lookup x = some .local := by
        rw [cx.sc]
        rcases hl with h | ⟨hb, _⟩
        · exact .inr (hloc h)
        · exact .inl (cx.fn hb x)
      refine ⟨gName i, pg_name cx.nd hN hx hf, fun σ H Vw ρ v d k Q r s dq ha q => ?_⟩
      unfold asgName at ha
      rw [hi] at ha
      refine q _ _ (r.set (c := .shr d) dq) (fun vs hb ho => wipe_set (ho x i hi ?_)) (.step dq .refl) ha.2
      rcases hl with h | ⟨hb2, _⟩
      · exact hloc h
      · rw [hb] at hb2
        cases hb2
    · exact no fun d ρ k h => by unfold asgName at h; rw [hi] at h; exact hl h.1
def isName : Expr → Bool
  | .Name .. => true
  | _ => false
theorem asgNames_names : ∀ {es : List Expr} {ds : List D} {ρ : RE} {k : RE → Prop}, asgNames C blk sc es ds ρ k → es.all isName = true ∧ es.length = ds.length
  | [], [], _, _, _ => ⟨rfl, rfl⟩
  | [], _ :: _, _, _, h => h.elim
  | _ :: _, [], _, _, h => h.elim
  | e :: es, d :: ds, ρ, k, h => by
    unfold asgNames at h
    split at h
    · unfold asgName at h
      split at h
      · obtain ⟨h1, h2⟩ := asgNames_names h.2
        exact ⟨by rw [List.all_cons, h1]; rfl, by rw [List.length_cons, List.length_cons, h2]⟩
      · exact h.elim
    · exact h.elim
theorem names_each : ∀ {es : List Expr} {env : Env}, es.all isName = true → (assignEach es env).length = es.length ∧ (assignEach es env).findIdx? (·.1) = none
  | [], _, _ => ⟨rfl, rfl⟩
  | e :: es, env, h => by
    rw [List.all_cons, Bool.and_eq_true] at h
    obtain ⟨h1, h2⟩ := names_each (env := env) h.2
    cases e with
    | Name x p =>
      refine ⟨?_, ?_⟩
      · show (assignEach es env).length + 1 = es.length + 1
        rw [h1]
      · show List.findIdx? (·.1) ((false, assign (.Name x p) env) :: assignEach es env) = none
        rw [List.findIdx?_cons, h2]
        rfl
    | _ => cases h.1
theorem dgs : ∀ (es : List Expr), es.all isName = true → Ctx X C blk sc → ∃ g, PGs X es g ∧
    ∀ (σ : L2.St) (H Vw : Hp) (ρ : RE) (vs : List V) (ds : List D) (k : RE → Prop) (Q : L2.St → Hp → Prop), Rep X.K bx Vw σ ρ → Sub Vw H → DqAll X.K Vw vs ds → asgNames C blk sc es ds ρ k →
    (∀ σ' ρ', Rep X.K bx Vw σ' ρ' → (∀ us, blk = true → OwnIn C sc us → wipe σ' us = wipe σ us) → Sets X.K Vw σ ρ σ' ρ' → k ρ' → Q σ' H) → g vs σ H Q
  | [], _, _ => ⟨gNil, pgs_nil, fun σ H Vw ρ vs ds k Q r s dq ha q => by
      cases dq with
      | nil => exact ⟨rfl, q _ _ r (fun _ _ _ => rfl) .refl ha⟩
      | cons _ _ => exact ha.elim⟩
  | e :: es, h, cx => by
    rw [List.all_cons, Bool.and_eq_true] at h
    cases e with
    | Name x p =>
      obtain ⟨g, hg, kg⟩ := dg_name (bx := bx) (x := x) (p := p) cx
      obtain ⟨gs, hgs, kgs⟩ := dgs es h.2 cx
      refine ⟨gCons g gs, pgs_cons hg hgs, fun σ H Vw ρ vs ds k Q r s dq ha q => ?_⟩
      cases dq with
      | nil => exact ha.elim
      | cons d1 d2 =>
        refine ⟨_, _, rfl, kg σ H Vw ρ _ _ _ _ r s d1 (show asgName C blk sc x _ ρ (fun ρ1 => asgNames C blk sc es _ ρ1 k) from ha) fun σ1 ρ1 r1 w1 z1 h1 => ?_⟩
        exact kgs σ1 H Vw ρ1 _ _ _ _ r1 s d2 h1 fun σ2 ρ2 r2 w2 z2 h2 => q σ2 ρ2 r2 (fun us hb ho => (w2 us hb ho).trans (w1 us hb ho)) (z1.trans z2) h2
    | _ => cases h.1
theorem dg_tg {tg : Expr} (cx : Ctx X C blk sc) : DG X C bx blk sc tg := by
  have no : (∀ d ρ k, ¬ asgT C blk sc tg d ρ k) → DG X C bx blk sc tg := fun h =>
    ⟨fun _ _ _ _ => False, ⟨fun _ _ _ _ _ _ _ _ _ z => z.elim⟩, fun σ H Vw ρ v d k Q r s dq ha q => absurd ha (h _ _ _)⟩
  cases tg with
  | Name x p => exact dg_name cx
  | Tuple es kk p =>
    cases ha : es.all isName with
    | false =>
      refine no fun d ρ k h => ?_
      cases d with
      | tuple ds =>
        have := (asgNames_names (show asgNames C blk sc es ds ρ k from h)).1
        rw [ha] at this
        cases this
      | _ => exact h
    | true =>
      obtain ⟨g, hg, kg⟩ := dgs (bx := bx) es ha cx
      obtain ⟨n1, n2⟩ := names_each (env := X.env) ha
      refine ⟨_, pg_tup cx.calm hg n1 n2, fun σ H Vw ρ v d k Q r s dq h q => ?_⟩
      cases dq with
      | tup hl hd =>
        have h2 : asgNames C blk sc es _ ρ k := h
        exact ⟨_, _, rfl, s.tup hl, by rw [dpa_len hd, (asgNames_names h2).2], kg σ H Vw ρ _ _ _ _ r s hd h2 q⟩
      | _ => exact h.elim
  | _ => exact no fun d ρ k h => h

/-! ### plain tests -/
theorem DT.mk {e : Expr} {w : WB} {t : TT} (h : PT X e t)
    (k : ∀ (σ : L2.St) (H Vw : Hp) (ρ : RE) (n : Int) (Qd : Bool → Int → Prop) (Q : Bool → Hp → Prop), Stt X.K bx C.row n H Vw → Rep X.K bx Vw σ ρ → Big X.K H → w ρ n Qd →
      (∀ b H' Vw' n', Stp bx H Vw H' Vw' → Stt X.K bx C.row n' H' Vw' → Qd b n' → Q b H') → t σ H Q) : DT X C bx e w :=
  ⟨tInfoT X.K t, pt_info h, fun σ H Vw ρ n Qd Q s r hw q => fun b2 => k σ H Vw ρ n Qd _ s r b2 hw fun b H' Vw' n' s1 s2 qd => fun b3 => q b H' Vw' n' s1 s2 b3 qd⟩
theorem dt_cmp_of {op : CmpOp} {r : R2} {g : D → D → (Bool → Prop) → Prop} {a b : Expr} {wa wb : WD} {pos : Pos} (ho : OpR X (compareOp op) r) (hm : behindInMarks op b = false) (hr : COk X.K r g) (ha : DE X C bx a wa) (hb : DE X C bx b wb) :
    DT X C bx (.Compare a [op] [b] pos) fun ρ n Q => wa ρ n fun x n1 => wb ρ n1 fun y n2 => g x y fun c => Q c n2 := by
  obtain ⟨ta, ha, ka⟩ := ha
  obtain ⟨tb, hb, kb⟩ := hb
  refine .mk (pt_cmpR ho ha hb hm) fun σ H Vw ρ n Qd Q s r b h q => ?_
  refine ka σ H Vw ρ n _ _ s r h fun x H1 Vw1 dx n1 s1 st1 b1 d1 h1 => ?_
  refine kb σ H1 Vw1 ρ n1 _ _ st1 (r.mono s1.view) h1 fun y H2 Vw2 dy n2 s2 st2 b2 d2 h2 => ?_
  exact hr H2 Vw2 x y dx dy _ _ st2.sub (dp_mono s2.view _ _ d1) d2 h2 fun c hc => ⟨c, rfl, q _ _ _ _ (s1.trans st1 s2) st2 hc⟩
theorem dt_truth {e : Expr} {w : WD} (h : DE X C bx e w) (he : ∀ whole, isTrue e X.env whole = (do let v ← whole; standAt e.pos; holding [v] (truthy v))) :
    DT X C bx e fun ρ n Q => w ρ n fun d n1 => truthD d fun b => Q b n1 := by
  obtain ⟨t, ht, k⟩ := h
  refine .mk (pt_truth ht he) fun σ H Vw ρ n Qd Q s r b h q => ?_
  refine k σ H Vw ρ n _ _ s r h fun x H1 Vw1 dx n1 s1 st1 b1 d1 h1 => ?_
  cases d1 with
  | bl c => exact ⟨c, rfl, q _ _ _ _ s1 st1 h1⟩
  | @lst a xs ds hl hd =>
    have h2 : Qd (!ds.isEmpty) n1 := h1
    have e : (!xs.isEmpty) = !ds.isEmpty := by cases hd <;> rfl
    exact ⟨!xs.isEmpty, .inl ⟨xs, .inl (st1.sub.rd hl), rfl⟩, q _ _ _ _ s1 st1 (by rw [e]; exact h2)⟩
  | _ => exact h1.elim
theorem dt_cond {w : Expr → WD} {c : Expr} (cx : Ctx X C blk sc) (h : ∀ e, DE X C bx e (w e)) : DT X C bx c (wCond w c) := by
  unfold wCond
  split
  · rename_i a ops cs p
    split
    · rename_i op b
      split
      · rename_i hm
        have hu : X.A.units + 64 < cLine := cx.room8.units
        have hu2 : X.A.units + 65 < cLine := by have := cx.room8.un; omega
        cases op with
        | Eq => exact dt_cmp_of (op_eqD hu) hm cok_eq (h a) (h b)
        | NotEq => exact dt_cmp_of (op_neD hu) hm cok_ne (h a) (h b)
        | Lt => exact dt_cmp_of op_lt hm cok_lt (h a) (h b)
        | LtE => exact dt_cmp_of op_le hm cok_lt (h a) (h b)
        | Gt => exact dt_cmp_of op_gt hm cok_lt (h a) (h b)
        | GtE => exact dt_cmp_of op_ge hm cok_lt (h a) (h b)
        | Is => exact dt_cmp_of op_isA hm cok_is (h a) (h b)
        | IsNot => exact dt_cmp_of op_notA hm cok_not (h a) (h b)
        | In => exact dt_cmp_of (op_inD hu2) hm cok_in (h a) (h b)
        | NotIn => exact dt_cmp_of (op_notInD hu2) hm cok_ni (h a) (h b)
      · exact dt_F
    · exact dt_F
  · exact dt_truth (h _) fun _ => rfl
  · exact dt_truth (h _) fun _ => rfl
  · exact dt_F
/-- a clause's tests -/
theorem dts {w : Expr → WD} {ifs : List Expr} (cx : Ctx X C blk sc) (h : ∀ e, DE X C bx e (w e)) : ∃ t, PTs X ifs t ∧ DTw X.K C bx t (wTests w ifs) := by
  match ifs with
  | [] =>
    refine ⟨tInfoT X.K tYes, ⟨fun pins s σ H Q I hq => wpAny_tests_nil ⟨H, I, hq (big_of I) (big_of I)⟩⟩, fun σ H Vw ρ n Qd Q s r hw q => fun b => fun b2 => q _ _ _ _ .refl s b hw⟩
  | [c] =>
    obtain ⟨t, ht, k⟩ := dt_cond (c := c) cx h
    exact ⟨t, pts_one ht, k⟩
  | _ :: _ :: _ => exact ⟨tFT, ⟨fun _ _ _ _ _ _ h => h.elim⟩, fun _ _ _ _ _ _ _ _ _ h _ => h⟩

/-! ### list comprehensions -/
theorem ownIn_blk {scope sc0 : Scope} : OwnIn C (relS scope sc0) ((ownOf C.N scope).map (·.2)) := by
  intro x i hi hl
  obtain ⟨k', e, r⟩ := lookup_relS (show _ = some NameKind.local from hl)
  have hk : k' = .local := by
    rcases r with r | ⟨_, r⟩
    · exact r.symm
    · cases r
  subst hk
  have hm : (x, NameKind.local) ∈ scope.names := PySem.mem_of_lookup e
  refine List.mem_map.mpr ⟨(x, i), List.mem_filterMap.mpr ⟨_, hm, ?_⟩, rfl⟩
  show (findIx C.N x).map (fun i => (x, i)) = some (x, i)
  rw [hi]
  rfl
theorem Stp.hid {H Vw H' Vw' : Hp} {p : Addr} {o : HO} (s : Stp bx H Vw H' Vw') (h : H p = some o) (hv : Vw p = none) : Vw' p = none := by
  cases q : Vw' p with
  | none => rfl
  | some u =>
    rcases s.new p u q with e | e
    · rw [hv] at e; cases e
    · rw [h] at e; cases e
/-- an object out of the view is changed -/
theorem Stt.chg {K : PySem.W.Frag} {row : List Int} {n : Int} {H Vw : Hp} {p : Addr} {o : HO} (s : Stt K bx row n H Vw) (hv : Vw p = none) (hb : ∀ b, bx.box = some b → p ≠ b.b) {xs : List V} (hx : H p = some (.lst xs)) : Stt K bx row n (upd H p o) Vw := by
  refine ⟨fun a u e => ?_, fun b e => ?_, fun P hP => ?_, s.vis⟩
  · have ha : a ≠ p := fun z => by rw [z, hv] at e; cases e
    rw [upd_ne ha]
    exact s.sub a u e
  · obtain ⟨q1, q2, q3⟩ := s.box b e
    exact ⟨by rw [upd_ne (hb b e).symm]; exact q1, q2, q3⟩
  · obtain ⟨ps, e1, e2⟩ := s.tab P hP
    exact ⟨ps, by rw [upd_ne (ne_of e1 hx fun z => by cases z)]; exact e1, e2⟩
theorem ctx_blk {scope : Scope} {s : Shared} {H : Hp} {Ca : Addr} {cl : List (Str × Addr)} {fp : List Addr} (cx : Ctx X C blk sc) : Ctx (X.blk s H scope (compEnvC scope cl Ca X.env) fp) C.ng true (relS scope sc) where
  N := cx.N
  nd := cx.nd
  sc := by
    rw [← cx.sc]
    rfl
  calm := cx.calm
  room := cx.room.mono (by rw [show (if C.ng.gens = true then 12 else 8) = 8 from rfl, show C.ng.lev = C.lev from rfl]; split <;> omega)
  call := cx.call
  konst := cx.konst
  blt := cx.blt
  fn := fun h => by cases h
  gen := fun h => by cases h
  kind := fun h => by cases h
  nox := rfl
/-! ### readings that depend on the word alone -/
def tCan (K : PySem.W.Frag) (C : Cfg) (bx : BxT) (w : WD) : TE := fun σ H Q => ∃ (Vw : Hp) (ρ : RE) (n : Int) (Qd : QD), Stt K bx C.row n H Vw ∧ Rep K bx Vw σ ρ ∧ w ρ n Qd ∧
  ∀ v H' Vw' d n', Stp bx H Vw H' Vw' → Stt K bx C.row n' H' Vw' → Big K H' → Dq K Vw' v d → Qd d n' → Q v H'
def ttCan (K : PySem.W.Frag) (C : Cfg) (bx : BxT) (w : WB) : TT := fun σ H Q => ∃ (Vw : Hp) (ρ : RE) (n : Int) (Qd : Bool → Int → Prop), Stt K bx C.row n H Vw ∧ Rep K bx Vw σ ρ ∧ w ρ n Qd ∧
  ∀ b H' Vw' n', Stp bx H Vw H' Vw' → Stt K bx C.row n' H' Vw' → Big K H' → Qd b n' → Q b H'
def gCan (K : PySem.W.Frag) (C : Cfg) (bx : BxT) (blk : Bool) (sc : Scope) (a : D → RE → (RE → Prop) → Prop) : TG := fun v σ H Q => ∃ (Vw : Hp) (ρ : RE) (d : D) (k : RE → Prop), Rep K bx Vw σ ρ ∧ Sub Vw H ∧ Dq K Vw v d ∧ a d ρ k ∧
  ∀ σ' ρ', Rep K bx Vw σ' ρ' → (∀ vs, blk = true → OwnIn C sc vs → wipe σ' vs = wipe σ vs) → k ρ' → Q σ' H
theorem DE.can {e : Expr} {w : WD} (h : DE X C bx e w) : PE X e (tCan X.K C bx w) := by
  obtain ⟨t, ht, k⟩ := h
  exact ⟨fun pins s σ H Q I ⟨Vw, ρ, n, Qd, h1, h2, h3, h4⟩ => ht.run pins s σ H Q I (k σ H Vw ρ n Qd Q h1 h2 h3 h4)⟩
theorem dt_can {e : Expr} {w : WB} (h : DT X C bx e w) : PT X e (ttCan X.K C bx w) := by
  obtain ⟨t, ht, k⟩ := h
  exact ⟨fun pins s σ H Q I ⟨Vw, ρ, n, Qd, h1, h2, h3, h4⟩ => ht.run pins s σ H Q I (k σ H Vw ρ n Qd Q h1 h2 h3 h4)⟩
theorem dts_can {ifs : List Expr} {w : WB} (h : ∃ t, PTs X ifs t ∧ DTw X.K C bx t w) : PTs X ifs (ttCan X.K C bx w) := by
  obtain ⟨t, ht, k⟩ := h
  exact ⟨fun pins s σ H Q I ⟨Vw, ρ, n, Qd, h1, h2, h3, h4⟩ => ht.run pins s σ H Q I (k σ H Vw ρ n Qd Q h1 h2 h3 h4)⟩
theorem DG.can {tg : Expr} (h : DG X C bx blk sc tg) : PG X tg (gCan X.K C bx blk sc (asgT C blk sc tg)) := by
  obtain ⟨t, ht, k⟩ := h
  exact ⟨fun pins s σ H v u Q I r ⟨Vw, ρ, d, kk, h1, h2, h3, h4, h5⟩ => ht.run pins s σ H v u Q I r (k σ H Vw ρ v d kk Q h1 h2 h3 h4 fun σ' ρ' r' w' _ k' => h5 σ' ρ' r' w' k')⟩

/-! ### list comprehensions -/
def cTE (X : Cx) (C : Cfg) (bx : BxT) (sc scope : Scope) (w : Scope → Expr → WD) (wi : TI) (elt tg : Expr) (ifs : List Expr) : TE :=
  tLc wi (gCan X.K C bx true (relS scope sc) (asgT C true (relS scope sc) tg)) (ttCan X.K C bx (wTests (w (relS scope sc)) ifs)) (tCan X.K C bx (w (relS scope sc) elt)) ((ownOf C.N scope).map (·.2))
theorem comp_w {w : Scope → Expr → WD} {scope : Scope} {elt tg iter : Expr} {ifs : List Expr} {wi : TI} {wit : WL}
    (ki : ∀ (σ : L2.St) (H Vw : Hp) (ρ : RE) (n : Int) (Qd : List D → Int → Prop) (R : It → Hp → Prop), Stt X.K bx C.row n H Vw → Rep X.K bx Vw σ ρ → wit ρ n Qd →
      (∀ J H' Vw' items n', Stp bx H Vw H' Vw' → Stt X.K bx C.row n' H' Vw' → WalkD X.K bx J items Vw' → Qd items n' → R J H') → wi σ H R) :
    DFw X.K C bx (tInfo X.K (cTE X C bx sc scope w wi elt tg ifs)) fun ρ n Q => wit ρ n fun items n1 =>
      compD (fun d k => asgT C true (relS scope sc) tg d (wipeR ρ ((ownOf C.N scope).map (·.2))) k) (wTests (w (relS scope sc)) ifs) (w (relS scope sc) elt) items [] n1 Q := by
  intro σ H Vw ρ n Qd Q s r hw q
  intro b0
  refine ki σ H Vw ρ n _ _ s r hw fun J H1 Vw1 items n1 s1 st1 wk h1 => ?_
  intro Da hD
  generalize hvs : (ownOf C.N scope).map (·.2) = vs at h1 ⊢
  have r1 : Rep X.K bx Vw1 (wipe σ vs) (wipeR ρ vs) := (r.mono s1.view).wipe vs
  have hown : OwnIn C (relS scope sc) vs := by rw [← hvs]; exact ownIn_blk
  refine ⟨fun i m H2 => m = items.length - i ∧ i ≤ items.length ∧ ∃ (Vw2 : Hp) (n2 : Int) (av : List V) (ad : List D), Stp bx H1 Vw1 H2 Vw2 ∧ Stt X.K bx C.row n2 H2 Vw2 ∧ H2 Da = some (.lst av) ∧ Vw2 Da = none ∧ DqAll X.K Vw2 av ad ∧ ad.length ≤ i ∧
      compD (fun d k => asgT C true (relS scope sc) tg d (wipeR ρ vs) k) (wTests (w (relS scope sc)) ifs) (w (relS scope sc) elt) (items.drop i) ad n2 Qd,
    ⟨items.length, rfl, Nat.zero_le _, Vw1, n1, [], [], Stp.newh hD, st1.newh hD, upd_same, st1.none_of hD, .nil, Nat.le_refl _, h1⟩, fun i m H2 hW => ?_⟩
  obtain ⟨rfl, hi, Vw2, n2, av, ad, s2, st2, hD2, hV2, dq2, hl2, hc⟩ := hW
  by_cases hlt : i < items.length
  · refine .inr ⟨wk.go i H2 Vw2 s2.view st2.sub hlt, fun H3 => ∃ (Vw3 : Hp) (n3 : Int) (av : List V) (ad : List D), Stp bx H1 Vw1 H3 Vw3 ∧ Stt X.K bx C.row n3 H3 Vw3 ∧ H3 Da = some (.lst av) ∧ Vw3 Da = none ∧ DqAll X.K Vw3 av ad ∧ ad.length ≤ i + 1 ∧
        compD (fun d k => asgT C true (relS scope sc) tg d (wipeR ρ vs) k) (wTests (w (relS scope sc)) ifs) (w (relS scope sc) elt) (items.drop (i + 1)) ad n3 Qd,
      fun H3 hN => ⟨items.length - (i + 1), by omega, rfl, hlt, hN⟩, fun x H3 hy => ?_⟩
    obtain ⟨Vw3, d, s3, st3, hd, dx⟩ := wk.yld i x H2 H3 Vw2 C.row n2 s2.view st2 hlt hy
    have s13 := s2.trans st2 s3
    have hD3 : H3 Da = some (.lst av) := s3.frame Da _ hD2 (fun b e z => by
      have := (st1.box b e).1
      rw [← z, hD] at this
      cases this) fun _ z => by cases z
    have hV3 : Vw3 Da = none := Stp.hid s3 hD2 hV2
    have hdrop : items.drop i = d :: items.drop (i + 1) := by
      have hg := List.getElem?_eq_some_iff.mp hd
      obtain ⟨h4, h5⟩ := hg
      rw [List.drop_eq_getElem_cons h4, h5]
    rw [hdrop] at hc
    have hc2 : asgT C true (relS scope sc) tg d (wipeR ρ vs) fun ρ1 => wTests (w (relS scope sc)) ifs ρ1 n2 fun b n1 => if b = true then w (relS scope sc) elt ρ1 n1 fun d n2 =>
        compD (fun d k => asgT C true (relS scope sc) tg d (wipeR ρ vs) k) (wTests (w (relS scope sc)) ifs) (w (relS scope sc) elt) (items.drop (i + 1)) (ad ++ [d]) n2 Qd
        else compD (fun d k => asgT C true (relS scope sc) tg d (wipeR ρ vs) k) (wTests (w (relS scope sc)) ifs) (w (relS scope sc) elt) (items.drop (i + 1)) ad n1 Qd := hc
    refine ⟨Vw3, wipeR ρ vs, d, _, r1.mono s13.view, st3.sub, dx, hc2, fun σ4 ρ4 r4 w4 h4 => ⟨?_, Vw3, ρ4, n2, _, st3, r4, h4, fun b H5 Vw5 n5 s5 st5 b5 h5 => ?_⟩⟩
    · rw [w4 vs rfl hown]
      have ww : ∀ us, wipe (wipe σ us) us = wipe σ us := by
        intro us
        have g : ∀ (us vs : List Nat), (∀ v ∈ us, v ∈ vs) → wipe (wipe σ vs) us = wipe σ vs := by
          intro us
          induction us with
          | nil => intro _ _; rfl
          | cons u us ih =>
            intro vs hv
            show (wipe (wipe σ vs) us).set u none = wipe σ vs
            rw [ih vs fun v h => hv v (List.mem_cons_of_mem _ h)]
            have hu := hv u List.mem_cons_self
            have st : ∀ {vs : List Nat}, u ∈ vs → (wipe σ vs).set u none = wipe σ vs := by
              intro vs
              induction vs with
              | nil => intro h; cases h
              | cons v vs ih2 =>
                intro h
                unfold wipe
                by_cases e : u = v
                · subst e
                  rw [List.set_set]
                · rcases List.mem_cons.mp h with h | h
                  · exact absurd h e
                  · rw [List.set_comm _ _ (Ne.symm e), ih2 h]
            exact st hu
        exact g us us fun _ h => h
      exact ww vs
    · have s15 := s13.trans st3 s5
      have nb : ∀ b, bx.box = some b → Da ≠ b.b := box_ne st1 hD
      have hD5 : H5 Da = some (.lst av) := s5.frame Da _ hD3 (fun b e z => nb b e z) fun _ z => by cases z
      have hV5 : Vw5 Da = none := Stp.hid s5 hD3 hV3
      cases b with
      | false => exact ⟨Vw5, n5, av, ad, s15, st5, hD5, hV5, dpAll_mono (s3.view.trans s5.view) _ _ dq2, by omega, h5⟩
      | true =>
        refine ⟨Vw5, ρ4, n5, _, st5, r4.mono s5.view, h5, fun y H6 Vw6 dy n6 s6 st6 b6 d6 h6 => ?_⟩
        have s16 := s15.trans st5 s6
        have hD6 : H6 Da = some (.lst av) := s6.frame Da _ hD5 (fun b e z => nb b e z) fun _ z => by cases z
        have hV6 : Vw6 Da = none := Stp.hid s6 hD5 hV5
        have dq6 : DqAll X.K Vw6 av ad := dpAll_mono ((s3.view.trans s5.view).trans s6.view) _ _ dq2
        refine ⟨av, hD6, ?_, Vw6, n6, av ++ [y], ad ++ [dy], ⟨s16.view, fun a o e hb ht => ?_, fun a ps e => ?_, s16.new⟩, st6.chg hV6 nb hD6, upd_same, hV6, dpa_snoc dq6 d6, ?_, h6⟩
        · have := wk.len
          rw [dpa_len dq6]
          omega
        · have ha : a ≠ Da := fun z => by
            rw [z, hD] at e
            cases e
          rw [upd_ne ha]
          exact s16.frame a o e hb ht
        · have ha : a ≠ Da := fun z => by
            rw [z, hD] at e
            cases e
          rw [upd_ne ha]
          exact s16.grow a ps e
        · rw [List.length_append, List.length_singleton]
          omega
  · have e : i = items.length := by omega
    subst e
    rw [List.drop_length] at hc
    have hc2 : Qd ad n2 := hc
    exact .inl ⟨wk.stop H2 Vw2 s2.view st2.sub, fun b9 => q Da av H2 Vw2 ad n2 (s1.trans st1 s2) st2 b9 (s1.fresh st1 hD) hD2 hV2 dq2 hc2⟩
theorem set_no {iter : Expr} {env : Env} (h : ∀ es k p, iter ≠ .Set es k p) : ∀ x, foldedSetIterable iter env x = pure x := by
  intro x
  cases iter <;> first | rfl | exact absurd rfl (h _ _ _)
end
end RT
namespace RT
open PySem PySem.Spec PyProof.Rows L2 GenW

/-- the context of a generator expression's block -/
abbrev gcx (X : Cx) (s : Shared) (H : Hp) (cenv : Env) (Ag : Around) (fp : List Addr) (pn : List (Addr × Obj)) : Cx :=
  { X with A := Ag, s_0 := s, H_0 := H, env := cenv, outer := X.stack, stack := cenv :: X.stack, ex := fp, fn := fun _ => false, pn := pn, xe := fun _ _ => False }
theorem over_comp {A : Around} {elt : Expr} {gs : List Comprehension} {scope : Scope} {pos : Pos} {it : Value} {cenv : Env} : A.over (.compLoop (.GeneratorExp elt gs scope pos) 0 it .none cenv) [] = A.deeper cenv := by
  first
    | rfl
    | (obtain ⟨hd, d, fr, gs, u⟩ := A; simp [Around.over, Around.deeper, marksOver, frameCount, unitsOf, envsOf, guardsOf, pushEnvs, pushGuards, Code.envs, Code.env?, Code.isFrame, Code.guards, Code.isGuard, Code.weight, Code.frames, Code.isCreation, Code.isCaller, Code.cUnits])
theorem over_start {A : Around} {elt : Expr} {gs : List Comprehension} {scope : Scope} {pos : Pos} {it : Value} {cenv : Env} : A.over (.compStart (.GeneratorExp elt gs scope pos) 0 it .none cenv) [] = A.deeper cenv := by
  first
    | rfl
    | (obtain ⟨hd, d, fr, gs, u⟩ := A; simp [Around.over, Around.deeper, marksOver, frameCount, unitsOf, envsOf, guardsOf, pushEnvs, pushGuards, Code.envs, Code.env?, Code.isFrame, Code.guards, Code.isGuard, Code.weight, Code.frames, Code.isCreation, Code.isCaller, Code.cUnits])
/-- the names of the block -/
structure GenN (N : List Str) (sc scope : Scope) : Prop where
  kind : scope.kind = .function
  co : scope.isCoroutine = false
  dot : scope.names.lookup (".0" : Str) = some NameKind.local
  uniq : ∀ y ∈ scope.names, scope.names.lookup y.1 = some y.2
  cell : ∀ y ∈ scope.names, y.2 ≠ .cell
  free : ∀ y ∈ scope.names, y.2 = .free → sc.names.lookup y.1 = some .cell ∨ sc.names.lookup y.1 = some .free
theorem genN_of {N : List Str} {sc scope : Scope} (h : genC N sc scope = true) : GenN N sc scope := by
  unfold genC at h
  simp only [Bool.and_eq_true, Bool.not_eq_true', List.all_eq_true, decide_eq_true_eq] at h
  obtain ⟨⟨⟨h1, h2⟩, h3⟩, h4⟩ := h
  refine ⟨?_, h2, h3, fun y hy => (h4 y hy).1, fun y hy e => ?_, fun y hy e => ?_⟩
  · cases q : scope.kind <;> rw [q] at h1 <;> first | rfl | cases h1
  · have z := (h4 y hy).2
    rw [e] at z
    cases z
  · have z := (h4 y hy).2
    rw [e] at z
    dsimp only at z
    split at z
    · exact .inl (by assumption)
    · exact .inr (by assumption)
    · cases z
section
variable {X : Cx} {pins : List (Addr × Obj)} {σ : L2.St} {H : Hp} {s : Shared}
theorem clo_mem {sc scope : Scope} (I : Inv X pins σ H s) (hsc : X.env.scope = sc) (G : GenN X.N sc scope) {y : Str} {c : Addr} (hm : (y, c) ∈ cloFrom X.env.cells scope.names []) : X.env.cells.lookup y = some c ∧ c < s.heap.objs.size := by
  rcases cloFrom_mem hm with hm | ⟨h1, rfl⟩
  · cases hm
  · have hfree : ∃ c, X.env.cells.lookup y = some c := by
      rcases G.free _ h1 rfl with k | k
      · exact I.ok.has _ (.inl (by unfold Env.kindOf; rw [hsc]; exact k))
      · exact I.ok.has _ (.inr (by unfold Env.kindOf; rw [hsc]; exact k))
    obtain ⟨c, hc⟩ := hfree
    rw [hc]
    obtain ⟨w, z⟩ := I.cell _ _ hc
    exact ⟨rfl, z.lt⟩
theorem gen_start {sc scope : Scope} {fp : List Addr} {own : List Nat} {Cf : Addr} {code : Value} {Ag : Around} {h' : Heap} {m0 : Str → Option Value} {go : Obj} {gs : GenState} {tk : Nat} (I : Inv X pins σ H s) (hsc : X.env.scope = sc) (hN : X.N.Nodup) (G : GenN X.N sc scope)
    (hown : ∀ i y, X.N[i]? = some y → scope.names.lookup y = some .local → i ∈ own)
    (hfp : ∀ b ∈ fp, FpOk X pins H b ∧ b < s.heap.objs.size) (hCf : Cf = s.heap.objs.size) (hn : h'.Ns Cf m0) (kp : ∀ b o, s.heap.get? b = some o → h'.get? b = some o) (hsz : h'.objs.size = Cf + 1)
    (hbi : X.env.builtins = builtinsNs) (hA : Ag.handled = none) (hfr : Ag.frames = some (genEnv scope (cloFrom X.env.cells scope.names []) Cf code builtinsNs X.env :: X.stack)) (hg : gs.bare = true) (hgo : ∀ v, go.data ≠ .cell v) (hfd : ∀ h : Heap, (h.push go).get? h.objs.size = some go) :
    Inv (gcx X s H (genEnv scope (cloFrom X.env.cells scope.names []) Cf code builtinsNs X.env) Ag fp [(h'.objs.size, go)]) [] (wipe σ own) H { s with gens := s.gens.push gs, toks := tk, heap := h'.push go } := by
  generalize hcenv : genEnv scope (cloFrom X.env.cells scope.names []) Cf code builtinsNs X.env = cenv at hfr ⊢
  have hL : cenv.locals = Cf := by rw [← hcenv]; rfl
  have hcl : cenv.cells = cloFrom X.env.cells scope.names [] := by rw [← hcenv]; rfl
  have hscp : cenv.scope = scope := by rw [← hcenv]; rfl
  have kp2 : ∀ b o, s.heap.get? b = some o → (h'.push go).get? b = some o := fun b o e => Heap.get?_push_of_some _ (kp b o e)
  have cm : ∀ {y c}, cenv.cells.lookup y = some c → X.env.cells.lookup y = some c ∧ c < s.heap.objs.size := fun {y c} e => by
    rw [hcl] at e
    exact clo_mem I hsc G (PySem.mem_of_lookup e)
  have look : ∀ {y}, scope.names.lookup y = some .free → ∃ c, cenv.cells.lookup y = some c ∧ X.env.cells.lookup y = some c := fun {y} hl => by
    have hy : (y, NameKind.free) ∈ scope.names := PySem.mem_of_lookup hl
    obtain ⟨c', e'⟩ := mem_lookup (cloFrom_has (cells := X.env.cells) (acc := []) hy)
    rw [← hcl] at e'
    exact ⟨c', e', (cm e').1⟩
  have okB : (gcx X s H cenv Ag fp [(h'.objs.size, go)]).Ok := by
    refine ⟨I.ok.mod, by show cenv.scope.kind = _; rw [hscp]; exact G.kind, by show cenv.globals = _; rw [← hcenv]; exact I.ok.glob, by show cenv.builtins = _; rw [← hcenv]; rfl, by show s.heap.objs.size ≤ cenv.locals; rw [hL, hCf]; exact Nat.le_refl _,
      fun y z c e1 e2 => I.ok.inj y z c (cm e1).1 (cm e2).1, fun y hy => ?_, fun y c z e => (by cases z), fun _ => hA, hfr, .inr ⟨rfl, by show cenv.frame = some cenv.locals; rw [← hcenv]; rfl⟩, fun b hb => ⟨?_, fun y c e z => ?_⟩, I.bs, Nat.le_trans I.ok.bsz I.sz, fun b o e hb => ?_, fun b hb z => ?_, I.stack, I.stkFree⟩
    · have key : scope.names.lookup y = some .cell ∨ scope.names.lookup y = some .free := by
        unfold Env.kindOf at hy
        rw [hscp] at hy
        exact hy
      rcases key with k | k
      · exact absurd rfl (G.cell _ (PySem.mem_of_lookup k))
      · obtain ⟨c, h1, _⟩ := look k
        exact ⟨c, h1⟩
    · show b ≠ cenv.locals
      rw [hL, hCf]
      exact Nat.ne_of_lt (hfp b hb).2
    · exact (hfp b hb).1.2.2.2.2.1 y c (cm e).1 z
    · rcases (hfp b hb).1.2.2.2.1 with z | z
      · exact I.ok.noex b o e z
      · exact absurd (Nat.lt_of_lt_of_le (Heap.lt_size e) (Nat.le_trans I.ok.bsz z)) (Nat.lt_irrefl _)
    · rcases List.mem_cons.mp (I.stkSub b z) with z | z
      · exact (hfp b hb).1.2.1 z
      · exact (hfp b hb).1.2.2.1 z
  have nst : ∀ b, s.heap.objs.size ≤ b → b ∉ frs X.stack := fun b hb z => by
    rcases List.mem_cons.mp (I.stkSub b z) with z | z
    · rw [z] at hb
      exact absurd (Nat.lt_of_lt_of_le I.lt hb) (Nat.lt_irrefl _)
    · exact I.nofs hb z
  refine ⟨okB, rfl, I.bare.push hg, Un.kept kp2, ⟨m0, ?_, fun i y av e1 e2 e3 => ?_⟩, fun y c e => ?_, ?_, fun y c e => I.freeC y c (cm e).1, fun p hp => ?_, I.hok.kept kp2, by rw [wipe_length]; exact I.len⟩
  · show Heap.Ns _ cenv.locals _
    rw [hL]
    exact hn.push _
  · obtain ⟨e2, hne⟩ := wipe_some e2
    have e3 : Vis cenv.scope y := e3
    rw [hscp] at e3
    have hfr2 : scope.names.lookup y = some .free := by
      rcases e3 with e3 | e3 | e3
      · exact absurd (hown i y e1 e3) hne
      · exact absurd rfl (G.cell _ (PySem.mem_of_lookup e3))
      · exact e3
    obtain ⟨m, hn, hl⟩ := I.loc
    have hvis : Vis X.env.scope y := by
      rw [hsc]
      exact (G.free _ (PySem.mem_of_lookup hfr2) rfl).elim (fun k => .inr (.inl k)) (fun k => .inr (.inr k))
    obtain ⟨w, r, q⟩ := hl i y av e1 e2 hvis
    refine ⟨w, r, .inr ⟨.inr (by show cenv.scope.names.lookup y = _; rw [hscp]; exact hfr2), ?_⟩⟩
    obtain ⟨c, h1, h2⟩ := look hfr2
    rcases q with ⟨k, _⟩ | ⟨_, c', e', z⟩
    · have k : X.env.scope.names.lookup y = some .local := k
      rw [hsc] at k
      rcases G.free _ (PySem.mem_of_lookup hfr2) rfl with k' | k' <;> rw [show sc.names.lookup y = _ from k'] at k <;> cases k
    · rw [h2] at e'; cases e'
      exact ⟨c, h1, z.keeps kp2⟩
  · obtain ⟨w, z⟩ := I.cell y c (cm e).1
    exact ⟨w, z.keeps kp2⟩
  · show H cenv.locals = none
    rw [hL, hCf]
    exact I.hok.fresh (Nat.le_refl _)
  · have e : p = (h'.objs.size, go) := by simpa using hp
    subst e
    have hle : s.heap.objs.size ≤ h'.objs.size := by rw [hsz, hCf]; exact Nat.le_succ _
    refine ⟨hfd h', I.hok.fresh hle, ?_, nst _ hle, hgo⟩
    show h'.objs.size ≠ cenv.locals
    rw [hL, hsz]
    exact Nat.succ_ne_self _
end
end RT
namespace RT
open PySem PySem.Spec PyProof.Rows L2 GenW

structure Wk (s s' : Shared) : Prop where
  os : s'.os = s.os
  heap : s'.heap = s.heap
  bare : AllBare s'.gens
  size : s.gens.size ≤ s'.gens.size
theorem Wk.trans {a b c : Shared} (h : Wk a b) (g : Wk b c) : Wk a c := ⟨g.os.trans h.os, g.heap.trans h.heap, g.bare, Nat.le_trans h.size g.size⟩
theorem wk_set {s : Shared} {g : Nat} {x : GenState} (h : AllBare s.gens) (hx : x.bare = true) : Wk s (s.setGen g x) := ⟨rfl, rfl, allBare_setGen h hx, by rw [setGen_size]; exact Nat.le_refl _⟩
theorem inv_wk {X : Cx} {pins : List (Addr × Obj)} {σ : L2.St} {H : Hp} {s s' : Shared} (I : Inv X pins σ H s) (w : Wk s s') : Inv X pins σ H s' := by
  refine I.call' (ch := []) w.os ?_ ?_ w.bare fun b hb => absurd hb (by simp)
  · rw [w.heap]
    exact Un.refl
  · rw [w.heap]
    exact I.hok

/-- all that stands around a generator expression while it is drained -/
structure GAt (X : Cx) (C : Cfg) (bx : BxT) (pins : List (Addr × Obj)) (σ : L2.St) where
  sc : Scope
  scope : Scope
  elt : Expr
  tg : Expr
  iter : Expr
  pos : Pos
  stp : Bool
  w : Expr → WD
  asg : D → (RE → Prop) → Prop
  Qd : Bool → Int → Prop
  s4 : Shared
  H1 : Hp
  Vw1 : Hp
  cenv : Env
  a : Addr
  g : Nat
  go : Obj
  it : Addr
  fp : List Addr
  tn : Nat → Heap → Prop
  J : It
  items : List D
  own : List Nat
section
variable {X : Cx} {C : Cfg} {bx : BxT} {pins : List (Addr × Obj)} {σ : L2.St}
abbrev GAt.As (_ : GAt X C bx pins σ) : Around := X.A.in1.in1
abbrev GAt.X' (G : GAt X C bx pins σ) : Cx := gcx X G.s4 G.H1 G.cenv (G.As.deeper G.cenv) G.fp [(G.a, G.go)]
abbrev GAt.e (G : GAt X C bx pins σ) : Expr := .GeneratorExp G.elt [⟨G.tg, G.iter, [], 0⟩] G.scope G.pos
abbrev GAt.rest (G : GAt X C bx pins σ) (i : Nat) (n : Int) : Prop := anyD G.stp G.asg (G.w G.elt) (G.items.drop i) n G.Qd
structure GAt.Ok (G : GAt X C bx pins σ) (ρ0 : RE) : Prop where
  I4 : Inv X pins σ G.H1 G.s4
  fpo : ∀ b ∈ G.fp, FpOk X pins G.H1 b
  T : Turn X.prog X.w X.K G.tg G.J G.fp G.it G.tn
  wk : WalkD X.K bx G.J G.items G.Vw1
  st1 : Stt X.K bx C.row 0 G.H1 G.Vw1 ∨ True
  calm : X.calm = true
  hh : X.A.handled = none
  gos : ∃ nm qn, G.go.cls = .type "generator" ∧ G.go.data = .fields #[.int G.g 0, nm, qn] ∧ G.go.slots = #[]
  co : G.cenv.scope.isCoroutine = false
  dep : X.A.in1.depth < recursionLimit
  pg : PG G.X' G.tg (gCan X.K C bx true G.scope (asgT C true G.scope G.tg))
  pe : PE G.X' G.elt (tCan X.K C bx (G.w G.elt))
  asg : G.asg = fun d k => asgT C true G.scope G.tg d ρ0 k
  rep : Rep X.K bx G.Vw1 (wipe σ G.own) ρ0
  own : OwnIn C G.scope G.own
/-- inside, ahead of the turn i; what is left to be shown -/
def GIv (G : GAt X C bx pins σ) (i : Nat) (Φ : Int → Prop) (s : Shared) : Prop := ∃ (H Vw : Hp) (n : Int), Inv G.X' [] (wipe σ G.own) H s ∧ G.tn i s.heap ∧ (∀ b ∈ G.fp, H b = none) ∧
  Stp bx G.H1 G.Vw1 H Vw ∧ Stt X.K bx C.row n H Vw ∧ G.g < s.gens.size ∧ Φ n
def GFi (G : GAt X C bx pins σ) (Φ : Int → Prop) (s : Shared) : Prop := ∃ (H Vw : Hp) (n : Int), Inv G.X' [] (wipe σ G.own) H s ∧ Stp bx G.H1 G.Vw1 H Vw ∧ Stt X.K bx C.row n H Vw ∧ G.g < s.gens.size ∧ Φ n
def gP (G : GAt X C bx pins σ) : Nat → Shared → Shared → Prop := fun n _ s₁ => n = 1 ∧ GFi G (G.Qd (!G.stp)) s₁
def gR (G : GAt X C bx pins σ) : GenEnd := fun n s₀ r s₁ => r = .ok .next ∧ gP G n s₀ s₁
def gYm (G : GAt X C bx pins σ) (i : Nat) (b : Bool) (n : Int) : Prop := if b = G.stp then G.Qd G.stp n else G.rest (i + 1) n
def gY (G : GAt X C bx pins σ) : Protocol := fun n s₀ v s kap => ∃ (i : Nat) (b : Bool), (n + i = G.items.length ∧ i < G.items.length) ∧ v = .bool b ∧ GIv G (i + 1) (gYm G i b) s ∧ (b ≠ G.stp → ∀ s'', Wk s s'' → kap (.send .none) s'')
theorem giv_wk {G : GAt X C bx pins σ} {i : Nat} {Φ : Int → Prop} {s s' : Shared} (h : GIv G i Φ s) (w : Wk s s') : GIv G i Φ s' := by
  obtain ⟨H, Vw, n, I, t, f, s1, s2, hg, hp⟩ := h
  exact ⟨H, Vw, n, inv_wk I w, by rw [w.heap]; exact t, f, s1, s2, Nat.lt_of_lt_of_le hg w.size, hp⟩
theorem wipe_wipe {σ : L2.St} (us : List Nat) : wipe (wipe σ us) us = wipe σ us := by
  have g : ∀ (us vs : List Nat), (∀ v ∈ us, v ∈ vs) → wipe (wipe σ vs) us = wipe σ vs := by
    intro us
    induction us with
    | nil => intro _ _; rfl
    | cons u us ih =>
      intro vs hv
      show (wipe (wipe σ vs) us).set u none = wipe σ vs
      rw [ih vs fun v h => hv v (List.mem_cons_of_mem _ h)]
      have hu := hv u List.mem_cons_self
      have st : ∀ {vs : List Nat}, u ∈ vs → (wipe σ vs).set u none = wipe σ vs := by
        intro vs
        induction vs with
        | nil => intro h; cases h
        | cons v vs ih2 =>
          intro h
          unfold wipe
          by_cases e : u = v
          · subst e
            rw [List.set_set]
          · rcases List.mem_cons.mp h with h | h
            · exact absurd h e
            · rw [List.set_comm _ _ (Ne.symm e), ih2 h]
      exact st hu
  exact g us us fun _ h => h
theorem g_stat {G : GAt X C bx pins σ} {σ' : L2.St} {H' : Hp} {s' : Shared} (ok : ∀ b ∈ G.fp, b < G.a) (I' : Inv G.X' [] σ' H' s') (hn : ∀ b ∈ G.fp, H' b = none) : ∀ b ∈ G.fp, FpOk G.X' [] H' b := fun b hb =>
  ⟨hn b hb, (I'.ok.exf b hb).1, I'.ok.exfs b hb, .inl hb, fun x c e => (I'.ok.exf b hb).2 x c e, fun p hp => by
    have e : p = (G.a, G.go) := by simpa using hp
    rw [e]
    exact (Nat.ne_of_lt (ok b hb)).symm⟩
theorem seg_loop {G : GAt X C bx pins σ} {ρ0 : RE} (ok : G.Ok ρ0) (hlt : ∀ b ∈ G.fp, b < G.a) : ∀ (k i : Nat) (s₀ s : Shared), G.items.length - i = k → i ≤ G.items.length → GIv G i (G.rest i) s →
    Seg (model X.prog X.w) G.As (gR G) (gY G) (k + 1) s₀ (.compLoop G.e 0 (.ref G.it) .none G.cenv) ((model X.prog X.w).den (.compLoop G.e 0 (.ref G.it) .none G.cenv)) [] s := by
  intro k
  induction k with
  | zero =>
    intro i s₀ s hk hi hG
    have hin : i = G.items.length := by omega
    subst hin
    obtain ⟨H, Vw, n, I, st, nf, s1, s2, hg, hp⟩ := hG
    show Seg _ G.As _ _ _ s₀ _ ((compTurn G.e 0 (.ref G.it) .none G.cenv).onRaise (leaving G.cenv)) [] s
    rw [compTurn_gen, Sem.onRaise_eq_wrap]
    refine seg_bind_wrap (wpAny_standAt ?_)
    refine seg_bind_wrap ?_
    rw [over_comp]
    refine wpAny_gsz (n := G.g + 1) hg (wpAny_mono (ok.T.done G.X' rfl rfl rfl ok.calm _ [] s _ H (fun _ _ => False) I (g_stat hlt I nf) st (ok.wk.stop H Vw s1.view s2.sub)) (fun r s6 ⟨hr, I6⟩ => ?_) fun _ _ z => z.elim)
    intro hg6
    subst hr
    refine seg_end (.ok .next) ⟨rfl, rfl, H, Vw, n, I6, s1, s2, hg6, ?_⟩
    have hp : anyD G.stp G.asg (G.w G.elt) (G.items.drop G.items.length) n G.Qd := hp
    rw [List.drop_length] at hp
    exact hp
  | succ k ih =>
    intro i s₀ s hk hi hG
    have hltI : i < G.items.length := by omega
    obtain ⟨H, Vw, n, I, st, nf, s1, s2, hg, hp⟩ := hG
    show Seg _ G.As _ _ _ s₀ _ ((compTurn G.e 0 (.ref G.it) .none G.cenv).onRaise (leaving G.cenv)) [] s
    rw [compTurn_gen, Sem.onRaise_eq_wrap]
    refine seg_bind_wrap (wpAny_standAt ?_)
    refine seg_bind_wrap ?_
    rw [over_comp]
    refine wpAny_gsz (n := G.g + 1) hg (wpAny_mono (ok.T.item G.X' rfl rfl rfl ok.calm i [] s _ H (fun _ _ => False) I (g_stat hlt I nf) st (ok.wk.go i H Vw s1.view s2.sub hltI)) (fun r s6 ⟨u, hr, h6⟩ => ?_) fun _ _ z => z.elim)
    intro hg6
    subst hr
    refine seg_bind_wrap ?_
    rw [over_comp]
    refine wpAny_gsz (n := G.g + 1) hg6 (wpAny_mono h6 (fun _ s7 ⟨x, H7, I7, r7, y7, st7, n7⟩ => ?_) fun _ _ z => z.elim)
    intro hg7
    obtain ⟨Vw7, d, s37, st37, hd, dx⟩ := ok.wk.yld i x H H7 Vw C.row n s1.view s2 hltI y7
    have s17 := s1.trans s2 s37
    have hdrop : G.items.drop i = d :: G.items.drop (i + 1) := by
      have hg := List.getElem?_eq_some_iff.mp hd
      obtain ⟨h4, h5⟩ := hg
      rw [List.drop_eq_getElem_cons h4, h5]
    have hp : anyD G.stp G.asg (G.w G.elt) (G.items.drop i) n G.Qd := hp
    rw [hdrop, ok.asg] at hp
    have hp2 : asgT C true G.scope G.tg d ρ0 fun ρ1 => G.w G.elt ρ1 n fun d n1 => match d with
      | .bool b => if b = G.stp then G.Qd G.stp n1 else anyD G.stp (fun d k => asgT C true G.scope G.tg d ρ0 k) (G.w G.elt) (G.items.drop (i + 1)) n1 G.Qd
      | _ => False := hp
    have I7' := I7.pinned (g_stat hlt I7 n7) (ok.T.obj _ _ st7)
    refine seg_bind_wrap ?_
    rw [over_comp]
    refine wpAny_gsz (n := G.g + 1) hg7 (wpAny_mono (ok.pg.run _ s7 _ H7 x u (fun σ8 H8 => ∃ ρ8, Rep X.K bx Vw7 σ8 ρ8 ∧ (∀ vs, true = true → OwnIn C G.scope vs → wipe σ8 vs = wipe (wipe σ G.own) vs) ∧
        (G.w G.elt ρ8 n fun d n1 => match d with
          | .bool b => if b = G.stp then G.Qd G.stp n1 else anyD G.stp (fun d k => asgT C true G.scope G.tg d ρ0 k) (G.w G.elt) (G.items.drop (i + 1)) n1 G.Qd
          | _ => False) ∧ H8 = H7) I7' r7 ⟨Vw7, ρ0, d, _, ok.rep.mono s17.view, st37.sub, dx, hp2, fun σ4 ρ4 r4 w4 h4 => ⟨ρ4, r4, w4, h4, rfl⟩⟩) (fun _ s8 ⟨σ8, H8, I8, ρ8, r8, w8, h8, e8⟩ => ?_) fun _ _ z => z.elim)
    subst e8
    intro hg8
    have hw8 : wipe σ8 G.own = wipe σ G.own := (w8 G.own rfl ok.own).trans (wipe_wipe G.own)
    refine seg_bind_wrap (wpAny_tests_nil ?_)
    simp only [if_true]
    have hy : ∀ v, yieldOut G.cenv v = yieldValue v := fun v => by simp only [yieldOut, ok.co, Bool.false_eq_true, if_false]
    simp only [hy]
    rw [Sem.bind_eq_wrap', Sem.bind_eq_wrap', Sem.wrap_wrap, Sem.wrap_wrap]
    refine seg_wrap ?_
    rw [over_comp]
    refine wpAny_gsz (n := G.g + 1) hg8 (wpAny_mono (ok.pe.run _ s8 σ8 H8 (fun v H9 => ∃ (Vw9 : Hp) (b : Bool) (n9 : Int), Stp bx H8 Vw7 H9 Vw9 ∧ Stt X.K bx C.row n9 H9 Vw9 ∧ v = .bl b ∧ gYm G i b n9) I8
      ⟨Vw7, ρ8, n, _, st37, r8, h8, fun v H9 Vw9 d9 n9 s9 st9 b9 dq9 q9 => ?_⟩) (fun y s9 ⟨v9, H9, I9, r9, Vw9, b, n9, s89, st9, e9, q9⟩ => ?_) fun _ _ z => z.elim)
    · cases dq9 with
      | bl b =>
        refine ⟨Vw9, b, n9, s9, st9, rfl, ?_⟩
        unfold gYm GAt.rest
        rw [ok.asg]
        exact q9
      | _ => exact q9.elim
    · intro hg9
      subst e9
      have ey : y = .bool b := r9
      subst ey
      have pin' : ∀ bb ∈ G.fp, ∀ o, s7.heap.get? bb = some o → s9.heap.get? bb = some o ∧ H9 bb = none := fun bb hb o e =>
        let z := I9.pin (bb, o) (List.mem_append_right _ (List.mem_append_right _ (mem_pinsAt hb e)))
        ⟨z.1, z.2.1⟩
      have hl : (wipe σ G.own).length = σ8.length := by rw [← hw8, wipe_length]
      have hG9 : GIv G (i + 1) (gYm G i b) s9 := by
        refine ⟨H9, Vw9, n9, (I9.unpinned (pins := [])).weak hl (fun j v e => ?_), ok.T.keep _ _ _ st7 fun b hb o e => (pin' b hb o e).1, fun b hb => ?_, s17.trans st37 s89, st9, hg9, q9⟩
        · rw [← hw8] at e
          exact (wipe_some e).1
        · obtain ⟨o, e, _⟩ := ok.T.obj _ _ st7 b hb
          exact (pin' b hb o e).2
      refine seg_at (seg_yield rfl rfl rfl ⟨i, b, ⟨by omega, hltI⟩, rfl, hG9, fun hne s'' hw => ?_⟩)
      refine seg_again rfl (ih (i + 1) s'' s'' (by omega) hltI ?_)
      have g2 := giv_wk hG9 hw
      obtain ⟨H, Vw, n, a1, a2, a3, a4, a5, a6, a7⟩ := g2
      refine ⟨H, Vw, n, a1, a2, a3, a4, a5, a6, ?_⟩
      unfold gYm at a7
      rw [if_neg hne] at a7
      exact a7
theorem seg_start {G : GAt X C bx pins σ} {ρ0 : RE} (ok : G.Ok ρ0) (hlt : ∀ b ∈ G.fp, b < G.a) (s₀ s : Shared) (hG : GIv G 0 (G.rest 0) s) :
    Seg (model X.prog X.w) G.As (gR G) (gY G) (G.items.length + 1) s₀ (.compStart G.e 0 (.ref G.it) .none G.cenv) ((model X.prog X.w).den (.compStart G.e 0 (.ref G.it) .none G.cenv)) [] s := by
  have loop := seg_loop ok hlt G.items.length 0 s₀ s (Nat.sub_zero _) (Nat.zero_le _) hG
  obtain ⟨H, Vw, n, I, st, _⟩ := hG
  show Seg _ G.As _ _ _ s₀ _ ((compStart G.e 0 (.ref G.it) .none G.cenv).onRaise (leaving G.cenv)) [] s
  unfold compStart
  rw [Sem.onRaise_eq_wrap]
  show Seg _ G.As _ _ _ s₀ _ ((ask >>= _).wrap _ _ _ _) [] s
  refine seg_bind_wrap (wpAny_askSetting ?_)
  split
  · exact seg_again rfl loop
  · first
      | exact seg_bind_wrap (wpAny_rule (seg_bind_wrap (wpAny_standAt (seg_bind_wrap (ok.T.self _ 0 s _ _ st (seg_again rfl loop))))))
      | (refine seg_bind_wrap (wpAny_rule ?_); show Seg _ G.As _ _ _ s₀ _ ((standAt _ >>= _).wrap _ _ _ _) [] s; exact seg_bind_wrap (wpAny_standAt (seg_bind_wrap (ok.T.self _ 0 s _ _ st (seg_again rfl loop)))))

/-! ### what draws from it -/
def GGo (G : GAt X C bx pins σ) (i : Nat) (s : Shared) : Prop := ∃ gs, s.gens[G.g]? = some gs ∧ ∀ s'', Wk s s'' → gs.Goes (model X.prog X.w) G.As (gR G) (gY G) (G.items.length - i + 1) (.send .none) s''
theorem giv_bare {G : GAt X C bx pins σ} {i : Nat} {Φ : Int → Prop} {s : Shared} (h : GIv G i Φ s) : AllBare s.gens := by
  obtain ⟨H, Vw, n, I, _⟩ := h
  exact I.bare
theorem giv_gen {G : GAt X C bx pins σ} {ρ0 : RE} (ok : G.Ok ρ0) {i : Nat} {Φ : Int → Prop} {s : Shared} (h : GIv G i Φ s) : s.heap.IsGen G.a G.g ∧ s.heap.NoLimit := by
  obtain ⟨H, Vw, n, I, _⟩ := h
  obtain ⟨nm, qn, h1, h2, h3⟩ := ok.gos
  have p := I.pin (G.a, G.go) (List.mem_append_left _ (List.mem_singleton.mpr rfl))
  exact ⟨⟨G.go, nm, qn, p.1, h1, h2, h3⟩, I.nolimit⟩
theorem next_item {G : GAt X C bx pins σ} {ρ0 : RE} (ok : G.Ok ρ0) {i : Nat} {s : Shared} {Q : Option Value → Shared → Prop} {E : Value → Shared → Prop} (hi : i < G.items.length) (h : GIv G i (G.rest i) s) (hgo : GGo G i s)
    (hQ : ∀ b s', GIv G (i + 1) (gYm G i b) s' → (b ≠ G.stp → GGo G (i + 1) s') → Q (some (.bool b)) s') : wpAny (model X.prog X.w) X.A.in1 (pyNext (.ref G.a)) Q E s := by
  obtain ⟨gs, hgs, hg⟩ := hgo
  obtain ⟨g1, g2⟩ := giv_gen ok h
  have w0 : Wk s (s.setGen G.g .running) := wk_set (giv_bare h) rfl
  refine wpAny_pyNext_genexpQ (P := gP G) ok.hh g2 ok.dep g1 hgs (hg _ w0) (fun v s₁ gs' hb hv => ?_) (fun s₁ hp h' hk => ?_)
  · obtain ⟨j, b, hj, rfl, hG, hk⟩ := hv
    have ej : j = i := by
      have := hj.1
      have := hj.2
      omega
    subst ej
    have w1 : Wk s₁ (s₁.setGen G.g gs') := wk_set (giv_bare hG) hb
    have hsz : G.g < s₁.gens.size := by
      obtain ⟨_, _, _, _, _, _, _, _, z, _⟩ := hG
      exact z
    refine hQ b _ (giv_wk hG w1) fun hne => ⟨gs', setGen_at hsz, fun s'' hw => ?_⟩
    have e : G.items.length - (j + 1) + 1 = G.items.length - j := by omega
    rw [e]
    exact hk hne s'' (w1.trans hw)
  · exact absurd hp.1 (by omega)
theorem next_end {G : GAt X C bx pins σ} {ρ0 : RE} (ok : G.Ok ρ0) {s : Shared} {Q : Option Value → Shared → Prop} {E : Value → Shared → Prop} (h : GIv G G.items.length (G.rest G.items.length) s) (hgo : GGo G G.items.length s)
    (hQ : ∀ s', GFi G (G.Qd (!G.stp)) s' → Q none s') : wpAny (model X.prog X.w) X.A.in1 (pyNext (.ref G.a)) Q E s := by
  obtain ⟨gs, hgs, hg⟩ := hgo
  obtain ⟨g1, g2⟩ := giv_gen ok h
  have w0 : Wk s (s.setGen G.g .running) := wk_set (giv_bare h) rfl
  rw [Nat.sub_self] at hg
  refine wpAny_pyNext_genexpQ (P := gP G) ok.hh g2 ok.dep g1 hgs (hg _ w0) (fun v s₁ gs' hb hv => ?_) (fun s₁ hp h' hk => ?_)
  · obtain ⟨j, b, hj, rfl, hG, hk⟩ := hv
    exfalso
    have h1 : 0 + j = G.items.length := hj.1
    have := hj.2
    omega
  · obtain ⟨_, H, Vw, n, I, s1, s2, hsz, hq⟩ := hp
    refine hQ _ ⟨H, Vw, n, ?_, s1, s2, ?_, hq⟩
    · refine I.call' (ch := []) rfl (Un.kept fun b o e => hk b o e) (I.hok.kept hk) (allBare_setGen I.bare rfl) fun b hb => absurd hb (by simp)
    · show G.g < (s₁.setGen G.g .finished).gens.size
      rw [setGen_size]
      exact hsz
end
end RT
namespace RT
open PySem PySem.Spec PyProof.Rows L2 GenW
section
variable {X : Cx} {C : Cfg} {bx : BxT} {pins : List (Addr × Obj)} {σ : L2.St}
theorem giv_fi {G : GAt X C bx pins σ} {i : Nat} {Φ : Int → Prop} {s : Shared} (h : GIv G i Φ s) : GFi G Φ s := by
  obtain ⟨H, Vw, n, I, _, _, s1, s2, hg, hp⟩ := h
  exact ⟨H, Vw, n, I, s1, s2, hg, hp⟩
theorem giv_imp {G : GAt X C bx pins σ} {i : Nat} {Φ Φ' : Int → Prop} {s : Shared} (h : GIv G i Φ s) (k : ∀ n, Φ n → Φ' n) : GIv G i Φ' s := by
  obtain ⟨H, Vw, n, I, a, b, s1, s2, hg, hp⟩ := h
  exact ⟨H, Vw, n, I, a, b, s1, s2, hg, k n hp⟩
theorem loop_any {G : GAt X C bx pins σ} {ρ0 : RE} (ok : G.Ok ρ0) (hstp : G.stp = true) {R : Result → Shared → Prop} (hR : ∀ b s', GFi G (G.Qd b) s' → R (.ok (.ret (.bool b))) s') : ∀ (k i : Nat) (s : Shared), G.items.length - i = k → i ≤ G.items.length →
    GIv G i (G.rest i) s → GGo G i s → codeAny (model X.prog X.w) X.A (.builtin "any.loop" ⟨[.ref G.a], []⟩) R s := by
  intro k
  induction k with
  | zero =>
    intro i s hk hi h hgo
    have hin : i = G.items.length := by omega
    subst hin
    refine codeAny_builtin F.entry_any_loop ?_
    rw [Around.under_plainId F.plain_any_loop _]
    show wpAny _ X.A.in1 (pyNext (.ref G.a) >>= _) _ _ s
    refine wpAny_bind (next_end ok h hgo fun s' hf => ?_)
    refine wpAny_bind (wpAny_rule (wpAny_pure ?_))
    rw [hstp] at hf
    exact hR false s' hf
  | succ k ih =>
    intro i s hk hi h hgo
    have hlt : i < G.items.length := by omega
    refine codeAny_builtin F.entry_any_loop ?_
    rw [Around.under_plainId F.plain_any_loop _]
    show wpAny _ X.A.in1 (pyNext (.ref G.a) >>= _) _ _ s
    refine wpAny_bind (next_item ok hlt h hgo fun b s' hG hg => ?_)
    refine wpAny_bind (wpAny_holding (wpAny_truthy_bool ?_))
    refine wpAny_bind (wpAny_letGo ?_)
    cases b with
    | false =>
      simp only [Bool.false_eq_true, if_false]
      refine wpAny_pure ⟨plainId_quiet F.plain_any_loop _, ih (i + 1) _ (by omega) hlt (giv_imp hG fun n z => ?_) (hg (by rw [hstp]; decide))⟩
      unfold gYm at z
      rw [hstp, if_neg (by decide)] at z
      exact z
    | true =>
      simp only [if_true]
      refine wpAny_bind (wpAny_rule (wpAny_pure ?_))
      refine hR true s' (giv_fi (giv_imp hG fun n z => ?_))
      unfold gYm at z
      rw [hstp, if_pos rfl] at z
      exact z
theorem loop_all {G : GAt X C bx pins σ} {ρ0 : RE} (ok : G.Ok ρ0) (hstp : G.stp = false) {R : Result → Shared → Prop} (hR : ∀ b s', GFi G (G.Qd b) s' → R (.ok (.ret (.bool b))) s') : ∀ (k i : Nat) (s : Shared), G.items.length - i = k → i ≤ G.items.length →
    GIv G i (G.rest i) s → GGo G i s → codeAny (model X.prog X.w) X.A (.builtin "all.loop" ⟨[.ref G.a], []⟩) R s := by
  intro k
  induction k with
  | zero =>
    intro i s hk hi h hgo
    have hin : i = G.items.length := by omega
    subst hin
    refine codeAny_builtin F.entry_all_loop ?_
    rw [Around.under_plainId F.plain_all_loop _]
    show wpAny _ X.A.in1 (pyNext (.ref G.a) >>= _) _ _ s
    refine wpAny_bind (next_end ok h hgo fun s' hf => ?_)
    refine wpAny_bind (wpAny_rule (wpAny_pure ?_))
    rw [hstp] at hf
    exact hR true s' hf
  | succ k ih =>
    intro i s hk hi h hgo
    have hlt : i < G.items.length := by omega
    refine codeAny_builtin F.entry_all_loop ?_
    rw [Around.under_plainId F.plain_all_loop _]
    show wpAny _ X.A.in1 (pyNext (.ref G.a) >>= _) _ _ s
    refine wpAny_bind (next_item ok hlt h hgo fun b s' hG hg => ?_)
    refine wpAny_bind (wpAny_holding (wpAny_truthy_bool ?_))
    refine wpAny_bind (wpAny_letGo ?_)
    cases b with
    | true =>
      simp only [if_true]
      refine wpAny_pure ⟨plainId_quiet F.plain_all_loop _, ih (i + 1) _ (by omega) hlt (giv_imp hG fun n z => ?_) (hg (by rw [hstp]; decide))⟩
      unfold gYm at z
      rw [hstp, if_neg (by decide)] at z
      exact z
    | false =>
      simp only [Bool.false_eq_true, if_false]
      refine wpAny_bind (wpAny_rule (wpAny_pure ?_))
      refine hR false s' (giv_fi (giv_imp hG fun n z => ?_))
      unfold gYm at z
      rw [hstp, if_pos rfl] at z
      exact z
/-- the names of any, all -/
def anyId : Bool → String
  | true => "any"
  | false => "all"
theorem call_gen {G : GAt X C bx pins σ} {ρ0 : RE} (ok : G.Ok ρ0) {s : Shared} {Q : Value → Shared → Prop} {E : Value → Shared → Prop} (h : GIv G 0 (G.rest 0) s) (hgo : GGo G 0 s) (hQ : ∀ b s', GFi G (G.Qd b) s' → Q (.bool b) s') :
    wpAny (model X.prog X.w) X.A (call (.builtin (anyId G.stp)) [.ref G.a]) Q E s := by
  cases hstp : G.stp with
  | true =>
    refine call_function_tree F.kind_any F.plain_any F.entry_any (F.args_any1 _) ?_
    unfold Builtin.«any»
    refine wpAny_bind (m := oneArg "any" _) (wpAny_pure ?_)
    refine wpAny_bind (wpAny_pyIter_gen (giv_gen ok h).1 ?_)
    exact wpAny_pure ⟨plainId_quiet F.plain_any_loop _, loop_any ok hstp (fun b s' hf => hQ b s' hf) G.items.length 0 s (Nat.sub_zero _) (Nat.zero_le _) h hgo⟩
  | false =>
    refine call_function_tree F.kind_all F.plain_all F.entry_all (F.args_all1 _) ?_
    unfold Builtin.«all»
    refine wpAny_bind (m := oneArg "all" _) (wpAny_pure ?_)
    refine wpAny_bind (wpAny_pyIter_gen (giv_gen ok h).1 ?_)
    exact wpAny_pure ⟨plainId_quiet F.plain_all_loop _, loop_all ok hstp (fun b s' hf => hQ b s' hf) G.items.length 0 s (Nat.sub_zero _) (Nat.zero_le _) h hgo⟩
end
end RT
namespace RT
open PySem PySem.Spec PyProof.Rows L2 GenW
section
variable {X : Cx} {C : Cfg} {blk : Bool} {sc : Scope} {bx : BxT}
theorem genFold_no {iter : Expr} {env : Env} (h : noFold iter = true) : ∀ x, genFold iter env x = pure x := by
  intro x
  cases iter <;> first | rfl | cases h
theorem findIx_at : ∀ {N : List Str} {x : Str} {i : Nat}, N.Nodup → N[i]? = some x → findIx N x = some i
  | [], _, _, _, h => by simp at h
  | y :: r, x, 0, _, h => by
    have e : y = x := Option.some.inj h
    unfold findIx
    rw [e, if_pos (beq_self_eq_true x)]
  | y :: r, x, i + 1, nd, h => by
    have h2 : r[i]? = some x := by simpa using h
    have hne : ¬ (y == x) = true := fun e => by
      have e2 := eq_of_beq e
      rw [e2] at nd
      exact (List.nodup_cons.mp nd).1 (List.mem_of_getElem? h2)
    unfold findIx
    rw [if_neg hne, findIx_at (List.nodup_cons.mp nd).2 h2]
    rfl
/-- a table grows -/
theorem Stt.tabs {K : PySem.W.Frag} {row : List Int} {n : Int} {H Vw : Hp} {P : Addr} {ps qs : Array Value} (s : Stt K bx row n H Vw) (hP : H P = some (.tbl ps)) (hq : TriplesOk qs.toList) : Stt K bx row n (upd H P (.tbl qs)) Vw ∧ Stp bx H Vw (upd H P (.tbl qs)) Vw := by
  refine ⟨⟨fun a u e => ?_, fun b e => ?_, fun P' hP' => ?_, s.vis⟩, ⟨Sub.refl _, fun a u e _ ht => ?_, fun a ps' e => ?_, fun _ _ e => .inl e⟩⟩
  · have ha : a ≠ P := fun z => by
      have := s.sub a u e
      rw [z, hP] at this
      rw [← Option.some.inj this] at e
      exact s.vis a _ e
    rw [upd_ne ha]
    exact s.sub a u e
  · obtain ⟨q1, q2, q3⟩ := s.box b e
    exact ⟨by rw [upd_ne (ne_of q1 hP fun z => by cases z)]; exact q1, q2, q3⟩
  · by_cases ha : P' = P
    · rw [ha, upd_same]
      exact ⟨qs, rfl, hq⟩
    · rw [upd_ne ha]
      exact s.tab P' hP'
  · have ha : a ≠ P := fun z => by
      rw [z, hP] at e
      exact ht ps (Option.some.inj e).symm
    rw [upd_ne ha]
    exact e
  · by_cases ha : a = P
    · rw [ha, upd_same]
      exact ⟨qs, rfl⟩
    · rw [upd_ne ha]
      exact ⟨ps', e⟩
theorem asgNames_ng : ∀ (es : List Expr) (ds : List D) (ρ : RE) (k : RE → Prop), asgNames C.ng blk sc es ds ρ k = asgNames C blk sc es ds ρ k
  | [], [], _, _ => rfl
  | [], _ :: _, _, _ => rfl
  | _ :: _, [], _, _ => rfl
  | e :: es, d :: ds, ρ, k => by
    have e1 : (fun ρ1 => asgNames C.ng blk sc es ds ρ1 k) = fun ρ1 => asgNames C blk sc es ds ρ1 k := funext fun ρ1 => asgNames_ng es ds ρ1 k
    cases e with
    | Name x p =>
      show asgName C.ng blk sc x d ρ (fun ρ1 => asgNames C.ng blk sc es ds ρ1 k) = asgName C blk sc x d ρ (fun ρ1 => asgNames C blk sc es ds ρ1 k)
      rw [e1]
      rfl
    | _ => rfl
theorem asg_ng {tg : Expr} : asgT C.ng blk sc tg = asgT C blk sc tg := by
  funext d ρ k
  cases tg with
  | Tuple es kk p =>
    cases d with
    | tuple ds => exact asgNames_ng es ds ρ k
    | _ => rfl
  | _ => rfl
theorem gcan_ng {K : PySem.W.Frag} {tg : Expr} : gCan K C.ng bx true sc (asgT C.ng true sc tg) = gCan K C bx true sc (asgT C true sc tg) := by
  rw [asg_ng]
  rfl
theorem tcan_ng {K : PySem.W.Frag} {w : WD} : tCan K C.ng bx w = tCan K C bx w := rfl
theorem anyBoot (b : Bool) : bootBuiltins (Str.ofString (anyId b)) = some (.builtin (anyId b)) := by cases b <;> decide +kernel
theorem de_gen {w w' : Scope → Expr → WD} {stp : Bool} {scope : Scope} {elt : Expr} {gs : List Comprehension} {p gpos pos : Pos} (cx : Ctx X C blk sc) (hb : bx.tabs = C.tabs) (hg : Gl X (Str.ofString (anyId stp)))
    (hE : ∀ e, DE X C bx e (w sc e)) (hE' : ∀ (X' : Cx), X'.K = X.K → Ctx X' C.ng true scope → ∀ e, DE X' C.ng bx e (w' scope e)) :
    DE X C bx (.Call (.Name (Str.ofString (anyId stp)) p) [.GeneratorExp elt gs scope gpos] [] pos) (wGen C w w' stp sc scope elt gs) := by
  unfold wGen
  split
  · rename_i tg iter ifs isa
    split
    · rename_i hcond
      simp only [Bool.and_eq_true, decide_eq_true_eq] at hcond
      obtain ⟨hgen, hisa, hifs, hfold, hgn⟩ := hcond
      subst hisa
      have hifs : ifs = [] := List.isEmpty_iff.mp hifs
      subst hifs
      have GN := genN_of hgn
      obtain ⟨c, P, hcode, TB, hPm⟩ := cx.gen hgen
      obtain ⟨wi, hpi, ki⟩ := di_iter (tg := tg) (e := iter) cx hE
      have room : Room (C.lev + 12) X.A := by
        have := cx.room
        rw [hgen] at this
        exact this
      refine ⟨tCan X.K C bx _, ⟨fun pins s σ H Q I ⟨Vw, ρ, n, Qd, hst, hrep, hw, hcont⟩ => ?_⟩, fun σ H Vw ρ n Qd Q h1 h2 h3 h4 => ⟨Vw, ρ, n, Qd, h1, h2, h3, h4⟩⟩
      have he : starEach [.GeneratorExp elt [⟨tg, iter, [], 0⟩] scope gpos] X.env = (false, eval (.GeneratorExp elt [⟨tg, iter, [], 0⟩] scope gpos) X.env) :: starEach [] X.env := rfl
      have hm : X.mg (Str.ofString (anyId stp)) = none := by cases stp <;> exact cx.blt _ (by decide)
      refine wpAny_Call_Name_kw (ld_blt I hg hm (anyBoot stp) ?_ (by cases stp <;> decide) (by cases stp <;> decide))
      refine PyProof.Rows.callWith_builtin1 ?_ he (by rfl)
      rw [he]
      show wpAny _ _ (spliced ((false, eval (.GeneratorExp elt [⟨tg, iter, [], 0⟩] scope gpos) X.env) :: backTo pos (starEach [] X.env))) _ _ s
      refine Calls.spliced_cons ?_
      have hsc := cx.sc
      have hfree : ∀ y ∈ scope.names, y.2 = .free → ∃ c, X.env.cells.lookup y.1 = some c := fun y hy e => by
        rcases GN.free y hy e with k | k
        · exact I.ok.has _ (.inl (by unfold Env.kindOf; rw [hsc]; exact k))
        · exact I.ok.has _ (.inr (by unfold Env.kindOf; rw [hsc]; exact k))
      refine wpAny_GeneratorExp_make GN.co (closure_ok hfree) GN.cell GN.dot GN.kind (by have := room.dp; omega) ?_ (genFold_no hfold)
      refine thn (hpi.run pins s σ H (fun J H1 => ∃ (Vw1 : Hp) (items : List D) (n1 : Int), Stp bx H Vw H1 Vw1 ∧ Stt X.K bx C.row n1 H1 Vw1 ∧ WalkD X.K bx J items Vw1 ∧
          anyD stp (fun d k => asgT C true scope tg d (wipeR ρ ((ownOf C.N scope).map (·.2))) k) (w' scope elt) items n1 fun b n2 => Qd (.bool b) n2) I
        (ki σ H Vw ρ n _ _ hst hrep hw fun J H1 Vw1 items n1 s1 st1 wk h1 => ⟨Vw1, items, n1, s1, st1, wk, h1⟩)) fun xv s1 hx => thn hx fun itv s2 h2 => ?_
      obtain ⟨it, fp, tn, J, H2, e, I2, T, tn0, f2, Vw1, items, n1, s12, st2, wk, hany⟩ := h2
      subst e
      refine ⟨I2.nolimit, ?_⟩
      obtain ⟨ps, hP, ht⟩ := st2.tab P (by rw [hb]; exact hPm)
      have hPs : s2.heap.get? P = some { cls := .none, data := .fields ps } := I2.hok P _ hP
      have hPlt : P < s2.heap.objs.size := Heap.lt_size hPs
      have cd : PySem.W.CodeHd s2.heap c P := TB.code.keeps fun b u e => I2.bk b u e
      have lim2 : s2.heap.NoLimit := I2.nolimit
      have cont : ∀ (code : Value) (h3 : Heap) (tk : Nat) (ps' : Array Value), Heap.ExtBut P s2.heap h3 → s2.heap.objs.size ≤ h3.objs.size → h3.get? P = some { cls := .none, data := .fields ps' } → (∃ more, ps' = ps ++ more) → TriplesOk ps'.toList →
          wpAny (model X.prog X.w) X.A (builtinsFor X.env.globals X.env.builtins) (fun bi s₄ =>
            ∀ h', h'.Ns s₄.heap.objs.size (fun y => if y = ".0" then some (.ref it) else none) → Heap.SameBut s₄.heap.objs.size (s₄.heap.push { cls := .type "frame", data := .dict #[] }) h' →
              wpAny (model X.prog X.w) X.A (spliced (backTo pos (starEach [] X.env))) (fun us s' => wpAny (model X.prog X.w) X.A (call (.builtin (anyId stp)) (.ref h'.objs.size :: us)) (EP X pins σ Q) X.xe s') X.xe { s₄ with
                gens := s₄.gens.push (.fresh (.compStart (.GeneratorExp elt [⟨tg, iter, [], 0⟩] scope gpos) 0 (.ref it) .none (genEnv scope (cloFrom X.env.cells scope.names []) s₄.heap.objs.size code bi X.env))),
                toks := s₄.toks + 1 + 1 + 1,
                heap := h'.push { cls := .type "generator", data := .fields #[.int s₄.gens.size 0, .str "<genexpr>" (s₄.toks + 1), .str (X.env.qual ++ "<genexpr>") (s₄.toks + 1 + 1)] } }) X.xe { s2 with heap := h3, toks := tk } := by
        intro code h3 tk ps' hx hsz hP3 hmore ht3
        obtain ⟨bm, ob, e1, e2, e3, e4, e5, e6, e7, e8⟩ := TB.bm
        have keep3 : ∀ b u, b ≠ P → s2.heap.get? b = some u → h3.get? b = some u := fun b u hb e => hx b u hb e
        refine wpAny_builtinsFor (m := X.mg) (by rw [I2.ok.glob]; exact (I2.mod.glob.keeps I2.bk).extBut hx TB.gP) e1 e2 (keep3 _ _ e4 (I2.bk _ _ e5)) e6 e7 e8 ?_
        intro h' hn' hs'
        obtain ⟨more, em⟩ := hmore
        have I3 := GxR.inv_tab (more := more) (h' := h3) (g' := s2.gens) (d' := s2.drawn) (t' := tk) I2 hP (fun b u hb e => keep3 b u hb e) (by rw [← em]; exact hP3) I2.bare
        rw [← em] at I3
        generalize hs4 : ({ s2 with heap := h3, toks := tk } : Shared) = s4 at I3 hn' hs' ⊢
        have h4h : s4.heap = h3 := by rw [← hs4]
        have h4g : s4.gens = s2.gens := by rw [← hs4]
        have hsz' : h'.objs.size = s4.heap.objs.size + 1 := by rw [hs'.1, Heap.size_push]
        have keep' : ∀ b o, s4.heap.get? b = some o → h'.get? b = some o := fun b o e => hs'.extBut b o (Nat.ne_of_lt (Heap.lt_size e)) (Heap.get?_push_of_some _ e)
        obtain ⟨st3, sp3⟩ := st2.tabs hP ht3
        have s13 := s12.trans st2 sp3
        have fpP : ∀ b ∈ fp, b ≠ P := fun b hb z => by
          have := (f2 b hb).1
          rw [z, hP] at this
          cases this
        have flt : ∀ b ∈ fp, b < s2.heap.objs.size := fun b hb => by
          obtain ⟨o, e, _⟩ := T.obj _ _ tn0 b hb
          exact Heap.lt_size e
        have flt4 : ∀ b ∈ fp, b < s4.heap.objs.size := fun b hb => by
          rw [h4h]
          exact Nat.lt_of_lt_of_le (flt b hb) hsz
        have f3 : ∀ b ∈ fp, FpOk X pins (upd H2 P (.tbl ps')) b := fun b hb => ⟨by rw [upd_ne (fpP b hb)]; exact (f2 b hb).1, (f2 b hb).2⟩
        have hown : ∀ i y, X.N[i]? = some y → scope.names.lookup y = some .local → i ∈ (ownOf C.N scope).map (·.2) := fun i y h1 h2 => by
          have hm : (y, NameKind.local) ∈ scope.names := PySem.mem_of_lookup h2
          have hfi : findIx C.N y = some i := by
            rw [← cx.N]
            exact findIx_at cx.nd h1
          refine List.mem_map.mpr ⟨(y, i), List.mem_filterMap.mpr ⟨_, hm, ?_⟩, rfl⟩
          show (findIx C.N y).map (fun i => (y, i)) = some (y, i)
          rw [hfi]
          rfl
        have hroomG : Room (C.lev + 9) (X.A.in1.in1.deeper (genEnv scope (cloFrom X.env.cells scope.names []) s4.heap.objs.size code builtinsNs X.env)) := (((room.mono (show C.lev + 9 + 1 + 1 + 1 ≤ C.lev + 12 by omega)).in1).in1).deeper _
        generalize hcenv : genEnv scope (cloFrom X.env.cells scope.names []) s4.heap.objs.size code builtinsNs X.env = cenv at hroomG ⊢
        generalize hgo : ({ cls := .type "generator", data := .fields #[.int s4.gens.size 0, .str "<genexpr>" (s4.toks + 1), .str (X.env.qual ++ "<genexpr>") (s4.toks + 1 + 1)] } : Obj) = go
        let G : GAt X C bx pins σ := { sc := sc, scope := scope, elt := elt, tg := tg, iter := iter, pos := gpos, stp := stp, w := w' scope, asg := (fun d k => asgT C true scope tg d (wipeR ρ ((ownOf C.N scope).map (·.2))) k), Qd := (fun b n2 => Qd (.bool b) n2), s4 := s4, H1 := upd H2 P (.tbl ps'), Vw1 := Vw1, cenv := cenv, a := h'.objs.size, g := s4.gens.size, go := go, it := it, fp := fp, tn := tn, J := J, items := items, own := (ownOf C.N scope).map (·.2) }
        have cscope : cenv.scope = scope := by rw [← hcenv]; rfl
        have cxG : Ctx G.X' C.ng true scope := by
          refine ⟨cx.N, cx.nd, cscope, cx.calm, hroomG.mono (by rw [show (if C.ng.gens = true then 12 else 8) = 8 from rfl, show C.ng.lev = C.lev from rfl]; omega), cx.call, cx.konst, cx.blt, (fun h => by cases h), (fun h => by cases h), (fun h => by cases h), rfl⟩
        have fdG : ∀ h : Heap, (h.push go).get? h.objs.size = some go := fun h => by
          rw [← hgo]
          exact Heap.get?_push_size _ rfl
        have hg4 : (GenState.fresh (.compStart (.GeneratorExp elt [⟨tg, iter, [], 0⟩] scope gpos) 0 (.ref it) .none cenv)).bare = true := rfl
        have I5 : Inv G.X' [] (wipe σ G.own) G.H1 { s4 with gens := s4.gens.push (.fresh (.compStart (.GeneratorExp elt [⟨tg, iter, [], 0⟩] scope gpos) 0 (.ref it) .none cenv)), toks := s4.toks + 1 + 1 + 1, heap := h'.push go } := by
          have z := gen_start (Ag := X.A.in1.in1.deeper cenv) (own := (ownOf C.N scope).map (·.2)) (tk := s4.toks + 1 + 1 + 1) (code := code) I3 hsc cx.nd (by rw [cx.N]; exact ⟨GN.kind, GN.co, GN.dot, GN.uniq, GN.cell, GN.free⟩) hown (fun b hb => ⟨f3 b hb, flt4 b hb⟩) rfl hn' keep' hsz' I.ok.blt
            (by exact I.ok.hd cx.calm) (by rw [hcenv]; exact Around.frames_deeper (show X.A.in1.in1.frames = some X.stack from I.ok.frames)) hg4 (fun v z => by rw [← hgo] at z; cases z) fdG
          rw [hcenv] at z
          exact z
        have okG : G.Ok (wipeR ρ ((ownOf C.N scope).map (·.2))) := by
          refine ⟨I3, f3, T, wk, .inr trivial, cx.calm, I.ok.hd cx.calm, ⟨_, _, (show go.cls = _ by rw [← hgo]), (show go.data = _ by rw [← hgo]), (show go.slots = _ by rw [← hgo])⟩, by rw [cscope]; exact GN.co, by have := room.dp; show X.A.depth < _; omega, (show PG G.X' tg (gCan X.K C bx true scope (asgT C true scope tg)) by rw [← gcan_ng]; exact (dg_tg (bx := bx) cxG).can), (show PE G.X' elt (tCan X.K C bx (w' scope elt)) by rw [← tcan_ng]; exact (hE' G.X' rfl cxG elt).can), rfl, (hrep.mono s12.view).wipe _, ?_⟩
          intro x i h1 h2
          exact hown i x (by rw [cx.N]; exact findIx_ok h1) h2
        have tn5 : tn 0 (h'.push go) := T.keep _ _ _ tn0 fun b hb o e => Heap.get?_push_of_some _ (keep' b o (by rw [h4h]; exact keep3 b o (fpP b hb) e))
        have hG0 : GIv G 0 (G.rest 0) { s4 with gens := s4.gens.push (.fresh (.compStart (.GeneratorExp elt [⟨tg, iter, [], 0⟩] scope gpos) 0 (.ref it) .none cenv)), toks := s4.toks + 1 + 1 + 1, heap := h'.push go } :=
          ⟨_, Vw1, n1, I5, tn5, fun b hb => (f3 b hb).1, .refl, st3, by show s4.gens.size < (s4.gens.push _).size; rw [Array.size_push]; exact Nat.lt_succ_self _, hany⟩
        refine Calls.spliced_nil ?_
        refine call_gen (G := G) okG hG0 ⟨_, Array.getElem?_push_size .., fun s'' hw => ⟨rfl, ?_⟩⟩ fun b s' hf => ?_
        · exact seg_start okG (fun b hb => by show b < h'.objs.size; rw [hsz']; exact Nat.lt_succ_of_lt (flt4 b hb)) s'' s'' (giv_wk hG0 hw)
        · obtain ⟨Hf, Vf, nf, If, sf, stf, _, hq⟩ := hf
          have IX : Inv X pins σ Hf s' := I3.call' (ch := fp) If.os If.base If.hok If.bare fun b hb => ⟨(f3 b hb).2.2.2.1, (f3 b hb).2.1, (f3 b hb).2.2.2.2.1, (f3 b hb).2.2.2.2.2⟩
          exact ⟨.bl b, Hf, IX, rfl, hcont _ _ _ _ _ (s13.trans st3 sf) stf (big_of IX) (.bl b) hq⟩
      cases hf : codeAmong gpos ps.toList with
      | none =>
        refine wpAny_genexprCodeX hcode (cd.code hPs ht) (cd.tab hPs) hf fun c' h' tk hx hge hlt hco' _ htab' _ => ?_
        obtain ⟨o1, vs, f1, tf, fl, tg', inF, tx, tt, op, _, _, _, _, _, _, _, _, _, htr, _⟩ := hco'
        exact cont _ h' tk _ hx (Nat.le_trans hge (Nat.le_of_lt hlt)) htab'.2 ⟨_, rfl⟩ htr
      | some cv =>
        refine wpAny_genexprCode_hit hcode (cd.code hPs ht) hf ?_
        exact cont cv s2.heap s2.toks ps (Heap.ExtBut.refl _ _) (Nat.le_refl _) hPs ⟨#[], by simp⟩ ht
    · exact de_F
  · exact de_F
end
end RT
namespace RT
open PySem PySem.Spec PyProof.Rows L2
section
variable {X : Cx} {C : Cfg} {blk : Bool} {sc : Scope} {bx : BxT}
/-! ### every expression -/
theorem no_star {f : Nat} : ∀ e ρ n Q, noStar e = false → ¬ wpE f C sc e ρ n Q := by
  intro e ρ n Q h
  cases e with
  | Starred v p => cases f <;> exact fun z => z
  | _ => cases h
/-- a list comprehension's rule -/
theorem comp_ok {w w' : Scope → Expr → WD} {scope : Scope} {elt tg iter : Expr} {ifs : List Expr} (cx : Ctx X C blk sc) (hblk : blkC C.N sc scope (ownOf C.N scope) = true) (hset : ∀ es k p, iter ≠ .Set es k p)
    (hE : ∀ e, DE X C bx e (w sc e)) (hE' : ∀ (X' : Cx), X'.K = X.K → Ctx X' C.ng true (relS scope sc) → ∀ e, DE X' C.ng bx e (w' (relS scope sc) e)) :
    ∃ te, (∀ pos, PE X (.ListComp elt [⟨tg, iter, ifs, 0⟩] scope pos) te) ∧
      (∀ (i : Nat) (y : Str) (py pos spos : Pos), X.N[i]? = some y → X.env.scope.names.lookup y = some .local → swapsWith (.ListComp elt [⟨tg, iter, ifs, 0⟩] scope pos) (some (.Name y py)) spos.line X.env = pure true →
        PS X (.Assign [.Name y py] (.ListComp elt [⟨tg, iter, ifs, 0⟩] scope pos) spos) (tAsg te (gName i))) ∧
      DFw X.K C bx te fun ρ n Q => wIter C sc (w sc) tg iter ρ n fun items n1 =>
        compD (fun d k => asgT C true (relS scope sc) tg d (wipeR ρ ((ownOf C.N scope).map (·.2))) k) (wTests (w' (relS scope sc)) ifs) (w' (relS scope sc) elt) items [] n1 Q := by
  obtain ⟨wi, hpi, ki⟩ := di_iter (tg := tg) (e := iter) cx hE
  have ok : BlkOk X.N X.env.scope scope (ownOf C.N scope) := by
    rw [cx.N, cx.sc]
    exact blkOk_by hblk
  have hg : ∀ (s : Shared) (H : Hp) (Ca : Addr) (cl : List (Str × Addr)) (fp : List Addr), PG (X.blk s H scope (compEnvC scope cl Ca X.env) fp) tg (gCan X.K C bx true (relS scope sc) (asgT C true (relS scope sc) tg)) := fun s H Ca cl fp => by
    have z := (dg_tg (bx := bx) (tg := tg) (ctx_blk (s := s) (H := H) (Ca := Ca) (cl := cl) (fp := fp) (scope := scope) cx)).can
    rw [gcan_ng] at z
    exact z
  have ht : ∀ (s : Shared) (H : Hp) (Ca : Addr) (cl : List (Str × Addr)) (fp : List Addr), PTs (X.blk s H scope (compEnvC scope cl Ca X.env) fp) ifs (ttCan X.K C bx (wTests (w' (relS scope sc)) ifs)) := fun s H Ca cl fp => by
    have cx' := ctx_blk (s := s) (H := H) (Ca := Ca) (cl := cl) (fp := fp) (scope := scope) cx
    have z := dts_can (dts (C := C.ng) (bx := bx) (ifs := ifs) cx' (hE' (X.blk s H scope (compEnvC scope cl Ca X.env) fp) rfl cx'))
    exact z
  have he : ∀ (s : Shared) (H : Hp) (Ca : Addr) (cl : List (Str × Addr)) (fp : List Addr), PE (X.blk s H scope (compEnvC scope cl Ca X.env) fp) elt (tCan X.K C bx (w' (relS scope sc) elt)) := fun s H Ca cl fp => by
    have cx' := ctx_blk (s := s) (H := H) (Ca := Ca) (cl := cl) (fp := fp) (scope := scope) cx
    have z := (hE' (X.blk s H scope (compEnvC scope cl Ca X.env) fp) rfl cx' elt).can
    exact z
  refine ⟨tInfo X.K (cTE X C bx sc scope w' wi elt tg ifs), fun pos => pe_info (pe_lc cx.calm cx.nd hpi ok hg ht he (set_no hset)), fun i y py pos spos h1 h2 h3 => ?_, comp_w (w := w') (iter := iter) ki⟩
  have z := ps_info (ps_setLc (pos := pos) (spos := spos) (py := py) cx.calm cx.nd h1 h2 h3 hpi ok hg ht he (set_no hset))
  exact ⟨fun pins s σ H D I h => z.run pins s σ H D I h⟩
theorem set_false {iter tg : Expr} {w : Expr → WD} {ρ : RE} {n : Int} {Q : List D → Int → Prop} (h : wIter C sc w tg iter ρ n Q) : ∀ es k p, iter ≠ .Set es k p := by
  intro es k p e
  subst e
  exact h
theorem df_comp {w w' : Scope → Expr → WD} {scope : Scope} {elt : Expr} {gs : List Comprehension} {pos : Pos} (cx : Ctx X C blk sc)
    (hE : ∀ e, DE X C bx e (w sc e)) (hE' : ∀ (X' : Cx) (scope : Scope), X'.K = X.K → Ctx X' C.ng true scope → ∀ e, DE X' C.ng bx e (w' scope e)) : DF X C bx (.ListComp elt gs scope pos) (wComp C w w' sc scope elt gs) := by
  unfold wComp
  split
  · rename_i tg iter ifs isa
    split
    · rename_i hc
      simp only [Bool.and_eq_true, decide_eq_true_eq] at hc
      obtain ⟨hisa, hblk⟩ := hc
      subst hisa
      by_cases hset : ∀ es k p, iter ≠ .Set es k p
      · obtain ⟨te, h1, _, h2⟩ := comp_ok (elt := elt) (tg := tg) (ifs := ifs) cx hblk hset hE fun X' hK cx' => hE' X' _ hK cx'
        exact ⟨te, h1 pos, h2⟩
      · exact ⟨tF, pe_F, fun σ H Vw ρ n Qd Q s r hw q => absurd (set_false hw) hset⟩
    · exact df_F
  · exact df_F
theorem sE (hb : bx.tabs = C.tabs) : ∀ (f : Nat) (C : Cfg) (X : Cx) (blk : Bool) (sc : Scope), bx.tabs = C.tabs → Ctx X C blk sc → ∀ e, DE X C bx e (wpE f C sc e) := by
  intro f
  induction f with
  | zero => intro C X blk sc _ _ e; exact de_F
  | succ f ih =>
    intro C X blk sc hb cx e
    have hE := ih C X blk sc hb cx
    have hE' : ∀ (X' : Cx) (scope : Scope), X'.K = X.K → Ctx X' C.ng true scope → ∀ e, DE X' C.ng bx e (wpE f C.ng scope e) := fun X' scope _ cx' => ih C.ng X' true scope hb cx'
    cases e with
    | Constant c k p => exact de_const
    | Name x p => exact de_name cx
    | Tuple es k p => exact de_tuple (da_args no_star hE es)
    | List es p => exact (df_list (da_args no_star hE es)).de
    | BinOp a op b p => exact de_bin (hE a) (hE b)
    | UnaryOp op a p =>
      cases op with
      | USub => exact de_neg (hE a)
      | _ => exact de_F
    | Compare a ops cs p => exact de_cmp cx hE
    | BoolOp op es p =>
      cases op with
      | And => exact de_and hE es
      | Or => exact de_or hE es
    | Subscript a i p => exact de_sub cx hE
    | ListComp elt gs scope p => exact (df_comp cx hE hE').de
    | Call g es kws p =>
      show DE X C bx _ (wCall C sc (wpE f C) (wpE f C.ng) g es kws)
      unfold wCall
      split
      · rename_i x px
        split
        · rename_i hg
          have hgl := glB_ok cx hg
          unfold wCallF
          split
          · rename_i S hS
            split
            · rename_i hc
              simp only [Bool.and_eq_true, decide_eq_true_eq] at hc
              obtain ⟨h1, h2, h3, h4⟩ := hc
              refine de_user cx hb hgl hS h1 h2 h3 h4 (fun e ρ n Q h => ?_) fun e => dv_arg cx (hE e)
              cases e with
              | Starred v p => exact no_star _ ρ n Q rfl
              | _ => cases h
            · exact de_F
          · split
            · rename_i elt gs scope gp
              split
              · rename_i hx
                obtain rfl := eq_of_beq hx
                exact de_gen (stp := true) cx hb hgl hE fun X' hK cx' => hE' X' _ hK cx'
              · split
                · rename_i hx
                  obtain rfl := eq_of_beq hx
                  exact de_gen (stp := false) cx hb hgl hE fun X' hK cx' => hE' X' _ hK cx'
                · exact de_F
            · split
              · rename_i hc
                rw [Bool.and_eq_true] at hc
                exact de_builtin cx hgl hc.1 hc.2 (hE _)
              · exact de_F
            · exact de_F
        · exact de_F
      · exact de_F
    | _ => exact de_F
/-- a list made anew -/
theorem sF (f : Nat) (hb : bx.tabs = C.tabs) (cx : Ctx X C blk sc) (e : Expr) : DF X C bx e (wpF C f sc e) := by
  have hE := sE hb f C X blk sc hb cx
  have hE' : ∀ (X' : Cx) (scope : Scope), X'.K = X.K → Ctx X' C.ng true scope → ∀ e, DE X' C.ng bx e (wpE f C.ng scope e) := fun X' scope _ cx' => sE hb f C.ng X' true scope hb cx'
  unfold wpF
  split
  · exact df_list (da_args no_star hE _)
  · exact df_comp cx hE hE'
  · exact df_cat (hE _) (hE _)
  · exact df_F

/-! ### every test -/
theorem dt_and {t : Expr → WB} {pos : Pos} (h : ∀ e, DT X C bx e (t e)) : ∀ es, ∃ tt, PW X (.BoolOp .And es pos) tt ∧ DTw X.K C bx tt (tAnds t es)
  | [] => ⟨tFT, ⟨fun _ _ _ _ _ _ _ z => z.elim⟩, fun _ _ _ _ _ _ _ _ _ z _ => z⟩
  | [e] => by
    obtain ⟨tt, h1, h2⟩ := h e
    exact ⟨tt, pw_and1 h1, h2⟩
  | e :: e2 :: r => by
    obtain ⟨t1, h1, k1⟩ := h e
    obtain ⟨t2, h2, k2⟩ := dt_and (pos := pos) h (e2 :: r)
    refine ⟨_, pw_and h1 h2, fun σ H Vw ρ n Qd Q s rr hw q => ?_⟩
    refine k1 σ H Vw ρ n _ _ s rr hw fun b H1 Vw1 n1 s1 st1 b1 h1 => ?_
    cases b with
    | true => exact k2 σ H1 Vw1 ρ n1 _ _ st1 (rr.mono s1.view) h1 fun c H2 Vw2 n2 s2 st2 b2 h2 => q _ _ _ _ (s1.trans st1 s2) st2 b2 h2
    | false => exact q _ _ _ _ s1 st1 b1 h1
theorem dt_or {t : Expr → WB} {pos : Pos} (h : ∀ e, DT X C bx e (t e)) : ∀ es, ∃ tt, PW X (.BoolOp .Or es pos) tt ∧ DTw X.K C bx tt (tOrs t es)
  | [] => ⟨tFT, ⟨fun _ _ _ _ _ _ _ z => z.elim⟩, fun _ _ _ _ _ _ _ _ _ z _ => z⟩
  | [e] => by
    obtain ⟨tt, h1, h2⟩ := h e
    exact ⟨tt, pw_or1 h1, h2⟩
  | e :: e2 :: r => by
    obtain ⟨t1, h1, k1⟩ := h e
    obtain ⟨t2, h2, k2⟩ := dt_or (pos := pos) h (e2 :: r)
    refine ⟨_, pw_or h1 h2, fun σ H Vw ρ n Qd Q s rr hw q => ?_⟩
    refine k1 σ H Vw ρ n _ _ s rr hw fun b H1 Vw1 n1 s1 st1 b1 h1 => ?_
    cases b with
    | false => exact k2 σ H1 Vw1 ρ n1 _ _ st1 (rr.mono s1.view) h1 fun c H2 Vw2 n2 s2 st2 b2 h2 => q _ _ _ _ (s1.trans st1 s2) st2 b2 h2
    | true => exact q _ _ _ _ s1 st1 b1 h1
theorem sT (hb : bx.tabs = C.tabs) (cx : Ctx X C blk sc) : ∀ (f : Nat) (e : Expr), DT X C bx e (wpT C f sc e) := by
  intro f
  induction f with
  | zero => intro e; exact dt_F
  | succ f ih =>
    intro e
    have hE := sE hb f C X blk sc hb cx
    cases e with
    | BoolOp op es p =>
      cases op with
      | And =>
        obtain ⟨tt, h1, h2⟩ := dt_and (pos := p) ih es
        exact ⟨tt, h1.pt, h2⟩
      | Or =>
        obtain ⟨tt, h1, h2⟩ := dt_or (pos := p) ih es
        exact ⟨tt, h1.pt, h2⟩
    | UnaryOp op a p =>
      cases op with
      | Not =>
        obtain ⟨t, h1, k1⟩ := ih a
        exact ⟨_, pt_not h1, fun σ H Vw ρ n Qd Q s rr hw q => k1 σ H Vw ρ n _ _ s rr hw fun b H1 Vw1 n1 s1 st1 b1 h1 => q _ _ _ _ s1 st1 b1 h1⟩
      | _ => exact dt_F
    | Compare a ops cs p => exact dt_cond cx hE
    | Name x p => exact dt_cond cx hE
    | Call g es ks p => exact dt_cond cx hE
    | _ => exact dt_F
end
end RT
namespace RT
open PySem PySem.Spec PyProof.Rows L2
/-! ### the state between statements -/
structure SR (K : PySem.W.Frag) (C : Cfg) (bx : BxT) (H0 Vw0 : Hp) (σ : L2.St) (ρ : RE) (n : Int) (H Vw : Hp) : Prop where
  ent : ∀ b, bx.box = some b → H0 b.b ≠ none
  stp : Stp bx H0 Vw0 H Vw
  stt : Stt K bx C.row n H Vw
  rep : Rep K bx Vw σ ρ
  own : ∀ i xs, ρ[i]? = some (some (.own xs)) → C.own = some i ∧ ∃ a vs, σ[i]? = some (some (.ref a)) ∧ H a = some (.lst vs) ∧ Vw a = none ∧ H0 a = none ∧ DqAll K Vw vs xs
section
variable {K : PySem.W.Frag} {C : Cfg} {bx : BxT} {H0 Vw0 H Vw H' Vw' : Hp} {σ : L2.St} {ρ : RE} {n n' : Int}
theorem hid_get {i : Nat} {c : Cell} (h : (hidR ρ)[i]? = some (some c)) : ρ[i]? = some (some c) := by
  unfold hidR at h
  rw [List.getElem?_map] at h
  cases q : ρ[i]? with
  | none => rw [q] at h; cases h
  | some o =>
    rw [q] at h
    cases o with
    | none => cases h
    | some c' =>
      cases c' with
      | own xs => cases h
      | shr d => exact h
      | box => exact h
theorem rep_hid (r : Rep K bx Vw σ ρ) : Rep K bx Vw σ (hidR ρ) := ⟨by rw [r.1]; simp [hidR], fun i c e => r.2 i c (hid_get e)⟩
theorem SR.hid (s : SR K C bx H0 Vw0 σ ρ n H Vw) : Rep K bx Vw σ (hidR ρ) := rep_hid s.rep
/-- behind a step that was made without the own list -/
theorem SR.adv (s : SR K C bx H0 Vw0 σ ρ n H Vw) (a : Stp bx H Vw H' Vw') (t : Stt K bx C.row n' H' Vw') : SR K C bx H0 Vw0 σ ρ n' H' Vw' where
  ent := s.ent
  stp := s.stp.trans s.stt a
  stt := t
  rep := s.rep.mono a.view
  own := fun i xs e => by
    obtain ⟨h1, ad, vs, h2, h3, h4, h5, h6⟩ := s.own i xs e
    refine ⟨h1, ad, vs, h2, a.frame ad _ h3 (fun b e z => ?_) (fun _ z => by cases z), a.hid h3 h4, h5, dpAll_mono a.view _ _ h6⟩
    rw [z] at h5
    exact s.ent b e h5
/-- the own list seen as data -/
theorem SR.frz (s : SR K C bx H0 Vw0 σ ρ n H Vw) : ∃ Vf, Sub Vw Vf ∧ Stt K bx C.row n H Vf ∧ Rep K bx Vf σ (frzR ρ) ∧ Stp bx H0 Vw0 H Vf := by
  by_cases ho : ∃ (i : Nat) (xs : List D), ρ[i]? = some (some (Cell.own xs))
  · obtain ⟨i, xs, hi⟩ := ho
    obtain ⟨h1, a, vs, h2, h3, h4, h5, h6⟩ := s.own i xs hi
    have hb : ∀ b, bx.box = some b → a ≠ b.b := fun b e z => s.ent b e (by rw [← z]; exact h5)
    refine ⟨upd Vw a (.lst vs), sub_freeze h4, s.stt.freeze h3 h4 hb, ⟨by rw [s.rep.1]; simp [frzR], fun j c e => ?_⟩, ⟨s.stp.view.trans (sub_freeze h4), s.stp.frame, s.stp.grow, fun x o e => ?_⟩⟩
    · unfold frzR at e
      rw [List.getElem?_map] at e
      cases q : ρ[j]? with
      | none => rw [q] at e; cases e
      | some o =>
        rw [q] at e
        cases o with
        | none => cases e
        | some c' =>
          cases c' with
          | own ys =>
            have e2 : Cell.shr (.list ys) = c := Option.some.inj (Option.some.inj e)
            obtain ⟨k1, a', vs', k2, k3, k4, k5, k6⟩ := s.own j ys q
            have ej : i = j := Option.some.inj (h1.symm.trans k1)
            subst ej
            rw [hi] at q
            cases q
            rw [k2] at h2
            cases h2
            rw [k3] at h3
            cases h3
            rw [← e2]
            exact ⟨_, k2, .lst (.inl upd_same) (dpAll_mono (sub_freeze h4) _ _ h6)⟩
          | shr d =>
            have e2 : Cell.shr d = c := Option.some.inj (Option.some.inj e)
            obtain ⟨v, g1, g2⟩ := s.rep.2 j _ q
            rw [← e2]
            exact ⟨v, g1, dp_mono (sub_freeze h4) _ _ g2⟩
          | box =>
            have e2 : Cell.box = c := Option.some.inj (Option.some.inj e)
            obtain ⟨v, g1, g2⟩ := s.rep.2 j _ q
            rw [← e2]
            exact ⟨v, g1, g2⟩
    · by_cases hx : x = a
      · rw [hx]
        exact .inr h5
      · rw [upd_ne hx] at e
        exact s.stp.new x o e
  · refine ⟨Vw, Sub.refl _, s.stt, ⟨by rw [s.rep.1]; simp [frzR], fun j c e => ?_⟩, s.stp⟩
    unfold frzR at e
    rw [List.getElem?_map] at e
    cases q : ρ[j]? with
    | none => rw [q] at e; cases e
    | some o =>
      rw [q] at e
      cases o with
      | none => cases e
      | some c' =>
        cases c' with
        | own ys => exact absurd ⟨j, ys, q⟩ ho
        | shr d =>
          have e2 : Cell.shr d = c := Option.some.inj (Option.some.inj e)
          rw [← e2]
          exact s.rep.2 j _ q
        | box =>
          have e2 : Cell.box = c := Option.some.inj (Option.some.inj e)
          rw [← e2]
          exact s.rep.2 j _ q
/-- what was seen on the way is forgotten -/
theorem SR.rev {Vf : Hp} (s : SR K C bx H0 Vw0 σ ρ n H Vw) (hv : Sub Vw Vf) (tf : Stt K bx C.row n H Vf) (a : Stp bx H Vf H' Vw') (t : Stt K bx C.row n' H' Vw') : SR K C bx H0 Vw0 σ ρ n' H' Vw where
  ent := s.ent
  stp := ⟨s.stp.view, fun x o e h h2 => a.frame x o (s.stp.frame x o e h h2) h h2, fun x ps e => by
    obtain ⟨qs, e1⟩ := s.stp.grow x ps e
    exact a.grow x qs e1, s.stp.new⟩
  stt := ⟨(hv.trans a.view).trans t.sub, fun b e => ⟨(t.box b e).1, (s.stt.box b e).2.1, (s.stt.box b e).2.2⟩, t.tab, s.stt.vis⟩
  rep := s.rep
  own := fun i xs e => by
    obtain ⟨h1, ad, vs, h2, h3, h4, h5, h6⟩ := s.own i xs e
    refine ⟨h1, ad, vs, h2, a.frame ad _ h3 (fun b e z => ?_) (fun _ z => by cases z), h4, h5, h6⟩
    rw [z] at h5
    exact s.ent b e h5
/-- a slot takes a datum -/
theorem SR.set {i : Nat} {v : V} {d : D} (s : SR K C bx H0 Vw0 σ ρ n H Vw) (h : Dq K Vw v d) : SR K C bx H0 Vw0 (σ.set i (some v)) (ρ.set i (some (.shr d))) n H Vw where
  ent := s.ent
  stp := s.stp
  stt := s.stt
  rep := s.rep.set h
  own := fun j xs e => by
    by_cases hj : i = j
    · subst hj
      by_cases hi : i < ρ.length
      · rw [List.getElem?_set_self hi] at e
        cases e
      · rw [List.getElem?_eq_none (by simpa using hi)] at e
        cases e
    · rw [List.getElem?_set_ne hj] at e
      obtain ⟨h1, ad, vs, h2, h3⟩ := s.own j xs e
      exact ⟨h1, ad, vs, by rw [List.getElem?_set_ne hj]; exact h2, h3⟩
theorem SR.sets {σ' : L2.St} {ρ' : RE} (s : SR K C bx H0 Vw0 σ ρ n H Vw) (z : Sets K Vw σ ρ σ' ρ') : SR K C bx H0 Vw0 σ' ρ' n H Vw := by
  induction z with
  | refl => exact s
  | step h _ ih => exact ih (s.set h)
/-- the own slot takes a list of its own -/
theorem SR.setOwn {i : Nat} {p : Addr} {vs : List V} {xs : List D} {Vf : Hp} (s : SR K C bx H0 Vw0 σ ρ n H Vw) (ho : C.own = some i) (hv : Sub Vw Vf) (sf : Stp bx H0 Vw0 H Vf) (tf : Stt K bx C.row n H Vf) (a : Stp bx H Vf H' Vw') (t : Stt K bx C.row n' H' Vw') (hp : H p = none) (h1 : H' p = some (.lst vs)) (h2 : Vw' p = none) (hd : DqAll K Vw' vs xs) :
    SR K C bx H0 Vw0 (σ.set i (some (.ref p))) (ρ.set i (some (.own xs))) n' H' Vw' where
  ent := s.ent
  stp := sf.trans tf a
  stt := t
  rep := (s.rep.mono (hv.trans a.view)).set (c := .own xs) trivial
  own := fun j ys e => by
    by_cases hj : i = j
    · subst hj
      by_cases hi : i < ρ.length
      · rw [List.getElem?_set_self hi] at e
        cases e
        refine ⟨ho, p, vs, by rw [List.getElem?_set_self (by rw [s.rep.1]; exact hi)], h1, h2, ?_, hd⟩
        exact sf.fresh tf hp
      · rw [List.getElem?_eq_none (by simpa using hi)] at e
        cases e
    · rw [List.getElem?_set_ne hj] at e
      obtain ⟨g1, _⟩ := s.own j ys e
      exact absurd (Option.some.inj (ho.symm.trans g1)) hj
/-- the own list grows -/
theorem SR.grow {i : Nat} {a : Addr} {vs ws : List V} {xs ys : List D} (s : SR K C bx H0 Vw0 σ ρ n H Vw) (hi : ρ[i]? = some (some (.own xs))) (ha : σ[i]? = some (some (.ref a))) (h3 : H a = some (.lst vs)) (h4 : Vw a = none) (h5 : H0 a = none) (hd : DqAll K Vw ws ys) :
    SR K C bx H0 Vw0 σ (ρ.set i (some (.own ys))) n (upd H a (.lst ws)) Vw := by
  have hb : ∀ b, bx.box = some b → a ≠ b.b := fun b e z => s.ent b e (by rw [← z]; exact h5)
  have hlt : i < ρ.length := (List.getElem?_eq_some_iff.mp hi).1
  refine ⟨s.ent, ⟨s.stp.view, fun x o e h h2 => ?_, fun x ps e => ?_, s.stp.new⟩, s.stt.chg h4 hb h3, ⟨by rw [List.length_set]; exact s.rep.1, fun j c e => ?_⟩, fun j zs e => ?_⟩
  · have hx : x ≠ a := fun z => by rw [z, h5] at e; cases e
    rw [upd_ne hx]
    exact s.stp.frame x o e h h2
  · have hx : x ≠ a := fun z => by rw [z, h5] at e; cases e
    rw [upd_ne hx]
    exact s.stp.grow x ps e
  · by_cases hj : i = j
    · subst hj
      rw [List.getElem?_set_self hlt] at e
      cases e
      exact ⟨_, ha, trivial⟩
    · rw [List.getElem?_set_ne hj] at e
      exact s.rep.2 j c e
  · obtain ⟨o1, _⟩ := s.own i xs hi
    by_cases hj : i = j
    · subst hj
      rw [List.getElem?_set_self hlt] at e
      cases e
      exact ⟨o1, a, ws, ha, upd_same, h4, h5, hd⟩
    · rw [List.getElem?_set_ne hj] at e
      obtain ⟨g1, _⟩ := s.own j zs e
      exact absurd (Option.some.inj (o1.symm.trans g1)) hj
end
/-! ### statements -/
def DSw (K : PySem.W.Frag) (C : Cfg) (bx : BxT) (t : TS) (w : WS) : Prop :=
  ∀ (H0 Vw0 : Hp) (σ : L2.St) (H Vw : Hp) (ρ : RE) (n : Int) (nx : NX) (rt : QD) (E : Ends), SR K C bx H0 Vw0 σ ρ n H Vw → w ρ n nx rt →
    (∀ σ' H' Vw' ρ' n', SR K C bx H0 Vw0 σ' ρ' n' H' Vw' → Sub Vw Vw' → nx ρ' n' → E.nx σ' H') →
    (∀ v H' Vw' d n', Stp bx H0 Vw0 H' Vw' → Stt K bx C.row n' H' Vw' → Dq K Vw' v d → rt d n' → E.rt v H') → t E σ H
def DS (X : Cx) (C : Cfg) (bx : BxT) (st : Stmt) (w : WS) : Prop := ∃ t, PS X st t ∧ DSw X.K C bx t w
def DSs (X : Cx) (C : Cfg) (bx : BxT) (st : List Stmt) (w : WS) : Prop := ∃ t, PSs X st t ∧ DSw X.K C bx t w
section
variable {X : Cx} {C : Cfg} {sc : Scope} {bx : BxT}
theorem ds_F {st : Stmt} : DS X C bx st sNo := ⟨tNever, ps_never, fun _ _ _ _ _ _ _ _ _ _ _ h _ _ => h⟩
theorem dss {s : Stmt → WS} (h : ∀ st, DS X C bx st (s st)) : ∀ sts, DSs X C bx sts (wpSs s sts)
  | [] => ⟨tNext, pss_nil, fun H0 Vw0 σ H Vw ρ n nx rt E sr hw kn kr => kn σ H Vw ρ n sr (Sub.refl _) hw⟩
  | st :: sts => by
    obtain ⟨t, ht, k⟩ := h st
    cases sts with
    | nil =>
      refine ⟨tSeq t tNext, pss_cons ht pss_nil, fun H0 Vw0 σ H Vw ρ n nx rt E sr hw kn kr => ?_⟩
      exact k H0 Vw0 σ H Vw ρ n nx rt { E with nx := tNext E } sr hw kn kr
    | cons st2 sts =>
      obtain ⟨ts, hts, ks⟩ := dss h (st2 :: sts)
      refine ⟨tSeq t ts, pss_cons ht hts, fun H0 Vw0 σ H Vw ρ n nx rt E sr hw kn kr => ?_⟩
      refine k H0 Vw0 σ H Vw ρ n _ rt { E with nx := ts E } sr hw (fun σ1 H1 Vw1 ρ1 n1 s1 v1 h1 => ?_) kr
      exact ks H0 Vw0 σ1 H1 Vw1 ρ1 n1 nx rt E s1 h1 (fun σ2 H2 Vw2 ρ2 n2 s2 v2 h2 => kn σ2 H2 Vw2 ρ2 n2 s2 (v1.trans v2) h2) kr
theorem ds_ret {e : Expr} {w : WD} {pos : Pos} (h : DE X C bx e w) : DS X C bx (.Return (some e) pos) fun ρ n _ rt => w (frzR ρ) n rt := by
  obtain ⟨t, ht, k⟩ := h
  refine ⟨tRet t, ps_ret ht, fun H0 Vw0 σ H Vw ρ n nx rt E sr hw kn kr => ?_⟩
  obtain ⟨Vf, f1, f2, f3, f4⟩ := sr.frz
  exact k σ H Vf (frzR ρ) n rt _ f2 f3 hw fun v H' Vw' d n' s1 st1 _ dq q => kr v H' Vw' d n' (f4.trans f2 s1) st1 dq q
theorem ds_retN {pos : Pos} : DS X C bx (.Return none pos) fun _ n _ rt => rt .none n :=
  ⟨tRetN, ps_retN, fun H0 Vw0 σ H Vw ρ n nx rt E sr hw kn kr => kr .non H Vw .none n sr.stp sr.stt .non hw⟩
theorem ds_if {c : Expr} {a b : List Stmt} {wt : WB} {wa wb : WS} {pos : Pos} (hc : DT X C bx c wt) (ha : DSs X C bx a wa) (hb : DSs X C bx b wb) :
    DS X C bx (.If c a b pos) fun ρ n nx rt => wt (frzR ρ) n fun t n1 => if t = true then wa ρ n1 nx rt else wb ρ n1 nx rt := by
  obtain ⟨tc, hc, kc⟩ := hc
  obtain ⟨ta, ha, ka⟩ := ha
  obtain ⟨tb, hb, kb⟩ := hb
  refine ⟨tIfS tc ta tb, ps_if hc ha hb, fun H0 Vw0 σ H Vw ρ n nx rt E sr hw kn kr => ?_⟩
  obtain ⟨Vf, f1, f2, f3, f4⟩ := sr.frz
  refine kc σ H Vf (frzR ρ) n _ _ f2 f3 hw fun t H' Vw' n' s1 st1 _ q => ?_
  have s2 := sr.rev f1 f2 s1 st1
  cases t with
  | true => exact ka H0 Vw0 σ H' Vw ρ n' nx rt E s2 q kn kr
  | false => exact kb H0 Vw0 σ H' Vw ρ n' nx rt E s2 q kn kr
theorem no_own {e : Env} : PassesOwn (model X.prog X.w) X.A e (fun _ _ => False) := PassesOwn.never
theorem ds_while {c : Expr} {body : List Stmt} {wt : WB} {wb : WS} {pos : Pos} (hx : X.xe = fun _ _ => False) (hc : DT X C bx c wt) (hb : DSs X C bx body wb) : DS X C bx (.While c body [] pos) (whileD wt wb) := by
  obtain ⟨tc, hc, kc⟩ := hc
  obtain ⟨tb, hb, kb⟩ := hb
  refine ⟨tWhile tc tb, ps_while (by rw [hx]; exact PassesOwn.never) hc hb, fun H0 Vw0 σ H Vw ρ n nx rt E sr hw kn kr => ?_⟩
  obtain ⟨I, ⟨m0, i0⟩, turn⟩ := hw
  refine ⟨fun m σ H => ∃ Vw1 ρ n, SR X.K C bx H0 Vw0 σ ρ n H Vw1 ∧ Sub Vw Vw1 ∧ I m ρ n, ⟨m0, Vw, ρ, n, sr, Sub.refl _, i0⟩, fun m σ1 H1 hW => ?_⟩
  obtain ⟨Vw1, ρ1, n1, sr1, v1, im⟩ := hW
  obtain ⟨Vf, f1, f2, f3, f4⟩ := sr1.frz
  refine kc σ1 H1 Vf (frzR ρ1) n1 _ _ f2 f3 (turn m ρ1 n1 im) fun t H2 Vw2 n2 s2 st2 _ q => ?_
  have sr2 := sr1.rev f1 f2 s2 st2
  cases t with
  | true =>
    refine ⟨fun σ3 H3 => ∃ m', m' < m ∧ ∃ Vw3 ρ3 n3, SR X.K C bx H0 Vw0 σ3 ρ3 n3 H3 Vw3 ∧ Sub Vw Vw3 ∧ I m' ρ3 n3, fun σ3 H3 h => h, ?_⟩
    exact kb H0 Vw0 σ1 H2 Vw1 ρ1 n2 _ rt _ sr2 q (fun σ3 H3 Vw3 ρ3 n3 sr3 v3 ⟨m', hm, im'⟩ => ⟨m', hm, Vw3, ρ3, n3, sr3, v1.trans v3, im'⟩) kr
  | false => exact kn σ1 H2 Vw1 ρ1 n2 sr2 v1 q
theorem ds_for {tg iter : Expr} {body : List Stmt} {wi : WL} {wb : WS} {pos : Pos} (hx : X.xe = fun _ _ => False) (hcalm : X.calm = true) (hset : ∀ es k p, iter ≠ .Set es k p) (hi : DI X C bx tg iter wi) (hg : DG X C bx false sc tg) (hb : DSs X C bx body wb) :
    DS X C bx (.For tg iter body [] pos) fun ρ n nx rt => wi (hidR ρ) n fun items n1 => forD (asgT C false sc tg) wb items ρ n1 nx rt := by
  obtain ⟨ti, hi, ki⟩ := hi
  obtain ⟨tg', hg, kg⟩ := hg
  obtain ⟨tb, hb, kb⟩ := hb
  refine ⟨tFor ti tg' tb, ps_for (by rw [hx]; exact PassesOwn.never) hcalm hi hg hb (set_no hset), fun H0 Vw0 σ H Vw ρ n nx rt E sr hw kn kr => ?_⟩
  refine ki σ H Vw (hidR ρ) n _ _ sr.stt sr.hid hw fun J H1 Vw1 items n1 s1 st1 wk h1 => ?_
  have sr1 := sr.adv s1 st1
  refine ⟨fun i m σ H2 => m = items.length - i ∧ i ≤ items.length ∧ ∃ Vw2 ρ n, SR X.K C bx H0 Vw0 σ ρ n H2 Vw2 ∧ Sub Vw1 Vw2 ∧ forD (asgT C false sc tg) wb (items.drop i) ρ n nx rt, ⟨items.length, rfl, Nat.zero_le _, Vw1, ρ, n1, sr1, Sub.refl _, h1⟩, fun i m σ2 H2 hW => ?_⟩
  obtain ⟨rfl, hil, Vw2, ρ2, n2, sr2, v2, hf⟩ := hW
  by_cases hlt : i < items.length
  · refine .inr ⟨wk.go i H2 Vw2 v2 sr2.stt.sub hlt, fun σ3 H3 => ∃ Vw3 ρ3 n3, SR X.K C bx H0 Vw0 σ3 ρ3 n3 H3 Vw3 ∧ Sub Vw1 Vw3 ∧ forD (asgT C false sc tg) wb (items.drop (i + 1)) ρ3 n3 nx rt, fun σ3 H3 h => ⟨items.length - (i + 1), by omega, rfl, hlt, h⟩, fun x H3 hy => ?_⟩
    obtain ⟨Vw3, d, s3, st3, hd, dx⟩ := wk.yld i x H2 H3 Vw2 C.row n2 v2 sr2.stt hlt hy
    have sr3 := sr2.adv s3 st3
    have hdrop : items.drop i = d :: items.drop (i + 1) := by
      have hg := List.getElem?_eq_some_iff.mp hd
      obtain ⟨h4, h5⟩ := hg
      rw [List.drop_eq_getElem_cons h4, h5]
    rw [hdrop] at hf
    have hf2 : asgT C false sc tg d ρ2 fun ρ1 => wb ρ1 n2 (fun ρ3 n3 => forD (asgT C false sc tg) wb (items.drop (i + 1)) ρ3 n3 nx rt) rt := hf
    refine kg σ2 H3 Vw3 ρ2 x d _ _ sr3.rep st3.sub dx hf2 fun σ4 ρ4 _ _ z4 h4 => ?_
    exact kb H0 Vw0 σ4 H3 Vw3 ρ4 n2 _ rt _ (sr3.sets z4) h4 (fun σ5 H5 Vw5 ρ5 n5 sr5 v5 h5 => ⟨Vw5, ρ5, n5, sr5, (v2.trans s3.view).trans v5, h5⟩) kr
  · have e : i = items.length := by omega
    subst e
    rw [List.drop_length] at hf
    exact .inl ⟨wk.stop H2 Vw2 v2 sr2.stt.sub, kn σ2 H2 Vw2 ρ2 n2 sr2 (s1.view.trans v2) hf⟩
end
end RT
namespace RT
open PySem PySem.Spec PyProof.Rows L2
section
variable {X : Cx} {C : Cfg} {sc : Scope} {bx : BxT}
theorem dfw_dew {K : PySem.W.Frag} {t : TE} {w : WL} (k : DFw K C bx t w) : DEw K C bx t fun ρ n Q => w ρ n fun ds n1 => Q (.list ds) n1 := by
  intro σ H Vw ρ n Qd Q s r hw q
  refine k σ H Vw ρ n _ Q s r hw fun p vs H' Vw' ds n' s1 s2 b3 h1 h2 h3 dp qd => ?_
  have hb : ∀ b, bx.box = some b → p ≠ b.b := box_ne s h1
  refine q (.ref p) H' (upd Vw' p (.lst vs)) (.list ds) n' ⟨s1.view.trans (sub_freeze h3), s1.frame, s1.grow, fun a o e => ?_⟩ (s2.freeze h2 h3 hb) b3 (.lst (.inl upd_same) (dpAll_mono (sub_freeze h3) ds vs dp)) qd
  by_cases ha : a = p
  · rw [ha]
    exact .inr h1
  · rw [upd_ne ha] at e
    exact s1.new a o e
def plainV : Expr → Bool
  | .ListComp .. => false
  | .SetComp .. => false
  | .DictComp .. => false
  | _ => true
theorem sw_plain {e : Expr} {t : Option Expr} {l : Nat} {env : Env} (h : plainV e = true) : swapsWith e t l env = pure false := by
  cases e <;> first | rfl | cases h
theorem sw_sole {t e : Expr} {l : Nat} {env : Env} (h : plainV e = true) : swapsWithSole [t] e l env = pure false := by
  show swapsWith e (some t) l env = pure false
  exact sw_plain h
theorem loc_ok {x : Str} (h : locB sc x = true) : sc.names.lookup x = some .local := by
  unfold locB at h
  split at h
  · assumption
  · cases h
theorem ps_plain {x : Str} {i : Nat} {pp pos : Pos} {e : Expr} {te : TE} (cx : Ctx X C false sc) (hi : findIx C.N x = some i) (hl : (locB sc x || decide (sc.names.lookup x = some .cell)) = true) (he : PE X e te) (hp : plainV e = true) : PS X (.Assign [.Name x pp] e pos) (tAsg te (gName i)) := by
  refine ps_set cx.nd (by rw [cx.N]; exact findIx_ok hi) ?_ he (sw_plain hp) (.inl (cx.fn rfl x))
  rw [cx.sc]
  rw [Bool.or_eq_true] at hl
  rcases hl with h | h
  · exact .inl (loc_ok h)
  · exact .inr (of_decide_eq_true h)
theorem psF {st : Stmt} {i : Nat} : PS X st (tAsg tF (gName i)) := ⟨fun _ _ _ _ _ _ h => h.elim⟩
theorem set_comp {f : Nat} {x : Str} {i : Nat} {pp lp pos : Pos} {elt : Expr} {gs : List Comprehension} {scope : Scope} (hb : bx.tabs = C.tabs) (cx : Ctx X C false sc) (hi : findIx C.N x = some i) (hs : setOk sc x pp (.ListComp elt gs scope lp) = true) :
    ∃ te, PS X (.Assign [.Name x pp] (.ListComp elt gs scope lp) pos) (tAsg te (gName i)) ∧ DFw X.K C bx te (wComp C (wpE f C) (wpE f C.ng) sc scope elt gs) := by
  have no : (∀ ρ n Q, ¬ wComp C (wpE f C) (wpE f C.ng) sc scope elt gs ρ n Q) → ∃ te, PS X (.Assign [.Name x pp] (.ListComp elt gs scope lp) pos) (tAsg te (gName i)) ∧ DFw X.K C bx te (wComp C (wpE f C) (wpE f C.ng) sc scope elt gs) := fun h =>
    ⟨tF, psF, fun σ H Vw ρ n Qd Q s r hw q => absurd hw (h _ _ _)⟩
  have hE := sE hb f C X false sc hb cx
  have hE' : ∀ (X' : Cx) (scope : Scope), X'.K = X.K → Ctx X' C.ng true scope → ∀ e, DE X' C.ng bx e (wpE f C.ng scope e) := fun X' scope _ cx' => sE hb f C.ng X' true scope hb cx'
  unfold setOk at hs
  simp only [Bool.and_eq_true, Bool.not_eq_true'] at hs
  obtain ⟨h1, h2, h3, h4⟩ := hs
  split at h4
  · rename_i g
    obtain ⟨tg, iter, ifs, isa⟩ := g
    by_cases hc : (decide (isa = 0) && blkC C.N sc scope (ownOf C.N scope)) = true
    · have hc0 := hc
      simp only [Bool.and_eq_true, decide_eq_true_eq] at hc
      obtain ⟨hisa, hblk⟩ := hc
      subst hisa
      by_cases hset : ∀ es k p, iter ≠ .Set es k p
      · obtain ⟨te, _, t2, t3⟩ := comp_ok (elt := elt) (tg := tg) (ifs := ifs) cx hblk hset hE fun X' hK cx' => hE' X' _ hK cx'
        refine ⟨te, t2 i x pp lp pos (by rw [cx.N]; exact findIx_ok hi) (by rw [cx.sc]; exact loc_ok h1) ?_, ?_⟩
        · exact sw_true (cx.kind rfl) (by rw [cx.sc]; exact loc_ok h1) h2 h3
        · have e : wComp C (wpE f C) (wpE f C.ng) sc scope elt [⟨tg, iter, ifs, 0⟩] = fun ρ n Q => wIter C sc (wpE f C sc) tg iter ρ n fun items n1 =>
              compD (fun d k => asgT C true (relS scope sc) tg d (wipeR ρ ((ownOf C.N scope).map (·.2))) k) (wTests (wpE f C.ng (relS scope sc)) ifs) (wpE f C.ng (relS scope sc) elt) items [] n1 Q := by
            unfold wComp
            dsimp only
            rw [if_pos hc0]
          rw [e]
          exact t3
      · refine no fun ρ n Q h => ?_
        unfold wComp at h
        dsimp only at h
        rw [if_pos hc0] at h
        exact hset (set_false h)
    · refine no fun ρ n Q h => ?_
      unfold wComp at h
      dsimp only at h
      rw [if_neg hc] at h
      exact h
  · cases h4
theorem set_F (f : Nat) {x : Str} {i : Nat} {pp pos : Pos} (hb : bx.tabs = C.tabs) (cx : Ctx X C false sc) (hi : findIx C.N x = some i) (hl : (locB sc x || decide (sc.names.lookup x = some .cell)) = true) : ∀ (e : Expr), setOk sc x pp e = true →
    ∃ te, PS X (.Assign [.Name x pp] e pos) (tAsg te (gName i)) ∧ DFw X.K C bx te (wpF C f sc e) := by
  intro e hs
  have pl : plainV e = true → ∃ te, PS X (.Assign [.Name x pp] e pos) (tAsg te (gName i)) ∧ DFw X.K C bx te (wpF C f sc e) := fun hp => by
    obtain ⟨te, h1, h2⟩ := sF f hb cx e
    exact ⟨te, ps_plain cx hi hl h1 hp, h2⟩
  cases e with
  | ListComp elt gs scope lp => exact set_comp hb cx hi hs
  | SetComp _ _ _ _ => cases hs
  | DictComp _ _ _ _ _ => cases hs
  | _ => exact pl rfl
theorem set_E (f : Nat) {x : Str} {i : Nat} {pp pos : Pos} (hb : bx.tabs = C.tabs) (cx : Ctx X C false sc) (hi : findIx C.N x = some i) (hl : (locB sc x || decide (sc.names.lookup x = some .cell)) = true) : ∀ (e : Expr), setOk sc x pp e = true →
    ∃ te, PS X (.Assign [.Name x pp] e pos) (tAsg te (gName i)) ∧ DEw X.K C bx te (wpE f C sc e) := by
  intro e hs
  have pl : plainV e = true → ∃ te, PS X (.Assign [.Name x pp] e pos) (tAsg te (gName i)) ∧ DEw X.K C bx te (wpE f C sc e) := fun hp => by
    obtain ⟨te, h1, h2⟩ := sE hb f C X false sc hb cx e
    exact ⟨te, ps_plain cx hi hl h1 hp, h2⟩
  cases e with
  | ListComp elt gs scope lp =>
    cases f with
    | zero => exact ⟨tF, psF, fun σ H Vw ρ n Qd Q s r hw q => hw⟩
    | succ f =>
      obtain ⟨te, h1, h2⟩ := set_comp (f := f) (pos := pos) hb cx hi hs
      exact ⟨te, h1, dfw_dew h2⟩
  | SetComp _ _ _ _ => cases hs
  | DictComp _ _ _ _ _ => cases hs
  | _ => exact pl rfl
theorem scal_dq {K : PySem.W.Frag} {A B : Hp} {v : V} {d : D} (h : Dq K A v d) (hs : scalD d = true) : Dq K B v d := by
  cases h with
  | non => exact .non
  | bl b => exact .bl b
  | int i => exact .int i
  | _ => cases hs
theorem ds_set (f : Nat) {x : Str} {pp pos : Pos} {e : Expr} (hb : bx.tabs = C.tabs) (cx : Ctx X C false sc) : DS X C bx (.Assign [.Name x pp] e pos) (wsSet C f sc x pp e) := by
  unfold wsSet
  split
  · exact ds_F
  · rename_i i hi
    split
    · rename_i hc
      simp only [Bool.and_eq_true] at hc
      obtain ⟨hl, _, hs⟩ := hc
      split
      · rename_i ho
        obtain ⟨te, h1, h2⟩ := set_F f (pos := pos) hb cx hi hl e hs
        refine ⟨_, h1, fun H0 Vw0 σ H Vw ρ n nx rt E sr hw kn kr => ?_⟩
        obtain ⟨Vf, f1, f2, f3, f4⟩ := sr.frz
        refine h2 σ H Vf (frzR ρ) n _ _ f2 f3 hw fun p vs H' Vw' ds n' s1 s2 b3 g1 g2 g3 dp qd => ?_
        exact kn _ H' Vw' _ n' (sr.setOwn ho f1 f4 f2 s1 s2 g1 g2 g3 dp) (f1.trans s1.view) qd
      · split
        · obtain ⟨te, h1, h2⟩ := set_E f (pos := pos) hb cx hi hl e hs
          refine ⟨_, h1, fun H0 Vw0 σ H Vw ρ n nx rt E sr hw kn kr => ?_⟩
          obtain ⟨Vf, f1, f2, f3, f4⟩ := sr.frz
          refine h2 σ H Vf (frzR ρ) n _ _ f2 f3 hw fun v H' Vw' d n' s1 s2 b3 dp qd => ?_
          exact kn _ H' Vw _ n' ((sr.rev f1 f2 s1 s2).set (scal_dq dp qd.1)) (Sub.refl _) qd.2
        · obtain ⟨te, h1, h2⟩ := set_E f (pos := pos) hb cx hi hl e hs
          refine ⟨_, h1, fun H0 Vw0 σ H Vw ρ n nx rt E sr hw kn kr => ?_⟩
          refine h2 σ H Vw (hidR ρ) n _ _ sr.stt sr.hid hw fun v H' Vw' d n' s1 s2 b3 dp qd => ?_
          exact kn _ H' Vw' _ n' ((sr.adv s1 s2).set dp) s1.view qd
    · exact ds_F
theorem hid_none (h : C.own = none) {K : PySem.W.Frag} {H0 Vw0 H Vw : Hp} {σ : L2.St} {ρ : RE} {n : Int} (sr : SR K C bx H0 Vw0 σ ρ n H Vw) : True := trivial
theorem ds_par (f : Nat) {x y : Str} {px py pt p2 pos : Pos} {kt k2 : Nat} {a b : Expr} (hb : bx.tabs = C.tabs) (cx : Ctx X C false sc)
    (hc : (decide (px.line = py.line) && (!(([a, b] : List Expr).any fun | .Starred .. => true | _ => false) && (!(([a, b] : List Expr).all (foldedForSure 8)) && !(([a, b] : List Expr).all (constantsAlone 8))))) = true) :
    DS X C bx (.Assign [.Tuple [.Name x px, .Name y py] kt pt] (.Tuple [a, b] k2 p2) pos) (wsPar C f sc x y a b) := by
  unfold wsPar
  split
  · rename_i i j hi hj
    split
    · rename_i hl
      simp only [Bool.and_eq_true, decide_eq_true_eq, Bool.not_eq_true'] at hl hc
      obtain ⟨h1, h2, h3, h4⟩ := hl
      obtain ⟨c1, c2, c3, c4⟩ := hc
      have hE := sE hb f C X false sc hb cx
      obtain ⟨ta, ha, ka⟩ := hE a
      obtain ⟨tb, hb', kb⟩ := hE b
      have sa : noStar a = true := by
        cases a <;> first | rfl | (exfalso; simp at c2)
      have sb : noStar b = true := by
        cases b <;> first | rfl | (exfalso; simp at c2)
      have hNi : X.N[i]? = some x := by rw [cx.N]; exact findIx_ok hi
      have hNj : X.N[j]? = some y := by rw [cx.N]; exact findIx_ok hj
      have hxy : x ≠ y := fun e => h3 (nodup_ix cx.nd hNi (e ▸ hNj))
      have hx : X.env.scope.names.lookup x = some .local := by rw [cx.sc]; exact loc_ok h1
      have hy : X.env.scope.names.lookup y = some .local := by rw [cx.sc]; exact loc_ok h2
      have hw : swappedStores [.Tuple [.Name x px, .Name y py] kt pt] (.Tuple [a, b] k2 p2) X.env = pure (some [x, y]) := by
        have hbk : X.env.blockKind = .function := by unfold Env.blockKind; rw [cx.kind rfl]; rfl
        have kx : X.env.kindOf x = some .local := hx
        have ky : X.env.kindOf y = some .local := hy
        have c3' : (([a, b] : List Expr).all (foldedForSure 8)) = false := c3
        have c4' : (([a, b] : List Expr).all (constantsAlone 8)) = false := c4
        have ln : (py.line == px.line) = true := by rw [c1]; exact beq_self_eq_true _
        have hd : ([x, y] : List Str).eraseDups = [x, y] := by
          simp [List.eraseDups_cons, hxy, Ne.symm hxy]
        have e2 : (([a, b] : List Expr).any fun | .Starred .. => true | _ => false) = false := c2
        unfold swappedStores
        simp only [hbk, kx, ky, c3', c4', e2, hd, c1, Expr.pos, List.head?, List.filterMap, List.length, Option.map, Option.getD, beq_self_eq_true, Bool.and_self, ↓reduceIte]
        rw [if_neg (by decide)]
        refine (if_neg (fun h => Bool.noConfusion (c2.symm.trans h))).trans ?_
        rw [if_neg (by decide)]
        rfl
      refine ⟨tPar i j (tCons ta (tCons tb tNil)), ps_par cx.calm cx.nd hNi hNj h3 hx hy (pa_cons ha (pa_cons hb' pa_nil (star_ok sb)) (star_ok sa)) hw rfl, fun H0 Vw0 σ H Vw ρ n nx rt E sr hw kn kr => ?_⟩
      refine ka σ H Vw ρ n _ _ sr.stt sr.rep hw fun v H1 Vw1 d n1 s1 st1 b1 d1 q1 => ?_
      have sr1 := sr.adv s1 st1
      refine kb σ H1 Vw1 ρ n1 _ _ st1 sr1.rep q1 fun v2 H2 Vw2 d2 n2 s2 st2 b2 dd2 q2 => ?_
      have sr2 := sr1.adv s2 st2
      exact ⟨v, v2, rfl, kn _ H2 Vw2 _ n2 ((sr2.set (dp_mono s2.view _ _ d1)).set dd2) (s1.view.trans s2.view) q2⟩
    · exact ds_F
  · exact ds_F
theorem ds_unpack {ts : List Expr} {kt : Nat} {pt pos : Pos} {e : Expr} {w : WD} (cx : Ctx X C false sc) (he : DE X C bx e w) (hp : plainV e = true) (ht : ∀ vs k p, e ≠ .Tuple vs k p) :
    DS X C bx (.Assign [.Tuple ts kt pt] e pos) fun ρ n nx _ => w (hidR ρ) n fun d n1 => asgT C false sc (.Tuple ts kt pt) d ρ fun ρ1 => nx ρ1 n1 := by
  obtain ⟨te, he, ke⟩ := he
  obtain ⟨g, hg, kg⟩ := dg_tg (bx := bx) (tg := .Tuple ts kt pt) cx
  refine ⟨tAsg te g, ps_asg he hg (sw_sole hp) ?_ rfl, fun H0 Vw0 σ H Vw ρ n nx rt E sr hw kn kr => ?_⟩
  · cases e <;> first | rfl | exact absurd rfl (ht _ _ _)
  · refine ke σ H Vw (hidR ρ) n _ _ sr.stt sr.hid hw fun v H1 Vw1 d n1 s1 st1 b1 d1 q1 => ?_
    have sr1 := sr.adv s1 st1
    exact kg σ H1 Vw1 ρ v d _ _ sr1.rep st1.sub d1 q1 fun σ' ρ' _ _ z k' => kn σ' H1 Vw1 ρ' n1 (sr1.sets z) s1.view k'
theorem swst_no {t : Expr} {e : Expr} {env : Env} (ht : ∀ ts k p, t ≠ .Tuple ts k p) (ht2 : ∀ ts p, t ≠ .List ts p) : swappedStores [t] e env = pure none := by
  cases t <;> first | rfl | exact absurd rfl (ht _ _ _) | exact absurd rfl (ht2 _ _)
theorem SR.boxset {K : PySem.W.Frag} {H0 Vw0 H Vw : Hp} {σ : L2.St} {ρ : RE} {n m : Int} {b : BoxA} (s : SR K C bx H0 Vw0 σ ρ n H Vw) (hb : bx.box = some b) : SR K C bx H0 Vw0 σ ρ m (upd H b.b (.lst [.ref b.r, .int m])) Vw := by
  obtain ⟨q1, q2, q3⟩ := s.stt.box b hb
  refine ⟨s.ent, ⟨s.stp.view, fun a o e h h2 => ?_, fun a ps e => ?_, s.stp.new⟩, ⟨fun a o e => ?_, fun b' e => ?_, fun P hP => ?_, s.stt.vis⟩, s.rep, fun i xs e => ?_⟩
  · rw [upd_ne (h b hb)]
    exact s.stp.frame a o e h h2
  · obtain ⟨qs, e1⟩ := s.stp.grow a ps e
    have ha : a ≠ b.b := fun z => by rw [z, q1] at e1; cases e1
    exact ⟨qs, by rw [upd_ne ha]; exact e1⟩
  · have ha : a ≠ b.b := fun z => by rw [z, q3] at e; cases e
    rw [upd_ne ha]
    exact s.stt.sub a o e
  · have : b = b' := Option.some.inj (hb.symm.trans e)
    subst this
    exact ⟨upd_same, q2, q3⟩
  · obtain ⟨ps, e1, e2⟩ := s.stt.tab P hP
    have ha : P ≠ b.b := fun z => by rw [z, q1] at e1; cases e1
    exact ⟨ps, by rw [upd_ne ha]; exact e1, e2⟩
  · obtain ⟨h1, ad, vs, h2, h3, h4, h5, h6⟩ := s.own i xs e
    have ha : ad ≠ b.b := fun z => s.ent b hb (by rw [← z]; exact h5)
    exact ⟨h1, ad, vs, h2, by rw [upd_ne ha]; exact h3, h4, h5, h6⟩
theorem sw_sub {o i : Expr} {ps : Pos} (e : Expr) (l : Nat) (env : Env) : swapsWithSole [.Subscript o i ps] e l env = pure false := by
  show swapsWith e (some (.Subscript o i ps)) l env = pure false
  cases e <;> rfl
/-- box[1] = e -/
theorem ds_box (f : Nat) {x : Str} {px pc ps pos : Pos} {kc : Nat} {e : Expr} (hb : bx.tabs = C.tabs) (cx : Ctx X C false sc) :
    DS X C bx (.Assign [.Subscript (.Name x px) (.Constant (.int 1) kc pc) ps] e pos) fun ρ n nx _ => (match cellOf C sc ρ x with
      | some .box => wpE f C sc e (hidR ρ) n fun d _ => (match d with
        | .int m => nx ρ m
        | _ => False)
      | _ => False) := by
  cases hs : slot C sc x with
  | none =>
    refine ⟨tNever, ps_never, fun H0 Vw0 σ H Vw ρ n nx rt E sr hw kn kr => ?_⟩
    have hw' : (match cellOf C sc ρ x with
      | some .box => wpE f C sc e (hidR ρ) n fun d _ => (match d with
        | .int m => nx ρ m
        | _ => False)
      | _ => False) := hw
    rw [show cellOf C sc ρ x = none by unfold cellOf; rw [hs]] at hw'
    exact hw'
  | some i =>
    obtain ⟨te, he, ke⟩ := sE hb f C X false sc hb cx e
    have hn := pe_slot (pos := px) cx hs
    refine ⟨_, ps_asg he (pg_sub hn pe_int set_list) (sw_sub _ _ _) (swst_no (by intro _ _ _ h; cases h) (by intro _ _ h; cases h)) rfl, fun H0 Vw0 σ H Vw ρ n nx rt E sr hw kn kr => ?_⟩
    have hw' : (match cellOf C sc ρ x with
      | some .box => wpE f C sc e (hidR ρ) n fun d _ => (match d with
        | .int m => nx ρ m
        | _ => False)
      | _ => False) := hw
    cases hc : cellOf C sc ρ x with
    | none => rw [hc] at hw'; exact hw'.elim
    | some c =>
      rw [hc] at hw'
      cases c with
      | shr d => exact hw'.elim
      | own xs => exact hw'.elim
      | box =>
        replace hw := hw'
        refine ke σ H Vw (hidR ρ) n _ _ sr.stt sr.hid hw fun v H1 Vw1 d n1 s1 st1 b1 d1 q1 => ?_
        have sr1 := sr.adv s1 st1
        obtain ⟨v0, g1, b0, g2, rfl⟩ := sr.rep.2 i .box (cell_at hs hc)
        obtain ⟨k1, k2, k3⟩ := st1.box b0 g2
        cases d with
        | int m =>
          cases d1
          refine ⟨_, g1, b0.b, _, 1, 1, rfl, rfl, k1, rfl, ?_⟩
          exact kn σ _ Vw1 ρ m (sr1.boxset g2) s1.view q1
        | _ => exact False.elim q1
theorem ds_meth (f : Nat) {x m : Str} {px pa pc pos : Pos} {es : List Expr} (hb : bx.tabs = C.tabs) (cx : Ctx X C false sc) :
    DS X C bx (.Expr (.Call (.Attribute (.Name x px) m pa) es [] pc) pos) (wsMeth C f sc x m (pa.endLine == pc.line) es) := by
  unfold wsMeth
  split
  · exact ds_F
  · rename_i i hs
    split
    · exact ds_F
    · rename_i hln
      have hln' : ((pa.endLine == pc.line) && es.all noStar) = true := by
        cases q : ((pa.endLine == pc.line) && es.all noStar) with
        | true => rfl
        | false => exact absurd q hln
      rw [Bool.and_eq_true] at hln'
      obtain ⟨hl, hst⟩ := hln'
      have hE := sE hb f C X false sc hb cx
      have hn := pe_slot (pos := px) cx hs
      split
      · rename_i hm
        have hm' : m = "append" := eq_of_beq hm
        subst hm'
        split
        · rename_i e
          obtain ⟨te, he, ke⟩ := hE e
          have he1 : noStar e = true := by simpa using hst
          refine ⟨_, ps_expr (pe_bm PySem.F.plainAttrs_list PySem.F.slot_list_append PySem.F.type_list_append mt_append hn (pa_cons he pa_nil (star_ok he1)) rfl ?_ hl (star_ok he1) rfl) rfl, fun H0 Vw0 σ H Vw ρ n nx rt E sr hw kn kr => ?_⟩
          · show ((backTo pc (starEach [e] X.env)).all (fun x => !x.1) && _ && _) = true
            rw [star_ok he1]
            rfl
          · have hw' : (match ρ[i]? with
              | some (some (.own xs)) => wpE f C sc e (hidR ρ) n fun d n1 => AppOk xs ∧ nx (ρ.set i (some (.own (xs ++ [d])))) n1
              | _ => False) := hw
            cases hc : ρ[i]? with
            | none => rw [hc] at hw'; exact hw'.elim
            | some c =>
              rw [hc] at hw'
              cases c with
              | none => exact hw'.elim
              | some c =>
                cases c with
                | shr d => exact hw'.elim
                | box => exact hw'.elim
                | own xs =>
                  obtain ⟨o1, a, vs, o2, o3, o4, o5, o6⟩ := sr.own i xs hc
                  refine ⟨_, o2, .inl ⟨rfl, _, .inl (.inl o3)⟩, ?_⟩
                  refine ke σ H Vw (hidR ρ) n _ _ sr.stt sr.hid hw' fun v H1 Vw1 d n1 s1 st1 b1 d1 q1 => ?_
                  have sr1 := sr.adv s1 st1
                  obtain ⟨_, a', vs', p2, p3, p4, p5, p6⟩ := sr1.own i xs hc
                  rw [o2] at p2
                  cases p2
                  refine ⟨a, vs', v, rfl, rfl, p3, ?_, ?_⟩
                  · rw [dpa_len p6]; exact q1.1
                  · exact kn σ _ Vw1 _ n1 (sr1.grow hc o2 p3 p4 p5 (dpa_snoc p6 d1)) s1.view q1.2
        · exact ds_F
      · split
        · rename_i hm
          have hm' : m = "insert" := eq_of_beq hm
          subst hm'
          split
          · rename_i e e2
            obtain ⟨te, he, ke⟩ := hE e
            obtain ⟨te2, he2, ke2⟩ := hE e2
            have hst2 : noStar e = true ∧ noStar e2 = true := by simpa using hst
            obtain ⟨he1, he3⟩ := hst2
            refine ⟨_, ps_expr (pe_bm PySem.F.plainAttrs_list PySem.F.slot_list_insert PySem.F.type_list_insert mt_insert hn (pa_cons he (pa_cons he2 pa_nil (star_ok he3)) (star_ok he1)) rfl ?_ hl (star_ok he1) ?_) rfl, fun H0 Vw0 σ H Vw ρ n nx rt E sr hw kn kr => ?_⟩
            · show ((backTo pc (starEach [e, e2] X.env)).all (fun x => !x.1) && _ && _) = true
              rw [star_ok he1, star_ok he3]
              rfl
            · rw [star_ok he3]
              rfl
            · have hw' : (match ρ[i]? with
                | some (some (.own xs)) => wpE f C sc e (hidR ρ) n fun k n1 => wpE f C sc e2 (hidR ρ) n1 fun d n2 => InsOk xs k ∧ nx (ρ.set i (some (.own (insD xs k d)))) n2
                | _ => False) := hw
              cases hc : ρ[i]? with
              | none => rw [hc] at hw'; exact hw'.elim
              | some c =>
                rw [hc] at hw'
                cases c with
                | none => exact hw'.elim
                | some c =>
                  cases c with
                  | shr d => exact hw'.elim
                  | box => exact hw'.elim
                  | own xs =>
                    obtain ⟨o1, a, vs, o2, o3, o4, o5, o6⟩ := sr.own i xs hc
                    refine ⟨_, o2, .inl ⟨rfl, _, .inl (.inl o3)⟩, ?_⟩
                    refine ke σ H Vw (hidR ρ) n _ _ sr.stt sr.hid hw' fun v H1 Vw1 d n1 s1 st1 b1 d1 q1 => ?_
                    have sr1 := sr.adv s1 st1
                    refine ke2 σ H1 Vw1 (hidR ρ) n1 _ _ st1 sr1.hid q1 fun v2 H2 Vw2 d2 n2 s2 st2 b2 dd2 q2 => ?_
                    have sr2 := sr1.adv s2 st2
                    obtain ⟨_, a', vs', p2, p3, p4, p5, p6⟩ := sr2.own i xs hc
                    rw [o2] at p2
                    cases p2
                    cases d with
                    | int j =>
                      cases d1
                      obtain ⟨⟨z1, z2, z3⟩, q2⟩ := q2
                      refine ⟨a, vs', j, v2, rfl, rfl, p3, ?_, z2, z3, ?_⟩
                      · rw [dpa_len p6]; exact z1
                      · exact kn σ _ Vw2 _ n2 (sr2.grow hc o2 p3 p4 p5 (dpa_app (dpa_snoc (dpa_take _ p6) dd2) (dpa_drop _ p6))) (s1.view.trans s2.view) q2
                    | _ => exact False.elim q2.1
          · exact ds_F
        · exact ds_F
end
end RT
namespace RT
open PySem PySem.Spec PyProof.Rows L2
section
variable {X : Cx} {C : Cfg} {sc : Scope} {bx : BxT}
theorem ds_assign (f : Nat) {tgs : List Expr} {e : Expr} {pos : Pos} (hb : bx.tabs = C.tabs) (cx : Ctx X C false sc) : DS X C bx (.Assign tgs e pos) (wsAssign C f sc tgs e) := by
  unfold wsAssign
  split
  · exact ds_set f hb cx
  · rename_i ts kt pt
    split
    · split
      · rename_i x px y py a b
        split
        · rename_i hc
          exact ds_par f hb cx hc
        · exact ds_F
      · exact ds_F
    · rename_i x p
      exact ds_unpack cx (sE hb f C X false sc hb cx _) rfl (by intro _ _ _ h; cases h)
    · rename_i g es ks p
      exact ds_unpack cx (sE hb f C X false sc hb cx _) rfl (by intro _ _ _ h; cases h)
    · exact ds_F
  · rename_i x px kc pc ps
    exact ds_box f hb cx
  · exact ds_F
theorem sS (hb : bx.tabs = C.tabs) (cx : Ctx X C false sc) : ∀ (f : Nat) (st : Stmt), DS X C bx st (wpS C f sc st)
  | 0, st => by unfold wpS; exact ds_F
  | f + 1, st => by
    have ih := sS hb cx f
    have hE := sE hb f C X false sc hb cx
    have hT := sT hb cx f
    unfold wpS
    split
    · exact ds_ret (hE _)
    · exact ds_retN
    · exact ds_assign f hb cx
    · exact ds_if (hT _) (dss ih _) (dss ih _)
    · rename_i tg iter body orelse pos
      split
      · by_cases hset : ∀ es k p, iter ≠ .Set es k p
        · exact ds_for cx.nox cx.calm hset (di_iter cx hE) (dg_tg cx) (dss ih _)
        · refine ⟨tNever, ps_never, fun H0 Vw0 σ H Vw ρ n nx rt E sr hw kn kr => ?_⟩
          exact hset (set_false hw)
      · exact ds_F
    · split
      · exact ds_while cx.nox (hT _) (dss ih _)
      · exact ds_F
    · split
      · exact ds_meth f hb cx
      · exact ds_F
    · exact ds_F
end
/-! ### defs -/
def cellD : D → Cell
  | .dict _ => .box
  | d => .shr d
def rho0 (N : List Str) (ds : List D) : RE := ds.map (fun d => some (cellD d)) ++ List.replicate (N.length - ds.length) none
def CalleeAt (P : Program) (w : World) (K : PySem.W.Frag) (mg : Str → Option Value) (base : Heap) (C : Cfg) (g : Str) (S : FnS) (m : Nat) : Prop :=
  ∃ (f : Addr) (fd : FuncData) (ps : List Str) (ar : Nat) (dvs : List V) (ds : List Value),
    FnOk P w K mg base CX0 C.lev f fd ps (spD K C.tabs ar S) ∧ mg g = some (.ref f) ∧ PySem.W.keepIn K (.ref f) = true ∧ Binds K fd ps ds ∧ Vals dvs ds ∧
    (∀ Vw, DqAll K Vw dvs (C.dfl g m)) ∧ m + dvs.length = ar
theorem pd_len {K : PySem.W.Frag} {bx : BxT} {A : Hp} {vs : List V} {ds : List D} (h : Paired (Dv K bx A) vs ds) : vs.length = ds.length := by
  induction h with
  | nil => rfl
  | cons _ _ ih => simp [ih]
theorem pd_get {K : PySem.W.Frag} {bx : BxT} {A : Hp} {vs : List V} {ds : List D} (h : Paired (Dv K bx A) vs ds) : ∀ {i : Nat} {d : D}, ds[i]? = some d → ∃ v, vs[i]? = some v ∧ Dv K bx A v d := by
  induction h with
  | nil => intro i d e; simp at e
  | cons a _ ih =>
    intro i d e
    cases i with
    | zero => simp at e; subst e; exact ⟨_, rfl, a⟩
    | succ i => simpa using ih (by simpa using e)
theorem cell_ok {K : PySem.W.Frag} {bx : BxT} {A : Hp} {v : V} {d : D} (h : Dv K bx A v d) : CellOk K bx A v (cellD d) := by
  rcases h with h | ⟨b, h1, h2, rfl⟩
  · cases d with
    | dict _ => cases h
    | _ => exact h
  · exact ⟨b, h1, h2⟩
section
variable {P : Program} {w : World} {K : PySem.W.Frag} {mg : Str → Option Value} {base : Heap} {x qual : Str} {params : Arguments} {body : List Stmt} {scope : Scope} {dvs : List V} {kws : List (Str × V)} {f : Addr} {fd : FuncData} {C : Cfg} {ps : List Str} {S : FnS}
/-- THE RULE for a def -/
theorem fn_ok (fuel : Nat) (F : FunD K x qual params body scope dvs kws f fd) (hs : FnScope C.N ps scope)
    (hcall : ∀ g S m, C.G g = some S → C.ar g m = true → CalleeAt P w K mg base C g S m)
    (hkonst : ∀ x d, C.konst x = some d → ∃ v u, mg x = some u ∧ RelV v u ∧ ∀ Vw, Dq K Vw v d)
    (hblt : ∀ f ∈ bltNames, mg f = none) (hgen : C.gens = true → ∃ c P', fd.code = .ref c ∧ GxR.TabB base mg c P' ∧ P' ∈ C.tabs)
    (hS : ∀ row n ds Qd, ds.length = ps.length → S row n ds Qd → wpSs (wpS { C with row := row } fuel scope) body (rho0 C.N ds) n (fun _ n => Qd .none n) Qd) :
    FnOk P w K mg base CX0 (C.lev + 13) f fd ps (spD K C.tabs ps.length S) := by
  obtain ⟨oc, od, dV, kV, doc, pm, an, cdv, ct, osl, rfl, lk, hcd, _, _⟩ := F.ex
  refine fn_of lk hcd hs (fun vs H Q E h => h.1) fun A outer s H vs Q E hr hsp => ?_
  obtain ⟨hl, bx, row, n, Vw, ds, Qd, hT, st, pd, hq, hQ⟩ := hsp
  have hld : ds.length = ps.length := (pd_len pd).symm.trans hl
  have cx : Ctx (cxOf CX0 P w K mg base C.N qual scope f cdv A outer s H E).nox { C with row := row } false scope := by
    refine ⟨rfl, hs.nd, rfl, rfl, hr.mono (by split <;> (show C.lev + _ ≤ C.lev + 12; omega)), hcall, hkonst, hblt, fun _ _ => rfl, fun hg => ?_, fun _ => hs.kind, rfl⟩
    obtain ⟨c, P', e1, e2, e3⟩ := hgen hg
    exact ⟨c, P', e1, e2, e3⟩
  obtain ⟨t, ht, kt⟩ := dss (sS (C := { C with row := row }) hT cx fuel) body
  refine ⟨t, PSs.nox ht, ?_⟩
  have hrep : Rep K bx Vw (L2.start C.N vs) (rho0 C.N ds) := by
    refine ⟨?_, fun i c e => ?_⟩
    · unfold L2.start rho0
      rw [List.length_append, List.length_append, List.length_map, List.length_map, List.length_replicate, List.length_replicate, pd_len pd]
    · unfold rho0 at e
      by_cases hi : i < ds.length
      · rw [List.getElem?_append_left (by simpa using hi), List.getElem?_map] at e
        cases q : ds[i]? with
        | none => rw [q] at e; cases e
        | some d =>
          rw [q] at e
          have e' : cellD d = c := Option.some.inj (Option.some.inj e)
          obtain ⟨v, g1, g2⟩ := pd_get pd q
          have hiv : i < vs.length := by rw [pd_len pd]; exact hi
          refine ⟨v, ?_, by rw [← e']; exact cell_ok g2⟩
          unfold L2.start
          rw [List.getElem?_append_left (by simpa using hiv), List.getElem?_map, g1]
          rfl
      · rw [List.getElem?_append_right (by simpa using hi), List.getElem?_replicate] at e
        split at e <;> cases e
  have sr : SR K { C with row := row } bx H Vw (L2.start C.N vs) (rho0 C.N ds) n H Vw := by
    refine ⟨fun b e => ?_, Stp.refl, st, hrep, fun i xs e => ?_⟩
    · rw [(st.box b e).1]
      exact fun z => by cases z
    · unfold rho0 at e
      by_cases hi : i < ds.length
      · rw [List.getElem?_append_left (by simpa using hi), List.getElem?_map] at e
        cases q : ds[i]? with
        | none => rw [q] at e; cases e
        | some d =>
          rw [q] at e
          have e' : cellD d = .own xs := Option.some.inj (Option.some.inj e)
          cases d <;> cases e'
      · rw [List.getElem?_append_right (by simpa using hi), List.getElem?_replicate] at e
        split at e <;> cases e
  refine kt H Vw (L2.start C.N vs) H Vw (rho0 C.N ds) n _ _ _ sr (hS row n ds Qd hld hq) (fun σ' H' Vw' ρ' n' sr' _ h => ?_) fun v H' Vw' d n' s1 st1 dq q => ?_
  · exact hQ .non H' Vw' .none n' sr'.stp sr'.stt .non h
  · exact hQ v H' Vw' d n' s1 st1 dq q
end
end RT
namespace RT
open PySem PySem.Spec PyProof.Rows L2
/-! ### what the program computes, over Rat -/
abbrev Ray := Rat × Rat
structure HP where
  p : Int
  q : Int
  r : Int
  deriving DecidableEq
structure Mp where
  a : Rat
  b : Rat
  c : Rat
  d : Rat
  e : Rat
  f : Rat
  deriving DecidableEq
inductive El where
  | gap (t : Rat)
  | lens (p : Rat) (h : Rat)
  | prism (s : Rat)
  | afocal (m : Rat)
  | stop (lo hi : Option Rat)
  deriving DecidableEq
inductive Kd where
  | empty
  | area
  | line
  | halfLine
  | point
  | segment
  deriving DecidableEq

def sgn (q : Rat) : Int := if 0 < q then 1 else if q < 0 then -1 else 0
def leastM : List (Option Rat) → Option Rat → Option Rat
  | [], best => best
  | none :: r, best => leastM r best
  | some v :: r, none => leastM r (some v)
  | some v :: r, some b => leastM r (if v < b then some v else some b)
def greatM : List (Option Rat) → Option Rat → Option Rat
  | [], best => best
  | none :: r, best => greatM r best
  | some v :: r, none => greatM r (some v)
  | some v :: r, some b => greatM r (if b < v then some v else some b)
def nearM (lo hi : Option Rat) : Rat := match lo with
  | some l => if 0 < l then l else (match hi with
    | some u => if u < 0 then u else 0
    | none => 0)
  | none => (match hi with
    | some u => if u < 0 then u else 0
    | none => 0)

def idM : Mp := ⟨1, 0, 0, 1, 0, 0⟩
def elM : El → Mp
  | .gap t => ⟨1, t, 0, 1, 0, 0⟩
  | .lens p h => ⟨1, 0, -p, 1, 0, p * h⟩
  | .prism s => ⟨1, 0, 0, 1, 0, s⟩
  | .afocal m => ⟨m, 0, 0, 1 / m, 0, 0⟩
  | .stop _ _ => idM
def apM (m : Mp) (x : Ray) : Ray := (m.a * x.1 + m.b * x.2 + m.e, m.c * x.1 + m.d * x.2 + m.f)
/-- first, then second -/
def coM (x y : Mp) : Mp := ⟨y.a * x.a + y.b * x.c, y.a * x.b + y.b * x.d, y.c * x.a + y.d * x.c, y.c * x.b + y.d * x.d, y.a * x.e + y.b * x.f + y.e, y.c * x.e + y.d * x.f + y.f⟩
def trFrom (m : Mp) : List El → Mp
  | [] => m
  | e :: r => trFrom (coM m (elM e)) r
def trM (t : List El) : Mp := trFrom idM t

def crossH (a b : HP) : Int := a.p * b.q - a.q * b.p
def dotH (a b : HP) : Int := a.p * b.p + a.q * b.q
def oppH (a : HP) : HP := ⟨-a.p, -a.q, -a.r⟩
def absI (i : Int) : Int := if i < 0 then -i else i
def n1 (a : HP) : Int := absI a.p + absI a.q
def reachH (a : HP) : Rat := (a.r : Rat) / (n1 a : Rat)
def half1 (a : HP) : Bool := decide (0 < a.q) || (decide (a.q = 0) && decide (0 < a.p))
def beforeH (a b : HP) : Bool := if half1 a ≠ half1 b then half1 a else if crossH a b ≠ 0 then decide (0 < crossH a b) else decide (reachH a < reachH b)
def insH (found : List HP) (h : HP) : List HP := if h ∈ found then found else
  let k := (found.filter fun g => beforeH g h).length
  found.take k ++ [h] ++ found.drop k
def ordFrom (found : List HP) : List HP → List HP
  | [] => found
  | h :: r => ordFrom (insH found h) r
def ordH (L : List HP) : List HP := ordFrom [] L

/-- a primitive triple -/
def mkH (p q r : Rat) : HP :=
  let s : Int := p.den * q.den * r.den
  let x := p.num * s.fdiv p.den
  let y := q.num * s.fdiv q.den
  let z := r.num * s.fdiv r.den
  let g : Int := Int.gcd (Int.gcd x y) z
  ⟨x.fdiv g, y.fdiv g, z.fdiv g⟩
abbrev Edge := Nat × Bool
/-- false: the lower side -/
def edgesM (i : Nat) (lo hi : Option Rat) (m : Mp) : List (Edge × HP) :=
  (match lo with
    | some l => [((i, false), mkH (-m.a) (-m.b) (m.e - l))]
    | none => []) ++
  (match hi with
    | some u => [((i, true), mkH m.a m.b (u - m.e))]
    | none => [])
def elEdges (i : Nat) (e : El) (m : Mp) : List (Edge × HP) := match e with
  | .stop lo hi => edgesM i lo hi m
  | _ => []
def hpFrom (i : Nat) (m : Mp) : List El → List (Edge × HP)
  | [] => []
  | e :: r => elEdges i e m ++ hpFrom (i + 1) (coM m (elM e)) r
def hpM (t : List El) : List (Edge × HP) := hpFrom 0 idM t
def evH (h : HP) (x : Ray) : Rat := (h.p : Rat) * x.1 + (h.q : Rat) * x.2
def hasM (L : List HP) (x : Ray) : Bool := L.all fun h => decide (evH h x ≤ (h.r : Rat))

def oppW (a b : HP) : Option (List Int) := if crossH a b ≠ 0 ∨ 0 ≤ dotH a b then none else
  let d : Int := Int.gcd (n1 b) (n1 a)
  some [(n1 b).fdiv d, (n1 a).fdiv d]
def triP (u v w : Int) : Option (List Int) := if ([u, v, w].any fun x => decide (x ≤ 0)) = true then none else
  some ([u, v, w].map fun x => x.fdiv (Int.gcd (Int.gcd u v) w : Nat))
def triW (a b c : HP) : Option (List Int) := if crossH b c < 0 then triP (-crossH b c) (-crossH c a) (-crossH a b) else triP (crossH b c) (crossH c a) (crossH a b)
def hAt (L : List HP) (i : Nat) : HP := L.getD i ⟨0, 0, 0⟩
def up (i m : Nat) : List Nat := List.range' (i + 1) (m - (i + 1))
def row2 (L : List HP) (i : Nat) : List (List Nat × Option (List Int)) := (up i L.length).map fun j => ([i, j], oppW (hAt L i) (hAt L j))
def row3k (L : List HP) (i j : Nat) : List (List Nat × Option (List Int)) := (up j L.length).map fun k => ([i, j, k], triW (hAt L i) (hAt L j) (hAt L k))
def row3 (L : List HP) (i : Nat) : List (List Nat × Option (List Int)) := (up i L.length).flatMap (row3k L i)
def setsAll (L : List HP) : List (List Nat × Option (List Int)) := (List.range L.length).flatMap (row2 L) ++ (List.range L.length).flatMap (row3 L)
def setsM (L : List HP) : List (List Nat × List Int) := (setsAll L).filterMap fun x => match x.2 with
  | some w => some (x.1, w)
  | none => none
def sumI : List Int → Int
  | [] => 0
  | i :: r => i + sumI r
def numM (L : List HP) (ix : List Nat) (ws : List Int) : Int := sumI ((ix.zip ws).map fun x => (hAt L x.1).r * x.2)
def empM (L : List HP) : Bool := (setsM L).any fun x => decide (numM L x.1 x.2 < 0)

def sglM (h : HP) (p q : Rat) : Option Rat :=
  if (h.p : Rat) * q - (h.q : Rat) * p ≠ 0 ∨ sgn ((h.p : Rat) * p + (h.q : Rat) * q) ≤ 0 then none else some (((h.p : Rat) * p + (h.q : Rat) * q) / (dotH h h : Rat) * (h.r : Rat))
def pwM (a b : HP) (p q : Rat) : Option (Rat × Rat) :=
  if crossH a b = 0 then none else
  let x := (p * (b.q : Rat) - q * (b.p : Rat)) / (crossH a b : Rat)
  let y := (q * (a.p : Rat) - p * (a.q : Rat)) / (crossH a b : Rat)
  if sgn x ≤ 0 ∨ sgn y ≤ 0 then none else some (x, y)
def prM (a b : HP) (p q : Rat) : Option Rat := match pwM a b p q with
  | none => none
  | some (x, y) => some (x * (a.r : Rat) + y * (b.r : Rat))
def pairsL {α β : Type} (f : α → α → β) : List α → List β
  | [] => []
  | a :: r => r.map (f a) ++ pairsL f r
def supM (L : List HP) (p q : Rat) : Option Rat := if p = 0 ∧ q = 0 then some 0 else
  leastM (L.map (fun h => sglM h p q) ++ pairsL (fun a b => prM a b p q) L) none
def infM (L : List HP) (p q : Rat) : Option Rat := (supM L (-p) (-q)).map fun v => -v
def drM (L : List HP) (p q : Rat) : Option (Option Rat × Option Rat) := if empM L = true then none else some (infM L p q, supM L p q)
def lineM (L : List HP) : List HP → Option HP
  | [] => none
  | h :: r => if infM L (h.p : Rat) (h.q : Rat) = some (h.r : Rat) then some h else lineM L r
def kindM (L : List HP) : Kd := if empM L = true then .empty else match lineM L L with
  | none => .area
  | some h => match infM L ((-h.q : Int) : Rat) (h.p : Rat), supM L ((-h.q : Int) : Rat) (h.p : Rat) with
    | none, none => .line
    | none, some _ => .halfLine
    | some _, none => .halfLine
    | some l, some u => if l = u then .point else .segment
def smpM (L : List HP) : Option Ray := match drM L 1 0 with
  | none => none
  | some (lo, hi) =>
    let h := nearM lo hi
    match drM (L ++ [mkH 1 0 h, mkH (-1) 0 (-h)]) 0 1 with
    | none => none
    | some (l, u) => some (h, nearM l u)
def impM (L : List HP) (h : HP) : Bool := if empM L = true then true else match supM L (h.p : Rat) (h.q : Rat) with
  | none => false
  | some v => decide (v ≤ (h.r : Rat))

def plM (t : List El) : List HP := (hpM t).map (·.2)
def neeM (L : List HP) : List HP := (ordH L).filter fun h => !impM ((ordH L).filter fun g => decide (g ≠ h)) h
def zH : HP := ⟨0, 0, 0⟩
def carM (L : List HP) : HP := match lineM L L with
  | some h => (ordH [h, oppH h]).headD zH
  | none => zH
def endM (L : List HP) (x y : Int) : List HP := match supM L (x : Rat) (y : Rat) with
  | some v => [mkH (x : Rat) (y : Rat) v]
  | none => []
def lpM (L : List HP) : List HP :=
  let l := carM L
  let g : Int := Int.gcd l.p l.q
  let x := (-l.q).fdiv g
  let y := l.p.fdiv g
  ordH ([l, oppH l] ++ endM L (x * 1) (y * 1) ++ endM L (x * -1) (y * -1))
def ppM (x : Ray) : List HP := ordH [mkH 1 0 x.1, mkH 0 1 x.2, mkH (-1) (-1) (-(x.1 + x.2))]
def chM (L : List HP) : List HP := match kindM L with
  | .empty => ordH [⟨1, 0, -1⟩, ⟨-1, 0, 0⟩]
  | .area => neeM L
  | .point => ppM ((smpM L).getD (0, 0))
  | _ => lpM L
def brM (L : List HP) : List Ray := match kindM L with
  | .empty => []
  | .area => [(0, 0), (1, 0), (0, 1)]
  | .point => [(smpM L).getD (0, 0)]
  | _ =>
    let l := carM L
    let s : Int := l.p * l.p + l.q * l.q
    let near : Ray := ((l.p * l.r : Int) / (s : Rat), (l.q * l.r : Int) / (s : Rat))
    [near, (near.1 + ((-l.q : Int) : Rat), near.2 + (l.p : Rat))]
structure CF where
  kind : Kd
  hps : List HP
  exits : List (Ray × Ray)
  deriving DecidableEq
def cfM (t : List El) : CF := ⟨kindM (plM t), chM (plM t), (brM (plM t)).map fun x => (x, apM (trM t) x)⟩
def woEl (e : El) (side : Bool) : El := match e with
  | .stop lo hi => if side = true then .stop lo none else .stop none hi
  | e => e
def woM (t : List El) (e : Edge) : List El := t.take e.1 ++ [woEl (t.getD e.1 (.gap 0)) e.2] ++ t.drop (e.1 + 1)
def redM (t : List El) (e : Edge) (h : HP) : Bool := empM (plM (woM t e)) || impM (plM (woM t e)) h
def reM (t : List El) : List Edge := ((hpM t).filter fun x => redM t x.1 x.2).map (·.1)
def simLoop : Nat → List El → List El
  | 0, t => t
  | k + 1, t => match reM t with
    | [] => t
    | e :: _ => simLoop k (woM t e)
def simM (t : List El) : List El := (simLoop (2 * t.length) t).filter fun e => decide (e ≠ .stop none none)

def meetM (a b : HP) : Option Ray := if crossH a b = 0 then none else
  some ((a.r * b.q - b.r * a.q : Int) / (crossH a b : Rat), (a.p * b.r - b.p * a.r : Int) / (crossH a b : Rat))
def rbM (x y : Ray) : Bool := if sgn (x.1 - y.1) = 0 then decide (sgn (x.2 - y.2) < 0) else decide (sgn (x.1 - y.1) < 0)
def putM (l : List Ray) (x : Ray) : List Ray := if x ∈ l then l else
  let k := (l.filter fun y => rbM y x).length
  l.take k ++ [x] ++ l.drop k
def satM (L : List HP) (p q v : Rat) : Option Ray := smpM (L ++ [mkH p q v, mkH (-p) (-q) (-v)])
def ovM (L : List HP) (h : HP) : Option Rat := match supM L (h.p : Rat) (h.q : Rat) with
  | none => greatM [some ((h.r : Rat) + 1), infM L (h.p : Rat) (h.q : Rat)] none
  | some u => if (h.r : Rat) < u then some u else none
def roLoop (L : List HP) : List HP → Option Ray
  | [] => none
  | h :: r => match ovM L h with
    | some v => satM L (h.p : Rat) (h.q : Rat) v
    | none => roLoop L r
def roM (L M : List HP) : Option Ray := if empM L = true then none else roLoop L M
def othM (L : List HP) (p q t : Rat) : Option Rat :=
  let lo := (infM L p q).map fun v => v + t
  match supM L p q with
  | none => greatM [some 1, lo] none
  | some u => if u + t ≠ 0 then some (u + t) else match lo with
    | none => some (-1)
    | some l => if l ≠ 0 then some l else none
def difM (L : List HP) (p q t : Rat) : Option Ray := if p = 0 ∧ q = 0 then (if t = 0 then none else smpM L) else match othM L p q t with
  | none => none
  | some v => satM L p q (v - t)
def disM (t u : List El) : Option Ray :=
  match (match roM (plM t) (plM u) with
    | some x => some x
    | none => roM (plM u) (plM t)) with
  | some x => some x
  | none => if empM (plM t) = true then none else
    let m := trM t
    let k := trM u
    match difM (plM t) (m.a - k.a) (m.b - k.b) (m.e - k.e) with
    | some x => some x
    | none => difM (plM t) (m.c - k.c) (m.d - k.d) (m.f - k.f)
def blkM (e : El) (x : Ray) : Bool := match e with
  | .stop lo hi => (match lo with
      | some l => decide (x.1 < l)
      | none => false) || (match hi with
      | some u => decide (u < x.1)
      | none => false)
  | _ => false
def exM : List El → Ray → Option Ray
  | [], x => some x
  | e :: r, x => if blkM e x = true then none else exM r (apM (elM e) x)
end RT
namespace RT
open PySem PySem.Spec PyProof.Rows L2
abbrev top (i : Nat) : Stmt := Hd0.top i
/-! ### data of values -/
def encQ (q : Rat) : D := .tuple [.int q.num, .int q.den]
def encO (x : Option Rat) : D := match x with
  | none => .none
  | some q => encQ q
def encR (x : Ray) : D := .tuple [encQ x.1, encQ x.2]
def encX (x : Option Ray) : D := match x with
  | none => .none
  | some q => encR q
def encH (h : HP) : D := .tuple [.int h.p, .int h.q, .int h.r]
def encM (m : Mp) : D := .tuple [encQ m.a, encQ m.b, encQ m.c, encQ m.d, encQ m.e, encQ m.f]
def encE (e : El) : D := match e with
  | .gap t => .tuple [.str "gap", encQ t]
  | .lens p h => .tuple [.str "lens", encQ p, encQ h]
  | .prism s => .tuple [.str "prism", encQ s]
  | .afocal m => .tuple [.str "afocal", encQ m]
  | .stop lo hi => .tuple [.str "stop", encO lo, encO hi]
def sideS (b : Bool) : Str := if b = true then "upper" else "lower"
def encG (e : Edge) : D := .tuple [.int (e.1 : Nat), .str (sideS e.2)]
def encGH (e : Edge × HP) : D := .tuple [encG e.1, encH e.2]
def kdS : Kd → Str
  | .empty => "empty"
  | .area => "area"
  | .line => "line"
  | .halfLine => "halfLine"
  | .point => "point"
  | .segment => "segment"
def encRR (x : Ray × Ray) : D := .tuple [encR x.1, encR x.2]
def encL {α : Type} (e : α → D) (xs : List α) : D := .list (xs.map e)
def encC (c : CF) : D := .tuple [.str (kdS c.kind), encL encH c.hps, encL encRR c.exits]

/-! ### equal data -/
structure IsEnc {α : Type} [DecidableEq α] (e : α → D) (k : Nat) : Prop where
  lay : ∀ x, (e x).canLay0 = true
  dep : ∀ x, (e x).depth ≤ k
  eq : ∀ x y, PyData.eqv (e x) (e y) = decide (x = y)
section
variable {α β : Type} [DecidableEq α] [DecidableEq β] {e : α → D} {f : β → D} {k j : Nat}
theorem IsEnc.shp (h : IsEnc e k) (hk : k ≤ 64) (x : α) : SeqAt.shaped (e x) = true := by
  unfold SeqAt.shaped
  rw [h.lay x, Bool.true_and]
  exact decide_eq_true (Nat.le_trans (h.dep x) hk)
theorem shp_list (h : IsEnc e k) (hk : k + 1 ≤ 64) (xs : List α) : SeqAt.shaped (encL e xs) = true ∧ (encL e xs).canLay0 = true ∧ (encL e xs).depth ≤ k + 1 := by
  have h1 : ∀ xs : List α, PyData.canLayAll0 (xs.map e) = true ∧ PyData.depthAll (xs.map e) ≤ k := fun xs => by
    induction xs with
    | nil => exact ⟨rfl, Nat.zero_le _⟩
    | cons x xs ih =>
      refine ⟨?_, ?_⟩
      · show (PyData.canLay0 (e x) && PyData.canLayAll0 (xs.map e)) = true
        rw [h.lay x, ih.1]
        rfl
      · show max (PyData.depth (e x)) (PyData.depthAll (xs.map e)) ≤ k
        exact Nat.max_le.mpr ⟨h.dep x, ih.2⟩
  have h2 : (encL e xs).canLay0 = true := (h1 xs).1
  have h3 : (encL e xs).depth ≤ k + 1 := Nat.succ_le_succ (h1 xs).2
  refine ⟨?_, h2, h3⟩
  unfold SeqAt.shaped
  rw [h2, Bool.true_and]
  exact decide_eq_true (Nat.le_trans h3 hk)
theorem eqvAll_map (h : IsEnc e k) : ∀ xs ys : List α, PyData.eqvAll (xs.map e) (ys.map e) = decide (xs = ys)
  | [], [] => rfl
  | [], _ :: _ => rfl
  | _ :: _, [] => rfl
  | x :: xs, y :: ys => by
    show (PyData.eqv (e x) (e y) && PyData.eqvAll (xs.map e) (ys.map e)) = _
    rw [h.eq x y, eqvAll_map h xs ys]
    by_cases h1 : x = y <;> by_cases h2 : xs = ys <;> simp [h1, h2]
theorem IsEnc.list (h : IsEnc e k) (hk : k + 1 ≤ 64) : IsEnc (encL e) (k + 1) := ⟨fun x => (shp_list h hk x).2.1, fun x => (shp_list h hk x).2.2, fun x y => eqvAll_map h x y⟩
theorem IsEnc.pair (h : IsEnc e k) (g : IsEnc f k) : IsEnc (fun x : α × β => PyData.tuple [e x.1, f x.2]) (k + 1) := ⟨fun x => by
    show (PyData.canLay0 (e x.1) && (PyData.canLay0 (f x.2) && true)) = true
    rw [h.lay, g.lay]
    rfl, fun x => by
    show max (PyData.depth (e x.1)) (max (PyData.depth (f x.2)) 0) + 1 ≤ k + 1
    have := h.dep x.1
    have := g.dep x.2
    omega, fun x y => by
    show (PyData.eqv (e x.1) (e y.1) && (PyData.eqv (f x.2) (f y.2) && true)) = _
    rw [h.eq, g.eq]
    obtain ⟨a, b⟩ := x
    obtain ⟨c, d⟩ := y
    by_cases h1 : a = c <;> by_cases h2 : b = d <;> simp [h1, h2]⟩
theorem IsEnc.mono (h : IsEnc e k) (hk : k ≤ j) : IsEnc e j := ⟨h.lay, fun x => Nat.le_trans (h.dep x) hk, h.eq⟩
theorem any_in (h : IsEnc e k) (x : α) : ∀ xs : List α, ((xs.map e).any fun z => PyData.eqv z (e x)) = decide (x ∈ xs)
  | [] => by simp
  | y :: ys => by
    rw [List.map_cons, List.any_cons, any_in h x ys, h.eq]
    by_cases h1 : y = x
    · subst h1; simp
    · have h2 : x ≠ y := fun z => h1 z.symm
      by_cases h3 : x ∈ ys <;> simp [h1, h2, h3]
end
theorem isQ : IsEnc encQ 1 := ⟨fun _ => rfl, fun _ => Nat.le_refl _, fun x y => by
  show ((x.num == y.num) && (((x.den : Int) == (y.den : Int)) && true)) = _
  by_cases h : x = y
  · subst h; simp
  · have : ¬ (x.num = y.num ∧ x.den = y.den) := fun z => h (Rat.ext z.1 z.2)
    rw [decide_eq_false h]
    by_cases h1 : x.num = y.num
    · have h2 : x.den ≠ y.den := fun z => this ⟨h1, z⟩
      simp [h1, Int.ofNat_inj, h2]
    · simp [h1]⟩
theorem isO : IsEnc encO 1 := ⟨fun x => by cases x <;> rfl, fun x => by
  cases x with
  | none => exact Nat.zero_le _
  | some q => exact isQ.dep q, fun x y => by
  cases x with
  | none => cases y <;> rfl
  | some a =>
    cases y with
    | none => rfl
    | some b =>
      show PyData.eqv (encQ a) (encQ b) = _
      rw [isQ.eq]
      by_cases h : a = b <;> simp [h]⟩
theorem isR : IsEnc encR 2 := isQ.pair isQ
theorem isRR : IsEnc encRR 3 := isR.pair isR
theorem isX : IsEnc encX 2 := ⟨fun x => by cases x <;> rfl, fun x => by
  cases x with
  | none => exact Nat.zero_le _
  | some q => exact isR.dep q, fun x y => by
  cases x with
  | none => cases y <;> rfl
  | some a =>
    cases y with
    | none => rfl
    | some b =>
      show PyData.eqv (encR a) (encR b) = _
      rw [isR.eq]
      by_cases h : a = b <;> simp [h]⟩
theorem isH : IsEnc encH 1 := ⟨fun _ => rfl, fun _ => Nat.le_refl _, fun x y => by
  show ((x.p == y.p) && ((x.q == y.q) && ((x.r == y.r) && true))) = _
  obtain ⟨a, b, c⟩ := x
  obtain ⟨a', b', c'⟩ := y
  by_cases h1 : a = a' <;> by_cases h2 : b = b' <;> by_cases h3 : c = c' <;> simp [h1, h2, h3]⟩
theorem shpE (e : El) : SeqAt.shaped (encE e) = true := by
  cases e with
  | stop lo hi => cases lo <;> cases hi <;> kernel_rfl
  | _ => kernel_rfl
theorem eqE (e : El) : PyData.eqv (encE e) (encE (.stop none none)) = decide (e = .stop none none) := by
  cases e with
  | stop lo hi =>
    cases lo <;> cases hi
    · rw [decide_eq_true rfl]; kernel_rfl
    · rw [decide_eq_false (by intro h; cases h)]; kernel_rfl
    · rw [decide_eq_false (by intro h; cases h)]; kernel_rfl
    · rw [decide_eq_false (by intro h; cases h)]; kernel_rfl
  | _ => rw [decide_eq_false (by intro h; cases h)]; kernel_rfl
theorem kd_lay (x : Kd) : PyData.canLay0 (.str (kdS x)) = true := by cases x <;> kernel_rfl
theorem kd_eq (x y : Kd) : PyData.eqv (.str (kdS x)) (.str (kdS y)) = decide (x = y) := by
  cases x <;> cases y <;> first | (rw [decide_eq_true rfl]; kernel_rfl) | (rw [decide_eq_false (by intro h; cases h)]; kernel_rfl)
theorem isK : IsEnc (fun x => PyData.str (kdS x)) 0 := ⟨kd_lay, fun _ => Nat.le_refl _, kd_eq⟩
theorem isHs : IsEnc (encL encH) 2 := isH.list (by decide)
theorem isRRs : IsEnc (encL encRR) 4 := isRR.list (by decide)
theorem isC : IsEnc encC 5 := ⟨fun x => by
    show (PyData.canLay0 (.str (kdS x.kind)) && (PyData.canLay0 (encL encH x.hps) && (PyData.canLay0 (encL encRR x.exits) && true))) = true
    rw [kd_lay, isHs.lay, isRRs.lay]
    rfl, fun x => by
    show max 0 (max (PyData.depth (encL encH x.hps)) (max (PyData.depth (encL encRR x.exits)) 0)) + 1 ≤ 5
    have := isHs.dep x.hps
    have := isRRs.dep x.exits
    omega, fun x y => by
    show (PyData.eqv (.str (kdS x.kind)) (.str (kdS y.kind)) && (PyData.eqv (encL encH x.hps) (encL encH y.hps) && (PyData.eqv (encL encRR x.exits) (encL encRR y.exits) && true))) = _
    rw [kd_eq, isHs.eq, isRRs.eq]
    obtain ⟨a, b, c⟩ := x
    obtain ⟨a', b', c'⟩ := y
    by_cases h1 : a = a' <;> by_cases h2 : b = b' <;> by_cases h3 : c = c' <;> simp [h1, h2, h3]⟩
theorem isI : IsEnc PyData.int 0 := ⟨fun _ => rfl, fun _ => Nat.le_refl _, fun x y => by
  show (x == y) = _
  by_cases h : x = y <;> simp [h]⟩
theorem isB : IsEnc PyData.bool 0 := ⟨fun _ => rfl, fun _ => Nat.le_refl _, fun x y => by
  show (x == y) = _
  cases x <;> cases y <;> rfl⟩
theorem isS : IsEnc (fun b => PyData.str (sideS b)) 0 := ⟨fun x => by cases x <;> kernel_rfl, fun _ => Nat.le_refl _, fun x y => by
  cases x <;> cases y <;> first | (rw [decide_eq_true rfl]; kernel_rfl) | (rw [decide_eq_false (by intro h; cases h)]; kernel_rfl)⟩
/-! ### branches -/
theorem ite_i {c : Prop} [Decidable c] {A B : Prop} (h1 : c → A) (h2 : ¬c → B) : ite c A B := by
  by_cases h : c
  · rw [if_pos h]; exact h1 h
  · rw [if_neg h]; exact h2 h
theorem ite_t {b : Bool} {A B : Prop} (h1 : A) (h : b = true := by rfl) : ite (b = true) A B := by rw [if_pos h]; exact h1
theorem ite_f {b : Bool} {A B : Prop} (h1 : B) (h : b = false := by rfl) : ite (b = true) A B := by rw [if_neg (by rw [h]; decide)]; exact h1
theorem ite_d {p : Prop} [Decidable p] {A B : Prop} (h1 : p → A) (h2 : ¬p → B) : ite (decide p = true) A B := by
  by_cases h : p
  · rw [if_pos (decide_eq_true h)]; exact h1 h
  · rw [if_neg (by rw [decide_eq_false h]; decide)]; exact h2 h
theorem eq_i {α : Type} [DecidableEq α] {e : α → D} {k : Nat} (h : IsEnc e k) (hk : k ≤ 64) (x y : α) {Q : Bool → Prop} (q : Q (decide (x = y))) : eqD (e x) (e y) Q := ⟨h.shp hk x, h.shp hk y, by rw [h.eq]; exact q⟩
/-! ### sizes -/
def bz (a : Nat) (i : Int) : Prop := i.natAbs < 2 ^ a
def bq (a b : Nat) (q : Rat) : Prop := q.num.natAbs < 2 ^ a ∧ q.den < 2 ^ b
def bh (a : Nat) (h : HP) : Prop := bz a h.p ∧ bz a h.q ∧ bz a h.r
theorem bz_mono {a b : Nat} {i : Int} (h : bz a i) (hab : a ≤ b) : bz b i := Nat.lt_of_lt_of_le h (Nat.pow_le_pow_right (by decide) hab)
theorem bq_mono {a b c d : Nat} {q : Rat} (h : bq a b q) (h1 : a ≤ c) (h2 : b ≤ d) : bq c d q := ⟨Nat.lt_of_lt_of_le h.1 (Nat.pow_le_pow_right (by decide) h1), Nat.lt_of_lt_of_le h.2 (Nat.pow_le_pow_right (by decide) h2)⟩
theorem bz_mul {a b : Nat} {i j : Int} (h : bz a i) (g : bz b j) : bz (a + b) (i * j) := by
  unfold bz at *
  rw [Int.natAbs_mul, Nat.pow_add]
  have h1 : i.natAbs * j.natAbs ≤ i.natAbs * 2 ^ b := Nat.mul_le_mul_left _ (Nat.le_of_lt g)
  have h2 : i.natAbs * 2 ^ b < 2 ^ a * 2 ^ b := Nat.mul_lt_mul_of_pos_right h (Nat.pow_pos (by decide))
  omega
theorem bz_add {a b : Nat} {i j : Int} (h : bz a i) (g : bz b j) : bz (max a b + 1) (i + j) := by
  have h1 := bz_mono h (Nat.le_max_left a b)
  have h2 := bz_mono g (Nat.le_max_right a b)
  unfold bz at *
  rw [Nat.pow_succ]
  omega
theorem bz_neg {a : Nat} {i : Int} (h : bz a i) : bz a (-i) := by
  unfold bz at *
  rw [Int.natAbs_neg]
  exact h
theorem bz_log {a : Nat} {i : Int} (h : bz a i) (ha : 0 < a) : i.natAbs.log2 < a := by
  by_cases h0 : i.natAbs = 0
  · rw [h0]; exact ha
  · exact (Nat.log2_lt h0).mpr h
theorem den_ne (q : Rat) : ((q.den : Int) : Rat) ≠ 0 := fun h => q.den_nz (by
  have := Rat.intCast_eq_zero_iff.mp h
  omega)
theorem q_num (q : Rat) : q * ((q.den : Int) : Rat) = (q.num : Rat) := by
  have h : (q.num : Rat) / ((q.den : Int) : Rat) = q := (Rat.divInt_eq_div _ _).symm.trans (Rat.num_divInt_den q)
  have h2 : (q.num : Rat) / ((q.den : Int) : Rat) * ((q.den : Int) : Rat) = (q.num : Rat) := Rat.div_mul_cancel (den_ne q)
  rw [h] at h2
  exact h2
/-- a value with these two numbers -/
theorem bq_of {a b : Nat} {q : Rat} {N D : Int} (hD : D ≠ 0) (h : q * (D : Rat) = (N : Rat)) (hN : bz a N) (hd : bz b D) : bq a b q := by
  have e : q.num * D = N * q.den := by
    have h2 : ((q.num * D : Int) : Rat) = ((N * q.den : Int) : Rat) := by
      rw [Rat.intCast_mul, Rat.intCast_mul, ← q_num q, ← h]
      grind
    exact Rat.intCast_inj.mp h2
  have hc := q.reduced
  have e2 : q.num.natAbs * D.natAbs = N.natAbs * q.den := by
    have := congrArg Int.natAbs e
    rw [Int.natAbs_mul, Int.natAbs_mul] at this
    simpa using this
  have d1 : q.den ∣ D.natAbs := (Nat.Coprime.dvd_of_dvd_mul_left (Nat.Coprime.symm hc) ⟨N.natAbs, by rw [e2, Nat.mul_comm]⟩)
  obtain ⟨k, hk⟩ := d1
  have hk0 : 0 < k := by
    rcases Nat.eq_zero_or_pos k with z | z
    · subst z
      simp at hk
      exact absurd hk hD
    · exact z
  have hq : N.natAbs = q.num.natAbs * k := by
    have : q.den * (q.num.natAbs * k) = q.den * N.natAbs := by
      rw [Nat.mul_comm q.den N.natAbs, ← e2, hk]
      rw [Nat.mul_left_comm]
    exact (Nat.eq_of_mul_eq_mul_left (Nat.pos_of_ne_zero q.den_nz) this).symm
  unfold bz at hN hd
  refine ⟨Nat.lt_of_le_of_lt ?_ hN, Nat.lt_of_le_of_lt ?_ hd⟩
  · rw [hq]
    exact Nat.le_mul_of_pos_right _ hk0
  · rw [hk]
    exact Nat.le_mul_of_pos_right _ hk0
end RT
namespace RT
open PySem PySem.Spec PyProof.Rows L2
theorem bq_int {a : Nat} {i : Int} (h : bz a i) : bq a 1 (i : Rat) := ⟨h, (by decide : 1 < 2 ^ 1)⟩
theorem bq_neg {a b : Nat} {q : Rat} (h : bq a b q) : bq a b (-q) := ⟨by show ((-q.num).natAbs < 2 ^ a); rw [Int.natAbs_neg]; exact h.1, h.2⟩
theorem bz_den {a b : Nat} {q : Rat} (h : bq a b q) : bz b (q.den : Int) := h.2
theorem bz_num {a b : Nat} {q : Rat} (h : bq a b q) : bz a q.num := h.1
theorem den_z (q : Rat) : (q.den : Int) ≠ 0 := fun h => q.den_nz (by omega)
theorem bq_add {a b c d : Nat} {p q : Rat} (h : bq a b p) (g : bq c d q) : bq (max (a + d) (c + b) + 1) (b + d) (p + q) := by
  refine bq_of (N := p.num * q.den + q.num * p.den) (D := p.den * q.den) ?_ ?_ (bz_add (bz_mul (bz_num h) (bz_den g)) (bz_mul (bz_num g) (bz_den h))) (bz_mul (bz_den h) (bz_den g))
  · exact Int.mul_ne_zero (den_z p) (den_z q)
  · rw [Rat.intCast_add, Rat.intCast_mul, Rat.intCast_mul, Rat.intCast_mul, ← q_num p, ← q_num q]
    grind
theorem bq_sub {a b c d : Nat} {p q : Rat} (h : bq a b p) (g : bq c d q) : bq (max (a + d) (c + b) + 1) (b + d) (p - q) := by
  rw [Rat.sub_eq_add_neg]
  exact bq_add h (bq_neg g)
theorem bq_mul {a b c d : Nat} {p q : Rat} (h : bq a b p) (g : bq c d q) : bq (a + c) (b + d) (p * q) := by
  refine bq_of (N := p.num * q.num) (D := p.den * q.den) ?_ ?_ (bz_mul (bz_num h) (bz_num g)) (bz_mul (bz_den h) (bz_den g))
  · exact Int.mul_ne_zero (den_z p) (den_z q)
  · rw [Rat.intCast_mul, Rat.intCast_mul, ← q_num p, ← q_num q]
    grind
theorem bq_div {a b c d : Nat} {p q : Rat} (h : bq a b p) (g : bq c d q) (hq : q ≠ 0) : bq (a + d) (b + c) (p / q) := by
  have hn : q.num ≠ 0 := fun z => hq (Rat.num_eq_zero.mp z)
  have h1 : p / q * q = p := Rat.div_mul_cancel hq
  refine bq_of (N := p.num * q.den) (D := p.den * q.num) ?_ ?_ (bz_mul (bz_num h) (bz_den g)) (bz_mul (bz_den h) (bz_num g))
  · exact Int.mul_ne_zero (den_z p) hn
  · rw [Rat.intCast_mul, Rat.intCast_mul, ← q_num p, ← q_num q]
    generalize p / q = t at *
    subst h1
    grind
/-- fit for every step -/
def sm (q : Rat) : Prop := bq 400000 4450 q
theorem sm_of {a b : Nat} {q : Rat} (h : bq a b q) (h1 : a ≤ 400000 := by omega) (h2 : b ≤ 4450 := by omega) : sm q := bq_mono h h1 h2
theorem cmul_of {a b : Nat} {i j : Int} (h : bz a i) (g : bz b j) (hab : a + b ≤ 999998) : CMulX i j := by
  refine .inl ?_
  have h1 : i.natAbs.log2 < a + 1 := bz_log (bz_mono h (Nat.le_succ a)) (Nat.succ_pos a)
  have h2 : j.natAbs.log2 < b + 1 := bz_log (bz_mono g (Nat.le_succ b)) (Nat.succ_pos b)
  show i.natAbs.log2 + j.natAbs.log2 < _
  omega
theorem cdiv_of {a : Nat} {i j : Int} (h : bz a j) (h0 : j ≠ 0) (ha : a ≤ 8999) : CDivZ i j := ⟨h0, Nat.lt_of_lt_of_le (bz_log (bz_mono h (Nat.le_succ a)) (Nat.succ_pos a)) (by omega)⟩
/-! ### defs by name -/
structure Fi where
  name : Str
  S : FnS
  ar : Nat
  df : List D
def findF (g : Str) : List Fi → Option Fi
  | [] => none
  | f :: r => if (f.name == g) = true then some f else findF g r
def mkC (N : List Str) (own : Option Nat) (cs : List Fi) (konst : Str → Option D) (gens : Bool) (tabs : List Addr) (lev : Nat) (row : List Int) : Cfg where
  N := N
  own := own
  G := fun g => (findF g cs).map (·.S)
  dfl := fun g m => match findF g cs with
    | some f => f.df.drop (f.df.length - (f.ar - m))
    | none => []
  ar := fun g m => match findF g cs with
    | some f => decide (m ≤ f.ar) && decide (f.ar - m ≤ f.df.length)
    | none => false
  konst := konst
  row := row
  gens := gens
  tabs := tabs
  lev := lev
def konD (x : Str) : Option D := if (x == ("ZERO" : Str)) = true then some (encQ 0) else if (x == ("ONE" : Str)) = true then some (encQ 1) else if (x == ("IDENTITY" : Str)) = true then some (encM idM) else none
/-- a def's body, from its top statement -/
abbrev W (i : Nat) (N : List Str) (own : Option Nat) (cs : List Fi) (gens : Bool) (T : List Addr) (lev : Nat) (row : List Int) (ds : List D) (n : Int) (Q : QD) : Prop :=
  wpSs (wpS (mkC N own cs konD gens T lev row) 12 (defScope (top i))) (defBody (top i)) (rho0 N ds) n (fun _ n => Q .none n) Q
end RT
namespace RT
open PySem PySem.Spec PyProof.Rows L2
/-! ### loops -/
def tgB (ss : List Stmt) (k : Nat) : Expr := match ss.getD k (.Pass ⟨0, 0, 0, 0⟩) with
  | .For t _ _ _ _ => t
  | _ => .Constant .none 0 ⟨0, 0, 0, 0⟩
def inB (ss : List Stmt) (k : Nat) : List Stmt := match ss.getD k (.Pass ⟨0, 0, 0, 0⟩) with
  | .For _ _ b _ _ => b
  | .While _ b _ _ => b
  | .If _ a _ _ => a
  | _ => []
section
variable {α : Type} {asg : D → RE → (RE → Prop) → Prop} {body : WS} {nx : NX} {rt : QD}
/-- a walk over xs: I of what is left -/
theorem for_i (e : α → D) (I : List α → RE → Int → Prop) (hb : ∀ x r ρ n (K : NX), I (x :: r) ρ n → (∀ ρ n, I r ρ n → K ρ n) → asg (e x) ρ fun ρ1 => body ρ1 n K rt)
    (he : ∀ ρ n, I [] ρ n → nx ρ n) : ∀ (xs : List α) ρ n, I xs ρ n → forD asg body (xs.map e) ρ n nx rt
  | [], ρ, n, h => he ρ n h
  | x :: r, ρ, n, h => hb x r ρ n _ h fun ρ2 n2 h2 => for_i e I hb he r ρ2 n2 h2
/-- a walk over i, i + 1, .. -/
theorem for_r (I : Nat → RE → Int → Prop) (lo : Int) (N : Nat) (hb : ∀ i ρ n (K : NX), i < N → I i ρ n → (∀ ρ n, I (i + 1) ρ n → K ρ n) → asg (.int (lo + (i : Nat))) ρ fun ρ1 => body ρ1 n K rt)
    (he : ∀ ρ n, I N ρ n → nx ρ n) : ∀ (m i : Nat) ρ n, i + m = N → I i ρ n → forD asg body (rngFrom lo i m) ρ n nx rt
  | 0, i, ρ, n, hi, h => he ρ n (by have : i = N := by omega
                                    exact this ▸ h)
  | m + 1, i, ρ, n, hi, h => hb i ρ n _ (by omega) h fun ρ2 n2 h2 => for_r I lo N hb he m (i + 1) ρ2 n2 (by omega) h2
/-- a walk over xs with their places -/
theorem for_e (e : α → D) (I : Nat → List α → RE → Int → Prop) (hb : ∀ i x r ρ n (K : NX), I i (x :: r) ρ n → (∀ ρ n, I (i + 1) r ρ n → K ρ n) → asg (.tuple [.int (i : Nat), e x]) ρ fun ρ1 => body ρ1 n K rt)
    (he : ∀ i ρ n, I i [] ρ n → nx ρ n) : ∀ (xs : List α) i ρ n, I i xs ρ n → forD asg body (enumFrom i (xs.map e)) ρ n nx rt
  | [], i, ρ, n, h => he i ρ n h
  | x :: r, i, ρ, n, h => hb i x r ρ n _ h fun ρ2 n2 h2 => for_e e I hb he r (i + 1) ρ2 n2 h2
end
section
variable {α : Type} {asg : D → (RE → Prop) → Prop} {tst : WB} {we : WD}
theorem comp_i (e : α → D) (g : α → Option D) (n : Int) {Q : List D → Int → Prop} : ∀ (xs : List α) (acc : List D), (∀ x ∈ xs, ∀ (K1 : D → Int → Prop) (K2 : Int → Prop), (∀ d, g x = some d → K1 d n) → (g x = none → K2 n) → asg (e x) fun ρ1 => tst ρ1 n fun b n1 => if b = true then we ρ1 n1 K1 else K2 n1) →
    Q (acc ++ xs.filterMap g) n → compD asg tst we (xs.map e) acc n Q
  | [], acc, _, q => by
    show Q acc n
    simpa using q
  | x :: r, acc, h, q => by
    refine h x (List.mem_cons_self ..) _ _ (fun d hd => ?_) (fun hd => ?_)
    · refine comp_i e g n r (acc ++ [d]) (fun y hy => h y (List.mem_cons_of_mem _ hy)) ?_
      rw [List.filterMap_cons, hd] at q
      simpa using q
    · refine comp_i e g n r acc (fun y hy => h y (List.mem_cons_of_mem _ hy)) ?_
      rw [List.filterMap_cons, hd] at q
      exact q
/-- no test -/
theorem comp_m (e : α → D) (g : α → D) (n : Int) {Q : List D → Int → Prop} : ∀ (xs : List α) (acc : List D), (∀ x ∈ xs, ∀ (K1 : D → Int → Prop), K1 (g x) n → asg (e x) fun ρ1 => we ρ1 n K1) →
    Q (acc ++ xs.map g) n → compD asg (fun _ n Q => Q true n) we (xs.map e) acc n Q
  | [], acc, _, q => by
    show Q acc n
    simpa using q
  | x :: r, acc, h, q => by
    refine h x (List.mem_cons_self ..) _ ?_
    refine comp_m e g n r (acc ++ [g x]) (fun y hy => h y (List.mem_cons_of_mem _ hy)) ?_
    simpa using q
/-- no test, whatever comes -/
theorem comp_d (P : D → Prop) {Q : List D → Int → Prop} : ∀ (items : List D) (acc : List D) (n : Int), (∀ x ∈ items, ∀ n (K1 : D → Int → Prop), (∀ d n, P d → K1 d n) → asg x fun ρ1 => we ρ1 n K1) →
    (∀ ds n, ds.length = items.length → (∀ d ∈ ds, P d) → Q (acc ++ ds) n) → compD asg (fun _ n Q => Q true n) we items acc n Q
  | [], acc, n, _, q => by
    have := q [] n rfl (by simp)
    show Q acc n
    simpa using this
  | x :: r, acc, n, h, q => by
    refine h x (List.mem_cons_self ..) n _ fun d n1 hd => ?_
    refine comp_d P r (acc ++ [d]) n1 (fun y hy => h y (List.mem_cons_of_mem _ hy)) fun ds n2 hl hds => ?_
    have := q (d :: ds) n2 (by simp [hl]) (by intro y hy; rcases List.mem_cons.mp hy with rfl | hy; exact hd; exact hds y hy)
    simpa using this
theorem any_i (e : α → D) (g : α → Bool) (n : Int) {Q : Bool → Int → Prop} : ∀ (xs : List α), (∀ x ∈ xs, ∀ (K : D → Int → Prop), K (.bool (g x)) n → asg (e x) fun ρ1 => we ρ1 n K) → Q (xs.any g) n → anyD true asg we (xs.map e) n Q
  | [], _, q => q
  | x :: r, h, q => by
    refine h x (List.mem_cons_self ..) _ ?_
    show if g x = true then _ else _
    rw [List.any_cons] at q
    cases hg : g x with
    | true => rw [hg] at q; exact q
    | false =>
      rw [hg] at q
      exact any_i e g n r (fun y hy => h y (List.mem_cons_of_mem _ hy)) q
theorem all_i (e : α → D) (g : α → Bool) (n : Int) {Q : Bool → Int → Prop} : ∀ (xs : List α), (∀ x ∈ xs, ∀ (K : D → Int → Prop), K (.bool (g x)) n → asg (e x) fun ρ1 => we ρ1 n K) → Q (xs.all g) n → anyD false asg we (xs.map e) n Q
  | [], _, q => q
  | x :: r, h, q => by
    refine h x (List.mem_cons_self ..) _ ?_
    show if g x = false then _ else _
    rw [List.all_cons] at q
    cases hg : g x with
    | false => rw [hg] at q; exact q
    | true =>
      rw [hg] at q
      exact all_i e g n r (fun y hy => h y (List.mem_cons_of_mem _ hy)) q
end
end RT
namespace RT
open PySem PySem.Spec PyProof.Rows L2
abbrev SE (x y : D) (P : Prop) : Prop := SeqAt.shaped x = true ∧ SeqAt.shaped y = true ∧ P
theorem str_t {x y : Str} {A B : Prop} (q : A) (h : (SeqAt.shaped (.str x) && (SeqAt.shaped (.str y) && PyData.eqv (.str x) (.str y))) = true := by kernel_rfl) : SE (.str x) (.str y) (ite (PyData.eqv (.str x) (.str y) = true) A B) := by
  simp only [Bool.and_eq_true] at h
  exact ⟨h.1, h.2.1, by rw [if_pos h.2.2]; exact q⟩
theorem str_f {x y : Str} {A B : Prop} (q : B) (h : (SeqAt.shaped (.str x) && (SeqAt.shaped (.str y) && !(PyData.eqv (.str x) (.str y)))) = true := by kernel_rfl) : SE (.str x) (.str y) (ite (PyData.eqv (.str x) (.str y) = true) A B) := by
  simp only [Bool.and_eq_true, Bool.not_eq_true'] at h
  exact ⟨h.1, h.2.1, by rw [if_neg (by rw [h.2.2]; decide)]; exact q⟩
theorem strn_t {x y : Str} {A B : Prop} (q : A) (h : (SeqAt.shaped (.str x) && (SeqAt.shaped (.str y) && !(PyData.eqv (.str x) (.str y)))) = true := by kernel_rfl) : SE (.str x) (.str y) (ite ((!PyData.eqv (.str x) (.str y)) = true) A B) := by
  simp only [Bool.and_eq_true, Bool.not_eq_true'] at h
  exact ⟨h.1, h.2.1, by rw [if_pos (by rw [h.2.2]; rfl)]; exact q⟩
theorem strn_f {x y : Str} {A B : Prop} (q : B) (h : (SeqAt.shaped (.str x) && (SeqAt.shaped (.str y) && PyData.eqv (.str x) (.str y))) = true := by kernel_rfl) : SE (.str x) (.str y) (ite ((!PyData.eqv (.str x) (.str y)) = true) A B) := by
  simp only [Bool.and_eq_true] at h
  exact ⟨h.1, h.2.1, by rw [if_neg (by rw [h.2.2]; decide)]; exact q⟩
theorem eq_d {α : Type} [DecidableEq α] {e : α → D} {k : Nat} (h : IsEnc e k) (x y : α) {A B : Prop} (hA : x = y → A) (hB : x ≠ y → B) (hk : k ≤ 64 := by decide) : SE (e x) (e y) (ite (PyData.eqv (e x) (e y) = true) A B) := by
  refine ⟨h.shp hk x, h.shp hk y, ?_⟩
  rw [h.eq]
  exact ite_d hA hB
theorem eq_n {α : Type} [DecidableEq α] {e : α → D} {k : Nat} (h : IsEnc e k) (x y : α) {A B : Prop} (hA : x ≠ y → A) (hB : x = y → B) (hk : k ≤ 64 := by decide) : SE (e x) (e y) (ite ((!PyData.eqv (e x) (e y)) = true) A B) := by
  refine ⟨h.shp hk x, h.shp hk y, ?_⟩
  rw [h.eq]
  by_cases c : x = y
  · rw [if_neg (by rw [decide_eq_true c]; decide)]; exact hB c
  · rw [if_pos (by rw [decide_eq_false c]; rfl)]; exact hA c
end RT
namespace RT
open PySem PySem.Spec PyProof.Rows L2
abbrev sh (d : D) : Option Cell := some (.shr d)
abbrev ow (ds : List D) : Option Cell := some (.own ds)
abbrev bxc : Option Cell := some .box
abbrev no : Option Cell := none
theorem sz (n : Nat) (h : n ≤ 1000 := by decide) : n ≤ sizeLine := sz1000 h
end RT
namespace RT
open PySem PySem.Spec PyProof.Rows L2
/-- a name is set -/
theorem nm {A B P : Prop} (h : P) (hl : A ∨ B := by first | exact Or.inl rfl | exact Or.inr ⟨rfl, rfl⟩) : (A ∨ B) ∧ P := ⟨hl, h⟩
theorem tr {P : Prop} (h : P) : True ∧ P := ⟨trivial, h⟩
end RT
namespace RT
open PySem PySem.Spec PyProof.Rows L2
theorem fm_if {α β : Type} (p : α → Bool) (f : α → β) : ∀ xs : List α, xs.filterMap (fun g => if p g = true then some (f g) else none) = (xs.filter p).map f
  | [] => rfl
  | x :: r => by
    rw [List.filterMap_cons, List.filter_cons]
    cases hp : p x with
    | true => simp [fm_if p f r]
    | false => simp [fm_if p f r]
theorem szlt {n : Nat} (h : n ≤ 100000) : n < sizeLine := by
  rw [sizeLine_eq]
  omega
end RT
namespace RT
open PySem PySem.Spec PyProof.Rows L2
/-- a stop on the way: what is left, told anew -/
theorem ck {P : Prop} (h : P) : P := h
end RT
namespace RT
open PySem PySem.Spec PyProof.Rows L2
section
variable {asg : D → RE → (RE → Prop) → Prop} {body : WS} {nx : NX} {rt : QD}
theorem for_rs (I : Nat → RE → Int → Prop) (lo hi : Nat) {a b : Int} (ha : a = (lo : Int)) (hb' : b = (hi : Int)) (hle : lo ≤ hi) (hb : ∀ j ρ n (K : NX), lo ≤ j → j < hi → I j ρ n → (∀ ρ n, I (j + 1) ρ n → K ρ n) → asg (.int (j : Nat)) ρ fun ρ1 => body ρ1 n K rt)
    (he : ∀ ρ n, I hi ρ n → nx ρ n) (ρ : RE) (n : Int) (h : I lo ρ n) : forD asg body (rngFrom a 0 (b - a).toNat) ρ n nx rt := by
  subst ha hb'
  have e : ((hi : Int) - (lo : Int)).toNat = hi - lo := by omega
  rw [e]
  refine for_r (fun i => I (lo + i)) (lo : Int) (hi - lo) (fun i ρ n K hi' h1 h2 => ?_) (fun ρ n h1 => he ρ n ?_) (hi - lo) 0 ρ n (by omega) h
  · have e2 : ((lo : Int) + (i : Nat)) = ((lo + i : Nat) : Int) := by omega
    rw [e2]
    exact hb (lo + i) ρ n K (by omega) (by omega) h1 h2
  · have e3 : lo + (hi - lo) = hi := by omega
    rw [e3] at h1
    exact h1
theorem for_r0 (I : Nat → RE → Int → Prop) (hi : Nat) {b : Int} (hb' : b = (hi : Int)) (hb : ∀ j ρ n (K : NX), j < hi → I j ρ n → (∀ ρ n, I (j + 1) ρ n → K ρ n) → asg (.int (j : Nat)) ρ fun ρ1 => body ρ1 n K rt)
    (he : ∀ ρ n, I hi ρ n → nx ρ n) (ρ : RE) (n : Int) (h : I 0 ρ n) : forD asg body (rngFrom 0 0 b.toNat) ρ n nx rt := by
  have := for_rs (asg := asg) (body := body) (nx := nx) (rt := rt) I 0 hi (a := 0) rfl hb' (Nat.zero_le _) (fun j ρ n K _ h1 h2 h3 => hb j ρ n K h1 h2 h3) he ρ n h
  rw [Int.sub_zero] at this
  exact this
end
theorem rg_succ {lo j : Nat} (h : lo ≤ j) : List.range' lo (j + 1 - lo) = List.range' lo (j - lo) ++ [j] := by
  have e : j + 1 - lo = (j - lo) + 1 := by omega
  rw [e, List.range'_1_concat]
  have e2 : lo + (j - lo) = j := by omega
  rw [e2]
end RT
namespace RT
open PySem PySem.Spec PyProof.Rows L2
/-! ### rationals -/
structure RaS where
  cd : FnS
  cd_i : ∀ row n a b Q, Q (.int (Int.gcd a b : Nat)) n → cd row n [.int a, .int b] Q
  fr : FnS
  fr_i : ∀ row n a b Q, b ≠ 0 → bz 8999 b → Q (encQ ((a : Rat) / (b : Rat))) n → fr row n [.int a, .int b] Q
  add : FnS
  add_i : ∀ row n p q Q, sm p → sm q → Q (encQ (p + q)) n → add row n [encQ p, encQ q] Q
  neg : FnS
  neg_i : ∀ row n p Q, Q (encQ (-p)) n → neg row n [encQ p] Q
  sub : FnS
  sub_i : ∀ row n p q Q, sm p → sm q → Q (encQ (p - q)) n → sub row n [encQ p, encQ q] Q
  mul : FnS
  mul_i : ∀ row n p q Q, sm p → sm q → Q (encQ (p * q)) n → mul row n [encQ p, encQ q] Q
  div : FnS
  div_i : ∀ row n p q Q, sm p → sm q → q ≠ 0 → bq 400000 4400 p → bz 4400 q.num → Q (encQ (p / q)) n → div row n [encQ p, encQ q] Q
  sgn : FnS
  sgn_i : ∀ row n p Q, Q (.int (RT.sgn p)) n → sgn row n [encQ p] Q
  cmp : FnS
  cmp_i : ∀ row n p q Q, sm p → sm q → Q (.int (RT.sgn (p - q))) n → cmp row n [encQ p, encQ q] Q
  lt : FnS
  lt_i : ∀ row n p q Q, sm p → sm q → Q (.bool (decide (p < q))) n → lt row n [encQ p, encQ q] Q
  least : FnS
  least_i : ∀ row n (xs : List (Option Rat)) Q, (∀ v, some v ∈ xs → sm v) → Q (encO (leastM xs none)) n → least row n [encL encO xs] Q
  great : FnS
  great_i : ∀ row n (xs : List (Option Rat)) Q, (∀ v, some v ∈ xs → sm v) → Q (encO (greatM xs none)) n → great row n [encL encO xs] Q
  near : FnS
  near_i : ∀ row n lo hi Q, Q (encQ (nearM lo hi)) n → near row n [encO lo, encO hi] Q
variable (F : RaS) (T : List Addr) (lev : Nat) (row : List Int) (n : Int) (Q : QD)
theorem w_cd (a b : Int) (h : Q (.int (Int.gcd a b : Nat)) n) : W 3 ["first", "second", "one", "other"] none [] false T lev row [.int a, .int b] n Q := by
  have ha : ∀ i : Int, (if i < 0 then -i else i) = (i.natAbs : Int) := fun i => by split <;> omega
  refine ⟨fun m ρ n' => n' = n ∧ ∃ x y : Nat, Nat.gcd x y = Int.gcd a b ∧ m = y ∧ ρ = [some (.shr (.int a)), some (.shr (.int b)), some (.shr (.int x)), some (.shr (.int y))], ?_, ?_⟩
  · refine ⟨b.natAbs, rfl, a.natAbs, b.natAbs, rfl, rfl, ?_⟩
    rw [← ha a, ← ha b]
    rfl
  · rintro y ρ n' ⟨rfl, x, _, h1, rfl, rfl⟩
    refine ite_d (fun hy => ?_) (fun hy => ?_)
    · have hy' : (y : Int) ≠ 0 := by omega
      refine And.intro hy' ?_
      refine ⟨x % y, Nat.mod_lt _ (by omega), rfl, y, x % y, ?_, rfl, ?_⟩
      · rw [← h1, Nat.gcd_comm x y, Nat.gcd_rec y x, Nat.gcd_comm]
      · have e : ((x : Int).fmod y) = ((x % y : Nat) : Int) := by
          rw [Int.fmod_eq_emod_of_nonneg _ (by omega)]
          rfl
        rw [← e]
        rfl
    · have e : x = Int.gcd a b := by
        have : y = 0 := by omega
        rw [← h1, this, Nat.gcd_zero_right]
      show Q (.int (x : Int)) n'
      rw [e]
      exact h
theorem frac_eq {a b g : Int} (hb : b ≠ 0) (hg : g = if b < 0 then -(Int.gcd a b : Int) else (Int.gcd a b : Int)) : PyData.tuple [.int (a.fdiv g), .int (b.fdiv g)] = encQ ((a : Rat) / (b : Rat)) := by
  have h0 : (Int.gcd a b : Int) ≠ 0 := fun z => hb (by
    have : Int.gcd a b = 0 := by omega
    exact (Int.gcd_eq_zero_iff.mp this).2)
  have hn : (0 : Int) ≤ (Int.gcd a b : Int) := Int.natCast_nonneg _
  have key : a.fdiv g = b.sign * a / (Int.gcd a b : Int) ∧ b.fdiv g = (b.natAbs : Int) / (Int.gcd a b : Int) := by
    by_cases h : b < 0
    · rw [if_pos h] at hg
      subst hg
      rw [Int.sign_eq_neg_one_of_neg h]
      have e1 : a.fdiv (-(Int.gcd a b : Int)) = (-a).fdiv (Int.gcd a b : Int) := by
        have := Int.neg_fdiv_neg (-a) (Int.gcd a b : Int)
        rw [Int.neg_neg] at this
        exact this
      have e2 : b.fdiv (-(Int.gcd a b : Int)) = (-b).fdiv (Int.gcd a b : Int) := by
        have := Int.neg_fdiv_neg (-b) (Int.gcd a b : Int)
        rw [Int.neg_neg] at this
        exact this
      rw [e1, e2, Int.fdiv_eq_ediv_of_nonneg _ hn, Int.fdiv_eq_ediv_of_nonneg _ hn]
      have e3 : (b.natAbs : Int) = -b := by omega
      rw [e3, Int.neg_one_mul]
      exact ⟨rfl, rfl⟩
    · rw [if_neg h] at hg
      subst hg
      rw [Int.sign_eq_one_of_pos (by omega), Int.fdiv_eq_ediv_of_nonneg _ hn, Int.fdiv_eq_ediv_of_nonneg _ hn, Int.one_mul]
      have e3 : (b.natAbs : Int) = b := by omega
      rw [e3]
      exact ⟨rfl, rfl⟩
  unfold encQ
  rw [← Rat.divInt_eq_div, Rat.num_divInt, Rat.den_divInt, if_neg hb, key.1, key.2, Int.gcd_comm b a]
  rfl
theorem w_fr (a b : Int) (hb : b ≠ 0) (hz : bz 8999 b) (h : Q (encQ ((a : Rat) / (b : Rat))) n) : W 4 ["numerator", "denominator", "divisor"] none [⟨"common_divisor", F.cd, 2, []⟩] false T lev row [.int a, .int b] n Q := by
  have h0 : Int.gcd a b ≠ 0 := fun z => hb (Int.gcd_eq_zero_iff.mp z).2
  have hle : Int.gcd a b ≤ b.natAbs := Nat.le_of_dvd (by omega) (Int.gcd_dvd_natAbs_right a b)
  refine F.cd_i _ _ _ _ _ ?_
  refine ite_d (fun hc => ?_) (fun hc => ?_)
  · have hg : CDivZ a (-(Int.gcd a b : Int)) := cdiv_of (a := 8999) (Nat.lt_of_le_of_lt (by rw [Int.natAbs_neg]; exact hle) hz) (by omega) (by decide)
    refine And.intro hg ?_
    refine And.intro hg ?_
    refine And.intro (by decide : 2 ≤ 1000) ?_
    rw [← frac_eq hb (g := -(Int.gcd a b : Int)) (by rw [if_pos hc])] at h
    exact h
  · have hg : CDivZ a ((Int.gcd a b : Int)) := cdiv_of (a := 8999) (Nat.lt_of_le_of_lt hle hz) (by omega) (by decide)
    refine And.intro hg ?_
    refine And.intro hg ?_
    refine And.intro (by decide : 2 ≤ 1000) ?_
    rw [← frac_eq hb (g := (Int.gcd a b : Int)) (by rw [if_neg hc])] at h
    exact h
theorem two_bq {p q : Rat} (hp : sm p) (hq : sm q) : bz 8999 ((p.den : Int) * q.den) := bz_mono (bz_mul (bz_den hp) (bz_den hq)) (by decide)
theorem w_add (p q : Rat) (hp : sm p) (hq : sm q) (h : Q (encQ (p + q)) n) : W 5 ["first", "second"] none [⟨"fraction", F.fr, 2, [.int 1]⟩] false T lev row [encQ p, encQ q] n Q := by
  refine And.intro (cmul_of (bz_num hp) (bz_den hq) (by decide)) ?_
  refine And.intro (cmul_of (bz_num hq) (bz_den hp) (by decide)) ?_
  refine And.intro (cmul_of (bz_den hp) (bz_den hq) (by decide)) ?_
  refine F.fr_i _ _ _ _ _ (Int.mul_ne_zero (den_z p) (den_z q)) (two_bq hp hq) ?_
  have e : (((p.num * q.den + q.num * p.den : Int) : Rat) / ((p.den * q.den : Int) : Rat)) = p + q := by
    have h1 := den_ne p
    have h2 := den_ne q
    rw [Rat.intCast_add, Rat.intCast_mul, Rat.intCast_mul, Rat.intCast_mul, ← q_num p, ← q_num q]
    have h3 : ((p.den : Int) : Rat) * ((q.den : Int) : Rat) ≠ 0 := fun z => (Rat.mul_eq_zero.mp z).elim h1 h2
    have e2 : (p * ((p.den : Int) : Rat) * ((q.den : Int) : Rat) + q * ((q.den : Int) : Rat) * ((p.den : Int) : Rat)) = (p + q) * (((p.den : Int) : Rat) * ((q.den : Int) : Rat)) := by grind
    rw [e2, Rat.mul_div_cancel h3]
  rw [e]
  exact h
theorem w_neg (p : Rat) (h : Q (encQ (-p)) n) : W 6 ["value"] none [] false T lev row [encQ p] n Q := by
  refine And.intro (by decide : 2 ≤ 1000) ?_
  exact h
theorem w_sub (p q : Rat) (hp : sm p) (hq : sm q) (h : Q (encQ (p - q)) n) : W 7 ["first", "second"] none [⟨"add", F.add, 2, []⟩, ⟨"negative", F.neg, 1, []⟩] false T lev row [encQ p, encQ q] n Q := by
  refine F.neg_i _ _ _ _ ?_
  refine F.add_i _ _ _ _ _ hp (bq_neg hq) ?_
  rw [Rat.sub_eq_add_neg] at h
  exact h
theorem w_mul (p q : Rat) (hp : sm p) (hq : sm q) (h : Q (encQ (p * q)) n) : W 8 ["first", "second"] none [⟨"fraction", F.fr, 2, [.int 1]⟩] false T lev row [encQ p, encQ q] n Q := by
  refine And.intro (cmul_of (bz_num hp) (bz_num hq) (by decide)) ?_
  refine And.intro (cmul_of (bz_den hp) (bz_den hq) (by decide)) ?_
  refine F.fr_i _ _ _ _ _ (Int.mul_ne_zero (den_z p) (den_z q)) (two_bq hp hq) ?_
  have e : (((p.num * q.num : Int) : Rat) / ((p.den * q.den : Int) : Rat)) = p * q := by
    have h1 := den_ne p
    have h2 := den_ne q
    rw [Rat.intCast_mul, Rat.intCast_mul, ← q_num p, ← q_num q]
    have h3 : ((p.den : Int) : Rat) * ((q.den : Int) : Rat) ≠ 0 := fun z => (Rat.mul_eq_zero.mp z).elim h1 h2
    have e2 : (p * ((p.den : Int) : Rat) * (q * ((q.den : Int) : Rat))) = (p * q) * (((p.den : Int) : Rat) * ((q.den : Int) : Rat)) := by grind
    rw [e2, Rat.mul_div_cancel h3]
  rw [e]
  exact h
theorem w_div (p q : Rat) (hp : sm p) (hq : sm q) (h0 : q ≠ 0) (hp2 : bq 400000 4400 p) (hq2 : bz 4400 q.num) (h : Q (encQ (p / q)) n) : W 9 ["first", "second"] none [⟨"fraction", F.fr, 2, [.int 1]⟩] false T lev row [encQ p, encQ q] n Q := by
  have hn : q.num ≠ 0 := fun z => h0 (Rat.num_eq_zero.mp z)
  refine And.intro (cmul_of (bz_num hp) (bz_den hq) (by decide)) ?_
  refine And.intro (cmul_of (bz_den hp) (bz_num hq) (by decide)) ?_
  refine F.fr_i _ _ _ _ _ (Int.mul_ne_zero (den_z p) hn) (bz_mono (bz_mul (bz_den hp2) hq2) (by decide)) ?_
  have e : (((p.num * q.den : Int) : Rat) / ((p.den * q.num : Int) : Rat)) = p / q := by
    have h1 := den_ne p
    have h2 := den_ne q
    have h4 : p / q * q = p := Rat.div_mul_cancel h0
    rw [Rat.intCast_mul, Rat.intCast_mul, ← q_num p, ← q_num q]
    have h3 : ((p.den : Int) : Rat) * (q * ((q.den : Int) : Rat)) ≠ 0 := fun z => (Rat.mul_eq_zero.mp z).elim h1 fun z => (Rat.mul_eq_zero.mp z).elim h0 h2
    have e2 : (p * ((p.den : Int) : Rat) * ((q.den : Int) : Rat)) = (p / q) * (((p.den : Int) : Rat) * (q * ((q.den : Int) : Rat))) := by
      generalize p / q = t at *
      rw [← h4]
      grind
    rw [e2, Rat.mul_div_cancel h3]
  rw [e]
  exact h
theorem sgn_num (p : Rat) : (0 < p.num ↔ 0 < p) ∧ (p.num < 0 ↔ p < 0) := by
  have h1 : 0 ≤ p.num ↔ 0 ≤ p := Rat.num_nonneg
  have h2 : p.num = 0 ↔ p = 0 := Rat.num_eq_zero
  constructor
  · constructor
    · intro h
      exact Rat.lt_of_le_of_ne (h1.mp (by omega)) (fun z => by have := h2.mpr z.symm; omega)
    · intro h
      have a1 := h1.mpr (Rat.le_of_lt h)
      have a2 : p.num ≠ 0 := fun z => Rat.ne_of_gt h (h2.mp z)
      omega
  · constructor
    · intro h
      exact Rat.not_le.mp fun z => by have := h1.mpr z; omega
    · intro h
      have : ¬ 0 ≤ p.num := fun z => Rat.not_le.mpr h (h1.mp z)
      omega
theorem w_sgn (p : Rat) (h : Q (.int (sgn p)) n) : W 10 ["value"] none [] false T lev row [encQ p] n Q := by
  have hs := sgn_num p
  unfold sgn at h
  refine ite_d (fun h1 => ?_) (fun h1 => ?_)
  · rw [if_pos (hs.1.mp h1)] at h
    exact h
  · rw [if_neg (fun z => h1 (hs.1.mpr z))] at h
    refine ite_d (fun h2 => ?_) (fun h2 => ?_)
    · rw [if_pos (hs.2.mp h2)] at h
      exact h
    · rw [if_neg (fun z => h2 (hs.2.mpr z))] at h
      exact h
theorem w_cmp (p q : Rat) (hp : sm p) (hq : sm q) (h : Q (.int (sgn (p - q))) n) : W 11 ["first", "second"] none [⟨"sign", F.sgn, 1, []⟩, ⟨"subtract", F.sub, 2, []⟩] false T lev row [encQ p, encQ q] n Q := by
  refine F.sub_i _ _ _ _ _ hp hq ?_
  refine F.sgn_i _ _ _ _ ?_
  exact h
theorem sgn_neg_iff (p : Rat) : (sgn p < 0) ↔ p < 0 := by
  unfold sgn
  by_cases h : 0 < p
  · rw [if_pos h]
    constructor
    · intro z; omega
    · intro z; grind
  · rw [if_neg h]
    by_cases h2 : p < 0
    · rw [if_pos h2]
      exact ⟨fun _ => h2, fun _ => by decide⟩
    · rw [if_neg h2]
      exact ⟨fun z => by omega, fun z => absurd z h2⟩
theorem sgn_sub_lt (p q : Rat) : sgn (p - q) < 0 ↔ p < q := by
  rw [sgn_neg_iff]
  constructor <;> intro h <;> grind
theorem w_lt (p q : Rat) (hp : sm p) (hq : sm q) (h : Q (.bool (decide (p < q))) n) : W 12 ["first", "second"] none [⟨"compare", F.cmp, 2, []⟩] false T lev row [encQ p, encQ q] n Q := by
  refine F.cmp_i _ _ _ _ _ hp hq ?_
  have e : decide (p < q) = decide (sgn (p - q) < 0) := decide_eq_decide.mpr (sgn_sub_lt p q).symm
  rw [e] at h
  exact h
end RT
namespace RT
open PySem PySem.Spec PyProof.Rows L2
variable (F : RaS) (T : List Addr) (lev : Nat) (row : List Int) (n : Int) (Q : QD)
theorem w_least (xs : List (Option Rat)) (hx : ∀ v, some v ∈ xs → sm v) (h : Q (encO (leastM xs none)) n) : W 13 ["values", "best", "value"] none [⟨"is_less", F.lt, 2, []⟩] false T lev row [encL encO xs] n Q := by
  refine for_i encO (fun r ρ n' => n' = n ∧ (∀ v, some v ∈ r → sm v) ∧ ∃ best c, (∀ b, best = some b → sm b) ∧ ρ = [some (.shr (encL encO xs)), some (.shr (encO best)), c] ∧ leastM r best = leastM xs none) ?_ ?_ xs _ _ ⟨rfl, hx, none, none, (fun b hb => by cases hb), rfl, rfl⟩
  · rintro x r ρ n' K ⟨rfl, hr, best, c, hb, rfl, he⟩ hK
    have hr2 : ∀ v, some v ∈ r → sm v := fun v hv => hr v (List.mem_cons_of_mem _ hv)
    refine And.intro (Or.inl rfl) ?_
    cases x with
    | none =>
      exact hK _ _ ⟨rfl, hr2, best, _, hb, rfl, he⟩
    | some v =>
      cases best with
      | none =>
        exact hK _ _ ⟨rfl, hr2, some v, _, (fun b hb => by cases hb; exact hr v (List.mem_cons_self ..)), rfl, he⟩
      | some b =>
        refine F.lt_i _ _ _ _ _ (hr v (List.mem_cons_self ..)) (hb b rfl) ?_
        have he' : leastM r (if v < b then some v else some b) = leastM xs none := he
        refine ite_d (fun hc => ?_) (fun hc => ?_)
        · rw [if_pos hc] at he'
          exact hK _ _ ⟨rfl, hr2, some v, _, (fun b hb => by cases hb; exact hr v (List.mem_cons_self ..)), rfl, he'⟩
        · rw [if_neg hc] at he'
          exact hK _ _ ⟨rfl, hr2, some b, _, hb, rfl, he'⟩
  · rintro ρ n' ⟨rfl, _, best, c, _, rfl, he⟩
    have he' : best = leastM xs none := he
    show Q (encO best) n'
    rw [he']
    exact h
theorem w_great (xs : List (Option Rat)) (hx : ∀ v, some v ∈ xs → sm v) (h : Q (encO (greatM xs none)) n) : W 14 ["values", "best", "value"] none [⟨"is_less", F.lt, 2, []⟩] false T lev row [encL encO xs] n Q := by
  refine for_i encO (fun r ρ n' => n' = n ∧ (∀ v, some v ∈ r → sm v) ∧ ∃ best c, (∀ b, best = some b → sm b) ∧ ρ = [some (.shr (encL encO xs)), some (.shr (encO best)), c] ∧ greatM r best = greatM xs none) ?_ ?_ xs _ _ ⟨rfl, hx, none, none, (fun b hb => by cases hb), rfl, rfl⟩
  · rintro x r ρ n' K ⟨rfl, hr, best, c, hb, rfl, he⟩ hK
    have hr2 : ∀ v, some v ∈ r → sm v := fun v hv => hr v (List.mem_cons_of_mem _ hv)
    refine And.intro (Or.inl rfl) ?_
    cases x with
    | none =>
      exact hK _ _ ⟨rfl, hr2, best, _, hb, rfl, he⟩
    | some v =>
      cases best with
      | none =>
        exact hK _ _ ⟨rfl, hr2, some v, _, (fun b hb => by cases hb; exact hr v (List.mem_cons_self ..)), rfl, he⟩
      | some b =>
        refine F.lt_i _ _ _ _ _ (hb b rfl) (hr v (List.mem_cons_self ..)) ?_
        have he' : greatM r (if b < v then some v else some b) = greatM xs none := he
        refine ite_d (fun hc => ?_) (fun hc => ?_)
        · rw [if_pos hc] at he'
          exact hK _ _ ⟨rfl, hr2, some v, _, (fun b hb => by cases hb; exact hr v (List.mem_cons_self ..)), rfl, he'⟩
        · rw [if_neg hc] at he'
          exact hK _ _ ⟨rfl, hr2, some b, _, hb, rfl, he'⟩
  · rintro ρ n' ⟨rfl, _, best, c, _, rfl, he⟩
    have he' : best = greatM xs none := he
    show Q (encO best) n'
    rw [he']
    exact h
theorem sgn_pos (p : Rat) : (0 < sgn p) ↔ 0 < p := by
  unfold sgn
  by_cases h : 0 < p
  · rw [if_pos h]
    exact ⟨fun _ => h, fun _ => by decide⟩
  · rw [if_neg h]
    by_cases h2 : p < 0
    · rw [if_pos h2]
      exact ⟨fun z => by omega, fun z => absurd z h⟩
    · rw [if_neg h2]
      exact ⟨fun z => by omega, fun z => absurd z h⟩
theorem w_near (lo hi : Option Rat) (h : Q (encQ (nearM lo hi)) n) : W 15 ["lower", "upper"] none [⟨"sign", F.sgn, 1, []⟩] false T lev row [encO lo, encO hi] n Q := by
  have low : ∀ (P : Prop), (nearM none hi = nearM lo hi → P) → (∀ l, lo = some l → ¬ 0 < l) → P := fun P hP hl => hP (by
    cases lo with
    | none => rfl
    | some l => show _ = (if 0 < l then l else _); rw [if_neg (hl l rfl)]; rfl)
  have up : nearM none hi = nearM lo hi → wpSs (wpS (mkC ["lower", "upper"] none [⟨"sign", F.sgn, 1, []⟩] konD false T lev row) 12 (defScope (top 15))) ((defBody (top 15)).drop 1) (rho0 ["lower", "upper"] [encO lo, encO hi]) n (fun _ n => Q .none n) Q := fun he => by
    rw [← he] at h
    cases hi with
    | none =>
      exact h
    | some u =>
      have h' : Q (encQ (if u < 0 then u else 0)) n := h
      refine F.sgn_i _ _ _ _ ?_
      refine ite_d (fun hc => ?_) (fun hc => ?_)
      · rw [if_pos ((sgn_neg_iff u).mp hc)] at h'
        exact h'
      · rw [if_neg (fun z => hc ((sgn_neg_iff u).mpr z))] at h'
        exact h'
  cases lo with
  | none =>
    exact up rfl
  | some l =>
    refine F.sgn_i _ _ _ _ ?_
    refine ite_d (fun hc => ?_) (fun hc => ?_)
    · have h' : Q (encQ (if 0 < l then l else nearM none hi)) n := h
      rw [if_pos ((sgn_pos l).mp hc)] at h'
      exact h'
    · refine up ?_
      show nearM none hi = (if 0 < l then l else nearM none hi)
      rw [if_neg (fun z => hc ((sgn_pos l).mpr z))]
end RT
namespace RT
open PySem PySem.Spec PyProof.Rows L2
/-! ### maps -/
def bM (k : Nat) (m : Mp) : Prop := bq k k m.a ∧ bq k k m.b ∧ bq k k m.c ∧ bq k k m.d ∧ bq k k m.e ∧ bq k k m.f
def elOk : El → Prop
  | .gap t => bq 100 100 t
  | .lens p h => bq 100 100 p ∧ bq 100 100 h
  | .prism s => bq 100 100 s
  | .afocal m => bq 100 100 m ∧ m ≠ 0
  | .stop lo hi => (∀ v, lo = some v → bq 100 100 v) ∧ ∀ v, hi = some v → bq 100 100 v
def trOk (m : Mp) : List El → Prop
  | [] => bM 1000 m
  | e :: r => bM 1000 m ∧ elOk e ∧ trOk (coM m (elM e)) r
abbrev fNeg (F : RaS) : Fi := ⟨"negative", F.neg, 1, []⟩
abbrev fFr (F : RaS) : Fi := ⟨"fraction", F.fr, 2, [.int 1]⟩
abbrev fAdd (F : RaS) : Fi := ⟨"add", F.add, 2, []⟩
abbrev fSub (F : RaS) : Fi := ⟨"subtract", F.sub, 2, []⟩
abbrev fMul (F : RaS) : Fi := ⟨"multiply", F.mul, 2, []⟩
abbrev fDiv (F : RaS) : Fi := ⟨"divide", F.div, 2, []⟩
abbrev fSgn (F : RaS) : Fi := ⟨"sign", F.sgn, 1, []⟩
abbrev fCmp (F : RaS) : Fi := ⟨"compare", F.cmp, 2, []⟩
abbrev fLt (F : RaS) : Fi := ⟨"is_less", F.lt, 2, []⟩
abbrev fCd (F : RaS) : Fi := ⟨"common_divisor", F.cd, 2, []⟩
structure MpS where
  ra : RaS
  em : FnS
  em_i : ∀ row n e Q, elOk e → Q (encM (elM e)) n → em row n [encE e] Q
  wt : FnS
  wt_i : ∀ row n a b c d Q, sm a → sm b → sm c → sm d → sm (a * b) → sm (c * d) → Q (encQ (a * b + c * d)) n → wt row n [encQ a, encQ b, encQ c, encQ d] Q
  ap : FnS
  ap_i : ∀ row n m x Q, bM 1000 m → bq 1000 1000 x.1 → bq 1000 1000 x.2 → Q (encR (apM m x)) n → ap row n [encM m, encR x] Q
  co : FnS
  co_i : ∀ row n x y Q, bM 1000 x → bM 1000 y → Q (encM (coM x y)) n → co row n [encM x, encM y] Q
  tr : FnS
  tr_i : ∀ row n t Q, trOk idM t → Q (encM (trM t)) n → tr row n [encL encE t] Q
variable (F : MpS) (T : List Addr) (lev : Nat) (row : List Int) (n : Int) (Q : QD)
abbrev fWt : Fi := ⟨"weighted", F.wt, 4, []⟩
abbrev fCo : Fi := ⟨"compose_maps", F.co, 2, []⟩
abbrev fEm : Fi := ⟨"element_map", F.em, 1, []⟩
theorem bq_one : bq 1 1 ((1 : Int) : Rat) := ⟨by decide, by decide⟩
theorem sm1 {a b : Nat} {q : Rat} (h : bq a b q) (h1 : a ≤ 4000) (h2 : b ≤ 4400) : sm q := bq_mono h (by omega) (by omega)
theorem w_em (e : El) (he : elOk e) (h : Q (encM (elM e)) n) : W 18 ["element"] none [fNeg F.ra, fMul F.ra, fDiv F.ra] false T lev row [encE e] n Q := by
  cases e with
  | gap t =>
    refine str_t ?_
    exact And.intro (by decide : 6 ≤ 1000) h
  | lens p k =>
    refine str_f ?_
    refine str_t ?_
    refine F.ra.neg_i _ _ _ _ ?_
    refine F.ra.mul_i _ _ _ _ _ (sm1 he.1 (by decide) (by decide)) (sm1 he.2 (by decide) (by decide)) ?_
    exact And.intro (by decide : 6 ≤ 1000) h
  | prism s =>
    refine str_f ?_
    refine str_f ?_
    refine str_t ?_
    exact And.intro (by decide : 6 ≤ 1000) h
  | afocal m =>
    refine str_f ?_
    refine str_f ?_
    refine str_f ?_
    refine str_t ?_
    refine F.ra.div_i _ _ _ _ _ (sm1 bq_one (by decide) (by decide)) (sm1 he.1 (by decide) (by decide)) he.2 (bq_mono bq_one (by decide) (by decide)) (bz_mono he.1.1 (by decide)) ?_
    exact And.intro (by decide : 6 ≤ 1000) h
  | stop lo hi =>
    refine str_f ?_
    refine str_f ?_
    refine str_f ?_
    refine str_f ?_
    exact h
theorem w_wt (a b c d : Rat) (ha : sm a) (hb : sm b) (hc : sm c) (hd : sm d) (h1 : sm (a * b)) (h2 : sm (c * d)) (h : Q (encQ (a * b + c * d)) n) : W 19 ["first", "one", "second", "other"] none [fAdd F.ra, fMul F.ra] false T lev row [encQ a, encQ b, encQ c, encQ d] n Q := by
  refine F.ra.mul_i _ _ _ _ _ ha hb ?_
  refine F.ra.mul_i _ _ _ _ _ hc hd ?_
  refine F.ra.add_i _ _ _ _ _ h1 h2 ?_
  exact h
theorem smm {a b : Rat} (ha : bq 1000 1000 a) (hb : bq 1000 1000 b) : sm (a * b) := sm1 (bq_mul ha hb) (by decide) (by decide)
theorem smw {a b c d : Rat} (ha : bq 1000 1000 a) (hb : bq 1000 1000 b) (hc : bq 1000 1000 c) (hd : bq 1000 1000 d) : sm (a * b + c * d) := sm_of (bq_add (bq_mul ha hb) (bq_mul hc hd)) (by decide) (by decide)
theorem s1k {a : Rat} (ha : bq 1000 1000 a) : sm a := sm1 ha (by decide) (by decide)
theorem wtk (F : MpS) {row : List Int} {n : Int} {a b c d : Rat} {Q : QD} (ha : bq 1000 1000 a) (hb : bq 1000 1000 b) (hc : bq 1000 1000 c) (hd : bq 1000 1000 d) (h : Q (encQ (a * b + c * d)) n) : F.wt row n [encQ a, encQ b, encQ c, encQ d] Q :=
  F.wt_i _ _ _ _ _ _ _ (s1k ha) (s1k hb) (s1k hc) (s1k hd) (smm ha hb) (smm hc hd) h
abbrev lc {P : Prop} : True ∨ P := Or.inl trivial
theorem w_ap (m : Mp) (x : Ray) (hm : bM 1000 m) (h1 : bq 1000 1000 x.1) (h2 : bq 1000 1000 x.2) (h : Q (encR (apM m x)) n) : W 20 ["map_used", "ray", "a", "b", "c", "d", "e", "f"] none [fAdd F.ra, fWt F] false T lev row [encM m, encR x] n Q := by
  obtain ⟨ma, mb, mc, md, me, mf⟩ := hm
  refine And.intro (Or.inl rfl) (And.intro (Or.inl rfl) (And.intro (Or.inl rfl) (And.intro (Or.inl rfl) (And.intro (Or.inl rfl) (And.intro (Or.inl rfl) ?_)))))
  refine wtk F ma h1 mb h2 ?_
  refine F.ra.add_i _ _ _ _ _ (smw ma h1 mb h2) (s1k me) ?_
  refine wtk F mc h1 md h2 ?_
  refine F.ra.add_i _ _ _ _ _ (smw mc h1 md h2) (s1k mf) ?_
  exact And.intro (by decide : 2 ≤ 1000) h
theorem w_co (x y : Mp) (hx : bM 1000 x) (hy : bM 1000 y) (h : Q (encM (coM x y)) n) : W 21 ["first", "second", "a", "b", "c", "d", "e", "f", "k", "m", "n", "o", "p", "q", "top", "bottom", "end"] none [fAdd F.ra, fWt F] false T lev row [encM x, encM y] n Q := by
  obtain ⟨xa, xb, xc, xd, xe, xf⟩ := hx
  obtain ⟨ya, yb, yc, yd, ye, yf⟩ := hy
  refine And.intro (Or.inl rfl) (And.intro (Or.inl rfl) (And.intro (Or.inl rfl) (And.intro (Or.inl rfl) (And.intro (Or.inl rfl) (And.intro (Or.inl rfl) ?_)))))
  refine ck (P := wpSs _ _ [sh (encM x), sh (encM y), sh (encQ x.a), sh (encQ x.b), sh (encQ x.c), sh (encQ x.d), sh (encQ x.e), sh (encQ x.f), no, no, no, no, no, no, no, no, no] _ _ _) ?_
  refine And.intro (Or.inl rfl) (And.intro (Or.inl rfl) (And.intro (Or.inl rfl) (And.intro (Or.inl rfl) (And.intro (Or.inl rfl) (And.intro (Or.inl rfl) ?_)))))
  refine ck (P := wpSs _ _ [sh (encM x), sh (encM y), sh (encQ x.a), sh (encQ x.b), sh (encQ x.c), sh (encQ x.d), sh (encQ x.e), sh (encQ x.f), sh (encQ y.a), sh (encQ y.b), sh (encQ y.c), sh (encQ y.d), sh (encQ y.e), sh (encQ y.f), no, no, no] _ _ _) ?_
  refine wtk F ya xa yb xc ?_
  refine wtk F ya xb yb xd ?_
  refine And.intro (by decide : 2 ≤ 1000) ?_
  refine ck (P := wpSs _ _ [sh (encM x), sh (encM y), sh (encQ x.a), sh (encQ x.b), sh (encQ x.c), sh (encQ x.d), sh (encQ x.e), sh (encQ x.f), sh (encQ y.a), sh (encQ y.b), sh (encQ y.c), sh (encQ y.d), sh (encQ y.e), sh (encQ y.f), sh (.tuple [_, _]), no, no] _ _ _) ?_
  refine wtk F yc xa yd xc ?_
  refine wtk F yc xb yd xd ?_
  refine And.intro (by decide : 2 ≤ 1000) ?_
  refine ck (P := wpSs _ _ [sh (encM x), sh (encM y), sh (encQ x.a), sh (encQ x.b), sh (encQ x.c), sh (encQ x.d), sh (encQ x.e), sh (encQ x.f), sh (encQ y.a), sh (encQ y.b), sh (encQ y.c), sh (encQ y.d), sh (encQ y.e), sh (encQ y.f), sh (.tuple [_, _]), sh (.tuple [_, _]), no] _ _ _) ?_
  refine wtk F ya xe yb xf ?_
  refine F.ra.add_i _ _ _ _ _ (smw ya xe yb xf) (s1k ye) ?_
  refine wtk F yc xe yd xf ?_
  refine F.ra.add_i _ _ _ _ _ (smw yc xe yd xf) (s1k yf) ?_
  refine And.intro (by decide : 2 ≤ 1000) ?_
  refine ck (P := wpSs _ _ [sh (encM x), sh (encM y), sh (encQ x.a), sh (encQ x.b), sh (encQ x.c), sh (encQ x.d), sh (encQ x.e), sh (encQ x.f), sh (encQ y.a), sh (encQ y.b), sh (encQ y.c), sh (encQ y.d), sh (encQ y.e), sh (encQ y.f), sh (.tuple [_, _]), sh (.tuple [_, _]), sh (.tuple [_, _])] _ _ _) ?_
  refine And.intro (by simp) (And.intro (by simp) (And.intro (sz 4) ?_))
  refine And.intro (by simp) (And.intro (by simp) (And.intro (sz 6) ?_))
  exact h
theorem trOk_b {m : Mp} {t : List El} (h : trOk m t) : bM 1000 m := by
  cases t with
  | nil => exact h
  | cons e r => exact h.1
theorem elM_b {e : El} (h : elOk e) : bM 1000 (elM e) := by
  have z : bq 1000 1000 0 := ⟨by decide, by decide⟩
  have o : bq 1000 1000 1 := ⟨by decide, by decide⟩
  cases e with
  | gap t => exact ⟨o, bq_mono h (by decide) (by decide), z, o, z, z⟩
  | lens p k => exact ⟨o, z, bq_mono (bq_neg h.1) (by decide) (by decide), o, z, bq_mono (bq_mul h.1 h.2) (by decide) (by decide)⟩
  | prism s => exact ⟨o, z, z, o, z, bq_mono h (by decide) (by decide)⟩
  | afocal m => exact ⟨bq_mono h.1 (by decide) (by decide), z, z, bq_mono (bq_div (a := 1) (b := 1) ⟨by decide, by decide⟩ h.1 h.2) (by decide) (by decide), z, z⟩
  | stop lo hi => exact ⟨o, z, z, o, z, z⟩
theorem w_tr (t : List El) (ht : trOk idM t) (h : Q (encM (trM t)) n) : W 22 ["train", "found", "element"] none [fCo F, fEm F] false T lev row [encL encE t] n Q := by
  refine for_i encE (fun r ρ n' => n' = n ∧ ∃ m c, trOk m r ∧ ρ = [some (.shr (encL encE t)), some (.shr (encM m)), c] ∧ trFrom m r = trM t) ?_ ?_ t _ _ ⟨rfl, idM, none, ht, rfl, rfl⟩
  · rintro x r ρ n' K ⟨rfl, m, c, hr, rfl, he⟩ hK
    refine And.intro (Or.inl rfl) ?_
    refine F.em_i _ _ _ _ hr.2.1 ?_
    refine F.co_i _ _ _ _ _ hr.1 (elM_b hr.2.1) ?_
    exact hK _ _ ⟨rfl, _, _, hr.2.2, rfl, he⟩
  · rintro ρ n' ⟨rfl, m, c, hr, rfl, he⟩
    have he' : m = trM t := he
    show Q (encM m) n'
    rw [he']
    exact h
end RT
namespace RT
open PySem PySem.Spec PyProof.Rows L2
/-! ### the order of half-planes -/
def nz (h : HP) : Prop := h.p ≠ 0 ∨ h.q ≠ 0
def bhs (k : Nat) (L : List HP) : Prop := ∀ h ∈ L, bh k h ∧ nz h
structure OrS where
  mp : MpS
  crs : FnS
  crs_i : ∀ row n a b Q, bh 5000 a → bh 5000 b → Q (.int (crossH a b)) n → crs row n [encH a, encH b] Q
  opp : FnS
  opp_i : ∀ row n a Q, Q (encH (oppH a)) n → opp row n [encH a] Q
  rea : FnS
  rea_i : ∀ row n a Q, bh 5000 a → nz a → Q (encQ (reachH a)) n → rea row n [encH a] Q
  hlf : FnS
  hlf_i : ∀ row n a Q, Q (.bool (half1 a)) n → hlf row n [encH a] Q
  bef : FnS
  bef_i : ∀ row n a b Q, bh 4000 a → nz a → bh 4000 b → nz b → Q (.bool (beforeH a b)) n → bef row n [encH a, encH b] Q
  ord : FnS
  ord_i : ∀ row n (L : List HP) Q, bhs 4000 L → L.length ≤ 1000 → Q (encL encH (ordH L)) n → ord row n [encL encH L] Q
variable (F : OrS) (T : List Addr) (lev : Nat) (row : List Int) (n : Int) (Q : QD)
theorem w_crs (a b : HP) (ha : bh 5000 a) (hb : bh 5000 b) (h : Q (.int (crossH a b)) n) : W 24 ["one", "other"] none [] false T lev row [encH a, encH b] n Q := by
  refine And.intro (cmul_of ha.1 hb.2.1 (by decide)) ?_
  refine And.intro (cmul_of ha.2.1 hb.1 (by decide)) ?_
  exact tr h
theorem w_opp (a : HP) (h : Q (encH (oppH a)) n) : W 25 ["half_plane"] none [] false T lev row [encH a] n Q := by
  exact And.intro (by decide : 3 ≤ 1000) h
theorem absI_bz {k : Nat} {i : Int} (h : bz k i) : bz k (absI i) := by
  unfold absI
  split
  · exact bz_neg h
  · exact h
theorem absI_nn (i : Int) : 0 ≤ absI i ∧ (i ≠ 0 → 0 < absI i) := by
  unfold absI
  split <;> constructor <;> intros <;> omega
theorem n1_pos {a : HP} (h : nz a) : 0 < n1 a := by
  have h1 := absI_nn a.p
  have h2 := absI_nn a.q
  unfold n1
  rcases h with h | h
  · have := h1.2 h; omega
  · have := h2.2 h; omega
theorem n1_bz {k : Nat} {a : HP} (h : bh k a) : bz (k + 1) (n1 a) := bz_mono (bz_add (absI_bz h.1) (absI_bz h.2.1)) (by omega)
theorem w_rea (a : HP) (ha : bh 5000 a) (hz : nz a) (h : Q (encQ (reachH a)) n) : W 26 ["half_plane"] none [fFr F.mp.ra] false T lev row [encH a] n Q := by
  have := n1_pos hz
  refine F.mp.ra.fr_i _ _ _ (n1 a) _ (by omega) (bz_mono (n1_bz ha) (by decide)) ?_
  exact h
theorem w_hlf (a : HP) (h : Q (.bool (half1 a)) n) : W 27 ["half_plane"] none [] false T lev row [encH a] n Q := by
  unfold half1 at h
  refine ite_d (fun h1 => ?_) (fun h1 => ?_)
  · rw [decide_eq_true h1] at h
    exact h
  · rw [decide_eq_false h1, Bool.false_or] at h
    refine eq_d isI a.q 0 (fun h2 => ?_) (fun h2 => ?_)
    · rw [decide_eq_true h2, Bool.true_and] at h
      exact h
    · rw [decide_eq_false h2, Bool.false_and] at h
      exact h
theorem bh_mono {j k : Nat} {a : HP} (h : bh j a) (hjk : j ≤ k) : bh k a := ⟨bz_mono h.1 hjk, bz_mono h.2.1 hjk, bz_mono h.2.2 hjk⟩
theorem reach_b {k : Nat} {a : HP} (h : bh k a) (hz : nz a) : bq k (k + 1) (reachH a) := by
  have h1 := n1_pos hz
  have h2 : (n1 a : Rat) ≠ 0 := fun z => by have := Rat.intCast_eq_zero_iff.mp z; omega
  exact bq_of (N := a.r) (D := n1 a) (by omega) (Rat.div_mul_cancel h2) h.2.2 (n1_bz h)
abbrev fCrs : Fi := ⟨"cross", F.crs, 2, []⟩
abbrev fRea : Fi := ⟨"reach", F.rea, 1, []⟩
abbrev fHlf : Fi := ⟨"in_first_half", F.hlf, 1, []⟩
abbrev fBef : Fi := ⟨"comes_before", F.bef, 2, []⟩
theorem w_bef (a b : HP) (ha : bh 4000 a) (za : nz a) (hb : bh 4000 b) (zb : nz b) (h : Q (.bool (beforeH a b)) n) : W 28 ["one", "other", "turn"] none [fCrs F, fRea F, fHlf F, fCmp F.mp.ra] false T lev row [encH a, encH b] n Q := by
  unfold beforeH at h
  refine F.hlf_i _ _ _ _ ?_
  refine F.hlf_i _ _ _ _ ?_
  refine eq_n isB (half1 a) (half1 b) (fun h1 => ?_) (fun h1 => ?_)
  · rw [if_pos h1] at h
    refine F.hlf_i _ _ _ _ ?_
    exact h
  · rw [if_neg (fun z => z h1)] at h
    refine F.crs_i _ _ _ _ _ (bh_mono ha (by decide)) (bh_mono hb (by decide)) ?_
    refine eq_n isI (crossH a b) 0 (fun h2 => ?_) (fun h2 => ?_)
    · rw [if_pos h2] at h
      exact h
    · rw [if_neg (fun z => z h2)] at h
      refine F.rea_i _ _ _ _ (bh_mono ha (by decide)) za ?_
      refine F.rea_i _ _ _ _ (bh_mono hb (by decide)) zb ?_
      refine F.mp.ra.cmp_i _ _ _ _ _ (sm_of (reach_b ha za) (by decide) (by decide)) (sm_of (reach_b hb zb) (by decide) (by decide)) ?_
      rw [decide_eq_decide.mpr (sgn_sub_lt (reachH a) (reachH b)).symm] at h
      exact h
theorem insH_mem {found : List HP} {h x : HP} : x ∈ insH found h ↔ x ∈ found ∨ x = h := by
  unfold insH
  split
  · rename_i hm
    constructor
    · exact Or.inl
    · rintro (hx | rfl)
      · exact hx
      · exact hm
  · have e : x ∈ found ↔ x ∈ found.take (found.filter fun g => beforeH g h).length ∨ x ∈ found.drop (found.filter fun g => beforeH g h).length := by
      rw [← List.mem_append, List.take_append_drop]
    simp only [List.mem_append, List.mem_singleton]
    rw [e]
    constructor
    · rintro ((h1 | h1) | h1)
      · exact .inl (.inl h1)
      · exact .inr h1
      · exact .inl (.inr h1)
    · rintro ((h1 | h1) | h1)
      · exact .inl (.inl h1)
      · exact .inr h1
      · exact .inl (.inr h1)
theorem insH_len (found : List HP) (h : HP) : (insH found h).length ≤ found.length + 1 := by
  unfold insH
  split
  · omega
  · simp only [List.length_append, List.length_take, List.length_drop, List.length_singleton]
    have := List.length_filter_le (fun g => beforeH g h) found
    omega
theorem w_ord (L : List HP) (hL : bhs 4000 L) (hl : L.length ≤ 1000) (h : Q (encL encH (ordH L)) n) : W 29 ["half_planes", "found", "half_plane", "place", "one"] (some 1) [fBef F] false T lev row [encL encH L] n Q := by
  refine And.intro (Nat.zero_le _) ?_
  refine for_i encH (fun r ρ n' => n' = n ∧ bhs 4000 r ∧ ∃ found c d e, bhs 4000 found ∧ found.length + r.length ≤ 1000 ∧ ρ = [sh (encL encH L), ow (found.map encH), c, d, e] ∧ ordFrom found r = ordH L) ?_ ?_ L _ _ ⟨rfl, hL, [], none, none, none, (fun x hx => by cases hx), by simpa using hl, rfl, rfl⟩
  · rintro x r ρ n' K ⟨rfl, hr, found, c, d, e, hf, hlen, rfl, he⟩ hK
    have hr2 : bhs 4000 r := fun v hv => hr v (List.mem_cons_of_mem _ hv)
    have hx := hr x (List.mem_cons_self ..)
    refine nm ?_
    refine And.intro (isH.shp (by decide) x) (And.intro (isHs.shp (by decide) found) ?_)
    rw [any_in isH x found]
    simp only [List.length_cons] at hlen
    have he' : ordFrom (insH found x) r = ordH L := he
    by_cases hm : x ∈ found
    · rw [decide_eq_true hm]
      refine hK _ _ ⟨rfl, hr2, found, _, d, e, hf, by omega, rfl, ?_⟩
      rw [insH, if_pos hm] at he'
      exact he'
    · rw [decide_eq_false hm]
      refine comp_i encH (fun g => if beforeH g x = true then some (encH g) else none) n' found [] (fun g hg K1 K2 k1 k2 => ?_) ?_
      · refine nm ?_
        refine F.bef_i _ _ _ _ _ (hf g hg).1 (hf g hg).2 hx.1 hx.2 ?_
        cases hb : beforeH g x with
        | true => exact k1 _ (by rw [hb]; rfl)
        | false => exact k2 (by rw [hb]; rfl)
      · rw [List.nil_append, fm_if (fun g => beforeH g x) encH found]
        refine And.intro rfl ?_
        refine ck (P := wpSs _ _ [sh (encL encH L), ow (found.map encH), sh (encH x), sh (.int (((found.filter fun g => beforeH g x).map encH).length : Nat)), e] _ _ _) ?_
        have hk : ((found.filter fun g => beforeH g x).map encH).length ≤ found.length := by
          rw [List.length_map]
          exact List.length_filter_le _ _
        have hins : insD (found.map encH) (.int (((found.filter fun g => beforeH g x).map encH).length : Nat)) (encH x) = (insH found x).map encH := by
          rw [insH, if_neg hm]
          simp [insD, List.map_append, List.map_take, List.map_drop]
        refine And.intro ⟨szlt (by rw [List.length_map]; omega), Int.natCast_nonneg _, by omega⟩ ?_
        refine hK _ _ ⟨rfl, hr2, insH found x, sh (encH x), sh (.int (((found.filter fun g => beforeH g x).map encH).length : Nat)), e, fun y hy => ?_, ?_, ?_, he'⟩
        · rcases insH_mem.mp hy with hy | rfl
          · exact hf y hy
          · exact hx
        · have := insH_len found x
          omega
        · rw [← hins]
          rfl
  · rintro ρ n' ⟨rfl, _, found, c, d, e, _, _, rfl, he⟩
    have he' : found = ordH L := he
    show Q (encL encH found) n'
    rw [he']
    exact h
end RT
namespace RT
open PySem PySem.Spec PyProof.Rows L2
/-! ### half-planes -/
def bE (e : El) (m : Mp) : Prop := match e with
  | .stop _ _ => m.a ≠ 0 ∨ m.b ≠ 0
  | _ => True
def hpOk (m : Mp) : List El → Prop
  | [] => bM 1000 m
  | e :: r => bM 1000 m ∧ elOk e ∧ bE e m ∧ hpOk (coM m (elM e)) r
structure HpS where
  od : OrS
  mkh : FnS
  mkh_i : ∀ row n p q r Q, bq 2000 2000 p → bq 2000 2000 q → bq 2000 2000 r → (p ≠ 0 ∨ q ≠ 0) → Q (encH (mkH p q r)) n → mkh row n [encQ p, encQ q, encQ r] Q
  ed : FnS
  ed_i : ∀ row n (i : Nat) lo hi m Q, bM 1000 m → (m.a ≠ 0 ∨ m.b ≠ 0) → (∀ v, lo = some v → bq 100 100 v) → (∀ v, hi = some v → bq 100 100 v) → Q (encL encGH (edgesM i lo hi m)) n → ed row n [.int i, encE (.stop lo hi), encM m] Q
  hp : FnS
  hp_i : ∀ row n t Q, hpOk idM t → t.length ≤ 1000 → Q (encL encGH (hpM t)) n → hp row n [encL encE t] Q
  va : FnS
  va_i : ∀ row n h x Q, bh 1700 h → bq 2000 1900 x.1 → bq 2000 1900 x.2 → Q (encQ (evH h x)) n → va row n [encH h, encR x] Q
  has : FnS
  has_i : ∀ row n L x Q, (∀ h ∈ L, bh 1700 h) → bq 2000 1900 x.1 → bq 2000 1900 x.2 → Q (.bool (hasM L x)) n → has row n [encL encH L, encR x] Q
  det : FnS
  det_i : ∀ row n a b Q, bh 5000 a → bh 5000 b → Q (.int (crossH a b)) n → det row n [encH a, encH b] Q
  pro : FnS
  pro_i : ∀ row n a b Q, bh 5000 a → bh 5000 b → Q (.int (dotH a b)) n → pro row n [encH a, encH b] Q
variable (F : HpS) (T : List Addr) (lev : Nat) (row : List Int) (n : Int) (Q : QD)
abbrev fMk : Fi := ⟨"make_half_plane", F.mkh, 3, []⟩
theorem fd1 (a b c : Nat) (ha : a ≠ 0) : ((a : Int) * b * c).fdiv a = b * c := by
  rw [Int.mul_assoc, Int.mul_comm, Int.mul_fdiv_cancel _ (by omega)]
theorem fd2 (a b c : Nat) (hb : b ≠ 0) : ((a : Int) * b * c).fdiv b = a * c := by
  rw [Int.mul_right_comm, Int.mul_fdiv_cancel _ (by omega)]
theorem fd3 (a b c : Nat) (hc : c ≠ 0) : ((a : Int) * b * c).fdiv c = a * b := Int.mul_fdiv_cancel _ (by omega)
theorem gcd3_ne {x y z : Int} (h : x ≠ 0 ∨ y ≠ 0) : Int.gcd (Int.gcd x y) z ≠ 0 := fun e => by
  have h1 := Int.gcd_eq_zero_iff.mp e
  have h2 := Int.gcd_eq_zero_iff.mp (Int.natCast_eq_zero.mp h1.1)
  rcases h with h | h
  · exact h h2.1
  · exact h h2.2
theorem gcd3_bz {x y z : Int} {k : Nat} (h : x ≠ 0 ∨ y ≠ 0) (hx : bz k x) (hy : bz k y) : bz k ((Int.gcd (Int.gcd x y) z : Nat) : Int) := by
  have h1 : Int.gcd (Int.gcd x y) z ∣ Int.gcd x y := Nat.gcd_dvd_left _ _
  show Int.gcd (Int.gcd x y) z < 2 ^ k
  rcases h with h | h
  · exact Nat.lt_of_le_of_lt (Nat.le_of_dvd (by omega) (Nat.dvd_trans h1 (Int.gcd_dvd_natAbs_left x y))) hx
  · exact Nat.lt_of_le_of_lt (Nat.le_of_dvd (by omega) (Nat.dvd_trans h1 (Int.gcd_dvd_natAbs_right x y))) hy
theorem w_mk (p q r : Rat) (hp : bq 2000 2000 p) (hq : bq 2000 2000 q) (hr : bq 2000 2000 r) (h0 : p ≠ 0 ∨ q ≠ 0) (h : Q (encH (mkH p q r)) n) : W 34 ["p", "q", "r", "scale", "parts", "part", "divisor"] none [fCd F.od.mp.ra] false T lev row [encQ p, encQ q, encQ r] n Q := by
  have hs : bz 6000 ((p.den : Int) * q.den * r.den) := bz_mul (bz_mul (bz_den hp) (bz_den hq)) (bz_den hr)
  have dv : ∀ v : Rat, bq 2000 2000 v → ∀ i, CDivZ i (v.den : Int) := fun v hv i => cdiv_of (bz_den hv) (den_z v) (by decide)
  have e1 : ((p.den : Int) * q.den * r.den).fdiv p.den = q.den * r.den := fd1 _ _ _ p.den_nz
  have e2 : ((p.den : Int) * q.den * r.den).fdiv q.den = p.den * r.den := fd2 _ _ _ q.den_nz
  have e3 : ((p.den : Int) * q.den * r.den).fdiv r.den = p.den * q.den := fd3 _ _ _ r.den_nz
  have b1 : bz 6000 (p.num * ((p.den : Int) * q.den * r.den).fdiv p.den) := by
    rw [e1]; exact bz_mul (a := 2000) (b := 4000) (bz_num hp) (bz_mul (bz_den hq) (bz_den hr))
  have b2 : bz 6000 (q.num * ((p.den : Int) * q.den * r.den).fdiv q.den) := by
    rw [e2]; exact bz_mul (a := 2000) (b := 4000) (bz_num hq) (bz_mul (bz_den hp) (bz_den hr))
  have n0 : p.num * ((p.den : Int) * q.den * r.den).fdiv p.den ≠ 0 ∨ q.num * ((p.den : Int) * q.den * r.den).fdiv q.den ≠ 0 := by
    rw [e1, e2]
    rcases h0 with h0 | h0
    · exact .inl (Int.mul_ne_zero (fun z => h0 (Rat.num_eq_zero.mp z)) (Int.mul_ne_zero (den_z q) (den_z r)))
    · exact .inr (Int.mul_ne_zero (fun z => h0 (Rat.num_eq_zero.mp z)) (Int.mul_ne_zero (den_z p) (den_z r)))
  have g0 := gcd3_ne (z := r.num * ((p.den : Int) * q.den * r.den).fdiv r.den) n0
  have gb := gcd3_bz (z := r.num * ((p.den : Int) * q.den * r.den).fdiv r.den) n0 b1 b2
  have cg : ∀ i, CDivZ i ((Int.gcd (Int.gcd (p.num * ((p.den : Int) * q.den * r.den).fdiv p.den) (q.num * ((p.den : Int) * q.den * r.den).fdiv q.den)) (r.num * ((p.den : Int) * q.den * r.den).fdiv r.den) : Nat) : Int) := fun i => cdiv_of gb (by omega) (by decide)
  have main : wpSs (wpS (mkC ["p", "q", "r", "scale", "parts", "part", "divisor"] none [fCd F.od.mp.ra] konD false T lev row) 12 (defScope (top 34))) ((defBody (top 34)).drop 1) (rho0 ["p", "q", "r", "scale", "parts", "part", "divisor"] [encQ p, encQ q, encQ r]) n (fun _ n => Q .none n) Q := by
    refine And.intro (cmul_of (bz_den hp) (bz_den hq) (by decide)) ?_
    refine And.intro (cmul_of (bz_mul (bz_den hp) (bz_den hq)) (bz_den hr) (by decide)) ?_
    refine ck (P := wpSs _ _ [sh (encQ p), sh (encQ q), sh (encQ r), sh (.int ((p.den : Int) * q.den * r.den)), no, no, no] _ _ _) ?_
    refine And.intro (by decide : 3 ≤ 1000) ?_
    refine comp_m encQ (fun v => .int (v.num * ((p.den : Int) * q.den * r.den).fdiv v.den)) n [p, q, r] [] (fun v hv K1 k1 => ?_) ?_
    · have hv2 : bq 2000 2000 v := by
        rcases List.mem_cons.mp hv with rfl | hv
        · exact hp
        · rcases List.mem_cons.mp hv with rfl | hv
          · exact hq
          · rcases List.mem_cons.mp hv with rfl | hv
            · exact hr
            · cases hv
      refine nm ?_
      refine And.intro (dv v hv2 _) ?_
      refine And.intro ?_ k1
      have hc : ((p.den : Int) * q.den * r.den).fdiv v.den = ((p.den : Int) * q.den * r.den).ediv v.den := Int.fdiv_eq_ediv_of_nonneg _ (by omega)
      refine cmul_of (a := 2000) (b := 6000) (bz_num hv2) ?_ (by decide)
      rw [hc]
      exact Nat.lt_of_le_of_lt (Int.natAbs_ediv_le_natAbs _ _) hs
    · refine ck (P := wpSs _ _ [sh (encQ p), sh (encQ q), sh (encQ r), sh (.int ((p.den : Int) * q.den * r.den)), sh (.list [.int (p.num * ((p.den : Int) * q.den * r.den).fdiv p.den), .int (q.num * ((p.den : Int) * q.den * r.den).fdiv q.den), .int (r.num * ((p.den : Int) * q.den * r.den).fdiv r.den)]), no, no] _ _ _) ?_
      refine F.od.mp.ra.cd_i _ _ _ _ _ ?_
      refine F.od.mp.ra.cd_i _ _ _ _ _ ?_
      refine And.intro (cg _) ?_
      refine And.intro (cg _) ?_
      refine And.intro (cg _) ?_
      exact And.intro (by decide : 3 ≤ 1000) h
  refine eq_d isQ p 0 (fun h1 => ?_) (fun h1 => ?_)
  · refine eq_d isQ q 0 (fun h2 => ?_) (fun h2 => ?_)
    · exact (h0.elim (fun z => z h1) fun z => z h2).elim
    · exact main
  · exact main
theorem w_det (a b : HP) (ha : bh 5000 a) (hb : bh 5000 b) (h : Q (.int (crossH a b)) n) : W 39 ["first", "second"] none [] false T lev row [encH a, encH b] n Q := by
  refine And.intro (cmul_of ha.1 hb.2.1 (by decide)) ?_
  refine And.intro (cmul_of ha.2.1 hb.1 (by decide)) ?_
  exact tr h
theorem w_pro (a b : HP) (ha : bh 5000 a) (hb : bh 5000 b) (h : Q (.int (dotH a b)) n) : W 40 ["first", "second"] none [] false T lev row [encH a, encH b] n Q := by
  refine And.intro (cmul_of ha.1 hb.1 (by decide)) ?_
  refine And.intro (cmul_of ha.2.1 hb.2.1 (by decide)) ?_
  exact h
theorem fr1 (F : RaS) {row : List Int} {n a : Int} {Q : QD} (h : Q (encQ (a : Rat)) n) : F.fr row n [.int a, .int 1] Q := by
  refine F.fr_i _ _ _ _ _ (by decide) (show (1 : Nat) < 2 ^ 8999 from Nat.one_lt_two_pow (by decide)) ?_
  have e : (a : Rat) / ((1 : Int) : Rat) = a := by
    have := Rat.mul_div_cancel (a := (a : Rat)) (b := ((1 : Int) : Rat)) (by decide)
    rw [Rat.intCast_one, Rat.mul_one] at this
    exact this
  rw [e]
  exact h
theorem w_ed (i : Nat) (lo hi : Option Rat) (m : Mp) (hm : bM 1000 m) (h0 : m.a ≠ 0 ∨ m.b ≠ 0) (hl : ∀ v, lo = some v → bq 100 100 v) (hh : ∀ v, hi = some v → bq 100 100 v) (h : Q (encL encGH (edgesM i lo hi m)) n) :
    W 35 ["index", "stop", "map_before", "a", "b", "c", "d", "e", "f", "found"] (some 9) [fMk F, fNeg F.od.mp.ra, fSub F.od.mp.ra] false T lev row [.int i, encE (.stop lo hi), encM m] n Q := by
  obtain ⟨ma, mb, mc, md, me, mf⟩ := hm
  have c2 : ∀ {v : Rat}, bq 1000 1000 v → bq 2000 2000 v := fun hv => bq_mono hv (by decide) (by decide)
  have e0 : ∀ {v : Rat}, bq 100 100 v → bq 2000 2000 (m.e - v) := fun hv => bq_mono (bq_sub me hv) (by decide) (by decide)
  have e1 : ∀ {v : Rat}, bq 100 100 v → bq 2000 2000 (v - m.e) := fun hv => bq_mono (bq_sub hv me) (by decide) (by decide)
  have s1 : ∀ {v : Rat}, bq 100 100 v → sm v := fun hv => sm1 hv (by decide) (by decide)
  have neg0 : -m.a ≠ 0 ∨ -m.b ≠ 0 := h0.imp (fun z e => z (by grind)) (fun z e => z (by grind))
  refine nm (nm (nm (nm (nm (nm ?_)))))
  refine ck (P := wpSs _ _ [sh (.int i), sh (encE (.stop lo hi)), sh (encM m), sh (encQ m.a), sh (encQ m.b), sh (encQ m.c), sh (encQ m.d), sh (encQ m.e), sh (encQ m.f), no] _ _ _) ?_
  refine And.intro (by decide : 0 ≤ 1000) ?_
  refine ck (P := wpSs _ _ [sh (.int i), sh (encE (.stop lo hi)), sh (encM m), sh (encQ m.a), sh (encQ m.b), sh (encQ m.c), sh (encQ m.d), sh (encQ m.e), sh (encQ m.f), ow []] _ _ _) ?_
  have rest : ∀ fd : List (Edge × HP), fd.length ≤ 10 → Q (encL encGH (fd ++ edgesM i none hi m)) n → wpSs (wpS (mkC ["index", "stop", "map_before", "a", "b", "c", "d", "e", "f", "found"] (some 9) [fMk F, fNeg F.od.mp.ra, fSub F.od.mp.ra] konD false T lev row) 12 (defScope (top 35))) ((defBody (top 35)).drop 3) [sh (.int i), sh (encE (.stop lo hi)), sh (encM m), sh (encQ m.a), sh (encQ m.b), sh (encQ m.c), sh (encQ m.d), sh (encQ m.e), sh (encQ m.f), ow (fd.map encGH)] n (fun _ n => Q .none n) Q := fun fd hfd hq => by
    cases hi with
    | none =>
      have e : fd ++ edgesM i none none m = fd := List.append_nil fd
      rw [e] at hq
      exact hq
    | some u =>
      refine And.intro (by decide : 2 ≤ 1000) ?_
      refine F.od.mp.ra.sub_i _ _ _ _ _ (s1 (hh u rfl)) (s1k me) ?_
      refine F.mkh_i _ _ _ _ _ _ (c2 ma) (c2 mb) (e1 (hh u rfl)) h0 ?_
      refine And.intro (by decide : 2 ≤ 1000) ?_
      refine And.intro (szlt (by rw [List.length_map]; omega)) ?_
      have e : encL encGH (fd ++ edgesM i none (some u) m) = .list (fd.map encGH ++ [encGH ((i, true), mkH m.a m.b (u - m.e))]) := by
        unfold encL edgesM
        rw [List.map_append]
        rfl
      rw [e] at hq
      exact hq
  cases lo with
  | none => exact rest [] (by decide) h
  | some l =>
    refine And.intro (by decide : 2 ≤ 1000) ?_
    refine F.od.mp.ra.neg_i _ _ _ _ ?_
    refine F.od.mp.ra.neg_i _ _ _ _ ?_
    refine F.od.mp.ra.sub_i _ _ _ _ _ (s1k me) (s1 (hl l rfl)) ?_
    refine F.mkh_i _ _ _ _ _ _ (c2 (bq_neg ma)) (c2 (bq_neg mb)) (e0 (hl l rfl)) neg0 ?_
    refine And.intro (by decide : 2 ≤ 1000) ?_
    refine And.intro (szlt (by decide)) ?_
    exact rest [((i, false), mkH (-m.a) (-m.b) (m.e - l))] (show 1 ≤ 10 by decide) h
abbrev fEd : Fi := ⟨"edges_of", F.ed, 3, []⟩
theorem edges_len (i : Nat) (lo hi : Option Rat) (m : Mp) : (edgesM i lo hi m).length ≤ 2 := by
  unfold edgesM
  cases lo <;> cases hi <;> simp
theorem w_hp (t : List El) (ht : hpOk idM t) (hl : t.length ≤ 1000) (h : Q (encL encGH (hpM t)) n) : W 36 ["train", "found", "before", "index", "element"] none [fEd F, fCo F.od.mp, fEm F.od.mp] false T lev row [encL encE t] n Q := by
  refine And.intro (by decide : 0 ≤ 1000) ?_
  refine ck (P := wpSs _ _ [sh (encL encE t), sh (encL encGH []), no, no, no] _ _ _) ?_
  refine for_e encE (fun i r ρ n' => n' = n ∧ ∃ m fd c d, hpOk m r ∧ fd.length + 2 * r.length ≤ 2000 ∧ ρ = [sh (encL encE t), sh (encL encGH fd), sh (encM m), c, d] ∧ fd ++ hpFrom i m r = hpM t) ?_ ?_ t 0 _ _ ⟨rfl, idM, [], no, no, ht, by simp only [List.length_nil]; omega, rfl, rfl⟩
  · rintro i x r ρ n' K ⟨rfl, m, fd, c, d, hr, hlen, rfl, he⟩ hK
    obtain ⟨r1, r2, r3, r4⟩ := hr
    simp only [List.length_cons] at hlen
    refine nm (nm ?_)
    refine ck (P := wpSs _ _ [sh (encL encE t), sh (encL encGH fd), sh (encM m), sh (.int i), sh (encE x)] _ _ _) ?_
    have main : ∀ fd2 : List (Edge × HP), fd2.length ≤ fd.length + 2 → fd2 ++ hpFrom (i + 1) (coM m (elM x)) r = hpM t → wpSs (wpS (mkC ["train", "found", "before", "index", "element"] none [fEd F, fCo F.od.mp, fEm F.od.mp] konD false T lev row) 11 (defScope (top 36))) ((inB (defBody (top 36)) 2).drop 1) [sh (encL encE t), sh (encL encGH fd2), sh (encM m), sh (.int i), sh (encE x)] n' K Q := fun fd2 hl2 he2 => by
      refine F.od.mp.em_i _ _ _ _ r2 ?_
      refine F.od.mp.co_i _ _ _ _ _ r1 (elM_b r2) ?_
      exact hK _ _ ⟨rfl, _, fd2, _, _, r4, by omega, rfl, he2⟩
    have he1 : fd ++ (elEdges i x m ++ hpFrom (i + 1) (coM m (elM x)) r) = hpM t := he
    cases x with
    | stop lo hi =>
      refine str_t ?_
      refine F.ed_i _ _ _ _ _ _ _ r1 r3 r2.1 r2.2 ?_
      have := edges_len i lo hi m
      refine And.intro (Nat.le_trans (m := 10000) (by simp only [List.length_map]; omega) (by rw [sizeLine_eq]; decide)) ?_
      refine ck (P := wpSs _ _ [sh (encL encE t), sh (.list (fd.map encGH ++ (edgesM i lo hi m).map encGH)), sh (encM m), sh (.int i), sh (encE (.stop lo hi))] _ _ _) ?_
      rw [← List.map_append]
      exact main (fd ++ edgesM i lo hi m) (by simp only [List.length_append]; omega) (by rw [List.append_assoc]; exact he1)
    | _ =>
      refine str_f ?_
      exact main fd (by omega) he1
  · rintro i ρ n' ⟨rfl, m, fd, c, d, hr, hlen, rfl, he⟩
    have he' : fd ++ [] = hpM t := he
    rw [List.append_nil] at he'
    show Q (encL encGH fd) n'
    rw [he']
    exact h
theorem va_s {h : HP} {x : Ray} (hh : bh 1700 h) (h1 : bq 2000 1900 x.1) (h2 : bq 2000 1900 x.2) : sm (evH h x) := sm_of (bq_add (bq_mul (bq_int hh.1) h1) (bq_mul (bq_int hh.2.1) h2)) (by decide) (by decide)
theorem w_va (g : HP) (x : Ray) (hh : bh 1700 g) (h1 : bq 2000 1900 x.1) (h2 : bq 2000 1900 x.2) (h : Q (encQ (evH g x)) n) : W 37 ["half_plane", "ray"] none [fFr F.od.mp.ra, fAdd F.od.mp.ra, fMul F.od.mp.ra] false T lev row [encH g, encR x] n Q := by
  refine fr1 F.od.mp.ra ?_
  refine F.od.mp.ra.mul_i _ _ _ _ _ (sm1 (bq_int hh.1) (by decide) (by decide)) (sm1 h1 (by decide) (by decide)) ?_
  refine fr1 F.od.mp.ra ?_
  refine F.od.mp.ra.mul_i _ _ _ _ _ (sm1 (bq_int hh.2.1) (by decide) (by decide)) (sm1 h2 (by decide) (by decide)) ?_
  refine F.od.mp.ra.add_i _ _ _ _ _ (sm_of (bq_mul (bq_int hh.1) h1) (by decide) (by decide)) (sm_of (bq_mul (bq_int hh.2.1) h2) (by decide) (by decide)) ?_
  exact h
theorem sgn_sub_le (p q : Rat) : sgn (p - q) ≤ 0 ↔ p ≤ q := by
  have h1 := sgn_pos (p - q)
  constructor
  · intro h
    refine Rat.not_lt.mp fun z => ?_
    have := h1.mpr (by grind)
    omega
  · intro h
    refine Int.not_lt.mp fun z => ?_
    have := h1.mp z
    grind
abbrev fVa : Fi := ⟨"value_at", F.va, 2, []⟩
theorem w_has (L : List HP) (x : Ray) (hL : ∀ h ∈ L, bh 1700 h) (h1 : bq 2000 1900 x.1) (h2 : bq 2000 1900 x.2) (h : Q (.bool (hasM L x)) n) : W 38 ["half_planes", "ray", "one"] none [fFr F.od.mp.ra, fCmp F.od.mp.ra, fVa F] true T lev row [encL encH L, encR x] n Q := by
  refine all_i encH (fun g => decide (evH g x ≤ (g.r : Rat))) n L (fun g hg K hK => ?_) ?_
  · refine nm ?_
    refine F.va_i _ _ _ _ _ (hL g hg) h1 h2 ?_
    refine fr1 F.od.mp.ra ?_
    refine F.od.mp.ra.cmp_i _ _ _ _ _ (va_s (hL g hg) h1 h2) (sm1 (bq_int (hL g hg).2.2) (by decide) (by decide)) ?_
    rw [decide_eq_decide.mpr (sgn_sub_le (evH g x) (g.r : Rat)).symm] at hK
    exact hK
  · exact h
end RT
namespace RT
open PySem PySem.Spec PyProof.Rows L2
/-! ### emptiness -/
def encW (w : Option (List Int)) : D := match w with
  | none => .none
  | some l => .tuple (l.map PyData.int)
def encI (ix : List Nat) : D := .tuple (ix.map fun i => .int (i : Nat))
def encS (x : List Nat × Option (List Int)) : D := .tuple [encI x.1, encW x.2]
def encZ (x : List Nat × List Int) : D := .tuple [encI x.1, .tuple (x.2.map PyData.int)]
structure EmS where
  hp : HpS
  ow : FnS
  ow_i : ∀ row n a b Q, bh 2000 a → bh 2000 b → nz a → Q (encW (oppW a b)) n → ow row n [encH a, encH b] Q
  tw : FnS
  tw_i : ∀ row n a b c Q, bh 2000 a → bh 2000 b → bh 2000 c → Q (encW (triW a b c)) n → tw row n [encH a, encH b, encH c] Q
  os : FnS
  os_i : ∀ row n L Q, bhs 2000 L → L.length ≤ 40 → Q (encL encZ (setsM L)) n → os row n [encL encH L] Q
  no : FnS
  no_i : ∀ row n L ix ws Q, (∀ h ∈ L, bh 2000 h) → (∀ i ∈ ix, i < L.length) → (∀ w ∈ ws, bz 5000 w) → Q (.int (numM L ix ws)) n → no row n [encL encH L, encI ix, .tuple (ws.map PyData.int)] Q
  em : FnS
  em_i : ∀ row n L Q, bhs 2000 L → L.length ≤ 40 → Q (.bool (empM L)) n → em row n [encL encH L] Q
variable (F : EmS) (T : List Addr) (lev : Nat) (row : List Int) (n : Int) (Q : QD)
abbrev fDet (F : HpS) : Fi := ⟨"determinant", F.det, 2, []⟩
abbrev fPro (F : HpS) : Fi := ⟨"product", F.pro, 2, []⟩
theorem w_ow (a b : HP) (ha : bh 2000 a) (hb : bh 2000 b) (hz : nz a) (h : Q (encW (oppW a b)) n) : W 41 ["first", "second", "one", "other", "divisor"] none [fDet F.hp, fPro F.hp, fCd F.hp.od.mp.ra] false T lev row [encH a, encH b] n Q := by
  have ha' := bh_mono (k := 5000) ha (by decide)
  have hb' := bh_mono (k := 5000) hb (by decide)
  unfold oppW at h
  refine F.hp.det_i _ _ _ _ _ ha' hb' ?_
  refine eq_n isI (crossH a b) 0 (fun h1 => ?_) (fun h1 => ?_)
  · rw [if_pos (Or.inl h1)] at h
    exact h
  · refine F.hp.pro_i _ _ _ _ _ ha' hb' ?_
    refine ite_d (fun h2 => ?_) (fun h2 => ?_)
    · rw [if_pos (Or.inr h2)] at h
      exact h
    · rw [if_neg (fun z => z.elim (fun z => z h1) h2)] at h
      refine ck (P := wpSs _ _ [sh (encH a), sh (encH b), sh (.int (n1 b)), no, no] _ _ _) ?_
      refine ck (P := wpSs _ _ [sh (encH a), sh (encH b), sh (.int (n1 b)), sh (.int (n1 a)), no] _ _ _) ?_
      refine F.hp.od.mp.ra.cd_i _ _ _ _ _ ?_
      have g0 : Int.gcd (n1 b) (n1 a) ≠ 0 := fun e => by
        have := n1_pos hz
        have := (Int.gcd_eq_zero_iff.mp e).2
        omega
      have g1 : bz 2001 ((Int.gcd (n1 b) (n1 a) : Nat) : Int) := Nat.lt_of_le_of_lt (Nat.le_of_dvd (by have := n1_pos hz; omega) (Int.gcd_dvd_natAbs_right _ _)) (n1_bz ha)
      have cg : ∀ i, CDivZ i ((Int.gcd (n1 b) (n1 a) : Nat) : Int) := fun i => cdiv_of g1 (by omega) (by decide)
      refine And.intro (cg _) (And.intro (cg _) ?_)
      exact And.intro (by decide : 2 ≤ 1000) h
theorem cross_bz {k : Nat} {a b : HP} (ha : bh k a) (hb : bh k b) : bz (2 * k + 1) (crossH a b) := by
  have := bz_add (bz_mul ha.1 hb.2.1) (bz_neg (bz_mul ha.2.1 hb.1))
  refine bz_mono (a := max (k + k) (k + k) + 1) ?_ (by omega)
  unfold crossH
  rw [Int.sub_eq_add_neg]
  exact this
theorem w_tw (a b c : HP) (ha : bh 2000 a) (hb : bh 2000 b) (hc : bh 2000 c) (h : Q (encW (triW a b c)) n) : W 42 ["first", "second", "third", "weights", "weight", "divisor"] none [fDet F.hp, fCd F.hp.od.mp.ra] true T lev row [encH a, encH b, encH c] n Q := by
  have ha' := bh_mono (k := 5000) ha (by decide)
  have hb' := bh_mono (k := 5000) hb (by decide)
  have hc' := bh_mono (k := 5000) hc (by decide)
  have main : ∀ (u v w : Int) (ws : List Int), ws = [u, v, w] → bz 4001 u → bz 4001 v → Q (encW (triP u v w)) n → wpSs (wpS (mkC ["first", "second", "third", "weights", "weight", "divisor"] none [fDet F.hp, fCd F.hp.od.mp.ra] konD true T lev row) 12 (defScope (top 42))) ((defBody (top 42)).drop 2) [sh (encH a), sh (encH b), sh (encH c), sh (.list (ws.map PyData.int)), no, no] n (fun _ n => Q .none n) Q := fun u v w ws hws hu hv hq => by
    unfold triP at hq
    refine any_i PyData.int (fun x => decide (x ≤ 0)) n ws (fun g hg K hK => ?_) ?_
    · exact nm hK
    · rw [hws]
      cases e : ([u, v, w].any fun x => decide (x ≤ 0)) with
      | true =>
        rw [if_pos e] at hq
        exact hq
      | false =>
        rw [if_neg (by rw [e]; decide)] at hq
        refine ck (P := wpSs _ _ [sh (encH a), sh (encH b), sh (encH c), sh (.list [.int u, .int v, .int w]), no, no] _ _ _) ?_
        refine F.hp.od.mp.ra.cd_i _ _ _ _ _ ?_
        refine F.hp.od.mp.ra.cd_i _ _ _ _ _ ?_
        have u0 : u ≠ 0 ∨ v ≠ 0 := .inl fun z => by
          subst z
          simp at e
        have g0 := gcd3_ne (z := w) u0
        have g1 := gcd3_bz (z := w) u0 hu hv
        have cg : ∀ i, CDivZ i ((Int.gcd (Int.gcd u v) w : Nat) : Int) := fun i => cdiv_of g1 (by omega) (by decide)
        have fin : ∀ ws : List Int, ws = [u, v, w] → wpSs (wpS (mkC ["first", "second", "third", "weights", "weight", "divisor"] none [fDet F.hp, fCd F.hp.od.mp.ra] konD true T lev row) 12 (defScope (top 42))) ((defBody (top 42)).drop 4) [sh (encH a), sh (encH b), sh (encH c), sh (.list (ws.map PyData.int)), no, sh (.int (Int.gcd (Int.gcd u v) w : Nat))] n (fun _ n => Q .none n) Q := fun ws hws => by
          refine comp_m PyData.int (fun x => .int (x.fdiv (Int.gcd (Int.gcd u v) w : Nat))) n ws [] (fun g hg K hK => ?_) ?_
          · exact nm (And.intro (cg _) hK)
          · rw [hws]
            exact hq
        exact fin _ rfl
  refine F.hp.det_i _ _ _ _ _ hb' hc' ?_
  refine F.hp.det_i _ _ _ _ _ hc' ha' ?_
  refine F.hp.det_i _ _ _ _ _ ha' hb' ?_
  refine And.intro (by decide : 3 ≤ 1000) ?_
  refine ck (P := wpSs _ _ [sh (encH a), sh (encH b), sh (encH c), sh (.list [.int (crossH b c), .int (crossH c a), .int (crossH a b)]), no, no] _ _ _) ?_
  unfold triW at h
  have b1 := cross_bz hb hc
  have b2 := cross_bz hc ha
  refine ite_d (fun h1 => ?_) (fun h1 => ?_)
  · rw [if_pos h1] at h
    have neg : ∀ ws : List Int, ws = [crossH b c, crossH c a, crossH a b] → wpSs (wpS (mkC ["first", "second", "third", "weights", "weight", "divisor"] none [fDet F.hp, fCd F.hp.od.mp.ra] konD true T lev row) 11 (defScope (top 42))) (inB (defBody (top 42)) 1) [sh (encH a), sh (encH b), sh (encH c), sh (.list (ws.map PyData.int)), no, no] n (fun ρ1 n1 => wpSs (wpS (mkC ["first", "second", "third", "weights", "weight", "divisor"] none [fDet F.hp, fCd F.hp.od.mp.ra] konD true T lev row) 12 (defScope (top 42))) ((defBody (top 42)).drop 2) ρ1 n1 (fun _ n => Q .none n) Q) Q := fun ws hws => by
      refine comp_m PyData.int (fun x => .int (-x)) n ws [] (fun g hg K hK => ?_) ?_
      · exact nm hK
      · rw [hws]
        exact main _ _ _ [-crossH b c, -crossH c a, -crossH a b] rfl (bz_neg b1) (bz_neg b2) h
    exact neg _ rfl
  · rw [if_neg h1] at h
    exact main _ _ _ [crossH b c, crossH c a, crossH a b] rfl b1 b2 h
theorem at_H (L : List HP) (i : Nat) (hi : i < L.length) : atI (L.map encH) (i : Nat) = some (encH (hAt L i)) := by
  unfold atI
  have e : ixN (L.map encH).length (i : Nat) = some i := by
    unfold ixN
    rw [List.length_map, if_pos (by omega), if_pos (by omega)]
    rfl
  rw [e]
  show (L.map encH)[i]? = _
  rw [List.getElem?_map, List.getElem?_eq_getElem hi]
  unfold hAt
  simp [hi]
theorem hAt_mem {L : List HP} {i : Nat} (hi : i < L.length) : hAt L i ∈ L := by
  unfold hAt
  have e : L.getD i ⟨0, 0, 0⟩ = L[i] := by simp [hi]
  rw [e]
  exact List.getElem_mem hi
/-- half_planes[i] -/
theorem ix_H {L : List HP} {i : Nat} (hi : i < L.length) {Q : D → Prop} (q : Q (encH (hAt L i))) : ixD (encL encH L) (.int (i : Nat)) Q := by
  show match atI (L.map encH) (i : Nat) with
    | some d => Q d
    | none => False
  rw [at_H L i hi]
  exact q
abbrev fOw (F : EmS) : Fi := ⟨"opposite_weights", F.ow, 2, []⟩
abbrev fTw (F : EmS) : Fi := ⟨"triple_weights", F.tw, 3, []⟩
def C43 (F : EmS) (T : List Addr) (lev : Nat) (row : List Int) : Cfg := mkC ["half_planes", "many", "found", "i", "j", "k", "one"] (some 2) [fOw F, fTw F] konD false T lev row
theorem w_os (L : List HP) (hL : bhs 2000 L) (hl : L.length ≤ 40) (h : Q (encL encZ (setsM L)) n) : W 43 ["half_planes", "many", "found", "i", "j", "k", "one"] (some 2) [fOw F, fTw F] false T lev row [encL encH L] n Q := by
  have hm : ∀ {i}, i < L.length → bh 2000 (hAt L i) ∧ nz (hAt L i) := fun hi => hL _ (hAt_mem hi)
  refine And.intro rfl ?_
  refine ck (P := wpSs _ _ [sh (encL encH L), sh (.int ((L.map encH).length : Nat)), no, no, no, no, no] _ _ _) ?_
  rw [List.length_map]
  refine And.intro (by decide : 0 ≤ 1000) ?_
  refine ck (P := wpSs _ _ [sh (encL encH L), sh (.int (L.length : Nat)), ow [], no, no, no, no] _ _ _) ?_
  refine And.intro ⟨by omega, by omega⟩ ?_
  refine for_r0 (fun i ρ n' => n' = n ∧ ∃ fd c1 c2 c3 c4, fd = (List.range i).flatMap (row2 L) ∧ fd.length ≤ 40 * i ∧ ρ = [sh (encL encH L), sh (.int (L.length : Nat)), ow (fd.map encS), c1, c2, c3, c4]) L.length rfl ?_ ?_ _ _ ⟨rfl, [], no, no, no, no, rfl, Nat.zero_le _, rfl⟩
  · rintro i ρ n' K hi ⟨rfl, fd, c1, c2, c3, c4, hfd, hfl, rfl⟩ hK
    refine nm ?_
    refine ck (P := wpSs _ _ [sh (encL encH L), sh (.int (L.length : Nat)), ow (fd.map encS), sh (.int (i : Nat)), c2, c3, c4] _ _ _) ?_
    refine And.intro ⟨by omega, by omega, by omega, by omega⟩ ?_
    refine for_rs (fun j ρ n2 => n2 = n' ∧ ∃ gd c2 c3 c4, gd = fd ++ (List.range' (i + 1) (j - (i + 1))).map (fun j => ([i, j], oppW (hAt L i) (hAt L j))) ∧ gd.length ≤ 40 * i + (j - (i + 1)) ∧ ρ = [sh (encL encH L), sh (.int (L.length : Nat)), ow (gd.map encS), sh (.int (i : Nat)), c2, c3, c4]) (i + 1) L.length rfl rfl hi ?_ ?_ _ _ ⟨rfl, fd, c2, c3, c4, by rw [Nat.sub_self]; exact (List.append_nil _).symm, by omega, rfl⟩
    · rintro j ρ n2 K2 hj hj2 ⟨rfl, gd, c2, c3, c4, hgd, hgl, rfl⟩ hK2
      refine nm ?_
      refine ck (P := wpSs _ _ [sh (encL encH L), sh (.int (L.length : Nat)), ow (gd.map encS), sh (.int (i : Nat)), sh (.int (j : Nat)), c3, c4] _ _ _) ?_
      refine And.intro (by decide : 2 ≤ 1000) ?_
      refine ix_H hi ?_
      refine ix_H hj2 ?_
      refine F.ow_i _ _ _ _ _ (hm hi).1 (hm hj2).1 (hm hi).2 ?_
      refine And.intro (by decide : 2 ≤ 1000) ?_
      refine And.intro (szlt (by rw [List.length_map]; omega)) ?_
      refine hK2 _ _ ⟨rfl, gd ++ [([i, j], oppW (hAt L i) (hAt L j))], sh (.int (j : Nat)), c3, c4, ?_, ?_, ?_⟩
      · rw [rg_succ hj, List.map_append, hgd, List.append_assoc]
        rfl
      · rw [List.length_append]
        simp only [List.length_singleton]
        omega
      · rw [List.map_append]
        rfl
    · rintro ρ n2 ⟨rfl, gd, c2, c3, c4, hgd, hgl, rfl⟩
      refine hK _ _ ⟨rfl, gd, _, _, _, _, ?_, ?_, rfl⟩
      · rw [List.range_succ, List.flatMap_append, hgd, hfd]
        simp only [List.flatMap_cons, List.flatMap_nil, List.append_nil]
        rfl
      · omega
  · rintro ρ n' ⟨rfl, fd, c1, c2, c3, c4, hfd, hfl, rfl⟩
    refine And.intro ⟨by omega, by omega⟩ ?_
    refine for_r0 (fun i ρ n2 => n2 = n' ∧ ∃ gd c1 c2 c3 c4, gd = fd ++ (List.range i).flatMap (row3 L) ∧ gd.length ≤ 1600 + 1600 * i ∧ ρ = [sh (encL encH L), sh (.int (L.length : Nat)), ow (gd.map encS), c1, c2, c3, c4]) L.length rfl ?_ ?_ _ _ ⟨rfl, fd, _, _, _, _, (List.append_nil _).symm, by omega, rfl⟩
    · rintro i ρ n2 K hi ⟨rfl, gd, c1, c2, c3, c4, hgd, hgl, rfl⟩ hK
      refine nm ?_
      refine ck (P := wpSs _ _ [sh (encL encH L), sh (.int (L.length : Nat)), ow (gd.map encS), sh (.int (i : Nat)), c2, c3, c4] _ _ _) ?_
      refine And.intro ⟨by omega, by omega, by omega, by omega⟩ ?_
      refine for_rs (fun j ρ n3 => n3 = n2 ∧ ∃ ed c2 c3 c4, ed = gd ++ (List.range' (i + 1) (j - (i + 1))).flatMap (row3k L i) ∧ ed.length ≤ 1600 + 1600 * i + 40 * (j - (i + 1)) ∧ ρ = [sh (encL encH L), sh (.int (L.length : Nat)), ow (ed.map encS), sh (.int (i : Nat)), c2, c3, c4]) (i + 1) L.length rfl rfl hi ?_ ?_ _ _ ⟨rfl, gd, c2, c3, c4, by rw [Nat.sub_self]; exact (List.append_nil _).symm, by omega, rfl⟩
      · rintro j ρ n3 K2 hj hj2 ⟨rfl, ed, c2, c3, c4, hed, hel, rfl⟩ hK2
        refine nm ?_
        refine ck (P := wpSs _ _ [sh (encL encH L), sh (.int (L.length : Nat)), ow (ed.map encS), sh (.int (i : Nat)), sh (.int (j : Nat)), c3, c4] _ _ _) ?_
        refine And.intro ⟨by omega, by omega, by omega, by omega⟩ ?_
        refine for_rs (fun k ρ n4 => n4 = n3 ∧ ∃ xd c3 c4, xd = ed ++ (List.range' (j + 1) (k - (j + 1))).map (fun k => ([i, j, k], triW (hAt L i) (hAt L j) (hAt L k))) ∧ xd.length ≤ 1600 + 1600 * i + 40 * (j - (i + 1)) + (k - (j + 1)) ∧ ρ = [sh (encL encH L), sh (.int (L.length : Nat)), ow (xd.map encS), sh (.int (i : Nat)), sh (.int (j : Nat)), c3, c4]) (j + 1) L.length rfl rfl hj2 ?_ ?_ _ _ ⟨rfl, ed, c3, c4, by rw [Nat.sub_self]; exact (List.append_nil _).symm, by omega, rfl⟩
        · rintro k ρ n4 K3 hk hk2 ⟨rfl, xd, c3, c4, hxd, hxl, rfl⟩ hK3
          refine nm ?_
          refine ck (P := wpSs _ _ [sh (encL encH L), sh (.int (L.length : Nat)), ow (xd.map encS), sh (.int (i : Nat)), sh (.int (j : Nat)), sh (.int (k : Nat)), c4] _ _ _) ?_
          refine And.intro (by decide : 3 ≤ 1000) ?_
          refine ix_H hi ?_
          refine ix_H hj2 ?_
          refine ix_H hk2 ?_
          refine F.tw_i _ _ _ _ _ _ (hm hi).1 (hm hj2).1 (hm hk2).1 ?_
          refine And.intro (by decide : 2 ≤ 1000) ?_
          refine And.intro (szlt (by rw [List.length_map]; omega)) ?_
          refine hK3 _ _ ⟨rfl, xd ++ [([i, j, k], triW (hAt L i) (hAt L j) (hAt L k))], sh (.int (k : Nat)), c4, ?_, ?_, ?_⟩
          · rw [rg_succ hk, List.map_append, hxd, List.append_assoc]
            rfl
          · rw [List.length_append]
            simp only [List.length_singleton]
            omega
          · rw [List.map_append]
            rfl
        · rintro ρ n4 ⟨rfl, xd, c3, c4, hxd, hxl, rfl⟩
          refine hK2 _ _ ⟨rfl, xd, _, _, _, ?_, ?_, rfl⟩
          · rw [rg_succ hj, List.flatMap_append, hxd, hed]
            simp only [List.flatMap_cons, List.flatMap_nil, List.append_nil, List.append_assoc]
            rfl
          · omega
      · rintro ρ n3 ⟨rfl, ed, c2, c3, c4, hed, hel, rfl⟩
        refine hK _ _ ⟨rfl, ed, _, _, _, _, ?_, ?_, rfl⟩
        · rw [List.range_succ, List.flatMap_append, hed, hgd]
          simp only [List.flatMap_cons, List.flatMap_nil, List.append_nil, List.append_assoc]
          rfl
        · omega
    · rintro ρ n2 ⟨rfl, gd, c1, c2, c3, c4, hgd, hgl, rfl⟩
      have e0 : gd = setsAll L := by rw [hgd, hfd]; rfl
      refine comp_i encS (fun x => match x.2 with
        | some w => some (encS x)
        | none => none) n2 gd [] (fun x hx K1 K2 k1 k2 => ?_) ?_
      · refine nm ?_
        obtain ⟨ix, w⟩ := x
        cases w with
        | none => exact k2 rfl
        | some w => exact k1 _ rfl
      · have e1 : ([] ++ gd.filterMap fun x => match x.2 with
            | some w => some (encS x)
            | none => none) = (setsM L).map encZ := by
          rw [List.nil_append, e0]
          unfold setsM
          rw [List.map_filterMap]
          congr 1
          funext x
          obtain ⟨ix, w⟩ := x
          cases w <;> rfl
        rw [e1]
        exact h
theorem zip_map {α β : Type} (e : α → D) (f : β → D) : ∀ (xs : List α) (ys : List β), zipD (xs.map e) (ys.map f) = (xs.zip ys).map fun x => .tuple [e x.1, f x.2]
  | [], [] => rfl
  | [], _ :: _ => rfl
  | _ :: _, [] => rfl
  | x :: xs, y :: ys => by
    show PyData.tuple [e x, f y] :: zipD (xs.map e) (ys.map f) = _
    rw [zip_map e f xs ys]
    rfl
theorem sum_int : ∀ ys : List Int, sumD (ys.map PyData.int) = some (sumI ys)
  | [] => rfl
  | y :: ys => by
    show (sumD (ys.map PyData.int)).map (y + ·) = _
    rw [sum_int ys]
    rfl
theorem w_no (L : List HP) (ix : List Nat) (ws : List Int) (hL : ∀ h ∈ L, bh 2000 h) (hi : ∀ i ∈ ix, i < L.length) (hw : ∀ w ∈ ws, bz 5000 w) (h : Q (.int (numM L ix ws)) n) : W 44 ["half_planes", "indexes", "weights", "index", "weight"] none [] false T lev row [encL encH L, encI ix, .tuple (ws.map PyData.int)] n Q := by
  refine ck (P := compD _ _ _ (zipD (ix.map fun i => .int (i : Nat)) (ws.map PyData.int)) [] _ _) ?_
  rw [zip_map]
  refine comp_m (fun x : Nat × Int => .tuple [.int (x.1 : Nat), .int x.2]) (fun x => .int ((hAt L x.1).r * x.2)) n (ix.zip ws) [] (fun x hx K k => ?_) ?_
  · have h1 := hi _ (List.of_mem_zip hx).1
    refine nm (nm ?_)
    refine ix_H h1 ?_
    exact And.intro (cmul_of (hL _ (hAt_mem h1)).2.2 (hw _ (List.of_mem_zip hx).2) (by decide)) k
  · rw [List.nil_append]
    have e : (ix.zip ws).map (fun x => PyData.int ((hAt L x.1).r * x.2)) = ((ix.zip ws).map fun x => (hAt L x.1).r * x.2).map PyData.int := by
      rw [List.map_map]
      rfl
    rw [e]
    refine ck (P := (match sumD (((ix.zip ws).map fun x => (hAt L x.1).r * x.2).map PyData.int) with
      | some i => Q (.int i) n
      | none => False)) ?_
    rw [sum_int]
    exact h
theorem up_lt {i j m : Nat} (h : j ∈ up i m) : j < m := by
  unfold up at h
  rw [List.mem_range'_1] at h
  omega
theorem fdiv_bz {a b : Int} {k : Nat} (h : bz k a) (hb : 0 ≤ b) : bz k (a.fdiv b) := by
  rw [Int.fdiv_eq_ediv_of_nonneg _ hb]
  exact Nat.lt_of_le_of_lt (Int.natAbs_ediv_le_natAbs _ _) h
theorem oppW_bz {a b : HP} {w : List Int} (ha : bh 2000 a) (hb : bh 2000 b) (e : oppW a b = some w) : ∀ x ∈ w, bz 5000 x := by
  unfold oppW at e
  split at e
  · cases e
  · cases e
    intro x hx
    rcases List.mem_cons.mp hx with rfl | hx
    · exact bz_mono (fdiv_bz (n1_bz hb) (Int.natCast_nonneg _)) (by decide)
    · rcases List.mem_cons.mp hx with rfl | hx
      · exact bz_mono (fdiv_bz (n1_bz ha) (Int.natCast_nonneg _)) (by decide)
      · cases hx
theorem triP_bz {u v w : Int} {ws : List Int} (hu : bz 5000 u) (hv : bz 5000 v) (hw : bz 5000 w) (e : triP u v w = some ws) : ∀ x ∈ ws, bz 5000 x := by
  unfold triP at e
  split at e
  · cases e
  · cases e
    intro x hx
    rcases List.mem_cons.mp hx with rfl | hx
    · exact fdiv_bz hu (Int.natCast_nonneg _)
    · rcases List.mem_cons.mp hx with rfl | hx
      · exact fdiv_bz hv (Int.natCast_nonneg _)
      · rcases List.mem_cons.mp hx with rfl | hx
        · exact fdiv_bz hw (Int.natCast_nonneg _)
        · cases hx
theorem triW_bz {a b c : HP} {ws : List Int} (ha : bh 2000 a) (hb : bh 2000 b) (hc : bh 2000 c) (e : triW a b c = some ws) : ∀ x ∈ ws, bz 5000 x := by
  have q : ∀ {x y : HP}, bh 2000 x → bh 2000 y → bz 5000 (crossH x y) := fun hx hy => bz_mono (cross_bz hx hy) (by decide)
  unfold triW at e
  split at e
  · exact triP_bz (bz_neg (q hb hc)) (bz_neg (q hc ha)) (bz_neg (q ha hb)) e
  · exact triP_bz (q hb hc) (q hc ha) (q ha hb) e
theorem sets_ok {L : List HP} (hL : ∀ h ∈ L, bh 2000 h) {x : List Nat × List Int} (hx : x ∈ setsM L) : (∀ i ∈ x.1, i < L.length) ∧ ∀ w ∈ x.2, bz 5000 w := by
  unfold setsM at hx
  rw [List.mem_filterMap] at hx
  obtain ⟨⟨ix, w⟩, hy, he⟩ := hx
  cases w with
  | none => cases he
  | some w =>
    have he' : some (ix, w) = some x := he
    cases he'
    have q : ∀ {i}, i < L.length → bh 2000 (hAt L i) := fun hi => hL _ (hAt_mem hi)
    unfold setsAll at hy
    rw [List.mem_append] at hy
    rcases hy with hy | hy
    · rw [List.mem_flatMap] at hy
      obtain ⟨i, hi, hy⟩ := hy
      have hi := List.mem_range.mp hi
      unfold row2 at hy
      rw [List.mem_map] at hy
      obtain ⟨j, hj, e⟩ := hy
      have hj := up_lt hj
      injection e with e1 e2
      subst e1
      refine ⟨fun k hk => ?_, oppW_bz (q hi) (q hj) e2⟩
      rcases List.mem_cons.mp hk with rfl | hk
      · exact hi
      · rcases List.mem_cons.mp hk with rfl | hk
        · exact hj
        · cases hk
    · rw [List.mem_flatMap] at hy
      obtain ⟨i, hi, hy⟩ := hy
      have hi := List.mem_range.mp hi
      unfold row3 at hy
      rw [List.mem_flatMap] at hy
      obtain ⟨j, hj, hy⟩ := hy
      have hj := up_lt hj
      unfold row3k at hy
      rw [List.mem_map] at hy
      obtain ⟨k, hk, e⟩ := hy
      have hk := up_lt hk
      injection e with e1 e2
      subst e1
      refine ⟨fun l hl => ?_, triW_bz (q hi) (q hj) (q hk) e2⟩
      rcases List.mem_cons.mp hl with rfl | hl
      · exact hi
      · rcases List.mem_cons.mp hl with rfl | hl
        · exact hj
        · rcases List.mem_cons.mp hl with rfl | hl
          · exact hk
          · cases hl
abbrev fOs (F : EmS) : Fi := ⟨"opposing_sets", F.os, 1, []⟩
abbrev fNo (F : EmS) : Fi := ⟨"number_of", F.no, 3, []⟩
theorem w_em2 (L : List HP) (hL : bhs 2000 L) (hl : L.length ≤ 40) (h : Q (.bool (empM L)) n) : W 45 ["half_planes", "indexes", "weights"] none [fOs F, fNo F] true T lev row [encL encH L] n Q := by
  refine F.os_i _ _ _ _ hL hl ?_
  refine any_i encZ (fun x => decide (numM L x.1 x.2 < 0)) n (setsM L) (fun x hx K k => ?_) ?_
  · refine nm (nm ?_)
    obtain ⟨h1, h2⟩ := sets_ok (fun h hh => (hL h hh).1) hx
    refine F.no_i _ _ _ _ _ _ (fun h hh => (hL h hh).1) h1 h2 ?_
    exact k
  · exact h
end RT
namespace RT
open PySem PySem.Spec PyProof.Rows L2
/-! ### bounds of a direction -/
def encOH (x : Option HP) : D := match x with
  | none => .none
  | some h => encH h
def encDR (x : Option (Option Rat × Option Rat)) : D := match x with
  | none => .none
  | some (l, u) => .tuple [encO l, encO u]
/-- sizes of half-planes and of a direction -/
structure DirOk (H b : Nat) (L : List HP) (p q : Rat) : Prop where
  hb : bhs H L
  len : L.length ≤ 40
  H1 : H ≤ 2000
  Hb : H + b ≤ 2190
  p1 : bq 10000 b p
  q1 : bq 10000 b q
structure SuS where
  em : EmS
  sg : FnS
  sg_i : ∀ row n (H b : Nat) h p q Q, H + b ≤ 2190 → bh H h → nz h → bq 10000 b p → bq 10000 b q → Q (encO (sglM h p q)) n → sg row n [encH h, encQ p, encQ q] Q
  pw : FnS
  pw_i : ∀ row n (H b : Nat) g h p q Q, H + b ≤ 2190 → bh H g → bh H h → bq 10000 b p → bq 10000 b q → Q (encX (pwM g h p q)) n → pw row n [encH g, encH h, encQ p, encQ q] Q
  pb : FnS
  pb_i : ∀ row n (H b : Nat) g h p q Q, H + b ≤ 2190 → bh H g → bh H h → bq 10000 b p → bq 10000 b q → Q (encO (prM g h p q)) n → pb row n [encH g, encH h, encQ p, encQ q] Q
  su : FnS
  su_i : ∀ row n (H b : Nat) L p q Q, DirOk H b L p q → Q (encO (supM L p q)) n → su row n [encL encH L, encQ p, encQ q] Q
  inf : FnS
  inf_i : ∀ row n (H b : Nat) L p q Q, DirOk H b L p q → Q (encO (infM L p q)) n → inf row n [encL encH L, encQ p, encQ q] Q
  dr : FnS
  dr_i : ∀ row n (H b : Nat) L p q Q, DirOk H b L p q → Q (encDR (drM L p q)) n → dr row n [encL encH L, encQ p, encQ q] Q
  li : FnS
  li_i : ∀ row n L Q, bhs 2000 L → L.length ≤ 40 → Q (encOH (lineM L L)) n → li row n [encL encH L] Q
  ki : FnS
  ki_i : ∀ row n L Q, bhs 2000 L → L.length ≤ 40 → Q (.str (kdS (kindM L))) n → ki row n [encL encH L] Q
variable (F : SuS) (T : List Addr) (lev : Nat) (row : List Int) (n : Int) (Q : QD)
theorem dot_bz {k : Nat} {a b : HP} (ha : bh k a) (hb : bh k b) : bz (2 * k + 1) (dotH a b) := bz_mono (bz_add (bz_mul ha.1 hb.1) (bz_mul ha.2.1 hb.2.1)) (by omega)
theorem sq_pos {i : Int} (h : i ≠ 0) : 0 < i * i := by
  rcases Int.lt_or_gt_of_ne h with z | z
  · exact Int.mul_pos_of_neg_of_neg z z
  · exact Int.mul_pos z z
theorem sq_nn (i : Int) : 0 ≤ i * i := by
  by_cases h : i = 0
  · subst h; decide
  · exact Int.le_of_lt (sq_pos h)
theorem dot_pos {h : HP} (hz : nz h) : 0 < dotH h h := by
  unfold dotH
  have h1 := sq_nn h.p
  have h2 := sq_nn h.q
  rcases hz with z | z
  · have := sq_pos z; omega
  · have := sq_pos z; omega
theorem cast_ne {i : Int} (h : i ≠ 0) : (i : Rat) ≠ 0 := fun z => h (Rat.intCast_eq_zero_iff.mp z)
theorem w_sg (H b : Nat) (g : HP) (p q : Rat) (hHb : H + b ≤ 2190) (hg : bh H g) (hz : nz g) (hp : bq 10000 b p) (hq : bq 10000 b q) (h : Q (encO (sglM g p q)) n) :
    W 46 ["half_plane", "p", "q", "cross", "along", "ratio"] none [fFr F.em.hp.od.mp.ra, fAdd F.em.hp.od.mp.ra, fSub F.em.hp.od.mp.ra, fMul F.em.hp.od.mp.ra, fDiv F.em.hp.od.mp.ra, fSgn F.em.hp.od.mp.ra, fPro F.em.hp] false T lev row [encH g, encQ p, encQ q] n Q := by
  unfold sglM at h
  have sp : sm p := sm_of hp (by omega) (by omega)
  have sq : sm q := sm_of hq (by omega) (by omega)
  have si : ∀ {i : Int}, bz H i → sm (i : Rat) := fun hi => sm_of (bq_int hi) (by omega) (by omega)
  have m1 : ∀ {i : Int} {v : Rat}, bz H i → bq 10000 b v → bq (H + 10000) (1 + b) ((i : Rat) * v) := fun hi hv => bq_mul (bq_int hi) hv
  have sm1' : ∀ {i : Int} {v : Rat}, bz H i → bq 10000 b v → sm ((i : Rat) * v) := fun hi hv => sm_of (m1 hi hv) (by omega) (by omega)
  have al := bq_add (m1 hg.1 hp) (m1 hg.2.1 hq)
  have d0 : dotH g g ≠ 0 := by have := dot_pos hz; omega
  refine fr1 _ ?_
  refine F.em.hp.od.mp.ra.mul_i _ _ _ _ _ (si hg.1) sq ?_
  refine fr1 _ ?_
  refine F.em.hp.od.mp.ra.mul_i _ _ _ _ _ (si hg.2.1) sp ?_
  refine F.em.hp.od.mp.ra.sub_i _ _ _ _ _ (sm1' hg.1 hq) (sm1' hg.2.1 hp) ?_
  refine ck (P := wpSs _ _ [sh (encH g), sh (encQ p), sh (encQ q), sh (encQ ((g.p : Rat) * q - (g.q : Rat) * p)), no, no] _ _ _) ?_
  refine fr1 _ ?_
  refine F.em.hp.od.mp.ra.mul_i _ _ _ _ _ (si hg.1) sp ?_
  refine fr1 _ ?_
  refine F.em.hp.od.mp.ra.mul_i _ _ _ _ _ (si hg.2.1) sq ?_
  refine F.em.hp.od.mp.ra.add_i _ _ _ _ _ (sm1' hg.1 hp) (sm1' hg.2.1 hq) ?_
  refine ck (P := wpSs _ _ [sh (encH g), sh (encQ p), sh (encQ q), sh (encQ ((g.p : Rat) * q - (g.q : Rat) * p)), sh (encQ ((g.p : Rat) * p + (g.q : Rat) * q)), no] _ _ _) ?_
  refine eq_n isQ ((g.p : Rat) * q - (g.q : Rat) * p) 0 (fun h1 => ?_) (fun h1 => ?_)
  · rw [if_pos (Or.inl h1)] at h
    exact h
  · refine F.em.hp.od.mp.ra.sgn_i _ _ _ _ ?_
    refine ite_d (fun h2 => ?_) (fun h2 => ?_)
    · rw [if_pos (Or.inr h2)] at h
      exact h
    · rw [if_neg (fun z => z.elim (fun z => z h1) h2)] at h
      refine F.em.hp.pro_i _ _ _ _ _ (bh_mono hg (by omega)) (bh_mono hg (by omega)) ?_
      refine fr1 _ ?_
      refine F.em.hp.od.mp.ra.div_i _ _ _ _ _ (sm_of al (by omega) (by omega)) (sm_of (bq_int (dot_bz hg hg)) (by omega) (by omega)) (cast_ne d0) (bq_mono al (by omega) (by omega)) (bz_mono (dot_bz hg hg) (by omega)) ?_
      refine ck (P := wpSs _ _ [sh (encH g), sh (encQ p), sh (encQ q), sh (encQ ((g.p : Rat) * q - (g.q : Rat) * p)), sh (encQ ((g.p : Rat) * p + (g.q : Rat) * q)), sh (encQ (((g.p : Rat) * p + (g.q : Rat) * q) / (dotH g g : Rat)))] _ _ _) ?_
      refine fr1 _ ?_
      refine F.em.hp.od.mp.ra.mul_i _ _ _ _ _ (sm_of (bq_div al (bq_int (dot_bz hg hg)) (cast_ne d0)) (by omega) (by omega)) (si hg.2.2) ?_
      exact h
theorem w_pw (H b : Nat) (g k : HP) (p q : Rat) (hHb : H + b ≤ 2190) (hg : bh H g) (hk : bh H k) (hp : bq 10000 b p) (hq : bq 10000 b q) (h : Q (encX (pwM g k p q)) n) :
    W 47 ["first", "second", "p", "q", "whole", "one", "other"] none [fFr F.em.hp.od.mp.ra, fSub F.em.hp.od.mp.ra, fMul F.em.hp.od.mp.ra, fDiv F.em.hp.od.mp.ra, fSgn F.em.hp.od.mp.ra, fDet F.em.hp] false T lev row [encH g, encH k, encQ p, encQ q] n Q := by
  unfold pwM at h
  have sp : sm p := sm_of hp (by omega) (by omega)
  have sq : sm q := sm_of hq (by omega) (by omega)
  have si : ∀ {i : Int}, bz H i → sm (i : Rat) := fun hi => sm_of (bq_int hi) (by omega) (by omega)
  have m1 : ∀ {i : Int} {v : Rat}, bz H i → bq 10000 b v → bq (10000 + H) (b + 1) (v * (i : Rat)) := fun hi hv => bq_mul hv (bq_int hi)
  have sm1' : ∀ {i : Int} {v : Rat}, bz H i → bq 10000 b v → sm (v * (i : Rat)) := fun hi hv => sm_of (m1 hi hv) (by omega) (by omega)
  have x1 := bq_sub (m1 hk.2.1 hp) (m1 hk.1 hq)
  have y1 := bq_sub (m1 hg.1 hq) (m1 hg.2.1 hp)
  have cb := cross_bz hg hk
  refine F.em.hp.det_i _ _ _ _ _ (bh_mono hg (by omega)) (bh_mono hk (by omega)) ?_
  refine ck (P := wpSs _ _ [sh (encH g), sh (encH k), sh (encQ p), sh (encQ q), sh (.int (crossH g k)), no, no] _ _ _) ?_
  refine eq_d isI (crossH g k) 0 (fun h1 => ?_) (fun h1 => ?_)
  · rw [if_pos h1] at h
    exact h
  · rw [if_neg h1] at h
    refine fr1 _ ?_
    refine F.em.hp.od.mp.ra.mul_i _ _ _ _ _ sp (si hk.2.1) ?_
    refine fr1 _ ?_
    refine F.em.hp.od.mp.ra.mul_i _ _ _ _ _ sq (si hk.1) ?_
    refine F.em.hp.od.mp.ra.sub_i _ _ _ _ _ (sm1' hk.2.1 hp) (sm1' hk.1 hq) ?_
    refine fr1 _ ?_
    refine F.em.hp.od.mp.ra.div_i _ _ _ _ _ (sm_of x1 (by omega) (by omega)) (sm_of (bq_int cb) (by omega) (by omega)) (cast_ne h1) (bq_mono x1 (by omega) (by omega)) (bz_mono cb (by omega)) ?_
    refine ck (P := wpSs _ _ [sh (encH g), sh (encH k), sh (encQ p), sh (encQ q), sh (.int (crossH g k)), sh (encQ ((p * (k.q : Rat) - q * (k.p : Rat)) / (crossH g k : Rat))), no] _ _ _) ?_
    refine fr1 _ ?_
    refine F.em.hp.od.mp.ra.mul_i _ _ _ _ _ sq (si hg.1) ?_
    refine fr1 _ ?_
    refine F.em.hp.od.mp.ra.mul_i _ _ _ _ _ sp (si hg.2.1) ?_
    refine F.em.hp.od.mp.ra.sub_i _ _ _ _ _ (sm1' hg.1 hq) (sm1' hg.2.1 hp) ?_
    refine fr1 _ ?_
    refine F.em.hp.od.mp.ra.div_i _ _ _ _ _ (sm_of y1 (by omega) (by omega)) (sm_of (bq_int cb) (by omega) (by omega)) (cast_ne h1) (bq_mono y1 (by omega) (by omega)) (bz_mono cb (by omega)) ?_
    refine ck (P := wpSs _ _ [sh (encH g), sh (encH k), sh (encQ p), sh (encQ q), sh (.int (crossH g k)), sh (encQ ((p * (k.q : Rat) - q * (k.p : Rat)) / (crossH g k : Rat))), sh (encQ ((q * (g.p : Rat) - p * (g.q : Rat)) / (crossH g k : Rat)))] _ _ _) ?_
    refine F.em.hp.od.mp.ra.sgn_i _ _ _ _ ?_
    refine ite_d (fun h2 => ?_) (fun h2 => ?_)
    · rw [if_pos (Or.inl h2)] at h
      exact h
    · refine F.em.hp.od.mp.ra.sgn_i _ _ _ _ ?_
      refine ite_d (fun h3 => ?_) (fun h3 => ?_)
      · rw [if_pos (Or.inr h3)] at h
        exact h
      · rw [if_neg (fun z => z.elim h2 h3)] at h
        exact And.intro (by decide : 2 ≤ 1000) h
theorem pw_ex {g k : HP} {p q x y : Rat} (e : pwM g k p q = some (x, y)) : crossH g k ≠ 0 ∧ x = (p * (k.q : Rat) - q * (k.p : Rat)) / (crossH g k : Rat) ∧ y = (q * (g.p : Rat) - p * (g.q : Rat)) / (crossH g k : Rat) ∧ 0 < x ∧ 0 < y := by
  unfold pwM at e
  split at e
  · cases e
  · rename_i h1
    dsimp only at e
    split at e
    · cases e
    · rename_i h2
      cases e
      refine ⟨h1, rfl, rfl, (sgn_pos _).mp (Int.not_le.mp fun z => h2 (.inl z)), (sgn_pos _).mp (Int.not_le.mp fun z => h2 (.inr z))⟩
theorem pw_sm {H b : Nat} {g k : HP} {p q x y : Rat} (hHb : H + b ≤ 2190) (hg : bh H g) (hk : bh H k) (hp : bq 10000 b p) (hq : bq 10000 b q) (e : pwM g k p q = some (x, y)) : bq 30000 (2 * b + 2 * H + 3) x ∧ bq 30000 (2 * b + 2 * H + 3) y := by
  obtain ⟨c, rfl, rfl, _⟩ := pw_ex e
  have m1 : ∀ {i : Int} {v : Rat}, bz H i → bq 10000 b v → bq (10000 + H) (b + 1) (v * (i : Rat)) := fun hi hv => bq_mul hv (bq_int hi)
  have cb := bq_int (cross_bz hg hk)
  exact ⟨bq_mono (bq_div (bq_sub (m1 hk.2.1 hp) (m1 hk.1 hq)) cb (cast_ne c)) (by omega) (by omega), bq_mono (bq_div (bq_sub (m1 hg.1 hq) (m1 hg.2.1 hp)) cb (cast_ne c)) (by omega) (by omega)⟩
abbrev fSg (F : SuS) : Fi := ⟨"single_bound", F.sg, 3, []⟩
abbrev fPw (F : SuS) : Fi := ⟨"pair_weights", F.pw, 4, []⟩
abbrev fPb (F : SuS) : Fi := ⟨"pair_bound", F.pb, 4, []⟩
abbrev fSu (F : SuS) : Fi := ⟨"supremum", F.su, 3, []⟩
abbrev fInf (F : SuS) : Fi := ⟨"infimum", F.inf, 3, []⟩
abbrev fDr (F : SuS) : Fi := ⟨"direction_range", F.dr, 3, []⟩
abbrev fLi (F : SuS) : Fi := ⟨"line_of", F.li, 1, []⟩
abbrev fEmp (F : EmS) : Fi := ⟨"is_empty", F.em, 1, []⟩
abbrev fLeast (F : RaS) : Fi := ⟨"least_of", F.least, 1, []⟩
theorem w_pb (H b : Nat) (g k : HP) (p q : Rat) (hHb : H + b ≤ 2190) (hg : bh H g) (hk : bh H k) (hp : bq 10000 b p) (hq : bq 10000 b q) (h : Q (encO (prM g k p q)) n) :
    W 48 ["first", "second", "p", "q", "weights"] none [fFr F.em.hp.od.mp.ra, fAdd F.em.hp.od.mp.ra, fMul F.em.hp.od.mp.ra, fPw F] false T lev row [encH g, encH k, encQ p, encQ q] n Q := by
  unfold prM at h
  refine F.pw_i _ _ H b _ _ _ _ _ hHb hg hk hp hq ?_
  cases e : pwM g k p q with
  | none =>
    rw [e] at h
    exact h
  | some x =>
    obtain ⟨x, y⟩ := x
    rw [e] at h
    obtain ⟨hx, hy⟩ := pw_sm hHb hg hk hp hq e
    have si : ∀ {i : Int}, bz H i → sm (i : Rat) := fun hi => sm_of (bq_int hi) (by omega) (by omega)
    refine ck (P := wpSs _ _ [sh (encH g), sh (encH k), sh (encQ p), sh (encQ q), sh (encR (x, y))] _ _ _) ?_
    refine fr1 _ ?_
    refine F.em.hp.od.mp.ra.mul_i _ _ _ _ _ (sm_of hx (by omega) (by omega)) (si hg.2.2) ?_
    refine fr1 _ ?_
    refine F.em.hp.od.mp.ra.mul_i _ _ _ _ _ (sm_of hy (by omega) (by omega)) (si hk.2.2) ?_
    refine F.em.hp.od.mp.ra.add_i _ _ _ _ _ (sm_of (bq_mul hx (bq_int hg.2.2)) (by omega) (by omega)) (sm_of (bq_mul hy (bq_int hk.2.2)) (by omega) (by omega)) ?_
    exact h
/-- the size of a single bound -/
theorem sgl_b {H a b : Nat} {g : HP} {p q v : Rat} (hg : bh H g) (hz : nz g) (hp : bq a b p) (hq : bq a b q) (e : sglM g p q = some v) : bq (a + b + 2 * H + 2) (2 * b + 2 * H + 1) v := by
  unfold sglM at e
  split at e
  · cases e
  · cases e
    have d0 : dotH g g ≠ 0 := by have := dot_pos hz; omega
    refine bq_of (N := (g.p * p.num * q.den + g.q * q.num * p.den) * g.r) (D := (p.den * q.den) * dotH g g) (Int.mul_ne_zero (Int.mul_ne_zero (den_z p) (den_z q)) d0) ?_ ?_ ?_
    · have h1 : ((g.p : Rat) * p + (g.q : Rat) * q) / (dotH g g : Rat) * (dotH g g : Rat) = (g.p : Rat) * p + (g.q : Rat) * q := Rat.div_mul_cancel (cast_ne d0)
      simp only [Rat.intCast_mul, Rat.intCast_add, ← q_num]
      generalize ((g.p : Rat) * p + (g.q : Rat) * q) / (dotH g g : Rat) = t at *
      grind
    · refine bz_mono (bz_mul (bz_add (bz_mul (bz_mul hg.1 (bz_num hp)) (bz_den hq)) (bz_mul (bz_mul hg.2.1 (bz_num hq)) (bz_den hp))) hg.2.2) (by omega)
    · exact bz_mono (bz_mul (bz_mul (bz_den hp) (bz_den hq)) (dot_bz hg hg)) (by omega)
theorem pr_b {H a b : Nat} {g k : HP} {p q v : Rat} (hg : bh H g) (hk : bh H k) (hp : bq a b p) (hq : bq a b q) (e : prM g k p q = some v) : bq (a + b + 2 * H + 2) (2 * b + 2 * H + 1) v := by
  unfold prM at e
  split at e
  · cases e
  · rename_i x y hx
    cases e
    obtain ⟨c, ex, ey, _⟩ := pw_ex hx
    have hx2 : x * (crossH g k : Rat) = p * (k.q : Rat) - q * (k.p : Rat) := by rw [ex]; exact Rat.div_mul_cancel (cast_ne c)
    have hy2 : y * (crossH g k : Rat) = q * (g.p : Rat) - p * (g.q : Rat) := by rw [ey]; exact Rat.div_mul_cancel (cast_ne c)
    refine bq_of (N := (p.num * q.den * k.q + -(q.num * p.den * k.p)) * g.r + (q.num * p.den * g.p + -(p.num * q.den * g.q)) * k.r) (D := (p.den * q.den) * crossH g k) (Int.mul_ne_zero (Int.mul_ne_zero (den_z p) (den_z q)) c) ?_ ?_ ?_
    · clear ex ey hx
      have e2 : (x * (g.r : Rat) + y * (k.r : Rat)) * (((p.den * q.den) * crossH g k : Int) : Rat) = ((p.den : Int) : Rat) * ((q.den : Int) : Rat) * ((x * (crossH g k : Rat)) * (g.r : Rat) + (y * (crossH g k : Rat)) * (k.r : Rat)) := by
        simp only [Rat.intCast_mul]
        grind
      rw [e2, hx2, hy2]
      simp only [Rat.intCast_mul, Rat.intCast_add, Rat.intCast_neg, ← q_num]
      grind
    · refine bz_mono (bz_add (bz_mul (bz_add (bz_mul (bz_mul (bz_num hp) (bz_den hq)) hk.2.1) (bz_neg (bz_mul (bz_mul (bz_num hq) (bz_den hp)) hk.1))) hg.2.2) (bz_mul (bz_add (bz_mul (bz_mul (bz_num hq) (bz_den hp)) hg.1) (bz_neg (bz_mul (bz_mul (bz_num hp) (bz_den hq)) hg.2.1))) hk.2.2)) (by omega)
    · exact bz_mono (bz_mul (bz_mul (bz_den hp) (bz_den hq)) (cross_bz hg hk)) (by omega)
theorem least_mem : ∀ (xs : List (Option Rat)) (best : Option Rat) (v : Rat), leastM xs best = some v → some v ∈ xs ∨ best = some v
  | [], best, v, e => .inr e
  | none :: r, best, v, e => (least_mem r best v e).imp (List.mem_cons_of_mem _) id
  | some w :: r, none, v, e => by
    rcases least_mem r (some w) v e with h | h
    · exact .inl (List.mem_cons_of_mem _ h)
    · cases h; exact .inl (List.mem_cons_self ..)
  | some w :: r, some b, v, e => by
    have e' : leastM r (if w < b then some w else some b) = some v := e
    rcases least_mem r _ v e' with h | h
    · exact .inl (List.mem_cons_of_mem _ h)
    · split at h
      · cases h; exact .inl (List.mem_cons_self ..)
      · exact .inr h
theorem pairs_mem {α β : Type} {f : α → α → β} {z : β} : ∀ {L : List α}, z ∈ pairsL f L → ∃ x ∈ L, ∃ y ∈ L, f x y = z
  | [], h => by cases h
  | a :: r, h => by
    rcases List.mem_append.mp h with h | h
    · obtain ⟨y, hy, e⟩ := List.mem_map.mp h
      exact ⟨a, List.mem_cons_self .., y, List.mem_cons_of_mem _ hy, e⟩
    · obtain ⟨x, hx, y, hy, e⟩ := pairs_mem h
      exact ⟨x, List.mem_cons_of_mem _ hx, y, List.mem_cons_of_mem _ hy, e⟩
theorem cand_b {H a b : Nat} {L : List HP} {p q v : Rat} (hL : bhs H L) (hp : bq a b p) (hq : bq a b q) (h : some v ∈ L.map (fun h => sglM h p q) ++ pairsL (fun x y => prM x y p q) L) : bq (a + b + 2 * H + 2) (2 * b + 2 * H + 1) v := by
  rcases List.mem_append.mp h with h | h
  · obtain ⟨g, hg, e⟩ := List.mem_map.mp h
    exact sgl_b (hL g hg).1 (hL g hg).2 hp hq e
  · obtain ⟨x, hx, y, hy, e⟩ := pairs_mem h
    exact pr_b (hL x hx).1 (hL y hy).1 hp hq e
/-- the size of a bound -/
theorem sup_b {H a b : Nat} {L : List HP} {p q v : Rat} (hL : bhs H L) (hp : bq a b p) (hq : bq a b q) (e : supM L p q = some v) : bq (a + b + 2 * H + 2) (2 * b + 2 * H + 1) v := by
  unfold supM at e
  split at e
  · cases e
    exact ⟨Nat.pow_pos (by decide), Nat.one_lt_two_pow (by omega)⟩
  · rcases least_mem _ _ _ e with h | h
    · exact cand_b hL hp hq h
    · cases h
end RT
namespace RT
open PySem PySem.Spec PyProof.Rows L2
variable (F : SuS) (T : List Addr) (lev : Nat) (row : List Int) (n : Int) (Q : QD)
theorem cut_from {xs : List D} {k : Int} {j : Nat} (h : k = (j : Int)) (hj : j ≤ xs.length) : cutD xs (some k) none = xs.drop j := by
  subst h
  unfold cutD HT.sIx
  have h1 : ¬ ((j : Int) < 0) := by omega
  simp only [h1, if_false]
  have e : min (j : Int).toNat xs.length = j := by omega
  rw [e, List.take_of_length_le]
  rw [List.length_drop]
  omega
theorem w_su (H b : Nat) (L : List HP) (p q : Rat) (ok : DirOk H b L p q) (h : Q (encO (supM L p q)) n) :
    W 49 ["half_planes", "p", "q", "found", "one", "place", "other"] (some 3) [fSg F, fPb F, fLeast F.em.hp.od.mp.ra] false T lev row [encL encH L, encQ p, encQ q] n Q := by
  obtain ⟨hL, hl, H1, Hb, hp, hq⟩ := ok
  have smc : ∀ v, some v ∈ L.map (fun h => sglM h p q) ++ pairsL (fun x y => prM x y p q) L → sm v := fun v hv => sm_of (cand_b hL hp hq hv) (by omega) (by omega)
  have main : (¬ (p = 0 ∧ q = 0)) → wpSs (wpS (mkC ["half_planes", "p", "q", "found", "one", "place", "other"] (some 3) [fSg F, fPb F, fLeast F.em.hp.od.mp.ra] konD false T lev row) 12 (defScope (top 49))) ((defBody (top 49)).drop 1) (rho0 ["half_planes", "p", "q", "found", "one", "place", "other"] [encL encH L, encQ p, encQ q]) n (fun _ n => Q .none n) Q := fun hne => by
    unfold supM at h
    rw [if_neg hne] at h
    refine comp_m encH (fun g => encO (sglM g p q)) n L [] (fun g hg K k => ?_) ?_
    · refine nm ?_
      refine F.sg_i _ _ H b _ _ _ _ Hb (hL g hg).1 (hL g hg).2 hp hq ?_
      exact k
    · rw [List.nil_append]
      have e : L.map (fun g => encO (sglM g p q)) = (L.map fun g => sglM g p q).map encO := by
        rw [List.map_map]
        rfl
      rw [e]
      refine ck (P := wpSs _ _ [sh (encL encH L), sh (encQ p), sh (encQ q), ow ((L.map fun g => sglM g p q).map encO), no, no, no] _ _ _) ?_
      refine for_e encH (fun i r ρ n' => n' = n ∧ L.drop i = r ∧ i ≤ L.length ∧ ∃ fd c d e, fd ++ pairsL (fun x y => prM x y p q) r = L.map (fun h => sglM h p q) ++ pairsL (fun x y => prM x y p q) L ∧ fd.length ≤ 40 + 40 * i ∧ ρ = [sh (encL encH L), sh (encQ p), sh (encQ q), ow (fd.map encO), c, d, e]) ?_ ?_ L 0 _ _ ⟨rfl, rfl, Nat.zero_le _, L.map (fun h => sglM h p q), no, no, no, rfl, by rw [List.length_map]; omega, rfl⟩
      · rintro i x r ρ n' K ⟨rfl, hd, hi, fd, c, d, e, he, hfl, rfl⟩ hK
        have hil : i < L.length := by
          refine Nat.lt_of_not_le fun z => ?_
          rw [List.drop_eq_nil_of_le z] at hd
          cases hd
        have hr : L.drop (i + 1) = r := by
          rw [List.drop_eq_getElem_cons hil] at hd
          injection hd
        have hx : x ∈ L := by
          have : x ∈ L.drop i := by rw [hd]; exact List.mem_cons_self ..
          exact List.mem_of_mem_drop this
        have hrl : r.length ≤ 40 := by
          rw [← hr, List.length_drop]
          omega
        refine nm (nm ?_)
        refine ck (P := wpSs _ _ [sh (encL encH L), sh (encQ p), sh (encQ q), ow (fd.map encO), sh (encH x), sh (.int (i : Nat)), e] _ _ _) ?_
        refine ck (P := forD _ _ (cutD (L.map encH) (some ((i : Int) + 1)) none) _ _ _ _) ?_
        rw [cut_from (j := i + 1) (by omega) (by rw [List.length_map]; omega), ← List.map_drop, hr]
        refine for_i encH (fun r2 ρ n2 => n2 = n' ∧ (∀ y ∈ r2, y ∈ L) ∧ ∃ gd e, gd ++ r2.map (fun y => prM x y p q) = fd ++ r.map (fun y => prM x y p q) ∧ gd.length + r2.length ≤ 40 + 40 * i + r.length ∧ ρ = [sh (encL encH L), sh (encQ p), sh (encQ q), ow (gd.map encO), sh (encH x), sh (.int (i : Nat)), e]) ?_ ?_ r _ _ ⟨rfl, fun y hy => List.mem_of_mem_drop (by rw [hr]; exact hy), fd, e, rfl, by omega, rfl⟩
        · rintro y r2 ρ n2 K2 ⟨rfl, hm, gd, e, he2, hgl, rfl⟩ hK2
          simp only [List.length_cons] at hgl
          have hy := hm y (List.mem_cons_self ..)
          refine nm ?_
          refine ck (P := wpSs _ _ [sh (encL encH L), sh (encQ p), sh (encQ q), ow (gd.map encO), sh (encH x), sh (.int (i : Nat)), sh (encH y)] _ _ _) ?_
          refine F.pb_i _ _ H b _ _ _ _ _ Hb (hL x hx).1 (hL y hy).1 hp hq ?_
          refine And.intro (szlt (by rw [List.length_map]; omega)) ?_
          refine hK2 _ _ ⟨rfl, fun z hz => hm z (List.mem_cons_of_mem _ hz), gd ++ [prM x y p q], sh (encH y), ?_, ?_, ?_⟩
          · rw [← he2, List.append_assoc]
            rfl
          · rw [List.length_append]
            simp only [List.length_singleton]
            omega
          · rw [List.map_append]
            rfl
        · rintro ρ n2 ⟨rfl, hm, gd, e, he2, hgl, rfl⟩
          refine hK _ _ ⟨rfl, hr, hil, gd, _, _, _, ?_, ?_, rfl⟩
          · have he3 : gd = fd ++ r.map (fun y => prM x y p q) := by
              rw [← he2]
              exact (List.append_nil _).symm
            rw [he3, ← he, List.append_assoc]
            rfl
          · simp only [List.length_nil] at hgl
            omega
      · rintro i ρ n' ⟨rfl, hd, hi, fd, c, d, e, he, hfl, rfl⟩
        have he' : fd = L.map (fun h => sglM h p q) ++ pairsL (fun x y => prM x y p q) L := by
          rw [← he]
          exact (List.append_nil _).symm
        refine F.em.hp.od.mp.ra.least_i _ _ fd _ (by rw [he']; exact smc) ?_
        rw [he']
        exact h
  refine eq_d isQ p 0 (fun h1 => ?_) (fun h1 => ?_)
  · refine eq_d isQ q 0 (fun h2 => ?_) (fun h2 => ?_)
    · unfold supM at h
      rw [if_pos ⟨h1, h2⟩] at h
      exact h
    · exact main fun z => h2 z.2
  · exact main fun z => h1 z.1
theorem DirOk.neg {H b : Nat} {L : List HP} {p q : Rat} (ok : DirOk H b L p q) : DirOk H b L (-p) (-q) := ⟨ok.hb, ok.len, ok.H1, ok.Hb, bq_neg ok.p1, bq_neg ok.q1⟩
theorem w_inf (H b : Nat) (L : List HP) (p q : Rat) (ok : DirOk H b L p q) (h : Q (encO (infM L p q)) n) : W 50 ["half_planes", "p", "q", "found"] none [fSu F, fNeg F.em.hp.od.mp.ra] false T lev row [encL encH L, encQ p, encQ q] n Q := by
  unfold infM at h
  refine F.em.hp.od.mp.ra.neg_i _ _ _ _ ?_
  refine F.em.hp.od.mp.ra.neg_i _ _ _ _ ?_
  refine F.su_i _ _ H b _ _ _ _ ok.neg ?_
  cases e : supM L (-p) (-q) with
  | none =>
    rw [e] at h
    exact h
  | some v =>
    rw [e] at h
    refine F.em.hp.od.mp.ra.neg_i _ _ _ _ ?_
    exact h
theorem bhs_mono {j k : Nat} {L : List HP} (h : bhs j L) (hjk : j ≤ k) : bhs k L := fun g hg => ⟨bh_mono (h g hg).1 hjk, (h g hg).2⟩
theorem w_dr (H b : Nat) (L : List HP) (p q : Rat) (ok : DirOk H b L p q) (h : Q (encDR (drM L p q)) n) : W 51 ["half_planes", "p", "q"] none [fSu F, fInf F, fEmp F.em] false T lev row [encL encH L, encQ p, encQ q] n Q := by
  unfold drM at h
  refine F.em.em_i _ _ _ _ (bhs_mono ok.hb ok.H1) ok.len ?_
  cases e : empM L with
  | true =>
    rw [if_pos e] at h
    exact h
  | false =>
    rw [if_neg (by rw [e]; decide)] at h
    refine F.inf_i _ _ H b _ _ _ _ ok ?_
    refine F.su_i _ _ H b _ _ _ _ ok ?_
    exact And.intro (by decide : 2 ≤ 1000) h
theorem dir_int {L : List HP} {x y : Int} (hL : bhs 2000 L) (hl : L.length ≤ 40) (hx : bz 2001 x) (hy : bz 2001 y) : DirOk 2000 1 L (x : Rat) (y : Rat) := ⟨hL, hl, Nat.le_refl _, by decide, bq_mono (bq_int hx) (by decide) (by decide), bq_mono (bq_int hy) (by decide) (by decide)⟩
theorem w_li (L : List HP) (hL : bhs 2000 L) (hl : L.length ≤ 40) (h : Q (encOH (lineM L L)) n) : W 52 ["half_planes", "one"] none [fInf F, fFr F.em.hp.od.mp.ra] false T lev row [encL encH L] n Q := by
  refine for_i encH (fun r ρ n' => n' = n ∧ (∀ y ∈ r, y ∈ L) ∧ lineM L r = lineM L L ∧ ∃ c, ρ = [sh (encL encH L), c]) ?_ ?_ L _ _ ⟨rfl, fun y hy => hy, rfl, no, rfl⟩
  · rintro x r ρ n' K ⟨rfl, hm, he, c, rfl⟩ hK
    have hx := hL x (hm x (List.mem_cons_self ..))
    have he' : (if infM L (x.p : Rat) (x.q : Rat) = some (x.r : Rat) then some x else lineM L r) = lineM L L := he
    refine nm ?_
    refine fr1 _ ?_
    refine fr1 _ ?_
    refine F.inf_i _ _ 2000 1 _ _ _ _ (dir_int hL hl (bz_mono hx.1.1 (by decide)) (bz_mono hx.1.2.1 (by decide))) ?_
    refine fr1 _ ?_
    refine eq_d isO (infM L (x.p : Rat) (x.q : Rat)) (some (x.r : Rat)) (fun h1 => ?_) (fun h1 => ?_)
    · rw [if_pos h1] at he'
      rw [← he'] at h
      exact h
    · rw [if_neg h1] at he'
      exact hK _ _ ⟨rfl, fun y hy => hm y (List.mem_cons_of_mem _ hy), he', _, rfl⟩
  · rintro ρ n' ⟨rfl, hm, he, c, rfl⟩
    rw [← he] at h
    exact h
theorem line_mem {L : List HP} : ∀ {r : List HP} {x : HP}, lineM L r = some x → x ∈ r ∧ infM L (x.p : Rat) (x.q : Rat) = some (x.r : Rat)
  | [], x, h => by cases h
  | y :: r, x, h => by
    have h' : (if infM L (y.p : Rat) (y.q : Rat) = some (y.r : Rat) then some y else lineM L r) = some x := h
    split at h'
    · rename_i h1
      cases h'
      exact ⟨List.mem_cons_self .., h1⟩
    · have := line_mem h'
      exact ⟨List.mem_cons_of_mem _ this.1, this.2⟩
theorem w_ki (L : List HP) (hL : bhs 2000 L) (hl : L.length ≤ 40) (h : Q (.str (kdS (kindM L))) n) : W 53 ["half_planes", "line", "lower", "upper"] none [fDr F, fFr F.em.hp.od.mp.ra, fEmp F.em, fLi F] false T lev row [encL encH L] n Q := by
  unfold kindM at h
  refine F.em.em_i _ _ _ _ hL hl ?_
  cases e : empM L with
  | true =>
    rw [if_pos e] at h
    exact h
  | false =>
    rw [if_neg (by rw [e]; decide)] at h
    refine F.li_i _ _ _ _ hL hl ?_
    cases e2 : lineM L L with
    | none =>
      rw [e2] at h
      exact h
    | some x =>
      rw [e2] at h
      dsimp only at h
      have hx := hL x (line_mem e2).1
      refine fr1 _ ?_
      refine fr1 _ ?_
      refine F.dr_i _ _ 2000 1 _ _ _ _ (dir_int hL hl (bz_mono (bz_neg hx.1.2.1) (by decide)) (bz_mono hx.1.1 (by decide))) ?_
      have e3 : drM L ((-x.q : Int) : Rat) (x.p : Rat) = some (infM L ((-x.q : Int) : Rat) (x.p : Rat), supM L ((-x.q : Int) : Rat) (x.p : Rat)) := by
        unfold drM
        rw [if_neg (by rw [e]; decide)]
      rw [e3]
      refine nm (nm ?_)
      refine ck (P := wpSs _ _ [sh (encL encH L), sh (encH x), sh (encO (infM L ((-x.q : Int) : Rat) (x.p : Rat))), sh (encO (supM L ((-x.q : Int) : Rat) (x.p : Rat)))] _ _ _) ?_
      generalize infM L ((-x.q : Int) : Rat) (x.p : Rat) = lo at h ⊢
      generalize supM L ((-x.q : Int) : Rat) (x.p : Rat) = hi at h ⊢
      cases lo with
      | none =>
        cases hi with
        | none => exact h
        | some u => exact h
      | some l =>
        cases hi with
        | none => exact h
        | some u =>
          refine eq_d isQ l u (fun h1 => ?_) (fun h1 => ?_)
          · have h' : Q (.str (kdS (if l = u then .point else .segment))) n := h
            rw [if_pos h1] at h'
            exact h'
          · have h' : Q (.str (kdS (if l = u then .point else .segment))) n := h
            rw [if_neg h1] at h'
            exact h'
end RT
namespace RT
open PySem PySem.Spec PyProof.Rows L2
/-! ### primitive triples -/
def prim (h : HP) : Prop := Int.gcd (Int.gcd h.p h.q) h.r = 1
theorem gdvd {x y z : Int} : ((Int.gcd (Int.gcd x y) z : Nat) : Int) ∣ x ∧ ((Int.gcd (Int.gcd x y) z : Nat) : Int) ∣ y ∧ ((Int.gcd (Int.gcd x y) z : Nat) : Int) ∣ z := by
  have h1 : ((Int.gcd (Int.gcd x y) z : Nat) : Int) ∣ ((Int.gcd x y : Nat) : Int) := Int.gcd_dvd_left ..
  exact ⟨Int.dvd_trans h1 (Int.gcd_dvd_left ..), Int.dvd_trans h1 (Int.gcd_dvd_right ..), Int.gcd_dvd_right ..⟩
theorem fdiv_ex {x g : Int} (hg : 0 < g) (h : g ∣ x) : x.fdiv g * g = x := by
  rw [Int.fdiv_eq_ediv_of_nonneg _ (Int.le_of_lt hg)]
  exact Int.ediv_mul_cancel h
theorem mkH_s {p q r : Rat} (h0 : p ≠ 0 ∨ q ≠ 0) : ∃ s g : Int, 0 < s ∧ 0 < g ∧ ((mkH p q r).p : Rat) * (g : Rat) = p * (s : Rat) ∧ ((mkH p q r).q : Rat) * (g : Rat) = q * (s : Rat) ∧ ((mkH p q r).r : Rat) * (g : Rat) = r * (s : Rat) ∧ prim (mkH p q r) := by
  have hpd := p.den_pos
  have hqd := q.den_pos
  have hrd := r.den_pos
  have e1 : ((p.den : Int) * q.den * r.den).fdiv p.den = q.den * r.den := fd1 _ _ _ p.den_nz
  have e2 : ((p.den : Int) * q.den * r.den).fdiv q.den = p.den * r.den := fd2 _ _ _ q.den_nz
  have e3 : ((p.den : Int) * q.den * r.den).fdiv r.den = p.den * q.den := fd3 _ _ _ r.den_nz
  have em : mkH p q r = ⟨(p.num * (q.den * r.den)).fdiv (Int.gcd (Int.gcd (p.num * (q.den * r.den)) (q.num * (p.den * r.den))) (r.num * (p.den * q.den)) : Nat),
      (q.num * (p.den * r.den)).fdiv (Int.gcd (Int.gcd (p.num * (q.den * r.den)) (q.num * (p.den * r.den))) (r.num * (p.den * q.den)) : Nat),
      (r.num * (p.den * q.den)).fdiv (Int.gcd (Int.gcd (p.num * (q.den * r.den)) (q.num * (p.den * r.den))) (r.num * (p.den * q.den)) : Nat)⟩ := by
    unfold mkH
    dsimp only
    rw [e1, e2, e3]
  have n0 : p.num * ((q.den : Int) * r.den) ≠ 0 ∨ q.num * ((p.den : Int) * r.den) ≠ 0 := by
    rcases h0 with h0 | h0
    · exact .inl (Int.mul_ne_zero (fun z => h0 (Rat.num_eq_zero.mp z)) (Int.mul_ne_zero (den_z q) (den_z r)))
    · exact .inr (Int.mul_ne_zero (fun z => h0 (Rat.num_eq_zero.mp z)) (Int.mul_ne_zero (den_z p) (den_z r)))
  rw [em]
  have hX : (((p.num * ((q.den : Int) * r.den)) : Int) : Rat) = p * (((p.den : Int) * q.den * r.den : Int) : Rat) := by
    simp only [Rat.intCast_mul, ← q_num]
    grind
  have hY : (((q.num * ((p.den : Int) * r.den)) : Int) : Rat) = q * (((p.den : Int) * q.den * r.den : Int) : Rat) := by
    simp only [Rat.intCast_mul, ← q_num]
    grind
  have hZ : (((r.num * ((p.den : Int) * q.den)) : Int) : Rat) = r * (((p.den : Int) * q.den * r.den : Int) : Rat) := by
    simp only [Rat.intCast_mul, ← q_num]
    grind
  generalize p.num * ((q.den : Int) * r.den) = X at *
  generalize q.num * ((p.den : Int) * r.den) = Y at *
  generalize r.num * ((p.den : Int) * q.den) = Z at *
  have g0 := gcd3_ne (z := Z) n0
  obtain ⟨d1, d2, d3⟩ := gdvd (x := X) (y := Y) (z := Z)
  have hg : (0 : Int) < (Int.gcd (Int.gcd X Y) Z : Nat) := by omega
  generalize hG : ((Int.gcd (Int.gcd X Y) Z : Nat) : Int) = g at *
  have x1 := fdiv_ex hg d1
  have x2 := fdiv_ex hg d2
  have x3 := fdiv_ex hg d3
  refine ⟨(p.den : Int) * q.den * r.den, g, Int.mul_pos (Int.mul_pos (by omega) (by omega)) (by omega), hg, ?_, ?_, ?_, ?_⟩
  · rw [← Rat.intCast_mul, x1, hX]
  · rw [← Rat.intCast_mul, x2, hY]
  · rw [← Rat.intCast_mul, x3, hZ]
  · show Int.gcd (Int.gcd (X.fdiv g) (Y.fdiv g)) (Z.fdiv g) = 1
    obtain ⟨c1, c2, c3⟩ := gdvd (x := X.fdiv g) (y := Y.fdiv g) (z := Z.fdiv g)
    generalize hD : ((Int.gcd (Int.gcd (X.fdiv g) (Y.fdiv g)) (Z.fdiv g) : Nat) : Int) = d at *
    have k1 : d * g ∣ X := by rw [← x1]; exact Int.mul_dvd_mul_right _ c1
    have k2 : d * g ∣ Y := by rw [← x2]; exact Int.mul_dvd_mul_right _ c2
    have k3 : d * g ∣ Z := by rw [← x3]; exact Int.mul_dvd_mul_right _ c3
    have k4 : d * g ∣ g := by
      rw [← hG] at k1 k2 k3 ⊢
      exact Int.dvd_coe_gcd (Int.dvd_coe_gcd k1 k2) k3
    have k5 : d ∣ 1 := by
      obtain ⟨t, ht⟩ := k4
      refine ⟨t, ?_⟩
      have : g * 1 = g * (d * t) := by rw [Int.mul_one]; rw [Int.mul_comm d g, Int.mul_assoc] at ht; exact ht
      exact Int.eq_of_mul_eq_mul_left (by omega) this
    have : d.natAbs = 1 := by
      have := Int.natAbs_dvd_natAbs.mpr k5
      exact Nat.dvd_one.mp (by simpa using this)
    omega
/-- sizes of a primitive triple -/
theorem mkH_b {p q r : Rat} {M x y z : Int} {k : Nat} (h0 : p ≠ 0 ∨ q ≠ 0) (hM : M ≠ 0) (hx : p * (M : Rat) = (x : Rat)) (hy : q * (M : Rat) = (y : Rat)) (hz : r * (M : Rat) = (z : Rat)) (bx : bz k x) (by' : bz k y) (bz' : bz k z) : bh k (mkH p q r) := by
  obtain ⟨s, g, hs, hg, e1, e2, e3, pr⟩ := mkH_s (r := r) h0
  generalize mkH p q r = h at *
  obtain ⟨P, Q, R⟩ := h
  dsimp only at e1 e2 e3
  unfold prim at pr
  dsimp only at pr
  have f1 : x * s = (g * M) * P := by
    refine Rat.intCast_inj.mp ?_
    simp only [Rat.intCast_mul]
    rw [← hx]
    grind
  have f2 : y * s = (g * M) * Q := by
    refine Rat.intCast_inj.mp ?_
    simp only [Rat.intCast_mul]
    rw [← hy]
    grind
  have f3 : z * s = (g * M) * R := by
    refine Rat.intCast_inj.mp ?_
    simp only [Rat.intCast_mul]
    rw [← hz]
    grind
  have hd : s ∣ g * M := by
    have a1 : s ∣ (g * M) * P := ⟨x, by rw [← f1, Int.mul_comm]⟩
    have a2 : s ∣ (g * M) * Q := ⟨y, by rw [← f2, Int.mul_comm]⟩
    have a3 : s ∣ (g * M) * R := ⟨z, by rw [← f3, Int.mul_comm]⟩
    have b1 : s ∣ ((Int.gcd ((g * M) * P) ((g * M) * Q) : Nat) : Int) := Int.dvd_coe_gcd a1 a2
    rw [Int.gcd_mul_left] at b1
    have b2 : s ∣ (g * M) * ((Int.gcd P Q : Nat) : Int) := by
      rw [Int.natCast_mul] at b1
      exact Int.dvd_trans b1 (Int.mul_dvd_mul_right _ (Int.natAbs_dvd.mpr (Int.dvd_refl _)))
    have b3 : s ∣ ((Int.gcd ((g * M) * ((Int.gcd P Q : Nat) : Int)) ((g * M) * R) : Nat) : Int) := Int.dvd_coe_gcd b2 a3
    rw [Int.gcd_mul_left, pr, Nat.mul_one] at b3
    exact Int.dvd_trans b3 (Int.natAbs_dvd.mpr (Int.dvd_refl _))
  obtain ⟨t, ht⟩ := hd
  have t0 : t ≠ 0 := fun z => by
    subst z
    rw [Int.mul_zero] at ht
    exact Int.mul_ne_zero (by omega) hM ht
  have key : ∀ {u v : Int}, u * s = (g * M) * v → u = v * t := fun {u v} e => by
    rw [ht] at e
    have : s * u = s * (v * t) := by rw [Int.mul_comm s u, e]; rw [Int.mul_assoc, Int.mul_comm t v]
    exact Int.eq_of_mul_eq_mul_left (by omega) this
  have le : ∀ {u v : Int}, u = v * t → bz k u → bz k v := fun {u v} e b => by
    unfold bz at *
    rw [e, Int.natAbs_mul] at b
    exact Nat.lt_of_le_of_lt (Nat.le_mul_of_pos_right _ (by omega)) b
  exact ⟨le (key f1) bx, le (key f2) by', le (key f3) bz'⟩
theorem mkH_nz {p q : Rat} (r : Rat) (h0 : p ≠ 0 ∨ q ≠ 0) : nz (mkH p q r) := by
  obtain ⟨s, g, hs, hg, e1, e2, _⟩ := mkH_s (r := r) h0
  have s0 : (s : Rat) ≠ 0 := cast_ne (by omega)
  rcases h0 with h0 | h0
  · refine .inl fun z => ?_
    rw [z, Rat.intCast_zero, Rat.zero_mul] at e1
    exact (Rat.mul_eq_zero.mp e1.symm).elim h0 s0
  · refine .inr fun z => ?_
    rw [z, Rat.intCast_zero, Rat.zero_mul] at e2
    exact (Rat.mul_eq_zero.mp e2.symm).elim h0 s0
end RT
namespace RT
open PySem PySem.Spec PyProof.Rows L2
/-! ### samples, what is implied -/
structure SmS where
  su : SuS
  smp : FnS
  smp_i : ∀ row n (H : Nat) L Q, bhs H L → H ≤ 990 → L.length ≤ 36 → (empM L = false → smpM L ≠ none) → Q (encX (smpM L)) n → smp row n [encL encH L] Q
  imp : FnS
  imp_i : ∀ row n L h Q, bhs 2000 L → L.length ≤ 40 → bh 2000 h → Q (.bool (impM L h)) n → imp row n [encL encH L, encH h] Q
variable (F : SmS) (T : List Addr) (lev : Nat) (row : List Int) (n : Int) (Q : QD)
theorem near_b {a b : Nat} {lo hi : Option Rat} (hl : ∀ v, lo = some v → bq a (b + 1) v) (hh : ∀ v, hi = some v → bq a (b + 1) v) : bq a (b + 1) (nearM lo hi) := by
  have z : bq a (b + 1) 0 := ⟨Nat.pow_pos (by decide), Nat.one_lt_two_pow (by omega)⟩
  unfold nearM
  cases lo with
  | none =>
    cases hi with
    | none => exact z
    | some u =>
      dsimp only
      split
      · exact hh u rfl
      · exact z
  | some l =>
    dsimp only
    split
    · exact hl l rfl
    · cases hi with
      | none => exact z
      | some u =>
        dsimp only
        split
        · exact hh u rfl
        · exact z
theorem inf_b {H a b : Nat} {L : List HP} {p q v : Rat} (hL : bhs H L) (hp : bq a b p) (hq : bq a b q) (e : infM L p q = some v) : bq (a + b + 2 * H + 2) (2 * b + 2 * H + 1) v := by
  unfold infM at e
  cases q' : supM L (-p) (-q) with
  | none => rw [q'] at e; cases e
  | some u =>
    rw [q'] at e
    cases e
    exact bq_neg (sup_b hL (bq_neg hp) (bq_neg hq) q')
theorem b10 : bq 1 1 (1 : Rat) ∧ bq 1 1 (0 : Rat) := ⟨⟨by decide, by decide⟩, ⟨by decide, by decide⟩⟩
theorem dr_b {H : Nat} {L : List HP} {p q : Rat} {lo hi : Option Rat} (hL : bhs H L) (hp : bq 1 1 p) (hq : bq 1 1 q) (e : drM L p q = some (lo, hi)) : (∀ v, lo = some v → bq (2 * H + 4) (2 * H + 3) v) ∧ ∀ v, hi = some v → bq (2 * H + 4) (2 * H + 3) v := by
  unfold drM at e
  split at e
  · cases e
  · cases e
    exact ⟨fun v hv => bq_mono (inf_b hL hp hq hv) (by omega) (by omega), fun v hv => bq_mono (sup_b hL hp hq hv) (by omega) (by omega)⟩
theorem fix_b {k b : Nat} {h : Rat} (hh : bq k (b + 1) h) (hk : b + 1 ≤ k) : bh k (mkH 1 0 h) ∧ bh k (mkH (-1) 0 (-h)) := by
  have hd : bz k (h.den : Int) := bz_mono (bz_den hh) hk
  constructor
  · refine mkH_b (M := h.den) (x := h.den) (y := 0) (z := h.num) (.inl (by decide)) (den_z h) (by rw [Rat.one_mul]) (by rw [Rat.zero_mul]; rfl) (q_num h) hd (Nat.pow_pos (by decide)) (bz_num hh)
  · refine mkH_b (M := h.den) (x := -h.den) (y := 0) (z := -h.num) (.inl (by decide)) (den_z h) (by rw [Rat.intCast_neg]; grind) (by rw [Rat.zero_mul]; rfl) (by rw [Rat.intCast_neg, ← q_num h]; grind) (bz_neg hd) (Nat.pow_pos (by decide)) (bz_neg (bz_num hh))
theorem bhs_app {k : Nat} {L M : List HP} (h : bhs k L) (g : bhs k M) : bhs k (L ++ M) := fun x hx => (List.mem_append.mp hx).elim (h x) (g x)
abbrev fNear (F : RaS) : Fi := ⟨"nearest_to_zero", F.near, 2, []⟩
abbrev fSmp (F : SmS) : Fi := ⟨"sample_ray", F.smp, 1, []⟩
abbrev fImp (F : SmS) : Fi := ⟨"is_implied", F.imp, 2, []⟩
theorem w_smp (H : Nat) (L : List HP) (hL : bhs H L) (hH : H ≤ 990) (hl : L.length ≤ 36) (hs : empM L = false → smpM L ≠ none) (h : Q (encX (smpM L)) n) :
    W 54 ["half_planes", "heights", "height", "fixed", "slopes"] none [fDr F.su, fNear F.su.em.hp.od.mp.ra, fMk F.su.em.hp, fNeg F.su.em.hp.od.mp.ra] false T lev row [encL encH L] n Q := by
  have one : bq 10000 1 (1 : Rat) := bq_mono b10.1 (by decide) (by decide)
  have zero : bq 10000 1 (0 : Rat) := bq_mono b10.2 (by decide) (by decide)
  have ok : DirOk H 1 L 1 0 := ⟨hL, by omega, by omega, by omega, one, zero⟩
  refine F.su.dr_i _ _ H 1 _ _ _ _ ok ?_
  cases e : drM L 1 0 with
  | none =>
    have e2 : smpM L = none := by unfold smpM; rw [e]
    rw [e2] at h
    exact h
  | some x =>
    obtain ⟨lo, hi⟩ := x
    obtain ⟨bl, bu⟩ := dr_b hL b10.1 b10.2 e
    have bn := near_b (b := 2 * H + 2) bl bu
    obtain ⟨f1, f2⟩ := fix_b bn (by omega)
    have e2 : smpM L = (match drM (L ++ [mkH 1 0 (nearM lo hi), mkH (-1) 0 (-(nearM lo hi))]) 0 1 with
        | none => none
        | some (l, u) => some (nearM lo hi, nearM l u)) := by
      unfold smpM
      rw [e] <;> rfl
    have he : empM L = false := by
      unfold drM at e
      split at e
      · cases e
      · rename_i z
        cases q : empM L with
        | true => exact absurd q z
        | false => rfl
    have hs' := hs he
    have bn2 : bq 2000 2000 (nearM lo hi) := bq_mono bn (by omega) (by omega)
    have hz : ((1 : Rat) ≠ 0 ∨ (0 : Rat) ≠ 0) := .inl (by decide)
    have hz2 : ((-1 : Rat) ≠ 0 ∨ (0 : Rat) ≠ 0) := .inl (by decide)
    have hL2 : bhs (2 * H + 4) (L ++ [mkH 1 0 (nearM lo hi), mkH (-1) 0 (-(nearM lo hi))]) := bhs_app (bhs_mono hL (by omega)) fun x hx => by
      rcases List.mem_cons.mp hx with rfl | hx
      · exact ⟨f1, mkH_nz _ hz⟩
      · rcases List.mem_cons.mp hx with rfl | hx
        · exact ⟨f2, mkH_nz _ hz2⟩
        · cases hx
    refine ck (P := wpSs _ _ [sh (encL encH L), sh (.tuple [encO lo, encO hi]), no, no, no] _ _ _) ?_
    refine F.su.em.hp.od.mp.ra.near_i _ _ _ _ _ ?_
    refine ck (P := wpSs _ _ [sh (encL encH L), sh (.tuple [encO lo, encO hi]), sh (encQ (nearM lo hi)), no, no] _ _ _) ?_
    generalize nearM lo hi = t at *
    refine F.su.em.hp.mkh_i _ _ _ _ _ _ (bq_mono b10.1 (by decide) (by decide)) (bq_mono b10.2 (by decide) (by decide)) bn2 hz ?_
    refine F.su.em.hp.od.mp.ra.neg_i _ _ _ _ ?_
    refine F.su.em.hp.od.mp.ra.neg_i _ _ _ _ ?_
    refine F.su.em.hp.mkh_i _ _ _ _ _ _ (bq_mono (bq_neg b10.1) (by decide) (by decide)) (bq_mono b10.2 (by decide) (by decide)) (bq_neg bn2) hz2 ?_
    refine And.intro (by decide : 2 ≤ 1000) ?_
    refine ck (P := wpSs _ _ [sh (encL encH L), sh (.tuple [encO lo, encO hi]), sh (encQ t), sh (.list [encH (mkH 1 0 t), encH (mkH (-1) 0 (-t))]), no] _ _ _) ?_
    refine And.intro (Nat.le_trans (m := 1000) (by simp only [List.length_map, List.length_cons, List.length_nil]; omega) (by rw [sizeLine_eq]; decide)) ?_
    refine ck (P := F.su.dr _ _ [.list (L.map encH ++ [encH (mkH 1 0 t), encH (mkH (-1) 0 (-t))]), encQ 0, encQ 1] _) ?_
    have el : L.map encH ++ [encH (mkH 1 0 t), encH (mkH (-1) 0 (-t))] = (L ++ [mkH 1 0 t, mkH (-1) 0 (-t)]).map encH := by simp
    rw [el]
    refine F.su.dr_i _ _ (2 * H + 4) 1 _ _ _ _ ⟨hL2, by simp only [List.length_append, List.length_cons, List.length_nil]; omega, by omega, by omega, zero, one⟩ ?_
    cases e3 : drM (L ++ [mkH 1 0 t, mkH (-1) 0 (-t)]) 0 1 with
    | none =>
      rw [e2, e3] at hs'
      exact absurd rfl hs'
    | some y =>
      obtain ⟨l, u⟩ := y
      rw [e2, e3] at h
      refine ck (P := wpSs _ _ [sh (encL encH L), sh (.tuple [encO lo, encO hi]), sh (encQ t), sh (.list [encH (mkH 1 0 t), encH (mkH (-1) 0 (-t))]), sh (.tuple [encO l, encO u])] _ _ _) ?_
      refine F.su.em.hp.od.mp.ra.near_i _ _ _ _ _ ?_
      exact And.intro (by decide : 2 ≤ 1000) h
theorem w_imp (L : List HP) (g : HP) (hL : bhs 2000 L) (hl : L.length ≤ 40) (hg : bh 2000 g) (h : Q (.bool (impM L g)) n) : W 56 ["half_planes", "half_plane", "bound"] none [fEmp F.su.em, fSu F.su, fFr F.su.em.hp.od.mp.ra, fCmp F.su.em.hp.od.mp.ra] false T lev row [encL encH L, encH g] n Q := by
  unfold impM at h
  refine F.su.em.em_i _ _ _ _ hL hl ?_
  cases e : empM L with
  | true =>
    rw [if_pos e] at h
    exact h
  | false =>
    rw [if_neg (by rw [e]; decide)] at h
    refine fr1 _ ?_
    refine fr1 _ ?_
    refine F.su.su_i _ _ 2000 1 _ _ _ _ (dir_int hL hl (bz_mono hg.1 (by decide)) (bz_mono hg.2.1 (by decide))) ?_
    cases e2 : supM L (g.p : Rat) (g.q : Rat) with
    | none =>
      rw [e2] at h
      exact h
    | some v =>
      rw [e2] at h
      have bv := sup_b hL (bq_int hg.1) (bq_int hg.2.1) e2
      refine ck (P := wpSs _ _ [sh (encL encH L), sh (encH g), sh (encQ v)] _ _ _) ?_
      refine fr1 _ ?_
      refine F.su.em.hp.od.mp.ra.cmp_i _ _ _ _ _ (sm_of bv (by decide) (by decide)) (sm_of (bq_int hg.2.2) (by decide) (by decide)) ?_
      have h' : Q (.bool (decide (v ≤ (g.r : Rat)))) n := h
      rw [decide_eq_decide.mpr (sgn_sub_le v (g.r : Rat)).symm] at h'
      exact h'
end RT
namespace RT
open PySem PySem.Spec PyProof.Rows L2
/-! ### canonical forms -/
structure CaS where
  sm : SmS
  pl : FnS
  pl_i : ∀ row n t Q, hpOk idM t → t.length ≤ 1000 → Q (encL encH (plM t)) n → pl row n [encL encE t] Q
  ne : FnS
  ne_i : ∀ row n L Q, bhs 2000 L → L.length ≤ 40 → Q (encL encH (neeM L)) n → ne row n [encL encH L] Q
  ca : FnS
  ca_i : ∀ row n L Q, bhs 2000 L → L.length ≤ 40 → lineM L L ≠ none → Q (encH (carM L)) n → ca row n [encL encH L] Q
  lp : FnS
  lp_i : ∀ row n H L Q, bhs H L → H ≤ 500 → L.length ≤ 40 → lineM L L ≠ none → Q (encL encH (lpM L)) n → lp row n [encL encH L] Q
  pp : FnS
  pp_i : ∀ row n x Q, bq 900 900 x.1 → bq 900 900 x.2 → Q (encL encH (ppM x)) n → pp row n [encR x] Q
variable (F : CaS) (T : List Addr) (lev : Nat) (row : List Int) (n : Int) (Q : QD)
abbrev fHp (F : HpS) : Fi := ⟨"half_planes_of", F.hp, 1, []⟩
abbrev fOrd (F : OrS) : Fi := ⟨"in_order", F.ord, 1, []⟩
abbrev fOpp (F : OrS) : Fi := ⟨"opposite", F.opp, 1, []⟩
theorem w_pl (t : List El) (ht : hpOk idM t) (hl : t.length ≤ 1000) (h : Q (encL encH (plM t)) n) : W 58 ["train", "edge", "half_plane"] none [fHp F.sm.su.em.hp] false T lev row [encL encE t] n Q := by
  refine F.sm.su.em.hp.hp_i _ _ _ _ ht hl ?_
  refine comp_m encGH (fun x => encH x.2) n (hpM t) [] (fun x hx K k => ?_) ?_
  · exact nm (nm k)
  · rw [List.nil_append]
    have e : (hpM t).map (fun x => encH x.2) = (plM t).map encH := by
      unfold plM
      rw [List.map_map]
      rfl
    rw [e]
    exact h
theorem ordFrom_mem : ∀ {L found : List HP} {x : HP}, x ∈ ordFrom found L ↔ x ∈ found ∨ x ∈ L
  | [], found, x => by
    show x ∈ found ↔ _
    simp
  | h :: r, found, x => by
    show x ∈ ordFrom (insH found h) r ↔ _
    rw [ordFrom_mem, insH_mem]
    simp only [List.mem_cons]
    constructor
    · rintro ((h1 | h1) | h1)
      · exact .inl h1
      · exact .inr (.inl h1)
      · exact .inr (.inr h1)
    · rintro (h1 | h1 | h1)
      · exact .inl (.inl h1)
      · exact .inl (.inr h1)
      · exact .inr h1
theorem ord_mem {L : List HP} {x : HP} : x ∈ ordH L ↔ x ∈ L := by
  unfold ordH
  rw [ordFrom_mem]
  simp
theorem ordFrom_len : ∀ (L found : List HP), (ordFrom found L).length ≤ found.length + L.length
  | [], found => Nat.le_refl _
  | h :: r, found => by
    have h1 := ordFrom_len r (insH found h)
    have h2 := insH_len found h
    show (ordFrom (insH found h) r).length ≤ _
    simp only [List.length_cons]
    omega
theorem ord_len (L : List HP) : (ordH L).length ≤ L.length := by
  have := ordFrom_len L []
  rw [List.length_nil, Nat.zero_add] at this
  exact this
theorem bhs_ord {k : Nat} {L : List HP} (h : bhs k L) : bhs k (ordH L) := fun x hx => h x (ord_mem.mp hx)
theorem w_ne (L : List HP) (hL : bhs 2000 L) (hl : L.length ≤ 40) (h : Q (encL encH (neeM L)) n) : W 59 ["half_planes", "different", "found", "half_plane", "others", "one"] (some 2) [fOrd F.sm.su.em.hp.od, fImp F.sm] false T lev row [encL encH L] n Q := by
  refine F.sm.su.em.hp.od.ord_i _ _ _ _ (bhs_mono hL (by decide)) (by omega) ?_
  refine ck (P := wpSs _ _ [sh (encL encH L), sh (encL encH (ordH L)), no, no, no, no] _ _ _) ?_
  refine And.intro (by decide : 0 ≤ 1000) ?_
  refine ck (P := wpSs _ _ [sh (encL encH L), sh (encL encH (ordH L)), ow [], no, no, no] _ _ _) ?_
  have hO := bhs_ord hL
  have hOl := ord_len L
  refine for_i encH (fun r ρ n' => n' = n ∧ (∀ x ∈ r, x ∈ ordH L) ∧ ∃ fd c d e, fd ++ r.filter (fun h => !impM ((ordH L).filter fun g => decide (g ≠ h)) h) = neeM L ∧ fd.length + r.length ≤ 40 ∧ ρ = [sh (encL encH L), sh (encL encH (ordH L)), ow (fd.map encH), c, d, e]) ?_ ?_ (ordH L) _ _ ⟨rfl, fun x hx => hx, [], no, no, no, rfl, by simp only [List.length_nil]; omega, rfl⟩
  · rintro x r ρ n' K ⟨rfl, hm, fd, c, d, e, he, hfl, rfl⟩ hK
    have hx := hO x (hm x (List.mem_cons_self ..))
    simp only [List.length_cons] at hfl
    refine nm ?_
    refine ck (P := wpSs _ _ [sh (encL encH L), sh (encL encH (ordH L)), ow (fd.map encH), sh (encH x), d, e] _ _ _) ?_
    refine comp_i encH (fun g => if (decide (g ≠ x)) = true then some (encH g) else none) n' (ordH L) [] (fun g hg K1 K2 k1 k2 => ?_) ?_
    · refine nm ?_
      refine eq_n isH g x (fun h1 => ?_) (fun h1 => ?_)
      · exact k1 _ (by rw [decide_eq_true h1]; rfl)
      · exact k2 (by rw [decide_eq_false (fun z => z h1)]; rfl)
    · rw [List.nil_append, fm_if (fun g => decide (g ≠ x)) encH (ordH L)]
      refine ck (P := wpSs _ _ [sh (encL encH L), sh (encL encH (ordH L)), ow (fd.map encH), sh (encH x), sh (encL encH ((ordH L).filter fun g => decide (g ≠ x))), e] _ _ _) ?_
      have ho : bhs 2000 ((ordH L).filter fun g => decide (g ≠ x)) := fun y hy => hO y (List.mem_filter.mp hy).1
      have hol : ((ordH L).filter fun g => decide (g ≠ x)).length ≤ 40 := Nat.le_trans (List.length_filter_le _ _) (by omega)
      refine F.sm.imp_i _ _ _ _ _ ho hol hx.1 ?_
      rw [List.filter_cons] at he
      cases hi : impM ((ordH L).filter fun g => decide (g ≠ x)) x with
      | true =>
        rw [hi] at he
        exact hK _ _ ⟨rfl, fun y hy => hm y (List.mem_cons_of_mem _ hy), fd, _, _, _, he, by omega, rfl⟩
      | false =>
        rw [hi] at he
        refine And.intro (szlt (by rw [List.length_map]; omega)) ?_
        refine hK _ _ ⟨rfl, fun y hy => hm y (List.mem_cons_of_mem _ hy), fd ++ [x], sh (encH x), sh (encL encH ((ordH L).filter fun g => decide (g ≠ x))), e, ?_, ?_, ?_⟩
        · rw [← he, List.append_assoc]
          rfl
        · rw [List.length_append]
          simp only [List.length_singleton]
          omega
        · rw [List.map_append]
          rfl
  · rintro ρ n' ⟨rfl, hm, fd, c, d, e, he, hfl, rfl⟩
    have he' : fd = neeM L := by rw [← he]; exact (List.append_nil _).symm
    show Q (encL encH fd) n'
    rw [he']
    exact h
theorem opp_bh {k : Nat} {x : HP} (h : bh k x) : bh k (oppH x) := ⟨bz_neg h.1, bz_neg h.2.1, bz_neg h.2.2⟩
theorem opp_nz {x : HP} (h : nz x) : nz (oppH x) := by
  unfold nz oppH at *
  dsimp only
  omega
theorem hAt0 (L : List HP) : hAt L 0 = L.headD zH := by cases L <;> rfl
theorem w_ca (L : List HP) (hL : bhs 2000 L) (hl : L.length ≤ 40) (h0 : lineM L L ≠ none) (h : Q (encH (carM L)) n) : W 60 ["half_planes", "line"] none [fLi F.sm.su, fOrd F.sm.su.em.hp.od, fOpp F.sm.su.em.hp.od] false T lev row [encL encH L] n Q := by
  refine F.sm.su.li_i _ _ _ _ hL hl ?_
  cases e : lineM L L with
  | none => exact absurd e h0
  | some x =>
    have hx := hL x (line_mem e).1
    have e2 : carM L = (ordH [x, oppH x]).headD zH := by unfold carM; rw [e]
    rw [e2, ← hAt0] at h
    refine F.sm.su.em.hp.od.opp_i _ _ _ _ ?_
    refine And.intro (by decide : 2 ≤ 1000) ?_
    have hb : bhs 4000 [x, oppH x] := fun y hy => by
      rcases List.mem_cons.mp hy with rfl | hy
      · exact ⟨bh_mono hx.1 (by decide), hx.2⟩
      · rcases List.mem_cons.mp hy with rfl | hy
        · exact ⟨opp_bh (bh_mono hx.1 (by decide)), opp_nz hx.2⟩
        · cases hy
    refine F.sm.su.em.hp.od.ord_i _ _ [x, oppH x] _ hb (show 2 ≤ 1000 by decide) ?_
    have hne : 0 < (ordH [x, oppH x]).length := List.length_pos_of_mem (a := x) (ord_mem.mpr (List.mem_cons_self ..))
    refine ix_H hne ?_
    exact h
abbrev fCa (F : CaS) : Fi := ⟨"carrier", F.ca, 1, []⟩
theorem car_ex {L : List HP} {H : Nat} (hL : bhs H L) (h0 : lineM L L ≠ none) : bh H (carM L) ∧ nz (carM L) ∧ ∃ x ∈ L, lineM L L = some x ∧ (carM L = x ∨ carM L = oppH x) := by
  cases e : lineM L L with
  | none => exact absurd e h0
  | some x =>
    have hm := (line_mem e).1
    have hx := hL x hm
    have e2 : carM L = (ordH [x, oppH x]).headD zH := by unfold carM; rw [e]
    have hne : 0 < (ordH [x, oppH x]).length := List.length_pos_of_mem (a := x) (ord_mem.mpr (List.mem_cons_self ..))
    have h1 : carM L ∈ ordH [x, oppH x] := by
      rw [e2, ← hAt0]
      exact hAt_mem hne
    have h2 := ord_mem.mp h1
    have h3 : carM L = x ∨ carM L = oppH x := by
      rcases List.mem_cons.mp h2 with h2 | h2
      · exact .inl h2
      · rcases List.mem_cons.mp h2 with h2 | h2
        · exact .inr h2
        · cases h2
    refine ⟨?_, ?_, x, hm, rfl, h3⟩
    · rcases h3 with h3 | h3 <;> rw [h3]
      · exact hx.1
      · exact opp_bh hx.1
    · rcases h3 with h3 | h3 <;> rw [h3]
      · exact hx.2
      · exact opp_nz hx.2
theorem w_pp (x : Ray) (h1 : bq 900 900 x.1) (h2 : bq 900 900 x.2) (h : Q (encL encH (ppM x)) n) : W 62 ["ray", "height", "slope", "corner"] none [fMk F.sm.su.em.hp, fNeg F.sm.su.em.hp.od.mp.ra, fAdd F.sm.su.em.hp.od.mp.ra, fOrd F.sm.su.em.hp.od] false T lev row [encR x] n Q := by
  have one : bq 2000 2000 (1 : Rat) := bq_mono b10.1 (by decide) (by decide)
  have zero : bq 2000 2000 (0 : Rat) := bq_mono b10.2 (by decide) (by decide)
  have m1 : ((1 : Rat) ≠ 0 ∨ (0 : Rat) ≠ 0) := .inl (by decide)
  have m2 : ((0 : Rat) ≠ 0 ∨ (1 : Rat) ≠ 0) := .inr (by decide)
  have m3 : ((-1 : Rat) ≠ 0 ∨ (-1 : Rat) ≠ 0) := .inl (by decide)
  have bs := bq_add h1 h2
  refine nm (nm ?_)
  refine ck (P := wpSs _ _ [sh (encR x), sh (encQ x.1), sh (encQ x.2), no] _ _ _) ?_
  refine F.sm.su.em.hp.od.mp.ra.neg_i _ _ _ _ ?_
  refine F.sm.su.em.hp.od.mp.ra.neg_i _ _ _ _ ?_
  refine F.sm.su.em.hp.od.mp.ra.add_i _ _ _ _ _ (sm_of h1 (by decide) (by decide)) (sm_of h2 (by decide) (by decide)) ?_
  refine F.sm.su.em.hp.od.mp.ra.neg_i _ _ _ _ ?_
  refine F.sm.su.em.hp.mkh_i _ _ _ _ _ _ (bq_mono (bq_neg b10.1) (by decide) (by decide)) (bq_mono (bq_neg b10.1) (by decide) (by decide)) (bq_mono (bq_neg bs) (by decide) (by decide)) m3 ?_
  refine ck (P := wpSs _ _ [sh (encR x), sh (encQ x.1), sh (encQ x.2), sh (encH (mkH (-1) (-1) (-(x.1 + x.2))))] _ _ _) ?_
  refine F.sm.su.em.hp.mkh_i _ _ _ _ _ _ one zero (bq_mono h1 (by decide) (by decide)) m1 ?_
  refine F.sm.su.em.hp.mkh_i _ _ _ _ _ _ zero one (bq_mono h2 (by decide) (by decide)) m2 ?_
  refine And.intro (by decide : 3 ≤ 1000) ?_
  have hb : bhs 4000 [mkH 1 0 x.1, mkH 0 1 x.2, mkH (-1) (-1) (-(x.1 + x.2))] := fun y hy => by
    have d1 : bz 4000 (x.1.den : Int) := bz_mono (bz_den h1) (by decide)
    have d2 : bz 4000 (x.2.den : Int) := bz_mono (bz_den h2) (by decide)
    have d3 : bz 4000 ((x.1 + x.2).den : Int) := bz_mono (bz_den bs) (by decide)
    rcases List.mem_cons.mp hy with rfl | hy
    · exact ⟨mkH_b (M := x.1.den) (x := x.1.den) (y := 0) (z := x.1.num) m1 (den_z _) (by rw [Rat.one_mul]) (by rw [Rat.zero_mul]; rfl) (q_num _) d1 (Nat.pow_pos (by decide)) (bz_mono (bz_num h1) (by decide)), mkH_nz _ m1⟩
    · rcases List.mem_cons.mp hy with rfl | hy
      · exact ⟨mkH_b (M := x.2.den) (x := 0) (y := x.2.den) (z := x.2.num) m2 (den_z _) (by rw [Rat.zero_mul]; rfl) (by rw [Rat.one_mul]) (q_num _) (Nat.pow_pos (by decide)) d2 (bz_mono (bz_num h2) (by decide)), mkH_nz _ m2⟩
      · rcases List.mem_cons.mp hy with rfl | hy
        · exact ⟨mkH_b (M := (x.1 + x.2).den) (x := -(x.1 + x.2).den) (y := -(x.1 + x.2).den) (z := -(x.1 + x.2).num) m3 (den_z _) (by rw [Rat.intCast_neg]; grind) (by rw [Rat.intCast_neg]; grind) (by rw [Rat.intCast_neg, ← q_num (x.1 + x.2)]; grind) (bz_neg d3) (bz_neg d3) (bz_neg (bz_mono (bz_num bs) (by decide))), mkH_nz _ m3⟩
        · cases hy
  refine F.sm.su.em.hp.od.ord_i _ _ [mkH 1 0 x.1, mkH 0 1 x.2, mkH (-1) (-1) (-(x.1 + x.2))] _ hb (show 3 ≤ 1000 by decide) ?_
  exact h
abbrev N61 : List Str := ["half_planes", "line", "share", "found", "turn", "step", "end"]
abbrev C61 (F : CaS) (T : List Addr) (lev : Nat) (row : List Int) : Cfg := mkC N61 (some 3) [fCa F, fCd F.sm.su.em.hp.od.mp.ra, fOpp F.sm.su.em.hp.od, fFr F.sm.su.em.hp.od.mp.ra, fSu F.sm.su, fMk F.sm.su.em.hp, fOrd F.sm.su.em.hp.od] konD false T lev row
theorem step_ne {l : HP} (hz : nz l) (t : Int) (ht : t = 1 ∨ t = -1) : (-l.q).fdiv (Int.gcd l.p l.q : Nat) * t ≠ 0 ∨ l.p.fdiv (Int.gcd l.p l.q : Nat) * t ≠ 0 := by
  have g0 : Int.gcd l.p l.q ≠ 0 := fun z => by
    have := Int.gcd_eq_zero_iff.mp z
    rcases hz with h | h
    · exact h this.1
    · exact h this.2
  have hg : (0 : Int) < (Int.gcd l.p l.q : Nat) := by omega
  have t0 : t ≠ 0 := by omega
  rcases hz with h | h
  · refine .inr (Int.mul_ne_zero (fun z => ?_) t0)
    have := fdiv_ex hg (Int.gcd_dvd_left l.p l.q)
    rw [z, Int.zero_mul] at this
    exact h this.symm
  · refine .inl (Int.mul_ne_zero (fun z => ?_) t0)
    have := fdiv_ex (x := -l.q) hg (Int.dvd_neg.mpr (Int.gcd_dvd_right l.p l.q))
    rw [z, Int.zero_mul] at this
    omega
theorem end_b {L : List HP} {H : Nat} {x y : Int} (hL : bhs H L) (hx : bz H x) (hy : bz H y) (h0 : x ≠ 0 ∨ y ≠ 0) : bhs (4 * H + 10) (endM L x y) := by
  unfold endM
  cases e : supM L (x : Rat) (y : Rat) with
  | none => intro g hg; cases hg
  | some v =>
    have bv := sup_b hL (bq_int hx) (bq_int hy) e
    have h1 : (x : Rat) ≠ 0 ∨ (y : Rat) ≠ 0 := h0.imp cast_ne cast_ne
    intro g hg
    rcases List.mem_cons.mp hg with rfl | hg
    · refine ⟨mkH_b (M := v.den) (x := x * v.den) (y := y * v.den) (z := v.num) h1 (den_z v) (by rw [Rat.intCast_mul]) (by rw [Rat.intCast_mul]) (q_num v) (bz_mono (bz_mul hx (bz_den bv)) (by omega)) (bz_mono (bz_mul hy (bz_den bv)) (by omega)) (bz_mono (bz_num bv) (by omega)), mkH_nz _ h1⟩
    · cases hg
theorem end_len (L : List HP) (x y : Int) : (endM L x y).length ≤ 1 := by
  unfold endM
  split
  · exact Nat.le_refl 1
  · exact Nat.zero_le 1
theorem w_lp (H : Nat) (L : List HP) (hL : bhs H L) (hH : H ≤ 500) (hl : L.length ≤ 40) (h0 : lineM L L ≠ none) (h : Q (encL encH (lpM L)) n) :
    W 61 N61 (some 3) [fCa F, fCd F.sm.su.em.hp.od.mp.ra, fOpp F.sm.su.em.hp.od, fFr F.sm.su.em.hp.od.mp.ra, fSu F.sm.su, fMk F.sm.su.em.hp, fOrd F.sm.su.em.hp.od] false T lev row [encL encH L] n Q := by
  have hL2 := bhs_mono hL (show H ≤ 2000 by omega)
  obtain ⟨bl, zl, _⟩ := car_ex hL h0
  refine F.ca_i _ _ _ _ hL2 hl h0 ?_
  unfold lpM at h
  dsimp only at h
  generalize carM L = l at *
  refine ck (P := wpSs _ _ [sh (encL encH L), sh (encH l), no, no, no, no, no] _ _ _) ?_
  refine F.sm.su.em.hp.od.mp.ra.cd_i _ _ _ _ _ ?_
  refine ck (P := wpSs _ _ [sh (encL encH L), sh (encH l), sh (.int (Int.gcd l.p l.q : Nat)), no, no, no, no] _ _ _) ?_
  refine F.sm.su.em.hp.od.opp_i _ _ _ _ ?_
  refine And.intro (by decide : 2 ≤ 1000) ?_
  have g0 : Int.gcd l.p l.q ≠ 0 := fun z => by
    have := Int.gcd_eq_zero_iff.mp z
    rcases zl with h | h
    · exact h this.1
    · exact h this.2
  have gb : bz H ((Int.gcd l.p l.q : Nat) : Int) := by
    show Int.gcd l.p l.q < 2 ^ H
    rcases zl with h | h
    · exact Nat.lt_of_le_of_lt (Nat.le_of_dvd (by omega) (Int.gcd_dvd_natAbs_left l.p l.q)) bl.1
    · exact Nat.lt_of_le_of_lt (Nat.le_of_dvd (by omega) (Int.gcd_dvd_natAbs_right l.p l.q)) bl.2.1
  have cg : ∀ i, CDivZ i ((Int.gcd l.p l.q : Nat) : Int) := fun i => cdiv_of gb (by omega) (by omega)
  have bx : bz H ((-l.q).fdiv (Int.gcd l.p l.q : Nat)) := fdiv_bz (bz_neg bl.2.1) (Int.natCast_nonneg _)
  have by' : bz H (l.p.fdiv (Int.gcd l.p l.q : Nat)) := fdiv_bz bl.1 (Int.natCast_nonneg _)
  have sn := fun t ht => step_ne zl t ht
  generalize hX : (-l.q).fdiv (Int.gcd l.p l.q : Nat) = X at *
  generalize hY : l.p.fdiv (Int.gcd l.p l.q : Nat) = Y at *
  have bt : ∀ {i t : Int}, bz H i → (t = 1 ∨ t = -1) → bz H (i * t) := fun {i t} hi ht => by
    unfold bz at *
    rcases ht with rfl | rfl
    · rw [Int.mul_one]; exact hi
    · rw [Int.mul_neg, Int.mul_one, Int.natAbs_neg]; exact hi
  have loop : ∀ ts : List Int, ts = [1, -1] → forD (asgT (C61 F T lev row) false (defScope (top 61)) (tgB (defBody (top 61)) 3)) (wpSs (wpS (C61 F T lev row) 11 (defScope (top 61))) (inB (defBody (top 61)) 3)) (ts.map PyData.int)
      [sh (encL encH L), sh (encH l), sh (.int (Int.gcd l.p l.q : Nat)), ow ([l, oppH l].map encH), no, no, no] n (fun ρ1 n1 => wpSs (wpS (C61 F T lev row) 12 (defScope (top 61))) ((defBody (top 61)).drop 4) ρ1 n1 (fun _ n => Q .none n) Q) Q := fun ts hts => by
    refine for_i PyData.int (fun r ρ n' => n' = n ∧ (∀ t ∈ r, t = 1 ∨ t = -1) ∧ ∃ fd c d e, bhs 4000 fd ∧ fd.length + r.length ≤ 4 ∧ fd ++ r.flatMap (fun t => endM L (X * t) (Y * t)) = [l, oppH l] ++ ts.flatMap (fun t => endM L (X * t) (Y * t)) ∧ ρ = [sh (encL encH L), sh (encH l), sh (.int (Int.gcd l.p l.q : Nat)), ow (fd.map encH), c, d, e]) ?_ ?_ ts _ _ ⟨rfl, fun t ht => ?_, [l, oppH l], no, no, no, ?_, ?_, rfl, rfl⟩
    · rintro t r ρ n' K ⟨rfl, ht, fd, c, d, e, hf, hfl, he, rfl⟩ hK
      have ht1 := ht t (List.mem_cons_self ..)
      have bxt := bt bx ht1
      have byt := bt by' ht1
      simp only [List.length_cons] at hfl
      refine nm ?_
      refine ck (P := wpSs _ _ [sh (encL encH L), sh (encH l), sh (.int (Int.gcd l.p l.q : Nat)), ow (fd.map encH), sh (.int t), d, e] _ _ _) ?_
      have cm : ∀ i, bz H i → CMulX i t := fun i hi => cmul_of (a := H) (b := 1) hi (by rcases ht1 with rfl | rfl <;> (show _ < 2 ^ 1) <;> decide) (by omega)
      refine And.intro (cg _) ?_
      refine And.intro (cm _ (by rw [hX]; exact bx)) ?_
      refine fr1 _ ?_
      refine And.intro (cg _) ?_
      refine And.intro (cm _ (by rw [hY]; exact by')) ?_
      refine fr1 _ ?_
      refine And.intro (by decide : 2 ≤ 1000) ?_
      rw [hX, hY]
      refine ck (P := wpSs _ _ [sh (encL encH L), sh (encH l), sh (.int (Int.gcd l.p l.q : Nat)), ow (fd.map encH), sh (.int t), sh (encR (((X * t : Int) : Rat), ((Y * t : Int) : Rat))), e] _ _ _) ?_
      refine F.sm.su.su_i _ _ 2000 1 _ _ _ _ (dir_int hL2 hl (bz_mono bxt (by omega)) (bz_mono byt (by omega))) ?_
      have he1 : fd ++ (endM L (X * t) (Y * t) ++ r.flatMap (fun t => endM L (X * t) (Y * t))) = [l, oppH l] ++ ts.flatMap (fun t => endM L (X * t) (Y * t)) := he
      have eb := end_b hL bxt byt (sn t ht1)
      cases e2 : supM L ((X * t : Int) : Rat) ((Y * t : Int) : Rat) with
      | none =>
        have e3 : endM L (X * t) (Y * t) = [] := by unfold endM; rw [e2]
        rw [e3] at he1
        exact hK _ _ ⟨rfl, fun u hu => ht u (List.mem_cons_of_mem _ hu), fd, _, _, _, hf, by omega, he1, rfl⟩
      | some v =>
        have e3 : endM L (X * t) (Y * t) = [mkH ((X * t : Int) : Rat) ((Y * t : Int) : Rat) v] := by unfold endM; rw [e2]
        rw [e3] at he1 eb
        have bv := sup_b hL (bq_int bxt) (bq_int byt) e2
        refine ck (P := wpSs _ _ [sh (encL encH L), sh (encH l), sh (.int (Int.gcd l.p l.q : Nat)), ow (fd.map encH), sh (.int t), sh (encR (((X * t : Int) : Rat), ((Y * t : Int) : Rat))), sh (encQ v)] _ _ _) ?_
        refine F.sm.su.em.hp.mkh_i _ _ _ _ _ _ (bq_mono (bq_int bxt) (by omega) (by omega)) (bq_mono (bq_int byt) (by omega) (by omega)) (bq_mono bv (by omega) (by omega)) ((sn t ht1).imp cast_ne cast_ne) ?_
        refine And.intro (szlt (by rw [List.length_map]; omega)) ?_
        refine hK _ _ ⟨rfl, fun u hu => ht u (List.mem_cons_of_mem _ hu), fd ++ [mkH ((X * t : Int) : Rat) ((Y * t : Int) : Rat) v], _, _, _, bhs_app hf (bhs_mono eb (by omega)), ?_, ?_, by rw [List.map_append]; rfl⟩
        · rw [List.length_append]
          simp only [List.length_singleton]
          omega
        · rw [← he1, List.append_assoc]
    · rintro ρ n' ⟨rfl, ht, fd, c, d, e, hf, hfl, he, rfl⟩
      have he' : fd = [l, oppH l] ++ endM L (X * 1) (Y * 1) ++ endM L (X * -1) (Y * -1) := by
        have e4 : fd ++ [] = [l, oppH l] ++ ts.flatMap (fun t => endM L (X * t) (Y * t)) := he
        rw [List.append_nil, hts] at e4
        simpa using e4
      refine F.sm.su.em.hp.od.ord_i _ _ fd _ hf (by simp only [List.length_nil] at hfl; omega) ?_
      rw [he']
      exact h
    · rw [hts] at ht
      rcases List.mem_cons.mp ht with rfl | ht
      · exact .inl rfl
      · rcases List.mem_cons.mp ht with rfl | ht
        · exact .inr rfl
        · cases ht
    · intro y hy
      rcases List.mem_cons.mp hy with rfl | hy
      · exact ⟨bh_mono bl (by omega), zl⟩
      · rcases List.mem_cons.mp hy with rfl | hy
        · exact ⟨opp_bh (bh_mono bl (by omega)), opp_nz zl⟩
        · cases hy
    · rw [hts]
      exact Nat.le_refl 4
  refine ck (P := wpSs _ _ [sh (encL encH L), sh (encH l), sh (.int (Int.gcd l.p l.q : Nat)), ow ([l, oppH l].map encH), no, no, no] _ _ _) ?_
  refine And.intro (by decide : 2 ≤ 1000) ?_
  exact loop [1, -1] rfl
end RT
namespace RT
open PySem PySem.Spec PyProof.Rows L2
/-! ### canonical forms, second part -/
structure LOk (H : Nat) (L : List HP) : Prop where
  hb : bhs H L
  len : L.length ≤ 36
  smp : empM L = false → smpM L ≠ none
structure CfOk (t : List El) : Prop where
  hp : hpOk idM t
  tr : trOk idM t
  len : t.length ≤ 1000
  lok : LOk 200 (plM t)
structure CbS where
  ca : CaS
  ch : FnS
  ch_i : ∀ row n L Q, LOk 200 L → Q (encL encH (chM L)) n → ch row n [encL encH L] Q
  br : FnS
  br_i : ∀ row n L Q, LOk 200 L → Q (encL encR (brM L)) n → br row n [encL encH L] Q
  cf : FnS
  cf_i : ∀ row n t Q, CfOk t → Q (encC (cfM t)) n → cf row n [encL encE t] Q
  ae : FnS
  ae_i : ∀ row n t u Q, CfOk t → CfOk u → Q (.bool (decide (cfM t = cfM u))) n → ae row n [encL encE t, encL encE u] Q
variable (F : CbS) (T : List Addr) (lev : Nat) (row : List Int) (n : Int) (Q : QD)
theorem smp_b {H : Nat} {L : List HP} {x : Ray} (hL : bhs H L) (e : smpM L = some x) : bq (2 * H + 4) (2 * H + 3) x.1 ∧ bq (4 * H + 12) (4 * H + 11) x.2 := by
  unfold smpM at e
  split at e
  · cases e
  · rename_i lo hi e1
    obtain ⟨bl, bu⟩ := dr_b hL b10.1 b10.2 e1
    have bn := near_b (b := 2 * H + 2) bl bu
    obtain ⟨f1, f2⟩ := fix_b bn (by omega)
    dsimp only at e
    have hz : ((1 : Rat) ≠ 0 ∨ (0 : Rat) ≠ 0) := .inl (by decide)
    have hz2 : ((-1 : Rat) ≠ 0 ∨ (0 : Rat) ≠ 0) := .inl (by decide)
    have hL2 : bhs (2 * H + 4) (L ++ [mkH 1 0 (nearM lo hi), mkH (-1) 0 (-(nearM lo hi))]) := bhs_app (bhs_mono hL (by omega)) fun x hx => by
      rcases List.mem_cons.mp hx with rfl | hx
      · exact ⟨f1, mkH_nz _ hz⟩
      · rcases List.mem_cons.mp hx with rfl | hx
        · exact ⟨f2, mkH_nz _ hz2⟩
        · cases hx
    split at e
    · cases e
    · rename_i l u e2
      cases e
      obtain ⟨cl, cu⟩ := dr_b hL2 b10.2 b10.1 e2
      have cn := near_b (b := 2 * (2 * H + 4) + 2) cl cu
      exact ⟨bn, bq_mono cn (by omega) (by omega)⟩
theorem LOk.k {H : Nat} {L : List HP} (h : LOk H L) (hH : H ≤ 2000) : bhs 2000 L := bhs_mono h.hb hH
abbrev fKi (F : SuS) : Fi := ⟨"region_kind", F.ki, 1, []⟩
abbrev fNe (F : CaS) : Fi := ⟨"needed", F.ne, 1, []⟩
abbrev fLp (F : CaS) : Fi := ⟨"line_planes", F.lp, 1, []⟩
abbrev fPp (F : CaS) : Fi := ⟨"point_planes", F.pp, 1, []⟩
theorem kind_some {L : List HP} (h : kindM L ≠ .empty) : empM L = false := by
  unfold kindM at h
  split at h
  · exact absurd rfl h
  · rename_i z
    cases e : empM L with
    | true => exact absurd e z
    | false => rfl
theorem kind_line {L : List HP} (h : kindM L ≠ .empty) (h2 : kindM L ≠ .area) : lineM L L ≠ none := by
  intro e
  unfold kindM at h h2
  split at h
  · exact absurd rfl h
  · rename_i z
    rw [if_neg z, e] at h2
    exact h2 rfl
theorem w_ch (L : List HP) (ok : LOk 200 L) (h : Q (encL encH (chM L)) n) : W 63 ["half_planes", "kind"] none [fKi F.ca.sm.su, fOrd F.ca.sm.su.em.hp.od, fNe F.ca, fLp F.ca, fPp F.ca, fSmp F.ca.sm] false T lev row [encL encH L] n Q := by
  have hL := ok.k (by decide)
  have hl := ok.len
  unfold chM at h
  refine F.ca.sm.su.ki_i _ _ _ _ hL (by omega) ?_
  cases e : kindM L with
  | empty =>
    rw [e] at h
    refine str_t ?_
    refine And.intro (by decide : 3 ≤ 1000) ?_
    refine And.intro (by decide : 3 ≤ 1000) ?_
    refine And.intro (by decide : 2 ≤ 1000) ?_
    have hb : bhs 4000 [⟨1, 0, -1⟩, ⟨-1, 0, 0⟩] := fun y hy => by
      have k1 : bz 4000 1 := Nat.one_lt_two_pow (by decide)
      have k0 : bz 4000 0 := Nat.pow_pos (by decide)
      rcases List.mem_cons.mp hy with rfl | hy
      · exact ⟨⟨k1, k0, bz_neg k1⟩, .inl (by decide)⟩
      · rcases List.mem_cons.mp hy with rfl | hy
        · exact ⟨⟨bz_neg k1, k0, k0⟩, .inl (by decide)⟩
        · cases hy
    refine F.ca.sm.su.em.hp.od.ord_i _ _ [⟨1, 0, -1⟩, ⟨-1, 0, 0⟩] _ hb (by decide) ?_
    exact h
  | area =>
    rw [e] at h
    refine str_f ?_
    refine str_t ?_
    refine F.ca.ne_i _ _ _ _ hL (by omega) ?_
    exact h
  | point =>
    rw [e] at h
    have hs := ok.smp (kind_some (by rw [e]; intro z; cases z))
    refine str_f ?_
    refine str_f ?_
    refine str_t ?_
    refine F.ca.sm.smp_i _ _ 200 _ _ ok.hb (by decide) hl ok.smp ?_
    cases e2 : smpM L with
    | none => exact absurd e2 hs
    | some x =>
      obtain ⟨b1, b2⟩ := smp_b ok.hb e2
      rw [e2] at h
      refine F.ca.pp_i _ _ _ _ (bq_mono b1 (by decide) (by decide)) (bq_mono b2 (by decide) (by decide)) ?_
      exact h
  | _ =>
    rw [e] at h
    have hli := kind_line (L := L) (by rw [e]; intro z; cases z) (by rw [e]; intro z; cases z)
    refine str_f ?_
    refine str_f ?_
    refine str_f ?_
    refine F.ca.lp_i _ _ 200 _ _ ok.hb (by decide) (by omega) hli ?_
    exact h
theorem brM_b {L : List HP} (ok : LOk 200 L) : ∀ x ∈ brM L, bq 1000 1000 x.1 ∧ bq 1000 1000 x.2 := by
  have z : bq 1000 1000 (0 : Rat) := bq_mono b10.2 (by decide) (by decide)
  have o : bq 1000 1000 (1 : Rat) := bq_mono b10.1 (by decide) (by decide)
  have gen : ∀ l : HP, bh 200 l → nz l → ∀ x ∈ ([(((l.p * l.r : Int) / ((l.p * l.p + l.q * l.q : Int) : Rat) : Rat), ((l.q * l.r : Int) / ((l.p * l.p + l.q * l.q : Int) : Rat) : Rat)), (((l.p * l.r : Int) / ((l.p * l.p + l.q * l.q : Int) : Rat) : Rat) + ((-l.q : Int) : Rat), ((l.q * l.r : Int) / ((l.p * l.p + l.q * l.q : Int) : Rat) : Rat) + (l.p : Rat))] : List Ray), bq 1000 1000 x.1 ∧ bq 1000 1000 x.2 := fun l hl hz x hx => by
    have d0 : (l.p * l.p + l.q * l.q : Int) ≠ 0 := by have := dot_pos hz; unfold dotH at this; omega
    have db : bq 401 1 ((l.p * l.p + l.q * l.q : Int) : Rat) := bq_int (dot_bz hl hl)
    have n1 := bq_div (bq_int (bz_mul hl.1 hl.2.2)) db (cast_ne d0)
    have n2 := bq_div (bq_int (bz_mul hl.2.1 hl.2.2)) db (cast_ne d0)
    rcases List.mem_cons.mp hx with rfl | hx
    · exact ⟨bq_mono n1 (by decide) (by decide), bq_mono n2 (by decide) (by decide)⟩
    · rcases List.mem_cons.mp hx with rfl | hx
      · exact ⟨bq_mono (bq_add n1 (bq_int (bz_neg hl.2.1))) (by decide) (by decide), bq_mono (bq_add n2 (bq_int hl.1)) (by decide) (by decide)⟩
      · cases hx
  intro x hx
  unfold brM at hx
  cases e : kindM L with
  | empty =>
    rw [e] at hx
    cases hx
  | area =>
    rw [e] at hx
    rcases List.mem_cons.mp hx with rfl | hx
    · exact ⟨z, z⟩
    · rcases List.mem_cons.mp hx with rfl | hx
      · exact ⟨o, z⟩
      · rcases List.mem_cons.mp hx with rfl | hx
        · exact ⟨z, o⟩
        · cases hx
  | point =>
    rw [e] at hx
    have hs := ok.smp (kind_some (by rw [e]; intro z; cases z))
    cases e2 : smpM L with
    | none => exact absurd e2 hs
    | some y =>
      obtain ⟨b1, b2⟩ := smp_b ok.hb e2
      rw [e2] at hx
      rcases List.mem_cons.mp hx with rfl | hx
      · exact ⟨bq_mono b1 (by decide) (by decide), bq_mono b2 (by decide) (by decide)⟩
      · cases hx
  | _ =>
    rw [e] at hx
    obtain ⟨c1, c2, _⟩ := car_ex ok.hb (kind_line (L := L) (by rw [e]; intro z; cases z) (by rw [e]; intro z; cases z))
    exact gen _ c1 c2 x hx
theorem w_br (L : List HP) (ok : LOk 200 L) (h : Q (encL encR (brM L)) n) : W 64 ["half_planes", "kind", "p", "q", "r", "size", "near"] none [fKi F.ca.sm.su, fSmp F.ca.sm, fCa F.ca, fFr F.ca.sm.su.em.hp.od.mp.ra, fAdd F.ca.sm.su.em.hp.od.mp.ra] false T lev row [encL encH L] n Q := by
  have hL := ok.k (by decide)
  have hl := ok.len
  unfold brM at h
  refine F.ca.sm.su.ki_i _ _ _ _ hL (by omega) ?_
  cases e : kindM L with
  | empty =>
    rw [e] at h
    refine str_t ?_
    exact And.intro (by decide : 0 ≤ 1000) h
  | area =>
    rw [e] at h
    refine str_f ?_
    refine str_t ?_
    refine And.intro (by decide : 2 ≤ 1000) ?_
    refine And.intro (by decide : 2 ≤ 1000) ?_
    refine And.intro (by decide : 2 ≤ 1000) ?_
    exact And.intro (by decide : 3 ≤ 1000) h
  | point =>
    rw [e] at h
    have hs := ok.smp (kind_some (by rw [e]; intro z; cases z))
    refine str_f ?_
    refine str_f ?_
    refine str_t ?_
    refine F.ca.sm.smp_i _ _ 200 _ _ ok.hb (by decide) hl ok.smp ?_
    cases e2 : smpM L with
    | none => exact absurd e2 hs
    | some x =>
      rw [e2] at h
      exact And.intro (by decide : 1 ≤ 1000) h
  | _ =>
    rw [e] at h
    have hli := kind_line (L := L) (by rw [e]; intro z; cases z) (by rw [e]; intro z; cases z)
    obtain ⟨c1, c2, _⟩ := car_ex ok.hb hli
    refine str_f ?_
    refine str_f ?_
    refine str_f ?_
    refine F.ca.ca_i _ _ _ _ hL (by omega) hli ?_
    dsimp only at h
    generalize carM L = l at *
    have d0 : (l.p * l.p + l.q * l.q : Int) ≠ 0 := by have := dot_pos c2; unfold dotH at this; omega
    have db : bz 401 (l.p * l.p + l.q * l.q : Int) := dot_bz c1 c1
    have n1 := bq_div (bq_int (bz_mul c1.1 c1.2.2)) (bq_int db) (cast_ne d0)
    have n2 := bq_div (bq_int (bz_mul c1.2.1 c1.2.2)) (bq_int db) (cast_ne d0)
    refine nm (nm (nm ?_))
    refine ck (P := wpSs _ _ [sh (encL encH L), sh (.str (kdS _)), sh (.int l.p), sh (.int l.q), sh (.int l.r), no, no] _ _ _) ?_
    refine And.intro (cmul_of c1.1 c1.1 (by decide)) ?_
    refine And.intro (cmul_of c1.2.1 c1.2.1 (by decide)) ?_
    refine ck (P := wpSs _ _ [sh (encL encH L), sh (.str (kdS _)), sh (.int l.p), sh (.int l.q), sh (.int l.r), sh (.int (l.p * l.p + l.q * l.q)), no] _ _ _) ?_
    refine And.intro (cmul_of c1.1 c1.2.2 (by decide)) ?_
    refine F.ca.sm.su.em.hp.od.mp.ra.fr_i _ _ _ _ _ d0 (bz_mono db (by decide)) ?_
    refine And.intro (cmul_of c1.2.1 c1.2.2 (by decide)) ?_
    refine F.ca.sm.su.em.hp.od.mp.ra.fr_i _ _ _ _ _ d0 (bz_mono db (by decide)) ?_
    refine And.intro (by decide : 2 ≤ 1000) ?_
    refine ck (P := wpSs _ _ [sh (encL encH L), sh (.str (kdS _)), sh (.int l.p), sh (.int l.q), sh (.int l.r), sh (.int (l.p * l.p + l.q * l.q)), sh (.tuple [encQ _, encQ _])] _ _ _) ?_
    refine fr1 _ ?_
    refine F.ca.sm.su.em.hp.od.mp.ra.add_i _ _ _ _ _ (sm_of n1 (by decide) (by decide)) (sm_of (bq_int (bz_neg c1.2.1)) (by decide) (by decide)) ?_
    refine fr1 _ ?_
    refine F.ca.sm.su.em.hp.od.mp.ra.add_i _ _ _ _ _ (sm_of n2 (by decide) (by decide)) (sm_of (bq_int c1.1) (by decide) (by decide)) ?_
    refine And.intro (by decide : 2 ≤ 1000) ?_
    exact And.intro (by decide : 2 ≤ 1000) h
theorem trFrom_b : ∀ (t : List El) (m : Mp), trOk m t → bM 1000 (trFrom m t)
  | [], _, h => h
  | e :: r, m, h => trFrom_b r (coM m (elM e)) h.2.2
abbrev fPl (F : CaS) : Fi := ⟨"planes_of", F.pl, 1, []⟩
abbrev fTr (F : MpS) : Fi := ⟨"ray_transfer", F.tr, 1, []⟩
abbrev fAp (F : MpS) : Fi := ⟨"apply_map", F.ap, 2, []⟩
abbrev fBr (F : CbS) : Fi := ⟨"base_rays", F.br, 1, []⟩
abbrev fCh (F : CbS) : Fi := ⟨"canonical_half_planes", F.ch, 1, []⟩
abbrev fCf (F : CbS) : Fi := ⟨"canonical_form", F.cf, 1, []⟩
theorem w_cf (t : List El) (ok : CfOk t) (h : Q (encC (cfM t)) n) : W 65 ["train", "half_planes", "transfer", "exits", "ray"] none [fPl F.ca, fTr F.ca.sm.su.em.hp.od.mp, fAp F.ca.sm.su.em.hp.od.mp, fBr F, fKi F.ca.sm.su, fCh F] false T lev row [encL encE t] n Q := by
  refine F.ca.pl_i _ _ _ _ ok.hp ok.len ?_
  refine F.ca.sm.su.em.hp.od.mp.tr_i _ _ _ _ ok.tr ?_
  refine ck (P := wpSs _ _ [sh (encL encE t), sh (encL encH (plM t)), sh (encM (trM t)), no, no] _ _ _) ?_
  refine F.br_i _ _ _ _ ok.lok ?_
  have tb : bM 1000 (trM t) := trFrom_b _ _ ok.tr
  refine comp_m encR (fun x => encRR (x, apM (trM t) x)) n (brM (plM t)) [] (fun x hx K k => ?_) ?_
  · refine nm ?_
    obtain ⟨b1, b2⟩ := brM_b ok.lok x hx
    refine F.ca.sm.su.em.hp.od.mp.ap_i _ _ _ _ _ tb b1 b2 ?_
    exact And.intro (by decide : 2 ≤ 1000) k
  · rw [List.nil_append]
    have e : (brM (plM t)).map (fun x => encRR (x, apM (trM t) x)) = ((brM (plM t)).map fun x => (x, apM (trM t) x)).map encRR := by
      rw [List.map_map]
      rfl
    rw [e]
    refine ck (P := wpSs _ _ [sh (encL encE t), sh (encL encH (plM t)), sh (encM (trM t)), sh (encL encRR ((brM (plM t)).map fun x => (x, apM (trM t) x))), no] _ _ _) ?_
    refine F.ca.sm.su.ki_i _ _ _ _ (ok.lok.k (by decide)) (by have := ok.lok.len; omega) ?_
    refine F.ch_i _ _ _ _ ok.lok ?_
    exact And.intro (by decide : 3 ≤ 1000) h
theorem w_ae (t u : List El) (ht : CfOk t) (hu : CfOk u) (h : Q (.bool (decide (cfM t = cfM u))) n) : W 66 ["train", "other"] none [fCf F] false T lev row [encL encE t, encL encE u] n Q := by
  refine F.cf_i _ _ _ _ ht ?_
  refine F.cf_i _ _ _ _ hu ?_
  refine And.intro (isC.shp (by decide) (cfM t)) (And.intro (isC.shp (by decide) (cfM u)) ?_)
  rw [isC.eq]
  exact h
end RT
namespace RT
open PySem PySem.Spec PyProof.Rows L2
/-! ### simpler trains -/
structure SiS where
  cb : CbS
  wo : FnS
  wo_i : ∀ row n (t : List El) (e : Edge) lo hi Q, e.1 < t.length → t[e.1]? = some (.stop lo hi) → t.length ≤ 1000 → Q (encL encE (woM t e)) n → wo row n [encL encE t, encG e] Q
  rd : FnS
  rd_i : ∀ row n (t : List El) (e : Edge) lo hi h Q, e.1 < t.length → t[e.1]? = some (.stop lo hi) → CfOk (woM t e) → bh 2000 h → t.length ≤ 1000 → Q (.bool (redM t e h)) n → rd row n [encL encE t, encG e, encH h] Q
variable (F : SiS) (T : List Addr) (lev : Nat) (row : List Int) (n : Int) (Q : QD)
theorem at_E (t : List El) (i : Nat) (x : El) (h : t[i]? = some x) : atI (t.map encE) (i : Nat) = some (encE x) := by
  have hi : i < t.length := (List.getElem?_eq_some_iff.mp h).1
  unfold atI
  have e : ixN (t.map encE).length (i : Nat) = some i := by
    unfold ixN
    rw [List.length_map, if_pos (by omega), if_pos (by omega)]
    rfl
  rw [e]
  show (t.map encE)[i]? = _
  rw [List.getElem?_map, h]
  rfl
theorem ix_E {t : List El} {i : Nat} {x : El} (h : t[i]? = some x) {Q : D → Prop} (q : Q (encE x)) : ixD (encL encE t) (.int (i : Nat)) Q := by
  show match atI (t.map encE) (i : Nat) with
    | some d => Q d
    | none => False
  rw [at_E t i x h]
  exact q
theorem cut_to {xs : List D} {k : Int} {j : Nat} (h : k = (j : Int)) (hj : j ≤ xs.length) : cutD xs none (some k) = xs.take j := by
  subst h
  unfold cutD HT.sIx
  have h1 : ¬ ((j : Int) < 0) := by omega
  simp only [h1, if_false, List.drop_zero, Nat.sub_zero]
  have e : min (j : Int).toNat xs.length = j := by omega
  rw [e]
theorem w_wo (t : List El) (e : Edge) (lo hi : Option Rat) (he : e.1 < t.length) (hx : t[e.1]? = some (.stop lo hi)) (hl : t.length ≤ 1000) (h : Q (encL encE (woM t e)) n) : W 67 ["train", "edge", "index", "side", "stop"] none [] false T lev row [encL encE t, encG e] n Q := by
  obtain ⟨i, b⟩ := e
  have hm : (t.map encE).length = t.length := List.length_map ..
  have c1 : cutD (t.map encE) none (some (i : Int)) = (t.take i).map encE := by
    rw [cut_to rfl (by rw [hm]; exact Nat.le_of_lt he), List.map_take]
  have c2 : cutD (t.map encE) (some ((i : Int) + 1)) none = (t.drop (i + 1)).map encE := by
    rw [cut_from (j := i + 1) (by omega) (by rw [hm]; exact he), List.map_drop]
  have hg : t.getD i (.gap 0) = .stop lo hi := by simp [hx]
  have l1 : ∀ k, k ≤ 3000 → k ≤ sizeLine := fun k hk => by rw [sizeLine_eq]; omega
  refine nm (nm ?_)
  refine ck (P := wpSs _ _ [sh (encL encE t), sh (encG (i, b)), sh (.int (i : Nat)), sh (.str (sideS b)), no] _ _ _) ?_
  refine ix_E hx ?_
  refine ck (P := wpSs _ _ [sh (encL encE t), sh (encG (i, b)), sh (.int (i : Nat)), sh (.str (sideS b)), sh (encE (.stop lo hi))] _ _ _) ?_
  have fin : ∀ y : El, woEl (.stop lo hi) b = y → (cutD (t.map encE) none (some (i : Int))).length + [encE y].length ≤ sizeLine ∧ ((cutD (t.map encE) none (some (i : Int)) ++ [encE y]).length + (cutD (t.map encE) (some ((i : Int) + 1)) none).length ≤ sizeLine ∧ Q (.list (cutD (t.map encE) none (some (i : Int)) ++ [encE y] ++ cutD (t.map encE) (some ((i : Int) + 1)) none)) n) := fun y hy => by
    rw [c1, c2]
    refine ⟨l1 _ ?_, l1 _ ?_, ?_⟩
    · simp only [List.length_map, List.length_take, List.length_singleton]
      omega
    · simp only [List.length_append, List.length_map, List.length_take, List.length_drop, List.length_singleton]
      omega
    · have ew : (woM t (i, b)).map encE = (t.take i).map encE ++ [encE y] ++ (t.drop (i + 1)).map encE := by
        unfold woM
        dsimp only
        rw [hg, hy]
        simp
      rw [← ew]
      exact h
  cases b with
  | false =>
    refine str_t ?_
    refine And.intro (by decide : 3 ≤ 1000) ?_
    refine And.intro (by decide : 1 ≤ 1000) ?_
    obtain ⟨f1, f2, f3⟩ := fin (.stop none hi) rfl
    refine And.intro f1 ?_
    refine And.intro f2 ?_
    exact f3
  | true =>
    refine str_f ?_
    refine And.intro (by decide : 3 ≤ 1000) ?_
    refine And.intro (by decide : 1 ≤ 1000) ?_
    obtain ⟨f1, f2, f3⟩ := fin (.stop lo none) rfl
    refine And.intro f1 ?_
    refine And.intro f2 ?_
    exact f3
abbrev fWo (F : SiS) : Fi := ⟨"without_edge", F.wo, 2, []⟩
abbrev fRd (F : SiS) : Fi := ⟨"is_redundant", F.rd, 3, []⟩
theorem w_rd (t : List El) (e : Edge) (lo hi : Option Rat) (g : HP) (he : e.1 < t.length) (hx : t[e.1]? = some (.stop lo hi)) (ok : CfOk (woM t e)) (hg : bh 2000 g) (hl : t.length ≤ 1000) (h : Q (.bool (redM t e g)) n) : W 68 ["train", "edge", "half_plane", "others"] none [fPl F.cb.ca, fWo F, fEmp F.cb.ca.sm.su.em, fImp F.cb.ca.sm] false T lev row [encL encE t, encG e, encH g] n Q := by
  refine F.wo_i _ _ _ _ _ _ _ he hx hl ?_
  refine F.cb.ca.pl_i _ _ _ _ ok.hp ok.len ?_
  have hL := ok.lok.k (by decide)
  have hl2 := ok.lok.len
  refine ck (P := wpSs _ _ [sh (encL encE t), sh (encG e), sh (encH g), sh (encL encH (plM (woM t e)))] _ _ _) ?_
  unfold redM at h
  refine F.cb.ca.sm.su.em.em_i _ _ _ _ hL (by omega) ?_
  cases e1 : empM (plM (woM t e)) with
  | true =>
    rw [e1] at h
    exact h
  | false =>
    rw [e1] at h
    refine F.cb.ca.sm.imp_i _ _ _ _ _ hL (by omega) hg ?_
    exact h
end RT
namespace RT
open PySem PySem.Spec PyProof.Rows L2
theorem hpFrom_ix : ∀ (t : List El) (i : Nat) (m : Mp) (x : Edge × HP), x ∈ hpFrom i m t → i ≤ x.1.1 ∧ x.1.1 < i + t.length ∧ ∃ lo hi, t[x.1.1 - i]? = some (.stop lo hi)
  | [], _, _, _, h => by cases h
  | e :: r, i, m, x, h => by
    have h' : x ∈ elEdges i e m ++ hpFrom (i + 1) (coM m (elM e)) r := h
    rcases List.mem_append.mp h' with h1 | h1
    · cases e with
      | stop lo hi =>
        have h2 : x.1.1 = i := by
          unfold elEdges edgesM at h1
          cases lo <;> cases hi <;> simp at h1
          · rw [h1]
          · rw [h1]
          · rcases h1 with h1 | h1 <;> rw [h1]
        refine ⟨by omega, by simp only [List.length_cons]; omega, lo, hi, ?_⟩
        rw [h2, Nat.sub_self]
        rfl
      | _ => cases h1
    · obtain ⟨a, b, lo, hi, c⟩ := hpFrom_ix r (i + 1) _ x h1
      refine ⟨by omega, by simp only [List.length_cons]; omega, lo, hi, ?_⟩
      have e : x.1.1 - i = (x.1.1 - (i + 1)) + 1 := by omega
      rw [e, List.getElem?_cons_succ]
      exact c
structure ReOk (t : List El) : Prop where
  hp : hpOk idM t
  len : t.length ≤ 1000
  all : ∀ x ∈ hpM t, CfOk (woM t x.1) ∧ bh 2000 x.2
structure SjS where
  si : SiS
  re : FnS
  re_i : ∀ row n t Q, ReOk t → Q (encL encG (reM t)) n → re row n [encL encE t] Q
variable (F : SjS) (T : List Addr) (lev : Nat) (row : List Int) (n : Int) (Q : QD)
theorem w_re (t : List El) (ok : ReOk t) (h : Q (encL encG (reM t)) n) : W 69 ["train", "edge", "half_plane"] none [fHp F.si.cb.ca.sm.su.em.hp, fRd F.si] false T lev row [encL encE t] n Q := by
  refine F.si.cb.ca.sm.su.em.hp.hp_i _ _ _ _ ok.hp ok.len ?_
  refine comp_i encGH (fun x => if redM t x.1 x.2 = true then some (encG x.1) else none) n (hpM t) [] (fun x hx K1 K2 k1 k2 => ?_) ?_
  · refine nm (nm ?_)
    obtain ⟨_, h2, lo, hi, h3⟩ := hpFrom_ix t 0 idM x hx
    rw [Nat.zero_add] at h2
    rw [Nat.sub_zero] at h3
    obtain ⟨o1, o2⟩ := ok.all x hx
    refine F.si.rd_i _ _ _ _ _ _ _ _ h2 h3 o1 o2 ok.len ?_
    cases e : redM t x.1 x.2 with
    | true => exact k1 _ (by rw [e]; rfl)
    | false => exact k2 (by rw [e]; rfl)
  · rw [List.nil_append, fm_if (fun x : Edge × HP => redM t x.1 x.2) (fun x => encG x.1) (hpM t)]
    have e : ((hpM t).filter fun x => redM t x.1 x.2).map (fun x => encG x.1) = (reM t).map encG := by
      unfold reM
      rw [List.map_map]
      rfl
    rw [e]
    exact h
end RT
namespace RT
open PySem PySem.Spec PyProof.Rows L2
def oLen (x : Option Rat) : Nat := match x with
  | none => 0
  | some _ => 1
def cntE : El → Nat
  | .stop lo hi => oLen lo + oLen hi
  | _ => 0
def cntT : List El → Nat
  | [] => 0
  | e :: r => cntE e + cntT r
theorem hpFrom_len : ∀ (t : List El) (i : Nat) (m : Mp), (hpFrom i m t).length = cntT t
  | [], _, _ => rfl
  | e :: r, i, m => by
    have h := hpFrom_len r (i + 1) (coM m (elM e))
    show (elEdges i e m ++ hpFrom (i + 1) (coM m (elM e)) r).length = _
    rw [List.length_append, h]
    show _ = cntE e + cntT r
    congr 1
    cases e with
    | stop lo hi => cases lo <;> cases hi <;> rfl
    | _ => rfl
theorem cnt_le : ∀ t : List El, cntT t ≤ 2 * t.length
  | [] => Nat.le_refl _
  | e :: r => by
    have h := cnt_le r
    have h2 : cntE e ≤ 2 := by
      cases e with
      | stop lo hi => cases lo <;> cases hi <;> simp [cntE, oLen]
      | _ => exact Nat.zero_le _
    show cntE e + cntT r ≤ _
    simp only [List.length_cons]
    omega
theorem hpFrom_side : ∀ (t : List El) (i : Nat) (m : Mp) (x : Edge × HP), x ∈ hpFrom i m t → cntT (t.take (x.1.1 - i) ++ [woEl (t.getD (x.1.1 - i) (.gap 0)) x.1.2] ++ t.drop (x.1.1 - i + 1)) + 1 = cntT t
  | [], _, _, _, h => by cases h
  | e :: r, i, m, x, h => by
    have h' : x ∈ elEdges i e m ++ hpFrom (i + 1) (coM m (elM e)) r := h
    rcases List.mem_append.mp h' with h1 | h1
    · cases e with
      | stop lo hi =>
        unfold elEdges edgesM at h1
        cases lo <;> cases hi <;> simp at h1
        · subst h1
          simp [woEl, cntT, cntE, oLen]
          omega
        · subst h1
          simp [woEl, cntT, cntE, oLen]
          omega
        · rcases h1 with h1 | h1 <;> subst h1 <;> simp [woEl, cntT, cntE, oLen] <;> omega
      | _ => cases h1
    · have ih := hpFrom_side r (i + 1) _ x h1
      obtain ⟨a, _, _⟩ := hpFrom_ix r (i + 1) _ x h1
      have e1 : x.1.1 - i = (x.1.1 - (i + 1)) + 1 := by omega
      rw [e1]
      simp only [List.take_succ_cons, List.drop_succ_cons, List.getD_cons_succ, List.cons_append]
      show cntE e + cntT _ + 1 = cntE e + cntT r
      omega
theorem wo_cnt {t : List El} {x : Edge × HP} (h : x ∈ hpM t) : cntT (woM t x.1) + 1 = cntT t := hpFrom_side t 0 idM x h
end RT
namespace RT
open PySem PySem.Spec PyProof.Rows L2
structure SkS where
  sj : SjS
  sim : FnS
  sim_i : ∀ row n (P : List El → Prop) t Q, (∀ t, P t → ReOk t ∧ ∀ e ∈ reM t, P (woM t e)) → P t → Q (encL encE (simM t)) n → sim row n [encL encE t] Q
variable (F : SkS) (T : List Addr) (lev : Nat) (row : List Int) (n : Int) (Q : QD)
abbrev fRe (F : SjS) : Fi := ⟨"redundant_edges", F.re, 1, []⟩
theorem re_mem {t : List El} {e : Edge} (h : e ∈ reM t) : ∃ g, (e, g) ∈ hpM t := by
  unfold reM at h
  obtain ⟨x, hx, rfl⟩ := List.mem_map.mp h
  exact ⟨x.2, (List.mem_filter.mp hx).1⟩
theorem wo_len {t : List El} {e : Edge} (h : e.1 < t.length) : (woM t e).length = t.length := by
  unfold woM
  simp only [List.length_append, List.length_take, List.length_drop, List.length_singleton]
  omega
theorem ix_hd {α : Type} {f : α → D} {x : α} {r : List α} {Q : D → Prop} (q : Q (f x)) : ixD (encL f (x :: r)) (.int 0) Q := by
  have e : atI ((x :: r).map f) 0 = some (f x) := by
    unfold atI
    have e1 : ixN ((x :: r).map f).length 0 = some 0 := by
      unfold ixN
      rw [if_pos (by decide), if_pos (by simp only [List.length_map, List.length_cons]; omega)]
      rfl
    rw [e1]
    rfl
  show match atI ((x :: r).map f) 0 with
    | some d => Q d
    | none => False
  rw [e]
  exact q
theorem w_sim (P : List El → Prop) (t : List El) (hP : ∀ t, P t → ReOk t ∧ ∀ e ∈ reM t, P (woM t e)) (h0 : P t) (h : Q (encL encE (simM t)) n) : W 70 ["train", "found", "edges", "element"] none [fRe F.sj, fWo F.sj.si] false T lev row [encL encE t] n Q := by
  refine F.sj.re_i _ _ _ _ (hP t h0).1 ?_
  refine ck (P := wpSs _ _ [sh (encL encE t), sh (encL encE t), sh (encL encG (reM t)), no] _ _ _) ?_
  refine ⟨fun m ρ n' => n' = n ∧ ∃ t' k, P t' ∧ cntT t' ≤ k ∧ simLoop k t' = simLoop (2 * t.length) t ∧ m = cntT t' ∧ ρ = [sh (encL encE t), sh (encL encE t'), sh (encL encG (reM t')), no], ⟨cntT t, rfl, t, 2 * t.length, h0, cnt_le t, rfl, rfl, rfl⟩, ?_⟩
  rintro m ρ n' ⟨rfl, t', k, p', hk, he, rfl, rfl⟩
  obtain ⟨ok, nxt⟩ := hP t' p'
  cases hr : reM t' with
  | nil =>
    have e1 : simLoop k t' = t' := by
      cases k with
      | zero => rfl
      | succ k => show (match reM t' with
          | [] => t'
          | e :: _ => simLoop k (woM t' e)) = t'; rw [hr]
    refine comp_i encE (fun x => if decide (x ≠ .stop none none) = true then some (encE x) else none) n' t' [] (fun x hx K1 K2 k1 k2 => ?_) ?_
    · refine nm ?_
      refine And.intro (by decide : 3 ≤ 1000) ?_
      refine And.intro (shpE x) (And.intro (shpE (.stop none none)) ?_)
      refine ck (P := if (!PyData.eqv (encE x) (encE (.stop none none))) = true then K1 (encE x) n' else K2 n') ?_
      rw [eqE]
      by_cases hx2 : x = .stop none none
      · rw [decide_eq_true hx2]
        exact k2 (by rw [decide_eq_false (fun z => z hx2)]; rfl)
      · rw [decide_eq_false hx2]
        exact k1 _ (by rw [decide_eq_true hx2]; rfl)
    · rw [List.nil_append, fm_if (fun x => decide (x ≠ El.stop none none)) encE t']
      have e2 : simM t = t'.filter fun x => decide (x ≠ El.stop none none) := by
        unfold simM
        rw [← he, e1]
      rw [e2] at h
      exact h
  | cons e r =>
    have hm : e ∈ reM t' := by rw [hr]; exact List.mem_cons_self ..
    obtain ⟨g, hg⟩ := re_mem hm
    obtain ⟨_, h2, lo, hi, h3⟩ := hpFrom_ix t' 0 idM _ hg
    rw [Nat.zero_add] at h2
    rw [Nat.sub_zero] at h3
    have hc := wo_cnt hg
    refine ck (P := wpSs _ _ [sh (encL encE t), sh (encL encE t'), sh (encL encG (e :: r)), no] _ _ _) ?_
    refine ix_hd ?_
    refine F.sj.si.wo_i _ _ _ e _ _ _ h2 h3 ok.len ?_
    refine F.sj.re_i _ _ _ _ (hP _ (nxt e hm)).1 ?_
    have hc' : cntT (woM t' e) + 1 = cntT t' := hc
    refine ⟨cntT (woM t' e), by omega, rfl, woM t' e, k - 1, nxt e hm, by omega, ?_, rfl, rfl⟩
    rw [← he]
    cases k with
    | zero => omega
    | succ k =>
      show simLoop k (woM t' e) = (match reM t' with
        | [] => t'
        | e :: _ => simLoop k (woM t' e))
      rw [hr]
end RT
namespace RT
open PySem PySem.Spec PyProof.Rows L2
/-! ### corners -/
def cornM (L : List HP) : List HP → List Ray → List Ray
  | [], found => found
  | h :: r, found => cornM L r (r.foldl (fun fd g => match meetM h g with
    | some x => if hasM L x = true then putM fd x else fd
    | none => fd) found)
structure ShS where
  em : EmS
  me : FnS
  me_i : ∀ row n a b Q, bh 1600 a → bh 1600 b → Q (encX (meetM a b)) n → me row n [encH a, encH b] Q
  ib : FnS
  ib_i : ∀ row n x y Q, (bq 4000 4000 x.1 ∧ bq 4000 4000 x.2) → (bq 4000 4000 y.1 ∧ bq 4000 4000 y.2) → Q (.bool (rbM x y)) n → ib row n [encR x, encR y] Q
  pu : FnS
  pu_i : ∀ row n (l : List Ray) x Q, (∀ y ∈ l, bq 4000 4000 y.1 ∧ bq 4000 4000 y.2) → (bq 4000 4000 x.1 ∧ bq 4000 4000 x.2) → l.length ≤ 3000 → Q (encL encR (putM l x)) n → pu row n [encL encR l, encR x] Q
variable (F : ShS) (T : List Addr) (lev : Nat) (row : List Int) (n : Int) (Q : QD)
theorem bz_sub {a b : Nat} {i j : Int} (h : bz a i) (g : bz b j) : bz (max a b + 1) (i - j) := by
  rw [Int.sub_eq_add_neg]
  exact bz_add h (bz_neg g)
theorem w_me (a b : HP) (ha : bh 1600 a) (hb : bh 1600 b) (h : Q (encX (meetM a b)) n) : W 72 ["first", "second", "whole", "height", "slope"] none [fDet F.em.hp, fFr F.em.hp.od.mp.ra] false T lev row [encH a, encH b] n Q := by
  unfold meetM at h
  have cb := cross_bz ha hb
  refine F.em.hp.det_i _ _ _ _ _ (bh_mono ha (by decide)) (bh_mono hb (by decide)) ?_
  refine ck (P := wpSs _ _ [sh (encH a), sh (encH b), sh (.int (crossH a b)), no, no] _ _ _) ?_
  refine eq_d isI (crossH a b) 0 (fun h1 => ?_) (fun h1 => ?_)
  · rw [if_pos h1] at h
    exact h
  · rw [if_neg h1] at h
    have c8 : bz 8999 (crossH a b) := bz_mono cb (by decide)
    refine And.intro (cmul_of ha.2.2 hb.2.1 (by decide)) ?_
    refine And.intro (cmul_of hb.2.2 ha.2.1 (by decide)) ?_
    refine tr ?_
    refine F.em.hp.od.mp.ra.fr_i _ _ _ _ _ h1 c8 ?_
    refine ck (P := wpSs _ _ [sh (encH a), sh (encH b), sh (.int (crossH a b)), sh (encQ _), no] _ _ _) ?_
    refine And.intro (cmul_of ha.1 hb.2.2 (by decide)) ?_
    refine And.intro (cmul_of hb.1 ha.2.2 (by decide)) ?_
    refine tr ?_
    refine F.em.hp.od.mp.ra.fr_i _ _ _ _ _ h1 c8 ?_
    exact And.intro (by decide : 2 ≤ 1000) h
theorem w_ib (x y : Ray) (hx : bq 4000 4000 x.1 ∧ bq 4000 4000 x.2) (hy : bq 4000 4000 y.1 ∧ bq 4000 4000 y.2) (h : Q (.bool (rbM x y)) n) : W 73 ["first", "second", "found"] none [fCmp F.em.hp.od.mp.ra] false T lev row [encR x, encR y] n Q := by
  have sm4 : ∀ {v : Rat}, bq 4000 4000 v → sm v := fun hv => sm_of hv (by decide) (by decide)
  unfold rbM at h
  refine F.em.hp.od.mp.ra.cmp_i _ _ _ _ _ (sm4 hx.1) (sm4 hy.1) ?_
  refine ck (P := wpSs _ _ [sh (encR x), sh (encR y), sh (.int (sgn (x.1 - y.1)))] _ _ _) ?_
  refine eq_d isI (sgn (x.1 - y.1)) 0 (fun h1 => ?_) (fun h1 => ?_)
  · rw [if_pos h1] at h
    refine F.em.hp.od.mp.ra.cmp_i _ _ _ _ _ (sm4 hx.2) (sm4 hy.2) ?_
    exact h
  · rw [if_neg h1] at h
    exact h
abbrev b4 (x : Ray) : Prop := bq 4000 4000 x.1 ∧ bq 4000 4000 x.2
theorem put_mem {l : List Ray} {x y : Ray} (h : y ∈ putM l x) : y ∈ l ∨ y = x := by
  unfold putM at h
  split at h
  · exact .inl h
  · simp only [List.mem_append, List.mem_singleton] at h
    rcases h with (h | h) | h
    · exact .inl (List.mem_of_mem_take h)
    · exact .inr h
    · exact .inl (List.mem_of_mem_drop h)
theorem put_len (l : List Ray) (x : Ray) : (putM l x).length ≤ l.length + 1 := by
  unfold putM
  split
  · omega
  · simp only [List.length_append, List.length_take, List.length_drop, List.length_singleton]
    have := List.length_filter_le (fun y => rbM y x) l
    omega
abbrev fHas (F : HpS) : Fi := ⟨"contains_ray", F.has, 2, []⟩
abbrev fIb (F : ShS) : Fi := ⟨"is_before", F.ib, 2, []⟩
abbrev fMe (F : ShS) : Fi := ⟨"meeting", F.me, 2, []⟩
abbrev fPu (F : ShS) : Fi := ⟨"put_in_order", F.pu, 2, []⟩
theorem w_pu (l : List Ray) (x : Ray) (hl : ∀ y ∈ l, b4 y) (hx : b4 x) (hn : l.length ≤ 3000) (h : Q (encL encR (putM l x)) n) : W 74 ["rays", "ray", "place", "one"] none [fIb F] false T lev row [encL encR l, encR x] n Q := by
  unfold putM at h
  refine And.intro (isR.shp (by decide) x) (And.intro ((isR.list (by decide)).shp (by decide) l) ?_)
  by_cases hm : x ∈ l
  · rw [if_pos hm] at h
    rw [show ((l.map encR).any fun z => PyData.eqv z (encR x)) = true from by rw [any_in isR x l]; simp [hm]]
    exact h
  · rw [if_neg hm] at h
    rw [show ((l.map encR).any fun z => PyData.eqv z (encR x)) = false from by rw [any_in isR x l]; simp [hm]]
    refine comp_i encR (fun g => if rbM g x = true then some (encR g) else none) n l [] (fun g hg K1 K2 k1 k2 => ?_) ?_
    · refine nm ?_
      refine F.ib_i _ _ _ _ _ (hl g hg) hx ?_
      cases hb : rbM g x with
      | true => exact k1 _ (by rw [hb]; rfl)
      | false => exact k2 (by rw [hb]; rfl)
    · rw [List.nil_append, fm_if (fun g => rbM g x) encR l]
      refine And.intro rfl ?_
      refine ck (P := wpSs _ _ [sh (encL encR l), sh (encR x), sh (.int (((l.filter fun g => rbM g x).map encR).length : Nat)), no] _ _ _) ?_
      have hk : ((l.filter fun g => rbM g x).map encR).length ≤ l.length := by
        rw [List.length_map]
        exact List.length_filter_le _ _
      have he : ((l.filter fun g => rbM g x).map encR).length = (l.filter fun g => rbM g x).length := List.length_map ..
      dsimp only at h
      rw [← he] at h
      generalize ((l.filter fun g => rbM g x).map encR).length = k at *
      have c1 : cutD (l.map encR) none (some (k : Int)) = (l.take k).map encR := by
        rw [cut_to rfl (by rw [List.length_map]; exact hk), List.map_take]
      have c2 : cutD (l.map encR) (some (k : Int)) none = (l.drop k).map encR := by
        rw [cut_from rfl (by rw [List.length_map]; exact hk), List.map_drop]
      have l1 : ∀ k, k ≤ 9000 → k ≤ sizeLine := fun k hk => by rw [sizeLine_eq]; omega
      have fin : (cutD (l.map encR) none (some (k : Int))).length + [encR x].length ≤ sizeLine ∧ ((cutD (l.map encR) none (some (k : Int)) ++ [encR x]).length + (cutD (l.map encR) (some (k : Int)) none).length ≤ sizeLine ∧ Q (.list (cutD (l.map encR) none (some (k : Int)) ++ [encR x] ++ cutD (l.map encR) (some (k : Int)) none)) n) := by
        rw [c1, c2]
        refine ⟨l1 _ ?_, l1 _ ?_, ?_⟩
        · simp only [List.length_map, List.length_take, List.length_singleton]
          omega
        · simp only [List.length_append, List.length_map, List.length_take, List.length_drop, List.length_singleton]
          omega
        · have ew : (l.take k ++ [x] ++ l.drop k).map encR = (l.take k).map encR ++ [encR x] ++ (l.drop k).map encR := by simp
          rw [← ew]
          exact h
      refine And.intro (by decide : 1 ≤ 1000) ?_
      obtain ⟨f1, f2, f3⟩ := fin
      refine And.intro f1 ?_
      refine And.intro f2 ?_
      exact f3
theorem meet_b {a b : HP} {x : Ray} (ha : bh 200 a) (hb : bh 200 b) (h : meetM a b = some x) : bq 900 900 x.1 ∧ bq 900 900 x.2 := by
  unfold meetM at h
  split at h
  · cases h
  · rename_i c0
    have db : bq 401 1 ((crossH a b : Int) : Rat) := bq_int (bz_mono (cross_bz ha hb) (by decide))
    cases h
    exact ⟨bq_mono (bq_div (bq_int (bz_sub (bz_mul ha.2.2 hb.2.1) (bz_mul hb.2.2 ha.2.1))) db (cast_ne c0)) (by decide) (by decide), bq_mono (bq_div (bq_int (bz_sub (bz_mul ha.1 hb.2.2) (bz_mul hb.1 ha.2.2))) db (cast_ne c0)) (by decide) (by decide)⟩
abbrev b9 (x : Ray) : Prop := bq 900 900 x.1 ∧ bq 900 900 x.2
abbrev cornS (L : List HP) (h : HP) (fd : List Ray) (g : HP) : List Ray := match meetM h g with
    | some x => if hasM L x = true then putM fd x else fd
    | none => fd
theorem w_cor (L : List HP) (hL : ∀ h ∈ L, bh 200 h) (hl : L.length ≤ 40) (h : Q (encL encR (cornM L L [])) n) : W 75 ["half_planes", "found", "place", "one", "other", "ray"] none [fMe F, fHas F.em.hp, fPu F] false T lev row [encL encH L] n Q := by
  refine And.intro (by decide : 0 ≤ 1000) ?_
  refine for_e encH (fun i r ρ n' => n' = n ∧ L.drop i = r ∧ i ≤ L.length ∧ ∃ fd c d e f, cornM L r fd = cornM L L [] ∧ (∀ x ∈ fd, b9 x) ∧ fd.length ≤ 40 * i ∧ ρ = [sh (encL encH L), sh (encL encR fd), c, d, e, f]) ?_ ?_ L 0 _ _ ⟨rfl, rfl, Nat.zero_le _, [], no, no, no, no, rfl, (fun x hx => by cases hx), Nat.zero_le _, rfl⟩
  · rintro i x r ρ n' K ⟨rfl, hd, hi, fd, c, d, e, f, he, hb, hfl, rfl⟩ hK
    have hil : i < L.length := by
      refine Nat.lt_of_not_le fun z => ?_
      rw [List.drop_eq_nil_of_le z] at hd
      cases hd
    have hr : L.drop (i + 1) = r := by
      rw [List.drop_eq_getElem_cons hil] at hd
      injection hd
    have hx : x ∈ L := by
      have : x ∈ L.drop i := by rw [hd]; exact List.mem_cons_self ..
      exact List.mem_of_mem_drop this
    have hrl : r.length ≤ 40 := by
      rw [← hr, List.length_drop]
      omega
    refine nm (nm ?_)
    refine ck (P := wpSs _ _ [sh (encL encH L), sh (encL encR fd), sh (.int (i : Nat)), sh (encH x), e, f] _ _ _) ?_
    refine ck (P := forD _ _ (cutD (L.map encH) (some ((i : Int) + 1)) none) _ _ _ _) ?_
    rw [cut_from (j := i + 1) (by omega) (by rw [List.length_map]; omega), ← List.map_drop, hr]
    refine for_i encH (fun r2 ρ n2 => n2 = n' ∧ (∀ y ∈ r2, y ∈ L) ∧ ∃ gd e f, r2.foldl (cornS L x) gd = r.foldl (cornS L x) fd ∧ (∀ x ∈ gd, b9 x) ∧ gd.length + r2.length ≤ 40 * i + r.length ∧ ρ = [sh (encL encH L), sh (encL encR gd), sh (.int (i : Nat)), sh (encH x), e, f]) ?_ ?_ r _ _ ⟨rfl, fun y hy => List.mem_of_mem_drop (by rw [hr]; exact hy), fd, e, f, rfl, hb, by omega, rfl⟩
    · rintro y r2 ρ n2 K2 ⟨rfl, hm, gd, e, f, he2, hgb, hgl, rfl⟩ hK2
      simp only [List.length_cons] at hgl
      have hy := hm y (List.mem_cons_self ..)
      rw [List.foldl_cons] at he2
      refine nm ?_
      refine ck (P := wpSs _ _ [sh (encL encH L), sh (encL encR gd), sh (.int (i : Nat)), sh (encH x), sh (encH y), f] _ _ _) ?_
      refine F.me_i _ _ _ _ _ (bh_mono (hL x hx) (by decide)) (bh_mono (hL y hy) (by decide)) ?_
      refine ck (P := wpSs _ _ [sh (encL encH L), sh (encL encR gd), sh (.int (i : Nat)), sh (encH x), sh (encH y), sh (encX (meetM x y))] _ _ _) ?_
      cases hme : meetM x y with
      | none =>
        have e1 : cornS L x gd y = gd := by unfold cornS; rw [hme]
        rw [e1] at he2
        exact hK2 _ _ ⟨rfl, fun z hz => hm z (List.mem_cons_of_mem _ hz), gd, _, _, he2, hgb, by omega, rfl⟩
      | some v =>
        have vb := meet_b (hL x hx) (hL y hy) hme
        refine F.em.hp.has_i _ _ _ _ _ (fun g hg => bh_mono (hL g hg) (by decide)) (bq_mono vb.1 (by decide) (by decide)) (bq_mono vb.2 (by decide) (by decide)) ?_
        have e1 : cornS L x gd y = if hasM L v = true then putM gd v else gd := by unfold cornS; rw [hme]
        rw [e1] at he2
        cases hha : hasM L v with
        | false =>
          rw [hha] at he2
          exact hK2 _ _ ⟨rfl, fun z hz => hm z (List.mem_cons_of_mem _ hz), gd, _, _, he2, hgb, by omega, rfl⟩
        | true =>
          rw [hha, if_pos rfl] at he2
          refine F.pu_i _ _ _ _ _ (fun z hz => ⟨bq_mono (hgb z hz).1 (by decide) (by decide), bq_mono (hgb z hz).2 (by decide) (by decide)⟩) ⟨bq_mono vb.1 (by decide) (by decide), bq_mono vb.2 (by decide) (by decide)⟩ (by omega) ?_
          have := put_len gd v
          refine hK2 _ _ ⟨rfl, fun z hz => hm z (List.mem_cons_of_mem _ hz), putM gd v, _, _, he2, fun z hz => ?_, by omega, rfl⟩
          rcases put_mem hz with hz | rfl
          · exact hgb z hz
          · exact vb
    · rintro ρ n2 ⟨rfl, hm, gd, e, f, he2, hgb, hgl, rfl⟩
      refine hK _ _ ⟨rfl, hr, hil, gd, _, _, _, _, ?_, hgb, ?_, rfl⟩
      · rw [← he]
        show cornM L r gd = cornM L r (r.foldl (cornS L x) fd)
        rw [← he2]
        rfl
      · have : ([] : List HP).length = 0 := rfl
        omega
  · rintro i ρ n' ⟨rfl, _, _, fd, c, d, e, f, he, _, _, rfl⟩
    have he' : fd = cornM L L [] := he
    show Q (encL encR fd) n'
    rw [he']
    exact h
end RT
namespace RT
/-! ### half-planes over Rat: when they have a common point -/
structure RH where
  p : Rat
  q : Rat
  r : Rat
def RH.ev (h : RH) (x : Ray) : Rat := h.p * x.1 + h.q * x.2
def RH.cr (a b : RH) : Rat := a.p * b.q - a.q * b.p
structure FC (L : List RH) : Prop where
  nz : ∀ a ∈ L, a.p ≠ 0 ∨ a.q ≠ 0
  two : ∀ a ∈ L, ∀ b ∈ L, ∀ s t : Rat, 0 < s → 0 < t → s * a.p + t * b.p = 0 → s * a.q + t * b.q = 0 → 0 ≤ s * a.r + t * b.r
  tri : ∀ a ∈ L, ∀ b ∈ L, ∀ c ∈ L, 0 < RH.cr b c → 0 < RH.cr c a → 0 < RH.cr a b → 0 ≤ RH.cr b c * a.r + RH.cr c a * b.r + RH.cr a b * c.r
theorem rsq_pos {x : Rat} (h : x ≠ 0) : 0 < x * x := by
  by_cases h1 : 0 < x
  · exact Rat.mul_pos h1 h1
  · have h2 : 0 < -x := by grind
    have := Rat.mul_pos h2 h2
    grind
theorem rsq_nn (x : Rat) : 0 ≤ x * x := by
  by_cases h : x = 0
  · subst h; grind
  · exact Rat.le_of_lt (rsq_pos h)
theorem nsq_pos {p q : Rat} (h : p ≠ 0 ∨ q ≠ 0) : 0 < p * p + q * q := by
  rcases h with h | h
  · have := rsq_pos h
    have := rsq_nn q
    grind
  · have := rsq_pos h
    have := rsq_nn p
    grind
theorem best {α : Type} (P : α → Prop) (f : α → Rat) : ∀ L : List α, (∀ x ∈ L, ¬ P x) ∨ ∃ x ∈ L, P x ∧ ∀ y ∈ L, P y → f y ≤ f x
  | [] => .inl fun x hx => by cases hx
  | a :: L => by
    rcases best P f L with h | ⟨x, hx, px, h⟩
    · by_cases pa : P a
      · refine .inr ⟨a, List.mem_cons_self .., pa, fun y hy py => ?_⟩
        rcases List.mem_cons.mp hy with rfl | hy
        · exact Rat.le_refl
        · exact absurd py (h y hy)
      · refine .inl fun y hy => ?_
        rcases List.mem_cons.mp hy with rfl | hy
        · exact pa
        · exact h y hy
    · by_cases pa : P a ∧ f x ≤ f a
      · refine .inr ⟨a, List.mem_cons_self .., pa.1, fun y hy py => ?_⟩
        rcases List.mem_cons.mp hy with rfl | hy
        · exact Rat.le_refl
        · exact Rat.le_trans (h y hy py) pa.2
      · refine .inr ⟨x, List.mem_cons_of_mem _ hx, px, fun y hy py => ?_⟩
        rcases List.mem_cons.mp hy with rfl | hy
        · rcases (Rat.le_total : f x ≤ f y ∨ f y ≤ f x) with z | z
          · exact absurd ⟨py, z⟩ pa
          · exact z
        · exact h y hy py
/-- on a line: s with a g + s b g ≤ 0 for all g -/
theorem line1 {α : Type} (A B : α → Rat) (L : List α) (h0 : ∀ g ∈ L, B g = 0 → A g ≤ 0) (h2 : ∀ g ∈ L, ∀ k ∈ L, 0 < B g → B k < 0 → ∀ s, A k + s * B k = 0 → A g + s * B g ≤ 0) : ∃ s, ∀ g ∈ L, A g + s * B g ≤ 0 := by
  have dv : ∀ g : α, B g ≠ 0 → (-(A g) / B g) * B g = - A g := fun g h => Rat.div_mul_cancel h
  rcases best (fun g => B g < 0) (fun g => -(A g) / B g) L with h | ⟨k, hk, pk, h⟩
  · rcases best (fun g => 0 < B g) (fun g => -(-(A g) / B g)) L with j | ⟨k, hk, pk, j⟩
    · refine ⟨0, fun g hg => ?_⟩
      have h1 := h g hg
      have h2 := j g hg
      have : B g = 0 := by grind
      have := h0 g hg this
      grind
    · refine ⟨-(A k) / B k, fun g hg => ?_⟩
      have h1 := h g hg
      by_cases hb : B g = 0
      · have := h0 g hg hb
        rw [hb]
        grind
      · have hp : 0 < B g := by grind
        have h3 := j g hg hp
        have h4 := dv g (by grind)
        have h5 : 0 ≤ ((-(A g) / B g) - (-(A k) / B k)) * B g := Rat.mul_nonneg (by grind) (by grind)
        grind
  · refine ⟨-(A k) / B k, fun g hg => ?_⟩
    have e := dv k (by grind)
    by_cases hb : B g = 0
    · have := h0 g hg hb
      rw [hb]
      grind
    · by_cases hp : 0 < B g
      · exact h2 g hg k hk hp pk _ (by grind)
      · have hn : B g < 0 := by grind
        have h3 := h g hg hn
        have h4 := dv g (by grind)
        have h5 : 0 ≤ ((-(A k) / B k) - (-(A g) / B g)) * (- B g) := Rat.mul_nonneg (by grind) (by grind)
        grind
theorem farkas : ∀ L : List RH, FC L → ∃ x : Ray, ∀ h ∈ L, h.ev x ≤ h.r
  | [], _ => ⟨(0, 0), fun h hh => by cases hh⟩
  | h :: L, F => by
    have FL : FC L := ⟨fun a ha => F.nz a (List.mem_cons_of_mem _ ha), fun a ha b hb => F.two a (List.mem_cons_of_mem _ ha) b (List.mem_cons_of_mem _ hb),
      fun a ha b hb c hc => F.tri a (List.mem_cons_of_mem _ ha) b (List.mem_cons_of_mem _ hb) c (List.mem_cons_of_mem _ hc)⟩
    obtain ⟨x, hx⟩ := farkas L FL
    by_cases h1 : h.ev x ≤ h.r
    · refine ⟨x, fun g hg => ?_⟩
      rcases List.mem_cons.mp hg with rfl | hg
      · exact h1
      · exact hx g hg
    have h1 : h.r < h.ev x := by grind
    have hm : h ∈ h :: L := List.mem_cons_self ..
    have nh := nsq_pos (F.nz h hm)
    have hN : h.p * h.p + h.q * h.q ≠ 0 := by grind
    obtain ⟨lam, hl⟩ : ∃ lam : Rat, lam * (h.p * h.p + h.q * h.q) = h.r := ⟨h.r / (h.p * h.p + h.q * h.q), Rat.div_mul_cancel hN⟩
    -- the line
    have on : ∀ s : Rat, h.ev (lam * h.p + s * (-h.q), lam * h.q + s * h.p) = h.r := fun s => by
      unfold RH.ev
      rw [← hl]
      grind
    have evs : ∀ (g : RH) (s : Rat), g.ev (lam * h.p + s * (-h.q), lam * h.q + s * h.p) = g.ev (lam * h.p, lam * h.q) + s * RH.cr h g := fun g s => by
      unfold RH.ev RH.cr
      grind
    have key := line1 (fun g : RH => g.ev (lam * h.p, lam * h.q) - g.r) (fun g => RH.cr h g) L ?_ ?_
    · obtain ⟨s, hs⟩ := key
      refine ⟨(lam * h.p + s * (-h.q), lam * h.q + s * h.p), fun g hg => ?_⟩
      rcases List.mem_cons.mp hg with rfl | hg
      · rw [on s]; exact Rat.le_refl
      · have := hs g hg
        rw [evs]
        grind
    · intro g hg hb
      have hgL : g ∈ h :: L := List.mem_cons_of_mem _ hg
      have gx := hx g hg
      -- (h.h) g = (h.g) h
      have e1 : (h.p * h.p + h.q * h.q) * g.p = (h.p * g.p + h.q * g.q) * h.p := by unfold RH.cr at hb; grind
      have e2 : (h.p * h.p + h.q * h.q) * g.q = (h.p * g.p + h.q * g.q) * h.q := by unfold RH.cr at hb; grind
      have o0 := on 0
      have hy0 : h.ev (lam * h.p, lam * h.q) = h.r := by
        rw [evs] at o0
        grind
      have e3 : ∀ z : Ray, (h.p * h.p + h.q * h.q) * g.ev z = (h.p * g.p + h.q * g.q) * h.ev z := fun z => by
        unfold RH.ev
        grind
      have e4 := e3 x
      have e5 := e3 (lam * h.p, lam * h.q)
      rw [hy0] at e5
      generalize hN2 : h.p * h.p + h.q * h.q = N at *
      generalize hM : h.p * g.p + h.q * g.q = M at *
      show g.ev (lam * h.p, lam * h.q) - g.r ≤ 0
      generalize g.ev (lam * h.p, lam * h.q) = gy at *
      have goal : N * (gy - g.r) ≤ 0 := by
        by_cases hM0 : M < 0
        · have := F.two g hgL h hm N (-M) nh (by grind) (by grind) (by grind)
          grind
        · have p1 : 0 ≤ M * (h.ev x - h.r) := Rat.mul_nonneg (by grind) (by grind)
          have p2 : 0 ≤ N * (g.r - g.ev x) := Rat.mul_nonneg (by grind) (by grind)
          grind
      by_cases hg0 : gy - g.r ≤ 0
      · exact hg0
      · have := Rat.mul_pos nh (show 0 < gy - g.r by grind)
        grind
    · intro g hg k hk pg pk s hs
      have gx := hx g hg
      have kx := hx k hk
      have hs : k.ev (lam * h.p, lam * h.q) - k.r + s * RH.cr h k = 0 := hs
      have ek := evs k s
      have eg := evs g s
      have eh := on s
      generalize (lam * h.p + s * (-h.q), lam * h.q + s * h.p) = y at *
      show g.ev (lam * h.p, lam * h.q) - g.r + s * RH.cr h g ≤ 0
      have ky : k.ev y = k.r := by grind
      have id : ∀ z : Ray, RH.cr g k * h.ev z + RH.cr k h * g.ev z + RH.cr h g * k.ev z = 0 := fun z => by
        unfold RH.cr RH.ev
        grind
      have ck : RH.cr k h = - RH.cr h k := by unfold RH.cr; grind
      have i1 := id x
      have i2 := id y
      by_cases hc : g.ev y ≤ g.r
      · grind
      have hc : g.r < g.ev y := by grind
      exfalso
      have B0 : 0 < RH.cr k h := by grind
      have f := fun C0 => F.tri h hm g (List.mem_cons_of_mem _ hg) k (List.mem_cons_of_mem _ hk) C0 B0 pg
      rw [eh, ky] at i2
      clear hs ek eg eh ky id ck evs on hl hN nh pk FL F
      generalize RH.cr k h = B at *
      generalize RH.cr h g = A at *
      generalize RH.cr g k = C at *
      generalize g.ev y = gy at *
      generalize g.ev x = gX at *
      generalize k.ev x = kX at *
      generalize h.ev x = hx' at *
      generalize h.r = hr at *
      generalize g.r = gr at *
      generalize k.r = kr at *
      have q1 : 0 < B * (gy - gX) := Rat.mul_pos B0 (by grind)
      have q2 : 0 ≤ A * (kr - kX) := Rat.mul_nonneg (Rat.le_of_lt pg) (by grind)
      have q3 : 0 < C * (hx' - hr) := by grind
      have C0 : 0 < C := by
        by_cases z : 0 < C
        · exact z
        · have := Rat.mul_nonneg (show 0 ≤ - C by grind) (show 0 ≤ hx' - hr by grind)
          grind
      have f := f C0
      have q4 : 0 < B * (gy - gr) := Rat.mul_pos B0 (by grind)
      grind
end RT
namespace RT
/-! ### regions: when they are empty -/
def toR (h : HP) : RH := ⟨(h.p : Rat), (h.q : Rat), (h.r : Rat)⟩
def rg (L : List HP) (x : Ray) : Prop := ∀ h ∈ L, evH h x ≤ (h.r : Rat)
def anz (L : List HP) : Prop := ∀ h ∈ L, nz h
theorem has_iff {L : List HP} {x : Ray} : hasM L x = true ↔ rg L x := by
  unfold hasM rg
  rw [List.all_eq_true]
  simp only [decide_eq_true_iff]
theorem cr_cross (a b : HP) : RH.cr (toR a) (toR b) = ((crossH a b : Int) : Rat) := by
  unfold RH.cr toR crossH
  rw [Rat.intCast_sub, Rat.intCast_mul, Rat.intCast_mul]
theorem rpos {i : Int} : (0 : Rat) < (i : Rat) ↔ 0 < i := by
  have := @Rat.intCast_lt_intCast 0 i
  simpa using this
theorem rneg {i : Int} : (i : Rat) < (0 : Rat) ↔ i < 0 := by
  have := @Rat.intCast_lt_intCast i 0
  simpa using this
theorem r0 {i : Int} : (i : Rat) = 0 ↔ i = 0 := Rat.intCast_eq_zero_iff
/-- what the pairs and triples in order say -/
structure EC (L : List HP) : Prop where
  two : ∀ i j, i < j → j < L.length → ∀ u v, oppW (hAt L i) (hAt L j) = some [u, v] → 0 ≤ (hAt L i).r * u + (hAt L j).r * v
  tri : ∀ i j k, i < j → j < k → k < L.length → ∀ u v w, triW (hAt L i) (hAt L j) (hAt L k) = some [u, v, w] → 0 ≤ (hAt L i).r * u + (hAt L j).r * v + (hAt L k).r * w
theorem opp_len {a b : HP} {w : List Int} (h : oppW a b = some w) : ∃ u v, w = [u, v] := by
  unfold oppW at h
  split at h
  · cases h
  · cases h
    exact ⟨_, _, rfl⟩
theorem triP_len {u v w : Int} {l : List Int} (h : triP u v w = some l) : ∃ x y z, l = [x, y, z] := by
  unfold triP at h
  split at h
  · cases h
  · cases h
    exact ⟨_, _, _, rfl⟩
theorem tri_len {a b c : HP} {l : List Int} (h : triW a b c = some l) : ∃ x y z, l = [x, y, z] := by
  unfold triW at h
  split at h <;> exact triP_len h
theorem up_mem {i j m : Nat} : j ∈ up i m ↔ i < j ∧ j < m := by
  unfold up
  rw [List.mem_range'_1]
  omega
theorem sets_mem {L : List HP} {x : List Nat × List Int} : x ∈ setsM L ↔ (∃ i j, i < j ∧ j < L.length ∧ x.1 = [i, j] ∧ oppW (hAt L i) (hAt L j) = some x.2) ∨ (∃ i j k, i < j ∧ j < k ∧ k < L.length ∧ x.1 = [i, j, k] ∧ triW (hAt L i) (hAt L j) (hAt L k) = some x.2) := by
  unfold setsM
  rw [List.mem_filterMap]
  constructor
  · rintro ⟨⟨ix, w⟩, hm, hx⟩
    cases w with
    | none => cases hx
    | some w =>
      cases hx
      unfold setsAll at hm
      rw [List.mem_append, List.mem_flatMap, List.mem_flatMap] at hm
      rcases hm with ⟨i, hi, hm⟩ | ⟨i, hi, hm⟩
      · unfold row2 at hm
        obtain ⟨j, hj, he⟩ := List.mem_map.mp hm
        rw [Prod.mk.injEq] at he
        obtain ⟨rfl, h4⟩ := he
        exact .inl ⟨i, j, (up_mem.mp hj).1, (up_mem.mp hj).2, rfl, h4⟩
      · unfold row3 at hm
        obtain ⟨j, hj, hm⟩ := List.mem_flatMap.mp hm
        unfold row3k at hm
        obtain ⟨k, hk, he⟩ := List.mem_map.mp hm
        rw [Prod.mk.injEq] at he
        obtain ⟨rfl, h4⟩ := he
        exact .inr ⟨i, j, k, (up_mem.mp hj).1, (up_mem.mp hk).1, (up_mem.mp hk).2, rfl, h4⟩
  · obtain ⟨ix, w⟩ := x
    rintro (⟨i, j, h1, h2, h3, h4⟩ | ⟨i, j, k, h1, h2, h3, h4, h5⟩)
    · dsimp only at h3 h4
      subst h3
      refine ⟨([i, j], some w), ?_, rfl⟩
      unfold setsAll
      rw [List.mem_append, List.mem_flatMap]
      refine .inl ⟨i, List.mem_range.mpr (by omega), ?_⟩
      unfold row2
      exact List.mem_map.mpr ⟨j, up_mem.mpr ⟨h1, h2⟩, by rw [h4]⟩
    · dsimp only at h4 h5
      subst h4
      refine ⟨([i, j, k], some w), ?_, rfl⟩
      unfold setsAll
      rw [List.mem_append, List.mem_flatMap, List.mem_flatMap]
      refine .inr ⟨i, List.mem_range.mpr (by omega), ?_⟩
      unfold row3
      refine List.mem_flatMap.mpr ⟨j, up_mem.mpr ⟨h1, by omega⟩, ?_⟩
      unfold row3k
      exact List.mem_map.mpr ⟨k, up_mem.mpr ⟨h2, h3⟩, by rw [h5]⟩
theorem num2 (L : List HP) (i j : Nat) (u v : Int) : numM L [i, j] [u, v] = (hAt L i).r * u + (hAt L j).r * v := by
  show (hAt L i).r * u + ((hAt L j).r * v + 0) = _
  omega
theorem num3 (L : List HP) (i j k : Nat) (u v w : Int) : numM L [i, j, k] [u, v, w] = (hAt L i).r * u + (hAt L j).r * v + (hAt L k).r * w := by
  show (hAt L i).r * u + ((hAt L j).r * v + ((hAt L k).r * w + 0)) = _
  omega
theorem emp_EC {L : List HP} : empM L = false ↔ EC L := by
  unfold empM
  rw [List.any_eq_false]
  constructor
  · intro h
    refine ⟨fun i j h1 h2 u v hw => ?_, fun i j k h1 h2 h3 u v w hw => ?_⟩
    · have := h ([i, j], [u, v]) (sets_mem.mpr (.inl ⟨i, j, h1, h2, rfl, hw⟩))
      rw [num2] at this
      simp only [decide_eq_true_iff] at this
      omega
    · have := h ([i, j, k], [u, v, w]) (sets_mem.mpr (.inr ⟨i, j, k, h1, h2, h3, rfl, hw⟩))
      rw [num3] at this
      simp only [decide_eq_true_iff] at this
      omega
  · rintro E ⟨ix, w⟩ hx
    simp only [decide_eq_true_iff]
    rcases sets_mem.mp hx with ⟨i, j, h1, h2, h3, h4⟩ | ⟨i, j, k, h1, h2, h3, h4, h5⟩
    · dsimp only at h3 h4
      obtain ⟨u, v, rfl⟩ := opp_len h4
      rw [h3, num2]
      have := E.two i j h1 h2 u v h4
      omega
    · dsimp only at h4 h5
      obtain ⟨u, v, w, rfl⟩ := tri_len h5
      rw [h4, num3]
      have := E.tri i j k h1 h2 h3 u v w h5
      omega
theorem hAt_in {L : List HP} {i : Nat} (h : i < L.length) : hAt L i ∈ L := by
  unfold hAt
  rw [List.getD_eq_getElem?_getD, List.getElem?_eq_getElem h]
  exact List.getElem_mem h
theorem mem_hAt {L : List HP} {a : HP} (h : a ∈ L) : ∃ i, i < L.length ∧ hAt L i = a := by
  obtain ⟨i, hi, e⟩ := List.mem_iff_getElem.mp h
  refine ⟨i, hi, ?_⟩
  unfold hAt
  rw [List.getD_eq_getElem?_getD, List.getElem?_eq_getElem hi, e]
  rfl
theorem fd_pos {x g : Int} (hg : 0 < g) (hd : g ∣ x) (hx : 0 < x) : 0 < x.fdiv g ∧ x.fdiv g * g = x := by
  have e := fdiv_ex hg hd
  refine ⟨?_, e⟩
  have : 0 < x.fdiv g * g := by rw [e]; exact hx
  rcases Int.lt_trichotomy (x.fdiv g) 0 with h | h | h
  · have := Int.mul_neg_of_neg_of_pos h hg
    omega
  · rw [h] at this; simp at this
  · exact h
theorem mul_self_nn (i : Int) : 0 ≤ i * i := by
  rcases Int.le_total 0 i with h | h
  · exact Int.mul_nonneg h h
  · have := Int.mul_nonneg (show 0 ≤ -i by omega) (show 0 ≤ -i by omega)
    grind
/-- weights of a pair -/
theorem opp_some {a b : HP} (ha : nz a) (hb : nz b) {u v : Int} (h : oppW a b = some [u, v]) : 0 < u ∧ 0 < v ∧ u * a.p + v * b.p = 0 ∧ u * a.q + v * b.q = 0 := by
  unfold oppW at h
  split at h
  · cases h
  · rename_i hc
    have hc1 : crossH a b = 0 := by omega
    have hc2 : dotH a b < 0 := by omega
    injection h with h
    injection h with h1 h
    injection h with h2 _
    have p1 := n1_pos ha
    have p2 := n1_pos hb
    have hd : (0 : Int) < (Int.gcd (n1 b) (n1 a) : Nat) := by
      have : Int.gcd (n1 b) (n1 a) ≠ 0 := fun z => by
        have := (Int.gcd_eq_zero_iff.mp z).1
        omega
      omega
    obtain ⟨k1, k2⟩ := fd_pos hd (Int.gcd_dvd_left ..) p2
    obtain ⟨k3, k4⟩ := fd_pos hd (Int.gcd_dvd_right ..) p1
    rw [h1] at k1 k2
    rw [h2] at k3 k4
    generalize ((Int.gcd (n1 b) (n1 a) : Nat) : Int) = d at *
    have s1 : n1 b * a.p + n1 a * b.p = 0 ∧ n1 b * a.q + n1 a * b.q = 0 := by
      clear k1 k2 k3 k4 h1 h2 hc
      obtain ⟨ap, aq, ar⟩ := a
      obtain ⟨bp, bq, br⟩ := b
      unfold crossH at hc1
      unfold dotH at hc2
      unfold nz at hb
      unfold n1 absI
      dsimp only at *
      have hN : 0 < bp * bp + bq * bq := by
        have h1 : 0 ≤ bp * bp := mul_self_nn bp
        have h2 : 0 ≤ bq * bq := mul_self_nn bq
        rcases hb with z | z
        · have : bp * bp ≠ 0 := Int.mul_ne_zero z z
          omega
        · have : bq * bq ≠ 0 := Int.mul_ne_zero z z
          omega
      have q1 : ap * bp ≤ 0 := by
        refine Int.not_lt.mp fun z => ?_
        have e : ap * bp * (bp * bp + bq * bq) = bp * bp * (ap * bp + aq * bq) := by grind
        have g1 := Int.mul_pos z hN
        have g2 := Int.mul_nonneg (mul_self_nn bp) (show 0 ≤ -(ap * bp + aq * bq) by omega)
        grind
      have q2 : aq * bq ≤ 0 := by
        refine Int.not_lt.mp fun z => ?_
        have e : aq * bq * (bp * bp + bq * bq) = bq * bq * (ap * bp + aq * bq) := by grind
        have g1 := Int.mul_pos z hN
        have g2 := Int.mul_nonneg (mul_self_nn bq) (show 0 ≤ -(ap * bp + aq * bq) by omega)
        grind
      have sg : ∀ x y : Int, x * y ≤ 0 → (x < 0 ∧ 0 ≤ y) ∨ (0 < x ∧ y ≤ 0) ∨ x = 0 := fun x y h => by
        rcases Int.lt_trichotomy x 0 with hx | hx | hx
        · refine .inl ⟨hx, Int.not_lt.mp fun hy => ?_⟩
          have := Int.mul_pos_of_neg_of_neg hx hy
          omega
        · exact .inr (.inr hx)
        · refine .inr (.inl ⟨hx, Int.not_lt.mp fun hy => ?_⟩)
          have := Int.mul_pos hx hy
          omega
      rcases sg ap bp q1 with z1 | z1 | z1 <;> rcases sg aq bq q2 with z2 | z2 | z2 <;> grind
    have m1 : d * (u * a.p + v * b.p) = 0 := by
      rw [← s1.1, ← k2, ← k4]
      grind
    have m2 : d * (u * a.q + v * b.q) = 0 := by
      rw [← s1.2, ← k2, ← k4]
      grind
    refine ⟨k1, k3, ?_, ?_⟩
    · exact (Int.mul_eq_zero.mp m1).resolve_left (by omega)
    · exact (Int.mul_eq_zero.mp m2).resolve_left (by omega)
/-- weights of a triple -/
theorem triP_some {x y z : Int} {u v w : Int} (h : triP x y z = some [u, v, w]) : ∃ g : Int, 0 < g ∧ u * g = x ∧ v * g = y ∧ w * g = z ∧ 0 < u ∧ 0 < v ∧ 0 < w := by
  unfold triP at h
  split at h
  · cases h
  · rename_i hc
    have hc' : ¬(x ≤ 0) ∧ ¬(y ≤ 0) ∧ ¬(z ≤ 0) := by
      simpa using hc
    injection h with h
    injection h with h1 h
    injection h with h2 h
    injection h with h3 _
    have hg : (0 : Int) < (Int.gcd (Int.gcd x y) z : Nat) := by
      have : Int.gcd (Int.gcd x y) z ≠ 0 := fun z => by
        have := (Int.gcd_eq_zero_iff.mp z).2
        omega
      omega
    obtain ⟨d1, d2, d3⟩ := gdvd (x := x) (y := y) (z := z)
    dsimp only at h1 h2 h3
    have k1 := fd_pos hg d1 (by omega)
    have k2 := fd_pos hg d2 (by omega)
    have k3 := fd_pos hg d3 (by omega)
    rw [h1] at k1
    rw [h2] at k2
    rw [h3] at k3
    exact ⟨_, hg, k1.2, k2.2, k3.2, k1.1, k2.1, k3.1⟩
theorem triP_ex {x y z : Int} (h1 : 0 < x) (h2 : 0 < y) (h3 : 0 < z) : ∃ u v w, triP x y z = some [u, v, w] := by
  unfold triP
  rw [if_neg (by simp; omega)]
  exact ⟨_, _, _, rfl⟩
theorem evH_toR (h : HP) (x : Ray) : (toR h).ev x = evH h x := rfl
/-- no point, if empM says so -/
theorem emp_sound {L : List HP} (hz : anz L) {x : Ray} (hx : rg L x) : empM L = false := by
  refine emp_EC.mpr ⟨fun i j h1 h2 u v hw => ?_, fun i j k h1 h2 h3 u v w hw => ?_⟩
  · have ma := hAt_in (L := L) (i := i) (by omega)
    have mb := hAt_in (L := L) (i := j) (by omega)
    obtain ⟨hu, hv, e1, e2⟩ := opp_some (hz _ ma) (hz _ mb) hw
    have ra := hx _ ma
    have rb := hx _ mb
    generalize hAt L i = a at *
    generalize hAt L j = b at *
    unfold evH at ra rb
    have e1' : ((u : Int) : Rat) * a.p + (v : Rat) * b.p = 0 := by
      rw [← Rat.intCast_mul, ← Rat.intCast_mul, ← Rat.intCast_add, e1]; rfl
    have e2' : ((u : Int) : Rat) * a.q + (v : Rat) * b.q = 0 := by
      rw [← Rat.intCast_mul, ← Rat.intCast_mul, ← Rat.intCast_add, e2]; rfl
    have p1 := Rat.mul_nonneg (Rat.le_of_lt (rpos.mpr hu)) (show 0 ≤ (a.r : Rat) - ((a.p : Rat) * x.1 + (a.q : Rat) * x.2) by grind)
    have p2 := Rat.mul_nonneg (Rat.le_of_lt (rpos.mpr hv)) (show 0 ≤ (b.r : Rat) - ((b.p : Rat) * x.1 + (b.q : Rat) * x.2) by grind)
    have k1 : (((u : Int) : Rat) * a.p + (v : Rat) * b.p) * x.1 = 0 := by rw [e1']; grind
    have k2 : (((u : Int) : Rat) * a.q + (v : Rat) * b.q) * x.2 = 0 := by rw [e2']; grind
    have : (0 : Rat) ≤ ((a.r * u + b.r * v : Int) : Rat) := by
      rw [Rat.intCast_add, Rat.intCast_mul, Rat.intCast_mul]
      grind
    exact Rat.intCast_nonneg.mp this
  · have ma := hx _ (hAt_in (L := L) (i := i) (by omega))
    have mb := hx _ (hAt_in (L := L) (i := j) (by omega))
    have mc := hx _ (hAt_in (L := L) (i := k) (by omega))
    generalize hAt L i = a at *
    generalize hAt L j = b at *
    generalize hAt L k = c at *
    unfold evH at ma mb mc
    have fin : ∀ x' y z : Int, (x' = crossH b c ∧ y = crossH c a ∧ z = crossH a b) ∨ (x' = -crossH b c ∧ y = -crossH c a ∧ z = -crossH a b) → triP x' y z = some [u, v, w] → 0 ≤ a.r * u + b.r * v + c.r * w := fun x' y z hs ht => by
      obtain ⟨g, hg, f1, f2, f3, hu, hv, hw⟩ := triP_some ht
      have z1 : g * (u * a.p + v * b.p + w * c.p) = 0 := by
        have : u * g * a.p + v * g * b.p + w * g * c.p = 0 := by
          rw [f1, f2, f3]
          unfold crossH at hs
          grind
        grind
      have z2 : g * (u * a.q + v * b.q + w * c.q) = 0 := by
        have : u * g * a.q + v * g * b.q + w * g * c.q = 0 := by
          rw [f1, f2, f3]
          unfold crossH at hs
          grind
        grind
      have e1 := (Int.mul_eq_zero.mp z1).resolve_left (by omega)
      have e2 := (Int.mul_eq_zero.mp z2).resolve_left (by omega)
      have e1' : ((u : Int) : Rat) * a.p + (v : Rat) * b.p + (w : Rat) * c.p = 0 := by
        rw [← Rat.intCast_mul, ← Rat.intCast_mul, ← Rat.intCast_mul, ← Rat.intCast_add, ← Rat.intCast_add, e1]; rfl
      have e2' : ((u : Int) : Rat) * a.q + (v : Rat) * b.q + (w : Rat) * c.q = 0 := by
        rw [← Rat.intCast_mul, ← Rat.intCast_mul, ← Rat.intCast_mul, ← Rat.intCast_add, ← Rat.intCast_add, e2]; rfl
      have p1 := Rat.mul_nonneg (Rat.le_of_lt (rpos.mpr hu)) (show 0 ≤ (a.r : Rat) - ((a.p : Rat) * x.1 + (a.q : Rat) * x.2) by grind)
      have p2 := Rat.mul_nonneg (Rat.le_of_lt (rpos.mpr hv)) (show 0 ≤ (b.r : Rat) - ((b.p : Rat) * x.1 + (b.q : Rat) * x.2) by grind)
      have p3 := Rat.mul_nonneg (Rat.le_of_lt (rpos.mpr hw)) (show 0 ≤ (c.r : Rat) - ((c.p : Rat) * x.1 + (c.q : Rat) * x.2) by grind)
      have k1 : (((u : Int) : Rat) * a.p + (v : Rat) * b.p + (w : Rat) * c.p) * x.1 = 0 := by rw [e1']; grind
      have k2 : (((u : Int) : Rat) * a.q + (v : Rat) * b.q + (w : Rat) * c.q) * x.2 = 0 := by rw [e2']; grind
      have : (0 : Rat) ≤ ((a.r * u + b.r * v + c.r * w : Int) : Rat) := by
        rw [Rat.intCast_add, Rat.intCast_add, Rat.intCast_mul, Rat.intCast_mul, Rat.intCast_mul]
        grind
      exact Rat.intCast_nonneg.mp this
    unfold triW at hw
    split at hw
    · exact fin _ _ _ (.inr ⟨rfl, rfl, rfl⟩) hw
    · exact fin _ _ _ (.inl ⟨rfl, rfl, rfl⟩) hw
theorem EC_tri {L : List HP} (E : EC L) {i j k : Nat} (h1 : i < j) (h2 : j < k) (h3 : k < L.length) :
    let a := hAt L i
    let b := hAt L j
    let c := hAt L k
    (0 < crossH b c → 0 < crossH c a → 0 < crossH a b → 0 ≤ a.r * crossH b c + b.r * crossH c a + c.r * crossH a b) ∧ (crossH b c < 0 → crossH c a < 0 → crossH a b < 0 → a.r * crossH b c + b.r * crossH c a + c.r * crossH a b ≤ 0) := by
  dsimp only
  have et := E.tri i j k h1 h2 h3
  generalize hAt L i = a at *
  generalize hAt L j = b at *
  generalize hAt L k = c at *
  unfold triW at et
  constructor
  · intro p1 p2 p3
    rw [if_neg (by omega)] at et
    obtain ⟨u, v, w, e⟩ := triP_ex p1 p2 p3
    have := et u v w e
    obtain ⟨g, hg, f1, f2, f3, _⟩ := triP_some e
    rw [← f1, ← f2, ← f3]
    have := Int.mul_nonneg (Int.le_of_lt hg) this
    grind
  · intro p1 p2 p3
    rw [if_pos p1] at et
    obtain ⟨u, v, w, e⟩ := triP_ex (x := -crossH b c) (y := -crossH c a) (z := -crossH a b) (by omega) (by omega) (by omega)
    have := et u v w e
    obtain ⟨g, hg, f1, f2, f3, _⟩ := triP_some e
    have := Int.mul_nonneg (Int.le_of_lt hg) this
    have e2 : g * (a.r * u + b.r * v + c.r * w) = a.r * (-crossH b c) + b.r * (-crossH c a) + c.r * (-crossH a b) := by
      rw [← f1, ← f2, ← f3]
      grind
    rw [e2] at this
    clear e2 e et f1 f2 f3
    grind
theorem cross_anti (a b : HP) : crossH a b = - crossH b a := by unfold crossH; grind
theorem cross_self (a : HP) : crossH a a = 0 := by unfold crossH; grind
theorem EC_FC {L : List HP} (hz : anz L) (E : EC L) : FC (L.map toR) := by
  refine ⟨fun a ma => ?_, fun a ma b mb s t hs ht e1 e2 => ?_, fun a ma b mb c mc p1 p2 p3 => ?_⟩
  · obtain ⟨h, hh, rfl⟩ := List.mem_map.mp ma
    rcases hz h hh with z | z
    · exact .inl fun y => z (r0.mp y)
    · exact .inr fun y => z (r0.mp y)
  · obtain ⟨a, ha, rfl⟩ := List.mem_map.mp ma
    obtain ⟨b, hb, rfl⟩ := List.mem_map.mp mb
    have za := hz a ha
    have zb := hz b hb
    obtain ⟨i, hi, ea⟩ := mem_hAt ha
    obtain ⟨j, hj, eb⟩ := mem_hAt hb
    dsimp only [toR] at *
    -- both orders
    have main : ∀ (a b : HP) (i j : Nat), nz a → nz b → i < j → j < L.length → hAt L i = a → hAt L j = b → ∀ s t : Rat, 0 < s → 0 < t → s * a.p + t * b.p = 0 → s * a.q + t * b.q = 0 → 0 ≤ s * (a.r : Rat) + t * b.r := by
      intro a b i j za zb hij hj ea eb s t hs ht e1 e2
      have c0 : crossH a b = 0 := by
        refine r0.mp ?_
        rw [← cr_cross]
        unfold RH.cr toR
        have : s * ((a.p : Rat) * b.q - (a.q : Rat) * b.p) = 0 := by grind
        rcases Rat.mul_eq_zero.mp this with z | z
        · grind
        · exact z
      have d0 : dotH a b < 0 := by
        refine rneg.mp ?_
        unfold dotH
        rw [Rat.intCast_add, Rat.intCast_mul, Rat.intCast_mul]
        have nb := nsq_pos (p := (b.p : Rat)) (q := (b.q : Rat)) (by rcases zb with z | z; exact .inl fun y => z (r0.mp y); exact .inr fun y => z (r0.mp y))
        have m := Rat.mul_pos ht nb
        have e : s * ((a.p : Rat) * b.p + (a.q : Rat) * b.q) = -(t * ((b.p : Rat) * b.p + (b.q : Rat) * b.q)) := by grind
        by_cases z : (a.p : Rat) * b.p + (a.q : Rat) * b.q < 0
        · exact z
        · have := Rat.mul_nonneg (Rat.le_of_lt hs) (show 0 ≤ (a.p : Rat) * b.p + (a.q : Rat) * b.q by grind)
          grind
      have ho : ∃ u v, oppW a b = some [u, v] := by
        unfold oppW
        rw [if_neg (by omega)]
        exact ⟨_, _, rfl⟩
      obtain ⟨u, v, ho⟩ := ho
      obtain ⟨hu, hv, f1, f2⟩ := opp_some za zb ho
      have et := E.two i j hij hj u v (by rw [ea, eb]; exact ho)
      rw [ea, eb] at et
      have et' : (0 : Rat) ≤ (a.r : Rat) * u + (b.r : Rat) * v := by
        rw [← Rat.intCast_mul, ← Rat.intCast_mul, ← Rat.intCast_add]
        exact Rat.intCast_nonneg.mpr et
      have f1' : ((u : Int) : Rat) * a.p + (v : Rat) * b.p = 0 := by
        rw [← Rat.intCast_mul, ← Rat.intCast_mul, ← Rat.intCast_add, f1]; rfl
      have f2' : ((u : Int) : Rat) * a.q + (v : Rat) * b.q = 0 := by
        rw [← Rat.intCast_mul, ← Rat.intCast_mul, ← Rat.intCast_add, f2]; rfl
      have hu' := rpos.mpr hu
      have hv' := rpos.mpr hv
      generalize (u : Rat) = u' at *
      generalize (v : Rat) = v' at *
      have pr : s * v' = t * u' := by
        have g1 : (s * v' - t * u') * (b.p : Rat) = 0 := by grind
        have g2 : (s * v' - t * u') * (b.q : Rat) = 0 := by grind
        rcases zb with z | z
        · rcases Rat.mul_eq_zero.mp g1 with y | y
          · grind
          · exact absurd (r0.mp y) z
        · rcases Rat.mul_eq_zero.mp g2 with y | y
          · grind
          · exact absurd (r0.mp y) z
      have k1 := Rat.mul_nonneg (Rat.le_of_lt hs) et'
      have k2 : u' * (s * (a.r : Rat) + t * b.r) = s * ((a.r : Rat) * u' + (b.r : Rat) * v') := by grind
      by_cases z : 0 ≤ s * (a.r : Rat) + t * b.r
      · exact z
      · have := Rat.mul_pos hu' (show 0 < -(s * (a.r : Rat) + t * b.r) by grind)
        grind
    rcases Nat.lt_trichotomy i j with h | h | h
    · exact main a b i j za zb h hj ea eb s t hs ht e1 e2
    · subst h
      rw [ea] at eb
      subst eb
      exfalso
      have st : s + t ≠ 0 := by grind
      have g1 : (s + t) * (a.p : Rat) = 0 := by grind
      have g2 : (s + t) * (a.q : Rat) = 0 := by grind
      rcases za with z | z
      · exact z (r0.mp ((Rat.mul_eq_zero.mp g1).resolve_left st))
      · exact z (r0.mp ((Rat.mul_eq_zero.mp g2).resolve_left st))
    · have := main b a j i zb za h hi eb ea t s ht hs (by grind) (by grind)
      grind
  · obtain ⟨a, ha, rfl⟩ := List.mem_map.mp ma
    obtain ⟨b, hb, rfl⟩ := List.mem_map.mp mb
    obtain ⟨c, hc, rfl⟩ := List.mem_map.mp mc
    rw [cr_cross] at p1 p2 p3
    rw [cr_cross, cr_cross, cr_cross]
    have p1 := rpos.mp p1
    have p2 := rpos.mp p2
    have p3 := rpos.mp p3
    show (0 : Rat) ≤ _ * (a.r : Rat) + _ * (b.r : Rat) + _ * (c.r : Rat)
    rw [← Rat.intCast_mul, ← Rat.intCast_mul, ← Rat.intCast_mul, ← Rat.intCast_add, ← Rat.intCast_add]
    refine Rat.intCast_nonneg.mpr ?_
    obtain ⟨i, hi, ea⟩ := mem_hAt ha
    obtain ⟨j, hj, eb⟩ := mem_hAt hb
    obtain ⟨k, hk, ec⟩ := mem_hAt hc
    have nij : i ≠ j := fun z => by
      subst z
      rw [ea] at eb
      subst eb
      rw [cross_self] at p3
      omega
    have njk : j ≠ k := fun z => by
      subst z
      rw [eb] at ec
      subst ec
      rw [cross_self] at p1
      omega
    have nik : i ≠ k := fun z => by
      subst z
      rw [ea] at ec
      subst ec
      rw [cross_self] at p2
      omega
    have A1 := cross_anti a b
    have A2 := cross_anti b c
    have A3 := cross_anti c a
    have T := @EC_tri L E
    dsimp only at T
    rcases Nat.lt_or_ge i j with h1 | h1
    · rcases Nat.lt_or_ge j k with h2 | h2
      · have t := (T h1 h2 hk).1
        rw [ea, eb, ec] at t
        have := t p1 p2 p3
        grind
      · rcases Nat.lt_or_ge i k with h3 | h3
        · have t := (T h3 (show k < j by omega) hj).2
          rw [ea, eb, ec] at t
          have := t (by omega) (by omega) (by omega)
          rw [A1, A2, A3]
          grind
        · have t := (T (show k < i by omega) h1 hj).1
          rw [ea, eb, ec] at t
          have := t (by omega) (by omega) (by omega)
          grind
    · rcases Nat.lt_or_ge i k with h2 | h2
      · have t := (T (show j < i by omega) h2 hk).2
        rw [ea, eb, ec] at t
        have := t (by omega) (by omega) (by omega)
        rw [A1, A2, A3]
        grind
      · rcases Nat.lt_or_ge j k with h3 | h3
        · have t := (T h3 (show k < i by omega) hi).1
          rw [ea, eb, ec] at t
          have := t (by omega) (by omega) (by omega)
          grind
        · have t := (T (show k < j by omega) (show j < i by omega) hi).2
          rw [ea, eb, ec] at t
          have := t (by omega) (by omega) (by omega)
          rw [A1, A2, A3]
          grind
/-- empM tells whether there is a point -/
theorem emp_ex {L : List HP} (hz : anz L) (h : empM L = false) : ∃ x, rg L x := by
  obtain ⟨x, hx⟩ := farkas _ (EC_FC hz (emp_EC.mp h))
  exact ⟨x, fun h hh => hx (toR h) (List.mem_map_of_mem hh)⟩
theorem emp_none {L : List HP} (hz : anz L) (h : empM L = true) (x : Ray) : ¬ rg L x := fun hx => by
  rw [emp_sound hz hx] at h
  cases h
end RT
namespace RT
/-! ### the greatest value -/
abbrev fv (p q : Rat) (x : Ray) : Rat := p * x.1 + q * x.2
theorem least_go : ∀ (xs : List (Option Rat)) (b : Option Rat), (leastM xs b = none ↔ b = none ∧ ∀ x ∈ xs, x = none) ∧ ∀ v, leastM xs b = some v → (some v ∈ xs ∨ b = some v) ∧ (∀ w, some w ∈ xs → v ≤ w) ∧ ∀ w, b = some w → v ≤ w
  | [], b => by
    refine ⟨⟨fun h => ⟨h, fun x hx => by cases hx⟩, fun h => h.1⟩, fun v h => ⟨.inr h, fun w hw => (by cases hw), fun w hw => ?_⟩⟩
    have h : b = some v := h
    rw [h] at hw
    cases hw
    exact Rat.le_refl
  | none :: r, b => by
    obtain ⟨h1, h2⟩ := least_go r b
    have e : leastM (none :: r) b = leastM r b := by cases b <;> rfl
    rw [e]
    refine ⟨h1.trans ⟨fun h => ⟨h.1, fun x hx => ?_⟩, fun h => ⟨h.1, fun x hx => h.2 x (List.mem_cons_of_mem _ hx)⟩⟩, fun v h => ?_⟩
    · rcases List.mem_cons.mp hx with rfl | hx
      · rfl
      · exact h.2 x hx
    · obtain ⟨a1, a2, a3⟩ := h2 v h
      refine ⟨a1.imp (List.mem_cons_of_mem _) id, fun w hw => ?_, a3⟩
      rcases List.mem_cons.mp hw with z | hw
      · cases z
      · exact a2 w hw
  | some u :: r, none => by
    obtain ⟨h1, h2⟩ := least_go r (some u)
    show (leastM r (some u) = none ↔ _) ∧ ∀ v, leastM r (some u) = some v → _
    refine ⟨h1.trans ⟨fun h => (by cases h.1), fun h => by cases h.2 _ (List.mem_cons_self ..)⟩, fun v h => ?_⟩
    obtain ⟨a1, a2, a3⟩ := h2 v h
    refine ⟨.inl ?_, fun w hw => ?_, fun w hw => (by cases hw)⟩
    · rcases a1 with a1 | a1
      · exact List.mem_cons_of_mem _ a1
      · rw [← a1]; exact List.mem_cons_self ..
    · rcases List.mem_cons.mp hw with z | hw
      · exact a3 w z.symm
      · exact a2 w hw
  | some u :: r, some b => by
    obtain ⟨h1, h2⟩ := least_go r (if u < b then some u else some b)
    show (leastM r (if u < b then some u else some b) = none ↔ _) ∧ ∀ v, leastM r (if u < b then some u else some b) = some v → _
    refine ⟨h1.trans ⟨fun h => (by have := h.1; split at this <;> cases this), fun h => by cases h.1⟩, fun v h => ?_⟩
    obtain ⟨a1, a2, a3⟩ := h2 v h
    by_cases hub : u < b
    · rw [if_pos hub] at a1 a3
      have k := a3 u rfl
      refine ⟨.inl ?_, fun w hw => ?_, fun w hw => ?_⟩
      · rcases a1 with a1 | a1
        · exact List.mem_cons_of_mem _ a1
        · rw [← a1]; exact List.mem_cons_self ..
      · rcases List.mem_cons.mp hw with z | hw
        · exact a3 w z.symm
        · exact a2 w hw
      · cases hw
        grind
    · rw [if_neg hub] at a1 a3
      have k := a3 b rfl
      refine ⟨a1.imp (List.mem_cons_of_mem _) id, fun w hw => ?_, a3⟩
      rcases List.mem_cons.mp hw with z | hw
      · cases z
        grind
      · exact a2 w hw
theorem least_none {xs : List (Option Rat)} (h : leastM xs none = none) : ∀ x ∈ xs, x = none := ((least_go xs none).1.mp h).2
theorem least_some {xs : List (Option Rat)} {v : Rat} (h : leastM xs none = some v) : some v ∈ xs ∧ ∀ w, some w ∈ xs → v ≤ w := by
  obtain ⟨a, b, _⟩ := (least_go xs none).2 v h
  refine ⟨?_, b⟩
  rcases a with a | a
  · exact a
  · cases a
theorem pairsL_mem {α β : Type} (f : α → α → β) : ∀ (L : List α) (y : β), y ∈ pairsL f L → ∃ a ∈ L, ∃ b ∈ L, y = f a b
  | [], y, h => by cases h
  | a :: r, y, h => by
    rcases List.mem_append.mp h with h | h
    · obtain ⟨b, hb, rfl⟩ := List.mem_map.mp h
      exact ⟨a, List.mem_cons_self .., b, List.mem_cons_of_mem _ hb, rfl⟩
    · obtain ⟨c, hc, b, hb, e⟩ := pairsL_mem f r y h
      exact ⟨c, List.mem_cons_of_mem _ hc, b, List.mem_cons_of_mem _ hb, e⟩
theorem mem_pairsL {α β : Type} (f : α → α → β) : ∀ (L : List α) (a b : α), a ∈ L → b ∈ L → a ≠ b → f a b ∈ pairsL f L ∨ f b a ∈ pairsL f L
  | [], a, b, h, _, _ => by cases h
  | c :: r, a, b, ha, hb, hn => by
    rcases List.mem_cons.mp ha with h1 | h1
    · rcases List.mem_cons.mp hb with h2 | h2
      · exact absurd (h1.trans h2.symm) hn
      · subst h1
        exact .inl (List.mem_append_left _ (List.mem_map_of_mem h2))
    · rcases List.mem_cons.mp hb with h2 | h2
      · subst h2
        exact .inr (List.mem_append_left _ (List.mem_map_of_mem h1))
      · exact (mem_pairsL f r a b h1 h2 hn).imp (List.mem_append_right _) (List.mem_append_right _)
theorem sgn_gt {q : Rat} : ¬ (sgn q ≤ 0) ↔ 0 < q := by
  unfold sgn
  split
  · rename_i h
    exact ⟨fun _ => h, fun _ => by decide⟩
  · rename_i h
    split
    · exact ⟨fun z => absurd (by decide) z, fun z => absurd z h⟩
    · exact ⟨fun z => absurd (by decide) z, fun z => absurd z h⟩
theorem dotR (h : HP) : ((dotH h h : Int) : Rat) = (h.p : Rat) * h.p + (h.q : Rat) * h.q := by
  unfold dotH
  rw [Rat.intCast_add, Rat.intCast_mul, Rat.intCast_mul]
theorem nzr {h : HP} (z : nz h) : (h.p : Rat) ≠ 0 ∨ (h.q : Rat) ≠ 0 := by
  rcases z with z | z
  · exact .inl fun y => z (r0.mp y)
  · exact .inr fun y => z (r0.mp y)
theorem crR (a b : HP) : ((crossH a b : Int) : Rat) = (a.p : Rat) * b.q - (a.q : Rat) * b.p := by
  unfold crossH
  rw [Rat.intCast_sub, Rat.intCast_mul, Rat.intCast_mul]
/-- one bound -/
theorem sgl_spec {h : HP} (z : nz h) (p q : Rat) : (∀ v, sglM h p q = some v → ∃ k : Rat, 0 < k ∧ p = k * h.p ∧ q = k * h.q ∧ v = k * h.r) ∧ (sglM h p q = none → ¬ ((h.p : Rat) * q - (h.q : Rat) * p = 0 ∧ 0 < (h.p : Rat) * p + (h.q : Rat) * q)) := by
  unfold sglM
  have hN := nsq_pos (nzr z)
  have hN0 : ((dotH h h : Int) : Rat) ≠ 0 := by rw [dotR]; grind
  split
  · rename_i hc
    refine ⟨fun v e => (by cases e), fun _ => ?_⟩
    rintro ⟨h1, h2⟩
    rcases hc with hc | hc
    · exact hc h1
    · exact (sgn_gt.mpr h2) hc
  · rename_i hc
    refine ⟨fun v e => ?_, fun e => by cases e⟩
    injection e with e
    have c1 : (h.p : Rat) * q - (h.q : Rat) * p = 0 := by
      by_cases y : (h.p : Rat) * q - (h.q : Rat) * p = 0
      · exact y
      · exact absurd (.inl y) hc
    have c2 : 0 < (h.p : Rat) * p + (h.q : Rat) * q := sgn_gt.mp fun y => hc (.inr y)
    have d := Rat.div_mul_cancel (a := (h.p : Rat) * p + (h.q : Rat) * q) hN0
    rw [dotR] at d e
    generalize ((h.p : Rat) * p + (h.q : Rat) * q) / ((h.p : Rat) * h.p + (h.q : Rat) * h.q) = k at *
    have k0 : 0 < k := by
      by_cases y : 0 < k
      · exact y
      · have := Rat.mul_nonneg (show 0 ≤ -k by grind) (Rat.le_of_lt hN)
        grind
    have N0 : (h.p : Rat) * h.p + (h.q : Rat) * h.q ≠ 0 := by grind
    refine ⟨k, k0, ?_, ?_, e.symm⟩
    · have : (p - k * h.p) * ((h.p : Rat) * h.p + (h.q : Rat) * h.q) = 0 := by grind
      have := (Rat.mul_eq_zero.mp this).resolve_right N0
      grind
    · have : (q - k * h.q) * ((h.p : Rat) * h.p + (h.q : Rat) * h.q) = 0 := by grind
      have := (Rat.mul_eq_zero.mp this).resolve_right N0
      grind
/-- a bound by two -/
theorem pr_spec (a b : HP) (p q : Rat) : (∀ v, prM a b p q = some v → ∃ x y : Rat, 0 < x ∧ 0 < y ∧ p = x * a.p + y * b.p ∧ q = x * a.q + y * b.q ∧ v = x * a.r + y * b.r) ∧
    (∀ x y : Rat, 0 < x → 0 < y → crossH a b ≠ 0 → p = x * a.p + y * b.p → q = x * a.q + y * b.q → prM a b p q = some (x * a.r + y * b.r)) := by
  unfold prM pwM
  by_cases c0 : crossH a b = 0
  · rw [if_pos c0]
    exact ⟨fun v e => (by cases e), fun x y _ _ h => absurd c0 h⟩
  · rw [if_neg c0]
    have cr0 : ((crossH a b : Int) : Rat) ≠ 0 := fun y => c0 (r0.mp y)
    have d1 := Rat.div_mul_cancel (a := p * (b.q : Rat) - q * (b.p : Rat)) cr0
    have d2 := Rat.div_mul_cancel (a := q * (a.p : Rat) - p * (a.q : Rat)) cr0
    dsimp only
    generalize (p * (b.q : Rat) - q * (b.p : Rat)) / ((crossH a b : Int) : Rat) = x at *
    generalize (q * (a.p : Rat) - p * (a.q : Rat)) / ((crossH a b : Int) : Rat) = y at *
    rw [crR] at d1 d2 cr0
    constructor
    · intro v e
      split at e
      · cases e
      · rename_i hc
        split at hc
        · cases hc
        · rename_i hs
          cases hc
          cases e
          refine ⟨_, _, sgn_gt.mp fun z => hs (.inl z), sgn_gt.mp fun z => hs (.inr z), ?_, ?_, rfl⟩
          · have : (p - (x * a.p + y * b.p)) * ((a.p : Rat) * b.q - (a.q : Rat) * b.p) = 0 := by grind
            have := (Rat.mul_eq_zero.mp this).resolve_right cr0
            grind
          · have : (q - (x * a.q + y * b.q)) * ((a.p : Rat) * b.q - (a.q : Rat) * b.p) = 0 := by grind
            have := (Rat.mul_eq_zero.mp this).resolve_right cr0
            grind
    · intro x' y' hx hy _ e1 e2
      have ex : x = x' := by
        have : (x - x') * ((a.p : Rat) * b.q - (a.q : Rat) * b.p) = 0 := by grind
        have := (Rat.mul_eq_zero.mp this).resolve_right cr0
        grind
      have ey : y = y' := by
        have : (y - y') * ((a.p : Rat) * b.q - (a.q : Rat) * b.p) = 0 := by grind
        have := (Rat.mul_eq_zero.mp this).resolve_right cr0
        grind
      subst ex ey
      rw [if_neg]
      rintro (z | z)
      · exact (sgn_gt.mpr hx) z
      · exact (sgn_gt.mpr hy) z
abbrev cands (L : List HP) (p q : Rat) : List (Option Rat) := L.map (fun h => sglM h p q) ++ pairsL (fun a b => prM a b p q) L
theorem cand_up {L : List HP} (hz : anz L) {p q v : Rat} (h : some v ∈ cands L p q) {x : Ray} (hx : rg L x) : fv p q x ≤ v := by
  rcases List.mem_append.mp h with h | h
  · obtain ⟨a, ha, e⟩ := List.mem_map.mp h
    obtain ⟨k, hk, e1, e2, e3⟩ := (sgl_spec (hz a ha) p q).1 v e
    have := hx a ha
    unfold evH at this
    have := Rat.mul_nonneg (Rat.le_of_lt hk) (show 0 ≤ (a.r : Rat) - ((a.p : Rat) * x.1 + (a.q : Rat) * x.2) by grind)
    unfold fv
    subst e1 e2 e3
    clear e h hz hx
    grind
  · obtain ⟨a, ha, b, hb, e⟩ := pairsL_mem _ L _ h
    obtain ⟨s, t, hs, ht, e1, e2, e3⟩ := (pr_spec a b p q).1 v e.symm
    have h1 := hx a ha
    have h2 := hx b hb
    unfold evH at h1 h2
    have := Rat.mul_nonneg (Rat.le_of_lt hs) (show 0 ≤ (a.r : Rat) - ((a.p : Rat) * x.1 + (a.q : Rat) * x.2) by grind)
    have := Rat.mul_nonneg (Rat.le_of_lt ht) (show 0 ≤ (b.r : Rat) - ((b.p : Rat) * x.1 + (b.q : Rat) * x.2) by grind)
    unfold fv
    subst e1 e2 e3
    clear e h hz hx
    grind
/-- below all bounds: it is reached -/
theorem reach_v {L : List HP} (hz : anz L) {p q v : Rat} (hpq : p ≠ 0 ∨ q ≠ 0) {x0 : Ray} (hx : rg L x0) (hv : ∀ w, some w ∈ cands L p q → v ≤ w) : ∃ x, rg L x ∧ v ≤ fv p q x := by
  have base : ∀ a ∈ L, (toR a).ev x0 ≤ (toR a).r := fun a ha => hx a ha
  have T2 : ∀ a ∈ L, ∀ s t : Rat, 0 < s → 0 < t → s * a.p + t * (-p) = 0 → s * a.q + t * (-q) = 0 → 0 ≤ s * (a.r : Rat) + t * (-v) := fun a ha s t hs ht e1 e2 => by
    have za := hz a ha
    have c1 : (a.p : Rat) * q - (a.q : Rat) * p = 0 := by
      have : t * ((a.p : Rat) * q - (a.q : Rat) * p) = 0 := by grind
      exact (Rat.mul_eq_zero.mp this).resolve_left (by grind)
    have c2 : 0 < (a.p : Rat) * p + (a.q : Rat) * q := by
      have m := Rat.mul_pos hs (nsq_pos (nzr za))
      have e : t * ((a.p : Rat) * p + (a.q : Rat) * q) = s * ((a.p : Rat) * a.p + (a.q : Rat) * a.q) := by grind
      by_cases z : 0 < (a.p : Rat) * p + (a.q : Rat) * q
      · exact z
      · have := Rat.mul_nonneg (Rat.le_of_lt ht) (show 0 ≤ -((a.p : Rat) * p + (a.q : Rat) * q) by grind)
        grind
    cases e : sglM a p q with
    | none => exact absurd ⟨c1, c2⟩ ((sgl_spec za p q).2 e)
    | some w =>
      have hw := hv w (List.mem_append_left _ (List.mem_map.mpr ⟨a, ha, e⟩))
      obtain ⟨k, hk, f1, f2, f3⟩ := (sgl_spec za p q).1 w e
      have sk : s = t * k := by
        have g1 : (s - t * k) * (a.p : Rat) = 0 := by grind
        have g2 : (s - t * k) * (a.q : Rat) = 0 := by grind
        rcases nzr za with z | z
        · have := (Rat.mul_eq_zero.mp g1).resolve_right z
          grind
        · have := (Rat.mul_eq_zero.mp g2).resolve_right z
          grind
      have := Rat.mul_nonneg (Rat.le_of_lt ht) (show 0 ≤ w - v by grind)
      subst sk f3
      clear e hv hx base hz
      grind
  have T3 : ∀ a ∈ L, ∀ b ∈ L, 0 < (toR b).cr ⟨-p, -q, -v⟩ → 0 < RH.cr ⟨-p, -q, -v⟩ (toR a) → 0 < (toR a).cr (toR b) → 0 ≤ (toR b).cr ⟨-p, -q, -v⟩ * (a.r : Rat) + RH.cr ⟨-p, -q, -v⟩ (toR a) * (b.r : Rat) + (toR a).cr (toR b) * (-v) := fun a ha b hb p1 p2 p3 => by
    clear T2
    have cn : crossH a b ≠ 0 := fun z => by
      rw [cr_cross, z] at p3
      exact absurd p3 (by decide)
    have hne : a ≠ b := fun z => cn (by rw [z]; exact cross_self b)
    have c0 : (toR a).cr (toR b) ≠ 0 := by grind
    have d1 := Rat.div_mul_cancel (a := (toR b).cr ⟨-p, -q, -v⟩) c0
    have d2 := Rat.div_mul_cancel (a := RH.cr ⟨-p, -q, -v⟩ (toR a)) c0
    generalize (toR b).cr ⟨-p, -q, -v⟩ / (toR a).cr (toR b) = x at *
    generalize RH.cr ⟨-p, -q, -v⟩ (toR a) / (toR a).cr (toR b) = y at *
    have x0 : 0 < x := by
      by_cases z : 0 < x
      · exact z
      · have := Rat.mul_nonneg (show 0 ≤ -x by grind) (Rat.le_of_lt p3)
        grind
    have y0 : 0 < y := by
      by_cases z : 0 < y
      · exact z
      · have := Rat.mul_nonneg (show 0 ≤ -y by grind) (Rat.le_of_lt p3)
        grind
    have e1 : p = x * a.p + y * b.p := by
      have : (p - (x * a.p + y * b.p)) * (toR a).cr (toR b) = 0 := by
        unfold RH.cr toR at *
        grind
      have := (Rat.mul_eq_zero.mp this).resolve_right c0
      grind
    have e2 : q = x * a.q + y * b.q := by
      have : (q - (x * a.q + y * b.q)) * (toR a).cr (toR b) = 0 := by
        unfold RH.cr toR at *
        grind
      have := (Rat.mul_eq_zero.mp this).resolve_right c0
      grind
    have hw : v ≤ x * a.r + y * b.r := by
      rcases mem_pairsL (fun a b => prM a b p q) L a b ha hb hne with h | h
      · rw [(pr_spec a b p q).2 x y x0 y0 cn e1 e2] at h
        exact hv _ (List.mem_append_right _ h)
      · rw [(pr_spec b a p q).2 y x y0 x0 (by rw [cross_anti]; omega) (by grind) (by grind)] at h
        have := hv _ (List.mem_append_right _ h)
        grind
    have := Rat.mul_nonneg (Rat.le_of_lt p3) (show 0 ≤ x * a.r + y * b.r - v by grind)
    rw [← d1, ← d2]
    clear hv hx base hz d1 d2 p1 p2 e1 e2
    generalize (toR a).cr (toR b) = c at *
    grind
  have F : FC (⟨-p, -q, -v⟩ :: L.map toR) := by
    refine ⟨fun a ma => ?_, fun a ma b mb s t hs ht e1 e2 => ?_, fun a ma b mb c mc p1 p2 p3 => ?_⟩
    · rcases List.mem_cons.mp ma with rfl | ma
      · rcases hpq with z | z
        · exact .inl (by dsimp only; grind)
        · exact .inr (by dsimp only; grind)
      · obtain ⟨a, ha, rfl⟩ := List.mem_map.mp ma
        exact nzr (hz a ha)
    · rcases List.mem_cons.mp ma with rfl | ma
      · rcases List.mem_cons.mp mb with rfl | mb
        · exfalso
          dsimp only at e1 e2
          have st : s + t ≠ 0 := by grind
          have g1 : (s + t) * p = 0 := by grind
          have g2 : (s + t) * q = 0 := by grind
          rcases hpq with z | z
          · exact z ((Rat.mul_eq_zero.mp g1).resolve_left st)
          · exact z ((Rat.mul_eq_zero.mp g2).resolve_left st)
        · obtain ⟨b, hb, rfl⟩ := List.mem_map.mp mb
          have := T2 b hb t s ht hs (by unfold toR at e1; dsimp only at e1; grind) (by unfold toR at e2; dsimp only at e2; grind)
          unfold toR
          dsimp only
          grind
      · obtain ⟨a, ha, rfl⟩ := List.mem_map.mp ma
        rcases List.mem_cons.mp mb with rfl | mb
        · exact T2 a ha s t hs ht e1 e2
        · obtain ⟨b, hb, rfl⟩ := List.mem_map.mp mb
          have h1 := base a ha
          have h2 := base b hb
          have := Rat.mul_nonneg (Rat.le_of_lt hs) (show 0 ≤ (toR a).r - (toR a).ev x0 by grind)
          have := Rat.mul_nonneg (Rat.le_of_lt ht) (show 0 ≤ (toR b).r - (toR b).ev x0 by grind)
          have : s * (toR a).ev x0 + t * (toR b).ev x0 = 0 := by
            unfold RH.ev
            grind
          grind
    · have sw : RH.cr ⟨-p, -q, -v⟩ ⟨-p, -q, -v⟩ = 0 := by unfold RH.cr; grind
      rcases List.mem_cons.mp ma with rfl | ma
      · rcases List.mem_cons.mp mb with rfl | mb
        · rw [sw] at p3
          exact absurd p3 (by decide)
        · rcases List.mem_cons.mp mc with rfl | mc
          · rw [sw] at p2
            exact absurd p2 (by decide)
          · obtain ⟨b, hb, rfl⟩ := List.mem_map.mp mb
            obtain ⟨c, hc, rfl⟩ := List.mem_map.mp mc
            have := T3 b hb c hc p2 p3 p1
            show 0 ≤ _ * (-v) + _ * (b.r : Rat) + _ * (c.r : Rat)
            grind
      · obtain ⟨a, ha, rfl⟩ := List.mem_map.mp ma
        rcases List.mem_cons.mp mb with rfl | mb
        · rcases List.mem_cons.mp mc with rfl | mc
          · rw [sw] at p1
            exact absurd p1 (by decide)
          · obtain ⟨c, hc, rfl⟩ := List.mem_map.mp mc
            have := T3 c hc a ha p3 p1 p2
            show 0 ≤ _ * (a.r : Rat) + _ * (-v) + _ * (c.r : Rat)
            grind
        · obtain ⟨b, hb, rfl⟩ := List.mem_map.mp mb
          rcases List.mem_cons.mp mc with rfl | mc
          · exact T3 a ha b hb p1 p2 p3
          · obtain ⟨c, hc, rfl⟩ := List.mem_map.mp mc
            have h1 := base a ha
            have h2 := base b hb
            have h3 := base c hc
            have := Rat.mul_nonneg (Rat.le_of_lt p1) (show 0 ≤ (toR a).r - (toR a).ev x0 by grind)
            have := Rat.mul_nonneg (Rat.le_of_lt p2) (show 0 ≤ (toR b).r - (toR b).ev x0 by grind)
            have := Rat.mul_nonneg (Rat.le_of_lt p3) (show 0 ≤ (toR c).r - (toR c).ev x0 by grind)
            have : (toR b).cr (toR c) * (toR a).ev x0 + (toR c).cr (toR a) * (toR b).ev x0 + (toR a).cr (toR b) * (toR c).ev x0 = 0 := by
              unfold RH.ev RH.cr
              grind
            grind
  obtain ⟨x, hx⟩ := farkas _ F
  refine ⟨x, fun h hh => hx (toR h) (List.mem_cons_of_mem _ (List.mem_map_of_mem hh)), ?_⟩
  have := hx _ (List.mem_cons_self ..)
  unfold RH.ev at this
  unfold fv
  dsimp only at this
  grind
theorem sup_some {L : List HP} (hz : anz L) {p q v : Rat} {x0 : Ray} (h0 : rg L x0) (h : supM L p q = some v) : (∀ x, rg L x → fv p q x ≤ v) ∧ ∃ x, rg L x ∧ fv p q x = v := by
  unfold supM at h
  split at h
  · rename_i hpq
    cases h
    refine ⟨fun x _ => ?_, x0, h0, ?_⟩ <;> · unfold fv; rw [hpq.1, hpq.2]; grind
  · rename_i hpq
    obtain ⟨h1, h2⟩ := least_some h
    have up : ∀ x, rg L x → fv p q x ≤ v := fun x hx => cand_up hz h1 hx
    have hpq' : p ≠ 0 ∨ q ≠ 0 := by
      by_cases z : p = 0
      · exact .inr fun y => hpq ⟨z, y⟩
      · exact .inl z
    obtain ⟨x, hx, hv⟩ := reach_v hz hpq' h0 h2
    exact ⟨up, x, hx, Rat.le_antisymm (up x hx) hv⟩
theorem sup_none {L : List HP} (hz : anz L) {p q : Rat} {x0 : Ray} (h0 : rg L x0) (h : supM L p q = none) (v : Rat) : ∃ x, rg L x ∧ v ≤ fv p q x := by
  unfold supM at h
  split at h
  · cases h
  · rename_i hpq
    have hpq' : p ≠ 0 ∨ q ≠ 0 := by
      by_cases z : p = 0
      · exact .inr fun y => hpq ⟨z, y⟩
      · exact .inl z
    exact reach_v hz hpq' h0 fun w hw => by cases least_none h _ hw
theorem inf_some {L : List HP} (hz : anz L) {p q v : Rat} {x0 : Ray} (h0 : rg L x0) (h : infM L p q = some v) : (∀ x, rg L x → v ≤ fv p q x) ∧ ∃ x, rg L x ∧ fv p q x = v := by
  unfold infM at h
  cases e : supM L (-p) (-q) with
  | none => rw [e] at h; cases h
  | some w =>
    rw [e] at h
    cases h
    obtain ⟨h1, x, hx, h2⟩ := sup_some hz h0 e
    have ng : ∀ x, fv (-p) (-q) x = - fv p q x := fun x => by unfold fv; grind
    refine ⟨fun x hx => ?_, x, hx, ?_⟩
    · have := h1 x hx
      rw [ng] at this
      grind
    · rw [ng] at h2
      grind
theorem inf_none {L : List HP} (hz : anz L) {p q : Rat} {x0 : Ray} (h0 : rg L x0) (h : infM L p q = none) (v : Rat) : ∃ x, rg L x ∧ fv p q x ≤ v := by
  unfold infM at h
  cases e : supM L (-p) (-q) with
  | some w => rw [e] at h; cases h
  | none =>
    obtain ⟨x, hx, h2⟩ := sup_none hz h0 e (-v)
    have ng : ∀ x, fv (-p) (-q) x = - fv p q x := fun x => by unfold fv; grind
    rw [ng] at h2
    exact ⟨x, hx, by grind⟩
/-- a region is convex -/
theorem rg_seg {L : List HP} {x y : Ray} (hx : rg L x) (hy : rg L y) {t : Rat} (h0 : 0 ≤ t) (h1 : t ≤ 1) : rg L (x.1 + t * (y.1 - x.1), x.2 + t * (y.2 - x.2)) := fun h hh => by
  have a := hx h hh
  have b := hy h hh
  unfold evH at *
  have := Rat.mul_nonneg h0 (show 0 ≤ (h.r : Rat) - ((h.p : Rat) * y.1 + (h.q : Rat) * y.2) by grind)
  have := Rat.mul_nonneg (show 0 ≤ 1 - t by grind) (show 0 ≤ (h.r : Rat) - ((h.p : Rat) * x.1 + (h.q : Rat) * x.2) by grind)
  grind
theorem between {L : List HP} {p q v : Rat} {x y : Ray} (hx : rg L x) (hy : rg L y) (h1 : fv p q x ≤ v) (h2 : v ≤ fv p q y) : ∃ z, rg L z ∧ fv p q z = v := by
  by_cases e : fv p q x = fv p q y
  · exact ⟨x, hx, by grind⟩
  · have n0 : fv p q y - fv p q x ≠ 0 := by grind
    have d := Rat.div_mul_cancel (a := v - fv p q x) n0
    generalize (v - fv p q x) / (fv p q y - fv p q x) = t at *
    have t0 : 0 ≤ t := by
      by_cases z : 0 ≤ t
      · exact z
      · have := Rat.mul_pos (show 0 < -t by grind) (show 0 < fv p q y - fv p q x by grind)
        grind
    have t1 : t ≤ 1 := by
      by_cases z : t ≤ 1
      · exact z
      · have := Rat.mul_pos (show 0 < t - 1 by grind) (show 0 < fv p q y - fv p q x by grind)
        grind
    refine ⟨_, rg_seg hx hy t0 t1, ?_⟩
    unfold fv at *
    grind
/-- within the bounds: reached -/
theorem val_ex {L : List HP} (hz : anz L) {p q v : Rat} {x0 : Ray} (h0 : rg L x0) (hl : ∀ l, infM L p q = some l → l ≤ v) (hu : ∀ u, supM L p q = some u → v ≤ u) : ∃ z, rg L z ∧ fv p q z = v := by
  have lo : ∃ x, rg L x ∧ fv p q x ≤ v := by
    cases e : infM L p q with
    | none => exact inf_none hz h0 e v
    | some l =>
      obtain ⟨_, x, hx, h2⟩ := inf_some hz h0 e
      exact ⟨x, hx, by rw [h2]; exact hl l e⟩
  have hi : ∃ x, rg L x ∧ v ≤ fv p q x := by
    cases e : supM L p q with
    | none => exact sup_none hz h0 e v
    | some l =>
      obtain ⟨_, x, hx, h2⟩ := sup_some hz h0 e
      exact ⟨x, hx, by rw [h2]; exact hu l e⟩
  obtain ⟨x, hx, h1⟩ := lo
  obtain ⟨y, hy, h2⟩ := hi
  exact between hx hy h1 h2
end RT
namespace RT
/-! ### samples -/
theorem mk_le {p q r : Rat} (h0 : p ≠ 0 ∨ q ≠ 0) (x : Ray) : evH (mkH p q r) x ≤ ((mkH p q r).r : Rat) ↔ fv p q x ≤ r := by
  obtain ⟨s, g, hs, hg, e1, e2, e3, _⟩ := mkH_s (r := r) h0
  have hs' := rpos.mpr hs
  have hg' := rpos.mpr hg
  unfold evH fv
  generalize ((mkH p q r).p : Rat) = P at *
  generalize ((mkH p q r).q : Rat) = Q at *
  generalize ((mkH p q r).r : Rat) = R at *
  generalize (s : Rat) = s' at *
  generalize (g : Rat) = g' at *
  have key : g' * (R - (P * x.1 + Q * x.2)) = s' * (r - (p * x.1 + q * x.2)) := by grind
  constructor
  · intro h
    by_cases z : p * x.1 + q * x.2 ≤ r
    · exact z
    · have := Rat.mul_pos hs' (show 0 < (p * x.1 + q * x.2) - r by grind)
      have := Rat.mul_nonneg (Rat.le_of_lt hg') (show 0 ≤ R - (P * x.1 + Q * x.2) by grind)
      grind
  · intro h
    by_cases z : P * x.1 + Q * x.2 ≤ R
    · exact z
    · have := Rat.mul_pos hg' (show 0 < (P * x.1 + Q * x.2) - R by grind)
      have := Rat.mul_nonneg (Rat.le_of_lt hs') (show 0 ≤ r - (p * x.1 + q * x.2) by grind)
      grind
theorem rg_app {L M : List HP} {x : Ray} : rg (L ++ M) x ↔ rg L x ∧ rg M x := by
  unfold rg
  constructor
  · intro h
    exact ⟨fun a ha => h a (List.mem_append_left _ ha), fun a ha => h a (List.mem_append_right _ ha)⟩
  · rintro ⟨h1, h2⟩ a ha
    exact (List.mem_append.mp ha).elim (h1 a) (h2 a)
theorem rg_cons {h : HP} {L : List HP} {x : Ray} : rg (h :: L) x ↔ evH h x ≤ (h.r : Rat) ∧ rg L x := by
  unfold rg
  constructor
  · intro g
    exact ⟨g h (List.mem_cons_self ..), fun a ha => g a (List.mem_cons_of_mem _ ha)⟩
  · rintro ⟨h1, h2⟩ a ha
    rcases List.mem_cons.mp ha with rfl | ha
    · exact h1
    · exact h2 a ha
theorem rg_nil {x : Ray} : rg [] x := fun h hh => by cases hh
theorem anz_app {L M : List HP} (h : anz L) (g : anz M) : anz (L ++ M) := fun a ha => (List.mem_append.mp ha).elim (h a) (g a)
abbrev lnP (p q v : Rat) : List HP := [mkH p q v, mkH (-p) (-q) (-v)]
theorem neg_or {p q : Rat} (h0 : p ≠ 0 ∨ q ≠ 0) : -p ≠ 0 ∨ -q ≠ 0 := by
  rcases h0 with h | h
  · exact .inl (by grind)
  · exact .inr (by grind)
theorem ln_nz {p q : Rat} (v : Rat) (h0 : p ≠ 0 ∨ q ≠ 0) : anz (lnP p q v) := fun a ha => by
  rcases List.mem_cons.mp ha with rfl | ha
  · exact mkH_nz _ h0
  · rcases List.mem_cons.mp ha with rfl | ha
    · exact mkH_nz _ (neg_or h0)
    · cases ha
theorem ln_rg {p q v : Rat} (h0 : p ≠ 0 ∨ q ≠ 0) {x : Ray} : rg (lnP p q v) x ↔ fv p q x = v := by
  unfold lnP
  rw [rg_cons, rg_cons, mk_le h0, mk_le (neg_or h0)]
  unfold fv
  constructor
  · rintro ⟨a, b, _⟩
    grind
  · intro h
    exact ⟨by grind, by grind, rg_nil⟩
theorem near_in {lo hi : Option Rat} (h : ∀ l u, lo = some l → hi = some u → l ≤ u) : (∀ l, lo = some l → l ≤ nearM lo hi) ∧ ∀ u, hi = some u → nearM lo hi ≤ u := by
  unfold nearM
  cases lo with
  | none =>
    cases hi with
    | none => exact ⟨fun l hl => (by cases hl), fun u hu => (by cases hu)⟩
    | some u =>
      dsimp only
      refine ⟨fun l hl => (by cases hl), fun v hv => ?_⟩
      cases hv
      split <;> grind
  | some l =>
    cases hi with
    | none =>
      dsimp only
      refine ⟨fun v hv => ?_, fun u hu => (by cases hu)⟩
      cases hv
      split <;> grind
    | some u =>
      dsimp only
      have := h l u rfl rfl
      refine ⟨fun v hv => ?_, fun v hv => ?_⟩ <;> cases hv <;> split <;> first | grind | (split <;> grind)
theorem bnd_le {L : List HP} (hz : anz L) {p q : Rat} {x0 : Ray} (h0 : rg L x0) : ∀ l u, infM L p q = some l → supM L p q = some u → l ≤ u := fun l u hl hu => by
  have a := (inf_some hz h0 hl).1 x0 h0
  have b := (sup_some hz h0 hu).1 x0 h0
  grind
theorem near_ex {L : List HP} (hz : anz L) {p q : Rat} {x0 : Ray} (h0 : rg L x0) : ∃ z, rg L z ∧ fv p q z = nearM (infM L p q) (supM L p q) := by
  obtain ⟨a, b⟩ := near_in (bnd_le hz (p := p) (q := q) h0)
  exact val_ex hz h0 a b
theorem dr_ex {L : List HP} (hz : anz L) (p q : Rat) {x0 : Ray} (h0 : rg L x0) : drM L p q = some (infM L p q, supM L p q) := by
  unfold drM
  rw [emp_sound hz h0]
  rfl
theorem smp_ex {L : List HP} (hz : anz L) {x0 : Ray} (h0 : rg L x0) : ∃ x, smpM L = some x ∧ rg L x := by
  obtain ⟨z, hz1, hz2⟩ := near_ex hz (p := 1) (q := 0) h0
  have o : (1 : Rat) ≠ 0 ∨ (0 : Rat) ≠ 0 := .inl (by decide)
  unfold smpM
  rw [dr_ex hz 1 0 h0]
  dsimp only
  generalize nearM (infM L 1 0) (supM L 1 0) = t at *
  have e0 : (-0 : Rat) = 0 := by decide
  have hz' : anz (L ++ lnP 1 0 t) := anz_app hz (ln_nz _ o)
  have h1 : rg (L ++ lnP 1 0 t) z := rg_app.mpr ⟨hz1, (ln_rg o).mpr hz2⟩
  have el : [mkH 1 0 t, mkH (-1) 0 (-t)] = lnP 1 0 t := by unfold lnP; rw [e0]
  rw [el, dr_ex hz' 0 1 h1]
  dsimp only
  obtain ⟨w, hw1, hw2⟩ := near_ex hz' (p := 0) (q := 1) h1
  generalize nearM (infM (L ++ lnP 1 0 t) 0 1) (supM (L ++ lnP 1 0 t) 0 1) = u at *
  refine ⟨_, rfl, ?_⟩
  have hw3 := rg_app.mp hw1
  have hw4 := (ln_rg o).mp hw3.2
  have ew : w = (t, u) := by
    obtain ⟨w1, w2⟩ := w
    unfold fv at hw2 hw4
    dsimp only at hw2 hw4
    have : w1 = t := by grind
    have : w2 = u := by grind
    subst w1 w2
    rfl
  rw [← ew]
  exact hw3.1
theorem smp_rg {L : List HP} (hz : anz L) {x : Ray} (h : smpM L = some x) : rg L x := by
  cases he : empM L with
  | true =>
    unfold smpM drM at h
    rw [he] at h
    cases h
  | false =>
    obtain ⟨x0, h0⟩ := emp_ex hz he
    obtain ⟨y, e, hy⟩ := smp_ex hz h0
    rw [h] at e
    cases e
    exact hy
theorem smp_ne {L : List HP} (hz : anz L) (h : empM L = false) : smpM L ≠ none := by
  obtain ⟨x0, h0⟩ := emp_ex hz h
  obtain ⟨y, e, hy⟩ := smp_ex hz h0
  rw [e]
  intro z
  cases z
theorem sat_some {L : List HP} (hz : anz L) {p q v : Rat} (h0 : p ≠ 0 ∨ q ≠ 0) {x : Ray} (h : satM L p q v = some x) : rg L x ∧ fv p q x = v := by
  have := rg_app.mp (smp_rg (anz_app hz (ln_nz v h0)) h)
  exact ⟨this.1, (ln_rg h0).mp this.2⟩
theorem sat_ex {L : List HP} (hz : anz L) {p q v : Rat} (h0 : p ≠ 0 ∨ q ≠ 0) {x : Ray} (hx : rg L x) (hv : fv p q x = v) : ∃ y, satM L p q v = some y := by
  obtain ⟨y, e, _⟩ := smp_ex (anz_app hz (ln_nz v h0)) (rg_app.mpr ⟨hx, (ln_rg h0).mpr hv⟩)
  exact ⟨y, e⟩
/-! ### telling two trains apart -/
theorem great_eq : ∀ (xs : List (Option Rat)) (b : Option Rat) (v : Rat), greatM xs b = some v → (some v ∈ xs ∨ b = some v) ∧ (∀ w, some w ∈ xs → w ≤ v) ∧ ∀ w, b = some w → w ≤ v
  | [], b, v, h => by
    refine ⟨.inr h, fun w hw => (by cases hw), fun w hw => ?_⟩
    have h : b = some v := h
    rw [h] at hw
    cases hw
    exact Rat.le_refl
  | none :: r, b, v, h => by
    have e : greatM (none :: r) b = greatM r b := by cases b <;> rfl
    rw [e] at h
    obtain ⟨a1, a2, a3⟩ := great_eq r b v h
    refine ⟨a1.imp (List.mem_cons_of_mem _) id, fun w hw => ?_, a3⟩
    rcases List.mem_cons.mp hw with z | hw
    · cases z
    · exact a2 w hw
  | some u :: r, none, v, h => by
    obtain ⟨a1, a2, a3⟩ := great_eq r (some u) v h
    refine ⟨.inl ?_, fun w hw => ?_, fun w hw => (by cases hw)⟩
    · rcases a1 with a1 | a1
      · exact List.mem_cons_of_mem _ a1
      · rw [← a1]; exact List.mem_cons_self ..
    · rcases List.mem_cons.mp hw with z | hw
      · exact a3 w z.symm
      · exact a2 w hw
  | some u :: r, some b, v, h => by
    obtain ⟨a1, a2, a3⟩ := great_eq r (if b < u then some u else some b) v h
    by_cases hub : b < u
    · rw [if_pos hub] at a1 a3
      have k := a3 u rfl
      refine ⟨.inl ?_, fun w hw => ?_, fun w hw => ?_⟩
      · rcases a1 with a1 | a1
        · exact List.mem_cons_of_mem _ a1
        · rw [← a1]; exact List.mem_cons_self ..
      · rcases List.mem_cons.mp hw with z | hw
        · exact a3 w z.symm
        · exact a2 w hw
      · cases hw
        grind
    · rw [if_neg hub] at a1 a3
      have k := a3 b rfl
      refine ⟨a1.imp (List.mem_cons_of_mem _) id, fun w hw => ?_, a3⟩
      rcases List.mem_cons.mp hw with z | hw
      · cases z
        grind
      · exact a2 w hw
theorem great2 (a : Rat) (b : Option Rat) : ∃ v, greatM [some a, b] none = some v ∧ a ≤ v ∧ ∀ w, b = some w → w ≤ v := by
  cases b with
  | none => exact ⟨a, rfl, Rat.le_refl, fun w hw => by cases hw⟩
  | some b =>
    have e : greatM [some a, some b] none = if a < b then some b else some a := rfl
    rw [e]
    split
    · rename_i h
      exact ⟨b, rfl, Rat.le_of_lt h, fun w hw => by cases hw; exact Rat.le_refl⟩
    · rename_i h
      exact ⟨a, rfl, Rat.le_refl, fun w hw => by cases hw; grind⟩
theorem fv_ev (h : HP) (x : Ray) : fv (h.p : Rat) (h.q : Rat) x = evH h x := rfl
theorem ov_some {L : List HP} (hz : anz L) {h : HP} {x0 : Ray} (h0 : rg L x0) {v : Rat} (e : ovM L h = some v) : (h.r : Rat) < v ∧ ∃ x, rg L x ∧ evH h x = v := by
  unfold ovM at e
  cases s : supM L (h.p : Rat) (h.q : Rat) with
  | none =>
    rw [s] at e
    obtain ⟨w, e2, h1, h2⟩ := great2 ((h.r : Rat) + 1) (infM L (h.p : Rat) (h.q : Rat))
    have e : greatM [some ((h.r : Rat) + 1), infM L (h.p : Rat) (h.q : Rat)] none = some v := e
    rw [e] at e2
    cases e2
    refine ⟨by grind, ?_⟩
    obtain ⟨z, hz1, hz2⟩ := val_ex hz h0 (p := (h.p : Rat)) (q := (h.q : Rat)) (v := v) h2 (fun u hu => by rw [s] at hu; cases hu)
    exact ⟨z, hz1, hz2⟩
  | some u =>
    rw [s] at e
    dsimp only at e
    split at e
    · rename_i hlt
      cases e
      obtain ⟨_, x, hx, hv⟩ := sup_some hz h0 s
      exact ⟨hlt, x, hx, hv⟩
    · cases e
theorem ov_none {L : List HP} (hz : anz L) {h : HP} {x0 : Ray} (h0 : rg L x0) (e : ovM L h = none) : ∀ x, rg L x → evH h x ≤ (h.r : Rat) := by
  unfold ovM at e
  cases s : supM L (h.p : Rat) (h.q : Rat) with
  | none =>
    rw [s] at e
    obtain ⟨w, e2, _, _⟩ := great2 ((h.r : Rat) + 1) (infM L (h.p : Rat) (h.q : Rat))
    have e : greatM [some ((h.r : Rat) + 1), infM L (h.p : Rat) (h.q : Rat)] none = none := e
    rw [e] at e2
    cases e2
  | some u =>
    rw [s] at e
    dsimp only at e
    split at e
    · cases e
    · rename_i hlt
      intro x hx
      have := (sup_some hz h0 s).1 x hx
      rw [fv_ev] at this
      grind
theorem roL_some {L : List HP} (hz : anz L) {x0 : Ray} (h0 : rg L x0) : ∀ (M : List HP), anz M → ∀ x, roLoop L M = some x → rg L x ∧ ¬ rg M x
  | [], _, x, h => by cases h
  | g :: M, hm, x, h => by
    unfold roLoop at h
    cases e : ovM L g with
    | none =>
      rw [e] at h
      obtain ⟨a, b⟩ := roL_some hz h0 M (fun y hy => hm y (List.mem_cons_of_mem _ hy)) x h
      exact ⟨a, fun z => b (rg_cons.mp z).2⟩
    | some v =>
      rw [e] at h
      have h : satM L (g.p : Rat) (g.q : Rat) v = some x := h
      obtain ⟨a, b⟩ := sat_some hz (nzr (hm g (List.mem_cons_self ..))) h
      refine ⟨a, fun z => ?_⟩
      have z := (rg_cons.mp z).1
      have := (ov_some hz h0 e).1
      rw [fv_ev] at b
      grind
theorem roL_none {L : List HP} (hz : anz L) {x0 : Ray} (h0 : rg L x0) : ∀ (M : List HP), anz M → roLoop L M = none → ∀ x, rg L x → rg M x
  | [], _, _, x, _ => rg_nil
  | g :: M, hm, h, x, hx => by
    unfold roLoop at h
    cases e : ovM L g with
    | none =>
      rw [e] at h
      exact rg_cons.mpr ⟨ov_none hz h0 e x hx, roL_none hz h0 M (fun y hy => hm y (List.mem_cons_of_mem _ hy)) h x hx⟩
    | some v =>
      rw [e] at h
      have h : satM L (g.p : Rat) (g.q : Rat) v = none := h
      obtain ⟨_, y, hy, hv⟩ := ov_some hz h0 e
      obtain ⟨w, hw⟩ := sat_ex hz (nzr (hm g (List.mem_cons_self ..))) hy hv
      rw [h] at hw
      cases hw
theorem ro_some {L M : List HP} (hz : anz L) (hm : anz M) {x : Ray} (h : roM L M = some x) : rg L x ∧ ¬ rg M x := by
  unfold roM at h
  split at h
  · cases h
  · rename_i he
    obtain ⟨x0, h0⟩ := emp_ex hz (by simpa using he)
    exact roL_some hz h0 M hm x h
theorem ro_none {L M : List HP} (hz : anz L) (hm : anz M) (h : roM L M = none) (x : Ray) (hx : rg L x) : rg M x := by
  unfold roM at h
  rw [if_neg (by rw [emp_sound hz hx]; decide)] at h
  exact roL_none hz hx M hm h x hx
theorem oth_some {L : List HP} (hz : anz L) {p q t : Rat} {x0 : Ray} (h0 : rg L x0) {v : Rat} (e : othM L p q t = some v) : v ≠ 0 ∧ ∃ x, rg L x ∧ fv p q x = v - t := by
  unfold othM at e
  dsimp only at e
  cases s : supM L p q with
  | none =>
    rw [s] at e
    dsimp only at e
    obtain ⟨w, e2, h1, h2⟩ := great2 1 ((infM L p q).map fun v => v + t)
    rw [e] at e2
    cases e2
    refine ⟨by grind, val_ex hz h0 (fun l hl => ?_) (fun u hu => by rw [s] at hu; cases hu)⟩
    have := h2 (l + t) (by rw [hl]; rfl)
    grind
  | some u =>
    rw [s] at e
    dsimp only at e
    split at e
    · rename_i hne
      cases e
      obtain ⟨_, x, hx, hv⟩ := sup_some hz h0 s
      exact ⟨hne, x, hx, by grind⟩
    · rename_i hne
      have hu : u + t = 0 := by grind
      cases i : infM L p q with
      | none =>
        rw [i] at e
        cases e
        refine ⟨by decide, val_ex hz h0 (fun l hl => by rw [i] at hl; cases hl) (fun w hw => ?_)⟩
        rw [s] at hw
        cases hw
        grind
      | some l =>
        rw [i] at e
        dsimp only [Option.map] at e
        split at e
        · rename_i hl
          cases e
          obtain ⟨_, x, hx, hv⟩ := inf_some hz h0 i
          exact ⟨hl, x, hx, by grind⟩
        · cases e
theorem oth_none {L : List HP} (hz : anz L) {p q t : Rat} {x0 : Ray} (h0 : rg L x0) (e : othM L p q t = none) : ∀ x, rg L x → fv p q x + t = 0 := by
  unfold othM at e
  dsimp only at e
  cases s : supM L p q with
  | none =>
    rw [s] at e
    dsimp only at e
    obtain ⟨w, e2, h1, h2⟩ := great2 1 ((infM L p q).map fun v => v + t)
    rw [e] at e2
    cases e2
  | some u =>
    rw [s] at e
    dsimp only at e
    split at e
    · cases e
    · rename_i hne
      have hu : u + t = 0 := by grind
      cases i : infM L p q with
      | none =>
        rw [i] at e
        cases e
      | some l =>
        rw [i] at e
        dsimp only [Option.map] at e
        split at e
        · cases e
        · rename_i hl
          intro x hx
          have := (sup_some hz h0 s).1 x hx
          have := (inf_some hz h0 i).1 x hx
          grind
theorem dif_some {L : List HP} (hz : anz L) {p q t : Rat} {x : Ray} (e : difM L p q t = some x) : rg L x ∧ fv p q x + t ≠ 0 := by
  unfold difM at e
  split at e
  · rename_i hpq
    split at e
    · cases e
    · rename_i ht
      refine ⟨smp_rg hz e, ?_⟩
      unfold fv
      rw [hpq.1, hpq.2]
      grind
  · rename_i hpq
    have hpq' : p ≠ 0 ∨ q ≠ 0 := by
      by_cases z : p = 0
      · exact .inr fun y => hpq ⟨z, y⟩
      · exact .inl z
    cases o : othM L p q t with
    | none => rw [o] at e; cases e
    | some v =>
      rw [o] at e
      obtain ⟨a, b⟩ := sat_some hz hpq' e
      refine ⟨a, ?_⟩
      rw [b]
      have := (oth_some hz a o).1
      grind
theorem dif_none {L : List HP} (hz : anz L) {p q t : Rat} (e : difM L p q t = none) (x : Ray) (hx : rg L x) : fv p q x + t = 0 := by
  unfold difM at e
  split at e
  · rename_i hpq
    split at e
    · rename_i ht
      unfold fv
      rw [hpq.1, hpq.2]
      grind
    · obtain ⟨y, ey, _⟩ := smp_ex hz hx
      rw [e] at ey
      cases ey
  · rename_i hpq
    have hpq' : p ≠ 0 ∨ q ≠ 0 := by
      by_cases z : p = 0
      · exact .inr fun y => hpq ⟨z, y⟩
      · exact .inl z
    cases o : othM L p q t with
    | none => exact oth_none hz hx o x hx
    | some v =>
      rw [o] at e
      have e : satM L p q (v - t) = none := e
      obtain ⟨_, y, hy, hv⟩ := oth_some hz hx o
      obtain ⟨w, hw⟩ := sat_ex hz hpq' hy hv
      rw [e] at hw
      cases hw
/-- two trains that answer alike -/
def alike (t u : List El) : Prop := (∀ x, rg (plM t) x ↔ rg (plM u) x) ∧ ∀ x, rg (plM t) x → apM (trM t) x = apM (trM u) x
theorem dis_none {t u : List El} (ht : anz (plM t)) (hu : anz (plM u)) (h : disM t u = none) : alike t u := by
  unfold disM at h
  split at h
  · cases h
  · rename_i h1
    split at h1
    · cases h1
    · rename_i h2
      have r1 := ro_none ht hu h2
      have r2 := ro_none hu ht h1
      refine ⟨fun x => ⟨r1 x, r2 x⟩, fun x hx => ?_⟩
      rw [if_neg (by rw [emp_sound ht hx]; decide)] at h
      dsimp only at h
      split at h
      · cases h
      · rename_i h3
        have a := dif_none ht h3 x hx
        have b := dif_none ht h x hx
        unfold fv at a b
        unfold apM
        refine Prod.ext ?_ ?_ <;> dsimp only <;> grind
theorem dis_some {t u : List El} (ht : anz (plM t)) (hu : anz (plM u)) {x : Ray} (h : disM t u = some x) : (rg (plM t) x ∧ ¬ rg (plM u) x) ∨ (rg (plM u) x ∧ ¬ rg (plM t) x) ∨ (rg (plM t) x ∧ rg (plM u) x ∧ apM (trM t) x ≠ apM (trM u) x) := by
  unfold disM at h
  split at h
  · rename_i y h1
    cases h
    split at h1
    · rename_i h2
      cases h1
      exact .inl (ro_some ht hu h2)
    · exact .inr (.inl (ro_some hu ht h1))
  · rename_i h1
    split at h1
    · cases h1
    · rename_i h2
      have r1 := ro_none ht hu h2
      have r2 := ro_none hu ht h1
      split at h
      · cases h
      · dsimp only at h
        refine .inr (.inr ?_)
        split at h
        · rename_i h3
          cases h
          obtain ⟨a, b⟩ := dif_some ht h3
          refine ⟨a, r1 x a, fun z => b ?_⟩
          have := congrArg Prod.fst z
          unfold apM at this
          dsimp only at this
          unfold fv
          grind
        · obtain ⟨a, b⟩ := dif_some ht h
          refine ⟨a, r1 x a, fun z => b ?_⟩
          have := congrArg Prod.snd z
          unfold apM at this
          dsimp only at this
          unfold fv
          grind
end RT
namespace RT
/-! ### the order of primitive half-planes -/
theorem prim_dvd {b : HP} (hb : prim b) {M N : Int} (h1 : M ∣ b.p * N) (h2 : M ∣ b.q * N) (h3 : M ∣ b.r * N) : M ∣ N := by
  unfold prim at hb
  have b1 : M ∣ ((Int.gcd (b.p * N) (b.q * N) : Nat) : Int) := Int.dvd_coe_gcd h1 h2
  rw [Int.gcd_mul_right] at b1
  have b2 : M ∣ ((Int.gcd b.p b.q : Nat) : Int) * N := by
    rw [Int.natCast_mul] at b1
    exact Int.dvd_trans b1 (Int.mul_dvd_mul_left _ (Int.natAbs_dvd.mpr (Int.dvd_refl _)))
  have b3 : M ∣ ((Int.gcd (((Int.gcd b.p b.q : Nat) : Int) * N) (b.r * N) : Nat) : Int) := Int.dvd_coe_gcd b2 h3
  rw [Int.gcd_mul_right, hb, Nat.one_mul] at b3
  exact Int.dvd_trans b3 (Int.natAbs_dvd.mpr (Int.dvd_refl _))
theorem prim_prop {a b : HP} (ha : prim a) (hb : prim b) {M N : Int} (h1 : a.p * M = b.p * N) (h2 : a.q * M = b.q * N) (h3 : a.r * M = b.r * N) : M = N ∨ M = -N := by
  have d1 : M ∣ N := prim_dvd hb ⟨a.p, by rw [← h1, Int.mul_comm]⟩ ⟨a.q, by rw [← h2, Int.mul_comm]⟩ ⟨a.r, by rw [← h3, Int.mul_comm]⟩
  have d2 : N ∣ M := prim_dvd ha ⟨b.p, by rw [h1, Int.mul_comm]⟩ ⟨b.q, by rw [h2, Int.mul_comm]⟩ ⟨b.r, by rw [h3, Int.mul_comm]⟩
  have : M.natAbs = N.natAbs := Nat.dvd_antisymm (Int.natAbs_dvd_natAbs.mpr d1) (Int.natAbs_dvd_natAbs.mpr d2)
  omega
theorem prim_eq {a b : HP} (ha : prim a) (hb : prim b) {M N : Int} (hM : 0 < M) (hN : 0 < N) (h1 : a.p * M = b.p * N) (h2 : a.q * M = b.q * N) (h3 : a.r * M = b.r * N) : a = b := by
  have e : M = N := by
    rcases prim_prop ha hb h1 h2 h3 with h | h <;> omega
  subst e
  obtain ⟨p, q, r⟩ := a
  obtain ⟨p', q', r'⟩ := b
  dsimp only at h1 h2 h3
  have k : ∀ {x y : Int}, x * M = y * M → x = y := fun h => Int.eq_of_mul_eq_mul_right (by omega) h
  rw [k h1, k h2, k h3]
/-- a direction in the first half -/
def fstH (p q : Int) : Prop := 0 < q ∨ (q = 0 ∧ 0 < p)
theorem half1_t {a : HP} : half1 a = true ↔ fstH a.p a.q := by
  unfold half1 fstH
  simp
theorem half1_f {a : HP} (z : nz a) : half1 a = false ↔ fstH (-a.p) (-a.q) := by
  have : half1 a = false ↔ ¬ fstH a.p a.q := by
    rw [← half1_t]
    simp
  rw [this]
  unfold fstH
  unfold nz at z
  omega
theorem turn_pos {ap aq bp bq cp cq : Int} (ha : fstH ap aq) (hb : fstH bp bq) (hc : fstH cp cq) (h1 : 0 ≤ ap * bq - aq * bp) (h2 : 0 ≤ bp * cq - bq * cp) (h3 : 0 < ap * bq - aq * bp ∨ 0 < bp * cq - bq * cp) : 0 < ap * cq - aq * cp := by
  have e1 : bq * (ap * cq - aq * cp) = cq * (ap * bq - aq * bp) + aq * (bp * cq - bq * cp) := by grind
  have e2 : bp * (ap * cq - aq * cp) = cp * (ap * bq - aq * bp) + ap * (bp * cq - bq * cp) := by grind
  have aq0 : 0 ≤ aq := by rcases ha with h | h <;> omega
  have bq0 : 0 ≤ bq := by rcases hb with h | h <;> omega
  have cq0 : 0 ≤ cq := by rcases hc with h | h <;> omega
  rcases hb with hb | ⟨hb, hb2⟩
  · -- b.q > 0
    refine Int.not_le.mp fun z => ?_
    have l : bq * (ap * cq - aq * cp) ≤ 0 := by
      have := Int.mul_nonneg bq0 (show 0 ≤ -(ap * cq - aq * cp) by omega)
      grind
    have c0 : 0 < cq := by
      rcases hc with h | ⟨h, h'⟩
      · exact h
      · subst h
        have := Int.mul_pos hb h'
        omega
    have m1 := Int.mul_nonneg cq0 h1
    have m2 := Int.mul_nonneg aq0 h2
    rcases h3 with h | h
    · have := Int.mul_pos c0 h
      omega
    · by_cases a0 : 0 < aq
      · have := Int.mul_pos a0 h
        omega
      · have a1 : aq = 0 := by omega
        have a2 : 0 < ap := by
          rcases ha with k | k
          · omega
          · exact k.2
        subst a1
        have := Int.mul_pos a2 c0
        omega
  · subst hb
    have a0 : aq = 0 := by
      refine Int.le_antisymm (Int.not_lt.mp fun k => ?_) aq0
      have := Int.mul_pos k hb2
      omega
    subst a0
    have a2 : 0 < ap := by
      rcases ha with k | k
      · omega
      · exact k.2
    rcases h3 with h | h
    · omega
    · have c0 : 0 < cq := by
        refine Int.not_le.mp fun k => ?_
        have : cq = 0 := by omega
        subst this
        omega
      have := Int.mul_pos a2 c0
      omega
theorem turn_zero {ap aq bp bq cp cq : Int} (hb : fstH bp bq) (h1 : ap * bq - aq * bp = 0) (h2 : bp * cq - bq * cp = 0) : ap * cq - aq * cp = 0 := by
  have e1 : bq * (ap * cq - aq * cp) = cq * (ap * bq - aq * bp) + aq * (bp * cq - bq * cp) := by grind
  have e2 : bp * (ap * cq - aq * cp) = cp * (ap * bq - aq * bp) + ap * (bp * cq - bq * cp) := by grind
  rw [h1, h2] at e1 e2
  rcases hb with hb | hb
  · exact (Int.mul_eq_zero.mp (show bq * (ap * cq - aq * cp) = 0 by omega)).resolve_left (by omega)
  · exact (Int.mul_eq_zero.mp (show bp * (ap * cq - aq * cp) = 0 by omega)).resolve_left (by omega)
theorem crossT {a b c : HP} (za : nz a) (zb : nz b) (zc : nz c) (h1 : half1 a = half1 b) (h2 : half1 b = half1 c) : (0 ≤ crossH a b → 0 ≤ crossH b c → (0 < crossH a b ∨ 0 < crossH b c) → 0 < crossH a c) ∧ (crossH a b = 0 → crossH b c = 0 → crossH a c = 0) := by
  unfold crossH
  cases hc : half1 c with
  | true =>
    rw [hc] at h2
    rw [h2] at h1
    have fa := half1_t.mp h1
    have fb := half1_t.mp h2
    have fc := half1_t.mp hc
    exact ⟨fun a b c => turn_pos fa fb fc a b c, fun a b => turn_zero fb a b⟩
  | false =>
    rw [hc] at h2
    rw [h2] at h1
    have fa := (half1_f za).mp h1
    have fb := (half1_f zb).mp h2
    have fc := (half1_f zc).mp hc
    have e : ∀ x y z w : Int, (-x) * (-y) - (-z) * (-w) = x * y - z * w := fun x y z w => by grind
    constructor
    · intro k1 k2 k3
      have := turn_pos fa fb fc (by rw [e]; exact k1) (by rw [e]; exact k2) (by rw [e, e]; exact k3)
      rw [e] at this
      exact this
    · intro k1 k2
      have := turn_zero (ap := -a.p) (aq := -a.q) (cp := -c.p) (cq := -c.q) fb (by rw [e]; exact k1) (by rw [e]; exact k2)
      rw [e] at this
      exact this
theorem bef_tr {a b c : HP} (za : nz a) (zb : nz b) (zc : nz c) (h1 : beforeH a b = true) (h2 : beforeH b c = true) : beforeH a c = true := by
  unfold beforeH at h1 h2 ⊢
  by_cases k1 : half1 a = half1 b
  · by_cases k2 : half1 b = half1 c
    · rw [if_neg (by rw [k1]; simp)] at h1
      rw [if_neg (by rw [k2]; simp)] at h2
      rw [if_neg (by rw [k1, k2]; simp)]
      obtain ⟨T1, T2⟩ := crossT za zb zc k1 k2
      by_cases c1 : crossH a b = 0
      · rw [if_neg (fun z => z c1)] at h1
        by_cases c2 : crossH b c = 0
        · rw [if_neg (fun z => z c2)] at h2
          rw [if_neg (fun z => z (T2 c1 c2))]
          have := of_decide_eq_true h1
          have := of_decide_eq_true h2
          exact decide_eq_true (by grind)
        · rw [if_pos c2] at h2
          have h2 := of_decide_eq_true h2
          have := T1 (by omega) (by omega) (.inr h2)
          rw [if_pos (by omega)]
          exact decide_eq_true this
      · rw [if_pos c1] at h1
        have h1 := of_decide_eq_true h1
        have h2' : 0 ≤ crossH b c := by
          by_cases c2 : crossH b c = 0
          · omega
          · rw [if_pos c2] at h2
            have := of_decide_eq_true h2
            omega
        have := T1 (by omega) h2' (.inl h1)
        rw [if_pos (by omega)]
        exact decide_eq_true this
    · rw [if_pos k2] at h2
      rw [if_pos (by rw [k1]; exact k2), k1]
      exact h2
  · rw [if_pos k1] at h1
    have hb : half1 b = false := by
      cases e : half1 b with
      | false => rfl
      | true => rw [e] at k1; exact absurd h1 k1
    by_cases k2 : half1 b = half1 c
    · rw [if_pos (by rw [← k2]; exact k1)]
      exact h1
    · rw [if_pos k2, hb] at h2
      cases h2
theorem bef_as {a b : HP} (h : beforeH a b = true) : beforeH b a = false := by
  unfold beforeH at h ⊢
  by_cases k : half1 a = half1 b
  · rw [if_neg (by rw [k]; simp)] at h
    rw [if_neg (by rw [k]; simp)]
    have e := cross_anti a b
    by_cases c : crossH a b = 0
    · rw [if_neg (fun z => z c)] at h
      rw [if_neg (fun z => z (by omega))]
      have := of_decide_eq_true h
      exact decide_eq_false (by grind)
    · rw [if_pos c] at h
      rw [if_pos (by omega)]
      have := of_decide_eq_true h
      exact decide_eq_false (by omega)
  · rw [if_pos k] at h
    rw [if_pos (fun z => k z.symm)]
    cases e : half1 b with
    | false => rfl
    | true => rw [e] at k; exact absurd h k
theorem reach_eq {a b : HP} (za : nz a) (zb : nz b) (h : reachH a = reachH b) : a.r * n1 b = b.r * n1 a := by
  unfold reachH at h
  have p1 := n1_pos za
  have p2 := n1_pos zb
  have n1' : ((n1 a : Int) : Rat) ≠ 0 := fun z => by have := r0.mp z; omega
  have n2' : ((n1 b : Int) : Rat) ≠ 0 := fun z => by have := r0.mp z; omega
  have d1 := Rat.div_mul_cancel (a := (a.r : Rat)) n1'
  have d2 := Rat.div_mul_cancel (a := (b.r : Rat)) n2'
  rw [h] at d1
  generalize (b.r : Rat) / ((n1 b : Int) : Rat) = k at *
  refine Rat.intCast_inj.mp ?_
  rw [Rat.intCast_mul, Rat.intCast_mul, ← d1, ← d2]
  grind
theorem par1 {ap aq bp bq : Int} (ha : fstH ap aq) (hb : fstH bp bq) (h : ap * bq - aq * bp = 0) : ap * (absI bp + absI bq) = bp * (absI ap + absI aq) ∧ aq * (absI bp + absI bq) = bq * (absI ap + absI aq) := by
  unfold absI
  rcases ha with ha | ⟨ha, ha2⟩
  · rcases hb with hb | ⟨hb, hb2⟩
    · rcases Int.lt_trichotomy ap 0 with k | k | k
      · have hb3 : bp < 0 := by
          refine Int.not_le.mp fun z => ?_
          have m1 := Int.mul_neg_of_neg_of_pos k hb
          have m2 := Int.mul_nonneg (Int.le_of_lt ha) z
          omega
        rw [if_pos k, if_pos hb3, if_neg (by omega), if_neg (by omega)]
        constructor <;> grind
      · subst k
        have hb3 : bp = 0 := by
          have : aq * bp = 0 := by omega
          exact (Int.mul_eq_zero.mp this).resolve_left (by omega)
        subst hb3
        rw [if_neg (by omega), if_neg (by omega), if_neg (by omega)]
        constructor <;> grind
      · have hb3 : 0 < bp := by
          refine Int.not_le.mp fun z => ?_
          have m1 := Int.mul_pos k hb
          have m2 := Int.mul_nonneg (Int.le_of_lt ha) (show 0 ≤ -bp by omega)
          grind
        rw [if_neg (by omega), if_neg (by omega), if_neg (by omega), if_neg (by omega)]
        constructor <;> grind
    · subst hb
      have := Int.mul_pos ha hb2
      omega
  · subst ha
    have hb3 : bq = 0 := by
      have : ap * bq = 0 := by omega
      exact (Int.mul_eq_zero.mp this).resolve_left (by omega)
    subst hb3
    have hb4 : 0 < bp := by
      rcases hb with z | z
      · omega
      · exact z.2
    rw [if_neg (by omega), if_neg (by omega), if_neg (by omega)]
    constructor <;> grind
theorem absI_neg (i : Int) : absI (-i) = absI i := by
  unfold absI
  split <;> split <;> omega
theorem bef_or {a b : HP} (za : nz a) (zb : nz b) (pa : prim a) (pb : prim b) (hn : a ≠ b) : beforeH a b = true ∨ beforeH b a = true := by
  unfold beforeH
  by_cases k : half1 a = half1 b
  · rw [if_neg (show ¬ (half1 a ≠ half1 b) by rw [k]; simp), if_neg (show ¬ (half1 b ≠ half1 a) by rw [k]; simp)]
    have e := cross_anti a b
    by_cases c : crossH a b = 0
    · rw [if_neg (show ¬ (crossH a b ≠ 0) from fun z => z c), if_neg (show ¬ (crossH b a ≠ 0) from fun z => z (by omega))]
      by_cases l1 : reachH a < reachH b
      · exact .inl (decide_eq_true l1)
      · by_cases l2 : reachH b < reachH a
        · exact .inr (decide_eq_true l2)
        · exfalso
          have er := reach_eq za zb (by grind)
          have p1 := n1_pos za
          have p2 := n1_pos zb
          have key : a.p * n1 b = b.p * n1 a ∧ a.q * n1 b = b.q * n1 a := by
            unfold n1
            unfold crossH at c
            cases hb : half1 b with
            | true =>
              rw [hb] at k
              exact par1 (half1_t.mp k) (half1_t.mp hb) c
            | false =>
              rw [hb] at k
              have := par1 ((half1_f za).mp k) ((half1_f zb).mp hb) (by grind)
              rw [absI_neg, absI_neg, absI_neg, absI_neg] at this
              constructor <;> grind
          exact hn (prim_eq pa pb p2 p1 key.1 key.2 er)
    · rw [if_pos (show crossH a b ≠ 0 from c), if_pos (show crossH b a ≠ 0 by omega)]
      rcases Int.lt_or_gt_of_ne c with z | z
      · exact .inr (decide_eq_true (by omega))
      · exact .inl (decide_eq_true z)
  · rw [if_pos (show half1 a ≠ half1 b from k), if_pos (show half1 b ≠ half1 a from fun z => k z.symm)]
    cases ha : half1 a with
    | true => exact .inl rfl
    | false =>
      cases hb : half1 b with
      | true => exact .inr rfl
      | false => rw [ha, hb] at k; exact absurd rfl k
/-! ### sorted lists -/
def pz (L : List HP) : Prop := ∀ h ∈ L, nz h ∧ prim h
abbrev srt (L : List HP) : Prop := L.Pairwise fun a b => beforeH a b = true
theorem uniq : ∀ (l m : List HP), srt l → srt m → (∀ x, x ∈ l ↔ x ∈ m) → l = m
  | [], [], _, _, _ => rfl
  | [], b :: s, _, _, h => by cases (h b).mpr (List.mem_cons_self ..)
  | a :: r, [], _, _, h => by cases (h a).mp (List.mem_cons_self ..)
  | a :: r, b :: s, h1, h2, h => by
    have g1 := List.pairwise_cons.mp h1
    have g2 := List.pairwise_cons.mp h2
    have irr : ∀ x : HP, ¬ beforeH x x = true := fun x hx => by
      have := bef_as hx
      rw [hx] at this
      cases this
    have eab : a = b := by
      by_cases z : a = b
      · exact z
      · exfalso
        have m1 : a ∈ s := by
          rcases List.mem_cons.mp ((h a).mp (List.mem_cons_self ..)) with y | y
          · exact absurd y z
          · exact y
        have m2 : b ∈ r := by
          rcases List.mem_cons.mp ((h b).mpr (List.mem_cons_self ..)) with y | y
          · exact absurd y.symm z
          · exact y
        have := bef_as (g1.1 b m2)
        rw [g2.1 a m1] at this
        cases this
    subst eab
    have := uniq r s g1.2 g2.2 fun x => ⟨fun hx => ?_, fun hx => ?_⟩
    · rw [this]
    · rcases List.mem_cons.mp ((h x).mp (List.mem_cons_of_mem _ hx)) with y | y
      · subst y; exact absurd (g1.1 _ hx) (irr _)
      · exact y
    · rcases List.mem_cons.mp ((h x).mpr (List.mem_cons_of_mem _ hx)) with y | y
      · subst y; exact absurd (g2.1 _ hx) (irr _)
      · exact y
theorem cutS : ∀ (found : List HP) (h : HP), srt found → anz found → nz h → (∀ g ∈ found.take (found.filter fun g => beforeH g h).length, beforeH g h = true) ∧ ∀ g ∈ found.drop (found.filter fun g => beforeH g h).length, beforeH g h = false
  | [], h, _, _, _ => ⟨fun g hg => (by cases hg), fun g hg => by cases hg⟩
  | a :: r, h, hs, hz, zh => by
    have g1 := List.pairwise_cons.mp hs
    have hzr : anz r := fun x hx => hz x (List.mem_cons_of_mem _ hx)
    cases e : beforeH a h with
    | true =>
      rw [List.filter_cons, e, if_pos rfl, List.length_cons, List.take_succ_cons, List.drop_succ_cons]
      obtain ⟨i1, i2⟩ := cutS r h g1.2 hzr zh
      refine ⟨fun g hg => ?_, i2⟩
      rcases List.mem_cons.mp hg with rfl | hg
      · exact e
      · exact i1 g hg
    | false =>
      have nb : ∀ g ∈ a :: r, beforeH g h = false := fun g hg => by
        rcases List.mem_cons.mp hg with rfl | hg'
        · exact e
        · cases k : beforeH g h with
          | false => rfl
          | true =>
            have := bef_tr (hz a (List.mem_cons_self ..)) (hzr g hg') zh (g1.1 g hg') k
            rw [e] at this
            cases this
      have e0 : (a :: r).filter (fun g => beforeH g h) = [] := List.filter_eq_nil_iff.mpr fun g hg => by rw [nb g hg]; decide
      rw [e0]
      exact ⟨fun g hg => (by cases hg), fun g hg => nb g hg⟩
theorem insS {found : List HP} {h : HP} (hs : srt found) (hp : pz found) (zh : nz h ∧ prim h) : srt (insH found h) := by
  unfold insH
  split
  · exact hs
  · rename_i hn
    obtain ⟨c1, c2⟩ := cutS found h hs (fun g hg => (hp g hg).1) zh.1
    dsimp only
    generalize (found.filter fun g => beforeH g h).length = k at *
    have hs' := hs
    rw [← List.take_append_drop k found] at hs'
    obtain ⟨s1, s2, s3⟩ := List.pairwise_append.mp hs'
    refine List.pairwise_append.mpr ⟨List.pairwise_append.mpr ⟨s1, List.pairwise_singleton .., fun a ha b hb => ?_⟩, s2, fun a ha b hb => ?_⟩
    · rw [List.mem_singleton.mp hb]
      exact c1 a ha
    · rcases List.mem_append.mp ha with ha | ha
      · exact s3 a ha b hb
      · rw [List.mem_singleton.mp ha]
        have mb := List.mem_of_mem_drop hb
        have := c2 b hb
        rcases bef_or zh.1 (hp b mb).1 zh.2 (hp b mb).2 (fun z => hn (z ▸ mb)) with z | z
        · exact z
        · rw [this] at z
          cases z
theorem ordF : ∀ (L found : List HP), srt found → pz found → pz L → srt (ordFrom found L) ∧ ∀ x, x ∈ ordFrom found L ↔ x ∈ found ∨ x ∈ L
  | [], found, hs, hp, _ => ⟨hs, fun x => ⟨.inl, fun h => h.elim id fun z => by cases z⟩⟩
  | h :: L, found, hs, hp, hL => by
    have hh := hL h (List.mem_cons_self ..)
    obtain ⟨i1, i2⟩ := ordF L (insH found h) (insS hs hp hh) (fun g hg => (insH_mem.mp hg).elim (hp g) fun z => z ▸ hh) fun g hg => hL g (List.mem_cons_of_mem _ hg)
    refine ⟨i1, fun x => ?_⟩
    show x ∈ ordFrom (insH found h) L ↔ _
    rw [i2, insH_mem, List.mem_cons]
    constructor
    · rintro ((h | h) | h)
      · exact .inl h
      · exact .inr (.inl h)
      · exact .inr (.inr h)
    · rintro (h | (h | h))
      · exact .inl (.inl h)
      · exact .inl (.inr h)
      · exact .inr h
theorem ord_srt {L : List HP} (h : pz L) : srt (ordH L) := (ordF L [] (List.Pairwise.nil) (fun x hx => by cases hx) h).1
theorem ord_in {L : List HP} (h : pz L) {x : HP} : x ∈ ordH L ↔ x ∈ L := by
  unfold ordH
  rw [(ordF L [] (List.Pairwise.nil) (fun x hx => by cases hx) h).2]
  constructor
  · rintro (h | h)
    · cases h
    · exact h
  · exact .inr
theorem ord_eq {L M : List HP} (h : pz L) (g : pz M) (e : ∀ x, x ∈ L ↔ x ∈ M) : ordH L = ordH M := uniq _ _ (ord_srt h) (ord_srt g) fun x => by rw [ord_in h, ord_in g, e]
theorem ord_rg {L : List HP} (h : pz L) {x : Ray} : rg (ordH L) x ↔ rg L x := ⟨fun k a ha => k a ((ord_in h).mpr ha), fun k a ha => k a ((ord_in h).mp ha)⟩
end RT
namespace RT
/-! ### what is implied, points within, facets -/
theorem imp_true {L : List HP} (hz : anz L) {h : HP} (e : impM L h = true) {x : Ray} (hx : rg L x) : evH h x ≤ (h.r : Rat) := by
  unfold impM at e
  rw [if_neg (by rw [emp_sound hz hx]; decide)] at e
  cases s : supM L (h.p : Rat) (h.q : Rat) with
  | none => rw [s] at e; cases e
  | some v =>
    rw [s] at e
    have := of_decide_eq_true e
    have := (sup_some hz hx s).1 x hx
    rw [fv_ev] at this
    grind
theorem imp_false {L : List HP} (hz : anz L) {h : HP} (e : impM L h = false) : ∃ y, rg L y ∧ (h.r : Rat) < evH h y := by
  unfold impM at e
  split at e
  · cases e
  · rename_i he
    obtain ⟨x0, h0⟩ := emp_ex hz (by simpa using he)
    cases s : supM L (h.p : Rat) (h.q : Rat) with
    | none =>
      obtain ⟨y, hy, hv⟩ := sup_none hz h0 s ((h.r : Rat) + 1)
      rw [fv_ev] at hv
      exact ⟨y, hy, by grind⟩
    | some v =>
      rw [s] at e
      have := of_decide_eq_false e
      obtain ⟨_, y, hy, hv⟩ := sup_some hz h0 s
      rw [fv_ev] at hv
      exact ⟨y, hy, by grind⟩
theorem imp_not {L : List HP} (hz : anz L) {h : HP} {y : Ray} (hy : rg L y) (hv : (h.r : Rat) < evH h y) : impM L h = false := by
  cases e : impM L h with
  | false => rfl
  | true =>
    have := imp_true hz e hy
    grind
abbrev mv (c d : Ray) (t : Rat) : Ray := (c.1 + t * d.1, c.2 + t * d.2)
theorem ev_mv (h : HP) (c d : Ray) (t : Rat) : evH h (mv c d t) = evH h c + t * evH h d := by
  unfold evH
  grind
abbrev ins (L : List HP) (c : Ray) : Prop := ∀ h ∈ L, evH h c < (h.r : Rat)
theorem ins_rg {L : List HP} {c : Ray} (h : ins L c) : rg L c := fun g hg => Rat.le_of_lt (h g hg)
/-- from a point within one can go a bit -/
theorem step : ∀ (L : List HP) (c d : Ray), ins L c → ∃ e : Rat, 0 < e ∧ ∀ t, 0 ≤ t → t ≤ e → ins L (mv c d t)
  | [], c, d, _ => ⟨1, by decide, fun t _ _ h hh => by cases hh⟩
  | h :: L, c, d, hi => by
    obtain ⟨e, he, hs⟩ := step L c d fun g hg => hi g (List.mem_cons_of_mem _ hg)
    have h0 := hi h (List.mem_cons_self ..)
    by_cases k : evH h d ≤ 0
    · refine ⟨e, he, fun t t0 t1 g hg => ?_⟩
      rcases List.mem_cons.mp hg with rfl | hg
      · rw [ev_mv]
        have := Rat.mul_nonneg t0 (show 0 ≤ - evH g d by grind)
        grind
      · exact hs t t0 t1 g hg
    · have kp : 0 < evH h d := by grind
      have kn : 2 * evH h d ≠ 0 := by grind
      have dv := Rat.div_mul_cancel (a := (h.r : Rat) - evH h c) kn
      generalize ((h.r : Rat) - evH h c) / (2 * evH h d) = f at *
      have f0 : 0 < f := by
        by_cases z : 0 < f
        · exact z
        · have := Rat.mul_nonneg (show 0 ≤ -f by grind) (Rat.le_of_lt kp)
          grind
      have fin : ∀ m : Rat, m ≤ e → m ≤ f → 0 < m → ∃ e : Rat, 0 < e ∧ ∀ t, 0 ≤ t → t ≤ e → ins (h :: L) (mv c d t) := fun m m1 m2 m0 => by
        refine ⟨m, m0, fun t t0 t1 g hg => ?_⟩
        rcases List.mem_cons.mp hg with rfl | hg
        · rw [ev_mv]
          have := Rat.mul_nonneg (show 0 ≤ f - t by grind) (Rat.le_of_lt kp)
          grind
        · exact hs t t0 (by grind) g hg
      by_cases z : e ≤ f
      · exact fin e Rat.le_refl z he
      · exact fin f (by grind) Rat.le_refl f0
theorem line_in {L : List HP} : ∀ (M : List HP), (∀ h, lineM L M = some h → h ∈ M ∧ infM L (h.p : Rat) (h.q : Rat) = some (h.r : Rat)) ∧ (lineM L M = none → ∀ h ∈ M, infM L (h.p : Rat) (h.q : Rat) ≠ some (h.r : Rat))
  | [] => ⟨fun h e => (by cases e), fun _ h hh => by cases hh⟩
  | g :: M => by
    obtain ⟨i1, i2⟩ := line_in (L := L) M
    unfold lineM
    split
    · rename_i e
      refine ⟨fun h k => ?_, fun k => by cases k⟩
      cases k
      exact ⟨List.mem_cons_self .., e⟩
    · rename_i e
      refine ⟨fun h k => ⟨List.mem_cons_of_mem _ (i1 h k).1, (i1 h k).2⟩, fun k h hh => ?_⟩
      rcases List.mem_cons.mp hh with rfl | hh
      · exact e
      · exact i2 k h hh
theorem line_on {L : List HP} (hz : anz L) {h : HP} (e : lineM L L = some h) : h ∈ L ∧ ∀ x, rg L x → evH h x = (h.r : Rat) := by
  obtain ⟨m, i⟩ := (line_in L).1 h e
  refine ⟨m, fun x hx => ?_⟩
  have a := (inf_some hz hx i).1 x hx
  have b := hx h m
  rw [fv_ev] at a
  exact Rat.le_antisymm b a
theorem mid_lt {h : HP} {x y : Ray} (hx : evH h x ≤ (h.r : Rat)) (hy : evH h y ≤ (h.r : Rat)) (hs : evH h x < (h.r : Rat) ∨ evH h y < (h.r : Rat)) : evH h ((x.1 + y.1) / 2, (x.2 + y.2) / 2) < (h.r : Rat) := by
  unfold evH at *
  rcases hs with hs | hs <;> grind
theorem within {L : List HP} (hz : anz L) {x0 : Ray} (h0 : rg L x0) (e : lineM L L = none) : ∃ c, ins L c := by
  have st : ∀ h ∈ L, ∃ x, rg L x ∧ evH h x < (h.r : Rat) := fun h hh => by
    have n := (line_in L).2 e h hh
    cases i : infM L (h.p : Rat) (h.q : Rat) with
    | none =>
      obtain ⟨x, hx, hv⟩ := inf_none hz h0 i ((h.r : Rat) - 1)
      rw [fv_ev] at hv
      exact ⟨x, hx, by grind⟩
    | some l =>
      obtain ⟨_, x, hx, hv⟩ := inf_some hz h0 i
      rw [fv_ev] at hv
      have := hx h hh
      refine ⟨x, hx, ?_⟩
      have : l ≠ (h.r : Rat) := fun z => n (by rw [i, z])
      grind
  have go : ∀ M : List HP, (∀ h ∈ M, h ∈ L) → ∃ c, rg L c ∧ ins M c := fun M => by
    induction M with
    | nil => exact fun _ => ⟨x0, h0, fun h hh => by cases hh⟩
    | cons h M ih =>
      intro hM
      obtain ⟨c, hc, hi⟩ := ih fun g hg => hM g (List.mem_cons_of_mem _ hg)
      have mh := hM h (List.mem_cons_self ..)
      obtain ⟨x, hx, hv⟩ := st h mh
      refine ⟨((c.1 + x.1) / 2, (c.2 + x.2) / 2), fun g hg => ?_, fun g hg => ?_⟩
      · have a := hc g hg
        have b := hx g hg
        unfold evH at *
        grind
      · rcases List.mem_cons.mp hg with rfl | hg
        · exact mid_lt (hc g mh) (hx g mh) (.inr hv)
        · exact mid_lt (hc g (hM g (List.mem_cons_of_mem _ hg))) (hx g (hM g (List.mem_cons_of_mem _ hg))) (.inl (hi g hg))
  obtain ⟨c, _, hc⟩ := go L fun _ h => h
  exact ⟨c, hc⟩
/-- two points on both lines: the same line -/
theorem same_line {g h : HP} (zg : nz g) (zh : nz h) (pg : prim g) (ph : prim h) {x y : Ray} (hn : x ≠ y) (g1 : evH g x = (g.r : Rat)) (g2 : evH g y = (g.r : Rat)) (h1 : evH h x = (h.r : Rat)) (h2 : evH h y = (h.r : Rat)) : g = h ∨ g = oppH h := by
  have dn : x.1 - y.1 ≠ 0 ∨ x.2 - y.2 ≠ 0 := by
    by_cases z : x.1 = y.1
    · refine .inr fun w => hn (Prod.ext z (by grind))
    · exact .inl (by grind)
  unfold evH at g1 g2 h1 h2
  have eg : (g.p : Rat) * (x.1 - y.1) + (g.q : Rat) * (x.2 - y.2) = 0 := by grind
  have eh : (h.p : Rat) * (x.1 - y.1) + (h.q : Rat) * (x.2 - y.2) = 0 := by grind
  have cr : (g.p : Rat) * h.q - (g.q : Rat) * h.p = 0 := by
    rcases dn with d | d
    · have : ((g.p : Rat) * h.q - (g.q : Rat) * h.p) * (x.1 - y.1) = 0 := by grind
      exact (Rat.mul_eq_zero.mp this).resolve_right d
    · have : ((g.p : Rat) * h.q - (g.q : Rat) * h.p) * (x.2 - y.2) = 0 := by grind
      exact (Rat.mul_eq_zero.mp this).resolve_right d
  have e1 : (g.p : Rat) * ((h.p : Rat) * h.p + (h.q : Rat) * h.q) = (h.p : Rat) * ((g.p : Rat) * h.p + (g.q : Rat) * h.q) := by grind
  have e2 : (g.q : Rat) * ((h.p : Rat) * h.p + (h.q : Rat) * h.q) = (h.q : Rat) * ((g.p : Rat) * h.p + (g.q : Rat) * h.q) := by grind
  have e3 : (g.r : Rat) * ((h.p : Rat) * h.p + (h.q : Rat) * h.q) = (h.r : Rat) * ((g.p : Rat) * h.p + (g.q : Rat) * h.q) := by
    rw [← g1, ← h1]
    grind
  have c1 : ((dotH h h : Int) : Rat) = (h.p : Rat) * h.p + (h.q : Rat) * h.q := dotR h
  have c2 : ((dotH g h : Int) : Rat) = (g.p : Rat) * h.p + (g.q : Rat) * h.q := by
    unfold dotH
    rw [Rat.intCast_add, Rat.intCast_mul, Rat.intCast_mul]
  rw [← c1, ← c2, ← Rat.intCast_mul, ← Rat.intCast_mul] at e1 e2 e3
  have e1 := Rat.intCast_inj.mp e1
  have e2 := Rat.intCast_inj.mp e2
  have e3 := Rat.intCast_inj.mp e3
  have d0 : 0 < dotH h h := by
    refine rpos.mp ?_
    rw [c1]
    exact nsq_pos (nzr zh)
  have k0 : dotH g h ≠ 0 := fun z => by
    rw [z] at e1 e2
    have a1 := (Int.mul_eq_zero.mp (show g.p * dotH h h = 0 by omega)).resolve_right (by omega)
    have a2 := (Int.mul_eq_zero.mp (show g.q * dotH h h = 0 by omega)).resolve_right (by omega)
    rcases zg with w | w
    · exact w a1
    · exact w a2
  have fin : ∀ {u v s : Int}, s ≠ 0 → u * s = v * s → u = v := fun hs h => Int.eq_of_mul_eq_mul_right hs h
  rcases prim_prop pg ph e1 e2 e3 with k | k
  · left
    rw [← k] at e1 e2 e3
    obtain ⟨p, q, r⟩ := g
    obtain ⟨p', q', r'⟩ := h
    have a := fin (by omega) e1
    have b := fin (by omega) e2
    have c := fin (by omega) e3
    dsimp only at a b c
    rw [a, b, c]
  · right
    have k' : dotH g h = - dotH h h := by omega
    rw [k'] at e1 e2 e3
    have a := fin (show dotH h h ≠ 0 by omega) (show g.p * dotH h h = (-h.p) * dotH h h by rw [e1]; grind)
    have b := fin (show dotH h h ≠ 0 by omega) (show g.q * dotH h h = (-h.q) * dotH h h by rw [e2]; grind)
    have c := fin (show dotH h h ≠ 0 by omega) (show g.r * dotH h h = (-h.r) * dotH h h by rw [e3]; grind)
    obtain ⟨p, q, r⟩ := g
    dsimp only at a b c
    unfold oppH
    rw [a, b, c]
structure Fct (R : Ray → Prop) (h : HP) : Prop where
  nz : nz h
  pr : prim h
  val : ∀ x, R x → evH h x ≤ (h.r : Rat)
  two : ∃ x y, x ≠ y ∧ R x ∧ R y ∧ evH h x = (h.r : Rat) ∧ evH h y = (h.r : Rat)
abbrev oth (L : List HP) (h : HP) : List HP := L.filter fun g => decide (g ≠ h)
theorem oth_mem {L : List HP} {g h : HP} : g ∈ oth L h ↔ g ∈ L ∧ g ≠ h := by
  unfold oth
  rw [List.mem_filter]
  simp
theorem oth_rg {L : List HP} {h : HP} {x : Ray} (h1 : rg (oth L h) x) (h2 : evH h x ≤ (h.r : Rat)) : rg L x := fun g hg => by
  by_cases z : g = h
  · rw [z]; exact h2
  · exact h1 g (oth_mem.mpr ⟨hg, z⟩)
theorem pz_anz {L : List HP} (h : pz L) : anz L := fun g hg => (h g hg).1
theorem oth_pz {L : List HP} (hp : pz L) (h : HP) : pz (oth L h) := fun g hg => hp g (oth_mem.mp hg).1
theorem fct1 {K : List HP} (hp : pz K) {c : Ray} (hc : ins K c) {h : HP} (hh : h ∈ K) (e : impM (oth K h) h = false) : Fct (rg K) h := by
  obtain ⟨zh, ph⟩ := hp h hh
  obtain ⟨y, hy, hv⟩ := imp_false (pz_anz (oth_pz hp h)) e
  have c0 := hc h hh
  have n0 : evH h y - evH h c ≠ 0 := by grind
  have dv := Rat.div_mul_cancel (a := (h.r : Rat) - evH h c) n0
  generalize ((h.r : Rat) - evH h c) / (evH h y - evH h c) = t at *
  have t0 : 0 < t := by
    by_cases z : 0 < t
    · exact z
    · have := Rat.mul_nonneg (show 0 ≤ -t by grind) (show 0 ≤ evH h y - evH h c by grind)
      grind
  have t1 : t < 1 := by
    by_cases z : t < 1
    · exact z
    · have := Rat.mul_nonneg (show 0 ≤ t - 1 by grind) (show 0 ≤ evH h y - evH h c by grind)
      grind
  have evz : ∀ g : HP, evH g (mv c (y.1 - c.1, y.2 - c.2) t) = evH g c + t * (evH g y - evH g c) := fun g => by
    rw [ev_mv]
    unfold evH
    grind
  generalize mv c (y.1 - c.1, y.2 - c.2) t = z at *
  have zr : evH h z = (h.r : Rat) := by rw [evz]; grind
  have zi : ins (oth K h) z := fun g hg => by
    rw [evz]
    have a := hc g (oth_mem.mp hg).1
    have b := hy g hg
    have := Rat.mul_pos (show 0 < 1 - t by grind) (show 0 < (g.r : Rat) - evH g c by grind)
    have := Rat.mul_nonneg (Rat.le_of_lt t0) (show 0 ≤ (g.r : Rat) - evH g y by grind)
    grind
  obtain ⟨s, hs, hst⟩ := step (oth K h) z (-(h.q : Rat), (h.p : Rat)) zi
  have wi := hst s (Rat.le_of_lt hs) Rat.le_refl
  have wr : evH h (mv z (-(h.q : Rat), (h.p : Rat)) s) = (h.r : Rat) := by
    rw [ev_mv, zr]
    unfold evH
    grind
  refine ⟨zh, ph, fun x hx => hx h hh, z, mv z (-(h.q : Rat), (h.p : Rat)) s, fun w => ?_, oth_rg (ins_rg zi) (by rw [zr]; exact Rat.le_refl), oth_rg (ins_rg wi) (by rw [wr]; exact Rat.le_refl), zr, wr⟩
  have w1 := congrArg Prod.fst w
  have w2 := congrArg Prod.snd w
  dsimp only at w1 w2
  rcases nzr zh with k | k
  · have : s * (h.p : Rat) = 0 := by grind
    exact k ((Rat.mul_eq_zero.mp this).resolve_left (by grind))
  · have : s * (h.q : Rat) = 0 := by grind
    exact k ((Rat.mul_eq_zero.mp this).resolve_left (by grind))
theorem fct2 {L : List HP} (hp : pz L) {c : Ray} (hc : ins L c) {h : HP} (F : Fct (rg L) h) : h ∈ L ∧ impM (oth L h) h = false := by
  obtain ⟨x, y, hn, hx, hy, ex, ey⟩ := F.two
  have zr : evH h ((x.1 + y.1) / 2, (x.2 + y.2) / 2) = (h.r : Rat) := by
    unfold evH at *
    grind
  have zi : ins (oth L h) ((x.1 + y.1) / 2, (x.2 + y.2) / 2) := fun g hg => by
    obtain ⟨mg, ng⟩ := oth_mem.mp hg
    have a := hx g mg
    have b := hy g mg
    by_cases k : evH g x < (g.r : Rat) ∨ evH g y < (g.r : Rat)
    · exact mid_lt a b k
    · have a' : evH g x = (g.r : Rat) := by grind
      have b' : evH g y = (g.r : Rat) := by grind
      rcases same_line (hp g mg).1 F.nz (hp g mg).2 F.pr hn a' b' ex ey with e | e
      · exact absurd e ng
      · exfalso
        have k1 := hc g mg
        have k2 := F.val c (ins_rg hc)
        rw [e] at k1
        unfold evH oppH at k1
        unfold evH at k2
        dsimp only at k1
        rw [Rat.intCast_neg, Rat.intCast_neg, Rat.intCast_neg] at k1
        grind
  obtain ⟨s, hs, hst⟩ := step (oth L h) _ ((h.p : Rat), (h.q : Rat)) zi
  have wi := hst s (Rat.le_of_lt hs) Rat.le_refl
  have wr : (h.r : Rat) < evH h (mv ((x.1 + y.1) / 2, (x.2 + y.2) / 2) ((h.p : Rat), (h.q : Rat)) s) := by
    rw [ev_mv, zr]
    have := Rat.mul_pos hs (nsq_pos (nzr F.nz))
    unfold evH
    dsimp only
    grind
  refine ⟨?_, imp_not (pz_anz (oth_pz hp h)) (ins_rg wi) wr⟩
  by_cases m : h ∈ L
  · exact m
  · exfalso
    have : rg L (mv ((x.1 + y.1) / 2, (x.2 + y.2) / 2) ((h.p : Rat), (h.q : Rat)) s) := fun g hg => ins_rg wi g (oth_mem.mpr ⟨hg, fun z => m (z ▸ hg)⟩)
    have := F.val _ this
    grind
/-- enough half-planes, none too many -/
theorem fewest : ∀ (n : Nat) (K : List HP), K.length ≤ n → pz K → ∃ J, (∀ h ∈ J, h ∈ K) ∧ (∀ x, rg J x ↔ rg K x) ∧ ∀ h ∈ J, impM (oth J h) h = false
  | 0, K, hn, _ => ⟨K, fun _ h => h, fun _ => Iff.rfl, fun h hh => by
      have : K = [] := List.length_eq_zero_iff.mp (by omega)
      subst this
      cases hh⟩
  | n + 1, K, hn, hp => by
    by_cases k : ∃ h, h ∈ K ∧ impM (oth K h) h = true
    · obtain ⟨h, hh, e⟩ := k
      have hl : (oth K h).length < K.length := by
        show (K.filter fun g => decide (g ≠ h)).length < K.length
        have : (K.filter fun g => decide (g ≠ h)).length ≠ K.length := fun z => by
          have := List.length_filter_eq_length_iff.mp z h hh
          simp at this
        have := List.length_filter_le (fun g => decide (g ≠ h)) K
        omega
      obtain ⟨J, j1, j2, j3⟩ := fewest n (oth K h) (by omega) (oth_pz hp h)
      refine ⟨J, fun g hg => (oth_mem.mp (j1 g hg)).1, fun x => (j2 x).trans ⟨fun hx => oth_rg hx (imp_true (pz_anz (oth_pz hp h)) e hx), fun hx g hg => hx g (oth_mem.mp hg).1⟩, j3⟩
    · refine ⟨K, fun _ h => h, fun _ => Iff.rfl, fun h hh => ?_⟩
      cases e : impM (oth K h) h with
      | false => rfl
      | true => exact absurd ⟨h, hh, e⟩ k
theorem nee_mem {L : List HP} (hp : pz L) {c : Ray} (hc : ins L c) {h : HP} : h ∈ neeM L ↔ Fct (rg L) h := by
  have hp' : pz (ordH L) := fun g hg => hp g ((ord_in hp).mp hg)
  have hc' : ins (ordH L) c := fun g hg => hc g ((ord_in hp).mp hg)
  have er : ∀ x, rg (ordH L) x ↔ rg L x := fun x => ord_rg hp
  unfold neeM
  rw [List.mem_filter]
  constructor
  · rintro ⟨m, e⟩
    have e2 : (!impM (oth (ordH L) h) h) = true := e
    have F := fct1 hp' hc' m (by rw [Bool.not_eq_true'] at e2; exact e2)
    obtain ⟨x, y, a, b, c, d, e⟩ := F.two
    exact ⟨F.nz, F.pr, fun x hx => F.val x ((er x).mpr hx), x, y, a, (er x).mp b, (er y).mp c, d, e⟩
  · intro F
    obtain ⟨x, y, a, b, c, d, e⟩ := F.two
    have F' : Fct (rg (ordH L)) h := ⟨F.nz, F.pr, fun x hx => F.val x ((er x).mp hx), x, y, a, (er x).mpr b, (er y).mpr c, d, e⟩
    obtain ⟨m, e⟩ := fct2 hp' hc' F'
    refine ⟨m, ?_⟩
    show (!impM (oth (ordH L) h) h) = true
    rw [e]
    rfl
theorem nee_rg {L : List HP} (hp : pz L) {c : Ray} (hc : ins L c) {x : Ray} : rg (neeM L) x ↔ rg L x := by
  constructor
  · intro hx
    obtain ⟨J, j1, j2, j3⟩ := fewest L.length L (Nat.le_refl _) hp
    refine (j2 x).mp fun h hh => hx h ((nee_mem hp hc).mpr ?_)
    have F := fct1 (fun g hg => hp g (j1 g hg)) (fun g hg => hc g (j1 g hg)) hh (j3 h hh)
    obtain ⟨x, y, a, b, c, d, e⟩ := F.two
    exact ⟨F.nz, F.pr, fun x hx => F.val x ((j2 x).mpr hx), x, y, a, (j2 x).mp b, (j2 y).mp c, d, e⟩
  · intro hx h hh
    exact hx h ((ord_in hp).mp (List.mem_filter.mp hh).1)
theorem nee_eq {L M : List HP} (hp : pz L) (hq : pz M) {c c' : Ray} (hc : ins L c) (hc' : ins M c') (e : ∀ x, rg L x ↔ rg M x) : neeM L = neeM M := by
  have er : rg L = rg M := funext fun x => propext (e x)
  refine uniq _ _ (List.Pairwise.filter _ (ord_srt hp)) (List.Pairwise.filter _ (ord_srt hq)) fun h => ?_
  show h ∈ neeM L ↔ h ∈ neeM M
  rw [nee_mem hp hc, nee_mem hq hc', er]
end RT
namespace RT
/-! ### canonical forms: what they stand for -/
theorem sup_cong {L M : List HP} (hz : anz L) (hm : anz M) {x0 : Ray} (h0 : rg L x0) (e : ∀ x, rg L x ↔ rg M x) (p q : Rat) : supM L p q = supM M p q := by
  have h0' := (e x0).mp h0
  cases a : supM L p q with
  | none =>
    cases b : supM M p q with
    | none => rfl
    | some v =>
      obtain ⟨x, hx, hv⟩ := sup_none hz h0 a (v + 1)
      have := (sup_some hm h0' b).1 x ((e x).mp hx)
      grind
  | some u =>
    obtain ⟨a1, x, hx, hv⟩ := sup_some hz h0 a
    cases b : supM M p q with
    | none =>
      obtain ⟨y, hy, hw⟩ := sup_none hm h0' b (u + 1)
      have := a1 y ((e y).mpr hy)
      grind
    | some v =>
      obtain ⟨b1, y, hy, hw⟩ := sup_some hm h0' b
      have c1 := a1 y ((e y).mpr hy)
      have c2 := b1 x ((e x).mp hx)
      have : u = v := by grind
      rw [this]
theorem inf_cong {L M : List HP} (hz : anz L) (hm : anz M) {x0 : Ray} (h0 : rg L x0) (e : ∀ x, rg L x ↔ rg M x) (p q : Rat) : infM L p q = infM M p q := by
  unfold infM
  rw [sup_cong hz hm h0 e]
theorem emp_cong {L M : List HP} (hz : anz L) (hm : anz M) (e : ∀ x, rg L x ↔ rg M x) : empM L = empM M := by
  cases a : empM L with
  | true =>
    cases b : empM M with
    | true => rfl
    | false =>
      obtain ⟨x, hx⟩ := emp_ex hm b
      exact absurd ((e x).mpr hx) (emp_none hz a x)
  | false =>
    obtain ⟨x, hx⟩ := emp_ex hz a
    rw [emp_sound hm ((e x).mp hx)]
/-- three corners within -/
theorem wide {L : List HP} {c : Ray} (hc : ins L c) : ∃ s t : Rat, 0 < s ∧ 0 < t ∧ rg L (c.1 + s, c.2) ∧ rg L (c.1, c.2 + t) := by
  obtain ⟨s, hs, h1⟩ := step L c (1, 0) hc
  obtain ⟨t, ht, h2⟩ := step L c (0, 1) hc
  have a := ins_rg (h1 s (Rat.le_of_lt hs) Rat.le_refl)
  have b := ins_rg (h2 t (Rat.le_of_lt ht) Rat.le_refl)
  have ea : mv c (1, 0) s = (c.1 + s, c.2) := by unfold mv; exact Prod.ext (by grind) (by grind)
  have eb : mv c (0, 1) t = (c.1, c.2 + t) := by unfold mv; exact Prod.ext (by grind) (by grind)
  rw [ea] at a
  rw [eb] at b
  exact ⟨s, t, hs, ht, a, b⟩
/-- not all on one line -/
theorem not_line {L : List HP} {c : Ray} (hc : ins L c) {h : HP} (zh : nz h) : ∃ x, rg L x ∧ evH h x ≠ (h.r : Rat) := by
  obtain ⟨s, t, hs, ht, a, b⟩ := wide hc
  by_cases k0 : evH h c = (h.r : Rat)
  · by_cases k1 : evH h (c.1 + s, c.2) = (h.r : Rat)
    · refine ⟨_, b, fun k2 => ?_⟩
      unfold evH at k0 k1 k2
      dsimp only at k0 k1 k2
      have e1 : (h.p : Rat) * s = 0 := by grind
      have e2 : (h.q : Rat) * t = 0 := by grind
      rcases nzr zh with z | z
      · exact z ((Rat.mul_eq_zero.mp e1).resolve_right (by grind))
      · exact z ((Rat.mul_eq_zero.mp e2).resolve_right (by grind))
    · exact ⟨_, a, k1⟩
  · exact ⟨_, ins_rg hc, k0⟩
theorem area_cong {L M : List HP} (hz : anz L) (hm : anz M) {x0 : Ray} (h0 : rg L x0) (e : ∀ x, rg L x ↔ rg M x) (a : lineM L L = none) : lineM M M = none := by
  cases b : lineM M M with
  | none => rfl
  | some h =>
    obtain ⟨c, hc⟩ := within hz h0 a
    obtain ⟨m, on⟩ := line_on hm b
    obtain ⟨x, hx, hv⟩ := not_line hc (hm h m)
    exact absurd (on x ((e x).mp hx)) hv
/-- the kind on a line, by its direction -/
def kdD (L : List HP) (p q : Rat) : Kd := match infM L p q, supM L p q with
    | none, none => .line
    | none, some _ => .halfLine
    | some _, none => .halfLine
    | some l, some u => if l = u then .point else .segment
theorem kind_of {L : List HP} {h : HP} (he : empM L = false) (hl : lineM L L = some h) : kindM L = kdD L ((-h.q : Int) : Rat) (h.p : Rat) := by
  unfold kindM
  rw [if_neg (by rw [he]; decide), hl]
  rfl
theorem kdD_neg (L : List HP) (p q : Rat) : kdD L (-p) (-q) = kdD L p q := by
  have n2 : ∀ r : Rat, - -r = r := fun r => by grind
  unfold kdD infM
  rw [n2, n2]
  cases a : supM L p q with
  | none =>
    cases b : supM L (-p) (-q) with
    | none => rfl
    | some v => rfl
  | some u =>
    cases b : supM L (-p) (-q) with
    | none => rfl
    | some v =>
      dsimp only [Option.map]
      by_cases k : -u = v
      · rw [if_pos k, if_pos (by grind)]
      · rw [if_neg k, if_neg (by grind)]
theorem kdD_cong {L M : List HP} (hz : anz L) (hm : anz M) {x0 : Ray} (h0 : rg L x0) (e : ∀ x, rg L x ↔ rg M x) (p q : Rat) : kdD L p q = kdD M p q := by
  unfold kdD
  rw [inf_cong hz hm h0 e, sup_cong hz hm h0 e]
/-- a single point -/
theorem kdD_pt {L : List HP} (hz : anz L) {x0 : Ray} (h0 : rg L x0) {h : HP} (zh : nz h) (on : ∀ x, rg L x → evH h x = (h.r : Rat)) : kdD L ((-h.q : Int) : Rat) (h.p : Rat) = .point ↔ ∀ x, rg L x → x = x0 := by
  rw [Rat.intCast_neg]
  constructor
  · intro k x hx
    unfold kdD at k
    split at k
    · cases k
    · cases k
    · cases k
    · rename_i l u i s
      split at k
      · rename_i lu
        subst lu
        have a1 := (inf_some hz h0 i).1 x hx
        have a2 := (sup_some hz h0 s).1 x hx
        have b1 := (inf_some hz h0 i).1 x0 h0
        have b2 := (sup_some hz h0 s).1 x0 h0
        have o1 := on x hx
        have o2 := on x0 h0
        unfold fv at a1 a2 b1 b2
        unfold evH at o1 o2
        have N := nsq_pos (nzr zh)
        have d1 : (h.p : Rat) * (x.1 - x0.1) + (h.q : Rat) * (x.2 - x0.2) = 0 := by grind
        have d2 : -(h.q : Rat) * (x.1 - x0.1) + (h.p : Rat) * (x.2 - x0.2) = 0 := by grind
        have m1 : ((h.p : Rat) * h.p + (h.q : Rat) * h.q) * (x.1 - x0.1) = 0 := by grind
        have m2 : ((h.p : Rat) * h.p + (h.q : Rat) * h.q) * (x.2 - x0.2) = 0 := by grind
        have N0 : (h.p : Rat) * h.p + (h.q : Rat) * h.q ≠ 0 := by grind
        have y1 := (Rat.mul_eq_zero.mp m1).resolve_left N0
        have y2 := (Rat.mul_eq_zero.mp m2).resolve_left N0
        exact Prod.ext (by grind) (by grind)
      · cases k
  · intro k
    unfold kdD
    cases i : infM L (-(h.q : Rat)) (h.p : Rat) with
    | none =>
      obtain ⟨y, hy, hv⟩ := inf_none hz h0 i (fv (-(h.q : Rat)) (h.p : Rat) x0 - 1)
      rw [k y hy] at hv
      grind
    | some l =>
      cases s : supM L (-(h.q : Rat)) (h.p : Rat) with
      | none =>
        obtain ⟨y, hy, hv⟩ := sup_none hz h0 s (fv (-(h.q : Rat)) (h.p : Rat) x0 + 1)
        rw [k y hy] at hv
        grind
      | some u =>
        obtain ⟨_, y, hy, hv⟩ := inf_some hz h0 i
        obtain ⟨_, z, hz', hw⟩ := sup_some hz h0 s
        rw [k y hy] at hv
        rw [k z hz'] at hw
        dsimp only
        rw [if_pos (by grind)]
/-- the line's half-plane is told by two points -/
theorem line_pm {L M : List HP} (hp : pz L) (hq : pz M) (e : ∀ x, rg L x ↔ rg M x) {h g : HP} (a : lineM L L = some h) (b : lineM M M = some g) {x y : Ray} (hx : rg L x) (hy : rg L y) (hn : x ≠ y) : g = h ∨ g = oppH h := by
  obtain ⟨m1, o1⟩ := line_on (pz_anz hp) a
  obtain ⟨m2, o2⟩ := line_on (pz_anz hq) b
  exact same_line (hq g m2).1 (hp h m1).1 (hq g m2).2 (hp h m1).2 hn (o2 x ((e x).mp hx)) (o2 y ((e y).mp hy)) (o1 x hx) (o1 y hy)
theorem prim_opp {h : HP} (ph : prim h) : prim (oppH h) := by
  unfold prim oppH at *
  dsimp only
  rw [Int.gcd_neg, Int.neg_gcd, Int.gcd_neg]
  exact ph
theorem nz_opp {h : HP} (zh : nz h) : nz (oppH h) := by
  unfold nz oppH at *
  dsimp only
  omega
theorem opp_opp (h : HP) : oppH (oppH h) = h := by
  obtain ⟨p, q, r⟩ := h
  unfold oppH
  dsimp only
  rw [Int.neg_neg, Int.neg_neg, Int.neg_neg]
theorem pz2 {h : HP} (zh : nz h) (ph : prim h) : pz [h, oppH h] := fun g hg => by
  rcases List.mem_cons.mp hg with rfl | hg
  · exact ⟨zh, ph⟩
  · rcases List.mem_cons.mp hg with rfl | hg
    · exact ⟨nz_opp zh, prim_opp ph⟩
    · cases hg
/-- the carrier: the same for both signs -/
theorem car_pm {L M : List HP} {h g : HP} (zh : nz h) (ph : prim h) (a : lineM L L = some h) (b : lineM M M = some g) (k : g = h ∨ g = oppH h) : carM L = carM M := by
  unfold carM
  rw [a, b]
  dsimp only
  rcases k with rfl | rfl
  · rfl
  · rw [opp_opp]
    have : ordH [h, oppH h] = ordH [oppH h, h] := by
      refine ord_eq (pz2 zh ph) ?_ fun x => ?_
      · have := pz2 (nz_opp zh) (prim_opp ph)
        rw [opp_opp] at this
        exact this
      · simp only [List.mem_cons, List.not_mem_nil, or_false]
        exact Or.comm
    rw [this]
theorem car_in {L : List HP} (hp : pz L) {h : HP} (a : lineM L L = some h) : (carM L = h ∨ carM L = oppH h) := by
  obtain ⟨m1, o1⟩ := line_on (pz_anz hp) a
  obtain ⟨zh, ph⟩ := hp h m1
  unfold carM
  rw [a]
  dsimp only
  have mm : h ∈ ordH [h, oppH h] := (ord_in (pz2 zh ph)).mpr (List.mem_cons_self ..)
  have all := fun x hx => (ord_in (pz2 zh ph) (x := x)).mp hx
  generalize ordH [h, oppH h] = O at *
  cases O with
  | nil => cases mm
  | cons c r =>
    show c = h ∨ c = oppH h
    have := all c (List.mem_cons_self ..)
    simpa using this
theorem car_on {L : List HP} (hp : pz L) {h : HP} (a : lineM L L = some h) : nz (carM L) ∧ prim (carM L) ∧ ∀ x, rg L x → evH (carM L) x = ((carM L).r : Rat) := by
  obtain ⟨m1, o1⟩ := line_on (pz_anz hp) a
  obtain ⟨zh, ph⟩ := hp h m1
  rcases car_in hp a with e | e
  · rw [e]
    exact ⟨zh, ph, o1⟩
  · rw [e]
    refine ⟨nz_opp zh, prim_opp ph, fun x hx => ?_⟩
    have := o1 x hx
    unfold oppH evH at *
    dsimp only
    rw [Rat.intCast_neg, Rat.intCast_neg, Rat.intCast_neg]
    grind
theorem end_rg {L : List HP} {x y : Int} (h0 : (x : Rat) ≠ 0 ∨ (y : Rat) ≠ 0) {z : Ray} : rg (endM L x y) z ↔ ∀ v, supM L (x : Rat) (y : Rat) = some v → fv x y z ≤ v := by
  unfold endM
  cases s : supM L (x : Rat) (y : Rat) with
  | none => exact ⟨fun _ v hv => (by cases hv), fun _ => rg_nil⟩
  | some v =>
    dsimp only
    rw [rg_cons, mk_le h0]
    exact ⟨fun k w hw => (by cases hw; exact k.1), fun k => ⟨k v rfl, rg_nil⟩⟩
theorem end_pz {L : List HP} {x y : Int} (h0 : (x : Rat) ≠ 0 ∨ (y : Rat) ≠ 0) : pz (endM L x y) := by
  unfold endM
  cases s : supM L (x : Rat) (y : Rat) with
  | none => exact fun h hh => by cases hh
  | some v =>
    intro h hh
    rw [List.mem_singleton.mp hh]
    obtain ⟨_, _, _, _, _, _, _, pr⟩ := mkH_s (r := v) h0
    exact ⟨mkH_nz _ h0, pr⟩
theorem pz_app {L M : List HP} (h : pz L) (g : pz M) : pz (L ++ M) := fun a ha => (List.mem_append.mp ha).elim (h a) (g a)
/-- the direction of a carrier -/
theorem dir_nz {l : HP} (zl : nz l) : ∃ k : Rat, 0 < k ∧ (((-l.q).fdiv (Int.gcd l.p l.q : Nat) : Int) : Rat) * k = -(l.q : Rat) ∧ ((l.p.fdiv (Int.gcd l.p l.q : Nat) : Int) : Rat) * k = (l.p : Rat) := by
  have g0 : (0 : Int) < (Int.gcd l.p l.q : Nat) := by
    have : Int.gcd l.p l.q ≠ 0 := fun z => by
      have := Int.gcd_eq_zero_iff.mp z
      rcases zl with h | h
      · exact h this.1
      · exact h this.2
    omega
  have d1 : ((Int.gcd l.p l.q : Nat) : Int) ∣ -l.q := Int.dvd_neg.mpr (Int.gcd_dvd_right ..)
  have d2 : ((Int.gcd l.p l.q : Nat) : Int) ∣ l.p := Int.gcd_dvd_left ..
  have e1 := fdiv_ex g0 d1
  have e2 := fdiv_ex g0 d2
  refine ⟨((Int.gcd l.p l.q : Nat) : Int), rpos.mpr g0, ?_, ?_⟩
  · rw [← Rat.intCast_mul, e1, Rat.intCast_neg]
  · rw [← Rat.intCast_mul, e2]
theorem lp_rg {L : List HP} (hp : pz L) {h : HP} (a : lineM L L = some h) {x0 : Ray} (h0 : rg L x0) {x : Ray} : rg (lpM L) x ↔ rg L x := by
  obtain ⟨zl, pl, on⟩ := car_on hp a
  have hz := pz_anz hp
  unfold lpM
  dsimp only
  generalize carM L = l at *
  obtain ⟨k, k0, e1, e2⟩ := dir_nz zl
  generalize (-l.q).fdiv (Int.gcd l.p l.q : Nat) = X at *
  generalize l.p.fdiv (Int.gcd l.p l.q : Nat) = Y at *
  have XY : (X : Rat) ≠ 0 ∨ (Y : Rat) ≠ 0 := by
    rcases nzr zl with z | z
    · exact .inr fun y => z (by rw [← e2, y]; grind)
    · refine .inl fun y => z ?_
      rw [y] at e1
      grind
  have c1 : ((X * 1 : Int) : Rat) = X ∧ ((Y * 1 : Int) : Rat) = Y := by
    rw [Int.mul_one, Int.mul_one]
    exact ⟨rfl, rfl⟩
  have c2 : ((X * -1 : Int) : Rat) = -X ∧ ((Y * -1 : Int) : Rat) = -Y := by
    rw [Int.mul_neg_one, Int.mul_neg_one, Rat.intCast_neg, Rat.intCast_neg]
    exact ⟨rfl, rfl⟩
  have n1 : ((X * 1 : Int) : Rat) ≠ 0 ∨ ((Y * 1 : Int) : Rat) ≠ 0 := by rw [c1.1, c1.2]; exact XY
  have n2 : ((X * -1 : Int) : Rat) ≠ 0 ∨ ((Y * -1 : Int) : Rat) ≠ 0 := by rw [c2.1, c2.2]; exact neg_or XY
  rw [ord_rg (pz_app (pz_app (pz2 zl pl) (end_pz n1)) (end_pz n2)), rg_app, rg_app, end_rg n1, end_rg n2, c1.1, c1.2, c2.1, c2.2]
  have two : rg [l, oppH l] x ↔ evH l x = (l.r : Rat) := by
    rw [rg_cons, rg_cons]
    unfold evH oppH
    dsimp only
    rw [Rat.intCast_neg, Rat.intCast_neg, Rat.intCast_neg]
    constructor
    · rintro ⟨a, b, _⟩
      grind
    · intro h
      exact ⟨by grind, by grind, rg_nil⟩
  rw [two]
  constructor
  · rintro ⟨⟨ol, u1⟩, u2⟩
    have bnd := val_ex hz h0 (p := (X : Rat)) (q := (Y : Rat)) (v := fv X Y x) (fun w hw => ?_) u1
    · obtain ⟨z, hz1, hz2⟩ := bnd
      have oz := on z hz1
      have ezx : z = x := by
        unfold fv at hz2
        unfold evH at oz ol
        have N := nsq_pos (nzr zl)
        have d1 : (l.p : Rat) * (z.1 - x.1) + (l.q : Rat) * (z.2 - x.2) = 0 := by grind
        have d0 : (X : Rat) * (z.1 - x.1) + (Y : Rat) * (z.2 - x.2) = 0 := by grind
        have d2 : -(l.q : Rat) * (z.1 - x.1) + (l.p : Rat) * (z.2 - x.2) = 0 := by
          rw [← e1, ← e2]
          have : k * ((X : Rat) * (z.1 - x.1) + (Y : Rat) * (z.2 - x.2)) = 0 := by rw [d0]; grind
          grind
        have m1 : ((l.p : Rat) * l.p + (l.q : Rat) * l.q) * (z.1 - x.1) = 0 := by grind
        have m2 : ((l.p : Rat) * l.p + (l.q : Rat) * l.q) * (z.2 - x.2) = 0 := by grind
        have N0 : (l.p : Rat) * l.p + (l.q : Rat) * l.q ≠ 0 := by grind
        have y1 := (Rat.mul_eq_zero.mp m1).resolve_left N0
        have y2 := (Rat.mul_eq_zero.mp m2).resolve_left N0
        exact Prod.ext (by grind) (by grind)
      rw [← ezx]
      exact hz1
    · unfold infM at hw
      cases s : supM L (-(X : Rat)) (-(Y : Rat)) with
      | none => rw [s] at hw; cases hw
      | some v =>
        rw [s] at hw
        cases hw
        have := u2 v s
        unfold fv at *
        grind
  · intro hx
    exact ⟨⟨on x hx, fun v hv => (sup_some hz h0 hv).1 x hx⟩, fun v hv => (sup_some hz h0 hv).1 x hx⟩
theorem end_cong {L M : List HP} (hz : anz L) (hm : anz M) {x0 : Ray} (h0 : rg L x0) (e : ∀ x, rg L x ↔ rg M x) (x y : Int) : endM L x y = endM M x y := by
  unfold endM
  rw [sup_cong hz hm h0 e]
theorem lp_cong {L M : List HP} (hz : anz L) (hm : anz M) {x0 : Ray} (h0 : rg L x0) (e : ∀ x, rg L x ↔ rg M x) (c : carM L = carM M) : lpM L = lpM M := by
  unfold lpM
  rw [c]
  dsimp only
  rw [end_cong hz hm h0 e, end_cong hz hm h0 e]
end RT
namespace RT
/-! ### canonical forms are equal: the trains answer alike -/
def nearL (l : HP) : Ray := ((l.p * l.r : Int) / ((l.p * l.p + l.q * l.q : Int) : Rat), (l.q * l.r : Int) / ((l.p * l.p + l.q * l.q : Int) : Rat))
def farL (l : HP) : Ray := ((nearL l).1 + ((-l.q : Int) : Rat), (nearL l).2 + (l.p : Rat))
theorem ch_line {L : List HP} (h1 : kindM L ≠ .empty) (h2 : kindM L ≠ .area) (h3 : kindM L ≠ .point) : chM L = lpM L ∧ brM L = [nearL (carM L), farL (carM L)] := by
  unfold chM brM
  cases e : kindM L with
  | empty => exact absurd e h1
  | area => exact absurd e h2
  | point => exact absurd e h3
  | _ => exact ⟨rfl, rfl⟩
theorem kdD_ne (L : List HP) (p q : Rat) : kdD L p q ≠ .empty ∧ kdD L p q ≠ .area := by
  unfold kdD
  split
  · exact ⟨fun z => (by cases z), fun z => (by cases z)⟩
  · exact ⟨fun z => (by cases z), fun z => (by cases z)⟩
  · exact ⟨fun z => (by cases z), fun z => (by cases z)⟩
  · split
    · exact ⟨fun z => (by cases z), fun z => (by cases z)⟩
    · exact ⟨fun z => (by cases z), fun z => (by cases z)⟩
theorem kind_cs (L : List HP) : (empM L = true ∧ kindM L = .empty) ∨ (empM L = false ∧ lineM L L = none ∧ kindM L = .area) ∨ (empM L = false ∧ ∃ h, lineM L L = some h ∧ kindM L = kdD L ((-h.q : Int) : Rat) (h.p : Rat)) := by
  cases e : empM L with
  | true =>
    refine .inl ⟨rfl, ?_⟩
    unfold kindM
    rw [if_pos e]
  | false =>
    cases l : lineM L L with
    | none =>
      refine .inr (.inl ⟨rfl, rfl, ?_⟩)
      unfold kindM
      rw [if_neg (by rw [e]; decide), l]
    | some h => exact .inr (.inr ⟨rfl, h, rfl, kind_of e l⟩)
theorem near_on {l : HP} (zl : nz l) : evH l (nearL l) = (l.r : Rat) ∧ evH l (farL l) = (l.r : Rat) ∧ nearL l ≠ farL l := by
  have c : ((l.p * l.p + l.q * l.q : Int) : Rat) = (l.p : Rat) * l.p + (l.q : Rat) * l.q := by rw [Rat.intCast_add, Rat.intCast_mul, Rat.intCast_mul]
  have N := nsq_pos (nzr zl)
  have N0 : (l.p : Rat) * l.p + (l.q : Rat) * l.q ≠ 0 := by grind
  have d1 := Rat.div_mul_cancel (a := ((l.p * l.r : Int) : Rat)) N0
  have d2 := Rat.div_mul_cancel (a := ((l.q * l.r : Int) : Rat)) N0
  have e1 : evH l (nearL l) = (l.r : Rat) := by
    unfold evH nearL
    dsimp only
    rw [c]
    rw [Rat.intCast_mul] at d1 d2 ⊢
    rw [Rat.intCast_mul]
    generalize (l.p : Rat) * (l.r : Rat) / ((l.p : Rat) * l.p + (l.q : Rat) * l.q) = u at *
    generalize (l.q : Rat) * (l.r : Rat) / ((l.p : Rat) * l.p + (l.q : Rat) * l.q) = v at *
    have : ((l.p : Rat) * u + (l.q : Rat) * v - (l.r : Rat)) * ((l.p : Rat) * l.p + (l.q : Rat) * l.q) = 0 := by grind
    have := (Rat.mul_eq_zero.mp this).resolve_right N0
    grind
  refine ⟨e1, ?_, fun z => ?_⟩
  · rw [← e1]
    unfold farL evH
    dsimp only
    rw [Rat.intCast_neg]
    grind
  · have z1 := congrArg Prod.fst z
    have z2 := congrArg Prod.snd z
    unfold farL at z1 z2
    dsimp only at z1 z2
    rw [Rat.intCast_neg] at z1
    rcases nzr zl with k | k
    · exact k (by grind)
    · exact k (by grind)
theorem on_line {l : HP} (zl : nz l) {x y z : Ray} (hn : x ≠ y) (hx : evH l x = (l.r : Rat)) (hy : evH l y = (l.r : Rat)) (hz : evH l z = (l.r : Rat)) : ∃ t : Rat, z = (x.1 + t * (y.1 - x.1), x.2 + t * (y.2 - x.2)) := by
  unfold evH at hx hy hz
  have ex : (l.p : Rat) * (y.1 - x.1) + (l.q : Rat) * (y.2 - x.2) = 0 := by grind
  have ez : (l.p : Rat) * (z.1 - x.1) + (l.q : Rat) * (z.2 - x.2) = 0 := by grind
  have cr : (y.1 - x.1) * (z.2 - x.2) - (y.2 - x.2) * (z.1 - x.1) = 0 := by
    rcases nzr zl with k | k
    · have : (l.p : Rat) * ((y.1 - x.1) * (z.2 - x.2) - (y.2 - x.2) * (z.1 - x.1)) = 0 := by grind
      exact (Rat.mul_eq_zero.mp this).resolve_left k
    · have : (l.q : Rat) * ((y.1 - x.1) * (z.2 - x.2) - (y.2 - x.2) * (z.1 - x.1)) = 0 := by grind
      exact (Rat.mul_eq_zero.mp this).resolve_left k
  by_cases k : y.1 - x.1 = 0
  · have k2 : y.2 - x.2 ≠ 0 := fun w => hn (Prod.ext (by grind) (by grind))
    have d := Rat.div_mul_cancel (a := z.2 - x.2) k2
    refine ⟨(z.2 - x.2) / (y.2 - x.2), ?_⟩
    generalize (z.2 - x.2) / (y.2 - x.2) = t at *
    have : (y.2 - x.2) * (z.1 - x.1) = 0 := by rw [k] at cr; grind
    have := (Rat.mul_eq_zero.mp this).resolve_left k2
    exact Prod.ext (by dsimp only; rw [k]; grind) (by dsimp only; grind)
  · have d := Rat.div_mul_cancel (a := z.1 - x.1) k
    refine ⟨(z.1 - x.1) / (y.1 - x.1), ?_⟩
    generalize (z.1 - x.1) / (y.1 - x.1) = t at *
    have : (y.1 - x.1) * (z.2 - x.2 - t * (y.2 - x.2)) = 0 := by grind
    have := (Rat.mul_eq_zero.mp this).resolve_left k
    exact Prod.ext (by dsimp only; grind) (by dsimp only; grind)
theorem ap_seg (m : Mp) (x y : Ray) (t : Rat) : apM m (x.1 + t * (y.1 - x.1), x.2 + t * (y.2 - x.2)) = ((apM m x).1 + t * ((apM m y).1 - (apM m x).1), (apM m x).2 + t * ((apM m y).2 - (apM m x).2)) := by
  unfold apM
  exact Prod.ext (by dsimp only; grind) (by dsimp only; grind)
theorem ap_line {l : HP} (zl : nz l) {m k : Mp} {x y z : Ray} (hn : x ≠ y) (hx : evH l x = (l.r : Rat)) (hy : evH l y = (l.r : Rat)) (hz : evH l z = (l.r : Rat)) (a : apM m x = apM k x) (b : apM m y = apM k y) : apM m z = apM k z := by
  obtain ⟨t, rfl⟩ := on_line zl hn hx hy hz
  rw [ap_seg, ap_seg, a, b]
theorem ap_all {m k : Mp} {c : Ray} {s t : Rat} (hs : s ≠ 0) (ht : t ≠ 0) (a : apM m c = apM k c) (b : apM m (c.1 + s, c.2) = apM k (c.1 + s, c.2)) (d : apM m (c.1, c.2 + t) = apM k (c.1, c.2 + t)) : m = k := by
  have a1 := congrArg Prod.fst a
  have a2 := congrArg Prod.snd a
  have b1 := congrArg Prod.fst b
  have b2 := congrArg Prod.snd b
  have d1 := congrArg Prod.fst d
  have d2 := congrArg Prod.snd d
  clear a b d
  unfold apM at *
  dsimp only at *
  have ea : (m.a - k.a) * s = 0 := by grind
  have ec : (m.c - k.c) * s = 0 := by grind
  have eb : (m.b - k.b) * t = 0 := by grind
  have ed : (m.d - k.d) * t = 0 := by grind
  have ea := (Rat.mul_eq_zero.mp ea).resolve_right hs
  have ec := (Rat.mul_eq_zero.mp ec).resolve_right hs
  have eb := (Rat.mul_eq_zero.mp eb).resolve_right ht
  have ed := (Rat.mul_eq_zero.mp ed).resolve_right ht
  obtain ⟨ma, mb, mc, md, me, mf⟩ := m
  obtain ⟨ka, kb, kc, kd, ke, kf⟩ := k
  dsimp only at *
  have : ma = ka := by grind
  have : mb = kb := by grind
  have : mc = kc := by grind
  have : md = kd := by grind
  subst ma mb mc md
  have : me = ke := by grind
  have : mf = kf := by grind
  subst me mf
  rfl
theorem ex_eq {L M : List Ray} {f g : Ray → Ray} : L.map (fun x => (x, f x)) = M.map (fun x => (x, g x)) ↔ L = M ∧ ∀ x ∈ L, f x = g x := by
  constructor
  · intro h
    have e : L = M := by
      have := congrArg (List.map Prod.fst) h
      rw [List.map_map, List.map_map] at this
      have i : ∀ (N : List Ray) (f : Ray → Ray), N.map (Prod.fst ∘ fun x => (x, f x)) = N := fun N f => by
        have : (Prod.fst ∘ fun x : Ray => (x, f x)) = id := rfl
        rw [this, List.map_id]
      rw [i, i] at this
      exact this
    subst e
    refine ⟨rfl, fun x hx => ?_⟩
    have := List.map_inj_left.mp h x hx
    exact congrArg Prod.snd this
  · rintro ⟨rfl, h⟩
    exact List.map_inj_left.mpr fun x hx => by rw [h x hx]
theorem cf_eq {t u : List El} : cfM t = cfM u ↔ kindM (plM t) = kindM (plM u) ∧ chM (plM t) = chM (plM u) ∧ brM (plM t) = brM (plM u) ∧ ∀ x ∈ brM (plM t), apM (trM t) x = apM (trM u) x := by
  unfold cfM
  rw [CF.mk.injEq, ex_eq]
theorem like_cf {t u : List El} (hp : pz (plM t)) (hq : pz (plM u)) (h : alike t u) : cfM t = cfM u := by
  obtain ⟨e, ag⟩ := h
  rw [cf_eq]
  generalize plM t = L at *
  generalize plM u = M at *
  have hz := pz_anz hp
  have hm := pz_anz hq
  have ee := emp_cong hz hm e
  rcases kind_cs L with ⟨k1, k2⟩ | ⟨k1, k2, k3⟩ | ⟨k1, h, k2, k3⟩
  · have k1' := k1
    rw [ee] at k1'
    rcases kind_cs M with ⟨j1, j2⟩ | ⟨j1, _⟩ | ⟨j1, _⟩
    · unfold chM brM
      rw [k2, j2]
      exact ⟨rfl, rfl, rfl, fun x hx => by cases hx⟩
    · rw [j1] at k1'; cases k1'
    · rw [j1] at k1'; cases k1'
  · obtain ⟨x0, h0⟩ := emp_ex hz k1
    have k2' := area_cong hz hm h0 e k2
    have k1' := k1
    rw [ee] at k1'
    rcases kind_cs M with ⟨j1, _⟩ | ⟨j1, j2, j3⟩ | ⟨j1, g, j2, _⟩
    · rw [j1] at k1'; cases k1'
    · obtain ⟨c, hc⟩ := within hz h0 k2
      obtain ⟨c', hc'⟩ := within hm ((e x0).mp h0) k2'
      unfold chM brM
      rw [k3, j3]
      obtain ⟨s, r, hs, hr, a, b⟩ := wide hc
      have em := ap_all (by grind) (by grind) (ag c (ins_rg hc)) (ag _ a) (ag _ b)
      exact ⟨rfl, nee_eq hp hq hc hc' e, rfl, fun x _ => by rw [em]⟩
    · rw [j2] at k2'; cases k2'
  · obtain ⟨x0, h0⟩ := emp_ex hz k1
    have h0' := (e x0).mp h0
    have k1' := k1
    rw [ee] at k1'
    rcases kind_cs M with ⟨j1, _⟩ | ⟨j1, j2, _⟩ | ⟨j1, g, j2, j3⟩
    · rw [j1] at k1'; cases k1'
    · have := area_cong hm hz h0' (fun x => (e x).symm) j2
      rw [this] at k2
      cases k2
    · obtain ⟨mh, oh⟩ := line_on hz k2
      obtain ⟨mg, og⟩ := line_on hm j2
      have ph := hp h mh
      have pg := hq g mg
      by_cases pt : ∀ x, rg L x → x = x0
      · have pt' : ∀ x, rg M x → x = x0 := fun x hx => pt x ((e x).mpr hx)
        rw [(kdD_pt hz h0 ph.1 oh).mpr pt] at k3
        rw [(kdD_pt hm h0' pg.1 og).mpr pt'] at j3
        obtain ⟨y, ey, hy⟩ := smp_ex hz h0
        obtain ⟨z, ez, hz'⟩ := smp_ex hm h0'
        have := pt y hy
        have := pt' z hz'
        subst y z
        unfold chM brM
        rw [k3, j3, ey, ez]
        refine ⟨rfl, rfl, rfl, fun x hx => ?_⟩
        rw [List.mem_singleton.mp hx]
        exact ag _ h0
      · have : ∃ x, rg L x ∧ x ≠ x0 := by
          refine Classical.byContradiction fun z => pt fun x hx => Classical.byContradiction fun w => z ⟨x, hx, w⟩
        obtain ⟨x1, h1, hn⟩ := this
        have pm := line_pm hp hq e k2 j2 h1 h0 hn
        have kk : kdD M ((-g.q : Int) : Rat) (g.p : Rat) = kdD L ((-h.q : Int) : Rat) (h.p : Rat) := by
          rw [← kdD_cong hz hm h0 e]
          rcases pm with rfl | rfl
          · rfl
          · rw [← kdD_neg L]
            unfold oppH
            dsimp only
            have n2 : ∀ r : Rat, - -r = r := fun r => by grind
            rw [Rat.intCast_neg, Rat.intCast_neg, Rat.intCast_neg, n2, n2]
        have np : kdD L ((-h.q : Int) : Rat) (h.p : Rat) ≠ .point := fun z => hn ((kdD_pt hz h0 ph.1 oh).mp z x1 h1)
        have ne := kdD_ne L ((-h.q : Int) : Rat) (h.p : Rat)
        rw [kk, ← k3] at j3
        rw [← k3] at np ne
        obtain ⟨a1, a2⟩ := ch_line ne.1 ne.2 np
        obtain ⟨b1, b2⟩ := ch_line (L := M) (by rw [j3]; exact ne.1) (by rw [j3]; exact ne.2) (by rw [j3]; exact np)
        have ec := car_pm ph.1 ph.2 k2 j2 pm
        rw [a1, a2, b1, b2, j3, ec]
        refine ⟨rfl, lp_cong hz hm h0 e ec, rfl, fun x hx => ?_⟩
        obtain ⟨zl, pl, on⟩ := car_on hp k2
        rw [ec] at zl on
        obtain ⟨n1, n2, _⟩ := near_on zl
        have fin : ∀ z, evH (carM M) z = ((carM M).r : Rat) → apM (trM t) z = apM (trM u) z := fun z hz2 => ap_line zl hn (on x1 h1) (on x0 h0) hz2 (ag x1 h1) (ag x0 h0)
        rcases List.mem_cons.mp hx with rfl | hx
        · exact fin _ n1
        · rw [List.mem_singleton.mp hx]
          exact fin _ n2
theorem cf_like {t u : List El} (hp : pz (plM t)) (hq : pz (plM u)) (h : cfM t = cfM u) : alike t u := by
  rw [cf_eq] at h
  unfold alike
  generalize plM t = L at *
  generalize plM u = M at *
  have hz := pz_anz hp
  have hm := pz_anz hq
  obtain ⟨hk, hc, hb, ag⟩ := h
  rcases kind_cs L with ⟨k1, k2⟩ | ⟨k1, k2, k3⟩ | ⟨k1, h, k2, k3⟩
  · have m1 : empM M = true := by
      rcases kind_cs M with ⟨j1, _⟩ | ⟨_, _, j3⟩ | ⟨_, g, _, j3⟩
      · exact j1
      · rw [hk, j3] at k2; cases k2
      · rw [hk, j3] at k2
        exact absurd k2 (kdD_ne _ _ _).1
    exact ⟨fun x => ⟨fun hx => absurd hx (emp_none hz k1 x), fun hx => absurd hx (emp_none hm m1 x)⟩, fun x hx => absurd hx (emp_none hz k1 x)⟩
  · obtain ⟨x0, h0⟩ := emp_ex hz k1
    obtain ⟨c, cc⟩ := within hz h0 k2
    rcases kind_cs M with ⟨_, j2⟩ | ⟨j1, j2, j3⟩ | ⟨_, g, _, j3⟩
    · rw [hk, j2] at k3; cases k3
    · obtain ⟨y0, i0⟩ := emp_ex hm j1
      obtain ⟨c', cc'⟩ := within hm i0 j2
      have a1 : chM L = neeM L := by unfold chM; rw [k3]
      have a2 : chM M = neeM M := by unfold chM; rw [j3]
      rw [a1, a2] at hc
      refine ⟨fun x => by rw [← nee_rg hp cc, ← nee_rg hq cc', hc], fun x _ => ?_⟩
      have b1 : brM L = [(0, 0), (1, 0), (0, 1)] := by unfold brM; rw [k3]
      rw [b1] at ag
      have e := ap_all (m := trM t) (k := trM u) (c := (0, 0)) (s := 1) (t := 1) (by decide) (by decide) (ag _ (by simp)) (ag _ (by
        have : ((0 : Rat) + 1, (0 : Rat)) = (1, 0) := by rw [Rat.zero_add]
        dsimp only
        rw [this]; simp)) (ag _ (by
        have : ((0 : Rat), (0 : Rat) + 1) = (0, 1) := by rw [Rat.zero_add]
        dsimp only
        rw [this]; simp))
      rw [e]
    · rw [hk, j3] at k3
      exact absurd k3 (kdD_ne _ _ _).2
  · obtain ⟨x0, h0⟩ := emp_ex hz k1
    obtain ⟨mh, oh⟩ := line_on hz k2
    have ph := hp h mh
    have ne := kdD_ne L ((-h.q : Int) : Rat) (h.p : Rat)
    rw [← k3] at ne
    rcases kind_cs M with ⟨_, j2⟩ | ⟨j1, j2, j3⟩ | ⟨j1, g, j2, j3⟩
    · exact absurd (hk.trans j2) ne.1
    · exact absurd (hk.trans j3) ne.2
    · obtain ⟨y0, i0⟩ := emp_ex hm j1
      obtain ⟨mg, og⟩ := line_on hm j2
      have pg := hq g mg
      by_cases kp : kindM L = .point
      · have kp' : kindM M = .point := hk.symm.trans kp
        have pt := (kdD_pt hz h0 ph.1 oh).mp (k3.symm.trans kp)
        have pt' := (kdD_pt hm i0 pg.1 og).mp (j3.symm.trans kp')
        obtain ⟨y, ey, hy⟩ := smp_ex hz h0
        obtain ⟨z, ez, hz'⟩ := smp_ex hm i0
        have b1 : brM L = [y] := by unfold brM; rw [kp, ey]; rfl
        have b2 : brM M = [z] := by unfold brM; rw [kp', ez]; rfl
        rw [b1] at ag
        rw [b1, b2] at hb
        injection hb with hb
        subst hb
        have e1 := pt y hy
        have e2 := pt' y hz'
        refine ⟨fun x => ⟨fun hx => ?_, fun hx => ?_⟩, fun x hx => ?_⟩
        · rw [pt x hx, ← e1]; exact hz'
        · rw [pt' x hx, ← e2]; exact hy
        · rw [pt x hx, ← e1]; exact ag y (by simp)
      · obtain ⟨a1, a2⟩ := ch_line ne.1 ne.2 kp
        obtain ⟨b1, b2⟩ := ch_line (L := M) (by rw [← hk]; exact ne.1) (by rw [← hk]; exact ne.2) (by rw [← hk]; exact kp)
        rw [a1, b1] at hc
        rw [a2] at ag
        obtain ⟨zl, pl, on⟩ := car_on hp k2
        obtain ⟨n1, n2, n3⟩ := near_on zl
        refine ⟨fun x => by rw [← lp_rg hp k2 h0, ← lp_rg hq j2 i0, hc], fun x hx => ?_⟩
        exact ap_line zl n3 n1 n2 (on x hx) (ag _ (by simp)) (ag _ (by simp))
end RT
namespace RT
/-! ### trains: exits -/
def afOk : El → Prop
  | .afocal m => m ≠ 0
  | _ => True
abbrev afs (t : List El) : Prop := ∀ e ∈ t, afOk e
abbrev dt (m : Mp) : Prop := m.a * m.d - m.b * m.c = 1
theorem dtm_id : dt idM := by
  unfold dt idM
  dsimp only
  grind
theorem dtm_co {m : Mp} {e : El} (h : dt m) (o : afOk e) : dt (coM m (elM e)) := by
  unfold dt at *
  unfold coM
  cases e with
  | gap t => unfold elM; dsimp only; grind
  | lens p h => unfold elM; dsimp only; grind
  | prism s => unfold elM; dsimp only; grind
  | stop lo hi => unfold elM idM; dsimp only; grind
  | afocal k =>
    have o : k ≠ 0 := o
    have d := Rat.div_mul_cancel (a := (1 : Rat)) o
    unfold elM
    dsimp only
    generalize (1 : Rat) / k = j at *
    have : j * k * (m.a * m.d - m.b * m.c) = 1 := by rw [d, h]; grind
    grind
theorem dtm_or {m : Mp} (h : dt m) : m.a ≠ 0 ∨ m.b ≠ 0 := by
  unfold dt at h
  by_cases z : m.a = 0
  · refine .inr fun y => ?_
    rw [z, y] at h
    grind
  · exact .inl z
theorem ap_co (m k : Mp) (x : Ray) : apM k (apM m x) = apM (coM m k) x := by
  unfold apM coM
  exact Prod.ext (by dsimp only; grind) (by dsimp only; grind)
theorem ap_id (x : Ray) : apM idM x = x := by
  unfold apM idM
  exact Prod.ext (by dsimp only; grind) (by dsimp only; grind)
theorem co_id (m : Mp) : coM m idM = m := by
  unfold coM idM
  obtain ⟨a, b, c, d, e, f⟩ := m
  dsimp only
  congr 1 <;> grind
theorem has_app {L M : List HP} {x : Ray} : hasM (L ++ M) x = (hasM L x && hasM M x) := by
  unfold hasM
  rw [List.all_append]
theorem low_le {m : Mp} (h : m.a ≠ 0 ∨ m.b ≠ 0) (l : Rat) (x : Ray) : evH (mkH (-m.a) (-m.b) (m.e - l)) x ≤ ((mkH (-m.a) (-m.b) (m.e - l)).r : Rat) ↔ ¬ (apM m x).1 < l := by
  rw [mk_le (neg_or h)]
  unfold fv apM
  dsimp only
  grind
theorem up_le {m : Mp} (h : m.a ≠ 0 ∨ m.b ≠ 0) (u : Rat) (x : Ray) : evH (mkH m.a m.b (u - m.e)) x ≤ ((mkH m.a m.b (u - m.e)).r : Rat) ↔ ¬ u < (apM m x).1 := by
  rw [mk_le h]
  unfold fv apM
  dsimp only
  grind
theorem has_el (i : Nat) (e : El) {m : Mp} (h : m.a ≠ 0 ∨ m.b ≠ 0) (x : Ray) : hasM ((elEdges i e m).map (·.2)) x = !blkM e (apM m x) := by
  cases e with
  | stop lo hi =>
    have n : ∀ (p : Prop) [Decidable p], decide (¬ p) = !decide p := fun p _ => by by_cases k : p <;> simp [k]
    unfold elEdges edgesM blkM hasM
    cases lo with
    | none =>
      cases hi with
      | none => rfl
      | some u =>
        simp only [List.nil_append, List.map_cons, List.map_nil, List.all_cons, List.all_nil, Bool.and_true, Bool.false_or]
        rw [decide_eq_decide.mpr (up_le h u x), n]
    | some l =>
      cases hi with
      | none =>
        simp only [List.append_nil, List.map_cons, List.map_nil, List.all_cons, List.all_nil, Bool.and_true, Bool.or_false]
        rw [decide_eq_decide.mpr (low_le h l x), n]
      | some u =>
        simp only [List.cons_append, List.nil_append, List.map_cons, List.map_nil, List.all_cons, List.all_nil, Bool.and_true, Bool.not_or]
        rw [decide_eq_decide.mpr (low_le h l x), decide_eq_decide.mpr (up_le h u x), n, n]
  | _ => rfl
theorem ex_from : ∀ (t : List El) (i : Nat) (m : Mp) (x : Ray), afs t → dt m → exM t (apM m x) = if hasM ((hpFrom i m t).map (·.2)) x = true then some (apM (trFrom m t) x) else none
  | [], i, m, x, _, _ => rfl
  | e :: r, i, m, x, ha, hd => by
    have oe := ha e (List.mem_cons_self ..)
    have ih := ex_from r (i + 1) (coM m (elM e)) x (fun y hy => ha y (List.mem_cons_of_mem _ hy)) (dtm_co hd oe)
    show (if blkM e (apM m x) = true then none else exM r (apM (elM e) (apM m x))) = if hasM ((elEdges i e m ++ hpFrom (i + 1) (coM m (elM e)) r).map (·.2)) x = true then some (apM (trFrom (coM m (elM e)) r) x) else none
    rw [ap_co, ih, List.map_append, has_app, has_el i e (dtm_or hd)]
    cases blkM e (apM m x) with
    | true => rfl
    | false => rfl
theorem ex_eqn {t : List El} (ha : afs t) (x : Ray) : exM t x = if hasM (plM t) x = true then some (apM (trM t) x) else none := by
  have := ex_from t 0 idM x ha dtm_id
  rw [ap_id] at this
  exact this
theorem ex_in {t : List El} (ha : afs t) {x : Ray} (h : rg (plM t) x) : exM t x = some (apM (trM t) x) := by
  rw [ex_eqn ha, if_pos (has_iff.mpr h)]
theorem ex_out {t : List El} (ha : afs t) {x : Ray} (h : ¬ rg (plM t) x) : exM t x = none := by
  rw [ex_eqn ha, if_neg (fun z => h (has_iff.mp z))]
theorem el_pz (i : Nat) (e : El) {m : Mp} (h : m.a ≠ 0 ∨ m.b ≠ 0) : ∀ x ∈ elEdges i e m, nz x.2 ∧ prim x.2 := by
  have mk : ∀ {p q : Rat} (r : Rat), p ≠ 0 ∨ q ≠ 0 → nz (mkH p q r) ∧ prim (mkH p q r) := fun r h0 => by
    obtain ⟨_, _, _, _, _, _, _, pr⟩ := mkH_s (r := r) h0
    exact ⟨mkH_nz _ h0, pr⟩
  intro x hx
  cases e with
  | stop lo hi =>
    unfold elEdges edgesM at hx
    rcases List.mem_append.mp hx with hx | hx
    · cases lo with
      | none => cases hx
      | some l =>
        rw [List.mem_singleton.mp hx]
        exact mk _ (neg_or h)
    · cases hi with
      | none => cases hx
      | some u =>
        rw [List.mem_singleton.mp hx]
        exact mk _ h
  | _ => cases hx
theorem hp_pz : ∀ (t : List El) (i : Nat) (m : Mp), afs t → dt m → ∀ x ∈ hpFrom i m t, nz x.2 ∧ prim x.2
  | [], _, _, _, _, x, hx => by cases hx
  | e :: r, i, m, ha, hd, x, hx => by
    have hx : x ∈ elEdges i e m ++ hpFrom (i + 1) (coM m (elM e)) r := hx
    rcases List.mem_append.mp hx with hx | hx
    · exact el_pz i e (dtm_or hd) x hx
    · exact hp_pz r (i + 1) _ (fun y hy => ha y (List.mem_cons_of_mem _ hy)) (dtm_co hd (ha e (List.mem_cons_self ..))) x hx
theorem pl_pz {t : List El} (ha : afs t) : pz (plM t) := fun h hh => by
  obtain ⟨x, hx, rfl⟩ := List.mem_map.mp hh
  exact hp_pz t 0 idM ha dtm_id x hx
theorem like_ex {t u : List El} (ha : afs t) (hu : afs u) : alike t u ↔ ∀ x, exM t x = exM u x := by
  constructor
  · rintro ⟨e, ag⟩ x
    by_cases h : rg (plM t) x
    · rw [ex_in ha h, ex_in hu ((e x).mp h), ag x h]
    · rw [ex_out ha h, ex_out hu (fun z => h ((e x).mpr z))]
  · intro h
    have key : ∀ x, rg (plM t) x ↔ rg (plM u) x := fun x => by
      have := h x
      by_cases a : rg (plM t) x
      · by_cases b : rg (plM u) x
        · exact ⟨fun _ => b, fun _ => a⟩
        · rw [ex_in ha a, ex_out hu b] at this
          cases this
      · by_cases b : rg (plM u) x
        · rw [ex_out ha a, ex_in hu b] at this
          cases this
        · exact ⟨fun z => absurd z a, fun z => absurd z b⟩
    refine ⟨key, fun x hx => ?_⟩
    have := h x
    rw [ex_in ha hx, ex_in hu ((key x).mp hx)] at this
    exact Option.some.inj this
/-- the canonical forms tell whether the trains answer alike -/
theorem cf_iff {t u : List El} (ha : afs t) (hu : afs u) : cfM t = cfM u ↔ ∀ x, exM t x = exM u x := by
  rw [← like_ex ha hu]
  exact ⟨cf_like (pl_pz ha) (pl_pz hu), like_cf (pl_pz ha) (pl_pz hu)⟩
theorem dis_iff {t u : List El} (ha : afs t) (hu : afs u) : disM t u = none ↔ cfM t = cfM u := by
  constructor
  · intro h
    exact like_cf (pl_pz ha) (pl_pz hu) (dis_none (pz_anz (pl_pz ha)) (pz_anz (pl_pz hu)) h)
  · intro h
    have al := cf_like (pl_pz ha) (pl_pz hu) h
    cases d : disM t u with
    | none => rfl
    | some x =>
      rcases dis_some (pz_anz (pl_pz ha)) (pz_anz (pl_pz hu)) d with ⟨a, b⟩ | ⟨a, b⟩ | ⟨a, _, b⟩
      · exact absurd ((al.1 x).mp a) b
      · exact absurd ((al.1 x).mpr a) b
      · exact absurd (al.2 x a) b
theorem dis_ex {t u : List El} (ha : afs t) (hu : afs u) {x : Ray} (h : disM t u = some x) : exM t x ≠ exM u x := by
  rcases dis_some (pz_anz (pl_pz ha)) (pz_anz (pl_pz hu)) h with ⟨a, b⟩ | ⟨a, b⟩ | ⟨a, b, c⟩
  · rw [ex_in ha a, ex_out hu b]
    exact fun z => by cases z
  · rw [ex_in hu a, ex_out ha b]
    exact fun z => by cases z
  · rw [ex_in ha a, ex_in hu b]
    intro z
    injection z with z
    exact c z
/-! ### simpler trains -/
structure WoR (k : Nat) (m : Mp) (t u : List El) (h : HP) : Prop where
  sub : ∀ y ∈ (hpFrom k m u).map (·.2), y ∈ (hpFrom k m t).map (·.2)
  sup : ∀ y ∈ (hpFrom k m t).map (·.2), y = h ∨ y ∈ (hpFrom k m u).map (·.2)
  tr : trFrom m u = trFrom m t
  af : afs t → afs u
theorem wo_cons (e : El) (r : List El) (i : Nat) (b : Bool) : woM (e :: r) (i + 1, b) = e :: woM r (i, b) := by
  unfold woM
  simp
theorem wo_zero (e : El) (r : List El) (b : Bool) : woM (e :: r) (0, b) = woEl e b :: r := by
  unfold woM
  simp
theorem el_wo (e : El) (b : Bool) : elM (woEl e b) = elM e := by
  cases e with
  | stop lo hi => cases b <;> rfl
  | _ => rfl
theorem wo_rel : ∀ (t : List El) (k : Nat) (m : Mp) (i : Nat) (b : Bool) (h : HP), ((k + i, b), h) ∈ hpFrom k m t → WoR k m t (woM t (i, b)) h
  | [], _, _, _, _, _, hx => by cases hx
  | e :: r, k, m, i, b, h, hx => by
    have hx : ((k + i, b), h) ∈ elEdges k e m ++ hpFrom (k + 1) (coM m (elM e)) r := hx
    have ap : ∀ (e' : El) (r' : List El), elM e' = elM e → (hpFrom k m (e' :: r')).map (·.2) = (elEdges k e' m).map (·.2) ++ (hpFrom (k + 1) (coM m (elM e)) r').map (·.2) := fun e' r' he => by
      show (elEdges k e' m ++ hpFrom (k + 1) (coM m (elM e')) r').map (·.2) = _
      rw [List.map_append, he]
    cases i with
    | zero =>
      have h1 : ((k, b), h) ∈ elEdges k e m := by
        rcases List.mem_append.mp hx with h1 | h1
        · exact h1
        · have := (hpFrom_ix _ _ _ _ h1).1
          dsimp only at this
          omega
      rw [wo_zero]
      cases e with
      | stop lo hi =>
        have es : ∀ y ∈ (elEdges k (woEl (.stop lo hi) b) m).map (·.2), y ∈ (elEdges k (.stop lo hi) m).map (·.2) := by
          unfold woEl elEdges edgesM
          cases b <;> cases lo <;> cases hi <;> simp
        have et : ∀ y ∈ (elEdges k (.stop lo hi) m).map (·.2), y = h ∨ y ∈ (elEdges k (woEl (.stop lo hi) b) m).map (·.2) := by
          unfold woEl elEdges edgesM at *
          cases b <;> cases lo <;> cases hi <;> simp at h1 ⊢ <;> (try exact ⟨.inl h1.symm, .inr rfl⟩) <;> (try exact h1.symm) <;> (try exact .inl h1.symm) <;> (try simp [h1])
        refine ⟨fun y hy => ?_, fun y hy => ?_, ?_, fun ha x hx => ?_⟩
        · rw [ap _ _ (el_wo _ _)] at hy
          rw [ap _ _ rfl]
          exact (List.mem_append.mp hy).elim (fun z => List.mem_append_left _ (es y z)) (List.mem_append_right _)
        · rw [ap _ _ rfl] at hy
          rw [ap _ _ (el_wo _ _)]
          rcases List.mem_append.mp hy with z | z
          · exact (et y z).imp id (List.mem_append_left _)
          · exact .inr (List.mem_append_right _ z)
        · show trFrom (coM m (elM (woEl (.stop lo hi) b))) r = trFrom (coM m (elM (.stop lo hi))) r
          rw [el_wo]
        · rcases List.mem_cons.mp hx with rfl | hx
          · unfold woEl
            cases b <;> trivial
          · exact ha x (List.mem_cons_of_mem _ hx)
      | _ => cases h1
    | succ i =>
      have h1 : ((k + 1 + i, b), h) ∈ hpFrom (k + 1) (coM m (elM e)) r := by
        have e2 : k + (i + 1) = k + 1 + i := by omega
        rw [e2] at hx
        rcases List.mem_append.mp hx with h1 | h1
        · exfalso
          cases e with
          | stop lo hi =>
            unfold elEdges edgesM at h1
            cases lo <;> cases hi <;> simp at h1 <;> omega
          | _ => cases h1
        · exact h1
      have ih := wo_rel r (k + 1) _ i b h h1
      rw [wo_cons]
      refine ⟨fun y hy => ?_, fun y hy => ?_, ih.tr, fun ha x hx => ?_⟩
      · rw [ap _ _ rfl] at hy ⊢
        exact (List.mem_append.mp hy).elim (List.mem_append_left _) (fun z => List.mem_append_right _ (ih.sub y z))
      · rw [ap _ _ rfl] at hy ⊢
        rcases List.mem_append.mp hy with z | z
        · exact .inr (List.mem_append_left _ z)
        · exact (ih.sup y z).imp id (List.mem_append_right _)
      · rcases List.mem_cons.mp hx with rfl | hx
        · exact ha _ (List.mem_cons_self ..)
        · exact ih.af (fun y hy => ha y (List.mem_cons_of_mem _ hy)) x hx
theorem wo_top {t : List El} {e : Edge} {h : HP} (hx : (e, h) ∈ hpM t) : WoR 0 idM t (woM t e) h := by
  obtain ⟨i, b⟩ := e
  exact wo_rel t 0 idM i b h (by rw [Nat.zero_add]; exact hx)
theorem red_in {t : List El} {e : Edge} (he : e ∈ reM t) : ∃ h, (e, h) ∈ hpM t ∧ redM t e h = true := by
  unfold reM at he
  obtain ⟨x, hx, rfl⟩ := List.mem_map.mp he
  obtain ⟨a, b⟩ := List.mem_filter.mp hx
  exact ⟨x.2, a, b⟩
theorem red_ex {t : List El} (ha : afs t) {e : Edge} (he : e ∈ reM t) : afs (woM t e) ∧ ∀ x, exM (woM t e) x = exM t x := by
  obtain ⟨h, hm, hr⟩ := red_in he
  have W := wo_top hm
  have au := W.af ha
  refine ⟨au, (like_ex au ha).mp ⟨fun x => ⟨fun hx => ?_, fun hx g hg => hx g (W.sub g hg)⟩, fun x _ => by unfold trM; rw [W.tr]⟩⟩
  have hz := pz_anz (pl_pz au)
  unfold redM at hr
  rw [emp_sound hz hx, Bool.false_or] at hr
  have := imp_true hz hr hx
  intro g hg
  rcases W.sup g hg with rfl | k
  · exact this
  · exact hx g k
theorem sl_ex : ∀ (k : Nat) (t : List El), afs t → afs (simLoop k t) ∧ ∀ x, exM (simLoop k t) x = exM t x
  | 0, t, ha => ⟨ha, fun x => rfl⟩
  | k + 1, t, ha => by
    show afs (match reM t with
      | [] => t
      | e :: _ => simLoop k (woM t e)) ∧ ∀ x, exM (match reM t with
      | [] => t
      | e :: _ => simLoop k (woM t e)) x = exM t x
    cases hr : reM t with
    | nil => exact ⟨ha, fun x => rfl⟩
    | cons e r =>
      obtain ⟨a, b⟩ := red_ex ha (e := e) (by rw [hr]; exact List.mem_cons_self ..)
      obtain ⟨c, d⟩ := sl_ex k (woM t e) a
      exact ⟨c, fun x => (d x).trans (b x)⟩
theorem ft_ex : ∀ (t : List El) (x : Ray), exM (t.filter fun e => decide (e ≠ .stop none none)) x = exM t x
  | [], _ => rfl
  | e :: r, x => by
    rw [List.filter_cons]
    by_cases h : e = .stop none none
    · subst h
      rw [if_neg (by simp), ft_ex r x]
      show exM r x = exM r (apM idM x)
      rw [ap_id]
    · rw [if_pos (decide_eq_true h)]
      show (if blkM e x = true then none else exM _ (apM (elM e) x)) = (if blkM e x = true then none else exM r (apM (elM e) x))
      rw [ft_ex r]
theorem sim_ex {t : List El} (ha : afs t) : afs (simM t) ∧ ∀ x, exM (simM t) x = exM t x := by
  obtain ⟨a, b⟩ := sl_ex (2 * t.length) t ha
  unfold simM
  exact ⟨fun e he => a e (List.mem_filter.mp he).1, fun x => (ft_ex _ x).trans (b x)⟩
end RT
namespace RT
open PySem PySem.Spec PyProof.Rows L2
/-! ### telling apart -/
structure CD3 (p q t : Rat) : Prop where
  ex : ∃ D x y z : Int, D ≠ 0 ∧ p * (D : Rat) = (x : Rat) ∧ q * (D : Rat) = (y : Rat) ∧ t * (D : Rat) = (z : Rat) ∧ bz 100 D ∧ bz 180 x ∧ bz 180 y ∧ bz 180 z
structure TeS where
  ca : CaS
  sa : FnS
  sa_i : ∀ row n L p q v Q, bhs 990 (L ++ lnP p q v) → L.length ≤ 34 → bq 2000 2000 p → bq 2000 2000 q → bq 2000 2000 v → (p ≠ 0 ∨ q ≠ 0) → Q (encX (satM L p q v)) n → sa row n [encL encH L, encQ p, encQ q, encQ v] Q
  ov : FnS
  ov_i : ∀ row n L h Q, bhs 200 L → L.length ≤ 34 → bh 200 h → Q (encO (ovM L h)) n → ov row n [encL encH L, encH h] Q
  ro : FnS
  ro_i : ∀ row n L M Q, bhs 200 L → L.length ≤ 34 → bhs 200 M → Q (encX (roM L M)) n → ro row n [encL encH L, encL encH M] Q
  ot : FnS
  ot_i : ∀ row n L p q t Q, bhs 200 L → L.length ≤ 34 → CD3 p q t → Q (encO (othM L p q t)) n → ot row n [encL encH L, encQ p, encQ q, encQ t] Q
  di : FnS
  di_i : ∀ row n L p q t Q, bhs 200 L → L.length ≤ 34 → CD3 p q t → Q (encX (difM L p q t)) n → di row n [encL encH L, encQ p, encQ q, encQ t] Q
variable (F : TeS) (T : List Addr) (lev : Nat) (row : List Int) (n : Int) (Q : QD)
theorem bhs_anz {k : Nat} {L : List HP} (h : bhs k L) : anz L := fun x hx => (h x hx).2
theorem w_sa (L : List HP) (p q v : Rat) (hL : bhs 990 (L ++ lnP p q v)) (hl : L.length ≤ 34) (hp : bq 2000 2000 p) (hq : bq 2000 2000 q) (hv : bq 2000 2000 v) (h0 : p ≠ 0 ∨ q ≠ 0) (h : Q (encX (satM L p q v)) n) :
    W 77 ["half_planes", "p", "q", "value", "line"] none [fMk F.ca.sm.su.em.hp, fNeg F.ca.sm.su.em.hp.od.mp.ra, fSmp F.ca.sm] false T lev row [encL encH L, encQ p, encQ q, encQ v] n Q := by
  refine F.ca.sm.su.em.hp.mkh_i _ _ _ _ _ _ hp hq hv h0 ?_
  refine F.ca.sm.su.em.hp.od.mp.ra.neg_i _ _ _ _ ?_
  refine F.ca.sm.su.em.hp.od.mp.ra.neg_i _ _ _ _ ?_
  refine F.ca.sm.su.em.hp.od.mp.ra.neg_i _ _ _ _ ?_
  refine F.ca.sm.su.em.hp.mkh_i _ _ _ _ _ _ (bq_neg hp) (bq_neg hq) (bq_neg hv) (neg_or h0) ?_
  refine And.intro (by decide : 2 ≤ 1000) ?_
  refine ck (P := wpSs _ _ [sh (encL encH L), sh (encQ p), sh (encQ q), sh (encQ v), sh (.list [encH (mkH p q v), encH (mkH (-p) (-q) (-v))])] _ _ _) ?_
  refine And.intro (Nat.le_trans (m := 1000) (by simp only [List.length_map, List.length_cons, List.length_nil]; omega) (by rw [sizeLine_eq]; decide)) ?_
  refine ck (P := F.ca.sm.smp _ _ [.list (L.map encH ++ [encH (mkH p q v), encH (mkH (-p) (-q) (-v))])] _) ?_
  have el : L.map encH ++ [encH (mkH p q v), encH (mkH (-p) (-q) (-v))] = (L ++ lnP p q v).map encH := by simp
  rw [el]
  refine F.ca.sm.smp_i _ _ 990 _ _ hL (by decide) (by simp only [List.length_append, List.length_cons, List.length_nil]; omega) (smp_ne (bhs_anz hL)) ?_
  exact h
theorem ov_b {L : List HP} {h : HP} {v : Rat} (hL : bhs 200 L) (hh : bh 200 h) (e : ovM L h = some v) : bq 700 500 v := by
  unfold ovM at e
  cases s : supM L (h.p : Rat) (h.q : Rat) with
  | none =>
    rw [s] at e
    have e : greatM [some ((h.r : Rat) + 1), infM L (h.p : Rat) (h.q : Rat)] none = some v := e
    rcases (great_eq _ _ _ e).1 with m | m
    · rcases List.mem_cons.mp m with m | m
      · cases m
        exact bq_mono (bq_add (bq_int hh.2.2) b10.1) (by decide) (by decide)
      · have i := (List.mem_singleton.mp m).symm
        exact bq_mono (inf_b hL (bq_int hh.1) (bq_int hh.2.1) i) (by decide) (by decide)
    · cases m
  | some u =>
    rw [s] at e
    dsimp only at e
    split at e
    · cases e
      exact bq_mono (sup_b hL (bq_int hh.1) (bq_int hh.2.1) s) (by decide) (by decide)
    · cases e
abbrev fGreat (F : RaS) : Fi := ⟨"greatest_of", F.great, 1, []⟩
theorem w_ov (L : List HP) (g : HP) (hL : bhs 200 L) (hl : L.length ≤ 34) (hg : bh 200 g) (h : Q (encO (ovM L g)) n) :
    W 78 ["half_planes", "half_plane", "p", "q", "bound", "upper"] none [fFr F.ca.sm.su.em.hp.od.mp.ra, fSu F.ca.sm.su, fInf F.ca.sm.su, fAdd F.ca.sm.su.em.hp.od.mp.ra, fLt F.ca.sm.su.em.hp.od.mp.ra, fGreat F.ca.sm.su.em.hp.od.mp.ra] false T lev row [encL encH L, encH g] n Q := by
  have ok : DirOk 2000 1 L (g.p : Rat) (g.q : Rat) := dir_int (bhs_mono hL (by decide)) (by omega) (bz_mono hg.1 (by decide)) (bz_mono hg.2.1 (by decide))
  have br : sm (g.r : Rat) := sm_of (bq_int hg.2.2) (by decide) (by decide)
  unfold ovM at h
  refine fr1 _ ?_
  refine fr1 _ ?_
  refine ck (P := wpSs _ _ [sh (encL encH L), sh (encH g), sh (encQ (g.p : Rat)), sh (encQ (g.q : Rat)), no, no] _ _ _) ?_
  refine fr1 _ ?_
  refine ck (P := wpSs _ _ [sh (encL encH L), sh (encH g), sh (encQ (g.p : Rat)), sh (encQ (g.q : Rat)), sh (encQ (g.r : Rat)), no] _ _ _) ?_
  refine F.ca.sm.su.su_i _ _ 2000 1 _ _ _ _ ok ?_
  cases e : supM L (g.p : Rat) (g.q : Rat) with
  | none =>
    rw [e] at h
    have h' : Q (encO (greatM [some ((g.r : Rat) + 1), infM L (g.p : Rat) (g.q : Rat)] none)) n := h
    refine ck (P := wpSs _ _ [sh (encL encH L), sh (encH g), sh (encQ (g.p : Rat)), sh (encQ (g.q : Rat)), sh (encQ (g.r : Rat)), sh .none] _ _ _) ?_
    refine F.ca.sm.su.em.hp.od.mp.ra.add_i _ _ _ _ _ br (sm_of b10.1 (by decide) (by decide)) ?_
    refine F.ca.sm.su.inf_i _ _ 2000 1 _ _ _ _ ok ?_
    refine And.intro (by decide : 2 ≤ 1000) ?_
    refine F.ca.sm.su.em.hp.od.mp.ra.great_i _ _ [some ((g.r : Rat) + 1), infM L (g.p : Rat) (g.q : Rat)] _ (fun v hv => ?_) ?_
    · rcases List.mem_cons.mp hv with m | m
      · cases m
        exact sm_of (bq_add (bq_int hg.2.2) b10.1) (by decide) (by decide)
      · have i := (List.mem_singleton.mp m).symm
        exact sm_of (inf_b hL (bq_int hg.1) (bq_int hg.2.1) i) (by decide) (by decide)
    · exact h'
  | some u =>
    rw [e] at h
    have h' : Q (encO (if (g.r : Rat) < u then some u else none)) n := h
    have bu := sup_b hL (bq_int hg.1) (bq_int hg.2.1) e
    refine ck (P := wpSs _ _ [sh (encL encH L), sh (encH g), sh (encQ (g.p : Rat)), sh (encQ (g.q : Rat)), sh (encQ (g.r : Rat)), sh (encQ u)] _ _ _) ?_
    refine F.ca.sm.su.em.hp.od.mp.ra.lt_i _ _ _ _ _ br (sm_of bu (by decide) (by decide)) ?_
    refine ck (P := if (decide ((g.r : Rat) < u)) = true then _ else _) ?_
    refine ite_d (fun h1 => ?_) (fun h1 => ?_)
    · rw [if_pos h1] at h'
      exact h'
    · rw [if_neg h1] at h'
      exact h'
/-- sizes of a line's two half-planes -/
theorem ln_b {k : Nat} {p q v : Rat} {M x y z : Int} (h0 : p ≠ 0 ∨ q ≠ 0) (hM : M ≠ 0) (hx : p * (M : Rat) = (x : Rat)) (hy : q * (M : Rat) = (y : Rat)) (hz : v * (M : Rat) = (z : Rat)) (bx : bz k x) (by' : bz k y) (bz' : bz k z) : bhs k (lnP p q v) := fun a ha => by
  rcases List.mem_cons.mp ha with rfl | ha
  · exact ⟨mkH_b h0 hM hx hy hz bx by' bz', mkH_nz _ h0⟩
  · rw [List.mem_singleton.mp ha]
    have ng : ∀ {a : Rat} {i : Int}, a * (M : Rat) = (i : Rat) → -a * (M : Rat) = ((-i : Int) : Rat) := fun e => by
      rw [Rat.intCast_neg, ← e]
      grind
    exact ⟨mkH_b (neg_or h0) hM (ng hx) (ng hy) (ng hz) (bz_neg bx) (bz_neg by') (bz_neg bz'), mkH_nz _ (neg_or h0)⟩
theorem ov_ln {L : List HP} {h : HP} {v : Rat} (hL : bhs 200 L) (hh : bh 200 h) (zh : nz h) (e : ovM L h = some v) : bhs 990 (lnP (h.p : Rat) (h.q : Rat) v) := by
  have b := ov_b hL hh e
  refine ln_b (M := v.den) (x := h.p * v.den) (y := h.q * v.den) (z := v.num) (nzr zh) (den_z v) (by rw [Rat.intCast_mul]) (by rw [Rat.intCast_mul]) (q_num v) ?_ ?_ ?_
  · exact bz_mono (bz_mul hh.1 (bz_den b)) (by decide)
  · exact bz_mono (bz_mul hh.2.1 (bz_den b)) (by decide)
  · exact bz_mono (bz_num b) (by decide)
abbrev fOv (F : TeS) : Fi := ⟨"outside_value", F.ov, 2, []⟩
abbrev fSa (F : TeS) : Fi := ⟨"sample_at", F.sa, 4, []⟩
abbrev fRo (F : TeS) : Fi := ⟨"ray_outside", F.ro, 2, []⟩
abbrev fOt (F : TeS) : Fi := ⟨"other_value", F.ot, 4, []⟩
abbrev fDi (F : TeS) : Fi := ⟨"differing_ray", F.di, 4, []⟩
theorem w_ro (L M : List HP) (hL : bhs 200 L) (hl : L.length ≤ 34) (hM : bhs 200 M) (h : Q (encX (roM L M)) n) :
    W 79 ["half_planes", "others", "half_plane", "value"] none [fEmp F.ca.sm.su.em, fOv F, fSa F, fFr F.ca.sm.su.em.hp.od.mp.ra] false T lev row [encL encH L, encL encH M] n Q := by
  unfold roM at h
  refine F.ca.sm.su.em.em_i _ _ _ _ (bhs_mono hL (by decide)) (by omega) ?_
  cases e : empM L with
  | true =>
    rw [if_pos e] at h
    exact h
  | false =>
    rw [if_neg (by rw [e]; decide)] at h
    refine for_i encH (fun r ρ n' => n' = n ∧ (∀ y ∈ r, y ∈ M) ∧ roLoop L r = roLoop L M ∧ ∃ c d, ρ = [sh (encL encH L), sh (encL encH M), c, d]) ?_ ?_ M _ _ ⟨rfl, fun y hy => hy, rfl, no, no, rfl⟩
    · rintro g r ρ n' K ⟨rfl, hm, he, c, d, rfl⟩ hK
      have hg := hM g (hm g (List.mem_cons_self ..))
      refine nm ?_
      refine ck (P := wpSs _ _ [sh (encL encH L), sh (encL encH M), sh (encH g), d] _ _ _) ?_
      refine F.ov_i _ _ _ _ _ hL hl hg.1 ?_
      have he' : (match ovM L g with
        | some v => satM L (g.p : Rat) (g.q : Rat) v
        | none => roLoop L r) = roLoop L M := he
      cases o : ovM L g with
      | none =>
        rw [o] at he'
        exact hK _ _ ⟨rfl, fun y hy => hm y (List.mem_cons_of_mem _ hy), he', _, _, rfl⟩
      | some v =>
        rw [o] at he'
        have bv := ov_b hL hg.1 o
        refine ck (P := wpSs _ _ [sh (encL encH L), sh (encL encH M), sh (encH g), sh (encQ v)] _ _ _) ?_
        refine fr1 _ ?_
        refine fr1 _ ?_
        refine F.sa_i _ _ _ _ _ _ _ (bhs_app (bhs_mono hL (by decide)) (ov_ln hL hg.1 hg.2 o)) hl (bq_mono (bq_int hg.1.1) (by decide) (by decide)) (bq_mono (bq_int hg.1.2.1) (by decide) (by decide)) (bq_mono bv (by decide) (by decide)) (nzr hg.2) ?_
        have he2 : satM L (g.p : Rat) (g.q : Rat) v = roLoop L M := he'
        rw [he2]
        exact h
    · rintro ρ n' ⟨rfl, hm, he, c, d, rfl⟩
      have he' : (none : Option Ray) = roLoop L M := he
      rw [← he'] at h
      exact h
theorem CD3.b {p q t : Rat} (h : CD3 p q t) : bq 180 100 p ∧ bq 180 100 q ∧ bq 180 100 t := by
  obtain ⟨D, x, y, z, h0, e1, e2, e3, bD, bx, by', bz'⟩ := h.ex
  exact ⟨bq_of h0 e1 bx bD, bq_of h0 e2 by' bD, bq_of h0 e3 bz' bD⟩
theorem oth_b {L : List HP} {p q t v : Rat} (hL : bhs 200 L) (c : CD3 p q t) (e : othM L p q t = some v) : bq 690 610 (v - t) := by
  obtain ⟨bp, bq', bt⟩ := c.b
  have m1 : bq 690 610 (1 - t) := bq_mono (bq_sub b10.1 bt) (by decide) (by decide)
  have m2 : bq 690 610 (-1 - t) := bq_mono (bq_sub (bq_neg b10.1) bt) (by decide) (by decide)
  have can : ∀ a : Rat, a + t - t = a := fun a => by grind
  have fi : ∀ l, infM L p q = some l → bq 690 610 l := fun l i => bq_mono (inf_b hL bp bq' i) (by decide) (by decide)
  unfold othM at e
  dsimp only at e
  cases s : supM L p q with
  | none =>
    rw [s] at e
    dsimp only at e
    rcases (great_eq _ _ _ e).1 with m | m
    · rcases List.mem_cons.mp m with m | m
      · cases m
        exact m1
      · have i := (List.mem_singleton.mp m).symm
        cases k : infM L p q with
        | none => rw [k] at i; cases i
        | some l =>
          rw [k] at i
          cases i
          rw [can]
          exact fi l k
    · cases m
  | some u =>
    rw [s] at e
    dsimp only at e
    split at e
    · cases e
      rw [can]
      exact bq_mono (sup_b hL bp bq' s) (by decide) (by decide)
    · cases k : infM L p q with
      | none =>
        rw [k] at e
        cases e
        exact m2
      | some l =>
        rw [k] at e
        dsimp only [Option.map] at e
        split at e
        · cases e
          rw [can]
          exact fi l k
        · cases e
theorem oth_b2 {L : List HP} {p q t v : Rat} (hL : bhs 200 L) (c : CD3 p q t) (e : othM L p q t = some v) : bq 1000 1000 v := by
  have a := bq_add (oth_b hL c e) c.b.2.2
  have : v - t + t = v := by grind
  rw [this] at a
  exact bq_mono a (by decide) (by decide)
theorem w_ot (L : List HP) (p q t : Rat) (hL : bhs 200 L) (hl : L.length ≤ 34) (c : CD3 p q t) (h : Q (encO (othM L p q t)) n) :
    W 80 ["half_planes", "p", "q", "part", "upper", "lower"] none [fSu F.ca.sm.su, fInf F.ca.sm.su, fAdd F.ca.sm.su.em.hp.od.mp.ra, fGreat F.ca.sm.su.em.hp.od.mp.ra, fNeg F.ca.sm.su.em.hp.od.mp.ra] false T lev row [encL encH L, encQ p, encQ q, encQ t] n Q := by
  obtain ⟨bp, bq', bt⟩ := c.b
  have ok : DirOk 200 100 L p q := ⟨hL, by omega, by decide, by decide, bq_mono bp (by decide) (by decide), bq_mono bq' (by decide) (by decide)⟩
  have st : sm t := sm_of bt (by decide) (by decide)
  unfold othM at h
  dsimp only at h
  refine F.ca.sm.su.su_i _ _ 200 100 _ _ _ _ ok ?_
  refine ck (P := wpSs _ _ [sh (encL encH L), sh (encQ p), sh (encQ q), sh (encQ t), sh (encO (supM L p q)), no] _ _ _) ?_
  refine F.ca.sm.su.inf_i _ _ 200 100 _ _ _ _ ok ?_
  refine ck (P := wpSs _ _ [sh (encL encH L), sh (encQ p), sh (encQ q), sh (encQ t), sh (encO (supM L p q)), sh (encO (infM L p q))] _ _ _) ?_
  have rest : ∀ lo : Option Rat, (∀ v, lo = some v → sm v) → Q (encO (match supM L p q with
      | none => greatM [some 1, lo] none
      | some u => if u + t ≠ 0 then some (u + t) else match lo with
        | none => some (-1)
        | some l => if l ≠ 0 then some l else none)) n → wpSs (wpS (mkC ["half_planes", "p", "q", "part", "upper", "lower"] none [fSu F.ca.sm.su, fInf F.ca.sm.su, fAdd F.ca.sm.su.em.hp.od.mp.ra, fGreat F.ca.sm.su.em.hp.od.mp.ra, fNeg F.ca.sm.su.em.hp.od.mp.ra] konD false T lev row) 12 (defScope (top 80))) ((defBody (top 80)).drop 3) [sh (encL encH L), sh (encQ p), sh (encQ q), sh (encQ t), sh (encO (supM L p q)), sh (encO lo)] n (fun _ n => Q .none n) Q := by
    intro lo hlo h
    cases s : supM L p q with
    | none =>
      rw [s] at h
      refine ck (P := wpSs _ _ [sh (encL encH L), sh (encQ p), sh (encQ q), sh (encQ t), sh .none, sh (encO lo)] _ _ _) ?_
      refine And.intro (by decide : 2 ≤ 1000) ?_
      refine F.ca.sm.su.em.hp.od.mp.ra.great_i _ _ [some 1, lo] _ (fun v hv => ?_) ?_
      · rcases List.mem_cons.mp hv with m | m
        · cases m
          exact sm_of b10.1 (by decide) (by decide)
        · exact hlo v (List.mem_singleton.mp m).symm
      · exact h
    | some u =>
      rw [s] at h
      dsimp only at h
      have bu := sup_b hL bp bq' s
      refine ck (P := wpSs _ _ [sh (encL encH L), sh (encQ p), sh (encQ q), sh (encQ t), sh (encQ u), sh (encO lo)] _ _ _) ?_
      refine F.ca.sm.su.em.hp.od.mp.ra.add_i _ _ _ _ _ (sm_of bu (by decide) (by decide)) st ?_
      refine ck (P := wpSs _ _ [sh (encL encH L), sh (encQ p), sh (encQ q), sh (encQ t), sh (encQ (u + t)), sh (encO lo)] _ _ _) ?_
      refine eq_n isQ (u + t) 0 (fun h1 => ?_) (fun h1 => ?_)
      · rw [if_pos h1] at h
        exact h
      · rw [if_neg (fun z => z h1)] at h
        cases lo with
        | none =>
          refine ck (P := wpSs _ _ [sh (encL encH L), sh (encQ p), sh (encQ q), sh (encQ t), sh (encQ (u + t)), sh .none] _ _ _) ?_
          refine F.ca.sm.su.em.hp.od.mp.ra.neg_i _ _ _ _ ?_
          exact h
        | some l =>
          dsimp only at h
          refine ck (P := wpSs _ _ [sh (encL encH L), sh (encQ p), sh (encQ q), sh (encQ t), sh (encQ (u + t)), sh (encQ l)] _ _ _) ?_
          refine eq_n isQ l 0 (fun h2 => ?_) (fun h2 => ?_)
          · rw [if_pos h2] at h
            exact h
          · rw [if_neg (fun z => z h2)] at h
            exact h
  cases i : infM L p q with
  | none =>
    rw [i] at h
    exact rest none (fun v hv => by cases hv) h
  | some l =>
    rw [i] at h
    have bl := inf_b hL bp bq' i
    refine ck (P := wpSs _ _ [sh (encL encH L), sh (encQ p), sh (encQ q), sh (encQ t), sh (encO (supM L p q)), sh (encQ l)] _ _ _) ?_
    refine F.ca.sm.su.em.hp.od.mp.ra.add_i _ _ _ _ _ (sm_of bl (by decide) (by decide)) st ?_
    exact rest (some (l + t)) (fun v hv => by cases hv; exact sm_of (bq_add bl bt) (by decide) (by decide)) h
end RT
namespace RT
open PySem PySem.Spec PyProof.Rows L2
variable (F : TeS) (T : List Addr) (lev : Nat) (row : List Int) (n : Int) (Q : QD)
theorem oth_ln {L : List HP} {p q t v : Rat} (hL : bhs 200 L) (c : CD3 p q t) (h0 : p ≠ 0 ∨ q ≠ 0) (e : othM L p q t = some v) : bhs 990 (lnP p q (v - t)) := by
  have b := oth_b hL c e
  obtain ⟨D, x, y, z, d0, e1, e2, e3, bD, bx, by', bz'⟩ := c.ex
  refine ln_b (M := (v - t).den * D) (x := (v - t).den * x) (y := (v - t).den * y) (z := (v - t).num * D) h0 (Int.mul_ne_zero (den_z _) d0) ?_ ?_ ?_ ?_ ?_ ?_
  · rw [Rat.intCast_mul, Rat.intCast_mul, ← e1]; grind
  · rw [Rat.intCast_mul, Rat.intCast_mul, ← e2]; grind
  · rw [Rat.intCast_mul, Rat.intCast_mul, ← q_num (v - t)]; grind
  · exact bz_mono (bz_mul (bz_den b) bx) (by decide)
  · exact bz_mono (bz_mul (bz_den b) by') (by decide)
  · exact bz_mono (bz_mul (bz_num b) bD) (by decide)
theorem w_di (L : List HP) (p q t : Rat) (hL : bhs 200 L) (hl : L.length ≤ 34) (c : CD3 p q t) (h : Q (encX (difM L p q t)) n) :
    W 81 ["half_planes", "p", "q", "part", "value"] none [fSmp F.ca.sm, fOt F, fSa F, fSub F.ca.sm.su.em.hp.od.mp.ra] false T lev row [encL encH L, encQ p, encQ q, encQ t] n Q := by
  obtain ⟨bp, bq', bt⟩ := c.b
  have rest : ¬ (p = 0 ∧ q = 0) → wpSs (wpS (mkC ["half_planes", "p", "q", "part", "value"] none [fSmp F.ca.sm, fOt F, fSa F, fSub F.ca.sm.su.em.hp.od.mp.ra] konD false T lev row) 12 (defScope (top 81))) ((defBody (top 81)).drop 1) (rho0 ["half_planes", "p", "q", "part", "value"] [encL encH L, encQ p, encQ q, encQ t]) n (fun _ n => Q .none n) Q := fun hn => by
    have h0 : p ≠ 0 ∨ q ≠ 0 := by
      by_cases z : p = 0
      · exact .inr fun y => hn ⟨z, y⟩
      · exact .inl z
    unfold difM at h
    rw [if_neg hn] at h
    refine F.ot_i _ _ _ _ _ _ _ hL hl c ?_
    cases o : othM L p q t with
    | none =>
      rw [o] at h
      exact h
    | some v =>
      rw [o] at h
      have h' : Q (encX (satM L p q (v - t))) n := h
      refine ck (P := wpSs _ _ [sh (encL encH L), sh (encQ p), sh (encQ q), sh (encQ t), sh (encQ v)] _ _ _) ?_
      refine F.ca.sm.su.em.hp.od.mp.ra.sub_i _ _ _ _ _ (sm_of (oth_b2 hL c o) (by decide) (by decide)) (sm_of bt (by decide) (by decide)) ?_
      refine F.sa_i _ _ _ _ _ _ _ (bhs_app (bhs_mono hL (by decide)) (oth_ln hL c h0 o)) hl (bq_mono bp (by decide) (by decide)) (bq_mono bq' (by decide) (by decide)) (bq_mono (oth_b hL c o) (by decide) (by decide)) h0 ?_
      exact h'
  refine eq_d isQ p 0 (fun h1 => ?_) (fun h1 => ?_)
  · refine eq_d isQ q 0 (fun h2 => ?_) (fun h2 => ?_)
    · refine eq_d isQ t 0 (fun h3 => ?_) (fun h3 => ?_)
      · unfold difM at h
        rw [if_pos ⟨h1, h2⟩, if_pos h3] at h
        exact h
      · unfold difM at h
        rw [if_pos ⟨h1, h2⟩, if_neg h3] at h
        refine F.ca.sm.smp_i _ _ 200 _ _ hL (by decide) (by omega) (smp_ne (bhs_anz hL)) ?_
        exact h
    · exact rest fun z => h2 z.2
  · exact rest fun z => h1 z.1
abbrev ml (m : Mp) : List Rat := [m.a, m.b, m.c, m.d, m.e, m.f]
theorem w_ds (t u : List El) (ht : CfOk t) (hu : CfOk u) (bt : bhs 200 (plM t)) (bu : bhs 200 (plM u)) (lt : (plM t).length ≤ 34) (lu : (plM u).length ≤ 34) (c1 : CD3 ((trM t).a - (trM u).a) ((trM t).b - (trM u).b) ((trM t).e - (trM u).e)) (c2 : CD3 ((trM t).c - (trM u).c) ((trM t).d - (trM u).d) ((trM t).f - (trM u).f)) (h : Q (encX (disM t u)) n) :
    W 82 ["train", "other", "mine", "theirs", "ray", "parts", "one", "two"] none [fPl F.ca, fRo F, fEmp F.ca.sm.su.em, fTr F.ca.sm.su.em.hp.od.mp, fSub F.ca.sm.su.em.hp.od.mp.ra, fDi F] false T lev row [encL encE t, encL encE u] n Q := by
  have st := trFrom_b _ _ ht.tr
  have su := trFrom_b _ _ hu.tr
  refine F.ca.pl_i _ _ _ _ ht.hp ht.len ?_
  refine ck (P := wpSs _ _ [sh (encL encE t), sh (encL encE u), sh (encL encH (plM t)), no, no, no, no, no] _ _ _) ?_
  refine F.ca.pl_i _ _ _ _ hu.hp hu.len ?_
  refine ck (P := wpSs _ _ [sh (encL encE t), sh (encL encE u), sh (encL encH (plM t)), sh (encL encH (plM u)), no, no, no, no] _ _ _) ?_
  have last : roM (plM t) (plM u) = none → roM (plM u) (plM t) = none → wpSs (wpS (mkC ["train", "other", "mine", "theirs", "ray", "parts", "one", "two"] none [fPl F.ca, fRo F, fEmp F.ca.sm.su.em, fTr F.ca.sm.su.em.hp.od.mp, fSub F.ca.sm.su.em.hp.od.mp.ra, fDi F] konD false T lev row) 12 (defScope (top 82))) ((defBody (top 82)).drop 4) [sh (encL encE t), sh (encL encE u), sh (encL encH (plM t)), sh (encL encH (plM u)), sh .none, no, no, no] n (fun _ n => Q .none n) Q := fun e01 e02 => by
    unfold disM at h
    rw [e01, e02] at h
    dsimp only at h
    refine F.ca.sm.su.em.em_i _ _ _ _ (bhs_mono bt (by decide)) (by omega) ?_
    cases e : empM (plM t) with
    | true =>
      rw [if_pos e] at h
      exact h
    | false =>
      rw [if_neg (by rw [e]; decide)] at h
      refine F.ca.sm.su.em.hp.od.mp.tr_i _ _ _ _ ht.tr ?_
      refine F.ca.sm.su.em.hp.od.mp.tr_i _ _ _ _ hu.tr ?_
      refine ck (P := compD _ _ _ (zipD ((ml (trM t)).map encQ) ((ml (trM u)).map encQ)) [] _ _) ?_
      rw [zip_map]
      have sml : ∀ {m : Mp}, bM 1000 m → ∀ x ∈ ml m, sm x := fun {m} b x hx => by
        obtain ⟨a1, a2, a3, a4, a5, a6⟩ := b
        simp only [ml, List.mem_cons, List.not_mem_nil, or_false] at hx
        rcases hx with rfl | rfl | rfl | rfl | rfl | rfl
        · exact sm_of a1 (by decide) (by decide)
        · exact sm_of a2 (by decide) (by decide)
        · exact sm_of a3 (by decide) (by decide)
        · exact sm_of a4 (by decide) (by decide)
        · exact sm_of a5 (by decide) (by decide)
        · exact sm_of a6 (by decide) (by decide)
      refine comp_m (fun x : Rat × Rat => .tuple [encQ x.1, encQ x.2]) (fun x => encQ (x.1 - x.2)) n ((ml (trM t)).zip (ml (trM u))) [] (fun x hx K k => ?_) ?_
      · refine nm (nm ?_)
        refine F.ca.sm.su.em.hp.od.mp.ra.sub_i _ _ _ _ _ (sml st _ (List.of_mem_zip hx).1) (sml su _ (List.of_mem_zip hx).2) ?_
        exact k
      · generalize trM t = m at *
        generalize trM u = k at *
        refine ck (P := wpSs _ _ [sh (encL encE t), sh (encL encE u), sh (encL encH (plM t)), sh (encL encH (plM u)), sh .none, sh (.list [encQ (m.a - k.a), encQ (m.b - k.b), encQ (m.c - k.c), encQ (m.d - k.d), encQ (m.e - k.e), encQ (m.f - k.f)]), no, no] _ _ _) ?_
        refine F.di_i _ _ _ _ _ _ _ bt lt c1 ?_
        refine ck (P := wpSs _ _ [sh (encL encE t), sh (encL encE u), sh (encL encH (plM t)), sh (encL encH (plM u)), sh (encX (difM (plM t) (m.a - k.a) (m.b - k.b) (m.e - k.e))), sh (.list [encQ (m.a - k.a), encQ (m.b - k.b), encQ (m.c - k.c), encQ (m.d - k.d), encQ (m.e - k.e), encQ (m.f - k.f)]), no, no] _ _ _) ?_
        cases d : difM (plM t) (m.a - k.a) (m.b - k.b) (m.e - k.e) with
        | some x =>
          rw [d] at h
          exact h
        | none =>
          rw [d] at h
          refine ck (P := wpSs _ _ [sh (encL encE t), sh (encL encE u), sh (encL encH (plM t)), sh (encL encH (plM u)), sh .none, sh (.list [encQ (m.a - k.a), encQ (m.b - k.b), encQ (m.c - k.c), encQ (m.d - k.d), encQ (m.e - k.e), encQ (m.f - k.f)]), no, no] _ _ _) ?_
          refine F.di_i _ _ _ _ _ _ _ bt lt c2 ?_
          exact h
  refine F.ro_i _ _ _ _ _ bt lt bu ?_
  cases r1 : roM (plM t) (plM u) with
  | some x =>
    have e1 : disM t u = some x := by unfold disM; rw [r1]
    rw [e1] at h
    exact h
  | none =>
    refine ck (P := wpSs _ _ [sh (encL encE t), sh (encL encE u), sh (encL encH (plM t)), sh (encL encH (plM u)), sh .none, no, no, no] _ _ _) ?_
    refine F.ro_i _ _ _ _ _ bu lu bt ?_
    cases r2 : roM (plM u) (plM t) with
    | some x =>
      have e1 : disM t u = some x := by unfold disM; rw [r1, r2]
      rw [e1] at h
      exact h
    | none =>
      exact last r1 r2
end RT
namespace RT
open PySem PySem.Spec PyProof.Rows L2
/-! ### the law's own numbers -/
structure LwS where
  fra : FnS
  fra_i : ∀ row n a b Q, b ≠ 0 → bz 8999 b → Q (encQ ((a : Rat) / (b : Rat))) n → fra row n [.int a, .int b] Q
  add : FnS
  add_i : ∀ row n p q Q, sm p → sm q → Q (encQ (p + q)) n → add row n [encQ p, encQ q] Q
  neg : FnS
  neg_i : ∀ row n p Q, Q (encQ (-p)) n → neg row n [encQ p] Q
  sub : FnS
  sub_i : ∀ row n p q Q, sm p → sm q → Q (encQ (p - q)) n → sub row n [encQ p, encQ q] Q
  mul : FnS
  mul_i : ∀ row n p q Q, sm p → sm q → Q (encQ (p * q)) n → mul row n [encQ p, encQ q] Q
  div : FnS
  div_i : ∀ row n p q Q, sm p → sm q → q ≠ 0 → bq 400000 4400 p → bz 4400 q.num → Q (encQ (p / q)) n → div row n [encQ p, encQ q] Q
  les : FnS
  les_i : ∀ row n p q Q, sm p → sm q → Q (.bool (decide (p < q))) n → les row n [encQ p, encQ q] Q
variable (F : LwS) (T : List Addr) (lev : Nat) (row : List Int) (n : Int) (Q : QD)
theorem w_fra (a b : Int) (hb : b ≠ 0) (hz : bz 8999 b) (h : Q (encQ ((a : Rat) / (b : Rat))) n) : W 88 ["_law_top", "_law_bottom", "_law_one", "_law_other_here"] none [] false T lev row [.int a, .int b] n Q := by
  have h0 : Int.gcd a b ≠ 0 := fun z => hb (Int.gcd_eq_zero_iff.mp z).2
  have hle : Int.gcd a b ≤ b.natAbs := Nat.le_of_dvd (by omega) (Int.gcd_dvd_natAbs_right a b)
  have ha : ∀ i : Int, (if i < 0 then -i else i) = (i.natAbs : Int) := fun i => by split <;> omega
  refine ⟨fun m ρ n' => n' = n ∧ ∃ x y : Nat, Nat.gcd x y = Int.gcd a b ∧ m = y ∧ ρ = [some (.shr (.int a)), some (.shr (.int b)), some (.shr (.int x)), some (.shr (.int y))], ?_, ?_⟩
  · refine ⟨b.natAbs, rfl, a.natAbs, b.natAbs, rfl, rfl, ?_⟩
    rw [← ha a, ← ha b]
    rfl
  · rintro y ρ n' ⟨rfl, x, _, h1, rfl, rfl⟩
    refine ite_d (fun hy => ?_) (fun hy => ?_)
    · have hy' : (y : Int) ≠ 0 := by omega
      refine And.intro hy' ?_
      refine ⟨x % y, Nat.mod_lt _ (by omega), rfl, y, x % y, ?_, rfl, ?_⟩
      · rw [← h1, Nat.gcd_comm x y, Nat.gcd_rec y x, Nat.gcd_comm]
      · have e : ((x : Int).fmod y) = ((x % y : Nat) : Int) := by
          rw [Int.fmod_eq_emod_of_nonneg _ (by omega)]
          rfl
        rw [← e]
        rfl
    · have ey : y = 0 := by omega
      subst ey
      have e : x = Int.gcd a b := by
        rw [← h1, Nat.gcd_zero_right]
      subst e
      refine ite_d (fun hc => ?_) (fun hc => ?_)
      · have hg : CDivZ a (-(Int.gcd a b : Int)) := cdiv_of (a := 8999) (Nat.lt_of_le_of_lt (by rw [Int.natAbs_neg]; exact hle) hz) (by omega) (by decide)
        refine And.intro hg ?_
        refine And.intro hg ?_
        refine And.intro (by decide : 2 ≤ 1000) ?_
        rw [← frac_eq hb (g := -(Int.gcd a b : Int)) (by rw [if_pos hc])] at h
        exact h
      · have hg : CDivZ a ((Int.gcd a b : Int)) := cdiv_of (a := 8999) (Nat.lt_of_le_of_lt hle hz) (by omega) (by decide)
        refine And.intro hg ?_
        refine And.intro hg ?_
        refine And.intro (by decide : 2 ≤ 1000) ?_
        rw [← frac_eq hb (g := (Int.gcd a b : Int)) (by rw [if_neg hc])] at h
        exact h
abbrev gFra : Fi := ⟨"_law_frac", F.fra, 2, []⟩
abbrev gAdd : Fi := ⟨"_law_add", F.add, 2, []⟩
abbrev gNeg : Fi := ⟨"_law_neg", F.neg, 1, []⟩
abbrev gSub : Fi := ⟨"_law_sub", F.sub, 2, []⟩
abbrev gMul : Fi := ⟨"_law_mul", F.mul, 2, []⟩
abbrev gDiv : Fi := ⟨"_law_div", F.div, 2, []⟩
abbrev gLes : Fi := ⟨"_law_less", F.les, 2, []⟩
theorem w_ladd (p q : Rat) (hp : sm p) (hq : sm q) (h : Q (encQ (p + q)) n) : W 89 ["_law_one", "_law_other_here"] none [gFra F] false T lev row [encQ p, encQ q] n Q := by
  refine And.intro (cmul_of (bz_num hp) (bz_den hq) (by decide)) ?_
  refine And.intro (cmul_of (bz_num hq) (bz_den hp) (by decide)) ?_
  refine And.intro (cmul_of (bz_den hp) (bz_den hq) (by decide)) ?_
  refine F.fra_i _ _ _ _ _ (Int.mul_ne_zero (den_z p) (den_z q)) (two_bq hp hq) ?_
  have e : (((p.num * q.den + q.num * p.den : Int) : Rat) / ((p.den * q.den : Int) : Rat)) = p + q := by
    have h3 : ((p.den : Int) : Rat) * ((q.den : Int) : Rat) ≠ 0 := fun z => (Rat.mul_eq_zero.mp z).elim (den_ne p) (den_ne q)
    have e2 : (p * ((p.den : Int) : Rat) * ((q.den : Int) : Rat) + q * ((q.den : Int) : Rat) * ((p.den : Int) : Rat)) = (p + q) * (((p.den : Int) : Rat) * ((q.den : Int) : Rat)) := by grind
    rw [Rat.intCast_add, Rat.intCast_mul, Rat.intCast_mul, Rat.intCast_mul, ← q_num p, ← q_num q, e2, Rat.mul_div_cancel h3]
  rw [e]
  exact h
theorem w_lneg (p : Rat) (h : Q (encQ (-p)) n) : W 90 ["_law_one"] none [] false T lev row [encQ p] n Q := by
  refine And.intro (by decide : 2 ≤ 1000) ?_
  exact h
theorem w_lsub (p q : Rat) (hp : sm p) (hq : sm q) (h : Q (encQ (p - q)) n) : W 91 ["_law_one", "_law_other_here"] none [gAdd F, gNeg F] false T lev row [encQ p, encQ q] n Q := by
  refine F.neg_i _ _ _ _ ?_
  refine F.add_i _ _ _ _ _ hp (bq_neg hq) ?_
  rw [Rat.sub_eq_add_neg] at h
  exact h
theorem w_lmul (p q : Rat) (hp : sm p) (hq : sm q) (h : Q (encQ (p * q)) n) : W 92 ["_law_one", "_law_other_here"] none [gFra F] false T lev row [encQ p, encQ q] n Q := by
  refine And.intro (cmul_of (bz_num hp) (bz_num hq) (by decide)) ?_
  refine And.intro (cmul_of (bz_den hp) (bz_den hq) (by decide)) ?_
  refine F.fra_i _ _ _ _ _ (Int.mul_ne_zero (den_z p) (den_z q)) (two_bq hp hq) ?_
  have e : (((p.num * q.num : Int) : Rat) / ((p.den * q.den : Int) : Rat)) = p * q := by
    have h3 : ((p.den : Int) : Rat) * ((q.den : Int) : Rat) ≠ 0 := fun z => (Rat.mul_eq_zero.mp z).elim (den_ne p) (den_ne q)
    have e2 : (p * ((p.den : Int) : Rat) * (q * ((q.den : Int) : Rat))) = (p * q) * (((p.den : Int) : Rat) * ((q.den : Int) : Rat)) := by grind
    rw [Rat.intCast_mul, Rat.intCast_mul, ← q_num p, ← q_num q, e2, Rat.mul_div_cancel h3]
  rw [e]
  exact h
theorem w_ldiv (p q : Rat) (hp : sm p) (hq : sm q) (h0 : q ≠ 0) (hp2 : bq 400000 4400 p) (hq2 : bz 4400 q.num) (h : Q (encQ (p / q)) n) : W 93 ["_law_one", "_law_other_here"] none [gFra F] false T lev row [encQ p, encQ q] n Q := by
  have hn : q.num ≠ 0 := fun z => h0 (Rat.num_eq_zero.mp z)
  refine And.intro (cmul_of (bz_num hp) (bz_den hq) (by decide)) ?_
  refine And.intro (cmul_of (bz_den hp) (bz_num hq) (by decide)) ?_
  refine F.fra_i _ _ _ _ _ (Int.mul_ne_zero (den_z p) hn) (bz_mono (bz_mul (bz_den hp2) hq2) (by decide)) ?_
  have e : (((p.num * q.den : Int) : Rat) / ((p.den * q.num : Int) : Rat)) = p / q := by
    have h1 := den_ne p
    have h2 := den_ne q
    have h4 : p / q * q = p := Rat.div_mul_cancel h0
    rw [Rat.intCast_mul, Rat.intCast_mul, ← q_num p, ← q_num q]
    have h3 : ((p.den : Int) : Rat) * (q * ((q.den : Int) : Rat)) ≠ 0 := fun z => (Rat.mul_eq_zero.mp z).elim h1 fun z => (Rat.mul_eq_zero.mp z).elim h0 h2
    have e2 : (p * ((p.den : Int) : Rat) * ((q.den : Int) : Rat)) = (p / q) * (((p.den : Int) : Rat) * (q * ((q.den : Int) : Rat))) := by
      generalize p / q = t at *
      rw [← h4]
      grind
    rw [e2, Rat.mul_div_cancel h3]
  rw [e]
  exact h
theorem w_les (p q : Rat) (hp : sm p) (hq : sm q) (h : Q (.bool (decide (p < q))) n) : W 94 ["_law_one", "_law_other_here"] none [] false T lev row [encQ p, encQ q] n Q := by
  refine And.intro (cmul_of (bz_num hp) (bz_den hq) (by decide)) ?_
  refine And.intro (cmul_of (bz_num hq) (bz_den hp) (by decide)) ?_
  have e : decide (p < q) = decide (p.num * (q.den : Int) < q.num * (p.den : Int)) := decide_eq_decide.mpr (Rat.lt_iff p q)
  rw [e] at h
  exact h
theorem bzl (k : Nat) (i : Int) (h : i.natAbs < 2 ^ k := by decide) : bz k i := h
/-! ### what the script's numbers become -/
structure DrS where
  cell : FnS
  cell_i : ∀ row n (ns : List Int) (k : Nat) Q, (∀ v, Q (.int v) n) → cell row n [.list (ns.map PyData.int), .int k] Q
  rw : FnS
  rw_i : ∀ row n c (k : Nat) Q, k ≤ 1000 → (∀ vs : List Int, vs.length ≤ 60 → Q (.list (vs.map PyData.int)) n) → rw row n [.int c, .int k, .int 12] Q
theorem w_cell (ns : List Int) (k : Nat) (h : ∀ v, Q (.int v) n) : W 84 ["_law_script", "_law_k"] none [] false T lev row [.list (ns.map PyData.int), .int k] n Q := by
  refine ite_d (fun h1 => ?_) (fun h1 => ?_)
  · have hk : k < (ns.map PyData.int).length := by omega
    have e : atI (ns.map PyData.int) (k : Int) = some (.int ns[k]!) := by
      unfold atI
      have e1 : ixN (ns.map PyData.int).length (k : Int) = some k := by
        unfold ixN
        rw [if_pos (by omega), if_pos (by omega)]
        rfl
      rw [e1]
      show (ns.map PyData.int)[k]? = _
      rw [List.length_map] at hk
      rw [List.getElem?_map, List.getElem?_eq_getElem hk, getElem!_pos ns k hk]
      rfl
    show match atI (ns.map PyData.int) (k : Int) with
      | some d => Q d n
      | none => False
    rw [e]
    exact h _
  · exact h 0
abbrev wholes (vs : List Int) : D := .list (vs.map PyData.int)
theorem w_row (c : Int) (k : Nat) (hk : k ≤ 1000) (h : ∀ vs : List Int, vs.length ≤ 60 → Q (wholes vs) n) : W 85 ["_law_cell_here", "_law_k", "_law_many", "_law_row_here", "_law_turn", "_law_seed"] (some 3) [] false T lev row [.int c, .int k, .int 12] n Q := by
  have rest : ∀ c : Int, 0 ≤ c → wpSs (wpS (mkC ["_law_cell_here", "_law_k", "_law_many", "_law_row_here", "_law_turn", "_law_seed"] (some 3) [] konD false T lev row) 12 (defScope (top 85))) ((defBody (top 85)).drop 2) [sh (.int c), sh (.int k), sh (.int 12), ow [], no, no] n (fun _ n => Q .none n) Q := fun c hc => by
    have cp : CPow 10 18 := ⟨by decide, by decide, by decide⟩
    refine And.intro cp ?_
    refine ite_d (fun h1 => ?_) (fun h1 => ?_)
    · refine And.intro (by decide : (-1000000 : Int) ≤ 60 ∧ (60 : Int) ≤ 1000000) ?_
      refine for_r0 (fun i ρ n' => n' = n ∧ ∃ (c : Int) (vs : List Int) (d : Option Cell), vs.length ≤ i ∧ ρ = [sh (.int c), sh (.int k), sh (.int 12), ow (vs.map PyData.int), d, no]) 60 rfl ?_ ?_ _ _ ⟨rfl, c, [], no, Nat.le_refl _, rfl⟩
      · rintro j ρ n' K hj ⟨rfl, c, vs, d, hl, rfl⟩ hK
        refine nm ?_
        refine ck (P := wpSs _ _ [sh (.int c), sh (.int k), sh (.int 12), ow (vs.map PyData.int), sh (.int j), no] _ _ _) ?_
        refine ite_d (fun h1 => ?_) (fun h1 => ?_)
        · refine ite_d (fun h2 => ?_) (fun h2 => ?_)
          · refine And.intro (by decide : (1000 : Int) ≠ 0) ?_
            refine And.intro (szlt (by rw [List.length_map]; omega)) ?_
            refine And.intro (cdiv_of (bzl 10 1000) (by decide) (by decide)) ?_
            refine hK _ _ ⟨rfl, c.fdiv 1000, vs ++ [c.fmod 1000], sh (.int j), ?_, ?_⟩
            · rw [List.length_append]
              simp only [List.length_singleton]
              omega
            · rw [List.map_append]
              rfl
          · exact hK _ _ ⟨rfl, c, vs, _, by omega, rfl⟩
        · exact hK _ _ ⟨rfl, c, vs, _, by omega, rfl⟩
      · rintro ρ n' ⟨rfl, c, vs, d, hl, rfl⟩
        exact h vs hl
    · have hc2 : c < 10 ^ 18 := by
        have : ¬ ((10 : Int) ^ 18 ≤ c) := h1
        omega
      have b1 : bz 60 c := by
        unfold bz
        omega
      have b2 : bz 10 (k : Int) := by
        unfold bz
        omega
      refine And.intro (cmul_of b1 (bzl 20 48271) (by decide)) ?_
      refine And.intro (cmul_of b2 (bzl 20 69621) (by decide)) ?_
      refine And.intro (by decide : (2147483647 : Int) ≠ 0) ?_
      have md : ∀ x : Int, 0 ≤ x.fmod 2147483647 ∧ x.fmod 2147483647 < 2147483647 := fun x => by
        rw [Int.fmod_eq_emod_of_nonneg _ (by decide)]
        exact ⟨Int.emod_nonneg _ (by decide), Int.emod_lt_of_pos _ (by decide)⟩
      have s1 := md (c * 48271 + (k : Int) * 69621 + 11)
      refine ck (P := wpSs _ _ [sh (.int c), sh (.int k), sh (.int 12), ow [], no, sh (.int ((c * 48271 + (k : Int) * 69621 + 11).fmod 2147483647))] _ _ _) ?_
      generalize (c * 48271 + (k : Int) * 69621 + 11).fmod 2147483647 = s at *
      refine And.intro (by decide : (-1000000 : Int) ≤ 12 ∧ (12 : Int) ≤ 1000000) ?_
      refine for_r0 (fun i ρ n' => n' = n ∧ ∃ (s : Int) (vs : List Int) (d : Option Cell), 0 ≤ s ∧ s < 2147483647 ∧ vs.length ≤ i ∧ ρ = [sh (.int c), sh (.int k), sh (.int 12), ow (vs.map PyData.int), d, sh (.int s)]) 12 rfl ?_ ?_ _ _ ⟨rfl, s, [], no, s1.1, s1.2, Nat.le_refl _, rfl⟩
      · rintro j ρ n' K hj ⟨rfl, s, vs, d, hs1, hs2, hl, rfl⟩ hK
        have b3 : bz 31 s := by
          unfold bz
          omega
        have b4 : bz 10 (j : Int) := by
          unfold bz
          omega
        have s2 := md (s * 16807 + 7 * (j : Int) + 1)
        refine nm ?_
        refine And.intro (cmul_of b3 (bzl 20 16807) (by decide)) ?_
        refine And.intro (cmul_of (bzl 10 7) b4 (by decide)) ?_
        refine And.intro (by decide : (2147483647 : Int) ≠ 0) ?_
        refine ck (P := wpSs _ _ [sh (.int c), sh (.int k), sh (.int 12), ow (vs.map PyData.int), sh (.int j), sh (.int ((s * 16807 + 7 * (j : Int) + 1).fmod 2147483647))] _ _ _) ?_
        generalize (s * 16807 + 7 * (j : Int) + 1).fmod 2147483647 = z at *
        refine And.intro (cdiv_of (bzl 10 997) (by decide) (by decide)) ?_
        refine And.intro (by decide : (1000 : Int) ≠ 0) ?_
        refine And.intro (szlt (by rw [List.length_map]; omega)) ?_
        refine hK _ _ ⟨rfl, z, vs ++ [(z.fdiv 997).fmod 1000], sh (.int j), s2.1, s2.2, ?_, ?_⟩
        · rw [List.length_append]
          simp only [List.length_singleton]
          omega
        · rw [List.map_append]
          rfl
      · rintro ρ n' ⟨rfl, s, vs, d, _, _, hl, rfl⟩
        exact h vs (by omega)
  refine And.intro (Nat.zero_le _) ?_
  refine ite_d (fun h1 => ?_) (fun h1 => ?_)
  · refine And.intro (.inr (by decide)) ?_
    refine tr ?_
    exact rest _ (by omega)
  · exact rest c (by omega)
end RT
namespace RT
open PySem PySem.Spec PyProof.Rows L2
/-! ### random trains -/
/-- sixths -/
def six (q : Rat) : Prop := ∃ N : Int, q * 6 = (N : Rat) ∧ -48 ≤ N ∧ N ≤ 48
def frq (q : Rat) : Prop := ∃ a d : Int, -4 ≤ a ∧ a ≤ 4 ∧ (d = 1 ∨ d = 2 ∨ d = 3) ∧ q = (a : Rat) / (d : Rat)
def elV : El → Prop
  | .gap t => six t
  | .lens p h => six p ∧ six h
  | .prism s => six s
  | .afocal m => frq m ∧ m ≠ 0
  | .stop lo hi => (∀ v, lo = some v → six v) ∧ ∀ v, hi = some v → six v
/-- made at random -/
def elF (e : El) : Prop := elV e ∧ ∀ t, e = .gap t → frq t
theorem elF_no {e : El} (h : elV e) (h2 : ∀ t, e ≠ .gap t) : elF e := ⟨h, fun t ht => absurd ht (h2 t)⟩
structure RnS where
  lw : LwS
  dr : FnS
  dr_i : ∀ row n m Q, 0 ≤ n → n ≤ 10000 → 0 < m → (∀ v, 0 ≤ v → v < m → Q (.int v) (n + 1)) → dr row n [.dict [], .int m] Q
  fr : FnS
  fr_i : ∀ row n Q, 0 ≤ n → n ≤ 9000 → (∀ q, frq q → Q (encQ q) (n + 2)) → fr row n [.dict []] Q
  nz : FnS
  nz_i : ∀ row n Q, 0 ≤ n → n ≤ 9000 → (∀ q, frq q → q ≠ 0 → Q (encQ q) (n + 2)) → nz row n [.dict []] Q
  st : FnS
  st_i : ∀ row n Q, 0 ≤ n → n ≤ 8000 → (∀ lo hi, elV (.stop lo hi) → Q (encE (.stop lo hi)) (n + 4)) → st row n [.dict []] Q
  el : FnS
  el_i : ∀ row n Q, 0 ≤ n → n ≤ 7000 → (∀ e n', elF e → n ≤ n' → n' ≤ n + 6 → Q (encE e) n') → el row n [.dict []] Q
variable (F : RnS) (T : List Addr) (lev : Nat) (row : List Int) (n : Int) (Q : QD)
theorem w_draw (m : Int) (h0 : 0 ≤ n) (h1 : n ≤ 10000) (hm : 0 < m) (h : ∀ v, 0 ≤ v → v < m → Q (.int v) (n + 1)) : W 87 ["_law_box_here", "_law_many", "_law_at"] none [] false T lev row [.dict [], .int m] n Q := by
  have md : ∀ x : Int, 0 ≤ x.fmod m ∧ x.fmod m < m := fun x => by
    rw [Int.fmod_eq_emod_of_nonneg _ (by omega)]
    exact ⟨Int.emod_nonneg _ (by omega), Int.emod_lt_of_pos _ hm⟩
  have b1 : bz 20 n := by
    unfold bz
    omega
  refine ck (P := wpSs _ _ [bxc, sh (.int m), sh (.int n)] _ _ _) ?_
  refine ite_d (fun h2 => ?_) (fun h2 => ?_)
  · have hk : n.toNat < row.length := by
      have h3 : n < ((row.map PyData.int).length : Nat) := h2
      rw [List.length_map] at h3
      omega
    have e : atI (row.map PyData.int) n = some (.int row[n.toNat]!) := by
      unfold atI
      have e1 : ixN (row.map PyData.int).length n = some n.toNat := by
        unfold ixN
        rw [if_pos (by omega), if_pos (by rw [List.length_map]; omega)]
      rw [e1]
      show (row.map PyData.int)[n.toNat]? = _
      rw [List.getElem?_map, List.getElem?_eq_getElem hk, getElem!_pos row n.toNat hk]
      rfl
    refine ck (P := match atI (row.map PyData.int) n with
      | some d => _
      | none => False) ?_
    rw [e]
    refine And.intro (by omega) ?_
    exact h _ (md _).1 (md _).2
  · refine And.intro (cmul_of b1 (bzl 10 7) (by decide)) ?_
    refine And.intro (by omega) ?_
    exact h _ (md _).1 (md _).2
abbrev kDr : Fi := ⟨"_law_draw", F.dr, 2, []⟩
abbrev kFr : Fi := ⟨"_law_fraction", F.fr, 1, []⟩
abbrev kNz : Fi := ⟨"_law_nonzero", F.nz, 1, []⟩
abbrev kSt : Fi := ⟨"_law_stop", F.st, 1, []⟩
abbrev kEl : Fi := ⟨"_law_element", F.el, 1, []⟩
theorem four {v : Int} (h0 : 0 ≤ v) (h1 : v < 4) : v = 0 ∨ v = 1 ∨ v = 2 ∨ v = 3 := by omega
theorem w_fr_r (h0 : 0 ≤ n) (h1 : n ≤ 9000) (h : ∀ q, frq q → Q (encQ q) (n + 2)) : W 95 ["_law_box_here"] none [gFra F.lw, kDr F] false T lev row [.dict []] n Q := by
  refine F.dr_i _ _ _ _ h0 (by omega) (by decide) fun v v0 v1 => ?_
  refine tr ?_
  refine And.intro (by decide : 4 ≤ 1000) ?_
  refine F.dr_i _ _ _ _ (by omega) (by omega) (by decide) fun w w0 w1 => ?_
  have e : n + 1 + 1 = n + 2 := by omega
  rw [e]
  have fin : ∀ d : Int, (d = 1 ∨ d = 2 ∨ d = 3) → F.lw.fra row (n + 2) [.int (v - 4), .int d] Q := fun d hd => by
    refine F.lw.fra_i _ _ _ _ _ (by omega) (bz_mono (a := 4) (by unfold bz; omega) (by decide)) ?_
    exact h _ ⟨v - 4, d, by omega, by omega, hd, rfl⟩
  rcases four w0 w1 with rfl | rfl | rfl | rfl
  · exact fin 1 (.inl rfl)
  · exact fin 1 (.inl rfl)
  · exact fin 2 (.inr (.inl rfl))
  · exact fin 3 (.inr (.inr rfl))
theorem frq_bq {q : Rat} (h : frq q) : bq 4 4 q := by
  obtain ⟨a, d, h1, h2, h3, rfl⟩ := h
  have d0 : d ≠ 0 := by omega
  refine bq_of (N := a) (D := d) d0 (Rat.div_mul_cancel fun z => d0 (r0.mp z)) ?_ ?_ <;> · unfold bz; omega
theorem frq_six {q : Rat} (h : frq q) : six q := by
  obtain ⟨a, d, h1, h2, h3, rfl⟩ := h
  have e : ∀ k : Int, k ≠ 0 → (a : Rat) / (k : Rat) * (k : Rat) = (a : Rat) := fun k hk => Rat.div_mul_cancel fun z => hk (r0.mp z)
  rcases h3 with rfl | rfl | rfl
  · refine ⟨a * 6, ?_, by omega, by omega⟩
    have := e 1 (by decide)
    rw [Rat.intCast_mul]
    generalize (a : Rat) / ((1 : Int) : Rat) = x at *
    rw [← this]
    grind
  · refine ⟨a * 3, ?_, by omega, by omega⟩
    have := e 2 (by decide)
    rw [Rat.intCast_mul]
    generalize (a : Rat) / ((2 : Int) : Rat) = x at *
    rw [← this]
    grind
  · refine ⟨a * 2, ?_, by omega, by omega⟩
    have := e 3 (by decide)
    rw [Rat.intCast_mul]
    generalize (a : Rat) / ((3 : Int) : Rat) = x at *
    rw [← this]
    grind
theorem six_bq {q : Rat} (h : six q) : bq 10 4 q := by
  obtain ⟨N, e, h1, h2⟩ := h
  refine bq_of (N := N) (D := 6) (by decide) e ?_ (bzl 4 6)
  unfold bz
  omega
theorem half_q : encQ ((1 : Int) / (2 : Int) : Rat) = .tuple [.int 1, .int 2] := by
  have e : ((1 : Int) / (2 : Int) : Rat) = mkRat 1 2 := by
    rw [← Rat.divInt_eq_div]
    rfl
  rw [e]
  rfl
theorem w_nz_r (h0 : 0 ≤ n) (h1 : n ≤ 9000) (h : ∀ q, frq q → q ≠ 0 → Q (encQ q) (n + 2)) : W 96 ["_law_box_here", "_law_value"] none [kFr F] false T lev row [.dict []] n Q := by
  refine F.fr_i _ _ _ h0 h1 fun q hq => ?_
  refine ck (P := wpSs _ _ [bxc, sh (encQ q)] _ _ _) ?_
  refine eq_d isI q.num 0 (fun h2 => ?_) (fun h2 => ?_)
  · refine And.intro (by decide : 2 ≤ 1000) ?_
    have := h ((1 : Int) / (2 : Int) : Rat) ⟨1, 2, by decide, by decide, .inr (.inl rfl), rfl⟩ (fun z => by
      have d := Rat.div_mul_cancel (a := ((1 : Int) : Rat)) (b := ((2 : Int) : Rat)) (by decide)
      rw [z, Rat.zero_mul] at d
      exact absurd (r0.mp d.symm) (by decide))
    rw [half_q] at this
    exact this
  · exact h q hq fun z => h2 (by rw [z]; rfl)
theorem six_up {q : Rat} (h : frq q) {v : Int} (v0 : 0 ≤ v) (v1 : v < 9) : six (q + (v : Rat) / ((2 : Int) : Rat)) ∧ bq 10 4 ((v : Rat) / ((2 : Int) : Rat)) := by
  obtain ⟨a, d, h1, h2, h3, rfl⟩ := h
  have d2 := Rat.div_mul_cancel (a := (v : Rat)) (b := ((2 : Int) : Rat)) (by decide)
  have e : ∀ k : Int, k ≠ 0 → (a : Rat) / (k : Rat) * (k : Rat) = (a : Rat) := fun k hk => Rat.div_mul_cancel fun z => hk (r0.mp z)
  refine ⟨?_, bq_of (N := v) (D := 2) (by decide) d2 (by unfold bz; omega) (bzl 4 2)⟩
  generalize (v : Rat) / ((2 : Int) : Rat) = y at *
  have c2 : ((2 : Int) : Rat) = 2 := rfl
  have c3 : ((3 : Int) : Rat) = 3 := rfl
  have c6 : ((6 : Int) : Rat) = 6 := rfl
  have c1 : ((1 : Int) : Rat) = 1 := rfl
  rcases h3 with rfl | rfl | rfl
  · refine ⟨a * 6 + v * 3, ?_, by omega, by omega⟩
    have := e 1 (by decide)
    rw [Rat.intCast_add, Rat.intCast_mul, Rat.intCast_mul]
    generalize (a : Rat) / ((1 : Int) : Rat) = x at *
    rw [← this, ← d2]
    grind
  · refine ⟨a * 3 + v * 3, ?_, by omega, by omega⟩
    have := e 2 (by decide)
    rw [Rat.intCast_add, Rat.intCast_mul, Rat.intCast_mul]
    generalize (a : Rat) / ((2 : Int) : Rat) = x at *
    rw [← this, ← d2]
    grind
  · refine ⟨a * 2 + v * 3, ?_, by omega, by omega⟩
    have := e 3 (by decide)
    rw [Rat.intCast_add, Rat.intCast_mul, Rat.intCast_mul]
    generalize (a : Rat) / ((3 : Int) : Rat) = x at *
    rw [← this, ← d2]
    grind
theorem w_st_r (h0 : 0 ≤ n) (h1 : n ≤ 8000) (h : ∀ lo hi, elV (.stop lo hi) → Q (encE (.stop lo hi)) (n + 4)) : W 97 ["_law_box_here", "_law_lower", "_law_upper", "_law_kind"] none [gFra F.lw, gAdd F.lw, kDr F, kFr F] false T lev row [.dict []] n Q := by
  refine F.fr_i _ _ _ h0 (by omega) fun q hq => ?_
  refine ck (P := wpSs _ _ [bxc, sh (encQ q), no, no] _ _ _) ?_
  refine F.dr_i _ _ _ _ (by omega) (by omega) (by decide) fun v v0 v1 => ?_
  refine F.lw.fra_i _ _ _ _ _ (by decide) (bz_mono (bzl 4 2) (by decide)) ?_
  obtain ⟨s1, s2⟩ := six_up hq v0 v1
  refine F.lw.add_i _ _ _ _ _ (sm_of (frq_bq hq) (by decide) (by decide)) (sm_of s2 (by decide) (by decide)) ?_
  refine ck (P := wpSs _ _ [bxc, sh (encQ q), sh (encQ (q + (v : Rat) / ((2 : Int) : Rat))), no] _ _ _) ?_
  generalize q + (v : Rat) / ((2 : Int) : Rat) = u at *
  refine F.dr_i _ _ _ _ (by omega) (by omega) (by decide) fun w w0 w1 => ?_
  refine ck (P := wpSs _ _ [bxc, sh (encQ q), sh (encQ u), sh (.int w)] _ _ _) ?_
  have e : n + 2 + 1 + 1 = n + 4 := by omega
  rw [e]
  refine eq_d isI w 0 (fun h2 => ?_) (fun h2 => ?_)
  · refine And.intro (by decide : 3 ≤ 1000) ?_
    exact h none (some u) ⟨fun v hv => (by cases hv), fun v hv => (by cases hv; exact s1)⟩
  · refine eq_d isI w 1 (fun h3 => ?_) (fun h3 => ?_)
    · refine And.intro (by decide : 3 ≤ 1000) ?_
      exact h (some q) none ⟨fun v hv => (by cases hv; exact frq_six hq), fun v hv => (by cases hv)⟩
    · refine And.intro (by decide : 3 ≤ 1000) ?_
      exact h (some q) (some u) ⟨fun v hv => (by cases hv; exact frq_six hq), fun v hv => (by cases hv; exact s1)⟩
theorem six0 : six 0 := ⟨0, by rw [Rat.zero_mul]; rfl, by decide, by decide⟩
theorem w_el_r (h0 : 0 ≤ n) (h1 : n ≤ 7000) (h : ∀ e n', elF e → n ≤ n' → n' ≤ n + 6 → Q (encE e) n') : W 98 ["_law_box_here", "_law_kind"] none [kDr F, kFr F, kNz F, kSt F] false T lev row [.dict []] n Q := by
  refine F.dr_i _ _ _ _ h0 (by omega) (by decide) fun w w0 w1 => ?_
  refine ck (P := wpSs _ _ [bxc, sh (.int w)] _ _ _) ?_
  refine ite_d (fun h2 => ?_) (fun h2 => ?_)
  · refine F.fr_i _ _ _ (by omega) (by omega) fun q hq => ?_
    refine And.intro (by decide : 2 ≤ 1000) ?_
    exact h (.gap q) _ ⟨frq_six hq, fun t ht => by cases ht; exact hq⟩ (by omega) (by omega)
  · refine ite_d (fun h3 => ?_) (fun h3 => ?_)
    · refine F.fr_i _ _ _ (by omega) (by omega) fun p hp => ?_
      refine And.intro (by decide : 2 ≤ 1000) ?_
      refine F.fr_i _ _ _ (by omega) (by omega) fun q hq => ?_
      refine And.intro (by decide : 2 ≤ 1000) ?_
      refine F.dr_i _ _ _ _ (by omega) (by omega) (by decide) fun v v0 v1 => ?_
      have hv : v = 0 ∨ v = 1 := by omega
      rcases hv with rfl | rfl
      · refine And.intro (by decide : 3 ≤ 1000) ?_
        exact h (.lens p 0) _ (elF_no ⟨frq_six hp, six0⟩ fun t ht => by cases ht) (by omega) (by omega)
      · refine And.intro (by decide : 3 ≤ 1000) ?_
        exact h (.lens p q) _ (elF_no ⟨frq_six hp, frq_six hq⟩ fun t ht => by cases ht) (by omega) (by omega)
    · refine eq_d isI w 4 (fun h4 => ?_) (fun h4 => ?_)
      · refine F.fr_i _ _ _ (by omega) (by omega) fun q hq => ?_
        refine And.intro (by decide : 2 ≤ 1000) ?_
        exact h (.prism q) _ (elF_no (frq_six hq) fun t ht => by cases ht) (by omega) (by omega)
      · refine eq_d isI w 5 (fun h5 => ?_) (fun h5 => ?_)
        · refine F.nz_i _ _ _ (by omega) (by omega) fun q hq hn => ?_
          refine And.intro (by decide : 2 ≤ 1000) ?_
          exact h (.afocal q) _ (elF_no ⟨hq, hn⟩ fun t ht => by cases ht) (by omega) (by omega)
        · refine F.st_i _ _ _ (by omega) (by omega) fun lo hi hs => ?_
          exact h (.stop lo hi) _ (elF_no hs fun t ht => by cases ht) (by omega) (by omega)
end RT
namespace RT
open PySem PySem.Spec PyProof.Rows L2
/-! ### random trains, exits -/
theorem comp_dn {asg : D → (RE → Prop) → Prop} {we : WD} (P : D → Prop) (J : Nat → Int → Prop) {Q : List D → Int → Prop} : ∀ (items : List D) (acc : List D) (n : Int), J items.length n →
    (∀ x ∈ items, ∀ m n (K1 : D → Int → Prop), J (m + 1) n → (∀ d n', P d → J m n' → K1 d n') → asg x fun ρ1 => we ρ1 n K1) →
    (∀ ds n', ds.length = items.length → (∀ d ∈ ds, P d) → J 0 n' → Q (acc ++ ds) n') → compD asg (fun _ n Q => Q true n) we items acc n Q
  | [], acc, n, hj, _, q => by
    have := q [] n rfl (by simp) hj
    show Q acc n
    simpa using this
  | x :: r, acc, n, hj, h, q => by
    refine h x (List.mem_cons_self ..) r.length n _ hj fun d n1 hd hj1 => ?_
    refine comp_dn P J r (acc ++ [d]) n1 hj1 (fun y hy => h y (List.mem_cons_of_mem _ hy)) fun ds n2 hl hds hj2 => ?_
    have := q (d :: ds) n2 (by simp [hl]) (by intro y hy; rcases List.mem_cons.mp hy with rfl | hy; exact hd; exact hds y hy) hj2
    simpa using this
theorem dec_all {α : Type} {e : α → D} {P : α → Prop} : ∀ (ds : List D), (∀ d ∈ ds, ∃ a, P a ∧ d = e a) → ∃ t : List α, ds = t.map e ∧ ∀ a ∈ t, P a
  | [], _ => ⟨[], rfl, fun a ha => by cases ha⟩
  | d :: ds, h => by
    obtain ⟨a, ha, rfl⟩ := h d (List.mem_cons_self ..)
    obtain ⟨t, rfl, ht⟩ := dec_all ds fun x hx => h x (List.mem_cons_of_mem _ hx)
    refine ⟨a :: t, rfl, fun b hb => ?_⟩
    rcases List.mem_cons.mp hb with rfl | hb
    · exact ha
    · exact ht b hb
abbrev elVs (t : List El) : Prop := ∀ e ∈ t, elV e
abbrev elFs (t : List El) : Prop := ∀ e ∈ t, elF e
/-- common denominators of a ray -/
def cr (k : Nat) (x : Ray) : Prop := ∃ D X Y : Int, D ≠ 0 ∧ x.1 * (D : Rat) = (X : Rat) ∧ x.2 * (D : Rat) = (Y : Rat) ∧ bz k D ∧ bz k X ∧ bz k Y
structure ExS where
  rn : RnS
  tr : FnS
  tr_i : ∀ row n (m : Nat) Q, 0 ≤ n → n ≤ 1000 → m ≤ 10 → (∀ t n', elFs t → t.length ≤ m → n ≤ n' → n' ≤ n + 100 → Q (encL encE t) n') → tr row n [.dict [], .int m] Q
  go : FnS
  go_i : ∀ row n e x (k : Nat) Q, elV e → cr k x → k ≤ 4350 → Q (encR (apM (elM e) x)) n → go row n [encE e, encR x] Q
  bk : FnS
  bk_i : ∀ row n e x (k : Nat) Q, elV e → cr k x → k ≤ 4350 → Q (.bool (blkM e x)) n → bk row n [encE e, encR x] Q
  ex : FnS
  ex_i : ∀ row n t x (k : Nat) Q, elVs t → cr k x → k + 13 * t.length ≤ 4300 → Q (encX (exM t x)) n → ex row n [encL encE t, encR x] Q
  ot : FnS
  ot_i : ∀ row n t Q, 0 ≤ n → n ≤ 2000 → elFs t → t.length ≤ 5 → (∀ u n', elVs u → u.length ≤ 15 → n ≤ n' → n' ≤ n + 100 → Q (encL encE u) n') → ot row n [.dict [], encL encE t] Q
variable (F : ExS) (T : List Addr) (lev : Nat) (row : List Int) (n : Int) (Q : QD)
theorem w_train (m : Nat) (h0 : 0 ≤ n) (h1 : n ≤ 1000) (hm : m ≤ 10) (h : ∀ t n', elFs t → t.length ≤ m → n ≤ n' → n' ≤ n + 100 → Q (encL encE t) n') : W 99 ["_law_box_here", "_law_most", "_law_turn"] none [kDr F.rn, kEl F.rn] false T lev row [.dict [], .int m] n Q := by
  refine F.rn.dr_i _ _ _ _ h0 (by omega) (by omega) fun v v0 v1 => ?_
  refine And.intro (by omega : (-1000000 : Int) ≤ v ∧ v ≤ 1000000) ?_
  have hv : v.toNat ≤ m := by omega
  have all : ∀ (m i : Nat), (rngFrom 0 i m).length = m ∧ ∀ x ∈ rngFrom 0 i m, ∃ j : Int, x = .int j := fun m => by
    induction m with
    | zero => exact fun i => ⟨rfl, fun x hx => by cases hx⟩
    | succ m ih =>
      intro i
      refine ⟨congrArg (· + 1) (ih (i + 1)).1, fun x hx => ?_⟩
      rcases List.mem_cons.mp hx with rfl | hx
      · exact ⟨_, rfl⟩
      · exact (ih _).2 x hx
  obtain ⟨hl, hx⟩ := all v.toNat 0
  refine comp_dn (fun d => ∃ e, elF e ∧ d = encE e) (fun k n' => n ≤ n' ∧ n' + 6 * k ≤ n + 100) (rngFrom 0 0 v.toNat) [] (n + 1) ⟨by omega, by omega⟩ (fun x hx1 k n' K1 hj hK => ?_) fun ds n' hl2 hd hj => ?_
  · obtain ⟨i, rfl⟩ := hx x hx1
    refine nm ?_
    refine F.rn.el_i _ _ _ (by omega) (by omega) fun e n2 he a b => ?_
    exact hK _ _ ⟨e, he, rfl⟩ ⟨by omega, by omega⟩
  · obtain ⟨t, rfl, ht⟩ := dec_all ds hd
    rw [List.nil_append]
    rw [List.length_map] at hl2
    exact h t n' ht (by omega) hj.1 (by omega)
theorem cr_bq {k : Nat} {x : Ray} (h : cr k x) : bq k k x.1 ∧ bq k k x.2 := by
  obtain ⟨D, X, Y, d0, e1, e2, b1, b2, b3⟩ := h
  exact ⟨bq_of d0 e1 b2 b1, bq_of d0 e2 b3 b1⟩
def goM (e : El) (x : Ray) : Ray := match e with
  | .gap t => (x.1 + t * x.2, x.2)
  | .lens p h => (x.1, x.2 - p * (x.1 - h))
  | .prism s => (x.1, x.2 + s)
  | .afocal m => (m * x.1, x.2 / m)
  | .stop _ _ => x
theorem go_ap (e : El) (x : Ray) : goM e x = apM (elM e) x := by
  unfold goM apM elM
  cases e with
  | afocal m =>
    refine Prod.ext ?_ ?_
    · dsimp only; grind
    · dsimp only
      rw [Rat.div_def, Rat.div_def]
      grind
  | stop lo hi => exact Prod.ext (by unfold idM; dsimp only; grind) (by unfold idM; dsimp only; grind)
  | _ => exact Prod.ext (by dsimp only; grind) (by dsimp only; grind)
theorem w_go (e : El) (x : Ray) (k : Nat) (he : elV e) (hx : cr k x) (hk : k ≤ 4350) (h : Q (encR (apM (elM e) x)) n) : W 100 ["_law_element_here", "_law_ray", "_law_height", "_law_slope"] none [gAdd F.rn.lw, gMul F.rn.lw, gSub F.rn.lw, gDiv F.rn.lw] false T lev row [encE e, encR x] n Q := by
  obtain ⟨b1, b2⟩ := cr_bq hx
  have s1 : sm x.1 := sm_of b1 (by omega) (by omega)
  have s2 : sm x.2 := sm_of b2 (by omega) (by omega)
  rw [← go_ap] at h
  cases e with
  | gap t =>
    refine nm (nm ?_)
    refine ck (P := wpSs _ _ [sh (encE (.gap t)), sh (encR x), sh (encQ x.1), sh (encQ x.2)] _ _ _) ?_
    have bt := six_bq he
    refine str_t ?_
    refine F.rn.lw.mul_i _ _ _ _ _ (sm_of bt (by decide) (by decide)) s2 ?_
    refine F.rn.lw.add_i _ _ _ _ _ s1 (sm_of (bq_mul bt b2) (by omega) (by omega)) ?_
    exact And.intro (by decide : 2 ≤ 1000) h
  | lens p g =>
    refine nm (nm ?_)
    refine ck (P := wpSs _ _ [sh (encE (.lens p g)), sh (encR x), sh (encQ x.1), sh (encQ x.2)] _ _ _) ?_
    have bp := six_bq he.1
    have bg := six_bq he.2
    have bs := bq_sub b1 bg
    refine str_f ?_
    refine str_t ?_
    refine F.rn.lw.sub_i _ _ _ _ _ s1 (sm_of bg (by decide) (by decide)) ?_
    refine F.rn.lw.mul_i _ _ _ _ _ (sm_of bp (by decide) (by decide)) (sm_of bs (by omega) (by omega)) ?_
    refine F.rn.lw.sub_i _ _ _ _ _ s2 (sm_of (bq_mul bp bs) (by omega) (by omega)) ?_
    exact And.intro (by decide : 2 ≤ 1000) h
  | prism s =>
    refine nm (nm ?_)
    refine ck (P := wpSs _ _ [sh (encE (.prism s)), sh (encR x), sh (encQ x.1), sh (encQ x.2)] _ _ _) ?_
    have bt := six_bq he
    refine str_f ?_
    refine str_f ?_
    refine str_t ?_
    refine F.rn.lw.add_i _ _ _ _ _ s2 (sm_of bt (by decide) (by decide)) ?_
    exact And.intro (by decide : 2 ≤ 1000) h
  | afocal m =>
    refine nm (nm ?_)
    refine ck (P := wpSs _ _ [sh (encE (.afocal m)), sh (encR x), sh (encQ x.1), sh (encQ x.2)] _ _ _) ?_
    have bm := frq_bq he.1
    refine str_f ?_
    refine str_f ?_
    refine str_f ?_
    refine str_t ?_
    refine F.rn.lw.mul_i _ _ _ _ _ (sm_of bm (by decide) (by decide)) s1 ?_
    refine F.rn.lw.div_i _ _ _ _ _ s2 (sm_of bm (by decide) (by decide)) he.2 (bq_mono b2 (by omega) (by omega)) (bz_mono (bz_num bm) (by decide)) ?_
    exact And.intro (by decide : 2 ≤ 1000) h
  | stop lo hi =>
    refine nm (nm ?_)
    refine ck (P := wpSs _ _ [sh (encE (.stop lo hi)), sh (encR x), sh (encQ x.1), sh (encQ x.2)] _ _ _) ?_
    refine str_f ?_
    refine str_f ?_
    refine str_f ?_
    refine str_f ?_
    exact h
theorem w_bk (e : El) (x : Ray) (k : Nat) (he : elV e) (hx : cr k x) (hk : k ≤ 4350) (h : Q (.bool (blkM e x)) n) : W 101 ["_law_element_here", "_law_ray"] none [gLes F.rn.lw] false T lev row [encE e, encR x] n Q := by
  obtain ⟨b1, b2⟩ := cr_bq hx
  have s1 : sm x.1 := sm_of b1 (by omega) (by omega)
  unfold blkM at h
  cases e with
  | stop lo hi =>
    refine strn_f ?_
    have up : Q (.bool (blkM (.stop none hi) x)) n → wpSs (wpS (mkC ["_law_element_here", "_law_ray"] none [gLes F.rn.lw] konD false T lev row) 12 (defScope (top 101))) ((defBody (top 101)).drop 2) [sh (encE (.stop lo hi)), sh (encR x)] n (fun _ n => Q .none n) Q := fun h => by
      cases hi with
      | none => exact h
      | some u =>
        refine F.rn.lw.les_i _ _ _ _ _ (sm_of (six_bq (he.2 u rfl)) (by decide) (by decide)) s1 ?_
        exact h
    cases lo with
    | none => exact up h
    | some l =>
      refine F.rn.lw.les_i _ _ _ _ _ s1 (sm_of (six_bq (he.1 l rfl)) (by decide) (by decide)) ?_
      refine ck (P := if (decide (x.1 < l)) = true then _ else _) ?_
      refine ite_d (fun h1 => ?_) (fun h1 => ?_)
      · dsimp only at h
        rw [decide_eq_true h1, Bool.true_or] at h
        exact h
      · refine up ?_
        dsimp only at h
        rw [decide_eq_false h1, Bool.false_or] at h
        exact h
  | _ =>
    refine strn_t ?_
    exact h
end RT
namespace RT
open PySem PySem.Spec PyProof.Rows L2
/-! ### exits, the other train -/
theorem six_b {q : Rat} {N : Int} (h1 : -48 ≤ N) (h2 : N ≤ 48) : bz 6 N ∧ bz 9 (6 * N) := by
  unfold bz
  omega
theorem frq_inv {m : Rat} (h : frq m) (h0 : m ≠ 0) : ∃ a M d : Int, a ≠ 0 ∧ d ≠ 0 ∧ m * (d : Rat) = (a : Rat) ∧ M * a = 36 * d ∧ bz 7 M := by
  obtain ⟨a, d, a1, a2, hd, rfl⟩ := h
  have d0 : d ≠ 0 := by omega
  have dr : (d : Rat) ≠ 0 := fun z => d0 (r0.mp z)
  have e := Rat.div_mul_cancel (a := (a : Rat)) dr
  have an : a ≠ 0 := fun z => by
    rw [z] at h0
    exact h0 (by rw [Rat.div_def]; exact Rat.zero_mul _)
  have ha : a = -4 ∨ a = -3 ∨ a = -2 ∨ a = -1 ∨ a = 1 ∨ a = 2 ∨ a = 3 ∨ a = 4 := by omega
  rcases ha with rfl | rfl | rfl | rfl | rfl | rfl | rfl | rfl
  · exact ⟨_, -9 * d, d, by decide, d0, e, by omega, by unfold bz; omega⟩
  · exact ⟨_, -12 * d, d, by decide, d0, e, by omega, by unfold bz; omega⟩
  · exact ⟨_, -18 * d, d, by decide, d0, e, by omega, by unfold bz; omega⟩
  · exact ⟨_, -36 * d, d, by decide, d0, e, by omega, by unfold bz; omega⟩
  · exact ⟨_, 36 * d, d, by decide, d0, e, by omega, by unfold bz; omega⟩
  · exact ⟨_, 18 * d, d, by decide, d0, e, by omega, by unfold bz; omega⟩
  · exact ⟨_, 12 * d, d, by decide, d0, e, by omega, by unfold bz; omega⟩
  · exact ⟨_, 9 * d, d, by decide, d0, e, by omega, by unfold bz; omega⟩
theorem c6 : ((6 : Int) : Rat) = 6 := rfl
theorem c36 : ((36 : Int) : Rat) = 36 := rfl
theorem cr_step {e : El} {x : Ray} {k : Nat} (he : elV e) (hx : cr k x) : cr (k + 13) (apM (elM e) x) := by
  obtain ⟨D, X, Y, d0, e1, e2, b1, b2, b3⟩ := hx
  rw [← go_ap]
  have bD : bz (k + 13) (36 * D) := bz_mono (bz_mul (bzl 6 36) b1) (by omega)
  have bX : bz (k + 6) (36 * X) := bz_mono (bz_mul (bzl 6 36) b2) (by omega)
  have bY : bz (k + 6) (36 * Y) := bz_mono (bz_mul (bzl 6 36) b3) (by omega)
  have D0 : 36 * D ≠ 0 := by omega
  have f1 : x.1 * ((36 * D : Int) : Rat) = ((36 * X : Int) : Rat) := by
    rw [Rat.intCast_mul, Rat.intCast_mul, ← e1]; grind
  have f2 : x.2 * ((36 * D : Int) : Rat) = ((36 * Y : Int) : Rat) := by
    rw [Rat.intCast_mul, Rat.intCast_mul, ← e2]; grind
  unfold goM
  cases e with
  | gap t =>
    obtain ⟨N, e3, h1, h2⟩ := he
    obtain ⟨n1, n2⟩ := six_b (q := 0) h1 h2
    refine ⟨36 * D, 36 * X + 6 * N * Y, 36 * Y, D0, ?_, f2, bD, bz_mono (bz_add bX (bz_mul n2 b3)) (by omega), bz_mono bY (by omega)⟩
    rw [Rat.intCast_add, ← f1, Rat.intCast_mul, Rat.intCast_mul, Rat.intCast_mul, ← e3, ← e2, c6, c36]
    dsimp only
    grind
  | lens p g =>
    obtain ⟨⟨N, e3, h1, h2⟩, ⟨G, e4, h3, h4⟩⟩ := he
    obtain ⟨n1, n2⟩ := six_b (q := 0) h1 h2
    obtain ⟨g1, g2⟩ := six_b (q := 0) h3 h4
    refine ⟨36 * D, 36 * X, 36 * Y + -(6 * N) * X + N * G * D, D0, f1, ?_, bD, bz_mono bX (by omega), bz_mono (bz_add (bz_add bY (bz_mul (bz_neg n2) b2)) (bz_mul (bz_mul n1 g1) b1)) (by omega)⟩
    rw [Rat.intCast_add, Rat.intCast_add, ← f2, Rat.intCast_mul, Rat.intCast_mul, Rat.intCast_mul, Rat.intCast_mul, Rat.intCast_neg, Rat.intCast_mul, ← e3, ← e4, ← e1, c6, c36]
    dsimp only
    grind
  | prism s =>
    obtain ⟨N, e3, h1, h2⟩ := he
    obtain ⟨n1, n2⟩ := six_b (q := 0) h1 h2
    refine ⟨36 * D, 36 * X, 36 * Y + 6 * N * D, D0, f1, ?_, bD, bz_mono bX (by omega), bz_mono (bz_add bY (bz_mul n2 b1)) (by omega)⟩
    rw [Rat.intCast_add, ← f2, Rat.intCast_mul, Rat.intCast_mul, Rat.intCast_mul, ← e3, c6, c36]
    dsimp only
    grind
  | afocal m =>
    obtain ⟨N, e3, h1, h2⟩ := frq_six he.1
    obtain ⟨n1, n2⟩ := six_b (q := 0) h1 h2
    obtain ⟨a, M, d, a0, dn, e4, e5, bM⟩ := frq_inv he.1 he.2
    refine ⟨36 * D, 6 * N * X, M * Y, D0, ?_, ?_, bD, bz_mono (bz_mul n2 b2) (by omega), bz_mono (bz_mul bM b3) (by omega)⟩
    · rw [Rat.intCast_mul, Rat.intCast_mul, Rat.intCast_mul, ← e3, ← e1, c6, c36]
      dsimp only
      grind
    · dsimp only
      have z := Rat.div_mul_cancel (a := x.2) he.2
      generalize x.2 / m = w at *
      have e6 : (M : Rat) * (a : Rat) = 36 * (d : Rat) := by
        rw [← Rat.intCast_mul, e5, Rat.intCast_mul, c36]
      have ar : (a : Rat) ≠ 0 := fun y => a0 (r0.mp y)
      have key : (w * ((36 * D : Int) : Rat) - ((M * Y : Int) : Rat)) * (a : Rat) = 0 := by
        rw [Rat.intCast_mul, Rat.intCast_mul, c36, ← e2, ← z]
        have : w * (36 * (D : Rat)) * (a : Rat) = w * (m * (d : Rat)) * 36 * (D : Rat) := by rw [e4]; grind
        have e7 : (M : Rat) * (w * m * (D : Rat)) * (a : Rat) = 36 * (d : Rat) * (w * m * (D : Rat)) := by rw [← e6]; grind
        grind
      have := (Rat.mul_eq_zero.mp key).resolve_right ar
      grind
  | stop lo hi => exact ⟨36 * D, 36 * X, 36 * Y, D0, f1, f2, bD, bz_mono bX (by omega), bz_mono bY (by omega)⟩
variable (F : ExS) (T : List Addr) (lev : Nat) (row : List Int) (n : Int) (Q : QD)
abbrev eGo : Fi := ⟨"_law_go", F.go, 2, []⟩
abbrev eBk : Fi := ⟨"_law_blocks", F.bk, 2, []⟩
theorem w_ex (t : List El) (x : Ray) (k : Nat) (ht : elVs t) (hx : cr k x) (hk : k + 13 * t.length ≤ 4300) (h : Q (encX (exM t x)) n) : W 102 ["_law_train_here", "_law_ray", "_law_element_here"] none [eGo F, eBk F] false T lev row [encL encE t, encR x] n Q := by
  refine for_i encE (fun r ρ n' => n' = n ∧ elVs r ∧ ∃ y j c, cr j y ∧ j + 13 * r.length ≤ 4300 ∧ exM r y = exM t x ∧ ρ = [sh (encL encE t), sh (encR y), c]) ?_ ?_ t _ _ ⟨rfl, ht, x, k, no, hx, hk, rfl, rfl⟩
  · rintro e r ρ n' K ⟨rfl, hr, y, j, c, hy, hj, he, rfl⟩ hK
    have hv := hr e (List.mem_cons_self ..)
    simp only [List.length_cons] at hj
    refine nm ?_
    refine ck (P := wpSs _ _ [sh (encL encE t), sh (encR y), sh (encE e)] _ _ _) ?_
    refine F.bk_i _ _ _ _ j _ hv hy (by omega) ?_
    have he' : (if blkM e y = true then none else exM r (apM (elM e) y)) = exM t x := he
    cases hb : blkM e y with
    | true =>
      rw [hb, if_pos rfl] at he'
      rw [← he'] at h
      exact h
    | false =>
      rw [hb, if_neg (by decide)] at he'
      refine F.go_i _ _ _ _ j _ hv hy (by omega) ?_
      exact hK _ _ ⟨rfl, fun z hz => hr z (List.mem_cons_of_mem _ hz), apM (elM e) y, j + 13, sh (encE e), cr_step hv hy, by omega, he', rfl⟩
  · rintro ρ n' ⟨rfl, _, y, j, c, _, _, he, rfl⟩
    have he' : some y = exM t x := he
    rw [← he'] at h
    exact h
theorem six_neg {q : Rat} (h : six q) : six (-q) := by
  obtain ⟨N, e, h1, h2⟩ := h
  exact ⟨-N, by rw [Rat.intCast_neg, ← e]; grind, by omega, by omega⟩
theorem sz5 {k : Nat} (h : k ≤ 5000) : k ≤ sizeLine := by
  rw [sizeLine_eq]
  omega
theorem sub_six {p q : Rat} (hp : frq p) (hq : frq q) : six (p - q) := by
  have b : ∀ {x : Rat}, frq x → ∃ N : Int, x * 6 = (N : Rat) ∧ -24 ≤ N ∧ N ≤ 24 := fun {x} h => by
    obtain ⟨a, d, h1, h2, h3, rfl⟩ := h
    have e : ∀ k : Int, k ≠ 0 → (a : Rat) / (k : Rat) * (k : Rat) = (a : Rat) := fun k hk => Rat.div_mul_cancel fun z => hk (r0.mp z)
    rcases h3 with rfl | rfl | rfl
    · refine ⟨a * 6, ?_, by omega, by omega⟩
      have := e 1 (by decide)
      rw [Rat.intCast_mul]
      generalize (a : Rat) / ((1 : Int) : Rat) = x at *
      rw [← this]
      grind
    · refine ⟨a * 3, ?_, by omega, by omega⟩
      have := e 2 (by decide)
      rw [Rat.intCast_mul]
      generalize (a : Rat) / ((2 : Int) : Rat) = x at *
      rw [← this]
      grind
    · refine ⟨a * 2, ?_, by omega, by omega⟩
      have := e 3 (by decide)
      rw [Rat.intCast_mul]
      generalize (a : Rat) / ((3 : Int) : Rat) = x at *
      rw [← this]
      grind
  obtain ⟨N, e1, a1, a2⟩ := b hp
  obtain ⟨M, e2, b1, b2⟩ := b hq
  exact ⟨N - M, by rw [Rat.intCast_sub, ← e1, ← e2]; grind, by omega, by omega⟩
theorem evs_app {fd gd : List El} (h : elVs fd) (g : elVs gd) : elVs (fd ++ gd) := fun e he => (List.mem_append.mp he).elim (h e) (g e)
theorem w_oth (t : List El) (h0 : 0 ≤ n) (h1 : n ≤ 2000) (ht : elFs t) (hl : t.length ≤ 5) (h : ∀ u n', elVs u → u.length ≤ 15 → n ≤ n' → n' ≤ n + 100 → Q (encL encE u) n') :
    W 103 ["_law_box_here", "_law_train_here", "_law_found", "_law_element_here", "_law_kind", "_law_part", "_law_value"] (some 2) [kDr F.rn, kFr F.rn, kNz F.rn, gSub F.rn.lw, gNeg F.rn.lw] false T lev row [.dict [], encL encE t] n Q := by
  refine And.intro (Nat.zero_le _) ?_
  refine for_i encE (fun r ρ n' => elFs r ∧ ∃ fd c d e f, elVs fd ∧ fd.length + 3 * r.length ≤ 15 ∧ n ≤ n' ∧ n' + 20 * r.length ≤ n + 100 ∧ ρ = [bxc, sh (encL encE t), ow (fd.map encE), c, d, e, f]) ?_ ?_ t _ _ ⟨ht, [], no, no, no, no, (fun e he => by cases he), by simp only [List.length_nil]; omega, by omega, by omega, rfl⟩
  · rintro x r ρ n' K ⟨hr, fd, c, d, e, f, hfd, hfl, hn1, hn2, rfl⟩ hK
    have hx := hr x (List.mem_cons_self ..)
    have hr2 : elFs r := fun z hz => hr z (List.mem_cons_of_mem _ hz)
    simp only [List.length_cons] at hfl hn2
    refine nm ?_
    refine F.rn.dr_i _ _ _ _ (by omega) (by omega) (by decide) fun v v0 v1 => ?_
    have szf : (fd.map encE).length < sizeLine := szlt (by rw [List.length_map]; omega)
    have go : ∀ (gd : List El) (n2 : Int) (y : El) (a b c : Option Cell), elVs gd → gd.length ≤ 3 → n' ≤ n2 → n2 ≤ n' + 10 → K [bxc, sh (encL encE t), ow (fd.map encE ++ gd.map encE), sh (encE y), a, b, c] n2 := fun gd n2 y a b c hg hgl k1 k2 => by
      rw [← List.map_append]
      exact hK _ _ ⟨hr2, fd ++ gd, _, _, _, _, evs_app hfd hg, by rw [List.length_append]; omega, by omega, by omega, rfl⟩
    have one : ∀ {y : El}, elV y → elVs [y] := fun hy z hz => by rw [List.mem_singleton.mp hz]; exact hy
    refine eq_d isI v 0 (fun k0 => ?_) (fun k0 => ?_)
    · cases x with
      | gap q =>
        refine str_t ?_
        refine F.rn.fr_i _ _ _ (by omega) (by omega) fun s hs => ?_
        refine ck (P := wpSs _ _ [bxc, sh (encL encE t), ow (fd.map encE), sh (encE (.gap q)), sh (.int v), sh (encQ s), f] _ _ _) ?_
        refine And.intro (by decide : 2 ≤ 1000) ?_
        refine And.intro szf ?_
        have hq := hx.2 q rfl
        refine F.rn.lw.sub_i _ _ _ _ _ (sm_of (frq_bq hq) (by decide) (by decide)) (sm_of (frq_bq hs) (by decide) (by decide)) ?_
        refine And.intro (by decide : 2 ≤ 1000) ?_
        refine And.intro (szlt (by rw [List.length_append, List.length_map]; simp only [List.length_singleton]; omega)) ?_
        have g := go [.gap s, .gap (q - s)] (n' + 1 + 2) (.gap q) (sh (.int v)) (sh (encQ s)) f (fun z hz => ?_) (by simp) (by omega) (by omega)
        · have e2 : fd.map encE ++ ([.gap s, .gap (q - s)] : List El).map encE = fd.map encE ++ [encE (.gap s)] ++ [encE (.gap (q - s))] := by simp
          rw [e2] at g
          exact g
        · rcases List.mem_cons.mp hz with rfl | hz
          · exact frq_six hs
          · rw [List.mem_singleton.mp hz]
            exact sub_six hq hs
      | lens p g =>
        refine str_f ?_
        refine eq_d isI v 1 (fun k1 => absurd k1 (by omega)) (fun k1 => ?_)
        refine eq_d isI v 2 (fun k2 => absurd k2 (by omega)) (fun k2 => ?_)
        refine eq_d isI v 3 (fun k3 => absurd k3 (by omega)) (fun k3 => ?_)
        refine And.intro szf ?_
        exact go [(.lens p g)] _ (.lens p g) _ _ _ (one hx.1) (by simp) (by omega) (by omega)
      | prism q =>
        refine str_f ?_
        refine eq_d isI v 1 (fun k1 => absurd k1 (by omega)) (fun k1 => ?_)
        refine eq_d isI v 2 (fun k2 => absurd k2 (by omega)) (fun k2 => ?_)
        refine eq_d isI v 3 (fun k3 => absurd k3 (by omega)) (fun k3 => ?_)
        refine And.intro szf ?_
        exact go [(.prism q)] _ (.prism q) _ _ _ (one hx.1) (by simp) (by omega) (by omega)
      | afocal q =>
        refine str_f ?_
        refine eq_d isI v 1 (fun k1 => absurd k1 (by omega)) (fun k1 => ?_)
        refine eq_d isI v 2 (fun k2 => absurd k2 (by omega)) (fun k2 => ?_)
        refine eq_d isI v 3 (fun k3 => absurd k3 (by omega)) (fun k3 => ?_)
        refine And.intro szf ?_
        exact go [(.afocal q)] _ (.afocal q) _ _ _ (one hx.1) (by simp) (by omega) (by omega)
      | stop lo hi =>
        refine str_f ?_
        refine eq_d isI v 1 (fun k1 => absurd k1 (by omega)) (fun k1 => ?_)
        refine eq_d isI v 2 (fun k2 => absurd k2 (by omega)) (fun k2 => ?_)
        refine eq_d isI v 3 (fun k3 => absurd k3 (by omega)) (fun k3 => ?_)
        refine And.intro szf ?_
        exact go [(.stop lo hi)] _ (.stop lo hi) _ _ _ (one hx.1) (by simp) (by omega) (by omega)
    · refine eq_d isI v 1 (fun k1 => ?_) (fun k1 => ?_)
      · refine F.rn.nz_i _ _ _ (by omega) (by omega) fun s hs _ => ?_
        refine ck (P := wpSs _ _ [bxc, sh (encL encE t), ow (fd.map encE), sh (encE x), sh (.int v), e, sh (encQ s)] _ _ _) ?_
        refine And.intro (by decide : 2 ≤ 1000) ?_
        refine And.intro (by decide : 3 ≤ 1000) ?_
        refine F.rn.lw.neg_i _ _ _ _ ?_
        refine And.intro (by decide : 2 ≤ 1000) ?_
        refine And.intro (by decide : 3 ≤ 1000) ?_
        refine And.intro (by decide : 3 ≤ 1000) ?_
        refine And.intro (sz5 (by rw [List.length_map]; show fd.length + 3 ≤ 5000; omega)) ?_
        refine go [.lens s 0, .lens (-s) 0, x] (n' + 1 + 2) x (sh (.int v)) e (sh (encQ s)) (fun z hz => ?_) (by simp) (by omega) (by omega)
        rcases List.mem_cons.mp hz with rfl | hz
        · exact ⟨frq_six hs, six0⟩
        · rcases List.mem_cons.mp hz with rfl | hz
          · exact ⟨six_neg (frq_six hs), six0⟩
          · rw [List.mem_singleton.mp hz]
            exact hx.1
      · refine eq_d isI v 2 (fun k2 => ?_) (fun k2 => ?_)
        · cases x with
          | gap q =>
            refine str_f ?_
            refine eq_d isI v 3 (fun k3 => absurd k3 (by omega)) (fun k3 => ?_)
            refine And.intro szf ?_
            exact go [(.gap q)] _ (.gap q) _ _ _ (one hx.1) (by simp) (by omega) (by omega)
          | lens p g =>
            refine str_f ?_
            refine eq_d isI v 3 (fun k3 => absurd k3 (by omega)) (fun k3 => ?_)
            refine And.intro szf ?_
            exact go [(.lens p g)] _ (.lens p g) _ _ _ (one hx.1) (by simp) (by omega) (by omega)
          | prism q =>
            refine str_f ?_
            refine eq_d isI v 3 (fun k3 => absurd k3 (by omega)) (fun k3 => ?_)
            refine And.intro szf ?_
            exact go [(.prism q)] _ (.prism q) _ _ _ (one hx.1) (by simp) (by omega) (by omega)
          | afocal q =>
            refine str_f ?_
            refine eq_d isI v 3 (fun k3 => absurd k3 (by omega)) (fun k3 => ?_)
            refine And.intro szf ?_
            exact go [(.afocal q)] _ (.afocal q) _ _ _ (one hx.1) (by simp) (by omega) (by omega)
          | stop lo hi =>
            refine str_t ?_
            refine And.intro (by decide : 2 ≤ 1000) ?_
            refine And.intro (sz5 (by rw [List.length_map]; show fd.length + 2 ≤ 5000; omega)) ?_
            refine go [.stop lo hi, .stop lo hi] _ (.stop lo hi) _ _ _ (fun z hz => ?_) (by simp) (by omega) (by omega)
            rcases List.mem_cons.mp hz with rfl | hz
            · exact hx.1
            · rw [List.mem_singleton.mp hz]
              exact hx.1
        · refine eq_d isI v 3 (fun k3 => ?_) (fun k3 => ?_)
          · cases x with
            | gap q =>
              refine str_f ?_
              refine And.intro szf ?_
              exact go [(.gap q)] _ (.gap q) _ _ _ (one hx.1) (by simp) (by omega) (by omega)
            | lens p g =>
              refine str_f ?_
              refine And.intro szf ?_
              exact go [(.lens p g)] _ (.lens p g) _ _ _ (one hx.1) (by simp) (by omega) (by omega)
            | prism q =>
              refine str_f ?_
              refine And.intro szf ?_
              exact go [(.prism q)] _ (.prism q) _ _ _ (one hx.1) (by simp) (by omega) (by omega)
            | afocal q =>
              refine str_f ?_
              refine And.intro szf ?_
              exact go [(.afocal q)] _ (.afocal q) _ _ _ (one hx.1) (by simp) (by omega) (by omega)
            | stop lo hi =>
              refine str_t ?_
              refine F.rn.dr_i _ _ _ _ (by omega) (by omega) (by decide) fun w w0 w1 => ?_
              refine eq_d isI w 0 (fun k4 => ?_) (fun k4 => ?_)
              · refine And.intro (by decide : 3 ≤ 1000) ?_
                refine And.intro szf ?_
                exact go [.stop lo none] _ (.stop lo hi) _ _ _ (one ⟨hx.1.1, fun v hv => by cases hv⟩) (by simp) (by omega) (by omega)
              · refine And.intro szf ?_
                exact go [.stop lo hi] _ (.stop lo hi) _ _ _ (one hx.1) (by simp) (by omega) (by omega)
          · refine And.intro szf ?_
            exact go [x] _ x _ _ _ (one hx.1) (by simp) (by omega) (by omega)
  · rintro ρ n' ⟨_, fd, c, d, e, f, hfd, hfl, hn1, hn2, rfl⟩
    exact h fd n' hfd (by simp only [List.length_nil] at hfl; omega) hn1 (by simp only [List.length_nil] at hn2; omega)
end RT
namespace RT
open PySem PySem.Spec PyProof.Rows L2
/-! ### sizes of the law's trains -/
theorem elV_ok {e : El} (h : elV e) : elOk e := by
  have b : ∀ {q : Rat}, six q → bq 100 100 q := fun h => bq_mono (six_bq h) (by decide) (by decide)
  cases e with
  | gap t => exact b h
  | lens p g => exact ⟨b h.1, b h.2⟩
  | prism s => exact b h
  | afocal m => exact ⟨bq_mono (frq_bq h.1) (by decide) (by decide), h.2⟩
  | stop lo hi => exact ⟨fun v hv => b (h.1 v hv), fun v hv => b (h.2 v hv)⟩
theorem elV_af {e : El} (h : elV e) : afOk e := by
  cases e with
  | afocal m => exact h.2
  | _ => trivial
/-- an entry after k elements -/
def en (k : Nat) (q : Rat) : Prop := ∃ N : Int, q * ((36 ^ k : Int) : Rat) = (N : Rat) ∧ N.natAbs ≤ 16 * 512 ^ k
def mE (k : Nat) (m : Mp) : Prop := en k m.a ∧ en k m.b ∧ en k m.c ∧ en k m.d ∧ en k m.e ∧ en k m.f
theorem p36 (k : Nat) : ((36 ^ (k + 1) : Int) : Rat) = 36 * ((36 ^ k : Int) : Rat) := by
  rw [Int.pow_succ, Int.mul_comm, Rat.intCast_mul, c36]
theorem p36_0 (k : Nat) : (36 ^ k : Int) ≠ 0 := Int.pow_ne_zero (by decide)
theorem p36_le : ∀ k : Nat, (36 ^ k : Int).natAbs ≤ 512 ^ k
  | 0 => by decide
  | k + 1 => by
    have := p36_le k
    rw [Int.pow_succ, Int.natAbs_mul, Nat.pow_succ]
    exact Nat.mul_le_mul this (by decide)
theorem en_up {k : Nat} {q : Rat} (h : en k q) : en (k + 1) q := by
  obtain ⟨N, e, b⟩ := h
  refine ⟨36 * N, ?_, ?_⟩
  · rw [p36, Rat.intCast_mul, ← e, c36]; grind
  · rw [Int.natAbs_mul, Nat.pow_succ]
    have : (36 : Int).natAbs = 36 := rfl
    rw [this]
    omega
/-- u q + v r + w, with u, v, w in 36ths -/
theorem en_lin {k : Nat} {q r s : Rat} (hq : en k q) (hr : en k r) {u v w : Rat} {U V Z : Int} (eu : u * 36 = (U : Rat)) (ev : v * 36 = (V : Rat)) (ew : w * 36 = (Z : Rat)) (hs : s = u * q + v * r + w) (hb : 16 * U.natAbs + 16 * V.natAbs + Z.natAbs ≤ 8192) : en (k + 1) s := by
  obtain ⟨N, e1, b1⟩ := hq
  obtain ⟨M, e2, b2⟩ := hr
  refine ⟨U * N + V * M + Z * 36 ^ k, ?_, ?_⟩
  · rw [p36, Rat.intCast_add, Rat.intCast_add, Rat.intCast_mul, Rat.intCast_mul, Rat.intCast_mul, ← e1, ← e2, ← eu, ← ev, ← ew, hs]
    generalize ((36 ^ k : Int) : Rat) = P
    grind
  · have b3 := p36_le k
    have h1 : (U * N).natAbs ≤ U.natAbs * (16 * 512 ^ k) := by rw [Int.natAbs_mul]; exact Nat.mul_le_mul_left _ b1
    have h2 : (V * M).natAbs ≤ V.natAbs * (16 * 512 ^ k) := by rw [Int.natAbs_mul]; exact Nat.mul_le_mul_left _ b2
    have h3 : (Z * 36 ^ k).natAbs ≤ Z.natAbs * 512 ^ k := by rw [Int.natAbs_mul]; exact Nat.mul_le_mul_left _ b3
    have h4 : (16 * U.natAbs + 16 * V.natAbs + Z.natAbs) * 512 ^ k ≤ 8192 * 512 ^ k := Nat.mul_le_mul_right _ hb
    have h5 : (U * N + V * M + Z * 36 ^ k).natAbs ≤ (U * N).natAbs + (V * M).natAbs + (Z * 36 ^ k).natAbs := by omega
    have h6 : (16 * U.natAbs + 16 * V.natAbs + Z.natAbs) * 512 ^ k = U.natAbs * (16 * 512 ^ k) + V.natAbs * (16 * 512 ^ k) + Z.natAbs * 512 ^ k := by
      rw [Nat.add_mul, Nat.add_mul]
      have a : ∀ x : Nat, 16 * x * 512 ^ k = x * (16 * 512 ^ k) := fun x => by rw [Nat.mul_comm 16 x, Nat.mul_assoc]
      rw [a, a]
    rw [Nat.pow_succ]
    omega
theorem en_id {q : Rat} {k : Nat} {u : Rat} (h : q = u) (hq : en k u) : en k q := h ▸ hq
theorem c0 : ((0 : Int) : Rat) = 0 := rfl
theorem c1' : ((1 : Int) : Rat) = 1 := rfl
theorem en0 : en 0 0 ∧ en 0 1 := by
  have e : ((36 ^ 0 : Int) : Rat) = 1 := rfl
  refine ⟨⟨0, by rw [e, c0]; grind, by decide⟩, ⟨1, by rw [e, c1']; grind, by decide⟩⟩
theorem mE_id : mE 0 idM := ⟨en0.2, en0.1, en0.1, en0.2, en0.1, en0.1⟩
theorem mE_co {k : Nat} {m : Mp} {e : El} (h : mE k m) (he : elV e) : mE (k + 1) (coM m (elM e)) := by
  obtain ⟨ha, hb, hc, hd, hE, hf⟩ := h
  have z36 : (0 : Rat) * 36 = ((0 : Int) : Rat) := by rw [c0]; grind
  have o36 : (1 : Rat) * 36 = ((36 : Int) : Rat) := by rw [c36]; grind
  have s36 : ∀ {q : Rat} {N : Int}, q * 6 = (N : Rat) → q * 36 = ((6 * N : Int) : Rat) := fun e => by rw [Rat.intCast_mul, ← e, c6]; grind
  unfold coM mE
  cases e with
  | gap t =>
    obtain ⟨N, e3, h1, h2⟩ := he
    unfold elM
    dsimp only
    refine ⟨en_lin ha hc o36 (s36 e3) z36 ?_ ?_, en_lin hb hd o36 (s36 e3) z36 ?_ ?_, en_lin ha hc z36 o36 z36 ?_ ?_, en_lin hb hd z36 o36 z36 ?_ ?_, en_lin hE hf o36 (s36 e3) z36 ?_ ?_, en_lin hE hf z36 o36 z36 ?_ ?_⟩ <;> first | grind | omega
  | lens p g =>
    obtain ⟨⟨N, e3, h1, h2⟩, ⟨G, e4, h3, h4⟩⟩ := he
    have em : -p * 36 = ((-(6 * N) : Int) : Rat) := by rw [Rat.intCast_neg, Rat.intCast_mul, ← e3, c6]; grind
    have ep : p * g * 36 = ((N * G : Int) : Rat) := by rw [Rat.intCast_mul, ← e3, ← e4]; grind
    have bng : (N * G).natAbs ≤ 2304 := by
      rw [Int.natAbs_mul]
      exact Nat.le_trans (Nat.mul_le_mul (show N.natAbs ≤ 48 by omega) (show G.natAbs ≤ 48 by omega)) (by decide)
    unfold elM
    dsimp only
    refine ⟨en_lin ha hc o36 z36 z36 ?_ ?_, en_lin hb hd o36 z36 z36 ?_ ?_, en_lin ha hc em o36 z36 ?_ ?_, en_lin hb hd em o36 z36 ?_ ?_, en_lin hE hf o36 z36 z36 ?_ ?_, en_lin hE hf em o36 ep ?_ ?_⟩ <;> first | grind | omega
  | prism s =>
    obtain ⟨N, e3, h1, h2⟩ := he
    unfold elM
    dsimp only
    refine ⟨en_lin ha hc o36 z36 z36 ?_ ?_, en_lin hb hd o36 z36 z36 ?_ ?_, en_lin ha hc z36 o36 z36 ?_ ?_, en_lin hb hd z36 o36 z36 ?_ ?_, en_lin hE hf o36 z36 z36 ?_ ?_, en_lin hE hf z36 o36 (s36 e3) ?_ ?_⟩ <;> first | grind | omega
  | afocal j =>
    obtain ⟨N, e3, h1, h2⟩ := frq_six he.1
    obtain ⟨a, M, d, a0, d0, e4, e5, bM⟩ := frq_inv he.1 he.2
    have em : 1 / j * 36 = (M : Rat) := by
      have z := Rat.div_mul_cancel (a := (1 : Rat)) he.2
      generalize (1 : Rat) / j = i at *
      have ar : (a : Rat) ≠ 0 := fun y => a0 (r0.mp y)
      have e6 : (M : Rat) * (a : Rat) = 36 * (d : Rat) := by
        rw [← Rat.intCast_mul, e5, Rat.intCast_mul, c36]
      have key : (i * 36 - (M : Rat)) * (a : Rat) = 0 := by
        have : i * (a : Rat) = (i * j) * (d : Rat) := by rw [← e4]; grind
        rw [z] at this
        grind
      have := (Rat.mul_eq_zero.mp key).resolve_right ar
      grind
    have bM' : M.natAbs < 128 := bM
    unfold elM
    dsimp only
    refine ⟨en_lin ha hc (s36 e3) z36 z36 ?_ ?_, en_lin hb hd (s36 e3) z36 z36 ?_ ?_, en_lin ha hc z36 em z36 ?_ ?_, en_lin hb hd z36 em z36 ?_ ?_, en_lin hE hf (s36 e3) z36 z36 ?_ ?_, en_lin hE hf z36 em z36 ?_ ?_⟩ <;> first | grind | omega
  | stop lo hi =>
    unfold elM idM
    dsimp only
    refine ⟨en_lin ha hc o36 z36 z36 ?_ ?_, en_lin hb hd o36 z36 z36 ?_ ?_, en_lin ha hc z36 o36 z36 ?_ ?_, en_lin hb hd z36 o36 z36 ?_ ?_, en_lin hE hf o36 z36 z36 ?_ ?_, en_lin hE hf z36 o36 z36 ?_ ?_⟩ <;> first | grind | omega
theorem en_mono {k j : Nat} {q : Rat} (h : en k q) (hkj : k ≤ j) : en j q := by
  have : ∀ i, en (k + i) q := fun i => by
    induction i with
    | zero => exact h
    | succ i ih => exact en_up ih
  have e := this (j - k)
  rw [show k + (j - k) = j by omega] at e
  exact e
theorem en_15 {k : Nat} {q : Rat} (h : en k q) (hk : k ≤ 15) : ∃ N : Int, q * ((36 ^ 15 : Int) : Rat) = (N : Rat) ∧ bz 140 N := by
  obtain ⟨N, e, b⟩ := en_mono h hk
  exact ⟨N, e, Nat.lt_of_le_of_lt b (by decide)⟩
theorem bz36 : bz 78 (36 ^ 15 : Int) := bzl 78 _
theorem en_bq {k : Nat} {q : Rat} (h : en k q) (hk : k ≤ 15) : bq 1000 1000 q := by
  obtain ⟨N, e, b⟩ := en_15 h hk
  exact bq_mono (bq_of (p36_0 15) e b bz36) (by decide) (by decide)
theorem mE_bM {k : Nat} {m : Mp} (h : mE k m) (hk : k ≤ 15) : bM 1000 m := ⟨en_bq h.1 hk, en_bq h.2.1 hk, en_bq h.2.2.1 hk, en_bq h.2.2.2.1 hk, en_bq h.2.2.2.2.1 hk, en_bq h.2.2.2.2.2 hk⟩
theorem tr_ok : ∀ (t : List El) (k : Nat) (m : Mp), elVs t → mE k m → k + t.length ≤ 15 → trOk m t ∧ mE (k + t.length) (trFrom m t)
  | [], k, m, _, hm, hk => ⟨mE_bM hm hk, hm⟩
  | e :: r, k, m, ht, hm, hk => by
    simp only [List.length_cons] at hk
    have he := ht e (List.mem_cons_self ..)
    obtain ⟨a, b⟩ := tr_ok r (k + 1) (coM m (elM e)) (fun x hx => ht x (List.mem_cons_of_mem _ hx)) (mE_co hm he) (by omega)
    refine ⟨⟨mE_bM hm (by omega), elV_ok he, a⟩, ?_⟩
    have e2 : k + (e :: r).length = k + 1 + r.length := by simp only [List.length_cons]; omega
    rw [e2]
    exact b
theorem hp_ok : ∀ (t : List El) (k : Nat) (m : Mp), elVs t → mE k m → dt m → k + t.length ≤ 15 → hpOk m t
  | [], k, m, _, hm, _, hk => mE_bM hm hk
  | e :: r, k, m, ht, hm, hd, hk => by
    simp only [List.length_cons] at hk
    have he := ht e (List.mem_cons_self ..)
    refine ⟨mE_bM hm (by omega), elV_ok he, ?_, hp_ok r (k + 1) _ (fun x hx => ht x (List.mem_cons_of_mem _ hx)) (mE_co hm he) (dtm_co hd (elV_af he)) (by omega)⟩
    cases e with
    | stop lo hi => exact dtm_or hd
    | _ => trivial
theorem mk_bh {k : Nat} {p q r : Rat} (hk : k ≤ 15) (h0 : p ≠ 0 ∨ q ≠ 0) (hp : en k p) (hq : en k q) (hr : ∃ e l : Rat, en k e ∧ six l ∧ r = e + l) : bh 145 (mkH p q r) := by
  obtain ⟨e, l, he, ⟨G, e4, g1, g2⟩, rfl⟩ := hr
  obtain ⟨N, e1, b1⟩ := en_15 hp hk
  obtain ⟨M, e2, b2⟩ := en_15 hq hk
  obtain ⟨E, e3, b3⟩ := en_15 he hk
  refine mkH_b (M := 6 * 36 ^ 15) (x := 6 * N) (y := 6 * M) (z := 6 * E + G * 36 ^ 15) h0 (Int.mul_ne_zero (by decide) (p36_0 15)) ?_ ?_ ?_ ?_ ?_ ?_
  · rw [Rat.intCast_mul, Rat.intCast_mul, ← e1, c6]; grind
  · rw [Rat.intCast_mul, Rat.intCast_mul, ← e2, c6]; grind
  · rw [Rat.intCast_add, Rat.intCast_mul, Rat.intCast_mul, Rat.intCast_mul, ← e3, ← e4, c6]; grind
  · exact bz_mono (bz_mul (bzl 3 6) b1) (by decide)
  · exact bz_mono (bz_mul (bzl 3 6) b2) (by decide)
  · exact bz_mono (bz_add (bz_mul (bzl 3 6) b3) (bz_mul (a := 6) (by unfold bz; omega) bz36)) (by decide)
theorem en_ng {k : Nat} {q : Rat} (h : en k q) : en k (-q) := by
  obtain ⟨N, e, b⟩ := h
  exact ⟨-N, by rw [Rat.intCast_neg, ← e]; grind, by rw [Int.natAbs_neg]; exact b⟩
theorem hp_bh : ∀ (t : List El) (i k : Nat) (m : Mp), elVs t → mE k m → dt m → k + t.length ≤ 15 → ∀ x ∈ hpFrom i m t, bh 145 x.2
  | [], _, _, _, _, _, _, _, x, hx => by cases hx
  | e :: r, i, k, m, ht, hm, hd, hk, x, hx => by
    simp only [List.length_cons] at hk
    have he := ht e (List.mem_cons_self ..)
    have hx : x ∈ elEdges i e m ++ hpFrom (i + 1) (coM m (elM e)) r := hx
    rcases List.mem_append.mp hx with hx | hx
    · cases e with
      | stop lo hi =>
        unfold elEdges edgesM at hx
        have d := dtm_or hd
        rcases List.mem_append.mp hx with hx | hx
        · cases lo with
          | none => cases hx
          | some l =>
            rw [List.mem_singleton.mp hx]
            exact mk_bh (by omega) (neg_or d) (en_ng hm.1) (en_ng hm.2.1) ⟨m.e, -l, hm.2.2.2.2.1, six_neg (he.1 l rfl), by grind⟩
        · cases hi with
          | none => cases hx
          | some u =>
            rw [List.mem_singleton.mp hx]
            exact mk_bh (by omega) d hm.1 hm.2.1 ⟨-m.e, u, en_ng hm.2.2.2.2.1, he.2 u rfl, by grind⟩
      | _ => cases hx
    · exact hp_bh r (i + 1) (k + 1) _ (fun x hx => ht x (List.mem_cons_of_mem _ hx)) (mE_co hm he) (dtm_co hd (elV_af he)) (by omega) x hx
structure good (t : List El) : Prop where
  v : elVs t
  len : t.length ≤ 15
theorem good.af {t : List El} (h : good t) : afs t := fun e he => elV_af (h.v e he)
theorem good.hs {t : List El} (h : good t) : bhs 145 (plM t) := fun g hg => by
  have := (pl_pz h.af g hg).1
  obtain ⟨x, hx, rfl⟩ := List.mem_map.mp hg
  exact ⟨hp_bh t 0 0 idM h.v mE_id dtm_id (by have := h.len; omega) x hx, this⟩
theorem good.plen {t : List El} (h : good t) : (plM t).length ≤ 30 := by
  unfold plM hpM
  rw [List.length_map, hpFrom_len]
  have := cnt_le t
  have := h.len
  omega
theorem good.cf {t : List El} (h : good t) : CfOk t := by
  have hl := h.len
  have b := bhs_mono (k := 200) h.hs (by decide)
  exact ⟨hp_ok t 0 idM h.v mE_id dtm_id (by omega), (tr_ok t 0 idM h.v mE_id (by omega)).1, by omega, ⟨b, by have := h.plen; omega, smp_ne (bhs_anz b)⟩⟩
theorem good.mE {t : List El} (h : good t) : mE 15 (trM t) := by
  have hl := h.len
  have := (tr_ok t 0 idM h.v mE_id (by omega)).2
  rw [Nat.zero_add] at this
  exact ⟨en_mono this.1 hl, en_mono this.2.1 hl, en_mono this.2.2.1 hl, en_mono this.2.2.2.1 hl, en_mono this.2.2.2.2.1 hl, en_mono this.2.2.2.2.2 hl⟩
theorem wo_V : ∀ (t : List El) (i : Nat) (b : Bool), elVs t → i < t.length → elVs (woM t (i, b)) ∧ (woM t (i, b)).length = t.length
  | [], _, _, _, h => by cases h
  | e :: r, 0, b, hv, _ => by
    rw [wo_zero]
    refine ⟨fun x hx => ?_, rfl⟩
    rcases List.mem_cons.mp hx with rfl | hx
    · have he := hv e (List.mem_cons_self ..)
      cases e with
      | stop lo hi =>
        cases b with
        | true => exact ⟨he.1, fun v hv => by cases hv⟩
        | false => exact ⟨fun v hv => (by cases hv), he.2⟩
      | _ => exact he
    · exact hv x (List.mem_cons_of_mem _ hx)
  | e :: r, i + 1, b, hv, hi => by
    rw [wo_cons]
    obtain ⟨h1, h2⟩ := wo_V r i b (fun x hx => hv x (List.mem_cons_of_mem _ hx)) (by simpa using hi)
    refine ⟨fun x hx => ?_, by simp only [List.length_cons, h2]⟩
    rcases List.mem_cons.mp hx with rfl | hx
    · exact hv _ (List.mem_cons_self ..)
    · exact h1 x hx
theorem good.wo {t : List El} (h : good t) {x : Edge × HP} (hx : x ∈ hpM t) : good (woM t x.1) := by
  obtain ⟨_, h2, _⟩ := hpFrom_ix t 0 idM x hx
  obtain ⟨a, b⟩ := wo_V t x.1.1 x.1.2 h.v (by omega)
  exact ⟨a, by rw [b]; exact h.len⟩
theorem good.re {t : List El} (h : good t) : ReOk t ∧ ∀ e ∈ reM t, good (woM t e) := by
  refine ⟨⟨h.cf.hp, h.cf.len, fun x hx => ⟨(h.wo hx).cf, bh_mono (h.hs x.2 (List.mem_map_of_mem hx)).1 (by decide)⟩⟩, fun e he => ?_⟩
  obtain ⟨g, hg, _⟩ := red_in he
  exact h.wo hg
theorem sl_good : ∀ (k : Nat) (t : List El), good t → good (simLoop k t) ∧ (simLoop k t).length = t.length
  | 0, t, h => ⟨h, rfl⟩
  | k + 1, t, h => by
    show good (match reM t with
      | [] => t
      | e :: _ => simLoop k (woM t e)) ∧ (match reM t with
      | [] => t
      | e :: _ => simLoop k (woM t e)).length = t.length
    cases hr : reM t with
    | nil => exact ⟨h, rfl⟩
    | cons e r =>
      have he : e ∈ reM t := by rw [hr]; exact List.mem_cons_self ..
      obtain ⟨g, hg, _⟩ := red_in he
      obtain ⟨_, h2, _⟩ := hpFrom_ix t 0 idM _ hg
      obtain ⟨a, b⟩ := sl_good k (woM t e) (h.re.2 e he)
      refine ⟨a, b.trans ?_⟩
      exact (wo_V t e.1 e.2 h.v (by dsimp only at h2; omega)).2
theorem good.sim {t : List El} (h : good t) : good (simM t) := by
  obtain ⟨a, b⟩ := sl_good (2 * t.length) t h
  unfold simM
  exact ⟨fun e he => a.v e (List.mem_filter.mp he).1, Nat.le_trans (List.length_filter_le _ _) a.len⟩
theorem sub_15 {x y : Rat} (hx : en 15 x) (hy : en 15 y) : ∃ N : Int, (x - y) * ((36 ^ 15 : Int) : Rat) = (N : Rat) ∧ bz 141 N := by
  obtain ⟨N, e1, b1⟩ := en_15 hx (Nat.le_refl _)
  obtain ⟨M, e2, b2⟩ := en_15 hy (Nat.le_refl _)
  exact ⟨N - M, by rw [Rat.intCast_sub, ← e1, ← e2]; grind, bz_mono (bz_sub b1 b2) (by decide)⟩
/-- finer than CD3 -/
structure CDf (p q t : Rat) : Prop where
  ex : ∃ D x y z : Int, D ≠ 0 ∧ p * (D : Rat) = (x : Rat) ∧ q * (D : Rat) = (y : Rat) ∧ t * (D : Rat) = (z : Rat) ∧ bz 78 D ∧ bz 141 x ∧ bz 141 y ∧ bz 141 z
theorem CDf.c {p q t : Rat} (h : CDf p q t) : CD3 p q t := by
  obtain ⟨D, x, y, z, d0, e1, e2, e3, b0, b1, b2, b3⟩ := h.ex
  exact ⟨D, x, y, z, d0, e1, e2, e3, bz_mono b0 (by decide), bz_mono b1 (by decide), bz_mono b2 (by decide), bz_mono b3 (by decide)⟩
theorem good.cd {t u : List El} (ht : good t) (hu : good u) : CDf ((trM t).a - (trM u).a) ((trM t).b - (trM u).b) ((trM t).e - (trM u).e) ∧ CDf ((trM t).c - (trM u).c) ((trM t).d - (trM u).d) ((trM t).f - (trM u).f) := by
  obtain ⟨a1, a2, a3, a4, a5, a6⟩ := ht.mE
  obtain ⟨b1, b2, b3, b4, b5, b6⟩ := hu.mE
  have mk : ∀ {x y z x' y' z' : Rat}, en 15 x → en 15 y → en 15 z → en 15 x' → en 15 y' → en 15 z' → CDf (x - x') (y - y') (z - z') := fun h1 h2 h3 g1 g2 g3 => by
    obtain ⟨N1, e1, c1⟩ := sub_15 h1 g1
    obtain ⟨N2, e2, c2⟩ := sub_15 h2 g2
    obtain ⟨N3, e3, c3⟩ := sub_15 h3 g3
    exact ⟨36 ^ 15, N1, N2, N3, p36_0 15, e1, e2, e3, bz36, c1, c2, c3⟩
  exact ⟨mk a1 a2 a5 b1 b2 b5, mk a3 a4 a6 b3 b4 b6⟩
/-! ### sizes of the ray that tells -/
theorem cr_of {a b c d k : Nat} {x : Ray} (h1 : bq a b x.1) (h2 : bq c d x.2) (k1 : b + d ≤ k) (k2 : a + d ≤ k) (k3 : c + b ≤ k) : cr k x := by
  refine ⟨x.1.den * x.2.den, x.1.num * x.2.den, x.2.num * x.1.den, Int.mul_ne_zero (den_z _) (den_z _), ?_, ?_, bz_mono (bz_mul (bz_den h1) (bz_den h2)) k1, bz_mono (bz_mul (bz_num h1) (bz_den h2)) k2, bz_mono (bz_mul (bz_num h2) (bz_den h1)) k3⟩
  · rw [Rat.intCast_mul, Rat.intCast_mul, ← q_num x.1]; grind
  · rw [Rat.intCast_mul, Rat.intCast_mul, ← q_num x.2]; grind
theorem smp_cr {H : Nat} {L : List HP} {x : Ray} (hL : bhs H L) (hH : H ≤ 605) (e : smpM L = some x) : cr 3700 x := by
  obtain ⟨b1, b2⟩ := smp_b hL e
  exact cr_of b1 b2 (by omega) (by omega) (by omega)
theorem ov_f {L : List HP} {h : HP} {v : Rat} (hL : bhs 145 L) (hh : bh 145 h) (e : ovM L h = some v) : bq 438 293 v := by
  unfold ovM at e
  cases s : supM L (h.p : Rat) (h.q : Rat) with
  | none =>
    rw [s] at e
    have e : greatM [some ((h.r : Rat) + 1), infM L (h.p : Rat) (h.q : Rat)] none = some v := e
    rcases (great_eq _ _ _ e).1 with m | m
    · rcases List.mem_cons.mp m with m | m
      · cases m
        exact bq_mono (bq_add (bq_int hh.2.2) b10.1) (by decide) (by decide)
      · have i := (List.mem_singleton.mp m).symm
        exact bq_mono (inf_b hL (bq_int hh.1) (bq_int hh.2.1) i) (by decide) (by decide)
    · cases m
  | some u =>
    rw [s] at e
    dsimp only at e
    split at e
    · cases e
      exact bq_mono (sup_b hL (bq_int hh.1) (bq_int hh.2.1) s) (by decide) (by decide)
    · cases e
theorem ovl_f {L : List HP} {h : HP} {v : Rat} (hL : bhs 145 L) (hh : bh 145 h) (zh : nz h) (e : ovM L h = some v) : bhs 600 (lnP (h.p : Rat) (h.q : Rat) v) := by
  have b := ov_f hL hh e
  refine ln_b (M := v.den) (x := h.p * v.den) (y := h.q * v.den) (z := v.num) (nzr zh) (den_z v) (by rw [Rat.intCast_mul]) (by rw [Rat.intCast_mul]) (q_num v) ?_ ?_ ?_
  · exact bz_mono (bz_mul hh.1 (bz_den b)) (by decide)
  · exact bz_mono (bz_mul hh.2.1 (bz_den b)) (by decide)
  · exact bz_mono (bz_num b) (by decide)
theorem ro_cr {L : List HP} (hL : bhs 145 L) : ∀ (M : List HP), bhs 145 M → ∀ x, roLoop L M = some x → cr 3700 x
  | [], _, x, h => by cases h
  | g :: M, hm, x, h => by
    have hg := hm g (List.mem_cons_self ..)
    unfold roLoop at h
    cases e : ovM L g with
    | none =>
      rw [e] at h
      exact ro_cr hL M (fun y hy => hm y (List.mem_cons_of_mem _ hy)) x h
    | some v =>
      rw [e] at h
      have h : smpM (L ++ lnP (g.p : Rat) (g.q : Rat) v) = some x := h
      exact smp_cr (bhs_app (bhs_mono hL (by decide)) (ovl_f hL hg.1 hg.2 e)) (by decide) h
theorem oth_f {L : List HP} {p q t v : Rat} (hL : bhs 145 L) (bp : bq 141 78 p) (bq' : bq 141 78 q) (bt : bq 141 78 t) (e : othM L p q t = some v) : bq 520 460 (v - t) := by
  have m1 : bq 520 460 (1 - t) := bq_mono (bq_sub b10.1 bt) (by decide) (by decide)
  have m2 : bq 520 460 (-1 - t) := bq_mono (bq_sub (bq_neg b10.1) bt) (by decide) (by decide)
  have can : ∀ a : Rat, a + t - t = a := fun a => by grind
  have fi : ∀ l, infM L p q = some l → bq 520 460 l := fun l i => bq_mono (inf_b hL bp bq' i) (by decide) (by decide)
  unfold othM at e
  dsimp only at e
  cases s : supM L p q with
  | none =>
    rw [s] at e
    dsimp only at e
    rcases (great_eq _ _ _ e).1 with m | m
    · rcases List.mem_cons.mp m with m | m
      · cases m
        exact m1
      · have i := (List.mem_singleton.mp m).symm
        cases k : infM L p q with
        | none => rw [k] at i; cases i
        | some l =>
          rw [k] at i
          cases i
          rw [can]
          exact fi l k
    · cases m
  | some u =>
    rw [s] at e
    dsimp only at e
    split at e
    · cases e
      rw [can]
      exact bq_mono (sup_b hL bp bq' s) (by decide) (by decide)
    · cases k : infM L p q with
      | none =>
        rw [k] at e
        cases e
        exact m2
      | some l =>
        rw [k] at e
        dsimp only [Option.map] at e
        split at e
        · cases e
          rw [can]
          exact fi l k
        · cases e
theorem dif_cr {L : List HP} {p q t : Rat} (hL : bhs 145 L) (c : CDf p q t) {x : Ray} (e : difM L p q t = some x) : cr 3700 x := by
  obtain ⟨D, X, Y, Z, d0, e1, e2, e3, bD, bx, by', bz'⟩ := c.ex
  unfold difM at e
  split at e
  · split at e
    · cases e
    · exact smp_cr hL (by decide) e
  · rename_i hpq
    have hpq' : p ≠ 0 ∨ q ≠ 0 := by
      by_cases z : p = 0
      · exact .inr fun y => hpq ⟨z, y⟩
      · exact .inl z
    cases o : othM L p q t with
    | none => rw [o] at e; cases e
    | some v =>
      rw [o] at e
      have e : smpM (L ++ lnP p q (v - t)) = some x := e
      have b := oth_f hL (bq_of d0 e1 bx bD) (bq_of d0 e2 by' bD) (bq_of d0 e3 bz' bD) o
      refine smp_cr (H := 605) (bhs_app (bhs_mono hL (by decide)) ?_) (by decide) e
      refine ln_b (M := (v - t).den * D) (x := (v - t).den * X) (y := (v - t).den * Y) (z := (v - t).num * D) hpq' (Int.mul_ne_zero (den_z _) d0) ?_ ?_ ?_ ?_ ?_ ?_
      · rw [Rat.intCast_mul, Rat.intCast_mul, ← e1]; grind
      · rw [Rat.intCast_mul, Rat.intCast_mul, ← e2]; grind
      · rw [Rat.intCast_mul, Rat.intCast_mul, ← q_num (v - t)]; grind
      · exact bz_mono (bz_mul (bz_den b) bx) (by decide)
      · exact bz_mono (bz_mul (bz_den b) by') (by decide)
      · exact bz_mono (bz_mul (bz_num b) bD) (by decide)
theorem dis_cr {t u : List El} (ht : good t) (hu : good u) {x : Ray} (h : disM t u = some x) : cr 3700 x := by
  have ro : ∀ {L M : List HP} {x : Ray}, bhs 145 L → bhs 145 M → roM L M = some x → cr 3700 x := fun hL hM h => by
    unfold roM at h
    split at h
    · cases h
    · exact ro_cr hL _ hM _ h
  obtain ⟨c1, c2⟩ := ht.cd hu
  unfold disM at h
  split at h
  · rename_i y h1
    cases h
    split at h1
    · rename_i h2
      cases h1
      exact ro ht.hs hu.hs h2
    · exact ro hu.hs ht.hs h1
  · split at h
    · cases h
    · dsimp only at h
      split at h
      · rename_i h3
        cases h
        exact dif_cr ht.hs c1 h3
      · exact dif_cr ht.hs c2 h
theorem corn_b9 {L : List HP} (hL : ∀ h ∈ L, bh 200 h) : ∀ (M : List HP) (fd : List Ray), (∀ h ∈ M, h ∈ L) → (∀ x ∈ fd, b9 x) → ∀ x ∈ cornM L M fd, b9 x
  | [], fd, _, hf, x, hx => hf x hx
  | h :: r, fd, hm, hf, x, hx => by
    refine corn_b9 hL r _ (fun g hg => hm g (List.mem_cons_of_mem _ hg)) ?_ x hx
    have go : ∀ (r2 : List HP) (gd : List Ray), (∀ g ∈ r2, g ∈ L) → (∀ x ∈ gd, b9 x) → ∀ x ∈ r2.foldl (cornS L h) gd, b9 x := fun r2 => by
      induction r2 with
      | nil => exact fun gd _ hg x hx => hg x hx
      | cons g r2 ih =>
        intro gd h2 hg x hx
        refine ih _ (fun y hy => h2 y (List.mem_cons_of_mem _ hy)) (fun y hy => ?_) x hx
        unfold cornS at hy
        split at hy
        · rename_i v hv
          split at hy
          · rcases put_mem hy with hy | rfl
            · exact hg y hy
            · exact meet_b (hL h (hm h (List.mem_cons_self ..))) (hL g (h2 g (List.mem_cons_self ..))) hv
          · exact hg y hy
        · exact hg y hy
    exact go r fd (fun g hg => hm g (List.mem_cons_of_mem _ hg)) hf
theorem b9_cr {x : Ray} (h : b9 x) : cr 3700 x := cr_of h.1 h.2 (by decide) (by decide) (by decide)
theorem cornS_len (L : List HP) (h : HP) (fd : List Ray) (g : HP) : (cornS L h fd g).length ≤ fd.length + 1 := by
  unfold cornS
  split
  · split
    · exact put_len _ _
    · omega
  · omega
theorem corn_len (L : List HP) : ∀ (M : List HP) (fd : List Ray), (cornM L M fd).length ≤ fd.length + M.length * M.length
  | [], fd => by
    show fd.length ≤ _
    omega
  | h :: r, fd => by
    have go : ∀ (r2 : List HP) (gd : List Ray), (r2.foldl (cornS L h) gd).length ≤ gd.length + r2.length := fun r2 => by
      induction r2 with
      | nil => exact fun gd => Nat.le_refl _
      | cons g r2 ih =>
        intro gd
        have a := ih (cornS L h gd g)
        have b := cornS_len L h gd g
        rw [List.foldl_cons, List.length_cons]
        omega
    have a := corn_len L r (r.foldl (cornS L h) fd)
    have b := go r fd
    show (cornM L r (r.foldl (cornS L h) fd)).length ≤ _
    rw [List.length_cons]
    have e : (r.length + 1) * (r.length + 1) = r.length * r.length + 2 * r.length + 1 := by grind
    rw [e]
    omega
end RT
namespace RT
open PySem PySem.Spec PyProof.Rows L2
/-! ### the law -/
structure LaS where
  ex : ExS
  cb : CbS
  cor : FnS
  cor_i : ∀ row n L Q, (∀ h ∈ L, bh 200 h) → L.length ≤ 40 → Q (encL encR (cornM L L [])) n → cor row n [encL encH L] Q
  ds : FnS
  ds_i : ∀ row n t u Q, CfOk t → CfOk u → bhs 200 (plM t) → bhs 200 (plM u) → (plM t).length ≤ 34 → (plM u).length ≤ 34 → CD3 ((trM t).a - (trM u).a) ((trM t).b - (trM u).b) ((trM t).e - (trM u).e) → CD3 ((trM t).c - (trM u).c) ((trM t).d - (trM u).d) ((trM t).f - (trM u).f) → Q (encX (disM t u)) n → ds row n [encL encE t, encL encE u] Q
  sim : FnS
  sim_i : ∀ row n (P : List El → Prop) t Q, (∀ t, P t → ReOk t ∧ ∀ e ∈ reM t, P (woM t e)) → P t → Q (encL encE (simM t)) n → sim row n [encL encE t] Q
variable (F : LaS) (T : List Addr) (lev : Nat) (row : List Int) (n : Int) (Q : QD)
abbrev NL : List Str := ["_law_script", "_law_box_here", "_law_train_here", "_law_other_here", "_law_rays", "_law_height", "_law_slope", "_law_one", "_law_edge", "_law_alike", "_law_ray", "_law_small"]
abbrev csL : List Fi := [⟨"_law_train", F.ex.tr, 2, []⟩, ⟨"_law_other", F.ex.ot, 2, []⟩, kDr F.ex.rn, ⟨"corners", F.cor, 1, []⟩, fHp F.cb.ca.sm.su.em.hp, ⟨"are_equivalent", F.cb.ae, 2, []⟩, fCf F.cb, ⟨"distinguishing_ray", F.ds, 2, []⟩, ⟨"_law_exit", F.ex.ex, 2, []⟩, ⟨"simplify", F.sim, 1, []⟩]
abbrev W4 (k : Nat) (ρ : RE) (n : Int) : Prop := wpSs (wpS (mkC NL none (csL F) konD false T lev row) 12 (defScope (top 104))) ((defBody (top 104)).drop k) ρ n (fun _ n => Q .none n) Q
theorem sz100 {k : Nat} (h : k ≤ 90000) : k ≤ sizeLine := by
  rw [sizeLine_eq]
  omega
abbrev crs (rs : List Ray) : Prop := ∀ x ∈ rs, cr 3700 x
theorem lw_loop (t u : List El) (S : D) (rs : List Ray) (c5 c6 c7 c8 c10 : Option Cell) (gt : good t) (gu : good u) (hrs : crs rs) (h : ∀ n, Q (.bool true) n) :
    W4 F T lev row Q 13 [sh S, bxc, sh (encL encE t), sh (encL encE u), sh (encL encR rs), c5, c6, c7, c8, sh (.bool (decide (cfM t = cfM u))), c10, no] n := by
  refine F.sim_i _ _ good _ _ (fun t h => h.re) gt ?_
  refine ck (P := wpSs _ _ [sh S, bxc, sh (encL encE t), sh (encL encE u), sh (encL encR rs), c5, c6, c7, c8, sh (.bool (decide (cfM t = cfM u))), c10, sh (encL encE (simM t))] _ _ _) ?_
  have gs := gt.sim
  obtain ⟨_, es⟩ := sim_ex gt.af
  refine for_i encR (fun r ρ n' => n' = n ∧ crs r ∧ ∃ c, ρ = [sh S, bxc, sh (encL encE t), sh (encL encE u), sh (encL encR rs), c5, c6, c, c8, sh (.bool (decide (cfM t = cfM u))), c10, sh (encL encE (simM t))]) ?_ ?_ rs _ _ ⟨rfl, hrs, c7, rfl⟩
  · rintro x r ρ n' K ⟨rfl, hr, c, rfl⟩ hK
    have hx := hr x (List.mem_cons_self ..)
    have bt : 3700 + 13 * t.length ≤ 4300 := by have := gt.len; omega
    have bu : 3700 + 13 * u.length ≤ 4300 := by have := gu.len; omega
    have bs : 3700 + 13 * (simM t).length ≤ 4300 := by have := gs.len; omega
    refine nm ?_
    have second : wpSs (wpS (mkC NL none (csL F) konD false T lev row) 11 (defScope (top 104))) ((inB (defBody (top 104)) 14).drop 1) [sh S, bxc, sh (encL encE t), sh (encL encE u), sh (encL encR rs), c5, c6, sh (encR x), c8, sh (.bool (decide (cfM t = cfM u))), c10, sh (encL encE (simM t))] n' K Q := by
      refine F.ex.ex_i _ _ _ _ _ _ gs.v hx bs ?_
      refine F.ex.ex_i _ _ _ _ _ _ gt.v hx bt ?_
      refine eq_n isX (exM (simM t) x) (exM t x) (fun hne => absurd (es x) hne) (fun _ => ?_)
      exact hK _ _ ⟨rfl, fun z hz => hr z (List.mem_cons_of_mem _ hz), _, rfl⟩
    refine ck (P := wpSs _ _ [sh S, bxc, sh (encL encE t), sh (encL encE u), sh (encL encR rs), c5, c6, sh (encR x), c8, sh (.bool (decide (cfM t = cfM u))), c10, sh (encL encE (simM t))] _ _ _) ?_
    refine ck (P := if (decide (cfM t = cfM u)) = true then _ else _) ?_
    refine ite_d (fun he => ?_) (fun he => ?_)
    · refine F.ex.ex_i _ _ _ _ _ _ gt.v hx bt ?_
      refine F.ex.ex_i _ _ _ _ _ _ gu.v hx bu ?_
      refine eq_n isX (exM t x) (exM u x) (fun hne => absurd ((cf_iff gt.af gu.af).mp he x) hne) (fun _ => ?_)
      exact second
    · exact second
  · rintro ρ n' ⟨rfl, _, c, rfl⟩
    refine F.sim_i _ _ good _ _ (fun t h => h.re) gu ?_
    refine F.cb.ae_i _ _ _ _ _ gu.sim.cf gu.cf ?_
    obtain ⟨a, e⟩ := sim_ex gu.af
    rw [decide_eq_true ((cf_iff a gu.af).mpr e)]
    exact h _
theorem lw_dis (t u : List El) (S : D) (rs : List Ray) (c5 c6 c7 c8 : Option Cell) (gt : good t) (gu : good u) (hrs : crs rs) (h : ∀ n, Q (.bool true) n) :
    W4 F T lev row Q 9 [sh S, bxc, sh (encL encE t), sh (encL encE u), sh (encL encR rs), c5, c6, c7, c8, sh (.bool (decide (cfM t = cfM u))), no, no] n := by
  refine F.cb.cf_i _ _ _ _ gt.cf ?_
  refine F.cb.cf_i _ _ _ _ gu.cf ?_
  refine And.intro (isC.shp (by decide) (cfM t)) (And.intro (isC.shp (by decide) (cfM u)) ?_)
  rw [isC.eq]
  refine eq_n isB (decide (cfM t = cfM u)) (decide (cfM t = cfM u)) (fun hne => absurd rfl hne) (fun _ => ?_)
  obtain ⟨d1, d2⟩ := gt.cd gu
  refine F.ds_i _ _ _ _ _ gt.cf gu.cf (bhs_mono gt.hs (by decide)) (bhs_mono gu.hs (by decide)) (by have := gt.plen; omega) (by have := gu.plen; omega) d1.c d2.c ?_
  have bt : 3700 + 13 * t.length ≤ 4300 := by have := gt.len; omega
  have bu : 3700 + 13 * u.length ≤ 4300 := by have := gu.len; omega
  have di := dis_iff gt.af gu.af
  refine ck (P := wpSs _ _ [sh S, bxc, sh (encL encE t), sh (encL encE u), sh (encL encR rs), c5, c6, c7, c8, sh (.bool (decide (cfM t = cfM u))), sh (encX (disM t u)), no] _ _ _) ?_
  have last := fun c => lw_loop F T lev row n Q t u S rs c5 c6 c7 c8 c gt gu hrs h
  cases hd : disM t u with
  | none =>
    have e := di.mp hd
    refine eq_n isB true (decide (cfM t = cfM u)) (fun hne => absurd (decide_eq_true e).symm hne) (fun _ => ?_)
    exact last _
  | some x =>
    have e : ¬ cfM t = cfM u := fun z => by
      have := di.mpr z
      rw [hd] at this
      cases this
    have hx := dis_cr gt gu hd
    refine eq_n isB false (decide (cfM t = cfM u)) (fun hne => absurd (decide_eq_false e).symm hne) (fun _ => ?_)
    refine F.ex.ex_i _ _ _ _ _ _ gt.v hx bt ?_
    refine F.ex.ex_i _ _ _ _ _ _ gu.v hx bu ?_
    refine eq_d isX (exM t x) (exM u x) (fun he => absurd he (dis_ex gt.af gu.af hd)) (fun _ => ?_)
    exact last _
theorem int_cr {h s : Int} (h1 : bz 10 h) (h2 : bz 10 s) : cr 3700 ((h : Rat), (s : Rat)) := cr_of (bq_int h1) (bq_int h2) (by decide) (by decide) (by decide)
theorem lw_rays (t u : List El) (S : D) (gt : good t) (gu : good u) (h : ∀ n, Q (.bool true) n) :
    W4 F T lev row Q 4 [sh S, bxc, sh (encL encE t), sh (encL encE u), no, no, no, no, no, no, no, no] n := by
  refine And.intro (by decide : 0 ≤ 1000) ?_
  refine And.intro (by decide : (-1000000 : Int) ≤ -2 ∧ (-2 : Int) ≤ 1000000 ∧ (-1000000 : Int) ≤ 3 ∧ (3 : Int) ≤ 1000000) ?_
  refine for_r (fun i ρ n' => n' = n ∧ ∃ rs c5 c6, crs rs ∧ rs.length ≤ 5 * i ∧ ρ = [sh S, bxc, sh (encL encE t), sh (encL encE u), sh (encL encR rs), c5, c6, no, no, no, no, no]) (-2) 5 ?_ ?_ 5 0 _ _ rfl ⟨rfl, [], no, no, (fun x hx => by cases hx), Nat.le_refl _, rfl⟩
  · rintro i ρ n' K hi ⟨rfl, rs, c5, c6, hrs, hl, rfl⟩ hK
    refine nm ?_
    refine ck (P := wpSs _ _ [sh S, bxc, sh (encL encE t), sh (encL encE u), sh (encL encR rs), sh (.int (-2 + (i : Nat))), c6, no, no, no, no, no] _ _ _) ?_
    refine And.intro (by decide : (-1000000 : Int) ≤ -2 ∧ (-2 : Int) ≤ 1000000 ∧ (-1000000 : Int) ≤ 3 ∧ (3 : Int) ≤ 1000000) ?_
    refine ck (P := compD _ _ _ ((([-2, -1, 0, 1, 2] : List Int)).map PyData.int) [] _ _) ?_
    have bi : bz 10 (-2 + (i : Int)) := by
      unfold bz
      omega
    refine comp_m PyData.int (fun s : Int => encR ((((-2 + (i : Int) : Int)) : Rat), (s : Rat))) n' ([-2, -1, 0, 1, 2] : List Int) [] (fun s hs K1 k1 => ?_) ?_
    · refine nm ?_
      refine And.intro (by decide : 2 ≤ 1000) ?_
      refine And.intro (by decide : 2 ≤ 1000) ?_
      refine And.intro (by decide : 2 ≤ 1000) ?_
      exact k1
    · rw [List.nil_append]
      refine And.intro (sz100 (by rw [List.length_map, List.length_map]; show rs.length + 5 ≤ 90000; omega)) ?_
      have hb : ∀ s ∈ ([-2, -1, 0, 1, 2] : List Int), bz 10 s := by
        intro s hs
        simp only [List.mem_cons, List.not_mem_nil, or_false] at hs
        unfold bz
        omega
      have e : rs.map encR ++ ([-2, -1, 0, 1, 2] : List Int).map (fun s : Int => encR ((((-2 + (i : Int) : Int)) : Rat), (s : Rat))) = (rs ++ ([-2, -1, 0, 1, 2] : List Int).map fun s : Int => ((((-2 + (i : Int) : Int)) : Rat), (s : Rat))).map encR := by
        rw [List.map_append, List.map_map]
        rfl
      rw [e]
      refine hK _ _ ⟨rfl, _, _, _, fun x hx => ?_, ?_, rfl⟩
      · rcases List.mem_append.mp hx with hx | hx
        · exact hrs x hx
        · obtain ⟨s, hs, rfl⟩ := List.mem_map.mp hx
          exact int_cr bi (hb s hs)
      · rw [List.length_append, List.length_map]
        show rs.length + 5 ≤ _
        omega
  · rintro ρ n' ⟨rfl, rs, c5, c6, hrs, hl, rfl⟩
    refine And.intro (by decide : 2 ≤ 1000) ?_
    refine ck (P := forD _ _ ([t, u].map (encL encE)) _ _ _ _) ?_
    refine for_i (encL encE) (fun r ρ n2 => n2 = n' ∧ (∀ v ∈ r, good v) ∧ ∃ rs c7 c8, crs rs ∧ rs.length + 1000 * r.length ≤ 5000 ∧ ρ = [sh S, bxc, sh (encL encE t), sh (encL encE u), sh (encL encR rs), c5, c6, c7, c8, no, no, no]) ?_ ?_ [t, u] _ _ ⟨rfl, fun v hv => ?_, rs, no, no, hrs, by show rs.length + 1000 * 2 ≤ 5000; omega, rfl⟩
    · rintro v r ρ n2 K ⟨rfl, hg, rs, c7, c8, hrs, hl, rfl⟩ hK
      have gv := hg v (List.mem_cons_self ..)
      simp only [List.length_cons] at hl
      refine nm ?_
      refine ck (P := wpSs _ _ [sh S, bxc, sh (encL encE t), sh (encL encE u), sh (encL encR rs), c5, c6, sh (encL encE v), c8, no, no, no] _ _ _) ?_
      refine F.cb.ca.sm.su.em.hp.hp_i _ _ _ _ gv.cf.hp gv.cf.len ?_
      refine comp_m encGH (fun x => encH x.2) n2 (hpM v) [] (fun x hx K1 k1 => ?_) ?_
      · refine nm ?_
        exact k1
      · rw [List.nil_append]
        have e : (hpM v).map (fun x => encH x.2) = (plM v).map encH := by
          unfold plM
          rw [List.map_map]
          rfl
        rw [e]
        have b2 : ∀ h ∈ plM v, bh 200 h := fun g hg => bh_mono (gv.hs g hg).1 (by decide)
        have pl := gv.plen
        have cl := corn_len (plM v) (plM v) []
        have cl2 : (cornM (plM v) (plM v) []).length ≤ 900 := by
          have := Nat.mul_le_mul pl pl
          simp only [List.length_nil] at cl
          omega
        refine F.cor_i _ _ _ _ b2 (by omega) ?_
        refine And.intro (sz100 (by rw [List.length_map, List.length_map]; omega)) ?_
        have e3 : rs.map encR ++ (cornM (plM v) (plM v) []).map encR = (rs ++ cornM (plM v) (plM v) []).map encR := by rw [List.map_append]
        rw [e3]
        refine hK _ _ ⟨rfl, fun z hz => hg z (List.mem_cons_of_mem _ hz), _, _, _, fun x hx => ?_, ?_, rfl⟩
        · rcases List.mem_append.mp hx with hx | hx
          · exact hrs x hx
          · exact b9_cr (corn_b9 b2 (plM v) [] (fun h hh => hh) (fun x hx => by cases hx) x hx)
        · rw [List.length_append]
          omega
    · rintro ρ n2 ⟨rfl, _, rs, c7, c8, hrs, hl, rfl⟩
      refine F.cb.ae_i _ _ _ _ _ gt.cf gu.cf ?_
      refine ck (P := wpSs _ _ [sh S, bxc, sh (encL encE t), sh (encL encE u), sh (encL encR rs), c5, c6, c7, c8, sh (.bool (decide (cfM t = cfM u))), no, no] _ _ _) ?_
      have fin := lw_dis F T lev row n2 Q t u S rs c5 c6 c7 c8 gt gu hrs h
      cases hb : decide (cfM t = cfM u) with
      | true =>
        rw [hb] at fin
        exact fin
      | false =>
        rw [hb] at fin
        exact fin
    · rcases List.mem_cons.mp hv with rfl | hv
      · exact gt
      · rw [List.mem_singleton.mp hv]
        exact gu
/-- the law, its box made -/
theorem lw_all (S : D) (h : ∀ n, Q (.bool true) n) : W4 F T lev row Q 1 [sh S, bxc, no, no, no, no, no, no, no, no, no, no] 0 := by
  have gd : ∀ {t : List El} {k : Nat}, elFs t → t.length ≤ k → k ≤ 15 → good t := fun ht hl hk => ⟨fun e he => (ht e he).1, by omega⟩
  refine F.ex.tr_i _ _ 5 _ (by decide) (by decide) (by decide) fun t n1 ht htl n1a n1b => ?_
  refine ck (P := wpSs _ _ [sh S, bxc, sh (encL encE t), no, no, no, no, no, no, no, no, no] _ _ _) ?_
  refine F.ex.ot_i _ _ _ _ (by omega) (by omega) ht htl fun u n2 hu hul n2a n2b => ?_
  refine ck (P := wpSs _ _ [sh S, bxc, sh (encL encE t), sh (encL encE u), no, no, no, no, no, no, no, no] _ _ _) ?_
  refine F.ex.rn.dr_i _ _ _ _ (by omega) (by omega) (by decide) fun v v0 v1 => ?_
  refine eq_d isI v 0 (fun k0 => ?_) (fun k0 => ?_)
  · refine F.ex.tr_i _ _ 4 _ (by omega) (by omega) (by decide) fun u2 n3 hu2 hul2 n3a n3b => ?_
    exact lw_rays F T lev row n3 Q t u2 S (gd ht htl (by decide)) (gd hu2 hul2 (by decide)) h
  · exact lw_rays F T lev row _ Q t u S (gd ht htl (by decide)) ⟨hu, hul⟩ h
end RT
namespace RT
open PySem PySem.Spec PyProof.Rows L2
/-! ### a def that gives a new list; the law's own def -/
/-- the promise: a new list, out of the view -/
def spF (K : PySem.W.Frag) (T : List Addr) (ar : Nat) (S : List D → (List D → Int → Prop) → Prop) : Sp := fun vs H Q _ => vs.length = ar ∧ ∃ (row : List Int) (n : Int) (Vw : Hp) (ds : List D) (Qd : List D → Int → Prop),
  Stt K ⟨none, T⟩ row n H Vw ∧ Paired (Dv K ⟨none, T⟩ Vw) vs ds ∧ S ds Qd ∧ ∀ p xs H' Vw' es n', Stp ⟨none, T⟩ H Vw H' Vw' → Stt K ⟨none, T⟩ row n' H' Vw' → H p = none → H' p = some (.lst xs) → Vw' p = none → DqAll K Vw' xs es → Qd es n' → Q (.ref p) H'
section
variable {P : Program} {w : World} {K : PySem.W.Frag} {mg : Str → Option Value} {base : Heap} {x qual : Str} {params : Arguments} {body : List Stmt} {scope : Scope} {dvs : List V} {kws : List (Str × V)} {f : Addr} {fd : FuncData} {C : Cfg} {ps : List Str}
theorem rep_start {bx : BxT} {Vw : Hp} {vs : List V} {ds : List D} {N : List Str} (pd : Paired (Dv K bx Vw) vs ds) : Rep K bx Vw (L2.start N vs) (rho0 N ds) := by
  refine ⟨?_, fun i c e => ?_⟩
  · unfold L2.start rho0
    rw [List.length_append, List.length_append, List.length_map, List.length_map, List.length_replicate, List.length_replicate, pd_len pd]
  · unfold rho0 at e
    by_cases hi : i < ds.length
    · rw [List.getElem?_append_left (by simpa using hi), List.getElem?_map] at e
      cases q : ds[i]? with
      | none => rw [q] at e; cases e
      | some d =>
        rw [q] at e
        have e' : cellD d = c := Option.some.inj (Option.some.inj e)
        obtain ⟨v, g1, g2⟩ := pd_get pd q
        have hiv : i < vs.length := by rw [pd_len pd]; exact hi
        refine ⟨v, ?_, by rw [← e']; exact cell_ok g2⟩
        unfold L2.start
        rw [List.getElem?_append_left (by simpa using hiv), List.getElem?_map, g1]
        rfl
    · rw [List.getElem?_append_right (by simpa using hi), List.getElem?_replicate] at e
      split at e <;> cases e
theorem own_start {N : List Str} {ds : List D} {i : Nat} {xs : List D} (e : (rho0 N ds)[i]? = some (some (.own xs))) : False := by
  unfold rho0 at e
  by_cases hi : i < ds.length
  · rw [List.getElem?_append_left (by simpa using hi), List.getElem?_map] at e
    cases q : ds[i]? with
    | none => rw [q] at e; cases e
    | some d =>
      rw [q] at e
      have e' : cellD d = .own xs := Option.some.inj (Option.some.inj e)
      cases d <;> cases e'
  · rw [List.getElem?_append_right (by simpa using hi), List.getElem?_replicate] at e
    split at e <;> cases e
theorem ctx_of (hs : FnScope C.N ps scope) {cdv : Value} {A : Around} {outer : List Env} {s : Shared} {H : Hp} {E : XK} (hr : Room (C.lev + 12) (A.deeper (envOfC qual scope s.heap.objs.size f cdv)))
    (hcall : ∀ g S m, C.G g = some S → C.ar g m = true → CalleeAt P w K mg base C g S m)
    (hkonst : ∀ x d, C.konst x = some d → ∃ v u, mg x = some u ∧ RelV v u ∧ ∀ Vw, Dq K Vw v d)
    (hblt : ∀ f ∈ bltNames, mg f = none) (hgen : C.gens = false) (row : List Int) :
    Ctx (cxOf CX0 P w K mg base C.N qual scope f cdv A outer s H E).nox { C with row := row } false scope := by
  refine ⟨rfl, hs.nd, rfl, rfl, hr.mono (by split <;> (show C.lev + _ ≤ C.lev + 12; omega)), hcall, hkonst, hblt, fun _ _ => rfl, fun hg => ?_, fun _ => hs.kind, rfl⟩
  have hg : C.gens = true := hg
  rw [hgen] at hg
  cases hg
/-- two statements, then a list -/
theorem fnF_ok (fuel : Nat) (S : List D → (List D → Int → Prop) → Prop) (s0 s1 : Stmt) (e : Expr) (pos : Pos) (hb : body = [s0, s1, .Return (some e) pos]) (F : FunD K x qual params body scope dvs kws f fd) (hs : FnScope C.N ps scope)
    (hcall : ∀ g S m, C.G g = some S → C.ar g m = true → CalleeAt P w K mg base C g S m)
    (hkonst : ∀ x d, C.konst x = some d → ∃ v u, mg x = some u ∧ RelV v u ∧ ∀ Vw, Dq K Vw v d)
    (hblt : ∀ f ∈ bltNames, mg f = none) (hgen : C.gens = false)
    (hS : ∀ row n ds (Qd : List D → Int → Prop), ds.length = ps.length → S ds Qd → wpSs (wpS { C with row := row } fuel scope) [s0, s1] (rho0 C.N ds) n (fun ρ n' => wpF { C with row := row } fuel scope e (frzR ρ) n' Qd) fun _ _ => False) :
    FnOk P w K mg base CX0 (C.lev + 13) f fd ps (spF K C.tabs ps.length S) := by
  subst hb
  obtain ⟨oc, od, dV, kV, doc, pm, an, cdv, ct, osl, rfl, lk, hcd, _, _⟩ := F.ex
  refine fn_of lk hcd hs (fun vs H Q E h => h.1) fun A outer s H vs Q E hr hsp => ?_
  obtain ⟨hl, row, n, Vw, ds, Qd, st, pd, hq, hQ⟩ := hsp
  have hld : ds.length = ps.length := (pd_len pd).symm.trans hl
  have cx := ctx_of (qual := qual) (cdv := cdv) (outer := outer) (s := s) (H := H) (E := E) hs hr hcall hkonst hblt hgen row
  have hbt : (⟨none, C.tabs⟩ : BxT).tabs = { C with row := row }.tabs := rfl
  obtain ⟨t, ht, kt⟩ := dss (sS (C := { C with row := row }) hbt cx fuel) [s0, s1]
  obtain ⟨t0, h0, k0⟩ := sS (C := { C with row := row }) hbt cx fuel s0
  obtain ⟨t1, h1, k1⟩ := sS (C := { C with row := row }) hbt cx fuel s1
  obtain ⟨te, he, ke⟩ := sF (C := { C with row := row }) fuel hbt cx e
  refine ⟨_, PSs.nox (pss_cons h0 (pss_cons h1 (pss_cons (ps_ret (pos := pos) he) pss_nil))), ?_⟩
  have sr : SR K { C with row := row } ⟨none, C.tabs⟩ H Vw (L2.start C.N vs) (rho0 C.N ds) n H Vw := ⟨fun b e => (by cases e), Stp.refl, st, rep_start pd, fun i xs e => (own_start e).elim⟩
  have hw := hS row n ds Qd hld hq
  refine k0 H Vw (L2.start C.N vs) H Vw (rho0 C.N ds) n _ _ _ sr hw (fun σ1 H1 Vw1 ρ1 n1 sr1 _ w1 => ?_) fun v H' Vw' d n' _ _ _ q => q.elim
  refine k1 H Vw σ1 H1 Vw1 ρ1 n1 _ _ _ sr1 w1 (fun σ2 H2 Vw2 ρ2 n2 sr2 _ w2 => ?_) fun v H' Vw' d n' _ _ _ q => q.elim
  obtain ⟨Vf, f1, f2, f3, f4⟩ := sr2.frz
  refine ke σ2 H2 Vf (frzR ρ2) n2 Qd _ f2 f3 w2 fun p xs H' Vw' es n' s1' st1 b3 g1 g2 g3 dq q => ?_
  exact hQ p xs H' Vw' es n' (f4.trans f2 s1') st1 (f4.fresh f2 g1) g2 g3 dq q
/-- the law: its first statement makes the box -/
def spL (K : PySem.W.Frag) (T : List Addr) : Sp := fun vs H Q _ => vs.length = 1 ∧ ∃ (Vw : Hp) (ns : List Int), ns.length ≤ 63 ∧ Stt K ⟨none, T⟩ [] 0 H Vw ∧ Paired (Dv K ⟨none, T⟩ Vw) vs [wholes ns] ∧ ∀ H', Q (.bl true) H'
theorem dq_ints {Vw : Hp} : ∀ (row : List Int) (xs : List V), DqAll K Vw xs (row.map PyData.int) → xs = row.map V.int
  | [], xs, h => by cases h; rfl
  | i :: row, xs, h => by
    cases h with
    | cons a r =>
      cases a
      rw [List.map_cons, ← dq_ints row _ r]
theorem law_ok (fuel : Nat) (rest : List Stmt) (bf script : Str) (p0 p1 p2 p3 p4 pos cpos : Pos) (c3 c4 : Nat) (SB : List D → (List D → Int → Prop) → Prop) (fb : Addr) (fdb : FuncData) (psb : List Str) (y : Str) (i : Nat) (M : Nat)
    (hb : body = .Assign [.Name y p0] (.Call (.Name bf p1) [.Name script p2, .Constant (.int 0) c3 p3, .Constant (.int 50) c4 p4] [] cpos) pos :: rest)
    (F : FunD K x qual params body scope dvs kws f fd) (hs : FnScope C.N ps scope) (hps : ps.length = 1)
    (hcall : ∀ g S m, C.G g = some S → C.ar g m = true → CalleeAt P w K mg base C g S m)
    (hkonst : ∀ x d, C.konst x = some d → ∃ v u, mg x = some u ∧ RelV v u ∧ ∀ Vw, Dq K Vw v d)
    (hblt : ∀ f ∈ bltNames, mg f = none) (hgen : C.gens = false)
    (hbox : FnOk P w K mg base CX0 C.lev fb fdb psb (spF K C.tabs 3 SB)) (hm : mg bf = some (.ref fb)) (hkp : PySem.W.keepIn K (.ref fb) = true) (hbi : Binds K fdb psb [])
    (hgl : glB scope bf = true) (hpl : plainN bf = true) (hi : findIx C.N y = some i) (hloc : (locB scope y || decide (scope.names.lookup y = some .cell)) = true) (hsl : slot C scope script = some 0) (hi0 : i ≠ 0)
    (hSB : ∀ ns : List Int, ns.length ≤ 63 → ∀ Qd : List D → Int → Prop, (∀ row' n', Qd [wholes row', .int 0] n') → SB [wholes ns, .int 0, .int 50] Qd)
    (hS : ∀ row (ns : List Int), ns.length ≤ 63 → wpSs (wpS { C with row := row } fuel scope) rest ((rho0 C.N [wholes ns]).set i (some .box)) 0 (fun _ _ => PyData.none = PyData.bool true) fun d _ => d = .bool true) :
    FnOk P w K mg base CX0 (C.lev + 13) f fd ps (spL K C.tabs) := by
  subst hb
  obtain ⟨oc, od, dV, kV, doc, pm, an, cdv, ct, osl, rfl, lk, hcd, _, _⟩ := F.ex
  refine fn_of lk hcd hs (fun vs H Q E h => h.1.trans hps.symm) fun A outer s H vs Q E hr hsp => ?_
  obtain ⟨hl, Vw, ns, hns, st, pd, hQ⟩ := hsp
  have cxr := fun row => ctx_of (qual := qual) (cdv := cdv) (outer := outer) (s := s) (H := H) (E := E) hs hr hcall hkonst hblt hgen row
  have cx := cxr []
  have hbt : (⟨none, C.tabs⟩ : BxT).tabs = { C with row := [] }.tabs := rfl
  -- the first statement
  have sl : slot { C with row := [] } scope script = some 0 := hsl
  have hn := pe_slot (pos := p2) cx sl
  have hdb : (bf == ("__debug__" : Str)) = false := by
    unfold plainN at hpl
    rw [Bool.and_eq_true, Bool.not_eq_true', Bool.not_eq_true'] at hpl
    exact hpl.1
  have hp := pe_call (pos := cpos) (p := p1) hbox cx.roomL (glB_ok cx hgl) hm hkp hbi .nil pass0 (pa_cons hn (pa_cons (pe_int (i := 0) (j := c3) (pos := p3)) (pa_cons (pe_int (i := 50) (j := c4) (pos := p4)) pa_nil (star_ok rfl)) (star_ok rfl)) (star_ok rfl)) hdb (star_ok rfl) (stars_ok rfl)
  have h0 := ps_plain (pp := p0) (pos := pos) cx hi hloc hp rfl
  -- the others, whatever the box is
  have alt : ∀ (bx : BxT) (row : List Int), bx.tabs = C.tabs → DSs (cxOf CX0 P w K mg base C.N qual scope f cdv A outer s H E).nox { C with row := row } bx rest (wpSs (wpS { C with row := row } fuel scope) rest) := fun bx row hbx => dss (sS (C := { C with row := row }) hbx (cxr row) fuel) rest
  let tA : TS := fun E0 σ0 H0 => ∃ (bx : BxT) (row : List Int) (t : TS), bx.tabs = C.tabs ∧ PSs (cxOf CX0 P w K mg base C.N qual scope f cdv A outer s H E).nox rest t ∧ t E0 σ0 H0
  have hA : PSs (cxOf CX0 P w K mg base C.N qual scope f cdv A outer s H E).nox rest tA := ⟨fun pins s' σ0 H0 D0 I hh => by
    obtain ⟨bx, row, t, _, ht, h⟩ := hh
    exact ht.run pins s' σ0 H0 D0 I h⟩
  refine ⟨_, PSs.nox (pss_cons h0 hA), ?_⟩
  have hrep := rep_start (N := C.N) pd
  obtain ⟨v0, g1, g2⟩ := hrep.2 0 (.shr (wholes ns)) rfl
  refine ⟨v0, g1, ?_⟩
  refine ⟨rfl, [], 0, Vw, [wholes ns, .int 0, .int 50], fun es _ => ∃ row', es = [wholes row', .int 0], st, .cons (.inl g2) (.cons (.inl (.int 0)) (.cons (.inl (.int 50)) .nil)), hSB ns hns _ fun row' n' => ⟨row', rfl⟩, ?_⟩
  rintro p xs H' Vw' es n' s1 st1 k1 k2 k3 dq ⟨row', rfl⟩
  cases dq with
  | cons d1 r =>
    cases r with
    | cons d2 r =>
      cases r
      cases d2
      cases d1 with
      | lst rd dr =>
        rename_i ra rxs
        have ex := dq_ints row' rxs dr
        subst ex
        have stb : Stt K ⟨some ⟨p, ra⟩, C.tabs⟩ row' 0 H' Vw' := ⟨st1.sub, fun b e => (by cases e; exact ⟨k2, rd, k3⟩), st1.tab, st1.vis⟩
        obtain ⟨t, ht, kt⟩ := alt ⟨some ⟨p, ra⟩, C.tabs⟩ row' rfl
        refine ⟨⟨some ⟨p, ra⟩, C.tabs⟩, row', t, rfl, ht, ?_⟩
        have hrep2 : Rep K ⟨some ⟨p, ra⟩, C.tabs⟩ Vw' ((L2.start C.N vs).set i (some (.ref p))) ((rho0 C.N [wholes ns]).set i (some .box)) := by
          have base : Rep K ⟨some ⟨p, ra⟩, C.tabs⟩ Vw' (L2.start C.N vs) (rho0 C.N [wholes ns]) := by
            refine ⟨hrep.1, fun j c e => ?_⟩
            have hr' := rep_start (N := C.N) pd
            obtain ⟨v, q1, q2⟩ := hr'.2 j c e
            refine ⟨v, q1, ?_⟩
            cases c with
            | shr d => exact dp_mono s1.view _ _ q2
            | own xs => trivial
            | box =>
              obtain ⟨b, z, _⟩ := q2
              cases z
          exact base.set (c := .box) ⟨_, rfl, rfl⟩
        have sr : SR K { C with row := row' } ⟨some ⟨p, ra⟩, C.tabs⟩ H' Vw' ((L2.start C.N vs).set i (some (.ref p))) ((rho0 C.N [wholes ns]).set i (some .box)) 0 H' Vw' := by
          refine ⟨fun b e => ?_, Stp.refl, stb, hrep2, fun j xs e => ?_⟩
          · cases e
            rw [k2]
            exact fun z => by cases z
          · by_cases hj : i = j
            · subst hj
              by_cases hlt : i < (rho0 C.N [wholes ns]).length
              · rw [List.getElem?_set_self hlt] at e; cases e
              · rw [List.getElem?_eq_none (by simpa using hlt)] at e; cases e
            · rw [List.getElem?_set_ne hj] at e
              exact (own_start e).elim
        refine kt H' Vw' _ H' Vw' _ 0 _ _ _ sr (hS row' ns hns) (fun _ _ _ _ _ _ _ h => by cases h) fun v H2 Vw2 d n2 _ _ dv hd => ?_
        subst hd
        cases dv
        exact hQ H2
end
end RT
namespace RT
open PySem PySem.Spec PyProof.Rows L2
/-! ### the box -/
def sBox : List D → (List D → Int → Prop) → Prop := fun ds Qd => ∃ ns : List Int, ds = [wholes ns, .int 0, .int 50] ∧ ∀ row' n', Qd [wholes row', .int 0] n'
def retE : Stmt → Expr
  | .Return (some e) _ => e
  | _ => .Constant .none 0 ⟨0, 0, 0, 0⟩
def retP : Stmt → Pos
  | .Return (some _) p => p
  | _ => ⟨0, 0, 0, 0⟩
def stAt (i k : Nat) : Stmt := (defBody (top i)).getD k (.Pass ⟨0, 0, 0, 0⟩)
abbrev NB : List Str := ["_law_script", "_law_first", "_law_last", "_law_row_here", "_law_k"]
abbrev cB (F : DrS) : List Fi := [⟨"_law_cell", F.cell, 2, []⟩, ⟨"_law_row", F.rw, 3, []⟩]
theorem box_body : defBody (top 86) = [stAt 86 0, stAt 86 1, .Return (some (retE (stAt 86 2))) (retP (stAt 86 2))] := by kernel_rfl
theorem w_box (F : DrS) (T : List Addr) (lev : Nat) (row : List Int) (n : Int) (ds : List D) (Qd : List D → Int → Prop) (h : sBox ds Qd) :
    wpSs (wpS (mkC NB none (cB F) konD false T lev row) 12 (defScope (top 86))) [stAt 86 0, stAt 86 1] (rho0 NB ds) n (fun ρ n' => wpF (mkC NB none (cB F) konD false T lev row) 12 (defScope (top 86)) (retE (stAt 86 2)) (frzR ρ) n' Qd) fun _ _ => False := by
  obtain ⟨ns, rfl, h⟩ := h
  refine And.intro (by decide : 0 ≤ 1000) ?_
  refine And.intro (by decide : (-1000000 : Int) ≤ 0 ∧ (0 : Int) ≤ 1000000 ∧ (-1000000 : Int) ≤ 50 ∧ (50 : Int) ≤ 1000000) ?_
  refine for_rs (fun j ρ n' => ∃ (vs : List Int) (c : Option Cell), vs.length ≤ 60 * j ∧ ρ = [sh (wholes ns), sh (.int 0), sh (.int 50), sh (wholes vs), c]) 0 50 rfl rfl (by decide) ?_ ?_ _ _ ⟨[], no, Nat.le_refl _, rfl⟩
  · rintro j ρ n' K _ hj ⟨vs, c, hl, rfl⟩ hK
    refine nm ?_
    refine ck (P := wpSs _ _ [sh (wholes ns), sh (.int 0), sh (.int 50), sh (wholes vs), sh (.int j)] _ _ _) ?_
    refine F.cell_i _ _ _ _ _ fun v => ?_
    refine F.rw_i _ _ _ _ _ (by omega) fun us hu => ?_
    refine And.intro (sz100 (by rw [List.length_map, List.length_map]; omega)) ?_
    have e : vs.map PyData.int ++ us.map PyData.int = (vs ++ us).map PyData.int := by rw [List.map_append]
    rw [e]
    exact hK _ _ ⟨vs ++ us, _, by rw [List.length_append]; omega, rfl⟩
  · rintro ρ n' ⟨vs, c, hl, rfl⟩
    refine And.intro (by decide : 2 ≤ 1000) ?_
    exact h vs _
/-! ### what each def is worth -/
def lst (R : FnS → Prop) : FnS := fun row n ds Q => ∀ G : FnS, R G → G row n ds Q
end RT
namespace RT
open PySem PySem.Spec PyProof.Rows L2

def RRa_cd (cd : FnS) : Prop := ∀ row n a b Q, Q (.int (Int.gcd a b : Nat)) n → cd row n [.int a, .int b] Q
theorem RRa_cd_l : RRa_cd (lst RRa_cd) := by
  unfold RRa_cd
  intros
  intro G hG
  apply hG <;> assumption
def RRa_fr (fr : FnS) : Prop := ∀ row n a b Q, b ≠ 0 → bz 8999 b → Q (encQ ((a : Rat) / (b : Rat))) n → fr row n [.int a, .int b] Q
theorem RRa_fr_l : RRa_fr (lst RRa_fr) := by
  unfold RRa_fr
  intros
  intro G hG
  apply hG <;> assumption
def RRa_add (add : FnS) : Prop := ∀ row n p q Q, sm p → sm q → Q (encQ (p + q)) n → add row n [encQ p, encQ q] Q
theorem RRa_add_l : RRa_add (lst RRa_add) := by
  unfold RRa_add
  intros
  intro G hG
  apply hG <;> assumption
def RRa_neg (neg : FnS) : Prop := ∀ row n p Q, Q (encQ (-p)) n → neg row n [encQ p] Q
theorem RRa_neg_l : RRa_neg (lst RRa_neg) := by
  unfold RRa_neg
  intros
  intro G hG
  apply hG <;> assumption
def RRa_sub (sub : FnS) : Prop := ∀ row n p q Q, sm p → sm q → Q (encQ (p - q)) n → sub row n [encQ p, encQ q] Q
theorem RRa_sub_l : RRa_sub (lst RRa_sub) := by
  unfold RRa_sub
  intros
  intro G hG
  apply hG <;> assumption
def RRa_mul (mul : FnS) : Prop := ∀ row n p q Q, sm p → sm q → Q (encQ (p * q)) n → mul row n [encQ p, encQ q] Q
theorem RRa_mul_l : RRa_mul (lst RRa_mul) := by
  unfold RRa_mul
  intros
  intro G hG
  apply hG <;> assumption
def RRa_div (div : FnS) : Prop := ∀ row n p q Q, sm p → sm q → q ≠ 0 → bq 400000 4400 p → bz 4400 q.num → Q (encQ (p / q)) n → div row n [encQ p, encQ q] Q
theorem RRa_div_l : RRa_div (lst RRa_div) := by
  unfold RRa_div
  intros
  intro G hG
  apply hG <;> assumption
def RRa_sgn (sgn : FnS) : Prop := ∀ row n p Q, Q (.int (RT.sgn p)) n → sgn row n [encQ p] Q
theorem RRa_sgn_l : RRa_sgn (lst RRa_sgn) := by
  unfold RRa_sgn
  intros
  intro G hG
  apply hG <;> assumption
def RRa_cmp (cmp : FnS) : Prop := ∀ row n p q Q, sm p → sm q → Q (.int (RT.sgn (p - q))) n → cmp row n [encQ p, encQ q] Q
theorem RRa_cmp_l : RRa_cmp (lst RRa_cmp) := by
  unfold RRa_cmp
  intros
  intro G hG
  apply hG <;> assumption
def RRa_lt (lt : FnS) : Prop := ∀ row n p q Q, sm p → sm q → Q (.bool (decide (p < q))) n → lt row n [encQ p, encQ q] Q
theorem RRa_lt_l : RRa_lt (lst RRa_lt) := by
  unfold RRa_lt
  intros
  intro G hG
  apply hG <;> assumption
def RRa_least (least : FnS) : Prop := ∀ row n (xs : List (Option Rat)) Q, (∀ v, some v ∈ xs → sm v) → Q (encO (leastM xs none)) n → least row n [encL encO xs] Q
theorem RRa_least_l : RRa_least (lst RRa_least) := by
  unfold RRa_least
  intros
  intro G hG
  apply hG <;> assumption
def RRa_great (great : FnS) : Prop := ∀ row n (xs : List (Option Rat)) Q, (∀ v, some v ∈ xs → sm v) → Q (encO (greatM xs none)) n → great row n [encL encO xs] Q
theorem RRa_great_l : RRa_great (lst RRa_great) := by
  unfold RRa_great
  intros
  intro G hG
  apply hG <;> assumption
def RRa_near (near : FnS) : Prop := ∀ row n lo hi Q, Q (encQ (nearM lo hi)) n → near row n [encO lo, encO hi] Q
theorem RRa_near_l : RRa_near (lst RRa_near) := by
  unfold RRa_near
  intros
  intro G hG
  apply hG <;> assumption
def iRa : RaS where
  cd := lst RRa_cd
  cd_i := RRa_cd_l
  fr := lst RRa_fr
  fr_i := RRa_fr_l
  add := lst RRa_add
  add_i := RRa_add_l
  neg := lst RRa_neg
  neg_i := RRa_neg_l
  sub := lst RRa_sub
  sub_i := RRa_sub_l
  mul := lst RRa_mul
  mul_i := RRa_mul_l
  div := lst RRa_div
  div_i := RRa_div_l
  sgn := lst RRa_sgn
  sgn_i := RRa_sgn_l
  cmp := lst RRa_cmp
  cmp_i := RRa_cmp_l
  lt := lst RRa_lt
  lt_i := RRa_lt_l
  least := lst RRa_least
  least_i := RRa_least_l
  great := lst RRa_great
  great_i := RRa_great_l
  near := lst RRa_near
  near_i := RRa_near_l
def RMp_em (em : FnS) : Prop := ∀ row n e Q, elOk e → Q (encM (elM e)) n → em row n [encE e] Q
theorem RMp_em_l : RMp_em (lst RMp_em) := by
  unfold RMp_em
  intros
  intro G hG
  apply hG <;> assumption
def RMp_wt (wt : FnS) : Prop := ∀ row n a b c d Q, sm a → sm b → sm c → sm d → sm (a * b) → sm (c * d) → Q (encQ (a * b + c * d)) n → wt row n [encQ a, encQ b, encQ c, encQ d] Q
theorem RMp_wt_l : RMp_wt (lst RMp_wt) := by
  unfold RMp_wt
  intros
  intro G hG
  apply hG <;> assumption
def RMp_ap (ap : FnS) : Prop := ∀ row n m x Q, bM 1000 m → bq 1000 1000 x.1 → bq 1000 1000 x.2 → Q (encR (apM m x)) n → ap row n [encM m, encR x] Q
theorem RMp_ap_l : RMp_ap (lst RMp_ap) := by
  unfold RMp_ap
  intros
  intro G hG
  apply hG <;> assumption
def RMp_co (co : FnS) : Prop := ∀ row n x y Q, bM 1000 x → bM 1000 y → Q (encM (coM x y)) n → co row n [encM x, encM y] Q
theorem RMp_co_l : RMp_co (lst RMp_co) := by
  unfold RMp_co
  intros
  intro G hG
  apply hG <;> assumption
def RMp_tr (tr : FnS) : Prop := ∀ row n t Q, trOk idM t → Q (encM (trM t)) n → tr row n [encL encE t] Q
theorem RMp_tr_l : RMp_tr (lst RMp_tr) := by
  unfold RMp_tr
  intros
  intro G hG
  apply hG <;> assumption
def iMp : MpS where
  ra := iRa
  em := lst RMp_em
  em_i := RMp_em_l
  wt := lst RMp_wt
  wt_i := RMp_wt_l
  ap := lst RMp_ap
  ap_i := RMp_ap_l
  co := lst RMp_co
  co_i := RMp_co_l
  tr := lst RMp_tr
  tr_i := RMp_tr_l
def ROr_crs (crs : FnS) : Prop := ∀ row n a b Q, bh 5000 a → bh 5000 b → Q (.int (crossH a b)) n → crs row n [encH a, encH b] Q
theorem ROr_crs_l : ROr_crs (lst ROr_crs) := by
  unfold ROr_crs
  intros
  intro G hG
  apply hG <;> assumption
def ROr_opp (opp : FnS) : Prop := ∀ row n a Q, Q (encH (oppH a)) n → opp row n [encH a] Q
theorem ROr_opp_l : ROr_opp (lst ROr_opp) := by
  unfold ROr_opp
  intros
  intro G hG
  apply hG <;> assumption
def ROr_rea (rea : FnS) : Prop := ∀ row n a Q, bh 5000 a → nz a → Q (encQ (reachH a)) n → rea row n [encH a] Q
theorem ROr_rea_l : ROr_rea (lst ROr_rea) := by
  unfold ROr_rea
  intros
  intro G hG
  apply hG <;> assumption
def ROr_hlf (hlf : FnS) : Prop := ∀ row n a Q, Q (.bool (half1 a)) n → hlf row n [encH a] Q
theorem ROr_hlf_l : ROr_hlf (lst ROr_hlf) := by
  unfold ROr_hlf
  intros
  intro G hG
  apply hG <;> assumption
def ROr_bef (bef : FnS) : Prop := ∀ row n a b Q, bh 4000 a → nz a → bh 4000 b → nz b → Q (.bool (beforeH a b)) n → bef row n [encH a, encH b] Q
theorem ROr_bef_l : ROr_bef (lst ROr_bef) := by
  unfold ROr_bef
  intros
  intro G hG
  apply hG <;> assumption
def ROr_ord (ord : FnS) : Prop := ∀ row n (L : List HP) Q, bhs 4000 L → L.length ≤ 1000 → Q (encL encH (ordH L)) n → ord row n [encL encH L] Q
theorem ROr_ord_l : ROr_ord (lst ROr_ord) := by
  unfold ROr_ord
  intros
  intro G hG
  apply hG <;> assumption
def iOr : OrS where
  mp := iMp
  crs := lst ROr_crs
  crs_i := ROr_crs_l
  opp := lst ROr_opp
  opp_i := ROr_opp_l
  rea := lst ROr_rea
  rea_i := ROr_rea_l
  hlf := lst ROr_hlf
  hlf_i := ROr_hlf_l
  bef := lst ROr_bef
  bef_i := ROr_bef_l
  ord := lst ROr_ord
  ord_i := ROr_ord_l
def RHp_mkh (mkh : FnS) : Prop := ∀ row n p q r Q, bq 2000 2000 p → bq 2000 2000 q → bq 2000 2000 r → (p ≠ 0 ∨ q ≠ 0) → Q (encH (mkH p q r)) n → mkh row n [encQ p, encQ q, encQ r] Q
theorem RHp_mkh_l : RHp_mkh (lst RHp_mkh) := by
  unfold RHp_mkh
  intros
  intro G hG
  apply hG <;> assumption
def RHp_ed (ed : FnS) : Prop := ∀ row n (i : Nat) lo hi m Q, bM 1000 m → (m.a ≠ 0 ∨ m.b ≠ 0) → (∀ v, lo = some v → bq 100 100 v) → (∀ v, hi = some v → bq 100 100 v) → Q (encL encGH (edgesM i lo hi m)) n → ed row n [.int i, encE (.stop lo hi), encM m] Q
theorem RHp_ed_l : RHp_ed (lst RHp_ed) := by
  unfold RHp_ed
  intros
  intro G hG
  apply hG <;> assumption
def RHp_hp (hp : FnS) : Prop := ∀ row n t Q, hpOk idM t → t.length ≤ 1000 → Q (encL encGH (hpM t)) n → hp row n [encL encE t] Q
theorem RHp_hp_l : RHp_hp (lst RHp_hp) := by
  unfold RHp_hp
  intros
  intro G hG
  apply hG <;> assumption
def RHp_va (va : FnS) : Prop := ∀ row n h x Q, bh 1700 h → bq 2000 1900 x.1 → bq 2000 1900 x.2 → Q (encQ (evH h x)) n → va row n [encH h, encR x] Q
theorem RHp_va_l : RHp_va (lst RHp_va) := by
  unfold RHp_va
  intros
  intro G hG
  apply hG <;> assumption
def RHp_has (has : FnS) : Prop := ∀ row n L x Q, (∀ h ∈ L, bh 1700 h) → bq 2000 1900 x.1 → bq 2000 1900 x.2 → Q (.bool (hasM L x)) n → has row n [encL encH L, encR x] Q
theorem RHp_has_l : RHp_has (lst RHp_has) := by
  unfold RHp_has
  intros
  intro G hG
  apply hG <;> assumption
def RHp_det (det : FnS) : Prop := ∀ row n a b Q, bh 5000 a → bh 5000 b → Q (.int (crossH a b)) n → det row n [encH a, encH b] Q
theorem RHp_det_l : RHp_det (lst RHp_det) := by
  unfold RHp_det
  intros
  intro G hG
  apply hG <;> assumption
def RHp_pro (pro : FnS) : Prop := ∀ row n a b Q, bh 5000 a → bh 5000 b → Q (.int (dotH a b)) n → pro row n [encH a, encH b] Q
theorem RHp_pro_l : RHp_pro (lst RHp_pro) := by
  unfold RHp_pro
  intros
  intro G hG
  apply hG <;> assumption
def iHp : HpS where
  od := iOr
  mkh := lst RHp_mkh
  mkh_i := RHp_mkh_l
  ed := lst RHp_ed
  ed_i := RHp_ed_l
  hp := lst RHp_hp
  hp_i := RHp_hp_l
  va := lst RHp_va
  va_i := RHp_va_l
  has := lst RHp_has
  has_i := RHp_has_l
  det := lst RHp_det
  det_i := RHp_det_l
  pro := lst RHp_pro
  pro_i := RHp_pro_l
def REm_ow (ow : FnS) : Prop := ∀ row n a b Q, bh 2000 a → bh 2000 b → nz a → Q (encW (oppW a b)) n → ow row n [encH a, encH b] Q
theorem REm_ow_l : REm_ow (lst REm_ow) := by
  unfold REm_ow
  intros
  intro G hG
  apply hG <;> assumption
def REm_tw (tw : FnS) : Prop := ∀ row n a b c Q, bh 2000 a → bh 2000 b → bh 2000 c → Q (encW (triW a b c)) n → tw row n [encH a, encH b, encH c] Q
theorem REm_tw_l : REm_tw (lst REm_tw) := by
  unfold REm_tw
  intros
  intro G hG
  apply hG <;> assumption
def REm_os (os : FnS) : Prop := ∀ row n L Q, bhs 2000 L → L.length ≤ 40 → Q (encL encZ (setsM L)) n → os row n [encL encH L] Q
theorem REm_os_l : REm_os (lst REm_os) := by
  unfold REm_os
  intros
  intro G hG
  apply hG <;> assumption
def REm_no (no : FnS) : Prop := ∀ row n L ix ws Q, (∀ h ∈ L, bh 2000 h) → (∀ i ∈ ix, i < L.length) → (∀ w ∈ ws, bz 5000 w) → Q (.int (numM L ix ws)) n → no row n [encL encH L, encI ix, .tuple (ws.map PyData.int)] Q
theorem REm_no_l : REm_no (lst REm_no) := by
  unfold REm_no
  intros
  intro G hG
  apply hG <;> assumption
def REm_em (em : FnS) : Prop := ∀ row n L Q, bhs 2000 L → L.length ≤ 40 → Q (.bool (empM L)) n → em row n [encL encH L] Q
theorem REm_em_l : REm_em (lst REm_em) := by
  unfold REm_em
  intros
  intro G hG
  apply hG <;> assumption
def iEm : EmS where
  hp := iHp
  ow := lst REm_ow
  ow_i := REm_ow_l
  tw := lst REm_tw
  tw_i := REm_tw_l
  os := lst REm_os
  os_i := REm_os_l
  no := lst REm_no
  no_i := REm_no_l
  em := lst REm_em
  em_i := REm_em_l
def RSu_sg (sg : FnS) : Prop := ∀ row n (H b : Nat) h p q Q, H + b ≤ 2190 → bh H h → nz h → bq 10000 b p → bq 10000 b q → Q (encO (sglM h p q)) n → sg row n [encH h, encQ p, encQ q] Q
theorem RSu_sg_l : RSu_sg (lst RSu_sg) := by
  unfold RSu_sg
  intros
  intro G hG
  apply hG <;> assumption
def RSu_pw (pw : FnS) : Prop := ∀ row n (H b : Nat) g h p q Q, H + b ≤ 2190 → bh H g → bh H h → bq 10000 b p → bq 10000 b q → Q (encX (pwM g h p q)) n → pw row n [encH g, encH h, encQ p, encQ q] Q
theorem RSu_pw_l : RSu_pw (lst RSu_pw) := by
  unfold RSu_pw
  intros
  intro G hG
  apply hG <;> assumption
def RSu_pb (pb : FnS) : Prop := ∀ row n (H b : Nat) g h p q Q, H + b ≤ 2190 → bh H g → bh H h → bq 10000 b p → bq 10000 b q → Q (encO (prM g h p q)) n → pb row n [encH g, encH h, encQ p, encQ q] Q
theorem RSu_pb_l : RSu_pb (lst RSu_pb) := by
  unfold RSu_pb
  intros
  intro G hG
  apply hG <;> assumption
def RSu_su (su : FnS) : Prop := ∀ row n (H b : Nat) L p q Q, DirOk H b L p q → Q (encO (supM L p q)) n → su row n [encL encH L, encQ p, encQ q] Q
theorem RSu_su_l : RSu_su (lst RSu_su) := by
  unfold RSu_su
  intros
  intro G hG
  apply hG <;> assumption
def RSu_inf (inf : FnS) : Prop := ∀ row n (H b : Nat) L p q Q, DirOk H b L p q → Q (encO (infM L p q)) n → inf row n [encL encH L, encQ p, encQ q] Q
theorem RSu_inf_l : RSu_inf (lst RSu_inf) := by
  unfold RSu_inf
  intros
  intro G hG
  apply hG <;> assumption
def RSu_dr (dr : FnS) : Prop := ∀ row n (H b : Nat) L p q Q, DirOk H b L p q → Q (encDR (drM L p q)) n → dr row n [encL encH L, encQ p, encQ q] Q
theorem RSu_dr_l : RSu_dr (lst RSu_dr) := by
  unfold RSu_dr
  intros
  intro G hG
  apply hG <;> assumption
def RSu_li (li : FnS) : Prop := ∀ row n L Q, bhs 2000 L → L.length ≤ 40 → Q (encOH (lineM L L)) n → li row n [encL encH L] Q
theorem RSu_li_l : RSu_li (lst RSu_li) := by
  unfold RSu_li
  intros
  intro G hG
  apply hG <;> assumption
def RSu_ki (ki : FnS) : Prop := ∀ row n L Q, bhs 2000 L → L.length ≤ 40 → Q (.str (kdS (kindM L))) n → ki row n [encL encH L] Q
theorem RSu_ki_l : RSu_ki (lst RSu_ki) := by
  unfold RSu_ki
  intros
  intro G hG
  apply hG <;> assumption
def iSu : SuS where
  em := iEm
  sg := lst RSu_sg
  sg_i := RSu_sg_l
  pw := lst RSu_pw
  pw_i := RSu_pw_l
  pb := lst RSu_pb
  pb_i := RSu_pb_l
  su := lst RSu_su
  su_i := RSu_su_l
  inf := lst RSu_inf
  inf_i := RSu_inf_l
  dr := lst RSu_dr
  dr_i := RSu_dr_l
  li := lst RSu_li
  li_i := RSu_li_l
  ki := lst RSu_ki
  ki_i := RSu_ki_l
def RSm_smp (smp : FnS) : Prop := ∀ row n (H : Nat) L Q, bhs H L → H ≤ 990 → L.length ≤ 36 → (empM L = false → smpM L ≠ none) → Q (encX (smpM L)) n → smp row n [encL encH L] Q
theorem RSm_smp_l : RSm_smp (lst RSm_smp) := by
  unfold RSm_smp
  intros
  intro G hG
  apply hG <;> assumption
def RSm_imp (imp : FnS) : Prop := ∀ row n L h Q, bhs 2000 L → L.length ≤ 40 → bh 2000 h → Q (.bool (impM L h)) n → imp row n [encL encH L, encH h] Q
theorem RSm_imp_l : RSm_imp (lst RSm_imp) := by
  unfold RSm_imp
  intros
  intro G hG
  apply hG <;> assumption
def iSm : SmS where
  su := iSu
  smp := lst RSm_smp
  smp_i := RSm_smp_l
  imp := lst RSm_imp
  imp_i := RSm_imp_l
def RCa_pl (pl : FnS) : Prop := ∀ row n t Q, hpOk idM t → t.length ≤ 1000 → Q (encL encH (plM t)) n → pl row n [encL encE t] Q
theorem RCa_pl_l : RCa_pl (lst RCa_pl) := by
  unfold RCa_pl
  intros
  intro G hG
  apply hG <;> assumption
def RCa_ne (ne : FnS) : Prop := ∀ row n L Q, bhs 2000 L → L.length ≤ 40 → Q (encL encH (neeM L)) n → ne row n [encL encH L] Q
theorem RCa_ne_l : RCa_ne (lst RCa_ne) := by
  unfold RCa_ne
  intros
  intro G hG
  apply hG <;> assumption
def RCa_ca (ca : FnS) : Prop := ∀ row n L Q, bhs 2000 L → L.length ≤ 40 → lineM L L ≠ none → Q (encH (carM L)) n → ca row n [encL encH L] Q
theorem RCa_ca_l : RCa_ca (lst RCa_ca) := by
  unfold RCa_ca
  intros
  intro G hG
  apply hG <;> assumption
def RCa_lp (lp : FnS) : Prop := ∀ row n H L Q, bhs H L → H ≤ 500 → L.length ≤ 40 → lineM L L ≠ none → Q (encL encH (lpM L)) n → lp row n [encL encH L] Q
theorem RCa_lp_l : RCa_lp (lst RCa_lp) := by
  unfold RCa_lp
  intros
  intro G hG
  apply hG <;> assumption
def RCa_pp (pp : FnS) : Prop := ∀ row n x Q, bq 900 900 x.1 → bq 900 900 x.2 → Q (encL encH (ppM x)) n → pp row n [encR x] Q
theorem RCa_pp_l : RCa_pp (lst RCa_pp) := by
  unfold RCa_pp
  intros
  intro G hG
  apply hG <;> assumption
def iCa : CaS where
  sm := iSm
  pl := lst RCa_pl
  pl_i := RCa_pl_l
  ne := lst RCa_ne
  ne_i := RCa_ne_l
  ca := lst RCa_ca
  ca_i := RCa_ca_l
  lp := lst RCa_lp
  lp_i := RCa_lp_l
  pp := lst RCa_pp
  pp_i := RCa_pp_l
def RCb_ch (ch : FnS) : Prop := ∀ row n L Q, LOk 200 L → Q (encL encH (chM L)) n → ch row n [encL encH L] Q
theorem RCb_ch_l : RCb_ch (lst RCb_ch) := by
  unfold RCb_ch
  intros
  intro G hG
  apply hG <;> assumption
def RCb_br (br : FnS) : Prop := ∀ row n L Q, LOk 200 L → Q (encL encR (brM L)) n → br row n [encL encH L] Q
theorem RCb_br_l : RCb_br (lst RCb_br) := by
  unfold RCb_br
  intros
  intro G hG
  apply hG <;> assumption
def RCb_cf (cf : FnS) : Prop := ∀ row n t Q, CfOk t → Q (encC (cfM t)) n → cf row n [encL encE t] Q
theorem RCb_cf_l : RCb_cf (lst RCb_cf) := by
  unfold RCb_cf
  intros
  intro G hG
  apply hG <;> assumption
def RCb_ae (ae : FnS) : Prop := ∀ row n t u Q, CfOk t → CfOk u → Q (.bool (decide (cfM t = cfM u))) n → ae row n [encL encE t, encL encE u] Q
theorem RCb_ae_l : RCb_ae (lst RCb_ae) := by
  unfold RCb_ae
  intros
  intro G hG
  apply hG <;> assumption
def iCb : CbS where
  ca := iCa
  ch := lst RCb_ch
  ch_i := RCb_ch_l
  br := lst RCb_br
  br_i := RCb_br_l
  cf := lst RCb_cf
  cf_i := RCb_cf_l
  ae := lst RCb_ae
  ae_i := RCb_ae_l
def RSi_wo (wo : FnS) : Prop := ∀ row n (t : List El) (e : Edge) lo hi Q, e.1 < t.length → t[e.1]? = some (.stop lo hi) → t.length ≤ 1000 → Q (encL encE (woM t e)) n → wo row n [encL encE t, encG e] Q
theorem RSi_wo_l : RSi_wo (lst RSi_wo) := by
  unfold RSi_wo
  intros
  intro G hG
  apply hG <;> assumption
def RSi_rd (rd : FnS) : Prop := ∀ row n (t : List El) (e : Edge) lo hi h Q, e.1 < t.length → t[e.1]? = some (.stop lo hi) → CfOk (woM t e) → bh 2000 h → t.length ≤ 1000 → Q (.bool (redM t e h)) n → rd row n [encL encE t, encG e, encH h] Q
theorem RSi_rd_l : RSi_rd (lst RSi_rd) := by
  unfold RSi_rd
  intros
  intro G hG
  apply hG <;> assumption
def iSi : SiS where
  cb := iCb
  wo := lst RSi_wo
  wo_i := RSi_wo_l
  rd := lst RSi_rd
  rd_i := RSi_rd_l
def RSj_re (re : FnS) : Prop := ∀ row n t Q, ReOk t → Q (encL encG (reM t)) n → re row n [encL encE t] Q
theorem RSj_re_l : RSj_re (lst RSj_re) := by
  unfold RSj_re
  intros
  intro G hG
  apply hG <;> assumption
def iSj : SjS where
  si := iSi
  re := lst RSj_re
  re_i := RSj_re_l
def RSk_sim (sim : FnS) : Prop := ∀ row n (P : List El → Prop) t Q, (∀ t, P t → ReOk t ∧ ∀ e ∈ reM t, P (woM t e)) → P t → Q (encL encE (simM t)) n → sim row n [encL encE t] Q
theorem RSk_sim_l : RSk_sim (lst RSk_sim) := by
  unfold RSk_sim
  intros
  intro G hG
  apply hG <;> assumption
def iSk : SkS where
  sj := iSj
  sim := lst RSk_sim
  sim_i := RSk_sim_l
def RSh_me (me : FnS) : Prop := ∀ row n a b Q, bh 1600 a → bh 1600 b → Q (encX (meetM a b)) n → me row n [encH a, encH b] Q
theorem RSh_me_l : RSh_me (lst RSh_me) := by
  unfold RSh_me
  intros
  intro G hG
  apply hG <;> assumption
def RSh_ib (ib : FnS) : Prop := ∀ row n x y Q, (bq 4000 4000 x.1 ∧ bq 4000 4000 x.2) → (bq 4000 4000 y.1 ∧ bq 4000 4000 y.2) → Q (.bool (rbM x y)) n → ib row n [encR x, encR y] Q
theorem RSh_ib_l : RSh_ib (lst RSh_ib) := by
  unfold RSh_ib
  intros
  intro G hG
  apply hG <;> assumption
def RSh_pu (pu : FnS) : Prop := ∀ row n (l : List Ray) x Q, (∀ y ∈ l, bq 4000 4000 y.1 ∧ bq 4000 4000 y.2) → (bq 4000 4000 x.1 ∧ bq 4000 4000 x.2) → l.length ≤ 3000 → Q (encL encR (putM l x)) n → pu row n [encL encR l, encR x] Q
theorem RSh_pu_l : RSh_pu (lst RSh_pu) := by
  unfold RSh_pu
  intros
  intro G hG
  apply hG <;> assumption
def iSh : ShS where
  em := iEm
  me := lst RSh_me
  me_i := RSh_me_l
  ib := lst RSh_ib
  ib_i := RSh_ib_l
  pu := lst RSh_pu
  pu_i := RSh_pu_l
def RTe_sa (sa : FnS) : Prop := ∀ row n L p q v Q, bhs 990 (L ++ lnP p q v) → L.length ≤ 34 → bq 2000 2000 p → bq 2000 2000 q → bq 2000 2000 v → (p ≠ 0 ∨ q ≠ 0) → Q (encX (satM L p q v)) n → sa row n [encL encH L, encQ p, encQ q, encQ v] Q
theorem RTe_sa_l : RTe_sa (lst RTe_sa) := by
  unfold RTe_sa
  intros
  intro G hG
  apply hG <;> assumption
def RTe_ov (ov : FnS) : Prop := ∀ row n L h Q, bhs 200 L → L.length ≤ 34 → bh 200 h → Q (encO (ovM L h)) n → ov row n [encL encH L, encH h] Q
theorem RTe_ov_l : RTe_ov (lst RTe_ov) := by
  unfold RTe_ov
  intros
  intro G hG
  apply hG <;> assumption
def RTe_ro (ro : FnS) : Prop := ∀ row n L M Q, bhs 200 L → L.length ≤ 34 → bhs 200 M → Q (encX (roM L M)) n → ro row n [encL encH L, encL encH M] Q
theorem RTe_ro_l : RTe_ro (lst RTe_ro) := by
  unfold RTe_ro
  intros
  intro G hG
  apply hG <;> assumption
def RTe_ot (ot : FnS) : Prop := ∀ row n L p q t Q, bhs 200 L → L.length ≤ 34 → CD3 p q t → Q (encO (othM L p q t)) n → ot row n [encL encH L, encQ p, encQ q, encQ t] Q
theorem RTe_ot_l : RTe_ot (lst RTe_ot) := by
  unfold RTe_ot
  intros
  intro G hG
  apply hG <;> assumption
def RTe_di (di : FnS) : Prop := ∀ row n L p q t Q, bhs 200 L → L.length ≤ 34 → CD3 p q t → Q (encX (difM L p q t)) n → di row n [encL encH L, encQ p, encQ q, encQ t] Q
theorem RTe_di_l : RTe_di (lst RTe_di) := by
  unfold RTe_di
  intros
  intro G hG
  apply hG <;> assumption
def iTe : TeS where
  ca := iCa
  sa := lst RTe_sa
  sa_i := RTe_sa_l
  ov := lst RTe_ov
  ov_i := RTe_ov_l
  ro := lst RTe_ro
  ro_i := RTe_ro_l
  ot := lst RTe_ot
  ot_i := RTe_ot_l
  di := lst RTe_di
  di_i := RTe_di_l
def RLw_fra (fra : FnS) : Prop := ∀ row n a b Q, b ≠ 0 → bz 8999 b → Q (encQ ((a : Rat) / (b : Rat))) n → fra row n [.int a, .int b] Q
theorem RLw_fra_l : RLw_fra (lst RLw_fra) := by
  unfold RLw_fra
  intros
  intro G hG
  apply hG <;> assumption
def RLw_add (add : FnS) : Prop := ∀ row n p q Q, sm p → sm q → Q (encQ (p + q)) n → add row n [encQ p, encQ q] Q
theorem RLw_add_l : RLw_add (lst RLw_add) := by
  unfold RLw_add
  intros
  intro G hG
  apply hG <;> assumption
def RLw_neg (neg : FnS) : Prop := ∀ row n p Q, Q (encQ (-p)) n → neg row n [encQ p] Q
theorem RLw_neg_l : RLw_neg (lst RLw_neg) := by
  unfold RLw_neg
  intros
  intro G hG
  apply hG <;> assumption
def RLw_sub (sub : FnS) : Prop := ∀ row n p q Q, sm p → sm q → Q (encQ (p - q)) n → sub row n [encQ p, encQ q] Q
theorem RLw_sub_l : RLw_sub (lst RLw_sub) := by
  unfold RLw_sub
  intros
  intro G hG
  apply hG <;> assumption
def RLw_mul (mul : FnS) : Prop := ∀ row n p q Q, sm p → sm q → Q (encQ (p * q)) n → mul row n [encQ p, encQ q] Q
theorem RLw_mul_l : RLw_mul (lst RLw_mul) := by
  unfold RLw_mul
  intros
  intro G hG
  apply hG <;> assumption
def RLw_div (div : FnS) : Prop := ∀ row n p q Q, sm p → sm q → q ≠ 0 → bq 400000 4400 p → bz 4400 q.num → Q (encQ (p / q)) n → div row n [encQ p, encQ q] Q
theorem RLw_div_l : RLw_div (lst RLw_div) := by
  unfold RLw_div
  intros
  intro G hG
  apply hG <;> assumption
def RLw_les (les : FnS) : Prop := ∀ row n p q Q, sm p → sm q → Q (.bool (decide (p < q))) n → les row n [encQ p, encQ q] Q
theorem RLw_les_l : RLw_les (lst RLw_les) := by
  unfold RLw_les
  intros
  intro G hG
  apply hG <;> assumption
def iLw : LwS where
  fra := lst RLw_fra
  fra_i := RLw_fra_l
  add := lst RLw_add
  add_i := RLw_add_l
  neg := lst RLw_neg
  neg_i := RLw_neg_l
  sub := lst RLw_sub
  sub_i := RLw_sub_l
  mul := lst RLw_mul
  mul_i := RLw_mul_l
  div := lst RLw_div
  div_i := RLw_div_l
  les := lst RLw_les
  les_i := RLw_les_l
def RDr_cell (cell : FnS) : Prop := ∀ row n (ns : List Int) (k : Nat) Q, (∀ v, Q (.int v) n) → cell row n [.list (ns.map PyData.int), .int k] Q
theorem RDr_cell_l : RDr_cell (lst RDr_cell) := by
  unfold RDr_cell
  intros
  intro G hG
  apply hG <;> assumption
def RDr_rw (rw : FnS) : Prop := ∀ row n c (k : Nat) Q, k ≤ 1000 → (∀ vs : List Int, vs.length ≤ 60 → Q (.list (vs.map PyData.int)) n) → rw row n [.int c, .int k, .int 12] Q
theorem RDr_rw_l : RDr_rw (lst RDr_rw) := by
  unfold RDr_rw
  intros
  intro G hG
  apply hG <;> assumption
def iDr : DrS where
  cell := lst RDr_cell
  cell_i := RDr_cell_l
  rw := lst RDr_rw
  rw_i := RDr_rw_l
def RRn_dr (dr : FnS) : Prop := ∀ row n m Q, 0 ≤ n → n ≤ 10000 → 0 < m → (∀ v, 0 ≤ v → v < m → Q (.int v) (n + 1)) → dr row n [.dict [], .int m] Q
theorem RRn_dr_l : RRn_dr (lst RRn_dr) := by
  unfold RRn_dr
  intros
  intro G hG
  apply hG <;> assumption
def RRn_fr (fr : FnS) : Prop := ∀ row n Q, 0 ≤ n → n ≤ 9000 → (∀ q, frq q → Q (encQ q) (n + 2)) → fr row n [.dict []] Q
theorem RRn_fr_l : RRn_fr (lst RRn_fr) := by
  unfold RRn_fr
  intros
  intro G hG
  apply hG <;> assumption
def RRn_nz (nz : FnS) : Prop := ∀ row n Q, 0 ≤ n → n ≤ 9000 → (∀ q, frq q → q ≠ 0 → Q (encQ q) (n + 2)) → nz row n [.dict []] Q
theorem RRn_nz_l : RRn_nz (lst RRn_nz) := by
  unfold RRn_nz
  intros
  intro G hG
  apply hG <;> assumption
def RRn_st (st : FnS) : Prop := ∀ row n Q, 0 ≤ n → n ≤ 8000 → (∀ lo hi, elV (.stop lo hi) → Q (encE (.stop lo hi)) (n + 4)) → st row n [.dict []] Q
theorem RRn_st_l : RRn_st (lst RRn_st) := by
  unfold RRn_st
  intros
  intro G hG
  apply hG <;> assumption
def RRn_el (el : FnS) : Prop := ∀ row n Q, 0 ≤ n → n ≤ 7000 → (∀ e n', elF e → n ≤ n' → n' ≤ n + 6 → Q (encE e) n') → el row n [.dict []] Q
theorem RRn_el_l : RRn_el (lst RRn_el) := by
  unfold RRn_el
  intros
  intro G hG
  apply hG <;> assumption
def iRn : RnS where
  lw := iLw
  dr := lst RRn_dr
  dr_i := RRn_dr_l
  fr := lst RRn_fr
  fr_i := RRn_fr_l
  nz := lst RRn_nz
  nz_i := RRn_nz_l
  st := lst RRn_st
  st_i := RRn_st_l
  el := lst RRn_el
  el_i := RRn_el_l
def REx_tr (tr : FnS) : Prop := ∀ row n (m : Nat) Q, 0 ≤ n → n ≤ 1000 → m ≤ 10 → (∀ t n', elFs t → t.length ≤ m → n ≤ n' → n' ≤ n + 100 → Q (encL encE t) n') → tr row n [.dict [], .int m] Q
theorem REx_tr_l : REx_tr (lst REx_tr) := by
  unfold REx_tr
  intros
  intro G hG
  apply hG <;> assumption
def REx_go (go : FnS) : Prop := ∀ row n e x (k : Nat) Q, elV e → cr k x → k ≤ 4350 → Q (encR (apM (elM e) x)) n → go row n [encE e, encR x] Q
theorem REx_go_l : REx_go (lst REx_go) := by
  unfold REx_go
  intros
  intro G hG
  apply hG <;> assumption
def REx_bk (bk : FnS) : Prop := ∀ row n e x (k : Nat) Q, elV e → cr k x → k ≤ 4350 → Q (.bool (blkM e x)) n → bk row n [encE e, encR x] Q
theorem REx_bk_l : REx_bk (lst REx_bk) := by
  unfold REx_bk
  intros
  intro G hG
  apply hG <;> assumption
def REx_ex (ex : FnS) : Prop := ∀ row n t x (k : Nat) Q, elVs t → cr k x → k + 13 * t.length ≤ 4300 → Q (encX (exM t x)) n → ex row n [encL encE t, encR x] Q
theorem REx_ex_l : REx_ex (lst REx_ex) := by
  unfold REx_ex
  intros
  intro G hG
  apply hG <;> assumption
def REx_ot (ot : FnS) : Prop := ∀ row n t Q, 0 ≤ n → n ≤ 2000 → elFs t → t.length ≤ 5 → (∀ u n', elVs u → u.length ≤ 15 → n ≤ n' → n' ≤ n + 100 → Q (encL encE u) n') → ot row n [.dict [], encL encE t] Q
theorem REx_ot_l : REx_ot (lst REx_ot) := by
  unfold REx_ot
  intros
  intro G hG
  apply hG <;> assumption
def iEx : ExS where
  rn := iRn
  tr := lst REx_tr
  tr_i := REx_tr_l
  go := lst REx_go
  go_i := REx_go_l
  bk := lst REx_bk
  bk_i := REx_bk_l
  ex := lst REx_ex
  ex_i := REx_ex_l
  ot := lst REx_ot
  ot_i := REx_ot_l
def RLa_cor (cor : FnS) : Prop := ∀ row n L Q, (∀ h ∈ L, bh 200 h) → L.length ≤ 40 → Q (encL encR (cornM L L [])) n → cor row n [encL encH L] Q
theorem RLa_cor_l : RLa_cor (lst RLa_cor) := by
  unfold RLa_cor
  intros
  intro G hG
  apply hG <;> assumption
def RLa_ds (ds : FnS) : Prop := ∀ row n t u Q, CfOk t → CfOk u → bhs 200 (plM t) → bhs 200 (plM u) → (plM t).length ≤ 34 → (plM u).length ≤ 34 → CD3 ((trM t).a - (trM u).a) ((trM t).b - (trM u).b) ((trM t).e - (trM u).e) → CD3 ((trM t).c - (trM u).c) ((trM t).d - (trM u).d) ((trM t).f - (trM u).f) → Q (encX (disM t u)) n → ds row n [encL encE t, encL encE u] Q
theorem RLa_ds_l : RLa_ds (lst RLa_ds) := by
  unfold RLa_ds
  intros
  intro G hG
  apply hG <;> assumption
def iLa : LaS where
  ex := iEx
  cb := iCb
  cor := lst RLa_cor
  cor_i := RLa_cor_l
  ds := lst RLa_ds
  ds_i := RLa_ds_l
  sim := iSk.sim
  sim_i := iSk.sim_i
end RT
namespace RT
open PySem PySem.Spec PyProof.Rows L2 Hd0
/-! ### defs by name, from the head's facts -/
def genN : List Str := ["triple_weights", "contains_ray", "is_empty"]
/-- what the head says -/
structure Hd (fn : List He.DefD) (K : PySem.W.Frag) (mg : Str → Option Value) (base : Heap) (T : List Addr) : Prop where
  blt : ∀ f ∈ bltNames, mg f = none
  kon : ∀ x d, konD x = some d → ∃ v u, mg x = some u ∧ RelV v u ∧ ∀ Vw, Dq K Vw v d
  dfn : ∀ (k : Nat) (d : He.DefD), fn[k]? = some d → ∃ fd, FunD K d.name d.qual d.params d.body d.scope (d.dvs K) (d.kws K) (He.fAd K d.at_) fd ∧ mg d.name = some (.ref (He.fAd K d.at_)) ∧
    (d.name ∈ genN → ∃ c P', fd.code = .ref c ∧ GxR.TabB base mg c P' ∧ P' ∈ T)
def EntOk (P : Program) (w : World) (K : PySem.W.Frag) (mg : Str → Option Value) (base : Heap) (T : List Addr) (lev : Nat) (F : Fi) : Prop :=
  ∀ m, m ≤ F.ar → F.ar - m ≤ F.df.length → ∃ (f : Addr) (fd : FuncData) (ps : List Str) (dvs : List V) (ds : List Value),
    FnOk P w K mg base CX0 lev f fd ps (spD K T F.ar F.S) ∧ mg F.name = some (.ref f) ∧ PySem.W.keepIn K (.ref f) = true ∧ Binds K fd ps ds ∧ Vals dvs ds ∧
    (∀ Vw, DqAll K Vw dvs (F.df.drop (F.df.length - (F.ar - m)))) ∧ m + dvs.length = F.ar
section
variable {P : Program} {w : World} {K : PySem.W.Frag} {mg : Str → Option Value} {base : Heap} {T : List Addr} {fn : List He.DefD}
theorem ent_mono {j k : Nat} {F : Fi} (h : EntOk P w K mg base T j F) (hjk : j ≤ k := by decide) : EntOk P w K mg base T k F := fun m h1 h2 => by
  obtain ⟨f, fd, ps, dvs, ds, a, r⟩ := h m h1 h2
  exact ⟨f, fd, ps, dvs, ds, a.mono hjk, r⟩
abbrev Ents (P : Program) (w : World) (K : PySem.W.Frag) (mg : Str → Option Value) (base : Heap) (T : List Addr) (lev : Nat) (cs : List Fi) : Prop := ∀ F ∈ cs, EntOk P w K mg base T lev F
theorem ents_nil {lev : Nat} : Ents P w K mg base T lev [] := fun F hF => by cases hF
theorem ents_cons {lev : Nat} {F : Fi} {cs : List Fi} (h : EntOk P w K mg base T lev F) (r : Ents P w K mg base T lev cs) : Ents P w K mg base T lev (F :: cs) := fun G hG => by
  rcases List.mem_cons.mp hG with rfl | hG
  · exact h
  · exact r G hG
theorem findF_mem {g : Str} {F : Fi} : ∀ {cs : List Fi}, findF g cs = some F → F ∈ cs ∧ F.name = g
  | [], h => by cases h
  | f :: r, h => by
    unfold findF at h
    split at h
    · rename_i e
      cases h
      exact ⟨List.mem_cons_self .., eq_of_beq e⟩
    · obtain ⟨a, b⟩ := findF_mem h
      exact ⟨List.mem_cons_of_mem _ a, b⟩
theorem call_of {N : List Str} {own : Option Nat} {cs : List Fi} {gens : Bool} {lev : Nat} {row : List Int} (h : Ents P w K mg base T lev cs) : ∀ g S m, (mkC N own cs konD gens T lev row).G g = some S → (mkC N own cs konD gens T lev row).ar g m = true → CalleeAt P w K mg base (mkC N own cs konD gens T lev row) g S m := by
  intro g S m hG ha
  have hG : (findF g cs).map (·.S) = some S := hG
  have ha : (match findF g cs with
    | some f => decide (m ≤ f.ar) && decide (f.ar - m ≤ f.df.length)
    | none => false) = true := ha
  cases q : findF g cs with
  | none => rw [q] at hG; cases hG
  | some F =>
    rw [q] at hG ha
    cases hG
    obtain ⟨hm, hn⟩ := findF_mem q
    obtain ⟨a1, a2⟩ := Bool.and_eq_true_iff.mp ha
    obtain ⟨f, fd, ps, dvs, ds, r1, r2, r3, r4, r5, r6, r7⟩ := h F hm m (of_decide_eq_true a1) (of_decide_eq_true a2)
    refine ⟨f, fd, ps, F.ar, dvs, ds, r1, ?_, r3, r4, r5, fun Vw => ?_, r7⟩
    · rw [← hn]; exact r2
    · have e : (mkC N own cs konD gens T lev row).dfl g m = F.df.drop (F.df.length - (F.ar - m)) := by
        show (match findF g cs with
          | some f => f.df.drop (f.df.length - (f.ar - m))
          | none => []) = _
        rw [q]
      rw [e]
      exact r6 Vw
/-- a def without defaults -/
theorem ent_of (hd : Hd fn K mg base T) (k i : Nat) (x : Str) (N ps : List Str) (own : Option Nat) (cs : List Fi) (gens : Bool) (lev : Nat) (S : FnS) (hk : fn[k]? = some (mkD i x [])) (hs : FnScope N ps (defScope (top i)))
    (hb : ∀ (kV doc pm : Value) (an : Option Addr) (cdv ct : Value) (us : List Value), us.length = ps.length → bindArgs (PySem.W.fnOf x x (defArgs (top i)) (defBody (top i)) (defScope (top i)) .none kV doc pm an cdv ct) ⟨us, []⟩ = pure (ps.zip us))
    (hcs : Ents P w K mg base T lev cs) (hg : gens = true → x ∈ genN) (hS : ∀ row n ds Qd, S row n ds Qd → W i N own cs gens T lev row ds n Qd) : EntOk P w K mg base T (lev + 13) ⟨x, S, ps.length, []⟩ := fun m h1 h2 => by
  obtain ⟨fd, F, hm, hgen⟩ := hd.dfn k _ hk
  have ok := fn_ok (P := P) (w := w) (base := base) (C := mkC N own cs konD gens T lev []) (S := S) 12 F hs (call_of hcs) hd.kon hd.blt (fun h => hgen (hg h)) fun row n ds Qd _ h => hS row n ds Qd h
  have h2 : ps.length - m ≤ 0 := h2
  have h1 : m ≤ ps.length := h1
  exact ⟨_, fd, ps, [], [], ok, hm, F.kp, FunD.bindsN F hb,   .nil, fun Vw => (by show DqAll K Vw [] (List.drop _ ([] : List D)); rw [List.drop_nil]; exact .nil), by show m + 0 = ps.length; omega⟩
end
end RT
namespace RT
open PySem PySem.Spec PyProof.Rows L2 Hd0

theorem k_3 (T : List Addr) (lev : Nat) : RRa_cd (fun row n ds Q => W 3 ["first", "second", "one", "other"] none [] false T lev row ds n Q) := by
  unfold RRa_cd
  intros
  apply w_cd <;> assumption
theorem k_4 (T : List Addr) (lev : Nat) : RRa_fr (fun row n ds Q => W 4 ["numerator", "denominator", "divisor"] none [⟨"common_divisor", iRa.cd, 2, []⟩] false T lev row ds n Q) := by
  unfold RRa_fr
  intros
  apply w_fr (F := iRa) <;> assumption
theorem k_5 (T : List Addr) (lev : Nat) : RRa_add (fun row n ds Q => W 5 ["first", "second"] none [⟨"fraction", iRa.fr, 2, [.int 1]⟩] false T lev row ds n Q) := by
  unfold RRa_add
  intros
  apply w_add (F := iRa) <;> assumption
theorem k_6 (T : List Addr) (lev : Nat) : RRa_neg (fun row n ds Q => W 6 ["value"] none [] false T lev row ds n Q) := by
  unfold RRa_neg
  intros
  apply w_neg <;> assumption
theorem k_7 (T : List Addr) (lev : Nat) : RRa_sub (fun row n ds Q => W 7 ["first", "second"] none [⟨"add", iRa.add, 2, []⟩, ⟨"negative", iRa.neg, 1, []⟩] false T lev row ds n Q) := by
  unfold RRa_sub
  intros
  apply w_sub (F := iRa) <;> assumption
theorem k_8 (T : List Addr) (lev : Nat) : RRa_mul (fun row n ds Q => W 8 ["first", "second"] none [⟨"fraction", iRa.fr, 2, [.int 1]⟩] false T lev row ds n Q) := by
  unfold RRa_mul
  intros
  apply w_mul (F := iRa) <;> assumption
theorem k_9 (T : List Addr) (lev : Nat) : RRa_div (fun row n ds Q => W 9 ["first", "second"] none [⟨"fraction", iRa.fr, 2, [.int 1]⟩] false T lev row ds n Q) := by
  unfold RRa_div
  intros
  apply w_div (F := iRa) <;> assumption
theorem k_10 (T : List Addr) (lev : Nat) : RRa_sgn (fun row n ds Q => W 10 ["value"] none [] false T lev row ds n Q) := by
  unfold RRa_sgn
  intros
  apply w_sgn <;> assumption
theorem k_11 (T : List Addr) (lev : Nat) : RRa_cmp (fun row n ds Q => W 11 ["first", "second"] none [⟨"sign", iRa.sgn, 1, []⟩, ⟨"subtract", iRa.sub, 2, []⟩] false T lev row ds n Q) := by
  unfold RRa_cmp
  intros
  apply w_cmp (F := iRa) <;> assumption
theorem k_12 (T : List Addr) (lev : Nat) : RRa_lt (fun row n ds Q => W 12 ["first", "second"] none [⟨"compare", iRa.cmp, 2, []⟩] false T lev row ds n Q) := by
  unfold RRa_lt
  intros
  apply w_lt (F := iRa) <;> assumption
theorem k_13 (T : List Addr) (lev : Nat) : RRa_least (fun row n ds Q => W 13 ["values", "best", "value"] none [⟨"is_less", iRa.lt, 2, []⟩] false T lev row ds n Q) := by
  unfold RRa_least
  intros
  apply w_least (F := iRa) <;> assumption
theorem k_14 (T : List Addr) (lev : Nat) : RRa_great (fun row n ds Q => W 14 ["values", "best", "value"] none [⟨"is_less", iRa.lt, 2, []⟩] false T lev row ds n Q) := by
  unfold RRa_great
  intros
  apply w_great (F := iRa) <;> assumption
theorem k_15 (T : List Addr) (lev : Nat) : RRa_near (fun row n ds Q => W 15 ["lower", "upper"] none [⟨"sign", iRa.sgn, 1, []⟩] false T lev row ds n Q) := by
  unfold RRa_near
  intros
  apply w_near (F := iRa) <;> assumption
theorem k_18 (T : List Addr) (lev : Nat) : RMp_em (fun row n ds Q => W 18 ["element"] none [fNeg iMp.ra, fMul iMp.ra, fDiv iMp.ra] false T lev row ds n Q) := by
  unfold RMp_em
  intros
  apply w_em (F := iMp) <;> assumption
theorem k_19 (T : List Addr) (lev : Nat) : RMp_wt (fun row n ds Q => W 19 ["first", "one", "second", "other"] none [fAdd iMp.ra, fMul iMp.ra] false T lev row ds n Q) := by
  unfold RMp_wt
  intros
  apply w_wt (F := iMp) <;> assumption
theorem k_20 (T : List Addr) (lev : Nat) : RMp_ap (fun row n ds Q => W 20 ["map_used", "ray", "a", "b", "c", "d", "e", "f"] none [fAdd iMp.ra, fWt iMp] false T lev row ds n Q) := by
  unfold RMp_ap
  intros
  apply w_ap (F := iMp) <;> assumption
theorem k_21 (T : List Addr) (lev : Nat) : RMp_co (fun row n ds Q => W 21 ["first", "second", "a", "b", "c", "d", "e", "f", "k", "m", "n", "o", "p", "q", "top", "bottom", "end"] none [fAdd iMp.ra, fWt iMp] false T lev row ds n Q) := by
  unfold RMp_co
  intros
  apply w_co (F := iMp) <;> assumption
theorem k_22 (T : List Addr) (lev : Nat) : RMp_tr (fun row n ds Q => W 22 ["train", "found", "element"] none [fCo iMp, fEm iMp] false T lev row ds n Q) := by
  unfold RMp_tr
  intros
  apply w_tr (F := iMp) <;> assumption
theorem k_24 (T : List Addr) (lev : Nat) : ROr_crs (fun row n ds Q => W 24 ["one", "other"] none [] false T lev row ds n Q) := by
  unfold ROr_crs
  intros
  apply w_crs <;> assumption
theorem k_25 (T : List Addr) (lev : Nat) : ROr_opp (fun row n ds Q => W 25 ["half_plane"] none [] false T lev row ds n Q) := by
  unfold ROr_opp
  intros
  apply w_opp <;> assumption
theorem k_26 (T : List Addr) (lev : Nat) : ROr_rea (fun row n ds Q => W 26 ["half_plane"] none [fFr iOr.mp.ra] false T lev row ds n Q) := by
  unfold ROr_rea
  intros
  apply w_rea (F := iOr) <;> assumption
theorem k_27 (T : List Addr) (lev : Nat) : ROr_hlf (fun row n ds Q => W 27 ["half_plane"] none [] false T lev row ds n Q) := by
  unfold ROr_hlf
  intros
  apply w_hlf <;> assumption
theorem k_28 (T : List Addr) (lev : Nat) : ROr_bef (fun row n ds Q => W 28 ["one", "other", "turn"] none [fCrs iOr, fRea iOr, fHlf iOr, fCmp iOr.mp.ra] false T lev row ds n Q) := by
  unfold ROr_bef
  intros
  apply w_bef (F := iOr) <;> assumption
theorem k_29 (T : List Addr) (lev : Nat) : ROr_ord (fun row n ds Q => W 29 ["half_planes", "found", "half_plane", "place", "one"] (some 1) [fBef iOr] false T lev row ds n Q) := by
  unfold ROr_ord
  intros
  apply w_ord (F := iOr) <;> assumption
theorem k_34 (T : List Addr) (lev : Nat) : RHp_mkh (fun row n ds Q => W 34 ["p", "q", "r", "scale", "parts", "part", "divisor"] none [fCd iHp.od.mp.ra] false T lev row ds n Q) := by
  unfold RHp_mkh
  intros
  apply w_mk (F := iHp) <;> assumption
theorem k_35 (T : List Addr) (lev : Nat) : RHp_ed (fun row n ds Q => W 35 ["index", "stop", "map_before", "a", "b", "c", "d", "e", "f", "found"] (some 9) [fMk iHp, fNeg iHp.od.mp.ra, fSub iHp.od.mp.ra] false T lev row ds n Q) := by
  unfold RHp_ed
  intros
  apply w_ed (F := iHp) <;> assumption
theorem k_36 (T : List Addr) (lev : Nat) : RHp_hp (fun row n ds Q => W 36 ["train", "found", "before", "index", "element"] none [fEd iHp, fCo iHp.od.mp, fEm iHp.od.mp] false T lev row ds n Q) := by
  unfold RHp_hp
  intros
  apply w_hp (F := iHp) <;> assumption
theorem k_37 (T : List Addr) (lev : Nat) : RHp_va (fun row n ds Q => W 37 ["half_plane", "ray"] none [fFr iHp.od.mp.ra, fAdd iHp.od.mp.ra, fMul iHp.od.mp.ra] false T lev row ds n Q) := by
  unfold RHp_va
  intros
  apply w_va (F := iHp) <;> assumption
theorem k_38 (T : List Addr) (lev : Nat) : RHp_has (fun row n ds Q => W 38 ["half_planes", "ray", "one"] none [fFr iHp.od.mp.ra, fCmp iHp.od.mp.ra, fVa iHp] true T lev row ds n Q) := by
  unfold RHp_has
  intros
  apply w_has (F := iHp) <;> assumption
theorem k_39 (T : List Addr) (lev : Nat) : RHp_det (fun row n ds Q => W 39 ["first", "second"] none [] false T lev row ds n Q) := by
  unfold RHp_det
  intros
  apply w_det <;> assumption
theorem k_40 (T : List Addr) (lev : Nat) : RHp_pro (fun row n ds Q => W 40 ["first", "second"] none [] false T lev row ds n Q) := by
  unfold RHp_pro
  intros
  apply w_pro <;> assumption
theorem k_41 (T : List Addr) (lev : Nat) : REm_ow (fun row n ds Q => W 41 ["first", "second", "one", "other", "divisor"] none [fDet iEm.hp, fPro iEm.hp, fCd iEm.hp.od.mp.ra] false T lev row ds n Q) := by
  unfold REm_ow
  intros
  apply w_ow (F := iEm) <;> assumption
theorem k_42 (T : List Addr) (lev : Nat) : REm_tw (fun row n ds Q => W 42 ["first", "second", "third", "weights", "weight", "divisor"] none [fDet iEm.hp, fCd iEm.hp.od.mp.ra] true T lev row ds n Q) := by
  unfold REm_tw
  intros
  apply w_tw (F := iEm) <;> assumption
theorem k_43 (T : List Addr) (lev : Nat) : REm_os (fun row n ds Q => W 43 ["half_planes", "many", "found", "i", "j", "k", "one"] (some 2) [fOw iEm, fTw iEm] false T lev row ds n Q) := by
  unfold REm_os
  intros
  apply w_os (F := iEm) <;> assumption
theorem k_44 (T : List Addr) (lev : Nat) : REm_no (fun row n ds Q => W 44 ["half_planes", "indexes", "weights", "index", "weight"] none [] false T lev row ds n Q) := by
  unfold REm_no
  intros
  apply w_no <;> assumption
theorem k_45 (T : List Addr) (lev : Nat) : REm_em (fun row n ds Q => W 45 ["half_planes", "indexes", "weights"] none [fOs iEm, fNo iEm] true T lev row ds n Q) := by
  unfold REm_em
  intros
  apply w_em2 (F := iEm) <;> assumption
theorem k_46 (T : List Addr) (lev : Nat) : RSu_sg (fun row n ds Q => W 46 ["half_plane", "p", "q", "cross", "along", "ratio"] none [fFr iSu.em.hp.od.mp.ra, fAdd iSu.em.hp.od.mp.ra, fSub iSu.em.hp.od.mp.ra, fMul iSu.em.hp.od.mp.ra, fDiv iSu.em.hp.od.mp.ra, fSgn iSu.em.hp.od.mp.ra, fPro iSu.em.hp] false T lev row ds n Q) := by
  unfold RSu_sg
  intros
  apply w_sg (F := iSu) <;> assumption
theorem k_47 (T : List Addr) (lev : Nat) : RSu_pw (fun row n ds Q => W 47 ["first", "second", "p", "q", "whole", "one", "other"] none [fFr iSu.em.hp.od.mp.ra, fSub iSu.em.hp.od.mp.ra, fMul iSu.em.hp.od.mp.ra, fDiv iSu.em.hp.od.mp.ra, fSgn iSu.em.hp.od.mp.ra, fDet iSu.em.hp] false T lev row ds n Q) := by
  unfold RSu_pw
  intros
  apply w_pw (F := iSu) <;> assumption
theorem k_48 (T : List Addr) (lev : Nat) : RSu_pb (fun row n ds Q => W 48 ["first", "second", "p", "q", "weights"] none [fFr iSu.em.hp.od.mp.ra, fAdd iSu.em.hp.od.mp.ra, fMul iSu.em.hp.od.mp.ra, fPw iSu] false T lev row ds n Q) := by
  unfold RSu_pb
  intros
  apply w_pb (F := iSu) <;> assumption
theorem k_49 (T : List Addr) (lev : Nat) : RSu_su (fun row n ds Q => W 49 ["half_planes", "p", "q", "found", "one", "place", "other"] (some 3) [fSg iSu, fPb iSu, fLeast iSu.em.hp.od.mp.ra] false T lev row ds n Q) := by
  unfold RSu_su
  intros
  apply w_su (F := iSu) <;> assumption
theorem k_50 (T : List Addr) (lev : Nat) : RSu_inf (fun row n ds Q => W 50 ["half_planes", "p", "q", "found"] none [fSu iSu, fNeg iSu.em.hp.od.mp.ra] false T lev row ds n Q) := by
  unfold RSu_inf
  intros
  apply w_inf (F := iSu) <;> assumption
theorem k_51 (T : List Addr) (lev : Nat) : RSu_dr (fun row n ds Q => W 51 ["half_planes", "p", "q"] none [fSu iSu, fInf iSu, fEmp iSu.em] false T lev row ds n Q) := by
  unfold RSu_dr
  intros
  apply w_dr (F := iSu) <;> assumption
theorem k_52 (T : List Addr) (lev : Nat) : RSu_li (fun row n ds Q => W 52 ["half_planes", "one"] none [fInf iSu, fFr iSu.em.hp.od.mp.ra] false T lev row ds n Q) := by
  unfold RSu_li
  intros
  apply w_li (F := iSu) <;> assumption
theorem k_53 (T : List Addr) (lev : Nat) : RSu_ki (fun row n ds Q => W 53 ["half_planes", "line", "lower", "upper"] none [fDr iSu, fFr iSu.em.hp.od.mp.ra, fEmp iSu.em, fLi iSu] false T lev row ds n Q) := by
  unfold RSu_ki
  intros
  apply w_ki (F := iSu) <;> assumption
theorem k_54 (T : List Addr) (lev : Nat) : RSm_smp (fun row n ds Q => W 54 ["half_planes", "heights", "height", "fixed", "slopes"] none [fDr iSm.su, fNear iSm.su.em.hp.od.mp.ra, fMk iSm.su.em.hp, fNeg iSm.su.em.hp.od.mp.ra] false T lev row ds n Q) := by
  unfold RSm_smp
  intros
  apply w_smp (F := iSm) <;> assumption
theorem k_56 (T : List Addr) (lev : Nat) : RSm_imp (fun row n ds Q => W 56 ["half_planes", "half_plane", "bound"] none [fEmp iSm.su.em, fSu iSm.su, fFr iSm.su.em.hp.od.mp.ra, fCmp iSm.su.em.hp.od.mp.ra] false T lev row ds n Q) := by
  unfold RSm_imp
  intros
  apply w_imp (F := iSm) <;> assumption
theorem k_58 (T : List Addr) (lev : Nat) : RCa_pl (fun row n ds Q => W 58 ["train", "edge", "half_plane"] none [fHp iCa.sm.su.em.hp] false T lev row ds n Q) := by
  unfold RCa_pl
  intros
  apply w_pl (F := iCa) <;> assumption
theorem k_59 (T : List Addr) (lev : Nat) : RCa_ne (fun row n ds Q => W 59 ["half_planes", "different", "found", "half_plane", "others", "one"] (some 2) [fOrd iCa.sm.su.em.hp.od, fImp iCa.sm] false T lev row ds n Q) := by
  unfold RCa_ne
  intros
  apply w_ne (F := iCa) <;> assumption
theorem k_60 (T : List Addr) (lev : Nat) : RCa_ca (fun row n ds Q => W 60 ["half_planes", "line"] none [fLi iCa.sm.su, fOrd iCa.sm.su.em.hp.od, fOpp iCa.sm.su.em.hp.od] false T lev row ds n Q) := by
  unfold RCa_ca
  intros
  apply w_ca (F := iCa) <;> assumption
theorem k_61 (T : List Addr) (lev : Nat) : RCa_lp (fun row n ds Q => W 61 N61 (some 3) [fCa iCa, fCd iCa.sm.su.em.hp.od.mp.ra, fOpp iCa.sm.su.em.hp.od, fFr iCa.sm.su.em.hp.od.mp.ra, fSu iCa.sm.su, fMk iCa.sm.su.em.hp, fOrd iCa.sm.su.em.hp.od] false T lev row ds n Q) := by
  unfold RCa_lp
  intros
  apply w_lp (F := iCa) <;> assumption
theorem k_62 (T : List Addr) (lev : Nat) : RCa_pp (fun row n ds Q => W 62 ["ray", "height", "slope", "corner"] none [fMk iCa.sm.su.em.hp, fNeg iCa.sm.su.em.hp.od.mp.ra, fAdd iCa.sm.su.em.hp.od.mp.ra, fOrd iCa.sm.su.em.hp.od] false T lev row ds n Q) := by
  unfold RCa_pp
  intros
  apply w_pp (F := iCa) <;> assumption
theorem k_63 (T : List Addr) (lev : Nat) : RCb_ch (fun row n ds Q => W 63 ["half_planes", "kind"] none [fKi iCb.ca.sm.su, fOrd iCb.ca.sm.su.em.hp.od, fNe iCb.ca, fLp iCb.ca, fPp iCb.ca, fSmp iCb.ca.sm] false T lev row ds n Q) := by
  unfold RCb_ch
  intros
  apply w_ch (F := iCb) <;> assumption
theorem k_64 (T : List Addr) (lev : Nat) : RCb_br (fun row n ds Q => W 64 ["half_planes", "kind", "p", "q", "r", "size", "near"] none [fKi iCb.ca.sm.su, fSmp iCb.ca.sm, fCa iCb.ca, fFr iCb.ca.sm.su.em.hp.od.mp.ra, fAdd iCb.ca.sm.su.em.hp.od.mp.ra] false T lev row ds n Q) := by
  unfold RCb_br
  intros
  apply w_br (F := iCb) <;> assumption
theorem k_65 (T : List Addr) (lev : Nat) : RCb_cf (fun row n ds Q => W 65 ["train", "half_planes", "transfer", "exits", "ray"] none [fPl iCb.ca, fTr iCb.ca.sm.su.em.hp.od.mp, fAp iCb.ca.sm.su.em.hp.od.mp, fBr iCb, fKi iCb.ca.sm.su, fCh iCb] false T lev row ds n Q) := by
  unfold RCb_cf
  intros
  apply w_cf (F := iCb) <;> assumption
theorem k_66 (T : List Addr) (lev : Nat) : RCb_ae (fun row n ds Q => W 66 ["train", "other"] none [fCf iCb] false T lev row ds n Q) := by
  unfold RCb_ae
  intros
  apply w_ae (F := iCb) <;> assumption
theorem k_67 (T : List Addr) (lev : Nat) : RSi_wo (fun row n ds Q => W 67 ["train", "edge", "index", "side", "stop"] none [] false T lev row ds n Q) := by
  unfold RSi_wo
  intros
  apply w_wo <;> assumption
theorem k_68 (T : List Addr) (lev : Nat) : RSi_rd (fun row n ds Q => W 68 ["train", "edge", "half_plane", "others"] none [fPl iSi.cb.ca, fWo iSi, fEmp iSi.cb.ca.sm.su.em, fImp iSi.cb.ca.sm] false T lev row ds n Q) := by
  unfold RSi_rd
  intros
  apply w_rd (F := iSi) <;> assumption
theorem k_69 (T : List Addr) (lev : Nat) : RSj_re (fun row n ds Q => W 69 ["train", "edge", "half_plane"] none [fHp iSj.si.cb.ca.sm.su.em.hp, fRd iSj.si] false T lev row ds n Q) := by
  unfold RSj_re
  intros
  apply w_re (F := iSj) <;> assumption
theorem k_70 (T : List Addr) (lev : Nat) : RSk_sim (fun row n ds Q => W 70 ["train", "found", "edges", "element"] none [fRe iSk.sj, fWo iSk.sj.si] false T lev row ds n Q) := by
  unfold RSk_sim
  intros
  apply w_sim (F := iSk) <;> assumption
theorem k_72 (T : List Addr) (lev : Nat) : RSh_me (fun row n ds Q => W 72 ["first", "second", "whole", "height", "slope"] none [fDet iSh.em.hp, fFr iSh.em.hp.od.mp.ra] false T lev row ds n Q) := by
  unfold RSh_me
  intros
  apply w_me (F := iSh) <;> assumption
theorem k_73 (T : List Addr) (lev : Nat) : RSh_ib (fun row n ds Q => W 73 ["first", "second", "found"] none [fCmp iSh.em.hp.od.mp.ra] false T lev row ds n Q) := by
  unfold RSh_ib
  intros
  apply w_ib (F := iSh) <;> assumption
theorem k_74 (T : List Addr) (lev : Nat) : RSh_pu (fun row n ds Q => W 74 ["rays", "ray", "place", "one"] none [fIb iSh] false T lev row ds n Q) := by
  unfold RSh_pu
  intros
  apply w_pu (F := iSh) <;> assumption
theorem k_75 (T : List Addr) (lev : Nat) : RLa_cor (fun row n ds Q => W 75 ["half_planes", "found", "place", "one", "other", "ray"] none [fMe iSh, fHas iSh.em.hp, fPu iSh] false T lev row ds n Q) := by
  unfold RLa_cor
  intros
  apply w_cor (F := iSh) <;> assumption
theorem k_77 (T : List Addr) (lev : Nat) : RTe_sa (fun row n ds Q => W 77 ["half_planes", "p", "q", "value", "line"] none [fMk iTe.ca.sm.su.em.hp, fNeg iTe.ca.sm.su.em.hp.od.mp.ra, fSmp iTe.ca.sm] false T lev row ds n Q) := by
  unfold RTe_sa
  intros
  apply w_sa (F := iTe) <;> assumption
theorem k_78 (T : List Addr) (lev : Nat) : RTe_ov (fun row n ds Q => W 78 ["half_planes", "half_plane", "p", "q", "bound", "upper"] none [fFr iTe.ca.sm.su.em.hp.od.mp.ra, fSu iTe.ca.sm.su, fInf iTe.ca.sm.su, fAdd iTe.ca.sm.su.em.hp.od.mp.ra, fLt iTe.ca.sm.su.em.hp.od.mp.ra, fGreat iTe.ca.sm.su.em.hp.od.mp.ra] false T lev row ds n Q) := by
  unfold RTe_ov
  intros
  apply w_ov (F := iTe) <;> assumption
theorem k_79 (T : List Addr) (lev : Nat) : RTe_ro (fun row n ds Q => W 79 ["half_planes", "others", "half_plane", "value"] none [fEmp iTe.ca.sm.su.em, fOv iTe, fSa iTe, fFr iTe.ca.sm.su.em.hp.od.mp.ra] false T lev row ds n Q) := by
  unfold RTe_ro
  intros
  apply w_ro (F := iTe) <;> assumption
theorem k_80 (T : List Addr) (lev : Nat) : RTe_ot (fun row n ds Q => W 80 ["half_planes", "p", "q", "part", "upper", "lower"] none [fSu iTe.ca.sm.su, fInf iTe.ca.sm.su, fAdd iTe.ca.sm.su.em.hp.od.mp.ra, fGreat iTe.ca.sm.su.em.hp.od.mp.ra, fNeg iTe.ca.sm.su.em.hp.od.mp.ra] false T lev row ds n Q) := by
  unfold RTe_ot
  intros
  apply w_ot (F := iTe) <;> assumption
theorem k_81 (T : List Addr) (lev : Nat) : RTe_di (fun row n ds Q => W 81 ["half_planes", "p", "q", "part", "value"] none [fSmp iTe.ca.sm, fOt iTe, fSa iTe, fSub iTe.ca.sm.su.em.hp.od.mp.ra] false T lev row ds n Q) := by
  unfold RTe_di
  intros
  apply w_di (F := iTe) <;> assumption
theorem k_82 (T : List Addr) (lev : Nat) : RLa_ds (fun row n ds Q => W 82 ["train", "other", "mine", "theirs", "ray", "parts", "one", "two"] none [fPl iTe.ca, fRo iTe, fEmp iTe.ca.sm.su.em, fTr iTe.ca.sm.su.em.hp.od.mp, fSub iTe.ca.sm.su.em.hp.od.mp.ra, fDi iTe] false T lev row ds n Q) := by
  unfold RLa_ds
  intros
  apply w_ds (F := iTe) <;> assumption
theorem k_84 (T : List Addr) (lev : Nat) : RDr_cell (fun row n ds Q => W 84 ["_law_script", "_law_k"] none [] false T lev row ds n Q) := by
  unfold RDr_cell
  intros
  apply w_cell <;> assumption
theorem k_85 (T : List Addr) (lev : Nat) : RDr_rw (fun row n ds Q => W 85 ["_law_cell_here", "_law_k", "_law_many", "_law_row_here", "_law_turn", "_law_seed"] (some 3) [] false T lev row ds n Q) := by
  unfold RDr_rw
  intros
  apply w_row <;> assumption
theorem k_87 (T : List Addr) (lev : Nat) : RRn_dr (fun row n ds Q => W 87 ["_law_box_here", "_law_many", "_law_at"] none [] false T lev row ds n Q) := by
  unfold RRn_dr
  intros
  apply w_draw <;> assumption
theorem k_88 (T : List Addr) (lev : Nat) : RLw_fra (fun row n ds Q => W 88 ["_law_top", "_law_bottom", "_law_one", "_law_other_here"] none [] false T lev row ds n Q) := by
  unfold RLw_fra
  intros
  apply w_fra <;> assumption
theorem k_89 (T : List Addr) (lev : Nat) : RLw_add (fun row n ds Q => W 89 ["_law_one", "_law_other_here"] none [gFra iLw] false T lev row ds n Q) := by
  unfold RLw_add
  intros
  apply w_ladd (F := iLw) <;> assumption
theorem k_90 (T : List Addr) (lev : Nat) : RLw_neg (fun row n ds Q => W 90 ["_law_one"] none [] false T lev row ds n Q) := by
  unfold RLw_neg
  intros
  apply w_lneg <;> assumption
theorem k_91 (T : List Addr) (lev : Nat) : RLw_sub (fun row n ds Q => W 91 ["_law_one", "_law_other_here"] none [gAdd iLw, gNeg iLw] false T lev row ds n Q) := by
  unfold RLw_sub
  intros
  apply w_lsub (F := iLw) <;> assumption
theorem k_92 (T : List Addr) (lev : Nat) : RLw_mul (fun row n ds Q => W 92 ["_law_one", "_law_other_here"] none [gFra iLw] false T lev row ds n Q) := by
  unfold RLw_mul
  intros
  apply w_lmul (F := iLw) <;> assumption
theorem k_93 (T : List Addr) (lev : Nat) : RLw_div (fun row n ds Q => W 93 ["_law_one", "_law_other_here"] none [gFra iLw] false T lev row ds n Q) := by
  unfold RLw_div
  intros
  apply w_ldiv (F := iLw) <;> assumption
theorem k_94 (T : List Addr) (lev : Nat) : RLw_les (fun row n ds Q => W 94 ["_law_one", "_law_other_here"] none [] false T lev row ds n Q) := by
  unfold RLw_les
  intros
  apply w_les <;> assumption
theorem k_95 (T : List Addr) (lev : Nat) : RRn_fr (fun row n ds Q => W 95 ["_law_box_here"] none [gFra iRn.lw, kDr iRn] false T lev row ds n Q) := by
  unfold RRn_fr
  intros
  apply w_fr_r (F := iRn) <;> assumption
theorem k_96 (T : List Addr) (lev : Nat) : RRn_nz (fun row n ds Q => W 96 ["_law_box_here", "_law_value"] none [kFr iRn] false T lev row ds n Q) := by
  unfold RRn_nz
  intros
  apply w_nz_r (F := iRn) <;> assumption
theorem k_97 (T : List Addr) (lev : Nat) : RRn_st (fun row n ds Q => W 97 ["_law_box_here", "_law_lower", "_law_upper", "_law_kind"] none [gFra iRn.lw, gAdd iRn.lw, kDr iRn, kFr iRn] false T lev row ds n Q) := by
  unfold RRn_st
  intros
  apply w_st_r (F := iRn) <;> assumption
theorem k_98 (T : List Addr) (lev : Nat) : RRn_el (fun row n ds Q => W 98 ["_law_box_here", "_law_kind"] none [kDr iRn, kFr iRn, kNz iRn, kSt iRn] false T lev row ds n Q) := by
  unfold RRn_el
  intros
  apply w_el_r (F := iRn) <;> assumption
theorem k_99 (T : List Addr) (lev : Nat) : REx_tr (fun row n ds Q => W 99 ["_law_box_here", "_law_most", "_law_turn"] none [kDr iEx.rn, kEl iEx.rn] false T lev row ds n Q) := by
  unfold REx_tr
  intros
  apply w_train (F := iEx) <;> assumption
theorem k_100 (T : List Addr) (lev : Nat) : REx_go (fun row n ds Q => W 100 ["_law_element_here", "_law_ray", "_law_height", "_law_slope"] none [gAdd iEx.rn.lw, gMul iEx.rn.lw, gSub iEx.rn.lw, gDiv iEx.rn.lw] false T lev row ds n Q) := by
  unfold REx_go
  intros
  apply w_go (F := iEx) <;> assumption
theorem k_101 (T : List Addr) (lev : Nat) : REx_bk (fun row n ds Q => W 101 ["_law_element_here", "_law_ray"] none [gLes iEx.rn.lw] false T lev row ds n Q) := by
  unfold REx_bk
  intros
  apply w_bk (F := iEx) <;> assumption
theorem k_102 (T : List Addr) (lev : Nat) : REx_ex (fun row n ds Q => W 102 ["_law_train_here", "_law_ray", "_law_element_here"] none [eGo iEx, eBk iEx] false T lev row ds n Q) := by
  unfold REx_ex
  intros
  apply w_ex (F := iEx) <;> assumption
theorem k_103 (T : List Addr) (lev : Nat) : REx_ot (fun row n ds Q => W 103 ["_law_box_here", "_law_train_here", "_law_found", "_law_element_here", "_law_kind", "_law_part", "_law_value"] (some 2) [kDr iEx.rn, kFr iEx.rn, kNz iEx.rn, gSub iEx.rn.lw, gNeg iEx.rn.lw] false T lev row ds n Q) := by
  unfold REx_ot
  intros
  apply w_oth (F := iEx) <;> assumption
end RT
namespace RT
open PySem PySem.Spec PyProof.Rows L2 Hd0

section
variable {P : Program} {w : World} {K : PySem.W.Frag} {mg : Str → Option Value} {base : Heap} {T : List Addr}
theorem e_3 (h : Hd fn K mg base T) : EntOk P w K mg base T 13 ⟨"common_divisor", iRa.cd, 2, []⟩ :=
  ent_of h 0 3 "common_divisor" ["first", "second", "one", "other"] ["first", "second"] none [] false 0 iRa.cd rfl ⟨rfl, rfl, rfl, by decide +kernel, rfl, by decide +kernel, by decide +kernel⟩ (fun _ _ _ _ _ _ us hl => match us, hl with | [_, _], _ => rfl) ents_nil (fun z => by cases z) fun row n ds Qd hh => hh _ (k_3 T 0)
theorem sc4 : FnScope ["numerator", "denominator", "divisor"] ["numerator", "denominator"] (defScope (top 4)) := ⟨rfl, rfl, rfl, by decide +kernel, rfl, by decide +kernel, by decide +kernel⟩
theorem e_4 (h : Hd fn K mg base T) : EntOk P w K mg base T 26 ⟨"fraction", iRa.fr, 2, [.int 1]⟩ := fun m h1 h2 => by
  obtain ⟨fd, F, hm, _⟩ := h.dfn 1 _ rfl
  have ok := fn_ok (P := P) (w := w) (base := base) (C := mkC ["numerator", "denominator", "divisor"] none [⟨"common_divisor", iRa.cd, 2, []⟩] konD false T 13 []) (S := iRa.fr) 12 F (ps := ["numerator", "denominator"]) sc4 (call_of (ents_cons (ent_mono (e_3 h)) ents_nil)) h.kon h.blt (fun z => by cases z) fun row n ds Qd _ hh => hh _ (k_4 T 13)
  have hm2 : m = 1 ∨ m = 2 := by
    have a1 : m ≤ 2 := h1
    have a2 : 2 - m ≤ 1 := h2
    omega
  rcases hm2 with rfl | rfl
  · obtain ⟨dsv, r1, r2⟩ := FunD.binds1 F 1 0 (List.cons_ne_nil _ _) (ps := ["numerator", "denominator"]) rfl fun T kV doc pm an cdv ct us its hu hi => match us, its, hu, hi with
      | [_], [_], _, _ => ⟨_, rfl, rfl⟩
    exact ⟨_, fd, _, _, dsv, ok, hm, F.kp, r2, r1, fun Vw => .cons (.int 1) .nil, rfl⟩
  · obtain ⟨dsv, r1, r2⟩ := FunD.binds1 F 2 1 (List.cons_ne_nil _ _) (ps := ["numerator", "denominator"]) rfl fun T kV doc pm an cdv ct us its hu hi => match us, its, hu, hi with
      | [_, _], [_], _, _ => ⟨_, rfl, rfl⟩
    exact ⟨_, fd, _, _, dsv, ok, hm, F.kp, r2, r1, fun Vw => .nil, rfl⟩
theorem e_5 (h : Hd fn K mg base T) : EntOk P w K mg base T 39 ⟨"add", iRa.add, 2, []⟩ :=
  ent_of h 2 5 "add" ["first", "second"] ["first", "second"] none [⟨"fraction", iRa.fr, 2, [.int 1]⟩] false 26 iRa.add rfl ⟨rfl, rfl, rfl, by decide +kernel, rfl, by decide +kernel, by decide +kernel⟩ (fun _ _ _ _ _ _ us hl => match us, hl with | [_, _], _ => rfl) (ents_cons (ent_mono (e_4 h)) ents_nil) (fun z => by cases z) fun row n ds Qd hh => hh _ (k_5 T 26)
theorem e_6 (h : Hd fn K mg base T) : EntOk P w K mg base T 13 ⟨"negative", iRa.neg, 1, []⟩ :=
  ent_of h 3 6 "negative" ["value"] ["value"] none [] false 0 iRa.neg rfl ⟨rfl, rfl, rfl, by decide +kernel, rfl, by decide +kernel, by decide +kernel⟩ (fun _ _ _ _ _ _ us hl => match us, hl with | [_], _ => rfl) ents_nil (fun z => by cases z) fun row n ds Qd hh => hh _ (k_6 T 0)
theorem e_7 (h : Hd fn K mg base T) : EntOk P w K mg base T 52 ⟨"subtract", iRa.sub, 2, []⟩ :=
  ent_of h 4 7 "subtract" ["first", "second"] ["first", "second"] none [⟨"add", iRa.add, 2, []⟩, ⟨"negative", iRa.neg, 1, []⟩] false 39 iRa.sub rfl ⟨rfl, rfl, rfl, by decide +kernel, rfl, by decide +kernel, by decide +kernel⟩ (fun _ _ _ _ _ _ us hl => match us, hl with | [_, _], _ => rfl) (ents_cons (ent_mono (e_5 h)) (ents_cons (ent_mono (e_6 h)) ents_nil)) (fun z => by cases z) fun row n ds Qd hh => hh _ (k_7 T 39)
theorem e_8 (h : Hd fn K mg base T) : EntOk P w K mg base T 39 ⟨"multiply", iRa.mul, 2, []⟩ :=
  ent_of h 5 8 "multiply" ["first", "second"] ["first", "second"] none [⟨"fraction", iRa.fr, 2, [.int 1]⟩] false 26 iRa.mul rfl ⟨rfl, rfl, rfl, by decide +kernel, rfl, by decide +kernel, by decide +kernel⟩ (fun _ _ _ _ _ _ us hl => match us, hl with | [_, _], _ => rfl) (ents_cons (ent_mono (e_4 h)) ents_nil) (fun z => by cases z) fun row n ds Qd hh => hh _ (k_8 T 26)
theorem e_9 (h : Hd fn K mg base T) : EntOk P w K mg base T 39 ⟨"divide", iRa.div, 2, []⟩ :=
  ent_of h 6 9 "divide" ["first", "second"] ["first", "second"] none [⟨"fraction", iRa.fr, 2, [.int 1]⟩] false 26 iRa.div rfl ⟨rfl, rfl, rfl, by decide +kernel, rfl, by decide +kernel, by decide +kernel⟩ (fun _ _ _ _ _ _ us hl => match us, hl with | [_, _], _ => rfl) (ents_cons (ent_mono (e_4 h)) ents_nil) (fun z => by cases z) fun row n ds Qd hh => hh _ (k_9 T 26)
theorem e_10 (h : Hd fn K mg base T) : EntOk P w K mg base T 13 ⟨"sign", iRa.sgn, 1, []⟩ :=
  ent_of h 7 10 "sign" ["value"] ["value"] none [] false 0 iRa.sgn rfl ⟨rfl, rfl, rfl, by decide +kernel, rfl, by decide +kernel, by decide +kernel⟩ (fun _ _ _ _ _ _ us hl => match us, hl with | [_], _ => rfl) ents_nil (fun z => by cases z) fun row n ds Qd hh => hh _ (k_10 T 0)
theorem e_11 (h : Hd fn K mg base T) : EntOk P w K mg base T 65 ⟨"compare", iRa.cmp, 2, []⟩ :=
  ent_of h 8 11 "compare" ["first", "second"] ["first", "second"] none [⟨"sign", iRa.sgn, 1, []⟩, ⟨"subtract", iRa.sub, 2, []⟩] false 52 iRa.cmp rfl ⟨rfl, rfl, rfl, by decide +kernel, rfl, by decide +kernel, by decide +kernel⟩ (fun _ _ _ _ _ _ us hl => match us, hl with | [_, _], _ => rfl) (ents_cons (ent_mono (e_10 h)) (ents_cons (ent_mono (e_7 h)) ents_nil)) (fun z => by cases z) fun row n ds Qd hh => hh _ (k_11 T 52)
theorem e_12 (h : Hd fn K mg base T) : EntOk P w K mg base T 78 ⟨"is_less", iRa.lt, 2, []⟩ :=
  ent_of h 9 12 "is_less" ["first", "second"] ["first", "second"] none [⟨"compare", iRa.cmp, 2, []⟩] false 65 iRa.lt rfl ⟨rfl, rfl, rfl, by decide +kernel, rfl, by decide +kernel, by decide +kernel⟩ (fun _ _ _ _ _ _ us hl => match us, hl with | [_, _], _ => rfl) (ents_cons (ent_mono (e_11 h)) ents_nil) (fun z => by cases z) fun row n ds Qd hh => hh _ (k_12 T 65)
theorem e_13 (h : Hd fn K mg base T) : EntOk P w K mg base T 91 ⟨"least_of", iRa.least, 1, []⟩ :=
  ent_of h 10 13 "least_of" ["values", "best", "value"] ["values"] none [⟨"is_less", iRa.lt, 2, []⟩] false 78 iRa.least rfl ⟨rfl, rfl, rfl, by decide +kernel, rfl, by decide +kernel, by decide +kernel⟩ (fun _ _ _ _ _ _ us hl => match us, hl with | [_], _ => rfl) (ents_cons (ent_mono (e_12 h)) ents_nil) (fun z => by cases z) fun row n ds Qd hh => hh _ (k_13 T 78)
theorem e_14 (h : Hd fn K mg base T) : EntOk P w K mg base T 91 ⟨"greatest_of", iRa.great, 1, []⟩ :=
  ent_of h 11 14 "greatest_of" ["values", "best", "value"] ["values"] none [⟨"is_less", iRa.lt, 2, []⟩] false 78 iRa.great rfl ⟨rfl, rfl, rfl, by decide +kernel, rfl, by decide +kernel, by decide +kernel⟩ (fun _ _ _ _ _ _ us hl => match us, hl with | [_], _ => rfl) (ents_cons (ent_mono (e_12 h)) ents_nil) (fun z => by cases z) fun row n ds Qd hh => hh _ (k_14 T 78)
theorem e_15 (h : Hd fn K mg base T) : EntOk P w K mg base T 26 ⟨"nearest_to_zero", iRa.near, 2, []⟩ :=
  ent_of h 12 15 "nearest_to_zero" ["lower", "upper"] ["lower", "upper"] none [⟨"sign", iRa.sgn, 1, []⟩] false 13 iRa.near rfl ⟨rfl, rfl, rfl, by decide +kernel, rfl, by decide +kernel, by decide +kernel⟩ (fun _ _ _ _ _ _ us hl => match us, hl with | [_, _], _ => rfl) (ents_cons (ent_mono (e_10 h)) ents_nil) (fun z => by cases z) fun row n ds Qd hh => hh _ (k_15 T 13)
theorem e_18 (h : Hd fn K mg base T) : EntOk P w K mg base T 52 ⟨"element_map", iMp.em, 1, []⟩ :=
  ent_of h 13 18 "element_map" ["element"] ["element"] none [fNeg iMp.ra, fMul iMp.ra, fDiv iMp.ra] false 39 iMp.em rfl ⟨rfl, rfl, rfl, by decide +kernel, rfl, by decide +kernel, by decide +kernel⟩ (fun _ _ _ _ _ _ us hl => match us, hl with | [_], _ => rfl) (ents_cons (ent_mono (e_6 h)) (ents_cons (ent_mono (e_8 h)) (ents_cons (ent_mono (e_9 h)) ents_nil))) (fun z => by cases z) fun row n ds Qd hh => hh _ (k_18 T 39)
theorem e_19 (h : Hd fn K mg base T) : EntOk P w K mg base T 52 ⟨"weighted", iMp.wt, 4, []⟩ :=
  ent_of h 14 19 "weighted" ["first", "one", "second", "other"] ["first", "one", "second", "other"] none [fAdd iMp.ra, fMul iMp.ra] false 39 iMp.wt rfl ⟨rfl, rfl, rfl, by decide +kernel, rfl, by decide +kernel, by decide +kernel⟩ (fun _ _ _ _ _ _ us hl => match us, hl with | [_, _, _, _], _ => rfl) (ents_cons (ent_mono (e_5 h)) (ents_cons (ent_mono (e_8 h)) ents_nil)) (fun z => by cases z) fun row n ds Qd hh => hh _ (k_19 T 39)
theorem e_20 (h : Hd fn K mg base T) : EntOk P w K mg base T 65 ⟨"apply_map", iMp.ap, 2, []⟩ :=
  ent_of h 15 20 "apply_map" ["map_used", "ray", "a", "b", "c", "d", "e", "f"] ["map_used", "ray"] none [fAdd iMp.ra, fWt iMp] false 52 iMp.ap rfl ⟨rfl, rfl, rfl, by decide +kernel, rfl, by decide +kernel, by decide +kernel⟩ (fun _ _ _ _ _ _ us hl => match us, hl with | [_, _], _ => rfl) (ents_cons (ent_mono (e_5 h)) (ents_cons (ent_mono (e_19 h)) ents_nil)) (fun z => by cases z) fun row n ds Qd hh => hh _ (k_20 T 52)
theorem e_21 (h : Hd fn K mg base T) : EntOk P w K mg base T 65 ⟨"compose_maps", iMp.co, 2, []⟩ :=
  ent_of h 16 21 "compose_maps" ["first", "second", "a", "b", "c", "d", "e", "f", "k", "m", "n", "o", "p", "q", "top", "bottom", "end"] ["first", "second"] none [fAdd iMp.ra, fWt iMp] false 52 iMp.co rfl ⟨rfl, rfl, rfl, by decide +kernel, rfl, by decide +kernel, by decide +kernel⟩ (fun _ _ _ _ _ _ us hl => match us, hl with | [_, _], _ => rfl) (ents_cons (ent_mono (e_5 h)) (ents_cons (ent_mono (e_19 h)) ents_nil)) (fun z => by cases z) fun row n ds Qd hh => hh _ (k_21 T 52)
theorem e_22 (h : Hd fn K mg base T) : EntOk P w K mg base T 78 ⟨"ray_transfer", iMp.tr, 1, []⟩ :=
  ent_of h 17 22 "ray_transfer" ["train", "found", "element"] ["train"] none [fCo iMp, fEm iMp] false 65 iMp.tr rfl ⟨rfl, rfl, rfl, by decide +kernel, rfl, by decide +kernel, by decide +kernel⟩ (fun _ _ _ _ _ _ us hl => match us, hl with | [_], _ => rfl) (ents_cons (ent_mono (e_21 h)) (ents_cons (ent_mono (e_18 h)) ents_nil)) (fun z => by cases z) fun row n ds Qd hh => hh _ (k_22 T 65)
theorem e_24 (h : Hd fn K mg base T) : EntOk P w K mg base T 13 ⟨"cross", iOr.crs, 2, []⟩ :=
  ent_of h 18 24 "cross" ["one", "other"] ["one", "other"] none [] false 0 iOr.crs rfl ⟨rfl, rfl, rfl, by decide +kernel, rfl, by decide +kernel, by decide +kernel⟩ (fun _ _ _ _ _ _ us hl => match us, hl with | [_, _], _ => rfl) ents_nil (fun z => by cases z) fun row n ds Qd hh => hh _ (k_24 T 0)
theorem e_25 (h : Hd fn K mg base T) : EntOk P w K mg base T 13 ⟨"opposite", iOr.opp, 1, []⟩ :=
  ent_of h 19 25 "opposite" ["half_plane"] ["half_plane"] none [] false 0 iOr.opp rfl ⟨rfl, rfl, rfl, by decide +kernel, rfl, by decide +kernel, by decide +kernel⟩ (fun _ _ _ _ _ _ us hl => match us, hl with | [_], _ => rfl) ents_nil (fun z => by cases z) fun row n ds Qd hh => hh _ (k_25 T 0)
theorem e_26 (h : Hd fn K mg base T) : EntOk P w K mg base T 39 ⟨"reach", iOr.rea, 1, []⟩ :=
  ent_of h 20 26 "reach" ["half_plane"] ["half_plane"] none [fFr iOr.mp.ra] false 26 iOr.rea rfl ⟨rfl, rfl, rfl, by decide +kernel, rfl, by decide +kernel, by decide +kernel⟩ (fun _ _ _ _ _ _ us hl => match us, hl with | [_], _ => rfl) (ents_cons (ent_mono (e_4 h)) ents_nil) (fun z => by cases z) fun row n ds Qd hh => hh _ (k_26 T 26)
theorem e_27 (h : Hd fn K mg base T) : EntOk P w K mg base T 13 ⟨"in_first_half", iOr.hlf, 1, []⟩ :=
  ent_of h 21 27 "in_first_half" ["half_plane"] ["half_plane"] none [] false 0 iOr.hlf rfl ⟨rfl, rfl, rfl, by decide +kernel, rfl, by decide +kernel, by decide +kernel⟩ (fun _ _ _ _ _ _ us hl => match us, hl with | [_], _ => rfl) ents_nil (fun z => by cases z) fun row n ds Qd hh => hh _ (k_27 T 0)
theorem e_28 (h : Hd fn K mg base T) : EntOk P w K mg base T 78 ⟨"comes_before", iOr.bef, 2, []⟩ :=
  ent_of h 22 28 "comes_before" ["one", "other", "turn"] ["one", "other"] none [fCrs iOr, fRea iOr, fHlf iOr, fCmp iOr.mp.ra] false 65 iOr.bef rfl ⟨rfl, rfl, rfl, by decide +kernel, rfl, by decide +kernel, by decide +kernel⟩ (fun _ _ _ _ _ _ us hl => match us, hl with | [_, _], _ => rfl) (ents_cons (ent_mono (e_24 h)) (ents_cons (ent_mono (e_26 h)) (ents_cons (ent_mono (e_27 h)) (ents_cons (ent_mono (e_11 h)) ents_nil)))) (fun z => by cases z) fun row n ds Qd hh => hh _ (k_28 T 65)
theorem e_29 (h : Hd fn K mg base T) : EntOk P w K mg base T 91 ⟨"in_order", iOr.ord, 1, []⟩ :=
  ent_of h 23 29 "in_order" ["half_planes", "found", "half_plane", "place", "one"] ["half_planes"] (some 1) [fBef iOr] false 78 iOr.ord rfl ⟨rfl, rfl, rfl, by decide +kernel, rfl, by decide +kernel, by decide +kernel⟩ (fun _ _ _ _ _ _ us hl => match us, hl with | [_], _ => rfl) (ents_cons (ent_mono (e_28 h)) ents_nil) (fun z => by cases z) fun row n ds Qd hh => hh _ (k_29 T 78)
theorem e_34 (h : Hd fn K mg base T) : EntOk P w K mg base T 26 ⟨"make_half_plane", iHp.mkh, 3, []⟩ :=
  ent_of h 24 34 "make_half_plane" ["p", "q", "r", "scale", "parts", "part", "divisor"] ["p", "q", "r"] none [fCd iHp.od.mp.ra] false 13 iHp.mkh rfl ⟨rfl, rfl, rfl, by decide +kernel, rfl, by decide +kernel, by decide +kernel⟩ (fun _ _ _ _ _ _ us hl => match us, hl with | [_, _, _], _ => rfl) (ents_cons (ent_mono (e_3 h)) ents_nil) (fun z => by cases z) fun row n ds Qd hh => hh _ (k_34 T 13)
theorem e_35 (h : Hd fn K mg base T) : EntOk P w K mg base T 65 ⟨"edges_of", iHp.ed, 3, []⟩ :=
  ent_of h 25 35 "edges_of" ["index", "stop", "map_before", "a", "b", "c", "d", "e", "f", "found"] ["index", "stop", "map_before"] (some 9) [fMk iHp, fNeg iHp.od.mp.ra, fSub iHp.od.mp.ra] false 52 iHp.ed rfl ⟨rfl, rfl, rfl, by decide +kernel, rfl, by decide +kernel, by decide +kernel⟩ (fun _ _ _ _ _ _ us hl => match us, hl with | [_, _, _], _ => rfl) (ents_cons (ent_mono (e_34 h)) (ents_cons (ent_mono (e_6 h)) (ents_cons (ent_mono (e_7 h)) ents_nil))) (fun z => by cases z) fun row n ds Qd hh => hh _ (k_35 T 52)
theorem e_36 (h : Hd fn K mg base T) : EntOk P w K mg base T 78 ⟨"half_planes_of", iHp.hp, 1, []⟩ :=
  ent_of h 26 36 "half_planes_of" ["train", "found", "before", "index", "element"] ["train"] none [fEd iHp, fCo iHp.od.mp, fEm iHp.od.mp] false 65 iHp.hp rfl ⟨rfl, rfl, rfl, by decide +kernel, rfl, by decide +kernel, by decide +kernel⟩ (fun _ _ _ _ _ _ us hl => match us, hl with | [_], _ => rfl) (ents_cons (ent_mono (e_35 h)) (ents_cons (ent_mono (e_21 h)) (ents_cons (ent_mono (e_18 h)) ents_nil))) (fun z => by cases z) fun row n ds Qd hh => hh _ (k_36 T 65)
theorem e_37 (h : Hd fn K mg base T) : EntOk P w K mg base T 52 ⟨"value_at", iHp.va, 2, []⟩ :=
  ent_of h 27 37 "value_at" ["half_plane", "ray"] ["half_plane", "ray"] none [fFr iHp.od.mp.ra, fAdd iHp.od.mp.ra, fMul iHp.od.mp.ra] false 39 iHp.va rfl ⟨rfl, rfl, rfl, by decide +kernel, rfl, by decide +kernel, by decide +kernel⟩ (fun _ _ _ _ _ _ us hl => match us, hl with | [_, _], _ => rfl) (ents_cons (ent_mono (e_4 h)) (ents_cons (ent_mono (e_5 h)) (ents_cons (ent_mono (e_8 h)) ents_nil))) (fun z => by cases z) fun row n ds Qd hh => hh _ (k_37 T 39)
theorem e_38 (h : Hd fn K mg base T) : EntOk P w K mg base T 78 ⟨"contains_ray", iHp.has, 2, []⟩ :=
  ent_of h 28 38 "contains_ray" ["half_planes", "ray", "one"] ["half_planes", "ray"] none [fFr iHp.od.mp.ra, fCmp iHp.od.mp.ra, fVa iHp] true 65 iHp.has rfl ⟨rfl, rfl, rfl, by decide +kernel, rfl, by decide +kernel, by decide +kernel⟩ (fun _ _ _ _ _ _ us hl => match us, hl with | [_, _], _ => rfl) (ents_cons (ent_mono (e_4 h)) (ents_cons (ent_mono (e_11 h)) (ents_cons (ent_mono (e_37 h)) ents_nil))) (fun _ => by decide) fun row n ds Qd hh => hh _ (k_38 T 65)
theorem e_39 (h : Hd fn K mg base T) : EntOk P w K mg base T 13 ⟨"determinant", iHp.det, 2, []⟩ :=
  ent_of h 29 39 "determinant" ["first", "second"] ["first", "second"] none [] false 0 iHp.det rfl ⟨rfl, rfl, rfl, by decide +kernel, rfl, by decide +kernel, by decide +kernel⟩ (fun _ _ _ _ _ _ us hl => match us, hl with | [_, _], _ => rfl) ents_nil (fun z => by cases z) fun row n ds Qd hh => hh _ (k_39 T 0)
theorem e_40 (h : Hd fn K mg base T) : EntOk P w K mg base T 13 ⟨"product", iHp.pro, 2, []⟩ :=
  ent_of h 30 40 "product" ["first", "second"] ["first", "second"] none [] false 0 iHp.pro rfl ⟨rfl, rfl, rfl, by decide +kernel, rfl, by decide +kernel, by decide +kernel⟩ (fun _ _ _ _ _ _ us hl => match us, hl with | [_, _], _ => rfl) ents_nil (fun z => by cases z) fun row n ds Qd hh => hh _ (k_40 T 0)
theorem e_41 (h : Hd fn K mg base T) : EntOk P w K mg base T 26 ⟨"opposite_weights", iEm.ow, 2, []⟩ :=
  ent_of h 31 41 "opposite_weights" ["first", "second", "one", "other", "divisor"] ["first", "second"] none [fDet iEm.hp, fPro iEm.hp, fCd iEm.hp.od.mp.ra] false 13 iEm.ow rfl ⟨rfl, rfl, rfl, by decide +kernel, rfl, by decide +kernel, by decide +kernel⟩ (fun _ _ _ _ _ _ us hl => match us, hl with | [_, _], _ => rfl) (ents_cons (ent_mono (e_39 h)) (ents_cons (ent_mono (e_40 h)) (ents_cons (ent_mono (e_3 h)) ents_nil))) (fun z => by cases z) fun row n ds Qd hh => hh _ (k_41 T 13)
theorem e_42 (h : Hd fn K mg base T) : EntOk P w K mg base T 26 ⟨"triple_weights", iEm.tw, 3, []⟩ :=
  ent_of h 32 42 "triple_weights" ["first", "second", "third", "weights", "weight", "divisor"] ["first", "second", "third"] none [fDet iEm.hp, fCd iEm.hp.od.mp.ra] true 13 iEm.tw rfl ⟨rfl, rfl, rfl, by decide +kernel, rfl, by decide +kernel, by decide +kernel⟩ (fun _ _ _ _ _ _ us hl => match us, hl with | [_, _, _], _ => rfl) (ents_cons (ent_mono (e_39 h)) (ents_cons (ent_mono (e_3 h)) ents_nil)) (fun _ => by decide) fun row n ds Qd hh => hh _ (k_42 T 13)
theorem e_43 (h : Hd fn K mg base T) : EntOk P w K mg base T 39 ⟨"opposing_sets", iEm.os, 1, []⟩ :=
  ent_of h 33 43 "opposing_sets" ["half_planes", "many", "found", "i", "j", "k", "one"] ["half_planes"] (some 2) [fOw iEm, fTw iEm] false 26 iEm.os rfl ⟨rfl, rfl, rfl, by decide +kernel, rfl, by decide +kernel, by decide +kernel⟩ (fun _ _ _ _ _ _ us hl => match us, hl with | [_], _ => rfl) (ents_cons (ent_mono (e_41 h)) (ents_cons (ent_mono (e_42 h)) ents_nil)) (fun z => by cases z) fun row n ds Qd hh => hh _ (k_43 T 26)
theorem e_44 (h : Hd fn K mg base T) : EntOk P w K mg base T 13 ⟨"number_of", iEm.no, 3, []⟩ :=
  ent_of h 34 44 "number_of" ["half_planes", "indexes", "weights", "index", "weight"] ["half_planes", "indexes", "weights"] none [] false 0 iEm.no rfl ⟨rfl, rfl, rfl, by decide +kernel, rfl, by decide +kernel, by decide +kernel⟩ (fun _ _ _ _ _ _ us hl => match us, hl with | [_, _, _], _ => rfl) ents_nil (fun z => by cases z) fun row n ds Qd hh => hh _ (k_44 T 0)
theorem e_45 (h : Hd fn K mg base T) : EntOk P w K mg base T 52 ⟨"is_empty", iEm.em, 1, []⟩ :=
  ent_of h 35 45 "is_empty" ["half_planes", "indexes", "weights"] ["half_planes"] none [fOs iEm, fNo iEm] true 39 iEm.em rfl ⟨rfl, rfl, rfl, by decide +kernel, rfl, by decide +kernel, by decide +kernel⟩ (fun _ _ _ _ _ _ us hl => match us, hl with | [_], _ => rfl) (ents_cons (ent_mono (e_43 h)) (ents_cons (ent_mono (e_44 h)) ents_nil)) (fun _ => by decide) fun row n ds Qd hh => hh _ (k_45 T 39)
theorem e_46 (h : Hd fn K mg base T) : EntOk P w K mg base T 65 ⟨"single_bound", iSu.sg, 3, []⟩ :=
  ent_of h 36 46 "single_bound" ["half_plane", "p", "q", "cross", "along", "ratio"] ["half_plane", "p", "q"] none [fFr iSu.em.hp.od.mp.ra, fAdd iSu.em.hp.od.mp.ra, fSub iSu.em.hp.od.mp.ra, fMul iSu.em.hp.od.mp.ra, fDiv iSu.em.hp.od.mp.ra, fSgn iSu.em.hp.od.mp.ra, fPro iSu.em.hp] false 52 iSu.sg rfl ⟨rfl, rfl, rfl, by decide +kernel, rfl, by decide +kernel, by decide +kernel⟩ (fun _ _ _ _ _ _ us hl => match us, hl with | [_, _, _], _ => rfl) (ents_cons (ent_mono (e_4 h)) (ents_cons (ent_mono (e_5 h)) (ents_cons (ent_mono (e_7 h)) (ents_cons (ent_mono (e_8 h)) (ents_cons (ent_mono (e_9 h)) (ents_cons (ent_mono (e_10 h)) (ents_cons (ent_mono (e_40 h)) ents_nil))))))) (fun z => by cases z) fun row n ds Qd hh => hh _ (k_46 T 52)
theorem e_47 (h : Hd fn K mg base T) : EntOk P w K mg base T 65 ⟨"pair_weights", iSu.pw, 4, []⟩ :=
  ent_of h 37 47 "pair_weights" ["first", "second", "p", "q", "whole", "one", "other"] ["first", "second", "p", "q"] none [fFr iSu.em.hp.od.mp.ra, fSub iSu.em.hp.od.mp.ra, fMul iSu.em.hp.od.mp.ra, fDiv iSu.em.hp.od.mp.ra, fSgn iSu.em.hp.od.mp.ra, fDet iSu.em.hp] false 52 iSu.pw rfl ⟨rfl, rfl, rfl, by decide +kernel, rfl, by decide +kernel, by decide +kernel⟩ (fun _ _ _ _ _ _ us hl => match us, hl with | [_, _, _, _], _ => rfl) (ents_cons (ent_mono (e_4 h)) (ents_cons (ent_mono (e_7 h)) (ents_cons (ent_mono (e_8 h)) (ents_cons (ent_mono (e_9 h)) (ents_cons (ent_mono (e_10 h)) (ents_cons (ent_mono (e_39 h)) ents_nil)))))) (fun z => by cases z) fun row n ds Qd hh => hh _ (k_47 T 52)
theorem e_48 (h : Hd fn K mg base T) : EntOk P w K mg base T 78 ⟨"pair_bound", iSu.pb, 4, []⟩ :=
  ent_of h 38 48 "pair_bound" ["first", "second", "p", "q", "weights"] ["first", "second", "p", "q"] none [fFr iSu.em.hp.od.mp.ra, fAdd iSu.em.hp.od.mp.ra, fMul iSu.em.hp.od.mp.ra, fPw iSu] false 65 iSu.pb rfl ⟨rfl, rfl, rfl, by decide +kernel, rfl, by decide +kernel, by decide +kernel⟩ (fun _ _ _ _ _ _ us hl => match us, hl with | [_, _, _, _], _ => rfl) (ents_cons (ent_mono (e_4 h)) (ents_cons (ent_mono (e_5 h)) (ents_cons (ent_mono (e_8 h)) (ents_cons (ent_mono (e_47 h)) ents_nil)))) (fun z => by cases z) fun row n ds Qd hh => hh _ (k_48 T 65)
theorem e_49 (h : Hd fn K mg base T) : EntOk P w K mg base T 104 ⟨"supremum", iSu.su, 3, []⟩ :=
  ent_of h 39 49 "supremum" ["half_planes", "p", "q", "found", "one", "place", "other"] ["half_planes", "p", "q"] (some 3) [fSg iSu, fPb iSu, fLeast iSu.em.hp.od.mp.ra] false 91 iSu.su rfl ⟨rfl, rfl, rfl, by decide +kernel, rfl, by decide +kernel, by decide +kernel⟩ (fun _ _ _ _ _ _ us hl => match us, hl with | [_, _, _], _ => rfl) (ents_cons (ent_mono (e_46 h)) (ents_cons (ent_mono (e_48 h)) (ents_cons (ent_mono (e_13 h)) ents_nil))) (fun z => by cases z) fun row n ds Qd hh => hh _ (k_49 T 91)
theorem e_50 (h : Hd fn K mg base T) : EntOk P w K mg base T 117 ⟨"infimum", iSu.inf, 3, []⟩ :=
  ent_of h 40 50 "infimum" ["half_planes", "p", "q", "found"] ["half_planes", "p", "q"] none [fSu iSu, fNeg iSu.em.hp.od.mp.ra] false 104 iSu.inf rfl ⟨rfl, rfl, rfl, by decide +kernel, rfl, by decide +kernel, by decide +kernel⟩ (fun _ _ _ _ _ _ us hl => match us, hl with | [_, _, _], _ => rfl) (ents_cons (ent_mono (e_49 h)) (ents_cons (ent_mono (e_6 h)) ents_nil)) (fun z => by cases z) fun row n ds Qd hh => hh _ (k_50 T 104)
theorem e_51 (h : Hd fn K mg base T) : EntOk P w K mg base T 130 ⟨"direction_range", iSu.dr, 3, []⟩ :=
  ent_of h 41 51 "direction_range" ["half_planes", "p", "q"] ["half_planes", "p", "q"] none [fSu iSu, fInf iSu, fEmp iSu.em] false 117 iSu.dr rfl ⟨rfl, rfl, rfl, by decide +kernel, rfl, by decide +kernel, by decide +kernel⟩ (fun _ _ _ _ _ _ us hl => match us, hl with | [_, _, _], _ => rfl) (ents_cons (ent_mono (e_49 h)) (ents_cons (ent_mono (e_50 h)) (ents_cons (ent_mono (e_45 h)) ents_nil))) (fun z => by cases z) fun row n ds Qd hh => hh _ (k_51 T 117)
theorem e_52 (h : Hd fn K mg base T) : EntOk P w K mg base T 130 ⟨"line_of", iSu.li, 1, []⟩ :=
  ent_of h 42 52 "line_of" ["half_planes", "one"] ["half_planes"] none [fInf iSu, fFr iSu.em.hp.od.mp.ra] false 117 iSu.li rfl ⟨rfl, rfl, rfl, by decide +kernel, rfl, by decide +kernel, by decide +kernel⟩ (fun _ _ _ _ _ _ us hl => match us, hl with | [_], _ => rfl) (ents_cons (ent_mono (e_50 h)) (ents_cons (ent_mono (e_4 h)) ents_nil)) (fun z => by cases z) fun row n ds Qd hh => hh _ (k_52 T 117)
theorem e_53 (h : Hd fn K mg base T) : EntOk P w K mg base T 143 ⟨"region_kind", iSu.ki, 1, []⟩ :=
  ent_of h 43 53 "region_kind" ["half_planes", "line", "lower", "upper"] ["half_planes"] none [fDr iSu, fFr iSu.em.hp.od.mp.ra, fEmp iSu.em, fLi iSu] false 130 iSu.ki rfl ⟨rfl, rfl, rfl, by decide +kernel, rfl, by decide +kernel, by decide +kernel⟩ (fun _ _ _ _ _ _ us hl => match us, hl with | [_], _ => rfl) (ents_cons (ent_mono (e_51 h)) (ents_cons (ent_mono (e_4 h)) (ents_cons (ent_mono (e_45 h)) (ents_cons (ent_mono (e_52 h)) ents_nil)))) (fun z => by cases z) fun row n ds Qd hh => hh _ (k_53 T 130)
theorem e_54 (h : Hd fn K mg base T) : EntOk P w K mg base T 143 ⟨"sample_ray", iSm.smp, 1, []⟩ :=
  ent_of h 44 54 "sample_ray" ["half_planes", "heights", "height", "fixed", "slopes"] ["half_planes"] none [fDr iSm.su, fNear iSm.su.em.hp.od.mp.ra, fMk iSm.su.em.hp, fNeg iSm.su.em.hp.od.mp.ra] false 130 iSm.smp rfl ⟨rfl, rfl, rfl, by decide +kernel, rfl, by decide +kernel, by decide +kernel⟩ (fun _ _ _ _ _ _ us hl => match us, hl with | [_], _ => rfl) (ents_cons (ent_mono (e_51 h)) (ents_cons (ent_mono (e_15 h)) (ents_cons (ent_mono (e_34 h)) (ents_cons (ent_mono (e_6 h)) ents_nil)))) (fun z => by cases z) fun row n ds Qd hh => hh _ (k_54 T 130)
theorem e_56 (h : Hd fn K mg base T) : EntOk P w K mg base T 117 ⟨"is_implied", iSm.imp, 2, []⟩ :=
  ent_of h 45 56 "is_implied" ["half_planes", "half_plane", "bound"] ["half_planes", "half_plane"] none [fEmp iSm.su.em, fSu iSm.su, fFr iSm.su.em.hp.od.mp.ra, fCmp iSm.su.em.hp.od.mp.ra] false 104 iSm.imp rfl ⟨rfl, rfl, rfl, by decide +kernel, rfl, by decide +kernel, by decide +kernel⟩ (fun _ _ _ _ _ _ us hl => match us, hl with | [_, _], _ => rfl) (ents_cons (ent_mono (e_45 h)) (ents_cons (ent_mono (e_49 h)) (ents_cons (ent_mono (e_4 h)) (ents_cons (ent_mono (e_11 h)) ents_nil)))) (fun z => by cases z) fun row n ds Qd hh => hh _ (k_56 T 104)
theorem e_58 (h : Hd fn K mg base T) : EntOk P w K mg base T 91 ⟨"planes_of", iCa.pl, 1, []⟩ :=
  ent_of h 46 58 "planes_of" ["train", "edge", "half_plane"] ["train"] none [fHp iCa.sm.su.em.hp] false 78 iCa.pl rfl ⟨rfl, rfl, rfl, by decide +kernel, rfl, by decide +kernel, by decide +kernel⟩ (fun _ _ _ _ _ _ us hl => match us, hl with | [_], _ => rfl) (ents_cons (ent_mono (e_36 h)) ents_nil) (fun z => by cases z) fun row n ds Qd hh => hh _ (k_58 T 78)
theorem e_59 (h : Hd fn K mg base T) : EntOk P w K mg base T 130 ⟨"needed", iCa.ne, 1, []⟩ :=
  ent_of h 47 59 "needed" ["half_planes", "different", "found", "half_plane", "others", "one"] ["half_planes"] (some 2) [fOrd iCa.sm.su.em.hp.od, fImp iCa.sm] false 117 iCa.ne rfl ⟨rfl, rfl, rfl, by decide +kernel, rfl, by decide +kernel, by decide +kernel⟩ (fun _ _ _ _ _ _ us hl => match us, hl with | [_], _ => rfl) (ents_cons (ent_mono (e_29 h)) (ents_cons (ent_mono (e_56 h)) ents_nil)) (fun z => by cases z) fun row n ds Qd hh => hh _ (k_59 T 117)
theorem e_60 (h : Hd fn K mg base T) : EntOk P w K mg base T 143 ⟨"carrier", iCa.ca, 1, []⟩ :=
  ent_of h 48 60 "carrier" ["half_planes", "line"] ["half_planes"] none [fLi iCa.sm.su, fOrd iCa.sm.su.em.hp.od, fOpp iCa.sm.su.em.hp.od] false 130 iCa.ca rfl ⟨rfl, rfl, rfl, by decide +kernel, rfl, by decide +kernel, by decide +kernel⟩ (fun _ _ _ _ _ _ us hl => match us, hl with | [_], _ => rfl) (ents_cons (ent_mono (e_52 h)) (ents_cons (ent_mono (e_29 h)) (ents_cons (ent_mono (e_25 h)) ents_nil))) (fun z => by cases z) fun row n ds Qd hh => hh _ (k_60 T 130)
theorem e_61 (h : Hd fn K mg base T) : EntOk P w K mg base T 156 ⟨"line_planes", iCa.lp, 1, []⟩ :=
  ent_of h 49 61 "line_planes" N61 ["half_planes"] (some 3) [fCa iCa, fCd iCa.sm.su.em.hp.od.mp.ra, fOpp iCa.sm.su.em.hp.od, fFr iCa.sm.su.em.hp.od.mp.ra, fSu iCa.sm.su, fMk iCa.sm.su.em.hp, fOrd iCa.sm.su.em.hp.od] false 143 iCa.lp rfl ⟨rfl, rfl, rfl, by decide +kernel, rfl, by decide +kernel, by decide +kernel⟩ (fun _ _ _ _ _ _ us hl => match us, hl with | [_], _ => rfl) (ents_cons (ent_mono (e_60 h)) (ents_cons (ent_mono (e_3 h)) (ents_cons (ent_mono (e_25 h)) (ents_cons (ent_mono (e_4 h)) (ents_cons (ent_mono (e_49 h)) (ents_cons (ent_mono (e_34 h)) (ents_cons (ent_mono (e_29 h)) ents_nil))))))) (fun z => by cases z) fun row n ds Qd hh => hh _ (k_61 T 143)
theorem e_62 (h : Hd fn K mg base T) : EntOk P w K mg base T 104 ⟨"point_planes", iCa.pp, 1, []⟩ :=
  ent_of h 50 62 "point_planes" ["ray", "height", "slope", "corner"] ["ray"] none [fMk iCa.sm.su.em.hp, fNeg iCa.sm.su.em.hp.od.mp.ra, fAdd iCa.sm.su.em.hp.od.mp.ra, fOrd iCa.sm.su.em.hp.od] false 91 iCa.pp rfl ⟨rfl, rfl, rfl, by decide +kernel, rfl, by decide +kernel, by decide +kernel⟩ (fun _ _ _ _ _ _ us hl => match us, hl with | [_], _ => rfl) (ents_cons (ent_mono (e_34 h)) (ents_cons (ent_mono (e_6 h)) (ents_cons (ent_mono (e_5 h)) (ents_cons (ent_mono (e_29 h)) ents_nil)))) (fun z => by cases z) fun row n ds Qd hh => hh _ (k_62 T 91)
theorem e_63 (h : Hd fn K mg base T) : EntOk P w K mg base T 169 ⟨"canonical_half_planes", iCb.ch, 1, []⟩ :=
  ent_of h 51 63 "canonical_half_planes" ["half_planes", "kind"] ["half_planes"] none [fKi iCb.ca.sm.su, fOrd iCb.ca.sm.su.em.hp.od, fNe iCb.ca, fLp iCb.ca, fPp iCb.ca, fSmp iCb.ca.sm] false 156 iCb.ch rfl ⟨rfl, rfl, rfl, by decide +kernel, rfl, by decide +kernel, by decide +kernel⟩ (fun _ _ _ _ _ _ us hl => match us, hl with | [_], _ => rfl) (ents_cons (ent_mono (e_53 h)) (ents_cons (ent_mono (e_29 h)) (ents_cons (ent_mono (e_59 h)) (ents_cons (ent_mono (e_61 h)) (ents_cons (ent_mono (e_62 h)) (ents_cons (ent_mono (e_54 h)) ents_nil)))))) (fun z => by cases z) fun row n ds Qd hh => hh _ (k_63 T 156)
theorem e_64 (h : Hd fn K mg base T) : EntOk P w K mg base T 156 ⟨"base_rays", iCb.br, 1, []⟩ :=
  ent_of h 52 64 "base_rays" ["half_planes", "kind", "p", "q", "r", "size", "near"] ["half_planes"] none [fKi iCb.ca.sm.su, fSmp iCb.ca.sm, fCa iCb.ca, fFr iCb.ca.sm.su.em.hp.od.mp.ra, fAdd iCb.ca.sm.su.em.hp.od.mp.ra] false 143 iCb.br rfl ⟨rfl, rfl, rfl, by decide +kernel, rfl, by decide +kernel, by decide +kernel⟩ (fun _ _ _ _ _ _ us hl => match us, hl with | [_], _ => rfl) (ents_cons (ent_mono (e_53 h)) (ents_cons (ent_mono (e_54 h)) (ents_cons (ent_mono (e_60 h)) (ents_cons (ent_mono (e_4 h)) (ents_cons (ent_mono (e_5 h)) ents_nil))))) (fun z => by cases z) fun row n ds Qd hh => hh _ (k_64 T 143)
theorem e_65 (h : Hd fn K mg base T) : EntOk P w K mg base T 182 ⟨"canonical_form", iCb.cf, 1, []⟩ :=
  ent_of h 53 65 "canonical_form" ["train", "half_planes", "transfer", "exits", "ray"] ["train"] none [fPl iCb.ca, fTr iCb.ca.sm.su.em.hp.od.mp, fAp iCb.ca.sm.su.em.hp.od.mp, fBr iCb, fKi iCb.ca.sm.su, fCh iCb] false 169 iCb.cf rfl ⟨rfl, rfl, rfl, by decide +kernel, rfl, by decide +kernel, by decide +kernel⟩ (fun _ _ _ _ _ _ us hl => match us, hl with | [_], _ => rfl) (ents_cons (ent_mono (e_58 h)) (ents_cons (ent_mono (e_22 h)) (ents_cons (ent_mono (e_20 h)) (ents_cons (ent_mono (e_64 h)) (ents_cons (ent_mono (e_53 h)) (ents_cons (ent_mono (e_63 h)) ents_nil)))))) (fun z => by cases z) fun row n ds Qd hh => hh _ (k_65 T 169)
theorem e_66 (h : Hd fn K mg base T) : EntOk P w K mg base T 195 ⟨"are_equivalent", iCb.ae, 2, []⟩ :=
  ent_of h 54 66 "are_equivalent" ["train", "other"] ["train", "other"] none [fCf iCb] false 182 iCb.ae rfl ⟨rfl, rfl, rfl, by decide +kernel, rfl, by decide +kernel, by decide +kernel⟩ (fun _ _ _ _ _ _ us hl => match us, hl with | [_, _], _ => rfl) (ents_cons (ent_mono (e_65 h)) ents_nil) (fun z => by cases z) fun row n ds Qd hh => hh _ (k_66 T 182)
theorem e_67 (h : Hd fn K mg base T) : EntOk P w K mg base T 13 ⟨"without_edge", iSi.wo, 2, []⟩ :=
  ent_of h 55 67 "without_edge" ["train", "edge", "index", "side", "stop"] ["train", "edge"] none [] false 0 iSi.wo rfl ⟨rfl, rfl, rfl, by decide +kernel, rfl, by decide +kernel, by decide +kernel⟩ (fun _ _ _ _ _ _ us hl => match us, hl with | [_, _], _ => rfl) ents_nil (fun z => by cases z) fun row n ds Qd hh => hh _ (k_67 T 0)
theorem e_68 (h : Hd fn K mg base T) : EntOk P w K mg base T 130 ⟨"is_redundant", iSi.rd, 3, []⟩ :=
  ent_of h 56 68 "is_redundant" ["train", "edge", "half_plane", "others"] ["train", "edge", "half_plane"] none [fPl iSi.cb.ca, fWo iSi, fEmp iSi.cb.ca.sm.su.em, fImp iSi.cb.ca.sm] false 117 iSi.rd rfl ⟨rfl, rfl, rfl, by decide +kernel, rfl, by decide +kernel, by decide +kernel⟩ (fun _ _ _ _ _ _ us hl => match us, hl with | [_, _, _], _ => rfl) (ents_cons (ent_mono (e_58 h)) (ents_cons (ent_mono (e_67 h)) (ents_cons (ent_mono (e_45 h)) (ents_cons (ent_mono (e_56 h)) ents_nil)))) (fun z => by cases z) fun row n ds Qd hh => hh _ (k_68 T 117)
theorem e_69 (h : Hd fn K mg base T) : EntOk P w K mg base T 143 ⟨"redundant_edges", iSj.re, 1, []⟩ :=
  ent_of h 57 69 "redundant_edges" ["train", "edge", "half_plane"] ["train"] none [fHp iSj.si.cb.ca.sm.su.em.hp, fRd iSj.si] false 130 iSj.re rfl ⟨rfl, rfl, rfl, by decide +kernel, rfl, by decide +kernel, by decide +kernel⟩ (fun _ _ _ _ _ _ us hl => match us, hl with | [_], _ => rfl) (ents_cons (ent_mono (e_36 h)) (ents_cons (ent_mono (e_68 h)) ents_nil)) (fun z => by cases z) fun row n ds Qd hh => hh _ (k_69 T 130)
theorem e_70 (h : Hd fn K mg base T) : EntOk P w K mg base T 156 ⟨"simplify", iSk.sim, 1, []⟩ :=
  ent_of h 58 70 "simplify" ["train", "found", "edges", "element"] ["train"] none [fRe iSk.sj, fWo iSk.sj.si] false 143 iSk.sim rfl ⟨rfl, rfl, rfl, by decide +kernel, rfl, by decide +kernel, by decide +kernel⟩ (fun _ _ _ _ _ _ us hl => match us, hl with | [_], _ => rfl) (ents_cons (ent_mono (e_69 h)) (ents_cons (ent_mono (e_67 h)) ents_nil)) (fun z => by cases z) fun row n ds Qd hh => hh _ (k_70 T 143)
theorem e_72 (h : Hd fn K mg base T) : EntOk P w K mg base T 39 ⟨"meeting", iSh.me, 2, []⟩ :=
  ent_of h 59 72 "meeting" ["first", "second", "whole", "height", "slope"] ["first", "second"] none [fDet iSh.em.hp, fFr iSh.em.hp.od.mp.ra] false 26 iSh.me rfl ⟨rfl, rfl, rfl, by decide +kernel, rfl, by decide +kernel, by decide +kernel⟩ (fun _ _ _ _ _ _ us hl => match us, hl with | [_, _], _ => rfl) (ents_cons (ent_mono (e_39 h)) (ents_cons (ent_mono (e_4 h)) ents_nil)) (fun z => by cases z) fun row n ds Qd hh => hh _ (k_72 T 26)
theorem e_73 (h : Hd fn K mg base T) : EntOk P w K mg base T 78 ⟨"is_before", iSh.ib, 2, []⟩ :=
  ent_of h 60 73 "is_before" ["first", "second", "found"] ["first", "second"] none [fCmp iSh.em.hp.od.mp.ra] false 65 iSh.ib rfl ⟨rfl, rfl, rfl, by decide +kernel, rfl, by decide +kernel, by decide +kernel⟩ (fun _ _ _ _ _ _ us hl => match us, hl with | [_, _], _ => rfl) (ents_cons (ent_mono (e_11 h)) ents_nil) (fun z => by cases z) fun row n ds Qd hh => hh _ (k_73 T 65)
theorem e_74 (h : Hd fn K mg base T) : EntOk P w K mg base T 91 ⟨"put_in_order", iSh.pu, 2, []⟩ :=
  ent_of h 61 74 "put_in_order" ["rays", "ray", "place", "one"] ["rays", "ray"] none [fIb iSh] false 78 iSh.pu rfl ⟨rfl, rfl, rfl, by decide +kernel, rfl, by decide +kernel, by decide +kernel⟩ (fun _ _ _ _ _ _ us hl => match us, hl with | [_, _], _ => rfl) (ents_cons (ent_mono (e_73 h)) ents_nil) (fun z => by cases z) fun row n ds Qd hh => hh _ (k_74 T 78)
theorem e_75 (h : Hd fn K mg base T) : EntOk P w K mg base T 104 ⟨"corners", iLa.cor, 1, []⟩ :=
  ent_of h 62 75 "corners" ["half_planes", "found", "place", "one", "other", "ray"] ["half_planes"] none [fMe iSh, fHas iSh.em.hp, fPu iSh] false 91 iLa.cor rfl ⟨rfl, rfl, rfl, by decide +kernel, rfl, by decide +kernel, by decide +kernel⟩ (fun _ _ _ _ _ _ us hl => match us, hl with | [_], _ => rfl) (ents_cons (ent_mono (e_72 h)) (ents_cons (ent_mono (e_38 h)) (ents_cons (ent_mono (e_74 h)) ents_nil))) (fun z => by cases z) fun row n ds Qd hh => hh _ (k_75 T 91)
theorem e_77 (h : Hd fn K mg base T) : EntOk P w K mg base T 156 ⟨"sample_at", iTe.sa, 4, []⟩ :=
  ent_of h 63 77 "sample_at" ["half_planes", "p", "q", "value", "line"] ["half_planes", "p", "q", "value"] none [fMk iTe.ca.sm.su.em.hp, fNeg iTe.ca.sm.su.em.hp.od.mp.ra, fSmp iTe.ca.sm] false 143 iTe.sa rfl ⟨rfl, rfl, rfl, by decide +kernel, rfl, by decide +kernel, by decide +kernel⟩ (fun _ _ _ _ _ _ us hl => match us, hl with | [_, _, _, _], _ => rfl) (ents_cons (ent_mono (e_34 h)) (ents_cons (ent_mono (e_6 h)) (ents_cons (ent_mono (e_54 h)) ents_nil))) (fun z => by cases z) fun row n ds Qd hh => hh _ (k_77 T 143)
theorem e_78 (h : Hd fn K mg base T) : EntOk P w K mg base T 130 ⟨"outside_value", iTe.ov, 2, []⟩ :=
  ent_of h 64 78 "outside_value" ["half_planes", "half_plane", "p", "q", "bound", "upper"] ["half_planes", "half_plane"] none [fFr iTe.ca.sm.su.em.hp.od.mp.ra, fSu iTe.ca.sm.su, fInf iTe.ca.sm.su, fAdd iTe.ca.sm.su.em.hp.od.mp.ra, fLt iTe.ca.sm.su.em.hp.od.mp.ra, fGreat iTe.ca.sm.su.em.hp.od.mp.ra] false 117 iTe.ov rfl ⟨rfl, rfl, rfl, by decide +kernel, rfl, by decide +kernel, by decide +kernel⟩ (fun _ _ _ _ _ _ us hl => match us, hl with | [_, _], _ => rfl) (ents_cons (ent_mono (e_4 h)) (ents_cons (ent_mono (e_49 h)) (ents_cons (ent_mono (e_50 h)) (ents_cons (ent_mono (e_5 h)) (ents_cons (ent_mono (e_12 h)) (ents_cons (ent_mono (e_14 h)) ents_nil)))))) (fun z => by cases z) fun row n ds Qd hh => hh _ (k_78 T 117)
theorem e_79 (h : Hd fn K mg base T) : EntOk P w K mg base T 169 ⟨"ray_outside", iTe.ro, 2, []⟩ :=
  ent_of h 65 79 "ray_outside" ["half_planes", "others", "half_plane", "value"] ["half_planes", "others"] none [fEmp iTe.ca.sm.su.em, fOv iTe, fSa iTe, fFr iTe.ca.sm.su.em.hp.od.mp.ra] false 156 iTe.ro rfl ⟨rfl, rfl, rfl, by decide +kernel, rfl, by decide +kernel, by decide +kernel⟩ (fun _ _ _ _ _ _ us hl => match us, hl with | [_, _], _ => rfl) (ents_cons (ent_mono (e_45 h)) (ents_cons (ent_mono (e_78 h)) (ents_cons (ent_mono (e_77 h)) (ents_cons (ent_mono (e_4 h)) ents_nil)))) (fun z => by cases z) fun row n ds Qd hh => hh _ (k_79 T 156)
theorem e_80 (h : Hd fn K mg base T) : EntOk P w K mg base T 130 ⟨"other_value", iTe.ot, 4, []⟩ :=
  ent_of h 66 80 "other_value" ["half_planes", "p", "q", "part", "upper", "lower"] ["half_planes", "p", "q", "part"] none [fSu iTe.ca.sm.su, fInf iTe.ca.sm.su, fAdd iTe.ca.sm.su.em.hp.od.mp.ra, fGreat iTe.ca.sm.su.em.hp.od.mp.ra, fNeg iTe.ca.sm.su.em.hp.od.mp.ra] false 117 iTe.ot rfl ⟨rfl, rfl, rfl, by decide +kernel, rfl, by decide +kernel, by decide +kernel⟩ (fun _ _ _ _ _ _ us hl => match us, hl with | [_, _, _, _], _ => rfl) (ents_cons (ent_mono (e_49 h)) (ents_cons (ent_mono (e_50 h)) (ents_cons (ent_mono (e_5 h)) (ents_cons (ent_mono (e_14 h)) (ents_cons (ent_mono (e_6 h)) ents_nil))))) (fun z => by cases z) fun row n ds Qd hh => hh _ (k_80 T 117)
theorem e_81 (h : Hd fn K mg base T) : EntOk P w K mg base T 169 ⟨"differing_ray", iTe.di, 4, []⟩ :=
  ent_of h 67 81 "differing_ray" ["half_planes", "p", "q", "part", "value"] ["half_planes", "p", "q", "part"] none [fSmp iTe.ca.sm, fOt iTe, fSa iTe, fSub iTe.ca.sm.su.em.hp.od.mp.ra] false 156 iTe.di rfl ⟨rfl, rfl, rfl, by decide +kernel, rfl, by decide +kernel, by decide +kernel⟩ (fun _ _ _ _ _ _ us hl => match us, hl with | [_, _, _, _], _ => rfl) (ents_cons (ent_mono (e_54 h)) (ents_cons (ent_mono (e_80 h)) (ents_cons (ent_mono (e_77 h)) (ents_cons (ent_mono (e_7 h)) ents_nil)))) (fun z => by cases z) fun row n ds Qd hh => hh _ (k_81 T 156)
theorem e_82 (h : Hd fn K mg base T) : EntOk P w K mg base T 182 ⟨"distinguishing_ray", iLa.ds, 2, []⟩ :=
  ent_of h 68 82 "distinguishing_ray" ["train", "other", "mine", "theirs", "ray", "parts", "one", "two"] ["train", "other"] none [fPl iTe.ca, fRo iTe, fEmp iTe.ca.sm.su.em, fTr iTe.ca.sm.su.em.hp.od.mp, fSub iTe.ca.sm.su.em.hp.od.mp.ra, fDi iTe] false 169 iLa.ds rfl ⟨rfl, rfl, rfl, by decide +kernel, rfl, by decide +kernel, by decide +kernel⟩ (fun _ _ _ _ _ _ us hl => match us, hl with | [_, _], _ => rfl) (ents_cons (ent_mono (e_58 h)) (ents_cons (ent_mono (e_79 h)) (ents_cons (ent_mono (e_45 h)) (ents_cons (ent_mono (e_22 h)) (ents_cons (ent_mono (e_7 h)) (ents_cons (ent_mono (e_81 h)) ents_nil)))))) (fun z => by cases z) fun row n ds Qd hh => hh _ (k_82 T 169)
theorem e_84 (h : Hd fn K mg base T) : EntOk P w K mg base T 13 ⟨"_law_cell", iDr.cell, 2, []⟩ :=
  ent_of h 69 84 "_law_cell" ["_law_script", "_law_k"] ["_law_script", "_law_k"] none [] false 0 iDr.cell rfl ⟨rfl, rfl, rfl, by decide +kernel, rfl, by decide +kernel, by decide +kernel⟩ (fun _ _ _ _ _ _ us hl => match us, hl with | [_, _], _ => rfl) ents_nil (fun z => by cases z) fun row n ds Qd hh => hh _ (k_84 T 0)
theorem e_85 (h : Hd fn K mg base T) : EntOk P w K mg base T 13 ⟨"_law_row", iDr.rw, 3, []⟩ :=
  ent_of h 70 85 "_law_row" ["_law_cell_here", "_law_k", "_law_many", "_law_row_here", "_law_turn", "_law_seed"] ["_law_cell_here", "_law_k", "_law_many"] (some 3) [] false 0 iDr.rw rfl ⟨rfl, rfl, rfl, by decide +kernel, rfl, by decide +kernel, by decide +kernel⟩ (fun _ _ _ _ _ _ us hl => match us, hl with | [_, _, _], _ => rfl) ents_nil (fun z => by cases z) fun row n ds Qd hh => hh _ (k_85 T 0)
theorem e_87 (h : Hd fn K mg base T) : EntOk P w K mg base T 13 ⟨"_law_draw", iRn.dr, 2, []⟩ :=
  ent_of h 72 87 "_law_draw" ["_law_box_here", "_law_many", "_law_at"] ["_law_box_here", "_law_many"] none [] false 0 iRn.dr rfl ⟨rfl, rfl, rfl, by decide +kernel, rfl, by decide +kernel, by decide +kernel⟩ (fun _ _ _ _ _ _ us hl => match us, hl with | [_, _], _ => rfl) ents_nil (fun z => by cases z) fun row n ds Qd hh => hh _ (k_87 T 0)
theorem e_88 (h : Hd fn K mg base T) : EntOk P w K mg base T 13 ⟨"_law_frac", iLw.fra, 2, []⟩ :=
  ent_of h 73 88 "_law_frac" ["_law_top", "_law_bottom", "_law_one", "_law_other_here"] ["_law_top", "_law_bottom"] none [] false 0 iLw.fra rfl ⟨rfl, rfl, rfl, by decide +kernel, rfl, by decide +kernel, by decide +kernel⟩ (fun _ _ _ _ _ _ us hl => match us, hl with | [_, _], _ => rfl) ents_nil (fun z => by cases z) fun row n ds Qd hh => hh _ (k_88 T 0)
theorem e_89 (h : Hd fn K mg base T) : EntOk P w K mg base T 26 ⟨"_law_add", iLw.add, 2, []⟩ :=
  ent_of h 74 89 "_law_add" ["_law_one", "_law_other_here"] ["_law_one", "_law_other_here"] none [gFra iLw] false 13 iLw.add rfl ⟨rfl, rfl, rfl, by decide +kernel, rfl, by decide +kernel, by decide +kernel⟩ (fun _ _ _ _ _ _ us hl => match us, hl with | [_, _], _ => rfl) (ents_cons (ent_mono (e_88 h)) ents_nil) (fun z => by cases z) fun row n ds Qd hh => hh _ (k_89 T 13)
theorem e_90 (h : Hd fn K mg base T) : EntOk P w K mg base T 13 ⟨"_law_neg", iLw.neg, 1, []⟩ :=
  ent_of h 75 90 "_law_neg" ["_law_one"] ["_law_one"] none [] false 0 iLw.neg rfl ⟨rfl, rfl, rfl, by decide +kernel, rfl, by decide +kernel, by decide +kernel⟩ (fun _ _ _ _ _ _ us hl => match us, hl with | [_], _ => rfl) ents_nil (fun z => by cases z) fun row n ds Qd hh => hh _ (k_90 T 0)
theorem e_91 (h : Hd fn K mg base T) : EntOk P w K mg base T 39 ⟨"_law_sub", iLw.sub, 2, []⟩ :=
  ent_of h 76 91 "_law_sub" ["_law_one", "_law_other_here"] ["_law_one", "_law_other_here"] none [gAdd iLw, gNeg iLw] false 26 iLw.sub rfl ⟨rfl, rfl, rfl, by decide +kernel, rfl, by decide +kernel, by decide +kernel⟩ (fun _ _ _ _ _ _ us hl => match us, hl with | [_, _], _ => rfl) (ents_cons (ent_mono (e_89 h)) (ents_cons (ent_mono (e_90 h)) ents_nil)) (fun z => by cases z) fun row n ds Qd hh => hh _ (k_91 T 26)
theorem e_92 (h : Hd fn K mg base T) : EntOk P w K mg base T 26 ⟨"_law_mul", iLw.mul, 2, []⟩ :=
  ent_of h 77 92 "_law_mul" ["_law_one", "_law_other_here"] ["_law_one", "_law_other_here"] none [gFra iLw] false 13 iLw.mul rfl ⟨rfl, rfl, rfl, by decide +kernel, rfl, by decide +kernel, by decide +kernel⟩ (fun _ _ _ _ _ _ us hl => match us, hl with | [_, _], _ => rfl) (ents_cons (ent_mono (e_88 h)) ents_nil) (fun z => by cases z) fun row n ds Qd hh => hh _ (k_92 T 13)
theorem e_93 (h : Hd fn K mg base T) : EntOk P w K mg base T 26 ⟨"_law_div", iLw.div, 2, []⟩ :=
  ent_of h 78 93 "_law_div" ["_law_one", "_law_other_here"] ["_law_one", "_law_other_here"] none [gFra iLw] false 13 iLw.div rfl ⟨rfl, rfl, rfl, by decide +kernel, rfl, by decide +kernel, by decide +kernel⟩ (fun _ _ _ _ _ _ us hl => match us, hl with | [_, _], _ => rfl) (ents_cons (ent_mono (e_88 h)) ents_nil) (fun z => by cases z) fun row n ds Qd hh => hh _ (k_93 T 13)
theorem e_94 (h : Hd fn K mg base T) : EntOk P w K mg base T 13 ⟨"_law_less", iLw.les, 2, []⟩ :=
  ent_of h 79 94 "_law_less" ["_law_one", "_law_other_here"] ["_law_one", "_law_other_here"] none [] false 0 iLw.les rfl ⟨rfl, rfl, rfl, by decide +kernel, rfl, by decide +kernel, by decide +kernel⟩ (fun _ _ _ _ _ _ us hl => match us, hl with | [_, _], _ => rfl) ents_nil (fun z => by cases z) fun row n ds Qd hh => hh _ (k_94 T 0)
theorem e_95 (h : Hd fn K mg base T) : EntOk P w K mg base T 26 ⟨"_law_fraction", iRn.fr, 1, []⟩ :=
  ent_of h 80 95 "_law_fraction" ["_law_box_here"] ["_law_box_here"] none [gFra iRn.lw, kDr iRn] false 13 iRn.fr rfl ⟨rfl, rfl, rfl, by decide +kernel, rfl, by decide +kernel, by decide +kernel⟩ (fun _ _ _ _ _ _ us hl => match us, hl with | [_], _ => rfl) (ents_cons (ent_mono (e_88 h)) (ents_cons (ent_mono (e_87 h)) ents_nil)) (fun z => by cases z) fun row n ds Qd hh => hh _ (k_95 T 13)
theorem e_96 (h : Hd fn K mg base T) : EntOk P w K mg base T 39 ⟨"_law_nonzero", iRn.nz, 1, []⟩ :=
  ent_of h 81 96 "_law_nonzero" ["_law_box_here", "_law_value"] ["_law_box_here"] none [kFr iRn] false 26 iRn.nz rfl ⟨rfl, rfl, rfl, by decide +kernel, rfl, by decide +kernel, by decide +kernel⟩ (fun _ _ _ _ _ _ us hl => match us, hl with | [_], _ => rfl) (ents_cons (ent_mono (e_95 h)) ents_nil) (fun z => by cases z) fun row n ds Qd hh => hh _ (k_96 T 26)
theorem e_97 (h : Hd fn K mg base T) : EntOk P w K mg base T 39 ⟨"_law_stop", iRn.st, 1, []⟩ :=
  ent_of h 82 97 "_law_stop" ["_law_box_here", "_law_lower", "_law_upper", "_law_kind"] ["_law_box_here"] none [gFra iRn.lw, gAdd iRn.lw, kDr iRn, kFr iRn] false 26 iRn.st rfl ⟨rfl, rfl, rfl, by decide +kernel, rfl, by decide +kernel, by decide +kernel⟩ (fun _ _ _ _ _ _ us hl => match us, hl with | [_], _ => rfl) (ents_cons (ent_mono (e_88 h)) (ents_cons (ent_mono (e_89 h)) (ents_cons (ent_mono (e_87 h)) (ents_cons (ent_mono (e_95 h)) ents_nil)))) (fun z => by cases z) fun row n ds Qd hh => hh _ (k_97 T 26)
theorem e_98 (h : Hd fn K mg base T) : EntOk P w K mg base T 52 ⟨"_law_element", iRn.el, 1, []⟩ :=
  ent_of h 83 98 "_law_element" ["_law_box_here", "_law_kind"] ["_law_box_here"] none [kDr iRn, kFr iRn, kNz iRn, kSt iRn] false 39 iRn.el rfl ⟨rfl, rfl, rfl, by decide +kernel, rfl, by decide +kernel, by decide +kernel⟩ (fun _ _ _ _ _ _ us hl => match us, hl with | [_], _ => rfl) (ents_cons (ent_mono (e_87 h)) (ents_cons (ent_mono (e_95 h)) (ents_cons (ent_mono (e_96 h)) (ents_cons (ent_mono (e_97 h)) ents_nil)))) (fun z => by cases z) fun row n ds Qd hh => hh _ (k_98 T 39)
theorem e_99 (h : Hd fn K mg base T) : EntOk P w K mg base T 65 ⟨"_law_train", iEx.tr, 2, []⟩ :=
  ent_of h 84 99 "_law_train" ["_law_box_here", "_law_most", "_law_turn"] ["_law_box_here", "_law_most"] none [kDr iEx.rn, kEl iEx.rn] false 52 iEx.tr rfl ⟨rfl, rfl, rfl, by decide +kernel, rfl, by decide +kernel, by decide +kernel⟩ (fun _ _ _ _ _ _ us hl => match us, hl with | [_, _], _ => rfl) (ents_cons (ent_mono (e_87 h)) (ents_cons (ent_mono (e_98 h)) ents_nil)) (fun z => by cases z) fun row n ds Qd hh => hh _ (k_99 T 52)
theorem e_100 (h : Hd fn K mg base T) : EntOk P w K mg base T 52 ⟨"_law_go", iEx.go, 2, []⟩ :=
  ent_of h 85 100 "_law_go" ["_law_element_here", "_law_ray", "_law_height", "_law_slope"] ["_law_element_here", "_law_ray"] none [gAdd iEx.rn.lw, gMul iEx.rn.lw, gSub iEx.rn.lw, gDiv iEx.rn.lw] false 39 iEx.go rfl ⟨rfl, rfl, rfl, by decide +kernel, rfl, by decide +kernel, by decide +kernel⟩ (fun _ _ _ _ _ _ us hl => match us, hl with | [_, _], _ => rfl) (ents_cons (ent_mono (e_89 h)) (ents_cons (ent_mono (e_92 h)) (ents_cons (ent_mono (e_91 h)) (ents_cons (ent_mono (e_93 h)) ents_nil)))) (fun z => by cases z) fun row n ds Qd hh => hh _ (k_100 T 39)
theorem e_101 (h : Hd fn K mg base T) : EntOk P w K mg base T 26 ⟨"_law_blocks", iEx.bk, 2, []⟩ :=
  ent_of h 86 101 "_law_blocks" ["_law_element_here", "_law_ray"] ["_law_element_here", "_law_ray"] none [gLes iEx.rn.lw] false 13 iEx.bk rfl ⟨rfl, rfl, rfl, by decide +kernel, rfl, by decide +kernel, by decide +kernel⟩ (fun _ _ _ _ _ _ us hl => match us, hl with | [_, _], _ => rfl) (ents_cons (ent_mono (e_94 h)) ents_nil) (fun z => by cases z) fun row n ds Qd hh => hh _ (k_101 T 13)
theorem e_102 (h : Hd fn K mg base T) : EntOk P w K mg base T 65 ⟨"_law_exit", iEx.ex, 2, []⟩ :=
  ent_of h 87 102 "_law_exit" ["_law_train_here", "_law_ray", "_law_element_here"] ["_law_train_here", "_law_ray"] none [eGo iEx, eBk iEx] false 52 iEx.ex rfl ⟨rfl, rfl, rfl, by decide +kernel, rfl, by decide +kernel, by decide +kernel⟩ (fun _ _ _ _ _ _ us hl => match us, hl with | [_, _], _ => rfl) (ents_cons (ent_mono (e_100 h)) (ents_cons (ent_mono (e_101 h)) ents_nil)) (fun z => by cases z) fun row n ds Qd hh => hh _ (k_102 T 52)
theorem e_103 (h : Hd fn K mg base T) : EntOk P w K mg base T 52 ⟨"_law_other", iEx.ot, 2, []⟩ :=
  ent_of h 88 103 "_law_other" ["_law_box_here", "_law_train_here", "_law_found", "_law_element_here", "_law_kind", "_law_part", "_law_value"] ["_law_box_here", "_law_train_here"] (some 2) [kDr iEx.rn, kFr iEx.rn, kNz iEx.rn, gSub iEx.rn.lw, gNeg iEx.rn.lw] false 39 iEx.ot rfl ⟨rfl, rfl, rfl, by decide +kernel, rfl, by decide +kernel, by decide +kernel⟩ (fun _ _ _ _ _ _ us hl => match us, hl with | [_, _], _ => rfl) (ents_cons (ent_mono (e_87 h)) (ents_cons (ent_mono (e_95 h)) (ents_cons (ent_mono (e_96 h)) (ents_cons (ent_mono (e_91 h)) (ents_cons (ent_mono (e_90 h)) ents_nil))))) (fun z => by cases z) fun row n ds Qd hh => hh _ (k_103 T 39)
end
end RT
namespace RT
open PySem PySem.Spec PyProof.Rows L2 Hd0
/-! ### the box's def, the law's def -/
section
variable {P : Program} {w : World} {K : PySem.W.Frag} {mg : Str → Option Value} {base : Heap} {T : List Addr}
theorem sc86 : FnScope NB ["_law_script", "_law_first", "_law_last"] (defScope (top 86)) := ⟨rfl, rfl, rfl, by decide +kernel, rfl, by decide +kernel, by decide +kernel⟩
theorem e_box (h : Hd fn K mg base T) : ∃ f fd, FnOk P w K mg base CX0 26 f fd ["_law_script", "_law_first", "_law_last"] (spF K T 3 sBox) ∧ mg "_law_box" = some (.ref f) ∧ PySem.W.keepIn K (.ref f) = true ∧ Binds K fd ["_law_script", "_law_first", "_law_last"] [] := by
  obtain ⟨fd, F, hm, _⟩ := h.dfn 71 _ rfl
  have hcs : Ents P w K mg base T 13 (cB iDr) := ents_cons (e_84 h) (ents_cons (e_85 h) ents_nil)
  have ok := fnF_ok (P := P) (w := w) (base := base) (C := mkC NB none (cB iDr) konD false T 13 []) 12 sBox (stAt 86 0) (stAt 86 1) (retE (stAt 86 2)) (retP (stAt 86 2)) box_body F sc86 (call_of hcs) h.kon h.blt rfl fun row n ds Qd _ hq => w_box iDr T 13 row n ds Qd hq
  exact ⟨_, fd, ok, hm, F.kp, FunD.bindsN F fun _ _ _ _ _ _ us hl => match us, hl with | [_, _, _], _ => rfl⟩
theorem sc104 : FnScope NL ["_law_script"] (defScope (top 104)) := ⟨rfl, rfl, rfl, by decide +kernel, rfl, by decide +kernel, by decide +kernel⟩
theorem e_law (h : Hd fn K mg base T) {f : Addr} {fd : FuncData} (F : FunD K "law" "law" (defArgs (top 104)) (defBody (top 104)) (defScope (top 104)) [] [] f fd) : FnOk P w K mg base CX0 208 f fd ["_law_script"] (spL K T) := by
  obtain ⟨fb, fdb, kb, mb, pb, bb⟩ := e_box (P := P) (w := w) (base := base) h
  have hcs : Ents P w K mg base T 195 (csL iLa) := ents_cons (ent_mono (e_99 h)) (ents_cons (ent_mono (e_103 h)) (ents_cons (ent_mono (e_87 h)) (ents_cons (ent_mono (e_75 h)) (ents_cons (ent_mono (e_36 h)) (ents_cons (ent_mono (e_66 h)) (ents_cons (ent_mono (e_65 h)) (ents_cons (ent_mono (e_82 h)) (ents_cons (ent_mono (e_102 h)) (ents_cons (ent_mono (e_70 h)) ents_nil)))))))))
  exact law_ok (P := P) (w := w) (base := base) (C := mkC NL none (csL iLa) konD false T 195 []) 12 ((defBody (top 104)).drop 1) "_law_box" "_law_script" _ _ _ _ _ _ _ _ _ sBox fb fdb _ "_law_box_here" 1 0 rfl F sc104 rfl (call_of hcs) h.kon h.blt rfl (kb.mono (show 26 ≤ 195 by decide)) mb pb bb rfl (by decide) rfl (by decide) rfl (by decide)
    (fun ns _ Qd hq => ⟨ns, rfl, hq⟩) fun row ns _ => lw_all iLa T 195 row (fun d _ => d = .bool true) (wholes ns) fun _ => rfl
end
end RT
namespace RT
open PySem PySem.Spec PyProof.Rows L2 Hd0
/-! ### the end: code tables of the defs that the view holds -/
/-- what the ground says of each def in the view -/
def TabsOf (q : Program) (mg : Str → Option Value) (h : Heap) : Prop := ∀ e ∈ recsOf q, ∃ (a : Addr) (o : Obj) (fd : FuncData) (c P : Addr),
  mg e.name = some (.ref a) ∧ h.get? a = some o ∧ o.data = .func fd ∧ fd.code = .ref c ∧ PySem.W.CodeHd h c P ∧ h.get? P = some { cls := .none, data := .fields #[] }
theorem walk_gen {l : PySem.W.OpenLaw} {top k : Nat} {q : Program} {free : List Str} {XP : (Str → Option Value) → Heap → Prop} {YP : World → Heap → Prop} {d : DefRec} {y : Str} (hn : l.most = some top) (hs : top ≤ sizeLine) (hd0 : d.params.defaults = []) (room : Room k callerA)
    (prf : ∀ (w : World) (mg : Str → Option Value) (g : Addr) (h : Heap), YP w h → h.Ns mainGlobals mg → mg d.name = some (.ref g) → TabsOf q mg h → ∃ K : PySem.W.Frag, K.In h ∧ LamX.LawAtS l w K CX0 k top y mg g h) :
    PySem.W.WalkO q free XP YP l.row.toRowW d [] fun f vs => PySem.call f vs := by
  apply Att.attach_callB hn hd0
  intro w s₀ s mg mb g o pm cd doc a vs ns G Y _ _ _ hmg hobj hints hlen hbits hgens
  have tabs : TabsOf q mg s.heap := fun e he => by
    obtain ⟨a', o', fd', c', P', h1, h2, h3, h4, h5, h6⟩ := G.T.tab e he
    exact ⟨a', o', fd', c', P', h1, h2, h3, h4, .of h5 h6, h6.2⟩
  obtain ⟨K, KX, fd, cs, sp, hT, nT, C, hb, hsp, hF⟩ := prf w mg g _ Y G.T.g hmg tabs
  apply LamX.law_callTs KX G.T.g G.T.b G.T.builtins G.T.nolimit hgens hT nT C G.T.bmain hobj hints (Nat.le_trans hlen hs) room hF hb
  · exact fun H h1 h2 => hsp H a ns hlen hbits h1 h2
  · exact fun H e s' h => h
end RT
namespace RT
open PySem PySem.Spec PyProof.Rows L2 Hd0
/-! ### the end: facts put together -/
theorem fa_eq : fa = [.glo "ZERO", .glo "ONE", .glo "IDENTITY"] ++ fn.map (fun d => He.Fa.glo d.name) ++ bltNames.map He.Fa.free := by rfl
theorem fn_at : (fn.all fun d => decide (d.at_ = (d.name, none))) = true := by decide +kernel
abbrev qV : Program := PySem.W.view RR.prog [38, 42, 45, 104]
theorem rec_gen : (genN.all fun x => (recsOf qV).any fun e => e.name == x) = true := by kernel_rfl
theorem look_mem {K : PySem.W.Frag} {a : Addr} {o : Obj} : ∀ {L : List (Addr × Obj)}, L.lookup a = some o → (a, o) ∈ L
  | [], h => by cases h
  | (b, p) :: r, h => by
    rw [List.lookup_cons] at h
    cases q : (a == b) with
    | true =>
      rw [q] at h
      cases h
      rw [eq_of_beq q]
      exact List.mem_cons_self ..
    | false =>
      rw [q] at h
      exact List.mem_cons_of_mem _ (look_mem (K := K) h)
section
variable {K : PySem.W.Frag} {mg : Str → Option Value} {h base : Heap}
theorem fact_in (c : He.SaysD fa fn K) {f : He.Fa} (hf : f ∈ fa) : f.ok K = true := by
  obtain ⟨i, hi⟩ := List.mem_iff_getElem?.mp hf
  exact c.fact i hi
theorem glo_in (KX : K.In h) (G : h.Ns mainGlobals mg) (c : He.SaysD fa fn K) {d : He.DefD} (hd : d ∈ fn) : mg d.name = some (.ref (He.fAd K d.at_)) := by
  have e : d.at_ = (d.name, none) := of_decide_eq_true (List.all_eq_true.mp fn_at d hd)
  have f := He.glo_ok KX G (fact_in c (f := .glo d.name) (by rw [fa_eq]; exact List.mem_append_left _ (List.mem_append_right _ (List.mem_map_of_mem hd))))
  rw [f, e]
  rfl
theorem gl3 (KX : K.In h) (G : h.Ns mainGlobals mg) (c : He.SaysD fa fn K) {x : Str} (hx : x = "ZERO" ∨ x = "ONE" ∨ x = "IDENTITY") : mg x = some (.ref (He.ga K x)) := by
  refine He.glo_ok KX G (fact_in c (f := .glo x) ?_)
  rw [fa_eq]
  refine List.mem_append_left _ (List.mem_append_left _ ?_)
  rcases hx with rfl | rfl | rfl
  · exact List.mem_cons_self ..
  · exact List.mem_cons_of_mem _ (List.mem_cons_self ..)
  · exact List.mem_cons_of_mem _ (List.mem_cons_of_mem _ (List.mem_cons_self ..))
theorem kon_ok (KX : K.In h) (G : h.Ns mainGlobals mg) (c : He.SaysD fa fn K) (m : moreB K = true) : ∀ x d, konD x = some d → ∃ v u, mg x = some u ∧ RelV v u ∧ ∀ Vw, Dq K Vw v d := by
  obtain ⟨m1, m⟩ := He.ba m
  obtain ⟨m2, m⟩ := He.ba m
  obtain ⟨m3, _⟩ := He.ba m
  have z : ∀ Vw, Dq K Vw (.ref (He.ga K "ZERO")) (encQ 0) := fun Vw => .tup (He.tupB_ok m1 Vw) (.cons (.int 0) (.cons (.int 1) .nil))
  have o : ∀ Vw, Dq K Vw (.ref (He.ga K "ONE")) (encQ 1) := fun Vw => .tup (He.tupB_ok m2 Vw) (.cons (.int 1) (.cons (.int 1) .nil))
  intro x d hx
  unfold konD at hx
  split at hx
  · rename_i e
    cases hx
    have e : x = "ZERO" := eq_of_beq e
    subst e
    exact ⟨.ref (He.ga K "ZERO"), _, gl3 KX G c (.inl rfl), rfl, z⟩
  · split at hx
    · rename_i e
      cases hx
      have e : x = "ONE" := eq_of_beq e
      subst e
      exact ⟨.ref (He.ga K "ONE"), _, gl3 KX G c (.inr (.inl rfl)), rfl, o⟩
    · split at hx
      · rename_i e
        cases hx
        have e : x = "IDENTITY" := eq_of_beq e
        subst e
        exact ⟨.ref (He.ga K "IDENTITY"), _, gl3 KX G c (.inr (.inr rfl)), rfl, fun Vw => .tup (He.tupB_ok m3 Vw) (.cons (o Vw) (.cons (z Vw) (.cons (z Vw) (.cons (o Vw) (.cons (z Vw) (.cons (z Vw) .nil))))))⟩
      · cases hx
theorem blt_ok (KX : K.In h) (G : h.Ns mainGlobals mg) (c : He.SaysD fa fn K) : ∀ f ∈ bltNames, mg f = none := fun f hf =>
  He.free_ok KX G (fact_in c (f := .free f) (by rw [fa_eq]; exact List.mem_append_right _ (List.mem_map_of_mem hf)))
theorem obj_ok (m : moreB K = true) {a : Addr} {o : Obj} (e : K.lookup a = some o) : okO o = true := by
  obtain ⟨_, m⟩ := He.ba m
  obtain ⟨_, m⟩ := He.ba m
  obtain ⟨_, m⟩ := He.ba m
  exact List.all_eq_true.mp m _ (look_mem (K := K) e)
/-- the code object and its table of a def with a generator expression -/
theorem tab_ex (tb : TabsOf qV mg h) {x : Str} (hx : x ∈ genN) : ∃ (a : Addr) (o : Obj) (fd : FuncData) (c P : Addr), mg x = some (.ref a) ∧ h.get? a = some o ∧ o.data = .func fd ∧ fd.code = .ref c ∧ PySem.W.CodeHd h c P ∧ h.get? P = some { cls := .none, data := .fields #[] } := by
  obtain ⟨e, he, hn⟩ := List.any_eq_true.mp (List.all_eq_true.mp rec_gen x hx)
  have := tb e he
  rw [eq_of_beq hn] at this
  exact this
theorem law_at (KX : K.In h) (G : h.Ns mainGlobals mg) (c : He.SaysD fa fn K) (m : moreB K = true) (tb : TabsOf qV mg h) {l : PySem.W.OpenLaw} {w : World} {fa' : Addr} (hfa : mg ("law" : Str) = some (.ref fa')) : LamX.LawAtS l w K CX0 208 63 "_law_script" mg fa' h := by
  obtain ⟨a1, o1, fd1, c1, P1, x1, y1, z1, u1, v1, w1⟩ := tab_ex tb (x := "triple_weights") (List.mem_cons_self ..)
  obtain ⟨a2, o2, fd2, c2, P2, x2, y2, z2, u2, v2, w2⟩ := tab_ex tb (x := "contains_ray") (List.mem_cons_of_mem _ (List.mem_cons_self ..))
  obtain ⟨a3, o3, fd3, c3, P3, x3, y3, z3, u3, v3, w3⟩ := tab_ex tb (x := "is_empty") (List.mem_cons_of_mem _ (List.mem_cons_of_mem _ (List.mem_cons_self ..)))
  have hdf : ∀ base : Heap, K.In base → base.Ns mainGlobals mg → (∀ p ∈ [(c1, P1), (c2, P2), (c3, P3)], LamX.TabB base mg p.1 p.2) → Hd fn K mg base [P1, P2, P3] := fun base bX bG bT => by
    refine ⟨blt_ok KX G c, kon_ok KX G c m, fun k d hk => ?_⟩
    obtain ⟨fd, F⟩ := c.def_ k hk
    have hm := glo_in KX G c (List.mem_of_getElem? hk)
    refine ⟨fd, F, hm, fun hg => ?_⟩
    have key : ∀ (a : Addr) (o : Obj) (fd' : FuncData) (c' P' : Addr), mg d.name = some (.ref a) → h.get? a = some o → o.data = .func fd' → fd'.code = .ref c' → (c', P') ∈ [(c1, P1), (c2, P2), (c3, P3)] → ∃ c P', fd.code = .ref c ∧ GxR.TabB base mg c P' ∧ P' ∈ [P1, P2, P3] := fun a o fd' c' P' q1 q2 q3 q4 q5 => by
      obtain ⟨oc, od, dV, kV, doc, pm, an, cdv, ct, osl, rfl, lk, _⟩ := F.ex
      rw [hm] at q1
      cases q1
      have g := KX _ _ lk
      rw [q2] at g
      cases g
      cases q3
      have tt := bT _ q5
      refine ⟨c', P', q4, ⟨tt.code, tt.bm, tt.gP⟩, ?_⟩
      have := List.mem_map_of_mem (f := Prod.snd) q5
      exact this
    have hg' : d.name = "triple_weights" ∨ d.name = "contains_ray" ∨ d.name = "is_empty" := by
      simpa [genN] using hg
    rcases hg' with e | e | e
    · exact key a1 o1 fd1 c1 P1 (by rw [e]; exact x1) y1 z1 u1 (List.mem_cons_self ..)
    · exact key a2 o2 fd2 c2 P2 (by rw [e]; exact x2) y2 z2 u2 (List.mem_cons_of_mem _ (List.mem_cons_self ..))
    · exact key a3 o3 fd3 c3 P3 (by rw [e]; exact x3) y3 z3 u3 (List.mem_cons_of_mem _ (List.mem_cons_of_mem _ (List.mem_cons_self ..)))
  have all3 : ∀ {φ : Addr × Addr → Prop}, φ (c1, P1) → φ (c2, P2) → φ (c3, P3) → ∀ p ∈ [(c1, P1), (c2, P2), (c3, P3)], φ p := fun h1 h2 h3 p hp => by
    rcases List.mem_cons.mp hp with rfl | hp
    · exact h1
    · rcases List.mem_cons.mp hp with rfl | hp
      · exact h2
      · rw [List.mem_singleton.mp hp]
        exact h3
  have nt : ∀ {P : Addr}, h.get? P = some { cls := .none, data := .fields #[] } → K.lookup P = none := fun {P} e => by
    cases q : K.lookup P with
    | none => rfl
    | some o =>
      have g := KX _ _ q
      rw [e] at g
      cases g
      have := obj_ok m q
      cases this
  -- the def's own object
  obtain ⟨fd, F⟩ := c.def_ 89 rfl
  have hm : mg ("law" : Str) = some (.ref (He.fAd K (mkD 104 "law" []).at_)) := glo_in KX G c (d := mkD 104 "law" []) (List.mem_of_getElem? (show fn[89]? = some (mkD 104 "law" []) from rfl))
  rw [hfa] at hm
  cases hm
  refine ⟨fd, [(c1, P1), (c2, P2), (c3, P3)], spL K [P1, P2, P3], all3 w1 w2 w3, all3 (nt w1) (nt w2) (nt w3), all3 v1 v2 v3, fun s u => ?_, fun H a ns hl _ hT hS => ?_, fun base bX bG bT => ?_⟩
  · exact FunD.bindsA (ps := ["_law_script"]) F (fun _ _ _ _ _ _ us hl => match us, hl with | [_], _ => rfl) s [u] rfl
  · have t1 := hT (c1, P1) (List.mem_cons_self ..)
    have t2 := hT (c2, P2) (List.mem_cons_of_mem _ (List.mem_cons_self ..))
    have t3 := hT (c3, P3) (List.mem_cons_of_mem _ (List.mem_cons_of_mem _ (List.mem_cons_self ..)))
    let Vw : Hp := fun b => match H b with
      | some (.tbl _) => none
      | o => o
    have sub : Sub Vw H := fun b o e => by
      have e : (match H b with
        | some (.tbl _) => none
        | o => o) = some o := e
      cases q : H b with
      | none => rw [q] at e; cases e
      | some u =>
        rw [q] at e
        cases u <;> first | exact e | cases e
    have rd : Rd Vw a (.lst (ns.map V.int)) := by
      rcases hS with (e | ⟨o, e⟩) | ⟨o, its, n, e, ec, _⟩
      · refine .inl ?_
        show (match H a with
          | some (.tbl _) => none
          | o => o) = _
        rw [e]
      · refine .inr ⟨o, ?_⟩
        show (match H a with
          | some (.tbl _) => none
          | o => o) = _
        rw [e]
      · exfalso
        have k := obj_ok m e
        unfold okO at k
        rw [ec] at k
        cases k
    refine ⟨rfl, Vw, ns, hl, ⟨sub, fun b e => (by cases e), fun P hP => ?_, fun b ps e => ?_⟩, .cons (.inl (.lst rd (dpa_ints ns))) .nil, fun _ => rfl⟩
    · have hP : P ∈ [P1, P2, P3] := hP
      rcases List.mem_cons.mp hP with rfl | hP
      · exact ⟨#[], t1, trivial⟩
      · rcases List.mem_cons.mp hP with rfl | hP
        · exact ⟨#[], t2, trivial⟩
        · rw [List.mem_singleton.mp hP]
          exact ⟨#[], t3, trivial⟩
    · have e : (match H b with
        | some (.tbl _) => none
        | o => o) = some (.tbl ps) := e
      cases q : H b with
      | none => rw [q] at e; cases e
      | some u =>
        rw [q] at e
        cases u <;> first | cases e
  · exact e_law (P := l.prog) (w := w) (hdf base bX bG bT) F
end
end RT
open PySem PySem.W PySem.Calls PyProof.Rows
theorem PySem.Challenge.cw_raytrain_k90_whole_all_rays_holds : PySem.Challenge.rw_raytrain_k90_whole_all_rays.Holds := by
  w_on; o_law
  apply HandSHeadRun.head_any (r := Hd0.RR) (q := RT.qV) (H := Hd0.hkX) (ob := Hd0.obX) (M := 4000) (loose := Hd0.loose)
    (d := HandSHeadRun.topDef Hd0.RR.prog 104) (kwd := []) Hd0.obX_eq
  case e => kernel_rfl
  case f => exact fun s => by kernel_rfl
  case run => exact Hd0.run
  case hdef => kernel_rfl
  case hp => kernel_rfl
  case hk => kernel_rfl
  case hwr => rfl
  case k1 => first | assumption | decide +kernel
  case ok => decide +kernel
  case hb => exact ⟨rfl, rfl, rfl, rfl, rfl, by decide +kernel⟩
  case hw => w_witness2
  case call =>
    apply RT.walk_gen (l := PySem.Challenge.rw_raytrain_k90_whole_all_rays) (top := 63) (k := 208) (y := "_law_script")
    · rfl
    · decide
    · kernel_rfl
    · exact ⟨rfl, by decide, by decide⟩
    · intro w mg g h Y G hmg tb
      obtain ⟨K, KX, c, m⟩ := Y
      have hg : mg ("law" : PySem.Str) = some (.ref g) := by
        have e : (HandSHeadRun.topDef Hd0.RR.prog 104).name = ("law" : PySem.Str) := by kernel_rfl
        rw [← e]
        exact hmg
      exact ⟨K, KX, RT.law_at KX G c m tb hg⟩
