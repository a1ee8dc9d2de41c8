/- The abstract machine "D": the instructions that only reckon: their meaning, which of the model's operations they stand for, and that they do what these do. No statement of the seat is proved in this text. -/
import Derived.Test.YtdpbbppjjjhnoaaGreatDoorDb
import Derived.Laws.StructEq
import Derived.ChangeKeysEq
namespace Go.Proofs.YtdpbbppjjjhnoaaGreatDoor.D
open Go

/-- What a cell that can be compared by itself holds. -/
inductive CK where
  | b | i | s

inductive NK where
  | ptr | slice | map | func

inductive PI where
  | mov | asStr | pick
  | bin (op : BinOp) | boolEq (neg : Bool) | nilEq (neg : Bool) (k : NK) | aggEq (neg : Bool) (ks : List CK)
  | un (op : UnOp) | conv (k : IntKind)
  | build (zero : List Value) (places : List (Nat × Nat))
  | field (off n : Nat) (agg : Bool)
  | idxStr | idxArr (len n : Nat) (agg : Bool)
  | extract (i : Nat) | nilchk
  | fadd (off : Nat) | iaddS (n : Nat) | iaddA (len n : Nat)
  | slcS (n : Nat) (lo hi mx : Bool) | slcStr (lo hi : Bool) | slcA (len n : Nat) (lo hi mx : Bool)
  | iface (t : TypeId) | func (fn : Fn) (n : Nat)
  | lenS | lenStr | lenA (n : Nat) | max | min

def ibin (op : BinOp) (k : IntKind) (a b : Int) : Option Value :=
  match op with
  | .add => some (.int k (k.wrap (a + b)))
  | .sub => some (.int k (k.wrap (a - b)))
  | .mul => some (.int k (k.wrap (a * b)))
  | .quo => if b = 0 then none else some (.int k (k.wrap (a.tdiv b)))
  | .rem => if b = 0 then none else some (.int k (a.tmod b))
  | .and => some (.int k (k.wrap (BitVec.ofInt k.bits a &&& BitVec.ofInt k.bits b).toNat))
  | .or => some (.int k (k.wrap (BitVec.ofInt k.bits a ||| BitVec.ofInt k.bits b).toNat))
  | .xor => some (.int k (k.wrap (BitVec.ofInt k.bits a ^^^ BitVec.ofInt k.bits b).toNat))
  | .andNot => some (.int k (k.wrap (BitVec.ofInt k.bits a &&& ~~~(BitVec.ofInt k.bits b)).toNat))
  | .eql => some (.bool (a == b))
  | .neq => some (.bool (a != b))
  | .lss => some (.bool (a < b))
  | .leq => some (.bool (a ≤ b))
  | .gtr => some (.bool (a > b))
  | .geq => some (.bool (a ≥ b))
  | _ => none

def ishift (op : BinOp) (k : IntKind) (a b : Int) : Option Value :=
  if b < 0 then none else
  match op with
  | .shl => some (.int k (k.wrap (a * 2 ^ (Min.min b.toNat k.bits))))
  | .shr => some (.int k (a.fdiv (2 ^ (Min.min b.toNat k.bits))))
  | _ => none

def sbin (op : BinOp) (x y : ByteArray) : Option Value :=
  match op with
  | .add => if ((x.size + y.size : Nat) : Int) > IntKind.i64.max then none else some (.string (x ++ y))
  | .eql => some (.bool (x.toList == y.toList))
  | .neq => some (.bool !(x.toList == y.toList))
  | .lss => some (.bool (Op.bytesLess x.toList y.toList))
  | .leq => some (.bool (Op.bytesLess x.toList y.toList || x.toList == y.toList))
  | .gtr => some (.bool !(Op.bytesLess x.toList y.toList || x.toList == y.toList))
  | .geq => some (.bool !(Op.bytesLess x.toList y.toList))
  | _ => none

def isShift : BinOp → Bool
  | .shl | .shr => true
  | _ => false

def binSem (op : BinOp) : Value → Value → Option Value
  | .int k a, .int k' b => cond (isShift op) (ishift op k a b) (if k = k' then ibin op k a b else none)
  | .string a, .string b => sbin op a b
  | _, _ => none

def isNil : NK → Value → Option Bool
  | .ptr, .pointer none | .slice, .slice none _ _ | .map, .map none | .func, .nilFunc => some true
  | .ptr, .pointer (some _) | .slice, .slice (some _) _ _ | .map, .map (some _) | .func, .func _ _ _ => some false
  | _, _ => none

/-- Two cells that hold a number, a text or a bool. -/
def eq1 : CK → Value → Value → Option Bool
  | .i, .int k a, .int k' b => if k = k' then some (a == b) else none
  | .s, .string a, .string b => some (a.toList == b.toList)
  | .b, .bool a, .bool b => some (a == b)
  | _, _, _ => none

def eqCells : List CK → List Value → List Value → Option Bool
  | [], [], [] => some true
  | k :: ks, a :: l, b :: r => match eq1 k a b with
    | some true => eqCells ks l r
    | x => x
  | _, _, _ => none

def vcells : Value → Option (List Value)
  | .agg c => some c.toList
  | .tuple _ | .chan _ => none
  | v => some [v]

def fillD : List Value → List (Nat × Nat) → List Value → Option (List Value)
  | cells, [], [] => some cells
  | cells, (off, n) :: ps, v :: vs => match vcells v with
    | some c => if c.length = n then (if off + n ≤ cells.length then fillD (splice cells off c) ps vs else none) else none
    | none => none
  | _, _, _ => none

def boundD (x : Value) (y : Nat) : Option Nat :=
  match x with
  | .int _ i => if 0 ≤ i ∧ i ≤ y then some i.toNat else none
  | _ => none

/-- The low bound, the high bound and the new end of the capacity; 'cap' none: it is not known (then it is none again). -/
def boundsD (len : Nat) (cap : Nat) (lo hi mx : Bool) (xs : List Value) : Option (Nat × Nat × Nat) :=
  match lo, hi, mx, xs with
  | false, false, false, [] => some (0, len, cap)
  | true, false, false, [l] => match boundD l len with | some l => some (l, len, cap) | none => none
  | false, true, false, [h] => match boundD h cap with | some h => some (0, h, cap) | none => none
  | true, true, false, [l, h] => match boundD h cap with
    | some h => (match boundD l h with | some l => some (l, h, cap) | none => none)
    | none => none
  | false, true, true, [h, m] => match boundD m cap with
    | some m => (match boundD h m with | some h => some (0, h, m) | none => none)
    | none => none
  | true, true, true, [l, h, m] => match boundD m cap with
    | some m => (match boundD h m with
      | some h => (match boundD l h with | some l => some (l, h, m) | none => none)
      | none => none)
    | none => none
  | _, _, _, _ => none

def sliceD (n : Nat) (a : Addr) (len cap : Nat) (lo hi mx : Bool) (xs : List Value) : Option Value :=
  match a.spot with
  | some (k + 1) =>
    -- the capacity is not known: within the length alone
    if k = n then match boundsD len len lo hi mx xs with
    | some (l, h, m) => if mx then (if l < m then some (.slice (some { block := a.block, off := a.off + l * n, spot := none }) (h - l) (m - l)) else none) else some (.slice (some (aadd a (l * n))) (h - l) 0)
    | none => none
    else none
  | _ =>
    match boundsD len cap lo hi mx xs with
    | some (l, h, m) => some (.slice (some (if m = l then a else aadd a (l * n))) (h - l) (m - l))
    | none => none

def partD (cs : List Value) (off n : Nat) (agg : Bool) : Option Value :=
  if agg then some (.agg ⟨(cs.drop off).take n⟩) else cs[off]?

def max2D (isMax : Bool) : Value → Value → Option Value
  | .int k x, .int _ y => some (.int k (cond isMax (if y > x then y else x) (if y < x then y else x)))
  | _, _ => none

def foldD (f : Value → Value → Option Value) : Value → List Value → Option Value
  | v, [] => some v
  | v, x :: l => match f v x with
    | some u => foldD f u l
    | none => none

def unD : UnOp → Value → Option Value
  | .neg, .int k n => some (.int k (k.wrap (0 - n)))
  | .xor, .int k n => some (.int k (k.wrap (BitVec.ofInt k.bits (if k.signed then -1 else k.max) ^^^ BitVec.ofInt k.bits n).toNat))
  | .not, .bool b => some (.bool !b)
  | _, _ => none

def idxStrD (s : ByteArray) (i : Int) : Option Value := match (if 0 ≤ i then s[i.toNat]? else none) with | some b => some (.int .u8 b.toNat) | none => none

def nilchkD : Value → Option Value
  | .pointer (some a) => some (.pointer (some a))
  | .func (.func f) a b => some (.func (.func f) a b)
  | _ => none

def pureSem : PI → List Value → Option Value
  | .mov, [x] => some x
  | .asStr, [.string s] => some (.string s)
  | .pick, [.bool c, a, b] => some (cond c a b)
  | .bin op, [x, y] => binSem op x y
  | .boolEq neg, [.bool a, .bool b] => some (.bool (cond neg (!(a == b)) (a == b)))
  | .nilEq neg k, [x] => match isNil k x with | some b => some (.bool (cond neg (!b) b)) | none => none
  | .aggEq neg ks, [.agg a, .agg b] => if a.size = ks.length ∧ b.size = ks.length then (match eqCells ks a.toList b.toList with | some r => some (.bool (cond neg (!r) r)) | none => none) else none
  | .un op, [x] => unD op x
  | .conv k, [.int _ n] => some (.int k (k.wrap n))
  | .build zero places, vs => match fillD zero places vs with | some l => some (.agg ⟨l⟩) | none => none
  | .field off n agg, [.agg cs] => partD cs.toList off n agg
  | .idxStr, [.string s, .int _ i] => idxStrD s i
  | .idxArr len n agg, [.agg cs, .int _ i] => if 0 ≤ i ∧ i < len then partD cs.toList (i.toNat * n) n agg else none
  | .extract i, [.tuple vs] => vs.toList[i]?
  | .nilchk, [x] => nilchkD x
  | .fadd off, [.pointer (some a)] => some (.pointer (some (aadd a off)))
  | .iaddS n, [.slice (some a) len _, .int _ i] => if 0 ≤ i ∧ i < len then some (.pointer (some (aadd (toPtr a) (i.toNat * n)))) else none
  | .iaddA len n, [.pointer (some a), .int _ i] => if 0 ≤ i ∧ i < len then some (.pointer (some (aadd a (i.toNat * n)))) else none
  | .slcS n lo hi mx, .slice (some a) len cap :: xs => sliceD n a len cap lo hi mx xs
  | .slcS _ lo hi mx, .slice none 0 0 :: xs => match boundsD 0 0 lo hi mx xs with | some _ => some (.slice none 0 0) | none => none
  | .slcStr lo hi, .string s :: xs => match boundsD s.size s.size lo hi false xs with | some (l, h, _) => some (.string (s.extract l h)) | none => none
  | .slcA len n lo hi mx, .pointer (some a) :: xs => match boundsD len len lo hi mx xs with
    | some (l, h, m) => some (.slice (some (if m = l then a else aadd a (l * n))) (h - l) (m - l))
    | none => none
  | .iface t, [x] => some (.iface t x)
  | .func fn n, vs => some (.func fn ⟨vs.take n⟩ ⟨vs.drop n⟩)
  | .lenS, [.slice _ n _] => some (goInt n)
  | .lenStr, [.string s] => some (goInt s.size)
  | .lenA n, [_] => some (goInt n)
  | .max, v :: l => foldD (max2D true) v l
  | .min, v :: l => foldD (max2D false) v l
  | _, _ => none

/-! ### Which operation is which instruction -/

def isAggD : TypeDesc → Bool
  | .struct _ | .array _ _ => true
  | _ => false

def cst1 : Value → Bool
  | .bool _ | .int _ _ | .string _ | .pointer none | .slice none 0 0 | .map none | .nilFunc | .nilIface => true
  | .func (.func _) a b => a.isEmpty && b.isEmpty
  | _ => false

def cst : Value → Bool
  | .agg c => c.toList.all cst1
  | .tuple c => c.toList.all cst1
  | v => cst1 v

def plainFs (P : Program) (pl : TypeId → Option (List CK)) : List Field → Nat → Option (List CK)
  | [], _ => some []
  | f :: r, n => if f.name = "_" then none else if f.offset = n then (match pl f.type, P.info? f.type with
      | some m, some i => if i.size = m.length then (match plainFs P pl r (n + m.length) with | some l => some (m ++ l) | none => none) else none
      | _, _ => none) else none

/-- What the cells of a type of numbers, texts and bools hold, laid out without holes: what can be compared cell by cell. -/
def plain (P : Program) : Nat → TypeId → Option (List CK)
  | 0, _ => none
  | d + 1, t => match P.underlying t with
    | some .bool => some [.b]
    | some (.int _) => some [.i]
    | some .string => some [.s]
    | some (.struct fs) => if P.stoodInHeld t then none else plainFs P (plain P d) fs.toList 0
    | some (.array len e) => (match plain P d e, P.info? e with | some m, some i => if i.size = m.length then some (List.replicate len m).flatten else none | _, _ => none)
    | _ => none

def isNilConst : NK → Operand → Bool
  | .ptr, .const (.pointer none) | .slice, .const (.slice none 0 0) | .map, .const (.map none) | .func, .const .nilFunc => true
  | _, _ => false

def nkOf : TypeDesc → Option NK
  | .pointer _ => some .ptr
  | .slice _ => some .slice
  | .map _ _ => some .map
  | .func _ _ _ => some .func
  | _ => none

def compileEq (P : Program) (neg : Bool) (t : TypeId) (x y : Operand) : Option (PI × List Operand) :=
  match P.underlying t with
  | none => none
  | some .bool => some (.boolEq neg, [x, y])
  | some (.int _) | some .string => some (.bin (if neg then .neq else .eql), [x, y])
  | some (.struct _) | some (.array _ _) => if P.eqGuardType P.depth t then none else (match plain P 100 t with | some n => some (.aggEq neg n, [x, y]) | none => none)
  | some d => match nkOf d with
    | some k => if isNilConst k y then some (.nilEq neg k, [x]) else if isNilConst k x then some (.nilEq neg k, [y]) else none
    | none => none

def placesS (P : Program) (fs : Array Field) : List (Nat × Operand) → Option (List (Nat × Nat))
  | [] => some []
  | (i, _) :: r => match fs[i]? with
    | none => none
    | some f => match P.info? f.type, placesS P fs r with
      | some inf, some l => some ((f.offset, inf.size) :: l)
      | _, _ => none

def compilePure (P : Program) (o : Oper) : Option (PI × List Operand) :=
  match o.op with
  | .move x | .assign x => some (.mov, [x])
  | .pick c a b => some (.pick, [c, a, b])
  | .binOp .eql t x y _ => compileEq P false t x y
  | .binOp .neq t x y _ => compileEq P true t x y
  | .binOp op _ x y _ => some (.bin op, [x, y])
  | .unOp op _ x => some (.un op, [x])
  | .convert s d x => match P.underlying s, P.underlying d with
    | some _, some (.int k) => some (.conv k, [x])
    | some .string, some .string => some (.asStr, [x])
    | _, _ => none
  | .build t parts => match (P.info? t).bind (·.zero), P.underlying t with
    | some z, some (.struct fs) => if z.cells.toList.all cst1 && fs.toList.all (fun f => (P.info? f.type).isSome) then
        (match placesS P fs parts.toList with | some l => some (.build z.cells.toList l, parts.toList.map (·.2)) | none => none) else none
    | some z, some (.array _ e) => if z.cells.toList.all cst1 then
        (match P.info? e with | some inf => some (.build z.cells.toList (parts.toList.map fun p => (p.1 * inf.size, inf.size)), parts.toList.map (·.2)) | none => none) else none
    | _, _ => none
  | .fieldAddr s x f => match P.underlying s with
    | some (.struct fs) => match fs[f]? with
      | some f => (match P.info? f.type with | some inf => if inf.size = 0 then none else some (.fadd f.offset, [x]) | none => none)
      | none => none
    | _ => none
  | .field t x f => match P.underlying t with
    | some (.struct fs) => match fs[f]? with
      | some f => (match P.info? f.type, P.underlying f.type with | some inf, some d => some (.field f.offset inf.size (isAggD d), [x]) | _, _ => none)
      | none => none
    | _ => none
  | .indexAddr t x ix => match P.underlying t with
    | some (.slice e) => (match P.info? e with | some inf => some (.iaddS inf.size, [x, ix]) | none => none)
    | some (.array len e) => (match P.info? e with | some inf => some (.iaddA len inf.size, [x, ix]) | none => none)
    | _ => none
  | .index t x ix => match P.underlying t with
    | some .string => some (.idxStr, [x, ix])
    | some (.array len e) => (match P.info? e, P.underlying e with | some inf, some d => some (.idxArr len inf.size (isAggD d), [x, ix]) | _, _ => none)
    | _ => none
  | .extract x i => some (.extract i, [x])
  | .nilCheck x => some (.nilchk, [x])
  | .slice t x lo hi mx => match P.underlying t with
    | some .string => if mx.isSome then none else some (.slcStr lo.isSome hi.isSome, [x] ++ lo.toList ++ hi.toList)
    | some (.slice e) => (match P.info? e with | some inf => some (.slcS inf.size lo.isSome hi.isSome mx.isSome, [x] ++ lo.toList ++ hi.toList ++ mx.toList) | none => none)
    | some (.array len e) => (match P.info? e with | some inf => some (.slcA len inf.size lo.isSome hi.isSome mx.isSome, [x] ++ lo.toList ++ hi.toList ++ mx.toList) | none => none)
    | _ => none
  | .makeInterface t x => match P.underlying t with
    | some (.interface _) | none => none
    | _ => some (.iface t, [x])
  | .makeFunc fn first captured => some (.func fn first.size, first.toList ++ captured.toList)
  | .call { callee := .builtin .len, args, argTypes } => match args.toList, argTypes.toList with
    | [x], [t] => (match P.underlying t with
      | some .string => some (.lenStr, [x])
      | some (.slice _) => some (.lenS, [x])
      | some (.array n _) => some (.lenA n, [x])
      | _ => none)
    | _, _ => none
  | .call { callee := .builtin .max, args, .. } => some (.max, args.toList)
  | .call { callee := .builtin .min, args, .. } => some (.min, args.toList)
  | _ => none

end Go.Proofs.YtdpbbppjjjhnoaaGreatDoor.D
