import Derived.Test.YtpaccfeiaekacaaVsA
import Derived.WalkKit
import Derived.ProofKit
namespace Go.Proofs.Ytpaccfeiaekacaa.Vs
set_option linter.unusedVariables false
set_option linter.unusedSimpArgs false
set_option linter.unusedSectionVars false
set_option linter.unnecessarySimpa false
set_option linter.all false
inductive TK where
  | int (k : IntKind) | bool | str | slice (e : TypeId) | ptr (e : TypeId) | struct (fs : List (Nat × TypeId)) | array (n : Nat) (e : TypeId) | other
structure TI where
  agg : Bool
  size : Nat
  bytes : Nat
  zero : List AV
  kind : TK
/-- A constant of the text. -/
def cv : Value → AV
  | .string b => .s b.data.toList
  | v => .g v
def tkOf : TypeDesc → TK
  | .int k => .int k | .bool => .bool | .string => .str | .slice e => .slice e | .pointer e => .ptr e
  | .struct fs => .struct (fs.toList.map fun f => (f.offset, f.type)) | .array n e => .array n e | _ => .other
def aggOf : TypeDesc → Bool
  | .struct _ | .array _ _ => true
  | _ => false
def ti (P : Program) (t : TypeId) : Option TI :=
  match P.underlying t, P.info? t with
  | some d, some i => match i.zero with
    | some z => some { agg := aggOf d, size := i.size, bytes := i.bytes, zero := z.cells.toList.map cv, kind := tkOf d }
    | none => none
  | _, _ => none
def ev (st : St) : Operand → AV
  | .tmp t => st.env t
  | .const v => cv v
  | .func f => .fn f [] []
  | .global _ => .undef
/-- The cells from an address on. -/
def cellsAt (st : St) : AV → Option (List AV)
  | .ptr n off => match st.ob n with
    | some (.cells cs) => some (cs.drop off)
    | some (.rocells cs) => some (cs.drop off)
    | _ => none
  | .eptr n i f => match st.ob n with
    | some (.flat _ xs) => some ((xs.getD i []).drop f)
    | some (.shared _ xs) => some ((xs.getD i []).drop f)
    | some (.win _ xs) => some ((xs.getD i []).drop f)
    | _ => none
  | .ip cs => some cs
  | _ => none
/-- The cells of a value that may be stored. -/
def valCells : AV → Option (List AV)
  | .agg cs => some cs
  | .tup _ => none
  | .undef => none
  | .ot .. => none
  | v => some [v]
/-- May it stand in one cell? -/
def isOne : AV → Bool
  | .g v => v.oneCell'
  | .s _ => true
  | .sl .. => true
  | .arr .. => true
  | .ptr .. => true
  | .eptr .. => true
  | .ip _ => true
  | .fn .. => true
  | _ => false
abbrev Ups := List (Nat × OB)
abbrev ARes := Option (Prop × AV × Ups)
def aLoad (P : Program) (st : St) (t : TypeId) (x : AV) : ARes :=
  match ti P t, cellsAt st x with
  | some T, some cs => if T.agg then some (T.size ≤ cs.length, .agg (cs.take T.size), []) else match cs with
    | c :: _ => some (True, c, [])
    | [] => none
  | _, _ => none
def setCells (cs : List AV) (off : Nat) (new : List AV) : List AV :=
  match new with
  | [v] => cs.set off v
  | _ => cs.take off ++ new ++ cs.drop (off + new.length)
/-- The rows of the frame's own that a value names. -/
def arrN : List AV → List Nat
  | [] => []
  | .arr n _ _ :: r => n :: arrN r
  | _ :: r => arrN r
def frzU (st : St) : List Nat → Ups
  | [] => []
  | n :: r => match st.ob n with
    | some (.flat sz xs) => (n, .shared sz xs) :: frzU st r
    | _ => frzU st r
/-- A cell as whoever only reads sees it. -/
def viewCell (st : St) : AV → Option (Prop × AV)
  | .g v => some (v.oneCell' = true, .g v)
  | .s l => some (True, .s l)
  | .sl sz xs => some (True, .sl sz xs)
  | .arr n off len => match st.ob n with
    | some (.flat sz xs) => some (off + len ≤ xs.length, .sl sz ((xs.drop off).take len))
    | some (.shared sz xs) => some (off + len ≤ xs.length, .sl sz ((xs.drop off).take len))
    | _ => none
  | _ => none
def viewCells (st : St) : List AV → Option (Prop × List AV)
  | [] => some (True, [])
  | c :: cs => match viewCell st c, viewCells st cs with
    | some (p, c'), some (q, cs') => some (p ∧ q, c' :: cs')
    | _, _ => none
def aStore (P : Program) (st : St) (t : TypeId) (x v : AV) : ARes :=
  match ti P t, valCells v with
  | some T, some new => match x with
    | .ptr n off => match st.ob n with
      | some (.cells cs) => some (new.length = T.size ∧ new.all isOne = true ∧ off + new.length ≤ cs.length, .g undef, [(n, .cells (setCells cs off new))])
      | _ => none
    | .eptr n i f => match st.ob n with
      | some (.flat sz xs) => match viewCells st new with
        | some (p, new') => some (p ∧ new.length = T.size ∧ new.all isOne = true ∧ f + new.length ≤ sz ∧ i < xs.length ∧ (arrN new).contains n = false, .g undef,
            frzU st (arrN new) ++ [(n, .flat sz (xs.set i (setCells (xs.getD i []) f new')))])
        | none => none
      | _ => none
    | _ => none
  | _, _ => none
def aIntBin (op : BinOp) (k : IntKind) (a b : Int) : ARes :=
  match op with
  | .add => some (True, .g (.int k (k.wrap (a + b))), [])
  | .sub => some (True, .g (.int k (k.wrap (a - b))), [])
  | .mul => some (True, .g (.int k (k.wrap (a * b))), [])
  | .quo => some (b ≠ 0, .g (.int k (k.wrap (a.tdiv b))), [])
  | .rem => some (b ≠ 0, .g (.int k (a.tmod b)), [])
  | .and => some (True, .g (.int k (k.wrap (BitVec.ofInt k.bits a &&& BitVec.ofInt k.bits b).toNat)), [])
  | .or => some (True, .g (.int k (k.wrap (BitVec.ofInt k.bits a ||| BitVec.ofInt k.bits b).toNat)), [])
  | .xor => some (True, .g (.int k (k.wrap (BitVec.ofInt k.bits a ^^^ BitVec.ofInt k.bits b).toNat)), [])
  | .eql => some (True, .g (.bool (a == b)), [])
  | .neq => some (True, .g (.bool (a != b)), [])
  | .lss => some (True, .g (.bool (decide (a < b))), [])
  | .leq => some (True, .g (.bool (decide (a ≤ b))), [])
  | .gtr => some (True, .g (.bool (decide (a > b))), [])
  | .geq => some (True, .g (.bool (decide (a ≥ b))), [])
  | _ => none
def aStrBin (op : BinOp) (a b : List UInt8) : ARes :=
  match op with
  | .add => some (a.length + b.length ≤ 9223372036854775807, .s (a ++ b), [])
  | .eql => some (True, .g (.bool (a == b)), [])
  | .neq => some (True, .g (.bool (!(a == b))), [])
  | .lss => some (True, .g (.bool (Op.bytesLess a b)), [])
  | .leq => some (True, .g (.bool (Op.bytesLess a b || a == b)), [])
  | .gtr => some (True, .g (.bool (!(Op.bytesLess a b || a == b))), [])
  | .geq => some (True, .g (.bool (!Op.bytesLess a b)), [])
  | _ => none
/-- A struct type of two integers, that can be compared. -/
def eq2 (P : Program) (t : TypeId) : Bool :=
  (match P.underlying t with
   | some (.struct fs) => match fs.toList with
     | [f, g] => f.name != "_" && g.name != "_" && f.offset == 0 && g.offset == 1 &&
       (match P.underlying f.type, P.underlying g.type, P.info? f.type, P.info? g.type with
        | some (.int _), some (.int _), some i, some j => i.size == 1 && j.size == 1
        | _, _, _, _ => false)
     | _ => false
   | _ => false) && !P.stoodInHeld t && !P.eqGuardType P.depth t
def aBin (P : Program) (op : BinOp) (t : TypeId) (x y : AV) : ARes :=
  match op, x, y with
  | .shl, .g (.int k a), .g (.int _ b) => some (0 ≤ b, .g (.int k (k.wrap (a * 2 ^ (min b.toNat k.bits)))), [])
  | .shr, .g (.int k a), .g (.int _ b) => some (0 ≤ b, .g (.int k (a.fdiv (2 ^ (min b.toNat k.bits)))), [])
  | op, .g (.int k a), .g (.int k' b) => if k = k' then aIntBin op k a b else none
  | op, .s a, .s b => aStrBin op a b
  | .eql, .g (.bool a), .g (.bool b) => match P.underlying t with
    | some .bool => some (True, .g (.bool (a == b)), [])
    | _ => none
  | .neq, .g (.bool a), .g (.bool b) => match P.underlying t with
    | some .bool => some (True, .g (.bool (!(a == b))), [])
    | _ => none
  | .eql, .agg [.g (.int k a), .g (.int l b)], .agg [.g (.int k' c), .g (.int l' d)] => if eq2 P t && k = k' && l = l' then some (True, .g (.bool (a == c && b == d)), []) else none
  | .neq, .agg [.g (.int k a), .g (.int l b)], .agg [.g (.int k' c), .g (.int l' d)] => if eq2 P t && k = k' && l = l' then some (True, .g (.bool (!(a == c && b == d))), []) else none
  | _, _, _ => none
def aUn (op : UnOp) (x : AV) : ARes :=
  match op, x with
  | .not, .g (.bool b) => some (True, .g (.bool (!b)), [])
  | .neg, .g (.int k n) => some (True, .g (.int k (k.wrap (0 - n))), [])
  | .xor, .g (.int k n) => some (True, .g (.int k (k.wrap (BitVec.ofInt k.bits (if k.signed then -1 else k.max) ^^^ BitVec.ofInt k.bits n).toNat)), [])
  | _, _ => none
def bytesOf : List (List AV) → Option (List UInt8)
  | [] => some []
  | [.g (.int .u8 n)] :: r => (bytesOf r).map (UInt8.ofNat n.toNat :: ·)
  | _ => none
def aNews (st : St) (sz : Nat) : AV → Option (Prop × List (List AV))
  | .arr n off len => match st.ob n with
    | some (.flat s xs) => if s = sz then some (off + len ≤ xs.length, (xs.drop off).take len) else none
    | some (.shared s xs) => if s = sz then some (off + len ≤ xs.length, (xs.drop off).take len) else none
    | _ => none
  | .sl s xs => if s = sz ∨ xs = [] then some (True, xs) else none
  | .g (.slice none 0 0) => some (True, [])
  | _ => none
def numsOf : List (List AV) → Option (List Int)
  | [] => some []
  | [.g (.int .u8 n)] :: r => (numsOf r).map (n :: ·)
  | _ => none
/-- The bytes of numbers. -/
def strN (ns : List Int) : List UInt8 := ns.map fun n => UInt8.ofNat n.toNat
def aConv (P : Program) (st : St) (src dst : TypeId) (x : AV) : ARes :=
  match ti P src, ti P dst, x with
  | some S, some D, .g (.int _ n) => match S.kind, D.kind with
    | .int _, .int k => some (True, .g (.int k (k.wrap n)), [])
    | _, _ => none
  | some S, some D, .s l => match S.kind, D.kind with
    | .str, .str => some (True, .s l, [])
    | _, _ => none
  | some S, some D, x => match S.kind, D.kind with
    | .slice e, .str => match ti P e, aNews st 1 x with
      | some E, some (p, ys) => match E.kind, numsOf ys with
        | .int .u8, some ns => some (p, .s (strN ns), [])
        | _, _ => none
      | _, _ => none
    | _, _ => none
  | _, _, _ => none
/-- Lays a part's cells into a struct's. -/
def fillA (place : Nat → Option (Nat × Nat)) (cells : List AV) : List (Nat × AV) → Option (List AV)
  | [] => some cells
  | (i, v) :: rest => match place i, valCells v with
    | some (off, size), some new => if new.length = size ∧ off + new.length ≤ cells.length ∧ new.all isOne = true then fillA place (cells.take off ++ new ++ cells.drop (off + new.length)) rest else none
    | _, _ => none
def placeOf (P : Program) : List (Nat × TypeId) → Nat → Option (Nat × Nat)
  | [], _ => none
  | (o, t) :: _, 0 => match ti P t with
    | some T => some (o, T.size)
    | none => none
  | _ :: r, i + 1 => placeOf P r i
def placesOf (P : Program) : List (Nat × TypeId) → Option (List (Nat × Nat))
  | [] => some []
  | (o, t) :: r => match ti P t, placesOf P r with
    | some T, some l => some ((o, T.size) :: l)
    | _, _ => none
def aBuild (P : Program) (t : TypeId) (parts : List (Nat × AV)) : ARes :=
  match ti P t with
  | some T => match T.kind with
    | .struct fs => match placesOf P fs with
      | some pl => match fillA (fun i => pl[i]?) T.zero parts with
        | some cs => some (True, .agg cs, [])
        | none => none
      | none => none
    | .array _ e => match ti P e with
      | some E => match fillA (fun i => some (i * E.size, E.size)) T.zero parts with
        | some cs => some (True, .agg cs, [])
        | none => none
      | none => none
    | _ => none
  | none => none
def chunks (sz : Nat) : Nat → List AV → List (List AV)
  | 0, _ => []
  | n + 1, cs => cs.take sz :: chunks sz n (cs.drop sz)
def aBuildSlice (P : Program) (st : St) (nm : Nat) (t : TypeId) (len : Nat) (parts : List (Nat × AV)) : ARes :=
  match ti P t with
  | some T => match T.kind with
    | .slice e => match ti P e with
      | some E => match fillA (fun i => some (i * E.size, E.size)) (List.replicate len E.zero).flatten parts with
        | some cs => match viewCells st cs with
          | some (p, cs') => some (p ∧ (st.ob nm).isNone = true ∧ len * E.size ≤ 16777216 ∧ E.zero.length = E.size ∧ cs.all isOne = true, .arr nm 0 len, frzU st (arrN cs) ++ [(nm, .flat E.size (chunks E.size len cs'))])
          | none => none
        | none => none
      | none => none
    | _ => none
  | none => none
def aIndexAddr (P : Program) (st : St) (t : TypeId) (x i : AV) : ARes :=
  match ti P t, x, i with
  | some T, x, .g (.int _ n) => match T.kind, x with
    | .slice e, .arr m off len => match ti P e with
      | some E => match st.ob m with
        | some (.flat sz _) => some (0 ≤ n ∧ n < len ∧ E.size = sz, .eptr m (off + n.toNat) 0, [])
        | some (.shared sz _) => some (0 ≤ n ∧ n < len ∧ E.size = sz, .eptr m (off + n.toNat) 0, [])
        | some (.win sz _) => some (0 ≤ n ∧ n < len ∧ E.size = sz, .eptr m (off + n.toNat) 0, [])
        | _ => none
      | none => none
    | .slice e, .sl sz xs => match ti P e with
      | some E => some (0 ≤ n ∧ n < xs.length ∧ E.size = sz, .ip (xs.getD n.toNat []), [])
      | none => none
    | .array len e, .ptr m off => match ti P e with
      | some E => some (0 ≤ n ∧ n < len, .ptr m (off + n.toNat * E.size), [])
      | none => none
    | _, _ => none
  | _, _, _ => none
def aFieldAddr (P : Program) (t : TypeId) (x : AV) (f : Nat) : ARes :=
  match ti P t with
  | some T => match T.kind with
    | .struct fs => match placeOf P fs f with
      | some (o, size) => if size = 0 then none else match x with
        | .ptr n off => some (True, .ptr n (off + o), [])
        | .eptr n i g => some (True, .eptr n i (g + o), [])
        | .ip cs => some (True, .ip (cs.drop o), [])
        | _ => none
      | none => none
    | _ => none
  | none => none
def aField (P : Program) (t : TypeId) (x : AV) (f : Nat) : ARes :=
  match ti P t, x with
  | some T, .agg cs => match T.kind with
    | .struct fs => match fs[f]? with
      | some (o, ft) => match ti P ft with
        | some F => if F.agg then some (o + F.size ≤ cs.length, .agg ((cs.drop o).take F.size), []) else match cs.drop o with
          | c :: _ => some (True, c, [])
          | [] => none
        | none => none
      | none => none
    | _ => none
  | _, _ => none
def aIndex (P : Program) (t : TypeId) (x i : AV) : ARes :=
  match ti P t, x, i with
  | some { kind := .str, .. }, .s l, .g (.int _ n) => some (0 ≤ n ∧ n < l.length, .g (.int .u8 (l.getD n.toNat 0).toNat), [])
  | _, _, _ => none
def optIdx (d : Nat) : Option AV → Option (Prop × Nat)
  | none => some (True, d)
  | some (.g (.int _ n)) => some (0 ≤ n, n.toNat)
  | _ => none
def aSlice (P : Program) (st : St) (t : TypeId) (x : AV) (lo hi : Option AV) : ARes :=
  match ti P t, x with
  | some T, x => match T.kind, x with
    | .str, .s l => match optIdx 0 lo, optIdx l.length hi with
      | some (c, a), some (d, b) => some (c ∧ d ∧ a ≤ b ∧ b ≤ l.length, .s ((l.drop a).take (b - a)), [])
      | _, _ => none
    | .slice e, .sl sz xs => match ti P e, optIdx 0 lo, optIdx xs.length hi with
      | some E, some (c, a), some (d, b) => some (c ∧ d ∧ a ≤ b ∧ b ≤ xs.length ∧ E.size = sz, .sl sz ((xs.drop a).take (b - a)), [])
      | _, _, _ => none
    | .slice e, .arr n off len => match ti P e, optIdx 0 lo, optIdx len hi with
      | some E, some (c, a), some (d, b) => match st.ob n with
        | some (.flat sz _) => some (c ∧ d ∧ a ≤ b ∧ b ≤ len ∧ E.size = sz, .arr n (off + a) (b - a), [])
        | some (.shared sz _) => some (c ∧ d ∧ a ≤ b ∧ b ≤ len ∧ E.size = sz, .arr n (off + a) (b - a), [])
        | some (.win sz _) => some (c ∧ d ∧ a ≤ b ∧ b ≤ len ∧ E.size = sz, .arr n (off + a) (b - a), [])
        | _ => none
      | _, _, _ => none
    | _, _ => none
  | _, _ => none
def aMakeSlice (P : Program) (nm : Nat) (st : St) (t : TypeId) (l c : AV) : ARes :=
  match ti P t, l, c with
  | some T, .g (.int .i64 n), .g (.int .i64 m) => match T.kind with
    | .slice e => match ti P e with
      | some E => some ((st.ob nm).isNone = true ∧ 0 ≤ n ∧ n ≤ m ∧ m < 9223372036854775808 ∧ (E.bytes : Int) * m ≤ 2 ^ 48 ∧ E.zero.length = E.size ∧ E.zero.all isOne = true, .arr nm 0 n.toNat, [(nm, .flat E.size (List.replicate n.toNat E.zero))])
      | none => none
    | _ => none
  | _, _, _ => none
/-- Captured values are no functions. -/
def capOk (l : List AV) : Bool := l.all fun v => match v with | .g _ | .s _ | .sl .. | .arr .. | .ptr .. | .eptr .. | .ip _ | .undef => true | _ => false
def parts (st : St) (l : List (Nat × Operand)) : List (Nat × AV) := l.map fun p => (p.1, ev st p.2)
/-- What an operation gives: the conditions that it asks, the value, the objects that it turns. nm: the name of what it makes. -/
def aop (P : Program) (st : St) (nm : Nat) (o : Op) : ARes :=
  match o with
  | .move x => some (True, ev st x, [])
  | .assign x => some (True, ev st x, [])
  | .pick c a b => match ev st c with
    | .g (.bool t) => some (True, bif t then ev st a else ev st b, [])
    | _ => none
  | .alloc t => match ti P t with
    | some T => some ((st.ob nm).isNone = true ∧ T.zero.length = T.size, .ptr nm 0, [(nm, .cells T.zero)])
    | none => none
  | .box t x => match ti P t, valCells (ev st x) with
    | some _, some cs => some ((st.ob nm).isNone = true ∧ cs.all isOne = true, .ptr nm 0, [(nm, .cells cs)])
    | _, _ => none
  | .build t ps => aBuild P t (parts st ps.toList)
  | .buildSlice t len ps => aBuildSlice P st nm t len (parts st ps.toList)
  | .load t x => aLoad P st t (ev st x)
  | .store t x v => aStore P st t (ev st x) (ev st v)
  | .nilCheck x => match ev st x with
    | .ptr n off => some (True, .ptr n off, [])
    | .eptr n i f => some (True, .eptr n i f, [])
    | .ip cs => some (True, .ip cs, [])
    | .fn f a b => some (True, .fn f a b, [])
    | _ => none
  | .binOp op t x y _ => aBin P op t (ev st x) (ev st y)
  | .unOp op _ x => aUn op (ev st x)
  | .convert a b x => aConv P st a b (ev st x)
  | .makeFunc (.func f) first captured => some (capOk (first.toList.map (ev st)) = true ∧ capOk (captured.toList.map (ev st)) = true, .fn f (first.toList.map (ev st)) (captured.toList.map (ev st)), [])
  | .makeSlice t l c => aMakeSlice P nm st t (ev st l) (ev st c)
  | .slice t x lo hi none => aSlice P st t (ev st x) (lo.map (ev st)) (hi.map (ev st))
  | .fieldAddr t x f => aFieldAddr P t (ev st x) f
  | .field t x f => aField P t (ev st x) f
  | .indexAddr t x i => aIndexAddr P st t (ev st x) (ev st i)
  | .index t x i => aIndex P t (ev st x) (ev st i)
  | .extract x i => match ev st x with
    | .tup vs => match vs[i]? with
      | some v => some (True, v, [])
      | none => none
    | _ => none
  | _ => none
def aLen (P : Program) (ts : List TypeId) (x : AV) : ARes :=
  match ts with
  | [t] => match ti P t with
    | some T => match T.kind, x with
      | .str, .s l => some (True, .g (.int .i64 l.length), [])
      | .slice _, .arr _ _ len => some (True, .g (.int .i64 len), [])
      | .slice _, .sl _ xs => some (True, .g (.int .i64 xs.length), [])
      | .slice _, .g (.slice _ n _) => some (True, .g (.int .i64 n), [])
      | .array n _, _ => some (True, .g (.int .i64 n), [])
      | _, _ => none
    | none => none
  | _ => none
/-- The elements that an append brings. -/
def aAppend (P : Program) (st : St) (nm : Nat) (ts : List TypeId) (s x : AV) : ARes :=
  match ts with
  | [t, u] => match ti P t with
    | some T => match T.kind with
      | .slice e => match ti P e with
        | some E => match aNews st E.size x with
          | some (p, ys) => match s with
            | .g (.slice none 0 0) => some (p ∧ (st.ob nm).isNone = true ∧ t = u ∧ 0 < E.size ∧ E.zero.length = E.size ∧ ys.length * E.bytes ≤ 2 ^ 47 ∧ ys.length < 2 ^ 62, .arr nm 0 ys.length, [(nm, .flat E.size ys)])
            | .arr n 0 len => match st.ob n with
              | some (.flat sz xs) => if sz = E.size then some (p ∧ (st.ob nm).isNone = true ∧ t = u ∧ 0 < E.size ∧ E.zero.length = E.size ∧ len ≤ xs.length ∧ (len + ys.length) * E.bytes ≤ 2 ^ 47 ∧ len + ys.length < 2 ^ 62,
                  .arr nm 0 (len + ys.length), [(n, .dead), (nm, .flat E.size (xs.take len ++ ys))]) else none
              | _ => none
            | _ => none
          | none => none
        | none => none
      | _ => none
    | none => none
  | _ => none
def aBuiltin (P : Program) (st : St) (nm : Nat) (b : Builtin) (ts : List TypeId) (args : List AV) : ARes :=
  match b, args with
  | .len, [x] => aLen P ts x
  | .append, [s, x] => aAppend P st nm ts s x
  | .max, [.g (.int .i64 a), .g (.int .i64 b)] => some (True, .g (.int .i64 (if b > a then b else a)), [])
  | .min, [.g (.int .i64 a), .g (.int .i64 b)] => some (True, .g (.int .i64 (if b < a then b else a)), [])
  | _, _ => none
end Go.Proofs.Ytpaccfeiaekacaa.Vs
