/- What each operation that only reckons and reads yields. -/
import Derived.Test.YtopjlbifglacpaaAmC
set_option linter.unusedSimpArgs false
set_option linter.unusedVariables false
namespace Go.Proofs.Ytopjlbifglacpaa.Am
open Go.RowKit

theorem str_beq (x y : ByteArray) : (x.toList == y.toList) = decide (x = y) := by
  rw [ByteArray.toList_eq, ByteArray.toList_eq]
  obtain ⟨⟨x⟩⟩ := x
  obtain ⟨⟨y⟩⟩ := y
  rw [Bool.eq_iff_iff]
  simp

/-- The order of texts. -/
def sLess (x y : ByteArray) : Bool := Op.bytesLess x.toList y.toList

def bI (op : BinOp) (k : IntKind) (a b : Int) : Option (L × Prop) :=
  match op with
  | .add => some (.int k (k.wrap (a + b)), True)
  | .sub => some (.int k (k.wrap (a - b)), True)
  | .mul => some (.int k (k.wrap (a * b)), True)
  | .quo => some (.int k (k.wrap (a.tdiv b)), b ≠ 0)
  | .rem => some (.int k (k.wrap (a.tmod b)), b ≠ 0)
  | .eql => some (.bool (decide (a = b)), True)
  | .neq => some (.bool (!decide (a = b)), True)
  | .lss => some (.bool (decide (a < b)), True)
  | .leq => some (.bool (decide (a ≤ b)), True)
  | .gtr => some (.bool (decide (b < a)), True)
  | .geq => some (.bool (decide (b ≤ a)), True)
  | _ => none
def bS (op : BinOp) (a b : ByteArray) : Option (L × Prop) :=
  match op with
  | .add => some (.str (a ++ b), a.size + b.size ≤ 9223372036854775807)
  | .eql => some (.bool (decide (a = b)), True)
  | .neq => some (.bool (!decide (a = b)), True)
  | .lss => some (.bool (sLess a b), True)
  | .leq => some (.bool (sLess a b || decide (a = b)), True)
  | .gtr => some (.bool (!(sLess a b || decide (a = b))), True)
  | .geq => some (.bool (!sLess a b), True)
  | _ => none

def eqC : TD → CV → CV → Option Bool
  | .int _, .l (.int k a), .l (.int j b) => if k = j then some (decide (a = b)) else none
  | .bool, .l (.bool a), .l (.bool b) => some (a == b)
  | .str, .l (.str a), .l (.str b) => some (decide (a = b))
  | _, _, _ => none
def eqCs : List TD → List CV → List CV → Option Bool
  | [], [], [] => some true
  | t :: ts, c :: cs, d :: ds => match eqC t c d, eqCs ts cs ds with
    | some x, some y => some (x && y)
    | _, _ => none
  | _, _, _ => none

/-- The fields' types of a struct of numbers, truth values and texts, one cell a field. -/
def flatFields (P : Program) : Nat → List Field → Option (List TD)
  | _, [] => some []
  | n, f :: fs => if f.name != "_" && f.offset == n then match ti P f.type, flatFields P (n + 1) fs with
      | some i, some r => some (i.td :: r)
      | _, _ => none
    else none
def eqOk (P : Program) (t : Nat) : Option (List TD) :=
  match P.underlying t with
  | some (.struct fs) => if !P.stoodInHeld t && !P.eqGuardType P.depth t then flatFields P 0 fs.toList else none
  | _ => none

def num (σ : St) (o : Operand) : Option (IntKind × Int) :=
  match opd σ o with
  | some (.one (.l (.int k n))) => some (k, n)
  | _ => none

/-- The cells of a struct with some fields set. -/
def fillC (P : Program) (fs : List (Nat × Nat)) (cells : List CV) : List (Nat × V) → Option (List CV)
  | [] => some cells
  | (i, x) :: rest => match fs[i]? with
    | some (off, t) => match ti P t, x with
      | some fi, .one c => if fi.size = 1 ∧ off < cells.length then fillC P fs (cells.set off c) rest else none
      | some fi, .agg cs => if fi.size = cs.length ∧ off + cs.length ≤ cells.length then fillC P fs (cells.take off ++ cs ++ cells.drop (off + cs.length)) rest else none
      | _, _ => none
    | none => none

def parts (σ : St) : List (Nat × Operand) → Option (List (Nat × V))
  | [] => some []
  | (i, o) :: rest => match opd σ o, parts σ rest with
    | some v, some vs => some ((i, v) :: vs)
    | _, _ => none

def lenV : V → Option Int
  | .one (.l (.sl es)) => some es.length
  | .one (.l (.str s)) => some s.size
  | .one (.own _ n) => some n
  | .one .nil => some 0
  | _ => none

def opds (σ : St) : List Operand → Option (List V)
  | [] => some []
  | o :: rest => match opd σ o, opds σ rest with
    | some v, some vs => some (v :: vs)
    | _, _ => none

def nums : List V → Option (List Int)
  | [] => some []
  | .one (.l (.int .i64 n)) :: rest => (nums rest).map (n :: ·)
  | _ => none

def bound (σ : St) (dflt : Int) : Option Operand → Option Int
  | none => some dflt
  | some o => (num σ o).map (·.2)

def valOp (P : Program) (σ : St) : Op → Option (V × Prop)
  | .move x | .assign x => (opd σ x).map (·, True)
  | .pick c x y => match opd σ c with
    | some (.one (.l (.bool b))) => match opd σ x, opd σ y with
      | some (.one (.l (.bool p))), some (.one (.l (.bool q))) => some (.one (.l (.bool (bif b then p else q))), True)
      | some vx, some vy => some (if b then vx else vy, True)
      | _, _ => none
    | _ => none
  | .load t p => match ti P t with
    | some i => match opd σ p with
      | some (.one (.box k off)) => match σ.bx.lookup k with
        | some cs => (pick1 i cs off).map (·, True)
        | none => none
      | some (.one (.adr ls)) => (pick1 i (ls.map CV.l) 0).map (·, True)
      | some (.one (.elt τ n j W off)) => match σ.ar.lookup τ with
        | some (some A) => match A.es[j]? with
          | some el => if el.length = W ∧ τ < 1000000 then (pick1 i (el.map CV.l) off).map (·, A.es.length = n) else none
          | none => none
        | _ => none
      | _ => none
    | none => none
  | .fieldAddr s p f => match ti P s with
    | some ⟨.struct fs, _, _, _⟩ => match fs[f]? with
      | some (off, ft) => match ti P ft with
        | some fi => if fi.size = 0 then none else match opd σ p with
          | some (.one (.box k o)) => some (.one (.box k (o + off)), True)
          | some (.one (.adr ls)) => some (.one (.adr (ls.drop off)), True)
          | some (.one (.elt τ n j W o)) => match σ.ar.lookup τ with
            | some (some A) => some (.one (.elt τ n j W (o + off)), A.es.length = n)
            | _ => none
          | _ => none
        | none => none
      | none => none
    | _ => none
  | .field s x f => match ti P s with
    | some ⟨.struct fs, _, _, _⟩ => match fs[f]? with
      | some (off, ft) => match ti P ft, opd σ x with
        | some fi, some (.agg cs) => (pick1 fi cs off).map (·, True)
        | _, _ => none
      | none => none
    | _ => none
  | .indexAddr t x i => match ti P t, num σ i with
    | some ⟨.slice et, _, _, _⟩, some (_, n) => match ti P et, opd σ x with
      | some ei, some (.one (.l (.sl es))) => match es[n.toNat]? with
        | some el => some (.one (.adr el), 0 ≤ n ∧ ∀ x ∈ es, x.length = ei.size)
        | none => none
      | some ei, some (.one (.own τ m)) => match σ.ar.lookup τ with
        | some (some A) => some (.one (.elt τ m n.toNat ei.size 0), 0 ≤ n ∧ n.toNat < m ∧ A.es.length = m)
        | _ => none
      | _, _ => none
    | _, _ => none
  | .index t x i => match ti P t, num σ i, opd σ x with
    | some ⟨.str, _, _, _⟩, some (_, n), some (.one (.l (.str s))) => match s.data.toList[n.toNat]? with
      | some c => some (.one (.l (.int .u8 c.toNat)), 0 ≤ n)
      | none => none
    | _, _, _ => none
  | .extract t i => match opd σ t with
    | some (.tup ps) => match ps[i]? with
      | some (true, cs) => some (.agg cs, True)
      | some (false, [c]) => some (.one c, True)
      | _ => none
    | _ => none
  | .nilCheck x => match opd σ x with
    | some (.one (.box k o)) => some (.one (.box k o), True)
    | some (.one (.adr ls)) => some (.one (.adr ls), True)
    | _ => none
  | .binOp op t x y _ => match opd σ x, opd σ y with
    | some (.one (.l (.int k a))), some (.one (.l (.int j b))) => if k = j then (bI op k a b).map fun r => (.one (.l r.1), r.2) else none
    | some (.one (.l (.str a))), some (.one (.l (.str b))) => (bS op a b).map fun r => (.one (.l r.1), r.2)
    | some (.one (.l (.bool a))), some (.one (.l (.bool b))) => match ti P t, op with
      | some ⟨.bool, _, _, _⟩, .eql => some (.one (.l (.bool (a == b))), True)
      | some ⟨.bool, _, _, _⟩, .neq => some (.one (.l (.bool (!(a == b)))), True)
      | _, _ => none
    | some (.agg cs), some (.agg ds) => match eqOk P t with
      | some tds => match eqCs tds cs ds, op with
        | some r, .eql => some (.one (.l (.bool r)), True)
        | some r, .neq => some (.one (.l (.bool (!r))), True)
        | _, _ => none
      | none => none
    | _, _ => none
  | .unOp op _ x => match op, opd σ x with
    | .not, some (.one (.l (.bool b))) => some (.one (.l (.bool (!b))), True)
    | .neg, some (.one (.l (.int k n))) => some (.one (.l (.int k (k.wrap (0 - n)))), True)
    | _, _ => none
  | .convert s t x => match ti P s, ti P t, opd σ x with
    | some _, some ⟨.int k, _, _, _⟩, some (.one (.l (.int _ n))) => some (.one (.l (.int k (k.wrap n))), True)
    | some _, some ⟨.str, _, _, _⟩, some (.one (.l (.str s))) => some (.one (.l (.str s)), True)
    | _, _, _ => none
  | .build t ps => match ti P t, parts σ ps.toList with
    | some ⟨.struct fs, _, _, z⟩, some vs => if fs.all (fun f => (ti P f.2).isSome) then match constL z with
        | some cells => (fillC P fs cells vs).map fun cs => (.agg cs, True)
        | none => none
      else none
    | _, _ => none
  | .slice t x lo hi none => match ti P t, opd σ x with
    | some ⟨.str, _, _, _⟩, some (.one (.l (.str s))) => match bound σ 0 lo, bound σ s.size hi with
      | some l, some h => some (.one (.l (.str (s.extract l.toNat h.toNat))), 0 ≤ l ∧ l ≤ h ∧ h ≤ s.size)
      | _, _ => none
    | some ⟨.slice et, _, _, _⟩, some (.one (.l (.sl es))) => match ti P et, bound σ 0 lo, bound σ es.length hi with
      | some ei, some l, some h => some (.one (.l (.sl ((es.take h.toNat).drop l.toNat))), 0 ≤ l ∧ l ≤ h ∧ h ≤ es.length ∧ ∀ x ∈ es, x.length = ei.size)
      | _, _, _ => none
    | _, _ => none
  | .call { callee := .builtin .len, args := xs, argTypes := ts } => match xs.toList, ts.toList with
    | [x], [t] => match ti P t, opd σ x with
      | some ⟨.slice _, _, _, _⟩, some v => match v with
        | .one (.l (.str _)) => none
        | v => (lenV v).map fun n => (.one (.l (.int .i64 n)), True)
      | some ⟨.str, _, _, _⟩, some (.one (.l (.str s))) => some (.one (.l (.int .i64 s.size)), True)
      | _, _ => none
    | _, _ => none
  | .call { callee := .builtin .max, args := xs, argTypes := _ } => match opds σ xs.toList with
    | some vs => match nums vs with
      | some [a, b] => some (.one (.l (.int .i64 (if b > a then b else a))), True)
      | _ => none
    | none => none
  | .call { callee := .builtin .min, args := xs, argTypes := _ } => match opds σ xs.toList with
    | some vs => match nums vs with
      | some [a, b] => some (.one (.l (.int .i64 (if b < a then b else a))), True)
      | _ => none
    | none => none
  | _ => none

end Go.Proofs.Ytopjlbifglacpaa.Am
