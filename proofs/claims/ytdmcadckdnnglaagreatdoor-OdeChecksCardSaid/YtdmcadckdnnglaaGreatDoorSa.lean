/- Types of values (what a value stands for, in a world), and what stays when the world goes on. Symbolic execution of one operation: closed data. Symbolic execution of code, and what is left to show. What is left to show (vc), and what a symbolic state says of a frame and a world (Sat). One operation is what its symbolic execution says. Each operation: its run. Each operation: sound.
-/
import Derived.Orders
import Derived.RangeFuncOwn
import Derived.Below
import Derived.Laws.AppendOwn
import Derived.Laws.CopyOwn
import Derived.Lib.ItoaNum
set_option linter.unusedVariables false
set_option linter.unusedSimpArgs false
namespace Go.Sy
theorem c_a {α : Type _} {a : α} {l m : List α} : a :: l ++ m = a :: (l ++ m) := rfl
theorem n_a {α : Type _} {l : List α} : [] ++ l = l := rfl
open Go.RowKit (Below)

/-- the table that strconv.Itoa reads -/
def pow10V : Array Value := (Lib.pow10Tab.map fun z => Value.int .u64 z).toArray
/-- Tables of the library that are laid: the block, and what it holds. -/
def Tabs.tab : List (Nat × Array Value) := [(0, pow10V)]
/-- What was there, and is not ours to change, stays as it is, and stays not ours. -/
def Keep (M : Nat → Prop) (w : World) (M' : Nat → Prop) (w' : World) : Prop :=
  ∀ b o, ¬ M b → w.heap[b]? = some o → o.isCells = true → ¬ M' b ∧ w'.heap[b]? = some o

theorem Keep.refl (M : Nat → Prop) (w : World) : Keep M w M w := fun _ _ h h' _ => ⟨h, h'⟩
theorem Keep.trans {M M' M'' : Nat → Prop} {w w' w'' : World} (h : Keep M w M' w') (k : Keep M' w' M'' w'') : Keep M w M'' w'' :=
  fun b o hb ho hc => let ⟨h1, h2⟩ := h b o hb ho hc; k b o h1 h2 hc
theorem Keep.below {M : Nat → Prop} {w w' : World} (h : Below w.heap.size w w') : Keep M w M w' :=
  fun b o hb ho _ => ⟨hb, by rw [h.block b (Array.getElem?_eq_some_iff.1 ho).1]; exact ho⟩

/-- A type of one cell: what a cell's value stands for. -/
structure CTy where
  rep : (Nat → Prop) → World → Value → Prop
  mono : ∀ {M w M' w' v}, Keep M w M' w' → rep M w v → rep M' w' v
  one : ∀ {M w v}, rep M w v → v.oneCell' = true

def CTy.exact (v : Value) : CTy where
  rep := fun _ _ x => x = v ∧ v.oneCell' = true
  mono := fun _ h => h
  one := fun h => by rw [h.1]; exact h.2
def CTy.bad : CTy where
  rep := fun _ _ _ => False
  mono := fun _ h => h
  one := fun h => h.elim

abbrev CTy.int (k : IntKind) (n : Int) : CTy := .exact (.int k n)
abbrev CTy.bool (b : Bool) : CTy := .exact (.bool b)
abbrev CTy.str (s : ByteArray) : CTy := .exact (.string s)

inductive STy where
  | one (c : CTy)
  | agg (cs : List CTy)
  | rows (ts : List (List CTy))

def RepL (M : Nat → Prop) (w : World) : List CTy → List Value → Prop
  | [], [] => True
  | c :: cs, v :: vs => c.rep M w v ∧ RepL M w cs vs
  | _, _ => False

def STy.rep (M : Nat → Prop) (w : World) : STy → Value → Prop
  | .one c, v => c.rep M w v
  | .agg cs, v => ∃ vs : List Value, v = .agg vs.toArray ∧ RepL M w cs vs
  | .rows _, _ => False

def RepS (M : Nat → Prop) (w : World) : List STy → List Value → Prop
  | [], [] => True
  | c :: cs, v :: vs => c.rep M w v ∧ RepS M w cs vs
  | _, _ => False

theorem RepL.mono {M M' : Nat → Prop} {w w' : World} (h : Keep M w M' w') : ∀ {cs vs}, RepL M w cs vs → RepL M' w' cs vs
  | [], [], _ => trivial
  | _ :: _, _ :: _, ⟨a, b⟩ => ⟨CTy.mono _ h a, RepL.mono h b⟩
  | [], _ :: _, k => k.elim
  | _ :: _, [], k => k.elim
theorem STy.rep_mono {M M' : Nat → Prop} {w w' : World} (h : Keep M w M' w') : ∀ {t : STy} {v}, t.rep M w v → t.rep M' w' v
  | .one c, _, k => c.mono h k
  | .agg _, _, ⟨vs, e, k⟩ => ⟨vs, e, k.mono h⟩
  | .rows _, _, k => k
theorem RepS.mono {M M' : Nat → Prop} {w w' : World} (h : Keep M w M' w') : ∀ {cs vs}, RepS M w cs vs → RepS M' w' cs vs
  | [], [], _ => trivial
  | _ :: _, _ :: _, ⟨a, b⟩ => ⟨STy.rep_mono h a, RepS.mono h b⟩
  | [], _ :: _, k => k.elim
  | _ :: _, [], k => k.elim

theorem RepL.length {M : Nat → Prop} {w : World} : ∀ {cs vs}, RepL M w cs vs → cs.length = vs.length
  | [], [], _ => rfl
  | _ :: _, _ :: _, ⟨_, b⟩ => by simp [b.length]
  | [], _ :: _, k => k.elim
  | _ :: _, [], k => k.elim
theorem RepS.length {M : Nat → Prop} {w : World} : ∀ {cs vs}, RepS M w cs vs → cs.length = vs.length
  | [], [], _ => rfl
  | _ :: _, _ :: _, ⟨_, b⟩ => by simp [b.length]
  | [], _ :: _, k => k.elim
  | _ :: _, [], k => k.elim
theorem RepL.get {M : Nat → Prop} {w : World} : ∀ {cs vs}, RepL M w cs vs → ∀ (j : Nat) (c : CTy), cs[j]? = some c → ∃ v, vs[j]? = some v ∧ c.rep M w v
  | [], [], _, j, c, hc => by simp at hc
  | c0 :: cs, v0 :: vs, ⟨a, b⟩, j, c, hc => by
    cases j with
    | zero => simp at hc; subst hc; exact ⟨v0, rfl, a⟩
    | succ j => simpa using b.get j c (by simpa using hc)
  | [], _ :: _, k, _, _, _ => k.elim
  | _ :: _, [], k, _, _, _ => k.elim
theorem RepL.of_get {M : Nat → Prop} {w : World} : ∀ {cs vs}, cs.length = vs.length → (∀ (j : Nat) (c : CTy) (v : Value), cs[j]? = some c → vs[j]? = some v → c.rep M w v) → RepL M w cs vs
  | [], [], _, _ => trivial
  | c :: cs, v :: vs, hl, h => ⟨h 0 c v rfl rfl, RepL.of_get (by simpa using hl) fun j c' v' hc hv => h (j + 1) c' v' (by simpa using hc) (by simpa using hv)⟩
  | [], _ :: _, hl, _ => by simp at hl
  | _ :: _, [], hl, _ => by simp at hl
theorem RepL.append {M : Nat → Prop} {w : World} : ∀ {cs vs cs' vs'}, RepL M w cs vs → RepL M w cs' vs' → RepL M w (cs ++ cs') (vs ++ vs')
  | [], [], _, _, _, h => h
  | _ :: _, _ :: _, _, _, ⟨a, b⟩, h => ⟨a, b.append h⟩
  | [], _ :: _, _, _, k, _ => k.elim
  | _ :: _, [], _, _, k, _ => k.elim
theorem RepL.take {M : Nat → Prop} {w : World} : ∀ (n : Nat) {cs vs}, RepL M w cs vs → RepL M w (cs.take n) (vs.take n)
  | 0, _, _, _ => trivial
  | _ + 1, [], [], _ => trivial
  | n + 1, _ :: _, _ :: _, ⟨a, b⟩ => ⟨a, b.take n⟩
  | _ + 1, [], _ :: _, k => k.elim
  | _ + 1, _ :: _, [], k => k.elim
theorem RepL.drop {M : Nat → Prop} {w : World} : ∀ (n : Nat) {cs vs}, RepL M w cs vs → RepL M w (cs.drop n) (vs.drop n)
  | 0, _, _, h => h
  | _ + 1, [], [], _ => trivial
  | n + 1, _ :: _, _ :: _, ⟨_, b⟩ => b.drop n
  | _ + 1, [], _ :: _, k => k.elim
  | _ + 1, _ :: _, [], k => k.elim
theorem RepL.one {M : Nat → Prop} {w : World} : ∀ {cs vs}, RepL M w cs vs → ∀ v ∈ vs, v.oneCell' = true
  | [], [], _ => by simp
  | c :: _, v :: _, ⟨a, b⟩ => by
    intro x hx
    rcases List.mem_cons.1 hx with rfl | hx
    · exact c.one a
    · exact b.one x hx
  | [], _ :: _, k => k.elim
  | _ :: _, [], k => k.elim

/-- How many cells, by the form: none: one plain value. -/
def STy.shape : STy → Option (Option Nat)
  | .one _ => some none
  | .agg cs => some (some cs.length)
  | .rows _ => none

def STy.cells : STy → List CTy
  | .one c => [c]
  | .agg cs => cs
  | .rows _ => []
def STy.cell (t : STy) (j : Nat) : CTy := t.cells.getD j .bad

/-- What a call hands back. -/
def pack : List Value → Value
  | [v] => v
  | vs => .tuple vs.toArray

/-- How a call ends: results of these types, or a panic with a value of this type. -/
inductive Out where
  | ret (rs : List STy)
  | retr (rs : List STy) (ts : List (List CTy))
  | pan (c : CTy)

def OutRep (M : Nat → Prop) (w : World) : Out → Ending → Prop
  | .ret rs, e => ∃ vs, e = .returned (pack vs) ∧ RepS M w rs vs
  | .retr _ _, _ => False
  | .pan c, e => ∃ v, e = .panicked [{ v, recovered := false }] ∧ c.rep M w v

/-- The laid tables stand, and nobody may change them. -/
def Good (M : Nat → Prop) (w : World) : Prop := ∀ x ∈ Tabs.tab, ¬ M x.1 ∧ ∃ T fz, w.heap[x.1]? = some (.cells x.2 T fz)
/-- What a call may count on: what may change is there; the tables stand. -/
def Fine (M : Nat → Prop) (w : World) : Prop := (∀ b, M b → b < w.heap.size) ∧ Good M w
theorem Good.keep {M M' : Nat → Prop} {w w' : World} (h : Good M w) (k : Keep M w M' w') : Good M' w' := fun x hx => by
  obtain ⟨h1, T, fz, h2⟩ := h x hx
  obtain ⟨h3, h4⟩ := k x.1 _ h1 h2 rfl
  exact ⟨h3, T, fz, h4⟩
theorem Good.below {M : Nat → Prop} {w w' : World} {n : Nat} (h : Good M w) (hn : n = w.heap.size) (k : Below n w w') : Good M w' := by subst hn; exact h.keep (Keep.below k)
theorem Good.sub {M M' : Nat → Prop} {w : World} (h : Good M w) (k : ∀ b, M' b → M b) : Good M' w := fun x hx => ⟨fun hm => (h x hx).1 (k _ hm), (h x hx).2⟩
theorem Fine.sub {M M' : Nat → Prop} {w : World} (h : Fine M w) (k : ∀ b, M' b → M b) : Fine M' w := ⟨fun b hb => h.1 b (k b hb), h.2.sub k⟩

/-- THE CONTRACT OF A FUNCTION: arguments of these types, this end; nothing that was there changes. -/
def Does (P : Program) (f : FuncId) (args : List STy) (out : Out) : Prop :=
  (∀ as w, (callFunc f as).run P w = .ok (.enter f as) w) ∧
  ∀ (M : Nat → Prop) (w : World) (vs : List Value), Fine M w → RepS M w args vs →
    Calls P f vs.toArray w fun e w' => Below w.heap.size w w' ∧ OutRep M w' out e

/-- An operation that looks at its operands and at memory, and hands a value back. -/
def PrimOk (P : Program) (op : Op) (ty : TypeId) (args : List STy) (t : STy) : Prop :=
  ∀ (M : Nat → Prop) (w : World) (ρ : Operand → Value) (o : Oper), o.op = op → o.type = ty → RepS M w args (op.operands.toList.map ρ) →
    ∃ v, (execOp ρ o).run P w = .ok (.value v) w ∧ t.rep M w v

/-- An operation (a call) that changes the elements of a slice, one of its operands. -/
def RowOk (P : Program) (op : Op) (ty : TypeId) (E sz : Nat) (pre post : List STy) (ts : List (List CTy)) (rs : List STy) (ts' : List (List CTy)) : Prop :=
  ts'.length = ts.length ∧ (∀ t ∈ ts', t.length = sz) ∧
  ∀ (M : Nat → Prop) (w : World) (a : Act) (o : Oper) (c : Call) (K : Act → World → Prop) (Q : Exit → Act → World → Prop) (g off cap : Nat) (cur : Array Value) (vs1 vs2 : List Value), o.op = op → o.type = ty → op = .call c →
    c.args.toList.map a.eval = vs1 ++ .slice (some ⟨g, off, none⟩) ts.length cap :: vs2 → Fine M w → M g → w.heap[g]? = some (.cells cur E (0, 0)) →
    off + ts.length * sz ≤ cur.size → ts.length ≤ cap → cap ≤ maxLen → RepL M w ts.flatten ((cur.toList.drop off).take (ts.length * sz)) → RepS M w pre vs1 → RepS M w post vs2 →
    (∀ w' cur' us, w.grownBy w' (some g) → w'.heap[g]? = some (.cells cur' E (0, 0)) → cur'.size = cur.size → (∀ j, (j < off ∨ off + ts.length * sz ≤ j) → cur'[j]? = cur[j]?) → RepS M w' rs us →
      RepL M w' ts'.flatten ((cur'.toList.drop off).take (ts.length * sz)) → K (a.put o.dst (pack us)) w') → o.wp P a w K Q

/-- A pointer to cells that nobody changes any more. -/
def CTy.pref (cells : List CTy) : CTy where
  rep := fun M w v => ∃ b off cs T fz, v = .pointer (some ⟨b, off, none⟩) ∧ ¬ M b ∧ w.heap[b]? = some (.cells cs T fz) ∧ RepL M w cells ((cs.toList.drop off).take cells.length)
  mono := by
    rintro M w M' w' v hk ⟨b, off, cs, T, fz, rfl, hm, hh, hr⟩
    obtain ⟨h1, h2⟩ := hk b _ hm hh rfl
    exact ⟨b, off, cs, T, fz, rfl, h1, h2, hr.mono hk⟩
  one := by
    rintro M w v ⟨b, off, cs, T, fz, rfl, _⟩
    rfl

/-- A function value with what it has captured. -/
def CTy.clo (f : FuncId) (caps : List CTy) : CTy where
  rep := fun M w v => ∃ vs : List Value, v = .func (.func f) #[] vs.toArray ∧ RepL M w caps vs
  mono := by
    rintro M w M' w' v hk ⟨vs, rfl, hr⟩
    exact ⟨vs, rfl, hr.mono hk⟩
  one := by
    rintro M w v ⟨vs, rfl, _⟩
    rfl

/-- A slice whose elements nobody changes: 'E' the element's type, 'sz' its cells. -/
def CTy.slice (sz : Nat) (ts : List (List CTy)) : CTy where
  rep := fun M w v => ∃ a cap, v = .slice a ts.length cap ∧ ts.length ≤ cap ∧ cap ≤ maxLen ∧ (ts = [] ∨ ∃ b off cs T fz, a = some ⟨b, off, none⟩ ∧ ¬ M b ∧ w.heap[b]? = some (.cells cs T fz) ∧
    ∀ i t, ts[i]? = some t → t.length = sz ∧ RepL M w t ((cs.toList.drop (off + i * sz)).take sz))
  mono := by
    rintro M w M' w' v hk ⟨a, cap, rfl, hc, hc2, h⟩
    refine ⟨a, cap, rfl, hc, hc2, ?_⟩
    rcases h with h | ⟨b, off, cs, T, fz, rfl, hm, hh, hr⟩
    · exact .inl h
    · obtain ⟨h1, h2⟩ := hk b _ hm hh rfl
      exact .inr ⟨b, off, cs, T, fz, rfl, h1, h2, fun i t ht => ⟨(hr i t ht).1, (hr i t ht).2.mono hk⟩⟩
  one := by
    rintro M w v ⟨a, cap, rfl, _⟩
    rfl

end Go.Sy
namespace Go.Sy

/-- A cell that is known by a number (the cell j of the unknown i), or a constant, or a row that nobody changes any more. -/
inductive C0 where
  | u (i j : Nat)
  | k (v : Value)
  | sr (sz cid : Nat)
inductive CR where
  | c (x : C0)
  | ref (off : Nat) (cells : List C0)
inductive SC where
  | c (x : C0)
  | ref (off : Nat) (cells : List C0)
  | clo (f : Nat) (caps : List CR)
  | p (b off : Nat)
  | r (b : Nat)
  | rp (b sz : Nat) (i : C0) (off : Nat)
  | rs (b sz : Nat) (lo hi : C0)
inductive SW where
  | one (c : SC)
  | agg (cs : List SC)
inductive SV where
  | junk
  | undef
  | w (x : SW)
  | tup (xs : List SW)
inductive Bx where
  | var (T : Nat) (cells : List SC)
  | row (E sz cid : Nat)
  | part (E sz cid : Nat)
  | dead

structure Eff where
  tm : List (Nat × SV)
  bx : List (Nat × Bx)
  sl : List Nat

def look {α : Type} (l : List (Nat × α)) (n : Nat) : Option α :=
  match l with
  | [] => none
  | (m, x) :: l => if m = n then some x else look l n

structure St where
  tm : List (Nat × SV)
  bx : List (Nat × Bx)
  sl : List Nat

def St.t (s : St) (n : Nat) : SV := (look s.tm n).getD .junk
def St.b (s : St) (n : Nat) : Option Bx := look s.bx n
def St.s (s : St) (n : Nat) : Bool := s.sl.contains n
def St.app (s : St) (e : Eff) : St := ⟨e.tm ++ s.tm, e.bx ++ s.bx, e.sl ++ s.sl⟩

/-- A look at the state. -/
inductive Q (α : Type) where
  | ret (a : α)
  | fail
  | t (n : Nat) (k : SV → Q α)
  | b (n : Nat) (k : Option Bx → Q α)
  | s (n : Nat) (k : Bool → Q α)

inductive Loc where
  | t (n : Nat)
  | b (n : Nat)
  | s (n : Nat)
  deriving DecidableEq

def Q.bind {α β : Type} : Q α → (α → Q β) → Q β
  | .ret a, f => f a
  | .fail, _ => .fail
  | .t n k, f => .t n fun x => (k x).bind f
  | .b n k, f => .b n fun x => (k x).bind f
  | .s n k, f => .s n fun x => (k x).bind f
instance : Monad Q where
  pure := Q.ret
  bind := Q.bind
def Q.run {α : Type} (s : St) : Q α → Option α
  | .ret a => some a
  | .fail => none
  | .t n k => (k (s.t n)).run s
  | .b n k => (k (s.b n)).run s
  | .s n k => (k (s.s n)).run s
def Q.log {α : Type} (s : St) : Q α → List Loc
  | .ret _ => []
  | .fail => []
  | .t n k => .t n :: (k (s.t n)).log s
  | .b n k => .b n :: (k (s.b n)).log s
  | .s n k => .s n :: (k (s.s n)).log s
def getT (n : Nat) : Q SV := .t n .ret
def getB (n : Nat) : Q (Option Bx) := .b n .ret
def getS (n : Nat) : Q Bool := .s n .ret
def Q.of {α : Type} : Option α → Q α
  | some a => .ret a
  | none => .fail
def ask (p : Prop) [Decidable p] : Q Unit := if p then .ret () else .fail

/-- a row, or a part of one that is lent -/
def mkBx (pt : Bool) (E sz cid : Nat) : Bx := if pt then .part E sz cid else .row E sz cid
def getRow (b : Nat) : Q (Bool × Nat × Nat × Nat) := do
  match ← getB b with
  | some (.row E sz cid) => return (false, E, sz, cid)
  | some (.part E sz cid) => return (true, E, sz, cid)
  | _ => .fail

/-- a box that is not there yet -/
def newBox (nb : Nat) : Q Unit := do
  let x ← getB nb
  ask (x.isNone = true)
  ask ((← getS nb) = false)

/-- What is asked for a step beyond the state: what the prover pays. -/
inductive Need where
  | none
  | prim (args : List SW) (sh : Option Nat)
  | call (f : Nat) (args : List SW) (sh : List (Option Nat))
  | callv (c : C0) (args : List SW) (sh : List (Option Nat))
  | lit (sz : Nat) (tss : List (List C0))
  | make (zero : List Value) (bytes : Nat) (len cap : C0)
  | app (sz bytes : Nat) (cid : Option Nat) (src : Option C0) (row : Option Nat)
  | idx (cid : Nat) (i : C0)
  | ldrow (cid : Nat) (i : C0) (off sz : Nat) (agg : Bool)
  | strow (cid sz : Nat) (i : C0) (off : Nat) (cells : List C0)
  | lenrow (cid : Nat)
  | rop (cid E sz : Nat) (view : Option (C0 × C0)) (pre post : List SW) (sh : List (Option Nat))
  | view (cid : Nat) (lo hi mx : C0)

def Need.ids : Need → Nat
  | .none | .idx .. | .view .. => 0
  | .call _ _ sh | .callv _ _ sh => sh.length
  | .rop _ _ _ _ _ _ sh => sh.length + 1
  | _ => 1

def aggT (P : Program) (T : Nat) : Option (Bool × Nat) :=
  match P.underlying T, P.info? T with
  | some d, some i => some ((match d with | .struct _ | .array _ _ => true | _ => false), i.size)
  | _, _ => none

def shapeT (P : Program) (T : Nat) : Option (Option Nat) :=
  (aggT P T).map fun (a, n) => if a then some n else none

/-- a value of a new unknown -/
def newSW (i : Nat) : Option Nat → SW
  | none => .one (.c (.u i 0))
  | some n => .agg ((List.range n).map fun j => .c (.u i j))

def valSV : Value → SV
  | .agg cs => if cs.toList.all (·.oneCell') then .w (.agg (cs.toList.map fun v => .c (.k v))) else .junk
  | .tuple _ => .junk
  | .func .. => .junk
  | v => .w (.one (.c (.k v)))

def opd : Operand → Q SV
  | .tmp t => getT t
  | .const v => .ret (valSV v)
  | .func f => .ret (.w (.one (.clo f [])))
  | .global _ => .ret .junk

def SV.sw : SV → Option SW
  | .w x => some x
  | _ => none
def SW.sc : SW → Option SC
  | .one c => some c
  | _ => none
def SW.cells : SW → List SC
  | .one c => [c]
  | .agg cs => cs
def opdW (x : Operand) : Q SW := do let v ← opd x; Q.of v.sw
def opdC (x : Operand) : Q SC := do let v ← opdW x; Q.of v.sc
def opdWs : List (Nat × Operand) → Q (List (Nat × SW))
  | [] => .ret []
  | (i, x) :: xs => do let v ← opdW x; let vs ← opdWs xs; return (i, v) :: vs

/-- A cell as it is handed on for good: a row of ours is sealed. -/
def flatC : SC → Q (C0 × List Nat)
  | .c x => .ret (x, [])
  | .r b => do
    let some (.row _ sz cid) ← getB b | .fail
    return (.sr sz cid, [b])
  | _ => .fail
def flatCs : List SC → Q (List C0 × List Nat)
  | [] => .ret ([], [])
  | c :: cs => do let (x, l) ← flatC c; let (xs, ls) ← flatCs cs; return (x :: xs, l ++ ls)

/-- A cell as it is handed to a function: beside that, a pointer to a sealed variable is a reference. -/
def handC : SC → Q (SC × List Nat)
  | .r b => do
    let some (.row _ sz cid) ← getB b | .fail
    return (.c (.sr sz cid), [b])
  | .p b off => do
    ask (← getS b)
    let some (.var _ cells) ← getB b | .fail
    let (xs, l) ← flatCs cells
    ask (l.isEmpty)
    return (.ref off xs, [])
  | .rp .. => .fail
  | .rs .. => .fail
  | c => .ret (c, [])
def handCs : List SC → Q (List SC × List Nat)
  | [] => .ret ([], [])
  | c :: cs => do let (x, l) ← handC c; let (xs, ls) ← handCs cs; return (x :: xs, l ++ ls)
def handW : SW → Q (SW × List Nat)
  | .one c => do let (c, l) ← handC c; return (.one c, l)
  | .agg cs => do let (cs, l) ← handCs cs; return (.agg cs, l)
def handWs : List Operand → Q (List SW × List Nat)
  | [] => .ret ([], [])
  | x :: xs => do let v ← opdW x; let (y, l) ← handW v; let (ys, ls) ← handWs xs; return (y :: ys, l ++ ls)

/-- parts laid over the cells of zero -/
def fillS (place : Nat → Option (Nat × Nat)) (cells : List SC) : List (Nat × SW) → Option (List SC)
  | [] => some cells
  | (i, v) :: rest => match place i with
    | none => none
    | some (off, size) =>
      if v.cells.length ≠ size || off + v.cells.length > cells.length then none
      else fillS place (cells.take off ++ v.cells ++ cells.drop (off + v.cells.length)) rest

def placesT (P : Program) (T : Nat) : Option (List (Nat × Nat)) :=
  match P.underlying T with
  | some (.struct fs) => fs.toList.mapM fun f => (P.info? f.type).map fun i => (f.offset, i.size)
  | _ => none

def zeroT (P : Program) (T : Nat) : Option (List Value) :=
  match P.info? T with
  | some i => match i.zero with
    | some z => if z.cells.toList.all (·.oneCell') && z.cells.size == i.size then some z.cells.toList else none
    | none => none
  | none => none

def fieldT (P : Program) (T f : Nat) : Option (Nat × Nat × Nat) :=
  match P.underlying T with
  | some (.struct fs) => match fs[f]? with
    | some fl => (P.info? fl.type).map fun i => (fl.type, fl.offset, i.size)
    | none => none
  | _ => none

def elemT (P : Program) (T : Nat) : Option (Nat × Nat × Nat) :=
  match P.underlying T with
  | some (.slice e) => (P.info? e).map fun i => (e, i.size, i.bytes)
  | _ => none

def tupT (P : Program) (T : Nat) : Option (List (Option Nat)) :=
  match P.underlying T with
  | some (.tuple ts) => ts.toList.mapM (shapeT P)
  | _ => (shapeT P T).map fun s => [s]

def funcOk (P : Program) (f : Nat) : Bool :=
  match P.funcs[f]? with
  | some fn => fn.name != "runtime.NumGoroutine" && fn.body.isSome
  | none => false

/-- results of a call: one value, or a tuple of them; their ids from ni on -/
def resSV (ni : Nat) (sh : List (Option Nat)) : SV :=
  match sh with
  | [x] => .w (newSW ni x)
  | xs => .tup (xs.mapIdx fun j x => newSW (ni + j) x)

def put (o : Oper) (v : SV) : List (Nat × SV) :=
  match o.dst with
  | some d => [(d, v)]
  | none => []

def pureE (o : Oper) (v : SV) : Eff × Need := (⟨put o v, [], []⟩, .none)

def primE (P : Program) (o : Oper) (ni : Nat) : Q (Eff × Need) := do
  let (args, sl) ← handWs o.op.operands.toList
  let sh ← Q.of (shapeT P o.type)
  return (⟨put o (.w (newSW ni sh)), [], sl⟩, .prim args sh)

def getN (l : List SC) (off n : Nat) : Option (List SC) := if off + n ≤ l.length then some ((l.drop off).take n) else none

def aggSV (agg : Bool) (cs : List SC) : Option SV :=
  if agg then some (.w (.agg cs)) else match cs with
    | [c] => some (.w (.one c))
    | _ => none

def capW : CR → SW
  | .c x => .one (.c x)
  | .ref off cs => .one (.ref off cs)

def callE (P : Program) (o : Oper) (ni : Nat) (f : Nat) (args : List Operand) (caps : List CR) : Q (Eff × Need) := do
  let (as, sl) ← handWs args
  let sh ← Q.of (tupT P o.type)
  ask (funcOk P f = true)
  return (⟨put o (resSV ni sh), [], sl⟩, .call f (as ++ caps.map capW) sh)

/-- captured variables: each is sealed -/
def capOf : SC → Q (CR × List Nat)
  | .p b 0 => do
    let some (.var _ cells) ← getB b | .fail
    let (xs, l) ← flatCs cells
    return (.ref 0 xs, b :: l)
  | .ref off xs => .ret (.ref off xs, [])
  | c => do let (x, l) ← flatC c; return (.c x, l)
def capsOf : List Operand → Q (List CR × List Nat)
  | [] => .ret ([], [])
  | v :: vs => do let c ← opdC v; let (x, l) ← capOf c; let (xs, ls) ← capsOf vs; return (x :: xs, l ++ ls)

def isNil : C0 → Bool
  | .k (.slice none 0 0) => true
  | _ => false

def stepLoad (P : Program) (o : Oper) (ni : Nat) (T : Nat) (x : Operand) : Q (Eff × Need) := do
  let c ← opdC x
  let (ag, n) ← Q.of (aggT P T)
  match c with
  | .p b off =>
    let some (.var _ cells) ← getB b | .fail
    let cs ← Q.of (getN cells off n)
    let v ← Q.of (aggSV ag cs)
    return pureE o v
  | .ref off cells =>
    ask (0 < n)
    let cs ← Q.of (getN (cells.map .c) off n)
    let v ← Q.of (aggSV ag cs)
    return pureE o v
  | .rp b sz i off =>
    let (_, _, sz', cid) ← getRow b
    ask (sz' = sz ∧ off + n ≤ sz)
    return (⟨put o (.w (newSW ni (if ag then some n else none))), [], []⟩, .ldrow cid i off n ag)
  | _ => primE P o ni

def stepStore (P : Program) (o : Oper) (ni : Nat) (T : Nat) (x y : Operand) : Q (Eff × Need) := do
  let c ← opdC x
  let v ← opdW y
  let (_, n) ← Q.of (aggT P T)
  match c with
  | .p b off =>
    let some (.var T' cells) ← getB b | .fail
    ask ((← getS b) = false)
    ask (v.cells.length = n ∧ off + n ≤ cells.length)
    return (⟨put o .undef, [(b, .var T' (cells.take off ++ v.cells ++ cells.drop (off + n)))], []⟩, .none)
  | .rp b sz i off =>
    let (pt, E, sz', cid) ← getRow b
    ask ((← getS b) = false)
    let (xs, sl) ← flatCs v.cells
    ask (sz' = sz ∧ v.cells.length = n ∧ off + n ≤ sz ∧ sl.contains b = false)
    return (⟨put o .undef, [(b, mkBx pt E sz' ni)], sl⟩, .strow cid sz i off xs)
  | _ => .fail

def stepAppend (P : Program) (o : Oper) (nb ni : Nat) (t : List Nat) (x y : Operand) : Q (Eff × Need) := do
  let (e, sz, by_) ← Q.of (elemT P (t.getD 0 0))
  ask (t = [t.getD 0 0, t.getD 0 0] ∧ 0 < sz)
  let _ ← Q.of (zeroT P e)
  let a ← opdC x
  let c ← opdC y
  let (cid, kill) ← (match a with
    | .r b => do
      let some (.row e1 s1 cid) ← getB b | .fail
      ask ((← getS b) = false)
      ask (e1 = e ∧ s1 = sz)
      return (some cid, [(b, Bx.dead)])
    | .c y => do
      ask (isNil y = true)
      return (none, [])
    | _ => .fail)
  let (src, row) ← (match c with
    | .r b => do
      let some (.row _ s2 cid) ← getB b | .fail
      ask (s2 = sz ∧ kill.all (fun z => z.1 != b))
      return (none, some cid)
    | .c y => return (some y, none)
    | _ => .fail)
  newBox nb
  return (⟨put o (.w (.one (.r nb))), (nb, .row e sz ni) :: kill, []⟩, .app sz by_ cid src row)

def stepAlloc (P : Program) (o : Oper) (nb : Nat) (T : Nat) : Q (Eff × Need) := do
  let z ← Q.of (zeroT P T)
  newBox nb
  return (⟨put o (.w (.one (.p nb 0))), [(nb, .var T (z.map fun v => .c (.k v)))], []⟩, .none)
def stepBox (o : Oper) (nb : Nat) (T : Nat) (x : Operand) : Q (Eff × Need) := do
  let v ← opdW x
  newBox nb
  return (⟨put o (.w (.one (.p nb 0))), [(nb, .var T v.cells)], []⟩, .none)
def stepNil (P : Program) (o : Oper) (ni : Nat) (x : Operand) : Q (Eff × Need) := do
  let c ← opdC x
  match c with
  | .p b off => return pureE o (.w (.one (.p b off)))
  | .ref off cs => return pureE o (.w (.one (.ref off cs)))
  | .clo f cs => return pureE o (.w (.one (.clo f cs)))
  | .rp b sz i off => return pureE o (.w (.one (.rp b sz i off)))
  | _ => primE P o ni
def stepBuild (P : Program) (o : Oper) (T : Nat) (parts : List (Nat × Operand)) : Q (Eff × Need) := do
  let pl ← Q.of (placesT P T)
  let z ← Q.of (zeroT P T)
  let ps ← opdWs parts
  let cs ← Q.of (fillS (pl[·]?) (z.map fun v => .c (.k v)) ps)
  return pureE o (.w (.agg cs))
def stepLit (P : Program) (o : Oper) (nb ni : Nat) (T len : Nat) (parts : List (Nat × Operand)) : Q (Eff × Need) := do
  let (e, sz, by_) ← Q.of (elemT P T)
  let ps ← opdWs parts
  ask (ps.map (·.1) = List.range len ∧ ps.all (fun p => p.2.cells.length == sz) = true ∧ len * sz ≤ 16777216 ∧ 0 < sz)
  let z ← Q.of (zeroT P e)
  let (xs, sl) ← flatCs (ps.flatMap fun p => p.2.cells)
  newBox nb
  return (⟨put o (.w (.one (.r nb))), [(nb, .row e sz ni)], sl⟩, .lit sz ((List.range len).map fun i => (xs.drop (i * sz)).take sz))
def stepMake (P : Program) (o : Oper) (nb ni : Nat) (T : Nat) (l c : Operand) : Q (Eff × Need) := do
  let (e, sz, by_) ← Q.of (elemT P T)
  let SC.c x ← opdC l | .fail
  let SC.c y ← opdC c | .fail
  let z ← Q.of (zeroT P e)
  ask (0 < sz)
  newBox nb
  return (⟨put o (.w (.one (.r nb))), [(nb, .row e sz ni)], []⟩, .make z by_ x y)
def stepFieldAddr (P : Program) (o : Oper) (ni : Nat) (T : Nat) (x : Operand) (f : Nat) : Q (Eff × Need) := do
  let c ← opdC x
  match c with
  | .p b off =>
    let (_, fo, fs) ← Q.of (fieldT P T f)
    ask (0 < fs)
    return pureE o (.w (.one (.p b (off + fo))))
  | .ref off cs =>
    let (_, fo, fs) ← Q.of (fieldT P T f)
    ask (0 < fs)
    return pureE o (.w (.one (.ref (off + fo) cs)))
  | .rp b sz i off =>
    let (_, fo, fs) ← Q.of (fieldT P T f)
    ask (0 < fs)
    return pureE o (.w (.one (.rp b sz i (off + fo))))
  | _ => primE P o ni
def stepField (P : Program) (o : Oper) (T : Nat) (x : Operand) (f : Nat) : Q (Eff × Need) := do
  let SW.agg cs ← opdW x | .fail
  let (ft, fo, _) ← Q.of (fieldT P T f)
  let (ag, n) ← Q.of (aggT P ft)
  let cs ← Q.of (getN cs fo n)
  let v ← Q.of (aggSV ag cs)
  return pureE o v
def stepExtract (o : Oper) (x : Operand) (i : Nat) : Q (Eff × Need) := do
  let SV.tup vs ← opd x | .fail
  let v ← Q.of vs[i]?
  return pureE o (.w v)
def stepFunc (o : Oper) (f : Nat) (first caps : Array Operand) : Q (Eff × Need) := do
  ask (first.isEmpty = true)
  let (cs, sl) ← capsOf caps.toList
  return (⟨put o (.w (.one (.clo f cs))), [], sl⟩, .none)
def stepIndex (P : Program) (o : Oper) (ni : Nat) (T : Nat) (x i : Operand) : Q (Eff × Need) := do
  let c ← opdC x
  match c with
  | .r b =>
    let SC.c y ← opdC i | .fail
    let (_, _, sz, cid) ← getRow b
    let (e', sz', _) ← Q.of (elemT P T)
    ask (sz' = sz)
    return (⟨put o (.w (.one (.rp b sz y 0))), [], []⟩, .idx cid y)
  | _ => primE P o ni
def stepCallv (P : Program) (o : Oper) (ni : Nat) (x : Operand) (args : List Operand) : Q (Eff × Need) := do
  let g ← opdC x
  match g with
  | .clo f caps => callE P o ni f args caps
  | .c y =>
    let (as, sl) ← handWs args
    let sh ← Q.of (tupT P o.type)
    return (⟨put o (resSV ni sh), [], sl⟩, .callv y as sh)
  | _ => .fail
def stepLen (P : Program) (o : Oper) (ni : Nat) (args : List Operand) (ts : List Nat) : Q (Eff × Need) :=
  match args, ts with
  | [x], T :: _ => do
    let v ← opdC x
    match v with
    | .r b =>
      let (_, _, _, cid) ← getRow b
      let _ ← Q.of (elemT P T)
      return (⟨put o (.w (newSW ni none)), [], []⟩, .lenrow cid)
    | _ => primE P o ni
  | _, _ => .fail

/-! ### calls that write into a slice -/
def bodyOps : Code → List Oper
  | .region _ ops _ => ops.toList
  | .seq a b => bodyOps a ++ bodyOps b
  | .cond _ a b => bodyOps a ++ bodyOps b
  | .block _ a => bodyOps a
  | .scope a => bodyOps a
  | .loop a => bodyOps a
  | _ => []

/-- the slots to which an address in slot t leads back -/
def rootOf (ops : List Oper) : Nat → Nat → Nat × Nat
  | 0, t => (t, 0)
  | n + 1, t => match ops.find? (fun o => o.dst == some t) with
    | some o => match o.op with
      | .fieldAddr _ (.tmp x) _ => rootOf ops n x
      | .nilCheck (.tmp x) => rootOf ops n x
      | _ => (t, 0)
    | none => (t, 0)
def movedOf (ops : List Oper) : Nat → Nat → Nat
  | 0, t => t
  | n + 1, t => match ops.find? (fun o => o.dst == some t) with
    | some o => match o.op with
      | .move (.tmp x) => movedOf ops n x
      | _ => t
    | none => t

def stored (ops : List Oper) : List Nat := ops.filterMap fun o => match o.op with
  | .store _ (.tmp x) _ => some (rootOf ops 6 x).1
  | _ => none
/-- slots of slices into which the body writes -/
def storedRows (ops : List Oper) : List Nat := (stored ops).filterMap fun x => match ops.find? (fun o => o.dst == some x) with
  | some o => match o.op with
    | .indexAddr _ (.tmp y) _ => some (movedOf ops 6 y)
    | _ => none
  | none => none

/-- which parameter's elements does the function write? -/
def mutArg (P : Program) (f : Nat) : Option Nat :=
  match P.funcs[f]? with
  | some fn => match fn.body with
    | some c => (storedRows (bodyOps c)).find? fun t => t < fn.params.size
    | none => none
  | none => none
def rsz (c : SC) (sz : Nat) : Bool := match c with | .rs _ s0 _ _ => s0 == sz | _ => true
/-- an operation that changes the elements of a slice, an operand of it -/
def stepMut (P : Program) (o : Oper) (ni : Nat) (pre : List Operand) (x : Operand) (post : List Operand) : Q (Eff × Need) := do
  let (as, sl1) ← handWs pre
  let c ← opdC x
  let (bs, sl2) ← handWs post
  let (b, view) ← (match c with
    | .r b => return (b, none)
    | .rs b _ lo hi => return (b, some (lo, hi))
    | _ => .fail : Q (Nat × Option (C0 × C0)))
  let (pt, E, sz, cid) ← getRow b
  ask (rsz c sz = true)
  ask ((← getS b) = false)
  ask ((sl1 ++ sl2).contains b = false)
  let sh ← Q.of (tupT P o.type)
  return (⟨put o (resSV ni sh), [(b, mkBx pt E sz (ni + sh.length))], sl1 ++ sl2⟩, .rop cid E sz view as bs sh)
def stepSlice (P : Program) (o : Oper) (ni : Nat) (T : Nat) (x : Operand) (lo hi mx : Option Operand) : Q (Eff × Need) := do
  let c ← opdC x
  match c, lo, hi, mx with
  | .r b, some l, some h, some m => do
    let (_, _, sz, cid) ← getRow b
    let (_, sz', _) ← Q.of (elemT P T)
    ask (sz' = sz)
    let SC.c l ← opdC l | .fail
    let SC.c h ← opdC h | .fail
    let SC.c m ← opdC m | .fail
    return (⟨put o (.w (.one (.rs b sz l h))), [], []⟩, .view cid l h m)
  | _, _, _, _ => primE P o ni

/-- ONE OPERATION. nb: the number of a new box, ni: of a new unknown. -/
def step (P : Program) (o : Oper) (nb ni : Nat) : Q (Eff × Need) :=
  match o.op with
  | .move x | .assign x => do let v ← opd x; return pureE o v
  | .alloc T => stepAlloc P o nb T
  | .box T x => stepBox o nb T x
  | .load T x => stepLoad P o ni T x
  | .store T x y => stepStore P o ni T x y
  | .nilCheck x => stepNil P o ni x
  | .build T parts => stepBuild P o T parts.toList
  | .buildSlice T len parts => stepLit P o nb ni T len parts.toList
  | .makeSlice T l c => stepMake P o nb ni T l c
  | .fieldAddr T x f => stepFieldAddr P o ni T x f
  | .field T x f => stepField P o T x f
  | .extract x i => stepExtract o x i
  | .makeFunc (.func f) first caps => stepFunc o f first caps
  | .indexAddr T x i => stepIndex P o ni T x i
  | .call c => match c.callee with
    | .value (.func f) => match mutArg P f with
      | some j => match c.args.toList[j]? with
        | some x => do
          ask (funcOk P f = true)
          stepMut P o ni (c.args.toList.take j) x (c.args.toList.drop (j + 1))
        | none => .fail
      | none => callE P o ni f c.args.toList []
    | .value x => stepCallv P o ni x c.args.toList
    | .builtin .len => stepLen P o ni c.args.toList c.argTypes.toList
    | .builtin .copy => match c.args.toList with
      | [x, y] => stepMut P o ni [] x [y]
      | _ => .fail
    | .builtin .append => match c.args.toList with
      | [x, y] => stepAppend P o nb ni c.argTypes.toList x y
      | _ => .fail
    | .builtin _ => primE P o ni
    | .invoke _ _ => .fail
  | .slice T x lo hi mx => stepSlice P o ni T x lo hi mx
  | .binOp .. | .unOp .. | .convert .. | .index .. | .makeInterface .. => primE P o ni
  | _ => .fail

end Go.Sy
namespace Go.Sy

/-- What goes over a loop's head: a value, or what a row of ours holds. -/
inductive LV where
  | w (x : SW)
  | row (cid : Nat)
  | nilrow

inductive Tr where
  | fail (why : Nat)
  | need (nd : Need) (op : Op) (ty : Nat) (last : Bool) (k : Tr)
  | split (c : C0) (kt kf : Tr)
  | ret (vs : List SW)
  | retr (vs : List SW) (cid : Nat)
  | pan (x : C0)
  | loop (d : Nat) (inits : List LV) (k : Tr)
  | back (d : Nat) (vals : List LV)

/-! ### all unknowns that are named are below n -/
def C0.ok (n : Nat) : C0 → Bool
  | .u i _ => decide (i < n)
  | .k _ => true
  | .sr _ cid => decide (cid < n)
def CR.ok (n : Nat) : CR → Bool
  | .c x => x.ok n
  | .ref _ cs => cs.all (C0.ok n)
def SC.ok (n : Nat) : SC → Bool
  | .c x => x.ok n
  | .ref _ cs => cs.all (C0.ok n)
  | .clo _ cs => cs.all (CR.ok n)
  | _ => true
def SW.ok (n : Nat) : SW → Bool
  | .one c => c.ok n
  | .agg cs => cs.all (SC.ok n)
def Need.ok (n : Nat) : Need → Bool
  | .none => true
  | .prim args _ => args.all (SW.ok n)
  | .call _ args _ => args.all (SW.ok n)
  | .callv c args _ => c.ok n && args.all (SW.ok n)
  | .lit _ tss => tss.all fun t => t.all (C0.ok n)
  | .make _ _ l c => l.ok n && c.ok n
  | .app _ _ cid src row => (cid.all fun c => decide (c < n)) && (src.all fun c => c.ok n) && (row.all fun c => decide (c < n))
  | .idx cid i => decide (cid < n) && i.ok n
  | .ldrow cid i _ _ _ => decide (cid < n) && i.ok n
  | .strow cid _ i _ cs => decide (cid < n) && i.ok n && cs.all (C0.ok n)
  | .lenrow cid => decide (cid < n)
  | .rop cid _ _ v as bs _ => decide (cid < n) && (v.all fun x => x.1.ok n && x.2.ok n) && as.all (SW.ok n) && bs.all (SW.ok n)
  | .view cid l h m => decide (cid < n) && l.ok n && h.ok n && m.ok n

structure Rec where
  after : List Nat
  tch : List Loc
  wr : List Loc

def Eff.wr (e : Eff) : List Loc := e.tm.map (fun x => .t x.1) ++ e.bx.map (fun x => .b x.1) ++ e.sl.map .s

/-- is an operation ahead of another one: by itself, or by others (at most so many) between them? -/
def bef (l : List Rec) : Nat → Rec → Nat → Bool
  | 0, y, i => y.after.contains i
  | n + 1, y, i => y.after.contains i || y.after.any fun k => match l[k]? with | some x => bef l n x i | none => false
/-- is each two, of which one writes what the other touches, in an order? (the records: the first operation's last) -/
def ordered (recs : List Rec) : Bool :=
  let l := recs.reverse
  (l.zipIdx).all fun (x, i) => (x.after.all fun j => j < i) && (l.zipIdx).all fun (y, j) =>
    i == j || !(x.wr.any fun a => y.tch.contains a || y.wr.contains a) || (if i < j then bef l 3 y i else bef l 3 x j)

def binding (o : Oper) : List Nat := (o.after.toList.filter fun e => Region.binds .any e).map (·.on)

/-- what a cell says of a test: known, by itself or since the way has parted on it -/
def known (dec : List (Nat × Nat × Bool)) : C0 → Option Bool
  | .k (.bool b) => some b
  | .u i j => (dec.find? fun x => x.1 == i && x.2.1 == j).map (·.2.2)
  | _ => none
def learn (dec : List (Nat × Nat × Bool)) (β : Bool) : C0 → List (Nat × Nat × Bool)
  | .u i j => (i, j, β) :: dec
  | _ => dec
def parts (dec : List (Nat × Nat × Bool)) (c : C0) (k : Bool → List (Nat × Nat × Bool) → Tr) : Tr :=
  match known dec c with
  | some β => k β dec
  | none => .split c (k true (learn dec true c)) (k false (learn dec false c))

def dstOk (N : Nat) (o : Oper) : Bool :=
  match o.dst with
  | some d => decide (d < N)
  | none => true

def mkNeed (o : Oper) (last : Bool) (k : Tr) : Need → Tr
  | .none => k
  | nd => .need nd o.op o.type last k

/-- may nothing but a new variable come ahead of the operation i among these, that stand behind it? and does it write nothing that the others touch? -/
def isLast (P : Program) (N i : Nat) (rest : List Oper) (recs : List Rec) : Bool :=
  (rest.all fun o => (binding o).contains i || (match o.op with | .alloc T => o.guard.isNone && (zeroT P T).isSome && dstOk N o | _ => false))
  && ordered ((rest.map fun o => ⟨binding o, [], if (binding o).contains i then [] else o.dst.toList.map .t⟩).reverse ++ recs)

/-- a call of a function -/
def isCallV (o : Oper) : Bool :=
  match o.op with
  | .call c => (match c.callee with | .value _ => true | _ => false)
  | _ => false

/-- the cell of a slot -/
def testOf (s : St) (t : Nat) : Option C0 :=
  match s.t t with
  | .w (.one (.c c)) => some c
  | _ => none

def execOps (P : Program) (N : Nat) (ops : Array Oper) : List Oper → Nat → Nat → Nat → St → List (Nat × Nat × Bool) → List Rec →
    (Nat → Nat → St → List (Nat × Nat × Bool) → List Rec → Tr) → Tr
  | [], _, nb, ni, s, dec, recs, k => k nb ni s dec recs
  | o :: rest, i, nb, ni, s, dec, recs, k =>
    let skip : List Loc → List (Nat × Nat × Bool) → Tr := fun l dec =>
      if dstOk N o then execOps P N ops rest (i + 1) nb ni (s.app ⟨put o .undef, [], []⟩) dec (⟨binding o, l, (put o .undef).map fun x => .t x.1⟩ :: recs) k else .fail i
    let go : List Loc → List (Nat × Nat × Bool) → Q (Eff × Need) → Tr := fun l dec q =>
      match q.run s with
      | none => .fail i
      | some (e, nd) => if dstOk N o && nd.ok ni then
        let recs := ⟨binding o, l ++ q.log s, e.wr⟩ :: recs
        mkNeed o (isCallV o && isLast P N i rest recs) (execOps P N ops rest (i + 1) (nb + 1) (ni + nd.ids) (s.app e) dec recs k) nd else .fail i
    let run : List Loc → List (Nat × Nat × Bool) → Tr := fun l dec =>
      match o.op with
      | .pick (.tmp t) x y => match testOf s t with
        | some c => parts dec c fun β dec => go (.t t :: l) dec (do let v ← opd (if β then x else y); return pureE o v)
        | none => .fail i
      | .panic x => match (opd x).run s with
        | some (.w (.one (.c c))) => if isLast P N i rest (⟨binding o, (opd x).log s, []⟩ :: recs) && o.guard.isNone then .pan c else .fail i
        | _ => .fail i
      | _ => go l dec (step P o nb ni)
    match o.guard with
    | none => run [] dec
    | some (j, want) => match (ops[j]?).bind (·.dst) with
      | none => .fail i
      | some d => match s.t d with
        | .undef => skip [.t d] dec
        | _ => match testOf s d with
          | some c => parts dec c fun β dec => if β = want then run [.t d] dec else skip [.t d] dec
          | none => .fail i

inductive Ex where
  | normal | exit (id : Nat) | ret

/-- How a loop's head is seen. tms: these slots hold values of which the types are known. rws: these slots hold rows of ours (slot, the slice's type). rbs: these slots hold rows of ours that are written in place. bxs: these slots point to variables that change (slot, the cells that hold rows of ours with the slices' types). All other slots that the body writes hold nothing that is known. -/
structure Hint where
  tms : List Nat
  rws : List (Nat × Nat)
  rbs : List Nat
  bxs : List (Nat × List (Nat × Nat))

def nloops : Code → Nat
  | .seq a b => nloops a + nloops b
  | .cond _ a b => nloops a + nloops b
  | .block _ a => nloops a
  | .scope a => nloops a
  | .loop a => nloops a + 1
  | _ => 0

def dsts : Code → List Nat
  | .region _ ops _ => ops.toList.filterMap (·.dst)
  | .seq a b => dsts a ++ dsts b
  | .cond _ a b => dsts a ++ dsts b
  | .block _ a => dsts a
  | .scope a => dsts a
  | .loop a => dsts a
  | _ => []

def vSame : Value → Value → Bool
  | .int k n, .int k' n' => k == k' && n == n'
  | .bool a, .bool b => a == b
  | .slice none 0 0, .slice none 0 0 => true
  | .nilIface, .nilIface => true
  | .pointer none, .pointer none => true
  | .string a, .string b => a.data == b.data
  | _, _ => false
def C0.same : C0 → C0 → Bool
  | .u i j, .u i' j' => i == i' && j == j'
  | .k v, .k v' => vSame v v'
  | .sr a b, .sr a' b' => a == a' && b == b'
  | _, _ => false
def allSame {α : Type} (f : α → α → Bool) : List α → List α → Bool
  | [], [] => true
  | x :: xs, y :: ys => f x y && allSame f xs ys
  | _, _ => false
def CR.same : CR → CR → Bool
  | .c x, .c y => x.same y
  | .ref i x, .ref j y => i == j && allSame C0.same x y
  | _, _ => false
def SC.same : SC → SC → Bool
  | .c x, .c y => x.same y
  | .ref i x, .ref j y => i == j && allSame C0.same x y
  | .clo f x, .clo g y => f == g && allSame CR.same x y
  | .p i j, .p i' j' => i == i' && j == j'
  | .r i, .r j => i == j
  | .rp i j x k, .rp i' j' x' k' => i == i' && j == j' && x.same x' && k == k'
  | .rs i j x k, .rs i' j' x' k' => i == i' && j == j' && x.same x' && k.same k'
  | _, _ => false
def SW.same : SW → SW → Bool
  | .one x, .one y => x.same y
  | .agg x, .agg y => allSame SC.same x y
  | _, _ => false
def SV.same : SV → SV → Bool
  | .junk, .junk => true
  | .undef, .undef => true
  | .w x, .w y => x.same y
  | .tup x, .tup y => allSame SW.same x y
  | _, _ => false
def Bx.same : Bx → Bx → Bool
  | .var T x, .var U y => T == U && allSame SC.same x y
  | .row i j k, .row i' j' k' => i == i' && j == j' && k == k'
  | .part i j k, .part i' j' k' => i == i' && j == j' && k == k'
  | .dead, .dead => true
  | _, _ => false

def shW : SW → Option Nat
  | .one _ => none
  | .agg cs => some cs.length

/-- a row of ours over a loop's head: what it holds, its kind, its number -/
structure RowLV where
  lv : LV
  E : Nat
  sz : Nat
  old : Option Nat

def rowLV (P : Program) (s : St) (T : Nat) : SC → Option RowLV
  | .r b => match s.b b, elemT P T with
    | some (.row E sz cid), some (E', sz', _) => if s.s b = false ∧ E' = E ∧ sz' = sz then some ⟨.row cid, E, sz, some b⟩ else none
    | _, _ => none
  | .c (.k (.slice none 0 0)) => (elemT P T).map fun (E, sz, _) => ⟨.nilrow, E, sz, none⟩
  | _ => none

def plainC : SC → Bool
  | .c _ => true
  | _ => false

/-- what goes over the head: of slots -/
def outT (s : St) : List Nat → Option (List LV)
  | [] => some []
  | t :: ts => match s.t t, outT s ts with
    | .w x, some l => if x.cells.all plainC then some (.w x :: l) else none
    | _, _ => none
def outR (P : Program) (s : St) : List (Nat × Nat) → Option (List RowLV)
  | [] => some []
  | (t, T) :: ts => match s.t t, outR P s ts with
    | .w (.one c), some l => (rowLV P s T c).map fun x => x :: l
    | _, _ => none
/-- rows that are written in place: number, kind, what they hold -/
def rowBox : SV → Option Nat
  | .w (.one (.r b)) => some b
  | .w (.one (.rs b _ _ _)) => some b
  | _ => none
def outP (s : St) : List Nat → Option (List (Nat × Bool × Nat × Nat × Nat))
  | [] => some []
  | t :: ts => match rowBox (s.t t), outP s ts with
    | some b, some l => match s.b b with
      | some (.row E sz cid) => if s.s b then none else some ((b, false, E, sz, cid) :: l)
      | some (.part E sz cid) => if s.s b then none else some ((b, true, E, sz, cid) :: l)
      | _ => none
    | _, _ => none
/-- the cells of a variable: each a row (with its kind) or a plain cell -/
def outC (P : Program) (s : St) (rws : List (Nat × Nat)) : Nat → List SC → Option (List (Sum RowLV SC))
  | _, [] => some []
  | j, c :: cs => match outC P s rws (j + 1) cs with
    | none => none
    | some l => match look rws j with
      | some T => (rowLV P s T c).map fun x => .inl x :: l
      | none => if plainC c then some (.inr c :: l) else none
def outB (P : Program) (s : St) : List (Nat × List (Nat × Nat)) → Option (List (Nat × Nat × List (Sum RowLV SC)))
  | [] => some []
  | (t, rws) :: ts => match s.t t, outB P s ts with
    | .w (.one (.p b 0)), some l => match s.b b with
      | some (.var T cells) => if s.s b then none else (outC P s rws 0 cells).map fun x => (b, T, x) :: l
      | _ => none
    | _, _ => none

structure Head where
  s : St
  nb : Nat
  ni : Nat
  inits : List LV
  F : List (Nat × Option Nat)

def Head.bx (h : Head) (b : Nat) (x : Bx) : Head := { h with s := h.s.app ⟨[], [(b, x)], []⟩ }
def Head.tm (h : Head) (t : Nat) (x : SV) : Head := { h with s := h.s.app ⟨[(t, x)], [], []⟩ }
def Head.kill (h : Head) : Option Nat → Head
  | some b => h.bx b .dead
  | none => h
/-- a new unknown -/
def Head.new (h : Head) (l : LV) : Head := { h with ni := h.ni + 1, inits := h.inits ++ [l] }

def inT (h : Head) : List Nat → List LV → Head
  | t :: ts, .w x :: ls => inT ((h.tm t (.w (newSW h.ni (shW x)))).new (.w x)) ts ls
  | _, _ => h
/-- a new row of ours -/
def Head.row (h : Head) (x : RowLV) : Head :=
  { ((h.kill x.old).bx h.nb (.row x.E x.sz h.ni)).new x.lv with nb := h.nb + 1, F := (h.nb, x.old) :: h.F }
def inR (h : Head) : List (Nat × Nat) → List RowLV → Head
  | (t, _) :: ts, x :: ls => inR ((h.row x).tm t (.w (.one (.r h.nb)))) ts ls
  | _, _ => h
def inP (h : Head) : List (Nat × Bool × Nat × Nat × Nat) → Head
  | (b, pt, E, sz, cid) :: ls => inP ((h.bx b (mkBx pt E sz h.ni)).new (.row cid)) ls
  | [] => h
def inC (h : Head) : List (Sum RowLV SC) → Head × List SC
  | [] => (h, [])
  | .inl x :: ls => let (h', cs) := inC (h.row x) ls; (h', .r h.nb :: cs)
  | .inr c :: ls => let (h', cs) := inC (h.new (.w (.one c))) ls; (h', .c (.u h.ni 0) :: cs)
def inB (h : Head) : List (Nat × Nat × List (Sum RowLV SC)) → Head
  | [] => h
  | (b, T, ls) :: xs => let (h', cs) := inC h ls; inB (h'.bx b (.var T cs)) xs

/-! A state that is seen as another one: the loop's unknowns (from ni on) are these values, the box b is the box F b (none: nil). -/
def mp (F : List (Nat × Option Nat)) (b : Nat) : Option Nat :=
  match look F b with
  | some x => x
  | none => some b
def scFit (ni : Nat) (vals : List LV) (F : List (Nat × Option Nat)) (hs : St) (x y : SC) : Bool :=
  match x, y with
  | .c (.u i j), .c z => if i < ni then z.same (.u i j) else match vals[i - ni]? with
    | some (.w v) => match v with
      | .one (.c z') => j == 0 && z'.same z
      | .agg cs => match cs[j]? with
        | some (.c z') => z'.same z
        | _ => false
      | _ => false
    | _ => false
  | .r b, .r b' => (hs.b b).isSome && (match mp F b with | some b'' => b'' == b' | none => false)
  | .r b, .c z => (hs.b b).isSome && isNil z && (mp F b).isNone
  | .p b off, .p b' off' => (hs.b b).isSome && (match mp F b with | some b'' => b'' == b' | none => false) && off == off'
  | .rp b sz i off, .rp b' sz' i' off' => (hs.b b).isSome && (match mp F b with | some b'' => b'' == b' | none => false) && sz == sz' && off == off' && i.same i' && i.ok ni
  | .rs b sz l h, .rs b' sz' l' h' => (hs.b b).isSome && (match mp F b with | some b'' => b'' == b' | none => false) && sz == sz' && l.same l' && l.ok ni && h.same h' && h.ok ni
  | x, y => (match x with | .p .. | .r .. | .rp .. | .rs .. => false | _ => true) && x.same y && x.ok ni
def all2 {α β : Type} (f : α → β → Bool) : List α → List β → Bool
  | [], [] => true
  | x :: xs, y :: ys => f x y && all2 f xs ys
  | _, _ => false
def swFit (ni : Nat) (vals : List LV) (F : List (Nat × Option Nat)) (hs : St) : SW → SW → Bool
  | .one x, .one y => scFit ni vals F hs x y
  | .agg xs, .agg ys => all2 (scFit ni vals F hs) xs ys
  | _, _ => false
def svFit (ni : Nat) (vals : List LV) (F : List (Nat × Option Nat)) (hs : St) : SV → SV → Bool
  | .junk, _ => true
  | .undef, .undef => true
  | .w x, .w y => swFit ni vals F hs x y
  | .tup xs, .tup ys => all2 (swFit ni vals F hs) xs ys
  | _, _ => false
def bxFit (ni : Nat) (vals : List LV) (F : List (Nat × Option Nat)) (hs s : St) (b : Nat) : Bool :=
  match hs.b b with
  | some (.var T cs) => match mp F b with
    | some b' => (hs.s b || !s.s b') && (match s.b b' with | some (.var T' cs') => T == T' && all2 (scFit ni vals F hs) cs cs' | _ => false)
    | none => false
  | some (.row E sz cid) => match mp F b with
    | some b' => (hs.s b || !s.s b') && (match s.b b' with
      | some (.row E' sz' cid') => E == E' && sz == sz' && (if cid < ni then cid' == cid else match vals[cid - ni]? with | some (.row c) => c == cid' | _ => false)
      | _ => false)
    | none => match vals[cid - ni]? with | some .nilrow => decide (ni ≤ cid) | _ => false
  | some (.part E sz cid) => match mp F b with
    | some b' => (hs.s b || !s.s b') && (match s.b b' with
      | some (.part E' sz' cid') => E == E' && sz == sz' && (if cid < ni then cid' == cid else match vals[cid - ni]? with | some (.row c) => c == cid' | _ => false)
      | _ => false)
    | none => false
  | _ => true
def fits (ni : Nat) (vals : List LV) (F : List (Nat × Option Nat)) (hs s : St) : Bool :=
  hs.tm.all (fun x => svFit ni vals F hs (hs.t x.1) (s.t x.1)) && hs.bx.all (fun x => bxFit ni vals F hs s x.1)
  && hs.bx.all (fun x => hs.bx.all fun y => x.1 == y.1 || (match hs.b x.1, hs.b y.1, mp F x.1, mp F y.1 with
    | some .dead, _, _, _ | _, some .dead, _, _ | _, _, none, _ | _, _, _, none => true
    | _, _, some b, some b' => b != b'))

/-- the last word on each slot and box -/
def firsts {α : Type} (seen : List Nat) : List (Nat × α) → List (Nat × α)
  | [] => []
  | (n, x) :: l => if seen.contains n then firsts seen l else (n, x) :: firsts (n :: seen) l
def St.tidy (s : St) : St :=
  ⟨(firsts [] s.tm).filter fun x => match x.2 with | .junk => false | _ => true, (firsts [] s.bx), s.sl⟩

/-- the head of a loop -/
def head (P : Program) (hint : Hint) (ds : List Nat) (s : St) (nb ni : Nat) : Option Head :=
  match outT s hint.tms, outR P s hint.rws, outP s hint.rbs, outB P s hint.bxs with
  | some a, some b, some p, some c =>
    let h := inB (inP (inR (inT ⟨s.app ⟨ds.map fun d => (d, .junk), [], []⟩, nb, ni, [], []⟩ hint.tms a) hint.rws b) p) c
    let h := { h with s := h.s.tidy }
    if fits ni h.inits h.F h.s s && decide (h.ni = ni + h.inits.length) then some h else none
  | _, _, _, _ => none

def sumLV : Sum RowLV SC → LV
  | .inl x => x.lv
  | .inr c => .w (.one c)

def cellF : List SC → List (Sum RowLV SC) → List (Nat × Option Nat)
  | .r b :: cs, .inl x :: xs => (b, x.old) :: cellF cs xs
  | _ :: cs, _ :: xs => cellF cs xs
  | _, _ => []
def slotF (h : Head) : List (Nat × Nat) → List RowLV → List (Nat × Option Nat)
  | (t, _) :: ts, x :: xs => match h.s.t t with
    | .w (.one (.r b)) => (b, x.old) :: slotF h ts xs
    | _ => slotF h ts xs
  | _, _ => []

/-- the round's end: what goes over the head anew -/
def backs (P : Program) (hint : Hint) (ni : Nat) (h : Head) (s : St) : Option (List LV) :=
  match outT s hint.tms, outR P s hint.rws, outP s hint.rbs, outB P s hint.bxs with
  | some a, some b, some p, some c =>
    let vals := a ++ b.map (·.lv) ++ p.map (fun x => .row x.2.2.2.2) ++ c.flatMap (fun x => x.2.2.map sumLV)
    let F := slotF h hint.rws b ++ c.flatMap (fun x => match h.s.b x.1 with | some (.var _ cs) => cellF cs x.2.2 | _ => [])
    if fits ni vals F h.s s then some vals else none
  | _, _, _, _ => none

/-! ### hints, found by looking at the body (a wrong one only fails) -/
/-- what is appended to: the slot of the result, the slice's type, the slot that is appended to -/
def appends (ops : List Oper) : List (Nat × Nat × Nat) := ops.filterMap fun o => match o.op, o.dst with
  | .call c, some d => match c.callee, c.args.toList with
    | .builtin .append, .tmp x :: _ => some (d, c.argTypes.toList.getD 0 0, x)
    | _, _ => none
  | _, _ => none
def rowType (P : Program) (ops : List Oper) (E : Nat) : Option Nat :=
  (appends ops).findSome? fun (_, T, _) => match elemT P T with | some (e, _, _) => if e == E then some T else none | none => none

def eraseDups' : List Nat → List Nat
  | [] => []
  | x :: xs => let r := eraseDups' xs; if r.contains x then r else x :: r

def auto (P : Program) (N : Nat) (body : Code) (s : St) : Hint :=
  let ops := bodyOps body
  let ds := eraseDups' (dsts body)
  let ap := appends ops
  let rws := ds.filterMap fun t =>
    match ops.findSome? (fun o => if o.dst == some t then (match o.op with | .assign (.tmp x) | .move (.tmp x) => (ap.find? fun a => a.1 == x) | _ => none) else none) with
    | some (_, T, _) => match s.t t with
      | .w (.one (.r _)) => some (t, T)
      | .w (.one (.c (.k (.slice none 0 0)))) => some (t, T)
      | _ => none
    | none => none
  let tms := ds.filter fun t => !rws.any (fun x => x.1 == t) && (match s.t t with | .w x => x.cells.all plainC | _ => false)
  let sr := storedRows ops ++ ops.filterMap fun o => match o.op with
    | .slice _ (.tmp y) _ _ (some _) => some (movedOf ops 6 y)
    | .call c => match c.callee with
      | .value (.func f) => match mutArg P f with
        | some j => match c.args.toList[j]? with
          | some (.tmp y) => some (movedOf ops 6 y)
          | _ => none
        | none => none
      | _ => none
    | _ => none
  let rbs := (eraseDups' sr).filter fun t => !ds.contains t && (match rowBox (s.t t) with | some b => !s.s b | _ => false)
  let st := stored ops
  let bxs := (List.range N).filterMap fun t => if st.contains t && !ds.contains t then
      match s.t t with
      | .w (.one (.p b 0)) => match s.b b with
        | some (.var _ cells) => if s.s b then none else some (t, (cells.zipIdx).filterMap fun (c, j) => match c with
          | .r b' => match s.b b' with
            | some (.row E _ _) => (rowType P ops E).map fun T => (j, T)
            | _ => none
          | .c (.k (.slice none 0 0)) => (ap.findSome? fun (_, T, x) => match ops.find? (fun o => o.dst == some x) with
              | some o => match o.op with
                | .load _ (.tmp y) => match ops.find? (fun o => o.dst == some y) with
                  | some o' => match o'.op with
                    | .fieldAddr S (.tmp z) f => match fieldT P S f with
                      | some (_, off, _) => if off == j && (rootOf ops 6 z).1 == t then some T else none
                      | none => none
                    | _ => none
                  | none => none
                | _ => none
              | none => none).map fun T => (j, T)
          | _ => none)
        | _ => none
      | _ => none
    else none
  ⟨tms, rws, rbs, bxs⟩

abbrev Dec := List (Nat × Nat × Bool)

def loopK (P : Program) (hint : Hint) (ni : Nat) (h : Head) (d : Nat) (k : Ex → Nat → Nat → St → Dec → Tr) : Ex → Nat → Nat → St → Dec → Tr
  | .normal, _, _, s, _ => match backs P hint ni h s with
    | some vs => .back d vs
    | none => .fail 1003
  | .exit id, nb, ni, s, dec => k (.exit id) nb ni s dec
  | .ret, nb, ni, s, dec => k .ret nb ni s dec

def exec (P : Program) (N : Nat) (hints : Nat → Option Hint) : Code → Nat → Nat → Nat → Nat → St → Dec → (Ex → Nat → Nat → St → Dec → Tr) → Tr
  | .skip, _, _, nb, ni, s, dec, k => k .normal nb ni s dec
  | .region _ ops _, _, _, nb, ni, s, dec, k => execOps P N ops ops.toList 0 nb ni s dec [] fun nb ni s dec recs => if ordered recs then k .normal nb ni s dec else .fail 1000
  | .seq a b, l, d, nb, ni, s, dec, k => exec P N hints a l d nb ni s dec fun e nb ni s dec => match e with
    | .normal => exec P N hints b (l + nloops a) d nb ni s dec k
    | e => k e nb ni s dec
  | .cond c a b, l, d, nb, ni, s, dec, k => match (opd c).run s with
    | some (.w (.one (.c x))) => parts dec x fun β dec => if β then exec P N hints a l d nb ni s dec k else exec P N hints b (l + nloops a) d nb ni s dec k
    | _ => .fail 1001
  | .block id a, l, d, nb, ni, s, dec, k => exec P N hints a l d nb ni s dec fun e nb ni s dec => match e with
    | .exit id' => if id' = id then k .normal nb ni s dec else k (.exit id') nb ni s dec
    | e => k e nb ni s dec
  | .loop a, l, d, nb, ni, s, dec, k =>
    match head P ((hints l).getD (auto P N a s)) (dsts a) s nb ni with
    | none => .fail 1002
    | some h => .loop d h.inits (exec P N hints a (l + 1) (d + 1) h.nb h.ni h.s dec (loopK P ((hints l).getD (auto P N a s)) ni h d k))
  | .exit id, _, _, nb, ni, s, dec, k => k (.exit id) nb ni s dec
  | .ret, _, _, nb, ni, s, dec, k => k .ret nb ni s dec
  | .scope _, _, _, _, _, _, _, _ => .fail 1004
  | _, _, _, _, _, _, _, _ => .fail 1005

/-- the results, read as the function leaves -/
def resW (P : Program) (s : St) : List ResultVar → Q (List SW × List Nat)
  | [] => .ret ([], [])
  | .tmp t :: rs => do let v ← opdW (.tmp t); let (y, l) ← handW v; let (ys, ls) ← resW P s rs; return (y :: ys, l ++ ls)
  | .cell t T :: rs => do
    let .p b off ← opdC (.tmp t) | .fail
    let some (.var _ cells) ← getB b | .fail
    let (ag, n) ← Q.of (aggT P T)
    let cs ← Q.of (getN cells off n)
    let (cs, l) ← handCs cs
    let (ys, ls) ← resW P s rs
    let v ← (if ag then .ret (SW.agg cs) else match cs with | [c] => .ret (.one c) | _ => .fail)
    return (v :: ys, l ++ ls)

/-- An argument: a plain value (none), a struct of so many cells, or a pointer to a captured variable of so many cells. -/
inductive Arg where
  | v (sh : Option Nat)
  | ref (n : Nat)
  | lent (E sz : Nat)

def argSV (i : Nat) : Arg → SV
  | .v sh => .w (newSW i sh)
  | .ref n => .w (.one (.ref 0 ((List.range n).map fun j => .u i j)))
  | .lent _ _ => .w (.one (.r 0))

def execF (P : Program) (fn : Func) (hints : Nat → Option Hint) (args : List Arg) : Tr :=
  match fn.body with
  | none => .fail 1006
  | some c =>
    if args.length ≤ fn.ntmps then
    exec P fn.ntmps hints c 0 0 0 args.length ⟨args.mapIdx fun i a => (i, argSV i a), [], []⟩ [] fun e nb ni s _ => match e with
      | .exit _ => .fail 1007
      | _ => match (resW P s fn.results.toList).run s with
        | some (vs, _) => .ret vs
        | none => .fail 1008
    else .fail 1009

/-! a function to which a slice is lent -/
def lentOf (i : Nat) : List Arg → Option (Nat × Nat × Nat)
  | [] => none
  | .lent E sz :: _ => some (i, E, sz)
  | _ :: l => lentOf (i + 1) l
def endR (s : St) (E sz : Nat) (vs : List SW) (l : List Nat) : Tr :=
  match s.b 0 with
  | some (.part E' sz' cid) => if E' = E ∧ sz' = sz ∧ s.s 0 = false ∧ l.contains 0 = false then .retr vs cid else .fail 1010
  | _ => .fail 1010
def execR (P : Program) (fn : Func) (hints : Nat → Option Hint) (args : List Arg) : Tr :=
  match fn.body, lentOf 0 args with
  | some c, some (i, E, sz) =>
    if args.length ≤ fn.ntmps then
    exec P fn.ntmps hints c 0 0 1 args.length ⟨args.mapIdx fun i a => (i, argSV i a), [(0, .part E sz i)], []⟩ [] fun e nb ni s _ => match e with
      | .exit _ => .fail 1007
      | _ => match (resW P s fn.results.toList).run s with
        | some (vs, l) => endR s E sz vs l
        | none => .fail 1008
    else .fail 1009
  | _, _ => .fail 1006

end Go.Sy
namespace Go.Sy
open Go.RowKit (Below)

abbrev Env := List STy

def c0 (τ : Env) : C0 → CTy
  | .u i j => (τ.getD i (.rows [])).cell j
  | .k v => .exact v
  | .sr sz cid => match τ[cid]? with
    | some (.rows ts) => .slice sz ts
    | _ => .bad
def crT (τ : Env) : CR → CTy
  | .c x => c0 τ x
  | .ref off cells => .pref ((cells.map (c0 τ)).drop off)
def cty (τ : Env) : SC → CTy
  | .c x => c0 τ x
  | .ref off cells => .pref ((cells.map (c0 τ)).drop off)
  | .clo f caps => .clo f (caps.map (crT τ))
  | _ => .bad
def swT (τ : Env) : SW → STy
  | .one c => .one (cty τ c)
  | .agg cs => .agg (cs.map (cty τ))
def lvT (τ : Env) : LV → STy
  | .w x => swT τ x
  | .row cid => τ.getD cid (.one .bad)
  | .nilrow => .rows []

def mkS (ag : Bool) (cs : List CTy) : STy := if ag then .agg cs else .one (cs.getD 0 .bad)

/-- The values of the one type are among those of the other one: the same type, or slices. -/
def CTy.Sub (c d : CTy) : Prop := c = d ∨ ((∀ M w v, c.rep M w v → ∃ a l k, v = .slice a l k) ∧ ∀ M w v, c.rep M w v → d.rep M w v)
theorem CTy.Sub.rep {c d : CTy} (h : c.Sub d) {M : Nat → Prop} {w : World} {v : Value} (hv : c.rep M w v) : d.rep M w v := by
  rcases h with rfl | ⟨_, h⟩
  · exact hv
  · exact h M w v hv

/-- The sources of an append: nothing, a row of ours, a slice. -/
def srcOf (τ : Env) (sz : Nat) (src : Option C0) (row : Option Nat) (us : List (List CTy)) : Prop :=
  match row with
  | some r => τ[r]? = some (.rows us)
  | none => match src with
    | some y => (isNil y = true ∧ us = []) ∨ (c0 τ y).Sub (.slice sz us)
    | none => False
def dstOf (τ : Env) (cid : Option Nat) (ts : List (List CTy)) : Prop :=
  match cid with
  | some c => τ[c]? = some (.rows ts)
  | none => ts = []

/-- The elements that a view shows, and how many stand ahead of them. -/
def viewOf (τ : Env) (view : Option (C0 × C0)) (ts : List (List CTy)) (n : Nat) (us : List (List CTy)) : Prop :=
  match view with
  | none => n = 0 ∧ us = ts
  | some (lo, hi) => ∃ k k' : IntKind, ∃ m : Nat, c0 τ lo = .int k n ∧ c0 τ hi = .int k' m ∧ n < m ∧ m ≤ ts.length ∧ us = (ts.take m).drop n

/-- What the prover pays for a need, and the types of the new unknowns. -/
def NeedOk (P : Program) (τ : Env) (op : Op) (ty : Nat) : Need → List STy → Prop
  | .none, news => news = []
  | .prim args sh, news => ∃ t : STy, news = [t] ∧ t.shape = some sh ∧ PrimOk P op ty (args.map (swT τ)) t
  | .call f args sh, news => news.map STy.shape = sh.map some ∧ Does P f (args.map (swT τ)) (.ret news)
  | .callv c args sh, news => ∃ f caps, c0 τ c = .clo f caps ∧ news.map STy.shape = sh.map some ∧ Does P f (args.map (swT τ) ++ caps.map .one) (.ret news)
  | .lit sz tss, news => news = [.rows (tss.map fun t => t.map (c0 τ))]
  | .make zero bytes len cap, news => ∃ l c : Nat, ∃ k k', c0 τ len = .int k l ∧ c0 τ cap = .int k' c ∧ l ≤ c ∧ bytes * c ≤ 140737488355328 ∧ c ≤ maxLen ∧ news = [.rows (List.replicate l (zero.map .exact))]
  | .app sz bytes cid src row, news => ∃ ts us, dstOf τ cid ts ∧ srcOf τ sz src row us ∧ (ts.length + us.length) * bytes ≤ 140737488355328 ∧ ts.length + us.length ≤ maxLen ∧ news = [.rows (ts ++ us)]
  | .idx cid i, news => ∃ ts k n, τ[cid]? = some (.rows ts) ∧ c0 τ i = .int k n ∧ 0 ≤ n ∧ n < ts.length ∧ news = []
  | .ldrow cid i off sz ag, news => ∃ ts k n cells, τ[cid]? = some (.rows ts) ∧ c0 τ i = .int k n ∧ 0 ≤ n ∧ ts[n.toNat]? = some cells ∧ (ag = true ∨ sz = 1) ∧ news = [mkS ag ((cells.drop off).take sz)]
  | .strow cid sz i off xs, news => ∃ ts k n cells, τ[cid]? = some (.rows ts) ∧ c0 τ i = .int k n ∧ 0 ≤ n ∧ ts[n.toNat]? = some cells ∧
      news = [.rows (ts.set n.toNat (cells.take off ++ xs.map (c0 τ) ++ cells.drop (off + xs.length)))]
  | .lenrow cid, news => ∃ ts, τ[cid]? = some (.rows ts) ∧ news = [.one (.int .i64 ts.length)]
  | .rop cid E sz view as bs sh, news => ∃ ts us us' rs n, τ[cid]? = some (.rows ts) ∧ viewOf τ view ts n us ∧ us ≠ [] ∧ rs.map STy.shape = sh.map some ∧ RowOk P op ty E sz (as.map (swT τ)) (bs.map (swT τ)) us rs us' ∧
      news = rs ++ [.rows (ts.take n ++ us' ++ ts.drop (n + us.length))]
  | .view cid lo hi mx, news => ∃ ts k k' k'' , ∃ n m : Nat, τ[cid]? = some (.rows ts) ∧ c0 τ lo = .int k n ∧ c0 τ hi = .int k' m ∧ c0 τ mx = .int k'' m ∧ n < m ∧ m ≤ ts.length ∧ news = []

/-- A call that ends in a panic. -/
def NeedPan (P : Program) (τ : Env) : Need → CTy → Prop
  | .call f args _, c => Does P f (args.map (swT τ)) (.pan c)
  | .callv c args _, x => ∃ f caps, c0 τ c = .clo f caps ∧ Does P f (args.map (swT τ) ++ caps.map .one) (.pan x)
  | _, _ => False

/-- a list against a list -/
def All2 {α β : Type} (R : α → β → Prop) : List α → List β → Prop
  | [], [] => True
  | x :: xs, y :: ys => R x y ∧ All2 R xs ys
  | _, _ => False

def STy.Sub : STy → STy → Prop
  | .one c, .one d => c.Sub d
  | .agg cs, .agg ds => All2 CTy.Sub cs ds
  | .rows ts, .rows us => All2 (All2 CTy.Sub) ts us
  | _, _ => False
abbrev SubL : List STy → List STy → Prop := All2 STy.Sub
def OutSub : Out → Out → Prop
  | .ret rs, .ret us => SubL rs us
  | .retr rs ts, .retr us vs => rs = us ∧ ts = vs
  | .pan c, .pan d => c = d
  | _, _ => False

/-- WHAT IS LEFT TO SHOW of a function: post: how it ends; bk: what holds where a round of the loop number d begins anew. -/
def vc (P : Program) (post : Out → Prop) : Tr → Env → List (List STy → Prop) → Prop
  | .fail _, _, _ => False
  | .need nd op ty last k, τ, bk => (∃ news, NeedOk P τ op ty nd news ∧ news.length = nd.ids ∧ vc P post k (τ ++ news) bk) ∨ (last = true ∧ ∃ c, NeedPan P τ nd c ∧ post (.pan c))
  | .split c kt kf, τ, bk => ∃ β : Bool, c0 τ c = .bool β ∧ (β = true → vc P post kt τ bk) ∧ (β = false → vc P post kf τ bk)
  | .ret vs, τ, _ => post (.ret (vs.map (swT τ)))
  | .retr vs cid, τ, _ => ∃ ts, τ[cid]? = some (.rows ts) ∧ post (.retr (vs.map (swT τ)) ts)
  | .pan x, τ, _ => post (.pan (c0 τ x)) ∧ ∀ M w v, (c0 τ x).rep M w v → ∃ T u, v = .iface T u
  | .loop d inits k, τ, bk => ∃ (G : Type) (tys : G → List STy) (μ : G → Nat) (g0 : G), SubL (inits.map (lvT τ)) (tys g0) ∧ (∀ g, (tys g).length = inits.length) ∧
      ∀ g, vc P post k (τ ++ tys g) (bk.take d ++ [fun ts => ∃ g', SubL ts (tys g') ∧ μ g' < μ g])
  | .back d vals, τ, bk => ∃ f, bk[d]? = some f ∧ f (vals.map (lvT τ))

/-! ### Sat -/
structure Gh where
  blk : Nat
  val : Value
  cur : Array Value

theorem All2.imp {α β : Type} {R S : α → β → Prop} (h : ∀ a b, R a b → S a b) : ∀ {xs ys}, All2 R xs ys → All2 S xs ys
  | [], [], _ => trivial
  | _ :: _, _ :: _, ⟨a, b⟩ => ⟨h _ _ a, b.imp h⟩
  | [], _ :: _, k => k.elim
  | _ :: _, [], k => k.elim
theorem All2.length {α β : Type} {R : α → β → Prop} : ∀ {xs ys}, All2 R xs ys → xs.length = ys.length
  | [], [], _ => rfl
  | _ :: _, _ :: _, ⟨_, b⟩ => by simp [b.length]
  | [], _ :: _, k => k.elim
  | _ :: _, [], k => k.elim
theorem All2.append {α β : Type} {R : α → β → Prop} : ∀ {xs ys xs' ys'}, All2 R xs ys → All2 R xs' ys' → All2 R (xs ++ xs') (ys ++ ys')
  | [], [], _, _, _, h => h
  | _ :: _, _ :: _, _, _, ⟨a, b⟩, h => ⟨a, b.append h⟩
  | [], _ :: _, _, _, k, _ => k.elim
  | _ :: _, [], _, _, k, _ => k.elim
theorem All2.take {α β : Type} {R : α → β → Prop} : ∀ (n : Nat) {xs ys}, All2 R xs ys → All2 R (xs.take n) (ys.take n)
  | 0, _, _, _ => trivial
  | _ + 1, [], [], _ => trivial
  | n + 1, _ :: _, _ :: _, ⟨a, b⟩ => ⟨a, b.take n⟩
  | _ + 1, [], _ :: _, k => k.elim
  | _ + 1, _ :: _, [], k => k.elim
theorem All2.drop {α β : Type} {R : α → β → Prop} : ∀ (n : Nat) {xs ys}, All2 R xs ys → All2 R (xs.drop n) (ys.drop n)
  | 0, _, _, h => h
  | _ + 1, [], [], _ => trivial
  | n + 1, _ :: _, _ :: _, ⟨_, b⟩ => b.drop n
  | _ + 1, [], _ :: _, k => k.elim
  | _ + 1, _ :: _, [], k => k.elim
theorem All2.get {α β : Type} {R : α → β → Prop} : ∀ {xs : List α} {ys : List β}, All2 R xs ys → ∀ (j : Nat) (x : α), xs[j]? = some x → ∃ y, ys[j]? = some y ∧ R x y
  | [], [], _, j, x, hx => by simp at hx
  | x0 :: xs, y0 :: ys, ⟨a, b⟩, j, x, hx => by
    cases j with
    | zero => simp at hx; subst hx; exact ⟨y0, rfl, a⟩
    | succ j => simpa using b.get j x (by simpa using hx)
  | [], _ :: _, k, _, _, _ => k.elim
  | _ :: _, [], k, _, _, _ => k.elim
theorem All2.mem {α β : Type} {R : α → β → Prop} : ∀ {xs ys}, All2 R xs ys → ∀ y ∈ ys, ∃ x ∈ xs, R x y
  | [], [], _, y, hy => by simp at hy
  | x0 :: xs, y0 :: ys, ⟨a, b⟩, y, hy => by
    rcases List.mem_cons.1 hy with rfl | hy
    · exact ⟨x0, List.mem_cons_self, a⟩
    · obtain ⟨x, hx, h⟩ := b.mem y hy
      exact ⟨x, List.mem_cons_of_mem _ hx, h⟩
  | [], _ :: _, k, _, _ => k.elim
  | _ :: _, [], k, _, _ => k.elim

def scRep (ex : Nat → Prop) (τ : Env) (ρ : Nat → Gh) (M : Nat → Prop) (w : World) : SC → Value → Prop
  | .p b off, v => ex b ∧ v = .pointer (some ⟨(ρ b).blk, off, none⟩)
  | .r b, v => ex b ∧ v = (ρ b).val ∧ v.oneCell' = true
  | .rp b sz i off, v => ex b ∧ ∃ g o0 len cap k n, (ρ b).val = .slice (some ⟨g, o0, none⟩) len cap ∧ c0 τ i = .int k n ∧ 0 ≤ n ∧ v = .pointer (some ⟨g, o0 + n.toNat * sz + off, none⟩)
  | .rs b sz lo hi, v => ex b ∧ ∃ g o0 len cap, ∃ k k' : IntKind, ∃ n m c : Nat, (ρ b).val = .slice (some ⟨g, o0, none⟩) len cap ∧ c0 τ lo = .int k n ∧ c0 τ hi = .int k' m ∧ n < m ∧ m ≤ len ∧ m - n ≤ c ∧ c ≤ maxLen ∧ v = .slice (some ⟨g, o0 + n * sz, none⟩) (m - n) c
  | .c x, v => (c0 τ x).rep M w v
  | .ref off cells, v => (CTy.pref ((cells.map (c0 τ)).drop off)).rep M w v
  | .clo f caps, v => (CTy.clo f (caps.map (crT τ))).rep M w v
def swRep (ex : Nat → Prop) (τ : Env) (ρ : Nat → Gh) (M : Nat → Prop) (w : World) : SW → Value → Prop
  | .one c, v => scRep ex τ ρ M w c v
  | .agg cs, v => ∃ vs : List Value, v = .agg vs.toArray ∧ All2 (scRep ex τ ρ M w) cs vs
def svRep (ex : Nat → Prop) (τ : Env) (ρ : Nat → Gh) (M : Nat → Prop) (w : World) : SV → Value → Prop
  | .junk, _ => True
  | .undef, v => v = Go.undef
  | .w x, v => swRep ex τ ρ M w x v
  | .tup xs, v => ∃ vs : List Value, v = .tuple vs.toArray ∧ All2 (swRep ex τ ρ M w) xs vs

def own (ρ : Nat → Gh) (b : Nat) : Bx → Option Nat
  | .var .. => some (ρ b).blk
  | .row .. => (ρ b).val.ownBlock
  | .part .. => (ρ b).val.ownBlock
  | .dead => none

/-- What may change beside what is ours (M), and what was there and is lent to us (O). -/
structure Lent where
  M : Nat → Prop
  gh : Gh
def Lent.O (M0 : Lent) (k : Nat) : Prop := M0.gh.val.ownBlock = some k
/-- A block that is ours. -/
def Lent.ours (M0 : Lent) (w0 : World) (k : Nat) : Prop := w0.heap.size ≤ k ∨ M0.O k
/-- All but what is lent is as it was. -/
structure Kept (M0 : Lent) (w0 w : World) : Prop where
  os : w.os = w0.os
  tape : w.tape = w0.tape
  output : w.output = w0.output
  size : w0.heap.size ≤ w.heap.size
  block : ∀ k, k < w0.heap.size → ¬ M0.O k → w.heap[k]? = w0.heap[k]?
  good : ∀ x ∈ Tabs.tab, ¬ M0.M x.1 ∧ ¬ M0.O x.1 ∧ ∃ T fz, w0.heap[x.1]? = some (.cells x.2 T fz)
theorem Kept.and {M0 : Lent} {w0 w w' : World} (h : Kept M0 w0 w) (hb : Below w.heap.size w w') : Kept M0 w0 w' :=
  ⟨hb.os.trans h.os, hb.tape.trans h.tape, hb.output.trans h.output, Nat.le_trans h.size hb.size, fun k hk ho => (hb.block k (Nat.lt_of_lt_of_le hk h.size)).trans (h.block k hk ho), h.good⟩
theorem Kept.alloc {M0 : Lent} {w0 w : World} (h : Kept M0 w0 w) (ob : Obj) : Kept M0 w0 (w.alloc ob) := h.and ((Below.refl _ w).alloc (Nat.le_refl _) ob)
theorem Kept.setRow {M0 : Lent} {w0 w : World} (h : Kept M0 w0 w) {g : Nat} (hg : M0.ours w0 g) (cs : Array Value) : Kept M0 w0 (w.setRow g cs) :=
  ⟨h.os, h.tape, h.output, by simpa [World.setRow] using h.size, fun k hk ho => by
    rw [setRow_other w g k cs (by rintro rfl; exact hg.elim (fun h => Nat.not_lt.2 h hk) ho)]
    exact h.block k hk ho, h.good⟩
theorem Kept.grown {M0 : Lent} {w0 w w' : World} {row : Option Nat} (h : Kept M0 w0 w) (hg : w.grownBy w' row) (hr : ∀ k, row = some k → M0.ours w0 k) : Kept M0 w0 w' :=
  ⟨hg.os.trans h.os, hg.tape.trans h.tape, hg.output.trans h.output, Nat.le_trans h.size hg.size, fun k hk ho => by
    rw [hg.block k (Nat.lt_of_lt_of_le hk h.size) (fun e => (hr k e.symm).elim (fun h => Nat.not_lt.2 h hk) ho)]
    exact h.block k hk ho, h.good⟩

def Ms (M0 : Lent) (ρ : Nat → Gh) (s : St) (k : Nat) : Prop := M0.M k ∨ ∃ b x, s.b b = some x ∧ s.s b = false ∧ own ρ b x = some k

/-- A slice that is lent: n elements of sz cells, from some cell of a block on. -/
def ownsPart (w : World) (E sz : Nat) (v : Value) (n : Nat) (xs : List Value) : Prop :=
  xs.length = n * sz ∧ ((n = 0 ∧ ∃ c, v = .slice none 0 c) ∨
    ∃ g off cap cur, v = .slice (some ⟨g, off, none⟩) n cap ∧ w.heap[g]? = some (.cells cur E (0, 0)) ∧ n ≤ cap ∧ cap ≤ maxLen ∧ off + n * sz ≤ cur.size ∧ (cur.toList.drop off).take (n * sz) = xs)
theorem ownsPart.of_row {w : World} {base E sz n : Nat} {v : Value} {xs : List Value} (h : w.ownsRow base E sz v n xs) : ownsPart w E sz v n xs := by
  refine ⟨h.1, ?_⟩
  rcases h.2 with ⟨rfl, rfl⟩ | ⟨g, cap, cur, hv, _, hg, hnc, hcm, hcs, htake⟩
  · exact .inl ⟨rfl, 0, rfl⟩
  · exact .inr ⟨g, 0, cap, cur, hv, hg, hnc, hcm, by rw [Nat.zero_add, hcs]; exact Nat.mul_le_mul_right _ hnc, by rw [List.drop_zero]; exact htake⟩

/-- What stands beside a part that is lent is as it was. -/
def framed (w : World) (E sz : Nat) (x : Gh) : Prop :=
  ∀ g off len cap, x.val = .slice (some ⟨g, off, none⟩) len cap → ∀ cur, w.heap[g]? = some (.cells cur E (0, 0)) → cur.size = x.cur.size ∧ ∀ j, (j < off ∨ off + len * sz ≤ j) → cur[j]? = x.cur[j]?

def bxRep (base : Nat) (ex : Nat → Prop) (τ : Env) (ρ : Nat → Gh) (M : Nat → Prop) (w : World) (b : Nat) : Bx → Prop
  | .var T cells => ∃ vs : List Value, w.heap[(ρ b).blk]? = some (.cells vs.toArray T (0, 0)) ∧ All2 (scRep ex τ ρ M w) cells vs
  | .row E sz cid => ∃ ts xs, τ[cid]? = some (.rows ts) ∧ w.ownsRow base E sz (ρ b).val ts.length xs ∧ (∀ t ∈ ts, t.length = sz) ∧ RepL M w ts.flatten xs
  | .part E sz cid => ∃ ts xs, τ[cid]? = some (.rows ts) ∧ ownsPart w E sz (ρ b).val ts.length xs ∧ (∀ t ∈ ts, t.length = sz) ∧ RepL M w ts.flatten xs ∧ (ρ b).val.oneCell' = true ∧ framed w E sz (ρ b)
  | .dead => True

structure Sat (M0 : Lent) (w0 : World) (N : Nat) (s : St) (τ : Env) (ρ : Nat → Gh) (a : Act) (w : World) : Prop where
  below : Kept M0 w0 w
  sz : a.tmps.size = N
  df : a.defers = []
  tm : ∀ t, svRep (fun b => (s.b b).isSome) τ ρ (Ms M0 ρ s) w (s.t t) (a.tmps.getD t Go.undef)
  bx : ∀ b x, s.b b = some x → bxRep 0 (fun b => (s.b b).isSome) τ ρ (Ms M0 ρ s) w b x
  inj : ∀ b b' x x' k, s.b b = some x → s.b b' = some x' → own ρ b x = some k → own ρ b' x' = some k → b = b'
  lo : ∀ b x k, s.b b = some x → own ρ b x = some k → M0.ours w0 k ∧ k < w.heap.size
  old : ∀ k, M0.M k → ¬ M0.ours w0 k
  pt : ∀ b E sz cid, s.b b = some (.part E sz cid) → ρ b = M0.gh

/-! ### what stays -/
section
variable {ex ex' : Nat → Prop} {τ : Env} {ρ ρ' : Nat → Gh} {M M' : Nat → Prop} {w w' : World}

theorem scRep.mono (he : ∀ b, ex b → ex' b ∧ ρ' b = ρ b) (hk : Keep M w M' w') : ∀ {c : SC} {v}, scRep ex τ ρ M w c v → scRep ex' τ ρ' M' w' c v
  | .p b off, v, ⟨h, e⟩ => ⟨(he b h).1, by rw [(he b h).2]; exact e⟩
  | .r b, v, ⟨h, e, o⟩ => ⟨(he b h).1, by rw [(he b h).2]; exact e, o⟩
  | .rp b sz i off, v, ⟨h, g, o0, len, cap, k, n, e⟩ => ⟨(he b h).1, g, o0, len, cap, k, n, by rw [(he b h).2]; exact e⟩
  | .rs b sz lo hi, v, ⟨h, g, o0, len, cap, k, k', n, m, c, e⟩ => ⟨(he b h).1, g, o0, len, cap, k, k', n, m, c, by rw [(he b h).2]; exact e⟩
  | .c _, _, h => CTy.mono _ hk h
  | .ref _ _, _, h => CTy.mono _ hk h
  | .clo _ _, _, h => CTy.mono _ hk h
theorem swRep.mono (he : ∀ b, ex b → ex' b ∧ ρ' b = ρ b) (hk : Keep M w M' w') : ∀ {c : SW} {v}, swRep ex τ ρ M w c v → swRep ex' τ ρ' M' w' c v
  | .one _, _, h => scRep.mono he hk h
  | .agg _, _, ⟨vs, e, h⟩ => ⟨vs, e, h.imp fun _ _ => scRep.mono he hk⟩
theorem svRep.mono (he : ∀ b, ex b → ex' b ∧ ρ' b = ρ b) (hk : Keep M w M' w') : ∀ {c : SV} {v}, svRep ex τ ρ M w c v → svRep ex' τ ρ' M' w' c v
  | .junk, _, _ => trivial
  | .undef, _, h => h
  | .w _, _, h => swRep.mono he hk h
  | .tup _, _, ⟨vs, e, h⟩ => ⟨vs, e, h.imp fun _ _ => swRep.mono he hk⟩
end

theorem own_congr {ρ ρ' : Nat → Gh} {b : Nat} (h : ρ' b = ρ b) (x : Bx) : own ρ' b x = own ρ b x := by
  cases x <;> simp [own, h]

/-! ### more unknowns -/
theorem getD_ext {τ m : Env} {i : Nat} (x : STy) (hi : i < τ.length) : (τ ++ m).getD i x = τ.getD i x := by
  rw [List.getD_eq_getElem?_getD, List.getD_eq_getElem?_getD, List.getElem?_append_left hi]

theorem c0_ok {τ m : Env} {n : Nat} (hn : τ.length = n) : ∀ {x : C0}, x.ok n = true → c0 (τ ++ m) x = c0 τ x
  | .u i j, h => by
    simp only [C0.ok, decide_eq_true_eq] at h
    simp only [c0, getD_ext (STy.rows []) (show i < τ.length by omega)]
  | .k _, _ => rfl
  | .sr sz cid, h => by
    simp only [C0.ok, decide_eq_true_eq] at h
    simp only [c0, List.getElem?_append_left (show cid < τ.length by omega)]

theorem c0_bad {τ : Env} : ∀ {x : C0}, x.ok τ.length = false → c0 τ x = .bad
  | .u i j, h => by
    simp only [C0.ok, decide_eq_false_iff_not] at h
    have : τ.getD i (.rows []) = .rows [] := by rw [List.getD_eq_getElem?_getD, List.getElem?_eq_none (by omega)]; rfl
    simp only [c0, this]
    rfl
  | .k _, h => by simp [C0.ok] at h
  | .sr sz cid, h => by
    simp only [C0.ok, decide_eq_false_iff_not] at h
    simp only [c0, List.getElem?_eq_none (show τ.length ≤ cid by omega)]

theorem c0_ext {τ m : Env} {M : Nat → Prop} {w : World} {v : Value} (x : C0) (h : (c0 τ x).rep M w v) : (c0 (τ ++ m) x).rep M w v := by
  cases hx : x.ok τ.length with
  | true => rw [c0_ok rfl hx]; exact h
  | false => rw [c0_bad hx] at h; exact (h : False).elim
theorem c0_ext_eq {τ m : Env} {x : C0} {v : Value} (h : c0 τ x = .exact v) (hv : v.oneCell' = true) : c0 (τ ++ m) x = .exact v := by
  cases hx : x.ok τ.length with
  | true => rw [c0_ok rfl hx]; exact h
  | false =>
    rw [c0_bad hx] at h
    have : CTy.bad.rep (fun _ => False) default v := by rw [h]; exact ⟨rfl, hv⟩
    exact (this : False).elim

theorem RepL.imp {M : Nat → Prop} {w : World} {α : Type} {f g : α → CTy} (h : ∀ x v, (f x).rep M w v → (g x).rep M w v) : ∀ {xs : List α} {vs}, RepL M w (xs.map f) vs → RepL M w (xs.map g) vs
  | [], [], _ => trivial
  | _ :: _, _ :: _, ⟨a, b⟩ => ⟨h _ _ a, RepL.imp h b⟩
  | [], _ :: _, k => k.elim
  | _ :: _, [], k => k.elim

theorem pref_ext {τ m : Env} {M : Nat → Prop} {w : World} {v : Value} {off : Nat} {cells : List C0} (h : (CTy.pref ((cells.map (c0 τ)).drop off)).rep M w v) : (CTy.pref ((cells.map (c0 (τ ++ m))).drop off)).rep M w v := by
  obtain ⟨b, o, cs, T, fz, e, hm, hh, hr⟩ := h
  refine ⟨b, o, cs, T, fz, e, hm, hh, ?_⟩
  rw [List.length_drop, List.length_map] at hr ⊢
  rw [← List.map_drop] at hr ⊢
  exact hr.imp fun x v => c0_ext x

theorem crT_ext {τ m : Env} {M : Nat → Prop} {w : World} {v : Value} : ∀ (x : CR), (crT τ x).rep M w v → (crT (τ ++ m) x).rep M w v
  | .c x, h => c0_ext x h
  | .ref _ _, h => pref_ext h

theorem scRep_ext {ex : Nat → Prop} {τ m : Env} {ρ : Nat → Gh} {M : Nat → Prop} {w : World} : ∀ {c : SC} {v}, scRep ex τ ρ M w c v → scRep ex (τ ++ m) ρ M w c v
  | .p _ _, _, h => h
  | .r _, _, h => h
  | .rp b sz i off, v, ⟨h, g, o0, len, cap, k, n, e, e2, e3⟩ => ⟨h, g, o0, len, cap, k, n, e, c0_ext_eq e2 rfl, e3⟩
  | .rs b sz lo hi, v, ⟨h, g, o0, len, cap, k, k', n, m, c, e, e2, e3, e4⟩ => ⟨h, g, o0, len, cap, k, k', n, m, c, e, c0_ext_eq e2 rfl, c0_ext_eq e3 rfl, e4⟩
  | .c x, _, h => c0_ext x h
  | .ref _ _, _, h => pref_ext h
  | .clo f caps, v, ⟨vs, e, h⟩ => ⟨vs, e, h.imp fun x _ => crT_ext x⟩
theorem swRep_ext {ex : Nat → Prop} {τ m : Env} {ρ : Nat → Gh} {M : Nat → Prop} {w : World} : ∀ {c : SW} {v}, swRep ex τ ρ M w c v → swRep ex (τ ++ m) ρ M w c v
  | .one _, _, h => scRep_ext h
  | .agg _, _, ⟨vs, e, h⟩ => ⟨vs, e, h.imp fun _ _ => scRep_ext⟩
theorem svRep_ext {ex : Nat → Prop} {τ m : Env} {ρ : Nat → Gh} {M : Nat → Prop} {w : World} : ∀ {c : SV} {v}, svRep ex τ ρ M w c v → svRep ex (τ ++ m) ρ M w c v
  | .junk, _, _ => trivial
  | .undef, _, h => h
  | .w _, _, h => swRep_ext h
  | .tup _, _, ⟨vs, e, h⟩ => ⟨vs, e, h.imp fun _ _ => swRep_ext⟩
theorem bxRep_ext {base : Nat} {ex : Nat → Prop} {τ m : Env} {ρ : Nat → Gh} {M : Nat → Prop} {w : World} {b : Nat} : ∀ {x : Bx}, bxRep base ex τ ρ M w b x → bxRep base ex (τ ++ m) ρ M w b x
  | .var _ _, ⟨vs, e, h⟩ => ⟨vs, e, h.imp fun _ _ => scRep_ext⟩
  | .row _ _ cid, ⟨ts, xs, e, h⟩ => ⟨ts, xs, by
      have hi : cid < τ.length := (List.getElem?_eq_some_iff.1 e).1
      rw [List.getElem?_append_left hi]; exact e, h⟩
  | .part _ _ cid, ⟨ts, xs, e, h⟩ => ⟨ts, xs, by
      have hi : cid < τ.length := (List.getElem?_eq_some_iff.1 e).1
      rw [List.getElem?_append_left hi]; exact e, h⟩
  | .dead, h => h
theorem Sat.ext {M0 : Lent} {w0 : World} {N : Nat} {s : St} {τ : Env} {ρ : Nat → Gh} {a : Act} {w : World} (h : Sat M0 w0 N s τ ρ a w) (m : Env) : Sat M0 w0 N s (τ ++ m) ρ a w :=
  ⟨h.below, h.sz, h.df, fun t => svRep_ext (h.tm t), fun b x hx => bxRep_ext (h.bx b x hx), h.inj, h.lo, h.old, h.pt⟩

theorem cr_ok {τ m : Env} {n : Nat} (hn : τ.length = n) : ∀ {x : CR}, x.ok n = true → crT (τ ++ m) x = crT τ x
  | .c x, h => c0_ok hn h
  | .ref off cs, h => by
    simp only [CR.ok, List.all_eq_true] at h
    simp only [crT]
    rw [List.map_congr_left (fun x hx => c0_ok hn (h x hx))]
theorem sc_ok {τ m : Env} {n : Nat} (hn : τ.length = n) : ∀ {x : SC}, x.ok n = true → cty (τ ++ m) x = cty τ x
  | .c x, h => c0_ok hn h
  | .ref off cs, h => by
    simp only [SC.ok, List.all_eq_true] at h
    simp only [cty]
    rw [List.map_congr_left (fun x hx => c0_ok hn (h x hx))]
  | .clo f cs, h => by
    simp only [SC.ok, List.all_eq_true] at h
    simp only [cty]
    rw [List.map_congr_left (fun x hx => cr_ok hn (h x hx))]
  | .p .., _ => rfl
  | .r .., _ => rfl
  | .rp .., _ => rfl
  | .rs .., _ => rfl
theorem sw_ok {τ m : Env} {n : Nat} (hn : τ.length = n) : ∀ {x : SW}, x.ok n = true → swT (τ ++ m) x = swT τ x
  | .one c, h => by simp only [swT]; rw [sc_ok hn h]
  | .agg cs, h => by
    simp only [SW.ok, List.all_eq_true] at h
    simp only [swT]
    rw [List.map_congr_left (fun x hx => sc_ok hn (h x hx))]
theorem sws_ok {τ m : Env} {n : Nat} (hn : τ.length = n) {l : List SW} (h : l.all (SW.ok n) = true) : l.map (swT (τ ++ m)) = l.map (swT τ) := by
  simp only [List.all_eq_true] at h
  exact List.map_congr_left (fun x hx => sw_ok hn (h x hx))
theorem c0s_ok {τ m : Env} {n : Nat} (hn : τ.length = n) {l : List C0} (h : l.all (C0.ok n) = true) : l.map (c0 (τ ++ m)) = l.map (c0 τ) := by
  simp only [List.all_eq_true] at h
  exact List.map_congr_left (fun x hx => c0_ok hn (h x hx))

/-- What has been paid stays paid. -/
theorem NeedOk.ext {P : Program} {τ m : Env} {n : Nat} (hn : τ.length = n) {op : Op} {ty : Nat} : ∀ {nd : Need} {news : List STy}, nd.ok n = true → NeedOk P τ op ty nd news → NeedOk P (τ ++ m) op ty nd news
  | .none, _, _, h => h
  | .prim args sh, news, ho, ⟨t, e, e2, h⟩ => ⟨t, e, e2, by rw [sws_ok hn ho]; exact h⟩
  | .call f args sh, news, ho, ⟨e, h⟩ => ⟨e, by rw [sws_ok hn ho]; exact h⟩
  | .callv c args sh, news, ho, ⟨f, caps, e, e2, h⟩ => by
    simp only [Need.ok, Bool.and_eq_true] at ho
    exact ⟨f, caps, by rw [c0_ok hn ho.1]; exact e, e2, by rw [sws_ok hn ho.2]; exact h⟩
  | .lit sz tss, news, ho, h => by
    simp only [Need.ok, List.all_eq_true] at ho
    simp only [NeedOk] at h ⊢
    rw [h]
    congr 2
    exact List.map_congr_left (fun t ht => (c0s_ok hn (List.all_eq_true.2 (ho t ht))).symm)
  | .make z by_ l c, news, ho, ⟨x, y, k, k', e1, e2, h⟩ => ⟨x, y, k, k', c0_ext_eq e1 rfl, c0_ext_eq e2 rfl, h⟩
  | .app sz by_ cid src row, news, ho, ⟨ts, us, e1, e2, h⟩ => by
    have key : ∀ {c : Nat} {us : List (List CTy)}, τ[c]? = some (.rows us) → (τ ++ m)[c]? = some (.rows us) := fun {c us} h => by
      rw [List.getElem?_append_left (List.getElem?_eq_some_iff.1 h).1]; exact h
    refine ⟨ts, us, ?_, ?_, h⟩
    · cases cid with
      | none => exact e1
      | some c => exact key e1
    · cases row with
      | some r => exact key e2
      | none => cases src with
        | none => exact e2
        | some y =>
          simp only [Need.ok, Bool.and_eq_true, Option.all_some] at ho
          rcases e2 with e2 | e2
          · exact .inl e2
          · exact .inr (by rw [c0_ok hn ho.1.2]; exact e2)
  | .idx cid i, news, ho, ⟨ts, k, x, e1, e2, h⟩ => ⟨ts, k, x, by rw [List.getElem?_append_left (List.getElem?_eq_some_iff.1 e1).1]; exact e1, c0_ext_eq e2 rfl, h⟩
  | .ldrow cid i off sz ag, news, ho, ⟨ts, k, x, cells, e1, e2, h⟩ => ⟨ts, k, x, cells, by rw [List.getElem?_append_left (List.getElem?_eq_some_iff.1 e1).1]; exact e1, c0_ext_eq e2 rfl, h⟩
  | .strow cid sz i off xs, news, ho, ⟨ts, k, x, cells, e1, e2, h1, h2, h3⟩ => by
    simp only [Need.ok, Bool.and_eq_true] at ho
    exact ⟨ts, k, x, cells, by rw [List.getElem?_append_left (List.getElem?_eq_some_iff.1 e1).1]; exact e1, c0_ext_eq e2 rfl, h1, h2, by rw [c0s_ok hn ho.2]; exact h3⟩
  | .rop cid E sz view as bs sh, news, ho, ⟨ts, us, us', rs, n, e1, e2, e3, e4, e5, e6⟩ => by
    simp only [Need.ok, Bool.and_eq_true] at ho
    refine ⟨ts, us, us', rs, n, by rw [List.getElem?_append_left (List.getElem?_eq_some_iff.1 e1).1]; exact e1, ?_, e3, e4, by rw [sws_ok hn ho.1.2, sws_ok hn ho.2]; exact e5, e6⟩
    cases view with
    | none => exact e2
    | some v =>
      obtain ⟨k, k', m, h1, h2, h3⟩ := e2
      exact ⟨k, k', m, c0_ext_eq h1 rfl, c0_ext_eq h2 rfl, h3⟩
  | .view cid lo hi mx, news, ho, ⟨ts, k, k', k'', n, m, e1, e2, e3, e4, h⟩ => ⟨ts, k, k', k'', n, m, by rw [List.getElem?_append_left (List.getElem?_eq_some_iff.1 e1).1]; exact e1, c0_ext_eq e2 rfl, c0_ext_eq e3 rfl, c0_ext_eq e4 rfl, h⟩
  | .lenrow cid, news, ho, ⟨ts, e1, h⟩ => ⟨ts, by rw [List.getElem?_append_left (List.getElem?_eq_some_iff.1 e1).1]; exact e1, h⟩

end Go.Sy
namespace Go.Sy
open Go.RowKit (Below)

/-! ### looks -/
section
variable {α β : Type} {s s' : St}
theorem Q.run_bind (q : Q α) (f : α → Q β) : (q >>= f).run s = (q.run s).bind fun a => (f a).run s := by
  show (q.bind f).run s = _
  induction q with
  | ret a => rfl
  | fail => rfl
  | t n k ih => exact ih _
  | b n k ih => exact ih _
  | s n k ih => exact ih _
@[simp] theorem Q.run_pure (a : α) : (pure a : Q α).run s = some a := rfl
@[simp] theorem Q.run_ret (a : α) : (Q.ret a).run s = some a := rfl
@[simp] theorem Q.run_fail : (Q.fail : Q α).run s = none := rfl
@[simp] theorem run_getT (n : Nat) : (getT n).run s = some (s.t n) := rfl
@[simp] theorem run_getB (n : Nat) : (getB n).run s = some (s.b n) := rfl
@[simp] theorem run_getS (n : Nat) : (getS n).run s = some (s.s n) := rfl
@[simp] theorem run_of (x : Option α) : (Q.of x).run s = x := by cases x <;> rfl
theorem run_ask {p : Prop} [Decidable p] {u : Unit} (h : (ask p).run s = some u) : p := by
  unfold ask at h
  split at h
  · assumption
  · cases h
theorem Q.bind_some {q : Q α} {f : α → Q β} {y : β} (h : (q >>= f).run s = some y) : ∃ a, q.run s = some a ∧ (f a).run s = some y := by
  rw [Q.run_bind] at h
  cases hq : q.run s with
  | none => rw [hq] at h; cases h
  | some a => rw [hq] at h; exact ⟨a, rfl, h⟩

def St.agree (s s' : St) : Loc → Prop
  | .t n => s'.t n = s.t n
  | .b n => s'.b n = s.b n
  | .s n => s'.s n = s.s n
theorem Q.congr (q : Q α) (h : ∀ x ∈ q.log s, s.agree s' x) : q.run s' = q.run s := by
  induction q with
  | ret a => rfl
  | fail => rfl
  | t n k ih =>
    have h0 : s'.t n = s.t n := h (.t n) (List.mem_cons_self ..)
    simp only [Q.run, h0]
    exact ih _ fun x hx => h x (List.mem_cons_of_mem _ hx)
  | b n k ih =>
    have h0 : s'.b n = s.b n := h (.b n) (List.mem_cons_self ..)
    simp only [Q.run, h0]
    exact ih _ fun x hx => h x (List.mem_cons_of_mem _ hx)
  | s n k ih =>
    have h0 : s'.s n = s.s n := h (.s n) (List.mem_cons_self ..)
    simp only [Q.run, h0]
    exact ih _ fun x hx => h x (List.mem_cons_of_mem _ hx)
end

/-! ### the state -/
theorem look_append {α : Type} (l m : List (Nat × α)) (n : Nat) : look (l ++ m) n = (look l n).orElse fun _ => look m n := by
  induction l with
  | nil => rfl
  | cons x l ih =>
    obtain ⟨k, v⟩ := x
    simp only [List.cons_append, look]
    split
    · rfl
    · exact ih
theorem St.app_t (s : St) (e : Eff) (n : Nat) : (s.app e).t n = match look e.tm n with | some v => v | none => s.t n := by
  simp only [St.app, St.t, look_append]
  cases look e.tm n <;> rfl
theorem St.app_b (s : St) (e : Eff) (n : Nat) : (s.app e).b n = match look e.bx n with | some v => some v | none => s.b n := by
  simp only [St.app, St.b, look_append]
  cases look e.bx n <;> rfl
theorem St.app_s (s : St) (e : Eff) (n : Nat) : (s.app e).s n = (e.sl.contains n || s.s n) := by
  simp [St.app, St.s]

theorem look_put {o : Oper} {v : SV} {n : Nat} : look (put o v) n = if o.dst = some n then some v else none := by
  unfold put
  cases h : o.dst with
  | none => simp [look]
  | some d =>
    simp only [look]
    by_cases e : d = n
    · simp [e]
    · simp [e]

/-! ### operands -/
section
variable {M0 : Lent} {w0 w : World} {N : Nat} {s : St} {τ : Env} {ρ : Nat → Gh} {a : Act}

abbrev exs (s : St) : Nat → Prop := fun b => (s.b b).isSome

theorem All2.of_map_k {ex : Nat → Prop} {M : Nat → Prop} : ∀ {vs : List Value}, vs.all (·.oneCell') = true → All2 (scRep ex τ ρ M w) (vs.map fun v => .c (.k v)) vs
  | [], _ => trivial
  | v :: vs, h => by
    simp only [List.all_cons, Bool.and_eq_true] at h
    exact ⟨⟨rfl, h.1⟩, All2.of_map_k h.2⟩

theorem valSV_ok {ex : Nat → Prop} {M : Nat → Prop} (v : Value) : svRep ex τ ρ M w (valSV v) v := by
  cases v with
  | agg cs =>
    simp only [valSV]
    split
    · rename_i h
      exact ⟨cs.toList, by simp, All2.of_map_k h⟩
    · trivial
  | tuple vs => trivial
  | func f x y => trivial
  | _ => exact ⟨rfl, rfl⟩

theorem opd_ok (h : Sat M0 w0 N s τ ρ a w) {x : Operand} {sv : SV} (hr : (opd x).run s = some sv) : svRep (exs s) τ ρ (Ms M0 ρ s) w sv (a.eval x) := by
  cases x with
  | tmp t => simp only [opd, run_getT, Option.some.injEq] at hr; subst hr; exact h.tm t
  | const v => simp only [opd, Q.run_ret, Option.some.injEq] at hr; subst hr; exact valSV_ok v
  | global g => simp only [opd, Q.run_ret, Option.some.injEq] at hr; subst hr; trivial
  | func f => simp only [opd, Q.run_ret, Option.some.injEq] at hr; subst hr; exact ⟨[], rfl, trivial⟩
theorem opdW_ok (h : Sat M0 w0 N s τ ρ a w) {x : Operand} {v : SW} (hr : (opdW x).run s = some v) : swRep (exs s) τ ρ (Ms M0 ρ s) w v (a.eval x) := by
  obtain ⟨sv, h1, h2⟩ := Q.bind_some hr
  have := opd_ok h h1
  rw [run_of] at h2
  cases sv with
  | w y => simp [SV.sw] at h2; subst h2; exact this
  | junk => simp [SV.sw] at h2
  | undef => simp [SV.sw] at h2
  | tup xs => simp [SV.sw] at h2
theorem opdC_ok (h : Sat M0 w0 N s τ ρ a w) {x : Operand} {c : SC} (hr : (opdC x).run s = some c) : scRep (exs s) τ ρ (Ms M0 ρ s) w c (a.eval x) := by
  obtain ⟨sv, h1, h2⟩ := Q.bind_some hr
  have := opdW_ok h h1
  rw [run_of] at h2
  cases sv with
  | one y => simp [SW.sc] at h2; subst h2; exact this
  | agg cs => simp [SW.sc] at h2
theorem opdWs_ok (h : Sat M0 w0 N s τ ρ a w) : ∀ {xs : List (Nat × Operand)} {ps : List (Nat × SW)}, (opdWs xs).run s = some ps →
    All2 (fun p x => p.1 = x.1 ∧ swRep (exs s) τ ρ (Ms M0 ρ s) w p.2 (a.eval x.2)) ps xs
  | [], ps, hr => by simp only [opdWs, Q.run_ret, Option.some.injEq] at hr; subst hr; trivial
  | (i, x) :: xs, ps, hr => by
    obtain ⟨v, h1, h2⟩ := Q.bind_some hr
    obtain ⟨vs, h3, h4⟩ := Q.bind_some h2
    simp only [Q.run_pure, Option.some.injEq] at h4
    subst h4
    exact ⟨⟨rfl, opdW_ok h h1⟩, opdWs_ok h h3⟩

theorem swRep.cells {ex : Nat → Prop} {M : Nat → Prop} : ∀ {x : SW} {v : Value}, swRep ex τ ρ M w x v → All2 (scRep ex τ ρ M w) x.cells v.cells.toList ∨ (∃ c, x = .one c ∧ v.oneCell' = false)
  | .agg cs, v, ⟨vs, e, h⟩ => by subst e; exact .inl h
  | .one c, v, h => by
    cases hv : v.oneCell' with
    | false => exact .inr ⟨c, rfl, rfl⟩
    | true =>
      left
      cases v <;> first | (exact ⟨h, trivial⟩) | (simp [Value.oneCell'] at hv)

/-- every value of a cell is a value of one cell -/
theorem scRep.one {ex : Nat → Prop} {M : Nat → Prop} : ∀ {c : SC} {v : Value}, scRep ex τ ρ M w c v → v.oneCell' = true
  | .p .., v, ⟨_, e⟩ => by subst e; rfl
  | .r _, v, ⟨_, _, e⟩ => e
  | .rp .., v, ⟨_, g, o0, len, cap, k, n, _, _, _, e⟩ => by subst e; rfl
  | .rs .., v, ⟨_, g, o0, len, cap, k, k', n, m, c, _, _, _, _, _, _, _, e⟩ => by subst e; rfl
  | .c x, v, h => (c0 τ x).one h
  | .ref .., v, h => CTy.one _ h
  | .clo .., v, h => CTy.one _ h
theorem swRep.cells' {ex : Nat → Prop} {M : Nat → Prop} {x : SW} {v : Value} (h : swRep ex τ ρ M w x v) : All2 (scRep ex τ ρ M w) x.cells v.cells.toList := by
  rcases h.cells with h' | ⟨c, rfl, hv⟩
  · exact h'
  · have : v.oneCell' = true := scRep.one (c := c) h
    rw [this] at hv; cases hv

theorem getRow_ok {b : Nat} {pt : Bool} {E sz cid : Nat} (h : (getRow b).run s = some (pt, E, sz, cid)) : s.b b = some (mkBx pt E sz cid) := by
  obtain ⟨bx, h1, h2⟩ := Q.bind_some h
  simp only [run_getB, Option.some.injEq] at h1
  split at h2
  · simp only [Q.run_pure, Option.some.injEq, Prod.mk.injEq] at h2
    obtain ⟨rfl, rfl, rfl, rfl⟩ := h2
    rw [h1]; rfl
  · simp only [Q.run_pure, Option.some.injEq, Prod.mk.injEq] at h2
    obtain ⟨rfl, rfl, rfl, rfl⟩ := h2
    rw [h1]; rfl
  · cases h2

/-- what a row, or a part, holds -/
theorem rowRep {base : Nat} {ex : Nat → Prop} {M : Nat → Prop} {b : Nat} {pt : Bool} {E sz cid : Nat} (h : bxRep base ex τ ρ M w b (mkBx pt E sz cid)) :
    ∃ ts xs, τ[cid]? = some (.rows ts) ∧ ownsPart w E sz (ρ b).val ts.length xs ∧ (∀ t ∈ ts, t.length = sz) ∧ RepL M w ts.flatten xs := by
  cases pt with
  | true =>
    obtain ⟨ts, xs, h1, h2, h3, h4, _⟩ := h
    exact ⟨ts, xs, h1, h2, h3, h4⟩
  | false =>
    obtain ⟨ts, xs, h1, h2, h3, h4⟩ := h
    exact ⟨ts, xs, h1, .of_row h2, h3, h4⟩
theorem own_mkBx (b : Nat) (pt : Bool) (E sz cid : Nat) : own ρ b (mkBx pt E sz cid) = (ρ b).val.ownBlock := by cases pt <;> rfl

/-! ### what is handed on is sealed -/
/-- M' is what is left to change once the boxes of l (and those sealed before) are given up. -/
structure Sealed (M0 : Lent) (ρ : Nat → Gh) (s : St) (l : List Nat) (M' : Nat → Prop) : Prop where
  sub : ∀ k, M' k → Ms M0 ρ s k
  out : ∀ b x k, s.b b = some x → own ρ b x = some k → (s.s b = true ∨ b ∈ l) → ¬ M' k

theorem Sealed.keep {l : List Nat} {M' : Nat → Prop} (h : Sealed M0 ρ s l M') : Keep (Ms M0 ρ s) w M' w := fun b o hb ho _ => ⟨fun hm => hb (h.sub b hm), ho⟩
theorem Sealed.mono {l l' : List Nat} {M' : Nat → Prop} (h : Sealed M0 ρ s l M') (hl : ∀ x ∈ l', x ∈ l) : Sealed M0 ρ s l' M' :=
  ⟨h.sub, fun b x k h1 h2 h3 => h.out b x k h1 h2 (h3.imp id (hl b))⟩

theorem flat_slice {sz : Nat} {M : Nat → Prop} : ∀ {ts : List (List CTy)} {cur : List Value} {off : Nat}, (∀ t ∈ ts, t.length = sz) → RepL M w ts.flatten ((cur.drop off).take (ts.length * sz)) →
    ∀ i t, ts[i]? = some t → t.length = sz ∧ RepL M w t ((cur.drop (off + i * sz)).take sz)
  | [], cur, off, _, _, i, t, ht => by simp at ht
  | t0 :: ts, cur, off, hl, hr, i, t, ht => by
    have h0 : t0.length = sz := hl t0 List.mem_cons_self
    have hx : ((cur.drop off).take ((t0 :: ts).length * sz)) = (cur.drop off).take sz ++ ((cur.drop (off + sz)).take (ts.length * sz)) := by
      rw [List.length_cons, Nat.add_mul, Nat.one_mul, Nat.add_comm, List.take_add, List.drop_drop]
    rw [hx] at hr
    have hlen := hr.length
    rw [List.flatten_cons] at hr
    cases i with
    | zero =>
      simp only [List.getElem?_cons_zero, Option.some.injEq] at ht
      subst ht
      refine ⟨h0, ?_⟩
      have := hr.take sz
      rw [List.take_append_of_le_length (by omega), List.take_of_length_le (by omega)] at this
      by_cases hs : ((cur.drop off).take sz).length = sz
      · rw [List.take_append_of_le_length (by omega), List.take_of_length_le (by omega)] at this
        simpa using this
      · -- the row is too short: then nothing stands behind
        have h1 : (cur.drop off).length < sz := by rw [List.length_take] at hs; omega
        have h2 : (cur.drop (off + sz)) = [] := by
          apply List.eq_nil_of_length_eq_zero
          rw [List.length_drop] at h1 ⊢
          omega
        rw [h2] at this
        simp only [List.take_nil, List.append_nil] at this
        rw [List.take_take] at this
        simpa using this
    | succ i =>
      have hd := hr.drop sz
      rw [List.drop_append_of_le_length (by omega), List.drop_eq_nil_of_le (by omega : t0.length ≤ sz), List.nil_append] at hd
      have h2 : ((cur.drop off).take sz ++ (cur.drop (off + sz)).take (ts.length * sz)).drop sz = (cur.drop (off + sz)).take (ts.length * sz) := by
        by_cases hs : ((cur.drop off).take sz).length = sz
        · rw [List.drop_append_of_le_length (by omega), List.drop_eq_nil_of_le (by omega), List.nil_append]
        · have h1 : (cur.drop off).length < sz := by rw [List.length_take] at hs; omega
          have h3 : (cur.drop (off + sz)) = [] := by
            apply List.eq_nil_of_length_eq_zero
            rw [List.length_drop] at h1 ⊢
            omega
          rw [h3]
          simp only [List.take_nil, List.append_nil]
          apply List.drop_eq_nil_of_le
          rw [List.length_take]; omega
      rw [h2] at hd
      have := flat_slice (ts := ts) (off := off + sz) (fun t ht => hl t (List.mem_cons_of_mem _ ht)) hd i t (by simpa using ht)
      refine ⟨this.1, ?_⟩
      have e : off + (i + 1) * sz = off + sz + i * sz := by rw [Nat.add_mul, Nat.one_mul]; omega
      rw [e]; exact this.2

/-- A row of ours that is given up is a slice. -/
theorem row_slice (h : Sat M0 w0 N s τ ρ a w) {b E sz cid : Nat} (hb : s.b b = some (.row E sz cid)) {l : List Nat} {M' : Nat → Prop} (hS : Sealed M0 ρ s l M') (hl : s.s b = true ∨ b ∈ l)
    : (c0 τ (.sr sz cid)).rep M' w (ρ b).val := by
  obtain ⟨ts, xs, e, hown, hlen, hr⟩ := h.bx b _ hb
  simp only [c0, e]
  have hr' := hr.mono (hS.keep (w := w))
  obtain ⟨hx, hown⟩ := hown
  rcases hown with ⟨hv, hn⟩ | ⟨g, cap, cur, hv, hbg, hg, hnc, hcm, hcs, htake⟩
  · rw [hv]
    have : ts = [] := List.eq_nil_of_length_eq_zero hn
    subst this
    exact ⟨none, 0, rfl, Nat.le_refl _, by simp [maxLen], .inl rfl⟩
  · rw [hv]
    refine ⟨some ⟨g, 0, none⟩, cap, rfl, hnc, hcm, .inr ⟨g, 0, cur, E, (0, 0), rfl, ?_, hg, ?_⟩⟩
    · exact hS.out b _ g hb (by simp [own, hv, Value.ownBlock]) hl
    · rw [← htake] at hr'
      have := flat_slice (ts := ts) (off := 0) (cur := cur.toList) hlen (by simpa using hr')
      simpa using this

theorem flatC_ok (h : Sat M0 w0 N s τ ρ a w) {M' : Nat → Prop} : ∀ {c : SC} {x : C0} {l : List Nat} {v : Value}, (flatC c).run s = some (x, l) → Sealed M0 ρ s l M' → scRep (exs s) τ ρ (Ms M0 ρ s) w c v → (c0 τ x).rep M' w v
  | .c y, x, l, v, hr, hS, hv => by
    simp only [flatC, Q.run_ret, Option.some.injEq, Prod.mk.injEq] at hr
    obtain ⟨rfl, rfl⟩ := hr
    exact CTy.mono _ hS.keep hv
  | .r b, x, l, v, hr, hS, hv => by
    obtain ⟨bx, h1, h2⟩ := Q.bind_some hr
    simp only [run_getB, Option.some.injEq] at h1
    cases bx with
    | none => simp at h2
    | some bx => cases bx with
      | var => simp at h2
      | dead => simp at h2
      | part => simp at h2
      | row E sz cid =>
        simp only [Q.run_pure, Option.some.injEq, Prod.mk.injEq] at h2
        obtain ⟨rfl, rfl⟩ := h2
        rw [hv.2.1]
        exact row_slice h h1 hS (.inr (by simp))
  | .ref .., x, l, v, hr, _, _ => by simp [flatC] at hr
  | .clo .., x, l, v, hr, _, _ => by simp [flatC] at hr
  | .p .., x, l, v, hr, _, _ => by simp [flatC] at hr
  | .rp .., x, l, v, hr, _, _ => by simp [flatC] at hr
  | .rs .., x, l, v, hr, _, _ => by simp [flatC] at hr
theorem flatCs_ok (h : Sat M0 w0 N s τ ρ a w) {M' : Nat → Prop} : ∀ {cs : List SC} {xs : List C0} {l : List Nat} {vs : List Value}, (flatCs cs).run s = some (xs, l) → Sealed M0 ρ s l M' → All2 (scRep (exs s) τ ρ (Ms M0 ρ s) w) cs vs → RepL M' w (xs.map (c0 τ)) vs
  | [], xs, l, [], hr, hS, hv => by
    simp only [flatCs, Q.run_ret, Option.some.injEq, Prod.mk.injEq] at hr
    obtain ⟨rfl, rfl⟩ := hr
    trivial
  | c :: cs, xs, l, v :: vs, hr, hS, ⟨hv, hvs⟩ => by
    obtain ⟨⟨x, l1⟩, h1, h2⟩ := Q.bind_some hr
    obtain ⟨⟨xs', l2⟩, h3, h4⟩ := Q.bind_some h2
    simp only [Q.run_pure, Option.some.injEq, Prod.mk.injEq] at h4
    obtain ⟨rfl, rfl⟩ := h4
    exact ⟨flatC_ok h h1 (hS.mono fun x hx => List.mem_append_left _ hx) hv, flatCs_ok h h3 (hS.mono fun x hx => List.mem_append_right _ hx) hvs⟩
  | [], _, _, _ :: _, _, _, hv => hv.elim
  | _ :: _, _, _, [], _, _, hv => hv.elim

theorem handC_ok (h : Sat M0 w0 N s τ ρ a w) {M' : Nat → Prop} : ∀ {c x : SC} {l : List Nat} {v : Value}, (handC c).run s = some (x, l) → Sealed M0 ρ s l M' → scRep (exs s) τ ρ (Ms M0 ρ s) w c v → (cty τ x).rep M' w v
  | .c y, x, l, v, hr, hS, hv => by
    simp only [handC, Q.run_ret, Option.some.injEq, Prod.mk.injEq] at hr
    obtain ⟨rfl, rfl⟩ := hr
    exact CTy.mono _ hS.keep hv
  | .ref o cs, x, l, v, hr, hS, hv => by
    simp only [handC, Q.run_ret, Option.some.injEq, Prod.mk.injEq] at hr
    obtain ⟨rfl, rfl⟩ := hr
    exact CTy.mono _ hS.keep hv
  | .clo f cs, x, l, v, hr, hS, hv => by
    simp only [handC, Q.run_ret, Option.some.injEq, Prod.mk.injEq] at hr
    obtain ⟨rfl, rfl⟩ := hr
    exact CTy.mono _ hS.keep hv
  | .r b, x, l, v, hr, hS, hv => by
    obtain ⟨bx, h1, h2⟩ := Q.bind_some hr
    simp only [run_getB, Option.some.injEq] at h1
    cases bx with
    | none => simp at h2
    | some bx => cases bx with
      | var => simp at h2
      | dead => simp at h2
      | part => simp at h2
      | row E sz cid =>
        simp only [Q.run_pure, Option.some.injEq, Prod.mk.injEq] at h2
        obtain ⟨rfl, rfl⟩ := h2
        rw [hv.2.1]
        exact row_slice h h1 hS (.inr (by simp))
  | .p b off, x, l, v, hr, hS, hv => by
    obtain ⟨sb, h1, h2⟩ := Q.bind_some hr
    simp only [run_getS, Option.some.injEq] at h1
    obtain ⟨_, h3, h4⟩ := Q.bind_some h2
    have hsb := run_ask h3
    rw [← h1] at hsb
    obtain ⟨bx, h5, h6⟩ := Q.bind_some h4
    simp only [run_getB, Option.some.injEq] at h5
    cases bx with
    | none => simp at h6
    | some bx => cases bx with
      | row => simp at h6
      | part => simp at h6
      | dead => simp at h6
      | var T cells =>
        obtain ⟨⟨xs, l'⟩, h7, h8⟩ := Q.bind_some h6
        obtain ⟨_, h9, h10⟩ := Q.bind_some h8
        have hnil := run_ask h9
        simp only [Q.run_pure, Option.some.injEq, Prod.mk.injEq] at h10
        obtain ⟨rfl, rfl⟩ := h10
        have hl' : l' = [] := by simpa using hnil
        subst hl'
        obtain ⟨vs, hh, hall⟩ := h.bx b _ h5
        have hrep := flatCs_ok h h7 hS hall
        rw [hv.2]
        refine ⟨(ρ b).blk, off, vs.toArray, T, (0, 0), rfl, hS.out b _ _ h5 rfl (.inl hsb), hh, ?_⟩
        have hd := hrep.drop off
        have hlen := hd.length
        rw [hlen, List.take_of_length_le (by simp)]
        exact hd
  | .rp .., x, l, v, hr, _, _ => by simp [handC] at hr
  | .rs .., x, l, v, hr, _, _ => by simp [handC] at hr
theorem handCs_ok (h : Sat M0 w0 N s τ ρ a w) {M' : Nat → Prop} : ∀ {cs xs : List SC} {l : List Nat} {vs : List Value}, (handCs cs).run s = some (xs, l) → Sealed M0 ρ s l M' → All2 (scRep (exs s) τ ρ (Ms M0 ρ s) w) cs vs → RepL M' w (xs.map (cty τ)) vs
  | [], xs, l, [], hr, hS, hv => by
    simp only [handCs, Q.run_ret, Option.some.injEq, Prod.mk.injEq] at hr
    obtain ⟨rfl, rfl⟩ := hr
    trivial
  | c :: cs, xs, l, v :: vs, hr, hS, ⟨hv, hvs⟩ => by
    obtain ⟨⟨x, l1⟩, h1, h2⟩ := Q.bind_some hr
    obtain ⟨⟨xs', l2⟩, h3, h4⟩ := Q.bind_some h2
    simp only [Q.run_pure, Option.some.injEq, Prod.mk.injEq] at h4
    obtain ⟨rfl, rfl⟩ := h4
    exact ⟨handC_ok h h1 (hS.mono fun x hx => List.mem_append_left _ hx) hv, handCs_ok h h3 (hS.mono fun x hx => List.mem_append_right _ hx) hvs⟩
  | [], _, _, _ :: _, _, _, hv => hv.elim
  | _ :: _, _, _, [], _, _, hv => hv.elim
theorem handW_ok (h : Sat M0 w0 N s τ ρ a w) {M' : Nat → Prop} : ∀ {c x : SW} {l : List Nat} {v : Value}, (handW c).run s = some (x, l) → Sealed M0 ρ s l M' → swRep (exs s) τ ρ (Ms M0 ρ s) w c v → (swT τ x).rep M' w v
  | .one c, x, l, v, hr, hS, hv => by
    obtain ⟨⟨y, l1⟩, h1, h2⟩ := Q.bind_some hr
    simp only [Q.run_pure, Option.some.injEq, Prod.mk.injEq] at h2
    obtain ⟨rfl, rfl⟩ := h2
    exact handC_ok h h1 hS hv
  | .agg cs, x, l, v, hr, hS, ⟨vs, e, hv⟩ => by
    obtain ⟨⟨y, l1⟩, h1, h2⟩ := Q.bind_some hr
    simp only [Q.run_pure, Option.some.injEq, Prod.mk.injEq] at h2
    obtain ⟨rfl, rfl⟩ := h2
    exact ⟨vs, e, handCs_ok h h1 hS hv⟩
theorem handWs_ok (h : Sat M0 w0 N s τ ρ a w) {M' : Nat → Prop} : ∀ {xs : List Operand} {ys : List SW} {l : List Nat}, (handWs xs).run s = some (ys, l) → Sealed M0 ρ s l M' → RepS M' w (ys.map (swT τ)) (xs.map a.eval)
  | [], ys, l, hr, hS => by
    simp only [handWs, Q.run_ret, Option.some.injEq, Prod.mk.injEq] at hr
    obtain ⟨rfl, rfl⟩ := hr
    trivial
  | x :: xs, ys, l, hr, hS => by
    obtain ⟨v, h1, h2⟩ := Q.bind_some hr
    obtain ⟨⟨y, l1⟩, h3, h4⟩ := Q.bind_some h2
    obtain ⟨⟨ys', l2⟩, h5, h6⟩ := Q.bind_some h4
    simp only [Q.run_pure, Option.some.injEq, Prod.mk.injEq] at h6
    obtain ⟨rfl, rfl⟩ := h6
    exact ⟨handW_ok h h3 (hS.mono fun x hx => List.mem_append_left _ hx) (opdW_ok h h1), handWs_ok h h5 (hS.mono fun x hx => List.mem_append_right _ hx)⟩
end
end Go.Sy
namespace Go.Sy
open Go.RowKit (Below)

/-! ### runs -/
section
variable {P : Program} {w : World}

theorem aggT_agg {T : Nat} {ag : Bool} {n : Nat} (h : aggT P T = some (ag, n)) : (isAgg T).run P w = .ok ag w ∧ (sizeOf T).run P w = .ok n w := by
  unfold aggT at h
  split at h
  · rename_i d i hd hi
    simp only [Option.some.injEq, Prod.mk.injEq] at h
    obtain ⟨rfl, rfl⟩ := h
    constructor
    · unfold isAgg
      rw [Sem.run_bind, run_underlying hd w]
      cases d <;> rfl
    · simp [sizeOf, typeInfo, hi]
  · cases h

theorem add_off (g off i : Nat) : (⟨g, off, none⟩ : Addr).add i = ⟨g, off + i, none⟩ := by
  unfold Addr.add; split <;> simp_all

theorem run_loadVar_at {T : Nat} {ag : Bool} {n : Nat} (h : aggT P T = some (ag, n)) {g off : Nat} {cs : Array Value} {E : Nat} {fz : Nat × Nat} (hg : w.heap[g]? = some (.cells cs E fz)) (hn : off + n ≤ cs.size) (h1 : ag = true ∨ n = 1) :
    ∃ v, (loadVar T ⟨g, off, none⟩).run P w = .ok v w ∧ (if ag then v = .agg ((cs.toList.drop off).take n).toArray else (cs.toList.drop off).take n = [v]) := by
  obtain ⟨ha, hs⟩ := aggT_agg (w := w) h
  cases ag with
  | true =>
    refine ⟨_, ?_, rfl⟩
    have hl : ((cs.toList.drop off).take n).length = n := by simp; omega
    have := run_loadCells_list (P := P) w ⟨g, off, none⟩ ((cs.toList.drop off).take n) (fun j v hv => by
      rw [add_off, cell_of_row w g (off + j) cs E fz hg]
      rw [List.getElem?_take] at hv
      split at hv
      · rw [List.getElem?_drop] at hv; simpa using hv
      · cases hv)
    rw [hl] at this
    simp only [loadVar, Sem.run_bind, ha, Result.andThen_ok, if_true, hs, this, Sem.run_pure]
  | false =>
    have hn1 : n = 1 := by rcases h1 with h1 | h1 <;> simp_all
    subst hn1
    have hlt : off < cs.size := by omega
    refine ⟨cs[off], ?_, ?_⟩
    · have hc : w.cell? ⟨g, off, none⟩ = some cs[off] := by rw [cell_of_row w g off cs E fz hg]; simp [hlt]
      simp [loadVar, Sem.run_bind, ha, hc]
    · simp only [Bool.false_eq_true, if_false]
      rw [List.take_one, List.head?_drop]
      simp [hlt]

theorem run_storeVar_at {T : Nat} {ag : Bool} {n : Nat} (h : aggT P T = some (ag, n)) {g off : Nat} {cs : Array Value} {E : Nat} (hg : w.heap[g]? = some (.cells cs E (0, 0))) {v : Value} (hv : v.cells.size = n) (h1 : ∀ x ∈ v.cells.toList, x.oneCell' = true) (hn : off + n ≤ cs.size) :
    (storeVar T ⟨g, off, none⟩ v).run P w = .ok () (w.setRow g (cs.toList.take off ++ v.cells.toList ++ cs.toList.drop (off + n)).toArray) := by
  obtain ⟨ha, hs⟩ := aggT_agg (w := w) h
  have := run_storeCells_at (P := P) g off E v.cells.toList 0 cs w hg (by simp; omega) h1
  simp only [Nat.add_zero, Array.length_toList, hv] at this
  simp [storeVar, Sem.run_bind, hs, hv, this]

theorem wp_of_run {o : Oper} {a : Act} {K : Act → World → Prop} {Qp : Exit → Act → World → Prop} {v : Value} {w' : World} (hr : (execOp a.eval o).run P w = .ok (.value v) w') (h : K (a.put o.dst v) w') : o.wp P a w K Qp := by
  unfold Oper.wp; rw [hr]; exact h
theorem wp_of_skip {o : Oper} {a : Act} {K : Act → World → Prop} {Qp : Exit → Act → World → Prop} {w' : World} (hr : (execOp a.eval o).run P w = .ok .skip w') (h : K (a.put o.dst Go.undef) w') : o.wp P a w K Qp := by
  unfold Oper.wp; rw [hr]; exact h
end

/-! ### the state goes on -/
section
variable {M0 : Lent} {w0 w w' : World} {N : Nat} {s : St} {τ : Env} {ρ ρ' : Nat → Gh} {a : Act}

theorem bxRep.mono {base : Nat} {ex ex' : Nat → Prop} {M M' : Nat → Prop} {b : Nat} (he : ∀ b, ex b → ex' b ∧ ρ' b = ρ b) (hk : Keep M w M' w') : ∀ {x : Bx}, (x ≠ .dead → ρ' b = ρ b) → (∀ k, own ρ b x = some k → w'.heap[k]? = w.heap[k]?) →
    bxRep base ex τ ρ M w b x → bxRep base ex' τ ρ' M' w' b x
  | .var T cells, hb, hh, ⟨vs, e, h⟩ => by
    rw [← hh _ rfl] at e
    refine ⟨vs, ?_, h.imp fun _ _ => scRep.mono he hk⟩
    rw [hb (by simp)]; exact e
  | .row E sz cid, hb, hh, ⟨ts, xs, e, ⟨hx, hown⟩, hl, hr⟩ => by
    refine ⟨ts, xs, e, ⟨hx, ?_⟩, hl, hr.mono hk⟩
    rw [hb (by simp)]
    rcases hown with hv | ⟨g, cap, cur, hv, hbg, hg, rest⟩
    · exact .inl hv
    · refine .inr ⟨g, cap, cur, hv, hbg, ?_, rest⟩
      rw [hh g (by simp [own, hv, Value.ownBlock])]; exact hg
  | .part E sz cid, hb, hh, ⟨ts, xs, e, ⟨hx, hown⟩, hl, hr, h1⟩ => by
    refine ⟨ts, xs, e, ⟨hx, ?_⟩, hl, hr.mono hk, by rw [hb (by simp)]; exact h1.1, ?_⟩
    · rw [hb (by simp)]
      rcases hown with hv | ⟨g, off, cap, cur, hv, hg, rest⟩
      · exact .inl hv
      · refine .inr ⟨g, off, cap, cur, hv, ?_, rest⟩
        rw [hh g (by simp [own, hv, Value.ownBlock])]; exact hg
    rw [hb (by simp)]
    intro g off len cap hv cur hg
    rw [hh g (by simp [own, hv, Value.ownBlock])] at hg
    exact h1.2 g off len cap hv cur hg
  | .dead, _, _, _ => trivial

theorem put_size (d : Option Tmp) (v : Value) : (a.put d v).tmps.size = a.tmps.size := by
  cases d <;> simp [Act.put]
theorem put_defers (d : Option Tmp) (v : Value) : (a.put d v).defers = a.defers := by
  cases d <;> rfl
theorem put_get {o : Oper} {v : Value} (hd : dstOk N o = true) (hN : a.tmps.size = N) (t : Nat) : (a.put o.dst v).tmps.getD t Go.undef = if o.dst = some t then v else a.tmps.getD t Go.undef := by
  unfold dstOk at hd
  cases h : o.dst with
  | none => simp [Act.put]
  | some d =>
    simp only [h, decide_eq_true_eq] at hd
    simp only [Act.put, Option.some.injEq, Array.getD_eq_getD_getElem?, Array.getElem?_setIfInBounds]
    by_cases e : d = t
    · subst e; simp [hN, hd]
    · simp [e]

/-- The general step: the slots but the new one as before, the boxes as told. -/
theorem Sat.go (h : Sat M0 w0 N s τ ρ a w) {o : Oper} {sv : SV} {bx : List (Nat × Bx)} {sl : List Nat} {v : Value} (hd : dstOk N o = true)
    (hbel : Kept M0 w0 w')
    (hρ : ∀ b, (s.b b).isSome → ρ' b = ρ b)
    (hk : Keep (Ms M0 ρ s) w (Ms M0 ρ' (s.app ⟨put o sv, bx, sl⟩)) w')
    (hv : svRep (exs (s.app ⟨put o sv, bx, sl⟩)) τ ρ' (Ms M0 ρ' (s.app ⟨put o sv, bx, sl⟩)) w' sv v)
    (hold : ∀ b x, look bx b = none → s.b b = some x → ∀ k, own ρ b x = some k → w'.heap[k]? = w.heap[k]?)
    (hnew : ∀ b x, look bx b = some x → bxRep 0 (exs (s.app ⟨put o sv, bx, sl⟩)) τ ρ' (Ms M0 ρ' (s.app ⟨put o sv, bx, sl⟩)) w' b x)
    (hnlo : ∀ b x k, look bx b = some x → own ρ' b x = some k → M0.ours w0 k ∧ k < w'.heap.size)
    (hninj : ∀ b x k, look bx b = some x → own ρ' b x = some k → ∀ b' x', (s.app ⟨put o sv, bx, sl⟩).b b' = some x' → own ρ' b' x' = some k → b = b')
    (hnpt : ∀ b E sz cid, look bx b = some (.part E sz cid) → ρ' b = M0.gh)
    (hsz : w.heap.size ≤ w'.heap.size) :
    Sat M0 w0 N (s.app ⟨put o sv, bx, sl⟩) τ ρ' (a.put o.dst v) w' := by
  have he : ∀ b, (s.b b).isSome → ((s.app ⟨put o sv, bx, sl⟩).b b).isSome ∧ ρ' b = ρ b := fun b hb => by
    refine ⟨?_, hρ b hb⟩
    rw [St.app_b]
    cases look bx b <;> simp [hb]
  refine ⟨hbel, by rw [put_size]; exact h.sz, by rw [put_defers]; exact h.df, fun t => ?_, fun b x hx => ?_, ?_, ?_, h.old, fun b E sz cid hb => ?_⟩
  rotate_left 4
  · rw [St.app_b] at hb
    cases hl : look bx b with
    | some y =>
      simp only [hl, Option.some.injEq] at hb
      subst hb
      exact hnpt b E sz cid hl
    | none =>
      simp only [hl] at hb
      rw [hρ b (by simp [hb])]
      exact h.pt b E sz cid hb
  · rw [put_get hd h.sz, St.app_t]
    show svRep _ _ _ _ _ (match look (put o sv) t with | some v => v | none => s.t t) _
    rw [look_put]
    by_cases e : o.dst = some t
    · simp only [e, if_true]; exact hv
    · simp only [e, if_false]; exact (h.tm t).mono he hk
  · rw [St.app_b] at hx
    cases hl : look bx b with
    | some y =>
      simp only [hl, Option.some.injEq] at hx
      subst hx
      exact hnew b y hl
    | none =>
      simp only [hl] at hx
      exact (h.bx b x hx).mono he hk (fun _ => hρ b (by simp [hx])) (hold b x hl hx)
  · intro b b' x x' k hb hb' hk1 hk2
    have hb0 := hb
    have hb0' := hb'
    rw [St.app_b] at hb hb'
    cases hl : look bx b with
    | some y =>
      simp only [hl, Option.some.injEq] at hb
      subst hb
      exact hninj b y k hl hk1 b' x' hb0' hk2
    | none =>
      cases hl' : look bx b' with
      | some y =>
        simp only [hl', Option.some.injEq] at hb'
        subst hb'
        exact (hninj b' y k hl' hk2 b x hb0 hk1).symm
      | none =>
        simp only [hl] at hb
        simp only [hl'] at hb'
        rw [own_congr (hρ b (by simp [hb]))] at hk1
        rw [own_congr (hρ b' (by simp [hb']))] at hk2
        exact h.inj b b' x x' k hb hb' hk1 hk2
  · intro b x k hb hk1
    rw [St.app_b] at hb
    cases hl : look bx b with
    | some y =>
      simp only [hl, Option.some.injEq] at hb
      subst hb
      exact hnlo b y k hl hk1
    | none =>
      simp only [hl] at hb
      rw [own_congr (hρ b (by simp [hb]))] at hk1
      have := h.lo b x k hb hk1
      exact ⟨this.1, Nat.lt_of_lt_of_le this.2 hsz⟩

/-- what may change, where no box comes or goes -/
theorem Ms_app_nobx {e : Eff} (hb : e.bx = []) (k : Nat) : Ms M0 ρ (s.app e) k ↔ (M0.M k ∨ ∃ b x, s.b b = some x ∧ (e.sl.contains b || s.s b) = false ∧ own ρ b x = some k) := by
  unfold Ms
  simp only [St.app_b, hb, look, St.app_s]

theorem Sealed.of_app (h : Sat M0 w0 N s τ ρ a w) {tm : List (Nat × SV)} {sl : List Nat} : Sealed M0 ρ s sl (Ms M0 ρ (s.app ⟨tm, [], sl⟩)) := by
  constructor
  · intro k hk
    rw [Ms_app_nobx rfl] at hk
    rcases hk with hk | ⟨b, x, h1, h2, h3⟩
    · exact .inl hk
    · simp only [Bool.or_eq_false_iff] at h2
      exact .inr ⟨b, x, h1, h2.2, h3⟩
  · intro b x k h1 h2 h3 hk
    rw [Ms_app_nobx rfl] at hk
    rcases hk with hk | ⟨b', x', h4, h5, h6⟩
    · exact h.old k hk (h.lo b x k h1 h2).1
    · have := h.inj b b' x x' k h1 h4 h2 h6
      subst this
      simp only [Bool.or_eq_false_iff] at h5
      rcases h3 with h3 | h3
      · rw [h3] at h5; simp at h5
      · have : sl.contains b = true := by simpa using h3
        rw [this] at h5; simp at h5

/-- No box comes or goes, the world goes on by itself (a call, or not at all). -/
theorem Sat.calls (h : Sat M0 w0 N s τ ρ a w) {o : Oper} {sv : SV} {sl : List Nat} {v : Value} (hd : dstOk N o = true)
    (hb : Below w.heap.size w w')
    (hv : svRep (exs (s.app ⟨put o sv, [], sl⟩)) τ ρ (Ms M0 ρ (s.app ⟨put o sv, [], sl⟩)) w' sv v) :
    Sat M0 w0 N (s.app ⟨put o sv, [], sl⟩) τ ρ (a.put o.dst v) w' := by
  have hS := Sealed.of_app h (tm := put o sv) (sl := sl)
  refine h.go hd (h.below.and hb) (fun _ _ => rfl) ((hS.keep (w := w)).trans (Keep.below hb)) hv (fun b x _ hx k hk => hb.block k (h.lo b x k hx hk).2) (fun b x hx => by cases hx) (fun b x k hx => by cases hx) (fun b x k hx => by cases hx) (fun b E sz cid hx => by cases hx) hb.size

/-- nothing but a slot -/
theorem Sat.pure (h : Sat M0 w0 N s τ ρ a w) {o : Oper} {sv : SV} {v : Value} (hd : dstOk N o = true)
    (hv : svRep (exs s) τ ρ (Ms M0 ρ s) w sv v) :
    Sat M0 w0 N (s.app ⟨put o sv, [], []⟩) τ ρ (a.put o.dst v) w :=
  h.calls hd (Below.refl _ _) (hv.mono (fun b hb => ⟨by rw [exs, St.app_b]; simpa [look] using hb, rfl⟩) (Sealed.of_app h).keep)
end
end Go.Sy
namespace Go.Sy
open Go.RowKit (Below)

/-- What has been paid for an operation, its new unknowns in their places. -/
def NeedAt (P : Program) (τ : Env) (op : Op) (ty : Nat) (nd : Need) (ni : Nat) : Prop :=
  ∃ news, NeedOk P τ op ty nd news ∧ news.length = nd.ids ∧ ∀ j t, news[j]? = some t → τ[ni + j]? = some t

section
variable {P : Program} {M0 : Lent} {w0 w w' : World} {N : Nat} {s : St} {τ : Env} {ρ ρ' : Nat → Gh} {a : Act} {M : Nat → Prop} {ex : Nat → Prop}

theorem All2.of_get {α β : Type} {R : α → β → Prop} : ∀ {xs : List α} {ys : List β}, xs.length = ys.length → (∀ (j : Nat) x y, xs[j]? = some x → ys[j]? = some y → R x y) → All2 R xs ys
  | [], [], _, _ => trivial
  | x :: xs, y :: ys, hl, h => ⟨h 0 x y rfl rfl, All2.of_get (by simpa using hl) fun j x' y' hx hy => h (j + 1) x' y' (by simpa using hx) (by simpa using hy)⟩
  | [], _ :: _, hl, _ => by simp at hl
  | _ :: _, [], hl, _ => by simp at hl

theorem newSW_ok {ni : Nat} {t : STy} {sh : Option Nat} {v : Value} (ht : τ[ni]? = some t) (hs : t.shape = some sh) (hv : t.rep M w v) : swRep ex τ ρ M w (newSW ni sh) v := by
  have hg : τ.getD ni (.rows []) = t := by rw [List.getD_eq_getElem?_getD, ht]; rfl
  cases t with
  | one c =>
    simp only [STy.shape, Option.some.injEq] at hs
    subst hs
    show (c0 τ (.u ni 0)).rep M w v
    simp only [c0, hg]
    exact hv
  | agg cs =>
    simp only [STy.shape, Option.some.injEq] at hs
    subst hs
    obtain ⟨vs, e, hr⟩ := hv
    refine ⟨vs, e, All2.of_get (by simp [hr.length]) fun j x y hx hy => ?_⟩
    rw [List.getElem?_map] at hx
    have hj : j < cs.length := by
      have := (List.getElem?_eq_some_iff.1 hy).1
      rw [hr.length]; exact this
    rw [List.getElem?_range hj] at hx
    simp only [Option.map_some, Option.some.injEq] at hx
    subst hx
    obtain ⟨y', hy', hrep⟩ := hr.get j cs[j] (List.getElem?_eq_getElem hj)
    rw [hy] at hy'
    simp only [Option.some.injEq] at hy'
    subst hy'
    show (c0 τ (.u ni j)).rep M w y
    simp only [c0, hg, STy.cell, STy.cells, List.getD_eq_getElem?_getD, List.getElem?_eq_getElem hj, Option.getD_some]
    exact hrep
  | rows ts => simp [STy.shape] at hs

theorem RepS.get : ∀ {ts : List STy} {vs : List Value}, RepS M w ts vs → ∀ (j : Nat) (v : Value), vs[j]? = some v → ∃ t, ts[j]? = some t ∧ t.rep M w v
  | [], [], _, j, v, hv => by simp at hv
  | t0 :: ts, v0 :: vs, ⟨a, b⟩, j, v, hv => by
    cases j with
    | zero => simp at hv; subst hv; exact ⟨t0, rfl, a⟩
    | succ j => simpa using b.get j v (by simpa using hv)
  | [], _ :: _, k, _, _, _ => k.elim
  | _ :: _, [], k, _, _, _ => k.elim
theorem RepS.append : ∀ {cs vs cs' vs'}, RepS M w cs vs → RepS M w cs' vs' → RepS M w (cs ++ cs') (vs ++ vs')
  | [], [], _, _, _, h => h
  | _ :: _, _ :: _, _, _, ⟨a, b⟩, h => ⟨a, b.append h⟩
  | [], _ :: _, _, _, k, _ => k.elim
  | _ :: _, [], _, _, k, _ => k.elim
theorem RepS.of_RepL : ∀ {cs vs}, RepL M w cs vs → RepS M w (cs.map .one) vs
  | [], [], _ => trivial
  | _ :: _, _ :: _, ⟨a, b⟩ => ⟨a, RepS.of_RepL b⟩
  | [], _ :: _, k => k.elim
  | _ :: _, [], k => k.elim

theorem resSV_ok {ni : Nat} {news : List STy} {sh : List (Option Nat)} {vs : List Value} (hs : news.map STy.shape = sh.map some) (hτ : ∀ j t, news[j]? = some t → τ[ni + j]? = some t) (hv : RepS M w news vs) :
    svRep ex τ ρ M w (resSV ni sh) (pack vs) := by
  have hl : sh.length = vs.length := by
    have := congrArg List.length hs
    simp only [List.length_map] at this
    rw [← hv.length]; exact this.symm
  have key : ∀ j x v, sh[j]? = some x → vs[j]? = some v → swRep ex τ ρ M w (newSW (ni + j) x) v := fun j x v hx hvj => by
    obtain ⟨t, ht, hrep⟩ := hv.get j v hvj
    refine newSW_ok (hτ j t ht) ?_ hrep
    have := congrArg (fun l => l[j]?) hs
    simp only [List.getElem?_map, ht, hx, Option.map_some, Option.some.injEq] at this
    exact this
  unfold resSV
  split
  · rename_i x
    match vs, hl with
    | [v], _ => exact key 0 x v rfl rfl
  · rename_i hne
    have hp : pack vs = .tuple vs.toArray := by
      match vs, hl with
      | [], _ => rfl
      | [v], hl => match sh, hl with | [x], _ => exact absurd rfl (hne x)
      | _ :: _ :: _, _ => rfl
    rw [hp]
    refine ⟨vs, rfl, All2.of_get (by simp [hl]) fun j x y hx hy => ?_⟩
    rw [List.getElem?_mapIdx] at hx
    cases hsj : sh[j]? with
    | none => rw [hsj] at hx; cases hx
    | some z =>
      rw [hsj] at hx
      simp only [Option.map_some, Option.some.injEq] at hx
      subst hx
      exact key j z y hsj hy

/-! ### prim -/
theorem prim_ok (h : Sat M0 w0 N s τ ρ a w) {o : Oper} {ni : Nat} {e : Eff} {nd : Need} {Qp : Exit → Act → World → Prop} (hd : dstOk N o = true) (hq : (primE P o ni).run s = some (e, nd)) (hn : NeedAt P τ o.op o.type nd ni) :
    o.wp P a w (fun a' w' => ∃ ρ', Sat M0 w0 N (s.app e) τ ρ' a' w') Qp := by
  obtain ⟨⟨args, sl⟩, h1, h2⟩ := Q.bind_some hq
  obtain ⟨sh, h3, h4⟩ := Q.bind_some h2
  simp only [Q.run_pure, Option.some.injEq, Prod.mk.injEq] at h4
  obtain ⟨rfl, rfl⟩ := h4
  obtain ⟨news, ⟨t, rfl, hsh, hp⟩, _, hτ⟩ := hn
  have ht : τ[ni]? = some t := by simpa using hτ 0 t rfl
  have hS := Sealed.of_app h (tm := put o (.w (newSW ni sh))) (sl := sl)
  have hrep := handWs_ok h h1 hS
  obtain ⟨v, hr, hv⟩ := hp _ w a.eval o rfl rfl hrep
  exact wp_of_run hr ⟨ρ, h.calls hd (Below.refl _ _) (newSW_ok ht hsh hv)⟩

/-! ### calls -/
theorem Ms_lt (h : Sat M0 w0 N s τ ρ a w) {k : Nat} (hk : Ms M0 ρ s k) : k < w.heap.size := by
  rcases hk with hk | ⟨b, x, h1, _, h3⟩
  · exact Nat.lt_of_lt_of_le (Nat.lt_of_not_le fun hl => h.old k hk (.inl hl)) h.below.size
  · exact (h.lo b x k h1 h3).2

theorem Sat.fine (h : Sat M0 w0 N s τ ρ a w) : Fine (Ms M0 ρ s) w := by
  refine ⟨fun b hb => Ms_lt h hb, fun x hx => ?_⟩
  obtain ⟨h1, h2, T, fz, h3⟩ := h.below.good x hx
  have hlt := (Array.getElem?_eq_some_iff.1 h3).1
  refine ⟨?_, T, fz, by rw [h.below.block _ hlt h2]; exact h3⟩
  rintro (hm | ⟨b, y, h4, _, h5⟩)
  · exact h1 hm
  · exact (h.lo b y _ h4 h5).1.elim (fun hl => Nat.not_lt.2 hl hlt) h2

/-- the run of a call of a function value -/
theorem run_call {o : Oper} {c : Call} {x : Operand} {f : FuncId} {cvs : List Value} (ho : o.op = .call c) (hc : c.callee = .value x) (hx : a.eval x = .func (.func f) #[] cvs.toArray)
    (he : ∀ as w, (callFunc f as).run P w = .ok (.enter f as) w) :
    (execOp a.eval o).run P w = .ok (.enter f (c.args.toList.map a.eval ++ cvs).toArray) w := by
  unfold execOp
  simp only [ho, resolve, hc, hx, Deferred.ofValue, Sem.run_bind, Sem.run_pure, Result.andThen_ok, invoke, he]
  congr 2
  apply Array.ext'
  simp

theorem call_ok (h : Sat M0 w0 N s τ ρ a w) {o : Oper} {c : Call} {x : Operand} {f : FuncId} {cvs : List Value} {caps : List CTy} {args : List SW} {sh : List (Option Nat)} {sl : List Nat} {ni : Nat} {news : List STy} {Qp : Exit → Act → World → Prop}
    (hd : dstOk N o = true) (ho : o.op = .call c) (hc : c.callee = .value x) (hx : a.eval x = .func (.func f) #[] cvs.toArray)
    (hargs : RepS (Ms M0 ρ (s.app ⟨put o (resSV ni sh), [], sl⟩)) w (args.map (swT τ)) (c.args.toList.map a.eval))
    (hcaps : RepL (Ms M0 ρ (s.app ⟨put o (resSV ni sh), [], sl⟩)) w caps cvs)
    (hsh : news.map STy.shape = sh.map some) (hτ : ∀ j t, news[j]? = some t → τ[ni + j]? = some t)
    (hdo : Does P f (args.map (swT τ) ++ caps.map .one) (.ret news)) :
    o.wp P a w (fun a' w' => ∃ ρ', Sat M0 w0 N (s.app ⟨put o (resSV ni sh), [], sl⟩) τ ρ' a' w') Qp := by
  unfold Oper.wp
  rw [run_call ho hc hx hdo.1]
  rw [Oper.upon_enter]
  have hS := Sealed.of_app h (tm := put o (resSV ni sh)) (sl := sl)
  refine (hdo.2 _ w _ (h.fine.sub hS.sub) (hargs.append (RepS.of_RepL hcaps))).mono ?_
  rintro e w' ⟨hb, vs, rfl, hr⟩
  exact ⟨ρ, h.calls hd hb (resSV_ok hsh hτ hr)⟩

theorem call_pan {o : Oper} {c : Call} {x : Operand} {f : FuncId} {cvs : List Value} {caps : List CTy} {args : List SW} {sl : List Nat} {tm : List (Nat × SV)} {ct : CTy} {K : Act → World → Prop} {Qp : Exit → Act → World → Prop}
    (h : Sat M0 w0 N s τ ρ a w) (ho : o.op = .call c) (hc : c.callee = .value x) (hx : a.eval x = .func (.func f) #[] cvs.toArray)
    (hargs : RepS (Ms M0 ρ (s.app ⟨tm, [], sl⟩)) w (args.map (swT τ)) (c.args.toList.map a.eval))
    (hcaps : RepL (Ms M0 ρ (s.app ⟨tm, [], sl⟩)) w caps cvs)
    (hdo : Does P f (args.map (swT τ) ++ caps.map .one) (.pan ct))
    (hQ : ∀ v w', Below w.heap.size w w' → ct.rep (Ms M0 ρ (s.app ⟨tm, [], sl⟩)) w' v → Qp (.panic [{ v, recovered := false }]) a w') :
    o.wp P a w K Qp := by
  unfold Oper.wp
  rw [run_call ho hc hx hdo.1]
  rw [Oper.upon_enter]
  have hS := Sealed.of_app h (tm := tm) (sl := sl)
  refine (hdo.2 _ w _ (h.fine.sub hS.sub) (hargs.append (RepS.of_RepL hcaps))).mono ?_
  rintro e w' ⟨hb, v, rfl, hr⟩
  exact hQ v w' hb hr

theorem funcOk_enters {f : FuncId} (h : funcOk P f = true) : ∀ as w, (callFunc f as).run P w = .ok (.enter f as) w := by
  intro as w
  unfold funcOk at h
  split at h
  · rename_i fn hf
    simp only [Bool.and_eq_true, bne_iff_ne, ne_eq] at h
    have hb : ¬ fn.body = none := by intro hb; rw [hb] at h; simp at h
    simp [callFunc, program, hf, Sem.run, h.1, hb]
  · cases h
end
end Go.Sy
