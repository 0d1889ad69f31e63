import Derived.Orders
import Derived.Laws.AppendOwn
import Derived.Laws.Concat
import Derived.Laws.RangeString
import Derived.Laws.IdiomStrings
import Derived.Tactics
/- A machine over abstract values: what values stand for, and the operations, with their proofs against the given model. No conditions. -/
/- Abstract values, what they stand for, and the states of memory that a walk speaks of. -/
namespace Go.Av

/-- What is known of a value. -/
inductive AV where
  | int (k : IntKind) (n : Int)
  | bool (b : Bool)
  | str (s : ByteArray)
  | nils
  | imm (n : Nat) (full : Bool) (cells : List AV)
  | ref (sz b off n : Nat) (cap : Option Nat)
  | iptr (cells : List AV)
  | ptr (b off : Nat)
  | agg (cells : List AV)
  | tup (cells : List AV)
  | fn (f : FuncId) (caps : List AV)
  | nilf
  | iter (b : Nat) (s : ByteArray)
  | mapv (b : Nat)
  | nili
  | ifc (t : TypeId) (x : AV)
  | sub (b off n : Nat)
  | any
  deriving Inhabited

/-- What never changes: the contents of frozen blocks, and the sizes of blocks. -/
inductive Kd where
  | iter (s : ByteArray)
  | map
structure Env where
  F : Nat → Option Obj
  S : Nat → Option Nat
  I : Nat → Option Kd

def Env.le (E E' : Env) : Prop := (∀ b o, E.F b = some o → E'.F b = some o) ∧ (∀ b s, E.S b = some s → E'.S b = some s) ∧ (∀ b k, E.I b = some k → E'.I b = some k)

theorem Env.le_refl (E : Env) : E.le E := ⟨fun _ _ h => h, fun _ _ h => h, fun _ _ h => h⟩
theorem Env.le_trans {E E' E'' : Env} (h : E.le E') (h' : E'.le E'') : E.le E'' :=
  ⟨fun b o e => h'.1 b o (h.1 b o e), fun b o e => h'.2.1 b o (h.2.1 b o e), fun b o e => h'.2.2 b o (h.2.2 b o e)⟩

/-- The value is as the abstract value says. -/
inductive Rep (E : Env) : AV → Value → Prop where
  | int (k : IntKind) (n : Int) : Rep E (.int k n) (.int k n)
  | bool (b : Bool) : Rep E (.bool b) (.bool b)
  | str (s : ByteArray) : Rep E (.str s) (.string s)
  | nils : Rep E .nils (.slice none 0 0)
  | immE (full : Bool) (a : Option Addr) (cap : Nat) : (full = true → cap = 0) → Rep E (.imm 0 full []) (.slice a 0 cap)
  | imm (n : Nat) (full : Bool) (cells : List AV) (b off cap : Nat) (c : Array Value) (T : TypeId) (fr : Nat × Nat) (vs : Nat → Value) :
      E.F b = some (.cells c T fr) → (full = true → cap = n) → n ≤ cap → (∀ i, i < cells.length → c[off + i]? = some (vs i)) →
      (∀ i (h : i < cells.length), Rep E cells[i] (vs i)) → Rep E (.imm n full cells) (.slice (some ⟨b, off, none⟩) n cap)
  | ref (sz b off n : Nat) (cp : Option Nat) (cap s : Nat) : (∀ c, cp = some c → cap = c) → n ≤ cap → E.S b = some s → off + cap * sz ≤ s →
      Rep E (.ref sz b off n cp) (.slice (some ⟨b, off, none⟩) n cap)
  | iptr (cells : List AV) (b off : Nat) (c : Array Value) (T : TypeId) (fr : Nat × Nat) (vs : Nat → Value) :
      E.F b = some (.cells c T fr) → (∀ i, i < cells.length → c[off + i]? = some (vs i)) →
      (∀ i (h : i < cells.length), Rep E cells[i] (vs i)) → Rep E (.iptr cells) (.pointer (some ⟨b, off, none⟩))
  | ptr (b off s : Nat) : E.S b = some s → Rep E (.ptr b off) (.pointer (some ⟨b, off, none⟩))
  | iter (b : Nat) (s : ByteArray) : E.I b = some (.iter s) → Rep E (.iter b s) (.pointer (some ⟨b, 0, none⟩))
  | mapv (b : Nat) : E.I b = some .map → Rep E (.mapv b) (.map (some b))
  | agg (cells : List AV) (cs : Array Value) (vs : Nat → Value) : cs.size = cells.length → (∀ i, i < cells.length → cs[i]? = some (vs i)) →
      (∀ i (h : i < cells.length), Rep E cells[i] (vs i)) → Rep E (.agg cells) (.agg cs)
  | tup (cells : List AV) (cs : Array Value) (vs : Nat → Value) : cs.size = cells.length → (∀ i, i < cells.length → cs[i]? = some (vs i)) →
      (∀ i (h : i < cells.length), Rep E cells[i] (vs i)) → Rep E (.tup cells) (.tuple cs)
  | fn (f : FuncId) (caps : List AV) (cs : Array Value) (vs : Nat → Value) : cs.size = caps.length → (∀ i, i < caps.length → cs[i]? = some (vs i)) →
      (∀ i (h : i < caps.length), Rep E caps[i] (vs i)) → Rep E (.fn f caps) (.func (.func f) #[] cs)
  | nilf : Rep E .nilf .nilFunc
  | nili : Rep E .nili .nilIface
  | ifc (t : TypeId) (x : AV) (v : Value) : Rep E x v → Rep E (.ifc t x) (.iface t v)
  | sub (b off n cap s : Nat) : E.S b = some s → Rep E (.sub b off n) (.slice (some ⟨b, off, none⟩) n cap)
  | any (v : Value) : Rep E .any v

theorem Rep.mono {E E' : Env} (he : E.le E') {x : AV} {v : Value} (h : Rep E x v) : Rep E' x v := by
  induction h with
  | int k n => exact .int k n
  | bool b => exact .bool b
  | str s => exact .str s
  | nils => exact .nils
  | immE full a cap h1 => exact .immE full a cap h1
  | imm n full cells b off cap c T fr vs h1 h2 h3 h4 _ ih => exact .imm n full cells b off cap c T fr vs (he.1 _ _ h1) h2 h3 h4 ih
  | ref sz b off n cp cap s h1 h2 h3 h4 => exact .ref sz b off n cp cap s h1 h2 (he.2.1 _ _ h3) h4
  | iptr cells b off c T fr vs h1 h2 _ ih => exact .iptr cells b off c T fr vs (he.1 _ _ h1) h2 ih
  | ptr b off s h => exact .ptr b off s (he.2.1 _ _ h)
  | iter b s h => exact .iter b s (he.2.2 _ _ h)
  | mapv b h => exact .mapv b (he.2.2 _ _ h)
  | agg cells cs vs h1 h2 _ ih => exact .agg cells cs vs h1 h2 ih
  | tup cells cs vs h1 h2 _ ih => exact .tup cells cs vs h1 h2 ih
  | fn f caps cs vs h1 h2 _ ih => exact .fn f caps cs vs h1 h2 ih
  | nilf => exact .nilf
  | nili => exact .nili
  | ifc t x v _ ih => exact .ifc t x v ih
  | sub b off n cap s h => exact .sub b off n cap s (he.2.1 _ _ h)
  | any v => exact .any v

/-- A row of cells, as far as it is known. -/
def CellsAt (E : Env) (c : Array Value) (off : Nat) (cells : List AV) : Prop :=
  ∀ i (h : i < cells.length), ∃ v, c[off + i]? = some v ∧ Rep E cells[i] v

theorem CellsAt.mono {E E' : Env} (he : E.le E') {c : Array Value} {off : Nat} {cells : List AV} (h : CellsAt E c off cells) : CellsAt E' c off cells :=
  fun i hi => let ⟨v, h1, h2⟩ := h i hi; ⟨v, h1, h2.mono he⟩

/-- The parts as a function: what the constructors of 'Rep' ask. -/
theorem CellsAt.fn {E : Env} {c : Array Value} {off : Nat} {cells : List AV} (h : CellsAt E c off cells) :
    ∃ vs : Nat → Value, (∀ i, i < cells.length → c[off + i]? = some (vs i)) ∧ (∀ i (h : i < cells.length), Rep E cells[i] (vs i)) := by
  refine ⟨fun i => (c[off + i]?).getD undef, fun i hi => ?_, fun i hi => ?_⟩
  · obtain ⟨v, h1, _⟩ := h i hi; simp [h1]
  · obtain ⟨v, h1, h2⟩ := h i hi; simpa [h1] using h2

theorem CellsAt.of {E : Env} {c : Array Value} {off : Nat} {cells : List AV} {vs : Nat → Value} (h1 : ∀ i, i < cells.length → c[off + i]? = some (vs i))
    (h2 : ∀ i (h : i < cells.length), Rep E cells[i] (vs i)) : CellsAt E c off cells := fun i hi => ⟨vs i, h1 i hi, h2 i hi⟩

theorem CellsAt.drop {E : Env} {c : Array Value} {off : Nat} {cells : List AV} (h : CellsAt E c off cells) (k : Nat) : CellsAt E c (off + k) (cells.drop k) := by
  intro i hi
  have hi' : k + i < cells.length := by simp at hi; omega
  obtain ⟨v, h1, h2⟩ := h (k + i) hi'
  refine ⟨v, by rw [Nat.add_assoc]; exact h1, by simpa using h2⟩

theorem CellsAt.take {E : Env} {c : Array Value} {off : Nat} {cells : List AV} (h : CellsAt E c off cells) (k : Nat) : CellsAt E c off (cells.take k) := by
  intro i hi
  have hi' : i < cells.length := by simp at hi; omega
  obtain ⟨v, h1, h2⟩ := h i hi'
  refine ⟨v, h1, by simpa using h2⟩

/-- The blocks of the call's own, that are written. -/
abbrev Heap := Nat → Option (List AV)
def Heap.put (H : Heap) (b : Nat) (cells : List AV) : Heap := fun x => if x = b then some cells else H x
def Heap.del (H : Heap) (b : Nat) : Heap := fun x => if x = b then none else H x

/-- What a map holds: keys and values in turn. -/
def MapAt (E : Env) : List AV → List MapEntry → Prop
  | [], [] => True
  | k :: v :: cells, e :: es => Rep E k e.key ∧ Rep E v e.val ∧ MapAt E cells es
  | _, _ => False
theorem MapAt.mono {E E' : Env} (he : E.le E') : ∀ {cells : List AV} {es : List MapEntry}, MapAt E cells es → MapAt E' cells es
  | [], [], _ => trivial
  | [], _ :: _, h => h
  | [_], [], h => h
  | [_], _ :: _, h => h
  | _ :: _ :: _, [], h => h
  | _ :: _ :: _, _ :: _, h => ⟨h.1.mono he, h.2.1.mono he, h.2.2.mono he⟩
/-- What lies in a block that holds no cells. -/
def KdAt (E : Env) (k : Kd) (cells : List AV) (o : Option Obj) : Prop := match k with
  | .iter s => ∃ pos : Nat, cells = [.int .i64 pos] ∧ o = some (.stringIter s pos)
  | .map => ∃ es clock, o = some (.map es clock) ∧ MapAt E cells es.toList
theorem KdAt.mono {E E' : Env} (he : E.le E') {k : Kd} {cells : List AV} {o : Option Obj} (h : KdAt E k cells o) : KdAt E' k cells o := by
  cases k with
  | iter s => exact h
  | map => obtain ⟨es, c, h1, h2⟩ := h; exact ⟨es, c, h1, h2.mono he⟩
theorem KdAt.some {E : Env} {k : Kd} {cells : List AV} {o : Option Obj} (h : KdAt E k cells o) : ∃ x, o = some x ∧ ∀ c T fr, x ≠ .cells c T fr := by
  cases k with
  | iter s => obtain ⟨pos, _, h2⟩ := h; exact ⟨_, h2, by intros; simp⟩
  | map => obtain ⟨es, c, h1, h2⟩ := h; exact ⟨_, h1, by intros; simp⟩

/-- The world's memory is as the state says. -/
structure St (E : Env) (H : Heap) (w : World) : Prop where
  frz : ∀ b o, E.F b = some o → w.heap[b]? = some o
  siz : ∀ b s, E.S b = some s → ∃ c T fr, w.heap[b]? = some (.cells c T fr) ∧ c.size = s
  own : ∀ b cells, H b = some cells → E.F b = none ∧ b < w.heap.size ∧ (∀ s, E.S b = some s → ∃ c T, w.heap[b]? = some (.cells c T (0, 0)) ∧ CellsAt E c 0 cells) ∧ (∀ k, E.I b = some k → KdAt E k cells w.heap[b]?)
  kd : ∀ b k, E.I b = some k → b < w.heap.size

/-- What became of memory: only blocks of the state's own, and new ones, have changed. -/
structure Ext (E : Env) (H : Heap) (w : World) (E' : Env) (H' : Heap) (w' : World) : Prop where
  env : E.le E'
  size : w.heap.size ≤ w'.heap.size
  frame : ∀ b, b < w.heap.size → H b = none → w'.heap[b]? = w.heap[b]?
  domH : ∀ b, H' b ≠ none → H b ≠ none ∨ w.heap.size ≤ b
  domF : ∀ b, E'.F b ≠ none → E.F b ≠ none ∨ H b ≠ none ∨ w.heap.size ≤ b
  os : w'.os = w.os
  output : w'.output = w.output
  sI : ∀ b, b < w.heap.size → E'.S b = E.S b ∧ E'.I b = E.I b

theorem Ext.refl (E : Env) (H : Heap) (w : World) : Ext E H w E H w :=
  ⟨Env.le_refl E, Nat.le_refl _, fun _ _ _ => rfl, fun _ h => .inl h, fun _ h => .inl h, rfl, rfl, fun _ _ => ⟨rfl, rfl⟩⟩

theorem Ext.trans {E E' E'' : Env} {H H' H'' : Heap} {w w' w'' : World} (h : Ext E H w E' H' w') (h' : Ext E' H' w' E'' H'' w'') :
    Ext E H w E'' H'' w'' := by
  refine ⟨Env.le_trans h.env h'.env, Nat.le_trans h.size h'.size, fun b hb hn => ?_, fun b hb => ?_, fun b hb => ?_, h'.os.trans h.os, h'.output.trans h.output, fun b hb => ⟨(h'.sI b (Nat.lt_of_lt_of_le hb h.size)).1.trans (h.sI b hb).1, (h'.sI b (Nat.lt_of_lt_of_le hb h.size)).2.trans (h.sI b hb).2⟩⟩
  · have hn' : H' b = none := by
      cases hx : H' b with
      | none => rfl
      | some c =>
        rcases h.domH b (by simp [hx]) with h1 | h1
        · exact absurd hn h1
        · omega
    exact (h'.frame b (Nat.lt_of_lt_of_le hb h.size) hn').trans (h.frame b hb hn)
  · rcases h'.domH b hb with h1 | h1
    · exact h.domH b h1
    · exact .inr (Nat.le_trans h.size h1)
  · rcases h'.domF b hb with h1 | h1 | h1
    · exact h.domF b h1
    · rcases h.domH b h1 with h2 | h2
      · exact .inr (.inl h2)
      · exact .inr (.inr h2)
    · exact .inr (.inr (Nat.le_trans h.size h1))

theorem St.lt {E : Env} {H : Heap} {w : World} (h : St E H w) {b : Nat} {cells : List AV} (hb : H b = some cells) : b < w.heap.size := by
  exact (h.own b cells hb).2.1
theorem St.cells {E : Env} {H : Heap} {w : World} (h : St E H w) {b s : Nat} {cells : List AV} (hb : H b = some cells) (hs : E.S b = some s) : E.F b = none ∧ ∃ c T, w.heap[b]? = some (.cells c T (0, 0)) ∧ CellsAt E c 0 cells :=
  ⟨(h.own b cells hb).1, (h.own b cells hb).2.2.1 s hs⟩
/-- A block of cells is of no other kind. -/
theorem St.noKd {E : Env} {H : Heap} {w : World} (h : St E H w) {b s : Nat} {cells : List AV} (hb : H b = some cells) (hs : E.S b = some s) : E.I b = none := by
  cases hk : E.I b with
  | none => rfl
  | some k =>
    obtain ⟨_, _, h1, h2⟩ := h.own b cells hb
    obtain ⟨c, T, h3, _⟩ := h1 s hs
    obtain ⟨x, h4, h5⟩ := (h2 k hk).some
    rw [h3] at h4
    exact absurd (Option.some.inj h4).symm (h5 _ _ _)

theorem St.fresh {E : Env} {H : Heap} {w : World} (h : St E H w) : H w.heap.size = none := by
  cases hx : H w.heap.size with
  | none => rfl
  | some c => exact absurd (h.lt hx) (Nat.lt_irrefl _)

theorem St.freshI {E : Env} {H : Heap} {w : World} (h : St E H w) : E.I w.heap.size = none := by
  cases hx : E.I w.heap.size with
  | none => rfl
  | some c => exact absurd (h.kd _ _ hx) (Nat.lt_irrefl _)

theorem St.freshF {E : Env} {H : Heap} {w : World} (h : St E H w) : E.F w.heap.size = none := by
  cases hx : E.F w.heap.size with
  | none => rfl
  | some c => have := h.frz _ _ hx; simp at this

/-- Fewer blocks of one's own. -/
theorem St.weaken {E : Env} {H H' : Heap} {w : World} (h : St E H w) (hle : ∀ b c, H' b = some c → H b = some c) : St E H' w :=
  ⟨h.frz, h.siz, fun b c hb => h.own b c (hle b c hb), h.kd⟩

/-- Only the heap counts. -/
theorem St.heap {E : Env} {H : Heap} {w w' : World} (h : St E H w) (hw : w'.heap = w.heap) : St E H w' :=
  ⟨fun b o hb => by rw [hw]; exact h.frz b o hb, fun b s hb => by rw [hw]; exact h.siz b s hb, fun b c hb => by rw [hw]; exact h.own b c hb, fun b k hb => by rw [hw]; exact h.kd b k hb⟩

theorem Ext.heap {E E' : Env} {H H' : Heap} {w w' w'' : World} (h : Ext E H w E' H' w') (hw : w''.heap = w'.heap) (ho : w''.os = w'.os) (hp : w''.output = w'.output) : Ext E H w E' H' w'' :=
  ⟨h.env, by rw [hw]; exact h.size, fun b hb hn => by rw [hw]; exact h.frame b hb hn, h.domH, h.domF, ho.trans h.os, hp.trans h.output, h.sI⟩

/-- Lists of values. -/
def RepL (E : Env) (xs : List AV) (vs : List Value) : Prop := xs.length = vs.length ∧ ∀ i (h : i < xs.length) (h' : i < vs.length), Rep E xs[i] vs[i]

theorem RepL.mono {E E' : Env} (he : E.le E') {xs : List AV} {vs : List Value} (h : RepL E xs vs) : RepL E' xs vs :=
  ⟨h.1, fun i h1 h2 => (h.2 i h1 h2).mono he⟩
theorem RepL.nil (E : Env) : RepL E [] [] := ⟨rfl, fun i h => by simp at h⟩
theorem RepL.cons {E : Env} {x : AV} {v : Value} {xs : List AV} {vs : List Value} (h : Rep E x v) (hs : RepL E xs vs) : RepL E (x :: xs) (v :: vs) := by
  refine ⟨by simp [hs.1], fun i h1 h2 => ?_⟩
  cases i with
  | zero => exact h
  | succ i => exact hs.2 i (by simpa using h1) (by simpa using h2)
theorem RepL.append {E : Env} {xs ys : List AV} {vs us : List Value} (h : RepL E xs vs) (h' : RepL E ys us) : RepL E (xs ++ ys) (vs ++ us) := by
  refine ⟨by simp [h.1, h'.1], fun i h1 h2 => ?_⟩
  by_cases hi : i < xs.length
  · rw [List.getElem_append_left hi, List.getElem_append_left (by rw [← h.1]; exact hi)]; exact h.2 i hi _
  · rw [List.getElem_append_right (by omega), List.getElem_append_right (by rw [← h.1]; omega)]
    have : i - vs.length = i - xs.length := by rw [h.1]
    simp only [this]
    exact h'.2 _ _ _
theorem RepL.uncons {E : Env} {x : AV} {v : Value} {xs : List AV} {vs : List Value} (h : RepL E (x :: xs) (v :: vs)) : Rep E x v ∧ RepL E xs vs := by
  refine ⟨h.2 0 (by simp) (by simp), by simpa using h.1, fun i h1 h2 => ?_⟩
  exact h.2 (i + 1) (by simpa using h1) (by simpa using h2)
theorem RepL.cellsAt {E : Env} {xs : List AV} {vs : List Value} (h : RepL E xs vs) : CellsAt E vs.toArray 0 xs := fun i hi => by
  have hi' : i < vs.length := by rw [← h.1]; exact hi
  exact ⟨vs[i], by simp [hi'], h.2 i hi hi'⟩
theorem CellsAt.repL {E : Env} {c : Array Value} {xs : List AV} (h : CellsAt E c 0 xs) (hs : c.size = xs.length) : RepL E xs c.toList := by
  refine ⟨by simp [hs], fun i h1 h2 => ?_⟩
  obtain ⟨v, h3, h4⟩ := h i h1
  have : c[i]? = some c.toList[i] := by simp
  simp only [Nat.zero_add] at h3
  rw [this] at h3
  cases h3
  exact h4

/-- The function has a body of its own. -/
def callable (P : Program) (f : FuncId) : Bool := match P.funcs[f]? with
  | some fn => fn.body.isSome && !(fn.name == "runtime.NumGoroutine")
  | none => false

/-- The library's table by which the lowest bit is found. -/
def tz64 : List AV := [.int .u8 0, .int .u8 1, .int .u8 56, .int .u8 2, .int .u8 57, .int .u8 49, .int .u8 28, .int .u8 3, .int .u8 61, .int .u8 58, .int .u8 42, .int .u8 50, .int .u8 38, .int .u8 29, .int .u8 17, .int .u8 4, .int .u8 62, .int .u8 47, .int .u8 59, .int .u8 36, .int .u8 45, .int .u8 43, .int .u8 51, .int .u8 22, .int .u8 53, .int .u8 39, .int .u8 33, .int .u8 30, .int .u8 24, .int .u8 18, .int .u8 12, .int .u8 5, .int .u8 63, .int .u8 55, .int .u8 48, .int .u8 27, .int .u8 60, .int .u8 41, .int .u8 37, .int .u8 16, .int .u8 46, .int .u8 35, .int .u8 44, .int .u8 21, .int .u8 52, .int .u8 32, .int .u8 23, .int .u8 11, .int .u8 54, .int .u8 26, .int .u8 40, .int .u8 15, .int .u8 34, .int .u8 20, .int .u8 31, .int .u8 10, .int .u8 25, .int .u8 14, .int .u8 19, .int .u8 9, .int .u8 13, .int .u8 8, .int .u8 7, .int .u8 6]
/-- What package-level variables hold that nothing writes. -/
def globs (P : Program) (g : Nat) : Option (List AV) := if P.globalNamed "math/bits.deBruijn64tab" = some g then some tz64 else none
def Glb (P : Program) (E : Env) : Prop := ∀ g cells, globs P g = some cells → Rep E (.iptr cells) (.pointer (some ⟨g, 0, none⟩))
theorem Glb.mono {P : Program} {E E' : Env} (he : E.le E') (h : Glb P E) : Glb P E' := fun g cells hg => (h g cells hg).mono he

/-- The function, called in whatever state is as told, returns, and leaves a state as told. -/
def ACalls (P : Program) (f : FuncId) (args : List AV) (H : Heap) (K : AV → Heap → Prop) : Prop :=
  callable P f = true ∧ ∀ (E : Env) (w : World) (vs : List Value), Glb P E → St E H w → RepL E args vs →
    Calls P f vs.toArray w fun e w' => ∃ r v E' H', e = .returned v ∧ Rep E' r v ∧ St E' H' w' ∧ Ext E H w E' H' w' ∧ K r H'

theorem ACalls.mono {P : Program} {f : FuncId} {args : List AV} {H : Heap} {K K' : AV → Heap → Prop} (h : ACalls P f args H K)
    (hk : ∀ r H', K r H' → K' r H') : ACalls P f args H K' := ⟨h.1, fun E w vs hg hs hr =>
  (h.2 E w vs hg hs hr).mono fun _ _ ⟨r, v, E', H', he, h1, h2, h3, h4⟩ => ⟨r, v, E', H', he, h1, h2, h3, hk _ _ h4⟩⟩

/-- One more block: of one's own, or frozen. -/
def Env.addS (E : Env) (b s : Nat) : Env := { E with S := fun x => if x = b then some s else E.S x }
def Env.addF (E : Env) (b : Nat) (o : Obj) : Env := { E with F := fun x => if x = b then some o else E.F x }
def Env.addI (E : Env) (b : Nat) (k : Kd) : Env := { E with I := fun x => if x = b then some k else E.I x }

theorem St.freshS {E : Env} {H : Heap} {w : World} (h : St E H w) : E.S w.heap.size = none := by
  cases hx : E.S w.heap.size with
  | none => rfl
  | some c => obtain ⟨_, _, _, h1, _⟩ := h.siz _ _ hx; simp at h1

theorem Env.le_addS {E : Env} {b s : Nat} (h : E.S b = none) : E.le (E.addS b s) :=
  ⟨fun _ _ h => h, fun x s' hx => by simp only [Env.addS]; split <;> simp_all, fun _ _ h => h⟩
theorem Env.le_addI {E : Env} {b : Nat} {k : Kd} (h : E.I b = none) : E.le (E.addI b k) :=
  ⟨fun _ _ h => h, fun _ _ h => h, fun x s' hx => by simp only [Env.addI]; split <;> simp_all⟩
theorem Env.le_addF {E : Env} {b : Nat} {o : Obj} (h : E.F b = none) : E.le (E.addF b o) :=
  ⟨fun x s' hx => by simp only [Env.addF]; split <;> simp_all, fun _ _ h => h, fun _ _ h => h⟩

theorem heap_push (w : World) (o : Obj) (i : Nat) (h : i ≠ w.heap.size) : (w.alloc o).heap[i]? = w.heap[i]? := by
  show (w.heap.push o)[i]? = w.heap[i]?
  rw [Array.getElem?_push, if_neg h]
theorem heap_push_new (w : World) (o : Obj) : (w.alloc o).heap[w.heap.size]? = some o := by
  show (w.heap.push o)[w.heap.size]? = some o
  simp

theorem lt_of_some {w : World} {b : Nat} {o : Obj} (h : w.heap[b]? = some o) : b < w.heap.size := (Array.getElem?_eq_some_iff.1 h).1

/-- A new block of one's own. -/
theorem St.allocOwn {E : Env} {H : Heap} {w : World} (h : St E H w) {c : Array Value} {T : TypeId} {cs : List AV} (hc : CellsAt E c 0 cs) :
    St (E.addS w.heap.size c.size) (H.put w.heap.size cs) (w.alloc (.cells c T)) ∧ Ext E H w (E.addS w.heap.size c.size) (H.put w.heap.size cs) (w.alloc (.cells c T)) := by
  have hle := Env.le_addS (s := c.size) h.freshS
  have hsz : (w.alloc (.cells c T)).heap.size = w.heap.size + 1 := by simp
  refine ⟨⟨fun b o hb => ?_, fun b s hb => ?_, fun b cells hb => ?_, fun b k hk => by have := h.kd b k hk; omega⟩, ⟨hle, by simp, fun b hb hn => heap_push w _ b (by omega), fun b hb => ?_, fun b hb => .inl hb, rfl, rfl, fun b hb => ⟨by simp only [Env.addS]; rw [if_neg (by omega)], rfl⟩⟩⟩
  · have := h.frz b o hb
    rw [heap_push w _ b (by have := lt_of_some this; omega)]; exact this
  · simp only [Env.addS] at hb
    split at hb
    · rename_i hbe; subst hbe; cases hb
      exact ⟨c, T, _, heap_push_new w _, rfl⟩
    · obtain ⟨c', T', fr, h1, h2⟩ := h.siz b s hb
      exact ⟨c', T', fr, by rw [heap_push w _ b (by assumption)]; exact h1, h2⟩
  · simp only [Heap.put] at hb
    split at hb
    · rename_i hbe; subst hbe; cases hb
      exact ⟨h.freshF, by omega, fun _ _ => ⟨c, T, heap_push_new w _, hc.mono hle⟩, fun k hk => by rw [show (E.addS w.heap.size c.size).I = E.I from rfl, h.freshI] at hk; cases hk⟩
    · rename_i hne
      obtain ⟨h1, h2, h3, h4⟩ := h.own b cells hb
      refine ⟨h1, by omega, fun s hs => ?_, fun k hk => ?_⟩
      · simp only [Env.addS, if_neg hne] at hs
        obtain ⟨c', T', g1, g2⟩ := h3 s hs
        exact ⟨c', T', by rw [heap_push w _ b hne]; exact g1, g2.mono hle⟩
      · rw [heap_push w _ b hne]; exact (h4 k hk).mono hle
  · simp only [Heap.put, ne_eq] at hb
    split at hb
    · right; omega
    · exact .inl hb

/-- A new block that is frozen at once. -/
theorem St.allocImm {E : Env} {H : Heap} {w : World} (h : St E H w) (c : Array Value) (T : TypeId) (fr : Nat × Nat := (0, 0)) :
    St (E.addF w.heap.size (.cells c T fr)) H (w.alloc (.cells c T fr)) ∧ Ext E H w (E.addF w.heap.size (.cells c T fr)) H (w.alloc (.cells c T fr)) ∧ (E.addF w.heap.size (.cells c T fr)).F w.heap.size = some (.cells c T fr) := by
  have hle := Env.le_addF (o := .cells c T fr) h.freshF
  have hsz : (w.alloc (.cells c T fr)).heap.size = w.heap.size + 1 := by simp
  refine ⟨⟨fun b o hb => ?_, fun b s hb => ?_, fun b cells hb => ?_, fun b k hk => by have := h.kd b k hk; omega⟩, ⟨hle, by simp, fun b hb hn => heap_push w _ b (by omega), fun b hb => .inl hb, fun b hb => ?_, rfl, rfl, fun _ _ => ⟨rfl, rfl⟩⟩, by simp [Env.addF]⟩
  · simp only [Env.addF] at hb
    split at hb
    · rename_i hbe; subst hbe; cases hb
      exact heap_push_new w _
    · have := h.frz b o hb
      rw [heap_push w _ b (by assumption)]; exact this
  · obtain ⟨c', T', fr, h1, h2⟩ := h.siz b s hb
    exact ⟨c', T', fr, by rw [heap_push w _ b (by have := lt_of_some h1; omega)]; exact h1, h2⟩
  · obtain ⟨h1, h2, h3, h4⟩ := h.own b cells hb
    have hne : b ≠ w.heap.size := by omega
    refine ⟨by simp only [Env.addF, hne, if_false]; exact h1, by omega, fun s hs => ?_, fun k hk => ?_⟩
    · obtain ⟨c', T', g1, g2⟩ := h3 s hs
      exact ⟨c', T', by rw [heap_push w _ b hne]; exact g1, g2.mono hle⟩
    · rw [heap_push w _ b hne]; exact (h4 k hk).mono hle
  · simp only [Env.addF, ne_eq] at hb
    split at hb
    · right; right; omega
    · exact .inl hb

/-- One's own block is written. -/
theorem St.write {E : Env} {H : Heap} {w : World} (h : St E H w) {b sz : Nat} (hsb : E.S b = some sz) {cells cs : List AV} (hb : H b = some cells) {c c' : Array Value} {T : TypeId} (hc : w.heap[b]? = some (.cells c T (0, 0)))
    {w' : World} (hget : ∀ i, i ≠ b → w'.heap[i]? = w.heap[i]?) (hgetb : w'.heap[b]? = some (.cells c' T (0, 0))) (hsz : w'.heap.size = w.heap.size)
    (hs : c'.size = c.size) (hat : CellsAt E c' 0 cs) (hos : w'.os = w.os) (hout : w'.output = w.output) : St E (H.put b cs) w' ∧ Ext E H w E (H.put b cs) w' := by
  have hF := (h.own b cells hb).1
  have hI := h.noKd hb hsb
  refine ⟨⟨fun x o hx => ?_, fun x s hx => ?_, fun x cells' hx => ?_, fun x k hk => by rw [hsz]; exact h.kd x k hk⟩, ⟨Env.le_refl E, by omega, fun x hx hn => ?_, fun x hx => ?_, fun x hx => .inl hx, hos, hout, fun _ _ => ⟨rfl, rfl⟩⟩⟩
  · have hne : x ≠ b := fun e => by subst e; rw [hF] at hx; cases hx
    rw [hget x hne]; exact h.frz x o hx
  · obtain ⟨c0, T0, fr, h1, h2⟩ := h.siz x s hx
    by_cases hxb : x = b
    · subst hxb
      rw [hc] at h1; cases h1
      exact ⟨c', T, _, hgetb, by omega⟩
    · exact ⟨c0, T0, fr, by rw [hget x hxb]; exact h1, h2⟩
  · simp only [Heap.put] at hx
    split at hx
    · rename_i hxb; subst hxb; cases hx
      exact ⟨hF, by rw [hsz]; exact h.lt hb, fun _ _ => ⟨c', T, hgetb, hat⟩, fun k hk => by rw [hI] at hk; cases hk⟩
    · rename_i hxb
      obtain ⟨h1, h2, h3, h4⟩ := h.own x cells' hx
      exact ⟨h1, by rw [hsz]; exact h2, fun s hs => by rw [hget x hxb]; exact h3 s hs, fun k hk => by rw [hget x hxb]; exact h4 k hk⟩
  · have hne : x ≠ b := fun e => by subst e; rw [hb] at hn; cases hn
    exact hget x hne
  · simp only [Heap.put, ne_eq] at hx
    split at hx
    · rename_i hxb; subst hxb; left; rw [hb]; simp
    · exact .inl hx

/-- A new block of another kind. -/
theorem St.allocKd {E : Env} {H : Heap} {w : World} (h : St E H w) {k : Kd} {cs : List AV} {o : Obj} (hk : KdAt E k cs (some o)) :
    St (E.addI w.heap.size k) (H.put w.heap.size cs) (w.alloc o) ∧ Ext E H w (E.addI w.heap.size k) (H.put w.heap.size cs) (w.alloc o) := by
  have hle := Env.le_addI (k := k) h.freshI
  have hsz : (w.alloc o).heap.size = w.heap.size + 1 := by simp
  refine ⟨⟨fun b o' hb => ?_, fun b s hb => ?_, fun b cells hb => ?_, fun b k' hk' => ?_⟩, ⟨hle, by simp, fun b hb hn => heap_push w _ b (by omega), fun b hb => ?_, fun b hb => .inl hb, rfl, rfl, fun b hb => ⟨rfl, by simp only [Env.addI]; rw [if_neg (by omega)]⟩⟩⟩
  · have := h.frz b o' hb
    rw [heap_push w _ b (by have := lt_of_some this; omega)]; exact this
  · obtain ⟨c', T', fr, h1, h2⟩ := h.siz b s hb
    exact ⟨c', T', fr, by rw [heap_push w _ b (by have := lt_of_some h1; omega)]; exact h1, h2⟩
  · simp only [Heap.put] at hb
    split at hb
    · rename_i hbe; subst hbe; cases hb
      refine ⟨h.freshF, by omega, fun s hs => ?_, fun k' hk' => ?_⟩
      · rw [show (E.addI w.heap.size k).S = E.S from rfl, h.freshS] at hs; cases hs
      · simp only [Env.addI, if_true] at hk'
        cases hk'
        rw [heap_push_new]; exact hk.mono hle
    · rename_i hne
      obtain ⟨h1, h2, h3, h4⟩ := h.own b cells hb
      refine ⟨h1, by omega, fun s hs => ?_, fun k' hk' => ?_⟩
      · obtain ⟨c', T', g1, g2⟩ := h3 s hs
        exact ⟨c', T', by rw [heap_push w _ b hne]; exact g1, g2.mono hle⟩
      · simp only [Env.addI, if_neg hne] at hk'
        rw [heap_push w _ b hne]; exact (h4 k' hk').mono hle
  · simp only [Env.addI] at hk'
    split at hk'
    · omega
    · have := h.kd b k' hk'; omega
  · simp only [Heap.put, ne_eq] at hb
    split at hb
    · right; omega
    · exact .inl hb
/-- A block of another kind is changed. -/
theorem St.writeKd {E : Env} {H : Heap} {w : World} (h : St E H w) {b : Nat} {k : Kd} (hkb : E.I b = some k) {cells cs : List AV} (hb : H b = some cells) {o : Obj} (hk : KdAt E k cs (some o)) :
    St E (H.put b cs) { w with heap := w.heap.setIfInBounds b o } ∧ Ext E H w E (H.put b cs) { w with heap := w.heap.setIfInBounds b o } := by
  obtain ⟨hF, hlt, h3, h4⟩ := h.own b cells hb
  have hS : E.S b = none := by
    cases hs : E.S b with
    | none => rfl
    | some s => rw [h.noKd hb hs] at hkb; cases hkb
  have hget : ∀ i, i ≠ b → (w.heap.setIfInBounds b o)[i]? = w.heap[i]? := fun i hi => Array.getElem?_setIfInBounds_ne (Ne.symm hi)
  have hgetb : (w.heap.setIfInBounds b o)[b]? = some o := by simp [hlt]
  refine ⟨⟨fun x o' hx => ?_, fun x s hx => ?_, fun x cells' hx => ?_, fun x k' hk' => by simpa using h.kd x k' hk'⟩, ⟨Env.le_refl E, by simp, fun x hx hn => ?_, fun x hx => ?_, fun x hx => .inl hx, rfl, rfl, fun _ _ => ⟨rfl, rfl⟩⟩⟩
  · have hne : x ≠ b := fun e => by subst e; rw [hF] at hx; cases hx
    rw [hget x hne]; exact h.frz x o' hx
  · have hne : x ≠ b := fun e => by subst e; rw [hS] at hx; cases hx
    obtain ⟨c0, T0, fr, h1, h2⟩ := h.siz x s hx
    exact ⟨c0, T0, fr, by rw [hget x hne]; exact h1, h2⟩
  · simp only [Heap.put] at hx
    split at hx
    · rename_i hxb; subst hxb; cases hx
      refine ⟨hF, by simpa using hlt, fun s hs => (by rw [hS] at hs; cases hs), fun k' hk' => ?_⟩
      rw [hkb] at hk'; cases hk'
      rw [hgetb]; exact hk
    · rename_i hxb
      obtain ⟨g1, g2, g3, g4⟩ := h.own x cells' hx
      exact ⟨g1, by simpa using g2, fun s hs => by rw [hget x hxb]; exact g3 s hs, fun k' hk' => by rw [hget x hxb]; exact g4 k' hk'⟩
  · have hne : x ≠ b := fun e => by subst e; rw [hb] at hn; cases hn
    exact hget x hne
  · simp only [Heap.put, ne_eq] at hx
    split at hx
    · rename_i hxb; subst hxb; left; rw [hb]; simp
    · exact .inl hx

end Go.Av

/- What an operation gives, by abstract values. -/
namespace Go.Av

/-- A value without addresses, as it stands. -/
def avOf : Value → AV
  | .int k n => .int k n
  | .bool b => .bool b
  | .string s => .str s
  | .slice none 0 0 => .nils
  | .nilFunc => .nilf
  | .nilIface => .nili
  | _ => .any

theorem rep_avOf (E : Env) (v : Value) : Rep E (avOf v) v := by
  unfold avOf
  split <;> constructor

def avOfConst : Value → AV
  | .agg cs => .agg (cs.toList.map avOf)
  | v => avOf v

theorem repL_map_avOf (E : Env) (l : List Value) : RepL E (l.map avOf) l :=
  ⟨by simp, fun i h1 h2 => by simp only [List.getElem_map]; exact rep_avOf E _⟩

theorem RepL.fn {E : Env} {xs : List AV} {cs : Array Value} (h : RepL E xs cs.toList) :
    ∃ vs : Nat → Value, cs.size = xs.length ∧ (∀ i, i < xs.length → cs[i]? = some (vs i)) ∧ (∀ i (h : i < xs.length), Rep E xs[i] (vs i)) := by
  obtain ⟨vs, h1, h2⟩ := h.cellsAt.fn
  exact ⟨vs, by have := h.1; simpa using this.symm, fun i hi => by simpa using h1 i hi, h2⟩

theorem Rep.aggL {E : Env} {xs : List AV} {cs : Array Value} (h : RepL E xs cs.toList) : Rep E (.agg xs) (.agg cs) := by
  obtain ⟨vs, h0, h1, h2⟩ := h.fn
  exact .agg xs cs vs h0 h1 h2

theorem rep_avOfConst (E : Env) (v : Value) : Rep E (avOfConst v) v := by
  unfold avOfConst
  split
  · exact Rep.aggL (repL_map_avOf E _)
  · exact rep_avOf E v

/-- The frame's slots. -/
abbrev Slots := Nat → AV
def Slots.put (N : Nat) (T : Slots) (d : Option Tmp) (v : AV) : Slots := match d with
  | none => T
  | some d => if d < N then fun x => if x = d then v else T x else T

def evalA (P : Program) (T : Slots) : Operand → AV
  | .tmp t => T t
  | .const v => avOfConst v
  | .func f => .fn f []
  | .global g => match globs P g with
    | some cells => .iptr cells
    | none => .any

structure RepT (P : Program) (N : Nat) (E : Env) (T : Slots) (tmps : Array Value) : Prop where
  size : tmps.size = N
  rep : ∀ t, Rep E (T t) (tmps.getD t undef)
  glb : Glb P E

theorem RepT.mono {P : Program} {N : Nat} {E E' : Env} (he : E.le E') {T : Slots} {tmps : Array Value} (h : RepT P N E T tmps) : RepT P N E' T tmps := ⟨h.size, fun t => (h.rep t).mono he, h.glb.mono he⟩

theorem RepT.eval {P : Program} {N : Nat} {E : Env} {T : Slots} {a : Act} (h : RepT P N E T a.tmps) (x : Operand) : Rep E (evalA P T x) (a.eval x) := by
  cases x with
  | tmp t => exact h.rep t
  | const v => exact rep_avOfConst E v
  | global g =>
    simp only [evalA]
    split
    · rename_i cells hc; exact h.glb g cells hc
    · exact .any _
  | func f => exact .fn f [] #[] (fun _ => undef) rfl (fun i h => by simp at h) (fun i h => by simp at h)

theorem RepT.put {P : Program} {N : Nat} {E : Env} {T : Slots} {a : Act} (h : RepT P N E T a.tmps) {v : AV} {u : Value} (hv : Rep E v u) (d : Option Tmp) :
    RepT P N E (T.put N d v) (a.put d u).tmps := by
  cases d with
  | none => exact h
  | some d =>
    refine ⟨by simp [Act.put, h.size], fun t => ?_, h.glb⟩
    simp only [Slots.put, Act.put]
    by_cases hd : d < N
    · simp only [hd, if_true]
      by_cases ht : t = d
      · subst ht; simpa [h.size, hd] using hv
      · simp only [ht, if_false]
        have := h.rep t
        rw [show ((a.tmps.setIfInBounds d u).getD t undef) = a.tmps.getD t undef by simp [Array.getElem?_setIfInBounds_ne (Ne.symm ht)]]
        exact this
    · simp only [hd, if_false]
      have := h.rep t
      rw [show a.tmps.setIfInBounds d u = a.tmps from Array.setIfInBounds_eq_of_size_le (by have := h.size; have hd2 : ¬ @LT.lt Nat _ d N := hd; omega)]
      exact this

def isScalar : AV → Bool
  | .agg _ | .any | .tup _ => false
  | _ => true

theorem Rep.scalar {E : Env} {x : AV} {v : Value} (h : Rep E x v) (hs : isScalar x = true) : v.oneCell' = true ∧ v.cells = #[v] := by
  cases h <;> simp [isScalar] at hs <;> simp [Value.oneCell', Value.cells]

/-- The cells of a value. -/
def cellsOf? : AV → Option (List AV)
  | .agg cells => some cells
  | .any => none
  | .tup _ => none
  | v => some [v]

theorem RepL.of_fn {E : Env} {xs : List AV} {cs : Array Value} {vs : Nat → Value} (h0 : cs.size = xs.length) (h1 : ∀ i, i < xs.length → cs[i]? = some (vs i))
    (h2 : ∀ i (h : i < xs.length), Rep E xs[i] (vs i)) : RepL E xs cs.toList :=
  CellsAt.repL (c := cs) (fun i hi => ⟨vs i, by simpa using h1 i hi, h2 i hi⟩) h0

theorem cellsOf?_rep {E : Env} {x : AV} {v : Value} {cs : List AV} (h : Rep E x v) (hc : cellsOf? x = some cs) : RepL E cs v.cells.toList := by
  cases h <;> simp only [cellsOf?, Option.some.injEq, reduceCtorEq] at hc
  case agg cells cs' vs h0 h1 h2 => subst hc; exact RepL.of_fn h0 h1 h2
  all_goals
    subst hc
    refine RepL.cons ?_ (RepL.nil E)
    first | exact .int _ _ | exact .bool _ | exact .str _ | exact .nils | exact .immE _ _ _ (by assumption) | exact .imm _ _ _ _ _ _ _ _ _ _ (by assumption) (by assumption) (by assumption) (by assumption) (by assumption) | exact .ref _ _ _ _ _ _ _ (by assumption) (by assumption) (by assumption) (by assumption) | exact .iptr _ _ _ _ _ _ _ (by assumption) (by assumption) (by assumption) | exact .ptr _ _ _ (by assumption) | exact .iter _ _ (by assumption) | exact .mapv _ (by assumption) | exact .fn _ _ _ _ (by assumption) (by assumption) (by assumption) | exact .nilf | exact .nili | exact .ifc _ _ _ (by assumption) | exact .sub _ _ _ _ _ (by assumption)

theorem Rep.cells {E : Env} {cells : List AV} {v : Value} (h : Rep E (.agg cells) v) : ∃ cs, v = .agg cs ∧ RepL E cells cs.toList := by
  cases h with | agg _ cs vs h0 h1 h2 => exact ⟨cs, rfl, RepL.of_fn h0 h1 h2⟩
theorem Rep.tupL {E : Env} {cells : List AV} {v : Value} (h : Rep E (.tup cells) v) : ∃ cs, v = .tuple cs ∧ RepL E cells cs.toList := by
  cases h with | tup _ cs vs h0 h1 h2 => exact ⟨cs, rfl, RepL.of_fn h0 h1 h2⟩
theorem Rep.mkTup {E : Env} {xs : List AV} {cs : Array Value} (h : RepL E xs cs.toList) : Rep E (.tup xs) (.tuple cs) := by
  obtain ⟨vs, h0, h1, h2⟩ := h.fn
  exact .tup xs cs vs h0 h1 h2
theorem Rep.fnL {E : Env} {f : FuncId} {cells : List AV} {v : Value} (h : Rep E (.fn f cells) v) : ∃ cs, v = .func (.func f) #[] cs ∧ RepL E cells cs.toList := by
  cases h with | fn _ _ cs vs h0 h1 h2 => exact ⟨cs, rfl, RepL.of_fn h0 h1 h2⟩
theorem Rep.mkFn {E : Env} {f : FuncId} {xs : List AV} {cs : Array Value} (h : RepL E xs cs.toList) : Rep E (.fn f xs) (.func (.func f) #[] cs) := by
  obtain ⟨vs, h0, h1, h2⟩ := h.fn
  exact .fn f xs cs vs h0 h1 h2

/- the operations -/

def pickF (c a b : AV) : Option AV := match c with
  | .bool t => some (if t then a else b)
  | _ => none

/-- The cells from where a pointer points. -/
def cellsAt? (a : AV) (H : Heap) : Option (List AV) := match a with
  | .iptr cells => some cells
  | .ptr b off => (H b).map (·.drop off)
  | _ => none

def load1 (a : AV) (H : Heap) : Option AV := (cellsAt? a H).bind fun c => c[0]?
def loadN (n : Nat) (a : AV) (H : Heap) : Option AV := (cellsAt? a H).bind fun c => if n ≤ c.length then some (.agg (c.take n)) else none

def isAggD : TypeDesc → Bool
  | .struct _ | .array _ _ => true
  | _ => false

def loadF (P : Program) (t : TypeId) (a : AV) (H : Heap) : Option AV := match P.underlying t with
  | some d => if isAggD d then (match P.info? t with | some i => loadN i.size a H | none => none) else load1 a H
  | none => none

def faddr (off : Nat) (a : AV) : Option AV := match a with
  | .iptr cells => some (.iptr (cells.drop off))
  | .ptr b o => some (.ptr b (o + off))
  | _ => none

def faddrF (P : Program) (t : TypeId) (x : AV) (f : Nat) : Option AV := match P.underlying t with
  | some (.struct fs) => match fs[f]? with
    | some fd => match P.info? fd.type with
      | some i => if i.size = 0 then none else faddr fd.offset x
      | none => none
    | none => none
  | _ => none

def idx (sz : Nat) (x i : AV) : Option AV := match x, i with
  | .imm n _ cells, .int _ j => if 0 ≤ j ∧ j < n then some (.iptr (cells.drop (j.toNat * sz))) else none
  | .ref _ b off n _, .int _ j => if 0 ≤ j ∧ j < n then some (.ptr b (off + j.toNat * sz)) else none
  | .sub b off n, .int _ j => if 0 ≤ j ∧ j < n then some (.ptr b (off + j.toNat * sz)) else none
  | _, _ => none

def idxArr (len sz : Nat) (x i : AV) : Option AV := match x, i with
  | .iptr cells, .int _ j => if 0 ≤ j ∧ j < len then some (.iptr (cells.drop (j.toNat * sz))) else none
  | .ptr b off, .int _ j => if 0 ≤ j ∧ j < len then some (.ptr b (off + j.toNat * sz)) else none
  | _, _ => none

def idxF (P : Program) (t : TypeId) (x i : AV) : Option AV := match P.underlying t with
  | some (.slice e) => match P.info? e with | some inf => idx inf.size x i | none => none
  | some (.array len e) => match P.info? e with | some inf => idxArr len inf.size x i | none => none
  | _ => none

/-- A part of an aggregate. -/
def partF (P : Program) (t : TypeId) (cs : List AV) (off : Nat) : Option AV := match P.underlying t with
  | some d => if isAggD d then (match P.info? t with | some i => if off + i.size ≤ cs.length then some (.agg ((cs.drop off).take i.size)) else none | none => none) else cs[off]?
  | none => none

def fieldF (P : Program) (t : TypeId) (x : AV) (f : Nat) : Option AV := match P.underlying t, x with
  | some (.struct fs), .agg cs => match fs[f]? with
    | some fd => partF P fd.type cs fd.offset
    | none => none
  | _, _ => none

def indexF (P : Program) (t : TypeId) (x i : AV) : Option AV := match P.underlying t, x, i with
  | some (.array len e), .agg cs, .int _ j => match P.info? e with
    | some inf => if 0 ≤ j ∧ j < len then partF P e cs (j.toNat * inf.size) else none
    | none => none
  | some .string, .str s, .int _ j => if 0 ≤ j then (s[j.toNat]?).map fun b => .int .u8 b.toNat else none
  | _, _, _ => none

def natOf (x : Option AV) (d : Nat) : Option Nat := match x with
  | none => some d
  | some (.int _ j) => if 0 ≤ j then some j.toNat else none
  | _ => none

/-- 'x[lo:hi:max]', where it keeps within the length. -/
def slc (sz : Nat) (x : AV) (lo hi mx : Option AV) : Option AV := match x with
  | .imm n full cells =>
    (natOf lo 0).bind fun l => (natOf hi n).bind fun h => match mx with
      | none => if l ≤ h ∧ h ≤ n then some (.imm (h - l) (full && h == n) ((cells.drop (l * sz)).take ((h - l) * sz))) else none
      | some m => (natOf (some m) n).bind fun m => if l ≤ h ∧ h ≤ m ∧ m ≤ n then some (.imm (h - l) (h == m) ((cells.drop (l * sz)).take ((h - l) * sz))) else none
  | .ref s b off n cp =>
    (natOf lo 0).bind fun l => (natOf hi n).bind fun h => match mx with
      | none => if s = sz ∧ l ≤ h ∧ h ≤ n ∧ (l = 0 ∨ l < h) then some (.ref s b (off + l * sz) (h - l) (cp.map (· - l))) else if l = h ∧ h ≤ n then some (.imm 0 false []) else none
      | some m => (natOf (some m) n).bind fun m => if s = sz ∧ l ≤ h ∧ h ≤ m ∧ m ≤ n ∧ (l = 0 ∨ l < h) then some (.ref s b (off + l * sz) (h - l) (some (m - l))) else none
  | .nils => (natOf lo 0).bind fun l => (natOf hi 0).bind fun h => match mx with
      | none => if l = 0 ∧ h = 0 then some .nils else none
      | some m => (natOf (some m) 0).bind fun m => if l = 0 ∧ h = 0 ∧ m = 0 then some .nils else none
  | _ => none

/-- The same of an array behind a pointer to frozen memory. -/
def slcArr (len sz : Nat) (x : AV) (lo hi mx : Option AV) : Option AV := match x, mx with
  | .iptr cells, none => (natOf lo 0).bind fun l => (natOf hi len).bind fun h =>
      if l ≤ h ∧ h ≤ len then some (.imm (h - l) (h == len) ((cells.drop (l * sz)).take ((h - l) * sz))) else none
  | .ptr b off, none => (natOf lo 0).bind fun l => (natOf hi len).bind fun h =>
      if l < h ∧ h ≤ len then some (.sub b (off + l * sz) (h - l)) else none
  | _, _ => none

/-- A part of a string. -/
def slcS (x : AV) (lo hi mx : Option AV) : Option AV := match x, mx with
  | .str s, none => (natOf lo 0).bind fun l => (natOf hi s.size).bind fun h => if l ≤ h ∧ h ≤ s.size then some (.str (s.extract l h)) else none
  | _, _ => none
def sliceF (P : Program) (t : TypeId) (x : AV) (lo hi mx : Option AV) : Option AV := match P.underlying t with
  | some .string => slcS x lo hi mx
  | some (.slice e) => match P.info? e with | some inf => slc inf.size x lo hi mx | none => none
  | some (.array len e) => match P.info? e with | some inf => slcArr len inf.size x lo hi mx | none => none
  | _ => none

def splice (cells : List AV) (off : Nat) (cs : List AV) : List AV := cells.take off ++ cs ++ cells.drop (off + cs.length)

def fillA (place : Nat → Option (Nat × Nat)) (cells : List AV) : List (Nat × AV) → Option (List AV)
  | [] => some cells
  | (i, v) :: rest => match place i, cellsOf? v with
    | some (off, size), some cs => if cs.length = size ∧ off + cs.length ≤ cells.length then fillA place (splice cells off cs) rest else none
    | _, _ => none

def zeroF (P : Program) (t : TypeId) : Option (List AV) := match P.info? t with
  | some i => match i.zero with | some v => some (v.cells.toList.map avOf) | none => none
  | none => none

def sizesOf (P : Program) : List Field → Option (List (Nat × Nat))
  | [] => some []
  | f :: fs => match P.info? f.type, sizesOf P fs with
    | some i, some r => some ((f.offset, i.size) :: r)
    | _, _ => none

def buildF (P : Program) (t : TypeId) (parts : List (Nat × AV)) : Option AV := match zeroF P t, P.underlying t with
  | some z, some (.struct fs) => match sizesOf P fs.toList with
    | some places => (fillA (places[·]?) z parts).map .agg
    | none => none
  | some z, some (.array _ e) => match P.info? e with
    | some inf => (fillA (fun i => some (i * inf.size, inf.size)) z parts).map .agg
    | none => none
  | _, _ => none

def rowOf (z : List AV) (n : Nat) : List AV := (List.range n).map fun i => z.getD (i % z.length) .any

/-- The cells of a slice that is written out. -/
def literalF (P : Program) (t : TypeId) (len : Nat) (parts : List (Nat × AV)) : Option (List AV) := match P.underlying t with
  | some (.slice e) => match P.info? e, zeroF P e with
    | some inf, some z => if len * inf.size > 2 ^ 24 ∨ z.length = 0 then none else fillA (fun i => some (i * inf.size, inf.size)) (rowOf z (len * inf.size)) parts
    | _, _ => none
  | _ => none

def eqInts : List AV → List AV → Option Bool
  | [], [] => some true
  | .int k a :: xs, .int k' b :: ys => if k = k' then (eqInts xs ys).map fun r => (a == b) && r else none
  | _, _ => none

/-- Are all fields numbers, one cell each, from a place on? -/
def fieldInts (P : Program) : List Field → Nat → Bool
  | [], _ => true
  | f :: fs, i => f.name != "_" && f.offset == i && (match P.underlying f.type with | some (.int _) => true | _ => false) && fieldInts P fs (i + 1)
def eqF (P : Program) (t : TypeId) (x y : AV) : Option Bool := match P.underlying t, x, y with
  | some .bool, .bool a, .bool b => some (a == b)
  | some (.slice _), .nils, .nils => some true
  | some (.slice _), .nils, .imm _ _ (_ :: _) => some false
  | some (.slice _), .imm _ _ (_ :: _), .nils => some false
  | some (.slice _), .nils, .ref .. => some false
  | some (.slice _), .ref .., .nils => some false
  | some (.array len e), .agg xs, .agg ys => match P.underlying e, P.info? e with
    | some (.int _), some inf => if inf.size = 1 ∧ xs.length = len ∧ ys.length = len ∧ P.eqGuardType P.depth t = false then eqInts xs ys else none
    | _, _ => none
  | some (.struct fs), .agg xs, .agg ys => if fieldInts P fs.toList 0 = true ∧ xs.length = fs.size ∧ ys.length = fs.size ∧ P.eqGuardType P.depth t = false ∧ P.stoodInHeld t = false then eqInts xs ys else none
  | _, _, _ => none

/-- Strings compared, or put together. -/
def binS (op : BinOp) (a b : ByteArray) : Option AV := match op with
  | .eql => some (.bool (a.toList == b.toList))
  | .neq => some (.bool !(a.toList == b.toList))
  | .add => if a.size + b.size ≤ 9223372036854775807 then some (.str (a ++ b)) else none
  | _ => none
def binF (P : Program) (op : BinOp) (t : TypeId) (x y : AV) : Option AV := match x, y with
  | .str a, .str b => binS op a b
  | .int k a, .int k' b => match op with
    | .shl => if b < 0 then none else some (.int k (k.wrap (a * 2 ^ min b.toNat k.bits)))
    | .shr => if b < 0 then none else some (.int k (a.fdiv (2 ^ min b.toNat k.bits)))
    | .add => if k = k' then some (.int k (k.wrap (a + b))) else none
    | .sub => if k = k' then some (.int k (k.wrap (a - b))) else none
    | .mul => if k = k' then some (.int k (k.wrap (a * b))) else none
    | .quo => if k = k' ∧ b ≠ 0 then some (.int k (k.wrap (a.tdiv b))) else none
    | .rem => if k = k' ∧ b ≠ 0 then some (.int k (a.tmod b)) else none
    | .and => if k = k' then some (.int k (k.wrap (BitVec.ofInt k.bits a &&& BitVec.ofInt k.bits b).toNat)) else none
    | .or => if k = k' then some (.int k (k.wrap (BitVec.ofInt k.bits a ||| BitVec.ofInt k.bits b).toNat)) else none
    | .xor => if k = k' then some (.int k (k.wrap (BitVec.ofInt k.bits a ^^^ BitVec.ofInt k.bits b).toNat)) else none
    | .andNot => if k = k' then some (.int k (k.wrap (BitVec.ofInt k.bits a &&& ~~~BitVec.ofInt k.bits b).toNat)) else none
    | .eql => if k = k' then some (.bool (a == b)) else none
    | .neq => if k = k' then some (.bool (a != b)) else none
    | .lss => if k = k' then some (.bool (a < b)) else none
    | .leq => if k = k' then some (.bool (a ≤ b)) else none
    | .gtr => if k = k' then some (.bool (a > b)) else none
    | .geq => if k = k' then some (.bool (a ≥ b)) else none
  | _, _ => match op with
    | .eql => (eqF P t x y).map .bool
    | .neq => (eqF P t x y).map fun r => .bool !r
    | _ => none

def unF (op : UnOp) (x : AV) : Option AV := match op, x with
  | .neg, .int k n => some (.int k (k.wrap (0 - n)))
  | .not, .bool b => some (.bool !b)
  | _, _ => none

def convF (P : Program) (src dst : TypeId) (x : AV) : Option AV := match P.underlying src, P.underlying dst, x with
  | some _, some (.int k), .int _ n => some (.int k (k.wrap n))
  | _, _, _ => none

def extrF (x : AV) (i : Nat) : Option AV := match x with
  | .tup cs => cs[i]?
  | _ => none

def lenA : AV → Option AV
  | .imm n _ _ => some (.int .i64 n)
  | .ref _ _ _ n _ => some (.int .i64 n)
  | .sub _ _ n => some (.int .i64 n)
  | .nils => some (.int .i64 0)
  | _ => none

def lenS : AV → Option AV
  | .str s => some (.int .i64 s.size)
  | _ => none
def lenF (P : Program) (t : TypeId) (x : AV) : Option AV := match P.underlying t with
  | some (.slice _) => lenA x
  | some (.array n _) => some (.int .i64 n)
  | some .string => lenS x
  | _ => none

def min2F : AV → AV → Option AV
  | .int k x, .int _ y => some (.int k (if y < x then y else x))
  | _, _ => none
def max2F : AV → AV → Option AV
  | .int k x, .int _ y => some (.int k (if y > x then y else x))
  | _, _ => none

/-- A pointer that is not nil. -/
def nilF : AV → Option AV
  | .iptr cs => some (.iptr cs)
  | .ptr b o => some (.ptr b o)
  | _ => none

/-- A value in an interface; what lies in one. -/
def makeIfc (P : Program) (t : TypeId) (x : AV) : Option AV := match P.underlying t with
  | some (.interface _) => none
  | some _ => some (.ifc t x)
  | none => none
def zeroV (P : Program) (t : TypeId) : Option AV := match P.info? t with
  | some i => match i.zero with
    | some (.agg cs) => some (.agg (cs.toList.map avOf))
    | _ => none
  | none => none
def assertF (P : Program) (x : AV) (t : TypeId) (ok : Bool) : Option AV := match P.underlying t with
  | some (.interface _) => none
  | some _ => match x with
    | .ifc t' v => if t' = t then some (if ok then .tup [v, .bool true] else v) else if ok then (zeroV P t).map fun z => .tup [z, .bool false] else none
    | .nili => if ok then (zeroV P t).map fun z => .tup [z, .bool false] else none
    | _ => none
  | none => none

/-- The operations that change nothing, and what they give. -/
def pureF (P : Program) (op : Op) (ρ : Operand → AV) (H : Heap) : Option AV := match op with
  | .move x | .assign x => some (ρ x)
  | .pick c a b => pickF (ρ c) (ρ a) (ρ b)
  | .build t parts => buildF P t (parts.toList.map fun p => (p.1, ρ p.2))
  | .load t a => loadF P t (ρ a) H
  | .binOp op t x y _ => binF P op t (ρ x) (ρ y)
  | .unOp op _ x => unF op (ρ x)
  | .convert s d x => convF P s d (ρ x)
  | .makeFunc fn first captured => match fn, first.toList with | .func f, [] => some (.fn f (captured.toList.map ρ)) | _, _ => none
  | .slice t x lo hi mx => if mx.isNone || hi.isSome then sliceF P t (ρ x) (lo.map ρ) (hi.map ρ) (mx.map ρ) else none
  | .fieldAddr t x f => faddrF P t (ρ x) f
  | .field t x f => fieldF P t (ρ x) f
  | .indexAddr t x i => idxF P t (ρ x) (ρ i)
  | .index t x i => indexF P t (ρ x) (ρ i)
  | .extract x i => extrF (ρ x) i
  | .nilCheck x => nilF (ρ x)
  | .makeInterface t x => makeIfc P t (ρ x)
  | .typeAssert x _ t ok => assertF P (ρ x) t ok
  | .call c => match c.callee, c.args.toList, c.argTypes.toList with
    | .builtin .len, [x], [t] => lenF P t (ρ x)
    | .builtin .min, [x, y], _ => min2F (ρ x) (ρ y)
    | .builtin .max, [x, y], _ => max2F (ρ x) (ρ y)
    | _, _, _ => none
  | _ => none

end Go.Av

/- The operations that change nothing run as they are told. -/
namespace Go.Av
variable {P : Program}

theorem run_info {t : TypeId} {i : TypeInfo} (h : P.info? t = some i) (w : World) : (typeInfo t).run P w = .ok i w := by
  simp [typeInfo, h]
theorem run_sizeOf {t : TypeId} {i : TypeInfo} (h : P.info? t = some i) (w : World) : (sizeOf t).run P w = .ok i.size w := by
  simp [sizeOf, run_info h]
theorem run_isAgg {t : TypeId} {d : TypeDesc} (h : P.underlying t = some d) (w : World) : (isAgg t).run P w = .ok (isAggD d) w := by
  unfold isAgg
  rw [Sem.run_bind, run_underlying h w]
  cases d <;> rfl
theorem run_zeroValue {t : TypeId} {i : TypeInfo} {v : Value} (h : P.info? t = some i) (hz : i.zero = some v) (w : World) : (zeroValue t).run P w = .ok v w := by
  simp [zeroValue, run_info h, hz]

theorem addr_add (b off n : Nat) : (⟨b, off, none⟩ : Addr).add n = ⟨b, off + n, none⟩ := by
  unfold Addr.add; split <;> simp_all

theorem cell_at {w : World} {b : Nat} {c : Array Value} {T : TypeId} {fr : Nat × Nat} (h : w.heap[b]? = some (.cells c T fr)) (i : Nat) :
    w.cell? ⟨b, i, none⟩ = c[i]? := by simp [World.cell?, h]

theorem cellsAt?_spec {E : Env} {H : Heap} {w : World} (hs : St E H w) {x : AV} {u : Value} (hx : Rep E x u) {cells : List AV} (hc : cellsAt? x H = some cells) :
    ∃ b off c T fr, u = .pointer (some ⟨b, off, none⟩) ∧ w.heap[b]? = some (.cells c T fr) ∧ CellsAt E c off cells := by
  cases hx <;> simp only [cellsAt?, Option.some.injEq, reduceCtorEq, Option.map_eq_some_iff] at hc
  case iptr cells' b off c T fr vs h1 h2 h3 =>
    subst hc
    exact ⟨b, off, c, T, fr, rfl, hs.frz _ _ h1, .of h2 h3⟩
  case ptr b off sz hsz =>
    obtain ⟨cells0, h1, rfl⟩ := hc
    obtain ⟨_, c, T, h2, h3⟩ := hs.cells h1 hsz
    exact ⟨b, off, c, T, (0, 0), rfl, h2, by simpa using h3.drop off⟩

theorem run_loadCells_at {E : Env} {w : World} {b off : Nat} {c : Array Value} {T : TypeId} {fr : Nat × Nat} (hb : w.heap[b]? = some (.cells c T fr))
    {cells : List AV} (hc : CellsAt E c off cells) {n : Nat} (hn : n ≤ cells.length) :
    ∃ vs : List Value, (loadCells ⟨b, off, none⟩ n).run P w = .ok vs.toArray w ∧ RepL E (cells.take n) vs ∧ (∀ j v, vs[j]? = some v → w.cell? ((⟨b, off, none⟩ : Addr).add j) = some v) := by
  obtain ⟨f, h1, h2⟩ := (hc.take n).fn
  have hl : (cells.take n).length = n := by simp; omega
  rw [hl] at h1
  refine ⟨(List.range n).map f, ?_, ?_, ?_⟩
  · refine run_loadCells w _ n f fun j hj => ?_
    rw [addr_add, cell_at hb]
    exact h1 j hj
  · refine ⟨by simp; omega, fun i hi hi' => ?_⟩
    have := h2 i hi
    simpa using this
  · intro j v hj
    have hjn : j < n := by
      rcases Nat.lt_or_ge j n with h | h
      · exact h
      · rw [List.getElem?_eq_none (by simp; omega)] at hj; cases hj
    simp [hjn] at hj
    subst hj
    rw [addr_add, cell_at hb]
    exact h1 j hjn

theorem loadF_sound {E : Env} {H : Heap} {w : World} (hs : St E H w) {t : TypeId} {x v : AV} {u : Value} (hx : Rep E x u) (h : loadF P t x H = some v) :
    ∃ r, (Instr.loadAt t u).run P w = .ok r w ∧ Rep E v r := by
  unfold loadF at h
  split at h
  · rename_i d hd
    split at h
    · rename_i hagg
      split at h
      · rename_i i hi
        simp only [loadN, Option.bind_eq_some_iff] at h
        obtain ⟨cells, hc, h⟩ := h
        split at h
        · rename_i hn
          cases h
          obtain ⟨b, off, c, T, fr, rfl, hb, hat⟩ := cellsAt?_spec hs hx hc
          obtain ⟨vs, h1, h2, _⟩ := run_loadCells_at (P := P) hb hat hn
          refine ⟨.agg vs.toArray, ?_, Rep.aggL h2⟩
          simp [Instr.loadAt, Instr.sureAddr, loadVar, run_isAgg hd, hagg, run_sizeOf hi, h1]
        · cases h
      · cases h
    · rename_i hagg
      simp only [load1, Option.bind_eq_some_iff] at h
      obtain ⟨cells, hc, h⟩ := h
      obtain ⟨b, off, c, T, fr, rfl, hb, hat⟩ := cellsAt?_spec hs hx hc
      obtain ⟨hl, rfl⟩ := List.getElem?_eq_some_iff.1 h
      obtain ⟨r, h1, h2⟩ := hat 0 hl
      refine ⟨r, ?_, h2⟩
      have hcell : w.cell? ⟨b, off, none⟩ = some r := by rw [cell_at hb]; simpa using h1
      simp [Instr.loadAt, Instr.sureAddr, loadVar, run_isAgg hd, hagg, hcell]
  · cases h

theorem iptr_drop {E : Env} {cells : List AV} {u : Value} (h : Rep E (.iptr cells) u) (k : Nat) :
    ∃ b off, u = .pointer (some ⟨b, off, none⟩) ∧ Rep E (.iptr (cells.drop k)) (.pointer (some ⟨b, off + k, none⟩)) := by
  cases h with
  | iptr _ b off c T fr vs h1 h2 h3 =>
    refine ⟨b, off, rfl, ?_⟩
    obtain ⟨vs', h4, h5⟩ := ((CellsAt.of h2 h3).drop k).fn
    exact .iptr _ b (off + k) c T fr vs' h1 h4 h5

theorem faddrF_sound {E : Env} {w : World} {t : TypeId} {x v : AV} {u : Value} {f : Nat} (hx : Rep E x u) (h : faddrF P t x f = some v) :
    ∃ r, (Instr.fieldAt t u f).run P w = .ok r w ∧ Rep E v r := by
  unfold faddrF at h
  split at h <;> try cases h
  rename_i fs hu
  split at h <;> try cases h
  rename_i fd hf
  split at h <;> try cases h
  rename_i i hi
  split at h <;> try cases h
  rename_i hsz
  unfold faddr at h
  split at h <;> try cases h
  · rename_i cells
    obtain ⟨b, off, rfl, h2⟩ := iptr_drop hx fd.offset
    refine ⟨_, ?_, h2⟩
    simp [Instr.fieldAt, run_underlying hu, hf, Instr.sureAddr, fieldPlace, run_sizeOf hi, hsz, addr_add]
  · rename_i b o
    cases hx with | ptr _ _ sz hsz2 =>
    refine ⟨_, ?_, .ptr b (o + fd.offset) sz hsz2⟩
    simp [Instr.fieldAt, run_underlying hu, hf, Instr.sureAddr, fieldPlace, run_sizeOf hi, hsz, addr_add]

theorem idxF_sound {E : Env} {w : World} {t : TypeId} {x y v : AV} {u z : Value} (hx : Rep E x u) (hy : Rep E y z) (h : idxF P t x y = some v) :
    ∃ r, (Instr.indexAt t u z).run P w = .ok r w ∧ Rep E v r := by
  unfold idxF at h
  split at h <;> try cases h
  · rename_i e hu
    split at h <;> try cases h
    rename_i inf hi
    unfold idx at h
    split at h <;> try cases h
    · rename_i n full cells k j
      split at h <;> try cases h
      rename_i hj
      cases hy
      cases hx with
      | immE => omega
      | imm n full cells b off cap c T fr vs h1 h2 h3 h4 h5 =>
        obtain ⟨vs', h6, h7⟩ := ((CellsAt.of h4 h5).drop (j.toNat * inf.size)).fn
        refine ⟨_, ?_, .iptr _ b (off + j.toNat * inf.size) c T fr vs' h1 h6 h7⟩
        simp [Instr.indexAt, asIntOf, run_underlying hu, hj, run_sizeOf hi, addr_add]
    · rename_i sz b off n cp k j
      split at h <;> try cases h
      rename_i hj
      cases hy
      cases hx with | ref _ _ _ _ _ cap sB _ _ hS _ =>
      refine ⟨_, ?_, .ptr b (off + j.toNat * inf.size) sB hS⟩
      simp [Instr.indexAt, asIntOf, run_underlying hu, hj, run_sizeOf hi, addr_add]
    · rename_i b off n k j
      split at h <;> try cases h
      rename_i hj
      cases hy
      cases hx with | sub _ _ _ cap sB hS =>
      refine ⟨_, ?_, .ptr b (off + j.toNat * inf.size) sB hS⟩
      simp [Instr.indexAt, asIntOf, run_underlying hu, hj, run_sizeOf hi, addr_add]
  · rename_i len e hu
    split at h <;> try cases h
    rename_i inf hi
    unfold idxArr at h
    split at h <;> try cases h
    · rename_i cells k j
      split at h <;> try cases h
      rename_i hj
      cases hy
      obtain ⟨b, off, rfl, h2⟩ := iptr_drop hx (j.toNat * inf.size)
      refine ⟨_, ?_, h2⟩
      simp [Instr.indexAt, asIntOf, run_underlying hu, hj, run_sizeOf hi, addr_add, Instr.sureAddr]
    · rename_i b off k j
      split at h <;> try cases h
      rename_i hj
      cases hy
      cases hx with | ptr _ _ sB hS =>
      refine ⟨_, ?_, .ptr b (off + j.toNat * inf.size) sB hS⟩
      simp [Instr.indexAt, asIntOf, run_underlying hu, hj, run_sizeOf hi, addr_add, Instr.sureAddr]

theorem partF_sound {E : Env} {w : World} {t : TypeId} {cs : List AV} {vs : Array Value} (hr : RepL E cs vs.toList) {off : Nat} {v : AV} (h : partF P t cs off = some v) :
    ∃ r, (part t vs off).run P w = .ok r w ∧ Rep E v r := by
  have hat := hr.cellsAt
  have hsz : vs.size = cs.length := by have := hr.1; simpa using this.symm
  unfold partF at h
  split at h <;> try cases h
  rename_i d hd
  split at h
  · rename_i hagg
    split at h <;> try cases h
    rename_i i hi
    split at h <;> try cases h
    rename_i hle
    refine ⟨.agg (vs.extract off (off + i.size)), ?_, ?_⟩
    · simp [part, run_isAgg hd, hagg, run_sizeOf hi]
    · refine Rep.aggL ⟨by simp; omega, fun k h1 h2 => ?_⟩
      have hk : k < i.size := by simp at h1; omega
      have := hr.2 (off + k) (by omega) (by simp; omega)
      simpa using this
  · rename_i hagg
    obtain ⟨hl, rfl⟩ := List.getElem?_eq_some_iff.1 h
    have hl' : off < vs.size := by omega
    refine ⟨vs[off], ?_, ?_⟩
    · simp [part, run_isAgg hd, hagg, hl']
    · have := hr.2 off hl (by simpa using hl')
      simpa using this

theorem fieldF_sound {E : Env} {w : World} {t : TypeId} {x v : AV} {u : Value} {f : Nat} (hx : Rep E x u) (h : fieldF P t x f = some v) :
    ∃ r, (Instr.field t u f).run P w = .ok r w ∧ Rep E v r := by
  unfold fieldF at h
  split at h <;> try cases h
  rename_i fs cs hu
  split at h <;> try cases h
  rename_i fd hf
  obtain ⟨vs, rfl, hl⟩ := hx.cells
  obtain ⟨r, h1, h2⟩ := partF_sound (w := w) hl h
  exact ⟨r, by simp [Instr.field, run_underlying hu, hf, asAgg, h1], h2⟩

theorem indexF_sound {E : Env} {w : World} {t : TypeId} {x y v : AV} {u z : Value} (hx : Rep E x u) (hy : Rep E y z) (h : indexF P t x y = some v) :
    ∃ r, (Instr.index t u z).run P w = .ok r w ∧ Rep E v r := by
  unfold indexF at h
  split at h <;> try cases h
  · rename_i len e cs k j hu
    split at h <;> try cases h
    rename_i inf hi
    split at h <;> try cases h
    rename_i hj
    cases hy
    obtain ⟨vs, rfl, hl⟩ := hx.cells
    obtain ⟨r, h1, h2⟩ := partF_sound (w := w) hl h
    exact ⟨r, by simp [Instr.index, asIntOf, run_underlying hu, hj, run_sizeOf hi, h1], h2⟩
  · rename_i s k j hu
    split at h <;> try cases h
    rename_i hj
    cases hy
    cases hx
    rw [Option.map_eq_some_iff] at h
    obtain ⟨b, h1, rfl⟩ := h
    exact ⟨_, by simp [Instr.index, asIntOf, run_underlying hu, hj, h1], .int _ _⟩

end Go.Av

/- More operations: cuts of slices, aggregates, arithmetic. -/
namespace Go.Av
variable {P : Program}

theorem natOf_sound {E : Env} {w : World} {x : Option AV} {u : Option Value} {d n cap : Nat} {code : BoundsCode} (hx : ∀ a, x = some a → ∃ v, u = some v ∧ Rep E a v) (hn : x = none → u = none)
    (h : natOf x d = some n) (hle : n ≤ cap) :
    (match u with | some v => Instr.sliceBound v cap code | none => pure d).run P w = .ok n w := by
  cases x with
  | none =>
    rw [hn rfl]
    simp only [natOf, Option.some.injEq] at h
    subst h
    rfl
  | some a =>
    obtain ⟨v, rfl, hr⟩ := hx a rfl
    cases a <;> simp only [natOf, reduceCtorEq] at h
    rename_i k j
    split at h <;> try cases h
    rename_i hj
    cases hr
    have : (0 ≤ j ∧ j ≤ (cap : Int)) := ⟨hj, by omega⟩
    simp [Instr.sliceBound, asIntOf, this]

/-- 'option operands' -/
def RepO (E : Env) (x : Option AV) (u : Option Value) : Prop := match x, u with
  | none, none => True
  | some a, some v => Rep E a v
  | _, _ => False

theorem RepO.ofSome {E : Env} {x : Option AV} {u : Option Value} (h : RepO E x u) : ∀ a, x = some a → ∃ v, u = some v ∧ Rep E a v := by
  intro a ha; subst ha
  cases u with
  | none => exact h.elim
  | some v => exact ⟨v, rfl, h⟩
theorem RepO.ofNone {E : Env} {x : Option AV} {u : Option Value} (h : RepO E x u) : x = none → u = none := by
  intro hx; subst hx
  cases u with
  | none => rfl
  | some v => exact h.elim

theorem run_bounds {E : Env} {w : World} {lo hi mx : Option AV} {lo' hi' mx' : Option Value} (h1 : RepO E lo lo') (h2 : RepO E hi hi') (h3 : RepO E mx mx')
    {isS : Bool} {len cap l h m : Nat} (hl : natOf lo 0 = some l) (hh : natOf hi len = some h) (hm : natOf mx cap = some m) (hhi : mx ≠ none → hi ≠ none) (hlh : l ≤ h) (hhm : h ≤ m) (hmc : m ≤ cap) :
    (Instr.sliceBounds isS len cap lo' hi' mx').run P w = .ok (l, h, m) w := by
  unfold Instr.sliceBounds
  cases mx with
  | none =>
    have := h3.ofNone rfl; subst this
    simp only [natOf, Option.some.injEq] at hm
    subst hm
    cases hi with
    | none =>
      have := h2.ofNone rfl; subst this
      simp only [natOf, Option.some.injEq] at hh
      subst hh
      cases lo with
      | none =>
        have := h1.ofNone rfl; subst this
        simp only [natOf, Option.some.injEq] at hl
        subst hl
        simp
      | some a =>
        obtain ⟨v, rfl, hr⟩ := h1.ofSome a rfl
        have := natOf_sound (P := P) (w := w) (code := .sliceB) (u := some v) (fun a' ha => by cases ha; exact ⟨v, rfl, hr⟩) (fun h => by cases h) hl hlh
        simp only at this
        simp [this]
    | some b =>
      obtain ⟨vb, rfl, hrb⟩ := h2.ofSome b rfl
      have hb := natOf_sound (P := P) (w := w) (code := if isS then .sliceAcap else .sliceAlen) (u := some vb) (fun a' ha => by cases ha; exact ⟨vb, rfl, hrb⟩) (fun h => by cases h) hh hhm
      simp only at hb
      cases lo with
      | none =>
        have := h1.ofNone rfl; subst this
        simp only [natOf, Option.some.injEq] at hl
        subst hl
        simp [hb]
      | some a =>
        obtain ⟨v, rfl, hr⟩ := h1.ofSome a rfl
        have := natOf_sound (P := P) (w := w) (code := .sliceB) (u := some v) (fun a' ha => by cases ha; exact ⟨v, rfl, hr⟩) (fun h => by cases h) hl hlh
        simp only at this
        simp [hb, this]
  | some c =>
    obtain ⟨vc, rfl, hrc⟩ := h3.ofSome c rfl
    have hc := natOf_sound (P := P) (w := w) (code := if isS then .slice3Acap else .slice3Alen) (u := some vc) (fun a' ha => by cases ha; exact ⟨vc, rfl, hrc⟩) (fun h => by cases h) hm hmc
    simp only at hc
    cases hi with
    | none => exact absurd rfl (hhi (by simp))
    | some b =>
      obtain ⟨vb, rfl, hrb⟩ := h2.ofSome b rfl
      have hb := natOf_sound (P := P) (w := w) (code := .slice3B) (u := some vb) (fun a' ha => by cases ha; exact ⟨vb, rfl, hrb⟩) (fun h => by cases h) hh hhm
      simp only at hb
      cases lo with
      | none =>
        have := h1.ofNone rfl; subst this
        simp only [natOf, Option.some.injEq] at hl
        subst hl
        simp [hb, hc]
      | some a =>
        obtain ⟨v, rfl, hr⟩ := h1.ofSome a rfl
        have := natOf_sound (P := P) (w := w) (code := .slice3C) (u := some v) (fun a' ha => by cases ha; exact ⟨v, rfl, hr⟩) (fun h => by cases h) hl hlh
        simp only at this
        simp [hb, hc, this]

/-- A cut of frozen cells. -/
theorem rep_cut {E : Env} {b off : Nat} {c : Array Value} {T : TypeId} {fr : Nat × Nat} {cells : List AV} (hF : E.F b = some (.cells c T fr)) (hat : CellsAt E c off cells)
    (p q n cap : Nat) (full : Bool) (hf : full = true → cap = n) (hn : n ≤ cap) : Rep E (.imm n full ((cells.drop p).take q)) (.slice (some ⟨b, off + p, none⟩) n cap) := by
  obtain ⟨vs, h1, h2⟩ := ((hat.drop p).take q).fn
  exact .imm n full _ b (off + p) cap c T fr vs hF hf hn h1 h2

theorem RepO.has {E : Env} {x : Option AV} {u : Option Value} (h : RepO E x u) (hx : x ≠ none) : u ≠ none := by
  cases x <;> cases u <;> simp_all [RepO]

theorem natOf_some (a : AV) (d d' : Nat) : natOf (some a) d = natOf (some a) d' := by cases a <;> rfl

theorem natOf_none {d n : Nat} (h : natOf none d = some n) : n = d := by simpa [natOf] using h.symm

/-- What a cut gives of frozen cells at a known place. -/
theorem cut_imm {E : Env} {b off : Nat} {c : Array Value} {T : TypeId} {fr : Nat × Nat} {cells : List AV} (hF : E.F b = some (.cells c T fr)) (hat : CellsAt E c off cells)
    (sz l h m : Nat) (full : Bool) (hlh : l ≤ h) (hhm : h ≤ m) (hf : full = true → m - l = h - l) :
    Rep E (.imm (h - l) full ((cells.drop (l * sz)).take ((h - l) * sz)))
      (.slice (some (if m = l then ⟨b, off, none⟩ else (⟨b, off, none⟩ : Addr).add (l * sz))) (h - l) (m - l)) := by
  by_cases hml : m = l
  · have : h - l = 0 := by omega
    rw [this, if_pos hml, show m - l = 0 by omega]
    simp only [Nat.zero_mul, List.take_zero]
    exact .immE _ _ _ (fun _ => rfl)
  · rw [if_neg hml, addr_add]
    exact rep_cut hF hat _ _ _ _ _ hf (by omega)

theorem sliceF_sound {E : Env} {w : World} {t : TypeId} {x v : AV} {u : Value} {lo hi mx : Option AV} {lo' hi' mx' : Option Value} (hx : Rep E x u)
    (h1 : RepO E lo lo') (h2 : RepO E hi hi') (h3 : RepO E mx mx') (hhi : mx ≠ none → hi ≠ none) (h : sliceF P t x lo hi mx = some v) :
    ∃ r, (Instr.sliceAt t u lo' hi' mx').run P w = .ok r w ∧ Rep E v r := by
  unfold sliceF at h
  split at h <;> try cases h
  · rename_i hu
    unfold slcS at h
    split at h <;> try cases h
    rename_i s
    simp only [Option.bind_eq_some_iff] at h
    obtain ⟨l, hl, hh, hhn, h⟩ := h
    split at h <;> try cases h
    rename_i hle
    cases hx
    have hb := run_bounds (P := P) (w := w) (isS := false) h1 h2 h3 hl hhn (m := s.size) (cap := s.size) rfl hhi hle.1 hle.2 (Nat.le_refl _)
    have hm := h3.ofNone rfl
    subst hm
    exact ⟨_, by simp [Instr.sliceAt, run_underlying hu, Instr.slice, hb], .str _⟩
  · rename_i e hu
    split at h <;> try cases h
    rename_i inf hinf
    have key : ∀ {a : Option Addr} {len cap l hh m : Nat}, u = .slice a len cap → natOf lo 0 = some l → natOf hi len = some hh → natOf mx cap = some m → l ≤ hh → hh ≤ m → m ≤ cap →
        (Instr.sliceAt t u lo' hi' mx').run P w = .ok (.slice (if m = l then a else a.map (·.add (l * inf.size))) (hh - l) (m - l)) w := by
      intro a len cap l hh m hue hl hh' hm hlh hhm hmc
      subst hue
      have hb := run_bounds (P := P) (w := w) (isS := true) h1 h2 h3 hl hh' hm hhi hlh hhm hmc
      simp [Instr.sliceAt, run_underlying hu, Instr.slice, hb, run_sizeOf hinf]
    unfold slc at h
    split at h
    · rename_i n full cells
      simp only [Option.bind_eq_some_iff] at h
      obtain ⟨l, hl, hh, hhn, h⟩ := h
      have fin : ∀ (m cap : Nat) (full' : Bool), hh ≤ n → l ≤ hh → hh ≤ m → m ≤ cap → natOf mx cap = some m → (full' = true → m - l = hh - l) → (∃ a, u = .slice a n cap) →
          v = .imm (hh - l) full' ((cells.drop (l * inf.size)).take ((hh - l) * inf.size)) → ∃ r, (Instr.sliceAt t u lo' hi' mx').run P w = .ok r w ∧ Rep E v r := by
        intro m cap full' hhn' hlh hhm hmc hm hf ⟨a, hue⟩ hv
        refine ⟨_, key hue hl hhn hm hlh hhm hmc, ?_⟩
        subst hv
        subst hue
        cases hx with
        | immE _ _ _ h5 =>
          have h0 : l = 0 := by omega
          have h0' : hh = 0 := by omega
          subst h0; subst h0'
          simp only [List.drop_nil, List.take_nil, Nat.zero_mul, Nat.sub_zero]
          have ha : (if m = 0 then a else a.map (·.add 0)) = a := by
            split
            · rfl
            · cases a <;> simp [Addr.add]
          rw [ha]
          exact .immE _ _ _ (fun hfu => by have := hf hfu; omega)
        | imm n full cells b off cap c T fr vs g1 g2 g3 g4 g5 =>
          have := cut_imm g1 (.of g4 g5) inf.size l hh m full' hlh hhm hf
          split at this <;> rename_i hml
          · rw [if_pos hml]; exact this
          · rw [if_neg hml]; exact this
      obtain ⟨a, cap, hue, hnc, hfc⟩ : ∃ a cap, u = .slice a n cap ∧ n ≤ cap ∧ (full = true → cap = n) := by
        cases hx with
        | immE _ a cap h5 => exact ⟨a, cap, rfl, Nat.zero_le _, h5⟩
        | imm _ _ _ b off cap _ _ _ _ _ g2 g3 => exact ⟨_, cap, rfl, g3, g2⟩
      split at h
      · split at h <;> try cases h
        rename_i hc
        exact fin cap cap _ hc.2 hc.1 (by omega) (Nat.le_refl _) (by simp [natOf]) (fun hf => by simp at hf; have := hfc hf.1; omega) ⟨a, hue⟩ rfl
      · rename_i mv
        simp only [Option.bind_eq_some_iff] at h
        obtain ⟨m, hm, h⟩ := h
        split at h <;> try cases h
        rename_i hc
        exact fin m cap _ (by omega) hc.1 hc.2.1 (by omega) ((natOf_some mv cap n).trans hm) (fun hf => by simp at hf; omega) ⟨a, hue⟩ rfl
    · rename_i s b off n cp
      simp only [Option.bind_eq_some_iff] at h
      obtain ⟨l, hl, hh, hhn, h⟩ := h
      cases hx with
      | ref _ _ _ _ _ cap s' g1 g2 g3 g4 =>
        have fin : ∀ (m : Nat) (cp' : Option Nat), s = inf.size → hh ≤ n → l ≤ hh → hh ≤ m → m ≤ cap → (l = 0 ∨ l < hh) → natOf mx cap = some m → (∀ c, cp' = some c → m - l = c) →
            v = .ref s b (off + l * inf.size) (hh - l) cp' → ∃ r, (Instr.sliceAt t (.slice (some ⟨b, off, none⟩) n cap) lo' hi' mx').run P w = .ok r w ∧ Rep E v r := by
          intro m cp' hs hhn' hlh hhm hmc hlz hm hcp hv
          refine ⟨_, key rfl hl hhn hm hlh hhm hmc, ?_⟩
          subst hv
          have hb : off + l * inf.size + (m - l) * s ≤ s' := by
            have h1 : l * inf.size + (m - l) * s ≤ cap * s := by
              subst hs
              rw [← Nat.add_mul]
              exact Nat.mul_le_mul_right _ (by omega)
            omega
          by_cases hml : m = l
          · rw [if_pos hml]
            have hl0 : l = 0 := by omega
            subst hl0
            simp only [Nat.zero_mul, Nat.add_zero] at hb ⊢
            exact .ref _ _ _ _ _ _ s' hcp (by omega) g3 hb
          · rw [if_neg hml]
            simp only [Option.map_some, addr_add]
            exact .ref _ _ _ _ _ _ s' hcp (by omega) g3 hb
        split at h
        · split at h
          · cases h
            rename_i hc
            exact fin cap _ hc.1 hc.2.2.1 hc.2.1 (by omega) (Nat.le_refl _) hc.2.2.2 (by simp [natOf]) (fun c hcc => by
              cases cp with
              | none => simp at hcc
              | some c' => simp at hcc; have := g1 c' rfl; omega) rfl
          · split at h <;> try cases h
            rename_i hc
            refine ⟨_, key (m := cap) rfl hl hhn (by simp [natOf]) (by omega) (by omega) (Nat.le_refl _), ?_⟩
            rw [show hh - l = 0 by omega]
            exact .immE _ _ _ (fun h => by cases h)
        · rename_i mv
          simp only [Option.bind_eq_some_iff] at h
          obtain ⟨m, hm, h⟩ := h
          split at h <;> try cases h
          rename_i hc
          exact fin m _ hc.1 (by omega) hc.2.1 hc.2.2.1 (by omega) hc.2.2.2.2 ((natOf_some mv cap n).trans hm) (fun c hcc => by simp at hcc; omega) rfl
    · simp only [Option.bind_eq_some_iff] at h
      obtain ⟨l, hl, hh, hhn, h⟩ := h
      cases hx
      split at h
      · split at h <;> try cases h
        rename_i hc
        obtain ⟨rfl, rfl⟩ := hc
        exact ⟨_, key (m := 0) rfl hl hhn (by simp [natOf]) (Nat.le_refl _) (Nat.le_refl _) (Nat.le_refl _), by simpa using .nils⟩
      · rename_i mv
        simp only [Option.bind_eq_some_iff] at h
        obtain ⟨m, hm, h⟩ := h
        split at h <;> try cases h
        rename_i hc
        obtain ⟨rfl, rfl, rfl⟩ := hc
        exact ⟨_, key (m := 0) rfl hl hhn (by simpa [natOf] using hm) (Nat.le_refl _) (Nat.le_refl _) (Nat.le_refl _), by simpa using .nils⟩
    · cases h
  · rename_i len e hu
    split at h <;> try cases h
    rename_i inf hinf
    unfold slcArr at h
    split at h <;> try cases h
    · rename_i cells
      simp only [Option.bind_eq_some_iff] at h
      obtain ⟨l, hl, hh, hhn, h⟩ := h
      split at h <;> try cases h
      rename_i hc
      cases hx with
      | iptr _ b off c T fr vs g1 g2 g3 =>
        have hb := run_bounds (P := P) (w := w) (isS := false) h1 h2 h3 hl hhn (show natOf none len = some len by simp [natOf]) (fun h => absurd rfl h) hc.1 hc.2 (Nat.le_refl _)
        have hcut := cut_imm g1 (.of g2 g3) inf.size l hh len (hh == len) hc.1 hc.2 (fun hf => by simp at hf; omega)
        refine ⟨_, ?_, hcut⟩
        simp [Instr.sliceAt, run_underlying hu, Instr.sureAddr, hb, run_sizeOf hinf]
    · rename_i b off
      simp only [Option.bind_eq_some_iff] at h
      obtain ⟨l, hl, hh, hhn, h⟩ := h
      split at h <;> try cases h
      rename_i hc
      cases hx with
      | ptr _ _ s hS =>
        have hb := run_bounds (P := P) (w := w) (isS := false) h1 h2 h3 hl hhn (show natOf none len = some len by simp [natOf]) (fun h => absurd rfl h) (Nat.le_of_lt hc.1) hc.2 (Nat.le_refl _)
        have hml : ¬ len = l := by omega
        refine ⟨_, ?_, .sub b (off + l * inf.size) (hh - l) (len - l) s hS⟩
        simp [Instr.sliceAt, run_underlying hu, Instr.sureAddr, hb, run_sizeOf hinf, hml, addr_add]

end Go.Av

/- Aggregates and slices that are written out; arithmetic. -/
namespace Go.Av
variable {P : Program}

theorem fold_set (off : Nat) : ∀ (l : List Value) (k : Nat) (arr : List Value), off + k + l.length ≤ arr.length →
    (l.zipIdx k).foldl (fun cs p => cs.set (off + p.2) p.1) arr = arr.take (off + k) ++ l ++ arr.drop (off + k + l.length)
  | [], k, arr, _ => by simp
  | v :: rest, k, arr, h => by
    simp only [List.zipIdx_cons, List.foldl_cons]
    rw [fold_set off rest (k + 1) (arr.set (off + k) v) (by simp at h ⊢; omega)]
    have e := list_seg_step arr (off + k) v rest (by simp at h; omega)
    simpa [Nat.add_assoc] using e

theorem fold_setA (off : Nat) (vs cells : Array Value) (h : off + vs.size ≤ cells.size) :
    (vs.zipIdx.foldl (fun cs (c, j) => cs.setIfInBounds (off + j) c) cells).toList = cells.toList.take off ++ vs.toList ++ cells.toList.drop (off + vs.size) := by
  have h1 : (vs.zipIdx.foldl (fun cs (c, j) => cs.setIfInBounds (off + j) c) cells).toList =
      (vs.zipIdx.toList).foldl (fun (cs : List Value) p => cs.set (off + p.2) p.1) cells.toList := by
    rw [← Array.foldl_toList]
    exact (List.foldl_hom (f := Array.toList) (g₁ := fun (cs : Array Value) (p : Value × Nat) => cs.setIfInBounds (off + p.2) p.1) (g₂ := fun (cs : List Value) p => cs.set (off + p.2) p.1)
      (fun x y => by simp)).symm
  rw [h1, Array.toList_zipIdx, fold_set off vs.toList 0 cells.toList (by simpa using h)]
  simp

theorem RepL.take {E : Env} {xs : List AV} {vs : List Value} (h : RepL E xs vs) (k : Nat) : RepL E (xs.take k) (vs.take k) :=
  ⟨by simp [h.1], fun i h1 h2 => by simpa using h.2 i (by simp at h1; omega) (by simp at h2; omega)⟩
theorem RepL.drop {E : Env} {xs : List AV} {vs : List Value} (h : RepL E xs vs) (k : Nat) : RepL E (xs.drop k) (vs.drop k) :=
  ⟨by simp [h.1], fun i h1 h2 => by simpa using h.2 (k + i) (by simp at h1; omega) (by simp at h2; omega)⟩
theorem RepL.splice {E : Env} {xs ys : List AV} {vs us : List Value} (h : RepL E xs vs) (h' : RepL E ys us) (off : Nat) :
    RepL E (splice xs off ys) (vs.take off ++ us ++ vs.drop (off + us.length)) := by
  unfold Av.splice
  rw [h'.1]
  exact ((h.take off).append h').append (h.drop _)

theorem RepL.len {E : Env} {xs : List AV} {vs : Array Value} (h : RepL E xs vs.toList) : xs.length = vs.size := by simpa using h.1

/-- Lists of places with values. -/
inductive RepP (E : Env) : List (Nat × AV) → List (Nat × Value) → Prop where
  | nil : RepP E [] []
  | cons (i : Nat) (x : AV) (v : Value) (xs : List (Nat × AV)) (vs : List (Nat × Value)) : Rep E x v → RepP E xs vs → RepP E ((i, x) :: xs) ((i, v) :: vs)

theorem fill_sound {E : Env} {pa : Nat → Option (Nat × Nat)} {pv : Nat → Option (Nat × Nat)} (hp : ∀ i p, pa i = some p → pv i = some p) :
    ∀ {parts : List (Nat × AV)} {vparts : List (Nat × Value)} (_ : RepP E parts vparts) {cells out : List AV} {vcells : Array Value} (_ : RepL E cells vcells.toList) (_ : fillA pa cells parts = some out),
      ∃ vout, Instr.fill pv vcells vparts = some vout ∧ RepL E out vout.toList := by
  intro parts vparts hr
  induction hr with
  | nil =>
    intro cells out vcells hc h
    simp only [fillA, Option.some.injEq] at h
    subst h
    exact ⟨vcells, rfl, hc⟩
  | cons i x v xs vs hx _ ih =>
    intro cells out vcells hc h
    simp only [fillA] at h
    split at h <;> try cases h
    rename_i off size cs hpl hcs
    split at h <;> try cases h
    rename_i hsz
    have hl := cellsOf?_rep hx hcs
    have hlen := hl.len
    have hcl := hc.len
    obtain ⟨vout, h1, h2⟩ := ih (cells := splice cells off cs) (vcells := v.cells.zipIdx.foldl (fun cs (c, j) => cs.setIfInBounds (off + j) c) vcells) (by
      rw [fold_setA off v.cells vcells (by omega)]
      have := hc.splice hl off
      simpa using this) h
    refine ⟨vout, ?_, h2⟩
    simp only [Instr.fill, hp i _ hpl]
    rw [if_neg]
    · exact h1
    · simp; omega

theorem run_places : ∀ (fs : List Field) (ps : List (Nat × Nat)) (w : World), sizesOf P fs = some ps →
    (fs.mapM (m := Sem) fun f => do pure (f.offset, ← sizeOf f.type)).run P w = .ok ps w
  | [], ps, w, h => by
    simp only [sizesOf, Option.some.injEq] at h
    subst h
    rfl
  | f :: fs, ps, w, h => by
    simp only [sizesOf] at h
    split at h <;> try cases h
    rename_i i r hi hr
    have ih := run_places fs r w hr
    simp only [List.mapM_cons, Sem.run_bind, run_sizeOf hi, Result.andThen_ok, Sem.run_pure, ih]

theorem zeroF_spec {t : TypeId} {z : List AV} (h : zeroF P t = some z) : ∃ i v, P.info? t = some i ∧ i.zero = some v ∧ z = v.cells.toList.map avOf := by
  unfold zeroF at h
  split at h <;> try cases h
  rename_i i hi
  split at h <;> try cases h
  rename_i v hv
  exact ⟨i, v, hi, hv, rfl⟩

theorem buildF_sound {E : Env} {w : World} {t : TypeId} {parts : List (Nat × AV)} {vparts : List (Nat × Value)} (hr : RepP E parts vparts) {v : AV} (h : buildF P t parts = some v) :
    ∃ r, (Instr.build t vparts.toArray).run P w = .ok r w ∧ Rep E v r := by
  unfold buildF at h
  split at h <;> try cases h
  · rename_i z fs hz hu
    obtain ⟨i, zv, hi, hzv, rfl⟩ := zeroF_spec hz
    split at h <;> try cases h
    rename_i places hpl
    simp only [Option.map_eq_some_iff] at h
    obtain ⟨out, hf, rfl⟩ := h
    obtain ⟨vout, h1, h2⟩ := fill_sound (pv := (places.toArray[·]?)) (fun i p hp => by simpa using hp) hr (vcells := zv.cells) (repL_map_avOf E _) hf
    refine ⟨.agg vout, ?_, Rep.aggL h2⟩
    have hm := run_places fs.toList places w hpl
    have hm' : (fs.mapM (m := Sem) fun f => do pure (f.offset, ← sizeOf f.type)).run P w = .ok places.toArray w := by
      rw [Array.mapM_eq_mapM_toList]
      simp only [Sem.run_map, hm, Result.andThen_ok]
    simp only [bind_pure_comp] at hm'
    have h1' : Instr.fill (fun x => places[x]?) zv.cells vparts = some vout := by simpa using h1
    simp [Instr.build, run_zeroValue hi hzv, run_underlying hu, hm', h1']
  · rename_i z len e hz hu
    obtain ⟨i, zv, hi, hzv, rfl⟩ := zeroF_spec hz
    split at h <;> try cases h
    rename_i inf hinf
    simp only [Option.map_eq_some_iff] at h
    obtain ⟨out, hf, rfl⟩ := h
    obtain ⟨vout, h1, h2⟩ := fill_sound (pv := fun i => some (i * inf.size, inf.size)) (fun i p hp => hp) hr (vcells := zv.cells) (repL_map_avOf E _) hf
    refine ⟨.agg vout, ?_, Rep.aggL h2⟩
    simp [Instr.build, run_zeroValue hi hzv, run_underlying hu, run_sizeOf hinf, h1]

theorem rowOf_rep (E : Env) (zv : Array Value) (n : Nat) (h0 : zv.size ≠ 0) : RepL E (rowOf (zv.toList.map avOf) n) ((Array.range n).map (zv[· % zv.size]!)).toList := by
  refine ⟨by simp [rowOf], fun i h1 h2 => ?_⟩
  have hlt : i % zv.size < zv.size := Nat.mod_lt _ (by omega)
  simp only [rowOf, List.getElem_map, List.getElem_range, List.length_map, Array.length_toList, Array.getElem_toList, Array.getElem_map, Array.getElem_range]
  rw [getElem!_pos zv _ hlt]
  have : (List.map avOf zv.toList).getD (i % zv.size) AV.any = avOf zv[i % zv.size] := by simp [hlt]
  rw [this]
  exact rep_avOf E _

theorem fillA_length {pa : Nat → Option (Nat × Nat)} : ∀ {ps : List (Nat × AV)} {c o : List AV}, fillA pa c ps = some o → o.length = c.length
  | [], c, o, h => by simp only [fillA, Option.some.injEq] at h; rw [h]
  | (i, x) :: ps, c, o, h => by
    simp only [fillA] at h
    split at h <;> try cases h
    split at h <;> try cases h
    rename_i hh
    rw [fillA_length h]
    unfold splice
    simp
    omega

theorem literalF_sound {E : Env} {w : World} {t : TypeId} {len : Nat} {parts : List (Nat × AV)} {vparts : List (Nat × Value)} (hr : RepP E parts vparts) {cells : List AV} (h : literalF P t len parts = some cells) :
    ∃ vout e inf, P.underlying t = some (.slice e) ∧ P.info? e = some inf ∧ (Instr.buildSlice t len vparts.toArray).run P w = .ok (.slice (some ⟨w.heap.size, 0, none⟩) len len) (w.alloc (.cells vout e)) ∧
      RepL E cells vout.toList ∧ vout.size = len * inf.size := by
  unfold literalF at h
  split at h <;> try cases h
  rename_i e hu
  split at h <;> try cases h
  rename_i inf z hinf hz
  split at h <;> try cases h
  rename_i hc
  obtain ⟨i, zv, hi, hzv, rfl⟩ := zeroF_spec hz
  rw [hinf] at hi
  cases hi
  have hc1 : ¬ (16777216 < len * inf.size) := by simp only [not_or] at hc; simpa using hc.1
  have hc2 : zv.cells.size ≠ 0 := fun h0 => hc (.inr (by simp [h0]))
  by_cases hz0 : len * inf.size = 0
  · obtain ⟨vout, h1, h2⟩ := fill_sound (pv := fun i => some (i * inf.size, inf.size)) (fun i p hp => hp) hr (vcells := #[]) (by rw [hz0]; exact RepL.nil E) h
    have hs : vout.size = 0 := by
      rw [← h2.len, fillA_length h, hz0]
      rfl
    have e0 : Array.map (fun _ : Nat => (default : Value)) (Array.range 0) = #[] := by simp
    refine ⟨vout, e, inf, hu, hinf, ?_, h2, by omega⟩
    simp [Instr.buildSlice, run_underlying hu, run_sizeOf hinf, hz0, e0, h1, newRow]
  · obtain ⟨vout, h1, h2⟩ := fill_sound (pv := fun i => some (i * inf.size, inf.size)) (fun i p hp => hp) hr (vcells := (Array.range (len * inf.size)).map (zv.cells[· % zv.cells.size]!)) (rowOf_rep E _ _ hc2) h
    have hs : vout.size = len * inf.size := by
      rw [← h2.len, fillA_length h]
      simp [rowOf]
    refine ⟨vout, e, inf, hu, hinf, ?_, h2, hs⟩
    simp [Instr.buildSlice, run_underlying hu, run_sizeOf hinf, hz0, hc1, run_zeroValue hinf hzv, h1, newRow]

end Go.Av

/- Arithmetic, comparisons; all pure operations together. -/
namespace Go.Av
variable {P : Program}

theorem eqGuard_int (op : BinOp) (t : TypeId) (x y : Operand) (k k' : IntKind) (a b : Int) (w : World) : (eqGuard op t x y (.int k a) (.int k' b)).run P w = .ok () w := by
  cases op <;> simp [eqGuard]

theorem binInt_sound {E : Env} {w : World} {op : BinOp} {t : TypeId} {x y : Operand} {k k' : IntKind} {a b : Int} {v : AV} (h : binF P op t (.int k a) (.int k' b) = some v) :
    ∃ r, (do eqGuard op t x y (.int k a) (.int k' b); binOp op t (.int k a) (.int k' b) : Sem Value).run P w = .ok r w ∧ Rep E v r := by
  simp only [Sem.run_bind, eqGuard_int, Result.andThen_ok]
  cases op <;> simp only [binF] at h
  case shl =>
    split at h <;> try cases h
    rename_i hb
    exact ⟨_, by simp [binOp, Op.shift, hb], .int _ _⟩
  case shr =>
    split at h <;> try cases h
    rename_i hb
    exact ⟨_, by simp [binOp, Op.shift, hb], .int _ _⟩
  case quo =>
    split at h <;> try cases h
    rename_i hb
    obtain ⟨rfl, hb⟩ := hb
    exact ⟨_, by simp [binOp, Op.intDiv, hb], .int _ _⟩
  case rem =>
    split at h <;> try cases h
    rename_i hb
    obtain ⟨rfl, hb⟩ := hb
    exact ⟨_, by simp [binOp, Op.intDiv, hb], .int _ _⟩
  all_goals
    split at h <;> try cases h
    rename_i hk
    subst hk
    first
      | exact ⟨_, by simp only [binOp, ne_eq, not_true_eq_false, if_false]; rfl, .int _ _⟩
      | exact ⟨_, by simp only [binOp, ne_eq, not_true_eq_false, if_false]; rfl, .bool _⟩

theorem rep_int {E : Env} {k : IntKind} {n : Int} {u : Value} (h : Rep E (.int k n) u) : u = .int k n := by cases h; rfl
theorem rep_bool {E : Env} {b : Bool} {u : Value} (h : Rep E (.bool b) u) : u = .bool b := by cases h; rfl

/-- '==' on values as told. -/
def EqOk (P : Program) (t : TypeId) (u v : Value) (r : Bool) (w : World) : Prop :=
  (∀ (op : BinOp) (x y : Operand), op = .eql ∨ op = .neq → (eqGuard op t x y u v).run P w = .ok () w) ∧ (Op.equal t u v).run P w = .ok r w

theorem eqGuard_other {op : BinOp} {t : TypeId} {x y : Operand} {u v : Value} (h1 : ∀ cs ds, ¬ (u = .agg cs ∧ v = .agg ds)) (h2 : ¬ (u = .nilIface ∧ v = .nilIface)) (w : World) :
    (eqGuard op t x y u v).run P w = .ok () w := by
  unfold eqGuard
  cases op <;> first | rfl | skip
  all_goals
    cases u <;> first | rfl | (cases v <;> first | rfl | exact absurd ⟨rfl, rfl⟩ (h1 _ _) | exact absurd ⟨rfl, rfl⟩ h2)

theorem equal_succ {t : TypeId} {u v : Value} {r : Bool} {w : World} (h : ∀ d, (Op.equalIn (d + 2) t u v).run P w = .ok r w) : (Op.equal t u v).run P w = .ok r w := h 9998

theorem eqInts_spec {E : Env} : ∀ {xs ys : List AV} {r : Bool} {us vs : List Value}, eqInts xs ys = some r → RepL E xs us → RepL E ys vs →
    ∃ ks : List (IntKind × Int × Int), us = ks.map (fun k => .int k.1 k.2.1) ∧ vs = ks.map (fun k => .int k.1 k.2.2) ∧ r = ks.all fun k => k.2.1 == k.2.2
  | [], [], r, us, vs, h, hu, hv => by
    simp only [eqInts, Option.some.injEq] at h
    have h1 : us = [] := List.eq_nil_of_length_eq_zero (by simpa using hu.1.symm)
    have h2 : vs = [] := List.eq_nil_of_length_eq_zero (by simpa using hv.1.symm)
    exact ⟨[], by simp [h1], by simp [h2], by simp [← h]⟩
  | .int k a :: xs, .int k' b :: ys, r, us, vs, h, hu, hv => by
    simp only [eqInts] at h
    split at h <;> try cases h
    rename_i hk
    subst hk
    simp only [Option.map_eq_some_iff] at h
    obtain ⟨r', hr, rfl⟩ := h
    cases us with
    | nil => simp [RepL] at hu
    | cons u us =>
      cases vs with
      | nil => simp [RepL] at hv
      | cons v vs =>
        have h1 := hu.uncons
        have h2 := hv.uncons
        obtain ⟨ks, e1, e2, e3⟩ := eqInts_spec hr h1.2 h2.2
        have := rep_int h1.1
        have := rep_int h2.1
        exact ⟨(k, a, b) :: ks, by simp [*], by simp [*], by simp [e3]⟩
  | [], y :: ys, _, _, _, h, _, _ => by simp [eqInts] at h
  | .int k a :: xs, [], _, _, _, h, _, _ => by simp [eqInts] at h
  | .int k a :: xs, .bool _ :: _, _, _, _, h, _, _ => by simp [eqInts] at h
  | .int k a :: xs, .str _ :: _, _, _, _, h, _, _ => by simp [eqInts] at h
  | .int k a :: xs, .nils :: _, _, _, _, h, _, _ => by simp [eqInts] at h
  | .int k a :: xs, .imm _ _ _ :: _, _, _, _, h, _, _ => by simp [eqInts] at h
  | .int k a :: xs, .ref _ _ _ _ _ :: _, _, _, _, h, _, _ => by simp [eqInts] at h
  | .int k a :: xs, .iptr _ :: _, _, _, _, h, _, _ => by simp [eqInts] at h
  | .int k a :: xs, .ptr _ _ :: _, _, _, _, h, _, _ => by simp [eqInts] at h
  | .int k a :: xs, .agg _ :: _, _, _, _, h, _, _ => by simp [eqInts] at h
  | .int k a :: xs, .tup _ :: _, _, _, _, h, _, _ => by simp [eqInts] at h
  | .int k a :: xs, .fn _ _ :: _, _, _, _, h, _, _ => by simp [eqInts] at h
  | .int k a :: xs, .nilf :: _, _, _, _, h, _, _ => by simp [eqInts] at h
  | .int k a :: xs, .any :: _, _, _, _, h, _, _ => by simp [eqInts] at h
  | .int k a :: xs, .nili :: _, _, _, _, h, _, _ => by simp [eqInts] at h
  | .int k a :: xs, .ifc _ _ :: _, _, _, _, h, _, _ => by simp [eqInts] at h
  | .bool _ :: xs, _, _, _, _, h, _, _ => by simp [eqInts] at h
  | .str _ :: xs, _, _, _, _, h, _, _ => by simp [eqInts] at h
  | .nils :: xs, _, _, _, _, h, _, _ => by simp [eqInts] at h
  | .imm _ _ _ :: xs, _, _, _, _, h, _, _ => by simp [eqInts] at h
  | .ref _ _ _ _ _ :: xs, _, _, _, _, h, _, _ => by simp [eqInts] at h
  | .iptr _ :: xs, _, _, _, _, h, _, _ => by simp [eqInts] at h
  | .ptr _ _ :: xs, _, _, _, _, h, _, _ => by simp [eqInts] at h
  | .agg _ :: xs, _, _, _, _, h, _, _ => by simp [eqInts] at h
  | .tup _ :: xs, _, _, _, _, h, _, _ => by simp [eqInts] at h
  | .fn _ _ :: xs, _, _, _, _, h, _, _ => by simp [eqInts] at h
  | .nilf :: xs, _, _, _, _, h, _, _ => by simp [eqInts] at h
  | .any :: xs, _, _, _, _, h, _, _ => by simp [eqInts] at h
  | .nili :: xs, _, _, _, _, h, _, _ => by simp [eqInts] at h
  | .ifc _ _ :: xs, _, _, _, _, h, _, _ => by simp [eqInts] at h

set_option linter.unusedVariables false in
theorem forIn_eqLoop {w : World} {e : TypeId} {k : IntKind} {inf : TypeInfo} (he : P.underlying e = some (.int k)) (hinf : P.info? e = some inf) (h1 : inf.size = 1) (d : Nat) (us vs : Array Value)
    (ks : List (IntKind × Int × Int)) (hu : us.toList = ks.map (fun k => .int k.1 k.2.1)) (hv : vs.toList = ks.map (fun k => .int k.1 k.2.2)) :
    ∀ (n i : Nat), i + n = ks.length →
      (forIn (m := Sem) (List.range' i n) ((none, ()) : Option Bool × Unit) fun i (r : Option Bool × Unit) => do
        let x ← part e us (i * 1)
        let y ← part e vs (i * 1)
        let z ← Op.equalIn (d + 1) e x y
        if (!z) = true then pure (ForInStep.done (some false, ())) else pure (ForInStep.yield (none, ()))).run P w =
      .ok (if (ks.drop i).all (fun k => k.2.1 == k.2.2) then (none, ()) else (some false, ())) w
  | 0, i, h => by
    have : ks.drop i = [] := List.drop_eq_nil_of_le (by omega)
    simp [this]
  | n + 1, i, h => by
    have hi : i < ks.length := by omega
    have hx : us[i]? = some (.int ks[i].1 ks[i].2.1) := by rw [← Array.getElem?_toList, hu]; simp [hi]
    have hy : vs[i]? = some (.int ks[i].1 ks[i].2.2) := by rw [← Array.getElem?_toList, hv]; simp [hi]
    have ih := forIn_eqLoop (w := w) he hinf h1 d us vs ks hu hv n (i + 1) (by omega)
    have hd : ks.drop i = ks[i] :: ks.drop (i + 1) := List.drop_eq_getElem_cons hi
    have p1 : (part e us (i * 1)).run P w = .ok (.int ks[i].1 ks[i].2.1) w := by simp [part, run_isAgg he, isAggD, hx]
    have p2 : (part e vs (i * 1)).run P w = .ok (.int ks[i].1 ks[i].2.2) w := by simp [part, run_isAgg he, isAggD, hy]
    have p3 : (Op.equalIn (d + 1) e (.int ks[i].1 ks[i].2.1) (.int ks[i].1 ks[i].2.2)).run P w = .ok (ks[i].2.1 == ks[i].2.2) w := by
      simp [Op.equalIn, run_underlying he]
    simp only [List.range'_succ, List.forIn_cons, Sem.run_bind, p1, p2, p3, Result.andThen_ok]
    rw [hd]
    by_cases hb : (ks[i].2.1 == ks[i].2.2) = true
    · simp only [hb, Bool.not_true, Bool.false_eq_true, if_false, Sem.run_pure, Result.andThen_ok, ih, List.all_cons, Bool.true_and]
    · have hb' : (ks[i].2.1 == ks[i].2.2) = false := by simpa using hb
      simp only [hb', Bool.not_false, if_true, Sem.run_pure, Result.andThen_ok, List.all_cons, Bool.false_and, Bool.false_eq_true, if_false]

theorem run_eq_bool {t : TypeId} (hu : P.underlying t = some .bool) (a b : Bool) (w : World) : (Op.equal t (.bool a) (.bool b)).run P w = .ok (a == b) w :=
  equal_succ fun d => by simp only [Op.equalIn, Sem.run_bind, run_underlying hu, Result.andThen_ok]; rfl
theorem run_eq_nil1 {t e : TypeId} (hu : P.underlying t = some (.slice e)) (n c n' c' : Nat) (b : Option Addr) (w : World) : (Op.equal t (.slice none n c) (.slice b n' c')).run P w = .ok b.isNone w :=
  equal_succ fun d => by simp only [Op.equalIn, Sem.run_bind, run_underlying hu, Result.andThen_ok]; rfl
theorem run_eq_nil2 {t e : TypeId} (hu : P.underlying t = some (.slice e)) (a : Addr) (n c n' c' : Nat) (w : World) : (Op.equal t (.slice (some a) n c) (.slice none n' c')).run P w = .ok false w :=
  equal_succ fun d => by simp only [Op.equalIn, Sem.run_bind, run_underlying hu, Result.andThen_ok]; rfl

theorem forIn_eqFields {w : World} (d : Nat) (us vs : Array Value)
    (ks : List (IntKind × Int × Int)) (hu : us.toList = ks.map (fun k => .int k.1 k.2.1)) (hv : vs.toList = ks.map (fun k => .int k.1 k.2.2)) :
    ∀ (fs : List Field) (i : Nat), fieldInts P fs i = true → i + fs.length = ks.length →
      (forIn (m := Sem) fs ((none, ()) : Option Bool × Unit) fun f (r : Option Bool × Unit) =>
        if f.name ≠ "_" then do
          let x ← part f.type us f.offset
          let y ← part f.type vs f.offset
          let z ← Op.equalIn (d + 1) f.type x y
          if (!z) = true then pure (ForInStep.done (some false, ())) else pure (ForInStep.yield (none, ()))
        else pure (ForInStep.yield (none, ()))).run P w =
      .ok (if (ks.drop i).all (fun k => k.2.1 == k.2.2) then (none, ()) else (some false, ())) w
  | [], i, _, h => by
    have : ks.drop i = [] := List.drop_eq_nil_of_le (by simp at h; omega)
    simp [this]
  | f :: fs, i, hf, h => by
    simp only [List.length_cons] at h
    have hi : i < ks.length := by omega
    unfold fieldInts at hf
    simp only [Bool.and_eq_true, bne_iff_ne, beq_iff_eq] at hf
    obtain ⟨⟨⟨hn, ho⟩, hk⟩, hr⟩ := hf
    have hx : us[i]? = some (.int ks[i].1 ks[i].2.1) := by rw [← Array.getElem?_toList, hu]; simp [hi]
    have hy : vs[i]? = some (.int ks[i].1 ks[i].2.2) := by rw [← Array.getElem?_toList, hv]; simp [hi]
    have ih := forIn_eqFields (w := w) d us vs ks hu hv fs (i + 1) hr (by omega)
    have hd : ks.drop i = ks[i] :: ks.drop (i + 1) := List.drop_eq_getElem_cons hi
    split at hk <;> try cases hk
    rename_i k he
    have p1 : (part f.type us f.offset).run P w = .ok (.int ks[i].1 ks[i].2.1) w := by rw [ho]; simp [part, run_isAgg he, isAggD, hx]
    have p2 : (part f.type vs f.offset).run P w = .ok (.int ks[i].1 ks[i].2.2) w := by rw [ho]; simp [part, run_isAgg he, isAggD, hy]
    have p3 : (Op.equalIn (d + 1) f.type (.int ks[i].1 ks[i].2.1) (.int ks[i].1 ks[i].2.2)).run P w = .ok (ks[i].2.1 == ks[i].2.2) w := by
      simp [Op.equalIn, run_underlying he]
    simp only [List.forIn_cons, hn, ne_eq, not_false_eq_true, if_true, Sem.run_bind, p1, p2, p3, Result.andThen_ok]
    rw [hd]
    by_cases hb : (ks[i].2.1 == ks[i].2.2) = true
    · simp only [hb, Bool.not_true, Bool.false_eq_true, if_false, Sem.run_pure, Result.andThen_ok, List.all_cons, Bool.true_and]
      exact ih
    · have hb' : (ks[i].2.1 == ks[i].2.2) = false := by simpa using hb
      simp only [hb', Bool.not_false, if_true, Sem.run_pure, Result.andThen_ok, List.all_cons, Bool.false_and, Bool.false_eq_true, if_false]

theorem eqF_sound {E : Env} {w : World} {t : TypeId} {x y : AV} {u v : Value} (hx : Rep E x u) (hy : Rep E y v) {r : Bool} (h : eqF P t x y = some r) : EqOk P t u v r w := by
  unfold eqF at h
  split at h <;> try cases h
  · rename_i a b hu
    have e1 := rep_bool hx; have e2 := rep_bool hy; subst e1; subst e2
    exact ⟨fun op x y _ => eqGuard_other (by simp) (by simp) w, run_eq_bool hu _ _ w⟩
  · rename_i e hu
    cases hx; cases hy
    exact ⟨fun op x y _ => eqGuard_other (by simp) (by simp) w, run_eq_nil1 hu _ _ _ _ _ w⟩
  · rename_i e n full c cs hu
    cases hx
    cases hy
    exact ⟨fun op x y _ => eqGuard_other (by simp) (by simp) w, run_eq_nil1 hu _ _ _ _ _ w⟩
  · rename_i e n full c cs hu
    cases hy
    cases hx
    exact ⟨fun op x y _ => eqGuard_other (by simp) (by simp) w, run_eq_nil2 hu _ _ _ _ _ w⟩
  · rename_i e sz b off n cp hu
    cases hx; cases hy
    exact ⟨fun op x y _ => eqGuard_other (by simp) (by simp) w, run_eq_nil1 hu _ _ _ _ _ w⟩
  · rename_i e sz b off n cp hu
    cases hx; cases hy
    exact ⟨fun op x y _ => eqGuard_other (by simp) (by simp) w, run_eq_nil2 hu _ _ _ _ _ w⟩
  · rename_i len e xs ys hu
    split at h <;> try cases h
    rename_i k inf he hinf
    split at h <;> try cases h
    rename_i hc
    obtain ⟨h1, hlx, hly, hg⟩ := hc
    obtain ⟨us, rfl, hus⟩ := hx.cells
    obtain ⟨vs, rfl, hvs⟩ := hy.cells
    obtain ⟨ks, e1, e2, rfl⟩ := eqInts_spec h hus hvs
    have hk : ks.length = len := by have := hus.1; rw [e1] at this; simp at this; omega
    refine ⟨fun op x y hop => ?_, ?_⟩
    · rcases hop with rfl | rfl <;> simp [eqGuard, hg]
    · refine equal_succ fun d => ?_
      have hloop := forIn_eqLoop (w := w) he hinf h1 d us vs ks e1 e2 len 0 (by omega)
      rw [Op.equalIn]
      simp only [Sem.run_bind, run_underlying hu, Result.andThen_ok, run_sizeOf hinf, h1]
      rw [Std.Legacy.Range.forIn_eq_forIn_range']
      have hsz : (Std.Legacy.Range.size [0:len]) = len := by simp [Std.Legacy.Range.size]
      simp only [hsz]
      rw [hloop]
      simp only [List.drop_zero, Result.andThen_ok]
      generalize (ks.all fun k => k.2.1 == k.2.2) = rr
      cases rr <;> rfl
  · rename_i fs xs ys hu
    split at h <;> try cases h
    rename_i hc
    obtain ⟨h1, hlx, hly, hg, hst⟩ := hc
    obtain ⟨us, rfl, hus⟩ := hx.cells
    obtain ⟨vs, rfl, hvs⟩ := hy.cells
    obtain ⟨ks, e1, e2, rfl⟩ := eqInts_spec h hus hvs
    have hk : ks.length = fs.size := by have := hus.1; rw [e1] at this; simp at this; omega
    refine ⟨fun op x y hop => ?_, ?_⟩
    · rcases hop with rfl | rfl <;> simp [eqGuard, hg]
    · refine equal_succ fun d => ?_
      have hloop := forIn_eqFields (w := w) d us vs ks e1 e2 fs.toList 0 h1 (by simp; omega)
      rw [Op.equalIn]
      simp only [Sem.run_bind, run_underlying hu, Result.andThen_ok]
      have hp : (program : Sem Program).run P w = .ok P w := rfl
      simp only [hp, Result.andThen_ok, hst, Bool.false_eq_true, if_false, ← Array.forIn_toList, Sem.run_bind]
      rw [hloop]
      simp only [List.drop_zero, Result.andThen_ok]
      generalize (ks.all fun k => k.2.1 == k.2.2) = rr
      cases rr <;> rfl

theorem binF_sound {E : Env} {w : World} {op : BinOp} {t : TypeId} {x y : Operand} {a b : AV} {u v : Value} (hx : Rep E a u) (hy : Rep E b v) {r : AV} (h : binF P op t a b = some r) :
    ∃ z, (do eqGuard op t x y u v; binOp op t u v : Sem Value).run P w = .ok z w ∧ Rep E r z := by
  by_cases hstr : ∃ s s', a = .str s ∧ b = .str s'
  · obtain ⟨s, s', rfl, rfl⟩ := hstr
    cases hx; cases hy
    have hg : (eqGuard op t x y (.string s) (.string s')).run P w = .ok () w := eqGuard_other (by simp) (by simp) w
    simp only [binF, binS] at h
    split at h <;> try cases h
    · exact ⟨_, by simp only [Sem.run_bind, hg, Result.andThen_ok]; simp [binOp, Op.stringOp], .bool _⟩
    · exact ⟨_, by simp only [Sem.run_bind, hg, Result.andThen_ok]; simp [binOp, Op.stringOp], .bool _⟩
    · split at h <;> try cases h
      rename_i hle
      exact ⟨_, by simp only [Sem.run_bind, hg, Result.andThen_ok]; exact run_string_add_sum w s s' hle, .str _⟩
  have other : (∀ k n k' n', ¬ (a = .int k n ∧ b = .int k' n')) → ∃ z, (do eqGuard op t x y u v; binOp op t u v : Sem Value).run P w = .ok z w ∧ Rep E r z := by
    intro hni
    unfold binF at h
    split at h
    · exact absurd ⟨_, _, rfl, rfl⟩ hstr
    · exact absurd ⟨rfl, rfl⟩ (hni _ _ _ _)
    · have nb : ∀ op : BinOp, op = .eql ∨ op = .neq → ∀ {r : Bool}, eqF P t a b = some r → (binOp op t u v).run P w = .ok (.bool (match op with | .eql => r | _ => !r)) w := by
        intro op hop r hr
        have hok := (eqF_sound (w := w) hx hy hr).2
        unfold eqF at hr
        split at hr <;> try cases hr
        all_goals (cases hx; cases hy; rcases hop with rfl | rfl <;> simp [binOp, hok])
      split at h
      · simp only [Option.map_eq_some_iff] at h
        obtain ⟨r', hr, rfl⟩ := h
        have hok := eqF_sound (w := w) hx hy hr
        exact ⟨.bool r', by simp only [Sem.run_bind, hok.1 _ x y (.inl rfl), Result.andThen_ok]; exact nb .eql (.inl rfl) hr, .bool _⟩
      · simp only [Option.map_eq_some_iff] at h
        obtain ⟨r', hr, rfl⟩ := h
        have hok := eqF_sound (w := w) hx hy hr
        exact ⟨.bool !r', by simp only [Sem.run_bind, hok.1 _ x y (.inr rfl), Result.andThen_ok]; exact nb .neq (.inr rfl) hr, .bool _⟩
      · cases h
  by_cases hi : ∃ k n k' n', a = .int k n ∧ b = .int k' n'
  · obtain ⟨k, n, k', n', rfl, rfl⟩ := hi
    have e1 := rep_int hx; have e2 := rep_int hy; subst e1; subst e2
    exact binInt_sound h
  · exact other fun k n k' n' hh => hi ⟨k, n, k', n', hh.1, hh.2⟩

theorem unF_sound {E : Env} {w : World} {op : UnOp} {a : AV} {u : Value} (hx : Rep E a u) {r : AV} (h : unF op a = some r) : ∃ z, (Op.unary op u).run P w = .ok z w ∧ Rep E r z := by
  unfold unF at h
  split at h <;> try cases h
  · have := rep_int hx; subst this
    exact ⟨_, by simp [Op.unary, Op.intArith], .int _ _⟩
  · have := rep_bool hx; subst this
    exact ⟨_, by simp [Op.unary], .bool _⟩

theorem convF_sound {E : Env} {w : World} {s d : TypeId} {a : AV} {u : Value} (hx : Rep E a u) {r : AV} (h : convF P s d a = some r) : ∃ z, (convert s d u).run P w = .ok z w ∧ Rep E r z := by
  unfold convF at h
  split at h <;> try cases h
  rename_i ds k k' n h1 h2
  have := rep_int hx; subst this
  refine ⟨_, ?_, .int _ _⟩
  simp only [convert, Sem.run_bind, run_underlying h1, run_underlying h2, Result.andThen_ok]
  rfl

theorem extrF_sound {E : Env} {w : World} {i : Nat} {a : AV} {u : Value} (hx : Rep E a u) {r : AV} (h : extrF a i = some r) : ∃ z, (Instr.extract u i).run P w = .ok z w ∧ Rep E r z := by
  unfold extrF at h
  split at h <;> try cases h
  rename_i cs
  obtain ⟨vs, rfl, hl⟩ := hx.tupL
  obtain ⟨hlt, rfl⟩ := List.getElem?_eq_some_iff.1 h
  have hlt' : i < vs.size := by rw [← hl.len]; exact hlt
  refine ⟨vs[i], by simp [Instr.extract, hlt'], ?_⟩
  have := hl.2 i hlt (by simpa using hlt')
  simpa using this

theorem lenF_sound {E : Env} {w : World} {t ty : TypeId} {a : AV} {u : Value} (hx : Rep E a u) {r : AV} (h : lenF P t a = some r) : ∃ z, (Builtin.len_ #[t] ty #[u]).run P w = .ok z w ∧ Rep E r z := by
  unfold lenF at h
  split at h <;> try cases h
  · rename_i e hu
    unfold lenA at h
    split at h <;> try cases h
    all_goals (cases hx <;> refine ⟨_, by simp only [Builtin.len_, List.getElem?_toArray, List.getElem?_cons_zero, Sem.run_bind, run_underlying hu, Result.andThen_ok]; rfl, .int _ _⟩)
  · rename_i n e hu
    refine ⟨_, by simp only [Builtin.len_, List.getElem?_toArray, List.getElem?_cons_zero, Sem.run_bind, run_underlying hu, Result.andThen_ok]; rfl, .int _ _⟩
  · rename_i hu
    unfold lenS at h
    split at h <;> try cases h
    cases hx
    refine ⟨_, by simp only [Builtin.len_, List.getElem?_toArray, List.getElem?_cons_zero, Sem.run_bind, run_underlying hu, Result.andThen_ok]; rfl, .int _ _⟩

theorem min2F_sound {E : Env} {w : World} {ts : Array TypeId} {ty : TypeId} {a b : AV} {u v : Value} (hx : Rep E a u) (hy : Rep E b v) {r : AV} (h : min2F a b = some r) : ∃ z, (Builtin.min_ ts ty #[u, v]).run P w = .ok z w ∧ Rep E r z := by
  unfold min2F at h
  split at h <;> try cases h
  have e1 := rep_int hx; have e2 := rep_int hy; subst e1; subst e2
  exact ⟨_, by simp [Builtin.min_, Builtin.min2], .int _ _⟩

theorem max2F_sound {E : Env} {w : World} {ts : Array TypeId} {ty : TypeId} {a b : AV} {u v : Value} (hx : Rep E a u) (hy : Rep E b v) {r : AV} (h : max2F a b = some r) : ∃ z, (Builtin.max_ ts ty #[u, v]).run P w = .ok z w ∧ Rep E r z := by
  unfold max2F at h
  split at h <;> try cases h
  have e1 := rep_int hx; have e2 := rep_int hy; subst e1; subst e2
  exact ⟨_, by simp [Builtin.max_, Builtin.max2], .int _ _⟩

theorem repP_map {E : Env} {ρA : Operand → AV} {ρV : Operand → Value} (h : ∀ x, Rep E (ρA x) (ρV x)) : ∀ l : List (Nat × Operand), RepP E (l.map fun p => (p.1, ρA p.2)) (l.map fun p => (p.1, ρV p.2))
  | [] => .nil
  | p :: l => .cons _ _ _ _ _ (h p.2) (repP_map h l)

theorem repL_map {E : Env} {ρA : Operand → AV} {ρV : Operand → Value} (h : ∀ x, Rep E (ρA x) (ρV x)) (l : List Operand) : RepL E (l.map ρA) (l.map ρV) :=
  ⟨by simp, fun i h1 h2 => by simpa using h _⟩

theorem repO_map {E : Env} {ρA : Operand → AV} {ρV : Operand → Value} (h : ∀ x, Rep E (ρA x) (ρV x)) (o : Option Operand) : RepO E (o.map ρA) (o.map ρV) := by
  cases o with
  | none => trivial
  | some x => exact h x

theorem makeIfc_sound {E : Env} {w : World} {t : TypeId} {x v : AV} {u : Value} (hx : Rep E x u) (h : makeIfc P t x = some v) : ∃ r, (Instr.makeInterface t u).run P w = .ok r w ∧ Rep E v r := by
  unfold makeIfc at h
  split at h <;> try cases h
  rename_i d hd hu
  refine ⟨.iface t u, ?_, .ifc _ _ _ hx⟩
  simp only [Instr.makeInterface, Sem.run_bind, run_underlying hu, Result.andThen_ok]
  cases d <;> first | rfl | exact absurd rfl (hd _)
theorem zeroV_sound {E : Env} {w : World} {t : TypeId} {z : AV} (h : zeroV P t = some z) : ∃ v, (zeroValue t).run P w = .ok v w ∧ Rep E z v := by
  unfold zeroV at h
  split at h <;> try cases h
  rename_i i hi
  split at h <;> try cases h
  rename_i cs hz
  exact ⟨_, run_zeroValue hi hz w, Rep.aggL (repL_map_avOf E _)⟩
theorem assertF_sound {E : Env} {w : World} {t xt : TypeId} {x v : AV} {u : Value} {ok : Bool} (hx : Rep E x u) (h : assertF P x t ok = some v) : ∃ r, (Instr.typeAssert u xt t ok).run P w = .ok r w ∧ Rep E v r := by
  unfold assertF at h
  split at h <;> try cases h
  rename_i d hd hu
  have pair : ∀ {a b : AV} {p q : Value}, Rep E a p → Rep E b q → Rep E (.tup [a, b]) (.tuple #[p, q]) := fun ha hb => Rep.mkTup (by simpa using RepL.cons ha (RepL.cons hb (RepL.nil E)))
  split at h
  · rename_i t' y
    cases hx with
    | ifc _ _ y' hy =>
      split at h
      · rename_i ht
        subst ht
        cases h
        cases ok
        · refine ⟨y', ?_, hy⟩
          simp only [Instr.typeAssert, Sem.run_bind, run_underlying hu, Result.andThen_ok]
          cases d <;> first | exact absurd rfl (hd _) | simp
        · refine ⟨.tuple #[y', .bool true], ?_, pair hy (.bool _)⟩
          simp only [Instr.typeAssert, Sem.run_bind, run_underlying hu, Result.andThen_ok]
          cases d <;> first | exact absurd rfl (hd _) | simp
      · rename_i ht
        cases ok
        · simp at h
        · simp only [if_true, Option.map_eq_some_iff] at h
          obtain ⟨z, hz, rfl⟩ := h
          obtain ⟨zv, z1, z2⟩ := zeroV_sound (E := E) (w := w) hz
          refine ⟨.tuple #[zv, .bool false], ?_, pair z2 (.bool _)⟩
          simp only [Instr.typeAssert, Sem.run_bind, run_underlying hu, Result.andThen_ok]
          cases d <;> first | exact absurd rfl (hd _) | simp [ht, z1]
  · cases hx
    cases ok
    · simp at h
    · simp only [if_true, Option.map_eq_some_iff] at h
      obtain ⟨z, hz, rfl⟩ := h
      obtain ⟨zv, z1, z2⟩ := zeroV_sound (E := E) (w := w) hz
      refine ⟨.tuple #[zv, .bool false], ?_, pair z2 (.bool _)⟩
      simp only [Instr.typeAssert, Sem.run_bind, run_underlying hu, Result.andThen_ok]
      cases d <;> first | exact absurd rfl (hd _) | simp [z1]
  · cases h

/-- What 'pureF' says, comes to pass. -/
theorem pureF_sound {E : Env} {H : Heap} {w : World} {o : Oper} {ρA : Operand → AV} {ρV : Operand → Value} (hρ : ∀ x, Rep E (ρA x) (ρV x)) (hs : St E H w) {v : AV} (h : pureF P o.op ρA H = some v) :
    ∃ u, (execOp ρV o).run P w = .ok (.value u) w ∧ Rep E v u := by
  have wrap : ∀ {s : Sem Value}, (∃ u, s.run P w = .ok u w ∧ Rep E v u) → ∃ u, (do pure (.value (← s)) : Sem Next).run P w = .ok (.value u) w ∧ Rep E v u :=
    fun ⟨u, h1, h2⟩ => ⟨u, by simp [h1], h2⟩
  obtain ⟨dst, op, type, pos, after, guard⟩ := o
  simp only at h
  unfold pureF at h
  split at h
  · cases h; exact ⟨_, rfl, hρ _⟩
  · cases h; exact ⟨_, rfl, hρ _⟩
  · rename_i c a b
    unfold pickF at h
    split at h <;> try cases h
    rename_i t ht
    have hc := hρ c
    rw [ht] at hc
    have hb := rep_bool hc
    cases t
    · exact ⟨ρV b, by simp [execOp, asBool, hb], by simpa using hρ b⟩
    · exact ⟨ρV a, by simp [execOp, asBool, hb], by simpa using hρ a⟩
  · rename_i t parts
    have := buildF_sound (w := w) (repP_map hρ parts.toList) h
    simp only [execOp]
    refine wrap ?_
    have e : (parts.map fun (i, x) => (i, ρV x)) = (parts.toList.map fun p => (p.1, ρV p.2)).toArray := by
      apply Array.ext'; simp
    rw [e]
    exact this
  · exact wrap (loadF_sound hs (hρ _) h)
  · exact wrap (binF_sound (hρ _) (hρ _) h)
  · exact wrap (unF_sound (hρ _) h)
  · exact wrap (convF_sound (hρ _) h)
  · rename_i fn first captured
    split at h <;> try cases h
    rename_i f hf
    have hf' : first = #[] := Array.toList_eq_nil_iff.1 hf
    subst hf'
    refine ⟨.func (.func f) #[] (captured.map ρV), by simp [execOp, Instr.makeFunc], ?_⟩
    exact Rep.mkFn (by simpa using repL_map hρ captured.toList)
  · rename_i t x lo hi mx
    split at h <;> try cases h
    rename_i hm
    exact wrap (sliceF_sound (hρ _) (repO_map hρ lo) (repO_map hρ hi) (repO_map hρ mx) (by cases mx <;> cases hi <;> simp_all) h)
  · exact wrap (faddrF_sound (hρ _) h)
  · exact wrap (fieldF_sound (hρ _) h)
  · exact wrap (idxF_sound (hρ _) (hρ _) h)
  · exact wrap (indexF_sound (hρ _) (hρ _) h)
  · exact wrap (extrF_sound (hρ _) h)
  · rename_i x
    unfold nilF at h
    split at h <;> try cases h
    · rename_i cs hx
      have hr := hρ x
      rw [hx] at hr
      generalize hu : ρV x = u at *
      have hr' := hr
      cases hr
      exact ⟨_, by simp only [execOp, hu]; rfl, hr'⟩
    · rename_i b o hx
      have hr := hρ x
      rw [hx] at hr
      generalize hu : ρV x = u at *
      have hr' := hr
      cases hr
      exact ⟨_, by simp only [execOp, hu]; rfl, hr'⟩
  · exact wrap (makeIfc_sound (hρ _) h)
  · exact wrap (assertF_sound (hρ _) h)
  · rename_i c
    obtain ⟨callee, args, ts⟩ := c
    simp only at h
    split at h <;> try cases h
    · rename_i x t h1 h2
      have e1 : args = #[x] := by apply Array.ext'; simpa using h1
      have e2 : ts = #[t] := by apply Array.ext'; simpa using h2
      subst e1; subst e2
      have := lenF_sound (w := w) (ty := type) (hρ x) h
      simpa [execOp, resolve, invoke, builtin] using wrap this
    · rename_i x y h1
      have e1 : args = #[x, y] := by apply Array.ext'; simpa using h1
      subst e1
      have := min2F_sound (P := P) (w := w) (ts := ts) (ty := type) (hρ x) (hρ y) h
      simpa [execOp, resolve, invoke, builtin] using wrap this
    · rename_i x y h1
      have e1 : args = #[x, y] := by apply Array.ext'; simpa using h1
      subst e1
      have := max2F_sound (P := P) (w := w) (ts := ts) (ty := type) (hρ x) (hρ y) h
      simpa [execOp, resolve, invoke, builtin] using wrap this
  · cases h

end Go.Av

/- The operations that make memory, write it, or call. -/
namespace Go.Av
variable {P : Program}

/-- What an optional value is handed to. -/
def letO {α : Type} (o : Option α) (k : α → Prop) : Prop := match o with
  | some v => k v
  | none => False

theorem letO_iff {α : Type} {o : Option α} {k : α → Prop} : letO o k ↔ ∃ v, o = some v ∧ k v := by
  cases o <;> simp [letO]

/-- A new variable of one's own. -/
def allocA (z : List AV) (K : AV → Heap → Prop) (H : Heap) : Prop := ∀ b, H b = none → K (.ptr b 0) (H.put b z)
/-- A new slice of one's own, as long as its array. -/
def newRef (sz len cap : Nat) (cells : List AV) (K : AV → Heap → Prop) (H : Heap) : Prop := ∀ b, H b = none → K (.ref sz b 0 len (some cap)) (H.put b cells)
/-- An array that has been made anew by an append. -/
def growA (sz n : Nat) (cells : List AV) (K : AV → Heap → Prop) (H : Heap) : Prop := ∀ b, H b = none → K (.ref sz b 0 n none) (H.put b cells)

/-- A store. -/
def storeA (size : Nat) (a x : AV) (K : Heap → Prop) (H : Heap) : Prop := match a with
  | .ptr b off => ∃ cells cs, H b = some cells ∧ cellsOf? x = some cs ∧ cs.all isScalar = true ∧ cs.length = size ∧ off + cs.length ≤ cells.length ∧ K (H.put b (splice cells off cs))
  | _ => False

/-- The elements of a slice: how many, and their cells. -/
def srcOf (sz : Nat) (x : AV) (H : Heap) : Option (Nat × List AV) := match x with
  | .nils => some (0, [])
  | .imm m _ cells => if cells.length = m * sz then some (m, cells) else none
  | .ref s b off m _ => if s = sz then (H b).bind fun cells => if off + m * sz ≤ cells.length then some (m, (cells.drop off).take (m * sz)) else none else none
  | _ => none

def appendA (sz bytes : Nat) (s x : AV) (K : AV → Heap → Prop) (H : Heap) : Prop :=
  ∃ m new, srcOf sz x H = some (m, new) ∧ new.all isScalar = true ∧ match s with
    | .nils => (m = 0 ∧ K .nils H) ∨ (0 < m ∧ m * bytes ≤ 140737488355328 ∧ m ≤ 140737488355328 ∧ growA sz m new K H)
    | .imm n full cells => (m = 0 ∧ K s H) ∨ (0 < m ∧ full = true ∧ cells.length = n * sz ∧ (n + m) * bytes ≤ 140737488355328 ∧ n + m ≤ 140737488355328 ∧ growA sz (n + m) (cells ++ new) K H)
    | .ref s b off n cp => s = sz ∧ off = 0 ∧ ∃ cells, H b = some cells ∧ n * sz ≤ cells.length ∧ (n + m) * bytes ≤ 140737488355328 ∧ n + m ≤ 140737488355328 ∧ match cp with
      | some c => if n + m ≤ c then K (.ref sz b 0 (n + m) (some c)) (H.put b (splice cells (n * sz) new)) else growA sz (n + m) (cells.take (n * sz) ++ new) K H
      | none => (∀ b', (b' = b ∨ H b' = none) → K (.ref sz b' 0 (n + m) none) ((H.del b).put b' (cells.take (n * sz) ++ new))) ∨ (K (.ref sz b 0 (n + m) none) (H.put b (splice cells (n * sz) new)) ∧ growA sz (n + m) (cells.take (n * sz) ++ new) K H)
    | _ => False

def copyA (sz : Nat) (d x : AV) (K : AV → Heap → Prop) (H : Heap) : Prop :=
  ∃ m src, srcOf sz x H = some (m, src) ∧ src.all isScalar = true ∧ match d with
    | .nils => K (.int .i64 0) H
    | .ref s b off n _ => s = sz ∧ ∃ cells, H b = some cells ∧ off + n * sz ≤ cells.length ∧ K (.int .i64 ((min m n : Nat) : Int)) (H.put b (splice cells off (src.take (min m n * sz))))
    | _ => False

/-- A call of a function value. -/
def callA (P : Program) (f : AV) (args : List AV) (K : AV → Heap → Prop) (H : Heap) : Prop := match f with
  | .fn g caps => ACalls P g (args ++ caps) H K
  | _ => False

def makeA (z : List AV) (sz bytes : Nat) (l c : AV) (K : AV → Heap → Prop) (H : Heap) : Prop := match l, c with
  | .int _ l, .int _ c => 0 ≤ l ∧ l ≤ c ∧ c ≤ 140737488355328 ∧ bytes * c ≤ 140737488355328 ∧ newRef sz l.toNat c.toNat (rowOf z (c.toNat * sz)) K H
  | _, _ => False

def appendC (P : Program) (c : Call) (ρ : Operand → AV) (k : AV → Heap → Prop) (H : Heap) : Prop := match c.args.toList, c.argTypes.toList with
  | [s, x], [t, t'] => match P.underlying t, (P.underlying t' : Option TypeDesc) with
    | some (.slice e), some (.slice _) => match P.info? e with
      | some inf => if inf.zero.map (·.cells.size) ≠ some inf.size ∨ t ≠ t' then False else appendA inf.size inf.bytes (ρ s) (ρ x) k H
      | none => False
    | _, _ => False
  | _, _ => False

def copyC (P : Program) (c : Call) (ρ : Operand → AV) (k : AV → Heap → Prop) (H : Heap) : Prop := match c.args.toList, c.argTypes.toList with
  | [d, x], t :: _ => match P.underlying t with
    | some (.slice e) => match P.info? e with
      | some inf => copyA inf.size (ρ d) (ρ x) k H
      | none => False
    | _ => False
  | _, _ => False

/-- A value is stored where it lies already. -/
def selfA (n : Nat) (a x : AV) (H : Heap) : Prop := match a with
  | .ptr b off => ∃ cells cs, H b = some cells ∧ cellsOf? x = some cs ∧ cs.all isScalar = true ∧ cs.length = n ∧ off + n ≤ cells.length ∧ (cells.drop off).take n = cs
  | _ => False

theorem selfA_storeA {n : Nat} {a x : AV} {K : Heap → Prop} {H : Heap} (h : selfA n a x H) (hk : K H) : storeA n a x K H := by
  unfold selfA at h
  unfold storeA
  split at h
  · rename_i b off
    obtain ⟨cells, cs, h1, h2, h3, h4, h5, h6⟩ := h
    refine ⟨cells, cs, h1, h2, h3, h4, by omega, ?_⟩
    have e : H.put b (splice cells off cs) = H := by
      funext y
      simp only [Heap.put]
      split
      · rename_i hy
        subst hy
        rw [h1]
        congr 1
        unfold splice
        subst h6
        have hl : ((cells.drop off).take n).length = n := h4
        rw [hl, List.append_assoc, ← List.drop_drop, List.take_append_drop, List.take_append_drop]
      · rfl
    rw [e]
    exact hk
  · exact h

/-- How a function is told ('mp': operations on strings' bytes, iterators and maps): 'own': the slots whose new memory is one's own; 'fz': the slots whose loads are from frozen memory; 'anc': of a region that draws its order, what must come before each operation, as bits; 'ga': appends to what is not one's own; 'sf': values that are stored back where they came from. -/
structure Cfg where
  own : Tmp → Bool
  fz : Tmp → Bool
  anc : Nat → List Nat
  ga : Tmp → Bool
  sf : Tmp → Bool
  mp : Tmp → Bool

def selfOf (cfg : Cfg) (x : Operand) : Bool := match x with
  | .tmp t => cfg.sf t
  | _ => false

def isRef : AV → Bool
  | .ref .. => true
  | _ => false

def appG (c : Call) (ρ : Operand → AV) : Prop := match c.args.toList with
  | s :: _ => isRef (ρ s) = false
  | [] => False

def Heap.none : Heap := fun _ => Option.none
def Cfg.heap (cfg : Cfg) (o : Oper) (H : Heap) : Heap := if cfg.fz (o.dst.getD 0) then Heap.none else H

/-- The bytes of a string. -/
def bytesA (s : ByteArray) : List AV := s.data.toList.map fun b => .int .u8 (b.toNat : Int)
/-- The string of bytes. -/
def strOf : List AV → Option (List UInt8)
  | [] => some []
  | .int .u8 n :: l => if 0 ≤ n ∧ n < 256 then (strOf l).map fun r => UInt8.ofNat n.toNat :: r else none
  | _ => none
/-- A map's key is set. -/
def mapSet (kk : IntKind) (n : Int) (v : AV) : List AV → Option (List AV)
  | [] => some [.int kk n, v]
  | .int k' m :: v' :: l => if kk = k' then (if n = m then some (.int kk n :: v :: l) else (mapSet kk n v l).map fun r => .int k' m :: v' :: r) else none
  | _ => none
/-- Which operations are told apart. -/
def isM (cfg : Cfg) (o : Oper) : Bool := match o.op with
  | .range .. | .next .. | .makeMap .. | .mapUpdate .. => true
  | .convert .. => cfg.mp (o.dst.getD 0)
  | .call c => match c.callee with
    | .builtin .clear => true
    | .builtin .len => cfg.mp (o.dst.getD 0)
    | _ => false
  | _ => false
def rangeA (x : AV) (put : AV → Heap → Prop) (H : Heap) : Prop := match x with
  | .str s => ∀ b, H b = none → put (.iter b s) (H.put b [.int .i64 0])
  | _ => False
def nextA (x : AV) (put : AV → Heap → Prop) (H : Heap) : Prop := match x with
  | .iter b s => ∃ pos : Nat, H b = some [.int .i64 (pos : Int)] ∧
      match s[pos]? with
      | some c => c.toNat < 128 ∧ put (.tup [.bool true, .int .i64 (pos : Int), .int .i32 (c.toNat : Int)]) (H.put b [.int .i64 ((pos + 1 : Nat) : Int)])
      | none => put (.tup [.bool false]) H
  | _ => False
def toBytesA (x : AV) (put : AV → Heap → Prop) (H : Heap) : Prop := match x with
  | .str s => put (.imm s.size false (bytesA s)) H
  | _ => False
def toStrA (x : AV) (put : AV → Heap → Prop) (H : Heap) : Prop := ∃ n cells l, srcOf 1 x H = some (n, cells) ∧ strOf cells = some l ∧ put (.str ⟨l.toArray⟩) H
def newMapA (put : AV → Heap → Prop) (H : Heap) : Prop := ∀ b, H b = none → put (.mapv b) (H.put b [])
def setMapA (kk : IntKind) (m k x : AV) (put : AV → Heap → Prop) (H : Heap) : Prop := match m, k with
  | .mapv b, .int kk' n => kk = kk' ∧ ∃ cells cells', H b = some cells ∧ mapSet kk n x cells = some cells' ∧ put .any (H.put b cells')
  | _, _ => False
def lenMapA (m : AV) (put : AV → Heap → Prop) (H : Heap) : Prop := match m with
  | .mapv b => ∃ cells, H b = some cells ∧ put (.int .i64 ((cells.length / 2 : Nat) : Int)) H
  | _ => False
def clrMapA (m : AV) (put : AV → Heap → Prop) (H : Heap) : Prop := match m with
  | .mapv b => H b ≠ none ∧ put (.tup []) (H.put b [])
  | _ => False
/-- Operations on strings' bytes, iterators and maps. -/
def aopM (P : Program) (o : Oper) (ρ : Operand → AV) (put : AV → Heap → Prop) (H : Heap) : Prop := match o.op with
  | .range t x => match P.underlying t with
    | some .string => rangeA (ρ x) put H
    | _ => False
  | .next x true => nextA (ρ x) put H
  | .convert s d x => match P.underlying s, P.underlying d with
    | some .string, some (.slice e) => match P.underlying e with
      | some (.int .u8) => toBytesA (ρ x) put H
      | _ => False
    | some (.slice e), some .string => match P.underlying e with
      | some (.int .u8) => toStrA (ρ x) put H
      | _ => False
    | _, _ => False
  | .makeMap _ none => newMapA put H
  | .mapUpdate t m k x => match P.underlying t with
    | some (.map kt _) => match P.underlying kt with
      | some (.int kk) => setMapA kk (ρ m) (ρ k) (ρ x) put H
      | _ => False
    | _ => False
  | .call c => match c.callee, c.args.toList, c.argTypes.toList with
    | .builtin .len, [x], [t] => match P.underlying t with
      | some (.map _ _) => lenMapA (ρ x) put H
      | _ => False
    | .builtin .clear, [x], [t] => match P.underlying t with
      | some (.map _ _) => clrMapA (ρ x) put H
      | _ => False
    | _, _, _ => False
  | _ => False

/-- What an operation does, handed on by its value. -/
def aopv (P : Program) (cfg : Cfg) (o : Oper) (T : Slots) (put : AV → Heap → Prop) (H : Heap) : Prop :=
  let ρ := evalA P T
  if isM cfg o then aopM P o ρ put H else
  match o.op with
  | .alloc t => letO (zeroF P t) fun z => allocA z put H
  | .box _ x => letO (cellsOf? (ρ x)) fun cs => if cfg.own (o.dst.getD 0) then allocA cs put H else put (.iptr cs) H
  | .buildSlice t len parts => match P.underlying t with
    | some (.slice e) => letO (literalF P t len (parts.toList.map fun p => (p.1, ρ p.2))) fun cells =>
      if cfg.own (o.dst.getD 0) then newRef (P.cellsOf e) len len cells put H else put (.imm len true cells) H
    | _ => False
  | .makeSlice t l c => match P.underlying t with
    | some (.slice e) => match zeroF P e, P.info? e with
      | some z, some inf => if z.length ≠ inf.size ∨ z.length = 0 then False else makeA z inf.size inf.bytes (ρ l) (ρ c) put H
      | _, _ => False
    | _ => False
  | .store t a x => match P.info? t with
    | some i => if selfOf cfg x then selfA i.size (ρ a) (ρ x) H ∧ put .any H else storeA i.size (ρ a) (ρ x) (put .any) H
    | none => False
  | .call c => match c.callee with
    | .builtin .append => if cfg.ga (o.dst.getD 0) then appG c ρ ∧ appendC P c ρ put H else appendC P c ρ put H
    | .builtin .copy => copyC P c ρ put H
    | .builtin _ => letO (pureF P o.op ρ (cfg.heap o H)) fun v => put v H
    | .value f => callA P (ρ f) (c.args.toList.map ρ) put H
    | _ => False
  | _ => letO (pureF P o.op ρ (cfg.heap o H)) fun v => put v H

/-- What an operation does. -/
def aop (P : Program) (N : Nat) (cfg : Cfg) (o : Oper) (K : Slots → Heap → Prop) (T : Slots) (H : Heap) : Prop :=
  aopv P cfg o T (fun v H => K (T.put N o.dst v) H) H

/-- The state that stands for what the frame and the world are. -/
def Lift (P : Program) (N : Nat) (E0 : Env) (H0 : Heap) (w0 : World) (K : Slots → Heap → Prop) (a : Act) (w : World) : Prop :=
  ∃ T H E, K T H ∧ St E H w ∧ RepT P N E T a.tmps ∧ Ext E0 H0 w0 E H w ∧ a.defers = []

theorem srcOf_spec {E : Env} {H : Heap} {w : World} (hs : St E H w) {x : AV} {u : Value} (hx : Rep E x u) {sz m : Nat} {new : List AV} (h : srcOf sz x H = some (m, new)) :
    ∃ (ao : Option Addr) (c : Nat) (vs : List Value), u = .slice ao m c ∧ RepL E new vs ∧ new.length = m * sz ∧ (ao = none → m = 0) ∧ (∀ a, ao = some a → ∀ j v, vs[j]? = some v → w.cell? (a.add j) = some v) := by
  have gen : ∀ {b off : Nat} {c : Array Value} {T : TypeId} {fr : Nat × Nat} {cells : List AV} (n cap : Nat), w.heap[b]? = some (.cells c T fr) → CellsAt E c off cells → cells.length = n * sz →
      ∃ (ao : Option Addr) (c : Nat) (vs : List Value), Value.slice (some ⟨b, off, none⟩) n cap = .slice ao n c ∧ RepL E cells vs ∧ cells.length = n * sz ∧ (ao = none → n = 0) ∧ (∀ a, ao = some a → ∀ j v, vs[j]? = some v → w.cell? (a.add j) = some v) := by
    intro b off c T fr cells n cap hb hat hl
    obtain ⟨vs, _, h2, h3⟩ := run_loadCells_at (P := (default : Program)) hb hat (Nat.le_refl _)
    rw [List.take_length] at h2
    exact ⟨_, cap, vs, rfl, h2, hl, by simp, fun a ha => by cases ha; exact h3⟩
  unfold srcOf at h
  split at h <;> try cases h
  · cases hx
    exact ⟨none, 0, [], rfl, RepL.nil E, by simp, fun _ => rfl, fun a ha => by cases ha⟩
  · rename_i n full cells
    split at h <;> try cases h
    rename_i hl
    cases hx with
    | immE _ a cap h1 => exact ⟨a, cap, [], rfl, RepL.nil E, by simp, fun _ => rfl, fun a ha j v hj => by simp at hj⟩
    | imm _ _ _ b off cap c T fr vs g1 g2 g3 g4 g5 => exact gen m cap (hs.frz _ _ g1) (.of g4 g5) hl
  · rename_i s b off n cp
    split at h <;> try cases h
    rename_i hsz
    simp only [Option.bind_eq_some_iff] at h
    obtain ⟨cells, hc, h⟩ := h
    split at h <;> try cases h
    rename_i hl
    cases hx with
    | ref _ _ _ _ _ cap s' g1 g2 g3 g4 =>
      obtain ⟨_, c, T, h2, h3⟩ := hs.cells hc g3
      exact gen m cap h2 (by simpa using (h3.drop off).take (m * sz)) (by simp; omega)

theorem all_scalar {E : Env} {xs : List AV} {vs : List Value} (h : RepL E xs vs) (hs : xs.all isScalar = true) : ∀ v ∈ vs, v.oneCell' = true := by
  intro v hv
  obtain ⟨i, hi, rfl⟩ := List.mem_iff_getElem.1 hv
  have hi' : i < xs.length := by rw [h.1]; exact hi
  exact (h.2 i hi' hi).scalar (List.all_eq_true.1 hs _ (List.getElem_mem hi')) |>.1

theorem CellsAt.ofA {E : Env} {xs : List AV} {vs : List Value} (h : RepL E xs vs) (rest : Array Value) : CellsAt E (vs.toArray ++ rest) 0 xs := fun i hi => by
  have hi' : i < vs.length := by rw [← h.1]; exact hi
  exact ⟨vs[i], by simp [Array.getElem?_append_left, hi'], h.2 i hi hi'⟩

theorem CellsAt.ofL {E : Env} {xs : List AV} {vs : List Value} (h : RepL E xs vs) (rest : List Value) : CellsAt E (vs ++ rest).toArray 0 xs := fun i hi => by
  have hi' : i < vs.length := by rw [← h.1]; exact hi
  exact ⟨vs[i], by simp [List.getElem?_append_left hi'], h.2 i hi hi'⟩


section sound
variable {N : Nat} {cfg : Cfg} {E0 : Env} {H0 : Heap} {w0 : World}

/-- Closing a step. -/
theorem lift_put {K : Slots → Heap → Prop} {T : Slots} {a : Act} {d : Option Tmp} {v : AV} {u : Value} {E : Env} {H' : Heap} {w w' : World} {H : Heap} {E' : Env}
    (hT : RepT P N E T a.tmps) (hx : Ext E0 H0 w0 E H w) (hd : a.defers = []) (hs : St E' H' w') (hx' : Ext E H w E' H' w') (hv : Rep E' v u) (hk : K (T.put N d v) H') :
    Lift P N E0 H0 w0 K (a.put d u) w' :=
  ⟨_, H', E', hk, hs, (hT.mono hx'.env).put hv d, hx.trans hx', by cases d <;> exact hd⟩

theorem wp_value {o : Oper} {a : Act} {w w' : World} {u : Value} {K : Act → World → Prop} {Q : Exit → Act → World → Prop} (h : (execOp a.eval o).run P w = .ok (.value u) w') (hk : K (a.put o.dst u) w') : o.wp P a w K Q := by
  unfold Oper.wp
  rw [h]
  exact hk

theorem allocA_sound {K : Slots → Heap → Prop} {T : Slots} {H : Heap} {o : Oper} {a : Act} {w : World} {E : Env} {Q : Exit → Act → World → Prop} {z : List AV} {c : Array Value} {e : TypeId}
    (h : allocA z (fun v H => K (T.put N o.dst v) H) H) (hs : St E H w) (hT : RepT P N E T a.tmps) (hx : Ext E0 H0 w0 E H w) (hd : a.defers = []) (hc : CellsAt E c 0 z)
    (hrun : (execOp a.eval o).run P w = .ok (.value (.pointer (some ⟨w.heap.size, 0, none⟩))) (w.alloc (.cells c e))) : o.wp P a w (Lift P N E0 H0 w0 K) Q := by
  obtain ⟨h1, h2⟩ := hs.allocOwn (T := e) hc
  exact wp_value hrun (lift_put hT hx hd h1 h2 (.ptr _ _ c.size (by simp [Env.addS])) (h _ hs.fresh))

theorem newRef_sound {K : Slots → Heap → Prop} {T : Slots} {H : Heap} {o : Oper} {a : Act} {w : World} {E : Env} {Q : Exit → Act → World → Prop} {sz len cap : Nat} {cells : List AV} {c : Array Value} {e : TypeId}
    (h : newRef sz len cap cells (fun v H => K (T.put N o.dst v) H) H) (hs : St E H w) (hT : RepT P N E T a.tmps) (hx : Ext E0 H0 w0 E H w) (hd : a.defers = []) (hc : CellsAt E c 0 cells) (hl : len ≤ cap) (hsz : cap * sz ≤ c.size)
    (hrun : (execOp a.eval o).run P w = .ok (.value (.slice (some ⟨w.heap.size, 0, none⟩) len cap)) (w.alloc (.cells c e))) : o.wp P a w (Lift P N E0 H0 w0 K) Q := by
  obtain ⟨h1, h2⟩ := hs.allocOwn (T := e) hc
  exact wp_value hrun (lift_put hT hx hd h1 h2 (.ref _ _ _ _ _ cap c.size (fun c hc => by cases hc; rfl) hl (by simp [Env.addS]) (by omega)) (h _ hs.fresh))

/-- The world with another draw is the same to us. -/
theorem St.drew {E : Env} {H : Heap} {w : World} (h : St E H w) : St E H w.drew := h.heap rfl
theorem Ext.drew {E : Env} {H : Heap} {w : World} : Ext E H w E H w.drew := (Ext.refl E H w).heap rfl rfl rfl

theorem growA_sound {K : Slots → Heap → Prop} {T : Slots} {H H1 : Heap} {o : Oper} {a : Act} {w : World} {E : Env} {Q : Exit → Act → World → Prop} {sz n cap : Nat} {cells : List AV} {c : Array Value} {e : TypeId}
    (hsub : ∀ b c, H1 b = some c → H b = some c) (h : ∀ b, H b = none → K (T.put N o.dst (.ref sz b 0 n none)) (H1.put b cells)) (hs : St E H w) (hT : RepT P N E T a.tmps) (hx : Ext E0 H0 w0 E H w) (hd : a.defers = []) (hc : CellsAt E c 0 cells) (hl : n ≤ cap) (hsz : cap * sz ≤ c.size)
    (hrun : (execOp a.eval o).run P w = .ok (.value (.slice (some ⟨w.heap.size, 0, none⟩) n cap)) (w.drew.alloc (.cells c e))) : o.wp P a w (Lift P N E0 H0 w0 K) Q := by
  obtain ⟨h1, h2⟩ := (hs.drew.weaken hsub).allocOwn (T := e) hc
  have h3 : Ext E H w (E.addS w.drew.heap.size c.size) (H1.put w.drew.heap.size cells) (w.drew.alloc (.cells c e)) :=
    ⟨h2.env, h2.size, fun b hb hn => h2.frame b hb (by cases hx : H1 b with | none => rfl | some c => rw [hsub b c hx] at hn; cases hn),
      fun b hb => (h2.domH b hb).imp (fun h => by cases hx : H1 b with | none => exact absurd hx h | some c => rw [hsub b c hx]; simp) id,
      fun b hb => (h2.domF b hb).imp id (Or.imp (fun h => by cases hx : H1 b with | none => exact absurd hx h | some c => rw [hsub b c hx]; simp) id), h2.os, h2.output, h2.sI⟩
  exact wp_value hrun (lift_put hT hx hd h1 h3 (.ref _ _ _ _ _ cap c.size (fun c hc => by cases hc) hl (by simp [Env.addS]) (by omega)) (h _ hs.fresh))

theorem zeroF_run {t : TypeId} {z : List AV} (h : zeroF P t = some z) (E : Env) (w : World) : ∃ v, (zeroValue t).run P w = .ok v w ∧ RepL E z v.cells.toList := by
  obtain ⟨i, v, hi, hv, rfl⟩ := zeroF_spec h
  exact ⟨v, run_zeroValue hi hv w, repL_map_avOf E _⟩

theorem run_newVar (t : TypeId) (v : Value) (w : World) : (newVar t v).run P w = .ok ⟨w.heap.size, 0, none⟩ (w.alloc (.cells v.cells t)) := by
  simp [newVar, newRow]


theorem run_append_none (t ty e : TypeId) (i : TypeInfo) (ht : P.underlying t = some (.slice e)) (hi : P.info? e = some i) (base ao : Option Addr) (n cap c : Nat) (hn : n ≤ cap) (w : World) :
    (Builtin.append_ #[t, t] ty #[.slice base n cap, .slice ao 0 c]).run P w = .ok (.slice base n cap) w := by
  cases base <;> cases ao <;> simp [Builtin.append_, run_underlying ht, sizeOf, typeInfo, hi, Builtin.lenOf, hn, Builtin.firstCells, loadCells, loadCellsFrom, storeCells]

theorem run_append_inplace (w : World) (t ty e : TypeId) (i : TypeInfo) (ht : P.underlying t = some (.slice e)) (hi : P.info? e = some i)
    (g sLen sCap : Nat) (cur : Array Value) (T : TypeId) (hg : w.heap[g]? = some (.cells cur T (0, 0)))
    (a : Addr) (m c : Nat) (news : List Value) (hl : news.length = m * i.size) (hnews : ∀ j u, news[j]? = some u → w.cell? (a.add j) = some u) (h1 : ∀ u ∈ news, u.oneCell' = true)
    (hroom : sLen + m ≤ sCap) (hfit : sLen * i.size + news.length ≤ cur.size) :
    (Builtin.append_ #[t, t] ty #[.slice (some ⟨g, 0, none⟩) sLen sCap, .slice (some a) m c]).run P w =
      .ok (.slice (some ⟨g, 0, none⟩) (sLen + m) sCap) (w.setRow g (cur.toList.take (sLen * i.size) ++ news ++ cur.toList.drop (sLen * i.size + news.length)).toArray) := by
  have hf := run_firstCells_some (P := P) w i.size m a m c news hl hnews
  have hst := run_storeCells_at P g (sLen * i.size) T news 0 cur w hg (by simpa using hfit) h1
  simp only [Nat.add_zero] at hst
  have hadd : (⟨g, 0, none⟩ : Addr).add (sLen * i.size) = ⟨g, sLen * i.size, none⟩ := by rw [addr_add]; simp
  simp [Builtin.append_, run_underlying ht, sizeOf, typeInfo, hi, Builtin.lenOf, hroom, hf, hadd, hst]

theorem size_setRow (w : World) (g : Nat) (cs : Array Value) : (w.setRow g cs).heap.size = w.heap.size := by simp [World.setRow]

/-- One's own block is written by the model's own row. -/
theorem St.setRow {E : Env} {H : Heap} {w : World} (h : St E H w) {b sz : Nat} (hsb : E.S b = some sz) {cells cs : List AV} (hb : H b = some cells) {c c' : Array Value} {T : TypeId} (hc : w.heap[b]? = some (.cells c T (0, 0)))
    (hs : c'.size = c.size) (hat : CellsAt E c' 0 cs) : St E (H.put b cs) (w.setRow b c') ∧ Ext E H w E (H.put b cs) (w.setRow b c') :=
  h.write hsb hb hc (fun i hi => setRow_other w b i c' hi) (setRow_heap w b c c' T _ hc) (size_setRow w b c') hs hat rfl rfl

theorem repL_row {E : Env} {c : Array Value} {cells : List AV} (h : CellsAt E c 0 cells) : RepL E cells (c.toList.take cells.length) := by
  have hle : cells.length ≤ c.size := by
    rcases Nat.lt_or_ge c.size cells.length with hlt | hge
    · obtain ⟨v, h1, _⟩ := h c.size hlt
      simp at h1
    · exact hge
  refine ⟨by simp; omega, fun i h1 h2 => ?_⟩
  obtain ⟨v, h3, h4⟩ := h i h1
  have hi : i < c.size := by omega
  simp [hi] at h3
  simp [h3, h4]

/-- What is stored lies among what was known. -/
theorem cells_splice {E : Env} {c : Array Value} {cells cs : List AV} (h : CellsAt E c 0 cells) {vs : List Value} (hv : RepL E cs vs) (off : Nat) (ho : off ≤ cells.length) :
    CellsAt E (c.toList.take off ++ vs ++ c.toList.drop (off + vs.length)).toArray 0 (splice cells off cs) := by
  have hrow := repL_row h
  have hle : cells.length ≤ c.size := by have := hrow.1; simp at this; omega
  have h1 : RepL E (cells.take off) (c.toList.take off) := by
    have := hrow.take off
    rwa [List.take_take, Nat.min_eq_left ho] at this
  have h2 : RepL E (cells.drop (off + cs.length)) ((c.toList.take cells.length).drop (off + cs.length)) := hrow.drop _
  have e : c.toList.take off ++ vs ++ c.toList.drop (off + vs.length) = (c.toList.take off ++ vs ++ (c.toList.take cells.length).drop (off + cs.length)) ++ (if off + cs.length ≤ cells.length then c.toList.drop cells.length else c.toList.drop (off + vs.length)) := by
    rw [hv.1]
    have hlen : (c.toList.take cells.length).length = cells.length := by simp; omega
    split
    · rename_i hle'
      rw [List.append_assoc (c.toList.take off ++ vs), ← List.drop_append_of_le_length (by omega), List.take_append_drop]
    · rename_i hgt
      rw [List.drop_eq_nil_of_le (as := c.toList.take cells.length) (by omega)]
      simp
  rw [e]
  exact CellsAt.ofL ((h1.append hv).append h2) _

theorem Heap.del_put (H : Heap) (b : Nat) (c : List AV) : (H.del b).put b c = H.put b c := by
  funext x; simp only [Heap.put, Heap.del]; split <;> rfl

theorem append_sound {K : Slots → Heap → Prop} {T : Slots} {H : Heap} {o : Oper} {a : Act} {w : World} {E : Env} {Q : Exit → Act → World → Prop} {s x : Operand} {t e : TypeId} {inf : TypeInfo} {zv : Value}
    (ho : o.op = .call { callee := .builtin .append, args := #[s, x], argTypes := #[t, t] }) (ht : P.underlying t = some (.slice e)) (hi : P.info? e = some inf) (hz : inf.zero = some zv)
    (h : appendA inf.size inf.bytes (evalA P T s) (evalA P T x) (fun v H => K (T.put N o.dst v) H) H) (hs : St E H w) (hT : RepT P N E T a.tmps) (hx : Ext E0 H0 w0 E H w) (hd : a.defers = []) (hzs : zv.cells.size = inf.size) :
    o.wp P a w (Lift P N E0 H0 w0 K) Q := by
  have run : ∀ {u v : Value} {w' : World}, (Builtin.append_ #[t, t] o.type #[a.eval s, a.eval x]).run P w = .ok u w' → (execOp a.eval o).run P w = .ok (.value u) w' := by
    intro u v w' hr
    unfold execOp
    simp only [ho, resolve, invoke, builtin, Sem.run_bind, Sem.run_pure, Result.andThen_ok, List.map_toArray, List.map_cons, List.map_nil, hr]
  unfold appendA at h
  obtain ⟨m, new, hsrc, hsc, h⟩ := h
  obtain ⟨ao, c, vs, hxe, hnew, hnl, hao, hcell⟩ := srcOf_spec hs (hT.eval x) hsrc
  have hvl : vs.length = m * inf.size := by rw [← hnew.1, hnl]
  have hsu := hT.eval s
  rw [hxe] at run
  -- the three ways
  have same : ∀ {base : Option Addr} {n cap : Nat} {v : AV}, m = 0 → a.eval s = .slice base n cap → n ≤ cap → K (T.put N o.dst v) H → Rep E v (.slice base n cap) → o.wp P a w (Lift P N E0 H0 w0 K) Q := by
    intro base n cap v hm hse hn hk hr
    subst hm
    rw [hse] at run
    exact wp_value (run (v := undef) (run_append_none t o.type e inf ht hi base ao n cap c hn w)) (lift_put hT hx hd hs (Ext.refl _ _ _) hr hk)
  have grow : ∀ {H1 : Heap} {base : Option Addr} {n cap : Nat} {olds : List Value} {cells : List AV}, (∀ b c, H1 b = some c → H b = some c) → a.eval s = .slice base n cap → cap < n + m → olds.length = n * inf.size → (∀ b, base = some b → ∀ j v, olds[j]? = some v → w.cell? (b.add j) = some v) → (base = none → n = 0 ∧ cap = 0) →
      RepL E cells olds → 0 < m → (n + m) * inf.bytes ≤ 140737488355328 → n + m ≤ 140737488355328 → (∀ b, H b = none → K (T.put N o.dst (.ref inf.size b 0 (n + m) none)) (H1.put b (cells ++ new))) → o.wp P a w (Lift P N E0 H0 w0 K) Q := by
    intro H1 base n cap olds cells hsub hse hlt hol hoc hbn hcells hm hb hsm hk
    cases ao with
    | none => have := hao rfl; omega
    | some ad =>
      rw [hse] at run
      have hcap := grownCap_ge w (n + m) cap e
      have hsz : ∀ k, (Builtin.zeroCells zv.cells k).size = k * inf.size := fun k => by rw [size_zeroCells, hzs]
      cases base with
      | none =>
        obtain ⟨rfl, rfl⟩ := hbn rfl
        have ho0 : olds = [] := List.eq_nil_of_length_eq_zero (by simpa using hol)
        subst ho0
        have hc0 : cells = [] := List.eq_nil_of_length_eq_zero (by simpa using hcells.1)
        subst hc0
        simp only [Nat.zero_add, List.nil_append] at *
        have hr := run_append_nil (P := P) w t o.type e inf zv ht hi hz ad m c vs hvl (hcell ad rfl) hm (by omega) (by omega)
        exact growA_sound hsub hk hs hT hx hd (CellsAt.ofA (E := E) hnew (Builtin.zeroCells zv.cells (grownCap w m 0 e - m))) hcap (by simp [hvl, hsz, ← Nat.add_mul]; exact Nat.le_of_eq (by congr 1; omega)) (run (v := undef) hr)
      | some b =>
        have hr := run_append_grow (P := P) w t o.type e inf zv ht hi hz b n cap olds hol (hoc b rfl) ad m c vs hvl (hcell ad rfl) hlt (by omega) (growslice_fits hlt hb)
        exact growA_sound hsub hk hs hT hx hd (CellsAt.ofA (E := E) (hcells.append hnew) (Builtin.zeroCells zv.cells (grownCap w (n + m) cap e - (n + m)))) hcap
          (by simp [hvl, hol, hsz, ← Nat.add_mul]; exact Nat.le_of_eq (by congr 1; omega)) (run (v := undef) (by simpa using hr))
  generalize hsv : evalA P T s = sv at *
  generalize hsr : a.eval s = su at *
  cases sv <;> try exact h.elim
  case nils =>
    cases hsu
    rcases h with ⟨hm, hk⟩ | ⟨hm, hb, hsm, hk⟩
    · exact same hm rfl (Nat.le_refl _) hk .nils
    · exact grow (n := 0) (cap := 0) (olds := []) (cells := []) (fun _ _ h => h) rfl (by omega) (by simp) (fun b hb => by cases hb) (fun _ => ⟨rfl, rfl⟩) (RepL.nil E) hm (by simpa using hb) (by omega) (fun b hb => by simpa using hk b hb)
  case imm n full cells =>
    rcases h with ⟨hm, hk⟩ | ⟨hm, hfull, hcl, hb, hsm, hk⟩
    · obtain ⟨base, cap, rfl, hn⟩ : ∃ base cap, su = .slice base n cap ∧ n ≤ cap := by
        cases hsu with
        | immE _ a cap _ => exact ⟨a, cap, rfl, Nat.zero_le _⟩
        | imm _ _ _ b off cap _ _ _ _ _ _ g3 => exact ⟨_, cap, rfl, g3⟩
      exact same hm rfl hn hk hsu
    · cases hsu with
      | immE _ base cap g1 =>
        have : cap = 0 := g1 hfull
        subst this
        exact grow (n := 0) (cap := 0) (olds := []) (cells := []) (fun _ _ h => h) rfl (by omega) (by simp) (fun b hb j v hj => by simp at hj) (fun _ => ⟨rfl, rfl⟩) (RepL.nil E) hm hb hsm hk
      | imm _ _ _ b off cap cc TT fr vvs g1 g2 g3 g4 g5 =>
        have : cap = n := g2 hfull
        subst this
        obtain ⟨olds, _, h2, h3⟩ := run_loadCells_at (P := P) (hs.frz _ _ g1) (.of g4 g5) (Nat.le_refl _)
        rw [List.take_length] at h2
        exact grow (olds := olds) (cells := cells) (fun _ _ h => h) rfl (by omega) (by rw [← h2.1, hcl]) (fun b hb => by cases hb; exact h3) (fun hb => by cases hb) h2 hm hb hsm hk
  case ref sz b off n cp =>
    obtain ⟨rfl, rfl, cells, hH, hnc, hb, hsm, h⟩ := h
    cases hsu with
    | ref _ _ _ _ _ cap sB g1 g2 g3 g4 =>
      obtain ⟨hF, cc, TT, hcc, hat⟩ := hs.cells hH g3
      obtain ⟨cc', TT', fr', hcc', hccs⟩ := hs.siz _ _ g3
      rw [hcc] at hcc'; cases hcc'
      obtain ⟨olds, _, h2, h3⟩ := run_loadCells_at (P := P) hcc (hat.take (n * inf.size)) (Nat.le_refl _)
      rw [List.take_length] at h2
      have hol : olds.length = n * inf.size := by rw [← h2.1]; simp; omega
      have hbits : n + m ≤ cap → n * inf.size + vs.length ≤ cc.size := by
        intro hr
        have h5 : (n + m) * inf.size ≤ cap * inf.size := Nat.mul_le_mul_right _ hr
        rw [Nat.add_mul] at h5
        omega
      have place : ∀ (cp' : Option Nat) (H' : Heap) (cs : List AV), n + m ≤ cap → (∀ c', cp' = some c' → cap = c') → H' = H.put b cs → cs = splice cells (n * inf.size) new ∨ cs = cells.take (n * inf.size) ++ new → K (T.put N o.dst (.ref inf.size b 0 (n + m) cp')) H' → o.wp P a w (Lift P N E0 H0 w0 K) Q := by
        intro cp' H' cs hroom hcp hH' hcs hk
        subst hH'
        have hsp := cells_splice hat hnew (n * inf.size) hnc
        have hcs' : CellsAt E (cc.toList.take (n * inf.size) ++ vs ++ cc.toList.drop (n * inf.size + vs.length)).toArray 0 cs := by
          rcases hcs with rfl | rfl
          · exact hsp
          · have := hsp.take (n * inf.size + new.length)
            have e2 : (splice cells (n * inf.size) new).take (n * inf.size + new.length) = cells.take (n * inf.size) ++ new := by
              unfold splice; exact List.take_left' (by simp; omega)
            rwa [e2] at this
        have hfit := hbits hroom
        have hss : (cc.toList.take (n * inf.size) ++ vs ++ cc.toList.drop (n * inf.size + vs.length)).toArray.size = cc.size := by simp; omega
        obtain ⟨s1, s2⟩ := hs.setRow g3 hH hcc hss hcs'
        have hrep : Rep E (.ref inf.size b 0 (n + m) cp') (.slice (some ⟨b, 0, none⟩) (n + m) cap) := .ref _ _ _ _ _ cap sB hcp hroom g3 g4
        cases ao with
        | none =>
          have hm0 := hao rfl
          subst hm0
          have hv0 : vs = [] := List.eq_nil_of_length_eq_zero (by simpa using hvl)
          subst hv0
          have hself : w.setRow b (cc.toList.take (n * inf.size) ++ [] ++ cc.toList.drop (n * inf.size + ([] : List Value).length)).toArray = w := by
            simp only [List.append_nil, List.length_nil, Nat.add_zero, List.take_append_drop, Array.toArray_toList]
            exact setRow_self w b cc TT _ hcc
          rw [hself] at s1 s2
          exact wp_value (run (v := undef) (run_append_none t o.type e inf ht hi _ none n cap c g2 w)) (lift_put hT hx hd s1 s2 hrep hk)
        | some ad =>
          exact wp_value (run (v := undef) (run_append_inplace w t o.type e inf ht hi b n cap cc TT hcc ad m c vs hvl (hcell ad rfl) (all_scalar hnew hsc) hroom hfit)) (lift_put hT hx hd s1 s2 hrep hk)
      cases cp with
      | some cv =>
        have hcv := g1 cv rfl
        subst hcv
        simp only at h
        split at h
        · rename_i hroom
          exact place (some cap) _ _ hroom (fun c' hc' => by cases hc'; rfl) rfl (.inl rfl) h
        · rename_i hroom
          exact grow (olds := olds) (cells := cells.take (n * inf.size)) (fun _ _ h => h) rfl (by omega) hol (fun b hb => by cases hb; exact h3) (fun hb => by cases hb) h2 (by omega) hb hsm h
      | none =>
        simp only at h
        rcases h with h | ⟨h, h'⟩
        · by_cases hroom : n + m ≤ cap
          · exact place none _ _ hroom (fun c' hc' => by cases hc') (Heap.del_put H b _) (.inr rfl) (h b (.inl rfl))
          · exact grow (H1 := H.del b) (olds := olds) (cells := cells.take (n * inf.size)) (fun b' c' hb' => by simp only [Heap.del] at hb'; split at hb' <;> simp_all) rfl (by omega) hol
              (fun b hb => by cases hb; exact h3) (fun hb => by cases hb) h2 (by omega) hb hsm (fun b' hb' => h b' (.inr hb'))
        · by_cases hroom : n + m ≤ cap
          · exact place none _ _ hroom (fun c' hc' => by cases hc') rfl (.inl rfl) h
          · exact grow (olds := olds) (cells := cells.take (n * inf.size)) (fun _ _ h => h) rfl (by omega) hol (fun b hb => by cases hb; exact h3) (fun hb => by cases hb) h2 (by omega) hb hsm h'

end sound
end Go.Av

/- Every operation, as told. -/
namespace Go.Av
variable {P : Program} {N : Nat} {cfg : Cfg} {E0 : Env} {H0 : Heap} {w0 : World}
variable {K : Slots → Heap → Prop} {T : Slots} {H : Heap} {o : Oper} {a : Act} {w : World} {E : Env} {Q : Exit → Act → World → Prop}

theorem store_sound {t : TypeId} {p x : Operand} {i : TypeInfo} (ho : o.op = .store t p x) (hi : P.info? t = some i)
    (h : storeA i.size (evalA P T p) (evalA P T x) (fun H => K (T.put N o.dst .any) H) H) (hs : St E H w) (hT : RepT P N E T a.tmps) (hx : Ext E0 H0 w0 E H w) (hd : a.defers = []) : o.wp P a w (Lift P N E0 H0 w0 K) Q := by
  have hp := hT.eval p
  have hv := hT.eval x
  unfold storeA at h
  split at h
  · rename_i b off hpe
    rw [hpe] at hp
    obtain ⟨cells, cs, hH, hcs, hsc, hlen, hle, hk⟩ := h
    generalize hpv : a.eval p = pv at hp
    cases hp with | ptr _ _ szB hszB =>
    obtain ⟨hF, c, TT, hcc, hat⟩ := hs.cells hH hszB
    have hrl := cellsOf?_rep hv hcs
    have hrow := repL_row hat
    have hcl : cells.length ≤ c.size := by have := hrow.1; simp at this; omega
    have hvl : (a.eval x).cells.size = cs.length := hrl.len.symm
    have hst := run_storeCells_at P b off TT (a.eval x).cells.toList 0 c w hcc (by simp; omega) (by simpa using all_scalar hrl hsc)
    have hsp := cells_splice hat hrl off (by omega)
    simp only [Nat.add_zero, Array.length_toList] at hst hsp
    obtain ⟨s1, s2⟩ := hs.setRow hszB hH hcc (c' := (c.toList.take off ++ (a.eval x).cells.toList ++ c.toList.drop (off + (a.eval x).cells.size)).toArray) (by simp; omega) hsp
    have hrun : (execOp a.eval o).run P w = .ok .skip (w.setRow b (c.toList.take off ++ (a.eval x).cells.toList ++ c.toList.drop (off + (a.eval x).cells.size)).toArray) := by
      have hne : ¬ ((a.eval x).cells.size ≠ i.size) := by omega
      simp only [execOp, ho, Instr.storeAt, Instr.sureAddr, hpv, Sem.run_bind, Sem.run_pure, Result.andThen_ok, storeVar, run_sizeOf hi, if_neg hne, hst]
    unfold Oper.wp
    rw [hrun]
    exact lift_put hT hx hd s1 s2 (.any _) hk
  · exact h.elim

theorem copy_sound {d x : Operand} {ts : Array TypeId} {t : TypeId} {rest : List TypeId} {e : TypeId} {inf : TypeInfo} (ho : o.op = .call { callee := .builtin .copy, args := #[d, x], argTypes := ts }) (hts : ts.toList = t :: rest)
    (ht : P.underlying t = some (.slice e)) (hi : P.info? e = some inf)
    (h : copyA inf.size (evalA P T d) (evalA P T x) (fun v H => K (T.put N o.dst v) H) H) (hs : St E H w) (hT : RepT P N E T a.tmps) (hx : Ext E0 H0 w0 E H w) (hd : a.defers = []) : o.wp P a w (Lift P N E0 H0 w0 K) Q := by
  have hdv := hT.eval d
  obtain ⟨m, src, hsrc, hsc, h⟩ := h
  obtain ⟨ao, c, vs, hxe, hnew, hnl, hao, hcell⟩ := srcOf_spec hs (hT.eval x) hsrc
  have hts0 : ts[0]? = some t := by rw [← Array.getElem?_toList, hts]; rfl
  have hvl : vs.length = m * inf.size := by rw [← hnew.1, hnl]
  have run : ∀ {u : Value} {w' : World}, (Builtin.copy_ ts o.type #[a.eval d, a.eval x]).run P w = .ok u w' → (execOp a.eval o).run P w = .ok (.value u) w' := by
    intro u w' hr
    unfold execOp
    simp only [ho, resolve, invoke, builtin, Sem.run_bind, Sem.run_pure, Result.andThen_ok, List.map_toArray, List.map_cons, List.map_nil, hr]
  -- the first cells of the source
  have first : ∀ n, n ≤ m → (Builtin.firstCells inf.size n (a.eval x)).run P w = .ok (vs.take (n * inf.size)).toArray w := by
    intro n hn
    rw [hxe]
    cases ao with
    | none =>
      have := hao rfl
      subst this
      have hv0 : vs = [] := List.eq_nil_of_length_eq_zero (by simpa using hvl)
      subst hv0
      simp [Builtin.firstCells]
    | some ad =>
      refine run_firstCells_some w inf.size n ad m c _ ?_ fun j v hj => hcell ad rfl j v ?_
      · have : n * inf.size ≤ m * inf.size := Nat.mul_le_mul_right _ hn
        simp; omega
      · rw [List.getElem?_take] at hj
        split at hj
        · exact hj
        · cases hj
  have hlen : (Builtin.lenOf (a.eval x)).run P w = .ok m w := by rw [hxe]; rfl
  generalize hdA : evalA P T d = dA at *
  generalize hdV : a.eval d = dv at *
  cases dA <;> try exact h.elim
  case nils =>
    cases hdv
    refine wp_value (run (u := .int .i64 0) ?_) (lift_put hT hx hd hs (Ext.refl _ _ _) (.int _ _) h)
    have h0 := first 0 (Nat.zero_le _)
    simp only [Nat.zero_mul, List.take_zero] at h0
    simp [Builtin.copy_, hts0, run_underlying ht, hlen, run_sizeOf hi, h0, goInt]
  case ref sz b off n cp =>
    obtain ⟨rfl, cells, hH, hle, hk⟩ := h
    cases hdv with
    | ref _ _ _ _ _ cap sB g1 g2 g3 g4 =>
      obtain ⟨hF, cc, TT, hcc, hat⟩ := hs.cells hH g3
      have hrow := repL_row hat
      have hcl : cells.length ≤ cc.size := by have := hrow.1; simp at this; omega
      have hf := first (min m n) (Nat.min_le_left _ _)
      have hmn : min m n * inf.size ≤ m * inf.size := Nat.mul_le_mul_right _ (Nat.min_le_left _ _)
      have hmn' : min m n * inf.size ≤ n * inf.size := Nat.mul_le_mul_right _ (Nat.min_le_right _ _)
      have htl : (vs.take (min m n * inf.size)).length = min m n * inf.size := by simp; omega
      have hst := run_storeCells_at P b off TT (vs.take (min m n * inf.size)) 0 cc w hcc (by rw [htl]; omega) (fun v hv => all_scalar hnew hsc v (List.mem_of_mem_take hv))
      simp only [Nat.add_zero] at hst
      have hsp := cells_splice hat (hnew.take (min m n * inf.size)) off (by omega)
      obtain ⟨s1, s2⟩ := hs.setRow g3 hH hcc (c' := (cc.toList.take off ++ vs.take (min m n * inf.size) ++ cc.toList.drop (off + (vs.take (min m n * inf.size)).length)).toArray) (by
        simp only [List.size_toArray, List.length_append, List.length_take, List.length_drop, Array.length_toList] at *
        omega) hsp
      refine wp_value (run (u := .int .i64 (min m n : Nat)) ?_) (lift_put hT hx hd s1 s2 (.int .i64 ((min m n : Nat) : Int)) hk)
      have hmin : Nat.min m n = min m n := rfl
      simp only [Builtin.copy_, hts0, Sem.run_bind, run_underlying ht, Result.andThen_ok, hlen, run_sizeOf hi, hmin, hf, List.getElem?_toArray, List.getElem?_cons_zero, List.getElem?_cons_succ, hst, Sem.run_pure, goInt]

theorem call_sound {f : Operand} {args : Array Operand} {ts : Array TypeId} (ho : o.op = .call { callee := .value f, args, argTypes := ts })
    (h : callA P (evalA P T f) (args.toList.map (evalA P T)) (fun v H => K (T.put N o.dst v) H) H) (hs : St E H w) (hT : RepT P N E T a.tmps) (hx : Ext E0 H0 w0 E H w) (hd : a.defers = []) : o.wp P a w (Lift P N E0 H0 w0 K) Q := by
  have hf := hT.eval f
  unfold callA at h
  split at h
  · rename_i g caps hfe
    rw [hfe] at hf
    obtain ⟨cs, hfv, hcs⟩ := hf.fnL
    obtain ⟨hcb, hcall⟩ := h
    have hargs := repL_map (fun x => hT.eval x) args.toList
    have hc := hcall E w _ hT.glb hs (hargs.append hcs)
    have harr : ((args.toList.map a.eval) ++ cs.toList).toArray = args.map a.eval ++ cs := by
      apply Array.ext'; simp
    rw [harr] at hc
    have hrun : (execOp a.eval o).run P w = .ok (.enter g (args.map a.eval ++ cs)) w := by
      unfold callable at hcb
      split at hcb
      · rename_i fn hfn
        simp only [Bool.and_eq_true, Bool.not_eq_true', beq_eq_false_iff_ne, ne_eq] at hcb
        have hn : (fn.name == "runtime.NumGoroutine") = false := by simpa using hcb.2
        have hb : fn.body.isNone = false := by cases hbb : fn.body <;> simp_all
        simp only [execOp, ho, resolve, hfv, Deferred.ofValue, Sem.run_bind, Sem.run_pure, Result.andThen_ok, invoke, callFunc, run_program, hfn, hn, hb, Bool.false_eq_true, if_false]
        simp
      · cases hcb
    unfold Oper.wp
    rw [hrun]
    refine hc.mono ?_
    rintro e w' ⟨r, v, E', H', rfl, h1, h2, h3, h4⟩
    exact lift_put hT hx hd h2 h3 h1 h4
  · exact h.elim


theorem wrap_i64 {n : Int} (h1 : -9223372036854775808 ≤ n) (h2 : n ≤ 9223372036854775807) : IntKind.i64.wrap n = n := by
  have e1 : (2 : Int) ^ 64 = 18446744073709551616 := by decide
  have e2 : (2 : Int) ^ (64 - 1) = 9223372036854775808 := by decide
  simp only [IntKind.wrap, IntKind.signed, IntKind.bits, Bool.true_and, e1, e2, decide_eq_true_eq, ge_iff_le]
  split <;> omega

theorem make_sound {t : TypeId} {l c : Operand} {e : TypeId} {z : List AV} {inf : TypeInfo} (ho : o.op = .makeSlice t l c) (ht : P.underlying t = some (.slice e)) (hz : zeroF P e = some z) (hi : P.info? e = some inf) (hzl : z.length = inf.size) (hz0 : z.length ≠ 0)
    (h : makeA z inf.size inf.bytes (evalA P T l) (evalA P T c) (fun v H => K (T.put N o.dst v) H) H) (hs : St E H w) (hT : RepT P N E T a.tmps) (hx : Ext E0 H0 w0 E H w) (hd : a.defers = []) : o.wp P a w (Lift P N E0 H0 w0 K) Q := by
  have hl := hT.eval l
  have hc := hT.eval c
  unfold makeA at h
  split at h
  · rename_i k1 lv k2 cv h1 h2
    rw [h1] at hl
    rw [h2] at hc
    obtain ⟨g1, g2, g3, g4, hk⟩ := h
    have e1 := rep_int hl
    have e2 := rep_int hc
    obtain ⟨i, zv, hi', hzv, rfl⟩ := zeroF_spec hz
    rw [hi] at hi'; cases hi'
    have hzs : zv.cells.size = inf.size := by simpa using hzl
    have hz1 : zv.cells.size ≠ 0 := by simpa using hz0
    have w1 : IntKind.i64.wrap lv = lv := wrap_i64 (by omega) (by omega)
    have w2 : IntKind.i64.wrap cv = cv := wrap_i64 (by omega) (by omega)
    have hrow := (rowOf_rep E zv.cells (cv.toNat * inf.size) hz1).cellsAt
    rw [Array.toArray_toList] at hrow
    have e0 : ∀ f : Nat → Value, Array.map f (Array.range 0) = #[] := by intro f; simp
    refine newRef_sound hk hs hT hx hd (c := (Array.range (cv.toNat * inf.size)).map (zv.cells[· % zv.cells.size]!)) (e := e) hrow (by omega) (by simp) ?_
    have n1 : ¬ cv < 0 := by omega
    have n2 : ¬ (281474976710656 < (inf.bytes : Int) * cv) := by omega
    have n3 : ¬ lv < 0 := by omega
    have n4 : ¬ cv < lv := by omega
    by_cases hn0 : cv.toNat * inf.size = 0
    · have hc0 : cv.toNat = 0 := by
        rcases Nat.mul_eq_zero.1 hn0 with h | h
        · exact h
        · omega
      simp [execOp, ho, Instr.makeSlice, run_underlying ht, e1, e2, asInt, asIntOf, run_info hi, w1, w2, n1, n2, n3, n4, run_sizeOf hi, hc0, newRow, e0]
    · simp [execOp, ho, Instr.makeSlice, run_underlying ht, e1, e2, asInt, asIntOf, run_info hi, w1, w2, n1, n2, n3, n4, run_sizeOf hi, hn0, newRow, run_zeroValue hi hzv]
  · exact h.elim

theorem run_getMap {w : World} {r c : Nat} {es : Array MapEntry} (h : w.heap[r]? = some (.map es c)) : (getObj r).run P w = .ok (.map es c) w := by
  simp [getObj, Sem.run, h]
theorem run_setMap {w : World} {r c : Nat} {es : Array MapEntry} (h : w.heap[r]? = some (.map es c)) (o : Obj) : (setObj r o).run P w = .ok () { w with heap := w.heap.setIfInBounds r o } := by
  simp [setObj, Sem.run, h]
theorem run_checkKey_int {t : TypeId} {kk k : IntKind} {n : Int} {b : Bool} (h : P.underlying t = some (.int kk)) (w : World) : (Instr.checkKey b 10000 t (.int k n)).run P w = .ok () w := by
  show (Instr.checkKey b (9999 + 1) t (.int k n)).run P w = _
  rw [Instr.checkKey]
  simp [run_underlying h]
theorem mapAt_len {E : Env} : ∀ {cells : List AV} {es : List MapEntry}, MapAt E cells es → cells.length = 2 * es.length
  | [], [], _ => rfl
  | [], _ :: _, h => h.elim
  | [_], [], h => h.elim
  | [_], _ :: _, h => h.elim
  | _ :: _ :: _, [], h => h.elim
  | _ :: _ :: _, _ :: _, h => by have := mapAt_len h.2.2; simp; omega
/-- A key is found, or not, and set. -/
theorem mapSet_spec {E : Env} {kk : IntKind} {n : Int} {x : AV} {v : Value} (hv : Rep E x v) : ∀ (es : List MapEntry) (i : Nat) {cells cells' : List AV}, MapAt E cells es → mapSet kk n x cells = some cells' →
    (∃ j u, Instr.findNow (.int kk) (.int kk n) es i = some (some (i + j, u)) ∧ (es[j]?).map (·.key) = some (.int kk n) ∧ MapAt E cells' (es.modify j fun e => { e with key := .int kk n, val := v })) ∨
    (Instr.findNow (.int kk) (.int kk n) es i = some none ∧ ∀ c, MapAt E cells' (es ++ [{ key := .int kk n, val := v, born := c }]))
  | [], i, [], cells', _, h => by
    simp only [mapSet, Option.some.injEq] at h
    subst h
    exact .inr ⟨rfl, fun c => ⟨.int _ _, hv, trivial⟩⟩
  | [], _, [_], _, hm, _ => hm.elim
  | [], _, _ :: _ :: _, _, hm, _ => hm.elim
  | _ :: _, _, [], _, hm, _ => hm.elim
  | _ :: _, _, [_], _, hm, _ => hm.elim
  | e :: es, i, k :: v' :: cells, cells', hm, h => by
    obtain ⟨h1, h2, h3⟩ := hm
    cases k <;> simp only [mapSet, reduceCtorEq] at h
    rename_i k' m
    split at h <;> try cases h
    rename_i hk
    subst hk
    have hke := rep_int h1
    by_cases hn : n = m
    · subst hn
      rw [if_pos rfl] at h
      cases h
      refine .inl ⟨0, e.val, ?_, by simp [hke], ?_⟩
      · simp [Instr.findNow, Instr.sameNow, hke]
      · exact ⟨.int _ _, hv, h3⟩
    · rw [if_neg hn] at h
      rw [Option.map_eq_some_iff] at h
      obtain ⟨r, hr, rfl⟩ := h
      have hf : Instr.findNow (.int kk) (.int kk n) (e :: es) i = Instr.findNow (.int kk) (.int kk n) es (i + 1) := by
        have hnm : (n == m) = false := by rw [beq_eq_false_iff_ne]; exact hn
        simp [Instr.findNow, Instr.sameNow, hke, hnm]
      rcases mapSet_spec hv es (i + 1) h3 hr with ⟨j, u, g1, g2, g3⟩ | ⟨g1, g2⟩
      · refine .inl ⟨j + 1, u, by rw [hf, g1]; congr 3; omega, by simpa using g2, ?_⟩
        exact ⟨h1, h2, g3⟩
      · exact .inr ⟨by rw [hf, g1], fun c => ⟨h1, h2, g2 c⟩⟩
theorem strOf_spec {E : Env} : ∀ {cells : List AV} {l : List UInt8} {vs : List Value}, strOf cells = some l → RepL E cells vs → vs = l.map fun b => .int .u8 (b.toNat : Int)
  | [], l, vs, h, hr => by
    simp only [strOf, Option.some.injEq] at h
    subst h
    exact List.eq_nil_of_length_eq_zero (by have := hr.1; simpa using this.symm)
  | x :: cells, l, [], h, hr => by have := hr.1; simp at this
  | x :: cells, l, v :: vs, h, hr => by
    obtain ⟨h1, h2⟩ := hr.uncons
    unfold strOf at h
    split at h <;> try cases h
    · rename_i he; cases he
    rename_i n l0 he
    cases he
    split at h <;> try cases h
    rename_i hn
    rw [Option.map_eq_some_iff] at h
    obtain ⟨r, hr', rfl⟩ := h
    rw [strOf_spec hr' h2, rep_int h1, List.map_cons]
    congr 2
    have : n.toNat < 256 := by omega
    simp [UInt8.toNat_ofNat, Nat.mod_eq_of_lt this]; omega

/-- Operations on strings' bytes, iterators and maps do what 'aopM' says. -/
theorem aopM_sound (h : aopM P o (evalA P T) (fun v H => K (T.put N o.dst v) H) H) (hs : St E H w) (hT : RepT P N E T a.tmps) (hx : Ext E0 H0 w0 E H w) (hd : a.defers = []) : o.wp P a w (Lift P N E0 H0 w0 K) Q := by
  unfold aopM at h
  split at h
  · rename_i t x ho
    split at h <;> try exact h.elim
    rename_i hu
    unfold rangeA at h
    split at h <;> try exact h.elim
    rename_i s hxe
    have hv := hT.eval x
    rw [hxe] at hv
    generalize hve : a.eval x = v at hv
    cases hv
    obtain ⟨s1, s2⟩ := hs.allocKd (k := .iter s) (cs := [.int .i64 0]) (o := .stringIter s 0) ⟨0, rfl, rfl⟩
    exact wp_value (w' := w.alloc (.stringIter s 0)) (u := .pointer (some ⟨w.heap.size, 0, none⟩)) (by simp only [execOp, ho, hve, Sem.run_bind, run_range_string w t s hu, Result.andThen_ok, Sem.run_pure]; rfl)
      (lift_put hT hx hd s1 s2 (.iter _ _ (by simp [Env.addI])) (h _ hs.fresh))
  · rename_i x ho
    unfold nextA at h
    split at h <;> try exact h.elim
    rename_i b s hxe
    obtain ⟨pos, hH, h⟩ := h
    have hv := hT.eval x
    rw [hxe] at hv
    generalize hve : a.eval x = v at hv
    cases hv with | iter _ _ hI =>
    obtain ⟨_, hlt, _, hk⟩ := hs.own _ _ hH
    obtain ⟨pos', hc, hob⟩ := hk _ hI
    obtain rfl : pos = pos' := by simp at hc; omega
    split at h
    · rename_i c hcs
      obtain ⟨hasc, hput⟩ := h
      obtain ⟨hp, hce⟩ : ∃ hp : pos < s.size, s[pos] = c := by
        have := getElem?_eq_some_iff.1 hcs
        exact this
      subst hce
      obtain ⟨s1, s2⟩ := hs.writeKd hI hH (cs := [.int .i64 ((pos + 1 : Nat) : Int)]) (o := .stringIter s (pos + 1)) ⟨pos + 1, rfl, rfl⟩
      have hrep : Rep E (.tup [.bool true, .int .i64 (pos : Int), .int .i32 (s[pos].toNat : Int)]) (.tuple #[.bool true, .int .i64 (pos : Int), .int .i32 (s[pos].toNat : Int)]) :=
        Rep.mkTup (RepL.cons (.bool _) (RepL.cons (.int _ _) (RepL.cons (.int _ _) (RepL.nil E))))
      refine wp_value (w' := { w with heap := w.heap.setIfInBounds b (.stringIter s (pos + 1)) }) (u := .tuple #[.bool true, .int .i64 (pos : Int), .int .i32 (s[pos].toNat : Int)]) ?_ (lift_put hT hx hd s1 s2 hrep hput)
      simp only [execOp, ho, hve, Instr.next, getObj, setObj, Sem.run_bind, Sem.run, hob, Result.andThen, hp, if_true, decode_ascii s pos hp hasc]
      simp [goInt, Sem.run, hob, hlt]
    · rename_i hcs
      have hp : ¬ pos < s.size := by
        intro hp
        rw [getElem?_pos s pos hp] at hcs
        cases hcs
      have hrep : Rep E (.tup [.bool false]) (.tuple #[.bool false]) := Rep.mkTup (RepL.cons (.bool _) (RepL.nil E))
      refine wp_value (w' := w) (u := .tuple #[.bool false]) ?_ (lift_put hT hx hd hs (Ext.refl _ _ _) hrep h)
      simp [execOp, ho, hve, Instr.next, getObj, Sem.run, hob, hp]
  · rename_i s d x ho
    split at h
    · rename_i e hu1 hu2
      split at h <;> try exact h.elim
      rename_i hu3
      unfold toBytesA at h
      split at h <;> try exact h.elim
      rename_i st hxe
      have hv := hT.eval x
      rw [hxe] at hv
      generalize hve : a.eval x = v at hv
      cases hv
      have hrun := run_bytes_of_string (P := P) w s d e st hu1 hu2 hu3
      obtain ⟨s1, s2, s3⟩ := hs.drew.allocImm (bytesRow st (grownCap w st.size 0 e)) e ((bytesRow st (grownCap w st.size 0 e)).size, (bytesRow st (grownCap w st.size 0 e)).size + 1)
      have hcap := grownCap_ge w st.size 0 e
      have hf1 : ∀ i, i < (bytesA st).length → (bytesRow st (grownCap w st.size 0 e))[0 + i]? = some (.int .u8 ((st.data.toList.getD i 0).toNat : Int)) := fun i hi => by
        have hi' : i < st.data.size := by simpa [bytesA] using hi
        rw [Nat.zero_add, bytesRow_at st _ i hi', List.getD_eq_getElem?_getD, Array.getElem?_toList, Array.getElem?_eq_getElem hi']; rfl
      have hf2 : ∀ i (hi : i < (bytesA st).length), Rep (E.addF w.drew.heap.size (.cells (bytesRow st (grownCap w st.size 0 e)) e ((bytesRow st (grownCap w st.size 0 e)).size, (bytesRow st (grownCap w st.size 0 e)).size + 1))) (bytesA st)[i] (.int .u8 ((st.data.toList.getD i 0).toNat : Int)) := fun i hi => by
        have hi' : i < st.data.size := by simpa [bytesA] using hi
        have : (bytesA st)[i] = .int .u8 ((st.data.toList.getD i 0).toNat : Int) := by
          rw [List.getD_eq_getElem?_getD, Array.getElem?_toList, Array.getElem?_eq_getElem hi']
          simp [bytesA]
        rw [this]; exact .int _ _
      refine wp_value (u := .slice (some ⟨w.heap.size, 0, none⟩) st.size (grownCap w st.size 0 e)) ?_ (lift_put hT hx hd s1 ((Ext.drew).trans s2) (.imm st.size false (bytesA st) w.heap.size 0 _ _ e _ _ s3 (fun h => by cases h) hcap hf1 hf2) h)
      simp only [execOp, ho, hve, Sem.run_bind, hrun, Result.andThen_ok, Sem.run_pure]
    · rename_i e hu1 hu2
      split at h <;> try exact h.elim
      rename_i hu3
      obtain ⟨n, cells, l, h1, h2, h3⟩ := h
      obtain ⟨ao, c, vs, hxe, hnew, hnl, hao, hcell⟩ := srcOf_spec hs (hT.eval x) h1
      have hvs := strOf_spec h2 hnew
      have hln : l.length = n := by
        have := hnew.1
        rw [hvs, List.length_map] at this
        omega
      refine wp_value (w' := w) (u := .string ⟨l.toArray⟩) ?_ (lift_put hT hx hd hs (Ext.refl _ _ _) (.str _) h3)
      cases ao with
      | none =>
        have hn0 := hao rfl
        have hl0 : l = [] := List.eq_nil_of_length_eq_zero (by omega)
        subst hl0
        simp only [execOp, ho, hxe, Sem.run_bind, run_convert_bytes_string w s d e none n c hu1 hu3 hu2, Conv.bytesToString, Sem.run_pure, Result.andThen_ok]
        rfl
      | some ad =>
        subst hln
        have := run_convert_bytes_back (P := P) w s d e ad c l hu1 hu3 hu2 fun j hj => hcell ad rfl j _ (by rw [hvs]; simp [hj])
        simp only [execOp, ho, hxe, Sem.run_bind, this, Result.andThen_ok, Sem.run_pure]
    · exact h.elim
  · rename_i t ho
    obtain ⟨s1, s2⟩ := hs.allocKd (k := .map) (cs := []) (o := .map #[] 0) ⟨#[], 0, rfl, trivial⟩
    refine wp_value (w' := w.alloc (.map #[] 0)) (u := .map (some w.heap.size)) ?_ (lift_put hT hx hd s1 s2 (.mapv _ (by simp [Env.addI])) (h _ hs.fresh))
    simp [execOp, ho, Instr.makeMap]
  · rename_i t m k x ho
    split at h <;> try exact h.elim
    rename_i kt et hu
    split at h <;> try exact h.elim
    rename_i kk hu2
    unfold setMapA at h
    split at h <;> try exact h.elim
    rename_i b kk' n hme hke
    obtain ⟨rfl, cells, cells', hH, hset, hput⟩ := h
    have hm := hT.eval m
    rw [hme] at hm
    generalize hve : a.eval m = v at hm
    cases hm with | mapv _ hI =>
    have hkv := rep_int (by have := hT.eval k; rwa [hke] at this)
    obtain ⟨_, hlt, _, hkd⟩ := hs.own _ _ hH
    obtain ⟨es, clock, hob, hat⟩ := hkd _ hI
    have hspec := mapSet_spec (hT.eval x) es.toList 0 hat hset
    rcases hspec with ⟨j, u, g1, g2, g3⟩ | ⟨g1, g2⟩
    · obtain ⟨s1, s2⟩ := hs.writeKd hI hH (cs := cells') (o := .map (es.modify j fun e => { e with key := .int kk n, val := a.eval x }) clock) ⟨_, clock, rfl, by simpa using g3⟩
      have hrun : (execOp a.eval o).run P w = .ok .skip { w with heap := w.heap.setIfInBounds b (.map (es.modify j fun e => { e with key := .int kk n, val := a.eval x }) clock) } := by
        have g2' : (es[j]?).map (·.key) = some (.int kk n) := by simpa using g2
        have hsb : Instr.sameBits 10000 (.int kk n) (.int kk n) = true := by simp [Instr.sameBits]
        simp only [execOp, ho, hve, hkv, Instr.mapUpdate, Sem.run_bind, run_underlying hu, Result.andThen_ok, run_getMap hob, run_checkKey_int hu2, Instr.findKey, run_underlying hu2, g1, Sem.run_pure, Nat.zero_add, g2', Option.getD_some, Instr.keyThatStays, hsb, if_true, run_setMap hob]
      unfold Oper.wp
      rw [hrun]
      exact lift_put hT hx hd s1 s2 (.any _) hput
    · obtain ⟨s1, s2⟩ := hs.writeKd hI hH (cs := cells') (o := .map (es.push { key := .int kk n, val := a.eval x, born := clock }) (clock + 1)) ⟨_, clock + 1, rfl, by simpa using g2 clock⟩
      have hrun : (execOp a.eval o).run P w = .ok .skip { w with heap := w.heap.setIfInBounds b (.map (es.push { key := .int kk n, val := a.eval x, born := clock }) (clock + 1)) } := by
        simp only [execOp, ho, hve, hkv, Instr.mapUpdate, Sem.run_bind, run_underlying hu, Result.andThen_ok, run_getMap hob, run_checkKey_int hu2, Instr.findKey, run_underlying hu2, g1, Sem.run_pure, run_setMap hob]
      unfold Oper.wp
      rw [hrun]
      exact lift_put hT hx hd s1 s2 (.any _) hput
  · rename_i c ho
    obtain ⟨callee, args, ts⟩ := c
    simp only at h
    split at h
    · rename_i x t h1 h2
      have e1 : args = #[x] := by apply Array.ext'; simpa using h1
      have e2 : ts = #[t] := by apply Array.ext'; simpa using h2
      subst e1; subst e2
      split at h <;> try exact h.elim
      rename_i kt et hu
      unfold lenMapA at h
      split at h <;> try exact h.elim
      rename_i b hme
      obtain ⟨cells, hH, hput⟩ := h
      have hm := hT.eval x
      rw [hme] at hm
      generalize hve : a.eval x = v at hm
      cases hm with | mapv _ hI =>
      obtain ⟨_, hlt, _, hkd⟩ := hs.own _ _ hH
      obtain ⟨es, clock, hob, hat⟩ := hkd _ hI
      have hlen := mapAt_len hat
      have he : ((cells.length / 2 : Nat) : Int) = (es.size : Int) := by simp at hlen; omega
      rw [he] at hput
      refine wp_value (w' := w) (u := .int .i64 (es.size : Int)) ?_ (lift_put hT hx hd hs (Ext.refl _ _ _) (.int _ _) hput)
      simp [execOp, ho, hve, resolve, invoke, builtin, Builtin.len_, run_underlying hu, run_getMap hob, goInt]
    · rename_i x t h1 h2
      have e1 : args = #[x] := by apply Array.ext'; simpa using h1
      have e2 : ts = #[t] := by apply Array.ext'; simpa using h2
      subst e1; subst e2
      split at h <;> try exact h.elim
      rename_i kt et hu
      unfold clrMapA at h
      split at h <;> try exact h.elim
      rename_i b hme
      obtain ⟨hne, hput⟩ := h
      have hm := hT.eval x
      rw [hme] at hm
      generalize hve : a.eval x = v at hm
      cases hm with | mapv _ hI =>
      cases hH : H b with
      | none => exact absurd hH hne
      | some cells =>
        obtain ⟨_, hlt, _, hkd⟩ := hs.own _ _ hH
        obtain ⟨es, clock, hob, hat⟩ := hkd _ hI
        obtain ⟨s1, s2⟩ := hs.writeKd hI hH (cs := []) (o := .map #[] clock) ⟨#[], clock, rfl, trivial⟩
        refine wp_value (w' := { w with heap := w.heap.setIfInBounds b (.map #[] clock) }) (u := .tuple #[]) ?_ (lift_put hT hx hd s1 s2 (Rep.mkTup (RepL.nil E)) hput)
        simp [execOp, ho, hve, resolve, invoke, builtin, Builtin.clear_, run_underlying hu, run_getMap hob, run_setMap hob]
    · exact h.elim
  · exact h.elim

/-- Every operation does what 'aop' says. -/
theorem aop_sound (h : aop P N cfg o K T H) (hs : St E H w) (hT : RepT P N E T a.tmps) (hx : Ext E0 H0 w0 E H w) (hd : a.defers = []) : o.wp P a w (Lift P N E0 H0 w0 K) Q := by
  have pure : (letO (pureF P o.op (evalA P T) (cfg.heap o H)) fun v => K (T.put N o.dst v) H) → o.wp P a w (Lift P N E0 H0 w0 K) Q := by
    rw [letO_iff]
    rintro ⟨v, hv, hk⟩
    have hs' : St E (cfg.heap o H) w := hs.weaken fun b c hb => by
      unfold Cfg.heap at hb
      split at hb
      · cases hb
      · exact hb
    obtain ⟨u, hr, hu⟩ := pureF_sound (o := o) (fun x => hT.eval x) hs' hv
    exact wp_value hr (lift_put hT hx hd hs (Ext.refl _ _ _) hu hk)
  unfold aop aopv at h
  simp only at h
  split at h
  · exact aopM_sound h hs hT hx hd
  split at h
  · rename_i t ho
    rw [letO_iff] at h
    obtain ⟨z, hz, h⟩ := h
    obtain ⟨v, hv, hr⟩ := zeroF_run hz E w
    refine allocA_sound h hs hT hx hd (by simpa using hr.cellsAt) (c := v.cells) (e := t) ?_
    simp [execOp, ho, Instr.alloc, hv, run_newVar]
  · rename_i t x ho
    rw [letO_iff] at h
    obtain ⟨cs, hcs, h⟩ := h
    have hr := cellsOf?_rep (hT.eval x) hcs
    split at h
    · refine allocA_sound h hs hT hx hd (by simpa using hr.cellsAt) (c := (a.eval x).cells) (e := t) ?_
      simp [execOp, ho, Instr.box, run_newVar]
    · obtain ⟨s1, s2, s3⟩ := hs.allocImm (a.eval x).cells t
      have hat : CellsAt (E.addF w.heap.size (.cells (a.eval x).cells t)) (a.eval x).cells 0 cs := by simpa using (hr.mono s2.env).cellsAt
      obtain ⟨f, f1, f2⟩ := hat.fn
      exact wp_value (by simp [execOp, ho, Instr.box, run_newVar]) (lift_put hT hx hd s1 s2 (.iptr cs w.heap.size 0 _ t _ f s3 f1 f2) h)
  · rename_i t len parts ho
    split at h <;> try exact h.elim
    rename_i e hu
    rw [letO_iff] at h
    obtain ⟨cells, hl, h⟩ := h
    have hparts := repP_map (fun x => hT.eval x) parts.toList
    obtain ⟨vout, e', inf, hu', hinf, hrun, hr, hsz⟩ := literalF_sound (w := w) hparts hl
    rw [hu] at hu'; cases hu'
    have harr : (parts.map fun (i, x) => (i, a.eval x)) = (parts.toList.map fun p => (p.1, a.eval p.2)).toArray := by
      apply Array.ext'; simp
    have hcell : P.cellsOf e = inf.size := by simp [Program.cellsOf, hinf]
    have hrun' : (execOp a.eval o).run P w = .ok (.value (.slice (some ⟨w.heap.size, 0, none⟩) len len)) (w.alloc (.cells vout e)) := by
      simp only [execOp, ho, harr, Sem.run_bind, hrun, Result.andThen_ok, Sem.run_pure]
    split at h
    · exact newRef_sound h hs hT hx hd (by simpa using hr.cellsAt) (Nat.le_refl _) (by rw [hcell]; omega) hrun'
    · obtain ⟨s1, s2, s3⟩ := hs.allocImm vout e
      have hat : CellsAt (E.addF w.heap.size (.cells vout e)) vout 0 cells := by simpa using (hr.mono s2.env).cellsAt
      obtain ⟨f, f1, f2⟩ := hat.fn
      exact wp_value hrun' (lift_put hT hx hd s1 s2 (.imm len true cells w.heap.size 0 len vout e _ f s3 (fun _ => rfl) (Nat.le_refl _) f1 f2) h)
  · rename_i t l c ho
    split at h <;> try exact h.elim
    rename_i e hu
    split at h <;> try exact h.elim
    rename_i z inf hz hinf
    split at h <;> try exact h.elim
    rename_i hcond
    simp only [not_or, ne_eq, Decidable.not_not] at hcond
    exact make_sound ho hu hz hinf hcond.1 hcond.2 h hs hT hx hd
  · rename_i t p x ho
    split at h <;> try exact h.elim
    rename_i i hi
    split at h
    · exact store_sound ho hi (selfA_storeA h.1 h.2) hs hT hx hd
    · exact store_sound ho hi h hs hT hx hd
  · rename_i c ho
    obtain ⟨callee, args, ts⟩ := c
    simp only at h
    split at h
    · replace h : appendC P { callee := .builtin .append, args, argTypes := ts } (evalA P T) (fun v H => K (T.put N o.dst v) H) H := by
        split at h
        · exact h.2
        · exact h
      unfold appendC at h
      split at h <;> try exact h.elim
      rename_i s x t t' h1 h2
      have e1 : args = #[s, x] := by apply Array.ext'; simpa using h1
      have e2 : ts = #[t, t'] := by apply Array.ext'; simpa using h2
      subst e1; subst e2
      split at h <;> try exact h.elim
      rename_i e e' hu hu'
      split at h <;> try exact h.elim
      rename_i inf hinf
      split at h <;> try exact h.elim
      rename_i hcond
      simp only [not_or, ne_eq, Decidable.not_not] at hcond
      obtain ⟨hc1, rfl⟩ := hcond
      cases hz : inf.zero with
      | none => rw [hz] at hc1; cases hc1
      | some zv => exact append_sound ho hu hinf hz h hs hT hx hd (by rw [hz] at hc1; simpa using hc1)
    · unfold copyC at h
      split at h <;> try exact h.elim
      rename_i d x t rest h1 h2
      have e1 : args = #[d, x] := by apply Array.ext'; simpa using h1
      subst e1
      split at h <;> try exact h.elim
      rename_i e hu
      split at h <;> try exact h.elim
      rename_i inf hinf
      exact copy_sound ho h2 hu hinf h hs hT hx hd
    · exact pure h
    · exact call_sound ho h hs hT hx hd
    · exact h.elim
  · exact pure h

end Go.Av

/- Regions whose order is the text's. -/
namespace Go.Av
variable {P : Program}

/-- One way or the other, as a known test says. -/
def condA (c : AV) (want : Bool) (A B : Prop) : Prop := match c with
  | .bool b => (b = want → A) ∧ (b ≠ want → B)
  | _ => False

/-- The same, of a guard: one that was passed over holds nothing, and what it guards is passed over too. -/
def condG (c : AV) (want : Bool) (A B : Prop) : Prop := match c with
  | .bool b => (b = want → A) ∧ (b ≠ want → B)
  | .tup [] => B
  | _ => False

def guardA (ops : Array Oper) (o : Oper) (T : Slots) (A B : Prop) : Prop := match o.guard with
  | none => A
  | some (g, want) => match (ops[g]?).bind (·.dst) with
    | some t => condG (T t) want A B
    | none => False

def gop (P : Program) (N : Nat) (cfg : Cfg) (ops : Array Oper) (o : Oper) (K : Slots → Heap → Prop) (T : Slots) (H : Heap) : Prop :=
  guardA ops o T (aop P N cfg o K T H) (K (T.put N o.dst (.tup [])) H)

def gops (P : Program) (N : Nat) (cfg : Cfg) (ops : Array Oper) (K : Slots → Heap → Prop) : List Oper → Slots → Heap → Prop
  | [] => K
  | o :: rest => gop P N cfg ops o (gops P N cfg ops K rest)

section
variable {N : Nat} {cfg : Cfg} {E0 : Env} {H0 : Heap} {w0 : World}

theorem RepT.get {E : Env} {T : Slots} {tmps : Array Value} (h : RepT P N E T tmps) {t : Tmp} {b : Bool} (ht : T t = .bool b) : tmps[t]? = some (.bool b) := by
  have := h.rep t
  rw [ht] at this
  have h2 := rep_bool this
  cases hx : tmps[t]? with
  | none => simp [hx, undef] at h2
  | some v => simp [hx] at h2; rw [h2]

/-- A guarded operation, in the model's own words. -/
theorem gop_sound {ops : Array Oper} {o : Oper} {K : Slots → Heap → Prop} {T : Slots} {H : Heap} {a : Act} {w : World} {E : Env} {Q : Exit → Act → World → Prop}
    (h : gop P N cfg ops o K T H) (hs : St E H w) (hT : RepT P N E T a.tmps) (hx : Ext E0 H0 w0 E H w) (hd : a.defers = []) :
    if Region.wanted o (yielded ops a.tmps) then o.wp P a w (Lift P N E0 H0 w0 K) Q ∨ (o.asks P a w ∧ LetsOut Q) else Lift P N E0 H0 w0 K (a.put o.dst undef) w := by
  unfold gop guardA at h
  split at h
  · rename_i hg
    have : Region.wanted o (yielded ops a.tmps) = true := by simp [Region.wanted, hg]
    rw [if_pos this]
    exact .inl (aop_sound h hs hT hx hd)
  · rename_i g want hg
    split at h
    · rename_i t ht
      have hun : ∀ E', Rep E' (.tup []) undef := fun E' => .tup [] #[] (fun _ => undef) rfl (fun i hi => absurd hi (Nat.not_lt_zero _)) (fun i hi => absurd hi (Nat.not_lt_zero _))
      unfold condG at h
      split at h
      · rename_i b hb
        have hy : yielded ops a.tmps g = some b := by
          unfold yielded
          rw [ht]
          simp [hT.get hb]
        have hw : Region.wanted o (yielded ops a.tmps) = (b == want) := by
          simp [Region.wanted, hg, hy]
        rw [hw]
        by_cases hbw : b = want
        · subst hbw
          rw [if_pos (by simp)]
          exact .inl (aop_sound (h.1 rfl) hs hT hx hd)
        · rw [if_neg (by simpa using hbw)]
          exact lift_put hT hx hd hs (Ext.refl _ _ _) (hun _) (h.2 hbw)
      · rename_i hb
        have hr := hT.rep t
        rw [hb] at hr
        have hy : yielded ops a.tmps g = none := by
          unfold yielded
          rw [ht]
          cases hx : a.tmps[t]? with
          | none => simp [hx]
          | some v =>
            rw [Array.getD_eq_getD_getElem?, hx, Option.getD_some] at hr
            obtain ⟨cs, rfl, _⟩ := hr.tupL
            simp [hx]
        have hw : Region.wanted o (yielded ops a.tmps) = false := by
          simp [Region.wanted, hg, hy]
        rw [hw, if_neg (by simp)]
        exact lift_put hT hx hd hs (Ext.refl _ _ _) (hun _) h
      · exact h.elim
    · exact h.elim

theorem gops_sound {ops : Array Oper} {K : Slots → Heap → Prop} {Q : Exit → Act → World → Prop} (hQ : ∀ a w, Lift P N E0 H0 w0 K a w → Q .normal a w) :
    ∀ (l : List Oper) {T : Slots} {H : Heap} {a : Act} {w : World} {E : Env}, gops P N cfg ops K l T H → St E H w → RepT P N E T a.tmps → Ext E0 H0 w0 E H w → a.defers = [] → wpList P ops Q l a w
  | [], T, H, a, w, E, h, hs, hT, hx, hd => hQ a w ⟨T, H, E, h, hs, hT, hx, hd⟩
  | o :: rest, T, H, a, w, E, h, hs, hT, hx, hd => by
    have h1 := gop_sound (Q := Q) (K := gops P N cfg ops K rest) h hs hT hx hd
    have next : ∀ a w, Lift P N E0 H0 w0 (gops P N cfg ops K rest) a w → wpList P ops Q rest a w := fun a w ⟨T', H', E', g1, g2, g3, g4, g5⟩ => gops_sound hQ rest g1 g2 g3 g4 g5
    unfold wpList
    split at h1
    · rename_i hw
      rw [if_pos hw]
      exact h1.imp (Oper.wp_mono next) id
    · rename_i hw
      rw [if_neg hw]
      exact next _ _ h1

theorem region_sound {id : Nat} {ops : Array Oper} {K : Slots → Heap → Prop} {Q : Exit → Act → World → Prop} (hQ : ∀ a w, Lift P N E0 H0 w0 K a w → Q .normal a w)
    {T : Slots} {H : Heap} {a : Act} {w : World} {E : Env} (h : gops P N cfg ops K ops.toList T H) (hs : St E H w) (hT : RepT P N E T a.tmps) (hx : Ext E0 H0 w0 E H w) (hd : a.defers = []) :
    (Code.region id ops false).wp P Q a w := wp_region_list (gops_sound hQ ops.toList h hs hT hx hd)
end
end Go.Av
