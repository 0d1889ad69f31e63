import Derived.Test.YtmmfelpgcdlgfaaDoorAvA
import Derived.ProofKit
import Derived.OpenShut
import Derived.Carry
/- The walk of a function over abstract values, its soundness, and the laws on lists, blocks and rows that contracts use. No conditions. -/
/- Regions that draw their order: the steps that may change places. -/
namespace Go.Av
variable {P : Program}

inductive Cls where
  | f | p | a | x | g | z
  deriving DecidableEq

/-- 'f': looks at no memory that may change; 'p': looks at memory; 'a': a new variable; 'x': an append; 'g': an append that makes new memory; 'z': anything else. 'gen': a call that keeps its place. -/
def cls (cfg : Cfg) (gen : Bool) (o : Oper) : Cls := if isM cfg o then .z else match o.op with
  | .alloc _ => if o.guard.isNone then .a else .z
  | .box _ _ => if cfg.own (o.dst.getD 0) then .z else .f
  | .buildSlice _ _ _ => if cfg.own (o.dst.getD 0) then .z else .f
  | .makeSlice .. => .z
  | .store _ _ x => if selfOf cfg x then .p else .z
  | .load .. => if cfg.fz (o.dst.getD 0) then .f else .p
  | .call c => match c.callee with
    | .builtin .append => if cfg.ga (o.dst.getD 0) then .g else .x
    | .builtin .copy => .z
    | .builtin _ => .f
    | .value _ => if gen then .z else .p
    | _ => .z
  | _ => .f

/-- A call that gives one value and leaves memory as it was. -/
def callQ (P : Program) (f : AV) (args : List AV) (K : AV → Heap → Prop) (H : Heap) : Prop :=
  ∃ v, callA P f args (fun r H' => r = v ∧ H' = H) H ∧ K v H

def dop (P : Program) (N : Nat) (cfg : Cfg) (ops : Array Oper) (gen : Bool) (o : Oper) (K : Slots → Heap → Prop) (T : Slots) (H : Heap) : Prop := match o.op with
  | .call c => match c.callee with
    | .value f => if gen then gop P N cfg ops o K T H
      else guardA ops o T (callQ P (evalA P T f) (c.args.toList.map (evalA P T)) (fun v H => K (T.put N o.dst v) H) H) (K (T.put N o.dst (.tup [])) H)
    | _ => gop P N cfg ops o K T H
  | _ => gop P N cfg ops o K T H

def dops (P : Program) (N : Nat) (cfg : Cfg) (ops : Array Oper) (gen : Nat → Bool) (K : Slots → Heap → Prop) : List Nat → Slots → Heap → Prop
  | [] => K
  | i :: rest => fun T H => match ops[i]? with
    | some o => dop P N cfg ops (gen i) o (dops P N cfg ops gen K rest) T H
    | none => False

/-- What a guard says. -/
def gv (ops : Array Oper) (o : Oper) (T : Slots) : Option Bool := match o.guard with
  | none => some true
  | some (g, want) => match (ops[g]?).bind (·.dst) with
    | some t => match T t with
      | .bool b => some (b == want)
      | .tup [] => some false
      | _ => none
    | none => none

theorem guardA_iff {ops : Array Oper} {o : Oper} {T : Slots} {A B : Prop} : guardA ops o T A B ↔ (gv ops o T = some true ∧ A) ∨ (gv ops o T = some false ∧ B) := by
  cases hg : o.guard with
  | none => simp [guardA, gv, hg]
  | some p =>
    obtain ⟨g, want⟩ := p
    cases ht : (ops[g]?).bind (·.dst) with
    | none => simp only [guardA, gv, hg, ht]; simp
    | some t =>
      cases hb : T t <;> simp only [guardA, gv, hg, ht, hb, condG] <;> try simp
      case tup cells => cases cells <;> simp
      rename_i b
      by_cases hbw : b = want
      · subst hbw; simp
      · have : (b == want) = false := by simpa using hbw
        simp [hbw]

theorem callA_mono {f : AV} {args : List AV} {K K' : AV → Heap → Prop} {H : Heap} (h : callA P f args K H) (hk : ∀ r H', K r H' → K' r H') : callA P f args K' H := by
  unfold callA at *
  split at h
  · exact h.mono hk
  · exact h.elim

theorem dop_gop {N : Nat} {cfg : Cfg} {ops : Array Oper} {gen : Bool} {o : Oper} {K : Slots → Heap → Prop} {T : Slots} {H : Heap} (h : dop P N cfg ops gen o K T H) : gop P N cfg ops o K T H := by
  unfold dop at h
  split at h
  · rename_i c ho
    obtain ⟨callee, args, ts⟩ := c
    simp only at h
    split at h
    · rename_i f
      split at h
      · exact h
      · rw [guardA_iff] at h
        unfold gop
        rw [guardA_iff]
        refine h.imp (fun ⟨h1, v, h2, h3⟩ => ⟨h1, ?_⟩) id
        have hm : isM cfg o = false := by simp [isM, ho]
        unfold aop aopv
        simp only [ho, hm, Bool.false_eq_true, if_false]
        exact callA_mono h2 fun r H' ⟨e1, e2⟩ => by subst e1; subst e2; exact h3
    · exact h
  · exact h

/-- The value of an operation that may change places. -/
def valR (P : Program) (cfg : Cfg) (o : Oper) (T : Slots) (H : Heap) (v : AV) : Prop := match o.op with
  | .box _ x => ∃ cs, cellsOf? (evalA P T x) = some cs ∧ v = .iptr cs
  | .buildSlice t len parts => (∃ e, P.underlying t = some (.slice e)) ∧ ∃ cells, literalF P t len (parts.toList.map fun p => (p.1, evalA P T p.2)) = some cells ∧ v = .imm len true cells
  | .store t a x => match P.info? t with
    | some i => selfA i.size (evalA P T a) (evalA P T x) H ∧ v = .any
    | none => False
  | .call c => match c.callee with
    | .value f => callA P (evalA P T f) (c.args.toList.map (evalA P T)) (fun r H' => r = v ∧ H' = H) H
    | _ => pureF P o.op (evalA P T) (cfg.heap o H) = some v
  | _ => pureF P o.op (evalA P T) (cfg.heap o H) = some v

def gR (P : Program) (cfg : Cfg) (ops : Array Oper) (o : Oper) (T : Slots) (H : Heap) (v : AV) : Prop :=
  (gv ops o T = some true ∧ valR P cfg o T H v) ∨ (gv ops o T = some false ∧ v = .tup [])

theorem dop_fp {N : Nat} {cfg : Cfg} {ops : Array Oper} {gen : Bool} {o : Oper} {K : Slots → Heap → Prop} {T : Slots} {H : Heap} (hc : cls cfg gen o = .f ∨ cls cfg gen o = .p) :
    dop P N cfg ops gen o K T H ↔ ∃ v, gR P cfg ops o T H v ∧ K (T.put N o.dst v) H := by
  have hm : isM cfg o = false := by
    cases hh : isM cfg o
    · rfl
    · simp [cls, hh] at hc
  simp only [cls, hm, Bool.false_eq_true, if_false] at hc
  have gen1 : ∀ {A : Prop}, (A ↔ ∃ v, valR P cfg o T H v ∧ K (T.put N o.dst v) H) → (guardA ops o T A (K (T.put N o.dst (.tup [])) H) ↔ ∃ v, gR P cfg ops o T H v ∧ K (T.put N o.dst v) H) := by
    intro A hA
    rw [guardA_iff]
    constructor
    · rintro (⟨h1, h2⟩ | ⟨h1, h2⟩)
      · obtain ⟨v, h3, h4⟩ := hA.1 h2
        exact ⟨v, .inl ⟨h1, h3⟩, h4⟩
      · exact ⟨.tup [], .inr ⟨h1, rfl⟩, h2⟩
    · rintro ⟨v, ⟨h1, h2⟩ | ⟨h1, rfl⟩, h3⟩
      · exact .inl ⟨h1, hA.2 ⟨v, h2, h3⟩⟩
      · exact .inr ⟨h1, h3⟩
  have gop1 : (aop P N cfg o K T H ↔ ∃ v, valR P cfg o T H v ∧ K (T.put N o.dst v) H) → (gop P N cfg ops o K T H ↔ ∃ v, gR P cfg ops o T H v ∧ K (T.put N o.dst v) H) := fun h => gen1 h
  obtain ⟨dst, op, type, pos, after, guard⟩ := o
  cases op
  case call c =>
    obtain ⟨callee, args, ts⟩ := c
    cases callee
    case value f =>
      by_cases hg : gen = true
      · subst hg; simp at hc
      · simp only [dop, hg, Bool.false_eq_true, if_false]
        exact gen1 Iff.rfl
    case invoke => simp at hc
    case builtin b =>
      simp only [dop]
      refine gop1 ?_
      cases b <;> simp at hc
      case append => split at hc <;> simp at hc
      all_goals simp only [aop, aopv, hm, Bool.false_eq_true, if_false, valR, letO_iff]
  all_goals
    simp only [dop]
    refine gop1 ?_
  case box t x =>
    have : cfg.own (dst.getD 0) = false := by
      cases hh : cfg.own (dst.getD 0)
      · rfl
      · simp [hh] at hc
    simp only [aop, aopv, hm, Bool.false_eq_true, if_false, this, Bool.false_eq_true, if_false, valR, letO_iff]
    constructor
    · rintro ⟨cs, h1, h2⟩
      exact ⟨_, ⟨cs, h1, rfl⟩, h2⟩
    · rintro ⟨v, ⟨cs, h1, rfl⟩, h2⟩
      exact ⟨cs, h1, h2⟩
  case buildSlice t len parts =>
    have : cfg.own (dst.getD 0) = false := by
      cases hh : cfg.own (dst.getD 0)
      · rfl
      · simp [hh] at hc
    simp only [aop, aopv, hm, Bool.false_eq_true, if_false, this, Bool.false_eq_true, if_false, valR]
    constructor
    · intro h
      split at h
      · rename_i e he
        rw [letO_iff] at h
        obtain ⟨cells, h1, h2⟩ := h
        exact ⟨_, ⟨⟨e, he⟩, cells, h1, rfl⟩, h2⟩
      · exact h.elim
    · rintro ⟨v, ⟨⟨e, he⟩, cells, hcells, rfl⟩, h2⟩
      rw [he]
      exact letO_iff.2 ⟨cells, hcells, h2⟩
  case alloc t => by_cases hg : guard.isNone = true <;> simp [hg] at hc
  case makeSlice => simp at hc
  case store t a x =>
    have hs : selfOf cfg x = true := by
      cases hh : selfOf cfg x
      · simp [hh] at hc
      · rfl
    simp only [aop, aopv, hm, Bool.false_eq_true, if_false, valR, hs, if_true]
    cases P.info? t with
    | none => simp
    | some i =>
      constructor
      · rintro ⟨h1, h2⟩
        exact ⟨_, ⟨h1, rfl⟩, h2⟩
      · rintro ⟨v, ⟨h1, rfl⟩, h2⟩
        exact ⟨h1, h2⟩
  all_goals simp only [aop, aopv, hm, Bool.false_eq_true, if_false, valR, letO_iff]

end Go.Av

/- What a step looks at; what it does not see. -/
namespace Go.Av
variable {P : Program}

/-- The slots that count for an operation are the same. -/
def Agree (P : Program) (ops : Array Oper) (o : Oper) (T T' : Slots) : Prop :=
  (∀ x ∈ o.op.operands, evalA P T x = evalA P T' x) ∧ (∀ g want t, o.guard = some (g, want) → (ops[g]?).bind (·.dst) = some t → T t = T' t)

theorem agree_put {N : Nat} {ops : Array Oper} {o : Oper} {T : Slots} {d : Option Tmp} {v : AV} (h : ∀ t, d = some t → t ∉ o.looksAt ops) : Agree P ops o (T.put N d v) T := by
  cases d with
  | none => exact ⟨fun _ _ => rfl, fun _ _ _ _ _ => rfl⟩
  | some d =>
    have hd := h d rfl
    have ne : ∀ t, t ≠ d → (T.put N (some d) v) t = T t := by
      intro t ht
      simp only [Slots.put]
      split
      · simp [ht]
      · rfl
    refine ⟨fun x hx => ?_, fun g want t hg ht => ne t fun e => hd ?_⟩
    · cases x <;> try rfl
      rename_i t
      refine ne t fun e => hd ?_
      subst e
      exact List.mem_append_left _ (List.mem_filterMap.2 ⟨.tmp t, by simpa using hx, rfl⟩)
    · subst e
      refine List.mem_append_right _ ?_
      simp [hg, ht]

theorem gv_congr {ops : Array Oper} {o : Oper} {T T' : Slots} (h : Agree P ops o T T') : gv ops o T = gv ops o T' := by
  unfold gv
  cases hg : o.guard with
  | none => rfl
  | some p =>
    obtain ⟨g, want⟩ := p
    cases ht : (ops[g]?).bind (·.dst) with
    | none => simp only [ht]
    | some t => simp only [ht, h.2 g want t hg ht]

theorem map_parts {ρ ρ' : Operand → AV} : ∀ {l : List (Nat × Operand)}, (∀ p ∈ l, ρ p.2 = ρ' p.2) → (l.map fun p => (p.1, ρ p.2)) = l.map fun p => (p.1, ρ' p.2) :=
  fun h => List.map_congr_left fun p hp => by rw [h p hp]

theorem pureF_congr {op : Op} {ρ ρ' : Operand → AV} {H : Heap} (h : ∀ x ∈ op.operands, ρ x = ρ' x) : pureF P op ρ H = pureF P op ρ' H := by
  cases op <;> simp only [Op.operands] at h <;> simp only [pureF]
  case build t parts => rw [map_parts fun p hp => h p.2 (by simp; exact ⟨p.1, by simpa using hp⟩)]
  case makeFunc fn first captured =>
    have : captured.toList.map ρ = captured.toList.map ρ' := List.map_congr_left fun x hx => h x (by simp; exact .inr (by simpa using hx))
    rw [this]
  case slice t x lo hi mx =>
    have e1 := h x (by simp)
    have e2 : lo.map ρ = lo.map ρ' := by cases lo <;> simp_all
    have e3 : hi.map ρ = hi.map ρ' := by cases hi <;> simp_all
    have e4 : mx.map ρ = mx.map ρ' := by cases mx <;> simp_all
    rw [e1, e2, e3, e4]
  case call c =>
    obtain ⟨callee, args, ts⟩ := c
    simp only [Call.operands] at h
    simp only
    split
    · rename_i x t h1 _
      have : x ∈ args := by rw [← Array.mem_toList_iff, h1]; simp
      rw [h x (by simp [this])]
    · rename_i x y h1
      have hx : x ∈ args := by rw [← Array.mem_toList_iff, h1]; simp
      have hy : y ∈ args := by rw [← Array.mem_toList_iff, h1]; simp
      rw [h x (by simp [hx]), h y (by simp [hy])]
    · rename_i x y h1
      have hx : x ∈ args := by rw [← Array.mem_toList_iff, h1]; simp
      have hy : y ∈ args := by rw [← Array.mem_toList_iff, h1]; simp
      rw [h x (by simp [hx]), h y (by simp [hy])]
    · rfl
  case pick c a b => rw [h c (by simp), h a (by simp), h b (by simp)]
  case binOp op t x y yt => rw [h x (by simp), h y (by simp)]
  case indexAddr t x i => rw [h x (by simp), h i (by simp)]
  case index t x i => rw [h x (by simp), h i (by simp)]
  all_goals first
    | rfl
    | rw [h _ (by simp)]

theorem valR_congr {cfg : Cfg} {ops : Array Oper} {o : Oper} {T T' : Slots} {H : Heap} {v : AV} (h : Agree P ops o T T') : valR P cfg o T H v ↔ valR P cfg o T' H v := by
  have hp : pureF P o.op (evalA P T) (cfg.heap o H) = pureF P o.op (evalA P T') (cfg.heap o H) := pureF_congr h.1
  obtain ⟨dst, op, type, pos, after, guard⟩ := o
  have h1 := h.1
  simp only at h1 hp
  unfold valR
  simp only
  cases op <;> simp only [hp]
  case box t x => rw [h1 x (by simp [Op.operands])]
  case buildSlice t len parts => rw [map_parts fun p hp => h1 p.2 (by simp [Op.operands]; exact ⟨p.1, by simpa using hp⟩)]
  case store t a x => rw [h1 a (by simp [Op.operands]), h1 x (by simp [Op.operands])]
  case call c =>
    obtain ⟨callee, args, ts⟩ := c
    cases callee <;> simp only
    rename_i f
    have e1 := h1 f (by simp [Op.operands, Call.operands])
    have e2 : args.toList.map (evalA P T) = args.toList.map (evalA P T') := List.map_congr_left fun x hx => h1 x (by simp [Op.operands, Call.operands]; exact .inr (by simpa using hx))
    rw [e1, e2]

theorem gR_congr {cfg : Cfg} {ops : Array Oper} {o : Oper} {T T' : Slots} {H : Heap} {v : AV} (h : Agree P ops o T T') : gR P cfg ops o T H v ↔ gR P cfg ops o T' H v := by
  unfold gR
  rw [gv_congr h, valR_congr h]

theorem cellsAt?_stable {a : AV} {H : Heap} {b : Nat} {c cells : List AV} (hb : H b = none) (h : cellsAt? a H = some cells) : cellsAt? a (H.put b c) = some cells := by
  cases a <;> simp only [cellsAt?, reduceCtorEq] at h ⊢
  · exact h
  · rename_i b' off
    simp only [Option.map_eq_some_iff] at h
    obtain ⟨cs, h1, rfl⟩ := h
    have : b' ≠ b := fun e => by subst e; rw [hb] at h1; cases h1
    simp [Heap.put, this, h1]

theorem pureF_stable {op : Op} {ρ : Operand → AV} {H : Heap} {b : Nat} {c : List AV} {v : AV} (hb : H b = none) (h : pureF P op ρ H = some v) : pureF P op ρ (H.put b c) = some v := by
  cases op <;> try exact h
  rename_i t a
  simp only [pureF, loadF] at h ⊢
  cases hu : P.underlying t with
  | none => rw [hu] at h; cases h
  | some d =>
    rw [hu] at h
    simp only at h ⊢
    split at h
    · rename_i hagg
      rw [if_pos hagg]
      split at h
      · simp only [loadN, Option.bind_eq_some_iff] at h ⊢
        obtain ⟨cells, h1, h2⟩ := h
        exact ⟨cells, cellsAt?_stable hb h1, h2⟩
      · cases h
    · rename_i hagg
      rw [if_neg hagg]
      simp only [load1, Option.bind_eq_some_iff] at h ⊢
      obtain ⟨cells, h1, h2⟩ := h
      exact ⟨cells, cellsAt?_stable hb h1, h2⟩

/-- A call that leaves memory as it was does not see a further block. -/
theorem ACalls.frame1 {f : FuncId} {args : List AV} {H : Heap} {v : AV} {b : Nat} {c : List AV} (hb : H b = none) (h : ACalls P f args H fun r H' => r = v ∧ H' = H) :
    ACalls P f args (H.put b c) fun r H' => r = v ∧ H' = H.put b c := by
  refine ⟨h.1, fun E w vs hgl hs hr => ?_⟩
  have hs1 : St E H w := hs.weaken fun x cs hx => by
    have : x ≠ b := fun e => by subst e; rw [hb] at hx; cases hx
    simp [Heap.put, this, hx]
  refine (h.2 E w vs hgl hs1 hr).mono ?_
  rintro e w' ⟨r, u, E', H', rfl, h1, h2, h3, rfl, rfl⟩
  have hbb : (H'.put b c) b = some c := by simp [Heap.put]
  obtain ⟨f1, f2, f3, f4⟩ := hs.own b c hbb
  have hlt := hs.lt hbb
  have hblk := h3.frame b hlt hb
  refine ⟨r, u, E', _, rfl, h1, ⟨h2.frz, h2.siz, fun x cells hx => ?_, h2.kd⟩, ⟨h3.env, h3.size, fun x hx hn => h3.frame x hx ?_, fun x hx => .inl hx, fun x hx => (h3.domF x hx).imp id (Or.imp (fun hh => ?_) id), h3.os, h3.output, h3.sI⟩, rfl, rfl⟩
  · by_cases hxb : x = b
    · subst hxb
      rw [hbb] at hx
      cases hx
      refine ⟨?_, Nat.lt_of_lt_of_le f2 h3.size, fun s hS => ?_, fun k hI => ?_⟩
      rotate_left
      · rw [(h3.sI _ hlt).1] at hS
        obtain ⟨cc, T, g1, g2⟩ := f3 s hS
        exact ⟨cc, T, by rw [hblk]; exact g1, g2.mono h3.env⟩
      · rw [(h3.sI _ hlt).2] at hI
        rw [hblk]; exact (f4 k hI).mono h3.env
      cases hF : E'.F x with
      | none => rfl
      | some o =>
        rcases h3.domF x (by simp [hF]) with g | g | g
        · exact absurd f1 g
        · exact absurd hb g
        · omega
    · exact h2.own x cells (by simpa [Heap.put, hxb] using hx)
  · simp only [Heap.put] at hn
    split at hn
    · cases hn
    · exact hn
  · simp only [Heap.put]
    split
    · simp
    · exact hh

theorem callA_frame1 {f : AV} {args : List AV} {H : Heap} {v : AV} {b : Nat} {c : List AV} (hb : H b = none) (h : callA P f args (fun r H' => r = v ∧ H' = H) H) :
    callA P f args (fun r H' => r = v ∧ H' = H.put b c) (H.put b c) := by
  unfold callA at *
  split at h
  · exact h.frame1 hb
  · exact h.elim

theorem cfg_heap_put {cfg : Cfg} {o : Oper} {H : Heap} {b : Nat} {c : List AV} : cfg.heap o (H.put b c) = cfg.heap o H ∨ cfg.heap o (H.put b c) = (cfg.heap o H).put b c := by
  unfold Cfg.heap
  split
  · exact .inl rfl
  · exact .inr rfl

theorem selfA_stable {n : Nat} {a x : AV} {H : Heap} {b : Nat} {c : List AV} (hb : H b = none) (h : selfA n a x H) : selfA n a x (H.put b c) := by
  unfold selfA at *
  split at h
  · rename_i b' off
    obtain ⟨cells, cs, h1, h2⟩ := h
    have : b' ≠ b := fun e => by subst e; rw [hb] at h1; cases h1
    exact ⟨cells, cs, by simp [Heap.put, this, h1], h2⟩
  · exact h

theorem valR_stable {cfg : Cfg} {o : Oper} {T : Slots} {H : Heap} {v : AV} {b : Nat} {c : List AV} (hb : H b = none) (h : valR P cfg o T H v) : valR P cfg o T (H.put b c) v := by
  have hp : pureF P o.op (evalA P T) (cfg.heap o H) = some v → pureF P o.op (evalA P T) (cfg.heap o (H.put b c)) = some v := by
    intro h
    rcases cfg_heap_put (cfg := cfg) (o := o) (H := H) (b := b) (c := c) with e | e
    · rw [e]; exact h
    · rw [e]
      refine pureF_stable ?_ h
      unfold Cfg.heap
      split
      · rfl
      · exact hb
  obtain ⟨dst, op, type, pos, after, guard⟩ := o
  unfold valR at *
  simp only at *
  cases op
  case box => exact h
  case buildSlice => exact h
  case store t a x =>
    simp only at h ⊢
    cases hi : P.info? t with
    | none => rw [hi] at h; exact h
    | some i => rw [hi] at h; exact ⟨selfA_stable hb h.1, h.2⟩
  case call cc =>
    obtain ⟨callee, args, ts⟩ := cc
    cases callee
    case value f => exact callA_frame1 hb h
    all_goals exact hp h
  all_goals exact hp h

theorem gR_stable {cfg : Cfg} {ops : Array Oper} {o : Oper} {T : Slots} {H : Heap} {v : AV} {b : Nat} {c : List AV} (hb : H b = none) (h : gR P cfg ops o T H v) : gR P cfg ops o T (H.put b c) v :=
  h.imp (fun ⟨h1, h2⟩ => ⟨h1, valR_stable hb h2⟩) id

/-- An operation of the class 'f' looks at no memory. -/
theorem valR_any {cfg : Cfg} {gen : Bool} {o : Oper} {T : Slots} {H H' : Heap} {v : AV} (hc : cls cfg gen o = .f) (h : valR P cfg o T H v) : valR P cfg o T H' v := by
  have hm : isM cfg o = false := by
    cases hh : isM cfg o
    · rfl
    · simp [cls, hh] at hc
  simp only [cls, hm, Bool.false_eq_true, if_false] at hc
  obtain ⟨dst, op, type, pos, after, guard⟩ := o
  unfold valR at *
  simp only at *
  cases op
  case box => exact h
  case buildSlice => exact h
  case call cc =>
    obtain ⟨callee, args, ts⟩ := cc
    cases callee
    case value f =>
      simp only at hc
      split at hc <;> cases hc
    all_goals exact h
  case store t a x =>
    simp only at hc
    split at hc <;> cases hc
  case load t a =>
    have hf : cfg.fz (dst.getD 0) = true := by
      cases hh : cfg.fz (dst.getD 0)
      · simp [hh] at hc
      · rfl
    simp only [Cfg.heap, hf, if_true] at h ⊢
    exact h
  all_goals exact h

theorem gR_any {cfg : Cfg} {gen : Bool} {ops : Array Oper} {o : Oper} {T : Slots} {H H' : Heap} {v : AV} (hc : cls cfg gen o = .f) (h : gR P cfg ops o T H v) : gR P cfg ops o T H' v :=
  h.imp (fun ⟨h1, h2⟩ => ⟨h1, valR_any hc h2⟩) id

end Go.Av

/- Steps that change places. -/
namespace Go.Av
variable {P : Program}

theorem Slots.put_comm {N : Nat} (T : Slots) {d e : Option Tmp} {v u : AV} (h : ∀ t, d = some t → e ≠ some t) : (T.put N d v).put N e u = (T.put N e u).put N d v := by
  cases d with
  | none => rfl
  | some d =>
    cases e with
    | none => rfl
    | some e =>
      have hne : e ≠ d := fun he => h d rfl (by rw [he])
      funext x
      simp only [Slots.put]
      split <;> split <;> (try rfl)
      by_cases hx : x = e
      · subst hx; simp [hne]
      · simp [hx]

theorem growA_mono {sz n : Nat} {cells : List AV} {K K' : AV → Heap → Prop} {H : Heap} (hk : ∀ r H', K r H' → K' r H') (h : growA sz n cells K H) : growA sz n cells K' H := fun b hb => hk _ _ (h b hb)

theorem appendA_mono {sz bytes : Nat} {s x : AV} {K K' : AV → Heap → Prop} {H : Heap} (hk : ∀ r H', K r H' → K' r H') (h : appendA sz bytes s x K H) : appendA sz bytes s x K' H := by
  obtain ⟨m, new, h1, h2, h⟩ := h
  refine ⟨m, new, h1, h2, ?_⟩
  cases s <;> simp only at h ⊢
  case nils => exact h.imp (fun ⟨a, b⟩ => ⟨a, hk _ _ b⟩) fun ⟨a, b, c, d⟩ => ⟨a, b, c, growA_mono hk d⟩
  case imm n full cells => exact h.imp (fun ⟨a, b⟩ => ⟨a, hk _ _ b⟩) fun ⟨a, b, c, d, e, f⟩ => ⟨a, b, c, d, e, growA_mono hk f⟩
  case ref s b off n cp =>
    obtain ⟨a1, a2, cells, a3, a4, a5, a6, a7⟩ := h
    refine ⟨a1, a2, cells, a3, a4, a5, a6, ?_⟩
    cases cp with
    | some c =>
      simp only at a7 ⊢
      split at a7
      · rename_i hc; rw [if_pos hc]; exact hk _ _ a7
      · rename_i hc; rw [if_neg hc]; exact growA_mono hk a7
    | none => exact a7.imp (fun a7 b' hb' => hk _ _ (a7 b' hb')) fun ⟨a7, a8⟩ => ⟨hk _ _ a7, growA_mono hk a8⟩

theorem storeA_mono {n : Nat} {a x : AV} {K K' : Heap → Prop} {H : Heap} (hk : ∀ H', K H' → K' H') (h : storeA n a x K H) : storeA n a x K' H := by
  unfold storeA at *
  split at h
  · obtain ⟨cells, cs, a1, a2, a3, a4, a5, a6⟩ := h
    exact ⟨cells, cs, a1, a2, a3, a4, a5, hk _ a6⟩
  · exact h

theorem copyA_mono {sz : Nat} {d x : AV} {K K' : AV → Heap → Prop} {H : Heap} (hk : ∀ r H', K r H' → K' r H') (h : copyA sz d x K H) : copyA sz d x K' H := by
  obtain ⟨m, src, h1, h2, h⟩ := h
  refine ⟨m, src, h1, h2, ?_⟩
  cases d <;> simp only at h ⊢
  case nils => exact hk _ _ h
  case ref s b off n cp =>
    obtain ⟨a1, cells, a2, a3, a4⟩ := h
    exact ⟨a1, cells, a2, a3, hk _ _ a4⟩

theorem makeA_mono {z : List AV} {sz bytes : Nat} {l c : AV} {K K' : AV → Heap → Prop} {H : Heap} (hk : ∀ r H', K r H' → K' r H') (h : makeA z sz bytes l c K H) : makeA z sz bytes l c K' H := by
  unfold makeA at *
  split at h
  · obtain ⟨a1, a2, a3, a4, a5⟩ := h
    exact ⟨a1, a2, a3, a4, fun b hb => hk _ _ (a5 b hb)⟩
  · exact h

theorem appendC_mono {c : Call} {ρ : Operand → AV} {K K' : AV → Heap → Prop} {H : Heap} (hk : ∀ r H', K r H' → K' r H') (h : appendC P c ρ K H) : appendC P c ρ K' H := by
  unfold appendC at *
  split at h
  · split at h
    · split at h
      · split at h
        · exact h.elim
        · rename_i hc; rw [if_neg hc]; exact appendA_mono hk h
      · exact h
    · exact h
  · exact h

theorem copyC_mono {c : Call} {ρ : Operand → AV} {K K' : AV → Heap → Prop} {H : Heap} (hk : ∀ r H', K r H' → K' r H') (h : copyC P c ρ K H) : copyC P c ρ K' H := by
  unfold copyC at *
  split at h
  · split at h
    · split at h
      · exact copyA_mono hk h
      · exact h
    · exact h
  · exact h

theorem letO_mono {α : Type} {o : Option α} {k k' : α → Prop} (hk : ∀ v, k v → k' v) (h : letO o k) : letO o k' := by
  rw [letO_iff] at *
  exact h.imp fun v ⟨a, b⟩ => ⟨a, hk v b⟩

theorem aopM_mono {o : Oper} {ρ : Operand → AV} {k k' : AV → Heap → Prop} {H : Heap} (hk : ∀ v H, k v H → k' v H) (h : aopM P o ρ k H) : aopM P o ρ k' H := by
  unfold aopM rangeA nextA toBytesA toStrA newMapA setMapA lenMapA clrMapA at *
  split at h
  · split at h
    · split at h
      · exact fun b hb => hk _ _ (h b hb)
      · exact h
    · exact h
  · split at h
    · obtain ⟨pos, h1, h2⟩ := h
      refine ⟨pos, h1, ?_⟩
      split at h2
      · exact ⟨h2.1, hk _ _ h2.2⟩
      · exact hk _ _ h2
    · exact h
  · split at h
    · split at h
      · split at h
        · exact hk _ _ h
        · exact h
      · exact h
    · split at h
      · obtain ⟨n, c, l, h1, h2, h3⟩ := h
        exact ⟨n, c, l, h1, h2, hk _ _ h3⟩
      · exact h
    · exact h
  · exact fun b hb => hk _ _ (h b hb)
  · split at h
    · split at h
      · split at h
        · obtain ⟨h0, c, c', h1, h2, h3⟩ := h
          exact ⟨h0, c, c', h1, h2, hk _ _ h3⟩
        · exact h
      · exact h
    · exact h
  · split at h
    · split at h
      · split at h
        · obtain ⟨c, h1, h2⟩ := h
          exact ⟨c, h1, hk _ _ h2⟩
        · exact h
      · exact h
    · split at h
      · split at h
        · exact ⟨h.1, hk _ _ h.2⟩
        · exact h
      · exact h
    · exact h
  · exact h
theorem aopv_mono {cfg : Cfg} {o : Oper} {T : Slots} {k k' : AV → Heap → Prop} {H : Heap} (hk : ∀ v H, k v H → k' v H) (h : aopv P cfg o T k H) : aopv P cfg o T k' H := by
  unfold aopv at *
  simp only at *
  by_cases hM : isM cfg o = true
  · rw [if_pos hM] at h ⊢
    exact aopM_mono hk h
  rw [if_neg hM] at h ⊢
  split at h
  · exact letO_mono (fun z h b hb => hk _ _ (h b hb)) h
  · refine letO_mono (fun cs h => ?_) h
    split at h
    · rename_i hc; rw [if_pos hc]; exact fun b hb => hk _ _ (h b hb)
    · rename_i hc; rw [if_neg hc]; exact hk _ _ h
  · split at h
    · refine letO_mono (fun cs h => ?_) h
      split at h
      · rename_i hc; rw [if_pos hc]; exact fun b hb => hk _ _ (h b hb)
      · rename_i hc; rw [if_neg hc]; exact hk _ _ h
    · exact h
  · split at h
    · split at h
      · split at h
        · exact h.elim
        · rename_i hc; rw [if_neg hc]; exact makeA_mono (fun r H' => hk _ _) h
      · exact h
    · exact h
  · split at h
    · split at h
      · rename_i hc; rw [if_pos hc]; exact ⟨h.1, hk _ _ h.2⟩
      · rename_i hc; rw [if_neg hc]; exact storeA_mono (fun H' => hk _ _) h
    · exact h
  · split at h
    · split at h
      · rename_i hc; rw [if_pos hc]; exact ⟨h.1, appendC_mono (fun r H' => hk _ _) h.2⟩
      · rename_i hc; rw [if_neg hc]; exact appendC_mono (fun r H' => hk _ _) h
    · exact copyC_mono (fun r H' => hk _ _) h
    · exact letO_mono (fun v => hk _ _) h
    · exact callA_mono h fun r H' => hk _ _
    · exact h
  · exact letO_mono (fun v => hk _ _) h

theorem aop_mono' {N : Nat} {cfg : Cfg} {o : Oper} {K K' : Slots → Heap → Prop} {T : Slots} {H : Heap} (hk : ∀ v H, K (T.put N o.dst v) H → K' (T.put N o.dst v) H) (h : aop P N cfg o K T H) : aop P N cfg o K' T H :=
  aopv_mono hk h

theorem aop_mono {N : Nat} {cfg : Cfg} {o : Oper} {K K' : Slots → Heap → Prop} {T : Slots} {H : Heap} (hk : ∀ T H, K T H → K' T H) (h : aop P N cfg o K T H) : aop P N cfg o K' T H :=
  aop_mono' (fun _ _ => hk _ _) h

theorem guardA_mono {ops : Array Oper} {o : Oper} {T : Slots} {A B A' B' : Prop} (h : guardA ops o T A B) (ha : A → A') (hb : B → B') : guardA ops o T A' B' := by
  rw [guardA_iff] at *
  exact h.imp (And.imp id ha) (And.imp id hb)

theorem gop_mono {N : Nat} {cfg : Cfg} {ops : Array Oper} {o : Oper} {K K' : Slots → Heap → Prop} {T : Slots} {H : Heap} (hk : ∀ T H, K T H → K' T H) (h : gop P N cfg ops o K T H) : gop P N cfg ops o K' T H :=
  guardA_mono h (aop_mono hk) (hk _ _)

theorem gop_mono' {N : Nat} {cfg : Cfg} {ops : Array Oper} {o : Oper} {K K' : Slots → Heap → Prop} {T : Slots} {H : Heap} (hk : ∀ v H, K (T.put N o.dst v) H → K' (T.put N o.dst v) H) (h : gop P N cfg ops o K T H) : gop P N cfg ops o K' T H :=
  guardA_mono h (aop_mono' hk) (hk _ _)

theorem dop_mono' {N : Nat} {cfg : Cfg} {ops : Array Oper} {gen : Bool} {o : Oper} {K K' : Slots → Heap → Prop} {T : Slots} {H : Heap} (hk : ∀ v H, K (T.put N o.dst v) H → K' (T.put N o.dst v) H) (h : dop P N cfg ops gen o K T H) : dop P N cfg ops gen o K' T H := by
  unfold dop at *
  split at h
  · split at h
    · split at h
      · rename_i hg; rw [if_pos hg]; exact gop_mono' hk h
      · rename_i hg; rw [if_neg hg]; exact guardA_mono h (fun ⟨v, a, b⟩ => ⟨v, a, hk _ _ b⟩) (hk _ _)
    · exact gop_mono' hk h
  · exact gop_mono' hk h

theorem dop_mono {N : Nat} {cfg : Cfg} {ops : Array Oper} {gen : Bool} {o : Oper} {K K' : Slots → Heap → Prop} {T : Slots} {H : Heap} (hk : ∀ T H, K T H → K' T H) (h : dop P N cfg ops gen o K T H) : dop P N cfg ops gen o K' T H := by
  unfold dop at *
  split at h
  · split at h
    · split at h
      · rename_i hg; rw [if_pos hg]; exact gop_mono hk h
      · rename_i hg; rw [if_neg hg]; exact guardA_mono h (fun ⟨v, a, b⟩ => ⟨v, a, hk _ _ b⟩) (hk _ _)
    · exact gop_mono hk h
  · exact gop_mono hk h


theorem cls_m {cfg : Cfg} {gen : Bool} {o : Oper} (h : cls cfg gen o ≠ .z) : isM cfg o = false := by
  cases hh : isM cfg o
  · rfl
  · exact absurd (by simp [cls, hh]) h
theorem cls_x {cfg : Cfg} {gen : Bool} {o : Oper} (hc : cls cfg gen o = .x ∨ cls cfg gen o = .g) : ∃ c : Call, o.op = .call c ∧ c.callee = .builtin .append ∧ (cls cfg gen o = .g ↔ cfg.ga (o.dst.getD 0) = true) := by
  have hm : isM cfg o = false := cls_m (gen := gen) (by rcases hc with h | h <;> rw [h] <;> decide)
  simp only [cls, hm, Bool.false_eq_true, if_false] at hc ⊢
  obtain ⟨dst, op, type, pos, after, guard⟩ := o
  cases op
  case call c =>
    refine ⟨c, rfl, ?_⟩
    obtain ⟨callee, args, ts⟩ := c
    cases callee
    case builtin b =>
      cases b
      case append =>
        refine ⟨rfl, ?_⟩
        simp only
        split <;> simp_all
      all_goals simp at hc
    case value f => by_cases hg : gen = true <;> simp [hg] at hc
    case invoke => simp at hc
  all_goals
    exfalso
    try simp only at hc
    first
      | (simp at hc; done)
      | (split at hc <;> simp at hc; done)

theorem cls_a {cfg : Cfg} {gen : Bool} {o : Oper} (hc : cls cfg gen o = .a) : (∃ t, o.op = .alloc t) ∧ o.guard = none := by
  have hm : isM cfg o = false := cls_m (gen := gen) (by rw [hc]; decide)
  simp only [cls, hm, Bool.false_eq_true, if_false] at hc
  obtain ⟨dst, op, type, pos, after, guard⟩ := o
  cases op <;> (try simp only at hc) <;> (try (split at hc <;> cases hc)) <;> try cases hc
  case alloc => exact ⟨⟨_, rfl⟩, by cases guard <;> simp_all⟩
  case call c =>
    obtain ⟨callee, args, ts⟩ := c
    cases callee <;> simp only [reduceCtorEq] at hc
    case value f => split at hc <;> cases hc
    case builtin b => cases b <;> simp only [reduceCtorEq] at hc; split at hc <;> cases hc

end Go.Av

/- Pairs of steps: the later one may come first. -/
namespace Go.Av
variable {P : Program}

theorem srcOf_stable {sz : Nat} {x : AV} {H : Heap} {r : Nat × List AV} {b : Nat} {c : List AV} (hb : H b = none) (h : srcOf sz x H = some r) : srcOf sz x (H.put b c) = some r := by
  cases x <;> simp only [srcOf, reduceCtorEq] at h ⊢
  · exact h
  · exact h
  · rename_i s b' off n cp
    split at h
    · rename_i hs
      rw [if_pos hs]
      simp only [Option.bind_eq_some_iff] at h ⊢
      obtain ⟨cells, h1, h2⟩ := h
      have : b' ≠ b := fun e => by subst e; rw [hb] at h1; cases h1
      exact ⟨cells, by simp [Heap.put, this, h1], h2⟩
    · cases h

theorem put_put_comm {H : Heap} {b b' : Nat} {c c' : List AV} (h : b' ≠ b) : (H.put b c).put b' c' = (H.put b' c').put b c := by
  funext x
  simp only [Heap.put]
  by_cases hx : x = b'
  · subst hx; simp [h]
  · simp [hx]

theorem put_del_comm {H : Heap} {b b' : Nat} {c : List AV} (h : b' ≠ b) : (H.put b c).del b' = (H.del b').put b c := by
  funext x
  simp only [Heap.put, Heap.del]
  by_cases hx : x = b'
  · subst hx; simp [h]
  · simp [hx]

/-- The same, beside a block of which nothing is known. -/
def Beside (b : Nat) (c : List AV) (k : AV → Heap → Prop) (v : AV) (H' : Heap) : Prop := ∃ H1, H' = H1.put b c ∧ H1 b = none ∧ k v H1

theorem growA_beside {sz n : Nat} {cells : List AV} {k : AV → Heap → Prop} {H : Heap} {b : Nat} {c : List AV} (hb : H b = none) (h : growA sz n cells k H) : growA sz n cells (Beside b c k) (H.put b c) := by
  intro b' hb'
  have hne : b' ≠ b := fun e => by subst e; simp [Heap.put] at hb'
  have h1 : H b' = none := by simpa [Heap.put, hne] using hb'
  exact ⟨H.put b' cells, put_put_comm hne, by simp [Heap.put, Ne.symm hne, hb], h b' h1⟩

theorem appendA_beside {sz bytes : Nat} {s x : AV} {k : AV → Heap → Prop} {H : Heap} {b : Nat} {c : List AV} (hb : H b = none) (h : appendA sz bytes s x k H) : appendA sz bytes s x (Beside b c k) (H.put b c) := by
  obtain ⟨m, new, h1, h2, h⟩ := h
  refine ⟨m, new, srcOf_stable hb h1, h2, ?_⟩
  cases s <;> simp only at h ⊢
  case nils => exact h.imp (fun ⟨a1, a2⟩ => ⟨a1, H, rfl, hb, a2⟩) fun ⟨a1, a2, a3, a4⟩ => ⟨a1, a2, a3, growA_beside hb a4⟩
  case imm n full cells => exact h.imp (fun ⟨a1, a2⟩ => ⟨a1, H, rfl, hb, a2⟩) fun ⟨a1, a2, a3, a4, a5, a6⟩ => ⟨a1, a2, a3, a4, a5, growA_beside hb a6⟩
  case ref s b0 off n cp =>
    obtain ⟨a1, a2, cells, a3, a4, a5, a6, a7⟩ := h
    have hne : b0 ≠ b := fun e => by subst e; rw [hb] at a3; cases a3
    refine ⟨a1, a2, cells, by simp [Heap.put, hne, a3], a4, a5, a6, ?_⟩
    cases cp with
    | some cv =>
      simp only at a7 ⊢
      split at a7
      · rename_i hc
        rw [if_pos hc]
        exact ⟨_, put_put_comm hne, by simp [Heap.put, Ne.symm hne, hb], a7⟩
      · rename_i hc
        rw [if_neg hc]
        exact growA_beside hb a7
    | none =>
      refine a7.imp (fun a7 => ?_) fun ⟨a7, a8⟩ => ⟨⟨_, put_put_comm hne, by simp [Heap.put, Ne.symm hne, hb], a7⟩, growA_beside hb a8⟩
      intro b' hb'
      have hne' : b' ≠ b := by
        rcases hb' with rfl | hb'
        · exact hne
        · exact fun e => by subst e; simp [Heap.put] at hb'
      have hb1 : b' = b0 ∨ H b' = none := hb'.imp id fun h => by simpa [Heap.put, hne'] using h
      exact ⟨(H.del b0).put b' (cells.take (n * sz) ++ new), by rw [put_del_comm hne, put_put_comm hne'], by simp [Heap.put, Heap.del, Ne.symm hne', hb], a7 b' hb1⟩

theorem appendC_beside {cl : Call} {ρ : Operand → AV} {k : AV → Heap → Prop} {H : Heap} {b : Nat} {c : List AV} (hb : H b = none) (h : appendC P cl ρ k H) : appendC P cl ρ (Beside b c k) (H.put b c) := by
  unfold appendC at *
  split at h
  · split at h
    · split at h
      · split at h
        · exact h.elim
        · rename_i hc; rw [if_neg hc]; exact appendA_beside hb h
      · exact h
    · exact h
  · exact h

theorem appendC_congr {cl : Call} {ρ ρ' : Operand → AV} {k : AV → Heap → Prop} {H : Heap} (h : ∀ x ∈ cl.args, ρ x = ρ' x) : appendC P cl ρ k H ↔ appendC P cl ρ' k H := by
  unfold appendC
  split
  · rename_i s x t t' h1 h2
    have hs : s ∈ cl.args := by rw [← Array.mem_toList_iff, h1]; simp
    have hx : x ∈ cl.args := by rw [← Array.mem_toList_iff, h1]; simp
    rw [h s hs, h x hx]
  · rfl

section
variable {N : Nat} {cfg : Cfg} {ops : Array Oper} {gj gi : Bool} {oj oi : Oper} {K : Slots → Heap → Prop} {T : Slots} {H : Heap}

theorem appendC_ref {c : Call} {ρ ρ' : Operand → AV} (h : ∀ x ∈ c.args, ρ x = ρ' x) : appG c ρ ↔ appG c ρ' := by
  unfold appG
  split
  · rename_i s r h1
    have hs : s ∈ c.args := by rw [← Array.mem_toList_iff, h1]; simp
    rw [h s hs]
  · rfl

/-- An append in a region that draws, in full. -/
theorem dop_x (hc : cls cfg gj oj = .x ∨ cls cfg gj oj = .g) : ∃ c : Call, oj.op = .call c ∧ ∀ (K : Slots → Heap → Prop) (T : Slots) (H : Heap), dop P N cfg ops gj oj K T H ↔
    (gv ops oj T = some true ∧ (cls cfg gj oj = .g → appG c (evalA P T)) ∧ appendC P c (evalA P T) (fun v H => K (T.put N oj.dst v) H) H) ∨ (gv ops oj T = some false ∧ K (T.put N oj.dst (.tup [])) H) := by
  obtain ⟨c, h1, h2, h3⟩ := cls_x hc
  refine ⟨c, h1, fun K T H => ?_⟩
  have : dop P N cfg ops gj oj K T H = gop P N cfg ops oj K T H := by
    unfold dop
    rw [h1]
    simp only [h2]
  rw [this]
  unfold gop
  rw [guardA_iff]
  have e : aop P N cfg oj K T H ↔ (cls cfg gj oj = .g → appG c (evalA P T)) ∧ appendC P c (evalA P T) (fun v H => K (T.put N oj.dst v) H) H := by
    have hm : isM cfg oj = false := cls_m (gen := gj) (by rcases hc with h | h <;> rw [h] <;> decide)
    unfold aop aopv
    simp only [hm, Bool.false_eq_true, if_false]
    rw [h1, h3]
    simp only [h2]
    by_cases hg : cfg.ga (oj.dst.getD 0) = true
    · simp [hg]
    · simp [hg]
  rw [e]

/-- Such an append leaves memory as it was, or with one new block. -/
theorem appendC_new {cl : Call} {ρ : Operand → AV} {k : AV → Heap → Prop} {H : Heap} (hg : appG cl ρ) (h : appendC P cl ρ k H) :
    appendC P cl ρ (fun v H' => k v H' ∧ (H' = H ∨ ∃ b c, H b = none ∧ H' = H.put b c)) H := by
  unfold appendC at *
  split at h
  · rename_i s x t t' h1 h2
    have hs : isRef (ρ s) = false := by
      unfold appG at hg
      rw [h1] at hg
      exact hg
    split at h
    · split at h
      · split at h
        · exact h.elim
        · rename_i hc
          rw [if_neg hc]
          obtain ⟨m, new, g1, g2, g3⟩ := h
          refine ⟨m, new, g1, g2, ?_⟩
          generalize ρ s = sv at g3 hs
          cases sv <;> simp only [isRef, Bool.true_eq_false] at hs <;> simp only at g3 ⊢
          case nils => exact g3.imp (fun ⟨a1, a2⟩ => ⟨a1, a2, by simp⟩) fun ⟨a1, a2, a3, a4⟩ => ⟨a1, a2, a3, fun b hb => ⟨a4 b hb, .inr ⟨b, _, hb, rfl⟩⟩⟩
          case imm n full cells => exact g3.imp (fun ⟨a1, a2⟩ => ⟨a1, a2, by simp⟩) fun ⟨a1, a2, a3, a4, a5, a6⟩ => ⟨a1, a2, a3, a4, a5, fun b hb => ⟨a6 b hb, .inr ⟨b, _, hb, rfl⟩⟩⟩
      · exact h
    · exact h
  · exact h

theorem aopM_congr {o : Oper} {ρ ρ' : Operand → AV} {k : AV → Heap → Prop} {H : Heap} (h : ∀ x ∈ o.op.operands, ρ x = ρ' x) : aopM P o ρ k H ↔ aopM P o ρ' k H := by
  obtain ⟨dst, op, type, pos, after, guard⟩ := o
  simp only at h
  unfold aopM
  simp only
  cases op <;> try rfl
  case range t x => simp only [h x (by simp [Op.operands])]
  case next x b => cases b <;> simp only [h x (by simp [Op.operands])]
  case convert s d x => simp only [h x (by simp [Op.operands])]
  case makeMap t r => cases r <;> rfl
  case mapUpdate t m k x => simp only [h m (by simp [Op.operands]), h k (by simp [Op.operands]), h x (by simp [Op.operands])]
  case call c =>
    obtain ⟨callee, args, ts⟩ := c
    have ha : ∀ x ∈ args, ρ x = ρ' x := fun x hx => h x (by simp [Op.operands, Call.operands, hx])
    rcases hl : args.toList with _ | ⟨x, _ | ⟨y, l⟩⟩ <;> rcases hts : ts.toList with _ | ⟨t, _ | ⟨u, l'⟩⟩ <;> cases callee <;> simp only [hl, hts]
    all_goals
      rename_i b
      cases b <;> first
        | rfl
        | (have hx : ρ x = ρ' x := ha x (by rw [← Array.mem_toList_iff, hl]; simp)
           simp only [hx])
theorem aopv_congr {cfg : Cfg} {ops : Array Oper} {o : Oper} {T T' : Slots} {k : AV → Heap → Prop} {H : Heap} (h : Agree P ops o T T') : aopv P cfg o T k H ↔ aopv P cfg o T' k H := by
  have hp : pureF P o.op (evalA P T) (cfg.heap o H) = pureF P o.op (evalA P T') (cfg.heap o H) := pureF_congr h.1
  by_cases hM : isM cfg o = true
  · unfold aopv
    simp only [hM, if_true]
    exact aopM_congr h.1
  have hM' : isM cfg o = false := by simpa using hM
  unfold aopv
  simp only [hM', Bool.false_eq_true, if_false]
  obtain ⟨dst, op, type, pos, after, guard⟩ := o
  have h1 := h.1
  simp only at h1 hp
  try simp only
  cases op <;> simp only [hp]
  case box t x => rw [h1 x (by simp [Op.operands])]
  case buildSlice t len parts => rw [map_parts fun p hp => h1 p.2 (by simp [Op.operands]; exact ⟨p.1, by simpa using hp⟩)]
  case makeSlice t l c => rw [h1 l (by simp [Op.operands]), h1 c (by simp [Op.operands])]
  case store t a x => rw [h1 a (by simp [Op.operands]), h1 x (by simp [Op.operands])]
  case call c =>
    obtain ⟨callee, args, ts⟩ := c
    have ha : ∀ x ∈ args, evalA P T x = evalA P T' x := fun x hx => h1 x (by simp [Op.operands, Call.operands, hx])
    cases callee <;> simp only
    case value f =>
      have e1 := h1 f (by simp [Op.operands, Call.operands])
      have e2 : args.toList.map (evalA P T) = args.toList.map (evalA P T') := List.map_congr_left fun x hx => ha x (by simpa using hx)
      rw [e1, e2]
    case builtin b =>
      have e3 := appendC_congr (P := P) (cl := { callee := .builtin .append, args, argTypes := ts }) (k := k) (H := H) ha
      have e4 := appendC_ref (c := { callee := .builtin .append, args, argTypes := ts }) ha
      cases b <;> simp only
      case append => rw [e3, e4]
      case copy =>
        unfold copyC
        split
        · rename_i d x t r g1 g2
          have hd : d ∈ args := by rw [← Array.mem_toList_iff, g1]; simp
          have hx : x ∈ args := by rw [← Array.mem_toList_iff, g1]; simp
          rw [ha d hd, ha x hx]
        · rfl

theorem dop_a (hc : cls cfg gj oj = .a) : ∃ t, oj.op = .alloc t ∧ ∀ (K : Slots → Heap → Prop) (T : Slots) (H : Heap), dop P N cfg ops gj oj K T H ↔
    ∃ z, zeroF P t = some z ∧ ∀ b, H b = none → K (T.put N oj.dst (.ptr b 0)) (H.put b z) := by
  obtain ⟨⟨t, h1⟩, h2⟩ := cls_a hc
  refine ⟨t, h1, fun K T H => ?_⟩
  have : dop P N cfg ops gj oj K T H = aop P N cfg oj K T H := by
    unfold dop
    rw [h1]
    simp only [gop, guardA, h2]
  rw [this]
  have hm : isM cfg oj = false := cls_m (gen := gj) (by rw [hc]; decide)
  unfold aop aopv
  simp only [hm, Bool.false_eq_true, if_false]
  rw [h1]
  simp only [letO_iff, allocA]

/-- Two operations look at nothing of each other's. -/
structure Apart (ops : Array Oper) (x y : Oper) : Prop where
  l : ∀ t, x.dst = some t → t ∉ y.looksAt ops
  r : ∀ t, y.dst = some t → t ∉ x.looksAt ops
  d : ∀ t, x.dst = some t → y.dst ≠ some t

theorem swap_fp_fp (hj : cls cfg gj oj = .f ∨ cls cfg gj oj = .p) (hi : cls cfg gi oi = .f ∨ cls cfg gi oi = .p) (ha : Apart ops oj oi)
    (h : dop P N cfg ops gj oj (fun T H => dop P N cfg ops gi oi K T H) T H) : dop P N cfg ops gi oi (fun T H => dop P N cfg ops gj oj K T H) T H := by
  rw [dop_fp hj] at h
  rw [dop_fp hi]
  obtain ⟨vj, h1, h2⟩ := h
  simp only [dop_fp hi] at h2
  obtain ⟨vi, h3, h4⟩ := h2
  refine ⟨vi, (gR_congr (agree_put ha.l)).1 h3, ?_⟩
  rw [dop_fp hj]
  exact ⟨vj, (gR_congr (agree_put ha.r)).2 h1, by rw [← Slots.put_comm T ha.d]; exact h4⟩

theorem swap_fp_a (hj : cls cfg gj oj = .f ∨ cls cfg gj oj = .p) (hi : cls cfg gi oi = .a) (ha : Apart ops oj oi)
    (h : dop P N cfg ops gj oj (fun T H => dop P N cfg ops gi oi K T H) T H) : dop P N cfg ops gi oi (fun T H => dop P N cfg ops gj oj K T H) T H := by
  obtain ⟨t, _, hi'⟩ := dop_a (P := P) (N := N) (ops := ops) hi
  rw [dop_fp hj] at h
  obtain ⟨vj, h1, h2⟩ := h
  rw [hi'] at h2 ⊢
  obtain ⟨z, hz, h3⟩ := h2
  refine ⟨z, hz, fun b hb => ?_⟩
  rw [dop_fp hj]
  exact ⟨vj, (gR_congr (agree_put ha.r)).2 (gR_stable hb h1), by rw [← Slots.put_comm T ha.d]; exact h3 b hb⟩

theorem swap_a_a (hj : cls cfg gj oj = .a) (hi : cls cfg gi oi = .a) (ha : Apart ops oj oi) {zi : List AV} (hz : ∀ t, oi.op = .alloc t → zeroF P t = some zi)
    (h : dop P N cfg ops gj oj (fun T H => dop P N cfg ops gi oi K T H) T H) : dop P N cfg ops gi oi (fun T H => dop P N cfg ops gj oj K T H) T H := by
  obtain ⟨tj, _, hj'⟩ := dop_a (P := P) (N := N) (ops := ops) hj
  obtain ⟨ti, hal, hi'⟩ := dop_a (P := P) (N := N) (ops := ops) hi
  rw [hj'] at h
  rw [hi']
  obtain ⟨zj, hzj, h1⟩ := h
  refine ⟨zi, hz ti hal, fun b hb => ?_⟩
  rw [hj']
  refine ⟨zj, hzj, fun b' hb' => ?_⟩
  have hne : b' ≠ b := fun e => by subst e; simp [Heap.put] at hb'
  have hb1 : H b' = none := by simpa [Heap.put, hne] using hb'
  have h2 := h1 b' hb1
  rw [hi'] at h2
  obtain ⟨zi', hzi', h3⟩ := h2
  rw [hz ti hal] at hzi'; cases hzi'
  have h4 := h3 b (by simp [Heap.put, Ne.symm hne, hb])
  rw [put_put_comm hne, ← Slots.put_comm T ha.d]
  exact h4

/-- Whatever looks at no memory may wait. -/
theorem swap_f_any (hj : cls cfg gj oj = .f) (hi : cls cfg gi oi ≠ .f ∧ cls cfg gi oi ≠ .p) (ha : Apart ops oj oi)
    (h : dop P N cfg ops gj oj (fun T H => dop P N cfg ops gi oi K T H) T H) : dop P N cfg ops gi oi (fun T H => dop P N cfg ops gj oj K T H) T H := by
  have hgop : ∀ (K : Slots → Heap → Prop) (T : Slots) (H : Heap), dop P N cfg ops gi oi K T H ↔ (gv ops oi T = some true ∧ aopv P cfg oi T (fun v H => K (T.put N oi.dst v) H) H) ∨ (gv ops oi T = some false ∧ K (T.put N oi.dst (.tup [])) H) := by
    intro K T H
    have : dop P N cfg ops gi oi K T H = gop P N cfg ops oi K T H := by
      obtain ⟨dst, op, type, pos, after, guard⟩ := oi
      cases op <;> try rfl
      rename_i c
      obtain ⟨callee, args, ts⟩ := c
      cases callee <;> try rfl
      unfold dop
      simp only
      by_cases hg : gi = true
      · rw [if_pos hg]
      · exfalso
        refine hi.2 ?_
        simp [cls, isM, hg]
    rw [this]
    unfold gop
    rw [guardA_iff]
    rfl
  rw [dop_fp (.inl hj)] at h
  obtain ⟨vj, h1, h2⟩ := h
  rw [hgop] at h2 ⊢
  have hag := agree_put (P := P) (N := N) (ops := ops) (o := oi) (T := T) (v := vj) ha.l
  rw [gv_congr hag] at h2
  refine h2.imp (fun ⟨g, h3⟩ => ⟨g, ?_⟩) fun ⟨g, h3⟩ => ⟨g, ?_⟩
  · refine aopv_mono (fun v H' hk => ?_) ((aopv_congr hag).1 h3)
    rw [dop_fp (.inl hj)]
    exact ⟨vj, gR_any hj ((gR_congr (agree_put ha.r)).2 h1), by rw [← Slots.put_comm T ha.d]; exact hk⟩
  · rw [dop_fp (.inl hj)]
    exact ⟨vj, (gR_congr (agree_put ha.r)).2 h1, by rw [← Slots.put_comm T ha.d]; exact h3⟩

/-- An append that makes new memory is not seen by what looks at memory. -/
theorem swap_p_g (hj : cls cfg gj oj = .f ∨ cls cfg gj oj = .p) (hi : cls cfg gi oi = .g) (ha : Apart ops oj oi)
    (h : dop P N cfg ops gj oj (fun T H => dop P N cfg ops gi oi K T H) T H) : dop P N cfg ops gi oi (fun T H => dop P N cfg ops gj oj K T H) T H := by
  obtain ⟨c, hop, hi'⟩ := dop_x (P := P) (N := N) (ops := ops) (.inr hi)
  rw [dop_fp hj] at h
  obtain ⟨vj, h1, h2⟩ := h
  rw [hi'] at h2 ⊢
  have hag := agree_put (P := P) (N := N) (ops := ops) (o := oi) (T := T) (v := vj) ha.l
  rw [gv_congr hag] at h2
  have hargs : ∀ x ∈ c.args, evalA P (T.put N oj.dst vj) x = evalA P T x := fun x hx => hag.1 x (by rw [hop]; simp [Op.operands, Call.operands, hx])
  refine h2.imp (fun ⟨g, hG, h3⟩ => ⟨g, fun e => (appendC_ref hargs).1 (hG e), ?_⟩) fun ⟨g, h3⟩ => ⟨g, ?_⟩
  · have hG' := (appendC_ref hargs).1 (hG hi)
    refine appendC_mono (fun v H' hk => ?_) (appendC_new hG' ((appendC_congr hargs).1 h3))
    rw [dop_fp hj]
    have h1' := (gR_congr (P := P) (cfg := cfg) (agree_put (N := N) (T := T) (v := v) ha.r)).2 h1
    refine ⟨vj, ?_, by rw [← Slots.put_comm T ha.d]; exact hk.1⟩
    rcases hk.2 with rfl | ⟨b, cs, hb, rfl⟩
    · exact h1'
    · exact gR_stable hb h1'
  · rw [dop_fp hj]
    exact ⟨vj, (gR_congr (agree_put ha.r)).2 h1, by rw [← Slots.put_comm T ha.d]; exact h3⟩

theorem swap_x_a (hj : cls cfg gj oj = .x ∨ cls cfg gj oj = .g) (hi : cls cfg gi oi = .a) (ha : Apart ops oj oi) {z : List AV} (hz : ∀ t, oi.op = .alloc t → zeroF P t = some z)
    (h : dop P N cfg ops gj oj (fun T H => dop P N cfg ops gi oi K T H) T H) : dop P N cfg ops gi oi (fun T H => dop P N cfg ops gj oj K T H) T H := by
  obtain ⟨c, hop, hj'⟩ := dop_x (P := P) (N := N) (ops := ops) hj
  obtain ⟨t, hal, hi'⟩ := dop_a (P := P) (N := N) (ops := ops) hi
  rw [hj'] at h
  rw [hi']
  refine ⟨z, hz t hal, fun b hb => ?_⟩
  rw [hj']
  have hag := agree_put (P := P) (N := N) (ops := ops) (o := oj) (T := T) (v := .ptr b 0) ha.r
  rw [gv_congr hag]
  have hargs : ∀ x ∈ c.args, evalA P (T.put N oi.dst (.ptr b 0)) x = evalA P T x := fun x hx => hag.1 x (by rw [hop]; simp [Op.operands, Call.operands, hx])
  refine h.imp (fun ⟨g, hG, h3⟩ => ⟨g, fun e => (appendC_ref hargs).2 (hG e), ?_⟩) fun ⟨g, h3⟩ => ⟨g, ?_⟩
  · rw [appendC_congr hargs]
    refine appendC_mono (fun v H' hk => ?_) (appendC_beside (c := z) hb h3)
    obtain ⟨H1, rfl, hb1, hk⟩ := hk
    rw [hi'] at hk
    obtain ⟨z', hz', hk⟩ := hk
    rw [hz t hal] at hz'; cases hz'
    rw [← Slots.put_comm T ha.d]
    exact hk b hb1
  · rw [hi'] at h3
    obtain ⟨z', hz', hk⟩ := h3
    rw [hz t hal] at hz'; cases hz'
    rw [← Slots.put_comm T ha.d]
    exact hk b hb
end
end Go.Av

/- Regions that draw their order: one order is enough. -/
namespace Go.Av
variable {P : Program}

/-- May the later one come first? -/
def com (P : Program) (cfg : Cfg) (ops : Array Oper) (gj gi : Bool) (oj oi : Oper) : Bool :=
  oj.apart ops oi && match cls cfg gj oj, cls cfg gi oi with
    | .f, .f | .f, .p | .p, .f | .p, .p | .f, .a | .p, .a | .f, .x | .f, .z | .f, .g | .p, .g => true
    | .a, .a | .x, .a | .g, .a => match oi.op with | .alloc t => (zeroF P t).isSome | _ => false
    | _, _ => false

theorem com_swap {N : Nat} {cfg : Cfg} {ops : Array Oper} {gj gi : Bool} {oj oi : Oper} {K : Slots → Heap → Prop} {T : Slots} {H : Heap} (hc : com P cfg ops gj gi oj oi = true)
    (h : dop P N cfg ops gj oj (fun T H => dop P N cfg ops gi oi K T H) T H) : dop P N cfg ops gi oi (fun T H => dop P N cfg ops gj oj K T H) T H := by
  unfold com at hc
  rw [Bool.and_eq_true] at hc
  obtain ⟨ha, hc⟩ := hc
  obtain ⟨a1, a2, a3⟩ := Oper.apart_spec ha
  have hap : Apart ops oj oi := ⟨a1, a3, a2⟩
  split at hc
  · rename_i h1 h2; exact swap_fp_fp (.inl h1) (.inl h2) hap h
  · rename_i h1 h2; exact swap_fp_fp (.inl h1) (.inr h2) hap h
  · rename_i h1 h2; exact swap_fp_fp (.inr h1) (.inl h2) hap h
  · rename_i h1 h2; exact swap_fp_fp (.inr h1) (.inr h2) hap h
  · rename_i h1 h2; exact swap_fp_a (.inl h1) h2 hap h
  · rename_i h1 h2; exact swap_fp_a (.inr h1) h2 hap h
  · rename_i h1 h2; exact swap_f_any h1 (by rw [h2]; simp) hap h
  · rename_i h1 h2; exact swap_f_any h1 (by rw [h2]; simp) hap h
  · rename_i h1 h2; exact swap_p_g (.inl h1) h2 hap h
  · rename_i h1 h2; exact swap_p_g (.inr h1) h2 hap h
  · rename_i h1 h2
    split at hc
    · rename_i t ht
      obtain ⟨z, hz⟩ := Option.isSome_iff_exists.1 hc
      exact swap_a_a h1 h2 hap (fun t' ht' => by rw [ht] at ht'; cases ht'; exact hz) h
    · cases hc
  · rename_i h1 h2
    split at hc
    · rename_i t ht
      obtain ⟨z, hz⟩ := Option.isSome_iff_exists.1 hc
      exact swap_x_a (.inl h1) h2 hap (fun t' ht' => by rw [ht] at ht'; cases ht'; exact hz) h
    · cases hc
  · rename_i h1 h2
    split at hc
    · rename_i t ht
      obtain ⟨z, hz⟩ := Option.isSome_iff_exists.1 hc
      exact swap_x_a (.inr h1) h2 hap (fun t' ht' => by rw [ht] at ht'; cases ht'; exact hz) h
    · cases hc
  · cases hc

/-- All that must come before an operation, as bits. -/
def ancMask (tbl : List Nat) (o : Oper) : Nat := o.after.toList.foldl (fun s e => if Region.binds .any e then s ||| 2 ^ e.on ||| tbl.getD e.on 0 else s) 0
def Preds (o : Oper) (L : Nat → Prop) : Prop := ∀ e ∈ o.after, Region.binds .any e = true → L e.on
def Closed (ops : Array Oper) (L : Nat → Prop) : Prop := ∀ i o, ops[i]? = some o → L i → Preds o L

/-- A table of what must come before is as it should be. -/
def tblOk (ops : Array Oper) (tbl : List Nat) : Bool :=
  ops.toList.zipIdx.all fun (o, i) => (tbl.getD i 0 ||| ancMask tbl o) == ancMask tbl o && o.after.all fun e => !Region.binds .any e || decide (e.on < i)

theorem ancMask_bits {tbl : List Nat} {o : Oper} {j : Nat} (h : (ancMask tbl o).testBit j = true) : ∃ e ∈ o.after, Region.binds .any e = true ∧ (e.on = j ∨ (tbl.getD e.on 0).testBit j = true) := by
  unfold ancMask at h
  have key : ∀ (l : List Edge) (s : Nat), (l.foldl (fun s e => if Region.binds .any e then s ||| 2 ^ e.on ||| tbl.getD e.on 0 else s) s).testBit j = true →
      s.testBit j = true ∨ ∃ e ∈ l, Region.binds .any e = true ∧ (e.on = j ∨ (tbl.getD e.on 0).testBit j = true) := by
    intro l
    induction l with
    | nil => exact fun s h => .inl h
    | cons e l ih =>
      intro s h
      simp only [List.foldl_cons] at h
      rcases ih _ h with h1 | ⟨e', he', h1⟩
      · split at h1
        · rename_i hb
          simp only [Nat.testBit_or, Bool.or_eq_true, Nat.testBit_two_pow, decide_eq_true_eq] at h1
          rcases h1 with (h1 | h1) | h1
          · exact .inl h1
          · exact .inr ⟨e, by simp, hb, .inl h1⟩
          · exact .inr ⟨e, by simp, hb, .inr h1⟩
        · exact .inl h1
      · exact .inr ⟨e', by simp [he'], h1⟩
  rcases key _ 0 h with h1 | ⟨e, he, h1⟩
  · simp at h1
  · exact ⟨e, by simpa using he, h1⟩

theorem tblOk_spec {ops : Array Oper} {tbl : List Nat} (hok : tblOk ops tbl = true) {L : Nat → Prop} (hL : Closed ops L) :
    ∀ i o, ops[i]? = some o → Preds o L → ∀ j, (tbl.getD i 0).testBit j = true → L j := by
  intro i
  induction i using Nat.strongRecOn with
  | _ i ih =>
    intro o ho hp j hj
    unfold tblOk at hok
    have hmem : (o, i) ∈ ops.toList.zipIdx := by
      rw [List.mem_zipIdx_iff_getElem?]
      simpa using ho
    have h1 := List.all_eq_true.1 hok _ hmem
    simp only [Bool.and_eq_true, beq_iff_eq] at h1
    obtain ⟨h1, h2⟩ := h1
    have hj' : (ancMask tbl o).testBit j = true := by
      rw [← h1, Nat.testBit_or, hj]; rfl
    obtain ⟨e, he, hb, hor⟩ := ancMask_bits hj'
    have hLe := hp e he hb
    rcases hor with rfl | hor
    · exact hLe
    · have hlt : e.on < i := by
        obtain ⟨k, hk, rfl⟩ := Array.mem_iff_getElem.1 he
        have := Array.all_eq_true.1 h2 k hk
        simpa [hb] using this
      have hio : i < ops.size := (Array.getElem?_eq_some_iff.1 ho).1
      have hoe : ops[e.on]? = some (ops[e.on]'(by omega)) := by simp
      exact ih e.on hlt _ hoe (hL _ _ hoe hLe) j hor

/-- Put into order by a key. -/
def insK (key : Nat → Nat) (i : Nat) : List Nat → List Nat
  | [] => [i]
  | j :: l => if key i < key j then i :: j :: l else j :: insK key i l
def sortK (key : Nat → Nat) : List Nat → List Nat → List Nat
  | [], acc => acc
  | i :: l, acc => sortK key l (insK key i acc)
theorem insK_perm (key : Nat → Nat) (i : Nat) : ∀ l : List Nat, (insK key i l).Perm (i :: l)
  | [] => .refl _
  | j :: l => by
    unfold insK
    split
    · exact .refl _
    · exact ((insK_perm key i l).cons j).trans (.swap i j l)
theorem sortK_perm (key : Nat → Nat) : ∀ l acc : List Nat, (sortK key l acc).Perm (l ++ acc)
  | [], acc => .refl _
  | i :: l, acc => (sortK_perm key l _).trans ((((insK_perm key i acc).append_left l).trans List.perm_middle))
/-- The order that is walked: between the calls that keep their place, what waits for no new memory first. -/
def drawOrd (cfg : Cfg) (gen : Nat → Bool) (ops : Array Oper) (tbl : List Nat) : List Nat :=
  let gens := (List.range ops.size).filter gen
  let seg (i : Nat) : Nat := (gens.filter fun k => (tbl.getD i 0).testBit k).length
  let early (i : Nat) : Bool := match ops[i]? with
    | some o => (match cls cfg (gen i) o with | .f | .p => true | _ => false) &&
      (List.range ops.size).all fun j => !(tbl.getD i 0).testBit j || gen j || (seg j).blt (seg i) || match ops[j]? with
        | some oj => (match cls cfg (gen j) oj with | .f | .p => true | _ => false)
        | none => false
    | none => false
  sortK (fun i => 3 * seg i + if gen i then 2 else if early i then 0 else 1) (List.range ops.size) []

/-- A call that keeps its place: all others stand before it or behind it. -/
def drawGen (ops : Array Oper) (tbl : List Nat) (k : Nat) : Bool :=
  (List.range ops.size).all fun j => j == k || (tbl.getD k 0).testBit j || (tbl.getD j 0).testBit k

def pairsOk (P : Program) (cfg : Cfg) (gen : Nat → Bool) (ops : Array Oper) (tbl : List Nat) : List Nat → Bool
  | [] => true
  | j :: rest => rest.all (fun i => match ops[j]?, ops[i]? with
      | some oj, some oi => ((tbl.getD i 0).testBit j || com P cfg ops (gen j) (gen i) oj oi) && !oj.after.any (fun e => Region.binds .any e && e.on == i)
      | _, _ => false) && pairsOk P cfg gen ops tbl rest

def drawOk (P : Program) (cfg : Cfg) (id : Nat) (ops : Array Oper) : Bool :=
  let tbl := cfg.anc id
  let gen := drawGen ops tbl
  let ord := drawOrd cfg gen ops tbl
  tblOk ops tbl && pairsOk P cfg gen ops tbl ord

section
variable {N : Nat} {cfg : Cfg} {ops : Array Oper} {gen : Nat → Bool} {K : Slots → Heap → Prop}

/-- A step whose turn it may be, is pulled to the front. -/
theorem dops_pull {i : Nat} {oi : Oper} (hi : ops[i]? = some oi) : ∀ (pre post : List Nat) {T : Slots} {H : Heap}, (∀ j ∈ pre, ∃ oj, ops[j]? = some oj ∧ com P cfg ops (gen j) (gen i) oj oi = true) →
    dops P N cfg ops gen K (pre ++ i :: post) T H → dop P N cfg ops (gen i) oi (dops P N cfg ops gen K (pre ++ post)) T H
  | [], post, T, H, _, h => by
    simpa [dops, hi] using h
  | j :: pre, post, T, H, hc, h => by
    obtain ⟨oj, hj, hcom⟩ := hc j (by simp)
    simp only [List.cons_append, dops, hj] at h
    have h1 : dop P N cfg ops (gen j) oj (fun T H => dop P N cfg ops (gen i) oi (dops P N cfg ops gen K (pre ++ post)) T H) T H :=
      dop_mono (fun T H h => dops_pull hi pre post (fun k hk => hc k (by simp [hk])) h) h
    have h2 := com_swap hcom h1
    refine dop_mono (fun T H h => ?_) h2
    simpa [dops, hj] using h

variable {E0 : Env} {H0 : Heap} {w0 : World}

theorem pairsOk_spec {tbl : List Nat} : ∀ {l : List Nat}, pairsOk P cfg gen ops tbl l = true → l.Pairwise fun j i => ∃ oj oi, ops[j]? = some oj ∧ ops[i]? = some oi ∧
    ((tbl.getD i 0).testBit j = true ∨ com P cfg ops (gen j) (gen i) oj oi = true) ∧ ∀ e ∈ oj.after, Region.binds .any e = true → e.on ≠ i
  | [], _ => .nil
  | j :: rest, h => by
    simp only [pairsOk, Bool.and_eq_true, List.all_eq_true] at h
    refine List.Pairwise.cons (fun i hi => ?_) (pairsOk_spec h.2)
    have := h.1 i hi
    split at this
    · rename_i oj oi h1 h2
      simp only [Bool.and_eq_true, Bool.or_eq_true, Bool.not_eq_true'] at this
      refine ⟨oj, oi, h1, h2, this.1, fun e he hb heq => ?_⟩
      have h3 := this.2
      rw [Array.any_eq_false] at h3
      obtain ⟨k, hk, rfl⟩ := Array.mem_iff_getElem.1 he
      have := h3 k hk
      simp [hb, heq] at this
    · cases this

/-- One order is enough. -/
theorem draw_any {Q : Exit → Act → World → Prop} {tbl : List Nat} (htbl : tblOk ops tbl = true) (hQ : ∀ a w, Lift P N E0 H0 w0 K a w → Q .normal a w)
    (hedge : ∀ o ∈ ops, ∀ e ∈ o.after, Region.binds .any e = true → e.on < ops.size) (hself : ∀ i o, ops[i]? = some o → ∀ e ∈ o.after, Region.binds .any e = true → e.on ≠ i) :
    ∀ (fuel : Nat) (R : List Nat) (listed : Array Bool) {T : Slots} {H : Heap} {a : Act} {w : World} {E : Env}, R.length = fuel → listed.size = ops.size →
      R.Pairwise (fun j i => ∃ oj oi, ops[j]? = some oj ∧ ops[i]? = some oi ∧ ((tbl.getD i 0).testBit j = true ∨ com P cfg ops (gen j) (gen i) oj oi = true) ∧ ∀ e ∈ oj.after, Region.binds .any e = true → e.on ≠ i) →
      R.Nodup → (∀ i, i < ops.size → (listed.getD i false = false ↔ i ∈ R)) → (∀ i ∈ R, i < ops.size) →
      Closed ops (fun i => listed.getD i false = true) →
      dops P N cfg ops gen K R T H → St E H w → RepT P N E T a.tmps → Ext E0 H0 w0 E H w → a.defers = [] → wpAny P .any ops Q fuel listed a w := by
  -- what is listed, and what may come up
  have unlisted : ∀ {listed : Array Bool} {i : Nat}, listed.size = ops.size → i < ops.size → (listed.getD i true = false ↔ listed.getD i false = false) := by
    intro listed i hs hi
    have : i < listed.size := by omega
    simp [this]
  intro fuel
  induction fuel with
  | zero =>
    intro R listed T H a w E hlen hsz hpw hnd hiff hlt hcl h hs hT hx hd
    have hR : R = [] := List.eq_nil_of_length_eq_zero hlen
    subst hR
    refine ⟨?_, hQ a w ⟨T, H, E, h, hs, hT, hx, hd⟩⟩
    refine List.eq_nil_iff_forall_not_mem.2 fun i hi => ?_
    obtain ⟨h1, o, ho, _⟩ := mem_ready.1 hi
    have hio : i < ops.size := (Array.getElem?_eq_some_iff.1 ho).1
    have := (hiff i hio).1 ((unlisted hsz hio).1 h1)
    cases this
  | succ fuel ih =>
    intro R listed T H a w E hlen hsz hpw hnd hiff hlt hcl h hs hT hx hd
    refine ⟨fun hready => ?_, fun i hi => ?_⟩
    · exfalso
      cases R with
      | nil => simp at hlen
      | cons r R =>
        have hr : r < ops.size := hlt r (by simp)
        have ho : ops[r]? = some ops[r] := by simp [hr]
        have hmem : r ∈ Region.ready .any ops listed := by
          refine mem_ready.2 ⟨(unlisted hsz hr).2 ((hiff r hr).2 (by simp)), _, ho, fun e he hb => ?_⟩
          have hon := hedge _ (Array.mem_of_getElem? ho) e he hb
          cases hle : listed.getD e.on false with
          | true => rfl
          | false =>
            have hin := (hiff e.on hon).1 hle
            have hne := hself r _ ho e he hb
            rcases List.mem_cons.1 hin with h1 | h1
            · exact absurd h1 hne
            · obtain ⟨oj, oi, g1, g2, g3, g4⟩ := List.rel_of_pairwise_cons hpw h1
              rw [ho] at g1; cases g1
              exact absurd rfl (g4 e he hb)
        rw [hready] at hmem
        cases hmem
    · obtain ⟨h1, o, ho, hpre⟩ := mem_ready.1 hi
      have hio : i < ops.size := (Array.getElem?_eq_some_iff.1 ho).1
      have hiR := (hiff i hio).1 ((unlisted hsz hio).1 h1)
      obtain ⟨pre, post, rfl⟩ := List.append_of_mem hiR
      -- nothing that stands ahead of it must come before it
      have hanc := tblOk_spec htbl hcl i o ho (fun e he hb => hpre e he hb)
      have hcom : ∀ j ∈ pre, ∃ oj, ops[j]? = some oj ∧ com P cfg ops (gen j) (gen i) oj o = true := by
        intro j hj
        obtain ⟨oj, oi, g1, g2, g3, g4⟩ := (List.pairwise_append.1 hpw).2.2 j hj i (by simp)
        rw [ho] at g2; cases g2
        refine ⟨oj, g1, g3.resolve_left fun hb => ?_⟩
        have hl := hanc j hb
        have hjs := hlt j (by simp [hj])
        have := (hiff j hjs).2 (by simp [hj])
        rw [this] at hl
        cases hl
      have hd1 := dops_pull ho pre post hcom h
      have hg := gop_sound (Q := Q) (dop_gop hd1) hs hT hx hd
      have hnd' := hnd
      rw [List.nodup_append] at hnd
      have hnotpre : i ∉ pre := fun hh => (hnd.2.2 i hh i (by simp)) rfl
      have hnotpost : i ∉ post := (List.nodup_cons.1 hnd.2.1).1
      have next : ∀ a w, Lift P N E0 H0 w0 (dops P N cfg ops gen K (pre ++ post)) a w → wpAny P .any ops Q fuel (listed.setIfInBounds i true) a w := by
        rintro a w ⟨T', H', E', g1, g2, g3, g4, g5⟩
        refine ih (pre ++ post) (listed.setIfInBounds i true) (by simp at hlen ⊢; omega) (by simp [hsz]) ?_ ?_ ?_ (fun k hk => hlt k (by simp at hk ⊢; rcases hk with h | h <;> simp [h])) ?_ g1 g2 g3 g4 g5
        · rw [List.pairwise_append] at hpw ⊢
          exact ⟨hpw.1, (List.pairwise_cons.1 hpw.2.1).2, fun x hx y hy => hpw.2.2 x hx y (by simp [hy])⟩
        · rw [List.nodup_append]
          exact ⟨hnd.1, (List.nodup_cons.1 hnd.2.1).2, fun x hx y hy => hnd.2.2 x hx y (by simp [hy])⟩
        · intro k hk
          by_cases hki : k = i
          · subst hki
            have : k < listed.size := by omega
            simp [this, hnotpre, hnotpost]
          · rw [show (listed.setIfInBounds i true).getD k false = listed.getD k false by simp [Array.getElem?_setIfInBounds_ne (Ne.symm hki)]]
            rw [hiff k hk]
            simp [hki]
        · intro k ok hok hl e he hb
          have keep : ∀ x, listed.getD x false = true → (listed.setIfInBounds i true).getD x false = true := fun x hx => getD_set_true hx
          by_cases hki : k = i
          · subst hki
            rw [ho] at hok; cases hok
            exact keep _ (hpre e he hb)
          · rw [show (listed.setIfInBounds i true).getD k false = listed.getD k false by simp [Array.getElem?_setIfInBounds_ne (Ne.symm hki)]] at hl
            exact keep _ (hcl k ok hok hl e he hb)
      unfold wpOp
      rw [ho]
      simp only
      split at hg
      · rename_i hw
        rw [if_pos hw]
        exact hg.imp (Oper.wp_mono next) id
      · rename_i hw
        rw [if_neg hw]
        exact next _ _ hg
end
end Go.Av

/- Regions that draw their order, with calls that make memory: what only looks, looks at the memory the region began with. -/
namespace Go.Av
variable {P : Program}

/-- Memory with more in it. -/
def Heap.le (H H' : Heap) : Prop := ∀ b c, H b = some c → H' b = some c
theorem Heap.le_refl (H : Heap) : H.le H := fun _ _ h => h
theorem Heap.le_trans {H H' H'' : Heap} (h : H.le H') (h' : H'.le H'') : H.le H'' := fun b c e => h' b c (h b c e)
theorem Heap.le_new {H : Heap} {b : Nat} {c : List AV} (hb : H b = Option.none) : H.le (H.put b c) := fun x d e => by
  have : x ≠ b := fun hx => by subst hx; rw [hb] at e; cases e
  simp [Heap.put, this, e]

theorem cellsAt?_le {a : AV} {H H' : Heap} {cells : List AV} (hl : H.le H') (h : cellsAt? a H = some cells) : cellsAt? a H' = some cells := by
  cases a <;> simp only [cellsAt?, reduceCtorEq] at h ⊢
  · exact h
  · rename_i b' off
    simp only [Option.map_eq_some_iff] at h ⊢
    obtain ⟨cs, h1, rfl⟩ := h
    exact ⟨cs, hl _ _ h1, rfl⟩

theorem pureF_le {op : Op} {ρ : Operand → AV} {H H' : Heap} {v : AV} (hl : H.le H') (h : pureF P op ρ H = some v) : pureF P op ρ H' = some v := by
  cases op <;> try exact h
  rename_i t a
  simp only [pureF, loadF] at h ⊢
  cases hu : P.underlying t with
  | none => rw [hu] at h; cases h
  | some d =>
    rw [hu] at h
    simp only at h ⊢
    split at h
    · rename_i hagg
      rw [if_pos hagg]
      split at h
      · simp only [loadN, Option.bind_eq_some_iff] at h ⊢
        obtain ⟨cells, h1, h2⟩ := h
        exact ⟨cells, cellsAt?_le hl h1, h2⟩
      · cases h
    · rename_i hagg
      rw [if_neg hagg]
      simp only [load1, Option.bind_eq_some_iff] at h ⊢
      obtain ⟨cells, h1, h2⟩ := h
      exact ⟨cells, cellsAt?_le hl h1, h2⟩

/-- A call that leaves memory as it was does not see further blocks. -/
theorem ACalls.frameL {f : FuncId} {args : List AV} {H H2 : Heap} {v : AV} (hl : H.le H2) (h : ACalls P f args H fun r H' => r = v ∧ H' = H) :
    ACalls P f args H2 fun r H' => r = v ∧ H' = H2 := by
  refine ⟨h.1, fun E w vs hgl hs hr => ?_⟩
  have hs1 : St E H w := hs.weaken hl
  refine (h.2 E w vs hgl hs1 hr).mono ?_
  rintro e w' ⟨r, u, E', H', rfl, h1, h2, h3, rfl, rfl⟩
  refine ⟨r, u, E', _, rfl, h1, ⟨h2.frz, h2.siz, fun x cells hx => ?_, h2.kd⟩, ⟨h3.env, h3.size, fun x hx hn => h3.frame x hx ?_, fun x hx => .inl hx, fun x hx => (h3.domF x hx).imp id (Or.imp (fun hh => ?_) id), h3.os, h3.output, h3.sI⟩, rfl, rfl⟩
  · cases hb : H' x with
    | some c =>
      have := hl x c hb
      rw [hx] at this; cases this
      exact h2.own x cells hb
    | none =>
      obtain ⟨f1, f2, f3, f4⟩ := hs.own x cells hx
      have hlt := hs.lt hx
      refine ⟨?_, Nat.lt_of_lt_of_le f2 h3.size, fun s hS => ?_, fun k hI => ?_⟩
      rotate_left
      · rw [(h3.sI _ hlt).1] at hS
        obtain ⟨cc, T, g1, g2⟩ := f3 s hS
        exact ⟨cc, T, by rw [h3.frame x hlt hb]; exact g1, g2.mono h3.env⟩
      · rw [(h3.sI _ hlt).2] at hI
        rw [h3.frame x hlt hb]; exact (f4 k hI).mono h3.env
      cases hF : E'.F x with
      | none => rfl
      | some o =>
        rcases h3.domF x (by simp [hF]) with g | g | g
        · exact absurd f1 g
        · exact absurd hb g
        · omega
  · cases hb : H' x with
    | none => rfl
    | some c => rw [hl x c hb] at hn; cases hn
  · cases hb : H' x with
    | none => exact absurd hb hh
    | some c => rw [hl x c hb]; simp

theorem callA_frameL {f : AV} {args : List AV} {H H2 : Heap} {v : AV} (hl : H.le H2) (h : callA P f args (fun r H' => r = v ∧ H' = H) H) :
    callA P f args (fun r H' => r = v ∧ H' = H2) H2 := by
  unfold callA at *
  split at h
  · exact h.frameL hl
  · exact h.elim

/-- A call, beside a block that it knows nothing of. -/
theorem ACalls.beside {f : FuncId} {args : List AV} {H : Heap} {k : AV → Heap → Prop} {b : Nat} {c : List AV} (hb : H b = none) (h : ACalls P f args H k) :
    ACalls P f args (H.put b c) (Beside b c k) := by
  refine ⟨h.1, fun E w vs hgl hs hr => ?_⟩
  have hs1 : St E H w := hs.weaken (Heap.le_new hb)
  refine (h.2 E w vs hgl hs1 hr).mono ?_
  rintro e w' ⟨r, u, E', H', rfl, h1, h2, h3, hk⟩
  have hbb : (H.put b c) b = some c := by simp [Heap.put]
  obtain ⟨f1, f2, f3, f4⟩ := hs.own b c hbb
  have hlt := hs.lt hbb
  have hblk := h3.frame b hlt hb
  have hb1 : H' b = none := by
    cases hx : H' b with
    | none => rfl
    | some o =>
      rcases h3.domH b (by simp [hx]) with g | g
      · exact absurd hb g
      · omega
  have put1 : ∀ {x : Nat}, H x ≠ none → (H.put b c) x ≠ none := by
    intro x hx
    simp only [Heap.put]
    split
    · simp
    · exact hx
  refine ⟨r, u, E', H'.put b c, rfl, h1, ⟨h2.frz, h2.siz, fun x cells hx => ?_, h2.kd⟩, ⟨h3.env, h3.size, fun x hx hn => h3.frame x hx ?_, fun x hx => ?_, fun x hx => (h3.domF x hx).imp id (Or.imp put1 id), h3.os, h3.output, h3.sI⟩, H', rfl, hb1, hk⟩
  · by_cases hxb : x = b
    · subst hxb
      simp only [Heap.put, if_true] at hx
      cases hx
      refine ⟨?_, Nat.lt_of_lt_of_le f2 h3.size, fun s hS => ?_, fun k hI => ?_⟩
      rotate_left
      · rw [(h3.sI _ hlt).1] at hS
        obtain ⟨cc, T, g1, g2⟩ := f3 s hS
        exact ⟨cc, T, by rw [hblk]; exact g1, g2.mono h3.env⟩
      · rw [(h3.sI _ hlt).2] at hI
        rw [hblk]; exact (f4 k hI).mono h3.env
      cases hF : E'.F x with
      | none => rfl
      | some o =>
        rcases h3.domF x (by simp [hF]) with g | g | g
        · exact absurd f1 g
        · exact absurd hb g
        · omega
    · exact h2.own x cells (by simpa [Heap.put, hxb] using hx)
  · simp only [Heap.put] at hn
    split at hn
    · cases hn
    · exact hn
  · by_cases hxb : x = b
    · subst hxb; left; rw [hbb]; simp
    · have : H' x ≠ none := by simpa [Heap.put, hxb] using hx
      exact (h3.domH x this).imp put1 id

theorem callA_beside {f : AV} {args : List AV} {H : Heap} {k : AV → Heap → Prop} {b : Nat} {c : List AV} (hb : H b = none) (h : callA P f args k H) :
    callA P f args (Beside b c k) (H.put b c) := by
  unfold callA at *
  split at h
  · exact h.beside hb
  · exact h.elim

theorem selfA_le {n : Nat} {a x : AV} {H H' : Heap} (hl : H.le H') (h : selfA n a x H) : selfA n a x H' := by
  unfold selfA at *
  split at h
  · obtain ⟨cells, cs, h1, h2⟩ := h
    exact ⟨cells, cs, hl _ _ h1, h2⟩
  · exact h

theorem valR_le {cfg : Cfg} {o : Oper} {T : Slots} {H H' : Heap} {v : AV} (hl : H.le H') (h : valR P cfg o T H v) : valR P cfg o T H' v := by
  have hp : pureF P o.op (evalA P T) (cfg.heap o H) = some v → pureF P o.op (evalA P T) (cfg.heap o H') = some v := by
    refine pureF_le ?_
    unfold Cfg.heap
    split
    · exact Heap.le_refl _
    · exact hl
  obtain ⟨dst, op, type, pos, after, guard⟩ := o
  unfold valR at *
  simp only at *
  cases op
  case box => exact h
  case buildSlice => exact h
  case store t a x =>
    simp only at h ⊢
    cases hi : P.info? t with
    | none => rw [hi] at h; exact h
    | some i => rw [hi] at h; exact ⟨selfA_le hl h.1, h.2⟩
  case call cc =>
    obtain ⟨callee, args, ts⟩ := cc
    cases callee
    case value f => exact callA_frameL hl h
    all_goals exact hp h
  all_goals exact hp h

theorem gR_le {cfg : Cfg} {ops : Array Oper} {o : Oper} {T : Slots} {H H' : Heap} {v : AV} (hl : H.le H') (h : gR P cfg ops o T H v) : gR P cfg ops o T H' v :=
  h.imp (fun ⟨h1, h2⟩ => ⟨h1, valR_le hl h2⟩) id

/-- A call that makes memory of its own. -/
def isE (cfg : Cfg) (o : Oper) : Bool := match o.op with
  | .call c => match c.callee with
    | .value _ => cfg.ga (o.dst.getD 0)
    | _ => false
  | _ => false

def anyE (cfg : Cfg) (ops : Array Oper) : Bool := ops.any (isE cfg)

/-- What only looks. -/
def isV (cfg : Cfg) (o : Oper) : Bool := !isE cfg o && match cls cfg false o with
  | .f | .p => true
  | _ => false

/-- An append, or such a call. -/
def isB (cfg : Cfg) (o : Oper) : Bool := isE cfg o || match o.op with
  | .call c => match c.callee with
    | .builtin .append => true
    | _ => false
  | _ => false

def isA (P : Program) (o : Oper) : Bool := o.guard.isNone && match o.op with
  | .alloc t => (zeroF P t).isSome
  | _ => false

/-- One step; 'HS': the memory the region began with. -/
def dopE (P : Program) (N : Nat) (cfg : Cfg) (ops : Array Oper) (HS : Heap) (o : Oper) (K : Slots → Heap → Prop) (T : Slots) (H : Heap) : Prop :=
  if isV cfg o then ∃ v, gR P cfg ops o T HS v ∧ K (T.put N o.dst v) H
  else o.guard.isNone = true ∧ aopv P cfg o T (fun v H' => HS.le H' ∧ K (T.put N o.dst v) H') H

def dopsE (P : Program) (N : Nat) (cfg : Cfg) (ops : Array Oper) (HS : Heap) (K : Slots → Heap → Prop) : List Nat → Slots → Heap → Prop
  | [] => K
  | i :: rest => fun T H => match ops[i]? with
    | some o => dopE P N cfg ops HS o (dopsE P N cfg ops HS K rest) T H
    | none => False

section
variable {N : Nat} {cfg : Cfg} {ops : Array Oper} {HS : Heap} {oj oi o : Oper} {K K' : Slots → Heap → Prop} {T : Slots} {H : Heap}

theorem dopE_mono (hk : ∀ T H, K T H → K' T H) (h : dopE P N cfg ops HS o K T H) : dopE P N cfg ops HS o K' T H := by
  unfold dopE at *
  split at h
  · rename_i hv
    rw [if_pos hv]
    exact h.imp fun v ⟨a, b⟩ => ⟨a, hk _ _ b⟩
  · rename_i hv
    rw [if_neg hv]
    exact ⟨h.1, aopv_mono (fun v H' hh => ⟨hh.1, hk _ _ hh.2⟩) h.2⟩

theorem dopE_gop (hl : HS.le H) (h : dopE P N cfg ops HS o K T H) : gop P N cfg ops o (fun T' H' => HS.le H' ∧ K T' H') T H := by
  unfold dopE at h
  split at h
  · rename_i hv
    obtain ⟨v, h1, h2⟩ := h
    unfold isV at hv
    simp only [Bool.and_eq_true] at hv
    have hc : cls cfg false o = .f ∨ cls cfg false o = .p := by
      have := hv.2
      split at this
      · rename_i hh; exact .inl hh
      · rename_i hh; exact .inr hh
      · cases this
    exact dop_gop ((dop_fp (gen := false) hc).2 ⟨v, gR_le hl h1, hl, h2⟩)
  · unfold gop guardA
    obtain ⟨h1, h2⟩ := h
    cases hg : o.guard with
    | none => exact h2
    | some p => rw [hg] at h1; cases h1

theorem put_agree {x y : Oper} {v : AV} (h : ∀ t, x.dst = some t → t ∉ y.looksAt ops) : Agree P ops y (T.put N x.dst v) T := agree_put h

theorem swapE_v (hj : isV cfg oj = true) (ha : Apart ops oj oi) (h : dopE P N cfg ops HS oj (fun T H => dopE P N cfg ops HS oi K T H) T H) : dopE P N cfg ops HS oi (fun T H => dopE P N cfg ops HS oj K T H) T H := by
  unfold dopE at h
  rw [if_pos hj] at h
  obtain ⟨vj, h1, h2⟩ := h
  by_cases hi : isV cfg oi = true
  · rw [if_pos hi] at h2
    obtain ⟨vi, h3, h4⟩ := h2
    unfold dopE
    rw [if_pos hi]
    refine ⟨vi, (gR_congr (agree_put ha.l)).1 h3, ?_⟩
    simp only [hj, if_true]
    exact ⟨vj, (gR_congr (agree_put ha.r)).2 h1, by rw [← Slots.put_comm T ha.d]; exact h4⟩
  · rw [if_neg hi] at h2
    obtain ⟨h3, h4⟩ := h2
    unfold dopE
    rw [if_neg hi]
    have hag := agree_put (P := P) (N := N) (ops := ops) (o := oi) (T := T) (v := vj) ha.l
    refine ⟨h3, aopv_mono (fun v H' hk => ⟨hk.1, ?_⟩) ((aopv_congr hag).1 h4)⟩
    simp only [hj, if_true]
    exact ⟨vj, (gR_congr (agree_put ha.r)).2 h1, by rw [← Slots.put_comm T ha.d]; exact hk.2⟩

theorem Heap.le_unput {A B : Heap} {b : Nat} {z : List AV} (h : A.le (B.put b z)) (hA : A b = Option.none) : A.le B := fun x c hx => by
  have hne : x ≠ b := fun e => by subst e; rw [hA] at hx; cases hx
  have := h x c hx
  simpa [Heap.put, hne] using this

theorem aopv_alloc {t : TypeId} {k : AV → Heap → Prop} (ho : o.op = .alloc t) : aopv P cfg o T k H ↔ ∃ z, zeroF P t = some z ∧ ∀ b, H b = none → k (.ptr b 0) (H.put b z) := by
  have hm : isM cfg o = false := by simp [isM, ho]
  unfold aopv
  simp only [hm, Bool.false_eq_true, if_false]
  rw [ho]
  simp only [letO_iff, allocA]

/-- What a step of the class 'B' does, beside a further block. -/
theorem aopv_beside {k : AV → Heap → Prop} {b : Nat} {c : List AV} (hB : isB cfg o = true) (hb : H b = none) (h : aopv P cfg o T k H) : aopv P cfg o T (Beside b c k) (H.put b c) := by
  obtain ⟨dst, op, type, pos, after, guard⟩ := o
  cases op <;> simp only [isB, isE, Bool.or_self, Bool.false_eq_true] at hB
  rename_i cl
  obtain ⟨callee, args, ts⟩ := cl
  cases callee <;> simp only [Bool.or_self, Bool.false_eq_true] at hB
  case value f =>
    unfold aopv at *
    simp only [isM, Bool.false_eq_true, if_false] at *
    exact callA_beside hb h
  case builtin bt =>
    cases bt <;> simp only [Bool.or_self, Bool.false_eq_true] at hB
    unfold aopv at *
    simp only [isM, Bool.false_eq_true, if_false] at *
    split at h
    · rename_i hc; rw [if_pos hc]; exact ⟨h.1, appendC_beside hb h.2⟩
    · rename_i hc; rw [if_neg hc]; exact appendC_beside hb h

theorem swapE_b (hl : HS.le H) (hj : isB cfg oj = true) (hjv : isV cfg oj = false) (hi : isA P oi = true) (ha : Apart ops oj oi) (h : dopE P N cfg ops HS oj (fun T H => dopE P N cfg ops HS oi K T H) T H) :
    dopE P N cfg ops HS oi (fun T H => dopE P N cfg ops HS oj K T H) T H := by
  unfold isA at hi
  rw [Bool.and_eq_true] at hi
  obtain ⟨hg, hi⟩ := hi
  split at hi
  · rename_i t ht
    obtain ⟨z, hz⟩ := Option.isSome_iff_exists.1 hi
    have hiv : isV cfg oi = false := by
      have hm : isM cfg oi = false := by simp [isM, ht]
      unfold isV cls
      rw [hm, ht]
      simp [hg]
    unfold dopE at h ⊢
    rw [hjv] at h
    simp only [Bool.false_eq_true, if_false, hiv] at h ⊢
    obtain ⟨h1, h2⟩ := h
    refine ⟨hg, ?_⟩
    rw [aopv_alloc ht]
    refine ⟨z, hz, fun b hb => ⟨Heap.le_trans hl (Heap.le_new hb), ?_⟩⟩
    simp only [hjv, Bool.false_eq_true, if_false]
    refine ⟨h1, ?_⟩
    have hag := agree_put (P := P) (N := N) (ops := ops) (o := oj) (T := T) (v := .ptr b 0) ha.r
    rw [aopv_congr hag]
    refine aopv_mono (fun v H' hk => ?_) (aopv_beside (c := z) hj hb h2)
    obtain ⟨H1, rfl, hb1, hle, _, hk⟩ := hk
    rw [aopv_alloc ht] at hk
    obtain ⟨z', hz', hk⟩ := hk
    rw [hz] at hz'; cases hz'
    have hk := hk b hb1
    refine ⟨hk.1, ?_⟩
    rw [← Slots.put_comm T ha.d]
    exact hk.2
  · cases hi

/-- May the later one come first? -/
def comE (P : Program) (cfg : Cfg) (ops : Array Oper) (oj oi : Oper) : Bool := oj.apart ops oi && (isV cfg oj || (isB cfg oj && isA P oi))

theorem comE_swap (hl : HS.le H) (hc : comE P cfg ops oj oi = true) (h : dopE P N cfg ops HS oj (fun T H => dopE P N cfg ops HS oi K T H) T H) : dopE P N cfg ops HS oi (fun T H => dopE P N cfg ops HS oj K T H) T H := by
  unfold comE at hc
  rw [Bool.and_eq_true] at hc
  obtain ⟨ha, hc⟩ := hc
  obtain ⟨a1, a2, a3⟩ := Oper.apart_spec ha
  have hap : Apart ops oj oi := ⟨a1, a3, a2⟩
  by_cases hj : isV cfg oj = true
  · exact swapE_v hj hap h
  · have hj' : isV cfg oj = false := by simpa using hj
    rw [hj', Bool.false_or, Bool.and_eq_true] at hc
    exact swapE_b hl hc.1 hj' hc.2 hap h

/-- The same, with memory that only grows. -/
theorem dopE_monoL (hl : HS.le H) (hk : ∀ T H, HS.le H → K T H → K' T H) (h : dopE P N cfg ops HS o K T H) : dopE P N cfg ops HS o K' T H := by
  unfold dopE at *
  split at h
  · rename_i hv
    rw [if_pos hv]
    exact h.imp fun v ⟨a, b⟩ => ⟨a, hk _ _ hl b⟩
  · rename_i hv
    rw [if_neg hv]
    exact ⟨h.1, aopv_mono (fun v H' hh => ⟨hh.1, hk _ _ hh.1 hh.2⟩) h.2⟩

theorem dopsE_pull {i : Nat} (hi : ops[i]? = some oi) : ∀ (pre post : List Nat) {T : Slots} {H : Heap}, HS.le H → (∀ j ∈ pre, ∃ oj, ops[j]? = some oj ∧ comE P cfg ops oj oi = true) →
    dopsE P N cfg ops HS K (pre ++ i :: post) T H → dopE P N cfg ops HS oi (dopsE P N cfg ops HS K (pre ++ post)) T H
  | [], post, T, H, _, _, h => by
    simpa [dopsE, hi] using h
  | j :: pre, post, T, H, hl, hc, h => by
    obtain ⟨oj, hj, hcom⟩ := hc j (by simp)
    simp only [List.cons_append, dopsE, hj] at h
    have h1 : dopE P N cfg ops HS oj (fun T H => dopE P N cfg ops HS oi (dopsE P N cfg ops HS K (pre ++ post)) T H) T H :=
      dopE_monoL hl (fun T H hl h => dopsE_pull hi pre post hl (fun k hk => hc k (by simp [hk])) h) h
    have h2 := comE_swap hl hcom h1
    refine dopE_mono (fun T H h => ?_) h2
    simpa [dopsE, hj] using h
end

/-- The order that is walked. -/
def drawOrdE (cfg : Cfg) (ops : Array Oper) (tbl : List Nat) : List Nat :=
  let early (i : Nat) : Bool := match ops[i]? with
    | some o => isV cfg o && (List.range ops.size).all fun j => !(tbl.getD i 0).testBit j || match ops[j]? with
        | some oj => isV cfg oj
        | none => false
    | none => false
  (List.range ops.size).filter early ++ (List.range ops.size).filter fun i => !early i

def pairsOkE (P : Program) (cfg : Cfg) (ops : Array Oper) (tbl : List Nat) : List Nat → Bool
  | [] => true
  | j :: rest => rest.all (fun i => match ops[j]?, ops[i]? with
      | some oj, some oi => ((tbl.getD i 0).testBit j || comE P cfg ops oj oi) && !oj.after.any (fun e => Region.binds .any e && e.on == i)
      | _, _ => false) && pairsOkE P cfg ops tbl rest

def drawOkE (P : Program) (cfg : Cfg) (id : Nat) (ops : Array Oper) : Bool :=
  let tbl := cfg.anc id
  tblOk ops tbl && pairsOkE P cfg ops tbl (drawOrdE cfg ops tbl)

section
variable {N : Nat} {cfg : Cfg} {ops : Array Oper} {HS : Heap} {K : Slots → Heap → Prop} {E0 : Env} {H0 : Heap} {w0 : World}

theorem pairsOkE_spec {tbl : List Nat} : ∀ {l : List Nat}, pairsOkE P cfg ops tbl l = true → l.Pairwise fun j i => ∃ oj oi, ops[j]? = some oj ∧ ops[i]? = some oi ∧
    ((tbl.getD i 0).testBit j = true ∨ comE P cfg ops oj oi = true) ∧ ∀ e ∈ oj.after, Region.binds .any e = true → e.on ≠ i
  | [], _ => .nil
  | j :: rest, h => by
    simp only [pairsOkE, Bool.and_eq_true, List.all_eq_true] at h
    refine List.Pairwise.cons (fun i hi => ?_) (pairsOkE_spec h.2)
    have := h.1 i hi
    split at this
    · rename_i oj oi h1 h2
      simp only [Bool.and_eq_true, Bool.or_eq_true, Bool.not_eq_true'] at this
      refine ⟨oj, oi, h1, h2, this.1, fun e he hb heq => ?_⟩
      have h3 := this.2
      rw [Array.any_eq_false] at h3
      obtain ⟨k, hk, rfl⟩ := Array.mem_iff_getElem.1 he
      have := h3 k hk
      simp [hb, heq] at this
    · cases this

/-- One order is enough. -/
theorem drawE_any {Q : Exit → Act → World → Prop} {tbl : List Nat} (htbl : tblOk ops tbl = true) (hQ : ∀ a w, Lift P N E0 H0 w0 K a w → Q .normal a w)
    (hedge : ∀ o ∈ ops, ∀ e ∈ o.after, Region.binds .any e = true → e.on < ops.size) (hself : ∀ i o, ops[i]? = some o → ∀ e ∈ o.after, Region.binds .any e = true → e.on ≠ i) :
    ∀ (fuel : Nat) (R : List Nat) (listed : Array Bool) {T : Slots} {H : Heap} {a : Act} {w : World} {E : Env}, R.length = fuel → listed.size = ops.size →
      R.Pairwise (fun j i => ∃ oj oi, ops[j]? = some oj ∧ ops[i]? = some oi ∧ ((tbl.getD i 0).testBit j = true ∨ comE P cfg ops oj oi = true) ∧ ∀ e ∈ oj.after, Region.binds .any e = true → e.on ≠ i) →
      R.Nodup → (∀ i, i < ops.size → (listed.getD i false = false ↔ i ∈ R)) → (∀ i ∈ R, i < ops.size) →
      Closed ops (fun i => listed.getD i false = true) → HS.le H →
      dopsE P N cfg ops HS K R T H → St E H w → RepT P N E T a.tmps → Ext E0 H0 w0 E H w → a.defers = [] → wpAny P .any ops Q fuel listed a w := by
  have unlisted : ∀ {listed : Array Bool} {i : Nat}, listed.size = ops.size → i < ops.size → (listed.getD i true = false ↔ listed.getD i false = false) := by
    intro listed i hs hi
    have : i < listed.size := by omega
    simp [this]
  intro fuel
  induction fuel with
  | zero =>
    intro R listed T H a w E hlen hsz hpw hnd hiff hlt hcl hl h hs hT hx hd
    have hR : R = [] := List.eq_nil_of_length_eq_zero hlen
    subst hR
    refine ⟨?_, hQ a w ⟨T, H, E, h, hs, hT, hx, hd⟩⟩
    refine List.eq_nil_iff_forall_not_mem.2 fun i hi => ?_
    obtain ⟨h1, o, ho, _⟩ := mem_ready.1 hi
    have hio : i < ops.size := (Array.getElem?_eq_some_iff.1 ho).1
    have := (hiff i hio).1 ((unlisted hsz hio).1 h1)
    cases this
  | succ fuel ih =>
    intro R listed T H a w E hlen hsz hpw hnd hiff hlt hcl hl h hs hT hx hd
    refine ⟨fun hready => ?_, fun i hi => ?_⟩
    · exfalso
      cases R with
      | nil => simp at hlen
      | cons r R =>
        have hr : r < ops.size := hlt r (by simp)
        have ho : ops[r]? = some ops[r] := by simp [hr]
        have hmem : r ∈ Region.ready .any ops listed := by
          refine mem_ready.2 ⟨(unlisted hsz hr).2 ((hiff r hr).2 (by simp)), _, ho, fun e he hb => ?_⟩
          have hon := hedge _ (Array.mem_of_getElem? ho) e he hb
          cases hle : listed.getD e.on false with
          | true => rfl
          | false =>
            have hin := (hiff e.on hon).1 hle
            have hne := hself r _ ho e he hb
            rcases List.mem_cons.1 hin with h1 | h1
            · exact absurd h1 hne
            · obtain ⟨oj, oi, g1, g2, g3, g4⟩ := List.rel_of_pairwise_cons hpw h1
              rw [ho] at g1; cases g1
              exact absurd rfl (g4 e he hb)
        rw [hready] at hmem
        cases hmem
    · obtain ⟨h1, o, ho, hpre⟩ := mem_ready.1 hi
      have hio : i < ops.size := (Array.getElem?_eq_some_iff.1 ho).1
      have hiR := (hiff i hio).1 ((unlisted hsz hio).1 h1)
      obtain ⟨pre, post, rfl⟩ := List.append_of_mem hiR
      have hanc := tblOk_spec htbl hcl i o ho (fun e he hb => hpre e he hb)
      have hcom : ∀ j ∈ pre, ∃ oj, ops[j]? = some oj ∧ comE P cfg ops oj o = true := by
        intro j hj
        obtain ⟨oj, oi, g1, g2, g3, g4⟩ := (List.pairwise_append.1 hpw).2.2 j hj i (by simp)
        rw [ho] at g2; cases g2
        refine ⟨oj, g1, g3.resolve_left fun hb => ?_⟩
        have hl := hanc j hb
        have hjs := hlt j (by simp [hj])
        have := (hiff j hjs).2 (by simp [hj])
        rw [this] at hl
        cases hl
      have hd1 := dopsE_pull ho pre post hl hcom h
      have hg := gop_sound (Q := Q) (dopE_gop hl hd1) hs hT hx hd
      have hnd' := hnd
      rw [List.nodup_append] at hnd
      have hnotpre : i ∉ pre := fun hh => (hnd.2.2 i hh i (by simp)) rfl
      have hnotpost : i ∉ post := (List.nodup_cons.1 hnd.2.1).1
      have next : ∀ a w, Lift P N E0 H0 w0 (fun T' H' => HS.le H' ∧ dopsE P N cfg ops HS K (pre ++ post) T' H') a w → wpAny P .any ops Q fuel (listed.setIfInBounds i true) a w := by
        rintro a w ⟨T', H', E', ⟨gl, g1⟩, g2, g3, g4, g5⟩
        refine ih (pre ++ post) (listed.setIfInBounds i true) (by simp at hlen ⊢; omega) (by simp [hsz]) ?_ ?_ ?_ (fun k hk => hlt k (by simp at hk ⊢; rcases hk with h | h <;> simp [h])) ?_ gl g1 g2 g3 g4 g5
        · rw [List.pairwise_append] at hpw ⊢
          exact ⟨hpw.1, (List.pairwise_cons.1 hpw.2.1).2, fun x hx y hy => hpw.2.2 x hx y (by simp [hy])⟩
        · rw [List.nodup_append]
          exact ⟨hnd.1, (List.nodup_cons.1 hnd.2.1).2, fun x hx y hy => hnd.2.2 x hx y (by simp [hy])⟩
        · intro k hk
          by_cases hki : k = i
          · subst hki
            have : k < listed.size := by omega
            simp [this, hnotpre, hnotpost]
          · rw [show (listed.setIfInBounds i true).getD k false = listed.getD k false by simp [Array.getElem?_setIfInBounds_ne (Ne.symm hki)]]
            rw [hiff k hk]
            simp [hki]
        · intro k ok hok hl e he hb
          have keep : ∀ x, listed.getD x false = true → (listed.setIfInBounds i true).getD x false = true := fun x hx => getD_set_true hx
          by_cases hki : k = i
          · subst hki
            rw [ho] at hok; cases hok
            exact keep _ (hpre e he hb)
          · rw [show (listed.setIfInBounds i true).getD k false = listed.getD k false by simp [Array.getElem?_setIfInBounds_ne (Ne.symm hki)]] at hl
            exact keep _ (hcl k ok hok hl e he hb)
      unfold wpOp
      rw [ho]
      simp only
      split at hg
      · rename_i hw
        rw [if_pos hw]
        exact hg.imp (Oper.wp_mono next) id
      · rename_i hw
        rw [if_neg hw]
        exact next _ _ hg
end
end Go.Av

/- The walk of a body, by abstract values. -/
namespace Go.Av
variable {P : Program}

/-- What a region that draws its order does, in the one order that is walked. -/
def regionD (P : Program) (N : Nat) (cfg : Cfg) (id : Nat) (ops : Array Oper) (K : Slots → Heap → Prop) (T : Slots) (H : Heap) : Prop :=
  let tbl := cfg.anc id
  let gen := drawGen ops tbl
  dops P N cfg ops gen K (drawOrd cfg gen ops tbl) T H

theorem drawOrd_perm {cfg : Cfg} {gen : Nat → Bool} {ops : Array Oper} {tbl : List Nat} : (drawOrd cfg gen ops tbl).Perm (List.range ops.size) := by
  unfold drawOrd
  simpa using sortK_perm _ (List.range ops.size) []

theorem regionD_sound {N : Nat} {cfg : Cfg} {ops : Array Oper} {K : Slots → Heap → Prop} {E0 : Env} {H0 : Heap} {w0 : World} {id : Nat} {Q : Exit → Act → World → Prop} (hm : P.follows .mixedOrders = true) (hok : drawOk P cfg id ops = true)
    (hQ : ∀ a w, Lift P N E0 H0 w0 K a w → Q .normal a w)
    {T : Slots} {H : Heap} {a : Act} {w : World} {E : Env} (h : regionD P N cfg id ops K T H) (hs : St E H w) (hT : RepT P N E T a.tmps) (hx : Ext E0 H0 w0 E H w) (hd : a.defers = []) :
    (Code.region id ops true).wp P Q a w := by
  refine wp_region_any hm ?_
  unfold drawOk at hok
  simp only [Bool.and_eq_true] at hok
  obtain ⟨h0, h1⟩ := hok
  have hp := drawOrd_perm (cfg := cfg) (gen := drawGen ops (cfg.anc id)) (ops := ops) (tbl := cfg.anc id)
  have hmem : ∀ i, i ∈ drawOrd cfg (drawGen ops (cfg.anc id)) ops (cfg.anc id) ↔ i < ops.size := fun i => by rw [hp.mem_iff]; simp
  have hlt : ∀ i o, ops[i]? = some o → ∀ e ∈ o.after, Region.binds .any e = true → e.on < i := by
    intro i o ho e he hb
    have hm2 : (o, i) ∈ ops.toList.zipIdx := by
      rw [List.mem_zipIdx_iff_getElem?]
      simpa using ho
    have h2 := List.all_eq_true.1 h0 _ hm2
    simp only [Bool.and_eq_true] at h2
    obtain ⟨k, hk, rfl⟩ := Array.mem_iff_getElem.1 he
    have := Array.all_eq_true.1 h2.2 k hk
    simpa [hb] using this
  refine draw_any (gen := drawGen ops (cfg.anc id)) h0 hQ ?_ ?_ ops.size _ (Array.replicate ops.size false) ?_ (by simp) (pairsOk_spec h1) (hp.nodup_iff.2 List.nodup_range) ?_ (fun i hi => (hmem i).1 hi) ?_ h (hs.heap rfl) hT (hx.heap rfl rfl rfl) hd
  · intro o ho e he hb
    obtain ⟨i, hi, rfl⟩ := Array.mem_iff_getElem.1 ho
    have := hlt i _ (by simp) e he hb
    omega
  · intro i o ho e he hb
    have := hlt i o ho e he hb
    omega
  · rw [hp.length_eq]; simp
  · intro i hi
    simp [hmem, hi]
  · intro i o ho hl
    have hi : i < ops.size := (Array.getElem?_eq_some_iff.1 ho).1
    simp [hi] at hl

/- The same, in the words that a walk is told in: nothing is said twice. -/

/-- Does the operation give a value and no more? -/
def isVal (cfg : Cfg) (o : Oper) : Bool := !isM cfg o && match o.op with
  | .alloc _ | .makeSlice .. | .store .. => false
  | .box _ _ | .buildSlice _ _ _ => !cfg.own (o.dst.getD 0)
  | .call c => match c.callee with
    | .builtin .append | .builtin .copy => false
    | .builtin _ => true
    | _ => false
  | _ => true

/-- That value. -/
def valO (P : Program) (cfg : Cfg) (o : Oper) (T : Slots) (H : Heap) : Option AV := match o.op with
  | .box _ x => (cellsOf? (evalA P T x)).map .iptr
  | .buildSlice t len parts => match P.underlying t with
    | some (.slice _) => (literalF P t len (parts.toList.map fun p => (p.1, evalA P T p.2))).map (.imm len true)
    | _ => none
  | op => pureF P op (evalA P T) (cfg.heap o H)

def gval (c : AV) (want : Bool) (o : Option AV) : Option AV := match c with
  | .bool b => if b = want then o else some (.tup [])
  | .tup [] => some (.tup [])
  | _ => none

theorem valO_aopv {cfg : Cfg} {o : Oper} {T : Slots} {H : Heap} {k : AV → Heap → Prop} {v : AV} (hv : isVal cfg o = true) (h : valO P cfg o T H = some v) (hk : k v H) : aopv P cfg o T k H := by
  unfold isVal at hv
  rw [Bool.and_eq_true, Bool.not_eq_true'] at hv
  obtain ⟨hm, hv⟩ := hv
  unfold aopv
  simp only [hm, Bool.false_eq_true, if_false]
  obtain ⟨dst, op, type, pos, after, guard⟩ := o
  cases op <;> simp only [valO, Bool.not_eq_true', reduceCtorEq] at hv h <;> try simp only
  case box t x =>
    simp only [Option.map_eq_some_iff] at h
    obtain ⟨cs, h1, rfl⟩ := h
    rw [h1, hv]
    exact hk
  case buildSlice t len parts =>
    split at h
    · rename_i e he
      simp only [Option.map_eq_some_iff] at h
      obtain ⟨cells, h1, rfl⟩ := h
      rw [he]
      simp only [h1, hv]
      exact hk
    · cases h
  case call c =>
    obtain ⟨callee, args, ts⟩ := c
    cases callee <;> simp only [reduceCtorEq] at hv
    rename_i b
    cases b <;> simp only [reduceCtorEq] at hv
    all_goals
      simp only
      exact letO_iff.2 ⟨v, h, hk⟩
  all_goals exact letO_iff.2 ⟨v, h, hk⟩

def gopN (P : Program) (N : Nat) (cfg : Cfg) (ops : Array Oper) (o : Oper) (K : Slots → Heap → Prop) (T : Slots) (H : Heap) : Prop := match o.guard with
  | none => aop P N cfg o K T H
  | some (g, want) => match (ops[g]?).bind (·.dst) with
    | some t => if isVal cfg o then letO (gval (T t) want (valO P cfg o T H)) fun v => K (T.put N o.dst v) H
      else ∃ J : AV → Heap → Prop, condG (T t) want (aopv P cfg o T J H) (J (.tup []) H) ∧ ∀ v H', J v H' → K (T.put N o.dst v) H'
    | none => False

theorem gopN_gop {N : Nat} {cfg : Cfg} {ops : Array Oper} {o : Oper} {K : Slots → Heap → Prop} {T : Slots} {H : Heap} (h : gopN P N cfg ops o K T H) : gop P N cfg ops o K T H := by
  unfold gopN at h
  unfold gop guardA
  cases hg : o.guard with
  | none => rw [hg] at h; exact h
  | some p =>
    obtain ⟨g, want⟩ := p
    rw [hg] at h
    simp only at h ⊢
    cases ht : (ops[g]?).bind (·.dst) with
    | none => rw [ht] at h; exact h
    | some t =>
      rw [ht] at h
      simp only at h ⊢
      generalize T t = c at h
      split at h
      · rename_i hv
        rw [letO_iff] at h
        obtain ⟨v, h1, h2⟩ := h
        cases c <;> simp only [gval, reduceCtorEq] at h1
        case tup cells =>
          cases cells <;> simp only [reduceCtorEq] at h1
          cases h1
          exact h2
        rename_i b
        refine ⟨fun e => ?_, fun e => ?_⟩
        · rw [if_pos e] at h1
          exact valO_aopv hv h1 h2
        · rw [if_neg e] at h1
          cases h1
          exact h2
      · obtain ⟨J, h1, h2⟩ := h
        cases c <;> try exact h1.elim
        case tup cells =>
          cases cells
          · exact h2 _ _ h1
          · exact h1.elim
        exact ⟨fun e => aopv_mono (fun v H' => h2 v H') (h1.1 e), fun e => h2 _ _ (h1.2 e)⟩

def gopsN (P : Program) (N : Nat) (cfg : Cfg) (ops : Array Oper) (K : Slots → Heap → Prop) : List Oper → Slots → Heap → Prop
  | [] => K
  | o :: rest => gopN P N cfg ops o (gopsN P N cfg ops K rest)

theorem gopsN_gops {N : Nat} {cfg : Cfg} {ops : Array Oper} {K : Slots → Heap → Prop} : ∀ (l : List Oper) {T : Slots} {H : Heap}, gopsN P N cfg ops K l T H → gops P N cfg ops K l T H
  | [], _, _, h => h
  | _ :: rest, _, _, h => gop_mono (fun _ _ h => gopsN_gops rest h) (gopN_gop h)

/-- A call that gives one value and leaves memory as it was, guarded or not. -/
def callN (P : Program) (ops : Array Oper) (o : Oper) (T : Slots) (f : AV) (args : List AV) (H : Heap) (v : AV) : Prop := match o.guard with
  | none => callA P f args (fun r H' => r = v ∧ H' = H) H
  | some (g, want) => match (ops[g]?).bind (·.dst) with
    | some t => condG (T t) want (callA P f args (fun r H' => r = v ∧ H' = H) H) (v = .tup [])
    | none => False

def dopN (P : Program) (N : Nat) (cfg : Cfg) (ops : Array Oper) (gen : Bool) (o : Oper) (K : Slots → Heap → Prop) (T : Slots) (H : Heap) : Prop := match o.op with
  | .call c => match c.callee with
    | .value f => if gen then gopN P N cfg ops o K T H
      else ∃ v, callN P ops o T (evalA P T f) (c.args.toList.map (evalA P T)) H v ∧ K (T.put N o.dst v) H
    | _ => gopN P N cfg ops o K T H
  | _ => gopN P N cfg ops o K T H

theorem dopN_dop {N : Nat} {cfg : Cfg} {ops : Array Oper} {gen : Bool} {o : Oper} {K : Slots → Heap → Prop} {T : Slots} {H : Heap} (h : dopN P N cfg ops gen o K T H) : dop P N cfg ops gen o K T H := by
  obtain ⟨dst, op, type, pos, after, guard⟩ := o
  cases op <;> try exact gopN_gop h
  rename_i cc
  obtain ⟨callee, args, ts⟩ := cc
  cases callee <;> try exact gopN_gop h
  rename_i f
  unfold dopN at h
  unfold dop
  simp only at h ⊢
  split at h
  · rename_i hg; rw [if_pos hg]; exact gopN_gop h
  · rename_i hg
    rw [if_neg hg]
    obtain ⟨v, h1, h2⟩ := h
    unfold callN at h1
    unfold guardA
    simp only at h1 ⊢
    cases guard with
    | none => exact ⟨v, h1, h2⟩
    | some p =>
      obtain ⟨g, want⟩ := p
      simp only at h1 ⊢
      cases ht : (ops[g]?).bind (·.dst) with
      | none => rw [ht] at h1; exact h1
      | some t =>
        rw [ht] at h1
        simp only at h1 ⊢
        generalize T t = c at h1
        cases c <;> try exact h1.elim
        case tup cells =>
          cases cells
          · have := h1; subst this; exact h2
          · exact h1.elim
        exact ⟨fun e => ⟨v, h1.1 e, h2⟩, fun e => by have := h1.2 e; subst this; exact h2⟩

def dopsN (P : Program) (N : Nat) (cfg : Cfg) (ops : Array Oper) (gen : Nat → Bool) (K : Slots → Heap → Prop) : List Nat → Slots → Heap → Prop
  | [] => K
  | i :: rest => fun T H => match ops[i]? with
    | some o => dopN P N cfg ops (gen i) o (dopsN P N cfg ops gen K rest) T H
    | none => False

theorem dopsN_dops {N : Nat} {cfg : Cfg} {ops : Array Oper} {gen : Nat → Bool} {K : Slots → Heap → Prop} : ∀ (l : List Nat) {T : Slots} {H : Heap}, dopsN P N cfg ops gen K l T H → dops P N cfg ops gen K l T H
  | [], _, _, h => h
  | i :: rest, _, _, h => by
    simp only [dopsN, dops] at h ⊢
    cases hi : ops[i]? with
    | none => rw [hi] at h; exact h
    | some o => rw [hi] at h; exact dop_mono (fun _ _ h => dopsN_dops rest h) (dopN_dop h)

def regionN (P : Program) (N : Nat) (cfg : Cfg) (id : Nat) (ops : Array Oper) (K : Slots → Heap → Prop) (T : Slots) (H : Heap) : Prop :=
  let tbl := cfg.anc id
  let gen := drawGen ops tbl
  dopsN P N cfg ops gen K (drawOrd cfg gen ops tbl) T H

/- Regions with calls that make memory. -/
theorem drawOrdE_perm {cfg : Cfg} {ops : Array Oper} {tbl : List Nat} : (drawOrdE cfg ops tbl).Perm (List.range ops.size) := by
  unfold drawOrdE
  exact List.filter_append_perm _ _

theorem regionE_any {N : Nat} {cfg : Cfg} {ops : Array Oper} {K : Slots → Heap → Prop} {E0 : Env} {H0 : Heap} {w0 : World} {id : Nat} {Q : Exit → Act → World → Prop} (hm : P.follows .mixedOrders = true) (hok : drawOkE P cfg id ops = true)
    (hQ : ∀ a w, Lift P N E0 H0 w0 K a w → Q .normal a w)
    {T : Slots} {HQ H : Heap} {a : Act} {w : World} {E : Env} (hle : HQ.le H) (h : dopsE P N cfg ops HQ K (drawOrdE cfg ops (cfg.anc id)) T H) (hs : St E H w) (hT : RepT P N E T a.tmps) (hx : Ext E0 H0 w0 E H w) (hd : a.defers = []) :
    (Code.region id ops true).wp P Q a w := by
  refine wp_region_any hm ?_
  unfold drawOkE at hok
  simp only [Bool.and_eq_true] at hok
  obtain ⟨h0, h1⟩ := hok
  have hp := drawOrdE_perm (cfg := cfg) (ops := ops) (tbl := cfg.anc id)
  have hmem : ∀ i, i ∈ drawOrdE cfg ops (cfg.anc id) ↔ i < ops.size := fun i => by rw [hp.mem_iff]; simp
  have hlt : ∀ i o, ops[i]? = some o → ∀ e ∈ o.after, Region.binds .any e = true → e.on < i := by
    intro i o ho e he hb
    have hm2 : (o, i) ∈ ops.toList.zipIdx := by
      rw [List.mem_zipIdx_iff_getElem?]
      simpa using ho
    have h2 := List.all_eq_true.1 h0 _ hm2
    simp only [Bool.and_eq_true] at h2
    obtain ⟨k, hk, rfl⟩ := Array.mem_iff_getElem.1 he
    have := Array.all_eq_true.1 h2.2 k hk
    simpa [hb] using this
  refine drawE_any (HS := HQ) h0 hQ ?_ ?_ ops.size _ (Array.replicate ops.size false) ?_ (by simp) (pairsOkE_spec h1) (hp.nodup_iff.2 List.nodup_range) ?_ (fun i hi => (hmem i).1 hi) ?_ hle h (hs.heap rfl) hT (hx.heap rfl rfl rfl) hd
  · intro o ho e he hb
    obtain ⟨i, hi, rfl⟩ := Array.mem_iff_getElem.1 ho
    have := hlt i _ (by simp) e he hb
    omega
  · intro i o ho e he hb
    have := hlt i o ho e he hb
    omega
  · rw [hp.length_eq]; simp
  · intro i hi
    simp [hmem, hi]
  · intro i o ho hl
    have hi : i < ops.size := (Array.getElem?_eq_some_iff.1 ho).1
    simp [hi] at hl

/-- The value of an operation, guarded or not. -/
def valN (P : Program) (cfg : Cfg) (ops : Array Oper) (o : Oper) (T : Slots) (H : Heap) : Option AV := match o.guard with
  | none => valO P cfg o T H
  | some (g, want) => match (ops[g]?).bind (·.dst) with
    | some t => gval (T t) want (valO P cfg o T H)
    | none => none

def dopEN (P : Program) (N : Nat) (cfg : Cfg) (ops : Array Oper) (HS : Heap) (o : Oper) (K : Slots → Heap → Prop) (T : Slots) (H : Heap) : Prop :=
  if isV cfg o then
    if isVal cfg o then letO (valN P cfg ops o T HS) fun v => K (T.put N o.dst v) H
    else match o.op with
      | .call c => match c.callee with
        | .value f => ∃ v, callN P ops o T (evalA P T f) (c.args.toList.map (evalA P T)) HS v ∧ K (T.put N o.dst v) H
        | _ => False
      | _ => False
  else o.guard.isNone = true ∧ aopv P cfg o T (fun v H' => HS.le H' ∧ K (T.put N o.dst v) H') H

theorem valO_valR {cfg : Cfg} {o : Oper} {T : Slots} {H : Heap} {v : AV} (hv : isVal cfg o = true) (h : valO P cfg o T H = some v) : valR P cfg o T H v := by
  unfold isVal at hv
  rw [Bool.and_eq_true] at hv
  have hv2 := hv.2
  clear hv
  obtain ⟨dst, op, type, pos, after, guard⟩ := o
  cases op <;> simp only [valO, Bool.not_eq_true', reduceCtorEq, Bool.false_eq_true] at hv2 h <;> simp only [valR]
  case box t x =>
    simp only [Option.map_eq_some_iff] at h
    obtain ⟨cs, h1, rfl⟩ := h
    exact ⟨cs, h1, rfl⟩
  case buildSlice t len parts =>
    split at h
    · rename_i e he
      simp only [Option.map_eq_some_iff] at h
      obtain ⟨cells, h1, rfl⟩ := h
      exact ⟨⟨e, he⟩, cells, h1, rfl⟩
    · cases h
  case call c =>
    obtain ⟨callee, args, ts⟩ := c
    cases callee <;> simp only [reduceCtorEq, Bool.false_eq_true] at hv2
    exact h
  all_goals exact h

theorem dopEN_dopE {N : Nat} {cfg : Cfg} {ops : Array Oper} {HS : Heap} {o : Oper} {K : Slots → Heap → Prop} {T : Slots} {H : Heap} (h : dopEN P N cfg ops HS o K T H) : dopE P N cfg ops HS o K T H := by
  unfold dopEN at h
  unfold dopE
  split at h
  · rename_i hv
    rw [if_pos hv]
    split at h
    · rename_i hval
      rw [letO_iff] at h
      obtain ⟨v, h1, h2⟩ := h
      refine ⟨v, ?_, h2⟩
      unfold valN at h1
      unfold gR gv
      cases hg : o.guard with
      | none =>
        rw [hg] at h1
        exact .inl ⟨rfl, valO_valR hval h1⟩
      | some p =>
        obtain ⟨g, want⟩ := p
        rw [hg] at h1
        simp only at h1 ⊢
        cases ht : (ops[g]?).bind (·.dst) with
        | none => rw [ht] at h1; cases h1
        | some t =>
          rw [ht] at h1
          simp only at h1 ⊢
          generalize T t = c at h1
          cases c <;> simp only [gval, reduceCtorEq] at h1
          case tup cells =>
            cases cells <;> simp only [reduceCtorEq] at h1
            cases h1
            exact .inr ⟨rfl, rfl⟩
          rename_i b
          by_cases e : b = want
          · rw [if_pos e] at h1
            exact .inl ⟨by simp [e], valO_valR hval h1⟩
          · rw [if_neg e] at h1
            cases h1
            exact .inr ⟨by simp [e], rfl⟩
    · split at h
      · rename_i c hc
        split at h
        · rename_i f hf
          obtain ⟨v, h1, h2⟩ := h
          refine ⟨v, ?_, h2⟩
          have hval : ∀ {H : Heap}, callA P (evalA P T f) (c.args.toList.map (evalA P T)) (fun r H' => r = v ∧ H' = H) H → valR P cfg o T H v := by
            intro H hh
            unfold valR
            rw [hc]
            simp only [hf]
            exact hh
          unfold callN at h1
          unfold gR gv
          cases hg : o.guard with
          | none =>
            rw [hg] at h1
            exact .inl ⟨rfl, hval h1⟩
          | some p =>
            obtain ⟨g, want⟩ := p
            rw [hg] at h1
            simp only at h1 ⊢
            cases ht : (ops[g]?).bind (·.dst) with
            | none => rw [ht] at h1; exact h1.elim
            | some t =>
              rw [ht] at h1
              simp only at h1 ⊢
              generalize T t = c at h1
              cases c <;> try exact h1.elim
              case tup cells =>
                cases cells
                · exact .inr ⟨rfl, h1⟩
                · exact h1.elim
              rename_i b
              by_cases e : b = want
              · exact .inl ⟨by simp [e], hval (h1.1 e)⟩
              · exact .inr ⟨by simp [e], h1.2 e⟩
        · exact h.elim
      · exact h.elim
  · rename_i hv
    rw [if_neg hv]
    exact h

def dopsEN (P : Program) (N : Nat) (cfg : Cfg) (ops : Array Oper) (HS : Heap) (K : Slots → Heap → Prop) : List Nat → Slots → Heap → Prop
  | [] => K
  | i :: rest => fun T H => match ops[i]? with
    | some o => dopEN P N cfg ops HS o (dopsEN P N cfg ops HS K rest) T H
    | none => False

theorem dopsEN_dopsE {N : Nat} {cfg : Cfg} {ops : Array Oper} {HS : Heap} {K : Slots → Heap → Prop} : ∀ (l : List Nat) {T : Slots} {H : Heap}, dopsEN P N cfg ops HS K l T H → dopsE P N cfg ops HS K l T H
  | [], _, _, h => h
  | i :: rest, _, _, h => by
    simp only [dopsEN, dopsE] at h ⊢
    cases hi : ops[i]? with
    | none => rw [hi] at h; exact h
    | some o => rw [hi] at h; exact dopE_mono (fun _ _ h => dopsEN_dopsE rest h) (dopEN_dopE h)

def regionE (P : Program) (N : Nat) (cfg : Cfg) (id : Nat) (ops : Array Oper) (K : Slots → Heap → Prop) (T : Slots) (H : Heap) : Prop :=
  ∃ HQ : Heap, HQ.le H ∧ dopsEN P N cfg ops HQ K (drawOrdE cfg ops (cfg.anc id)) T H

/-- What a walk is told ahead: where ways meet, and at a loop, the slots that are looked at later ('lv'), and all that may have changed ('ds'). -/
inductive Hint where
  | nil
  | dir (a b : Hint)
  | cut (lv ds : List Tmp) (a b : Hint)
  | loop (lv ds : List Tmp) (a : Hint)
  | blk (a : Hint)

/-- The slots that a walk may change. -/
def dsts : Code → Hint → List Tmp
  | .region _ ops _, _ => ops.toList.filterMap (·.dst)
  | .seq a b, .dir h1 h2 => dsts a h1 ++ dsts b h2
  | .seq _ b, .cut _ ds _ h2 => ds ++ dsts b h2
  | .seq a b, _ => dsts a .nil ++ dsts b .nil
  | .cond _ a b, .dir h1 h2 => dsts a h1 ++ dsts b h2
  | .cond _ a b, _ => dsts a .nil ++ dsts b .nil
  | .block _ c, .blk h => dsts c h
  | .block _ c, _ => dsts c .nil
  | .loop _, .loop _ ds _ => ds
  | _, _ => []

def covers (lv ds : List Tmp) (c : Code) (h : Hint) : Bool := lv.all ds.contains && (dsts c h).all ds.contains

/-- What is known where ways meet: the live slots by name, the rest as it was, or nothing. -/
def resetT (ds lv : List Tmp) (T : Slots) (L : List AV) : Slots := fun t =>
  match lv.idxOf? t with
  | some i => L.getD i .any
  | none => if ds.contains t then .any else T t

abbrev APost := Exit → Slots → Heap → Prop

/-- THE WALK. -/
def avc (P : Program) (N : Nat) (cfg : Cfg) : Code → Hint → APost → Slots → Heap → Prop
  | .skip, _, Q => Q .normal
  | .region id ops draw, _, Q => fun T H =>
    if draw then
      if anyE cfg ops then drawOkE P cfg id ops = true ∧ regionE P N cfg id ops (Q .normal) T H
      else drawOk P cfg id ops = true ∧ regionN P N cfg id ops (Q .normal) T H
    else gopsN P N cfg ops (Q .normal) ops.toList T H
  | .seq a b, .dir h1 h2, Q => avc P N cfg a h1 fun e => match e with | .normal => avc P N cfg b h2 Q | e => Q e
  | .seq a b, .cut lv ds h1 h2, Q => fun T H => covers lv ds a h1 = true ∧
      ∃ J : List AV → Heap → Prop, avc P N cfg a h1 (fun e T' H' => match e with | .normal => J (lv.map T') H' | e => Q e T' H') T H ∧
        ∀ L H', J L H' → avc P N cfg b h2 Q (resetT ds lv T L) H'
  | .seq a b, _, Q => avc P N cfg a .nil fun e => match e with | .normal => avc P N cfg b .nil Q | e => Q e
  | .cond c a b, .dir h1 h2, Q => fun T H => condA (evalA P T c) true (avc P N cfg a h1 Q T H) (avc P N cfg b h2 Q T H)
  | .cond c a b, _, Q => fun T H => condA (evalA P T c) true (avc P N cfg a .nil Q T H) (avc P N cfg b .nil Q T H)
  | .block id c, .blk h, Q => avc P N cfg c h fun e => match e with
    | .exit id' => if id' = id then Q .normal else Q (.exit id')
    | e => Q e
  | .block id c, _, Q => avc P N cfg c .nil fun e => match e with
    | .exit id' => if id' = id then Q .normal else Q (.exit id')
    | e => Q e
  | .loop c, .loop lv ds h, Q => fun T H => covers lv ds c h = true ∧
    ∃ (I : List AV → Heap → Prop) (μ : List AV → Heap → Nat), I (lv.map T) H ∧ ∀ L H', I L H' →
      avc P N cfg c h (fun e T' H'' => match e with
        | .normal => I (lv.map T') H'' ∧ μ (lv.map T') H'' < μ L H'
        | e => Q e T' H'') (resetT ds lv T L) H'
  | .exit id, _, Q => Q (.exit id)
  | .ret, _, Q => Q .ret
  | _, _, _ => fun _ _ => False

/-- Only these slots have changed. -/
def Keeps (ds : List Tmp) (T T' : Slots) : Prop := ∀ t, t ∉ ds → T' t = T t

theorem Keeps.refl (ds : List Tmp) (T : Slots) : Keeps ds T T := fun _ _ => rfl
theorem Keeps.trans {ds ds' : List Tmp} {T T' T'' : Slots} (h : Keeps ds T T') (h' : Keeps ds' T' T'') : Keeps (ds ++ ds') T T'' := fun t ht => by
  simp only [List.mem_append, not_or] at ht
  rw [h' t ht.2, h t ht.1]
theorem Keeps.weaken {ds ds' : List Tmp} {T T' : Slots} (h : Keeps ds T T') (hs : ∀ t ∈ ds, t ∈ ds') : Keeps ds' T T' := fun t ht => h t fun h1 => ht (hs t h1)
theorem keeps_put {N : Nat} {T : Slots} {d : Option Tmp} {v : AV} : Keeps d.toList T (T.put N d v) := fun t ht => by
  cases d with
  | none => rfl
  | some d =>
    simp at ht
    simp only [Slots.put]
    split
    · simp [ht]
    · rfl

section
variable {N : Nat} {cfg : Cfg}

theorem gopN_mono' {ops : Array Oper} {o : Oper} {K K' : Slots → Heap → Prop} {T : Slots} {H : Heap} (hk : ∀ v H, K (T.put N o.dst v) H → K' (T.put N o.dst v) H) (h : gopN P N cfg ops o K T H) : gopN P N cfg ops o K' T H := by
  unfold gopN at *
  split at h
  · exact aop_mono' hk h
  · split at h
    · split at h
      · rename_i hv; rw [if_pos hv]; exact letO_mono (fun v => hk v _) h
      · rename_i hv
        rw [if_neg hv]
        obtain ⟨J, h1, h2⟩ := h
        exact ⟨J, h1, fun v H' hj => hk v H' (h2 v H' hj)⟩
    · exact h

theorem dopN_mono' {ops : Array Oper} {gen : Bool} {o : Oper} {K K' : Slots → Heap → Prop} {T : Slots} {H : Heap} (hk : ∀ v H, K (T.put N o.dst v) H → K' (T.put N o.dst v) H) (h : dopN P N cfg ops gen o K T H) : dopN P N cfg ops gen o K' T H := by
  unfold dopN at *
  split at h
  · split at h
    · split at h
      · rename_i hg; rw [if_pos hg]; exact gopN_mono' hk h
      · rename_i hg; rw [if_neg hg]; exact h.imp fun v ⟨a, b⟩ => ⟨a, hk _ _ b⟩
    · exact gopN_mono' hk h
  · exact gopN_mono' hk h

theorem gopsN_mono {ops : Array Oper} {K K' : Slots → Heap → Prop} : ∀ (l : List Oper) {T : Slots} {H : Heap}, (∀ T' H', Keeps (l.filterMap (·.dst)) T T' → K T' H' → K' T' H') → gopsN P N cfg ops K l T H → gopsN P N cfg ops K' l T H
  | [], T, H, hk, h => hk T H (Keeps.refl _ _) h
  | o :: rest, T, H, hk, h => by
    refine gopN_mono' (fun v H' h1 => gopsN_mono rest (fun T' H'' hkp h2 => hk T' H'' ?_ h2) h1) h
    have := (keeps_put (N := N) (T := T) (d := o.dst) (v := v)).trans hkp
    refine this.weaken fun t ht => ?_
    rw [List.filterMap_cons]
    cases hd : o.dst <;> rw [hd] at ht <;> simpa using ht

theorem dopsN_mono {ops : Array Oper} {gen : Nat → Bool} {K K' : Slots → Heap → Prop} : ∀ (l : List Nat) {T : Slots} {H : Heap}, (∀ T' H', Keeps (ops.toList.filterMap (·.dst)) T T' → K T' H' → K' T' H') → dopsN P N cfg ops gen K l T H → dopsN P N cfg ops gen K' l T H
  | [], T, H, hk, h => hk T H (Keeps.refl _ _) h
  | i :: rest, T, H, hk, h => by
    simp only [dopsN] at h ⊢
    cases hi : ops[i]? with
    | none => rw [hi] at h; exact h.elim
    | some o =>
      rw [hi] at h
      simp only at h ⊢
      refine dopN_mono' (fun v H' h1 => dopsN_mono rest (fun T' H'' hkp h2 => hk T' H'' ?_ h2) h1) h
      have := (keeps_put (N := N) (T := T) (d := o.dst) (v := v)).trans hkp
      refine this.weaken fun t ht => ?_
      rcases List.mem_append.1 ht with h1 | h1
      · refine List.mem_filterMap.2 ⟨o, by simpa using Array.mem_of_getElem? hi, ?_⟩
        cases hd : o.dst <;> rw [hd] at h1 <;> simp at h1
        rw [h1]
      · exact h1

theorem dopEN_mono' {ops : Array Oper} {HS : Heap} {o : Oper} {K K' : Slots → Heap → Prop} {T : Slots} {H : Heap} (hk : ∀ v H, K (T.put N o.dst v) H → K' (T.put N o.dst v) H) (h : dopEN P N cfg ops HS o K T H) : dopEN P N cfg ops HS o K' T H := by
  unfold dopEN at *
  split at h
  · rename_i hv
    rw [if_pos hv]
    split at h
    · rename_i hval; rw [if_pos hval]; exact letO_mono (fun v => hk v _) h
    · rename_i hval
      rw [if_neg hval]
      split at h
      · split at h
        · exact h.imp fun v ⟨a, b⟩ => ⟨a, hk _ _ b⟩
        · exact h
      · exact h
  · rename_i hv
    rw [if_neg hv]
    exact ⟨h.1, aopv_mono (fun v H' hh => ⟨hh.1, hk _ _ hh.2⟩) h.2⟩

theorem dopsEN_mono {ops : Array Oper} {HS : Heap} {K K' : Slots → Heap → Prop} : ∀ (l : List Nat) {T : Slots} {H : Heap}, (∀ T' H', Keeps (ops.toList.filterMap (·.dst)) T T' → K T' H' → K' T' H') → dopsEN P N cfg ops HS K l T H → dopsEN P N cfg ops HS K' l T H
  | [], T, H, hk, h => hk T H (Keeps.refl _ _) h
  | i :: rest, T, H, hk, h => by
    simp only [dopsEN] at h ⊢
    cases hi : ops[i]? with
    | none => rw [hi] at h; exact h.elim
    | some o =>
      rw [hi] at h
      simp only at h ⊢
      refine dopEN_mono' (fun v H' h1 => dopsEN_mono rest (fun T' H'' hkp h2 => hk T' H'' ?_ h2) h1) h
      have := (keeps_put (N := N) (T := T) (d := o.dst) (v := v)).trans hkp
      refine this.weaken fun t ht => ?_
      rcases List.mem_append.1 ht with h1 | h1
      · refine List.mem_filterMap.2 ⟨o, by simpa using Array.mem_of_getElem? hi, ?_⟩
        cases hd : o.dst <;> rw [hd] at h1 <;> simp at h1
        rw [h1]
      · exact h1

theorem covers_spec {lv ds : List Tmp} {c : Code} {h : Hint} (hc : covers lv ds c h = true) : (∀ t ∈ lv, t ∈ ds) ∧ ∀ t ∈ dsts c h, t ∈ ds := by
  unfold covers at hc
  simp only [Bool.and_eq_true, List.all_eq_true] at hc
  exact ⟨fun t ht => by simpa using hc.1 t ht, fun t ht => by simpa using hc.2 t ht⟩

theorem keeps_reset {ds lv : List Tmp} {T : Slots} {L : List AV} (hl : ∀ t ∈ lv, t ∈ ds) : Keeps ds T (resetT ds lv T L) := fun t ht => by
  unfold resetT
  have h1 : lv.idxOf? t = none := by
    rw [List.idxOf?_eq_none_iff]
    exact fun h => ht (hl t h)
  rw [h1]
  simp [ht]

/-- More may be told of the end: what has been left alone. -/
theorem avc_keep (c : Code) (hh : Hint) {Q Q' : APost} {T : Slots} {H : Heap} (hk : ∀ e T' H', Keeps (dsts c hh) T T' → Q e T' H' → Q' e T' H') (h : avc P N cfg c hh Q T H) : avc P N cfg c hh Q' T H := by
  revert Q Q' T H
  have seqd : ∀ (a b : Code) (h1 h2 : Hint) (D : List Tmp), (∀ t, t ∈ dsts a h1 ++ dsts b h2 → t ∈ D) →
      (∀ {Q Q' : APost} {T : Slots} {H : Heap}, (∀ e T' H', Keeps (dsts a h1) T T' → Q e T' H' → Q' e T' H') → avc P N cfg a h1 Q T H → avc P N cfg a h1 Q' T H) →
      (∀ {Q Q' : APost} {T : Slots} {H : Heap}, (∀ e T' H', Keeps (dsts b h2) T T' → Q e T' H' → Q' e T' H') → avc P N cfg b h2 Q T H → avc P N cfg b h2 Q' T H) →
      ∀ {Q Q' : APost} {T : Slots} {H : Heap}, (∀ e T' H', Keeps D T T' → Q e T' H' → Q' e T' H') →
        avc P N cfg a h1 (fun e => match e with | .normal => avc P N cfg b h2 Q | e => Q e) T H → avc P N cfg a h1 (fun e => match e with | .normal => avc P N cfg b h2 Q' | e => Q' e) T H := by
    intro a b h1 h2 D hD iha ihb Q Q' T H hk h
    refine iha (fun e T' H' hkp h3 => ?_) h
    cases e with
    | normal => exact ihb (fun e T'' H'' hkp' h4 => hk e T'' H'' ((hkp.trans hkp').weaken hD) h4) h3
    | _ => exact hk _ T' H' (hkp.weaken fun t ht => hD t (by simp [ht])) h3
  have condd : ∀ (x : Operand) (a b : Code) (h1 h2 : Hint) (D : List Tmp), (∀ t, t ∈ dsts a h1 ++ dsts b h2 → t ∈ D) →
      (∀ {Q Q' : APost} {T : Slots} {H : Heap}, (∀ e T' H', Keeps (dsts a h1) T T' → Q e T' H' → Q' e T' H') → avc P N cfg a h1 Q T H → avc P N cfg a h1 Q' T H) →
      (∀ {Q Q' : APost} {T : Slots} {H : Heap}, (∀ e T' H', Keeps (dsts b h2) T T' → Q e T' H' → Q' e T' H') → avc P N cfg b h2 Q T H → avc P N cfg b h2 Q' T H) →
      ∀ {Q Q' : APost} {T : Slots} {H : Heap}, (∀ e T' H', Keeps D T T' → Q e T' H' → Q' e T' H') →
        condA (evalA P T x) true (avc P N cfg a h1 Q T H) (avc P N cfg b h2 Q T H) → condA (evalA P T x) true (avc P N cfg a h1 Q' T H) (avc P N cfg b h2 Q' T H) := by
    intro x a b h1 h2 D hD iha ihb Q Q' T H hk h
    unfold condA at *
    split at h
    · exact ⟨fun e => iha (fun e T' H' hkp h3 => hk e T' H' (hkp.weaken fun t ht => hD t (by simp [ht])) h3) (h.1 e),
        fun e => ihb (fun e T' H' hkp h3 => hk e T' H' (hkp.weaken fun t ht => hD t (by simp [ht])) h3) (h.2 e)⟩
    · exact h
  have blkd : ∀ (id : Nat) (c : Code) (h1 : Hint),
      (∀ {Q Q' : APost} {T : Slots} {H : Heap}, (∀ e T' H', Keeps (dsts c h1) T T' → Q e T' H' → Q' e T' H') → avc P N cfg c h1 Q T H → avc P N cfg c h1 Q' T H) →
      ∀ {Q Q' : APost} {T : Slots} {H : Heap}, (∀ e T' H', Keeps (dsts c h1) T T' → Q e T' H' → Q' e T' H') →
        avc P N cfg c h1 (fun e => match e with | .exit id' => if id' = id then Q .normal else Q (.exit id') | e => Q e) T H →
        avc P N cfg c h1 (fun e => match e with | .exit id' => if id' = id then Q' .normal else Q' (.exit id') | e => Q' e) T H := by
    intro id c h1 ih Q Q' T H hk h
    refine ih (fun e T' H' hkp h3 => ?_) h
    cases e with
    | exit id' =>
      simp only at h3 ⊢
      split at h3
      · rename_i he; rw [if_pos he]; exact hk _ T' H' hkp h3
      · rename_i he; rw [if_neg he]; exact hk _ T' H' hkp h3
    | _ => exact hk _ T' H' hkp h3
  induction c generalizing hh with
  | skip => intro Q Q' T H hk h; exact hk .normal _ _ (Keeps.refl _ _) h
  | exit id => intro Q Q' T H hk h; exact hk (.exit id) _ _ (Keeps.refl _ _) h
  | ret => intro Q Q' T H hk h; exact hk .ret _ _ (Keeps.refl _ _) h
  | region id ops draw =>
    intro Q Q' T H hk h
    simp only [avc] at h ⊢
    split at h
    · rename_i hd
      rw [if_pos hd]
      split at h
      · rename_i he
        rw [if_pos he]
        exact ⟨h.1, h.2.imp fun HQ hq => ⟨hq.1, dopsEN_mono _ (fun T' H' hkp h1 => hk .normal T' H' (by simpa [dsts] using hkp) h1) hq.2⟩⟩
      · rename_i he
        rw [if_neg he]
        exact ⟨h.1, dopsN_mono _ (fun T' H' hkp h1 => hk .normal T' H' (by simpa [dsts] using hkp) h1) h.2⟩
    · rename_i hd
      rw [if_neg hd]
      exact gopsN_mono _ (fun T' H' hkp h1 => hk .normal T' H' (by simpa [dsts] using hkp) h1) h
  | seq a b iha ihb =>
    intro Q Q' T H hk h
    cases hh with
    | dir h1 h2 => exact seqd a b h1 h2 _ (fun t ht => ht) (iha h1) (ihb h2) hk h
    | cut lv ds h1 h2 =>
      obtain ⟨hc, J, h3, h4⟩ := h
      have hcs := covers_spec hc
      refine ⟨hc, J, iha h1 (fun e T' H' hkp h5 => ?_) h3, fun L H' hJ => ihb h2 (fun e T'' H'' hkp' h5 => hk e T'' H'' ((keeps_reset hcs.1).trans hkp') h5) (h4 L H' hJ)⟩
      cases e with
      | normal => exact h5
      | _ => exact hk _ T' H' (hkp.weaken fun t ht => by simp [dsts, hcs.2 t ht]) h5
    | _ => exact seqd a b .nil .nil _ (fun t ht => ht) (iha .nil) (ihb .nil) hk h
  | cond x a b iha ihb =>
    intro Q Q' T H hk h
    cases hh with
    | dir h1 h2 => exact condd x a b h1 h2 _ (fun t ht => ht) (iha h1) (ihb h2) hk h
    | _ => exact condd x a b .nil .nil _ (fun t ht => ht) (iha .nil) (ihb .nil) hk h
  | block id c ih =>
    intro Q Q' T H hk h
    cases hh with
    | blk h1 => exact blkd id c h1 (ih h1) hk h
    | _ => exact blkd id c .nil (ih .nil) hk h
  | loop c ih =>
    intro Q Q' T H hk h
    cases hh with
    | loop lv ds h1 =>
      obtain ⟨hc, I, μ, h0, h2⟩ := h
      have hcs := covers_spec hc
      refine ⟨hc, I, μ, h0, fun L H' hI => ih h1 (fun e T' H'' hkp h3 => ?_) (h2 L H' hI)⟩
      have hkp' : Keeps ds T T' := fun t ht => by
        rw [hkp t fun hm => ht (hcs.2 t hm)]; exact keeps_reset hcs.1 t ht
      cases e with
      | normal => exact h3
      | _ => exact hk _ T' H'' hkp' h3
    | _ => exact h.elim
  | _ => intro Q Q' T H hk h; cases hh <;> exact h.elim
end
end Go.Av

/- The walk is sound. -/
namespace Go.Av
variable {P : Program}

/-- A loop, by a relation that bears its own measure. -/
theorem wp_loop_rel {P : Program} {Q : Exit → Act → World → Prop} {c : Code} (R : Nat → Act → World → Prop)
    (round : ∀ n a w, R n a w → c.wp P (Exit.then (fun a' w' => ∃ m, m < n ∧ R m a' w') Q) a w) {n : Nat} {a : Act} {w : World} (h₀ : R n a w) : (Code.loop c).wp P Q a w := by
  intro b k cs
  have key : ∀ n a w, R n a w → ∃ e a' w', Q e a' w' ∧ Arrives P (lone (b.at a (.code c :: .inLoop c :: k)) cs w) b k cs e a' w' := by
    intro n
    induction n using Nat.strongRecOn with
    | _ n ih =>
      intro a w hR
      obtain ⟨e, a₁, w₁, hq, harr⟩ := round n a w hR b (.inLoop c :: k) cs
      cases e with
      | normal =>
        obtain ⟨m, hlt, hR'⟩ := hq
        obtain ⟨e₂, a₂, w₂, hq₂, harr₂⟩ := ih m hlt a₁ w₁ hR'
        exact ⟨e₂, a₂, w₂, hq₂, .of_steps (Steps.trans harr (.one step_inLoop)) harr₂⟩
      | exit id => exact ⟨_, a₁, w₁, hq, .pass (x := .inLoop c) rfl (fun _ _ => .inl (by simp)) harr⟩
      | goto l => exact ⟨_, a₁, w₁, hq, .pass (x := .inLoop c) rfl (fun _ _ => .inl (by simp)) harr⟩
      | ret => exact ⟨_, a₁, w₁, hq, .pass (x := .inLoop c) rfl (fun _ _ => .inl (by simp)) harr⟩
      | panic ch => exact ⟨_, a₁, w₁, hq, .pass (x := .inLoop c) rfl (fun _ _ => .inl (by simp)) harr⟩
      | outgrown => exact ⟨_, a₁, w₁, hq, .pass (x := .inLoop c) rfl (fun _ _ => .inl (by simp)) harr⟩
  obtain ⟨e, a', w', hq, harr⟩ := key n a w h₀
  exact ⟨e, a', w', hq, .of_steps (.one step_loop) harr⟩

def LiftP (P : Program) (N : Nat) (E0 : Env) (H0 : Heap) (w0 : World) (Q : APost) (e : Exit) (a : Act) (w : World) : Prop := Lift P N E0 H0 w0 (Q e) a w

section
variable {N : Nat} {cfg : Cfg} {E0 : Env} {H0 : Heap} {w0 : World}

theorem repT_reset {E' : Env} {T T' : Slots} {a : Act} {ds lv : List Tmp} (hT : RepT P N E' T' a.tmps) (hk : Keeps ds T T') :
    RepT P N E' (resetT ds lv T (lv.map T')) a.tmps := by
  refine ⟨hT.size, fun t => ?_, hT.glb⟩
  unfold resetT
  cases hi : lv.idxOf? t with
  | some i =>
    simp only
    have := List.idxOf?_eq_some_iff.1 hi
    obtain ⟨hlt, heq, _⟩ := this
    have h1 : (lv.map T').getD i .any = T' t := by
      simp [hlt, heq]
    rw [h1]
    exact hT.rep t
  | none =>
    simp only
    split
    · exact .any _
    · rename_i hc
      have : t ∉ ds := by simpa using hc
      rw [← hk t this]
      exact hT.rep t

theorem avc_sound (hm : P.follows .mixedOrders = true) (c : Code) (hh : Hint) {Q : APost} {T : Slots} {H : Heap} {a : Act} {w : World} {E : Env}
    (h : avc P N cfg c hh Q T H) (hs : St E H w) (hT : RepT P N E T a.tmps) (hx : Ext E0 H0 w0 E H w) (hd : a.defers = []) : c.wp P (LiftP P N E0 H0 w0 Q) a w := by
  have seqd : ∀ (x y : Code) (h1 h2 : Hint),
      (∀ {Q : APost} {T : Slots} {H : Heap} {a : Act} {w : World} {E : Env}, avc P N cfg x h1 Q T H → St E H w → RepT P N E T a.tmps → Ext E0 H0 w0 E H w → a.defers = [] → x.wp P (LiftP P N E0 H0 w0 Q) a w) →
      (∀ {Q : APost} {T : Slots} {H : Heap} {a : Act} {w : World} {E : Env}, avc P N cfg y h2 Q T H → St E H w → RepT P N E T a.tmps → Ext E0 H0 w0 E H w → a.defers = [] → y.wp P (LiftP P N E0 H0 w0 Q) a w) →
      ∀ {Q : APost} {T : Slots} {H : Heap} {a : Act} {w : World} {E : Env}, avc P N cfg x h1 (fun e => match e with | .normal => avc P N cfg y h2 Q | e => Q e) T H → St E H w → RepT P N E T a.tmps → Ext E0 H0 w0 E H w → a.defers = [] →
        (Code.seq x y).wp P (LiftP P N E0 H0 w0 Q) a w := by
    intro x y h1 h2 ihx ihy Q T H a w E h hs hT hx hd
    refine wp_seq (wp_mono (ihx h hs hT hx hd) fun e a' w' hq => ?_)
    cases e with
    | normal =>
      obtain ⟨T', H', E', g1, g2, g3, g4, g5⟩ := hq
      exact ihy g1 g2 g3 g4 g5
    | _ => exact hq
  have condd : ∀ (c : Operand) (x y : Code) (h1 h2 : Hint),
      (∀ {Q : APost} {T : Slots} {H : Heap} {a : Act} {w : World} {E : Env}, avc P N cfg x h1 Q T H → St E H w → RepT P N E T a.tmps → Ext E0 H0 w0 E H w → a.defers = [] → x.wp P (LiftP P N E0 H0 w0 Q) a w) →
      (∀ {Q : APost} {T : Slots} {H : Heap} {a : Act} {w : World} {E : Env}, avc P N cfg y h2 Q T H → St E H w → RepT P N E T a.tmps → Ext E0 H0 w0 E H w → a.defers = [] → y.wp P (LiftP P N E0 H0 w0 Q) a w) →
      ∀ {Q : APost} {T : Slots} {H : Heap} {a : Act} {w : World} {E : Env}, condA (evalA P T c) true (avc P N cfg x h1 Q T H) (avc P N cfg y h2 Q T H) → St E H w → RepT P N E T a.tmps → Ext E0 H0 w0 E H w → a.defers = [] →
        (Code.cond c x y).wp P (LiftP P N E0 H0 w0 Q) a w := by
    intro c x y h1 h2 ihx ihy Q T H a w E h hs hT hx hd
    have hc := hT.eval c
    unfold condA at h
    split at h
    · rename_i b hb
      rw [hb] at hc
      refine wp_cond (rep_bool hc) ?_
      cases b with
      | true => exact ihx (h.1 rfl) hs hT hx hd
      | false => exact ihy (h.2 (by simp)) hs hT hx hd
    · exact h.elim
  have blkd : ∀ (id : Nat) (c : Code) (h1 : Hint),
      (∀ {Q : APost} {T : Slots} {H : Heap} {a : Act} {w : World} {E : Env}, avc P N cfg c h1 Q T H → St E H w → RepT P N E T a.tmps → Ext E0 H0 w0 E H w → a.defers = [] → c.wp P (LiftP P N E0 H0 w0 Q) a w) →
      ∀ {Q : APost} {T : Slots} {H : Heap} {a : Act} {w : World} {E : Env}, avc P N cfg c h1 (fun e => match e with | .exit id' => if id' = id then Q .normal else Q (.exit id') | e => Q e) T H → St E H w → RepT P N E T a.tmps → Ext E0 H0 w0 E H w → a.defers = [] →
        (Code.block id c).wp P (LiftP P N E0 H0 w0 Q) a w := by
    intro id c h1 ih Q T H a w E h hs hT hx hd
    refine wp_block (wp_mono (ih h hs hT hx hd) fun e a' w' hq => ?_)
    cases e with
    | exit id' =>
      simp only [LiftP] at hq
      simp only [Exit.inBlock]
      split at hq
      · rename_i he; rw [if_pos he]; exact hq
      · rename_i he; rw [if_neg he]; exact hq
    | _ => exact hq
  induction c generalizing hh Q T H a w E with
  | skip => exact wp_skip ⟨T, H, E, h, hs, hT, hx, hd⟩
  | exit id => exact wp_exit ⟨T, H, E, h, hs, hT, hx, hd⟩
  | ret => exact wp_ret ⟨T, H, E, h, hs, hT, hx, hd⟩
  | region id ops draw =>
    simp only [avc] at h
    cases draw with
    | true =>
      simp only [if_true] at h
      split at h
      · obtain ⟨h1, HQ, h2, h3⟩ := h
        exact regionE_any hm h1 (fun a w h => h) h2 (dopsEN_dopsE _ h3) hs hT hx hd
      · exact regionD_sound hm h.1 (fun a w h => h) (dopsN_dops _ h.2) hs hT hx hd
    | false =>
      simp only [Bool.false_eq_true, if_false] at h
      exact region_sound (fun a w h => h) (gopsN_gops _ h) hs hT hx hd
  | seq x y ihx ihy =>
    cases hh with
    | dir h1 h2 => exact seqd x y h1 h2 (fun h hs hT hx hd => ihx h1 h hs hT hx hd) (fun h hs hT hx hd => ihy h2 h hs hT hx hd) h hs hT hx hd
    | cut lv ds h1 h2 =>
      obtain ⟨hc, J, h3, h4⟩ := h
      have hcs := covers_spec hc
      have h3' := avc_keep (Q' := fun e T' H' => (match e with | .normal => J (lv.map T') H' | e => Q e T' H') ∧ Keeps (dsts x h1) T T') x h1 (fun e T' H' hk hq => ⟨hq, hk⟩) h3
      refine wp_seq (wp_mono (ihx h1 h3' hs hT hx hd) fun e a' w' hq => ?_)
      obtain ⟨T', H', E', ⟨g1, gk⟩, g2, g3, g4, g5⟩ := hq
      cases e with
      | normal => exact ihy h2 (h4 _ _ g1) g2 (repT_reset g3 (gk.weaken hcs.2)) g4 g5
      | _ => exact ⟨T', H', E', g1, g2, g3, g4, g5⟩
    | _ => exact seqd x y .nil .nil (fun h hs hT hx hd => ihx .nil h hs hT hx hd) (fun h hs hT hx hd => ihy .nil h hs hT hx hd) h hs hT hx hd
  | cond c x y ihx ihy =>
    cases hh with
    | dir h1 h2 => exact condd c x y h1 h2 (fun h hs hT hx hd => ihx h1 h hs hT hx hd) (fun h hs hT hx hd => ihy h2 h hs hT hx hd) h hs hT hx hd
    | _ => exact condd c x y .nil .nil (fun h hs hT hx hd => ihx .nil h hs hT hx hd) (fun h hs hT hx hd => ihy .nil h hs hT hx hd) h hs hT hx hd
  | block id c ih =>
    cases hh with
    | blk h1 => exact blkd id c h1 (fun h hs hT hx hd => ih h1 h hs hT hx hd) h hs hT hx hd
    | _ => exact blkd id c .nil (fun h hs hT hx hd => ih .nil h hs hT hx hd) h hs hT hx hd
  | loop c ih =>
    cases hh with
    | loop lv ds h1 =>
      obtain ⟨hc, I, μ, h0, h2⟩ := h
      have hcs := covers_spec hc
      refine wp_loop_rel (fun n a w => ∃ L H' E', I L H' ∧ μ L H' = n ∧ St E' H' w ∧ RepT P N E' (resetT ds lv T L) a.tmps ∧ Ext E0 H0 w0 E' H' w ∧ a.defers = []) ?_
        (n := μ (lv.map T) H) ⟨_, H, E, h0, rfl, hs, repT_reset hT (Keeps.refl _ _), hx, hd⟩
      rintro n a w ⟨L, H', E', hI, rfl, g2, g3, g4, g5⟩
      have h1' := avc_keep (Q' := fun e T' H'' => (match e with
          | .normal => I (lv.map T') H'' ∧ μ (lv.map T') H'' < μ L H'
          | e => Q e T' H'') ∧ Keeps (dsts c h1) (resetT ds lv T L) T') c h1 (fun e T' H' hk hq => ⟨hq, hk⟩) (h2 L H' hI)
      refine wp_mono (ih h1 h1' g2 g3 g4 g5) fun e a' w' hq => ?_
      obtain ⟨T', H'', E'', ⟨k1, kk⟩, k2, k3, k4, k5⟩ := hq
      cases e with
      | normal =>
        refine ⟨_, k1.2, _, H'', E'', k1.1, rfl, k2, ?_, k4, k5⟩
        exact repT_reset k3 fun t ht => by rw [kk t fun hm => ht (hcs.2 t hm)]; exact keeps_reset hcs.1 t ht
      | _ => exact ⟨T', H'', E'', k1, k2, k3, k4, k5⟩
    | _ => exact h.elim
  | _ => cases hh <;> exact h.elim
end

/-- What may be told of a value and of memory in the place of what was told: shares handed over, blocks let go. -/
def Pub (r : AV) (H : Heap) (r' : AV) (H' : Heap) : Prop :=
  ∀ (E : Env) (w : World) (v : Value), St E H w → Rep E r v → ∃ E', E.le E' ∧ St E' H' w ∧ Rep E' r' v ∧ (∀ b, E'.F b ≠ none → E.F b ≠ none ∨ H b ≠ none) ∧ (∀ b, H' b ≠ none → H b ≠ none) ∧ (E'.S = E.S ∧ E'.I = E.I)

theorem Pub.refl (r : AV) (H : Heap) : Pub r H r H := fun E _ _ hs hr => ⟨E, Env.le_refl E, hs, hr, fun _ h => .inl h, fun _ h => h, rfl, rfl⟩

/-- The results of a function. -/
def resOne (P : Program) (T : Slots) (H : Heap) : ResultVar → Option AV
  | .tmp t => some (T t)
  | .cell a t => loadF P t (T a) H

def resA (P : Program) (T : Slots) (H : Heap) : List ResultVar → Option (List AV)
  | [] => some []
  | r :: rs => match resOne P T H r, resA P T H rs with
    | some v, some vs => some (v :: vs)
    | _, _ => none

def tupA : List AV → AV
  | [x] => x
  | xs => .tup xs

/-- A result, out of the frame. -/
def resVal (tmps : Array Value) : ResultVar → Sem Value
  | .tmp t => pure (tmps.getD t undef)
  | .cell a t => do loadVar t (← asAddr (tmps.getD a undef))

theorem results_eq (fn : Func) (tmps : Array Value) : results fn tmps = (do let vs ← fn.results.mapM (resVal tmps); pure (if h : vs.size = 1 then vs[0] else .tuple vs)) := by
  unfold results
  congr 1

theorem resA_sound {N : Nat} {E : Env} {T : Slots} {H : Heap} {w : World} {tmps : Array Value} (hs : St E H w) (hT : RepT P N E T tmps) : ∀ (rs : List ResultVar) (vs : List AV), resA P T H rs = some vs →
    ∃ us : List Value, (rs.mapM (resVal tmps)).run P w = .ok us w ∧ RepL E vs us
  | [], vs, h => by
    simp only [resA, Option.some.injEq] at h
    subst h
    exact ⟨[], rfl, RepL.nil E⟩
  | r :: rs, vs, h => by
    simp only [resA] at h
    split at h <;> try cases h
    rename_i v vs' h1 h2
    obtain ⟨us, h3, h4⟩ := resA_sound hs hT rs vs' h2
    cases r with
    | tmp t =>
      simp only [resOne, Option.some.injEq] at h1
      subst h1
      refine ⟨tmps.getD t undef :: us, ?_, .cons (hT.rep t) h4⟩
      simp only [List.mapM_cons, resVal, Sem.run_bind, Sem.run_pure, Result.andThen_ok, h3]
    | cell p t =>
      simp only [resOne] at h1
      obtain ⟨u, h5, h6⟩ := loadF_sound hs (hT.rep p) h1
      refine ⟨u :: us, ?_, .cons h6 h4⟩
      have hp : ∃ ad, tmps.getD p undef = .pointer (some ad) := by
        unfold loadF at h1
        have : ∃ cells, cellsAt? (T p) H = some cells := by
          split at h1 <;> try cases h1
          split at h1
          · split at h1 <;> try cases h1
            simp only [loadN, Option.bind_eq_some_iff] at h1
            exact ⟨_, h1.choose_spec.1⟩
          · simp only [load1, Option.bind_eq_some_iff] at h1
            exact ⟨_, h1.choose_spec.1⟩
        obtain ⟨cells, hc⟩ := this
        obtain ⟨b, off, _, _, _, hu, _⟩ := cellsAt?_spec hs (hT.rep p) hc
        exact ⟨_, hu⟩
      obtain ⟨ad, had⟩ := hp
      rw [had] at h5
      simp only [Instr.loadAt, Instr.sureAddr, Sem.run_bind, Sem.run_pure, Result.andThen_ok] at h5
      have hr : (resVal tmps (.cell p t)).run P w = .ok u w := by
        simp only [resVal, had, Sem.run_bind, asAddr, Sem.run_pure, Result.andThen_ok, h5]
      simp only [List.mapM_cons, Sem.run_bind, Sem.run_pure, Result.andThen_ok, hr, h3]

theorem results_sound {N : Nat} {E : Env} {T : Slots} {H : Heap} {w : World} {tmps : Array Value} {fn : Func} (hs : St E H w) (hT : RepT P N E T tmps) {vs : List AV} (h : resA P T H fn.results.toList = some vs) :
    ∃ u, (results fn tmps).run P w = .ok u w ∧ Rep E (tupA vs) u := by
  obtain ⟨us, h1, h2⟩ := resA_sound hs hT _ _ h
  rw [results_eq]
  have h3 : (fn.results.mapM (resVal tmps)).run P w = .ok us.toArray w := by
    rw [Array.mapM_eq_mapM_toList]
    simp only [Sem.run_map, h1, Result.andThen_ok]
  rw [Sem.run_bind, h3]
  simp only [Result.andThen_ok, Sem.run_pure]
  refine ⟨_, rfl, ?_⟩
  match vs, us, h2 with
  | [], [], _ => exact Rep.mkTup (RepL.nil E)
  | [x], [u], h2 => simpa [tupA] using h2.uncons.1
  | x :: y :: vs, u :: z :: us, h2 =>
    have : ¬ ((u :: z :: us).toArray.size = 1) := by simp
    rw [dif_neg this]
    exact Rep.mkTup (by simpa using h2)
  | [], _ :: _, h2 => simp [RepL] at h2
  | _ :: _, [], h2 => simp [RepL] at h2
  | [_], _ :: _ :: _, h2 => simp [RepL] at h2
  | _ :: _ :: _, [_], h2 => simp [RepL] at h2

def resK (P : Program) (T : Slots) (H : Heap) : List ResultVar → (List AV → Prop) → Prop
  | [], k => k []
  | r :: rs, k => letO (resOne P T H r) fun v => resK P T H rs fun vs => k (v :: vs)

theorem resK_spec {T : Slots} {H : Heap} : ∀ (rs : List ResultVar) {k : List AV → Prop}, resK P T H rs k → ∃ vs, resA P T H rs = some vs ∧ k vs
  | [], _, h => ⟨[], rfl, h⟩
  | r :: rs, k, h => by
    simp only [resK] at h
    rw [letO_iff] at h
    obtain ⟨v, h1, h2⟩ := h
    obtain ⟨vs, h3, h4⟩ := resK_spec rs h2
    exact ⟨v :: vs, by simp [resA, h1, h3], h4⟩

/-- A value is given back; memory may be handed over with it. -/
def endK (r : AV) (H : Heap) (K : AV → Heap → Prop) : Prop := ∃ r' H', Pub r H r' H' ∧ K r' H'

/-- What a function's end owes. -/
def endA (P : Program) (rs : List ResultVar) (K : AV → Heap → Prop) (T : Slots) (H : Heap) : Prop := resK P T H rs fun vs => endK (tupA vs) H K

/-- A function, by the walk of its body. -/
def fnA (P : Program) (cfg : Cfg) (hh : Hint) (fn : Func) (body : Code) (args : List AV) (H : Heap) (K : AV → Heap → Prop) : Prop :=
  avc P fn.ntmps cfg body hh (fun e => match e with
    | .normal | .ret => endA P fn.results.toList K
    | _ => fun _ _ => False) (fun t => args.getD t .any) H

/-- The same, of the function as it lies in the program. -/
def fnB (P : Program) (cfg : Cfg) (hh : Hint) (fn : Func) (args : List AV) (H : Heap) (K : AV → Heap → Prop) : Prop := match fn.body with
  | some body => fnA P cfg hh fn body args H K
  | none => False

theorem acalls {f : FuncId} {fn : Func} {body : Code} {cfg : Cfg} {hh : Hint} {args : List AV} {H : Heap} {K : AV → Heap → Prop} (hm : P.follows .mixedOrders = true) (hf : P.funcs[f]? = some fn) (hb : fn.body = some body)
    (hn : (fn.name == "runtime.NumGoroutine") = false) (hl : args.length ≤ fn.ntmps) (h : fnA P cfg hh fn body args H K) : ACalls P f args H K := by
  refine ⟨by simp [callable, hf, hb, hn], fun E w vs hgl hs hr => ?_⟩
  refine calls_of_wp hf hb ?_
  have hT : RepT P fn.ntmps E (fun t => args.getD t .any) (vs.toArray ++ Array.replicate (fn.ntmps - vs.toArray.size) undef) := by
    have hlen := hr.1
    refine ⟨by simp; omega, fun t => ?_, hgl⟩
    by_cases ht : t < args.length
    · have ht' : t < vs.length := by omega
      have := hr.2 t ht ht'
      have e1 : args.getD t .any = args[t] := by simp [ht]
      have e2 : (vs.toArray ++ Array.replicate (fn.ntmps - vs.toArray.size) undef).getD t undef = vs[t] := by
        simp [Array.getElem?_append_left, ht']
      rw [e1, e2]
      exact this
    · have e1 : args.getD t .any = .any := by simp [List.getElem?_eq_none (Nat.le_of_not_lt ht)]
      rw [e1]
      exact .any _
  refine wp_mono (avc_sound (E0 := E) (H0 := H) (w0 := w) hm body hh h hs hT (Ext.refl _ _ _) rfl) fun e a' w' hq => ?_
  obtain ⟨T', H', E', g1, g2, g3, g4, g5⟩ := hq
  have fin : endA P fn.results.toList K T' H' → a'.defers = [] ∧ ∃ v, (results fn a'.tmps).run P w' = .ok v w' ∧ ∃ r v' E'' H'', Ending.returned v = .returned v' ∧ Rep E'' r v' ∧ St E'' H'' w' ∧ Ext E H w E'' H'' w' ∧ K r H'' := by
    intro hend
    obtain ⟨us, h1, r', H'', hp, hk⟩ := resK_spec _ hend
    obtain ⟨u, h2, h3⟩ := results_sound g2 g3 h1
    obtain ⟨E'', p1, p2, p3, p4, p5, p6⟩ := hp E' w' u g2 h3
    refine ⟨g5, u, h2, r', u, E'', H'', rfl, p3, p2, ?_, hk⟩
    exact g4.trans ⟨p1, Nat.le_refl _, fun _ _ _ => rfl, fun b hb => .inl (p5 b hb), fun b hb => (p4 b hb).imp id .inl, rfl, rfl, fun b _ => ⟨congrFun p6.1 b, congrFun p6.2 b⟩⟩
  cases e with
  | normal => exact fin g1
  | ret => exact fin g1
  | _ => exact g1.elim


theorem acallsB {f : FuncId} {fn : Func} {cfg : Cfg} {hh : Hint} {args : List AV} {H : Heap} {K : AV → Heap → Prop} (hm : P.follows .mixedOrders = true) (hf : P.funcs[f]? = some fn)
    (hn : (fn.name == "runtime.NumGoroutine") = false) (hl : args.length ≤ fn.ntmps) {W : Prop} (e : fnB P cfg hh fn args H K = W) (h : W) : ACalls P f args H K := by
  rw [← e] at h
  unfold fnB at h
  split at h
  · rename_i body hb
    exact acalls hm hf hb hn hl h
  · exact h.elim

def cfgOf (own fz : List Tmp) (anc : List (Nat × List Nat)) (ga sf mp : List Tmp) : Cfg := ⟨fun t => own.contains t, fun t => fz.contains t, fun id => ((anc.find? fun p => p.1 == id).map (·.2)).getD [], fun t => ga.contains t, fun t => sf.contains t, fun t => mp.contains t⟩

end Go.Av

/- Words for contracts: handing over, lists that are read, and the steps of a text. -/
namespace Go.Av

/- the steps -/
/- not by 'rfl': a simplifier that takes it for a definition leaves the kernel too much to unfold -/
@[simp] theorem letO_some {α : Type} {x : α} {k : α → Prop} : letO (some x) k = k x := propext Iff.rfl
@[simp] theorem letO_none {α : Type} {k : α → Prop} : letO none k = False := rfl
theorem letO_ite {α : Type} {c : Prop} [Decidable c] {a b : Option α} {k : α → Prop} : letO (if c then a else b) k ↔ (c → letO a k) ∧ (¬ c → letO b k) := by
  by_cases h : c <;> simp [h]
theorem letO_of {α : Type} {o : Option α} {x : α} {k : α → Prop} (h : o = some x) (hk : k x) : letO o k := by rw [h]; exact hk
@[simp] theorem condA_bool {b want : Bool} {A B : Prop} : condA (.bool b) want A B ↔ (b = want → A) ∧ (b ≠ want → B) := Iff.rfl
theorem condA_t {c : Prop} [Decidable c] {A B : Prop} (h1 : c → A) (h2 : ¬ c → B) : condA (.bool (decide c)) true A B :=
  ⟨fun h => h1 (of_decide_eq_true h), fun h => h2 fun hc => h (decide_eq_true hc)⟩
@[simp] theorem gval_bool {b want : Bool} {o : Option AV} : gval (.bool b) want o = if b = want then o else some (.tup []) := rfl
@[simp] theorem gval_undef {want : Bool} {o : Option AV} : gval (.tup []) want o = some (.tup []) := rfl
@[simp] theorem condG_bool {b want : Bool} {A B : Prop} : condG (.bool b) want A B ↔ (b = want → A) ∧ (b ≠ want → B) := Iff.rfl
@[simp] theorem condG_undef {want : Bool} {A B : Prop} : condG (.tup []) want A B ↔ B := Iff.rfl
@[simp] theorem pickF_bool {t : Bool} {a b : AV} : pickF (.bool t) a b = some (if t then a else b) := rfl
theorem pickF_true {a b : AV} : pickF (.bool true) a b = some a := rfl
theorem pickF_false {a b : AV} : pickF (.bool false) a b = some b := rfl
section
variable {P : Program} {t : TypeId} {k : IntKind} {a b : Int}
@[simp] theorem binF_add : binF P .add t (.int k a) (.int k b) = some (.int k (k.wrap (a + b))) := by simp [binF]
@[simp] theorem binF_sub : binF P .sub t (.int k a) (.int k b) = some (.int k (k.wrap (a - b))) := by simp [binF]
@[simp] theorem binF_mul : binF P .mul t (.int k a) (.int k b) = some (.int k (k.wrap (a * b))) := by simp [binF]
@[simp] theorem binF_eql : binF P .eql t (.int k a) (.int k b) = some (.bool (a == b)) := by simp [binF]
@[simp] theorem binF_neq : binF P .neq t (.int k a) (.int k b) = some (.bool (a != b)) := by simp [binF]
@[simp] theorem binF_lss : binF P .lss t (.int k a) (.int k b) = some (.bool (a < b)) := by simp [binF]
@[simp] theorem binF_leq : binF P .leq t (.int k a) (.int k b) = some (.bool (a ≤ b)) := by simp [binF]
@[simp] theorem binF_gtr : binF P .gtr t (.int k a) (.int k b) = some (.bool (b < a)) := by simp [binF]
@[simp] theorem binF_geq : binF P .geq t (.int k a) (.int k b) = some (.bool (b ≤ a)) := by simp [binF]
end
@[simp] theorem cellsOf?_int {k : IntKind} {n : Int} : cellsOf? (.int k n) = some [.int k n] := rfl
@[simp] theorem cellsOf?_bool {b : Bool} : cellsOf? (.bool b) = some [.bool b] := rfl
@[simp] theorem cellsOf?_agg {cs : List AV} : cellsOf? (.agg cs) = some cs := rfl
@[simp] theorem cellsOf?_imm {n : Nat} {f : Bool} {cs : List AV} : cellsOf? (.imm n f cs) = some [.imm n f cs] := rfl
@[simp] theorem cellsOf?_ref {s b o n : Nat} {c : Option Nat} : cellsOf? (.ref s b o n c) = some [.ref s b o n c] := rfl
@[simp] theorem cellsOf?_nils : cellsOf? .nils = some [.nils] := rfl
@[simp] theorem cellsOf?_fn {f : FuncId} {cs : List AV} : cellsOf? (.fn f cs) = some [.fn f cs] := rfl
@[simp] theorem cellsOf?_nilf : cellsOf? .nilf = some [.nilf] := rfl
@[simp] theorem faddr_iptr {off : Nat} {cs : List AV} : faddr off (.iptr cs) = some (.iptr (cs.drop off)) := rfl
@[simp] theorem faddr_ptr {off b o : Nat} : faddr off (.ptr b o) = some (.ptr b (o + off)) := rfl
@[simp] theorem load1_iptr {cs : List AV} {H : Heap} : load1 (.iptr cs) H = cs[0]? := rfl
@[simp] theorem load1_ptr {b o : Nat} {H : Heap} : load1 (.ptr b o) H = (H b).bind fun c => c[o]? := by
  cases h : H b <;> simp [load1, cellsAt?, h]
@[simp] theorem loadN_iptr {n : Nat} {cs : List AV} {H : Heap} : loadN n (.iptr cs) H = if n ≤ cs.length then some (.agg (cs.take n)) else none := rfl
@[simp] theorem loadN_ptr {n b o : Nat} {H : Heap} : loadN n (.ptr b o) H = (H b).bind fun c => if n ≤ (c.drop o).length then some (.agg ((c.drop o).take n)) else none := by
  cases h : H b <;> simp [loadN, cellsAt?, h]
@[simp] theorem extrF_tup {cs : List AV} {i : Nat} : extrF (.tup cs) i = cs[i]? := rfl
@[simp] theorem Heap.put_same {H : Heap} {b : Nat} {cs : List AV} : (H.put b cs) b = some cs := by simp [Heap.put]
theorem Heap.put_ne {H : Heap} {b x : Nat} {cs : List AV} (h : x ≠ b) : (H.put b cs) x = H x := by simp [Heap.put, h]
@[simp] theorem Heap.put_put {H : Heap} {b : Nat} {cs ds : List AV} : (H.put b cs).put b ds = H.put b ds := by
  funext x; simp only [Heap.put]; split <;> rfl
theorem Heap.ne_of {H : Heap} {b x : Nat} {cs : List AV} (h : H b = some cs) (hx : H x = Option.none) : b ≠ x := fun e => by subst e; rw [h] at hx; cases hx

@[simp] theorem callA_fn {P : Program} {g : FuncId} {caps args : List AV} {K : AV → Heap → Prop} {H : Heap} : callA P (.fn g caps) args K H = ACalls P g (args ++ caps) H K := rfl

/- handing over -/
theorem Pub.trans {r r' r'' : AV} {H H' H'' : Heap} (h : Pub r H r' H') (h' : Pub r' H' r'' H'') : Pub r H r'' H'' := by
  intro E w v hs hr
  obtain ⟨E1, a1, a2, a3, a4, a5, a6⟩ := h E w v hs hr
  obtain ⟨E2, b1, b2, b3, b4, b5, b6⟩ := h' E1 w v a2 a3
  exact ⟨E2, Env.le_trans a1 b1, b2, b3, fun b hb => (b4 b hb).elim (a4 b) fun h => .inr (a5 b h), fun b hb => a5 b (b5 b hb), b6.1.trans a6.1, b6.2.trans a6.2⟩

theorem endK_pub {r r' : AV} {H H' : Heap} {K : AV → Heap → Prop} (hp : Pub r H r' H') (h : endK r' H' K) : endK r H K := by
  obtain ⟨r2, H2, h1, h2⟩ := h
  exact ⟨r2, H2, hp.trans h1, h2⟩
theorem endK_ret {r : AV} {H : Heap} {K : AV → Heap → Prop} (h : K r H) : endK r H K := ⟨r, H, Pub.refl r H, h⟩

theorem Heap.le_put {H H' : Heap} (h : H.le H') {b : Nat} {cs : List AV} (hb : H b = Option.none) : H.le (H'.put b cs) := fun x c e => by
  rw [Heap.put_ne (fun hx => by subst hx; rw [hb] at e; cases e)]; exact h x c e

theorem Pub.drop {r : AV} {H H' : Heap} (h : H'.le H) : Pub r H r H' := fun E _ _ hs hr =>
  ⟨E, Env.le_refl E, hs.weaken h, hr, fun _ h => .inl h, fun b hb => by
    cases hx : H' b with
    | none => exact absurd hx hb
    | some c => rw [h b c hx]; simp, rfl, rfl⟩

/-- What is weaker, of the parts too. -/
def lift (f : AV → AV) : AV → AV
  | .agg cs => .agg (cs.map f)
  | .tup cs => .tup (cs.map f)
  | x => f x

theorem lift_rep {E E' : Env} {f : AV → AV} (h : ∀ x v, Rep E x v → Rep E' (f x) v) (x : AV) (v : Value) (hr : Rep E x v) : Rep E' (lift f x) v := by
  have gl : ∀ (cells : List AV) (cs : Array Value), RepL E cells cs.toList → RepL E' (cells.map f) cs.toList := fun cells cs hl =>
    ⟨by simp [hl.1], fun i h1 h2 => by simp only [List.getElem_map]; exact h _ _ (hl.2 i (by simpa using h1) h2)⟩
  cases x with
  | agg cells =>
    obtain ⟨cs, rfl, hl⟩ := hr.cells
    exact Rep.aggL (gl _ _ hl)
  | tup cells =>
    obtain ⟨cs, rfl, hl⟩ := hr.tupL
    exact Rep.mkTup (gl _ _ hl)
  | _ => exact h _ _ hr

/-- Any slice, as one that is read and no more. -/
def weak1 : AV → AV
  | .nils => .imm 0 false []
  | .imm n _ cells => .imm n false cells
  | x => x

theorem weak1_rep {E : Env} (x : AV) (v : Value) (h : Rep E x v) : Rep E (weak1 x) v := by
  cases x with
  | nils => cases h; exact .immE _ _ _ (by simp)
  | imm n full cells =>
    cases h with
    | immE _ a cap h1 => exact .immE _ _ _ (by simp)
    | imm _ _ _ b off cap c T fr vs h1 h2 h3 h4 h5 => exact .imm _ _ _ _ _ _ c T fr vs h1 (by simp) h3 h4 h5
  | _ => exact h

theorem Pub.weak {r : AV} {H : Heap} : Pub r H (lift (lift weak1) r) H := fun E _ v hs hr =>
  ⟨E, Env.le_refl E, hs, lift_rep (fun x v h => lift_rep weak1_rep x v h) r v hr, fun _ h => .inl h, fun _ h => h, rfl, rfl⟩

/-- Slices of a block, once it is frozen. -/
def frz1 (b : Nat) (cells : List AV) : AV → AV
  | .ref sz b' off n cp => if b' = b ∧ off + n * sz ≤ cells.length then .imm n false ((cells.drop off).take (n * sz)) else .ref sz b' off n cp
  | x => x

theorem Pub.freeze {r : AV} {H : Heap} {b : Nat} {cells : List AV} (hb : H b = some cells) : Pub r H (lift (lift (frz1 b cells)) r) (H.del b) := by
  intro E w v hs hr
  cases hSb : E.S b with
  | none =>
    refine ⟨E, Env.le_refl E, hs.weaken fun x c hx => ?_, ?_, fun _ h => .inl h, fun x hx => ?_, rfl, rfl⟩
    · simp only [Heap.del] at hx
      split at hx
      · cases hx
      · exact hx
    · refine lift_rep (fun x v h => lift_rep (fun x v h => ?_) x v h) r v hr
      cases x with
      | ref sz b' off n cp =>
        simp only [frz1]
        split
        · rename_i he
          obtain ⟨he, hl⟩ := he
          subst he
          cases h with
          | ref _ _ _ _ _ cap s h1 h2 h3 h4 => rw [hSb] at h3; cases h3
        · exact h
      | _ => exact h
    · simp only [Heap.del, ne_eq] at hx
      split at hx
      · simp at hx
      · exact hx
  | some sB =>
  obtain ⟨hF, c, T, hc, hat⟩ := hs.cells hb hSb
  have hle := Env.le_addF (o := .cells c T (0, 0)) hF
  refine ⟨E.addF b (.cells c T (0, 0)), hle, ⟨fun x o hx => ?_, fun x s hx => hs.siz x s hx, fun x cs hx => ?_, hs.kd⟩, ?_, fun x hx => ?_, fun x hx => ?_, rfl, rfl⟩
  · simp only [Env.addF] at hx
    split at hx
    · rename_i he; subst he; cases hx; exact hc
    · exact hs.frz x o hx
  · simp only [Heap.del] at hx
    split at hx
    · cases hx
    · rename_i hne
      obtain ⟨h1, h2, h3, h4⟩ := hs.own x cs hx
      exact ⟨by simp only [Env.addF, hne, if_false]; exact h1, h2, fun s hS => (by obtain ⟨c', T', g1, g2⟩ := h3 s hS; exact ⟨c', T', g1, g2.mono hle⟩), fun k hI => (h4 k hI).mono hle⟩
  · refine lift_rep (fun x v h => lift_rep (fun x v h => ?_) x v h) r v hr
    cases x with
    | ref sz b' off n cp =>
      simp only [frz1]
      split
      · rename_i he
        obtain ⟨he, hl⟩ := he
        subst he
        cases h with
        | ref _ _ _ _ _ cap s h1 h2 h3 h4 =>
          have hat' := ((hat.mono hle).drop off).take (n * sz)
          rw [Nat.zero_add] at hat'
          obtain ⟨vs, g1, g2⟩ := hat'.fn
          exact .imm n false _ b' off cap c T (0, 0) vs (by simp [Env.addF]) (by simp) h2 g1 g2
      · exact h.mono hle
    | _ => exact h.mono hle
  · simp only [Env.addF, ne_eq] at hx
    split at hx
    · rename_i he; subst he; right; rw [hb]; simp
    · exact .inl hx
  · simp only [Heap.del, ne_eq] at hx
    split at hx
    · simp at hx
    · exact hx

theorem endK_freeze {r : AV} {H : Heap} {b : Nat} {cells : List AV} {K : AV → Heap → Prop} (hb : H b = some cells) (h : endK (lift (lift (frz1 b cells)) r) (H.del b) K) : endK r H K := endK_pub (Pub.freeze hb) h
theorem endK_weak {r : AV} {H : Heap} {K : AV → Heap → Prop} (h : endK (lift (lift weak1) r) H K) : endK r H K := endK_pub Pub.weak h
theorem endK_drop {r : AV} {H H' : Heap} {K : AV → Heap → Prop} (hl : H'.le H) (h : K r H') : endK r H K := endK_pub (Pub.drop hl) (endK_ret h)

/-- The same, behind a call. -/
theorem ACalls.pub {P : Program} {f : FuncId} {args : List AV} {H : Heap} {K : AV → Heap → Prop} (h : ACalls P f args H fun r H' => endK r H' K) : ACalls P f args H K := by
  refine ⟨h.1, fun E w vs hgl hs hr => (h.2 E w vs hgl hs hr).mono fun e w' hq => ?_⟩
  obtain ⟨r, v, E', H', he, h1, h2, h3, r', H'', hp, hk⟩ := hq
  obtain ⟨E'', p1, p2, p3, p4, p5, p6⟩ := hp E' w' v h2 h1
  refine ⟨r', v, E'', H'', he, p3, p2, ?_, hk⟩
  exact h3.trans ⟨p1, Nat.le_refl _, fun _ _ _ => rfl, fun b hb => .inl (p5 b hb), fun b hb => (p4 b hb).imp id .inl, rfl, rfl, fun b _ => ⟨congrFun p6.1 b, congrFun p6.2 b⟩⟩

/-- A number among a loop's variables. -/
def iv (L : List AV) (j : Nat) : Int := match L.getD j .any with
  | .int _ n => n
  | _ => 0
@[simp] theorem iv_zero {k : IntKind} {n : Int} {L : List AV} : iv (.int k n :: L) 0 = n := rfl
@[simp] theorem iv_one {k : IntKind} {n : Int} {x : AV} {L : List AV} : iv (x :: .int k n :: L) 1 = n := rfl
@[simp] theorem iv_two {k : IntKind} {n : Int} {x y : AV} {L : List AV} : iv (x :: y :: .int k n :: L) 2 = n := rfl

/- lists of numbers -/
def ints (l : List Int) : List AV := l.map (.int .i64)
@[simp] theorem ints_length (l : List Int) : (ints l).length = l.length := by simp [ints]
@[simp] theorem ints_nil : ints [] = [] := rfl
theorem ints_cons (x : Int) (l : List Int) : ints (x :: l) = .int .i64 x :: ints l := rfl
@[simp] theorem ints_append (l m : List Int) : ints (l ++ m) = ints l ++ ints m := by simp [ints]
theorem ints_take (l : List Int) (n : Nat) : (ints l).take n = ints (l.take n) := by simp [ints, List.map_take]
theorem ints_drop (l : List Int) (n : Nat) : (ints l).drop n = ints (l.drop n) := by simp [ints, List.map_drop]
@[simp] theorem ints_getElem? (l : List Int) (i : Nat) : (ints l)[i]? = (l[i]?).map (.int .i64) := by simp [ints]

/-- A list that is read and no more. -/
def sl (l : List Int) : AV := .imm l.length false (ints l)

/-- A slice of numbers, in a state of memory. -/
def Reads (H : Heap) (v : AV) (l : List Int) : Prop := match v with
  | .nils => l = []
  | .imm n _ cells => n = l.length ∧ cells = ints l
  | .ref s b off n _ => s = 1 ∧ n = l.length ∧ ∃ cells, H b = some cells ∧ off + n ≤ cells.length ∧ (cells.drop off).take n = ints l
  | _ => False

theorem Reads.sl (H : Heap) (l : List Int) : Reads H (sl l) l := ⟨rfl, rfl⟩
theorem Reads.le {H H' : Heap} (hl : H.le H') {v : AV} {l : List Int} (h : Reads H v l) : Reads H' v l := by
  cases v <;> try exact h
  obtain ⟨h0, h1, cells, h2, h3⟩ := h
  exact ⟨h0, h1, cells, hl _ _ h2, h3⟩
theorem Reads.len {H : Heap} {v : AV} {l : List Int} (h : Reads H v l) : lenA v = some (.int .i64 l.length) := by
  cases v <;> simp only [Reads] at h <;> try exact h.elim
  · subst h; rfl
  · obtain ⟨rfl, _⟩ := h; rfl
  · obtain ⟨_, rfl, _⟩ := h; rfl
theorem Reads.cells {H : Heap} {v : AV} {l : List Int} (h : Reads H v l) : cellsOf? v = some [v] := by
  cases v <;> simp only [Reads] at h <;> first | exact h.elim | rfl
theorem Reads.scalar {H : Heap} {v : AV} {l : List Int} (h : Reads H v l) : isScalar v = true := by
  cases v <;> simp only [Reads] at h <;> first | exact h.elim | rfl

/-- An element is read. -/
theorem Reads.get {H H' : Heap} (hl : H.le H') {v : AV} {l : List Int} (h : Reads H v l) {i : Int} {k : AV → Prop} (hi : 0 ≤ i) (hi2 : i < l.length)
    (hk : k (.int .i64 (l.getD i.toNat 0))) : letO (idx 1 v (.int .i64 i)) fun p => letO (load1 p H') k := by
  have e : l.getD i.toNat 0 = l[i.toNat]'(by omega) := by simp [List.getD_eq_getElem?_getD, show i.toNat < l.length by omega]
  rw [e] at hk
  cases v <;> simp only [Reads] at h <;> try exact h.elim
  · subst h; simp at hi2; omega
  · rename_i n f cells
    obtain ⟨rfl, rfl⟩ := h
    have hlt : i.toNat < l.length := by omega
    simp only [idx, hi, hi2, and_self, if_true, letO_some, load1_iptr, Nat.mul_one, List.getElem?_drop, Nat.add_zero, ints_getElem?, List.getElem?_eq_getElem hlt, Option.map_some]
    exact hk
  · rename_i s b off n cp
    obtain ⟨rfl, rfl, cells, hb, hc, ht⟩ := h
    have hlt : i.toNat < l.length := by omega
    have : cells[off + i.toNat]? = some (.int .i64 l[i.toNat]) := by
      have h2 : ((cells.drop off).take l.length)[i.toNat]? = some (.int .i64 l[i.toNat]) := by
        rw [ht, ints_getElem?, List.getElem?_eq_getElem hlt]; rfl
      rw [List.getElem?_take_of_lt hlt, List.getElem?_drop] at h2
      exact h2
    simp only [idx, hi, hi2, and_self, if_true, letO_some, load1_ptr, hl _ _ hb, Nat.mul_one, Option.bind_some, this]
    exact hk

end Go.Av

/- Lists that grow by appends. -/
namespace Go.Av

theorem Heap.put_del {H : Heap} {b : Nat} {cs : List AV} (hb : H b = Option.none) : (H.put b cs).del b = H := by
  funext x
  simp only [Heap.del, Heap.put]
  split
  · rename_i h; rw [h, hb]
  · rfl
theorem Heap.put_comm {H : Heap} {b c : Nat} {x y : List AV} (h : b ≠ c) : (H.put b x).put c y = (H.put c y).put b x := by
  funext z
  simp only [Heap.put]
  split
  · rename_i hz; subst hz; rw [if_neg (Ne.symm h)]
  · rfl
theorem Heap.le_put_self {H : Heap} {b : Nat} {cs : List AV} (hb : H b = Option.none) : H.le (H.put b cs) := Heap.le_put (Heap.le_refl H) hb
theorem Heap.put_le {H H' : Heap} (h : H.le H') {b : Nat} {cs : List AV} (hb : H' b = some cs) : (H.put b cs).le H' := fun x c e => by
  simp only [Heap.put] at e
  split at e
  · rename_i hx; subst hx; rw [hb]; exact e
  · exact h x c e
theorem Heap.put_mono {H H' : Heap} (h : H.le H') {b : Nat} {cs : List AV} : (H.put b cs).le (H'.put b cs) := fun x c e => by
  simp only [Heap.put] at e ⊢
  split at e
  · rename_i hx; rw [if_pos hx]; exact e
  · rename_i hx; rw [if_neg hx]; exact h x c e

/-- A list that has been made by appends: memory is else as 'H0' says. -/
def Grow (sz : Nat) (H0 H : Heap) (v : AV) (n : Nat) (cells : List AV) : Prop :=
  cells.length = n * sz ∧ ((v = .nils ∧ n = 0 ∧ H = H0) ∨ (v = .imm n true cells ∧ H = H0) ∨ ∃ b, H0 b = none ∧ v = .ref sz b 0 n none ∧ H = H0.put b cells)

theorem Grow.nils (sz : Nat) (H : Heap) : Grow sz H H .nils 0 [] := ⟨by simp, .inl ⟨rfl, rfl, rfl⟩⟩
theorem Grow.imm {sz : Nat} {H : Heap} {n : Nat} {cells : List AV} (h : cells.length = n * sz) : Grow sz H H (.imm n true cells) n cells := ⟨h, .inr (.inl ⟨rfl, rfl⟩)⟩
theorem Grow.ref {sz : Nat} {H : Heap} {b n : Nat} {cells : List AV} (hb : H b = none) (h : cells.length = n * sz) : Grow sz H (H.put b cells) (.ref sz b 0 n none) n cells := ⟨h, .inr (.inr ⟨b, hb, rfl, rfl⟩)⟩

theorem Grow.le {sz : Nat} {H0 H : Heap} {v : AV} {n : Nat} {cells : List AV} (h : Grow sz H0 H v n cells) : H0.le H := by
  rcases h.2 with ⟨_, _, rfl⟩ | ⟨_, rfl⟩ | ⟨b, hb, _, rfl⟩
  · exact Heap.le_refl _
  · exact Heap.le_refl _
  · exact Heap.le_put_self hb

theorem Grow.len {sz : Nat} {H0 H : Heap} {v : AV} {n : Nat} {cells : List AV} (h : Grow sz H0 H v n cells) : lenA v = some (.int .i64 n) := by
  rcases h.2 with ⟨rfl, rfl, _⟩ | ⟨rfl, _⟩ | ⟨b, hb, rfl, _⟩ <;> rfl
theorem Grow.cells {sz : Nat} {H0 H : Heap} {v : AV} {n : Nat} {cells : List AV} (h : Grow sz H0 H v n cells) : cellsOf? v = some [v] := by
  rcases h.2 with ⟨rfl, rfl, _⟩ | ⟨rfl, _⟩ | ⟨b, hb, rfl, _⟩ <;> rfl
theorem Grow.scalar {sz : Nat} {H0 H : Heap} {v : AV} {n : Nat} {cells : List AV} (h : Grow sz H0 H v n cells) : isScalar v = true := by
  rcases h.2 with ⟨rfl, rfl, _⟩ | ⟨rfl, _⟩ | ⟨b, hb, rfl, _⟩ <;> rfl

/-- Another block is written. -/
theorem Grow.put {sz : Nat} {H0 H : Heap} {v : AV} {n : Nat} {cells : List AV} (h : Grow sz H0 H v n cells) {c : Nat} {x y : List AV} (hc : H0 c = some x) : Grow sz (H0.put c y) (H.put c y) v n cells := by
  refine ⟨h.1, ?_⟩
  rcases h.2 with ⟨e, e2, rfl⟩ | ⟨e, rfl⟩ | ⟨b, hb, e, rfl⟩
  · exact .inl ⟨e, e2, rfl⟩
  · exact .inr (.inl ⟨e, rfl⟩)
  · have hne : b ≠ c := fun he => by subst he; rw [hb] at hc; cases hc
    exact .inr (.inr ⟨b, by rw [Heap.put_ne hne]; exact hb, e, Heap.put_comm hne⟩)

theorem appendA_grow {sz bytes : Nat} {H0 H : Heap} {v x : AV} {n m : Nat} {cells new : List AV} {K : AV → Heap → Prop} (h : Grow sz H0 H v n cells) (hx : srcOf sz x H = some (m, new)) (hs : new.all isScalar = true)
    (hm : new.length = m * sz) (hb : (n + m) * bytes ≤ 140737488355328) (hb2 : n + m ≤ 140737488355328) (hk : ∀ v' H', Grow sz H0 H' v' (n + m) (cells ++ new) → K v' H') : appendA sz bytes v x K H := by
  refine ⟨m, new, hx, hs, ?_⟩
  have hl : (cells ++ new).length = (n + m) * sz := by rw [List.length_append, h.1, hm, Nat.add_mul]
  have h0 : m = 0 → new = [] := fun e => by subst e; simpa using hm
  rcases h with ⟨hc, ⟨rfl, rfl, rfl⟩ | ⟨rfl, rfl⟩ | ⟨b, hb', rfl, rfl⟩⟩
  · have hcn : cells = [] := by simpa using hc
    subst hcn
    by_cases hm0 : m = 0
    · have := h0 hm0; subst hm0; subst this
      exact .inl ⟨rfl, hk _ _ (by simpa using Grow.nils sz H)⟩
    · refine .inr ⟨by omega, by simpa using hb, by simpa using hb2, fun b hb => ?_⟩
      simpa using hk _ _ (by simpa using Grow.ref (n := m) (cells := new) hb (by simpa using hm))
  · by_cases hm0 : m = 0
    · have := h0 hm0; subst hm0; subst this
      exact .inl ⟨rfl, hk _ _ (by simpa using Grow.imm hc)⟩
    · exact .inr ⟨by omega, rfl, hc, hb, hb2, fun b hb => hk _ _ (Grow.ref hb hl)⟩
  · refine ⟨rfl, rfl, cells, by simp, by omega, hb, hb2, .inl fun b' hb2 => ?_⟩
    rw [Heap.put_del hb', ← hc, List.take_length]
    refine hk _ _ (Grow.ref ?_ hl)
    rcases hb2 with rfl | h2
    · exact hb'
    · by_cases e : b' = b
      · subst e; exact hb'
      · rwa [Heap.put_ne e] at h2

/-- A slice of a block. -/
def isOwn (v : AV) : Prop := match v with
  | .ref .. => True
  | _ => False
theorem Grow.own {sz : Nat} {H0 H : Heap} {v : AV} {n : Nat} {cells : List AV} (h : Grow sz H0 H v n cells) (hr : isOwn v) : ∃ b, H0 b = none ∧ v = .ref sz b 0 n none ∧ H = H0.put b cells := by
  rcases h.2 with ⟨rfl, _⟩ | ⟨rfl, _⟩ | h
  · exact hr.elim
  · exact hr.elim
  · exact h
theorem appendA_growR {sz bytes : Nat} {H0 H : Heap} {v x : AV} {n m : Nat} {cells new : List AV} {K : AV → Heap → Prop} (h : Grow sz H0 H v n cells) (hx : srcOf sz x H = some (m, new)) (hs : new.all isScalar = true)
    (hm : new.length = m * sz) (hm0 : 0 < m) (hb : (n + m) * bytes ≤ 140737488355328) (hb2 : n + m ≤ 140737488355328) (hk : ∀ v' H', Grow sz H0 H' v' (n + m) (cells ++ new) → isOwn v' → K v' H') : appendA sz bytes v x K H := by
  refine ⟨m, new, hx, hs, ?_⟩
  have hl : (cells ++ new).length = (n + m) * sz := by rw [List.length_append, h.1, hm, Nat.add_mul]
  rcases h with ⟨hc, ⟨rfl, rfl, rfl⟩ | ⟨rfl, rfl⟩ | ⟨b, hb', rfl, rfl⟩⟩
  · have hcn : cells = [] := by simpa using hc
    subst hcn
    refine .inr ⟨by omega, by simpa using hb, by simpa using hb2, fun b hb => ?_⟩
    have hg : Grow sz H (H.put b new) (.ref sz b 0 (0 + m) none) (0 + m) ([] ++ new) := by simpa using Grow.ref (n := m) (cells := new) hb (by simpa using hm)
    simpa using hk _ _ hg trivial
  · exact .inr ⟨by omega, rfl, hc, hb, hb2, fun b hb => hk _ _ (Grow.ref hb hl) trivial⟩
  · refine ⟨rfl, rfl, cells, by simp, by omega, hb, hb2, .inl fun b' hb2 => ?_⟩
    rw [Heap.put_del hb', ← hc, List.take_length]
    refine hk _ _ (Grow.ref ?_ hl) trivial
    rcases hb2 with rfl | h2
    · exact hb'
    · by_cases e : b' = b
      · subst e; exact hb'
      · rwa [Heap.put_ne e] at h2
theorem appendA_oneR {H0 H : Heap} {v : AV} {n : Nat} {l : List Int} {x : Int} {K : AV → Heap → Prop} (h : Grow 1 H0 H v n (ints l)) (hb : n < 10000000000) (hk : ∀ v' H', Grow 1 H0 H' v' (n + 1) (ints (l ++ [x])) → isOwn v' → K v' H') :
    appendA 1 8 v (.imm 1 true [.int .i64 x]) K H := by
  refine appendA_growR h (m := 1) (new := [.int .i64 x]) (by simp [srcOf]) rfl rfl (by omega) (by omega) (by omega) fun v' H' hg hr => hk v' H' ?_ hr
  simpa [ints] using hg

/-- One number more. -/
theorem appendA_one {H0 H : Heap} {v : AV} {n : Nat} {l : List Int} {x : Int} {K : AV → Heap → Prop} (h : Grow 1 H0 H v n (ints l)) (hb : n < 10000000000) (hk : ∀ v' H', Grow 1 H0 H' v' (n + 1) (ints (l ++ [x])) → K v' H') :
    appendA 1 8 v (.imm 1 true [.int .i64 x]) K H := by
  refine appendA_grow h (m := 1) (new := [.int .i64 x]) (by simp [srcOf]) rfl rfl (by omega) (by omega) fun v' H' hg => hk v' H' ?_
  simpa [ints] using hg

theorem Grow.reads {H0 H : Heap} {v : AV} {n : Nat} {l : List Int} (h : Grow 1 H0 H v n (ints l)) : Reads H v l := by
  have hl : l.length = n := by simpa using h.1
  subst hl
  rcases h.2 with ⟨rfl, h2, rfl⟩ | ⟨rfl, rfl⟩ | ⟨b, hb, rfl, rfl⟩
  · exact List.eq_nil_of_length_eq_zero h2
  · exact ⟨rfl, rfl⟩
  · exact ⟨rfl, rfl, ints l, by simp, by simp, by rw [List.drop_zero, ← ints_length l, List.take_length]⟩

/-- A grown list is given back. -/
theorem Grow.endG {sz : Nat} {H0 H : Heap} {v : AV} {n : Nat} {cells : List AV} {K : AV → Heap → Prop} (h : Grow sz H0 H v n cells) {f : AV → AV} (hf : ∀ b, (v = .nils → lift (lift weak1) (f v) = f (.imm 0 false [])) ∧ (v = .imm n true cells → lift (lift weak1) (f v) = f (.imm n false cells)) ∧
      (v = .ref sz b 0 n none → lift (lift (frz1 b cells)) (f v) = f (.imm n false cells)))
    (hk : K (f (.imm n false cells)) H0) : endK (f v) H K := by
  rcases h with ⟨hc, ⟨rfl, rfl, rfl⟩ | ⟨rfl, rfl⟩ | ⟨b, hb', rfl, rfl⟩⟩
  · have hcn : cells = [] := by simpa using hc
    subst hcn
    refine endK_weak ?_
    rw [(hf 0).1 rfl]
    exact endK_ret hk
  · refine endK_weak ?_
    rw [(hf 0).2.1 rfl]
    exact endK_ret hk
  · refine endK_freeze (b := b) (cells := cells) (by simp) ?_
    rw [(hf b).2.2 rfl, Heap.put_del hb']
    exact endK_ret hk

theorem Grow.frz {sz : Nat} {n : Nat} {cells : List AV} (h : cells.length = n * sz) (b : Nat) : frz1 b cells (.ref sz b 0 n none) = .imm n false cells := by
  simp [frz1, h]
  rw [← h, List.take_length]

theorem Grow.end1 {sz : Nat} {H0 H : Heap} {v : AV} {n : Nat} {cells : List AV} {K : AV → Heap → Prop} (h : Grow sz H0 H v n cells) (hk : K (.imm n false cells) H0) : endK v H K :=
  h.endG (f := id) (fun b => ⟨fun e => by subst e; rfl, fun e => by subst e; rfl, fun e => by subst e; exact Grow.frz h.1 b⟩) hk
theorem Grow.end2 {sz : Nat} {H0 H : Heap} {v : AV} {n : Nat} {cells : List AV} {K : AV → Heap → Prop} {k : IntKind} {x : Int} (h : Grow sz H0 H v n cells) (hk : K (.tup [.imm n false cells, .int k x]) H0) : endK (.tup [v, .int k x]) H K :=
  h.endG (f := fun v => .tup [v, .int k x]) (fun b => ⟨fun e => by subst e; rfl, fun e => by subst e; rfl, fun e => by subst e; have := Grow.frz h.1 b; simp only [lift, List.map, this]; rfl⟩) hk

/-- Less of the rest. -/
theorem Grow.shrink {sz : Nat} {H H1 H' : Heap} {v : AV} {n : Nat} {cells : List AV} (h : Grow sz H1 H' v n cells) (hl : H.le H1) : ∃ H2 : Heap, H2.le H' ∧ Grow sz H H2 v n cells := by
  rcases h with ⟨hc, ⟨rfl, rfl, rfl⟩ | ⟨rfl, rfl⟩ | ⟨b, hb, rfl, rfl⟩⟩
  · exact ⟨H, hl, hc, .inl ⟨rfl, rfl, rfl⟩⟩
  · exact ⟨H, hl, hc, .inr (.inl ⟨rfl, rfl⟩)⟩
  · have hb' : H b = none := by
      cases hx : H b with
      | none => rfl
      | some c => rw [hl b c hx] at hb; cases hb
    exact ⟨H.put b cells, Heap.put_mono hl, hc, .inr (.inr ⟨b, hb', rfl, rfl⟩)⟩

theorem loadN_at {H : Heap} {b : Nat} {cells : List AV} (hb : H b = some cells) : loadN cells.length (.ptr b 0) H = some (.agg cells) := by
  rw [loadN_ptr, hb, Option.bind_some, List.drop_zero, if_pos (Nat.le_refl _), List.take_length]
theorem load1_at {H : Heap} {b o : Nat} {cells : List AV} {x : AV} (hb : H b = some cells) (hx : cells[o]? = some x) : load1 (.ptr b o) H = some x := by
  rw [load1_ptr, hb, Option.bind_some, hx]

/-- A slice of whatever elements, in a state of memory. -/
def ReadsC (sz : Nat) (H : Heap) (v : AV) (n : Nat) (cells : List AV) : Prop := cells.length = n * sz ∧ match v with
  | .nils => n = 0
  | .imm m _ cs => m = n ∧ cs = cells
  | .ref s b off m _ => s = sz ∧ m = n ∧ ∃ cs, H b = some cs ∧ off + n * sz ≤ cs.length ∧ (cs.drop off).take (n * sz) = cells
  | _ => False

theorem ReadsC.imm {sz : Nat} {H : Heap} {f : Bool} {n : Nat} {cells : List AV} (h : cells.length = n * sz) : ReadsC sz H (.imm n f cells) n cells := ⟨h, rfl, rfl⟩
theorem ReadsC.le {sz : Nat} {H H' : Heap} (hl : H.le H') {v : AV} {n : Nat} {cells : List AV} (h : ReadsC sz H v n cells) : ReadsC sz H' v n cells := by
  refine ⟨h.1, ?_⟩
  have h := h.2
  cases v <;> try exact h
  obtain ⟨h0, h1, cells, h2, h3⟩ := h
  exact ⟨h0, h1, cells, hl _ _ h2, h3⟩
theorem ReadsC.len {sz : Nat} {H : Heap} {v : AV} {n : Nat} {cells : List AV} (h : ReadsC sz H v n cells) : lenA v = some (.int .i64 n) := by
  have h := h.2
  cases v <;> simp only at h <;> try exact h.elim
  · subst h; rfl
  · obtain ⟨rfl, _⟩ := h; rfl
  · obtain ⟨_, rfl, _⟩ := h; rfl
theorem ReadsC.cells {sz : Nat} {H : Heap} {v : AV} {n : Nat} {cells : List AV} (h : ReadsC sz H v n cells) : cellsOf? v = some [v] := by
  have h := h.2
  cases v <;> simp only at h <;> first | exact h.elim | rfl
theorem ReadsC.scalar {sz : Nat} {H : Heap} {v : AV} {n : Nat} {cells : List AV} (h : ReadsC sz H v n cells) : isScalar v = true := by
  have h := h.2
  cases v <;> simp only at h <;> first | exact h.elim | rfl
theorem Reads.toC {H : Heap} {v : AV} {l : List Int} (h : Reads H v l) : ReadsC 1 H v l.length (ints l) := by
  refine ⟨by simp, ?_⟩
  cases v <;> simp only [Reads] at h <;> try exact h.elim
  · subst h; rfl
  · exact ⟨h.1, h.2⟩
  · obtain ⟨h0, rfl, cs, h2, h3, h4⟩ := h
    exact ⟨h0, rfl, cs, h2, by omega, by simpa using h4⟩
theorem ReadsC.toR {H : Heap} {v : AV} {n : Nat} {l : List Int} (h : ReadsC 1 H v n (ints l)) : Reads H v l := by
  obtain ⟨h0, h⟩ := h
  simp at h0
  cases v <;> simp only at h <;> try exact h.elim
  · subst h; exact List.eq_nil_of_length_eq_zero h0
  · exact ⟨by omega, h.2⟩
  · obtain ⟨h1, rfl, cs, h2, h3, h4⟩ := h
    exact ⟨h1, by omega, cs, h2, by omega, by simpa using h4⟩
theorem Grow.readsC {sz : Nat} {H0 H : Heap} {v : AV} {n : Nat} {cells : List AV} (h : Grow sz H0 H v n cells) : ReadsC sz H v n cells := by
  refine ⟨h.1, ?_⟩
  rcases h.2 with ⟨rfl, h2, rfl⟩ | ⟨rfl, rfl⟩ | ⟨b, hb, rfl, rfl⟩
  · exact h2
  · exact ⟨rfl, rfl⟩
  · exact ⟨rfl, rfl, cells, by simp, by simp [h.1], by rw [List.drop_zero, ← h.1, List.take_length]⟩

theorem ReadsC.bound {sz n : Nat} {cells : List AV} {i : Int} (h : cells.length = n * sz) (hi : 0 ≤ i) (hi2 : i < n) : i.toNat * sz + sz ≤ cells.length := by
  rw [h]
  have : i.toNat + 1 ≤ n := by omega
  have := Nat.mul_le_mul_right sz this
  rw [Nat.add_mul] at this
  omega

/-- An element is read. -/
theorem ReadsC.getN {sz : Nat} {H H' : Heap} (hl : H.le H') {v : AV} {n : Nat} {cells : List AV} (h : ReadsC sz H v n cells) {i : Int} {k : AV → Prop} (hi : 0 ≤ i) (hi2 : i < n)
    (hk : k (.agg ((cells.drop (i.toNat * sz)).take sz))) : letO (idx sz v (.int .i64 i)) fun p => letO (loadN sz p H') k := by
  have hb := ReadsC.bound h.1 hi hi2
  obtain ⟨h0, h⟩ := h
  cases v <;> simp only at h <;> try exact h.elim
  · subst h; omega
  · obtain ⟨rfl, rfl⟩ := h
    simp only [idx, hi, hi2, and_self, if_true, letO_some, loadN_iptr, List.length_drop]
    rw [if_pos (by omega)]
    exact hk
  · rename_i s b off m cp
    obtain ⟨rfl, rfl, cs, h1, h2, h3⟩ := h
    have e : ((cs.drop (off + i.toNat * s)).take s) = (cells.drop (i.toNat * s)).take s := by
      have hlt : i.toNat * s + s ≤ m * s := by rw [← h0]; exact hb
      rw [← h3, List.drop_take, List.take_take, List.drop_drop, Nat.min_eq_left (by omega)]
    have hlt : i.toNat * s + s ≤ m * s := by rw [← h0]; exact hb
    simp only [idx, hi, hi2, and_self, if_true, letO_some, loadN_ptr, hl _ _ h1, Option.bind_some, List.length_drop]
    rw [if_pos (by omega), e]
    exact hk

/-- The cells of one element. -/
theorem rows_len {α : Type} {f : α → List AV} {sz : Nat} (hf : ∀ x, (f x).length = sz) (l : List α) : (l.flatMap f).length = l.length * sz := by
  induction l with
  | nil => simp
  | cons a l ih => simp only [List.flatMap_cons, List.length_append, ih, hf, List.length_cons, Nat.add_mul]; omega
theorem rows_get {α : Type} {f : α → List AV} {sz : Nat} (hf : ∀ x, (f x).length = sz) {l : List α} {i : Nat} {x : α} (h : l[i]? = some x) : ((l.flatMap f).drop (i * sz)).take sz = f x := by
  induction l generalizing i with
  | nil => simp at h
  | cons a l ih =>
    cases i with
    | zero =>
      simp at h; subst h
      simp only [List.flatMap_cons, Nat.zero_mul, List.drop_zero]
      rw [List.take_append_of_le_length (by simp [hf]), ← hf a, List.take_length]
    | succ i =>
      simp at h
      have e : (i + 1) * sz = (f a).length + i * sz := by rw [hf, Nat.add_mul]; omega
      rw [List.flatMap_cons, e, List.drop_length_add_append]
      exact ih h

/- what is written out -/
def buildPlan (P : Program) (t : TypeId) : Option (List AV × List (Nat × Nat)) := match zeroF P t, P.underlying t with
  | some z, some (.struct fs) => (sizesOf P fs.toList).map fun p => (z, p)
  | _, _ => none
theorem buildF_of {P : Program} {t : TypeId} {z : List AV} {places : List (Nat × Nat)} (h : buildPlan P t = some (z, places)) {parts : List (Nat × AV)} : buildF P t parts = (fillA (places[·]?) z parts).map .agg := by
  unfold buildPlan at h
  unfold buildF
  split at h <;> try cases h
  rename_i z' fs h1 h2
  rw [h1, h2]
  simp only [Option.map_eq_some_iff] at h
  obtain ⟨p, h3, h4⟩ := h
  cases h4
  simp only [h3]

def arrayPlan (P : Program) (t : TypeId) : Option (List AV × Nat) := match zeroF P t, P.underlying t with
  | some z, some (.array _ e) => (P.info? e).map fun i => (z, i.size)
  | _, _ => none
theorem arrayF_of {P : Program} {t : TypeId} {z : List AV} {sz : Nat} (h : arrayPlan P t = some (z, sz)) {parts : List (Nat × AV)} : buildF P t parts = (fillA (fun i => some (i * sz, sz)) z parts).map .agg := by
  unfold arrayPlan at h
  unfold buildF
  split at h <;> try cases h
  rename_i z' n e h1 h2
  rw [h1, h2]
  simp only [Option.map_eq_some_iff] at h
  obtain ⟨i, h3, h4⟩ := h
  cases h4
  simp only [h3]

def literalPlan (P : Program) (t : TypeId) : Option (List AV × Nat) := match P.underlying t with
  | some (.slice e) => match P.info? e, zeroF P e with
    | some i, some z => some (z, i.size)
    | _, _ => none
  | _ => none
theorem literalF_of {P : Program} {t : TypeId} {z : List AV} {sz len : Nat} (h : literalPlan P t = some (z, sz)) {parts : List (Nat × AV)} (hl : len * sz ≤ 2 ^ 24) (hz : z.length ≠ 0) : literalF P t len parts = fillA (fun i => some (i * sz, sz)) (rowOf z (len * sz)) parts := by
  unfold literalPlan at h
  unfold literalF
  split at h <;> try cases h
  rename_i e h1
  rw [h1]
  split at h <;> try cases h
  rename_i i z' h2 h3
  simp only [h2, h3]
  rw [if_neg (by simp only [not_or, Nat.not_lt]; exact ⟨hl, hz⟩)]

theorem storeA_of {size b off : Nat} {x : AV} {cells cs : List AV} {K : Heap → Prop} {H : Heap} (hb : H b = some cells) (hx : cellsOf? x = some cs) (hs : cs.all isScalar = true) (hl : cs.length = size) (ho : off + cs.length ≤ cells.length)
    (hk : K (H.put b (splice cells off cs))) : storeA size (.ptr b off) x K H := ⟨cells, cs, hb, hx, hs, hl, ho, hk⟩
theorem ite_t {c : Prop} [Decidable c] {α : Type} {a b : α} (h : c) : (if c then a else b) = a := if_pos h

end Go.Av

/- Tables in blocks of one's own. -/
namespace Go.Av
theorem fresh_of {H H' : Heap} (h : H.le H') {b : Nat} (hb : H' b = none) : H b = none := by
  cases hx : H b with
  | none => rfl
  | some c => rw [h b c hx] at hb; cases hb

theorem alloc_store {n : Nat} {z cs : List AV} {x : AV} {k : AV → Heap → Prop} {H : Heap} (hx : cellsOf? x = some cs) (hs : cs.all isScalar = true) (hl : cs.length = n) (hz : z.length = n)
    (hk : ∀ b, H b = none → k (.ptr b 0) (H.put b cs)) : allocA z (fun t H3 => storeA n t x (fun H4 => k t H4) H3) H := by
  intro b hb
  refine storeA_of Heap.put_same hx hs hl (by simp [hl, hz]) ?_
  have : splice z 0 cs = cs := by simp [splice, hl, hz]
  rw [Heap.put_put, this]
  exact hk b hb

theorem idx_ref {sz b off n : Nat} {c : Option Nat} {k : IntKind} {i : Nat} (h : i < n) : idx sz (.ref sz b off n c) (.int k (i : Int)) = some (.ptr b (off + i * sz)) := by
  simp [idx]; omega
theorem idx_imm {sz n : Nat} {f : Bool} {cells : List AV} {k : IntKind} {i : Nat} (h : i < n) : idx sz (.imm n f cells) (.int k (i : Int)) = some (.iptr (cells.drop (i * sz))) := by
  simp [idx]; omega

theorem rows_at {α : Type} {f : α → List AV} {sz : Nat} (hf : ∀ x, (f x).length = sz) {l : List α} {i k : Nat} {x : α} (h : l[i]? = some x) (hk : k < sz) : (l.flatMap f)[i * sz + k]? = (f x)[k]? := by
  rw [← rows_get hf h, List.getElem?_take_of_lt hk, List.getElem?_drop]
theorem rows_set {α : Type} {f : α → List AV} {sz : Nat} (hf : ∀ x, (f x).length = sz) {l : List α} {i : Nat} {y : α} (h : i < l.length) : splice (l.flatMap f) (i * sz) (f y) = (l.set i y).flatMap f := by
  induction l generalizing i with
  | nil => simp at h
  | cons a l ih =>
    cases i with
    | zero =>
      simp only [splice, List.flatMap_cons, Nat.zero_mul, List.take_zero, List.nil_append, Nat.zero_add, List.set_cons_zero]
      rw [hf y, ← hf a, List.drop_left]
    | succ i =>
      simp at h
      have := ih h
      have e : (i + 1) * sz = (f a).length + i * sz := by rw [hf, Nat.add_mul]; omega
      simp only [splice, List.flatMap_cons, List.set_cons_succ] at this ⊢
      rw [e, List.take_length_add_append, Nat.add_assoc, List.drop_length_add_append, List.append_assoc, List.append_assoc, ← this]
      simp

/-- A table is stored to. -/
theorem store_row {α : Type} {f : α → List AV} {sz b i : Nat} (hf : ∀ x, (f x).length = sz) {l : List α} {x : AV} {y : α} {K : Heap → Prop} {H : Heap} (hb : H b = some (l.flatMap f)) (hi : i < l.length) (hx : cellsOf? x = some (f y)) (hs : (f y).all isScalar = true)
    (hk : K (H.put b ((l.set i y).flatMap f))) : storeA sz (.ptr b (i * sz)) x K H := by
  refine storeA_of hb hx hs (hf y) ?_ ?_
  · rw [rows_len hf, hf]
    have := Nat.mul_le_mul_right sz (show i + 1 ≤ l.length from hi)
    rw [Nat.add_mul] at this
    omega
  · rw [rows_set hf hi]; exact hk

theorem rowOf_eq {α : Type} {f : α → List AV} {sz : Nat} {y : α} (hz : (f y).length = sz) (n : Nat) : rowOf (f y) (n * sz) = (List.replicate n y).flatMap f := by
  induction n with
  | zero => simp [rowOf]
  | succ n ih =>
    rw [List.replicate_succ', List.flatMap_append, ← ih, Nat.add_mul, Nat.one_mul]
    simp only [rowOf, List.range_add, List.map_append, List.map_map, hz]
    congr 1
    simp only [List.flatMap_cons, List.flatMap_nil, List.append_nil]
    apply List.ext_getElem?
    intro i
    simp only [List.getElem?_map]
    by_cases hi : i < sz
    · rw [List.getElem?_range hi]
      simp [Nat.mod_eq_of_lt hi, hz, hi]
    · rw [List.getElem?_eq_none (by simp; omega), List.getElem?_eq_none (by omega)]
      rfl
end Go.Av

/- What is handed to a call may be handed over as less. -/
namespace Go.Av
theorem ACalls.pubArgs {P : Program} {f : FuncId} {args args' : List AV} {H H' : Heap} {K : AV → Heap → Prop} (hp : Pub (.tup args) H (.tup args') H') (h : ACalls P f args' H' K) : ACalls P f args H K := by
  refine ⟨h.1, fun E w vs hgl hs hr => ?_⟩
  have hr' : Rep E (.tup args) (.tuple vs.toArray) := Rep.mkTup (by simpa using hr)
  obtain ⟨E1, p1, p2, p3, p4, p5, p6⟩ := hp E w _ hs hr'
  obtain ⟨cs, he, hl⟩ := p3.tupL
  have : cs = vs.toArray := by cases he; rfl
  subst this
  refine (h.2 E1 w vs (hgl.mono p1) p2 (by simpa using hl)).mono fun e w' hq => ?_
  obtain ⟨r, v, E', H'', he, h1, h2, h3, hk⟩ := hq
  refine ⟨r, v, E', H'', he, h1, h2, ?_, hk⟩
  refine Ext.trans ⟨p1, Nat.le_refl _, fun _ _ _ => rfl, fun b hb => .inl (p5 b hb), fun b hb => (p4 b hb).imp id .inl, rfl, rfl, fun b _ => ⟨congrFun p6.1 b, congrFun p6.2 b⟩⟩ h3
end Go.Av

/- All that is one's own, given back at once. -/
namespace Go.Av
/-- Slices of blocks that are given back, to a depth. -/
def conv (H H' : Heap) : Nat → AV → AV
  | 0, x => x
  | d + 1, x => match x with
    | .nils => .imm 0 false []
    | .imm n _ cells => .imm n false (cells.map (conv H H' d))
    | .ref s b off n cp => match H b, H' b with
      | none, some cells => if off + n * s ≤ cells.length then .imm n false (((cells.drop off).take (n * s)).map (conv H H' d)) else .ref s b off n cp
      | _, _ => .ref s b off n cp
    | .agg cs => .agg (cs.map (conv H H' d))
    | .tup cs => .tup (cs.map (conv H H' d))
    | x => x

theorem conv_rep {E E' : Env} {H H' : Heap} {w : World} (he : E.le E') (hs : St E H' w) (hF : ∀ b, H b = none → H' b ≠ none → E'.F b = w.heap[b]?) : ∀ (d : Nat) (x : AV) (v : Value), Rep E x v → Rep E' (conv H H' d x) v
  | 0, x, v, h => h.mono he
  | d + 1, x, v, h => by
    have ih := conv_rep he hs hF d
    have gl : ∀ (cells : List AV) (cs : Array Value), RepL E cells cs.toList → RepL E' (cells.map (conv H H' d)) cs.toList := fun cells cs hl =>
      ⟨by simp [hl.1], fun i h1 h2 => by simp only [List.getElem_map]; exact ih _ _ (hl.2 i (by simpa using h1) h2)⟩
    cases x with
    | nils => cases h; exact .immE _ _ _ (by simp)
    | imm n full cells =>
      unfold conv
      cases h with
      | immE _ a cap h1 => exact .immE _ _ _ (by simp)
      | imm _ _ _ b off cap c T fr vs h1 h2 h3 h4 h5 =>
        refine .imm _ _ _ _ _ _ c T fr vs (he.1 _ _ h1) (by simp) h3 (fun i hi => h4 i (by simpa using hi)) (fun i hi => ?_)
        simp only [List.getElem_map]
        exact ih _ _ (h5 i (by simpa using hi))
    | ref s b off n cp =>
      unfold conv
      simp only
      split
      · rename_i cells hb hb'
        split
        · rename_i hl
          cases h with
          | ref _ _ _ _ _ cap sz h1 h2 h3 h4 =>
            obtain ⟨_, c, T, hc, hat⟩ := hs.cells hb' h3
            have hat' := (hat.drop off).take (n * s)
            rw [Nat.zero_add] at hat'
            obtain ⟨vs, g1, g2⟩ := hat'.fn
            refine .imm n false _ b off cap c T (0, 0) vs (by rw [hF b hb (by rw [hb']; simp)]; exact hc) (by simp) h2 (fun i hi => g1 i (by simpa using hi)) (fun i hi => ?_)
            simp only [List.getElem_map]
            exact ih _ _ (g2 i (by simpa using hi))
        · exact h.mono he
      · exact h.mono he
    | agg cells =>
      obtain ⟨cs, rfl, hl⟩ := h.cells
      exact Rep.aggL (gl _ _ hl)
    | tup cells =>
      obtain ⟨cs, rfl, hl⟩ := h.tupL
      exact Rep.mkTup (gl _ _ hl)
    | _ => exact h.mono he

theorem Pub.all {r : AV} {H H' : Heap} (hle : H.le H') (d : Nat) : Pub r H' (conv H H' d r) H := by
  intro E w v hs hr
  let E' : Env := ⟨fun b => match H b, H' b with
    | none, some _ => w.heap[b]?
    | _, _ => E.F b, E.S, E.I⟩
  have hF : ∀ b, H b = none → H' b ≠ none → E'.F b = w.heap[b]? := fun b h1 h2 => by
    cases hx : H' b with
    | none => exact absurd hx h2
    | some c => simp only [E', h1, hx]
  have he : E.le E' := ⟨fun b o hb => by
    simp only [E']
    split
    · rename_i c h1 h2
      have := (hs.own b c h2).1
      rw [this] at hb; cases hb
    · exact hb, fun _ _ h => h, fun _ _ h => h⟩
  refine ⟨E', he, ⟨fun b o hb => ?_, fun b s hb => hs.siz b s hb, fun b cs hb => ?_, hs.kd⟩, conv_rep he hs hF d r v hr, fun b hb => ?_, fun b hb => ?_, rfl, rfl⟩
  · simp only [E'] at hb
    split at hb
    · exact hb
    · exact hs.frz b o hb
  · obtain ⟨h1, h2, h3, h4⟩ := hs.own b cs (hle b cs hb)
    refine ⟨?_, h2, fun s hS => (by obtain ⟨c, T, g1, g2⟩ := h3 s hS; exact ⟨c, T, g1, g2.mono he⟩), fun k hI => (h4 k hI).mono he⟩
    simp only [E', hb]
    exact h1
  · simp only [E', ne_eq] at hb
    split at hb
    · rename_i c h1 h2; right; rw [h2]; simp
    · exact .inl hb
  · cases hx : H b with
    | none => exact absurd hx hb
    | some c => rw [hle b c hx]; simp
theorem endK_all {r : AV} {H H' : Heap} {K : AV → Heap → Prop} (hle : H.le H') (d : Nat) (h : K (conv H H' d r) H) : endK r H' K := endK_pub (Pub.all hle d) (endK_ret h)
theorem conv_int {H H' : Heap} : ∀ (d : Nat) {k : IntKind} {n : Int}, conv H H' d (.int k n) = .int k n
  | 0, _, _ => rfl
  | _ + 1, _, _ => rfl
theorem conv_ints {H H' : Heap} (d : Nat) (l : List Int) : (ints l).map (conv H H' d) = ints l := by
  simp only [ints, List.map_map]
  exact List.map_congr_left fun x _ => conv_int d
theorem conv_sl {H H' : Heap} (d : Nat) (l : List Int) : conv H H' (d + 1) (sl l) = sl l := by
  simp only [conv, sl, conv_ints]
theorem conv_own {H H' : Heap} {b : Nat} {l : List Int} (h1 : H b = none) (h2 : H' b = some (ints l)) (d : Nat) {n : Nat} (hn : n = l.length) : conv H H' (d + 1) (.ref 1 b 0 n none) = sl l := by
  subst hn
  simp only [conv, h1, h2]
  rw [if_pos (by simp), List.drop_zero, List.take_of_length_le (by simp), conv_ints]
  rfl
theorem conv_out {H H' : Heap} {b : Nat} {cells : List AV} (h1 : H b = none) (h2 : H' b = some cells) (d : Nat) {n : Nat} (hn : n = cells.length) : conv H H' (d + 1) (.ref 1 b 0 n none) = .imm n false (cells.map (conv H H' d)) := by
  subst hn
  simp only [conv, h1, h2]
  rw [if_pos (by simp), List.drop_zero, List.take_of_length_le (by simp)]
end Go.Av

/- From a walk to a row of a law. -/
namespace Go.Av
open Go.ChangeShapes Go.WideShapes Go.ChangeAt Go.RowKit

theorem Ext.kept {E E' : Env} {H' : Heap} {w w' : World} (h : Ext E Heap.none w E' H' w') (may : MemPlace → Prop) : w.keptBut w' may := by
  refine ⟨h.os, h.output, fun i hi => ?_⟩
  rw [h.frame i hi rfl]
  cases hx : w.heap[i]? with
  | none => simp
  | some o => cases o <;> simp
end Go.Av

/- The arguments of a law: what they stand for, and that they read behind the call as before. -/
set_option linter.unusedVariables false
namespace Go.Av
open Go.ChangeShapes Go.WideShapes Go.ChangeAt Go.RowKit

section
variable {H : Type} {enc : TypeId × Value → H} {P : Program}

/-- All memory that is there, frozen. -/
def E0 (W : World) : Env := ⟨fun b => W.heap[b]?, fun _ => none, fun _ => none⟩
theorem st0 (W : World) : St (E0 W) Heap.none W := ⟨(fun b o h => h), (fun b s h => nomatch h), (fun b c h => nomatch h), (fun b k h => nomatch h)⟩

theorem Ext.same {E E' : Env} {H' : Heap} {W W' : World} (h : Ext E Heap.none W E' H' W') {p : MemPlace} (hp : p.block < W.heap.size) : W.sameAt W' p := by
  cases p with
  | cell b o => exact World.cell?_of_block (w := W) (h.frame b hp rfl)
  | map b => exact h.frame b hp rfl

/-- All arguments read behind the call as before. -/
theorem Ext.trodAll {E E' : Env} {H' : Heap} {W W' : World} (h : Ext E Heap.none W E' H' W') (hl : laidOutB P = true) :
    ∀ {ts : List TypeId} {vs : List Value} {ds : List (DataW H)} {ps : List MemPlace}, (ts.all fun t => P.readableRec t && decide (t < P.types.size)) = true →
      DataW.TrodAll enc P W 0 (fun _ => true) true ts vs ds ps → (∀ x ∈ ps, x.block < W.heap.size) → DataW.TrodAll enc P W' 0 (fun b => decide (b < W.heap.size)) true ts vs ds ps
  | [], _, _, _, _, ht, _ => by
    obtain ⟨rfl, rfl, rfl⟩ := trodAll_nil ht
    exact rfl
  | t :: ts, _, _, _, hr, ht, hlt => by
    obtain ⟨v, vs', d, ds', p, q, rfl, rfl, rfl, h1, h2⟩ := trodAll_cons ht
    simp only [List.all_cons, Bool.and_eq_true, decide_eq_true_eq] at hr
    exact ⟨p, q, WideElems.Trod_stays hl hr.1.1 hr.1.2 h1 (fun x hx => h.same (hlt x (by simp [hx]))) (fun x hx => by simpa using hlt x (by simp [hx])),
      Ext.trodAll h hl hr.2 h2 (fun x hx => hlt x (by simp [hx])), rfl⟩

/-- A slice of numbers. -/
theorem rep_slice {W : World} {r : Reach} {base t e fuel : Nat} {v : Value} {x : DataW H × List MemPlace} (ht : P.underlying t = some (.slice e)) (he : P.underlying e = some (.int .i64)) (hc : P.cellsOf e = 1)
    (hok : Cell.okWide P W r base t v) (h : DataW.trod enc P W 0 (fun _ => true) true fuel t [v] = some x) : ∃ l : List Int, Rep (E0 W) (sl l) v ∧ l.length ≤ maxLen ∧ ∀ n ∈ l, (-9223372036854775808 ≤ n ∧ n ≤ 9223372036854775807) := by
  rcases open_ints ht he hc h with ⟨hv, _⟩ | ⟨a, len, cap, zs, hv, _, hlen, hm, hz, _, hcell, hwf⟩
  · cases hv
    exact ⟨[], .immE _ _ _ (by simp), by simp, by simp⟩
  · cases hv
    simp only [if_true] at hz
    obtain ⟨b, off, spot⟩ := a
    have hsp : spot = none := by
      unfold Cell.okWide Cell.ok at hok
      rw [ht] at hok
      exact hok.2.2.2.1
    subst hsp
    have hwf' : ∀ n ∈ zs.take len, (-9223372036854775808 ≤ n ∧ n ≤ 9223372036854775807) := by
      intro n hn
      have := hwf n (List.mem_of_mem_take hn)
      simp only [Lit.wf, Bool.and_eq_true, decide_eq_true_eq] at this
      exact this
    have hll : (zs.take len).length = len := by simp; omega
    refine ⟨zs.take len, ?_, by omega, hwf'⟩
    by_cases h0 : len = 0
    · subst h0
      simp only [List.take_zero]
      exact .immE _ _ _ (by simp)
    · have hcell' : ∀ i, i < zs.length → W.cell? ⟨b, off + i, none⟩ = some (.int .i64 (zs.getD i 0)) := fun i hi => by
        have := hcell i hi
        by_cases h0 : i = 0
        · subst h0; simpa [Addr.add] using this
        · simpa [Addr.add, h0] using this
      have h1 := hcell' 0 (by omega)
      unfold World.cell? at h1
      simp only at h1
      cases hb : W.heap[b]? with
      | none => rw [hb] at h1; cases h1
      | some o =>
        cases o with
        | cells c T fr =>
          have hrow : ∀ i, i < zs.length → c[off + i]? = some (.int .i64 (zs.getD i 0)) := fun i hi => by
            have := hcell' i hi
            unfold World.cell? at this
            simp only [hb, Option.isSome_none, Bool.false_eq_true, if_false] at this
            exact this
          have : sl (zs.take len) = .imm len false (ints (zs.take len)) := by rw [sl, hll]
          rw [this]
          refine .imm _ _ _ b off cap c T fr (fun i => .int .i64 (zs.getD i 0)) hb (by simp) hlen (fun i hi => hrow i (by simp at hi; omega)) (fun i hi => ?_)
          have hi' : i < len := by simp at hi; omega
          have : (ints (zs.take len))[i] = .int .i64 (zs.getD i 0) := by
            simp [ints, List.getD_eq_getElem?_getD, show i < zs.length by omega]
          rw [this]
          exact .int _ _
        | _ => rw [hb] at h1; cases h1

def numOfV : Option Value → Nat
  | some (.int _ m) => m.toNat
  | _ => 0
/-- Numbers of one kind, flat. -/
theorem rep_row {W : World} {r : Reach} {base t n : Nat} {u : TypeId} {v : Value} {E : Env} (ht : (∃ fs, P.underlying t = some (.struct fs)) ∨ ∃ m e, P.underlying t = some (.array m e)) (hts : P.cellTypes P.depth t = some (List.replicate n u)) (hn : P.cellsOf t = n)
    (hu : P.underlying u = some (.int .u8)) (hok : Value.okWide P W r base t v) : ∃ l : List Nat, l.length = n ∧ (∀ x ∈ l, x < 256) ∧ Rep E (.agg (l.map fun (x : Nat) => .int .u8 (x : Int))) v := by
  have hok' : ∃ cs, v = .agg cs ∧ cs.size = P.cellsOf t ∧ Row.okWide P W r base t cs := by
    unfold Value.okWide at hok
    rcases ht with ⟨fs, ht⟩ | ⟨m, e, ht⟩ <;> rw [ht] at hok <;> exact hok
  obtain ⟨cs, rfl, hsz, ts, h1, _, h3⟩ := hok'
  rw [hts] at h1
  cases h1
  rw [hn] at hsz
  have hcell : ∀ i, i < n → ∃ x : Nat, cs[i]? = some (.int .u8 (x : Int)) ∧ x < 256 := by
    intro i hi
    have hx : cs[i]? = some cs[i] := by simp [hsz, hi]
    obtain ⟨u', hu', hc⟩ := h3 i _ hx
    have : u' = u := by
      have : i % (List.replicate n u).length < n := by simp; exact Nat.mod_lt _ (by omega)
      rw [List.getElem?_replicate, if_pos this] at hu'
      cases hu'; rfl
    subst this
    unfold Cell.okWide at hc
    rw [hu] at hc
    unfold Cell.ok at hc
    rw [hu] at hc
    generalize cs[i] = y at *
    cases y <;> simp only at hc <;> try exact hc.elim
    rename_i k m
    obtain ⟨rfl, h4⟩ := hc
    have h5 : IntKind.u8.min = 0 := rfl
    have h6 : IntKind.u8.max = 255 := rfl
    unfold IntKind.has at h4
    rw [h5, h6] at h4
    exact ⟨m.toNat, by rw [hx, Int.toNat_of_nonneg h4.1], by omega⟩
  let l : List Nat := (List.range n).map fun i => numOfV cs[i]?
  have hl : ∀ i (hi : i < n), cs[i]? = some (.int .u8 ((l[i]'(by simp [l]; exact hi) : Nat) : Int)) ∧ l[i]'(by simp [l]; exact hi) < 256 := by
    intro i hi
    obtain ⟨x, h1, h2⟩ := hcell i hi
    have : l[i]'(by simp [l]; exact hi) = x := by simp [l, h1, numOfV]
    rw [this]
    exact ⟨h1, h2⟩
  have hll : l.length = n := by simp [l]
  refine ⟨l, hll, fun x hx => ?_, .agg _ cs (fun i => cs[i]?.getD default) (by simp [hsz, hll]) (fun i hi => ?_) (fun i hi => ?_)⟩
  · obtain ⟨i, hi, rfl⟩ := List.mem_iff_getElem.1 hx
    exact (hl i (by omega)).2
  · have hi' : i < n := by simp [hll] at hi; exact hi
    rw [(hl i hi').1]; rfl
  · have hi' : i < n := by simp [hll] at hi; exact hi
    simp only [List.getElem_map]
    rw [(hl i hi').1]
    exact .int _ _
theorem rep_num {W : World} {r : Reach} {base t : Nat} {k : IntKind} {v : Value} (ht : P.underlying t = some (.int k)) (hok : Value.okWide P W r base t v) : ∃ n : Int, v = .int k n ∧ k.min ≤ n ∧ n ≤ k.max := by
  unfold Value.okWide at hok
  rw [ht] at hok
  unfold Cell.okWide at hok
  rw [ht] at hok
  unfold Cell.ok at hok
  rw [ht] at hok
  cases v <;> simp only at hok <;> try exact hok.elim
  obtain ⟨rfl, h⟩ := hok
  exact ⟨_, rfl, h⟩
theorem rep_u8 {W : World} {r : Reach} {base t : Nat} {v : Value} (ht : P.underlying t = some (.int .u8)) (hok : Value.okWide P W r base t v) : ∃ n : Nat, v = .int .u8 (n : Int) ∧ n < 256 := by
  obtain ⟨n, rfl, h1, h2⟩ := rep_num ht hok
  have h5 : IntKind.u8.min = 0 := rfl
  have h6 : IntKind.u8.max = 255 := rfl
  rw [h5] at h1
  rw [h6] at h2
  exact ⟨n.toNat, by rw [Int.toNat_of_nonneg h1], by omega⟩
theorem rep_u16 {W : World} {r : Reach} {base t : Nat} {v : Value} (ht : P.underlying t = some (.int .u16)) (hok : Value.okWide P W r base t v) : ∃ n : Nat, v = .int .u16 (n : Int) ∧ n < 65536 := by
  obtain ⟨n, rfl, h1, h2⟩ := rep_num ht hok
  have h5 : IntKind.u16.min = 0 := rfl
  have h6 : IntKind.u16.max = 65535 := rfl
  rw [h5] at h1
  rw [h6] at h2
  exact ⟨n.toNat, by rw [Int.toNat_of_nonneg h1], by omega⟩

/-- A slice, as an argument. -/
theorem rep_list {W : World} {base t e : Nat} {v : Value} {d : DataW H} {ps : List MemPlace} (ht : P.underlying t = some (.slice e)) (he : P.underlying e = some (.int .i64)) (hc : P.cellsOf e = 1)
    (hok : Value.okWide P W .any base t v) (h : DataW.Trod enc P W 0 (fun _ => true) true t v d ps) : ∃ l : List Int, Rep (E0 W) (sl l) v ∧ l.length ≤ maxLen ∧ ∀ n ∈ l, (-9223372036854775808 ≤ n ∧ n ≤ 9223372036854775807) := by
  obtain ⟨a, len, cap, rfl⟩ := okWide_slice ht hok
  obtain ⟨fuel, hf⟩ := h
  unfold Value.okWide at hok
  rw [ht] at hok
  exact rep_slice ht he hc hok hf

/-- A text, as an argument. -/
theorem rep_text {W : World} {base t t0 t1 e : Nat} {f0 f1 : Field} {v : Value} {d : DataW H} {ps : List MemPlace} (ht : P.underlying t = some (.struct #[f0, f1])) (hts : P.cellTypes P.depth t = some [t0, t1]) (hn : P.cellsOf t = 2)
    (h0 : P.underlying t0 = some (.int .i64)) (h1 : P.underlying t1 = some (.slice e)) (he : P.underlying e = some (.int .i64)) (hc : P.cellsOf e = 1) (hc1 : P.cellsOf t1 = 1) (hf1 : f1.type = t1) (ho1 : f1.offset = 1)
    (hok : Value.okWide P W .any base t v) (h : DataW.Trod enc P W 0 (fun _ => true) true t v d ps) :
    ∃ (w : Int) (l : List Int), Rep (E0 W) (.agg [.int .i64 w, sl l]) v ∧ (-9223372036854775808 ≤ w ∧ w ≤ 9223372036854775807) ∧ l.length ≤ maxLen ∧ ∀ n ∈ l, (-9223372036854775808 ≤ n ∧ n ≤ 9223372036854775807) := by
  obtain ⟨fuel, hf⟩ := h
  unfold Value.okWide at hok
  rw [ht] at hok
  obtain ⟨cs, rfl, hsz, ts, g1, _, g3⟩ := hok
  rw [hts] at g1
  cases g1
  rw [hn] at hsz
  obtain ⟨x0, x1, rfl⟩ : ∃ x0 x1, cs = #[x0, x1] := by
    obtain ⟨l⟩ := cs
    match l, hsz with
    | [a, b], _ => exact ⟨a, b, rfl⟩
  obtain ⟨u0, hu0, c0⟩ := g3 0 x0 rfl
  obtain ⟨u1, hu1, c1⟩ := g3 1 x1 rfl
  cases hu0
  cases hu1
  unfold Cell.okWide at c0
  rw [h0] at c0
  unfold Cell.ok at c0
  rw [h0] at c0
  obtain ⟨y0, y1, n, _, _, _, hy⟩ := trod_struct2 ht hf
  rw [hf1, ho1, hc1] at hy
  simp only [Value.cells, List.drop_succ_cons, List.drop_zero, List.take_succ_cons, List.take_zero] at hy
  obtain ⟨l, r1, r2, r3⟩ := rep_slice h1 he hc c1 hy
  clear hy
  cases x0 with
  | int k w =>
    simp only at c0
    obtain ⟨rfl, hw⟩ := c0
    exact ⟨w, l, Rep.aggL (RepL.cons (.int _ _) (RepL.cons r1 (RepL.nil _))), hw, r2, r3⟩
  | _ => exact c0.elim
end
end Go.Av

/- Lists of lists, and lists of shares, as arguments. -/
set_option linter.unusedVariables false
namespace Go.Av
open Go.ChangeShapes Go.WideShapes Go.ChangeAt Go.RowKit

section
variable {H : Type} {enc : TypeId × Value → H} {P : Program}

/-- What is said of numbers of a list. -/
def okL (l : List Int) : Prop := l.length ≤ maxLen ∧ ∀ n ∈ l, (-9223372036854775808 ≤ n ∧ n ≤ 9223372036854775807)
/-- Where a cell lies. -/
theorem cell_block {W : World} {b off : Nat} {spot : Option Nat} {k : Nat} {x : Value} (h : W.cell? ((⟨b, off, spot⟩ : Addr).add k) = some x) : ∃ c T fr, W.heap[b]? = some (.cells c T fr) ∧ c[off + k]? = some x ∧ (k = 0 → spot = none) := by
  by_cases hk : k = 0
  · subst hk
    have e : (⟨b, off, spot⟩ : Addr).add 0 = ⟨b, off, spot⟩ := by simp [Addr.add]
    rw [e] at h
    unfold World.cell? at h
    split at h
    · rename_i c T fr hh
      split at h
      · cases h
      · rename_i hs
        refine ⟨c, T, fr, hh, h, fun _ => ?_⟩
        cases spot with
        | none => rfl
        | some s => simp at hs
    · cases h
  · have e : (⟨b, off, spot⟩ : Addr).add k = ⟨b, off + k, none⟩ := by simp [Addr.add, hk]
    rw [e] at h
    unfold World.cell? at h
    split at h
    · rename_i c T fr hh
      split at h
      · cases h
      · exact ⟨c, T, fr, hh, h, fun h => absurd h hk⟩
    · cases h
theorem rep_slice0 {W : World} {t e fuel : Nat} {v : Value} {x : DataW H × List MemPlace} (ht : P.underlying t = some (.slice e)) (he : P.underlying e = some (.int .i64)) (hc : P.cellsOf e = 1)
    (h : DataW.trod enc P W 0 (fun _ => true) true fuel t [v] = some x) : ∃ l : List Int, Rep (E0 W) (sl l) v ∧ okL l := by
  rcases open_ints ht he hc h with ⟨hv, _⟩ | ⟨a, len, cap, zs, hv, _, hlen, hm, hz, _, hcell, hwf⟩
  · cases hv
    exact ⟨[], .immE _ _ _ (by simp), by simp [okL]⟩
  · cases hv
    simp only [if_true] at hz
    obtain ⟨b, off, spot⟩ := a
    have hwf' : ∀ n ∈ zs.take len, (-9223372036854775808 ≤ n ∧ n ≤ 9223372036854775807) := by
      intro n hn
      have := hwf n (List.mem_of_mem_take hn)
      simp only [Lit.wf, Bool.and_eq_true, decide_eq_true_eq] at this
      exact this
    have hll : (zs.take len).length = len := by simp; omega
    refine ⟨zs.take len, ?_, by omega, hwf'⟩
    by_cases h0 : len = 0
    · subst h0
      simp only [List.take_zero]
      exact .immE _ _ _ (by simp)
    · obtain ⟨c, T, fr, hb, _, hs0⟩ := cell_block (hcell 0 (by omega))
      obtain rfl := hs0 rfl
      have hrow : ∀ i, i < zs.length → c[off + i]? = some (.int .i64 (zs.getD i 0)) := fun i hi => by
        obtain ⟨c', T', fr', hb', h2, _⟩ := cell_block (hcell i hi)
        rw [hb] at hb'; cases hb'
        exact h2
      have : sl (zs.take len) = .imm len false (ints (zs.take len)) := by rw [sl, hll]
      rw [this]
      refine .imm _ _ _ b off cap c T fr (fun i => .int .i64 (zs.getD i 0)) hb (by simp) hlen (fun i hi => hrow i (by simp at hi; omega)) (fun i hi => ?_)
      have hi' : i < len := by simp at hi; omega
      have : (ints (zs.take len))[i] = .int .i64 (zs.getD i 0) := by
        simp [ints, List.getD_eq_getElem?_getD, show i < zs.length by omega]
      rw [this]
      exact .int _ _
/-- One cell that is read. -/
theorem cells1 {W : World} {a : Addr} {y : List Value} (h : W.cells? 0 a 1 = some y) : ∃ x, y = [x] ∧ W.cell? (a.add 0) = some x := by
  unfold World.cells? at h
  rw [if_pos (Nat.zero_le _)] at h
  simp only [List.range_one, List.mapM_cons, List.mapM_nil] at h
  cases hx : W.cell? (a.add 0) with
  | none => rw [hx] at h; simp at h
  | some x =>
    rw [hx] at h
    simp at h
    exact ⟨x, h.symm, rfl⟩
theorem cells2 {W : World} {a : Addr} {y : List Value} (h : W.cells? 0 a 2 = some y) : ∃ x0 x1, y = [x0, x1] ∧ W.cell? (a.add 0) = some x0 ∧ W.cell? (a.add 1) = some x1 := by
  unfold World.cells? at h
  rw [if_pos (Nat.zero_le _)] at h
  have : List.range 2 = [0, 1] := rfl
  rw [this] at h
  simp only [List.mapM_cons, List.mapM_nil] at h
  cases hx : W.cell? (a.add 0) with
  | none => rw [hx] at h; simp at h
  | some x =>
    cases hx1 : W.cell? (a.add 1) with
    | none => rw [hx, hx1] at h; simp at h
    | some x1 =>
      rw [hx, hx1] at h
      simp at h
      exact ⟨x, x1, h.symm, rfl, rfl⟩
theorem add_add {a : Addr} {i j : Nat} : (a.add i).add j = a.add (i + j) := by
  cases a
  simp only [Addr.add]
  by_cases hi : i = 0 <;> by_cases hj : j = 0 <;> simp [hi, hj, Nat.add_assoc]
/-- A choice for each place. -/
theorem choose_list {α : Type} (Q : Nat → α → Prop) : ∀ n, (∀ i, i < n → ∃ l, Q i l) → ∃ t : List α, t.length = n ∧ ∀ i (h : i < t.length), Q i t[i]
  | 0, _ => ⟨[], rfl, fun i h => by simp at h⟩
  | n + 1, h => by
    obtain ⟨t, h1, h2⟩ := choose_list Q n fun i hi => h i (by omega)
    obtain ⟨l, hl⟩ := h n (by omega)
    refine ⟨t ++ [l], by simp [h1], fun i hi => ?_⟩
    by_cases hin : i < t.length
    · rw [List.getElem_append_left hin]; exact h2 i hin
    · have : i = n := by simp at hi; omega
      subst this
      rw [List.getElem_append_right (by omega)]
      simpa [h1] using hl
/-- A list of lists of numbers. -/
theorem rep_tab0 {W : World} {t s e fuel : Nat} {v : Value} {x : DataW H × List MemPlace} (ht : P.underlying t = some (.slice s)) (hs : P.underlying s = some (.slice e)) (he : P.underlying e = some (.int .i64)) (hc : P.cellsOf e = 1) (hc2 : P.cellsOf s = 1)
    (h : DataW.trod enc P W 0 (fun _ => true) true fuel t [v] = some x) : ∃ l : List (List Int), Rep (E0 W) (.imm l.length false (l.map sl)) v ∧ l.length ≤ maxLen ∧ ∀ m ∈ l, okL m := by
  rcases DataW.trod_slice ht h with ⟨h0, _⟩ | ⟨a, len, cap, elems, rest, n, _, hv, _, hbb, hl, hm, hlen, hel, hsp, hns⟩
  · cases h0
    exact ⟨[], .immE _ _ _ (by simp), by simp, by simp⟩
  · cases hv
    obtain ⟨b, off, spot⟩ := a
    have each : ∀ i, i < len → ∃ l : List Int, ∃ y, W.cell? ((⟨b, off, spot⟩ : Addr).add i) = some y ∧ Rep (E0 W) (sl l) y ∧ okL l := by
      intro i hi
      have h1 := hel i hi
      rw [hc2, Nat.mul_one] at h1
      have h2 : elems[i]? = some elems[i] := by simp [hlen, hi]
      rw [h2, Option.bind_eq_some_iff] at h1
      obtain ⟨y, h3, h4⟩ := h1
      obtain ⟨z, rfl, h5⟩ := cells1 h3
      rw [add_add, Nat.add_zero] at h5
      obtain ⟨l, h6, h7⟩ := rep_slice0 hs he hc h4
      exact ⟨l, z, h5, h6, h7⟩
    obtain ⟨l, hll, hl2⟩ := choose_list _ _ each
    refine ⟨l, ?_, by omega, fun m hm => ?_⟩
    · by_cases h0 : len = 0
      · subst h0
        obtain rfl : l = [] := List.eq_nil_of_length_eq_zero hll
        exact .immE _ _ _ (by simp)
      · have h00 : 0 < l.length := by omega
        obtain ⟨y, h1, h2, _⟩ := hl2 0 h00
        obtain ⟨c, T, fr, hb, _, hs0⟩ := cell_block h1
        obtain rfl := hs0 rfl
        rw [hll]
        have hrow : ∀ i (hi : i < l.length), ∃ z, c[off + i]? = some z ∧ Rep (E0 W) (sl l[i]) z := fun i hi => by
          obtain ⟨y, h1, h2, _⟩ := hl2 i hi
          obtain ⟨c', T', fr', hb', h3, _⟩ := cell_block h1
          rw [hb] at hb'; cases hb'
          exact ⟨y, h3, h2⟩
        refine .imm _ _ _ b off cap c T fr (fun i => (c[off + i]?).getD default) hb (by simp) hl (fun i hi => ?_) (fun i hi => ?_)
        · obtain ⟨z, h3, _⟩ := hrow i (by simpa using hi)
          rw [h3]; rfl
        · obtain ⟨z, h3, h4⟩ := hrow i (by simpa using hi)
          rw [h3]
          simpa using h4
    · obtain ⟨i, hi, rfl⟩ := List.mem_iff_getElem.1 hm
      obtain ⟨_, _, _, h4⟩ := hl2 i hi
      exact h4
theorem rep_tab {W : World} {base t s e : Nat} {v : Value} {d : DataW H} {ps : List MemPlace} (ht : P.underlying t = some (.slice s)) (hs : P.underlying s = some (.slice e)) (he : P.underlying e = some (.int .i64)) (hc : P.cellsOf e = 1) (hc2 : P.cellsOf s = 1)
    (hok : Value.okWide P W .any base t v) (h : DataW.Trod enc P W 0 (fun _ => true) true t v d ps) : ∃ l : List (List Int), Rep (E0 W) (.imm l.length false (l.map sl)) v ∧ l.length ≤ maxLen ∧ ∀ m ∈ l, okL m := by
  obtain ⟨a, len, cap, rfl⟩ := okWide_slice ht hok
  obtain ⟨fuel, hf⟩ := h
  exact rep_tab0 ht hs he hc hc2 hf
/-- A list of pairs of a list and a number. -/
theorem rep_shares {W : World} {base t s e : Nat} {f0 f1 : Field} {v : Value} {d : DataW H} {ps : List MemPlace} (ht : P.underlying t = some (.slice s)) (hs : P.underlying s = some (.struct #[f0, f1])) (h0t : P.underlying f0.type = some (.slice e)) (h1t : P.underlying f1.type = some (.int .i64))
    (he : P.underlying e = some (.int .i64)) (hc : P.cellsOf e = 1) (hc2 : P.cellsOf s = 2) (hc0 : P.cellsOf f0.type = 1) (hc1 : P.cellsOf f1.type = 1) (ho0 : f0.offset = 0) (ho1 : f1.offset = 1)
    (hok : Value.okWide P W .any base t v) (h : DataW.Trod enc P W 0 (fun _ => true) true t v d ps) :
    ∃ l : List (List Int × Int), Rep (E0 W) (.imm l.length false (l.flatMap fun x => [sl x.1, .int .i64 x.2])) v ∧ l.length ≤ maxLen ∧ ∀ m ∈ l, okL m.1 ∧ (-9223372036854775808 ≤ m.2 ∧ m.2 ≤ 9223372036854775807) := by
  obtain ⟨a, len, cap, rfl⟩ := okWide_slice ht hok
  obtain ⟨fuel, hf⟩ := h
  have hf' : DataW.trod enc P W 0 (fun _ => true) true fuel t [.slice a len cap] = some (d, ps) := hf
  rcases DataW.trod_slice ht hf' with ⟨h0, _⟩ | ⟨a, len, cap, elems, rest, n, _, hv, _, hbb, hl, hm, hlen, hel, hsp, hns⟩
  · cases h0
    exact ⟨[], .immE _ _ _ (by simp), by simp, by simp⟩
  · cases hv
    obtain ⟨b, off, spot⟩ := a
    have each : ∀ i, i < len → ∃ l : List Int × Int, ∃ y, W.cell? ((⟨b, off, spot⟩ : Addr).add (i * 2)) = some y ∧ Rep (E0 W) (sl l.1) y ∧ okL l.1 ∧ W.cell? ((⟨b, off, spot⟩ : Addr).add (i * 2 + 1)) = some (.int .i64 l.2) ∧ (-9223372036854775808 ≤ l.2 ∧ l.2 ≤ 9223372036854775807) := by
      intro i hi
      have h1 := hel i hi
      rw [hc2] at h1
      have h2 : elems[i]? = some elems[i] := by simp [hlen, hi]
      rw [h2, Option.bind_eq_some_iff] at h1
      obtain ⟨y, h3, h4⟩ := h1
      obtain ⟨z0, z1, rfl, h5, h6⟩ := cells2 h3
      rw [add_add] at h5 h6
      rw [Nat.add_zero] at h5
      obtain ⟨y0, y1, m, _, _, g0, g1⟩ := trod_struct2 hs h4
      rw [ho0, hc0] at g0
      rw [ho1, hc1] at g1
      simp only [List.drop_zero, List.drop_succ_cons, List.take_succ_cons, List.take_zero] at g0 g1
      obtain ⟨l, g2, g3⟩ := rep_slice0 h0t he hc g0
      have g4 : ∃ x : Int, z1 = .int .i64 x ∧ (Lit.int .i64 x).wf = true := by
        cases m with
        | zero => simp [DataW.trod] at g1
        | succ m =>
          unfold DataW.trod at g1
          rw [h1t] at g1
          cases z1 <;> simp only at g1 <;> try cases g1
          split at g1
          · rename_i hk
            exact ⟨_, by rw [hk.1], hk.2⟩
          · cases g1
      obtain ⟨x, rfl, hx⟩ := g4
      simp only [Lit.wf, Bool.and_eq_true, decide_eq_true_eq] at hx
      exact ⟨(l, x), z0, h5, g2, g3, h6, hx⟩
    obtain ⟨l, hll, hl2⟩ := choose_list _ _ each
    refine ⟨l, ?_, by omega, fun m hm => ?_⟩
    · have hfl : ∀ (l : List (List Int × Int)), (l.flatMap fun x => [sl x.1, .int .i64 x.2]).length = l.length * 2 := by
        intro l
        induction l with
        | nil => rfl
        | cons a l ih => simp only [List.flatMap_cons, List.length_append, ih, List.length_cons, List.length_nil]; omega
      by_cases h0 : len = 0
      · subst h0
        obtain rfl : l = [] := List.eq_nil_of_length_eq_zero hll
        exact .immE _ _ _ (by simp)
      · have h00 : 0 < l.length := by omega
        obtain ⟨y, h1, h2, _⟩ := hl2 0 h00
        rw [Nat.zero_mul] at h1
        obtain ⟨c, T, fr, hb, _, hs0⟩ := cell_block h1
        obtain rfl := hs0 rfl
        rw [hll]
        have hgl : ∀ (l : List (List Int × Int)) (i : Nat) (hi : i < l.length), (l.flatMap fun x => [sl x.1, AV.int .i64 x.2])[i * 2]? = some (sl l[i].1) ∧ (l.flatMap fun x => [sl x.1, AV.int .i64 x.2])[i * 2 + 1]? = some (.int .i64 l[i].2) := by
          intro l
          induction l with
          | nil => intro i hi; simp at hi
          | cons a l ih =>
            intro i hi
            cases i with
            | zero => exact ⟨rfl, rfl⟩
            | succ i =>
              have := ih i (by simpa using hi)
              rw [show (i + 1) * 2 = i * 2 + 2 by omega]
              exact this
        have hrow : ∀ j, j < l.length * 2 → ∃ z, c[off + j]? = some z ∧ ∃ x, (l.flatMap fun x => [sl x.1, AV.int .i64 x.2])[j]? = some x ∧ Rep (E0 W) x z := by
          intro j hj
          have hi : j / 2 < l.length := by omega
          obtain ⟨y, h1, h2, _, h4, _⟩ := hl2 (j / 2) hi
          obtain ⟨g1, g2⟩ := hgl l (j / 2) hi
          rcases Nat.mod_two_eq_zero_or_one j with hj2 | hj2
          · have e : j / 2 * 2 = j := by omega
            rw [e] at h1 g1
            obtain ⟨c', T', fr', hb', h3, _⟩ := cell_block h1
            rw [hb] at hb'; cases hb'
            exact ⟨y, h3, _, g1, h2⟩
          · have e : j / 2 * 2 + 1 = j := by omega
            rw [e] at h4 g2
            obtain ⟨c', T', fr', hb', h3, _⟩ := cell_block h4
            rw [hb] at hb'; cases hb'
            exact ⟨_, h3, _, g2, .int _ _⟩
        refine .imm _ _ _ b off cap c T fr (fun i => (c[off + i]?).getD default) hb (by simp) hl (fun i hi => ?_) (fun i hi => ?_)
        · obtain ⟨z, h3, _⟩ := hrow i (by rw [hfl] at hi; exact hi)
          rw [h3]; rfl
        · obtain ⟨z, h3, x, h4, h5⟩ := hrow i (by rw [hfl] at hi; exact hi)
          rw [h3]
          rw [List.getElem?_eq_getElem hi] at h4
          cases h4
          exact h5
    · obtain ⟨i, hi, rfl⟩ := List.mem_iff_getElem.1 hm
      obtain ⟨_, _, _, h4, _, h5⟩ := hl2 i hi
      exact ⟨h4, h5⟩
def numOfI : Option Value → Int
  | some (.int _ m) => m
  | _ => 0
/-- Small numbers with a sign, flat. -/
theorem rep_rowI {W : World} {r : Reach} {base t n : Nat} {u : TypeId} {v : Value} {E : Env} (ht : (∃ fs, P.underlying t = some (.struct fs)) ∨ ∃ m e, P.underlying t = some (.array m e)) (hts : P.cellTypes P.depth t = some (List.replicate n u)) (hn : P.cellsOf t = n)
    (hu : P.underlying u = some (.int .i8)) (hok : Value.okWide P W r base t v) : ∃ l : List Int, l.length = n ∧ (∀ x ∈ l, -128 ≤ x ∧ x ≤ 127) ∧ Rep E (.agg (l.map fun (x : Int) => .int .i8 x)) v := by
  have hok' : ∃ cs, v = .agg cs ∧ cs.size = P.cellsOf t ∧ Row.okWide P W r base t cs := by
    unfold Value.okWide at hok
    rcases ht with ⟨fs, ht⟩ | ⟨m, e, ht⟩ <;> rw [ht] at hok <;> exact hok
  obtain ⟨cs, rfl, hsz, ts, h1, _, h3⟩ := hok'
  rw [hts] at h1
  cases h1
  rw [hn] at hsz
  have hcell : ∀ i, i < n → ∃ x : Int, cs[i]? = some (.int .i8 x) ∧ -128 ≤ x ∧ x ≤ 127 := by
    intro i hi
    have hx : cs[i]? = some cs[i] := by simp [hsz, hi]
    obtain ⟨u', hu', hc⟩ := h3 i _ hx
    have : u' = u := by
      have : i % (List.replicate n u).length < n := by simp; exact Nat.mod_lt _ (by omega)
      rw [List.getElem?_replicate, if_pos this] at hu'
      cases hu'; rfl
    subst this
    unfold Cell.okWide at hc
    rw [hu] at hc
    unfold Cell.ok at hc
    rw [hu] at hc
    generalize cs[i] = y at *
    cases y <;> simp only at hc <;> try exact hc.elim
    rename_i k m
    obtain ⟨rfl, h4⟩ := hc
    have h5 : IntKind.i8.min = -128 := rfl
    have h6 : IntKind.i8.max = 127 := rfl
    unfold IntKind.has at h4
    rw [h5, h6] at h4
    exact ⟨m, hx, h4⟩
  let l : List Int := (List.range n).map fun i => numOfI cs[i]?
  have hl : ∀ i (hi : i < n), cs[i]? = some (.int .i8 (l[i]'(by simp [l]; exact hi))) ∧ -128 ≤ l[i]'(by simp [l]; exact hi) ∧ l[i]'(by simp [l]; exact hi) ≤ 127 := by
    intro i hi
    obtain ⟨x, h1, h2⟩ := hcell i hi
    have : l[i]'(by simp [l]; exact hi) = x := by simp [l, h1, numOfI]
    rw [this]
    exact ⟨h1, h2⟩
  have hll : l.length = n := by simp [l]
  refine ⟨l, hll, fun x hx => ?_, .agg _ cs (fun i => cs[i]?.getD default) (by simp [hsz, hll]) (fun i hi => ?_) (fun i hi => ?_)⟩
  · obtain ⟨i, hi, rfl⟩ := List.mem_iff_getElem.1 hx
    exact (hl i (by omega)).2
  · have hi' : i < n := by simp [hll] at hi; exact hi
    rw [(hl i hi').1]; rfl
  · have hi' : i < n := by simp [hll] at hi; exact hi
    simp only [List.getElem_map]
    rw [(hl i hi').1]
    exact .int _ _
end
end Go.Av
