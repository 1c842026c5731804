/- The operations that need no memory: what the model does is what the evaluator says. Conditions: none. The operations that need no memory, one by one. Conditions: none. The operations that need no memory: indexes and slices. Conditions: none. The operations that need no memory: slices of slices, of strings. Conditions: none. The comparisons and the arithmetic. Conditions: none. The operations that need no memory: comparisons, arithmetic, aggregates, new slices. Conditions: none. The operations that need no memory: aggregates, new slices, the greatest and the least. Conditions: none. The operations that need no memory: new slices, the greatest and the least. Conditions: none. The operations that need no memory, together. Conditions: none. Every operation that needs no memory: what the model does is what the evaluator says. Conditions: none. The keys of maps: looking one up. Conditions: none. The operations that read memory, and those on a frame's own cells. Conditions: none. -/
import Derived.Test.YtpajdajecfjnnaaGreatAgoA
import Derived.Laws.StructEq
import Derived.ChangeKeysEq
import Derived.Laws.Tables
import Derived.IntWalk
set_option autoImplicit false
set_option linter.unusedSimpArgs false
set_option linter.unusedVariables false
namespace Go.Ago

/-- What a pure operation comes to: a value; a value over cells that are new and never written; a new object. -/
def PureOut (P : Program) (o : Oper) (a : Act) (G : Gh) (w : World) (mem : AMem) (own : Nat → Prop) (v : AVal) : Prop :=
  (∃ x, (execOp a.eval o).run P w = .ok (.value x) w ∧ VRel G v x) ∨
  (∃ x c t, (execOp a.eval o).run P w = .ok (.value x) (w.alloc (.cells c t (0, 0))) ∧ VRel (G.withIm w.heap.size c) v x) ∨
  (∃ x r obj y, own r ∧ mem r = some obj ∧ ORel G obj y ∧ (execOp a.eval o).run P w = .ok (.value x) (w.alloc y) ∧ VRel (G.withObj r w.heap.size) v x)

theorem PureOut.quiet {P : Program} {o : Oper} {a : Act} {G : Gh} {w : World} {mem : AMem} {own : Nat → Prop} {v : AVal} {x : Value}
    (h : (execOp a.eval o).run P w = .ok (.value x) w) (hv : VRel G v x) : PureOut P o a G w mem own v := .inl ⟨x, h, hv⟩

theorem idx_some {i : Int} {n m : Nat} (h : idx i n = some m) : i = (m : Int) ∧ m < n := by
  unfold idx at h
  split at h
  · rename_i k
    cases hb : Nat.blt k n with
    | true =>
      rw [hb] at h
      simp only [cond_true, Option.some.injEq] at h
      subst h
      have : Nat.ble (k + 1) n = true := hb
      exact ⟨rfl, Nat.le_of_ble_eq_true this⟩
    | false => rw [hb] at h; simp at h
  · cases h

theorem idxLe_some {i : Int} {n m : Nat} (h : idxLe i n = some m) : i = (m : Int) ∧ m ≤ n := by
  unfold idxLe at h
  split at h
  · rename_i k
    cases hb : Nat.ble k n with
    | true =>
      rw [hb] at h
      simp only [cond_true, Option.some.injEq] at h
      subst h
      exact ⟨rfl, Nat.le_of_ble_eq_true hb⟩
    | false => rw [hb] at h; simp at h
  · cases h

theorem cond_some {α : Type} {b : Bool} {x : Option α} {y : α} (h : (bif b then x else none) = some y) : b = true ∧ x = some y := by
  cases b with
  | true => exact ⟨rfl, h⟩
  | false => cases h

theorem takeCells_some {cs : List AVal} {off n : Nat} {g : Bool} {v : AVal} (h : takeCells cs off n g = some v) :
    off + n ≤ cs.length ∧ ((g = true ∧ v = .agg ((cs.drop off).take n)) ∨ (g = false ∧ n = 1 ∧ cs[off]? = some v)) := by
  unfold takeCells at h
  obtain ⟨h1, h2⟩ := cond_some h
  refine ⟨Nat.le_of_ble_eq_true h1, ?_⟩
  cases g with
  | true => simp only [cond_true, Option.some.injEq] at h2; exact .inl ⟨rfl, h2.symm⟩
  | false =>
    obtain ⟨h3, h4⟩ := cond_some h2
    exact .inr ⟨rfl, Nat.eq_of_beq_eq_true h3, h4⟩

section
variable {P : Program} {G : Gh} {w : World}

theorem run_part {t : TypeId} {n : Nat} {g : Bool} (hl : lay P t = some (n, g)) {cs : List AVal} {c : Array Value} (hc : VRels G cs c.toList) {off : Nat} {v : AVal}
    (hv : takeCells cs off n g = some v) : ∃ x, (part t c off).run P w = .ok x w ∧ VRel G v x := by
  obtain ⟨i, d, h1, h2, h3, h4, h5⟩ := lay_info hl
  obtain ⟨h6, h7⟩ := takeCells_some hv
  simp only [part, Sem.run_bind, run_isAgg h2, Result.andThen_ok, ← h4]
  rcases h7 with ⟨rfl, rfl⟩ | ⟨rfl, h8, h9⟩
  · refine ⟨.agg (c.extract off (off + n)), ?_, ?_⟩
    · simp only [if_true, Sem.run_bind, run_sizeOf h1, Result.andThen_ok, Sem.run_pure, h3]
    · simp only [VRel]
      refine ⟨_, rfl, ?_⟩
      have := (hc.drop off).take n
      simpa [Array.toList_extract, List.extract_eq_take_drop] using this
  · obtain ⟨x, h10, h11⟩ := hc.get h9
    have h12 : c[off]? = some x := by simpa using h10
    exact ⟨x, by simp [h12], h11⟩

/-- The cells that a pointer into unwritten cells leads to. -/
theorem takeCells_rel {n : Nat} {g : Bool} {t : TypeId} (hl : lay P t = some (n, g)) {cs : List AVal} {c : List Value} (hc : VRels G cs c) {off : Nat} {v : AVal} {b o : Nat}
    (hv : takeCells cs off n g = some v) (hm : ∀ j x, c[j]? = some x → w.cell? ⟨b, o + j, none⟩ = some x) :
    ∃ x, (loadVar t ⟨b, o + off, none⟩).run P w = .ok x w ∧ VRel G v x := by
  obtain ⟨i, d, h1, h2, h3, h4, h5⟩ := lay_info hl
  obtain ⟨h6, h7⟩ := takeCells_some hv
  have hlen := hc.length
  have hrun := run_loadVar (P := P) (w := w) hl (b := b) (o := o + off) (vs := (c.drop off).take n) (by simp; omega) (fun j x hj => by
    rw [List.getElem?_take] at hj
    split at hj
    · rw [List.getElem?_drop] at hj
      have := hm _ _ hj
      rwa [← Nat.add_assoc] at this
    · cases hj)
  refine ⟨_, hrun, ?_⟩
  rcases h7 with ⟨rfl, rfl⟩ | ⟨rfl, h8, h9⟩
  · simp only [if_true, VRel]
    exact ⟨_, rfl, by simpa using (hc.drop off).take n⟩
  · subst h8
    obtain ⟨x, h10, h11⟩ := hc.get h9
    have : (c.drop off).take 1 = [x] := by
      rw [List.drop_eq_getElem_cons (List.getElem?_eq_some_iff.1 h10).1]
      simp [(List.getElem?_eq_some_iff.1 h10).2]
    rw [this]
    exact h11

end

/-! ## Words -/

theorem wordEq_rel {G : Gh} {a b : AVal} {x y : Value} {r : Bool} (hx : VRel G a x) (hy : VRel G b y) (h : wordEq a b = some r) :
    (∃ k m n, x = .int k m ∧ y = .int k n ∧ r = (m == n)) ∨ (∃ s t, x = .string s ∧ y = .string t ∧ r = decide (s.data.toList = t.data.toList)) ∨
    (∃ p q, x = .bool p ∧ y = .bool q ∧ r = (p == q)) := by
  cases a <;> cases b <;> simp only [wordEq] at h <;> first
    | cases h; done
    | skip
  · simp only [VRel] at hx hy
    cases h
    exact .inr (.inr ⟨_, _, hx, hy, rfl⟩)
  · simp only [VRel] at hx hy
    split at h
    · rename_i hk
      cases h
      subst hk
      exact .inl ⟨_, _, _, hx, hy, rfl⟩
    · cases h
  · simp only [VRel] at hx hy
    cases h
    exact .inr (.inl ⟨_, _, hx, hy, rfl⟩)

end Go.Ago

set_option autoImplicit false
set_option linter.unusedSimpArgs false
set_option linter.unusedVariables false
namespace Go.Ago

theorem bare_some {α : Type} {x : Option α} {f : α → AOp} {c : COp} (h : bare (x.map f) = some c) : ∃ y, x = some y ∧ c = (f y, 0, []) := by
  cases x with
  | none => simp [bare] at h
  | some y => simp only [bare, Option.map_some, Option.some.injEq] at h; exact ⟨y, rfl, h.symm⟩

section
variable {E : CEnv} {G : Gh} {Lb : Nat → Option Nat} {F : AFrame} {σ : AState} {a : Act} {w : World} {own : Nat → Prop}
variable {dst : Option Tmp} {ty : TypeId} {pos : String} {aft : Array Edge} {gd : Option (Nat × Bool)}

theorem snd_move (R : Rel E G Lb F σ a w) {x : Operand} {y : AOpd} {v : AVal} (hx : opdA x = some y) (hv : F.eval y = some v) :
    PureOut E.P ⟨dst, .move x, ty, pos, aft, gd⟩ a G w σ.get own v := .quiet (x := a.eval x) (by simp [execOp]) (R.opd hx hv)

theorem snd_assign (R : Rel E G Lb F σ a w) {x : Operand} {y : AOpd} {v : AVal} (hx : opdA x = some y) (hv : F.eval y = some v) :
    PureOut E.P ⟨dst, .assign x, ty, pos, aft, gd⟩ a G w σ.get own v := .quiet (x := a.eval x) (by simp [execOp]) (R.opd hx hv)

theorem snd_pick (R : Rel E G Lb F σ a w) {c x y : Operand} {c' x' y' : AOpd} {t : Bool} {v : AVal} (hc : opdA c = some c') (hx : opdA x = some x') (hy : opdA y = some y')
    (ht : F.eval c' = some (.bool t)) (hv : (bif t then F.eval x' else F.eval y') = some v) :
    PureOut E.P ⟨dst, .pick c x y, ty, pos, aft, gd⟩ a G w σ.get own v := by
  have h := R.opd hc ht
  simp only [VRel] at h
  refine .quiet (x := if t then a.eval x else a.eval y) (by simp [execOp, h, asBool]) ?_
  cases t with
  | true => exact R.opd hx hv
  | false => exact R.opd hy hv

theorem zeroA_some {P : Program} {t : TypeId} {z : AVal} (h : zeroA P t = some z) :
    ∃ i u n g, P.info? t = some i ∧ i.zero = some u ∧ lay P t = some (n, g) ∧ cval depthC u = some z ∧ z.cells.length = n := by
  unfold zeroA at h
  split at h
  · rename_i i hi
    split at h
    · rename_i u n g hz hl
      split at h
      · rename_i v hv
        split at h
        · rename_i hn
          cases h
          exact ⟨i, u, n, g, hi, hz, hl, hv, hn⟩
        · cases h
      · cases h
    · cases h
  · cases h

theorem zeroA_rel (G : Gh) {P : Program} {w : World} {t : TypeId} {z : AVal} (h : zeroA P t = some z) :
    ∃ u, (zeroValue t).run P w = .ok u w ∧ VRel G z u := by
  obtain ⟨i, u, n, g, h1, h2, h3, h4, h5⟩ := zeroA_some h
  exact ⟨u, run_zeroValue h1 h2, cval_rel G _ _ _ h4⟩

theorem vrel_ptr_new {r nb : Nat} : VRel (G.withObj r nb) (.ptr r 0) (.pointer (some ⟨nb, 0, none⟩)) := by
  simp only [VRel]
  exact ⟨nb, by simp [Gh.withObj], rfl⟩

theorem snd_alloc (R : Rel E G Lb F σ a w) {e : TypeId} {z : AVal} {r : Nat} (hz : zeroA E.P e = some z) (hm : σ.get r = some (.cells z.cells)) (ho : own r) :
    PureOut E.P ⟨dst, .alloc e, ty, pos, aft, gd⟩ a G w σ.get own (.ptr r 0) := by
  obtain ⟨u, h1, h2⟩ := zeroA_rel G (w := w) hz
  refine .inr (.inr ⟨.pointer (some ⟨w.heap.size, 0, none⟩), r, _, .cells u.cells e (0, 0), ho, hm, ⟨_, _, rfl, h2.cells⟩, ?_, vrel_ptr_new⟩)
  simp [execOp, Instr.alloc, h1, newVar, newRow]

theorem snd_makeMap (R : Rel E G Lb F σ a w) {t : TypeId} {k e : TypeId} {rs : Option Operand} {r : Nat} (ht : E.P.underlying t = some (.map k e)) (hrs : rs = none ∨ ∃ kk n, rs = some (.const (.int kk n)))
    (hm : σ.get r = some (.map [] 0)) (ho : own r) :
    PureOut E.P ⟨dst, .makeMap t rs, ty, pos, aft, gd⟩ a G w σ.get own (.map (some r)) := by
  refine .inr (.inr ⟨.map (some w.heap.size), r, _, .map #[] 0, ho, hm, ⟨_, rfl, rfl⟩, ?_, ?_⟩)
  · rcases hrs with rfl | ⟨kk, n, rfl⟩
    · simp [execOp, Instr.makeMap]
    · simp [execOp, Instr.makeMap, run_underlying ht, Act.eval, asInt, asIntOf]
  · simp only [VRel]
    exact ⟨w.heap.size, by simp [Gh.withObj], rfl⟩

theorem snd_nilCheck (R : Rel E G Lb F σ a w) {x : Operand} {y : AOpd} {u v : AVal} (hx : opdA x = some y) (hv : F.eval y = some u)
    (hu : (match u with
      | .ptr r off => some (AVal.ptr r off)
      | .cptr cs => some (.cptr cs)
      | .rptr r i off => some (.rptr r i off)
      | .func f a b => some (.func f a b)
      | .iface t v => some (.iface t v)
      | _ => none) = some v) :
    PureOut E.P ⟨dst, .nilCheck x, ty, pos, aft, gd⟩ a G w σ.get own v := by
  have h := R.opd hx hv
  have huv : u = v := by cases u <;> simp at hu <;> exact hu
  subst huv
  refine .quiet (x := a.eval x) ?_ h
  cases u <;> simp at hu <;> simp only [VRel] at h
  · obtain ⟨b, _, h⟩ := h; simp [execOp, h]
  · obtain ⟨b, o, vs, h, _⟩ := h; simp [execOp, h]
  · obtain ⟨b, o, cap, sz, _, h⟩ := h; simp [execOp, h]
  · obtain ⟨p, q, h, _⟩ := h; simp [execOp, h]
  · obtain ⟨p, h, _⟩ := h; simp [execOp, h]

theorem snd_un (R : Rel E G Lb F σ a w) {op : UnOp} {t : TypeId} {x : Operand} {y : AOpd} {v : AVal} (hx : opdA x = some y)
    (hv : (match op, F.eval y with
      | .not, some (.bool b) => some (AVal.bool !b)
      | .neg, some (.int k n) => some (.int k (k.wrap (0 - n)))
      | _, _ => none) = some v) :
    PureOut E.P ⟨dst, .unOp op t x, ty, pos, aft, gd⟩ a G w σ.get own v := by
  split at hv
  · rename_i b hb
    cases hv
    have h := R.opd hx hb
    simp only [VRel] at h
    exact .quiet (x := .bool !b) (by simp [execOp, Op.unary, h]) (by simp only [VRel])
  · rename_i k n hb
    cases hv
    have h := R.opd hx hb
    simp only [VRel] at h
    exact .quiet (x := .int k (k.wrap (0 - n))) (by simp [execOp, Op.unary, Op.intArith, h]) (by simp only [VRel])
  · cases hv

theorem snd_conv (R : Rel E G Lb F σ a w) {s t : TypeId} {j k : IntKind} {x : Operand} {y : AOpd} {v : AVal} (hs : E.P.underlying s = some (.int j)) (ht : E.P.underlying t = some (.int k)) (hx : opdA x = some y)
    (hv : (match F.eval y with
      | some (.int _ n) => some (AVal.int k (k.wrap n))
      | _ => none) = some v) :
    PureOut E.P ⟨dst, .convert s t x, ty, pos, aft, gd⟩ a G w σ.get own v := by
  split at hv
  · rename_i l n hb
    cases hv
    have h := R.opd hx hb
    simp only [VRel] at h
    exact .quiet (x := .int k (k.wrap n)) (by simp [execOp, convert, Conv.intToInt, run_underlying hs, run_underlying ht, h]) (by simp only [VRel])
  · cases hv

theorem snd_same (R : Rel E G Lb F σ a w) {s t : TypeId} {x : Operand} {y : AOpd} {v : AVal} (hs : E.P.underlying s = some .string) (ht : E.P.underlying t = some .string) (hx : opdA x = some y)
    (hv : F.eval y = some v) (hstr : ∃ s, v = .str s) :
    PureOut E.P ⟨dst, .convert s t x, ty, pos, aft, gd⟩ a G w σ.get own v := by
  obtain ⟨u, rfl⟩ := hstr
  have h := R.opd hx hv
  have h' := h
  simp only [VRel] at h
  exact .quiet (x := a.eval x) (by simp [execOp, convert, run_underlying hs, run_underlying ht, h]) h'

theorem snd_makeInterface (R : Rel E G Lb F σ a w) {t : TypeId} {d : TypeDesc} {x : Operand} {y : AOpd} {u : AVal} (ht : E.P.underlying t = some d) (hd : ∀ ms, d ≠ .interface ms) (hx : opdA x = some y)
    (hv : F.eval y = some u) : PureOut E.P ⟨dst, .makeInterface t x, ty, pos, aft, gd⟩ a G w σ.get own (.iface t u) := by
  have h := R.opd hx hv
  refine .quiet (x := .iface t (a.eval x)) ?_ (by simp only [VRel]; exact ⟨_, rfl, h⟩)
  cases d with
  | interface ms => exact absurd rfl (hd ms)
  | _ => simp [execOp, Instr.makeInterface, run_underlying ht]

theorem snd_makeFunc (R : Rel E G Lb F σ a w) {f : FuncId} {first captured : Array Operand} {p q : List AOpd} {u v : List AVal} (hp : travO opdA first.toList = some p) (hq : travO opdA captured.toList = some q)
    (hu : F.evals p = some u) (hv : F.evals q = some v) : PureOut E.P ⟨dst, .makeFunc (.func f) first captured, ty, pos, aft, gd⟩ a G w σ.get own (.func f u v) := by
  refine .quiet (x := .func (.func f) (first.map a.eval) (captured.map a.eval)) (by simp [execOp, Instr.makeFunc]) ?_
  simp only [VRel]
  exact ⟨_, _, rfl, by simpa using R.opds hp hu, by simpa using R.opds hq hv⟩

theorem snd_extract (R : Rel E G Lb F σ a w) {x : Operand} {i : Nat} {y : AOpd} {v : AVal} (hx : opdA x = some y)
    (hv : (match F.eval y with
      | some (.tuple vs) => vs[i]?
      | _ => none) = some v) : PureOut E.P ⟨dst, .extract x i, ty, pos, aft, gd⟩ a G w σ.get own v := by
  split at hv
  · rename_i vs hb
    have h := R.opd hx hb
    simp only [VRel] at h
    obtain ⟨l, h1, h2⟩ := h
    obtain ⟨u, h3, h4⟩ := h2.get hv
    have h5 : l[i]? = some u := by simpa using h3
    exact .quiet (x := u) (by simp [execOp, Instr.extract, h1, h5]) h4
  · cases hv

theorem snd_typeAssert (R : Rel E G Lb F σ a w) {x : Operand} {xt t : TypeId} {d : TypeDesc} {ok : Bool} {z : AVal} {y : AOpd} {v : AVal} (ht : E.P.underlying t = some d) (hd : ∀ ms, d ≠ .interface ms) (hz : zeroA E.P t = some z) (hx : opdA x = some y)
    (hv : (match F.eval y with
      | some .niliface => bif ok then some (AVal.tuple [z, .bool false]) else none
      | some (.iface u v) =>
        bif Nat.beq u t then some (bif ok then .tuple [v, .bool true] else v)
        else bif ok then some (.tuple [z, .bool false]) else none
      | _ => none) = some v) : PureOut E.P ⟨dst, .typeAssert x xt t ok, ty, pos, aft, gd⟩ a G w σ.get own v := by
  obtain ⟨u, hu1, hu2⟩ := zeroA_rel G (w := w) hz
  have nil2 : VRels G [] [] := by simp only [VRels]
  have pair : ∀ {p : AVal} {q : Value} (b : Bool), VRel G p q → VRel G (.tuple [p, .bool b]) (.tuple #[q, .bool b]) := by
    intro p q b hpq
    simp only [VRel]
    exact ⟨_, rfl, vrels_cons.2 ⟨_, _, rfl, hpq, vrels_cons.2 ⟨_, _, rfl, by simp only [VRel], nil2⟩⟩⟩
  split at hv
  · rename_i hb
    obtain ⟨hok, hv⟩ := cond_some hv
    subst hok
    cases hv
    have h := R.opd hx hb
    simp only [VRel] at h
    refine .quiet (x := .tuple #[u, .bool false]) ?_ (pair false hu2)
    cases d with
    | interface ms => exact absurd rfl (hd ms)
    | _ => simp [execOp, Instr.typeAssert, run_underlying ht, h, hu1]
  · rename_i k b hb
    have h := R.opd hx hb
    simp only [VRel] at h
    obtain ⟨b', h1, h2⟩ := h
    cases hkt : Nat.beq k t with
    | true =>
      have hkt' := Nat.eq_of_beq_eq_true hkt
      subst hkt'
      rw [hkt] at hv
      simp only [cond_true, Option.some.injEq] at hv
      subst hv
      cases ok with
      | true =>
        refine .quiet (x := .tuple #[b', .bool true]) ?_ (pair true h2)
        cases d with
        | interface ms => exact absurd rfl (hd ms)
        | _ => simp [execOp, Instr.typeAssert, run_underlying ht, h1]
      | false =>
        refine .quiet (x := b') ?_ h2
        cases d with
        | interface ms => exact absurd rfl (hd ms)
        | _ => simp [execOp, Instr.typeAssert, run_underlying ht, h1]
    | false =>
      have hne : ¬ k = t := fun he => by subst he; simp at hkt
      rw [hkt] at hv
      simp only [cond_false] at hv
      obtain ⟨hok, hv⟩ := cond_some hv
      subst hok
      cases hv
      refine .quiet (x := .tuple #[u, .bool false]) ?_ (pair false hu2)
      cases d with
      | interface ms => exact absurd rfl (hd ms)
      | _ => simp [execOp, Instr.typeAssert, run_underlying ht, h1, hu1, hne]
  · cases hv

theorem snd_field (R : Rel E G Lb F σ a w) {t : TypeId} {fs : Array Field} {f : Field} {i n : Nat} {g : Bool} {x : Operand} {y : AOpd} {cs : List AVal} {v : AVal} (ht : E.P.underlying t = some (.struct fs)) (hf : fs[i]? = some f)
    (hl : lay E.P f.type = some (n, g)) (hx : opdA x = some y) (hc : F.eval y = some (.agg cs)) (hv : takeCells cs f.offset n g = some v) :
    PureOut E.P ⟨dst, .field t x i, ty, pos, aft, gd⟩ a G w σ.get own v := by
  have h := R.opd hx hc
  simp only [VRel] at h
  obtain ⟨c, h1, h2⟩ := h
  obtain ⟨u, h3, h4⟩ := run_part (w := w) hl h2 hv
  exact .quiet (x := u) (by simp [execOp, Instr.field, run_underlying ht, hf, h1, asAgg, h3]) h4

theorem cptr_drop {cs : List AVal} {k : Nat} {x : Value} (h : VRel G (.cptr cs) x) (hk : k ≤ cs.length) :
    ∃ b o, x = .pointer (some ⟨b, o, none⟩) ∧ VRel G (.cptr (cs.drop k)) (.pointer (some ⟨b, o + k, none⟩)) := by
  simp only [VRel] at h
  obtain ⟨b, o, vs, h1, h2, h3⟩ := h
  refine ⟨b, o, h1, ?_⟩
  simp only [VRel]
  exact ⟨b, o + k, vs.drop k, rfl, h2.drop k, h3.drop k⟩

theorem snd_fieldAddr (R : Rel E G Lb F σ a w) {t : TypeId} {fs : Array Field} {f : Field} {i n : Nat} {g : Bool} {x : Operand} {y : AOpd} {v : AVal} (ht : E.P.underlying t = some (.struct fs)) (hf : fs[i]? = some f)
    (hl : lay E.P f.type = some (n, g)) (hn : 0 < n) (hx : opdA x = some y)
    (hv : (match F.eval y with
      | some (.ptr r o) => some (AVal.ptr r (o + f.offset))
      | some (.cptr cs) => bif Nat.ble f.offset cs.length then some (.cptr (cs.drop f.offset)) else none
      | some (.rptr r i o) => some (.rptr r i (o + f.offset))
      | _ => none) = some v) :
    PureOut E.P ⟨dst, .fieldAddr t x i, ty, pos, aft, gd⟩ a G w σ.get own v := by
  obtain ⟨inf, d, l1, l2, l3, l4, l5⟩ := lay_info hl
  have run : ∀ b o, a.eval x = .pointer (some ⟨b, o, none⟩) →
      (execOp a.eval ⟨dst, .fieldAddr t x i, ty, pos, aft, gd⟩).run E.P w = .ok (.value (.pointer (some ⟨b, o + f.offset, none⟩))) w := by
    intro b o h
    have hs : ¬ inf.size = 0 := by omega
    simp [execOp, Instr.fieldAt, run_underlying ht, hf, h, Instr.sureAddr, fieldPlace, run_sizeOf l1, hs, add_none]
  split at hv
  · rename_i r o hb
    cases hv
    have h := R.opd hx hb
    simp only [VRel] at h
    obtain ⟨b, h1, h2⟩ := h
    exact .quiet (run b o h2) (by simp only [VRel]; exact ⟨b, h1, rfl⟩)
  · rename_i cs hb
    obtain ⟨hk, hv⟩ := cond_some hv
    cases hv
    obtain ⟨b, o, h1, h2⟩ := cptr_drop (R.opd hx hb) (Nat.le_of_ble_eq_true hk)
    exact .quiet (run b o h1) h2
  · rename_i r j o hb
    cases hv
    have h := R.opd hx hb
    simp only [VRel] at h
    obtain ⟨b, ob, cap, sz, h1, h2⟩ := h
    refine .quiet (run b _ h2) ?_
    simp only [VRel]
    exact ⟨b, ob, cap, sz, h1, by simp only [Value.pointer.injEq, Option.some.injEq, Addr.mk.injEq, true_and, and_true]; omega⟩
  · cases hv

end
end Go.Ago

set_option autoImplicit false
set_option linter.unusedSimpArgs false
set_option linter.unusedVariables false
namespace Go.Ago

section
variable {E : CEnv} {G : Gh} {Lb : Nat → Option Nat} {F : AFrame} {σ : AState} {a : Act} {w : World} {own : Nat → Prop}
variable {dst : Option Tmp} {ty : TypeId} {pos : String} {aft : Array Edge} {gd : Option (Nat × Bool)}

theorem ERels.sz_eq {sz : Nat} {es : List AVal} {vs : List Value} (h : ERels G sz es vs) {i : Nat} {e : AVal} (hi : es[i]? = some e) : e.cells.length = sz := by
  obtain ⟨x, h1, h2, _⟩ := h.get hi
  rw [← h2, h1.size]

/-- The element of a slice whose cells are never written. -/
theorem slice_elem {es : List AVal} {tok : Tok} {x : Value} (h : VRel G (.slice es tok) x) {m : Nat} {e : AVal} (hm : es[m]? = some e) :
    ∃ b o cap, x = .slice (some ⟨b, o, none⟩) es.length cap ∧ VRel G (.cptr e.cells) (.pointer (some ⟨b, o + m * e.cells.length, none⟩)) := by
  simp only [VRel] at h
  obtain ⟨ad, cap, sz, vs, h1, h2, h3, h4⟩ := h
  have hne : es ≠ [] := fun he => by subst he; simp at hm
  obtain ⟨b, o, rfl, h5⟩ := h3 hne
  refine ⟨b, o, cap, h1, ?_⟩
  rw [h2.sz_eq hm]
  obtain ⟨y, h6, h7, h8⟩ := h2.get hm
  simp only [VRel]
  refine ⟨b, o + m * sz, y.cells.toList, rfl, h6.cells, ?_⟩
  exact h5.sub (m * sz) fun j v hj => h8 j v (by simpa using hj)

theorem snd_indexAddr_slice (R : Rel E G Lb F σ a w) {t e : TypeId} {n : Nat} {g : Bool} {x i : Operand} {y z : AOpd} {k : IntKind} {iv : Int} {u v : AVal} (ht : E.P.underlying t = some (.slice e))
    (hl : lay E.P e = some (n, g)) (hx : opdA x = some y) (hi : opdA i = some z) (hz : F.eval z = some (.int k iv)) (hy : F.eval y = some u)
    (hv : (match u with
      | .slice es _ => match idx iv es.length with
        | some m => match es[m]? with
          | some e => bif Nat.beq e.cells.length n then some (AVal.cptr e.cells) else none
          | none => none
        | none => none
      | .slc r off len sz' _ => bif Nat.beq n sz' then (idx iv len).map fun m => .rptr r (off + m) 0 else none
      | _ => none) = some v) :
    PureOut E.P ⟨dst, .indexAddr t x i, ty, pos, aft, gd⟩ a G w σ.get own v := by
  obtain ⟨inf, d, l1, l2, l3, l4, l5⟩ := lay_info hl
  have hiv := R.opd hi hz
  simp only [VRel] at hiv
  have run : ∀ (ad : Addr) (len cap m : Nat), a.eval x = .slice (some ad) len cap → iv = (m : Int) → m < len →
      (execOp a.eval ⟨dst, .indexAddr t x i, ty, pos, aft, gd⟩).run E.P w = .ok (.value (.pointer (some (ad.add (m * n))))) w := by
    intro ad len cap m h hm hlt
    subst hm
    simp [execOp, Instr.indexAt, run_underlying ht, h, hiv, asIntOf, run_sizeOf l1, l3, hlt]
  have hux := R.opd hx hy
  split at hv
  · rename_i es tok
    split at hv
    · rename_i m hm
      obtain ⟨h1, h2⟩ := idx_some hm
      split at hv
      · rename_i el hel
        obtain ⟨h3, hv⟩ := cond_some hv
        cases hv
        have h3' := Nat.eq_of_beq_eq_true h3
        obtain ⟨b, o, cap, h4, h5⟩ := slice_elem hux hel
        refine .quiet (run _ _ _ m h4 h1 h2) ?_
        rw [add_none, ← h3']
        exact h5
      · cases hv
    · cases hv
  · rename_i r off len sz' full _
    obtain ⟨h3, hv2⟩ := cond_some hv
    clear hv
    have h3' := Nat.eq_of_beq_eq_true h3
    subst h3'
    cases hm : idx iv len with
    | none => rw [hm] at hv2; cases hv2
    | some m =>
      rw [hm] at hv2
      simp only [Option.map_some, Option.some.injEq] at hv2
      subst hv2
      obtain ⟨h1, h2⟩ := idx_some hm
      simp only [VRel] at hux
      obtain ⟨b, o, cap, ad, c, h4, h5, h6, h7, h8⟩ := hux
      have hc : c ≠ 0 := by rw [h6]; split <;> omega
      refine .quiet (run _ _ _ m h7 h1 h2) ?_
      rw [h8 hc, add_none]
      simp only [VRel]
      refine ⟨b, o, cap, n, h4, ?_⟩
      simp only [Value.pointer.injEq, Option.some.injEq, Addr.mk.injEq, true_and, and_true, Nat.add_mul]
      omega
  · cases hv

theorem snd_indexAddr_arr (R : Rel E G Lb F σ a w) {t e : TypeId} {len n : Nat} {g : Bool} {x i : Operand} {y z : AOpd} {k : IntKind} {iv : Int} {u v : AVal} (ht : E.P.underlying t = some (.array len e))
    (hl : lay E.P e = some (n, g)) (hx : opdA x = some y) (hi : opdA i = some z) (hz : F.eval z = some (.int k iv)) (hy : F.eval y = some u)
    (hv : (match u with
      | .ptr r o => (idx iv len).map fun m => AVal.ptr r (o + m * n)
      | .cptr cs => match idx iv len with
        | some m => bif Nat.ble (m * n) cs.length then some (.cptr (cs.drop (m * n))) else none
        | none => none
      | .rptr r j o => (idx iv len).map fun m => .rptr r j (o + m * n)
      | _ => none) = some v) :
    PureOut E.P ⟨dst, .indexAddr t x i, ty, pos, aft, gd⟩ a G w σ.get own v := by
  obtain ⟨inf, d, l1, l2, l3, l4, l5⟩ := lay_info hl
  have hiv := R.opd hi hz
  simp only [VRel] at hiv
  have run : ∀ b o (m : Nat), a.eval x = .pointer (some ⟨b, o, none⟩) → iv = (m : Int) → m < len →
      (execOp a.eval ⟨dst, .indexAddr t x i, ty, pos, aft, gd⟩).run E.P w = .ok (.value (.pointer (some ⟨b, o + m * n, none⟩))) w := by
    intro b o m h hm hlt
    subst hm
    simp [execOp, Instr.indexAt, run_underlying ht, h, hiv, asIntOf, run_sizeOf l1, l3, hlt, Instr.sureAddr, add_none]
  have hux := R.opd hx hy
  split at hv
  · rename_i r o _
    cases hm : idx iv len with
    | none => rw [hm] at hv; cases hv
    | some m =>
      rw [hm] at hv
      simp only [Option.map_some, Option.some.injEq] at hv
      subst hv
      obtain ⟨h1, h2⟩ := idx_some hm
      simp only [VRel] at hux
      obtain ⟨b, h3, h4⟩ := hux
      exact .quiet (run b o m h4 h1 h2) (by simp only [VRel]; exact ⟨b, h3, rfl⟩)
  · rename_i cs
    split at hv
    · rename_i m hm
      obtain ⟨h1, h2⟩ := idx_some hm
      obtain ⟨h3, hv⟩ := cond_some hv
      cases hv
      obtain ⟨b, o, h4, h5⟩ := cptr_drop hux (Nat.le_of_ble_eq_true h3)
      exact .quiet (run b o m h4 h1 h2) h5
    · cases hv
  · rename_i r j o
    cases hm : idx iv len with
    | none => rw [hm] at hv; cases hv
    | some m =>
      rw [hm] at hv
      simp only [Option.map_some, Option.some.injEq] at hv
      subst hv
      obtain ⟨h1, h2⟩ := idx_some hm
      simp only [VRel] at hux
      obtain ⟨b, ob, cap, sz, h3, h4⟩ := hux
      refine .quiet (run b _ m h4 h1 h2) ?_
      simp only [VRel]
      refine ⟨b, ob, cap, sz, h3, ?_⟩
      simp only [Value.pointer.injEq, Option.some.injEq, Addr.mk.injEq, true_and, and_true]
      omega
  · cases hv

theorem snd_index_arr (R : Rel E G Lb F σ a w) {t e : TypeId} {len n : Nat} {g : Bool} {x i : Operand} {y z : AOpd} {k : IntKind} {iv : Int} {cs : List AVal} {m : Nat} {v : AVal} (ht : E.P.underlying t = some (.array len e))
    (hl : lay E.P e = some (n, g)) (hx : opdA x = some y) (hi : opdA i = some z) (hz : F.eval z = some (.int k iv)) (hy : F.eval y = some (.agg cs)) (hm : idx iv len = some m)
    (hv : takeCells cs (m * n) n g = some v) : PureOut E.P ⟨dst, .index t x i, ty, pos, aft, gd⟩ a G w σ.get own v := by
  obtain ⟨inf, d, l1, l2, l3, l4, l5⟩ := lay_info hl
  have hiv := R.opd hi hz
  have hxv := R.opd hx hy
  simp only [VRel] at hiv hxv
  obtain ⟨c, h1, h2⟩ := hxv
  obtain ⟨h3, h4⟩ := idx_some hm
  subst h3
  obtain ⟨u, h5, h6⟩ := run_part (w := w) hl h2 hv
  exact .quiet (x := u) (by simp [execOp, Instr.index, run_underlying ht, h1, hiv, asIntOf, run_sizeOf l1, l3, h4, h5]) h6

theorem snd_index_str (R : Rel E G Lb F σ a w) {t : TypeId} {x i : Operand} {y z : AOpd} {k : IntKind} {iv : Int} {s : ByteArray} {m : Nat} {b : UInt8} (ht : E.P.underlying t = some .string)
    (hx : opdA x = some y) (hi : opdA i = some z) (hz : F.eval z = some (.int k iv)) (hy : F.eval y = some (.str s)) (hm : idx iv s.size = some m)
    (hb : s.data.toList[m]? = some b) : PureOut E.P ⟨dst, .index t x i, ty, pos, aft, gd⟩ a G w σ.get own (.int .u8 b.toNat) := by
  have hiv := R.opd hi hz
  have hxv := R.opd hx hy
  simp only [VRel] at hiv hxv
  obtain ⟨h3, h4⟩ := idx_some hm
  subst h3
  have hb' : s[m]? = some b := by
    have hlt : m < s.data.size := h4
    have : s.data[m]? = some b := by simpa using hb
    rw [getElem?_pos s m h4]
    rw [getElem?_pos s.data m hlt] at this
    exact this
  refine .quiet (x := .int .u8 b.toNat) ?_ (by simp only [VRel])
  simp [execOp, Instr.index, run_underlying ht, hxv, hiv, asIntOf, hb']

/-! ## Slices of slices -/

def ORelV (G : Gh) : Option AVal → Option Value → Prop
  | none, x => x = none
  | some v, x => ∃ y, x = some y ∧ VRel G v y

theorem Rel.opt (R : Rel E G Lb F σ a w) {x : Option Operand} {y : Option AOpd} {u : Option AVal} (hx : optA x = some y) (hu : optEval F y = some u) : ORelV G u (x.map a.eval) := by
  cases x with
  | none =>
    simp only [optA, Option.some.injEq] at hx
    subst hx
    simp only [optEval, Option.some.injEq] at hu
    subst hu
    rfl
  | some x =>
    simp only [optA] at hx
    cases h1 : opdA x with
    | none => rw [h1] at hx; cases hx
    | some z =>
      rw [h1] at hx
      simp only [Option.map_some, Option.some.injEq] at hx
      subst hx
      simp only [optEval] at hu
      cases h2 : F.eval z with
      | none => rw [h2] at hu; cases hu
      | some v =>
        rw [h2] at hu
        simp only [Option.map_some, Option.some.injEq] at hu
        subst hu
        exact ⟨_, rfl, R.opd h1 h2⟩

theorem run_sliceBound {P : Program} {x : Value} {k : IntKind} {i : Int} {m y : Nat} {c : BoundsCode} (hx : x = .int k i) (hi : i = (m : Int)) (hm : m ≤ y) :
    (Instr.sliceBound x y c).run P w = .ok m w := by
  subst hx; subst hi
  have : (m : Int) ≤ (y : Int) := by omega
  simp [Instr.sliceBound, asIntOf, this]

theorem bnd_rel {P : Program} {u : Option AVal} {x : Option Value} {dflt top top' r : Nat} (hu : ORelV G u x) (h : bnd u dflt top = some r) (ht : top ≤ top') (f g : Sem Nat) (c : BoundsCode) :
    (u = none ∧ x = none ∧ r = dflt) ∨ (u ≠ none ∧ ∃ y, x = some y ∧ (Instr.sliceBound y top' c).run P w = .ok r w ∧ r ≤ top) := by
  cases u with
  | none =>
    simp only [ORelV] at hu
    simp only [bnd, Option.some.injEq] at h
    exact .inl ⟨rfl, hu, h.symm⟩
  | some v =>
    obtain ⟨y, rfl, hy⟩ := hu
    cases v <;> simp only [bnd] at h <;> first
      | (cases h; done)
      | skip
    simp only [VRel] at hy
    obtain ⟨e1, e2⟩ := idxLe_some h
    exact .inr ⟨by simp, y, rfl, run_sliceBound hy e1 (Nat.le_trans e2 ht), e2⟩

theorem subBounds_some {len c : Nat} {lo hi mx : Option AVal} {l h m : Nat} (hs : subBounds len c lo hi mx = some (l, h, m)) :
    bnd mx c c = some m ∧ bnd hi len m = some h ∧ bnd lo 0 h = some l := by
  unfold subBounds at hs
  split at hs
  · cases hs
  · rename_i m' h1
    split at hs
    · cases hs
    · rename_i h' h2
      split at hs
      · cases hs
      · rename_i l' h3
        cases hs
        exact ⟨h1, h2, h3⟩

theorem run_sliceBounds {P : Program} {b : Bool} {len cap c : Nat} {lo hi mx : Option AVal} {lo' hi' mx' : Option Value} (hlo : ORelV G lo lo') (hhi : ORelV G hi hi') (hmx : ORelV G mx mx')
    {l h m : Nat} (hs : subBounds len c lo hi mx = some (l, h, m)) (hc : c ≤ cap) (hlc : len ≤ c) (hmh : mx = none ∨ hi ≠ none) :
    (Instr.sliceBounds b len cap lo' hi' mx').run P w = .ok (l, h, if mx.isSome then m else cap) w ∧ l ≤ h ∧ h ≤ m ∧ m ≤ c ∧ (mx = none → m = c) ∧ (hi = none → h = len) ∧ (lo = none → l = 0) := by
  obtain ⟨h1, h2, h3⟩ := subBounds_some hs
  clear hs
  have e0 := bnd_rel (P := P) (w := w) hmx h1 hc (pure 0) (pure 0) (if b then .slice3Acap else .slice3Alen)
  rcases e0 with ⟨rfl, rfl, rfl⟩ | ⟨hmn, y, rfl, hM, hMc⟩
  · -- no third index
    have e1 := bnd_rel (P := P) (w := w) hhi h2 hc (pure 0) (pure 0) (if b then .sliceAcap else .sliceAlen)
    rcases e1 with ⟨rfl, rfl, rfl⟩ | ⟨hhn, z, rfl, hH, hHm⟩
    · have e2 := bnd_rel (P := P) (w := w) hlo h3 (Nat.le_refl _) (pure 0) (pure 0) .sliceB
      rcases e2 with ⟨rfl, rfl, rfl⟩ | ⟨hln, u, rfl, hL, hLh⟩
      · exact ⟨by simp [Instr.sliceBounds], by omega, by omega, by omega, by simp, by simp, by simp⟩
      · exact ⟨by simp [Instr.sliceBounds, hL], by omega, by omega, by omega, by simp, by simp, fun x => absurd x hln⟩
    · have e2 := bnd_rel (P := P) (w := w) hlo h3 (Nat.le_refl _) (pure 0) (pure 0) .sliceB
      rcases e2 with ⟨rfl, rfl, rfl⟩ | ⟨hln, u, rfl, hL, hLh⟩
      · exact ⟨by simp [Instr.sliceBounds, hH], by omega, by omega, by omega, by simp, fun x => absurd x hhn, by simp⟩
      · exact ⟨by simp [Instr.sliceBounds, hH, hL], by omega, by omega, by omega, by simp, fun x => absurd x hhn, fun x => absurd x hln⟩
  · have hhn : hi ≠ none := hmh.resolve_left hmn
    have hms : mx.isSome = true := by
      cases mx with
      | none => exact absurd rfl hmn
      | some _ => rfl
    have e1 := bnd_rel (P := P) (w := w) hhi h2 (Nat.le_refl _) (pure 0) (pure 0) .slice3B
    rcases e1 with ⟨rfl, _, _⟩ | ⟨_, z, rfl, hH, hHm⟩
    · exact absurd rfl hhn
    · have e2 := bnd_rel (P := P) (w := w) hlo h3 (Nat.le_refl _) (pure 0) (pure 0) .slice3C
      rcases e2 with ⟨rfl, rfl, rfl⟩ | ⟨hln, u, rfl, hL, hLh⟩
      · exact ⟨by simp [Instr.sliceBounds, hM, hH, hms], by omega, by omega, by omega, fun x => absurd x hmn, fun x => absurd x hhn, by simp⟩
      · exact ⟨by simp [Instr.sliceBounds, hM, hH, hL, hms], by omega, by omega, by omega, fun x => absurd x hmn, fun x => absurd x hhn, fun x => absurd x hln⟩

end
end Go.Ago

set_option autoImplicit false
set_option linter.unusedSimpArgs false
set_option linter.unusedVariables false
namespace Go.Ago

section
variable {E : CEnv} {G : Gh} {Lb : Nat → Option Nat} {F : AFrame} {σ : AState} {a : Act} {w : World} {own : Nat → Prop}
variable {dst : Option Tmp} {ty : TypeId} {pos : String} {aft : Array Edge} {gd : Option (Nat × Bool)}

theorem headOk_some {sz : Nat} {e : AVal} {es : List AVal} (h : headOk sz (e :: es) = true) : e.cells.length = sz := Nat.eq_of_beq_eq_true h

theorem ERels.sub {sz : Nat} {es : List AVal} {vs : List Value} (h : ERels G sz es vs) (l k : Nat) : ERels G sz ((es.take k).drop l) ((vs.take (k * sz)).drop (l * sz)) :=
  (h.take k).drop l

theorem ImAt.subRange {b o : Nat} {vs : List Value} (h : ImAt G b o vs) (l k : Nat) : ImAt G b (o + l) ((vs.take k).drop l) := (h.take k).drop l

theorem bnd_hi_none {hi : Option AVal} {mx : Option AVal} (h : mx = none ∨ hi ≠ none) : True := trivial

theorem tokOfSub_full {tok : Tok} {l h m : Nat} {hi mx : Option AVal} (ht : tokOfSub tok l h m hi mx = .full) : h = m ∧ (tok = .full ∨ mx ≠ none) := by
  unfold tokOfSub at ht
  split at ht
  · cases hb : Nat.beq h m with
    | true => exact ⟨Nat.eq_of_beq_eq_true hb, .inl rfl⟩
    | false => rw [hb] at ht; cases ht
  · cases hb : Nat.beq h m with
    | true => exact ⟨Nat.eq_of_beq_eq_true hb, .inr (by simp)⟩
    | false => rw [hb] at ht; cases ht
  · rename_i n
    cases hb : (Nat.beq l 0 && hi.isNone) with
    | true => rw [hb] at ht; cases ht
    | false => rw [hb] at ht; cases ht
  · cases ht

theorem tokOfSub_tail {tok : Tok} {l h m n : Nat} {hi mx : Option AVal} (ht : tokOfSub tok l h m hi mx = .tail n) : tok = .tail n ∧ l = 0 ∧ hi = none ∧ mx = none := by
  unfold tokOfSub at ht
  split at ht
  · cases hb : Nat.beq h m <;> rw [hb] at ht <;> cases ht
  · cases hb : Nat.beq h m <;> rw [hb] at ht <;> cases ht
  · rename_i n
    cases hb : (Nat.beq l 0 && hi.isNone) with
    | true =>
      rw [hb] at ht
      cases ht
      simp only [Bool.and_eq_true] at hb
      exact ⟨rfl, Nat.eq_of_beq_eq_true hb.1, by simpa using hb.2, rfl⟩
    | false => rw [hb] at ht; cases ht
  · cases ht

theorem tokOfSub_nil {tok : Tok} {l h m : Nat} {hi mx : Option AVal} : tokOfSub tok l h m hi mx ≠ .nil := by
  intro ht
  unfold tokOfSub at ht
  split at ht
  · cases hb : Nat.beq h m <;> rw [hb] at ht <;> cases ht
  · cases hb : Nat.beq h m <;> rw [hb] at ht <;> cases ht
  · rename_i n
    cases hb : (Nat.beq l 0 && hi.isNone) <;> rw [hb] at ht <;> cases ht
  · cases ht

/-- The part of a slice, in the words of the model. -/
theorem run_subSlice (R : Rel E G Lb F σ a w) {t e : TypeId} {n : Nat} {g : Bool} (ht : E.P.underlying t = some (.slice e)) (hl : lay E.P e = some (n, g))
    {x : Value} {lo hi mx : Option AVal} {lo' hi' mx' : Option Value} {u v : AVal} (hx : VRel G u x) (hlo : ORelV G lo lo') (hhi : ORelV G hi hi') (hmx : ORelV G mx mx') (hmh : mx = none ∨ hi ≠ none)
    (hv : subSlice n u lo hi mx = some v) : ∃ y, (Instr.slice t x lo' hi' mx').run E.P w = .ok y w ∧ VRel G v y := by
  obtain ⟨inf, d, l1, l2, l3, l4, l5⟩ := lay_info hl
  unfold subSlice at hv
  split at hv
  · -- a slice whose cells are never written
    rename_i es tok
    obtain ⟨hhead, hv⟩ := cond_some hv
    simp only [VRel] at hx
    obtain ⟨ad, cap, sz, vs, h1, h2, h3, h4⟩ := hx
    have hcap : es.length ≤ cap := by
      cases tok with
      | nil => obtain ⟨_, h5, h6⟩ := h4; omega
      | full => obtain ⟨_, h5⟩ := h4; omega
      | tail r => obtain ⟨_, _, _, _, h5⟩ := h4; exact h5
      | unk => exact h4
    cases hs : subBounds es.length es.length lo hi mx with
    | none => rw [hs] at hv; cases hv
    | some p =>
      obtain ⟨l, h, m⟩ := p
      rw [hs] at hv
      simp only at hv
      obtain ⟨r1, r2, r3, r4, r5, r6, r7⟩ := run_sliceBounds (P := E.P) (w := w) (b := true) hlo hhi hmx hs hcap (Nat.le_refl _) hmh
      have run : (Instr.slice t x lo' hi' mx').run E.P w =
          .ok (.slice (if (if mx.isSome then m else cap) = l then ad else ad.map (·.add (l * n))) (h - l) ((if mx.isSome then m else cap) - l)) w := by
        rw [h1]
        simp only [Instr.slice, Sem.run_bind, run_underlying ht, Result.andThen_ok, r1, run_sizeOf l1, Sem.run_pure, l3]
      refine ⟨_, run, ?_⟩
      clear run
      have hM : h ≤ if mx.isSome then m else cap := by split <;> omega
      by_cases hnil : tok = .nil
      · subst hnil
        simp only [Option.some.injEq] at hv
        subst hv
        obtain ⟨rfl, h5, h6⟩ := h4
        simp only [VRel]
        refine ⟨none, 0, 1, [], ?_, by simp only [ERels], fun h => absurd rfl h, rfl, rfl, rfl⟩
        have e1 : h - l = 0 := by omega
        have e2 : (if mx.isSome then m else cap) - l = 0 := by split <;> omega
        rw [e1, e2]
        simp
      · have hv : sliceRes tok (tokOfSub tok l h m hi mx) es l h = some v := by
          cases tok <;> first
            | exact absurd rfl hnil
            | exact hv
        have hcf : tokOfSub tok l h m hi mx = .full → (if mx.isSome then m else cap) - l = h - l := by
          intro hf
          obtain ⟨h5, h6⟩ := tokOfSub_full hf
          cases mx with
          | some _ => simp; omega
          | none =>
            rcases h6 with rfl | h6
            · obtain ⟨_, h7⟩ := h4
              have := r5 rfl
              simp; omega
            · exact absurd rfl h6
        cases es with
        | nil =>
          simp only [sliceRes] at hv
          obtain ⟨h5, hv⟩ := cond_some hv
          cases hv
          simp only [List.length_nil, Nat.le_zero] at r4 h1 h4
          have e1 : h - l = 0 := by omega
          have e2 : l = 0 := by omega
          subst e2
          have hadd : (if (if mx.isSome then m else cap) = 0 then ad else ad.map (·.add (0 * n))) = ad := by
            split
            · rfl
            · cases ad <;> simp [Addr.add]
          rw [hadd, e1]
          simp only [VRel]
          refine ⟨ad, _, sz, [], rfl, by simp only [ERels], fun h => absurd rfl h, ?_⟩
          generalize htk : tokOfSub tok 0 h m hi mx = tk at *
          cases tk with
          | nil => exact absurd htk tokOfSub_nil
          | full =>
            simp only [isFull, Bool.not_true, Bool.false_or] at h5
            cases tok <;> simp [isFull] at h5
            refine ⟨h4.1, ?_⟩
            rw [hcf rfl, e1]
            rfl
          | tail r =>
            obtain ⟨h6, _, _, h9⟩ := tokOfSub_tail htk
            subst h6; subst h9
            simpa using h4
          | unk => exact Nat.zero_le _
        | cons e0 r0 =>
          simp only [sliceRes, Option.some.injEq] at hv
          subst hv
          have hsz : n = sz := by rw [← headOk_some hhead, h2.sz_eq (i := 0) (e := e0) rfl]
          subst hsz
          obtain ⟨b, o, rfl, h6⟩ := h3 (by simp)
          have hlen : (((e0 :: r0).take h).drop l).length = h - l := by simp at r4 ⊢; omega
          simp only [VRel]
          refine ⟨_, _, n, _, by rw [hlen], h2.sub l h, fun hn => ⟨b, o + l * n, ?_, h6.subRange _ _⟩, ?_⟩
          · have hlt : l < h := by
              rcases Nat.lt_or_ge l h with h5 | h5
              · exact h5
              · exact absurd (List.length_eq_zero_iff.1 (by omega)) hn
            rw [if_neg (by omega)]
            simp [add_none]
          · rw [hlen]
            generalize htk : tokOfSub tok l h m hi mx = tk at *
            cases tk with
            | nil => exact absurd htk tokOfSub_nil
            | full => exact ⟨by generalize (if mx.isSome = true then m else cap) = M; split <;> simp, hcf rfl⟩
            | tail r =>
              obtain ⟨h7, h8, h9, h10⟩ := tokOfSub_tail htk
              subst h7; subst h8; subst h9; subst h10
              obtain ⟨b', o', h11, h12, h13⟩ := h4
              have := r6 rfl
              refine ⟨b', o', ?_, by simpa using h12, by simp; omega⟩
              rw [h11]; simp [add_none]
            | unk => show _ ≤ _; omega
  · -- a live row
    rename_i r off len sz' full
    obtain ⟨hsz, hv2⟩ := cond_some hv
    clear hv
    have hsz' := Nat.eq_of_beq_eq_true hsz
    subst hsz'
    simp only [VRel] at hx
    obtain ⟨b, o, cap, ad, c, h1, h2, h3, h4, h5⟩ := hx
    have hlc : len ≤ c := by rw [h3]; split <;> omega
    cases hs : subBounds len len lo hi mx with
    | none => rw [hs] at hv2; cases hv2
    | some p =>
      obtain ⟨l, h, m⟩ := p
      rw [hs] at hv2
      simp only at hv2
      obtain ⟨r1, r2, r3, r4, r5, r6, r7⟩ := run_sliceBounds (P := E.P) (w := w) (b := true) hlo hhi hmx hs hlc (Nat.le_refl _) hmh
      have run : (Instr.slice t x lo' hi' mx').run E.P w =
          .ok (.slice (some (if (if mx.isSome then m else c) = l then ad else ad.add (l * n))) (h - l) ((if mx.isSome then m else c) - l)) w := by
        rw [h4]
        simp only [Instr.slice, Sem.run_bind, run_underlying ht, Result.andThen_ok, r1, run_sizeOf l1, Sem.run_pure, l3, Option.map_some]
        congr 2
        by_cases hml : (if mx.isSome then m else c) = l
        · rw [if_pos hml, if_pos hml]
        · rw [if_neg hml, if_neg hml]
      refine ⟨_, run, ?_⟩
      clear run
      cases hf : slcFull full len h m mx with
      | none => rw [hf] at hv2; cases hv2
      | some f =>
        rw [hf] at hv2
        simp only [Option.map_some, Option.some.injEq] at hv2
        subst hv2
        have hc : (if mx.isSome then m else c) - l = (if f then h - l else cap - (off + l)) := by
          unfold slcFull at hf
          cases mx with
          | some _ =>
            obtain ⟨h6, h7⟩ := cond_some hf
            cases h7
            have := Nat.eq_of_beq_eq_true h6
            simp; omega
          | none =>
            obtain ⟨h6, h7⟩ := cond_some hf
            cases h7
            have := Nat.eq_of_beq_eq_true h6
            cases full <;> simp at h3 ⊢ <;> omega
        simp only [VRel]
        refine ⟨b, o, cap, _, _, h1, by omega, hc, rfl, fun h6 => ?_⟩
        rw [if_neg (by omega)]
        have hc0 : c ≠ 0 := by
          intro h7
          cases hms : mx.isSome <;> simp [hms] at h6 <;> omega
        rw [h5 hc0, add_none, Nat.add_mul, Nat.add_assoc]
  · cases hv

theorem snd_sub_slice (R : Rel E G Lb F σ a w) {t e : TypeId} {n : Nat} {g : Bool} {x : Operand} {y : AOpd} {lo hi mx : Option Operand} {lo' hi' mx' : Option AOpd} {u v : AVal} {p q r : Option AVal}
    (ht : E.P.underlying t = some (.slice e)) (hl : lay E.P e = some (n, g)) (hx : opdA x = some y) (hlo : optA lo = some lo') (hhi : optA hi = some hi') (hmx : optA mx = some mx')
    (hu : F.eval y = some u) (hp : optEval F lo' = some p) (hq : optEval F hi' = some q) (hr : optEval F mx' = some r) (hmh : r = none ∨ q ≠ none) (hv : subSlice n u p q r = some v) :
    PureOut E.P ⟨dst, .slice t x lo hi mx, ty, pos, aft, gd⟩ a G w σ.get own v := by
  obtain ⟨z, h1, h2⟩ := run_subSlice R ht hl (R.opd hx hu) (R.opt hlo hp) (R.opt hhi hq) (R.opt hmx hr) hmh hv
  refine .quiet (x := z) ?_ h2
  have : (Instr.sliceAt t (a.eval x) (lo.map a.eval) (hi.map a.eval) (mx.map a.eval)).run E.P w = .ok z w := by
    simp only [Instr.sliceAt, Sem.run_bind, run_underlying ht, Result.andThen_ok]
    exact h1
  simp [execOp, this]

theorem snd_sub_str (R : Rel E G Lb F σ a w) {t : TypeId} {x : Operand} {y : AOpd} {lo hi : Option Operand} {lo' hi' : Option AOpd} {s : ByteArray} {v : AVal} {p q : Option AVal}
    (ht : E.P.underlying t = some .string) (hx : opdA x = some y) (hlo : optA lo = some lo') (hhi : optA hi = some hi')
    (hu : F.eval y = some (.str s)) (hp : optEval F lo' = some p) (hq : optEval F hi' = some q) (hv : subStr s p q = some v) :
    PureOut E.P ⟨dst, .slice t x lo hi none, ty, pos, aft, gd⟩ a G w σ.get own v := by
  unfold subStr at hv
  split at hv
  · rename_i l h m hs
    cases hv
    have hx' := R.opd hx hu
    simp only [VRel] at hx'
    obtain ⟨r1, r2, r3, r4, r5, r6, r7⟩ := run_sliceBounds (P := E.P) (w := w) (b := false) (R.opt hlo hp) (R.opt hhi hq) (show ORelV G none none from rfl) hs (Nat.le_refl _) (Nat.le_refl _) (.inl rfl)
    refine .quiet (x := .string (s.extract l h)) ?_ (by simp only [VRel])
    simp only [Option.isSome_none, Bool.false_eq_true, if_false] at r1
    have : (Instr.sliceAt t (a.eval x) (lo.map a.eval) (hi.map a.eval) none).run E.P w = .ok (.string (s.extract l h)) w := by
      rw [hx']
      simp [Instr.sliceAt, Instr.slice, run_underlying ht, r1]
    simp [execOp, this]
  · cases hv

end
end Go.Ago

set_option autoImplicit false
set_option linter.unusedSimpArgs false
set_option linter.unusedVariables false
namespace Go.Ago

theorem beq_dec (a b : ByteArray) : (a.toList == b.toList) = decide (a.data.toList = b.data.toList) := by
  rw [ByteArray.toList_eq, ByteArray.toList_eq, Bool.eq_iff_iff]
  simp

section
variable {P : Program} {G : Gh} {w : World}

theorem wkOf_int {t : TypeId} (h : wkOf P t = some .int) : ∃ k, P.underlying t = some (.int k) := by
  unfold wkOf at h
  split at h <;> first
    | (cases h; done)
    | (rename_i k hk; exact ⟨k, hk⟩)
theorem wkOf_str {t : TypeId} (h : wkOf P t = some .str) : P.underlying t = some .string := by
  unfold wkOf at h
  split at h <;> first
    | (cases h; done)
    | assumption
theorem wkOf_bool {t : TypeId} (h : wkOf P t = some .bool) : P.underlying t = some .bool := by
  unfold wkOf at h
  split at h <;> first
    | (cases h; done)
    | assumption

theorem wkOf_some {t : TypeId} {k : WK} (h : wkOf P t = some k) : ∃ d, P.underlying t = some d ∧ descAgg d = false := by
  unfold wkOf at h
  split at h <;> first
    | (cases h; done)
    | (rename_i hk; exact ⟨_, hk, rfl⟩)

/-- Two words. -/
theorem run_equalIn_word {t : TypeId} {k : WK} (hk : wkOf P t = some k) {a b : AVal} {x y : Value} {r : Bool} (ha : isWK k a = true) (hx : VRel G a x) (hy : VRel G b y) (he : wordEq a b = some r) (d : Nat) :
    (Op.equalIn (d + 1) t x y).run P w = .ok r w := by
  cases k <;> cases a <;> simp [isWK] at ha <;> cases b <;> simp only [wordEq] at he <;> first
    | (cases he; done)
    | skip
  · split at he
    · rename_i hkk
      cases he
      subst hkk
      simp only [VRel] at hx hy
      obtain ⟨k', hk'⟩ := wkOf_int hk
      subst hx; subst hy
      exact run_equalIn_int w d t _ k' _ _ hk'
    · cases he
  · cases he
    simp only [VRel] at hx hy
    subst hx; subst hy
    rw [run_equalIn_string w d t _ _ (wkOf_str hk), beq_dec]
  · cases he
    simp only [VRel] at hx hy
    subst hx; subst hy
    exact run_equalIn_bool' w d t _ _ (wkOf_bool hk)

theorem run_part_word {t : TypeId} {k : WK} (hk : wkOf P t = some k) {c : Array Value} {i : Nat} {x : Value} (hi : c[i]? = some x) : (part t c i).run P w = .ok x w := by
  obtain ⟨d, h1, h2⟩ := wkOf_some hk
  simp [part, run_isAgg h1, h2, hi]

theorem areWK_get {ks : List WK} {l : List AVal} : areWK ks l = true → l.length = ks.length ∧ ∀ (i : Nat) (k : WK) (a : AVal), ks[i]? = some k → l[i]? = some a → isWK k a = true := by
  intro h
  induction ks generalizing l with
  | nil => cases l with
    | nil => exact ⟨rfl, by simp⟩
    | cons _ _ => simp [areWK] at h
  | cons k ks ih => cases l with
    | nil => simp [areWK] at h
    | cons a l =>
      simp only [areWK, Bool.and_eq_true] at h
      obtain ⟨h1, h2⟩ := ih h.2
      refine ⟨by simp [h1], fun i k' a' hk ha => ?_⟩
      cases i with
      | zero => simp at hk ha; subst hk; subst ha; exact h.1
      | succ i => simp at hk ha; exact h2 i k' a' hk ha

theorem wordsEq_cons {a b : AVal} {l m : List AVal} {r : Bool} (h : wordsEq (a :: l) (b :: m) = some r) : ∃ p q, wordEq a b = some p ∧ wordsEq l m = some q ∧ r = (p && q) := by
  simp only [wordsEq] at h
  split at h
  · rename_i p q h1 h2
    cases h
    exact ⟨p, q, h1, h2, rfl⟩
  · cases h

/-- The fields of two structs of words. -/
theorem run_eqFields_words (d : Nat) (xs ys : Array Value) : ∀ (fs : List Field) (ks : List WK) (i : Nat) (as bs : List AVal) (r : Bool), wksOf P i fs = some ks → areWK ks as = true → areWK ks bs = true →
    wordsEq as bs = some r → VRels G as (xs.toList.drop i) → VRels G bs (ys.toList.drop i) → (Op.eqFields (d + 1) xs ys fs).run P w = .ok r w
  | [], ks, i, as, bs, r, h1, h2, h3, h4, h5, h6 => by
    simp only [wksOf, Option.some.injEq] at h1
    subst h1
    cases as with
    | cons _ _ => simp [areWK] at h2
    | nil => cases bs with
      | cons _ _ => simp [areWK] at h3
      | nil => simp only [wordsEq, Option.some.injEq] at h4; subst h4; simp [Op.eqFields]
  | f :: fs, ks, i, as, bs, r, h1, h2, h3, h4, h5, h6 => by
    simp only [wksOf] at h1
    split at h1
    · rename_i hf
      obtain ⟨hf1, hf2⟩ := hf
      split at h1
      · rename_i k l hk hl
        cases h1
        cases as with
        | nil => simp [areWK] at h2
        | cons a as => cases bs with
          | nil => simp [areWK] at h3
          | cons b bs =>
            simp only [areWK, Bool.and_eq_true] at h2 h3
            obtain ⟨p, q, h7, h8, rfl⟩ := wordsEq_cons h4
            obtain ⟨x, m, e1, e2, e3⟩ := vrels_cons.1 h5
            obtain ⟨y, n, e4, e5, e6⟩ := vrels_cons.1 h6
            have hx : xs[i]? = some x := by
              have : (xs.toList.drop i)[0]? = some x := by rw [e1]; rfl
              simpa using this
            have hy : ys[i]? = some y := by
              have : (ys.toList.drop i)[0]? = some y := by rw [e4]; rfl
              simpa using this
            have hm : xs.toList.drop (i + 1) = m := by rw [← List.drop_drop, e1]; rfl
            have hn : ys.toList.drop (i + 1) = n := by rw [← List.drop_drop, e4]; rfl
            have ih := run_eqFields_words d xs ys fs l (i + 1) as bs q hl h2.2 h3.2 h8 (by rw [hm]; exact e3) (by rw [hn]; exact e6)
            have hw := run_equalIn_word (P := P) (w := w) hk h2.1 e2 e5 h7 d
            subst hf2
            simp only [Op.eqFields, if_pos hf1, Sem.run_bind, run_part_word hk hx, run_part_word hk hy, hw, Result.andThen_ok]
            cases p
            · simp
            · simpa using ih
      · cases h1
    · cases h1

theorem run_eqItems_words (d : Nat) {e : TypeId} {k : WK} (hk : wkOf P e = some k) (xs ys : Array Value) : ∀ (n i : Nat) (as bs : List AVal) (r : Bool), areWK (List.replicate n k) as = true → areWK (List.replicate n k) bs = true →
    wordsEq as bs = some r → VRels G as (xs.toList.drop i) → VRels G bs (ys.toList.drop i) → (Op.eqItems (d + 1) e 1 xs ys (List.range' i n)).run P w = .ok r w
  | 0, i, as, bs, r, h2, h3, h4, h5, h6 => by
    cases as with
    | cons _ _ => simp [areWK] at h2
    | nil => cases bs with
      | cons _ _ => simp [areWK] at h3
      | nil => simp only [wordsEq, Option.some.injEq] at h4; subst h4; simp [Op.eqItems]
  | n + 1, i, as, bs, r, h2, h3, h4, h5, h6 => by
    cases as with
    | nil => simp [areWK] at h2
    | cons a as => cases bs with
      | nil => simp [areWK] at h3
      | cons b bs =>
        simp only [List.replicate_succ, areWK, Bool.and_eq_true] at h2 h3
        obtain ⟨p, q, h7, h8, rfl⟩ := wordsEq_cons h4
        obtain ⟨x, m, e1, e2, e3⟩ := vrels_cons.1 h5
        obtain ⟨y, l, e4, e5, e6⟩ := vrels_cons.1 h6
        have hx : xs[i]? = some x := by
          have : (xs.toList.drop i)[0]? = some x := by rw [e1]; rfl
          simpa using this
        have hy : ys[i]? = some y := by
          have : (ys.toList.drop i)[0]? = some y := by rw [e4]; rfl
          simpa using this
        have hm : xs.toList.drop (i + 1) = m := by rw [← List.drop_drop, e1]; rfl
        have hn : ys.toList.drop (i + 1) = l := by rw [← List.drop_drop, e4]; rfl
        have ih := run_eqItems_words d hk xs ys n (i + 1) as bs q h2.2 h3.2 h8 (by rw [hm]; exact e3) (by rw [hn]; exact e6)
        have hw := run_equalIn_word (P := P) (w := w) hk h2.1 e2 e5 h7 d
        simp only [List.range'_succ, Op.eqItems, Nat.mul_one, Sem.run_bind, run_part_word hk hx, run_part_word hk hy, hw, Result.andThen_ok]
        cases p
        · simp
        · simpa using ih

theorem aggOf_some {t : TypeId} {ks : List WK} (h : aggOf P t = some ks) :
    (∃ fs, P.underlying t = some (.struct fs) ∧ P.stoodInHeld t = false ∧ wksOf P 0 fs.toList = some ks) ∨
    (∃ n e k i, P.underlying t = some (.array n e) ∧ wkOf P e = some k ∧ P.info? e = some i ∧ i.size = 1 ∧ ks = List.replicate n k) := by
  unfold aggOf at h
  split at h
  · rename_i fs hu
    split at h
    · cases h
    · rename_i hs
      exact .inl ⟨fs, hu, by simpa using hs, h⟩
  · rename_i n e hu
    split at h
    · rename_i k i hk hi
      split at h
      · rename_i h1
        cases h
        exact .inr ⟨n, e, k, i, hu, hk, hi, h1, rfl⟩
      · cases h
    · cases h
  · cases h

/-- Two structs or arrays of words. -/
theorem run_equalIn_agg_words {t : TypeId} {ks : List WK} (h : aggOf P t = some ks) {as bs : List AVal} {xs ys : Array Value} {r : Bool} (ha : areWK ks as = true) (hb : areWK ks bs = true) (he : wordsEq as bs = some r)
    (hx : VRels G as xs.toList) (hy : VRels G bs ys.toList) (d : Nat) : (Op.equalIn (d + 2) t (.agg xs) (.agg ys)).run P w = .ok r w := by
  rcases aggOf_some h with ⟨fs, h1, h2, h3⟩ | ⟨n, e, k, i, h1, h2, h3, h4, rfl⟩
  · have hf : P.fieldsOf t = fs := by simp [Program.fieldsOf, h1]
    rw [run_equalIn_struct w (d + 1) t xs ys (by rw [hf]; exact h1) h2, hf]
    exact run_eqFields_words d xs ys fs.toList ks 0 as bs r h3 ha hb he (by simpa using hx) (by simpa using hy)
  · rw [show d + 2 = (d + 1) + 1 from rfl, run_equalIn_array w (d + 1) xs ys h1 h3]
    have : P.cellsOf e = 1 := by simp [Program.cellsOf, h3, h4]
    rw [this, List.range_eq_range']
    exact run_eqItems_words d h2 xs ys n 0 as bs r ha hb he (by simpa using hx) (by simpa using hy)

theorem wksOf_all : ∀ (fs : List Field) (i : Nat) (ks : List WK), wksOf P i fs = some ks → ∀ f ∈ fs, ∃ k, wkOf P f.type = some k
  | [], _, _, _, f, hf => by simp at hf
  | g :: fs, i, ks, h, f, hf => by
    simp only [wksOf] at h
    split at h
    · split at h
      · rename_i k l hk hl
        rcases List.mem_cons.1 hf with rfl | hf
        · exact ⟨k, hk⟩
        · exact wksOf_all fs (i + 1) l hl f hf
      · cases h
    · cases h

theorem eqGuard_word {t : TypeId} {k : WK} (h : wkOf P t = some k) (d : Nat) : P.eqGuardType (d + 1) t = false := by
  cases k with
  | int => obtain ⟨j, hj⟩ := wkOf_int h; simp [Program.eqGuardType, hj]
  | str => simp [Program.eqGuardType, wkOf_str h]
  | bool => simp [Program.eqGuardType, wkOf_bool h]

theorem eqGuard_agg {t : TypeId} {ks : List WK} (h : aggOf P t = some ks) (d : Nat) : P.eqGuardType (d + 2) t = false := by
  rcases aggOf_some h with ⟨fs, h1, h2, h3⟩ | ⟨n, e, k, i, h1, h2, h3, h4, rfl⟩
  · simp only [Program.eqGuardType, h1]
    rw [← Bool.not_eq_true, Array.any_eq_true']
    rintro ⟨f, hf, hb⟩
    obtain ⟨k, hk⟩ := wksOf_all fs.toList 0 ks h3 f (by simpa using hf)
    have hg := eqGuard_word hk d
    simp only [Program.eqGuardType] at hg
    rw [hg] at hb
    simp at hb
  · rw [show d + 2 = (d + 1) + 1 from rfl, Program.eqGuardType]
    simp only [h1]
    exact eqGuard_word h2 d

end
end Go.Ago

set_option autoImplicit false
set_option linter.unusedSimpArgs false
set_option linter.unusedVariables false
namespace Go.Ago

section
variable {E : CEnv} {G : Gh} {Lb : Nat → Option Nat} {F : AFrame} {σ : AState} {a : Act} {w : World} {own : Nat → Prop}
variable {dst : Option Tmp} {ty : TypeId} {pos : String} {aft : Array Edge} {gd : Option (Nat × Bool)}

theorem lbeq (l m : List UInt8) : (l == m) = decide (l = m) := by
  rw [Bool.eq_iff_iff]
  simp

theorem equal_at {P : Program} {t : TypeId} {x y : Value} {r : Bool} (h : ∀ d, (Op.equalIn (d + 1) t x y).run P w = .ok r w) : (Op.equal t x y).run P w = .ok r w := h 9999

theorem equal_at2 {P : Program} {t : TypeId} {x y : Value} {r : Bool} (h : ∀ d, (Op.equalIn (d + 2) t x y).run P w = .ok r w) : (Op.equal t x y).run P w = .ok r w := h 9998

theorem run_bin {P : Program} {t : TypeId} {op : BinOp} {u v r : AVal} {x y : Value} (hx : VRel G u x) (hy : VRel G v y) (h : bin op u v = some r) (p q : Operand) :
    ∃ z, (do eqGuard op t p q x y; binOp op t x y : Sem Value).run P w = .ok z w ∧ VRel G r z := by
  unfold bin at h
  split at h
  · rename_i k m j n
    split at h
    · rename_i hkj
      subst hkj
      simp only [VRel] at hx hy
      subst hx; subst hy
      have hg : ∀ op, (eqGuard op t p q (.int k m) (.int k n)).run P w = .ok () w := fun op => by cases op <;> simp [eqGuard]
      cases op <;> simp only [binInt] at h <;> first
        | (cases h; done)
        | (cases h; exact ⟨_, by simp only [Sem.run_bind, hg, Result.andThen_ok]; simp [binOp, Op.intArith, Op.intCmp]; rfl, by simp only [VRel]⟩)
        | (split at h
           · cases h
           · rename_i hn
             cases h
             exact ⟨_, by simp only [Sem.run_bind, hg, Result.andThen_ok]; simp [binOp, Op.intDiv, hn]; rfl, by simp only [VRel]⟩)
    · cases h
  · rename_i s t'
    simp only [VRel] at hx hy
    subst hx; subst hy
    have hg : ∀ op, (eqGuard op t p q (.string s) (.string t')).run P w = .ok () w := fun op => by cases op <;> simp [eqGuard]
    cases op <;> simp only [binStr] at h <;> first
      | (cases h; done)
      | skip
    · obtain ⟨h1, h2⟩ := cond_some h
      cases h2
      have h3 := Nat.le_of_ble_eq_true h1
      have h4 : ¬ (((s.size + t'.size : Nat) : Int) > IntKind.i64.max) := by
        simp [IntKind.max, IntKind.signed, IntKind.bits]; omega
      exact ⟨.string (s ++ t'), by simp only [Sem.run_bind, hg, Result.andThen_ok]; simp only [binOp, Op.stringOp, if_neg h4]; rfl, by simp only [VRel]⟩
    all_goals (cases h; exact ⟨_, by simp only [Sem.run_bind, hg, Result.andThen_ok]; simp only [binOp, Op.stringOp, ByteArray.toList_eq, lbeq]; rfl, by simp only [VRel]⟩)
  · cases h

theorem snd_bin (R : Rel E G Lb F σ a w) {op : BinOp} {t u : TypeId} {x y : Operand} {p q : AOpd} {m n v : AVal} (hx : opdA x = some p) (hy : opdA y = some q) (hm : F.eval p = some m) (hn : F.eval q = some n)
    (hv : bin op m n = some v) : PureOut E.P ⟨dst, .binOp op t x y u, ty, pos, aft, gd⟩ a G w σ.get own v := by
  obtain ⟨z, h1, h2⟩ := run_bin (P := E.P) (w := w) (t := t) (R.opd hx hm) (R.opd hy hn) hv x y
  refine .quiet (x := z) ?_ h2
  simp only [execOp, Sem.run_bind]
  simp only [Sem.run_bind] at h1
  rw [h1]
  rfl

theorem isC_const {x : Operand} {p : AOpd} (hx : opdA x = some p) (h : p.isC = true) : ∃ c, x = .const c := by
  cases x with
  | const c => exact ⟨c, rfl⟩
  | tmp t => simp only [opdA, Option.some.injEq] at hx; subst hx; simp [AOpd.isC] at h
  | func f => simp only [opdA, Option.some.injEq] at hx; subst hx; simp [AOpd.isC] at h
  | global g => simp [opdA] at hx

/-- `==` where neither numbers nor strings are compared. -/
theorem run_eqv {P : Program} {t : TypeId} {k : EK} (hk : ekOf P t = some k) {m n : AVal} {x y : Value} {cx cy r : Bool} (hx : VRel G m x) (hy : VRel G n y) (h : eqvA k cx cy m n = some r)
    {p q : Operand} (hcx : cx = true → ∃ c, p = .const c) (hcy : cy = true → ∃ c, q = .const c) :
    (∀ op, (eqGuard op t p q x y).run P w = .ok () w) ∧ (Op.equal t x y).run P w = .ok r w ∧
    (∀ op : BinOp, op = .eql ∨ op = .neq → binOp op t x y = (do let b ← Op.equal t x y; pure (.bool (if op = .neq then !b else b)))) := by
  have hd : P.depth = (P.depth - 2) + 2 := by unfold Program.depth; omega
  unfold ekOf at hk
  split at hk <;> first
    | (cases hk; done)
    | skip
  · -- bool
    rename_i hu
    cases hk
    simp only [eqvA] at h
    split at h
    · cases h
      simp only [VRel] at hx hy
      subst hx; subst hy
      exact ⟨fun op => by cases op <;> simp [eqGuard], equal_at fun d => run_equalIn_bool' w d t _ _ hu, fun op ho => by rcases ho with rfl | rfl <;> simp [binOp]⟩
    · cases h
  · -- pointers
    rename_i e hu
    cases hk
    simp only [eqvA] at h
    split at h <;> first
      | (cases h; done)
      | skip
    all_goals
      cases h
      simp only [VRel] at hx hy
    · subst hx; subst hy
      exact ⟨fun op => by cases op <;> simp [eqGuard], equal_at fun d => by simp [Op.equalIn, run_underlying hu], fun op ho => by rcases ho with rfl | rfl <;> simp [binOp]⟩
    · subst hx; obtain ⟨b, _, rfl⟩ := hy
      exact ⟨fun op => by cases op <;> simp [eqGuard], equal_at fun d => by simp [Op.equalIn, run_underlying hu], fun op ho => by rcases ho with rfl | rfl <;> simp [binOp]⟩
    · subst hx; obtain ⟨b, o, vs, rfl, _⟩ := hy
      exact ⟨fun op => by cases op <;> simp [eqGuard], equal_at fun d => by simp [Op.equalIn, run_underlying hu], fun op ho => by rcases ho with rfl | rfl <;> simp [binOp]⟩
    · subst hx; obtain ⟨b, o, cap, sz, _, rfl⟩ := hy
      exact ⟨fun op => by cases op <;> simp [eqGuard], equal_at fun d => by simp [Op.equalIn, run_underlying hu], fun op ho => by rcases ho with rfl | rfl <;> simp [binOp]⟩
    · subst hy; obtain ⟨b, _, rfl⟩ := hx
      exact ⟨fun op => by cases op <;> simp [eqGuard], equal_at fun d => by simp [Op.equalIn, run_underlying hu], fun op ho => by rcases ho with rfl | rfl <;> simp [binOp]⟩
    · subst hy; obtain ⟨b, o, vs, rfl, _⟩ := hx
      exact ⟨fun op => by cases op <;> simp [eqGuard], equal_at fun d => by simp [Op.equalIn, run_underlying hu], fun op ho => by rcases ho with rfl | rfl <;> simp [binOp]⟩
    · subst hy; obtain ⟨b, o, cap, sz, _, rfl⟩ := hx
      exact ⟨fun op => by cases op <;> simp [eqGuard], equal_at fun d => by simp [Op.equalIn, run_underlying hu], fun op ho => by rcases ho with rfl | rfl <;> simp [binOp]⟩
  · -- slices against nil
    rename_i e hu
    cases hk
    simp only [eqvA] at h
    have fin : ∀ (ad : Option Addr) (len cap : Nat), x = .slice ad len cap → y = .slice none 0 0 → r = ad.isNone →
        (∀ op, (eqGuard op t p q x y).run P w = .ok () w) ∧ (Op.equal t x y).run P w = .ok r w ∧
        (∀ op : BinOp, op = .eql ∨ op = .neq → binOp op t x y = (do let b ← Op.equal t x y; pure (.bool (if op = .neq then !b else b)))) := by
      rintro ad len cap rfl rfl rfl
      refine ⟨fun op => by cases op <;> simp [eqGuard], ?_, fun op ho => by rcases ho with rfl | rfl <;> simp [binOp]⟩
      exact equal_at fun d => by cases ad <;> simp [Op.equalIn, run_underlying hu]
    split at h
    · rename_i es tok
      simp only [VRel] at hx hy
      obtain ⟨ad, cap, sz, vs, h1, h2, h3, h4⟩ := hx
      obtain ⟨ad', cap', sz', vs', h1', h2', h3', h4', h5', h6'⟩ := hy
      subst h4'; subst h6'
      refine fin ad _ cap h1 (by rw [h1']; rfl) ?_
      split at h
      · cases h
        obtain ⟨rfl, _⟩ := h4
        rfl
      · cases h
        obtain ⟨h5, _⟩ := h4
        cases ad <;> simp at h5 ⊢
      · cases h
        obtain ⟨b, o, rfl, _⟩ := h4
        rfl
      · split at h
        · cases h
        · rename_i hne
          cases h
          obtain ⟨b, o, rfl, _⟩ := h3 (fun he => hne he)
          rfl
    · simp only [VRel] at hx hy
      obtain ⟨b, o, cap, ad, c, h1, h2, h3, h4, h5⟩ := hx
      obtain ⟨ad', cap', sz', vs', h1', h2', h3', h4', h5', h6'⟩ := hy
      subst h4'; subst h6'
      cases h
      exact fin (some ad) _ c h4 (by rw [h1']; rfl) rfl
    · cases h
  · -- maps against nil
    rename_i k' e hu
    cases hk
    simp only [eqvA] at h
    split at h
    · rename_i ra
      cases h
      simp only [VRel] at hy
      subst hy
      cases ra with
      | none =>
        simp only [VRel] at hx
        subst hx
        exact ⟨fun op => by cases op <;> simp [eqGuard], equal_at fun d => by simp [Op.equalIn, run_underlying hu], fun op ho => by rcases ho with rfl | rfl <;> simp [binOp]⟩
      | some ra =>
        simp only [VRel] at hx
        obtain ⟨b, _, rfl⟩ := hx
        exact ⟨fun op => by cases op <;> simp [eqGuard], equal_at fun d => by simp [Op.equalIn, run_underlying hu], fun op ho => by rcases ho with rfl | rfl <;> simp [binOp]⟩
    · cases h
  · -- functions against nil
    rename_i ps rs vr hu
    cases hk
    simp only [eqvA] at h
    split at h <;> first
      | (cases h; done)
      | skip
    all_goals
      cases h
      simp only [VRel] at hx hy
    · subst hx; subst hy
      exact ⟨fun op => by cases op <;> simp [eqGuard], equal_at fun d => by simp [Op.equalIn, run_underlying hu], fun op ho => by rcases ho with rfl | rfl <;> simp [binOp]⟩
    · subst hx; obtain ⟨b, o, rfl, _⟩ := hy
      exact ⟨fun op => by cases op <;> simp [eqGuard], equal_at fun d => by simp [Op.equalIn, run_underlying hu], fun op ho => by rcases ho with rfl | rfl <;> simp [binOp]⟩
    · subst hy; obtain ⟨b, o, rfl, _⟩ := hx
      exact ⟨fun op => by cases op <;> simp [eqGuard], equal_at fun d => by simp [Op.equalIn, run_underlying hu], fun op ho => by rcases ho with rfl | rfl <;> simp [binOp]⟩
  · -- interfaces against nil
    rename_i ms hu
    cases hk
    simp only [eqvA] at h
    split at h <;> first
      | (cases h; done)
      | skip
    · split at h
      · rename_i hc
        cases h
        simp only [VRel] at hx hy
        subst hx; subst hy
        refine ⟨fun op => ?_, equal_at fun d => by simp [Op.equalIn, run_underlying hu], fun op ho => by rcases ho with rfl | rfl <;> simp [binOp]⟩
        have hco : (∃ c, p = .const c) ∨ (∃ c, q = .const c) := by
          simp only [Bool.or_eq_true] at hc
          exact hc.imp hcx hcy
        rcases hco with ⟨c, rfl⟩ | ⟨c, rfl⟩ <;> cases op <;> simp [eqGuard]
      · cases h
    all_goals
      cases h
      simp only [VRel] at hx hy
    · subst hx; obtain ⟨b, rfl, _⟩ := hy
      exact ⟨fun op => by cases op <;> simp [eqGuard], equal_at fun d => by simp [Op.equalIn, run_underlying hu], fun op ho => by rcases ho with rfl | rfl <;> simp [binOp]⟩
    · subst hy; obtain ⟨b, rfl, _⟩ := hx
      exact ⟨fun op => by cases op <;> simp [eqGuard], equal_at fun d => by simp [Op.equalIn, run_underlying hu], fun op ho => by rcases ho with rfl | rfl <;> simp [binOp]⟩
  all_goals
    simp only [Option.map_eq_some_iff] at hk
    obtain ⟨ks, hks, rfl⟩ := hk
    simp only [eqvA] at h
    split at h
    · obtain ⟨h1, h2⟩ := cond_some h
      simp only [Bool.and_eq_true] at h1
      simp only [VRel] at hx hy
      obtain ⟨xs, rfl, hxs⟩ := hx
      obtain ⟨ys, rfl, hys⟩ := hy
      refine ⟨fun op => run_eqGuard_agg w op t p q xs ys (by rw [hd]; exact eqGuard_agg hks _), ?_, fun op ho => by rcases ho with rfl | rfl <;> simp [binOp]⟩
      exact equal_at2 fun d => run_equalIn_agg_words hks h1.1 h1.2 h2 hxs hys d
    · cases h

theorem snd_eqv (R : Rel E G Lb F σ a w) {op : BinOp} {neg : Bool} {k : EK} {t u : TypeId} {x y : Operand} {p q : AOpd} {m n : AVal} {r : Bool} (hop : (op = .eql ∧ neg = false) ∨ (op = .neq ∧ neg = true)) (hk : ekOf E.P t = some k)
    (hx : opdA x = some p) (hy : opdA y = some q) (hm : F.eval p = some m) (hn : F.eval q = some n)
    (hv : eqvA k p.isC q.isC m n = some r) : PureOut E.P ⟨dst, .binOp op t x y u, ty, pos, aft, gd⟩ a G w σ.get own (.bool (bif neg then !r else r)) := by
  obtain ⟨h1, h2, h3⟩ := run_eqv (w := w) hk (R.opd hx hm) (R.opd hy hn) hv (isC_const hx) (isC_const hy)
  refine .quiet (x := .bool (bif neg then !r else r)) ?_ (by simp only [VRel])
  rcases hop with ⟨rfl, rfl⟩ | ⟨rfl, rfl⟩
  · simp [execOp, h1, h3, h2]
  · simp [execOp, h1, h3, h2]

end
end Go.Ago

set_option autoImplicit false
set_option linter.unusedSimpArgs false
set_option linter.unusedVariables false
namespace Go.Ago

def setV (cs : List Value) (off : Nat) : List Value → List Value
  | [] => cs
  | v :: r => setV (cs.set off v) (off + 1) r

theorem setV_length : ∀ (vs cs : List Value) (o : Nat), (setV cs o vs).length = cs.length
  | [], _, _ => rfl
  | _ :: r, cs, o => by simp [setV, setV_length r]

theorem fold_setV (off : Nat) : ∀ (l : List Value) (k : Nat) (cells : Array Value),
    ((l.zipIdx k).foldl (fun (cs : Array Value) (p : Value × Nat) => cs.setIfInBounds (off + p.2) p.1) cells).toList = setV cells.toList (off + k) l
  | [], k, cells => rfl
  | v :: r, k, cells => by
    simp only [List.zipIdx_cons, List.foldl_cons, setV]
    rw [fold_setV off r (k + 1) _]
    simp [Nat.add_assoc]

theorem VRels.setV {G : Gh} : ∀ {vs : List AVal} {m : List Value} {cs : List AVal} {c : List Value} (o : Nat), VRels G cs c → VRels G vs m → VRels G (setCells cs o vs) (setV c o m)
  | [], _, cs, c, o, h, hv => by rw [vrels_nil.1 hv]; exact h
  | v :: vs, _, cs, c, o, h, hv => by
    obtain ⟨x, m, rfl, h2, h3⟩ := vrels_cons.1 hv
    exact VRels.setV (o + 1) (h.set o h2) h3

/-- What is laid over a row of cells, part by part. -/
inductive PartsRel (G : Gh) (place : Nat → Option (Nat × Nat)) : List (Nat × AVal) → List (Nat × Value) → Prop
  | nil : PartsRel G place [] []
  | cons {i off n : Nat} {v : AVal} {x : Value} {l : List (Nat × AVal)} {m : List (Nat × Value)} : place i = some (off, n) → v.cells.length = n → VRel G v x → PartsRel G place l m →
      PartsRel G place ((off, v) :: l) ((i, x) :: m)

theorem fill_rel {G : Gh} {place : Nat → Option (Nat × Nat)} {l : List (Nat × AVal)} {m : List (Nat × Value)} (hp : PartsRel G place l m) : ∀ {cs cs' : List AVal} {c : Array Value}, fillA cs l = some cs' → VRels G cs c.toList →
    ∃ c', Instr.fill place c m = some c' ∧ VRels G cs' c'.toList := by
  induction hp with
  | nil =>
    intro cs cs' c h hc
    simp only [fillA, Option.some.injEq] at h
    subst h
    exact ⟨c, rfl, hc⟩
  | @cons i off n v x l m h1 h2 h3 h4 ih =>
    intro cs cs' c h hc
    simp only [fillA] at h
    obtain ⟨h5, h6⟩ := cond_some h
    have h5 := Nat.le_of_ble_eq_true h5
    have hs := h3.size
    have hl := hc.length
    have hnew : VRels G (setCells cs off v.cells) (x.cells.zipIdx.foldl (fun cs (c, j) => cs.setIfInBounds (off + j) c) c).toList := by
      have := hc.setV off h3.cells
      have e := fold_setV off x.cells.toList 0 c
      rw [Nat.add_zero] at e
      rw [← e] at this
      rw [← Array.foldl_toList, Array.toList_zipIdx]
      exact this
    obtain ⟨c', h7, h8⟩ := ih h6 hnew
    refine ⟨c', ?_, h8⟩
    simp only [Instr.fill, h1]
    have hb : (decide (x.cells.size ≠ n) || decide (off + x.cells.size > c.size)) = false := by
      have e1 : x.cells.size = n := by rw [hs]; exact h2
      have e2 : off + x.cells.size ≤ c.size := by
        have : c.toList.length = c.size := Array.length_toList
        omega
      simp [e1]; omega
    rw [hb]
    exact h7

section
variable {E : CEnv} {G : Gh} {Lb : Nat → Option Nat} {F : AFrame} {σ : AState} {a : Act} {w : World} {own : Nat → Prop}
variable {dst : Option Tmp} {ty : TypeId} {pos : String} {aft : Array Edge} {gd : Option (Nat × Bool)}

theorem partsA_rel (R : Rel E G Lb F σ a w) {fs : Array Field} {places : List (Nat × Nat)} (hpl : fs.toList.mapM (fun f => (E.P.info? f.type).map fun i => (f.offset, i.size)) = some places) :
    ∀ {parts : List (Nat × Operand)} {ps : List (Nat × Nat × AOpd)} {l : List (Nat × AVal)}, partsA E.P fs parts = some ps → partsEval F ps = some l → PartsRel G (places.toArray[·]?) l (parts.map fun (i, x) => (i, a.eval x))
  | [], ps, l, h1, h2 => by
    simp only [partsA, Option.some.injEq] at h1
    subst h1
    simp only [partsEval, Option.some.injEq] at h2
    subst h2
    exact .nil
  | (i, x) :: r, ps, l, h1, h2 => by
    simp only [partsA] at h1
    split at h1
    · rename_i f y l' hf hx hr
      split at h1
      · rename_i n g hl
        cases h1
        simp only [partsEval] at h2
        split at h2
        · rename_i v k hv hk
          obtain ⟨h3, h4⟩ := cond_some h2
          cases h4
          obtain ⟨inf, d, l1, l2, l3, _⟩ := lay_info hl
          refine .cons (n := n) ?_ (Nat.eq_of_beq_eq_true h3) (R.opd hx hv) (partsA_rel R hpl hr hk)
          have hf' : fs.toList[i]? = some f := by simpa using hf
          have key : ∀ (l : List Field) (m : List (Nat × Nat)) (i : Nat), l.mapM (fun f => (E.P.info? f.type).map fun i => (f.offset, i.size)) = some m → l[i]? = some f → m[i]? = some (f.offset, n) := by
            intro l
            induction l with
            | nil => intro m i _ h; simp at h
            | cons f' l ih =>
              intro m i hm h
              simp only [List.mapM_cons, Option.bind_eq_bind, Option.pure_def] at hm
              cases hi : E.P.info? f'.type with
              | none => simp [hi] at hm
              | some i' =>
                cases hr : l.mapM (fun f => (E.P.info? f.type).map fun i => (f.offset, i.size)) with
                | none => simp [hi, hr] at hm
                | some rest =>
                  simp [hi, hr] at hm
                  subst hm
                  cases i with
                  | zero =>
                    simp at h
                    subst h
                    rw [l1] at hi
                    cases hi
                    simp [l3]
                  | succ i =>
                    simp at h ⊢
                    exact ih rest i hr h
          have := key _ _ _ hpl hf'
          simpa using this
        · cases h2
      · cases h1
    · cases h1

theorem snd_build_struct (R : Rel E G Lb F σ a w) {t : TypeId} {fs : Array Field} {parts : Array (Nat × Operand)} {ps : List (Nat × Nat × AOpd)} {l : List (Nat × AVal)} {z cs : List AVal}
    (hu : E.P.underlying t = some (.struct fs)) (hz : zeroA E.P t = some (.agg z)) (hm : (fs.toList.mapM fun f => (E.P.info? f.type).map fun i => (f.offset, i.size)).isSome = true)
    (hps : partsA E.P fs parts.toList = some ps) (hl : partsEval F ps = some l) (hf : fillA z l = some cs) :
    PureOut E.P ⟨dst, .build t parts, ty, pos, aft, gd⟩ a G w σ.get own (.agg cs) := by
  obtain ⟨places, hpl⟩ := Option.isSome_iff_exists.1 hm
  obtain ⟨i, u, n, g, h1, h2, h3, h4, h5⟩ := zeroA_some hz
  have hrel := cval_rel G _ _ _ h4
  have hc := hrel.cells
  obtain ⟨c', h6, h7⟩ := fill_rel (partsA_rel R hpl hps hl) hf hc
  refine .quiet (x := .agg c') ?_ (by simp only [VRel]; exact ⟨_, rfl, h7⟩)
  have hb : E.P.built t (parts.map fun (i, x) => (i, a.eval x)).toList = some c' := by
    unfold Program.built
    rw [h1, hu]
    simp only [h2, hpl]
    simpa using h6
  have := run_build w t (parts.map fun (i, x) => (i, a.eval x)) c' hb
  simp only [execOp, Sem.run_bind, this, Result.andThen_ok, Sem.run_pure]

theorem partsArr_rel (R : Rel E G Lb F σ a w) (sz : Nat) : ∀ {parts : List (Nat × Operand)} {ps : List (Nat × Nat × AOpd)} {l : List (Nat × AVal)}, partsArr sz parts = some ps → partsEval F ps = some l →
    PartsRel G (fun i => some (i * sz, sz)) l (parts.map fun (i, x) => (i, a.eval x))
  | [], ps, l, h1, h2 => by
    simp only [partsArr, Option.some.injEq] at h1
    subst h1
    simp only [partsEval, Option.some.injEq] at h2
    subst h2
    exact .nil
  | (i, x) :: r, ps, l, h1, h2 => by
    simp only [partsArr] at h1
    split at h1
    · rename_i y l' hx hr
      cases h1
      simp only [partsEval] at h2
      split at h2
      · rename_i v k hv hk
        obtain ⟨h3, h4⟩ := cond_some h2
        cases h4
        exact .cons (n := sz) rfl (Nat.eq_of_beq_eq_true h3) (R.opd hx hv) (partsArr_rel R sz hr hk)
      · cases h2
    · cases h1

theorem snd_build_arr (R : Rel E G Lb F σ a w) {t e : TypeId} {len n : Nat} {g : Bool} {parts : Array (Nat × Operand)} {ps : List (Nat × Nat × AOpd)} {l : List (Nat × AVal)} {z cs : List AVal}
    (hu : E.P.underlying t = some (.array len e)) (hz : zeroA E.P t = some (.agg z)) (hle : lay E.P e = some (n, g))
    (hps : partsArr n parts.toList = some ps) (hl : partsEval F ps = some l) (hf : fillA z l = some cs) :
    PureOut E.P ⟨dst, .build t parts, ty, pos, aft, gd⟩ a G w σ.get own (.agg cs) := by
  obtain ⟨i, u, n', g', h1, h2, h3, h4, h5⟩ := zeroA_some hz
  obtain ⟨ie, d, l1, l2, l3, _⟩ := lay_info hle
  have hrel := cval_rel G _ _ _ h4
  have hc := hrel.cells
  obtain ⟨c', h6, h7⟩ := fill_rel (partsArr_rel R n hps hl) hf hc
  refine .quiet (x := .agg c') ?_ (by simp only [VRel]; exact ⟨_, rfl, h7⟩)
  have hb : E.P.built t (parts.map fun (i, x) => (i, a.eval x)).toList = some c' := by
    unfold Program.built
    rw [h1, hu]
    simp only [h2, l1, l3]
    simpa using h6
  have := run_build w t (parts.map fun (i, x) => (i, a.eval x)) c' hb
  simp only [execOp, Sem.run_bind, this, Result.andThen_ok, Sem.run_pure]

/-! ## New slices -/

theorem ERels.replicate {sz : Nat} {z : AVal} {u : Value} (h : VRel G z u) (hs : u.cells.size = sz) : ∀ n, ERels G sz (List.replicate n z) ((List.replicate n u.cells.toList).flatten)
  | 0 => by simp [erels_nil]
  | n + 1 => by
    simp only [List.replicate_succ, List.flatten_cons]
    exact erels_cons.2 ⟨u, _, rfl, h, hs, ERels.replicate h hs n⟩

/-- A row of the zero value. -/
theorem zeroRow (z : Array Value) (n : Nat) : ((Array.range (n * z.size)).map (z[· % z.size]!)).toList = (List.replicate n z.toList).flatten := by
  induction n with
  | zero => simp
  | succ n ih =>
    rw [List.replicate_succ', List.flatten_append, ← ih]
    rw [Nat.add_mul, Nat.one_mul]
    simp only [Array.toList_map, Array.toList_range, List.range_add, List.map_append, List.map_map, List.flatten_cons, List.flatten_nil, List.append_nil]
    congr 1
    apply List.ext_getElem
    · simp
    · intro i h1 h2
      simp at h1 h2
      simp [Nat.add_mod, Nat.mod_eq_of_lt h2, h2]

theorem setV_app (o : Nat) : ∀ (vs l m : List Value), l.length = o → setV (l ++ m) o vs = l ++ setV m 0 vs
  | [], l, m, _ => rfl
  | v :: vs, l, m, h => by
    simp only [setV]
    cases m with
    | nil =>
      have e : ((l ++ []).set o v) = l ++ [] := by rw [List.append_nil, List.set_eq_of_length_le (by omega)]
      rw [e, List.set_nil]
      have : ∀ (vs : List Value) (k : Nat) (l : List Value), l.length ≤ k → setV l k vs = l := by
        intro vs
        induction vs with
        | nil => intro k l _; rfl
        | cons v vs ih => intro k l hk; simp only [setV]; rw [List.set_eq_of_length_le hk]; exact ih _ _ (by omega)
      rw [this vs (o + 1) (l ++ []) (by simp; omega), this vs (0 + 1) [] (by simp)]
    | cons x m =>
      have e : ((l ++ x :: m).set o v) = (l ++ [v]) ++ m := by
        rw [List.set_append_right _ _ (by omega)]
        simp [h]
      rw [e, setV_app (o + 1) vs (l ++ [v]) m (by simp [h])]
      rw [List.append_assoc]
      congr 1
      simp only [List.set_cons_zero, List.cons_append, List.nil_append]
      rw [show (v :: m) = [v] ++ m from rfl, show (0 + 1) = 1 from rfl, setV_app 1 vs [v] m rfl]
      rfl
termination_by vs _ _ _ => vs.length

theorem setV_all (vs m : List Value) : ∀ (l : List Value), l.length = vs.length → setV (l ++ m) 0 vs = vs ++ m := by
  induction vs with
  | nil => intro l h; cases l with
    | nil => rfl
    | cons _ _ => simp at h
  | cons v vs ih =>
    intro l h
    cases l with
    | nil => simp at h
    | cons x l =>
      simp only [List.cons_append, setV, List.set_cons_zero]
      rw [show (v :: (l ++ m)) = [v] ++ (l ++ m) from rfl, setV_app 1 vs [v] (l ++ m) rfl, ih l (by simpa using h)]
      rfl

/-- An element laid into a row. -/
theorem ERels.setElem {sz : Nat} : ∀ {es : List AVal} {vs : List Value} {i : Nat} {v : AVal} {x : Value}, ERels G sz es vs → VRel G v x → x.cells.size = sz → i < es.length → ERels G sz (es.set i v) (setV vs (i * sz) x.cells.toList)
  | [], _, i, v, x, _, _, _, hi => by simp at hi
  | e :: es, _, 0, v, x, h, hx, hs, _ => by
    obtain ⟨y, m, rfl, h2, h3, h4⟩ := erels_cons.1 h
    rw [Nat.zero_mul, setV_all _ _ _ (by simp [h3, hs])]
    exact erels_cons.2 ⟨x, m, rfl, hx, hs, h4⟩
  | e :: es, _, i + 1, v, x, h, hx, hs, hi => by
    obtain ⟨y, m, rfl, h2, h3, h4⟩ := erels_cons.1 h
    have ih := h4.setElem hx hs (i := i) (by simpa using hi)
    refine erels_cons.2 ⟨y, setV m (i * sz) x.cells.toList, ?_, h2, h3, ih⟩
    have key : ∀ (vs l m : List Value) (k : Nat), setV (l ++ m) (l.length + k) vs = l ++ setV m k vs := by
      intro vs
      induction vs with
      | nil => intro l m k; rfl
      | cons v vs ih =>
        intro l m k
        simp only [setV]
        rw [List.set_append_right _ _ (by omega), show l.length + k - l.length = k by omega, Nat.add_assoc, ih l (m.set k v) (k + 1)]
    have := key x.cells.toList y.cells.toList m (i * sz)
    rw [show y.cells.toList.length + i * sz = (i + 1) * sz by simp [h3, Nat.add_mul]; omega] at this
    exact this

end
end Go.Ago

set_option autoImplicit false
set_option linter.unusedSimpArgs false
set_option linter.unusedVariables false
namespace Go.Ago

section
variable {E : CEnv} {G : Gh} {Lb : Nat → Option Nat} {F : AFrame} {σ : AState} {a : Act} {w : World} {own : Nat → Prop}
variable {dst : Option Tmp} {ty : TypeId} {pos : String} {aft : Array Edge} {gd : Option (Nat × Bool)}

/-- A new slice in new cells. -/
theorem vrel_new_slice (R : Rel E G Lb F σ a w) {es : List AVal} {c : Array Value} {sz : Nat} (h : ERels G sz es c.toList) :
    VRel (G.withIm w.heap.size c) (.slice es .full) (.slice (some ⟨w.heap.size, 0, none⟩) es.length es.length) := by
  have hle := (R.wr.newIm c 0).2
  simp only [VRel]
  refine ⟨_, _, sz, c.toList, rfl, ERels.mono hle _ _ _ h, fun _ => ⟨w.heap.size, 0, rfl, fun j v hj => ?_⟩, rfl, rfl⟩
  simp only [Gh.withIm, if_true, Nat.zero_add]
  simpa using hj

theorem fillElems_rel (R : Rel E G Lb F σ a w) {sz : Nat} (hsz : 0 < sz) : ∀ {parts : List (Nat × Operand)} {ps : List (Nat × AOpd)} {l : List (Nat × AVal)} {es : List AVal} {c : Array Value} {len : Nat},
    elemsA parts = some ps → elemsEval F sz ps = some l → (l.all fun p => Nat.blt p.1 len) = true → ERels G sz es c.toList → es.length = len →
    ∃ c', Instr.fill (fun i => some (i * sz, sz)) c (parts.map fun (i, x) => (i, a.eval x)) = some c' ∧ ERels G sz (setElems es l) c'.toList
  | [], ps, l, es, c, len, h1, h2, h3, h4, h5 => by
    simp only [elemsA, Option.some.injEq] at h1
    subst h1
    simp only [elemsEval, Option.some.injEq] at h2
    subst h2
    exact ⟨c, rfl, h4⟩
  | (i, x) :: r, ps, l, es, c, len, h1, h2, h3, h4, h5 => by
    simp only [elemsA] at h1
    split at h1
    · rename_i y l' hx hr
      cases h1
      simp only [elemsEval] at h2
      split at h2
      · rename_i v k hv hk
        obtain ⟨h6, h7⟩ := cond_some h2
        cases h7
        simp only [List.all_cons, Bool.and_eq_true] at h3
        obtain ⟨h3, h8⟩ := h3
        have hi : i < len := by
          have : Nat.ble (i + 1) len = true := h3
          exact Nat.le_of_ble_eq_true this
        have hrel := R.opd hx hv
        have hs : (a.eval x).cells.size = sz := by rw [hrel.size]; exact Nat.eq_of_beq_eq_true h6
        have hl := h4.length
        have hcs : c.size = len * sz := by
          have : c.toList.length = c.size := Array.length_toList
          rw [← this, hl, h5]
        have hnew : ERels G sz (es.set i v) ((a.eval x).cells.zipIdx.foldl (fun cs (c, j) => cs.setIfInBounds (i * sz + j) c) c).toList := by
          have := h4.setElem hrel hs (i := i) (by omega)
          have e := fold_setV (i * sz) (a.eval x).cells.toList 0 c
          rw [Nat.add_zero] at e
          rw [← e] at this
          rw [← Array.foldl_toList, Array.toList_zipIdx]
          exact this
        obtain ⟨c', h9, h10⟩ := fillElems_rel R hsz hr hk h8 hnew (by simpa using h5)
        refine ⟨c', ?_, h10⟩
        simp only [List.map_cons, Instr.fill]
        have hfit : i * sz + sz ≤ c.size := by
          rw [hcs]
          have : (i + 1) * sz ≤ len * sz := Nat.mul_le_mul_right _ hi
          rw [Nat.add_mul, Nat.one_mul] at this
          exact this
        have hb : (decide ((a.eval x).cells.size ≠ sz) || decide (i * sz + (a.eval x).cells.size > c.size)) = false := by
          rw [hs]
          simp; omega
        rw [hb]
        exact h9
      · cases h2
    · cases h1

theorem snd_bslice (R : Rel E G Lb F σ a w) {t e : TypeId} {len n : Nat} {g : Bool} {z : AVal} {parts : Array (Nat × Operand)} {ps : List (Nat × AOpd)} {l : List (Nat × AVal)}
    (ht : E.P.underlying t = some (.slice e)) (hl : lay E.P e = some (n, g)) (hz : zeroA E.P e = some z) (hps : elemsA parts.toList = some ps) (hlen : len * n ≤ 16777216) (hn : 0 < n)
    (hel : elemsEval F n ps = some l) (hall : (l.all fun p => Nat.blt p.1 len) = true) :
    PureOut E.P ⟨dst, .buildSlice t len parts, ty, pos, aft, gd⟩ a G w σ.get own (.slice (setElems (List.replicate len z) l) .full) := by
  obtain ⟨i, u, n', g', h1, h2, h3, h4, h5⟩ := zeroA_some hz
  obtain ⟨ie, d, l1, l2, l3, _⟩ := lay_info hl
  rw [l1] at h1; cases h1
  rw [hl] at h3; cases h3
  have hrel := cval_rel G _ _ _ h4
  have hus : u.cells.size = n := by rw [hrel.size, h5]
  -- the row before the parts
  have hrow : ERels G n (List.replicate len z) ((Array.range (len * u.cells.size)).map (u.cells[· % u.cells.size]!)).toList := by
    rw [zeroRow]
    exact ERels.replicate hrel hus len
  obtain ⟨c', h6, h7⟩ := fillElems_rel R hn hps hel hall hrow (by simp)
  have hlen' : ∀ (l : List (Nat × AVal)) (es : List AVal), (setElems es l).length = es.length := by
    intro l
    induction l with
    | nil => intro es; rfl
    | cons p l ih => intro es; obtain ⟨i, v⟩ := p; simp [setElems, ih]
  have hsl := vrel_new_slice R h7
  have hL : (setElems (List.replicate len z) l).length = len := by rw [hlen']; simp
  rw [hL] at hsl
  refine .inr (.inl ⟨_, c', e, ?_, hsl⟩)
  have hz0 : (zeroValue e).run E.P w = .ok u w := run_zeroValue l1 h2
  have hnot : ¬ len * n > 2 ^ 24 := by omega
  by_cases h0 : len * n = 0
  · have hl0 : len = 0 := by
      rcases Nat.mul_eq_zero.1 h0 with h | h
      · exact h
      · omega
    subst hl0
    have hr0 : Array.range 0 = #[] := rfl
    simp only [Nat.zero_mul, hr0, Array.map_empty] at h6
    have h6' : Instr.fill (fun i => some (i * n, n)) #[] (Array.map (fun (x : Nat × Operand) => match x with | (i, x) => (i, a.eval x)) parts).toList = some c' := by simpa using h6
    simp only [execOp, Instr.buildSlice, Sem.run_bind, run_underlying ht, run_sizeOf l1, l3, Result.andThen_ok, if_neg hnot, if_pos h0, Sem.run_pure, Nat.zero_mul, hr0, Array.map_empty, h6', newRow]
    simp
  · have h6' : Instr.fill (fun i => some (i * n, n)) ((Array.range (len * n)).map (u.cells[· % u.cells.size]!)) (Array.map (fun (x : Nat × Operand) => match x with | (i, x) => (i, a.eval x)) parts).toList = some c' := by
      rw [hus] at h6
      rw [hus]
      simpa using h6
    simp only [execOp, Instr.buildSlice, Sem.run_bind, run_underlying ht, run_sizeOf l1, l3, Result.andThen_ok, if_neg hnot, if_neg h0, hz0, Sem.run_pure, h6', newRow]
    simp

theorem wrap_small (n : Nat) (h : n ≤ 1073741824) : IntKind.i64.wrap (n : Int) = n :=
  IntWalk.i64_in (n := (n : Int)) ⟨by omega, by omega⟩

theorem snd_mksl (R : Rel E G Lb F σ a w) {t e : TypeId} {n m : Nat} {g : Bool} {z : AVal} {i : TypeInfo} {x y : Operand} {p q : AOpd} {k k' : IntKind}
    (ht : E.P.underlying t = some (.slice e)) (hi : E.P.info? e = some i) (hl : lay E.P e = some (n, g)) (hz : zeroA E.P e = some z) (hn : 0 < n) (hb : i.bytes ≤ 65536)
    (hx : opdA x = some p) (hy : opdA y = some q) (hp : F.eval p = some (.int k (m : Int))) (hq : F.eval q = some (.int k' (m : Int))) (hm : m ≤ 1073741824) :
    PureOut E.P ⟨dst, .makeSlice t x y, ty, pos, aft, gd⟩ a G w σ.get own (.slice (List.replicate m z) .full) := by
  obtain ⟨i', u, n', g', h1, h2, h3, h4, h5⟩ := zeroA_some hz
  rw [hi] at h1; cases h1
  rw [hl] at h3; cases h3
  obtain ⟨ie, d, l1, l2, l3, _⟩ := lay_info hl
  rw [hi] at l1; cases l1
  have hrel := cval_rel G _ _ _ h4
  have hus : u.cells.size = n := by rw [hrel.size, h5]
  have hxv := R.opd hx hp
  have hyv := R.opd hy hq
  simp only [VRel] at hxv hyv
  have hrow : ERels G n (List.replicate m z) ((Array.range (m * u.cells.size)).map (u.cells[· % u.cells.size]!)).toList := by
    rw [zeroRow]
    exact ERels.replicate hrel hus m
  have hsl := vrel_new_slice R hrow
  rw [List.length_replicate] at hsl
  refine .inr (.inl ⟨_, _, e, ?_, hsl⟩)
  have hz0 : (zeroValue e).run E.P w = .ok u w := run_zeroValue hi h2
  have hw := wrap_small m hm
  have hmul : i.bytes * m ≤ 65536 * 1073741824 := Nat.mul_le_mul hb hm
  have hbig' : ¬ (281474976710656 < (i.bytes : Int) * (m : Int)) := by
    rw [← Int.natCast_mul]
    omega
  have hneg : ¬ ((m : Int) < 0) := by omega
  by_cases h0 : m * n = 0
  · have hl0 : m = 0 := by
      rcases Nat.mul_eq_zero.1 h0 with h | h
      · exact h
      · omega
    subst hl0
    have hw0 : IntKind.i64.wrap 0 = 0 := by simpa using hw
    have hr0 : Array.range 0 = #[] := rfl
    simp [execOp, Instr.makeSlice, run_underlying ht, run_typeInfo hi, run_sizeOf hi, l3, newRow, hxv, hyv, asInt, asIntOf, hw0, hr0]
  · have h0' : ¬ (m * i.size = 0) := by rw [l3]; exact h0
    simp [execOp, Instr.makeSlice, run_underlying ht, run_typeInfo hi, run_sizeOf hi, newRow, hxv, hyv, asInt, asIntOf, hw, hbig', hneg, h0', hz0]
    simp [l3, hus]

end
end Go.Ago

set_option autoImplicit false
set_option linter.unusedSimpArgs false
set_option linter.unusedVariables false
namespace Go.Ago

section
variable {E : CEnv} {G : Gh} {Lb : Nat → Option Nat} {F : AFrame} {σ : AState} {a : Act} {w : World} {own : Nat → Prop}
variable {dst : Option Tmp} {ty : TypeId} {pos : String} {aft : Array Edge} {gd : Option (Nat × Bool)}

theorem fold_none {f : Option AVal → AVal → Option AVal} (hf : ∀ b, f none b = none) : ∀ (l : List AVal), l.foldl f none = none
  | [] => rfl
  | b :: l => by simp only [List.foldl_cons, hf, fold_none hf l]

theorem run_max {P : Program} : ∀ (vs : List AVal) (xs : List Value) (u : AVal) (x : Value) (r : AVal), VRel G u x → VRels G vs xs → vs.foldl max2A (some u) = some r → ∃ y, (xs.foldlM Builtin.max2 x).run P w = .ok y w ∧ VRel G r y
  | [], xs, u, x, r, hu, hvs, h => by
    rw [vrels_nil.1 hvs]
    simp only [List.foldl_nil, Option.some.injEq] at h
    subst h
    exact ⟨x, by simp, hu⟩
  | v :: vs, xs, u, x, r, hu, hvs, h => by
    obtain ⟨y, m, rfl, h2, h3⟩ := vrels_cons.1 hvs
    simp only [List.foldl_cons] at h
    cases hm : max2A (some u) v with
    | none => rw [hm, fold_none (by intro b; rfl)] at h; cases h
    | some t =>
      rw [hm] at h
      unfold max2A at hm
      split at hm
      · rename_i k a' k' b' e1
        cases e1
        cases hm
        simp only [VRel] at hu h2
        subst hu; subst h2
        obtain ⟨z, h4, h5⟩ := run_max vs m _ (.int k (if b' > a' then b' else a')) r (by simp only [VRel]) h3 h
        refine ⟨z, ?_, h5⟩
        simp only [List.foldlM_cons, Builtin.max2, Sem.run_bind, Sem.run_pure, Result.andThen_ok]
        exact h4
      · cases hm

theorem run_min {P : Program} : ∀ (vs : List AVal) (xs : List Value) (u : AVal) (x : Value) (r : AVal), VRel G u x → VRels G vs xs → vs.foldl min2A (some u) = some r → ∃ y, (xs.foldlM Builtin.min2 x).run P w = .ok y w ∧ VRel G r y
  | [], xs, u, x, r, hu, hvs, h => by
    rw [vrels_nil.1 hvs]
    simp only [List.foldl_nil, Option.some.injEq] at h
    subst h
    exact ⟨x, by simp, hu⟩
  | v :: vs, xs, u, x, r, hu, hvs, h => by
    obtain ⟨y, m, rfl, h2, h3⟩ := vrels_cons.1 hvs
    simp only [List.foldl_cons] at h
    cases hm : min2A (some u) v with
    | none => rw [hm, fold_none (by intro b; rfl)] at h; cases h
    | some t =>
      rw [hm] at h
      unfold min2A at hm
      split at hm
      · rename_i k a' k' b' e1
        cases e1
        cases hm
        simp only [VRel] at hu h2
        subst hu; subst h2
        obtain ⟨z, h4, h5⟩ := run_min vs m _ (.int k (if b' < a' then b' else a')) r (by simp only [VRel]) h3 h
        refine ⟨z, ?_, h5⟩
        simp only [List.foldlM_cons, Builtin.min2, Sem.run_bind, Sem.run_pure, Result.andThen_ok]
        exact h4
      · cases hm

theorem snd_max (R : Rel E G Lb F σ a w) {args : Array Operand} {argTypes : Array TypeId} {ps : List AOpd} {u v : AVal} {vs : List AVal} (hp : travO opdA args.toList = some ps) (hv : F.evals ps = some (u :: vs))
    (h : vs.foldl max2A (some u) = some v) : PureOut E.P ⟨dst, .call ⟨.builtin .max, args, argTypes⟩, ty, pos, aft, gd⟩ a G w σ.get own v := by
  have hr := R.opds hp hv
  obtain ⟨x, m, h1, h2, h3⟩ := vrels_cons.1 hr
  obtain ⟨y, h4, h5⟩ := run_max (P := E.P) (w := w) vs m u x v h2 h3 h
  refine .quiet (x := y) ?_ h5
  have : (args.map a.eval).toList = x :: m := by simpa using h1
  simp [execOp, resolve, invoke, builtin, Builtin.max_, this, h1, h4]

theorem snd_min (R : Rel E G Lb F σ a w) {args : Array Operand} {argTypes : Array TypeId} {ps : List AOpd} {u v : AVal} {vs : List AVal} (hp : travO opdA args.toList = some ps) (hv : F.evals ps = some (u :: vs))
    (h : vs.foldl min2A (some u) = some v) : PureOut E.P ⟨dst, .call ⟨.builtin .min, args, argTypes⟩, ty, pos, aft, gd⟩ a G w σ.get own v := by
  have hr := R.opds hp hv
  obtain ⟨x, m, h1, h2, h3⟩ := vrels_cons.1 hr
  obtain ⟨y, h4, h5⟩ := run_min (P := E.P) (w := w) vs m u x v h2 h3 h
  refine .quiet (x := y) ?_ h5
  have : (args.map a.eval).toList = x :: m := by simpa using h1
  simp [execOp, resolve, invoke, builtin, Builtin.min_, this, h1, h4]

end
end Go.Ago

set_option autoImplicit false
set_option linter.unusedSimpArgs false
set_option linter.unusedVariables false
namespace Go.Ago

section
variable {E : CEnv} {G : Gh} {Lb : Nat → Option Nat} {F : AFrame} {σ : AState} {a : Act} {w : World}

theorem map_some' {α β : Type} {x : Option α} {f : α → β} {y : β} (h : x.map f = some y) : ∃ z, x = some z ∧ y = f z := by
  cases x with
  | none => cases h
  | some z => simp only [Option.map_some, Option.some.injEq] at h; exact ⟨z, rfl, h.symm⟩

/-- The names that an operation takes, beside what lies under them. -/
def ownOf (base j k : Nat) (r : Nat) : Prop := base + j ≤ r ∧ r < base + j + k

set_option maxHeartbeats 2000000 in
theorem pure_sound (R : Rel E G Lb F σ a w) {o : Oper} {base j k : Nat} {op : AOp} {init : List (Nat × AObj)} {v : AVal} (hc : compOp E j o = some (op, k, init)) (hcls : op.cls = .pure)
    (hv : pureOp base op F = some v) (hinit : ∀ p ∈ init, σ.get (base + p.1) = some p.2) : PureOut E.P o a G w σ.get (ownOf base j k) v := by
  obtain ⟨dst, mop, ty, pos, aft, gd⟩ := o
  cases mop with
  | move x =>
    obtain ⟨y, h1, h2⟩ := bare_some hc
    cases h2
    exact snd_move R h1 hv
  | assign x =>
    obtain ⟨y, h1, h2⟩ := bare_some hc
    cases h2
    exact snd_assign R h1 hv
  | pick c x y =>
    simp only [compOp] at hc
    split at hc
    · rename_i c' x' y' h1 h2 h3
      cases hc
      simp only [pureOp] at hv
      split at hv
      · rename_i t ht
        exact snd_pick R h1 h2 h3 ht hv
      · cases hv
    · cases hc
  | alloc e =>
    simp only [compOp] at hc
    split at hc
    · rename_i z d h1
      split at hc
      · cases hc; cases hcls
      · cases hc
        simp only [pureOp, Option.some.injEq] at hv
        subst hv
        exact snd_alloc R h1 (hinit (j, _) (List.mem_singleton.2 rfl)) ⟨Nat.le_refl _, by omega⟩
    · cases hc
  | box e x =>
    simp only [compOp] at hc
    split at hc
    · split at hc <;> (cases hc; cases hcls)
    · cases hc
  | build t parts =>
    simp only [compOp] at hc
    split at hc
    · rename_i fs z h1 h2
      split at hc
      · rename_i h3
        obtain ⟨ps, h4, h5⟩ := bare_some hc
        cases h5
        simp only [pureOp] at hv
        split at hv
        · rename_i l hl
          obtain ⟨cs, h6, rfl⟩ := map_some' hv
          exact snd_build_struct R h1 h2 h3 h4 hl h6
        · cases hv
      · cases hc
    · rename_i len e z h1 h2
      split at hc
      · rename_i n g h3
        obtain ⟨ps, h4, h5⟩ := bare_some hc
        cases h5
        simp only [pureOp] at hv
        split at hv
        · rename_i l hl
          obtain ⟨cs, h6, rfl⟩ := map_some' hv
          exact snd_build_arr R h1 h2 h3 h4 hl h6
        · cases hv
      · cases hc
    · cases hc
  | buildSlice t len parts =>
    simp only [compOp] at hc
    split at hc
    · rename_i e h1
      split at hc
      · rename_i n g z ps h2 h3 h4
        split at hc
        · rename_i h5
          cases hc
          simp only [pureOp] at hv
          split at hv
          · rename_i l hl
            obtain ⟨h6, h7⟩ := cond_some hv
            cases h7
            exact snd_bslice R h1 h2 h3 h4 h5.1 h5.2 hl h6
          · cases hv
        · cases hc
      · cases hc
    · cases hc
  | load t x =>
    simp only [compOp] at hc
    split at hc
    · split at hc <;> (cases hc; cases hcls)
    · cases hc
  | store t x y =>
    simp only [compOp] at hc
    split at hc
    · split at hc <;> (cases hc; cases hcls)
    · cases hc
  | nilCheck x =>
    obtain ⟨y, h1, h2⟩ := bare_some hc
    cases h2
    simp only [pureOp] at hv
    cases hy : F.eval y with
    | none => rw [hy] at hv; cases hv
    | some u =>
      rw [hy] at hv
      refine snd_nilCheck R h1 hy ?_
      cases u <;> first
        | exact hv
        | cases hv
  | binOp op' t x y u =>
    simp only [compOp] at hc
    split at hc
    · rename_i p q h1 h2
      split at hc
      · split at hc <;> first
          | (cases hc; done)
          | (cases hc
             simp only [pureOp] at hv
             split at hv
             · rename_i m n h3 h4
               exact snd_bin R h1 h2 h3 h4 hv
             · cases hv)
      · split at hc <;> first
          | (cases hc; done)
          | (cases hc
             simp only [pureOp] at hv
             split at hv
             · rename_i m n h3 h4
               exact snd_bin R h1 h2 h3 h4 hv
             · cases hv)
      · split at hc
        · rename_i ek h3
          cases hc
          simp only [pureOp] at hv
          split at hv
          · rename_i m n h4 h5
            obtain ⟨r, h6, rfl⟩ := map_some' hv
            exact snd_eqv (neg := false) R (.inl ⟨rfl, rfl⟩) h3 h1 h2 h4 h5 h6
          · cases hv
        · rename_i ek h3
          cases hc
          simp only [pureOp] at hv
          split at hv
          · rename_i m n h4 h5
            obtain ⟨r, h6, rfl⟩ := map_some' hv
            exact snd_eqv (neg := true) R (.inr ⟨rfl, rfl⟩) h3 h1 h2 h4 h5 h6
          · cases hv
        · cases hc
    · cases hc
  | unOp op' t x =>
    obtain ⟨y, h1, h2⟩ := bare_some hc
    cases h2
    exact snd_un R h1 hv
  | convert s t x =>
    simp only [compOp] at hc
    split at hc
    · rename_i j' k' h1 h2
      obtain ⟨y, h3, h4⟩ := bare_some hc
      cases h4
      exact snd_conv R h1 h2 h3 hv
    · rename_i h1 h2
      obtain ⟨y, h3, h4⟩ := bare_some hc
      cases h4
      simp only [pureOp] at hv
      split at hv
      · rename_i s' h5
        cases hv
        exact snd_same R h1 h2 h3 h5 ⟨_, rfl⟩
      · cases hv
    · cases hc
  | makeInterface t x =>
    simp only [compOp] at hc
    split at hc
    · cases hc
    · cases hc
    · rename_i h1 h2
      obtain ⟨y, h3, h4⟩ := bare_some hc
      cases h4
      simp only [pureOp] at hv
      obtain ⟨u, h5, rfl⟩ := map_some' hv
      cases ht : E.P.underlying t with
      | none => exact absurd ht h2
      | some d => exact snd_makeInterface R ht (fun ms he => h1 ms (by rw [ht, he])) h3 h5
  | makeFunc fn first captured =>
    cases fn with
    | func f =>
      simp only [compOp] at hc
      split at hc
      · rename_i p q h1 h2
        cases hc
        simp only [pureOp] at hv
        split at hv
        · rename_i u v' h3 h4
          cases hv
          exact snd_makeFunc R h1 h2 h3 h4
        · cases hv
      · cases hc
    | _ => simp [compOp] at hc
  | makeMap t r =>
    simp only [compOp] at hc
    split at hc
    · rename_i k' e h1
      cases hc
      simp only [pureOp, Option.some.injEq] at hv
      subst hv
      exact snd_makeMap R h1 (.inl rfl) (hinit (j, _) (List.mem_singleton.2 rfl)) ⟨Nat.le_refl _, by omega⟩
    · rename_i k' e kk n h1
      cases hc
      simp only [pureOp, Option.some.injEq] at hv
      subst hv
      exact snd_makeMap R h1 (.inr ⟨_, _, rfl⟩) (hinit (j, _) (List.mem_singleton.2 rfl)) ⟨Nat.le_refl _, by omega⟩
    · cases hc
  | makeSlice t x y =>
    simp only [compOp] at hc
    split at hc
    · rename_i e h1
      split at hc
      · rename_i i n g z l c h2 h3 h4 h5 h6
        split at hc
        · rename_i h7
          cases hc
          simp only [pureOp] at hv
          split at hv
          · rename_i k1 m k2 c' h8 h9
            obtain ⟨h10, h11⟩ := cond_some hv
            cases h11
            simp only [Bool.and_eq_true] at h10
            obtain ⟨⟨h11, h12⟩, h13⟩ := h10
            have e := Nat.eq_of_beq_eq_true h11
            subst e
            exact snd_mksl R h1 h2 h3 h4 h7.1 h7.2 h5 h6 h8 h9 (Nat.le_of_ble_eq_true h12)
          · cases hv
        · cases hc
      · cases hc
    · cases hc
  | slice t x lo hi mx =>
    simp only [compOp] at hc
    split at hc
    · rename_i x' lo' hi' h1 h2 h3 h4 h5
      cases hc
      simp only [pureOp] at hv
      split at hv
      · rename_i u p q r h6 h7 h8 h9
        simp only [cond_true] at hv
        split at hv
        · rename_i s
          simp only [optEval, Option.some.injEq] at h9
          have hmx : mx = none := by
            cases mx with
            | none => rfl
            | some m =>
              simp only [optA] at h5
              cases hm : opdA m <;> rw [hm] at h5 <;> cases h5
          subst hmx
          exact snd_sub_str R h1 h2 h3 h4 h6 h7 h8 hv
        · cases hv
      · cases hv
    · rename_i e x' lo' hi' mx' h1 h2 h3 h4 h5
      split at hc
      · rename_i n g h6
        split at hc
        · cases hc
          simp only [pureOp] at hv
          split at hv
          · rename_i u p q r h7 h8 h9 h10
            simp only [cond_false] at hv
            obtain ⟨h11, h12⟩ := cond_some hv
            refine snd_sub_slice R h1 h6 h2 h3 h4 h5 h7 h8 h9 h10 ?_ h12
            cases r with
            | none => exact .inl rfl
            | some _ =>
              cases q with
              | none => simp at h11
              | some _ => exact .inr (by simp)
          · cases hv
        · cases hc
      · cases hc
    · cases hc
  | fieldAddr t x i =>
    simp only [compOp] at hc
    split at hc
    · rename_i fs y h1 h2
      split at hc
      · rename_i f h3
        split at hc
        · rename_i n g h4
          split at hc
          · rename_i h5
            split at hc
            · cases hc; cases hcls
            · cases hc
              exact snd_fieldAddr R h1 h3 h4 h5 h2 hv
          · cases hc
        · cases hc
      · cases hc
    · cases hc
  | field t x i =>
    simp only [compOp] at hc
    split at hc
    · rename_i fs y h1 h2
      split at hc
      · rename_i f h3
        split at hc
        · rename_i n g h4
          cases hc
          simp only [pureOp] at hv
          split at hv
          · rename_i cs h5
            exact snd_field R h1 h3 h4 h2 h5 hv
          · cases hv
        · cases hc
      · cases hc
    · cases hc
  | indexAddr t x i =>
    simp only [compOp] at hc
    split at hc
    · rename_i len e y z h1 h2 h3
      split at hc
      · rename_i n g h4
        split at hc
        · split at hc
          · split at hc
            · cases hc; cases hcls
            · cases hc
          · cases hc
          · split at hc
            · cases hc
              simp only [pureOp] at hv
              split at hv
              · rename_i k' iv h5
                cases hy : F.eval y with
                | none => rw [hy] at hv; cases hv
                | some u =>
                  refine snd_indexAddr_arr R h1 h4 h2 h3 h5 hy ?_
                  rw [hy] at hv
                  cases u <;> first
                    | exact hv
                    | cases hv
              · cases hv
            · cases hc
        · cases hc
      · cases hc
    · rename_i e y z h1 h2 h3
      split at hc
      · rename_i n g h4
        split at hc
        · cases hc
          simp only [pureOp] at hv
          split at hv
          · rename_i k' iv h5
            cases hy : F.eval y with
            | none => rw [hy] at hv; cases hv
            | some u =>
              refine snd_indexAddr_slice R h1 h4 h2 h3 h5 hy ?_
              rw [hy] at hv
              cases u <;> first
                | exact hv
                | cases hv
          · cases hv
        · cases hc
      · cases hc
    · cases hc
  | index t x i =>
    simp only [compOp] at hc
    split at hc
    · rename_i len e y z h1 h2 h3
      split at hc
      · rename_i n g h4
        cases hc
        simp only [pureOp] at hv
        split at hv
        · rename_i cs k' iv h5 h6
          split at hv
          · rename_i m h7
            exact snd_index_arr R h1 h4 h2 h3 h6 h5 h7 hv
          · cases hv
        · cases hv
      · cases hc
    · rename_i y z h1 h2 h3
      cases hc
      simp only [pureOp] at hv
      split at hv
      · rename_i s k' iv h5 h6
        split at hv
        · rename_i m h7
          obtain ⟨b, h8, rfl⟩ := map_some' hv
          exact snd_index_str R h1 h2 h3 h6 h5 h7 h8
        · cases hv
      · cases hv
    · cases hc
  | lookup t m k' ok =>
    simp only [compOp] at hc
    split at hc
    · split at hc
      · obtain ⟨kt, h1, h2⟩ := map_some' hc
        cases h2; cases hcls
      · cases hc
    · cases hc
  | mapUpdate t m k' u =>
    simp only [compOp] at hc
    split at hc
    · obtain ⟨kt, h1, h2⟩ := map_some' hc
      cases h2; cases hcls
    · cases hc
  | range t x =>
    simp only [compOp] at hc
    split at hc
    · obtain ⟨kt, h1, h2⟩ := map_some' hc
      cases h2; cases hcls
    · cases hc
  | next x b =>
    cases b with
    | true => simp [compOp] at hc
    | false =>
      obtain ⟨y, h1, h2⟩ := bare_some hc
      cases h2; cases hcls
  | entry x =>
    obtain ⟨y, h1, h2⟩ := bare_some hc
    cases h2; cases hcls
  | typeAssert x xt t ok =>
    simp only [compOp] at hc
    split at hc
    · cases hc
    · rename_i d z hd h1 h2
      obtain ⟨y, h3, h4⟩ := bare_some hc
      cases h4
      refine snd_typeAssert R h1 (fun ms he => hd ms he) h2 h3 ?_
      simp only [pureOp] at hv
      split at hv <;> split <;> first
        | exact hv
        | simp_all
    · cases hc
  | extract x i =>
    obtain ⟨y, h1, h2⟩ := bare_some hc
    cases h2
    exact snd_extract R h1 hv
  | call c =>
    simp only [compOp, compCall] at hc
    obtain ⟨callee, args, argTypes⟩ := c
    cases callee with
    | value f =>
      simp only at hc
      split at hc
      · obtain ⟨y, h1, h2⟩ := bare_some hc
        cases h2; cases hcls
      · split at hc
        · cases hc; cases hcls
        · cases hc
      · rename_i heq; cases heq
      · rename_i heq; cases heq
    | invoke x name =>
      simp only at hc
      split at hc
      · cases hc; cases hcls
      · cases hc
    | builtin b =>
      simp only at hc
      split at hc
      · split at hc <;> first
          | (cases hc; done)
          | (obtain ⟨y, h1, h2⟩ := bare_some hc
             cases h2; cases hcls)
      · split at hc
        · split at hc
          · split at hc
            · cases hc; cases hcls
            · cases hc
          · cases hc
        · split at hc
          · split at hc
            · cases hc; cases hcls
            · cases hc
          · cases hc
        · cases hc
      · split at hc
        · split at hc
          · cases hc; cases hcls
          · cases hc
        · cases hc
      · obtain ⟨ps, h1, h2⟩ := bare_some hc
        cases h2
        simp only [pureOp] at hv
        split at hv
        · rename_i u vs h3
          exact snd_max R (by simpa using h1) h3 hv
        · cases hv
      · obtain ⟨ps, h1, h2⟩ := bare_some hc
        cases h2
        simp only [pureOp] at hv
        split at hv
        · rename_i u vs h3
          exact snd_min R (by simpa using h1) h3 hv
        · cases hv
      · cases hc
  | defer c =>
    simp only [compOp, compDefer] at hc
    split at hc
    · split at hc
      · cases hc; cases hcls
      · cases hc
    · cases hc
  | panic x =>
    obtain ⟨y, h1, h2⟩ := bare_some hc
    cases h2; cases hcls
  | ready g => simp [compOp] at hc
  | waits g => simp [compOp] at hc
  | sliceToArrayPointer t x => simp [compOp] at hc
  | makeChan t x => simp [compOp] at hc
  | insert t m k x => simp [compOp] at hc
  | mapEntry t m k => simp [compOp] at hc
  | entryStore t m s x => simp [compOp] at hc
  | go c => simp [compOp] at hc
  | send c x => simp [compOp] at hc
  | recv t c ok => simp [compOp] at hc
  | select cs b => simp [compOp] at hc

end
end Go.Ago

set_option autoImplicit false
set_option linter.unusedSimpArgs false
set_option linter.unusedVariables false
namespace Go.Ago

section
variable {P : Program} {G : Gh} {w : World}

theorem wordEq_kind {k : WK} {a b : AVal} {r : Bool} (h : wordEq a b = some r) (ha : isWK k a = true) : isWK k b = true := by
  cases a <;> cases b <;> simp only [wordEq] at h <;> first
    | (cases h; done)
    | (cases k <;> simp [isWK] at ha ⊢)

theorem wordsEq_kinds : ∀ {ks : List WK} {as bs : List AVal} {r : Bool}, wordsEq as bs = some r → areWK ks as = true → areWK ks bs = true
  | [], as, bs, r, h, ha => by
    cases as with
    | nil => cases bs with
      | nil => rfl
      | cons _ _ => simp [wordsEq] at h
    | cons _ _ => simp [areWK] at ha
  | k :: ks, as, bs, r, h, ha => by
    cases as with
    | nil => simp [areWK] at ha
    | cons a as => cases bs with
      | nil => simp [wordsEq] at h
      | cons b bs =>
        simp only [areWK, Bool.and_eq_true] at ha ⊢
        obtain ⟨p, q, h1, h2, _⟩ := wordsEq_cons h
        exact ⟨wordEq_kind h1 ha.1, wordsEq_kinds h2 ha.2⟩

theorem ktOf_some {t : TypeId} {kt : KT} (h : ktOf P t = some kt) : (∃ k, kt = .word k ∧ wkOf P t = some k) ∨ (∃ ks, kt = .agg ks ∧ aggOf P t = some ks) := by
  unfold ktOf at h
  split at h
  · rename_i k hk; cases h; exact .inl ⟨k, rfl, hk⟩
  · obtain ⟨ks, h1, h2⟩ := map_some' h; exact .inr ⟨ks, h2, h1⟩

theorem run_checkKey_word {t : TypeId} {k : WK} (hk : wkOf P t = some k) {a : AVal} {x : Value} (ha : isWK k a = true) (hx : VRel G a x) (em : Bool) (d : Nat) : (Instr.checkKey em (d + 1) t x).run P w = .ok () w := by
  cases k <;> cases a <;> simp [isWK] at ha <;> simp only [VRel] at hx <;> subst hx
  · obtain ⟨j, hj⟩ := wkOf_int hk
    simp [Instr.checkKey, run_underlying hj]
  · simp [Instr.checkKey, run_underlying (wkOf_str hk)]
  · simp [Instr.checkKey, run_underlying (wkOf_bool hk)]

theorem run_checkKey_agg {t : TypeId} {ks : List WK} (h : aggOf P t = some ks) {as : List AVal} {xs : Array Value} (ha : areWK ks as = true) (hx : VRels G as xs.toList) (em : Bool) (d : Nat) :
    (Instr.checkKey em (d + 2) t (.agg xs)).run P w = .ok () w := by
  rcases aggOf_some h with ⟨fs, h1, h2, h3⟩ | ⟨n, e, k, i, h1, h2, h3, h4, rfl⟩
  · rw [show d + 2 = (d + 1) + 1 from rfl, Instr.checkKey]
    simp only [Sem.run_bind, run_underlying h1, Result.andThen_ok]
    rw [← Array.forIn_toList]
    have key : ∀ (fs : List Field) (ks : List WK) (i : Nat) (as : List AVal), wksOf P i fs = some ks → areWK ks as = true → VRels G as (xs.toList.drop i) →
        (forIn fs PUnit.unit fun f (_ : PUnit) => (if f.name ≠ "_" then do let y ← part f.type xs f.offset; Instr.checkKey em (d + 1) f.type y; pure (ForInStep.yield PUnit.unit) else pure (ForInStep.yield PUnit.unit) : Sem (ForInStep PUnit))).run P w = .ok PUnit.unit w := by
      intro fs
      induction fs with
      | nil => intro ks i as _ _ _; simp
      | cons f fs ih =>
        intro ks i as h1 h2 h5
        simp only [wksOf] at h1
        split at h1
        · rename_i hf
          obtain ⟨hf1, hf2⟩ := hf
          split at h1
          · rename_i k l hk hl
            cases h1
            cases as with
            | nil => simp [areWK] at h2
            | cons a as =>
              simp only [areWK, Bool.and_eq_true] at h2
              obtain ⟨x, m, e1, e2, e3⟩ := vrels_cons.1 h5
              have hx : xs[i]? = some x := by
                have : (xs.toList.drop i)[0]? = some x := by rw [e1]; rfl
                simpa using this
              have hm : xs.toList.drop (i + 1) = m := by rw [← List.drop_drop, e1]; rfl
              subst hf2
              have := ih l (f.offset + 1) as hl h2.2 (by rw [hm]; exact e3)
              simp only [List.forIn_cons, if_pos hf1, Sem.run_bind, run_part_word hk hx, run_checkKey_word hk h2.1 e2, Result.andThen_ok, Sem.run_pure]
              exact this
          · cases h1
        · cases h1
    have := key fs.toList ks 0 as h3 ha (by simpa using hx)
    simp at this
    simp [this]
  · rw [show d + 2 = (d + 1) + 1 from rfl, Instr.checkKey]
    simp only [Sem.run_bind, run_underlying h1, Result.andThen_ok]
    simp only [Std.Legacy.Range.forIn_eq_forIn_range', Std.Legacy.Range.size, Nat.sub_zero, Nat.add_one_sub_one, Nat.div_one]
    have key : ∀ (n i : Nat) (as : List AVal), areWK (List.replicate n k) as = true → VRels G as (xs.toList.drop i) →
        (forIn (List.range' i n) PUnit.unit fun j (_ : PUnit) => (do let s ← sizeOf e; let y ← part e xs (j * s); Instr.checkKey em (d + 1) e y; pure (ForInStep.yield PUnit.unit) : Sem (ForInStep PUnit))).run P w = .ok PUnit.unit w := by
      intro n
      induction n with
      | zero => intro i as _ _; simp
      | succ n ih =>
        intro i as h5 h6
        cases as with
        | nil => simp [List.replicate_succ, areWK] at h5
        | cons a as =>
          simp only [List.replicate_succ, areWK, Bool.and_eq_true] at h5
          obtain ⟨x, m, e1, e2, e3⟩ := vrels_cons.1 h6
          have hx : xs[i]? = some x := by
            have : (xs.toList.drop i)[0]? = some x := by rw [e1]; rfl
            simpa using this
          have hm : xs.toList.drop (i + 1) = m := by rw [← List.drop_drop, e1]; rfl
          have := ih (i + 1) as h5.2 (by rw [hm]; exact e3)
          simp only [List.range'_succ, List.forIn_cons, Sem.run_bind, run_sizeOf h3, h4, Nat.mul_one, run_part_word h2 hx, run_checkKey_word h2 h5.1 e2, Result.andThen_ok, Sem.run_pure]
          exact this
    have := key n 0 as ha (by simpa using hx)
    simp at this
    simp [this]

theorem run_checkKey {t : TypeId} {kt : KT} (h : ktOf P t = some kt) {a : AVal} {x : Value} (ha : isKey kt a = true) (hx : VRel G a x) (em : Bool) : (Instr.checkKey em 10000 t x).run P w = .ok () w := by
  rcases ktOf_some h with ⟨k, rfl, hk⟩ | ⟨ks, rfl, hk⟩
  · exact run_checkKey_word hk ha hx em 9999
  · cases a <;> simp only [isKey] at ha <;> first
      | (cases ha; done)
      | skip
    simp only [VRel] at hx
    obtain ⟨xs, rfl, hxs⟩ := hx
    exact run_checkKey_agg hk ha hxs em 9998

theorem beq_bytes (a b : ByteArray) : (a == b) = decide (a.data.toList = b.data.toList) := by rw [beq_toListBytes, beq_dec]

theorem entRel_cons {k v : AVal} {n : Nat} {r : List (AVal × AVal × Nat)} {l : List MapEntry} : EntRel G ((k, v, n) :: r) l ↔ ∃ e m, l = e :: m ∧ VRel G k e.key ∧ VRel G v e.val ∧ e.born = n ∧ EntRel G r m := Iff.rfl

/-- What is found. -/
def FoundRel (G : Gh) (es : List (AVal × AVal × Nat)) (en : List MapEntry) (s : Nat) : Option (Nat × AVal) → Option (Nat × Value) → Prop
  | none, r => r = none
  | some (i, v), r => ∃ u e, r = some (i, u) ∧ VRel G v u ∧ s ≤ i ∧ en[i - s]? = some e ∧ e.val = u ∧ ∃ kv b, es[i - s]? = some (kv, v, b)

theorem FoundRel.step {es : List (AVal × AVal × Nat)} {en : List MapEntry} {s : Nat} {r : Option (Nat × AVal)} {q : Option (Nat × Value)} {x : AVal × AVal × Nat} {e : MapEntry} (h : FoundRel G es en (s + 1) r q) :
    FoundRel G (x :: es) (e :: en) s r q := by
  cases r with
  | none => exact h
  | some p =>
    obtain ⟨i, v⟩ := p
    obtain ⟨u, e', h1, h2, h3, h4, h5, kv, b, h6⟩ := h
    refine ⟨u, e', h1, h2, by omega, ?_, h5, kv, b, ?_⟩
    · rw [show i - s = (i - (s + 1)) + 1 by omega]; simpa using h4
    · rw [show i - s = (i - (s + 1)) + 1 by omega]; simpa using h6

theorem run_findKey {t : TypeId} {kt : KT} (h : ktOf P t = some kt) {a : AVal} {x : Value} (ha : isKey kt a = true) (hx : VRel G a x) {es : List (AVal × AVal × Nat)} {en : List MapEntry} (hen : EntRel G es en)
    {r : Option (Nat × AVal)} (hf : findA a es 0 = some r) : ∃ q, (Instr.findKey t x en).run P w = .ok q w ∧ FoundRel G es en 0 r q := by
  rcases ktOf_some h with ⟨k, rfl, hk⟩ | ⟨ks, rfl, hk⟩
  · -- words
    have hd : ∃ d, P.underlying t = some d ∧ (∀ (b : AVal) (y : Value) (p : Bool), VRel G b y → wordEq a b = some p → Instr.sameNow d x y = some p) := by
      cases k <;> cases a <;> simp [isKey, isWK] at ha <;> simp only [VRel] at hx <;> subst hx
      · obtain ⟨j, hj⟩ := wkOf_int hk
        refine ⟨_, hj, fun b y p hy he => ?_⟩
        cases b <;> simp only [wordEq] at he <;> first
          | (cases he; done)
          | skip
        simp only [VRel] at hy
        subst hy
        simp only [Instr.sameNow]
        exact he
      · refine ⟨_, wkOf_str hk, fun b y p hy he => ?_⟩
        cases b <;> simp only [wordEq] at he <;> first
          | (cases he; done)
          | skip
        simp only [VRel] at hy
        subst hy
        cases he
        simp only [Instr.sameNow, beq_bytes]
      · refine ⟨_, wkOf_bool hk, fun b y p hy he => ?_⟩
        cases b <;> simp only [wordEq] at he <;> first
          | (cases he; done)
          | skip
        simp only [VRel] at hy
        subst hy
        cases he
        simp only [Instr.sameNow]
    obtain ⟨d, hd1, hd2⟩ := hd
    have hkey : ∀ b, keyEq a b = wordEq a b := fun b => by
      cases k <;> cases a <;> simp [isKey, isWK] at ha <;> rfl
    have main : ∀ (es : List (AVal × AVal × Nat)) (en : List MapEntry) (s : Nat) (r : Option (Nat × AVal)), EntRel G es en → findA a es s = some r → ∃ q, Instr.findNow d x en s = some q ∧ FoundRel G es en s r q := by
      intro es
      induction es with
      | nil =>
        intro en s r hen hf
        have : en = [] := hen
        subst this
        simp only [findA, Option.some.injEq] at hf
        subst hf
        exact ⟨none, rfl, rfl⟩
      | cons p es ih =>
        intro en s r hen hf
        obtain ⟨kv, v, b⟩ := p
        obtain ⟨e, m, rfl, h1, h2, h3, h4⟩ := entRel_cons.1 hen
        simp only [findA, hkey] at hf
        cases hw : wordEq a kv with
        | none => rw [hw] at hf; cases hf
        | some p =>
          rw [hw] at hf
          have hs := hd2 kv e.key p h1 hw
          cases p with
          | true =>
            simp only [Option.some.injEq] at hf
            subst hf
            refine ⟨some (s, e.val), by simp only [Instr.findNow, hs], e.val, e, rfl, h2, Nat.le_refl _, by simp, rfl, kv, b, by simp⟩
          | false =>
            obtain ⟨q, h5, h6⟩ := ih m (s + 1) r h4 hf
            exact ⟨q, by simp only [Instr.findNow, hs]; exact h5, h6.step⟩
    obtain ⟨q, h1, h2⟩ := main es en 0 r hen hf
    exact ⟨q, by simp [Instr.findKey, run_underlying hd1, h1], h2⟩
  · -- structs and arrays of words
    cases a <;> simp only [isKey] at ha <;> first
      | (cases ha; done)
      | skip
    rename_i as
    simp only [VRel] at hx
    obtain ⟨xs, rfl, hxs⟩ := hx
    have main : ∀ (es : List (AVal × AVal × Nat)) (en : List MapEntry) (s : Nat) (r : Option (Nat × AVal)), EntRel G es en → findA (.agg as) es s = some r → ∃ q, (Instr.findAsking t (.agg xs) en s).run P w = .ok q w ∧ FoundRel G es en s r q := by
      intro es
      induction es with
      | nil =>
        intro en s r hen hf
        have : en = [] := hen
        subst this
        simp only [findA, Option.some.injEq] at hf
        subst hf
        exact ⟨none, by simp [Instr.findAsking], rfl⟩
      | cons p es ih =>
        intro en s r hen hf
        obtain ⟨kv, v, b⟩ := p
        obtain ⟨e, m, rfl, h1, h2, h3, h4⟩ := entRel_cons.1 hen
        simp only [findA] at hf
        cases kv <;> simp only [keyEq, wordEq] at hf <;> first
          | (cases hf; done)
          | skip
        rename_i bs
        cases hw : wordsEq as bs with
        | none => rw [hw] at hf; cases hf
        | some p =>
          rw [hw] at hf
          simp only [VRel] at h1
          obtain ⟨ys, hy, hys⟩ := h1
          have heq : (Op.equal t (.agg xs) e.key).run P w = .ok p w := by
            rw [hy]
            exact equal_at2 fun d => run_equalIn_agg_words hk ha (wordsEq_kinds hw ha) hw hxs hys d
          cases p with
          | true =>
            simp only [Option.some.injEq] at hf
            subst hf
            exact ⟨some (s, e.val), by simp [Instr.findAsking, heq], e.val, e, rfl, h2, Nat.le_refl _, by simp, rfl, .agg bs, b, by simp⟩
          | false =>
            obtain ⟨q, h5, h6⟩ := ih m (s + 1) r h4 hf
            exact ⟨q, by simp only [Instr.findAsking, Sem.run_bind, heq, Result.andThen_ok]; simpa using h5, h6.step⟩
    obtain ⟨q, h1, h2⟩ := main es en 0 r hen hf
    have hd : ∃ d, P.underlying t = some d ∧ (∀ y, Instr.sameNow d (.agg xs) y = none) := by
      rcases aggOf_some hk with ⟨fs, h3, _, _⟩ | ⟨n, e, k, i, h3, _, _, _, _⟩
      · exact ⟨_, h3, fun y => by cases y <;> rfl⟩
      · exact ⟨_, h3, fun y => by cases y <;> rfl⟩
    obtain ⟨d, hd1, hd2⟩ := hd
    refine ⟨q, ?_, h2⟩
    cases en with
    | nil =>
      simp only [Instr.findAsking, Sem.run_pure, Result.ok.injEq] at h1
      obtain ⟨rfl, _⟩ := h1
      simp [Instr.findKey, run_underlying hd1, Instr.findNow]
    | cons e m => simp [Instr.findKey, run_underlying hd1, Instr.findNow, hd2, h1]

end
end Go.Ago

set_option autoImplicit false
set_option linter.unusedSimpArgs false
set_option linter.unusedVariables false
namespace Go.Ago

section
variable {E : CEnv} {G : Gh} {Lb : Nat → Option Nat} {F : AFrame} {σ : AState} {a : Act} {w : World}
variable {dst : Option Tmp} {ty : TypeId} {pos : String} {aft : Array Edge} {gd : Option (Nat × Bool)}

/-- A read: a value, the world as it was. -/
def ReadOut (P : Program) (o : Oper) (a : Act) (G : Gh) (w : World) (v : AVal) : Prop := ∃ x, (execOp a.eval o).run P w = .ok (.value x) w ∧ VRel G v x

theorem obj_cells (R : Rel E G Lb F σ a w) {r b : Nat} (hr : G.obj r = some b) {cs : List AVal} (hm : σ.get r = some (.cells cs)) : ∃ c t, w.heap[b]? = some (.cells c t (0, 0)) ∧ VRels G cs c.toList := by
  obtain ⟨o, x, h1, h2, h3⟩ := R.wr.objs r b hr
  rw [hm] at h1; cases h1
  obtain ⟨c, t, rfl, h4⟩ := h3
  exact ⟨c, t, h2, h4⟩

theorem obj_map (R : Rel E G Lb F σ a w) {r b : Nat} (hr : G.obj r = some b) {es : List (AVal × AVal × Nat)} {clock : Nat} (hm : σ.get r = some (.map es clock)) : ∃ en, w.heap[b]? = some (.map en clock) ∧ EntRel G es en.toList := by
  obtain ⟨o, x, h1, h2, h3⟩ := R.wr.objs r b hr
  rw [hm] at h1; cases h1
  obtain ⟨en, rfl, h4⟩ := h3
  exact ⟨en, h2, h4⟩

theorem obj_iter (R : Rel E G Lb F σ a w) {r b : Nat} (hr : G.obj r = some b) {m : Option Nat} {since stepped : Nat} {seen : List Nat} (hm : σ.get r = some (.iter m since seen stepped)) :
    ∃ m', w.heap[b]? = some (.mapIter m' since seen.toArray stepped) ∧ MRel G m m' := by
  obtain ⟨o, x, h1, h2, h3⟩ := R.wr.objs r b hr
  rw [hm] at h1; cases h1
  obtain ⟨m', rfl, h4⟩ := h3
  exact ⟨m', h2, h4⟩

theorem rd_load (R : Rel E G Lb F σ a w) {t : TypeId} {n : Nat} {g : Bool} {x : Operand} {y : AOpd} {v : AVal} (hl : lay E.P t = some (n, g)) (hx : opdA x = some y) (hv : readMem σ (.ld n g y) F = some v) :
    ReadOut E.P ⟨dst, .load t x, ty, pos, aft, gd⟩ a G w v := by
  have fin : ∀ b o u, a.eval x = .pointer (some ⟨b, o, none⟩) → (loadVar t ⟨b, o, none⟩).run E.P w = .ok u w → VRel G v u → ReadOut E.P ⟨dst, .load t x, ty, pos, aft, gd⟩ a G w v := by
    intro b o u h1 h2 h3
    exact ⟨u, by simp [execOp, Instr.loadAt, Instr.sureAddr, h1, h2], h3⟩
  simp only [readMem] at hv
  split at hv
  · rename_i r off hy
    have h := R.opd hx hy
    simp only [VRel] at h
    obtain ⟨b, h1, h2⟩ := h
    split at hv
    · rename_i cs hm
      obtain ⟨c, t', h3, h4⟩ := obj_cells R h1 hm
      obtain ⟨u, h5, h6⟩ := takeCells_rel (P := E.P) (w := w) hl h4 (b := b) (o := 0) hv (fun j z hj => by simp at hj; simp [World.cell?, h3, hj])
      rw [Nat.zero_add] at h5
      exact fin b off u h2 h5 h6
    · cases hv
  · rename_i cs hy
    have h := R.opd hx hy
    simp only [VRel] at h
    obtain ⟨b, o, vs, h1, h2, h3⟩ := h
    obtain ⟨u, h5, h6⟩ := takeCells_rel (P := E.P) (w := w) hl h2 (b := b) (o := o) hv (fun j z hj => R.wr.im _ _ _ (h3 j z hj))
    exact fin b o u h1 h5 h6
  · rename_i r i off hy
    have h := R.opd hx hy
    simp only [VRel] at h
    obtain ⟨b, o, cap, sz, h1, h2⟩ := h
    split at hv
    · rename_i s es lo hm
      split at hv
      · rename_i e he
        have hat := R.wr.rows _ _ _ _ _ _ _ _ h1 hm
        obtain ⟨c, t', vs, h3, h4, h5, h6⟩ := hat.cells
        obtain ⟨z, h7, h8, h9⟩ := h5.get he
        obtain ⟨u, h10, h11⟩ := takeCells_rel (P := E.P) (w := w) hl h7.cells (b := b) (o := o + i * sz) hv (fun j z' hj => by
          have e1 : c[o + (i * sz + j)]? = some z' := h6 _ _ (h9 j z' (by simpa using hj))
          rw [← Nat.add_assoc] at e1
          simp [World.cell?, h3, e1])
        exact fin b _ u h2 h10 h11
      · cases hv
    · cases hv
  · cases hv

theorem rd_lookup (R : Rel E G Lb F σ a w) {t kt' e : TypeId} {kt : KT} {z : AVal} {ok : Bool} {m k : Operand} {m' k' : AOpd} {v : AVal} (ht : E.P.underlying t = some (.map kt' e)) (hk : ktOf E.P kt' = some kt) (hz : zeroA E.P e = some z)
    (hm : opdA m = some m') (hk' : opdA k = some k') (hv : readMem σ (.lkp kt z ok m' k') F = some v) : ReadOut E.P ⟨dst, .lookup t m k ok, ty, pos, aft, gd⟩ a G w v := by
  obtain ⟨u, hu1, hu2⟩ := zeroA_rel G (w := w) hz
  have nil2 : VRels G [] [] := by simp only [VRels]
  have pair : ∀ {p : AVal} {q : Value} (b : Bool), VRel G p q → VRel G (.tuple [p, .bool b]) (.tuple #[q, .bool b]) := by
    intro p q b hpq
    simp only [VRel]
    exact ⟨_, rfl, vrels_cons.2 ⟨_, _, rfl, hpq, vrels_cons.2 ⟨_, _, rfl, by simp only [VRel], nil2⟩⟩⟩
  simp only [readMem] at hv
  split at hv
  · rename_i kv h1 h2
    obtain ⟨h3, h4⟩ := cond_some hv
    have hmv := R.opd hm h1
    have hkv := R.opd hk' h2
    simp only [VRel] at hmv
    have hck := run_checkKey (w := w) hk h3 hkv true
    obtain ⟨q, h5, h6⟩ := run_findKey (P := E.P) (w := w) hk h3 hkv (es := []) (en := []) rfl rfl
    have : q = none := h6
    subst this
    cases h4
    cases ok with
    | true => exact ⟨.tuple #[u, .bool false], by simp [execOp, Instr.lookup, run_underlying ht, hmv, hck, h5, hu1], pair false hu2⟩
    | false => exact ⟨u, by simp [execOp, Instr.lookup, run_underlying ht, hmv, hck, h5, hu1], hu2⟩
  · rename_i r kv h1 h2
    split at hv
    · rename_i es clock h3
      obtain ⟨h4, h5⟩ := cond_some hv
      have hmv := R.opd hm h1
      have hkv := R.opd hk' h2
      simp only [VRel] at hmv
      obtain ⟨b, h6, h7⟩ := hmv
      obtain ⟨en, h8, h9⟩ := obj_map R h6 h3
      have hck := fun em => run_checkKey (w := w) hk h4 hkv em
      have hget := run_getObj (P := E.P) h8 (by simp)
      split at h5
      · rename_i i vv hf
        cases h5
        obtain ⟨q, h10, h11⟩ := run_findKey (P := E.P) (w := w) hk h4 hkv h9 hf
        obtain ⟨x, en', rfl, h12, _⟩ := h11
        cases ok with
        | true => exact ⟨.tuple #[x, .bool true], by simp [execOp, Instr.lookup, run_underlying ht, h7, hget, hck, h10], pair true h12⟩
        | false => exact ⟨x, by simp [execOp, Instr.lookup, run_underlying ht, h7, hget, hck, h10], h12⟩
      · rename_i hf
        cases h5
        obtain ⟨q, h10, h11⟩ := run_findKey (P := E.P) (w := w) hk h4 hkv h9 hf
        have : q = none := h11
        subst this
        cases ok with
        | true => exact ⟨.tuple #[u, .bool false], by simp [execOp, Instr.lookup, run_underlying ht, h7, hget, hck, h10, hu1], pair false hu2⟩
        | false => exact ⟨u, by simp [execOp, Instr.lookup, run_underlying ht, h7, hget, hck, h10, hu1], hu2⟩
      · cases h5
    · cases hv
  · cases hv

theorem entRel_length : ∀ {es : List (AVal × AVal × Nat)} {en : List MapEntry}, EntRel G es en → en.length = es.length
  | [], en, h => by have : en = [] := h; subst this; rfl
  | (_, _, _) :: es, en, h => by
    obtain ⟨e, m, rfl, _, _, _, h4⟩ := entRel_cons.1 h
    simp [entRel_length h4]

theorem rd_len (R : Rel E G Lb F σ a w) {t : TypeId} {d : TypeDesc} {k : LK} {x : Operand} {y : AOpd} {v : AVal} (ht : E.P.underlying t = some d)
    (hd : (k = .str ∧ d = .string) ∨ (k = .slice ∧ ∃ e, d = .slice e) ∨ (k = .map ∧ ∃ k e, d = .map k e)) (hx : opdA x = some y)
    (hv : readMem σ (.len k y) F = some v) {args : Array Operand} {argTypes : Array TypeId} (ha : args.toList = [x]) (hat : argTypes.toList = [t]) :
    ReadOut E.P ⟨dst, .call ⟨.builtin .len, args, argTypes⟩, ty, pos, aft, gd⟩ a G w v := by
  have hargs : args = #[x] := Array.ext' (by simpa using ha)
  have hats : argTypes = #[t] := Array.ext' (by simpa using hat)
  subst hargs; subst hats
  simp only [readMem] at hv
  split at hv
  · rename_i h1
    cases hv
    have h := R.opd hx h1
    rcases hd with ⟨h0, _⟩ | ⟨h0, _⟩ | ⟨_, k, e, rfl⟩
    · cases h0
    · cases h0
    simp only [VRel] at h
    exact ⟨.int .i64 0, by simp [execOp, resolve, invoke, builtin, Builtin.len_, run_underlying ht, h, goInt], by simp only [VRel]⟩
  · rename_i r h1
    have h := R.opd hx h1
    rcases hd with ⟨h0, _⟩ | ⟨h0, _⟩ | ⟨_, k, e, rfl⟩
    · cases h0
    · cases h0
    simp only [VRel] at h
    obtain ⟨b, h2, h3⟩ := h
    split at hv
    · rename_i es clock hm
      cases hv
      obtain ⟨en, h4, h5⟩ := obj_map R h2 hm
      have hl := entRel_length h5
      have hs : en.size = es.length := by simpa using hl
      exact ⟨.int .i64 es.length, by simp [execOp, resolve, invoke, builtin, Builtin.len_, run_underlying ht, h3, goInt, run_getObj h4 (by simp), hs], by simp only [VRel]⟩
    · cases hv
  · rename_i s h1
    cases hv
    have h := R.opd hx h1
    rcases hd with ⟨_, rfl⟩ | ⟨h0, _⟩ | ⟨h0, _⟩
    · simp only [VRel] at h
      exact ⟨.int .i64 s.size, by simp [execOp, resolve, invoke, builtin, Builtin.len_, run_underlying ht, h, goInt], by simp only [VRel]⟩
    · cases h0
    · cases h0
  · rename_i es tok h1
    cases hv
    have h := R.opd hx h1
    rcases hd with ⟨h0, _⟩ | ⟨_, e, rfl⟩ | ⟨h0, _⟩
    · cases h0
    · simp only [VRel] at h
      obtain ⟨ad, cap, sz, vs, h2, _⟩ := h
      exact ⟨.int .i64 es.length, by simp [execOp, resolve, invoke, builtin, Builtin.len_, run_underlying ht, h2, goInt], by simp only [VRel]⟩
    · cases h0
  · rename_i r off n sz full h1
    cases hv
    have h := R.opd hx h1
    rcases hd with ⟨h0, _⟩ | ⟨_, e, rfl⟩ | ⟨h0, _⟩
    · cases h0
    · simp only [VRel] at h
      obtain ⟨b, o, cap, ad, c, h2, h3, h4, h5, h6⟩ := h
      exact ⟨.int .i64 n, by simp [execOp, resolve, invoke, builtin, Builtin.len_, run_underlying ht, h5, goInt], by simp only [VRel]⟩
    · cases h0
  · cases hv

theorem find_rel {es : List (AVal × AVal × Nat)} {en : List MapEntry} (h : EntRel G es en) (st : Nat) {p : AVal × AVal × Nat} (hf : (es.find? fun e => Nat.beq e.2.2 st) = some p) :
    ∃ e, (en.find? fun e => e.born == st) = some e ∧ VRel G p.1 e.key ∧ VRel G p.2.1 e.val := by
  induction es generalizing en with
  | nil => simp at hf
  | cons q es ih =>
    obtain ⟨k, v, b⟩ := q
    obtain ⟨e, m, rfl, h1, h2, h3, h4⟩ := entRel_cons.1 h
    simp only [List.find?_cons] at hf ⊢
    have hb : (e.born == st) = Nat.beq b st := by rw [h3, Bool.eq_iff_iff]; simp [Nat.beq_eq]
    rw [hb]
    cases hbb : Nat.beq b st with
    | true =>
      rw [hbb] at hf
      simp only [Option.some.injEq] at hf
      subst hf
      exact ⟨e, rfl, h1, h2⟩
    | false =>
      rw [hbb] at hf
      exact ih h4 hf

theorem rd_entry (R : Rel E G Lb F σ a w) {x : Operand} {y : AOpd} {v : AVal} (hx : opdA x = some y) (hv : readMem σ (.ent y) F = some v) : ReadOut E.P ⟨dst, .entry x, ty, pos, aft, gd⟩ a G w v := by
  simp only [readMem] at hv
  split at hv
  · rename_i r h1
    have h := R.opd hx h1
    simp only [VRel] at h
    obtain ⟨b, h2, h3⟩ := h
    split at hv
    · rename_i m since seen stepped h4
      obtain ⟨m', h5, h6⟩ := obj_iter R h2 h4
      obtain ⟨bm, h7, rfl⟩ := h6
      split at hv
      · rename_i es clock st h8 h9
        obtain ⟨en, h10, h11⟩ := obj_map R h7 h8
        obtain ⟨h12, h13⟩ := cond_some hv
        have h12 := Nat.eq_of_beq_eq_true h12
        subst h12
        split at h13
        · rename_i p h14
          cases h13
          obtain ⟨e, h15, h16, h17⟩ := find_rel h11 st h14
          have hback : seen.toArray.back? = some st := by simpa using h9
          have hfind : en.find? (fun e => e.born == st) = some e := by simpa using h15
          refine ⟨.tuple #[e.key, e.val], ?_, ?_⟩
          · simp [execOp, Instr.entry, h3, run_getObj h5 (by simp), run_getObj h10 (by simp), h9, hfind]
          · simp only [VRel]
            exact ⟨_, rfl, vrels_cons.2 ⟨_, _, rfl, h16, vrels_cons.2 ⟨_, _, rfl, h17, by simp only [VRels]⟩⟩⟩
        · cases h13
      · cases hv
    · cases hv
  · cases hv

/-- Every operation that reads memory. -/
theorem read_sound (R : Rel E G Lb F σ a w) {o : Oper} {j k : Nat} {op : AOp} {init : List (Nat × AObj)} {v : AVal} (hc : compOp E j o = some (op, k, init)) (hcls : op.cls = .read)
    (hv : readMem σ op F = some v) : ReadOut E.P o a G w v := by
  obtain ⟨dst, mop, ty, pos, aft, gd⟩ := o
  cases mop with
  | load t x =>
    simp only [compOp] at hc
    split at hc
    · rename_i n g y h1 h2
      split at hc
      · cases hc; cases hcls
      · cases hc
        exact rd_load R h1 h2 hv
    · cases hc
  | lookup t m k' ok =>
    simp only [compOp] at hc
    split at hc
    · rename_i kt e m' k'' h1 h2 h3
      split at hc
      · rename_i z h4
        obtain ⟨kt', h5, h6⟩ := map_some' hc
        cases h6
        exact rd_lookup R h1 h5 h4 h2 h3 hv
      · cases hc
    · cases hc
  | entry x =>
    obtain ⟨y, h1, h2⟩ := bare_some hc
    cases h2
    exact rd_entry R h1 hv
  | call c =>
    simp only [compOp, compCall] at hc
    obtain ⟨callee, args, argTypes⟩ := c
    cases callee with
    | value f =>
      simp only at hc
      split at hc
      · obtain ⟨y, h1, h2⟩ := bare_some hc
        cases h2; cases hcls
      · split at hc
        · cases hc; cases hcls
        · cases hc
      · rename_i heq; cases heq
      · rename_i heq; cases heq
    | invoke x name =>
      simp only at hc
      split at hc
      · cases hc; cases hcls
      · cases hc
    | builtin b =>
      simp only at hc
      split at hc
      · rename_i x t h1 h2
        split at hc
        · rename_i h3
          obtain ⟨y, h4, h5⟩ := bare_some hc
          cases h5
          exact rd_len R h3 (.inl ⟨rfl, rfl⟩) h4 hv h1 h2
        · rename_i e h3
          obtain ⟨y, h4, h5⟩ := bare_some hc
          cases h5
          exact rd_len R h3 (.inr (.inl ⟨rfl, _, rfl⟩)) h4 hv h1 h2
        · rename_i k' e h3
          obtain ⟨y, h4, h5⟩ := bare_some hc
          cases h5
          exact rd_len R h3 (.inr (.inr ⟨rfl, _, _, rfl⟩)) h4 hv h1 h2
        · cases hc
      · split at hc
        · split at hc
          · split at hc
            · cases hc; cases hcls
            · cases hc
          · cases hc
        · split at hc
          · split at hc
            · cases hc; cases hcls
            · cases hc
          · cases hc
        · cases hc
      · split at hc
        · split at hc
          · cases hc; cases hcls
          · cases hc
        · cases hc
      · obtain ⟨ps, h1, h2⟩ := bare_some hc
        cases h2; cases hcls
      · obtain ⟨ps, h1, h2⟩ := bare_some hc
        cases h2; cases hcls
      · cases hc
  | _ =>
    simp only [compOp, compDefer] at hc
    (repeat' split at hc) <;> first
      | contradiction
      | (cases hc; done)
      | (cases hc; cases hcls; done)
      | (obtain ⟨y, h1, h2⟩ := bare_some hc; cases h2; cases hcls; done)
      | (obtain ⟨y, h1, h2⟩ := map_some' hc; cases h2; cases hcls; done)

end
end Go.Ago
