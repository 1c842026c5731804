/- One operation: what is to be shown of it; the operations on a frame's own cells. Conditions: none. The operations on a frame's own cells. Conditions: none. The operations that turn memory: new objects, stores, maps. Conditions: none. The operations that turn memory: maps, and ranges over them. Conditions: none. Rows that are locked: a value whose rows are replaced by what they hold. Conditions: none. Stores. Conditions: none. append. Conditions: none. append: what becomes of the rows. Conditions: none. append: the whole. Conditions: none. Calls, deferred calls, panics. Conditions: none. The effects. Conditions: none. -/
import Derived.Test.YtpajdajecfjnnaaGreatAgoB
set_option autoImplicit false
set_option linter.unusedSimpArgs false
set_option linter.unusedVariables false
namespace Go.Ago

def Dom (G : Gh) (σ : AState) : Prop := ∀ r, σ.next ≤ r → G.obj r = none ∧ G.row r = none

def noLb : Nat → Option Nat := fun _ => none

def RRel (G : Gh) (r : ARet) (e : Ending) : Prop :=
  match r with
  | .ret v => ∃ x, e = .returned x ∧ VRel G v x
  | .pan v => ∃ x, e = .panicked [{ v := x, recovered := false }] ∧ VRel G v x

/-- What a call comes to. -/
def RetPost (Q : ARet × AState → Prop) (G : Gh) (σ : AState) (w : World) (e : Ending) (w' : World) : Prop :=
  ∃ r σ' G', Q (r, σ') ∧ RRel G' r e ∧ WRel G' σ'.get w' ∧ Dom G' σ' ∧ Tr (fun _ => False) G noLb σ w G' noLb σ' w'

/-- A function that is entered, not stood in for. -/
def Enterable (P : Program) (f : FuncId) : Prop := ∃ fn c, P.funcs[f]? = some fn ∧ fn.body = some c ∧ (fn.name == "runtime.NumGoroutine") = false

/-- What is told of calls holds of the model. -/
structure CallSim (P : Program) (G0 : Gh) (cf : CallF) : Prop where
  call : ∀ f args σ Q, (cf false f args σ).All Q → ∀ G w (vargs : Array Value), Le G0 G → VRels G args vargs.toList → WRel G σ.get w → Dom G σ →
    Enterable P f ∧ Calls P f vargs w (RetPost Q G σ w)
  dcall : ∀ f args σ Q, (cf true f args σ).All Q → ∀ G w (vargs : Array Value), Le G0 G → VRels G args vargs.toList → WRel G σ.get w → Dom G σ →
    Enterable P f ∧ CallsD P f vargs .returning w fun e u' w' => u' = .returning ∧ RetPost Q G σ w e w'

/-- What an operation leaves, where it goes on. -/
def StepNext (E : CEnv) (own : Nat → Prop) (G : Gh) (Lb : Nat → Option Nat) (σ : AState) (w : World) (Q : Option AVal × AFrame × AState → Prop) (a' : Act) (w' : World) : Prop :=
  ∃ G' Lb' F' σ', Q (none, F', σ') ∧ Rel E G' Lb' F' σ' a' w' ∧ Tr own G Lb σ w G' Lb' σ' w'

/-- .. and where it panics. -/
def StepPanic (E : CEnv) (own : Nat → Prop) (G : Gh) (Lb : Nat → Option Nat) (σ : AState) (w : World) (Q : Option AVal × AFrame × AState → Prop) (e : Exit) (a' : Act) (w' : World) : Prop :=
  ∃ v x G' Lb' F' σ', e = .panic [{ v := x, recovered := false }] ∧ VRel G' v x ∧ Q (some v, F', σ') ∧ Rel E G' Lb' F' σ' a' w' ∧ Tr own G Lb σ w G' Lb' σ' w'

section
variable {E : CEnv} {G : Gh} {Lb : Nat → Option Nat} {F : AFrame} {σ : AState} {a : Act} {w : World}

/-- A step that leaves the world's memory. -/
theorem step_quiet (R : Rel E G Lb F σ a w) (own : Nat → Prop) {dst : Option Nat} {v : AVal} {x : Value} (hv : VRel G v x) {Q : Option AVal × AFrame × AState → Prop} (hq : Q (none, F.put dst v, σ)) :
    StepNext E own G Lb σ w Q (a.put dst x) w :=
  ⟨G, Lb, F.put dst v, σ, hq, R.put hv, Tr.refl _ _ _ _ _⟩

theorem tr_grow (own : Nat → Prop) {G' : Gh} {w' : World} (hle : Le G G') (hobj : ∀ r, ¬ own r → G'.obj r = G.obj r) (hrow : G'.row = G.row) (hg : Grow w w')
    (howned : ∀ b, b < w.heap.size → Owned G' σ.get b → Owned G σ.get b) (him : ∀ b, b < w.heap.size → ∀ o, G'.im b o = G.im b o) : Tr own G Lb σ w G' Lb σ w' where
  le := hle
  next := Nat.le_refl _
  quiet r hr h1 h2 h3 := ⟨by rw [hobj r h3]; exact h1, by rw [hrow]; exact h2, rfl⟩
  size := hg.size
  keep b hb _ _ := by
    have : ∃ x, w.heap[b]? = some x := ⟨_, Array.getElem?_eq_getElem hb⟩
    obtain ⟨x, hx⟩ := this
    rw [hx, hg.heap b x hx]
  owned := howned
  lbs _ _ h _ := h
  im b hb _ o := him b hb o
  os := hg.os
  out := hg.out

/-- What a pure operation comes to, as a step. -/
theorem step_pure (R : Rel E G Lb F σ a w) {P : Program} {o : Oper} {own : Nat → Prop} {v : AVal} (h : PureOut P o a G w σ.get own v) (hfresh : ∀ r, own r → G.obj r = none ∧ G.row r = none ∧ r < σ.next)
    {Q : Option AVal × AFrame × AState → Prop} (hq : Q (none, F.put o.dst v, σ)) :
    ∃ x w', (execOp a.eval o).run P w = .ok (.value x) w' ∧ StepNext E own G Lb σ w Q (a.put o.dst x) w' := by
  rcases h with ⟨x, h1, h2⟩ | ⟨x, c, t, h1, h2⟩ | ⟨x, r, obj, y, h1, h2, h3, h4, h5⟩
  · exact ⟨x, w, h1, step_quiet R own h2 hq⟩
  · obtain ⟨hw, hle⟩ := R.wr.newIm c t
    have hg := Grow.push w (.cells c t (0, 0)) (Thawed.cells c t)
    have him : ∀ b, b < w.heap.size → ∀ o, (G.withIm w.heap.size c).im b o = G.im b o := fun b hb o => by simp [Gh.withIm, Nat.ne_of_lt hb]
    refine ⟨x, _, h1, G.withIm w.heap.size c, Lb, F.put o.dst v, σ, hq, ?_, tr_grow own hle (fun _ _ => rfl) rfl hg (fun b hb ho => ho) him⟩
    refine (R.grow hle hw R.dom (fun s b hs => ?_) hg.size).put h2
    obtain ⟨l1, l2, l3⟩ := R.lbFree s b hs
    refine ⟨?_, l1, fun o => by rw [him b l3]; exact l2 o⟩
    obtain ⟨y, hy⟩ : ∃ y, w.heap[b]? = some y := ⟨_, Array.getElem?_eq_getElem l3⟩
    rw [hy]; exact hg.heap b y hy
  · obtain ⟨f1, f2, f3⟩ := hfresh r h1
    obtain ⟨hw, hle⟩ := R.wr.newObj (mem' := σ.get) (x := y) f1 f2 h2 (fun _ _ => rfl) h3
    have hg := Grow.push w y h3.thawed
    have hobj : ∀ s, s ≠ r → (G.withObj r w.heap.size).obj s = G.obj s := fun s hs => by simp [Gh.withObj, hs]
    have howned : ∀ b, b < w.heap.size → Owned (G.withObj r w.heap.size) σ.get b → Owned G σ.get b := by
      intro b hb ho
      rcases ho with ⟨s, hs⟩ | ho
      · by_cases hsr : s = r
        · subst hsr
          simp only [Gh.withObj, if_true, Option.some.injEq] at hs
          omega
        · rw [hobj s hsr] at hs; exact .inl ⟨s, hs⟩
      · exact .inr ho
    refine ⟨x, _, h4, G.withObj r w.heap.size, Lb, F.put o.dst v, σ, hq, ?_, tr_grow own hle (fun s hs => hobj s fun he => hs (he ▸ h1)) rfl hg howned (fun _ _ _ => rfl)⟩
    refine (R.grow hle hw (fun s hs => ?_) (fun s b hs => ?_) hg.size).put h5
    · have : s ≠ r := by omega
      exact ⟨by rw [hobj s this]; exact (R.dom s hs).1, (R.dom s hs).2⟩
    · obtain ⟨l1, l2, l3⟩ := R.lbFree s b hs
      refine ⟨?_, fun ho => l1 (howned b l3 ho), l2⟩
      obtain ⟨z, hz⟩ : ∃ z, w.heap[b]? = some z := ⟨_, Array.getElem?_eq_getElem l3⟩
      rw [hz]; exact hg.heap b z hz

/-! ## A frame's own cells -/

theorem lookL_setL (l : PM (List AVal)) (t s : Nat) (c : List AVal) : lookL (setL l t c) s = if s = t then some c else lookL l s := by
  simp only [lookL, setL, PM.get_set]

theorem clearT_length : ∀ (ds : List Nat) (T : TM), (clearT T ds).n = T.n
  | [], _ => rfl
  | d :: ds, T => by simp [clearT, clearT_length ds, TM.set_n]

theorem clearT_get : ∀ (ds : List Nat) (T : TM) (t : Nat), (clearT T ds).get t = if t ∈ ds then (if t < T.n then some .junk else none) else T.get t
  | [], T, t => by simp [clearT]
  | d :: ds, T, t => by
    simp only [clearT]
    rw [clearT_get ds]
    by_cases h : t ∈ ds
    · simp [h, TM.set_n]
    · by_cases hd : t = d
      · subst hd
        simp [h, TM.get_set]
      · simp [h, hd, TM.get_set_ne _ _ (Ne.symm hd)]

theorem lookS_ds {s t : Nat} : ∀ (l : List (Tmp × Tmp)), lookS l t = some s → t ≠ s → t ∈ ((l.filter fun p => p.2 == s && p.1 != s).map (·.1))
  | [], h, _ => by simp [lookS] at h
  | (u, r) :: l, h, hne => by
    simp only [lookS] at h
    cases hb : Nat.beq u t with
    | true =>
      rw [hb] at h
      simp only [cond_true, Option.some.injEq] at h
      have := Nat.eq_of_beq_eq_true hb
      subst h; subst this
      simp [hne]
    | false =>
      rw [hb] at h
      have := lookS_ds l h hne
      simp only [List.filter_cons]
      split
      · simp only [List.map_cons, List.mem_cons]; exact .inr this
      · exact this

/-- New cells of the frame's own. -/
theorem Rel.newLoc (R : Rel E G Lb F σ a w) {s : Nat} {cs : List AVal} {c : Array Value} {t : TypeId} (hs : lookS E.loc s = some s) (hc : VRels G cs c.toList) (own : Nat → Prop) :
    ∃ Lb', Rel E G Lb' { F with T := (clearT F.T (E.ds s)).set s (.lptr s 0), L := setL F.L s cs } σ (a.put (some s) (.pointer (some ⟨w.heap.size, 0, none⟩))) (w.alloc (.cells c t (0, 0))) ∧
      Tr own G Lb σ w G Lb' σ (w.alloc (.cells c t (0, 0))) := by
  have hg := Grow.push w (.cells c t (0, 0)) (Thawed.cells c t)
  have hnew : (w.alloc (.cells c t (0, 0))).heap[w.heap.size]? = some (.cells c t (0, 0)) := by
    show (w.heap.push _)[w.heap.size]? = _
    simp
  have hsz : (w.alloc (.cells c t (0, 0))).heap.size = w.heap.size + 1 := by
    show (w.heap.push _).size = _
    simp
  let Lb' : Nat → Option Nat := fun u => if u = s then some w.heap.size else Lb u
  have hLb : ∀ u b, Lb' u = some b → (u = s ∧ b = w.heap.size) ∨ (u ≠ s ∧ Lb u = some b) := by
    intro u b h
    by_cases hu : u = s
    · left; simp only [Lb', if_pos hu, Option.some.injEq] at h; exact ⟨hu, h.symm⟩
    · right; simp only [Lb', if_neg hu] at h; exact ⟨hu, h⟩
  refine ⟨Lb', ⟨R.wr.grow hg, R.dom, ?_, ?_, ?_, ?_, ?_, R.dfrs⟩, ⟨Le.refl _, Nat.le_refl _, fun r _ h1 h2 _ => ⟨h1, h2, rfl⟩, hg.size, ?_, fun _ _ h => h, ?_, fun _ _ _ _ => rfl, rfl, hg.out⟩⟩
  · simp only [Act.put, Array.size_setIfInBounds, TM.set_n, clearT_length]; exact R.size
  · intro u v x h1 h2
    simp only [Act.put] at h2
    rw [TM.get_set] at h1
    rw [Array.getElem?_setIfInBounds] at h2
    by_cases hu : s = u
    · subst hu
      simp only [if_true] at h1 h2
      split at h1
      · split at h2
        · cases h1; cases h2
          exact ⟨hs, w.heap.size, by simp [Lb'], rfl⟩
        · cases h2
      · cases h1
    · rw [if_neg hu] at h1 h2
      rw [clearT_get] at h1
      split at h1
      · split at h1
        · cases h1; trivial
        · cases h1
      · rename_i hds
        have ht := R.temps u v x h1 h2
        cases v <;> first
          | exact ht
          | skip
        rename_i s' off
        obtain ⟨h3, b, h4, h5⟩ := ht
        refine ⟨h3, b, ?_, h5⟩
        have : s' ≠ s := fun he => by
          subst he
          exact hds (lookS_ds E.loc h3 (Ne.symm hu))
        simp [Lb', this, h4]
  · intro u cs' h
    rw [lookL_setL] at h
    by_cases hu : u = s
    · subst hu
      rw [if_pos rfl] at h
      cases h
      exact ⟨w.heap.size, c, t, by simp [Lb'], hnew, hc⟩
    · rw [if_neg hu] at h
      obtain ⟨b, c', t', h1, h2, h3⟩ := R.locs u cs' h
      exact ⟨b, c', t', by simp [Lb', hu, h1], hg.heap _ _ h2, h3⟩
  · intro u v b h1 h2
    rcases hLb u b h1 with ⟨e1, e2⟩ | ⟨e1, e2⟩ <;> rcases hLb v b h2 with ⟨e3, e4⟩ | ⟨e3, e4⟩
    · rw [e1, e3]
    · have := (R.lbFree v b e4).2.2; omega
    · have := (R.lbFree u b e2).2.2; omega
    · exact R.lbInj u v b e2 e4
  · intro u b h
    rw [hsz]
    rcases hLb u b h with ⟨_, e2⟩ | ⟨_, e2⟩
    · subst e2
      refine ⟨fun ho => absurd (R.wr.owned_lt ho) (Nat.lt_irrefl _), fun o => ?_, by omega⟩
      cases him : G.im w.heap.size o with
      | none => rfl
      | some v => exact absurd (R.wr.im_lt him) (Nat.lt_irrefl _)
    · obtain ⟨l1, l2, l3⟩ := R.lbFree u b e2
      exact ⟨l1, l2, by omega⟩
  · intro b hb _ _
    obtain ⟨x, hx⟩ : ∃ x, w.heap[b]? = some x := ⟨_, Array.getElem?_eq_getElem hb⟩
    rw [hx]; exact hg.heap b x hx
  · intro u b h hb
    rcases hLb u b h with ⟨_, e2⟩ | ⟨_, e2⟩
    · omega
    · exact e2

theorem Rel.lptr (R : Rel E G Lb F σ a w) {x s o : Nat} (h : F.temp x = .lptr s o) : lookS E.loc x = some s ∧ ∃ b, Lb s = some b ∧ a.tmps.getD x undef = .pointer (some ⟨b, o, none⟩) := by
  have ht := R.temp x
  rw [h] at ht
  exact ht

end
end Go.Ago

set_option autoImplicit false
set_option linter.unusedSimpArgs false
set_option linter.unusedVariables false
namespace Go.Ago

/-- A block turns that nobody owns and that holds nothing unwritten. -/
theorem WRel.other {G : Gh} {mem : AMem} {w w' : World} (hw : WRel G mem w) {b : Nat} {x : Obj} (h : OnlyAt b x w w') (ho : ¬ Owned G mem b) (hi : ∀ o, G.im b o = none) : WRel G mem w' where
  objs r k hk := by
    have hne : k ≠ b := fun he => ho (.inl ⟨r, he ▸ hk⟩)
    obtain ⟨o, y, h1, h2, h3⟩ := hw.objs r k hk
    exact ⟨o, y, h1, by rw [h.other k hne]; exact h2, h3⟩
  inj := hw.inj
  rows r k o cap sz sz' es lo h1 h2 := by
    have hne : k ≠ b := fun he => ho (.inr ⟨r, o, cap, sz, sz', es, lo, he ▸ h1, h2⟩)
    have hr := hw.rows r k o cap sz sz' es lo h1 h2
    obtain ⟨c, t, vs, h3, h4⟩ := hr.cells
    exact ⟨hr.sizeEq, hr.pos, hr.loLe, hr.fits, ⟨c, t, vs, by rw [h.other k hne]; exact h3, h4⟩, hr.free⟩
  rowsApart := hw.rowsApart
  rowObj := hw.rowObj
  im k o v hk := by
    have hne : k ≠ b := fun he => by subst he; rw [hi] at hk; cases hk
    rw [cell_of_heap (h.other k hne)]
    exact hw.im k o v hk
  imObj := hw.imObj

section
variable {E : CEnv} {G : Gh} {Lb : Nat → Option Nat} {F : AFrame} {σ : AState} {a : Act} {w : World}
variable {ty : TypeId} {pos : String} {aft : Array Edge} {gd : Option (Nat × Bool)}

theorem wp_value {P : Program} {o : Oper} {x : Value} {w' : World} {K : Act → World → Prop} {Q : Exit → Act → World → Prop} (h : (execOp a.eval o).run P w = .ok (.value x) w') (hk : K (a.put o.dst x) w') : o.wp P a w K Q := by
  unfold Oper.wp
  rw [h]
  exact hk

theorem wp_skipped {P : Program} {o : Oper} {w' : World} {K : Act → World → Prop} {Q : Exit → Act → World → Prop} (h : (execOp a.eval o).run P w = .ok .skip w') (hk : K (a.put o.dst undef) w') : o.wp P a w K Q := by
  unfold Oper.wp
  rw [h]
  exact hk

theorem Rel.lset (R : Rel E G Lb F σ a w) {d s o b : Nat} (h1 : lookS E.loc d = some s) (h2 : Lb s = some b) :
    Rel E G Lb { F with T := F.T.set d (.lptr s o) } σ (a.put (some d) (.pointer (some ⟨b, o, none⟩))) w := by
  refine ⟨R.wr, R.dom, ?_, ?_, R.locs, R.lbInj, R.lbFree, R.dfrs⟩
  · simp only [Act.put, Array.size_setIfInBounds, TM.set_n]; exact R.size
  · intro t u y e1 e2
    simp only [Act.put] at e2
    by_cases ht : d = t
    · subst ht
      rw [TM.get_set] at e1
      rw [Array.getElem?_setIfInBounds] at e2
      simp only [if_true] at e1 e2
      split at e1
      · split at e2
        · cases e1; cases e2
          exact ⟨h1, b, h2, rfl⟩
        · cases e2
      · cases e1
    · rw [TM.get_set_ne _ _ ht] at e1
      rw [Array.getElem?_setIfInBounds_ne ht] at e2
      exact R.temps t u y e1 e2

theorem Rel.locStore (R : Rel E G Lb F σ a w) {s b : Nat} {cs : List AVal} {c c' : Array Value} {t : TypeId} (hb : Lb s = some b) (hh : w.heap[b]? = some (.cells c t (0, 0))) (hc : VRels G cs c'.toList) (own : Nat → Prop) :
    Rel E G Lb { F with L := setL F.L s cs } σ a (w.setRow b c') ∧ Tr own G Lb σ w G Lb σ (w.setRow b c') := by
  obtain ⟨l1, l2, l3⟩ := R.lbFree s b hb
  have ho := onlyAt_setRow (cs := c') hh
  refine ⟨⟨R.wr.other ho l1 l2, R.dom, R.size, R.temps, ?_, R.lbInj, ?_, R.dfrs⟩, ⟨Le.refl _, Nat.le_refl _, fun r _ h1 h2 _ => ⟨h1, h2, rfl⟩, Nat.le_of_eq ho.size.symm, ?_, fun _ _ h => h, fun _ _ h _ => h, fun _ _ _ _ => rfl, ho.os, ho.out⟩⟩
  · intro u cs' h
    rw [lookL_setL] at h
    by_cases hu : u = s
    · subst hu
      rw [if_pos rfl] at h
      cases h
      exact ⟨b, c', t, hb, ho.at_, hc⟩
    · rw [if_neg hu] at h
      obtain ⟨k, c2, t2, h1, h2, h3⟩ := R.locs u cs' h
      have hne : k ≠ b := fun he => hu (R.lbInj u s b (he ▸ h1) hb)
      exact ⟨k, c2, t2, h1, by rw [ho.other k hne]; exact h2, h3⟩
  · intro u k h
    obtain ⟨m1, m2, m3⟩ := R.lbFree u k h
    exact ⟨m1, m2, by rw [ho.size]; exact m3⟩
  · intro k hk _ h2
    exact ho.other k fun he => h2 s (he ▸ hb)

theorem root_some {x : Operand} {s : Tmp} (h : E.root x = some s) : ∃ t, x = .tmp t ∧ lookS E.loc t = some s := by
  cases x with
  | tmp t => exact ⟨t, rfl, h⟩
  | _ => simp [CEnv.root] at h

theorem loc_sound (R : Rel E G Lb F σ a w) {o : Oper} {j k : Nat} {op : AOp} {init : List (Nat × AObj)} {F' : AFrame} {gd' : Option (Nat × Bool)} (hc : compOp E j o = some (op, k, init)) (hcls : op.cls = .loc) (hd : dstOk E ⟨o.dst, gd', op⟩ = true)
    (hv : locOp op o.dst F = some F') (own : Nat → Prop) {Q : Option AVal × AFrame × AState → Prop} (hq : Q (none, F', σ)) (QQ : Exit → Act → World → Prop) :
    o.wp E.P a w (StepNext E own G Lb σ w Q) QQ := by
  obtain ⟨dst, mop, ty, pos, aft, gd⟩ := o
  cases mop with
  | alloc e =>
    simp only [compOp] at hc
    split at hc
    · rename_i z d h1
      split at hc
      · rename_i h2
        cases hc
        simp only [locOp, Option.some.injEq] at hv
        subst hv
        obtain ⟨u, h3, h4⟩ := zeroA_rel G (w := w) h1
        obtain ⟨Lb', hR, hT⟩ := R.newLoc (t := e) h2 h4.cells own
        refine wp_value (x := .pointer (some ⟨w.heap.size, 0, none⟩)) (w' := w.alloc (.cells u.cells e (0, 0))) ?_ ⟨G, Lb', _, σ, hq, hR, hT⟩
        simp [execOp, Instr.alloc, h3, newVar, newRow]
      · cases hc; cases hcls
    · cases hc
  | box e x =>
    simp only [compOp] at hc
    split at hc
    · rename_i l y d h1 h2
      split at hc
      · rename_i h3
        cases hc
        simp only [locOp] at hv
        split at hv
        · rename_i u hu
          cases hv
          have h4 := R.opd h2 hu
          obtain ⟨Lb', hR, hT⟩ := R.newLoc (t := e) h3 h4.cells own
          refine wp_value (x := .pointer (some ⟨w.heap.size, 0, none⟩)) (w' := w.alloc (.cells (a.eval x).cells e (0, 0))) ?_ ⟨G, Lb', _, σ, hq, hR, hT⟩
          simp [execOp, Instr.box, newVar, newRow]
        · cases hv
      · cases hc; cases hcls
    · cases hc
  | fieldAddr t x i =>
    simp only [compOp] at hc
    split at hc
    · rename_i fs y h1 h2
      split at hc
      · rename_i f h3
        split at hc
        · rename_i n g h4
          split at hc
          · rename_i h5
            split at hc
            · rename_i s h6
              cases hc
              obtain ⟨tx, rfl, h7⟩ := root_some h6
              simp only [opdA, Option.some.injEq] at h2
              subst h2
              cases dst with
              | none => simp [locOp] at hv
              | some d =>
                simp only [locOp] at hv
                split at hv
                · rename_i s' o' h8
                  obtain ⟨h9, hv2⟩ := cond_some hv; clear hv; have hv := hv2; clear hv2
                  have := Nat.eq_of_beq_eq_true h9
                  subst this
                  cases hv
                  obtain ⟨_, b, h10, h11⟩ := R.lptr h8
                  have hdl : lookS E.loc d = some s := by
                    simp only [dstOk] at hd
                    split at hd <;> simp_all
                  obtain ⟨inf, dd, l1, l2, l3, l4, l5⟩ := lay_info h4
                  have hs : ¬ inf.size = 0 := by omega
                  refine wp_value (x := .pointer (some ⟨b, o' + f.offset, none⟩)) (w' := w) ?_ ⟨G, Lb, _, σ, hq, R.lset hdl h10, Tr.refl _ _ _ _ _⟩
                  have h12 : a.eval (.tmp tx) = .pointer (some ⟨b, o', none⟩) := h11
                  simp [execOp, Instr.fieldAt, run_underlying h1, h3, h12, Instr.sureAddr, fieldPlace, run_sizeOf l1, hs, add_none]
                · cases hv
            · cases hc; cases hcls
          · cases hc
        · cases hc
      · cases hc
    · cases hc
  | indexAddr t x i =>
    simp only [compOp] at hc
    split at hc
    · rename_i len e y z h1 h2 h3
      split at hc
      · rename_i n g h4
        split at hc
        · rename_i h5
          split at hc
          · rename_i s kk iv h6
            split at hc
            · rename_i m h7
              cases hc
              obtain ⟨tx, rfl, h8⟩ := root_some h6
              simp only [opdA, Option.some.injEq] at h2
              subst h2
              obtain ⟨h9, h10⟩ := idx_some h7
              subst h9
              have hiv : a.eval i = .int kk (m : Int) := by
                cases i with
                | const cv =>
                  simp only [opdA] at h3
                  obtain ⟨u, h11, h12⟩ := map_some' h3
                  cases h12
                  have := cval_rel G _ _ _ h11
                  simp only [VRel] at this
                  simpa [Act.eval] using this
                | tmp t => simp [opdA] at h3
                | func f => simp [opdA] at h3
                | global g => simp [opdA] at h3
              cases dst with
              | none => simp [locOp] at hv
              | some d =>
                simp only [locOp] at hv
                split at hv
                · rename_i s' o' h12
                  obtain ⟨h13, hv2⟩ := cond_some hv; clear hv; have hv := hv2; clear hv2
                  have := Nat.eq_of_beq_eq_true h13
                  subst this
                  cases hv
                  obtain ⟨_, b, h14, h15⟩ := R.lptr h12
                  have hdl : lookS E.loc d = some s := by
                    simp only [dstOk] at hd
                    split at hd <;> simp_all
                  obtain ⟨inf, dd, l1, l2, l3, l4, l5⟩ := lay_info h4
                  refine wp_value (x := .pointer (some ⟨b, o' + m * n, none⟩)) (w' := w) ?_ ⟨G, Lb, _, σ, hq, R.lset hdl h14, Tr.refl _ _ _ _ _⟩
                  have h16 : a.eval (.tmp tx) = .pointer (some ⟨b, o', none⟩) := h15
                  simp [execOp, Instr.indexAt, run_underlying h1, h16, hiv, asIntOf, run_sizeOf l1, l3, h10, Instr.sureAddr, add_none]
                · cases hv
            · cases hc
          · cases hc
          · split at hc
            · cases hc; cases hcls
            · cases hc
        · cases hc
      · cases hc
    · rename_i e y z h1 h2 h3
      split at hc
      · split at hc
        · cases hc; cases hcls
        · cases hc
      · cases hc
    · cases hc
  | load t x =>
    simp only [compOp] at hc
    split at hc
    · rename_i n g y h1 h2
      split at hc
      · rename_i s h3
        cases hc
        obtain ⟨tx, rfl, h4⟩ := root_some h3
        simp only [opdA, Option.some.injEq] at h2
        subst h2
        cases dst with
        | none => simp [locOp] at hv
        | some d =>
          simp only [locOp] at hv
          split at hv
          · rename_i s' o' h5
            obtain ⟨h6, hv2⟩ := cond_some hv; clear hv; have hv := hv2; clear hv2
            have := Nat.eq_of_beq_eq_true h6
            subst this
            split at hv
            · rename_i cs h7
              split at hv
              · rename_i v h8
                cases hv
                obtain ⟨_, b, h9, h10⟩ := R.lptr h5
                obtain ⟨b', c, t', h11, h12, h13⟩ := R.locs s cs h7
                rw [h9] at h11; cases h11
                obtain ⟨u, h14, h15⟩ := takeCells_rel (P := E.P) (w := w) h1 h13 (b := b) (o := 0) h8 (fun j z hj => by simp at hj; simp [World.cell?, h12, hj])
                rw [Nat.zero_add] at h14
                have h16 : a.eval (.tmp tx) = .pointer (some ⟨b, o', none⟩) := h10
                exact wp_value (x := u) (w' := w) (by simp [execOp, Instr.loadAt, Instr.sureAddr, h16, h14]) (step_quiet R own (dst := some d) h15 hq)
              · cases hv
            · cases hv
          · cases hv
      · cases hc; cases hcls
    · cases hc
  | store t x v =>
    simp only [compOp] at hc
    split at hc
    · rename_i n g y v' h1 h2 h3
      split at hc
      · rename_i s h4
        cases hc
        obtain ⟨tx, rfl, h5⟩ := root_some h4
        simp only [opdA, Option.some.injEq] at h2
        subst h2
        cases dst with
        | some d => simp [locOp] at hv
        | none =>
          simp only [locOp] at hv
          split at hv
          · rename_i s' o' u h6 h7
            obtain ⟨h8, hv2⟩ := cond_some hv; clear hv; have hv := hv2; clear hv2
            simp only [Bool.and_eq_true] at h8
            obtain ⟨⟨h8, h9⟩, h10⟩ := h8
            have := Nat.eq_of_beq_eq_true h8
            subst this
            have hn := Nat.eq_of_beq_eq_true h9
            split at hv
            · rename_i cs h11
              obtain ⟨h12, hv2⟩ := cond_some hv; clear hv; have hv := hv2; clear hv2
              have h12 := Nat.le_of_ble_eq_true h12
              cases hv
              obtain ⟨_, b, h13, h14⟩ := R.lptr h6
              obtain ⟨b', c, t', h15, h16, h17⟩ := R.locs s cs h11
              rw [h13] at h15; cases h15
              have hval := R.opd h3 h7
              have hcl := h17.length
              have hcs : c.toList.length = c.size := Array.length_toList
              have hst := run_storeVar (P := E.P) (w := w) h1 (v := a.eval v) (by rw [hval.size]; exact hn) h16 (o := o') (by omega) (hval.cells.words h10)
              have hsp := h17.splice hval.cells o' (by rw [hn]; exact h12)
              have hvl : (a.eval v).cells.toList.length = n := by rw [Array.length_toList, hval.size, hn]
              rw [hvl] at hsp
              have h18 : a.eval (.tmp tx) = .pointer (some ⟨b, o', none⟩) := h14
              obtain ⟨hR, hT⟩ := R.locStore (c' := (c.toList.take o' ++ (a.eval v).cells.toList ++ c.toList.drop (o' + n)).toArray) h13 h16 (by simpa using hsp) own
              exact wp_skipped (w' := _) (by simp [execOp, Instr.storeAt, Instr.sureAddr, h18, hst]) ⟨G, Lb, _, σ, hq, hR, hT⟩
            · cases hv
          · cases hv
      · cases hc; cases hcls
    · cases hc
  | call c =>
    simp only [compOp, compCall] at hc
    obtain ⟨callee, args, argTypes⟩ := c
    cases callee <;> simp only at hc <;> (repeat' split at hc) <;> first
      | contradiction
      | (cases hc; done)
      | (cases hc; cases hcls; done)
      | (obtain ⟨y, h1, h2⟩ := bare_some hc; cases h2; cases hcls; done)
  | _ =>
    simp only [compOp, compDefer] at hc
    (repeat' split at hc) <;> first
      | contradiction
      | (cases hc; done)
      | (cases hc; cases hcls; done)
      | (obtain ⟨y, h1, h2⟩ := bare_some hc; cases h2; cases hcls; done)
      | (obtain ⟨y, h1, h2⟩ := map_some' hc; cases h2; cases hcls; done)

end
end Go.Ago

set_option autoImplicit false
set_option linter.unusedSimpArgs false
set_option linter.unusedVariables false
namespace Go.Ago

section
variable {E : CEnv} {G : Gh} {Lb : Nat → Option Nat} {F : AFrame} {σ : AState} {a : Act} {w : World}
variable {dst : Option Tmp} {ty : TypeId} {pos : String} {aft : Array Edge} {gd : Option (Nat × Bool)}

theorem set_next (σ : AState) (r : Nat) (o : AObj) : (σ.set r o).next = σ.next := rfl

/-- An object turns. -/
theorem Rel.setObj (R : Rel E G Lb F σ a w) {w' : World} {r b : Nat} {o : AObj} {x : Obj} (hr : G.obj r = some b) (ho : ORel G o x) (h : OnlyAt b x w w') (own : Nat → Prop) :
    Rel E G Lb F (σ.set r o) a w' ∧ Tr own G Lb σ w G Lb (σ.set r o) w' := by
  have hw := R.wr.setObj hr ho h
  rw [← AState.get_set] at hw
  have hown : ∀ k, Owned G (σ.set r o).get k → Owned G σ.get k := by
    intro k hk
    rw [AState.get_set] at hk
    rcases hk with hk | ⟨s, o', cap, sz, y, es, lo, h1, h2⟩
    · exact .inl hk
    · by_cases hs : s = r
      · subst hs
        rw [upd_same] at h2
        cases h2
        exact ho.elim
      · rw [upd_other _ _ hs] at h2
        exact .inr ⟨s, o', cap, sz, y, es, lo, h1, h2⟩
  have hTr : Tr own G noLb σ w G noLb (σ.set r o) w' := by
    refine ⟨Le.refl _, Nat.le_refl _, fun s _ h1 h2 _ => ⟨h1, h2, ?_⟩, Nat.le_of_eq h.size.symm, fun k hk h1 _ => ?_, fun k _ hk => hown k hk, fun _ _ h _ => h, fun _ _ _ _ => rfl, h.os, h.out⟩
    · rw [AState.get_set]
      exact upd_other _ _ fun he => by subst he; rw [hr] at h1; cases h1
    · exact h.other k fun he => h1 (.inl ⟨r, he ▸ hr⟩)
  exact R.of_tr hTr hw R.dom

/-- A new object. -/
theorem Rel.newObj (R : Rel E G Lb F σ a w) {r : Nat} {o : AObj} {x : Obj} {own : Nat → Prop} (hown : own r) (hr : G.obj r = none) (hrow : G.row r = none) (hlt : r < σ.next) (ho : ORel G o x) :
    Rel E (G.withObj r w.heap.size) Lb F (σ.set r o) a (w.alloc x) ∧ Tr own G Lb σ w (G.withObj r w.heap.size) Lb (σ.set r o) (w.alloc x) := by
  obtain ⟨hw, hle⟩ := R.wr.newObj (mem' := (σ.set r o).get) (x := x) hr hrow (by rw [AState.get_set]; exact upd_same ..) (fun s hs => by rw [AState.get_set]; exact upd_other _ _ hs) ho
  have hg := Grow.push w x ho.thawed
  have hobj : ∀ s, s ≠ r → (G.withObj r w.heap.size).obj s = G.obj s := fun s hs => by simp [Gh.withObj, hs]
  have hTr : Tr own G noLb σ w (G.withObj r w.heap.size) noLb (σ.set r o) (w.alloc x) := by
    refine ⟨hle, Nat.le_refl _, fun s _ h1 h2 h3 => ?_, hg.size, fun k hk _ _ => ?_, fun k hk ho' => ?_, fun _ _ h _ => h, fun _ _ _ _ => rfl, rfl, hg.out⟩
    · have : s ≠ r := fun he => h3 (he ▸ hown)
      exact ⟨by rw [hobj s this]; exact h1, h2, by rw [AState.get_set]; exact upd_other _ _ this⟩
    · obtain ⟨z, hz⟩ : ∃ z, w.heap[k]? = some z := ⟨_, Array.getElem?_eq_getElem hk⟩
      rw [hz]; exact hg.heap k z hz
    · rcases ho' with ⟨s, hs⟩ | ⟨s, o', cap, sz, y, es, lo, h1, h2⟩
      · by_cases hsr : s = r
        · subst hsr
          simp only [Gh.withObj, if_true, Option.some.injEq] at hs
          omega
        · rw [hobj s hsr] at hs; exact .inl ⟨s, hs⟩
      · have h1' : G.row s = some (k, o', cap, sz) := h1
        have : s ≠ r := fun he => by subst he; rw [hrow] at h1'; cases h1'
        rw [AState.get_set, upd_other _ _ this] at h2
        exact .inr ⟨s, o', cap, sz, y, es, lo, h1', h2⟩
  refine R.of_tr hTr hw fun s hs => ?_
  have : s ≠ r := by have h : σ.next ≤ s := hs; omega
  exact ⟨by rw [hobj s this]; exact (R.dom s hs).1, (R.dom s hs).2⟩

theorem snd_box (R : Rel E G Lb F σ a w) {e : TypeId} {n : Nat} {g : Bool} {x : Operand} {y : AOpd} {v : AVal} {r : Nat} {own : Nat → Prop} (hown : own r) (hr : G.obj r = none) (hrow : G.row r = none) (hlt : r < σ.next)
    (hl : lay E.P e = some (n, g)) (hx : opdA x = some y) (hv : F.eval y = some v) {Q : Option AVal × AFrame × AState → Prop} (hq : Q (none, F.put dst (.ptr r 0), σ.set r (.cells v.cells))) (QQ : Exit → Act → World → Prop) :
    Oper.wp E.P ⟨dst, .box e x, ty, pos, aft, gd⟩ a w (StepNext E own G Lb σ w Q) QQ := by
  obtain ⟨hR, hT⟩ := R.newObj (o := .cells v.cells) (x := .cells (a.eval x).cells e (0, 0)) hown hr hrow hlt ⟨_, _, rfl, (R.opd hx hv).cells⟩
  exact wp_value (x := .pointer (some ⟨w.heap.size, 0, none⟩)) (w' := w.alloc (.cells (a.eval x).cells e (0, 0))) (by simp [execOp, Instr.box, newVar, newRow])
    ⟨_, Lb, _, _, hq, hR.put vrel_ptr_new, hT⟩

theorem entRel_set : ∀ {es : List (AVal × AVal × Nat)} {en : List MapEntry} {i : Nat} {k v : AVal} {b : Nat} {e : MapEntry}, EntRel G es en → VRel G k e.key → VRel G v e.val → e.born = b → EntRel G (es.set i (k, v, b)) (en.set i e)
  | [], en, i, k, v, b, e, h, _, _, _ => by have : en = [] := h; subst this; exact rfl
  | (_, _, _) :: es, en, 0, k, v, b, e, h, h1, h2, h3 => by
    obtain ⟨e', m, rfl, h4, h5, h6, h7⟩ := entRel_cons.1 h
    exact entRel_cons.2 ⟨e, m, rfl, h1, h2, h3, h7⟩
  | (_, _, _) :: es, en, i + 1, k, v, b, e, h, h1, h2, h3 => by
    obtain ⟨e', m, rfl, h4, h5, h6, h7⟩ := entRel_cons.1 h
    exact entRel_cons.2 ⟨e', _, rfl, h4, h5, h6, entRel_set h7 h1 h2 h3⟩

theorem entRel_append : ∀ {es es' : List (AVal × AVal × Nat)} {en en' : List MapEntry}, EntRel G es en → EntRel G es' en' → EntRel G (es ++ es') (en ++ en')
  | [], _, en, _, h, h' => by have : en = [] := h; subst this; exact h'
  | (_, _, _) :: es, _, en, _, h, h' => by
    obtain ⟨e', m, rfl, h4, h5, h6, h7⟩ := entRel_cons.1 h
    exact entRel_cons.2 ⟨e', _, rfl, h4, h5, h6, entRel_append h7 h'⟩

theorem entRel_erase : ∀ {es : List (AVal × AVal × Nat)} {en : List MapEntry} (i : Nat), EntRel G es en → EntRel G (es.eraseIdx i) (en.eraseIdx i)
  | [], en, i, h => by have : en = [] := h; subst this; exact rfl
  | (_, _, _) :: es, en, 0, h => by
    obtain ⟨e', m, rfl, h4, h5, h6, h7⟩ := entRel_cons.1 h
    exact h7
  | (_, _, _) :: es, en, i + 1, h => by
    obtain ⟨e', m, rfl, h4, h5, h6, h7⟩ := entRel_cons.1 h
    exact entRel_cons.2 ⟨e', _, rfl, h4, h5, h6, entRel_erase i h7⟩

theorem entRel_get : ∀ {es : List (AVal × AVal × Nat)} {en : List MapEntry} {i : Nat} {k v : AVal} {b : Nat}, EntRel G es en → es[i]? = some (k, v, b) → ∃ e, en[i]? = some e ∧ VRel G k e.key ∧ VRel G v e.val ∧ e.born = b
  | [], en, i, k, v, b, _, hi => by simp at hi
  | (_, _, _) :: es, en, 0, k, v, b, h, hi => by
    obtain ⟨e', m, rfl, h4, h5, h6, h7⟩ := entRel_cons.1 h
    simp at hi
    obtain ⟨rfl, rfl, rfl⟩ := hi
    exact ⟨e', by simp, h4, h5, h6⟩
  | (_, _, _) :: es, en, i + 1, k, v, b, h, hi => by
    obtain ⟨e', m, rfl, h4, h5, h6, h7⟩ := entRel_cons.1 h
    simp at hi
    obtain ⟨e, h8, h9⟩ := entRel_get h7 hi
    exact ⟨e, by simpa using h8, h9⟩

theorem keyEq_word {k j : AVal} (h : keyEq k j = some true) (hk : ∀ cs, k ≠ .agg cs) : ∃ r, wordEq k j = some r ∧ r = true := by
  cases k <;> first
    | exact absurd rfl (hk _)
    | (cases j <;> simp only [keyEq] at h <;> first
        | exact ⟨true, h, rfl⟩
        | (simp [wordEq] at h))

theorem byteArray_eq {s t : ByteArray} (h : s.data.toList = t.data.toList) : s = t := by
  cases s; cases t
  congr 1
  exact Array.ext' h

theorem wordEq_same {a b : AVal} {x y : Value} (hx : VRel G a x) (hy : VRel G b y) (h : wordEq a b = some true) : y = x := by
  rcases wordEq_rel hx hy h with ⟨k, m, n, rfl, rfl, e⟩ | ⟨s, t, rfl, rfl, e⟩ | ⟨p, q, rfl, rfl, e⟩
  · have : m = n := by simpa using e
    rw [this]
  · have : s.data.toList = t.data.toList := by simpa using e
    rw [byteArray_eq this]
  · have : p = q := by simpa using e
    rw [this]

theorem wordsEq_same : ∀ {as bs : List AVal} {xs ys : List Value}, VRels G as xs → VRels G bs ys → wordsEq as bs = some true → ys = xs
  | [], [], xs, ys, hx, hy, _ => by rw [vrels_nil.1 hx, vrels_nil.1 hy]
  | [], _ :: _, _, _, _, _, h => by simp [wordsEq] at h
  | _ :: _, [], _, _, _, _, h => by simp [wordsEq] at h
  | a :: as, b :: bs, xs, ys, hx, hy, h => by
    obtain ⟨p, q, h1, h2, h3⟩ := wordsEq_cons h
    have h3' := h3.symm
    simp only [Bool.and_eq_true] at h3'
    obtain ⟨rfl, rfl⟩ := h3'
    obtain ⟨x, m, rfl, e1, e2⟩ := vrels_cons.1 hx
    obtain ⟨y, n, rfl, e3, e4⟩ := vrels_cons.1 hy
    rw [wordEq_same e1 e3 h1, wordsEq_same e2 e4 h2]

/-- Keys that are found equal are the same value. -/
theorem keyEq_same {a b : AVal} {x y : Value} (hx : VRel G a x) (hy : VRel G b y) (h : keyEq a b = some true) : y = x := by
  by_cases ha : ∃ cs, a = .agg cs
  · obtain ⟨cs, rfl⟩ := ha
    cases b <;> simp only [keyEq, wordEq] at h <;> first
      | (cases h; done)
      | skip
    simp only [VRel] at hx hy
    obtain ⟨p, rfl, hp⟩ := hx
    obtain ⟨q, rfl, hq⟩ := hy
    have := wordsEq_same hp hq h
    rw [Array.ext' this]
  · obtain ⟨r, h1, rfl⟩ := keyEq_word h fun cs he => ha ⟨cs, he⟩
    exact wordEq_same hx hy h1

theorem findA_key : ∀ {es : List (AVal × AVal × Nat)} {k : AVal} {s i : Nat} {v : AVal}, findA k es s = some (some (i, v)) → s ≤ i ∧ ∃ j b, es[i - s]? = some (j, v, b) ∧ keyEq k j = some true
  | [], k, s, i, v, h => by simp [findA] at h
  | (j, u, b) :: es, k, s, i, v, h => by
    simp only [findA] at h
    split at h
    · rename_i he
      cases h
      exact ⟨Nat.le_refl _, j, b, by simp, he⟩
    · obtain ⟨h1, j', b', h2, h3⟩ := findA_key h
      refine ⟨by omega, j', b', ?_, h3⟩
      rw [show i - s = (i - (s + 1)) + 1 by omega]
      simpa using h2
    · cases h

/-- The key of an entry stays where it is found again. -/
theorem sameBits_word {a : AVal} {k : WK} {x : Value} (ha : isWK k a = true) (hx : VRel G a x) (n : Nat) : Instr.sameBits n x x = true := by
  cases k <;> cases a <;> simp [isWK] at ha <;> simp only [VRel] at hx <;> subst hx <;> cases n <;> simp [Instr.sameBits, beq_bytes]

theorem sameBits_key {kt : KT} {a : AVal} {x : Value} (ha : isKey kt a = true) (hx : VRel G a x) : Instr.sameBits 10000 x x = true := by
  cases kt with
  | word k => exact sameBits_word ha hx _
  | agg ks =>
    cases a <;> simp only [isKey] at ha <;> first
      | (cases ha; done)
      | skip
    rename_i cs
    simp only [VRel] at hx
    obtain ⟨xs, rfl, hxs⟩ := hx
    have key : ∀ (ks : List WK) (cs : List AVal) (l : List Value), areWK ks cs = true → VRels G cs l → (l.zip l).all (fun (x, y) => Instr.sameBits 9999 x y) = true := by
      intro ks
      induction ks with
      | nil =>
        intro cs l h1 h2
        cases cs with
        | nil => rw [vrels_nil.1 h2]; rfl
        | cons _ _ => simp [areWK] at h1
      | cons k ks ih =>
        intro cs l h1 h2
        cases cs with
        | nil => simp [areWK] at h1
        | cons c cs =>
          simp only [areWK, Bool.and_eq_true] at h1
          obtain ⟨x, m, rfl, h3, h4⟩ := vrels_cons.1 h2
          simp only [List.zip_cons_cons, List.all_cons, Bool.and_eq_true]
          exact ⟨sameBits_word h1.1 h3 _, ih cs m h1.2 h4⟩
    have := key ks cs xs.toList ha hxs
    show Instr.sameBits (9999 + 1) (.agg xs) (.agg xs) = true
    simp only [Instr.sameBits, beq_self_eq_true, Bool.true_and]
    exact this

theorem snd_mset (R : Rel E G Lb F σ a w) {t kt' e : TypeId} {kt : KT} {m k x : Operand} {m' k' x' : AOpd} {r : Nat} {kv v : AVal} {es : List (AVal × AVal × Nat)} {clock : Nat} {o : AObj} {own : Nat → Prop}
    (ht : E.P.underlying t = some (.map kt' e)) (hk : ktOf E.P kt' = some kt) (hm : opdA m = some m') (hk' : opdA k = some k') (hx : opdA x = some x')
    (h1 : F.eval m' = some (.map (some r))) (h2 : F.eval k' = some kv) (h3 : F.eval x' = some v) (h4 : σ.get r = some (.map es clock)) (h5 : isKey kt kv = true) (h6 : mapSet es clock kv v = some o)
    {Q : Option AVal × AFrame × AState → Prop} (hq : Q (none, F.put dst undefA, σ.set r o)) (QQ : Exit → Act → World → Prop) :
    Oper.wp E.P ⟨dst, .mapUpdate t m k x, ty, pos, aft, gd⟩ a w (StepNext E own G Lb σ w Q) QQ := by
  have hmv := R.opd hm h1
  have hkv := R.opd hk' h2
  have hxv := R.opd hx h3
  simp only [VRel] at hmv
  obtain ⟨b, hb, hmv⟩ := hmv
  obtain ⟨en, h7, h8⟩ := obj_map R hb h4
  have hget := run_getObj (P := E.P) h7 (by simp)
  have hck := run_checkKey (w := w) hk h5 hkv false
  -- what is written
  have key : ∃ en', ORel G o (.map en' (match o with | .map _ c => c | _ => 0)) ∧
      (Instr.mapUpdate t (a.eval m) (a.eval k) (a.eval x)).run E.P w = .ok () { w with heap := w.heap.setIfInBounds b (.map en' (match o with | .map _ c => c | _ => 0)) } := by
    unfold mapSet at h6
    split at h6
    · rename_i i u hf
      obtain ⟨q, h9, h10⟩ := run_findKey (P := E.P) (w := w) hk h5 hkv h8 hf
      obtain ⟨uv, e0, rfl, h11, h12, h13, h14, kk, bb, h15⟩ := h10
      split at h6
      · rename_i j' v' b' hi
        cases h6
        obtain ⟨_, j2, b2, h16, h17⟩ := findA_key hf
        simp only [Nat.sub_zero] at h16 h13 h15
        rw [hi] at h16; cases h16
        obtain ⟨e1, h18, h19, h20, h21⟩ := entRel_get h8 hi
        rw [h13] at h18; cases h18
        have hsame := keyEq_same hkv h19 h17
        have hi' : i < en.size := by
          have := (List.getElem?_eq_some_iff.1 h13).1
          simpa using this
        have hei : en[i]? = some e0 := by simpa using h13
        have hstay : (Instr.keyThatStays e0.key (a.eval k)).run E.P w = .ok (a.eval k) w := by
          rw [hsame]
          simp [Instr.keyThatStays, sameBits_key h5 hkv]
        refine ⟨en.modify i fun e => { e with key := a.eval k, val := a.eval x }, ⟨_, rfl, ?_⟩, ?_⟩
        · have hset := entRel_set (i := i) (e := { e0 with key := a.eval k, val := a.eval x }) h8 hkv hxv h21
          have he : (en.modify i fun e => { e with key := a.eval k, val := a.eval x }).toList = en.toList.set i { e0 with key := a.eval k, val := a.eval x } := by
            apply List.ext_getElem?
            intro n
            rw [Array.getElem?_toList, Array.getElem?_modify, List.getElem?_set]
            by_cases hn : i = n
            · subst hn
              have hei2 := (Array.getElem?_eq_some_iff.1 hei).2
              simp [hei, hi', hei2]
            · simp [hn]
          rw [he]
          exact hset
        · simp only [Instr.mapUpdate, Sem.run_bind, run_underlying ht, Result.andThen_ok, hmv, hget, hck, h9, hei, Option.map_some, Option.getD_some, hstay, run_setObj h7 (by simp)]
      · cases h6
    · rename_i hf
      cases h6
      obtain ⟨q, h9, h10⟩ := run_findKey (P := E.P) (w := w) hk h5 hkv h8 hf
      have : q = none := h10
      subst this
      refine ⟨en.push { key := a.eval k, val := a.eval x, born := clock }, ⟨_, rfl, ?_⟩, ?_⟩
      · rw [Array.toList_push]
        exact entRel_append h8 (entRel_cons.2 ⟨_, [], rfl, hkv, hxv, rfl, rfl⟩)
      · simp only [Instr.mapUpdate, Sem.run_bind, run_underlying ht, Result.andThen_ok, hmv, hget, hck, h9, run_setObj h7 (by simp)]
    · cases h6
  obtain ⟨en', h9, h10⟩ := key
  obtain ⟨hR, hT⟩ := R.setObj (own := own) hb h9 (onlyAt_setIfInBounds h7 (fun _ _ _ he => by cases he) h9.thawed)
  exact wp_skipped (w' := _) (by simp [execOp, h10]) ⟨G, Lb, _, _, hq, hR.put vrel_undef, hT⟩

end
end Go.Ago

set_option autoImplicit false
set_option linter.unusedSimpArgs false
set_option linter.unusedVariables false
namespace Go.Ago

theorem world_set_same {w : World} {r : Nat} {o : Obj} (h : w.heap[r]? = some o) : { w with heap := w.heap.setIfInBounds r o } = w := by
  cases w with
  | mk heap tape drawn os output =>
    congr 1
    apply Array.ext_getElem?
    intro i
    by_cases hi : r = i
    · subst hi
      have := heap_lt h
      have h' : heap[r]? = some o := h
      rw [h']
      have hlt : r < heap.size := this
      simp [hlt]
    · exact Array.getElem?_setIfInBounds_ne hi

section
variable {E : CEnv} {G : Gh} {Lb : Nat → Option Nat} {F : AFrame} {σ : AState} {a : Act} {w : World}
variable {dst : Option Tmp} {ty : TypeId} {pos : String} {aft : Array Edge} {gd : Option (Nat × Bool)}

theorem vrel_unit : VRel G (.tuple []) (.tuple #[]) := by
  simp only [VRel]
  exact ⟨#[], rfl, by simp only [VRels]⟩

theorem snd_del (R : Rel E G Lb F σ a w) {t t2 kt' e : TypeId} {kt : KT} {m k : Operand} {m' k' : AOpd} {r : Nat} {kv : AVal} {es : List (AVal × AVal × Nat)} {clock : Nat} {own : Nat → Prop} {args : Array Operand} {argTypes : Array TypeId}
    (ha : args.toList = [m, k]) (hat : argTypes.toList = [t, t2])
    (ht : E.P.underlying t = some (.map kt' e)) (hk : ktOf E.P kt' = some kt) (hm : opdA m = some m') (hk' : opdA k = some k')
    (h1 : F.eval m' = some (.map (some r))) (h2 : F.eval k' = some kv) (h4 : σ.get r = some (.map es clock)) (h5 : isKey kt kv = true)
    {Q : Option AVal × AFrame × AState → Prop} (hq : (match findA kv es 0 with
      | some (some (i, _)) => Q (none, F.put dst (.tuple []), σ.set r (.map (es.eraseIdx i) clock))
      | some none => Q (none, F.put dst (.tuple []), σ)
      | none => False)) (QQ : Exit → Act → World → Prop) :
    Oper.wp E.P ⟨dst, .call ⟨.builtin .delete, args, argTypes⟩, ty, pos, aft, gd⟩ a w (StepNext E own G Lb σ w Q) QQ := by
  have hargs : args = #[m, k] := Array.ext' (by simpa using ha)
  have hats : argTypes = #[t, t2] := Array.ext' (by simpa using hat)
  subst hargs; subst hats
  have hmv := R.opd hm h1
  have hkv := R.opd hk' h2
  simp only [VRel] at hmv
  obtain ⟨b, hb, hmv⟩ := hmv
  obtain ⟨en, h7, h8⟩ := obj_map R hb h4
  have hget := run_getObj (P := E.P) h7 (by simp)
  have hck := fun em => run_checkKey (w := w) hk h5 hkv em
  split at hq
  · rename_i i u hf
    obtain ⟨q, h9, h10⟩ := run_findKey (P := E.P) (w := w) hk h5 hkv h8 hf
    obtain ⟨uv, e0, rfl, h11, h12, h13, h14, kk, bb, h15⟩ := h10
    have hrel : ORel G (.map (es.eraseIdx i) clock) (.map (en.eraseIdxIfInBounds i) clock) := by
      refine ⟨_, rfl, ?_⟩
      have := entRel_erase i h8
      have he : (en.eraseIdxIfInBounds i).toList = en.toList.eraseIdx i := by simp
      rw [he]
      exact this
    obtain ⟨hR, hT⟩ := R.setObj (own := own) hb hrel (onlyAt_setIfInBounds h7 (fun _ _ _ he => by cases he) hrel.thawed)
    exact wp_value (x := .tuple #[]) (w' := _) (by simp [execOp, resolve, invoke, builtin, Builtin.delete_, run_underlying ht, hmv, hget, hck, h9, run_setObj h7]) ⟨G, Lb, _, _, hq, hR.put vrel_unit, hT⟩
  · rename_i hf
    obtain ⟨q, h9, h10⟩ := run_findKey (P := E.P) (w := w) hk h5 hkv h8 hf
    have : q = none := h10
    subst this
    refine wp_value (x := .tuple #[]) (w' := w) ?_ (step_quiet R own vrel_unit hq)
    have hset : (setObj b (.map en clock)).run E.P w = .ok () w := by rw [run_setObj h7 (by simp), world_set_same h7]
    simp [execOp, resolve, invoke, builtin, Builtin.delete_, run_underlying ht, hmv, hget, hck, h9, hset]
  · exact hq.elim

theorem snd_rng (R : Rel E G Lb F σ a w) {t k e : TypeId} {x : Operand} {y : AOpd} {v : AVal} {r : Nat} {own : Nat → Prop} (hown : own r) (hr : G.obj r = none) (hrow : G.row r = none) (hlt : r < σ.next)
    (ht : E.P.underlying t = some (.map k e)) (hx : opdA x = some y) (hv : F.eval y = some v) {Q : Option AVal × AFrame × AState → Prop}
    (hq : (match v with
      | .map none => Q (none, F.put dst (.ptr r 0), σ.set r (.iter none 0 [] 0))
      | .map (some m) => (match σ.get m with
        | some (.map _ clock) => Q (none, F.put dst (.ptr r 0), σ.set r (.iter (some m) clock [] clock))
        | _ => False)
      | _ => False)) (QQ : Exit → Act → World → Prop) :
    Oper.wp E.P ⟨dst, .range t x, ty, pos, aft, gd⟩ a w (StepNext E own G Lb σ w Q) QQ := by
  have h := R.opd hx hv
  split at hq
  · simp only [VRel] at h
    obtain ⟨hR, hT⟩ := R.newObj (o := .iter none 0 [] 0) (x := .mapIter none 0 #[] 0) hown hr hrow hlt ⟨none, rfl, rfl⟩
    exact wp_value (x := .pointer (some ⟨w.heap.size, 0, none⟩)) (w' := w.alloc _) (by simp [execOp, Instr.range, run_underlying ht, h]) ⟨_, Lb, _, _, hq, hR.put vrel_ptr_new, hT⟩
  · rename_i m _
    simp only [VRel] at h
    obtain ⟨b, hb, h⟩ := h
    split at hq
    · rename_i es clock hm
      obtain ⟨en, h1, h2⟩ := obj_map R hb hm
      obtain ⟨hR, hT⟩ := R.newObj (o := .iter (some m) clock [] clock) (x := .mapIter (some b) clock #[] clock) hown hr hrow hlt ⟨some b, rfl, b, hb, rfl⟩
      exact wp_value (x := .pointer (some ⟨w.heap.size, 0, none⟩)) (w' := w.alloc _) (by simp [execOp, Instr.range, run_underlying ht, h, run_getObj h1]) ⟨_, Lb, _, _, hq, hR.put vrel_ptr_new, hT⟩
    · exact hq.elim
  · exact hq.elim

/-! ## Ranges over maps -/

theorem entRel_filter {f : AVal × AVal × Nat → Bool} {g : MapEntry → Bool} (hfg : ∀ k v e, f (k, v, e.born) = g e) : ∀ {es : List (AVal × AVal × Nat)} {en : List MapEntry}, EntRel G es en → EntRel G (es.filter f) (en.filter g)
  | [], en, h => by have : en = [] := h; subst this; exact rfl
  | (k, v, b) :: es, en, h => by
    obtain ⟨e, m, rfl, h1, h2, h3, h4⟩ := entRel_cons.1 h
    have ih := entRel_filter hfg h4
    have := hfg k v e
    rw [h3] at this
    simp only [List.filter_cons, this]
    split
    · exact entRel_cons.2 ⟨e, _, rfl, h1, h2, h3, ih⟩
    · exact ih

theorem entRel_all {f : AVal × AVal × Nat → Bool} {g : MapEntry → Bool} (hfg : ∀ k v e, f (k, v, e.born) = g e) : ∀ {es : List (AVal × AVal × Nat)} {en : List MapEntry}, EntRel G es en → es.all f = en.all g
  | [], en, h => by have : en = [] := h; subst this; rfl
  | (k, v, b) :: es, en, h => by
    obtain ⟨e, m, rfl, h1, h2, h3, h4⟩ := entRel_cons.1 h
    have ih := entRel_all hfg h4
    have := hfg k v e
    rw [h3] at this
    simp only [List.all_cons, this, ih]

/-- What a range may come to next. -/
def candsA (es : List (AVal × AVal × Nat)) (since : Nat) (seen : List Nat) : List (Option (AVal × AVal × Nat)) :=
  (if ((es.filter fun e => !seen.contains e.2.2).filter fun e => Nat.blt e.2.2 since).isEmpty then [none] else []) ++
    (((es.filter fun e => !seen.contains e.2.2).filter fun e => Nat.blt e.2.2 since) ++ ((es.filter fun e => !seen.contains e.2.2).filter fun e => !Nat.blt e.2.2 since)).map some

def candsV (en : List MapEntry) (since : Nat) (seen : List Nat) : List (Option MapEntry) :=
  (if ((en.filter fun e => !seen.contains e.born).filter fun e => decide (e.born < since)).isEmpty then [none] else []) ++
    (((en.filter fun e => !seen.contains e.born).filter fun e => decide (e.born < since)) ++ ((en.filter fun e => !seen.contains e.born).filter fun e => decide (e.born ≥ since))).map some

def CandRel (G : Gh) (x : Option (AVal × AVal × Nat)) (y : Option MapEntry) : Prop :=
  match x with
  | none => y = none
  | some (k, v, n) => ∃ e, y = some e ∧ VRel G k e.key ∧ VRel G v e.val ∧ e.born = n

theorem blt_dec (a b : Nat) : Nat.blt a b = decide (a < b) := by
  rw [Bool.eq_iff_iff]
  simp [Nat.blt, Nat.ble_eq, Nat.lt_iff_add_one_le]

theorem entRel_map : ∀ {es : List (AVal × AVal × Nat)} {en : List MapEntry} {i : Nat} {x : Option (AVal × AVal × Nat)}, EntRel G es en → (es.map some)[i]? = some x → ∃ y, (en.map some)[i]? = some y ∧ CandRel G x y
  | [], en, i, x, h, hi => by simp at hi
  | (k, v, b) :: es, en, 0, x, h, hi => by
    obtain ⟨e, m, rfl, h1, h2, h3, h4⟩ := entRel_cons.1 h
    simp at hi
    subst hi
    exact ⟨some e, by simp, e, rfl, h1, h2, h3⟩
  | (k, v, b) :: es, en, i + 1, x, h, hi => by
    obtain ⟨e, m, rfl, h1, h2, h3, h4⟩ := entRel_cons.1 h
    simp only [List.map_cons, List.getElem?_cons_succ] at hi
    obtain ⟨y, h5, h6⟩ := entRel_map h4 hi
    exact ⟨y, by simpa using h5, h6⟩

theorem cands_rel {es : List (AVal × AVal × Nat)} {en : List MapEntry} (h : EntRel G es en) (since : Nat) (seen : List Nat) :
    (candsV en since seen).length = (candsA es since seen).length ∧ ∀ (i : Nat) x, (candsA es since seen)[i]? = some x → ∃ y, (candsV en since seen)[i]? = some y ∧ CandRel G x y := by
  have h1 := entRel_filter (f := fun e => !seen.contains e.2.2) (g := fun e => !seen.contains e.born) (fun _ _ _ => rfl) h
  have h2 := entRel_filter (f := fun e => Nat.blt e.2.2 since) (g := fun e => decide (e.born < since)) (fun _ _ _ => blt_dec _ _) h1
  have h3 := entRel_filter (f := fun e => !Nat.blt e.2.2 since) (g := fun e => decide (e.born ≥ since)) (fun _ _ e => by
    show (!Nat.blt e.born since) = _
    rw [blt_dec, Bool.eq_iff_iff]; simp) h1
  have h4 := entRel_append h2 h3
  unfold candsA candsV
  generalize (es.filter fun e => !seen.contains e.2.2).filter (fun e => Nat.blt e.2.2 since) = p at *
  generalize (en.filter fun e => !seen.contains e.born).filter (fun e => decide (e.born < since)) = q at *
  have hl := entRel_length h4
  have he : q.isEmpty = p.isEmpty := by
    have := entRel_length h2
    cases p <;> cases q <;> simp at this ⊢
  rw [he]
  cases hp : p.isEmpty with
  | true =>
    simp only [if_true]
    refine ⟨by simpa using hl, fun i x hi => ?_⟩
    cases i with
    | zero => simp at hi; subst hi; exact ⟨none, by simp, rfl⟩
    | succ i =>
      simp only [List.singleton_append, List.getElem?_cons_succ] at hi ⊢
      exact entRel_map h4 hi
  | false =>
    simp only [Bool.false_eq_true, if_false, List.nil_append]
    exact ⟨by simpa using hl, fun i x hi => entRel_map h4 hi⟩

theorem Rel.drew (R : Rel E G Lb F σ a w) (n : Nat) (own : Nat → Prop) : Rel E G Lb F σ a { w with drawn := n } ∧ Tr own G Lb σ w G Lb σ { w with drawn := n } :=
  ⟨R.grow (Le.refl _) (R.wr.grow (Grow.drew w n)) R.dom (fun s b h => ⟨rfl, (R.lbFree s b h).1, (R.lbFree s b h).2.1⟩) (Nat.le_refl _), tr_grow own (Le.refl _) (fun _ _ => rfl) rfl (Grow.drew w n) (fun _ _ h => h) fun _ _ _ => rfl⟩

theorem snd_nxt (R : Rel E G Lb F σ a w) {x : Operand} {y : AOpd} {r : Nat} {m : Option Nat} {since last : Nat} {seen : List Nat} {own : Nat → Prop} (hx : opdA x = some y) (hv : F.eval y = some (.ptr r 0)) (hm : σ.get r = some (.iter m since seen last))
    {Q : Option AVal × AFrame × AState → Prop}
    (hq : (match m with
      | none => Q (none, F.put dst (.tuple [.bool false]), σ)
      | some mm => (match σ.get mm with
        | some (.map es clock) => (!seen.isEmpty && !es.isEmpty && es.all fun e => Nat.ble last e.2.2) = false ∧ ∀ i, (candsA es since seen).length ≤ 1 ∧ i = 0 ∨ ¬ (candsA es since seen).length ≤ 1 ∧ i < (candsA es since seen).length →
            (match (candsA es since seen)[i]? with
            | some (some e) => Q (none, F.put dst (.tuple [.bool true, e.1, e.2.1]), σ.set r (.iter (some mm) since (seen ++ [e.2.2]) clock))
            | some none => Q (none, F.put dst (.tuple [.bool false]), σ)
            | none => False)
        | _ => False))) (QQ : Exit → Act → World → Prop) :
    Oper.wp E.P ⟨dst, .next x false, ty, pos, aft, gd⟩ a w (StepNext E own G Lb σ w Q) QQ := by
  have h := R.opd hx hv
  simp only [VRel] at h
  obtain ⟨b, hb, h⟩ := h
  obtain ⟨m', h1, h2⟩ := obj_iter R hb hm
  have hget := run_getObj (P := E.P) h1 (by simp)
  have nil2 : VRels G [] [] := by simp only [VRels]
  have one : VRel G (.tuple [.bool false]) (.tuple #[.bool false]) := by
    simp only [VRel]
    exact ⟨_, rfl, vrels_cons.2 ⟨_, _, rfl, by simp only [VRel], nil2⟩⟩
  cases m with
  | none =>
    have : m' = none := h2
    subst this
    exact wp_value (x := .tuple #[.bool false]) (w' := w) (by simp [execOp, Instr.next, h, hget]) (step_quiet R own one hq)
  | some mm =>
    obtain ⟨bm, hbm, rfl⟩ := h2
    simp only at hq
    split at hq
    · rename_i es clock hmm
      obtain ⟨hnot, hq⟩ := hq
      obtain ⟨en, h3, h4⟩ := obj_map R hbm hmm
      have hgetm := run_getObj (P := E.P) h3 (by simp)
      obtain ⟨c1, c2⟩ := cands_rel h4 since seen
      have hall : es.all (fun e => Nat.ble last e.2.2) = en.toList.all (fun e => decide (e.born ≥ last)) := entRel_all (fun _ _ e => by
        show Nat.ble last e.born = _
        rw [Bool.eq_iff_iff]; simp [Nat.ble_eq]) h4
      have hemp : es.isEmpty = en.isEmpty := by
        have hl := entRel_length h4
        rw [Bool.eq_iff_iff, List.isEmpty_iff, Array.isEmpty_iff]
        constructor
        · intro he
          subst he
          exact Array.ext' (by simpa using List.length_eq_zero_iff.1 hl)
        · intro he
          subst he
          exact List.length_eq_zero_iff.1 (by simpa using hl.symm)
      have hguard : (!seen.toArray.isEmpty && !en.isEmpty && en.all fun e => decide (e.born ≥ last)) = false := by
        rw [hall, hemp] at hnot
        have e1 : seen.toArray.isEmpty = seen.isEmpty := by cases seen <;> rfl
        rw [e1, ← Array.all_toList]
        exact hnot
      -- the model's candidates are these
      have hc : ((if ((en.filter fun e => !seen.toArray.contains e.born).filter (fun e => decide (e.born < since))).isEmpty then #[none] else #[]) ++
          (((en.filter fun e => !seen.toArray.contains e.born).filter (fun e => decide (e.born < since))) ++ ((en.filter fun e => !seen.toArray.contains e.born).filter (fun e => decide (e.born ≥ since)))).map some : Array (Option MapEntry)) = (candsV en.toList since seen).toArray := by
        apply Array.ext'
        unfold candsV
        have e0 : ∀ (f : MapEntry → Bool) (A : Array MapEntry), (A.filter f).toList = A.toList.filter f := fun f A => by simp
        have e1 : ((en.filter fun e => !seen.toArray.contains e.born).filter (fun e => decide (e.born < since))).isEmpty = ((en.toList.filter fun e => !seen.contains e.born).filter fun e => decide (e.born < since)).isEmpty := by
          rw [← Array.isEmpty_toList]; simp
        rw [e1]
        split <;> simp
      have run : ∀ (i : Nat) (w1 : World), (choose (.mapNext (candsV en.toList since seen).length)).run E.P w = .ok i w1 → (Instr.next (.pointer (some ⟨b, 0, none⟩)) false ty).run E.P w =
          (match (candsV en.toList since seen)[i]? with
          | some (some e) => (do setObj b (.mapIter (some bm) since (seen.toArray.push e.born) clock); pure (.tuple #[.bool true, e.key, e.val]) : Sem Value)
          | some none => pure (.tuple #[.bool false])
          | none => stuck "Next: no such candidate").run E.P w1 := by
        intro i w1 hch
        simp only [Instr.next, Sem.run_bind, hget, hgetm, Result.andThen_ok, hguard, Bool.false_eq_true, if_false, hc]
        simp only [List.size_toArray, hch, Result.andThen_ok, List.getElem?_toArray]
        rfl
      have fin : ∀ (i : Nat) (w1 : World), (choose (.mapNext (candsV en.toList since seen).length)).run E.P w = .ok i w1 → Rel E G Lb F σ a w1 → Tr own G Lb σ w G Lb σ w1 → w1.heap = w.heap →
          ((candsA es since seen).length ≤ 1 ∧ i = 0 ∨ ¬ (candsA es since seen).length ≤ 1 ∧ i < (candsA es since seen).length) →
          Oper.wp E.P ⟨dst, .next x false, ty, pos, aft, gd⟩ a w (StepNext E own G Lb σ w Q) QQ := by
        intro i w1 hch R1 T1 hh hi
        have hqi := hq i hi
        have hrun := run i w1 hch
        split at hqi
        · rename_i e he
          obtain ⟨y', h5, h6⟩ := c2 i _ he
          obtain ⟨k, v, n⟩ := e
          obtain ⟨e', rfl, h7, h8, h9⟩ := h6
          rw [h5] at hrun
          have h1' : w1.heap[b]? = some (.mapIter (some bm) since seen.toArray last) := by rw [hh]; exact h1
          simp only [Sem.run_bind, run_setObj h1' (by simp), Result.andThen_ok, Sem.run_pure] at hrun
          have hrel : ORel G (.iter (some mm) since (seen ++ [n]) clock) (.mapIter (some bm) since (seen.toArray.push e'.born) clock) := by
            refine ⟨some bm, ?_, bm, hbm, rfl⟩
            rw [h9]
            simp
          obtain ⟨hR, hT⟩ := R1.setObj (own := own) hb hrel (onlyAt_setIfInBounds h1' (fun _ _ _ he => by cases he) hrel.thawed)
          refine wp_value (x := .tuple #[.bool true, e'.key, e'.val]) (w' := _) ?_ ⟨G, Lb, _, _, hqi, hR.put ?_, (T1.trans hT).mono fun r hr => hr.elim id id⟩
          · simp only [execOp, h, Sem.run_bind, hrun, Result.andThen_ok, Sem.run_pure]
          · simp only [VRel]
            exact ⟨_, rfl, vrels_cons.2 ⟨_, _, rfl, by simp only [VRel], vrels_cons.2 ⟨_, _, rfl, h7, vrels_cons.2 ⟨_, _, rfl, h8, nil2⟩⟩⟩⟩
        · rename_i he
          obtain ⟨y', h5, h6⟩ := c2 i _ he
          have : y' = none := h6
          subst this
          rw [h5] at hrun
          simp only [Sem.run_pure] at hrun
          refine wp_value (x := .tuple #[.bool false]) (w' := w1) ?_ ⟨G, Lb, _, _, hqi, R1.put one, T1⟩
          simp only [execOp, h, Sem.run_bind, hrun, Result.andThen_ok, Sem.run_pure]
        · exact hqi.elim
      by_cases hf : (candsA es since seen).length ≤ 1
      · have hch : (choose (.mapNext (candsV en.toList since seen).length)).run E.P w = .ok 0 w := by
          rw [run_choose, if_pos (by simp [Question.forced, c1, hf])]
        exact fin 0 w hch R (Tr.refl _ _ _ _ _) rfl (.inl ⟨hf, rfl⟩)
      · have hch : (choose (.mapNext (candsV en.toList since seen).length)).run E.P w = .ok (w.tape w.drawn (.mapNext (candsV en.toList since seen).length) % (candsV en.toList since seen).length) { w with drawn := w.drawn + 1 } := by
          rw [run_choose, if_neg (by simp [Question.forced, c1]; omega)]
          rfl
        obtain ⟨R1, T1⟩ := R.drew (w.drawn + 1) own
        exact fin _ _ hch R1 T1 rfl (.inr ⟨hf, by rw [← c1]; exact Nat.mod_lt _ (by omega)⟩)
    · exact hq.elim

end
end Go.Ago

set_option autoImplicit false
set_option linter.unusedSimpArgs false
set_option linter.unusedVariables false
namespace Go.Ago

theorem lockRows_next : ∀ (l : List Nat) (σ : AState), (lockRows σ l).next = σ.next
  | [], _ => rfl
  | r :: l, σ => by
    simp only [lockRows]
    split
    · rw [lockRows_next l]; rfl
    · exact lockRows_next l σ

/-- What locking leaves of the memory. -/
def Locked (σ σ' : AState) (l : List Nat) : Prop :=
  (∀ r x es lo, σ.get r = some (.row x es lo) → ∃ lo', σ'.get r = some (.row x es lo')) ∧ (∀ r, (∀ x es lo, σ.get r ≠ some (.row x es lo)) → σ'.get r = σ.get r) ∧ (∀ r, r ∉ l → σ'.get r = σ.get r)

theorem Locked.back {σ σ' : AState} {l : List Nat} (h : Locked σ σ' l) {r x lo : Nat} {es : List AVal} (hr : σ'.get r = some (.row x es lo)) : ∃ lo', σ.get r = some (.row x es lo') := by
  by_cases hx : ∃ y fs lo, σ.get r = some (.row y fs lo)
  · obtain ⟨y, fs, lo', h1⟩ := hx
    obtain ⟨lo2, h2⟩ := h.1 r y fs lo' h1
    rw [hr] at h2
    cases h2
    exact ⟨lo', h1⟩
  · rw [h.2.1 r fun y fs lo he => hx ⟨y, fs, lo, he⟩] at hr
    exact ⟨lo, hr⟩

theorem lockRows_sound {w : World} : ∀ (l : List Nat) (G : Gh) (σ : AState), WRel G σ.get w → (∀ r ∈ l, ∃ y, G.row r = some y) →
    ∃ G', Le G G' ∧ G'.obj = G.obj ∧ G'.row = G.row ∧ WRel G' (lockRows σ l).get w ∧
      (∀ r ∈ l, ∀ b o cap sz x es lo, G.row r = some (b, o, cap, sz) → σ.get r = some (.row x es lo) → ∃ vs, ERels G' sz es vs ∧ ImAt G' b o vs) ∧
      Locked σ (lockRows σ l) l ∧ (∀ b, ¬ Owned G σ.get b → ∀ o, G'.im b o = G.im b o)
  | [], G, σ, hw, _ => ⟨G, Le.refl _, rfl, rfl, hw, fun r hr => by simp at hr, ⟨fun r x es lo h => ⟨lo, h⟩, fun _ _ => rfl, fun _ _ => rfl⟩, fun _ _ _ => rfl⟩
  | r :: l, G, σ, hw, hl => by
    obtain ⟨y, hy⟩ := hl r (by simp)
    obtain ⟨b, o, cap, sz⟩ := y
    simp only [lockRows]
    split
    · rename_i x es lo hm
      obtain ⟨G1, e1, e2, e3, e4, ⟨vs, e5, e6⟩, e7⟩ := hw.lock hy hm
      rw [← AState.get_set] at e4
      obtain ⟨G2, f1, f2, f3, f4, f5, f6, f7⟩ := lockRows_sound l G1 (σ.set r (.row x es es.length)) e4 (fun s hs => by rw [e3]; exact hl s (by simp [hs]))
      have get : ∀ s, (σ.set r (.row x es es.length)).get s = if s = r then some (.row x es es.length) else σ.get s := fun s => by rw [AState.get_set]; rfl
      refine ⟨G2, e1.trans f1, f2.trans e2, f3.trans e3, f4, ?_, ⟨?_, ?_, ?_⟩, ?_⟩
      · intro s hs b' o' cap' sz' x' es' lo' h1 h2
        by_cases hsr : s = r
        · subst hsr
          rw [hy] at h1; cases h1
          rw [hm] at h2; cases h2
          exact ⟨vs, ERels.mono f1 _ _ _ e5, e6.mono f1⟩
        · have hs' : s ∈ l := by simpa [hsr] using hs
          exact f5 s hs' b' o' cap' sz' x' es' lo' (by rw [e3]; exact h1) (by rw [get, if_neg hsr]; exact h2)
      · intro s x' es' lo' h
        by_cases hsr : s = r
        · subst hsr
          rw [hm] at h; cases h
          exact f6.1 s _ _ _ (by rw [get, if_pos rfl])
        · exact f6.1 s _ _ _ (by rw [get, if_neg hsr]; exact h)
      · intro s h
        have hsr : s ≠ r := fun he => by subst he; exact h _ _ _ hm
        rw [f6.2.1 s (fun x es lo => by rw [get, if_neg hsr]; exact h x es lo), get, if_neg hsr]
      · intro s h
        simp only [List.mem_cons, not_or] at h
        rw [f6.2.2 s h.2, get, if_neg h.1]
      · intro k hk o'
        have hkb : k ≠ b := fun he => hk (.inr ⟨r, o, cap, sz, x, es, lo, he ▸ hy, hm⟩)
        rw [f7 k ?_ o', e7 k hkb o']
        intro hk1
        apply hk
        rcases hk1 with ⟨s, hs⟩ | ⟨s, o2, c2, z2, x2, es2, lo2, h1, h2⟩
        · rw [e2] at hs; exact .inl ⟨s, hs⟩
        · rw [e3] at h1
          rw [get] at h2
          split at h2
          · rename_i hsr
            subst hsr
            exact .inr ⟨s, o2, c2, z2, x, es, lo, h1, hm⟩
          · exact .inr ⟨s, o2, c2, z2, x2, es2, lo2, h1, h2⟩
    · rename_i hm
      obtain ⟨G2, f1, f2, f3, f4, f5, f6, f7⟩ := lockRows_sound l G σ hw (fun s hs => hl s (by simp [hs]))
      refine ⟨G2, f1, f2, f3, f4, ?_, ⟨f6.1, f6.2.1, fun s h => f6.2.2 s (by simp at h; exact h.2)⟩, f7⟩
      intro s hs b' o' cap' sz' x' es' lo' h1 h2
      by_cases hsr : s = r
      · subst hsr
        exact absurd h2 (hm _ _ _)
      · exact f5 s (by simpa [hsr] using hs) b' o' cap' sz' x' es' lo' h1 h2

mutual
theorem rowsOf_rel {G : Gh} : ∀ (v : AVal) (x : Value), VRel G v x → ∀ r ∈ rowsOf v, ∃ y, G.row r = some y
  | .slc r off len sz full, x, h, s, hs => by
    simp only [rowsOf, List.mem_singleton] at hs
    subst hs
    simp only [VRel] at h
    obtain ⟨b, o, cap, ad, c, h1, _⟩ := h
    exact ⟨_, h1⟩
  | .agg cs, x, h, s, hs => by
    simp only [rowsOf] at hs
    simp only [VRel] at h
    obtain ⟨l, _, h2⟩ := h
    exact rowsOfs_rel cs _ h2 s hs
  | .tuple cs, x, h, s, hs => by
    simp only [rowsOf] at hs
    simp only [VRel] at h
    obtain ⟨l, _, h2⟩ := h
    exact rowsOfs_rel cs _ h2 s hs
  | .iface _ v, x, h, s, hs => by
    simp only [rowsOf] at hs
    simp only [VRel] at h
    obtain ⟨l, _, h2⟩ := h
    exact rowsOf_rel v _ h2 s hs
  | .bool _, _, _, s, hs => by simp [rowsOf] at hs
  | .int _ _, _, _, s, hs => by simp [rowsOf] at hs
  | .str _, _, _, s, hs => by simp [rowsOf] at hs
  | .nilptr, _, _, s, hs => by simp [rowsOf] at hs
  | .ptr _ _, _, _, s, hs => by simp [rowsOf] at hs
  | .lptr _ _, _, _, s, hs => by simp [rowsOf] at hs
  | .cptr _, _, _, s, hs => by simp [rowsOf] at hs
  | .rptr _ _ _, _, _, s, hs => by simp [rowsOf] at hs
  | .slice _ _, _, _, s, hs => by simp [rowsOf] at hs
  | .map _, _, _, s, hs => by simp [rowsOf] at hs
  | .func _ _ _, _, _, s, hs => by simp [rowsOf] at hs
  | .nilfunc, _, _, s, hs => by simp [rowsOf] at hs
  | .niliface, _, _, s, hs => by simp [rowsOf] at hs
  | .junk, _, _, s, hs => by simp [rowsOf] at hs
theorem rowsOfs_rel {G : Gh} : ∀ (l : List AVal) (m : List Value), VRels G l m → ∀ r ∈ rowsOfs l, ∃ y, G.row r = some y
  | [], _, _, s, hs => by simp [rowsOfs] at hs
  | v :: l, _, h, s, hs => by
    obtain ⟨x, m, rfl, h2, h3⟩ := vrels_cons.1 h
    simp only [rowsOfs, List.mem_append] at hs
    rcases hs with hs | hs
    · exact rowsOf_rel v x h2 s hs
    · exact rowsOfs_rel l m h3 s hs
end

/-- What is known of the rows of a value once they are locked. -/
def Facts (G G' : Gh) (σ : AState) (l : List Nat) : Prop :=
  ∀ r ∈ l, ∀ b o cap sz x es lo, G.row r = some (b, o, cap, sz) → σ.get r = some (.row x es lo) → ∃ vs, ERels G' sz es vs ∧ ImAt G' b o vs

mutual
theorem frz_sound {G G' : Gh} {σ : AState} (hle : Le G G') : ∀ (v : AVal) (x : Value) (top : Bool) (v' : AVal), frz σ top v = some v' → VRel G v x → Facts G G' σ (rowsOf v) → VRel G' v' x
  | .slc r off len sz full, x, top, v', h, hv, hf => by
    simp only [frz] at h
    split at h
    · rename_i y es lo hm
      obtain ⟨h1, h2⟩ := cond_some h
      have h1 := Nat.le_of_ble_eq_true h1
      cases h2
      simp only [VRel] at hv
      obtain ⟨b, o, cap, ad, c, e1, e2, e3, e4, e5⟩ := hv
      obtain ⟨vs, e6, e7⟩ := hf r (by simp [rowsOf]) b o cap sz y es lo e1 hm
      have hlen : ((es.drop off).take len).length = len := by simp; omega
      have hsub : ERels G' sz ((es.drop off).take len) ((vs.drop (off * sz)).take (len * sz)) := (e6.drop off).take len
      simp only [VRel]
      refine ⟨some ad, c, sz, _, ?_, hsub, fun hne => ?_, ?_⟩
      · rw [hlen]; exact e4
      · have hl0 : 0 < len := by
          rcases Nat.eq_zero_or_pos len with h0 | h0
          · subst h0; simp at hne
          · exact h0
        have hc : c ≠ 0 := by rw [e3]; split <;> omega
        rw [e5 hc]
        exact ⟨b, _, rfl, (e7.drop _).take _⟩
      · rw [hlen]
        cases full with
        | true => simp only [cond_true]; exact ⟨rfl, by simpa using e3⟩
        | false =>
          simp only [cond_false]
          simp only [Bool.false_eq_true, if_false] at e3
          cases hc : (top && Nat.beq off 0 && Nat.beq len es.length && Nat.blt 0 len) with
          | true =>
            simp only [Bool.and_eq_true] at hc
            obtain ⟨⟨⟨_, hc1⟩, hc2⟩, hc3⟩ := hc
            have hc1 := Nat.eq_of_beq_eq_true hc1
            have hc3 : 0 < len := by
              rw [blt_dec] at hc3
              simpa using hc3
            subst hc1
            have hc : c ≠ 0 := by omega
            refine ⟨b, o, ?_, ?_, by omega⟩
            · rw [e5 hc]; simp
            · rw [show c = cap by omega]
              exact hle.row _ _ e1
          | false =>
            show len ≤ c
            omega
    · cases h
  | .slice es tok, x, top, v', h, hv, _ => by
    have hm := VRel.mono hle _ _ hv
    cases tok with
    | tail n =>
      simp only [frz, Option.some.injEq] at h
      subst h
      cases top with
      | true => exact hm
      | false =>
        simp only [VRel] at hm ⊢
        obtain ⟨a, cap, sz, vs, h1, h2, h3, b, o, h4, h5, h6⟩ := hm
        exact ⟨a, cap, sz, vs, h1, h2, h3, h6⟩
    | nil => simp only [frz, Option.some.injEq] at h; subst h; exact hm
    | full => simp only [frz, Option.some.injEq] at h; subst h; exact hm
    | unk => simp only [frz, Option.some.injEq] at h; subst h; exact hm
  | .agg cs, x, top, v', h, hv, hf => by
    simp only [frz] at h
    obtain ⟨l, h1, rfl⟩ := map_some' h
    simp only [VRel] at hv ⊢
    obtain ⟨y, h2, h3⟩ := hv
    exact ⟨y, h2, frzs_sound hle cs _ l h1 h3 (by simpa only [rowsOf] using hf)⟩
  | .tuple cs, x, top, v', h, hv, hf => by
    simp only [frz] at h
    obtain ⟨l, h1, rfl⟩ := map_some' h
    simp only [VRel] at hv ⊢
    obtain ⟨y, h2, h3⟩ := hv
    exact ⟨y, h2, frzTop_sound hle cs _ l h1 h3 (by simpa only [rowsOf] using hf)⟩
  | .iface t v, x, top, v', h, hv, hf => by
    simp only [frz] at h
    obtain ⟨u, h1, rfl⟩ := map_some' h
    simp only [VRel] at hv ⊢
    obtain ⟨y, h2, h3⟩ := hv
    exact ⟨y, h2, frz_sound hle v _ false u h1 h3 (by simpa only [rowsOf] using hf)⟩
  | .rptr _ _ _, _, _, _, h, _, _ => by simp [frz] at h
  | .bool _, _, _, _, h, hv, _ => by simp only [frz, Option.some.injEq] at h; subst h; exact VRel.mono hle _ _ hv
  | .int _ _, _, _, _, h, hv, _ => by simp only [frz, Option.some.injEq] at h; subst h; exact VRel.mono hle _ _ hv
  | .str _, _, _, _, h, hv, _ => by simp only [frz, Option.some.injEq] at h; subst h; exact VRel.mono hle _ _ hv
  | .nilptr, _, _, _, h, hv, _ => by simp only [frz, Option.some.injEq] at h; subst h; exact VRel.mono hle _ _ hv
  | .ptr _ _, _, _, _, h, hv, _ => by simp only [frz, Option.some.injEq] at h; subst h; exact VRel.mono hle _ _ hv
  | .lptr _ _, _, _, _, h, hv, _ => by simp only [frz, Option.some.injEq] at h; subst h; exact VRel.mono hle _ _ hv
  | .cptr _, _, _, _, h, hv, _ => by simp only [frz, Option.some.injEq] at h; subst h; exact VRel.mono hle _ _ hv
  | .map _, _, _, _, h, hv, _ => by simp only [frz, Option.some.injEq] at h; subst h; exact VRel.mono hle _ _ hv
  | .func _ _ _, _, _, _, h, hv, _ => by simp only [frz, Option.some.injEq] at h; subst h; exact VRel.mono hle _ _ hv
  | .nilfunc, _, _, _, h, hv, _ => by simp only [frz, Option.some.injEq] at h; subst h; exact VRel.mono hle _ _ hv
  | .niliface, _, _, _, h, hv, _ => by simp only [frz, Option.some.injEq] at h; subst h; exact VRel.mono hle _ _ hv
  | .junk, _, _, _, h, hv, _ => by simp only [frz, Option.some.injEq] at h; subst h; exact VRel.mono hle _ _ hv
theorem frzs_sound {G G' : Gh} {σ : AState} (hle : Le G G') : ∀ (l : List AVal) (m : List Value) (l' : List AVal), frzs σ l = some l' → VRels G l m → Facts G G' σ (rowsOfs l) → VRels G' l' m
  | [], m, l', h, hv, _ => by
    simp only [frzs, Option.some.injEq] at h
    subst h
    rw [vrels_nil.1 hv]
    exact vrels_nil.2 rfl
  | v :: l, _, l', h, hv, hf => by
    simp only [frzs] at h
    split at h
    · rename_i p q h1 h2
      cases h
      obtain ⟨x, m, rfl, h3, h4⟩ := vrels_cons.1 hv
      exact vrels_cons.2 ⟨x, m, rfl, frz_sound hle v x false p h1 h3 (fun r hr => hf r (by simp [rowsOfs, hr])), frzs_sound hle l m q h2 h4 (fun r hr => hf r (by simp [rowsOfs, hr]))⟩
    · cases h
theorem frzTop_sound {G G' : Gh} {σ : AState} (hle : Le G G') : ∀ (l : List AVal) (m : List Value) (l' : List AVal), frzTop σ l = some l' → VRels G l m → Facts G G' σ (rowsOfs l) → VRels G' l' m
  | [], m, l', h, hv, _ => by
    simp only [frzTop, Option.some.injEq] at h
    subst h
    rw [vrels_nil.1 hv]
    exact vrels_nil.2 rfl
  | v :: l, _, l', h, hv, hf => by
    simp only [frzTop] at h
    split at h
    · rename_i p q h1 h2
      cases h
      obtain ⟨x, m, rfl, h3, h4⟩ := vrels_cons.1 hv
      exact vrels_cons.2 ⟨x, m, rfl, frz_sound hle v x true p h1 h3 (fun r hr => hf r (by simp [rowsOfs, hr])), frzTop_sound hle l m q h2 h4 (fun r hr => hf r (by simp [rowsOfs, hr]))⟩
    · cases h
end

theorem locked_owned {G : Gh} {σ σ' : AState} {l : List Nat} (h : Locked σ σ' l) {b : Nat} (ho : Owned G σ'.get b) : Owned G σ.get b := by
  rcases ho with ho | ⟨s, o, cap, sz, x, es, lo, h1, h2⟩
  · exact .inl ho
  · obtain ⟨lo', h3⟩ := h.back h2
    exact .inr ⟨s, o, cap, sz, x, es, lo', h1, h3⟩

/-- Locking, of a world alone. -/
theorem tr_lock {G G' : Gh} {σ : AState} {w : World} {l : List Nat} (own : Nat → Prop) (hrows : ∀ r ∈ l, ∃ y, G.row r = some y) (hle : Le G G') (h2 : G'.obj = G.obj) (h3 : G'.row = G.row)
    (h6 : Locked σ (lockRows σ l) l) (h7 : ∀ b, ¬ Owned G σ.get b → ∀ o, G'.im b o = G.im b o) : Tr own G noLb σ w G' noLb (lockRows σ l) w where
  le := hle
  next := Nat.le_of_eq (lockRows_next l σ).symm
  quiet r _ e1 e2 _ := ⟨by rw [h2]; exact e1, by rw [h3]; exact e2, h6.2.2 r fun hr => by obtain ⟨y, hy⟩ := hrows r hr; rw [e2] at hy; cases hy⟩
  size := Nat.le_refl _
  keep _ _ _ _ := rfl
  owned b _ ho := by
    have ho' : Owned G (lockRows σ l).get b := by
      rcases ho with ⟨s, hs⟩ | ⟨s, o, cap, sz, x, es, lo, e1, e2⟩
      · rw [h2] at hs; exact .inl ⟨s, hs⟩
      · rw [h3] at e1; exact .inr ⟨s, o, cap, sz, x, es, lo, e1, e2⟩
    exact locked_owned h6 ho'
  lbs _ _ h _ := h
  im b _ ho o := h7 b ho o
  os := rfl
  out := Same.refl w

theorem dom_lock {G G' : Gh} {σ : AState} {l : List Nat} (h : Dom G σ) (h2 : G'.obj = G.obj) (h3 : G'.row = G.row) : Dom G' (lockRows σ l) := fun r hr => by
  rw [lockRows_next] at hr
  rw [h2, h3]
  exact h r hr

/-- A value is frozen. -/
theorem freeze_sound {G : Gh} {σ σ' : AState} {w : World} {top : Bool} {v v' : AVal} {x : Value} (hw : WRel G σ.get w) (hd : Dom G σ) (hv : VRel G v x) (h : freeze σ top v = some (v', σ')) (own : Nat → Prop) :
    ∃ G', VRel G' v' x ∧ WRel G' σ'.get w ∧ Dom G' σ' ∧ Tr own G noLb σ w G' noLb σ' w := by
  unfold freeze at h
  split at h
  · rename_i u hu
    cases h
    have hrows := rowsOf_rel v x hv
    obtain ⟨G', h1, h2, h3, h4, h5, h6, h7⟩ := lockRows_sound (rowsOf v) G σ hw hrows
    exact ⟨G', frz_sound h1 v x top _ hu hv h5, h4, dom_lock hd h2 h3, tr_lock own hrows h1 h2 h3 h6 h7⟩
  · cases h

end Go.Ago

set_option autoImplicit false
set_option linter.unusedSimpArgs false
set_option linter.unusedVariables false
namespace Go.Ago

theorem setV_get : ∀ (vs cs : List Value) (o j : Nat), o + vs.length ≤ cs.length →
    (setV cs o vs)[j]? = if o ≤ j ∧ j < o + vs.length then vs[j - o]? else cs[j]?
  | [], cs, o, j, _ => by rw [if_neg (by simp)]; rfl
  | v :: r, cs, o, j, h => by
    simp only [setV]
    rw [setV_get r (cs.set o v) (o + 1) j (by simp at h ⊢; omega)]
    simp only [List.length_cons] at h ⊢
    by_cases h1 : o + 1 ≤ j ∧ j < o + 1 + r.length
    · rw [if_pos h1, if_pos (by omega)]
      rw [show j - o = (j - (o + 1)) + 1 by omega]
      simp
    · rw [if_neg h1]
      by_cases h2 : j = o
      · subst h2
        rw [if_pos (by omega), List.getElem?_set_self (by omega)]
        simp
      · rw [if_neg (by omega), List.getElem?_set_ne (Ne.symm h2)]

section
variable {E : CEnv} {G : Gh} {Lb : Nat → Option Nat} {F : AFrame} {σ : AState} {a : Act} {w : World}
variable {dst : Option Tmp} {ty : TypeId} {pos : String} {aft : Array Edge} {gd : Option (Nat × Bool)}

/-- A row turns. -/
theorem tr_setRow {w' : World} {r b o cap sz x lo : Nat} {es : List AVal} {ob : AObj} {y : Obj} (hr : G.row r = some (b, o, cap, sz)) (hm : σ.get r = some (.row x es lo)) (hobj : ∀ k, G.obj r ≠ some k) (h : OnlyAt b y w w') (own : Nat → Prop) :
    Tr own G noLb σ w G noLb (σ.set r ob) w' where
  le := Le.refl _
  next := Nat.le_refl _
  quiet s _ e1 e2 _ := ⟨e1, e2, by rw [AState.get_set]; exact upd_other _ _ fun he => by subst he; rw [hr] at e2; cases e2⟩
  size := Nat.le_of_eq h.size.symm
  keep k hk h1 _ := h.other k fun he => h1 (.inr ⟨r, o, cap, sz, x, es, lo, he ▸ hr, hm⟩)
  owned k _ ho := by
    rcases ho with ho | ⟨s, o', cap', sz', x', es', lo', h1, h2⟩
    · exact .inl ho
    · by_cases hs : s = r
      · subst hs
        rw [hr] at h1; cases h1
        exact .inr ⟨s, o, cap, sz, x, es, lo, hr, hm⟩
      · rw [AState.get_set, upd_other _ _ hs] at h2
        exact .inr ⟨s, o', cap', sz', x', es', lo', h1, h2⟩
  lbs _ _ h _ := h
  im _ _ _ _ := rfl
  os := h.os
  out := h.out

theorem row_noObj (hw : WRel G σ.get w) {r x lo : Nat} {es : List AVal} (hm : σ.get r = some (.row x es lo)) : ∀ k, G.obj r ≠ some k := by
  intro k hk
  obtain ⟨o, y, h1, h2, h3⟩ := hw.objs r k hk
  rw [hm] at h1; cases h1
  exact h3

/-- A store through a pointer into a live row. -/
theorem storeRow_sound (hw : WRel G σ.get w) (hd : Dom G σ) {r i off n : Nat} {v : AVal} {xv : Value} {σ' : AState} {b o cap sz : Nat} (hr : G.row r = some (b, o, cap, sz)) (hv : VRel G v xv) (h : storeRow σ r i off n v = some σ') (own : Nat → Prop)
    {P : Program} {t : TypeId} {g : Bool} (hl : lay P t = some (n, g)) :
    ∃ w', (storeVar t ⟨b, o + i * sz + off, none⟩ xv).run P w = .ok () w' ∧ WRel G σ'.get w' ∧ Dom G σ' ∧ Tr own G noLb σ w G noLb σ' w' := by
  unfold storeRow at h
  split at h
  · rename_i sz' es lo hm
    split at h
    · rename_i e he
      obtain ⟨hc, h⟩ := cond_some h
      simp only [Bool.and_eq_true] at hc
      obtain ⟨⟨⟨hc1, hc2⟩, hc3⟩, hc4⟩ := hc
      have hc1 := Nat.le_of_ble_eq_true hc1
      have hc2 := Nat.le_of_ble_eq_true hc2
      have hc3 := Nat.eq_of_beq_eq_true hc3
      have hat := hw.rows _ _ _ _ _ _ _ _ hr hm
      have hsz := hat.sizeEq
      subst hsz
      obtain ⟨c, t', vs, e1, e2, e3, e4⟩ := hat.cells
      obtain ⟨x, e5, e6, e7⟩ := e3.get he
      have hxs : e.cells.length = sz' := by rw [← e5.size, e6]
      have hil : i < es.length := (List.getElem?_eq_some_iff.1 he).1
      have hvl : xv.cells.toList.length = n := by rw [Array.length_toList, hv.size, hc3]
      have hfit1 : i * sz' + sz' ≤ es.length * sz' := by
        have : (i + 1) * sz' ≤ es.length * sz' := Nat.mul_le_mul_right _ hil
        rwa [Nat.add_mul, Nat.one_mul] at this
      have hfit2 : es.length * sz' ≤ cap * sz' := Nat.mul_le_mul_right _ hat.fits
      have hlo : lo * sz' ≤ i * sz' := Nat.mul_le_mul_right _ hc1
      -- the new element and its cells
      have new : ∃ e' x', σ' = σ.set r (.row sz' (es.set i e') lo) ∧ VRel G e' x' ∧ x'.cells.toList = x.cells.toList.take off ++ xv.cells.toList ++ x.cells.toList.drop (off + n) := by
        have hsp : ∀ {cs : List AVal}, VRels G cs x.cells.toList → off + n ≤ cs.length → VRels G (setCells cs off v.cells) (x.cells.toList.take off ++ xv.cells.toList ++ x.cells.toList.drop (off + n)) := by
          intro cs hcs hfit
          have := hcs.splice hv.cells off (by rw [hc3]; exact hfit)
          rwa [hvl] at this
        cases e with
        | agg cs =>
          have h' : σ' = σ.set r (.row sz' (es.set i (.agg (setCells cs off v.cells))) lo) := by
            cases v <;> (simp only [Option.some.injEq] at h; exact h.symm)
          refine ⟨.agg (setCells cs off v.cells), .agg (x.cells.toList.take off ++ xv.cells.toList ++ x.cells.toList.drop (off + n)).toArray, h', ?_, by simp [Value.cells]⟩
          simp only [VRel]
          have h7 : VRels G cs x.cells.toList := e5.cells
          exact ⟨_, rfl, by simpa using hsp h7 hc2⟩
        | _ =>
          all_goals
            have hx1 : x.cells.toList.length = 1 := by rw [Array.length_toList, e5.size]; rfl
            have hn1 : off + n ≤ 1 := hc2
            cases v <;> first
              | (simp only [reduceCtorEq] at h; done)
              | (obtain ⟨h0, h1⟩ := cond_some h
                 have h0 := Nat.eq_of_beq_eq_true h0
                 subst h0
                 have hn : n = 1 := hc3.symm
                 subst hn
                 refine ⟨_, xv, (Option.some.inj h1).symm, hv, ?_⟩
                 rw [List.take_zero, List.nil_append, List.drop_of_length_le (by omega), List.append_nil])
      obtain ⟨e', x', hσ, hv', hx'⟩ := new
      subst hσ
      have hx's : x'.cells.size = sz' := by
        have := congrArg List.length hx'
        simp only [Array.length_toList, List.length_append, List.length_take, List.length_drop, hvl] at this
        have hxl : x.cells.toList.length = sz' := by simp [e6]
        simp only [Array.length_toList] at hxl
        omega
      have hst := run_storeVar (P := P) (w := w) hl (b := b) (o := o + i * sz' + off) (v := xv) (by rw [hv.size]; exact hc3) e1 (by omega) (hv.cells.words hc4)
      have honly := onlyAt_setRow (cs := (c.toList.take (o + i * sz' + off) ++ xv.cells.toList ++ c.toList.drop (o + i * sz' + off + n)).toArray) e1
      have hcl : c.toList.length = c.size := Array.length_toList
      have hget : ∀ j, ((c.toList.take (o + i * sz' + off) ++ xv.cells.toList ++ c.toList.drop (o + i * sz' + off + n)).toArray)[j]? =
          if o + i * sz' + off ≤ j ∧ j < o + i * sz' + off + n then xv.cells.toList[j - (o + i * sz' + off)]? else c[j]? := by
        intro j
        have := list_splice_get c.toList xv.cells.toList (o + i * sz' + off) (by rw [hvl]; omega) j
        rw [hvl] at this
        simpa using this
      have hvsl := e3.length
      have hset := e3.setElem hv' hx's hil
      have hrow : RowAt G (w.setRow b (c.toList.take (o + i * sz' + off) ++ xv.cells.toList ++ c.toList.drop (o + i * sz' + off + n)).toArray) b o cap sz' sz' (es.set i e') lo := by
        refine ⟨rfl, hat.pos, by simpa using hat.loLe, by simpa using hat.fits, ⟨_, t', _, honly.at_, ?_, hset, ?_⟩, hat.free⟩
        · rw [hxs] at hc2
          simp only [List.size_toArray, List.length_append, List.length_take, List.length_drop, hvl, hcl]
          omega
        · intro j u hj
          rw [setV_get _ _ _ _ (by rw [Array.length_toList, hx's, hvsl]; exact hfit1)] at hj
          rw [Array.length_toList, hx's] at hj
          rw [hget]
          split at hj
          · rename_i hrange
            rw [hx'] at hj
            have hsp := list_splice_get x.cells.toList xv.cells.toList off (by rw [hvl, Array.length_toList, e6]; omega) (j - i * sz')
            rw [hvl] at hsp
            rw [hsp] at hj
            split at hj
            · rename_i hin
              rw [if_pos (by omega)]
              rw [show o + j - (o + i * sz' + off) = j - i * sz' - off by omega]
              exact hj
            · rename_i hin
              rw [if_neg (by omega)]
              have := e7 (j - i * sz') u (by simpa using hj)
              rw [show i * sz' + (j - i * sz') = j by omega] at this
              exact e4 j u this
          · rename_i hrange
            rw [if_neg (by omega)]
            exact e4 j u hj
      refine ⟨_, hst, ?_, hd, tr_setRow hr hm (row_noObj hw hm) honly own⟩
      rw [AState.get_set]
      refine hw.setRow hr hm honly hrow fun j u hj => ?_
      have hcj := hw.im b j u hj
      simp only [World.cell?, e1, Option.isSome_none, Bool.false_eq_true, if_false] at hcj
      rw [hget, if_neg]
      · exact hcj
      · rintro ⟨h1, h2⟩
        rw [hat.free j (by omega) (by omega)] at hj
        cases hj
    · cases h
  · cases h

theorem snd_store (R : Rel E G Lb F σ a w) {t : TypeId} {n : Nat} {g : Bool} {x y : Operand} {x' y' : AOpd} {p v : AVal} {σ' : AState} {own : Nat → Prop} (hl : lay E.P t = some (n, g)) (hx : opdA x = some x') (hy : opdA y = some y') (hp : F.eval x' = some p) (hv : F.eval y' = some v)
    (h : storeTo σ n p v = some σ') {Q : Option AVal × AFrame × AState → Prop} (hq : Q (none, F.put dst undefA, σ')) (QQ : Exit → Act → World → Prop) :
    Oper.wp E.P ⟨dst, .store t x y, ty, pos, aft, gd⟩ a w (StepNext E own G Lb σ w Q) QQ := by
  have hpv := R.opd hx hp
  have hvv := R.opd hy hv
  unfold storeTo at h
  split at h
  · rename_i r off
    simp only [VRel] at hpv
    obtain ⟨b, hb, hpv⟩ := hpv
    split at h
    · rename_i cs hm
      obtain ⟨hc, h⟩ := cond_some h
      cases h
      simp only [Bool.and_eq_true] at hc
      obtain ⟨⟨hc1, hc2⟩, hc3⟩ := hc
      have hc1 := Nat.le_of_ble_eq_true hc1
      have hc2 := Nat.eq_of_beq_eq_true hc2
      obtain ⟨c, t', e1, e2⟩ := obj_cells R hb hm
      have hcl := e2.length
      have hcs : c.toList.length = c.size := Array.length_toList
      have hst := run_storeVar (P := E.P) (w := w) hl (v := a.eval y) (by rw [hvv.size]; exact hc2) e1 (o := off) (by omega) (hvv.cells.words hc3)
      have hsp := e2.splice hvv.cells off (by rw [hc2]; exact hc1)
      have hvl : (a.eval y).cells.toList.length = n := by rw [Array.length_toList, hvv.size, hc2]
      rw [hvl] at hsp
      obtain ⟨hR, hT⟩ := R.setObj (own := own) (o := .cells (setCells cs off v.cells)) hb ⟨_, _, rfl, by simpa using hsp⟩ (onlyAt_setRow (cs := (c.toList.take off ++ (a.eval y).cells.toList ++ c.toList.drop (off + n)).toArray) e1)
      exact wp_skipped (w' := _) (by simp [execOp, Instr.storeAt, Instr.sureAddr, hpv, hst]) ⟨G, Lb, _, _, hq, hR.put vrel_undef, hT⟩
    · cases h
  · rename_i r i off
    simp only [VRel] at hpv
    obtain ⟨b, o, cap, sz, h1, h2⟩ := hpv
    split at h
    · rename_i v1 σ1 hf
      obtain ⟨G1, f1, f2, f3, f4⟩ := freeze_sound R.wr R.dom hvv hf own
      obtain ⟨w', g1, g2, g3, g4⟩ := storeRow_sound f2 f3 (f4.le.row _ _ h1) f1 h own hl
      obtain ⟨hR, hT⟩ := R.of_tr ((f4.trans g4).mono fun r hr => hr.elim id id) g2 g3
      exact wp_skipped (w' := _) (by simp [execOp, Instr.storeAt, Instr.sureAddr, h2, g1]) ⟨G1, Lb, _, _, hq, hR.put vrel_undef, hT⟩
    · cases h
  · cases h

end
end Go.Ago

set_option autoImplicit false
set_option linter.unusedSimpArgs false
set_option linter.unusedVariables false
namespace Go.Ago

theorem growBy_le (n : Nat) : ∀ (r c : Nat), c ≤ 2 * n + 512 → Builtin.growBy n r c ≤ 2 * n + 512
  | 0, c, h => h
  | r + 1, c, h => by
    unfold Builtin.growBy
    split
    · exact h
    · exact growBy_le n r _ (by omega)

theorem nextslicecap_le {n c : Nat} (h : c < n) : Builtin.nextslicecap n c ≤ 2 * n + 512 := by
  unfold Builtin.nextslicecap
  split
  · omega
  · split
    · omega
    · exact growBy_le n 4 c (by omega)

section
variable {P : Program} {G : Gh} {w : World}

/-- `append` within the capacity. -/
theorem run_append_in {t u ty elem : TypeId} {d : TypeDesc} {i : TypeInfo} (ht : P.underlying t = some (.slice elem)) (hu : P.underlying u = some d) (hd : (∃ e, d = .slice e) ∨ d = .string) (hi : P.info? elem = some i)
    {ad : Addr} {sLen sCap n : Nat} {x : Value} {new : Array Value} {w' : World} (hlen : (Builtin.lenOf x).run P w = .ok n w) (hnew : (Builtin.firstCells i.size n x).run P w = .ok new w) (hfit : sLen + n ≤ sCap)
    (hst : (storeCells (ad.add (sLen * i.size)) new.toList).run P w = .ok () w') :
    (Builtin.append_ #[t, u] ty #[.slice (some ad) sLen sCap, x]).run P w = .ok (.slice (some ad) (sLen + n) sCap) w' := by
  rcases hd with ⟨e, rfl⟩ | rfl
  all_goals simp [Builtin.append_, run_underlying ht, run_underlying hu, run_sizeOf hi, hlen, hnew, hfit, hst]

/-- `append` of nothing to nil. -/
theorem run_append_nil0 {t u ty elem : TypeId} {d : TypeDesc} {i : TypeInfo} (ht : P.underlying t = some (.slice elem)) (hu : P.underlying u = some d) (hd : (∃ e, d = .slice e) ∨ d = .string) (hi : P.info? elem = some i)
    {x : Value} {new : Array Value} (hlen : (Builtin.lenOf x).run P w = .ok 0 w) (hnew : (Builtin.firstCells i.size 0 x).run P w = .ok new w) :
    (Builtin.append_ #[t, u] ty #[.slice none 0 0, x]).run P w = .ok (.slice none 0 0) w := by
  rcases hd with ⟨e, rfl⟩ | rfl
  all_goals simp [Builtin.append_, run_underlying ht, run_underlying hu, run_sizeOf hi, hlen, hnew]

/-- `append` beyond the capacity: a new row. -/
theorem run_append_out {t u ty elem : TypeId} {d : TypeDesc} {i : TypeInfo} {z : Value} (ht : P.underlying t = some (.slice elem)) (hu : P.underlying u = some d) (hd : (∃ e, d = .slice e) ∨ d = .string) (hi : P.info? elem = some i) (hzero : i.zero = some z)
    {base : Option Addr} {sLen sCap n : Nat} {x : Value} {old new : Array Value} (hlen : (Builtin.lenOf x).run P w = .ok n w) (hold : ∀ k, (Builtin.firstCells i.size sLen (.slice base sLen sCap)).run P { w with drawn := k } = .ok old { w with drawn := k })
    (hnew : ∀ k, (Builtin.firstCells i.size n x).run P { w with drawn := k } = .ok new { w with drawn := k }) (hfit : sCap < sLen + n)
    (hroom : (sLen + n) * i.bytes * 2 + 1024 * i.bytes ≤ 281474976710656) (hb : 0 < i.bytes) :
    ∃ cap rest, sLen + n ≤ cap ∧ rest.size = (cap - (sLen + n)) * z.cells.size ∧
      (Builtin.append_ #[t, u] ty #[.slice base sLen sCap, x]).run P w = .ok (.slice (some ⟨w.heap.size, 0, none⟩) (sLen + n) cap) (w.drew.alloc (.cells (old ++ new ++ rest) elem (0, 0))) := by
  have hnot : ¬ (sLen + n ≤ sCap) := by omega
  have hnext := nextslicecap_le hfit
  have hmul : Builtin.nextslicecap (sLen + n) sCap * i.bytes ≤ (2 * (sLen + n) + 512) * i.bytes := Nat.mul_le_mul_right _ hnext
  have hroom2 : ¬ (281474976710656 < Builtin.nextslicecap (sLen + n) sCap * i.bytes) := by
    have e1 : (2 * (sLen + n) + 512) * i.bytes = (sLen + n) * i.bytes * 2 + 512 * i.bytes := by
      rw [Nat.add_mul, Nat.mul_assoc, Nat.mul_comm 2]
    have : 512 * i.bytes ≤ 1024 * i.bytes := Nat.mul_le_mul_right _ (by omega)
    omega
  have hb0 : ¬ (i.bytes = 0) := by omega
  have hneed : sLen + n ≤ 140737488355328 := by
    have : sLen + n ≤ (sLen + n) * i.bytes := Nat.le_mul_of_pos_right _ hb
    omega
  have hold' : (Builtin.firstCells i.size sLen (.slice base sLen sCap)).run P w.drew = .ok old w.drew := hold (w.drawn + 1)
  have hnew' : (Builtin.firstCells i.size n x).run P w.drew = .ok new w.drew := hnew (w.drawn + 1)
  have hzv : ∀ w', (zeroValue elem).run P w' = .ok z w' := fun w' => run_zeroValue hi hzero
  have hti : ∀ w', (typeInfo elem).run P w' = .ok i w' := fun w' => run_typeInfo hi
  refine ⟨Question.cut (.appendCap (sLen + n) sCap elem) (w.tape w.drawn (.appendCap (sLen + n) sCap elem)), Builtin.zeroCells z.cells (Question.cut (.appendCap (sLen + n) sCap elem) (w.tape w.drawn (.appendCap (sLen + n) sCap elem)) - (sLen + n)), ?_, ?_, ?_⟩
  · simp only [Question.cut]; omega
  · simp [Builtin.zeroCells]
  · rcases hd with ⟨e, rfl⟩ | rfl
    all_goals
      simp only [Builtin.append_, List.getElem?_toArray, List.getElem?_cons_zero, List.getElem?_cons_succ, Sem.run_bind, run_underlying ht, run_underlying hu, run_sizeOf hi, Result.andThen_ok, Sem.run_pure, Bool.false_eq_true, if_false, hlen, if_neg hnot, hti]
      simp [hb0, hroom2, hti, Question.forced, hold', hnew', hzv, newRow]

end
end Go.Ago

set_option autoImplicit false
set_option linter.unusedSimpArgs false
set_option linter.unusedVariables false
namespace Go.Ago

theorem erels_oneSize {G : Gh} {sz sz' : Nat} : ∀ {es : List AVal} {vs : List Value}, ERels G sz es vs → (es.all fun e => Nat.beq e.cells.length sz') = true → ERels G sz' es vs
  | [], vs, h, _ => by rw [erels_nil] at h ⊢; exact h
  | e :: r, vs, h, ha => by
    obtain ⟨x, m, rfl, h2, h3, h4⟩ := erels_cons.1 h
    simp only [List.all_cons, Bool.and_eq_true] at ha
    exact erels_cons.2 ⟨x, m, rfl, h2, by rw [h2.size]; exact Nat.eq_of_beq_eq_true ha.1, erels_oneSize h4 ha.2⟩

theorem ERels.words {G : Gh} {sz : Nat} : ∀ {es : List AVal} {vs : List Value}, ERels G sz es vs → (es.all fun e => e.cells.all wordB) = true → ∀ v ∈ vs, v.oneCell' = true
  | [], vs, h, _ => by rw [erels_nil.1 h]; simp
  | e :: r, vs, h, ha => by
    obtain ⟨x, m, rfl, h2, h3, h4⟩ := erels_cons.1 h
    simp only [List.all_cons, Bool.and_eq_true] at ha
    intro v hv
    rcases List.mem_append.1 hv with hv | hv
    · exact h2.cells.words ha.1 v hv
    · exact h4.words ha.2 v hv

theorem frzs_erels {G G' : Gh} {σ : AState} {sz : Nat} (hle : Le G G') : ∀ (l : List AVal) (m : List Value) (l' : List AVal), frzs σ l = some l' → ERels G sz l m → Facts G G' σ (rowsOfs l) → ERels G' sz l' m
  | [], m, l', h, hv, _ => by
    simp only [frzs, Option.some.injEq] at h
    subst h
    rw [erels_nil] at hv ⊢; exact hv
  | v :: l, _, l', h, hv, hf => by
    simp only [frzs] at h
    split at h
    · rename_i p q h1 h2
      cases h
      obtain ⟨x, m, rfl, h3, h4, h5⟩ := erels_cons.1 hv
      exact erels_cons.2 ⟨x, m, rfl, frz_sound hle v x false p h1 h3 (fun r hr => hf r (by simp [rowsOfs, hr])), h4, frzs_erels hle l m q h2 h5 (fun r hr => hf r (by simp [rowsOfs, hr]))⟩
    · cases h

theorem erels_rows {G : Gh} {sz : Nat} : ∀ {l : List AVal} {m : List Value}, ERels G sz l m → ∀ r ∈ rowsOfs l, ∃ y, G.row r = some y
  | [], _, _, s, hs => by simp [rowsOfs] at hs
  | v :: l, _, h, s, hs => by
    obtain ⟨x, m, rfl, h2, h3, h4⟩ := erels_cons.1 h
    simp only [rowsOfs, List.mem_append] at hs
    rcases hs with hs | hs
    · exact rowsOf_rel v x h2 s hs
    · exact erels_rows h4 s hs

theorem frzs_length {σ : AState} : ∀ (l l' : List AVal), frzs σ l = some l' → l'.length = l.length
  | [], l', h => by simp only [frzs, Option.some.injEq] at h; subst h; rfl
  | v :: l, l', h => by
    simp only [frzs] at h
    split at h
    · rename_i p q h1 h2
      cases h
      simp [frzs_length l q h2]
    · cases h

section
variable {P : Program} {G : Gh} {σ : AState} {w : World}

/-- A row is given up. -/
theorem drop_row (hw : WRel G σ.get w) (hd : Dom G σ) {r x lo : Nat} {es : List AVal} {y : Nat × Nat × Nat × Nat} (hr : G.row r = some y) (hm : σ.get r = some (.row x es lo)) (own : Nat → Prop) :
    WRel G (σ.set r (.cells [])).get w ∧ Dom G (σ.set r (.cells [])) ∧ Tr own G noLb σ w G noLb (σ.set r (.cells [])) w := by
  refine ⟨by rw [AState.get_set]; exact hw.dropRow (row_noObj hw hm), hd, Le.refl _, Nat.le_refl _, fun s _ h1 h2 _ => ⟨h1, h2, ?_⟩, Nat.le_refl _, fun _ _ _ _ => rfl, fun b _ ho => ?_, fun _ _ h _ => h, fun _ _ _ _ => rfl, rfl, Same.refl w⟩
  · rw [AState.get_set]; exact upd_other _ _ fun he => by subst he; rw [hr] at h2; cases h2
  · rcases ho with ho | ⟨s, o, cap, sz, x', es', lo', h1, h2⟩
    · exact .inl ho
    · by_cases hs : s = r
      · subst hs; rw [AState.get_set, upd_same] at h2; cases h2
      · rw [AState.get_set, upd_other _ _ hs] at h2
        exact .inr ⟨s, o, cap, sz, x', es', lo', h1, h2⟩

/-- A new row over a block that nothing owns. -/
theorem lay_row (hw : WRel G σ.get w) (hd : Dom G σ) {name : Nat} (h1 : G.obj name = none) (h2 : G.row name = none) (hlt : name < σ.next) {b o cap sz lo : Nat} {es : List AVal}
    (hat : RowAt G w b o cap sz sz es lo) (hfree : ¬ Owned G σ.get b) {own : Nat → Prop} (hown : own name) (w0 : World) (G0 : Gh) (σ0 : AState) (hT : Tr own G0 noLb σ0 w0 G noLb σ w) (hb : b < w0.heap.size → Owned G0 σ0.get b) :
    WRel (G.withRow name (b, o, cap, sz)) (σ.set name (.row sz es lo)).get w ∧ Dom (G.withRow name (b, o, cap, sz)) (σ.set name (.row sz es lo)) ∧
      Tr own G0 noLb σ0 w0 (G.withRow name (b, o, cap, sz)) noLb (σ.set name (.row sz es lo)) w := by
  obtain ⟨hw', hle⟩ := hw.newRow (mem' := (σ.set name (.row sz es lo)).get) h1 h2 (by rw [AState.get_set]; exact upd_same ..) (fun s hs => by rw [AState.get_set]; exact upd_other _ _ hs) hat hfree
  have hrow : ∀ s, s ≠ name → (G.withRow name (b, o, cap, sz)).row s = G.row s := fun s hs => by simp [Gh.withRow, hs]
  refine ⟨hw', fun s hs => ?_, hT.le.trans hle, hT.next, fun s e1 e2 e3 e4 => ?_, hT.size, hT.keep, fun k hk ho => ?_, fun _ _ h _ => h, hT.im, hT.os, hT.out⟩
  · have : s ≠ name := by have h : σ.next ≤ s := hs; omega
    rw [hrow s this]
    exact hd s hs
  · obtain ⟨f1, f2, f3⟩ := hT.quiet s e1 e2 e3 e4
    have : s ≠ name := fun he => e4 (he ▸ hown)
    exact ⟨f1, by rw [hrow s this]; exact f2, by rw [AState.get_set, upd_other _ _ this]; exact f3⟩
  · rcases ho with ho | ⟨s, o', cap', sz', x, es', lo', e1, e2⟩
    · exact hT.owned k hk (.inl ho)
    · by_cases hs : s = name
      · subst hs
        simp only [Gh.withRow, if_true, Option.some.injEq, Prod.mk.injEq] at e1
        rw [e1.1] at hb
        exact hb hk
      · rw [hrow s hs] at e1
        rw [AState.get_set, upd_other _ _ hs] at e2
        exact hT.owned k hk (.inr ⟨s, o', cap', sz', x, es', lo', e1, e2⟩)

theorem vrel_slc {name b o cap sz n : Nat} (hn : n ≤ cap) (a : Addr) (ha : cap ≠ 0 → a = ⟨b, o, none⟩) : VRel (G.withRow name (b, o, cap, sz)) (.slc name 0 n sz false) (.slice (some a) n cap) := by
  simp only [VRel]
  refine ⟨b, o, cap, a, cap, by simp [Gh.withRow], by omega, by simp, rfl, fun h => ?_⟩
  rw [ha h]; simp

/-- A new row in a new block. -/
theorem row_out (hw : WRel G σ.get w) (hd : Dom G σ) {name : Nat} (h1 : G.obj name = none) (h2 : G.row name = none) (hlt : name < σ.next) {sz cap lo : Nat} {old news : List AVal} {ovs nvs : List Value} {rest : Array Value} (elem : TypeId)
    (hsz : 0 < sz) (ho : ERels G sz old ovs) (hn : ERels G sz news nvs) (hlo : lo ≤ (old ++ news).length) (hcap : (old ++ news).length ≤ cap) (hrest : rest.size = (cap - (old ++ news).length) * sz) {own : Nat → Prop} (hown : own name) :
    ∃ G', VRel G' (.slc name 0 (old ++ news).length sz false) (.slice (some ⟨w.heap.size, 0, none⟩) (old ++ news).length cap) ∧
      WRel G' (σ.set name (.row sz (old ++ news) lo)).get (w.drew.alloc (.cells (ovs.toArray ++ nvs.toArray ++ rest) elem (0, 0))) ∧ Dom G' (σ.set name (.row sz (old ++ news) lo)) ∧
      Tr own G noLb σ w G' noLb (σ.set name (.row sz (old ++ news) lo)) (w.drew.alloc (.cells (ovs.toArray ++ nvs.toArray ++ rest) elem (0, 0))) := by
  have hg : Grow w (w.drew.alloc (.cells (ovs.toArray ++ nvs.toArray ++ rest) elem (0, 0))) := (Grow.drew w _).trans (Grow.push w.drew _ (Thawed.cells _ _))
  have hw' := hw.grow hg
  have hfree : ¬ Owned G σ.get w.heap.size := fun h => absurd (hw.owned_lt h) (Nat.lt_irrefl _)
  have hnone : ∀ o, G.im w.heap.size o = none := fun o => by
    cases h : G.im w.heap.size o with
    | none => rfl
    | some v => exact absurd (hw.im_lt h) (Nat.lt_irrefl _)
  have hon := ho.append hn
  have hl := hon.length
  have hle : (old ++ news).length * sz ≤ cap * sz := Nat.mul_le_mul_right _ hcap
  have hsub : (cap - (old ++ news).length) * sz = cap * sz - (old ++ news).length * sz := Nat.sub_mul _ _ _
  have hat : RowAt G (w.drew.alloc (.cells (ovs.toArray ++ nvs.toArray ++ rest) elem (0, 0))) w.heap.size 0 cap sz sz (old ++ news) lo := by
    refine ⟨rfl, hsz, hlo, hcap, ⟨ovs.toArray ++ nvs.toArray ++ rest, elem, ovs ++ nvs, ?_, ?_, hon, fun j v hj => ?_⟩, fun _ _ _ => hnone _⟩
    · show (w.heap.push _)[w.heap.size]? = _
      simp
    · have hl2 : ovs.length + nvs.length = (old ++ news).length * sz := by rw [← List.length_append]; exact hl
      rw [Array.size_append, Array.size_append, List.size_toArray, List.size_toArray, hrest, hsub]
      omega
    · have hjl := (List.getElem?_eq_some_iff.1 hj).1
      rw [Nat.zero_add, ← Array.getElem?_toList, Array.toList_append, Array.toList_append, List.toList_toArray, List.toList_toArray, List.getElem?_append_left hjl]
      exact hj
  have hT : Tr own G noLb σ w G noLb σ (w.drew.alloc (.cells (ovs.toArray ++ nvs.toArray ++ rest) elem (0, 0))) := by
    refine ⟨Le.refl _, Nat.le_refl _, fun _ _ e1 e2 _ => ⟨e1, e2, rfl⟩, hg.size, fun k hk _ _ => ?_, fun _ _ h => h, fun _ _ h _ => h, fun _ _ _ _ => rfl, hg.os, hg.out⟩
    obtain ⟨z, hz⟩ : ∃ z, w.heap[k]? = some z := ⟨_, Array.getElem?_eq_getElem hk⟩
    rw [hz]; exact hg.heap k z hz
  obtain ⟨f1, f2, f3⟩ := lay_row hw' hd h1 h2 hlt hat hfree hown w G σ hT (fun h => absurd h (Nat.lt_irrefl _))
  exact ⟨_, vrel_slc hcap _ fun _ => rfl, f1, f2, f3⟩

/-- A row goes on in its own block. -/
theorem row_in (hw : WRel G σ.get w) (hd : Dom G σ) {r b o cap sz x lo : Nat} {es : List AVal} (hr : G.row r = some (b, o, cap, sz)) (hm : σ.get r = some (.row x es lo))
    {name : Nat} (h1 : G.obj name = none) (h2 : G.row name = none) (hlt : name < σ.next) {news : List AVal} {nvs : List Value} (hn : ERels G sz news nvs) (hone : ∀ v ∈ nvs, v.oneCell' = true) (hfit : es.length + news.length ≤ cap)
    {lo' : Nat} (hlo1 : lo ≤ lo') (hlo2 : lo' ≤ es.length) {own : Nat → Prop} (hown : own name) (ad : Addr) (had : cap ≠ 0 → ad = ⟨b, o, none⟩) :
    ∃ w' G', (storeCells (ad.add (es.length * sz)) nvs).run P w = .ok () w' ∧ VRel G' (.slc name 0 (es ++ news).length sz false) (.slice (some ad) (es ++ news).length cap) ∧
      WRel G' ((σ.set r (.cells [])).set name (.row sz (es ++ news) lo')).get w' ∧ Dom G' ((σ.set r (.cells [])).set name (.row sz (es ++ news) lo')) ∧
      Tr own G noLb σ w G' noLb ((σ.set r (.cells [])).set name (.row sz (es ++ news) lo')) w' := by
  have hat := hw.rows _ _ _ _ _ _ _ _ hr hm
  have hsz := hat.sizeEq
  subst hsz
  obtain ⟨c, t', vs, e1, e2, e3, e4⟩ := hat.cells
  have hvl := e3.length
  have hnl := hn.length
  have hfit2 : es.length * x + news.length * x ≤ cap * x := by rw [← Nat.add_mul]; exact Nat.mul_le_mul_right _ hfit
  have hlo : lo * x ≤ es.length * x := Nat.mul_le_mul_right _ hat.loLe
  have hlo' : lo * x ≤ lo' * x := Nat.mul_le_mul_right _ hlo1
  have hcl : c.toList.length = c.size := Array.length_toList
  have hget : ∀ j, ((c.toList.take (o + es.length * x) ++ nvs ++ c.toList.drop (o + es.length * x + nvs.length)).toArray)[j]? =
      if o + es.length * x ≤ j ∧ j < o + es.length * x + nvs.length then nvs[j - (o + es.length * x)]? else c[j]? := by
    intro j
    have := list_splice_get c.toList nvs (o + es.length * x) (by omega) j
    simpa using this
  have honly := onlyAt_setRow (cs := (c.toList.take (o + es.length * x) ++ nvs ++ c.toList.drop (o + es.length * x + nvs.length)).toArray) e1
  have hst : (storeCells (ad.add (es.length * x)) nvs).run P w = .ok () (w.setRow b (c.toList.take (o + es.length * x) ++ nvs ++ c.toList.drop (o + es.length * x + nvs.length)).toArray) := by
    by_cases hc : cap = 0
    · subst hc
      have : news.length = 0 := by omega
      have hnv : nvs = [] := by
        apply List.length_eq_zero_iff.1
        rw [hnl, this]; simp
      subst hnv
      simp only [List.append_nil, List.length_nil, Nat.add_zero, List.take_append_drop, Array.toArray_toList]
      rw [setRow_self w b c t' (0, 0) e1]
      rfl
    · rw [had hc, add_none]
      have := run_storeCells_at (P := P) b (o + es.length * x) t' nvs 0 c w e1 (by omega) hone
      simpa using this
  have hon := e3.append hn
  have hrow : RowAt G (w.setRow b (c.toList.take (o + es.length * x) ++ nvs ++ c.toList.drop (o + es.length * x + nvs.length)).toArray) b o cap x x (es ++ news) lo' := by
    refine ⟨rfl, hat.pos, by simp; omega, by simpa using hfit, ⟨_, t', vs ++ nvs, honly.at_, ?_, hon, ?_⟩, fun j h3 h4 => hat.free j (by omega) h4⟩
    · simp only [List.size_toArray, List.length_append, List.length_take, List.length_drop, hcl]
      omega
    · intro j u hj
      rw [hget]
      by_cases hjl : j < vs.length
      · rw [List.getElem?_append_left hjl] at hj
        rw [if_neg (by omega)]
        exact e4 j u hj
      · rw [List.getElem?_append_right (by omega)] at hj
        have := (List.getElem?_eq_some_iff.1 hj).1
        rw [if_pos (by omega)]
        rw [show o + j - (o + es.length * x) = j - vs.length by omega]
        exact hj
  have hw1 : WRel G (σ.set r (.row x (es ++ news) lo')).get (w.setRow b (c.toList.take (o + es.length * x) ++ nvs ++ c.toList.drop (o + es.length * x + nvs.length)).toArray) := by
    rw [AState.get_set]
    refine hw.setRow hr hm honly hrow fun j u hj => ?_
    have hcj := hw.im b j u hj
    simp only [World.cell?, e1, Option.isSome_none, Bool.false_eq_true, if_false] at hcj
    rw [hget, if_neg]
    · exact hcj
    · rintro ⟨h3, h4⟩
      rw [hat.free j (by omega) (by omega)] at hj
      cases hj
  have hT1 := tr_setRow (ob := .row x (es ++ news) lo') hr hm (row_noObj hw hm) honly own
  have hm1 : (σ.set r (.row x (es ++ news) lo')).get r = some (.row x (es ++ news) lo') := by rw [AState.get_set]; exact upd_same ..
  obtain ⟨g1, g2, g3⟩ := drop_row hw1 hd hr hm1 own
  have hset : ((σ.set r (.row x (es ++ news) lo')).set r (.cells [])).get = (σ.set r (.cells [])).get := by
    funext s
    simp only [AState.get_set, upd]
    split <;> rfl
  have hT2 : Tr own G noLb σ w G noLb (σ.set r (.cells [])) (w.setRow b (c.toList.take (o + es.length * x) ++ nvs ++ c.toList.drop (o + es.length * x + nvs.length)).toArray) := by
    have h := (hT1.trans g3).mono (own' := own) fun r hr => hr.elim id id
    refine ⟨h.le, h.next, fun s q1 q2 q3 q4 => ?_, h.size, h.keep, fun k hk ho => h.owned k hk (by rw [hset]; exact ho), h.lbs, h.im, h.os, h.out⟩
    obtain ⟨z1, z2, z3⟩ := h.quiet s q1 q2 q3 q4
    exact ⟨z1, z2, by rw [← hset]; exact z3⟩
  rw [hset] at g1
  have hbo : ¬ Owned G (σ.set r (.cells [])).get b := by
    rintro (⟨s, hs⟩ | ⟨s, o', cap', sz', x', es', lo'', q1, q2⟩)
    · exact hw.rowObj _ _ _ _ _ _ _ _ s hr hm hs
    · by_cases hs : s = r
      · subst hs; rw [AState.get_set, upd_same] at q2; cases q2
      · rw [AState.get_set, upd_other _ _ hs] at q2
        exact hs (hw.rowsApart _ _ _ _ _ _ _ _ _ _ _ _ _ _ _ q1 q2 hr hm)
  obtain ⟨f1, f2, f3⟩ := lay_row (σ := σ.set r (.cells [])) g1 hd h1 h2 hlt hrow hbo hown w G σ hT2 (fun _ => .inr ⟨r, o, cap, x, x, es, lo, hr, hm⟩)
  exact ⟨_, _, hst, vrel_slc (by simpa using hfit) ad had, f1, f2, f3⟩

end
end Go.Ago

set_option autoImplicit false
set_option linter.unusedSimpArgs false
set_option linter.unusedVariables false
namespace Go.Ago

section
variable {P : Program} {G : Gh} {σ : AState} {w : World}

theorem run_first {a : Option Addr} {n sz : Nat} {vs : List Value} (hl : vs.length = n * sz) (hvs : vs ≠ [] → ∃ b o, a = some ⟨b, o, none⟩ ∧ ∀ (j : Nat) v, vs[j]? = some v → w.cell? ⟨b, o + j, none⟩ = some v) (len cap k : Nat) :
    (Builtin.firstCells sz n (.slice a len cap)).run P { w with drawn := k } = .ok vs.toArray { w with drawn := k } := by
  cases vs with
  | nil =>
    cases a with
    | none => rfl
    | some a =>
      simp only [Builtin.firstCells]
      rw [← hl]
      exact run_loadCells_list (P := P) { w with drawn := k } a [] (fun j v hj => by simp at hj)
  | cons v r =>
    obtain ⟨b, o, rfl, h2⟩ := hvs (by simp)
    simp only [Builtin.firstCells]
    rw [← hl]
    exact run_loadCells_list (P := P) { w with drawn := k } _ _ (fun j u hj => by rw [add_none]; exact h2 j u hj)

theorem slice_cells (hw : WRel G σ.get w) {es : List AVal} {tok : Tok} {xv : Value} {sz : Nat} (h : VRel G (.slice es tok) xv) (ha : (es.all fun e => Nat.beq e.cells.length sz) = true) :
    ∃ a cap vs, xv = .slice a es.length cap ∧ ERels G sz es vs ∧ (vs ≠ [] → ∃ b o, a = some ⟨b, o, none⟩ ∧ ∀ (j : Nat) v, vs[j]? = some v → w.cell? ⟨b, o + j, none⟩ = some v) := by
  simp only [VRel] at h
  obtain ⟨a, cap, sz', vs, h1, h2, h3, _⟩ := h
  refine ⟨a, cap, vs, h1, erels_oneSize h2 ha, fun hne => ?_⟩
  have hes : es ≠ [] := fun he => by subst he; exact hne (erels_nil.1 h2)
  obtain ⟨b, o, h4, h5⟩ := h3 hes
  exact ⟨b, o, h4, fun j v hj => hw.im _ _ _ (h5 j v hj)⟩

/-- A part of a live row. -/
theorem row_cells (hw : WRel G σ.get w) {r b o cap sz x lo : Nat} {es : List AVal} (hr : G.row r = some (b, o, cap, sz)) (hm : σ.get r = some (.row x es lo)) {off len : Nat} (hfit : off + len ≤ es.length) :
    ∃ vs, ERels G sz ((es.drop off).take len) vs ∧ ∀ (j : Nat) v, vs[j]? = some v → w.cell? ⟨b, o + off * sz + j, none⟩ = some v := by
  have hat := hw.rows _ _ _ _ _ _ _ _ hr hm
  obtain ⟨c, t', vs, e1, e2, e3, e4⟩ := hat.cells
  refine ⟨_, (e3.drop off).take len, fun j v hj => ?_⟩
  rw [List.getElem?_take] at hj
  split at hj
  · rw [List.getElem?_drop] at hj
    have := e4 _ _ hj
    simp only [World.cell?, e1, Option.isSome_none, Bool.false_eq_true, if_false]
    rw [Nat.add_assoc]; exact this
  · cases hj

theorem bytes_cells : ∀ (l : List UInt8), ERels G 1 (l.map fun b => .int .u8 b.toNat) (l.map fun b => Value.int .u8 b.toNat)
  | [] => by simp [erels_nil]
  | b :: l => by
    simp only [List.map_cons]
    exact erels_cons.2 ⟨.int .u8 b.toNat, _, by simp [Value.cells], by simp only [VRel], by simp [Value.cells], bytes_cells l⟩

/-- The elements that are appended. -/
theorem appended_rel (hw : WRel G σ.get w) {sz : Nat} {x : AVal} {xv : Value} {news : List AVal} (hx : VRel G x xv) (h : appendedOf σ sz x = some news) :
    ∃ vs, ERels G sz news vs ∧ (Builtin.lenOf xv).run P w = .ok news.length w ∧ ∀ k, (Builtin.firstCells sz news.length xv).run P { w with drawn := k } = .ok vs.toArray { w with drawn := k } := by
  unfold appendedOf at h
  split at h
  · rename_i es tok
    obtain ⟨h1, h2⟩ := cond_some h
    cases h2
    obtain ⟨a, cap, vs, rfl, h3, h4⟩ := slice_cells hw hx h1
    exact ⟨vs, h3, rfl, fun k => run_first h3.length h4 _ _ k⟩
  · rename_i r off len sz' full
    split at h
    · rename_i sz2 es lo hm
      obtain ⟨h1, h2⟩ := cond_some h
      cases h2
      simp only [Bool.and_eq_true] at h1
      obtain ⟨h1, h3⟩ := h1
      have h1 := Nat.eq_of_beq_eq_true h1
      have h3 := Nat.le_of_ble_eq_true h3
      simp only [VRel] at hx
      obtain ⟨b, o, cap, a, c, e1, e2, e3, rfl, e5⟩ := hx
      have hsz := (hw.rows _ _ _ _ _ _ _ _ e1 hm).sizeEq
      subst h1
      subst hsz
      obtain ⟨vs, f1, f2⟩ := row_cells hw e1 hm h3
      have hlen : ((es.drop off).take len).length = len := by simp; omega
      refine ⟨vs, f1, by rw [hlen]; rfl, fun k => run_first f1.length (fun hne => ?_) _ _ k⟩
      have hl0 : len ≠ 0 := fun he => by
        subst he
        simp [erels_nil] at f1
        exact hne f1
      have hc : c ≠ 0 := by rw [e3]; split <;> omega
      exact ⟨b, _, by rw [e5 hc], f2⟩
    · cases h
  · rename_i s
    obtain ⟨h1, h2⟩ := cond_some h
    cases h2
    have h1 := Nat.eq_of_beq_eq_true h1
    subst h1
    simp only [VRel] at hx
    subst hx
    refine ⟨_, bytes_cells _, by simp [Builtin.lenOf, Array.length_toList], fun k => ?_⟩
    have hs : (s.extract 0 (List.map (fun b => AVal.int .u8 b.toNat) s.data.toList).length) = s := by
      apply byteArray_eq
      simp
    simp only [Builtin.firstCells, hs, Sem.run_pure]
    congr 1
    apply Array.ext'
    simp
  · cases h

theorem rowNew_some {name sz bytes lo : Nat} {old news : List AVal} {v : AVal} {σ' : AState} (h : rowNew σ name sz bytes old news lo = some (v, σ')) :
    (old ++ news).length * bytes * 2 + 1024 * bytes ≤ 281474976710656 ∧ v = .slc name 0 (old ++ news).length sz false ∧ σ' = σ.set name (.row sz (old ++ news) lo) := by
  unfold rowNew at h
  obtain ⟨h1, h2⟩ := cond_some h
  cases h2
  exact ⟨Nat.le_of_ble_eq_true h1, rfl, rfl⟩

/-- `append` of elements that hold no live row. -/
theorem appendTo_sound (hw : WRel G σ.get w) (hd : Dom G σ) {name : Nat} (h1 : G.obj name = none) (h2 : G.row name = none) (hlt : name < σ.next) {t u ty elem : TypeId} {d : TypeDesc} {i : TypeInfo} {z : Value}
    (ht : P.underlying t = some (.slice elem)) (hu : P.underlying u = some d) (hdd : (∃ e, d = .slice e) ∨ d = .string) (hi : P.info? elem = some i) (hzero : i.zero = some z) (hz : z.cells.size = i.size) (hb : 0 < i.bytes) (hsz : 0 < i.size)
    {s v : AVal} {news : List AVal} {σ' : AState} {sv xv : Value} {nvs : List Value} (hs : VRel G s sv) (hn : ERels G i.size news nvs) (hone : ∀ v ∈ nvs, v.oneCell' = true) (hlen : (Builtin.lenOf xv).run P w = .ok news.length w)
    (hnew : ∀ k, (Builtin.firstCells i.size news.length xv).run P { w with drawn := k } = .ok nvs.toArray { w with drawn := k }) (h : appendTo σ name i.size i.bytes s news = some (v, σ')) {own : Nat → Prop} (hown : own name) :
    ∃ xr w' G', (Builtin.append_ #[t, u] ty #[sv, xv]).run P w = .ok xr w' ∧ VRel G' v xr ∧ WRel G' σ'.get w' ∧ Dom G' σ' ∧ Tr own G noLb σ w G' noLb σ' w' := by
  have hnew0 : (Builtin.firstCells i.size news.length xv).run P w = .ok nvs.toArray w := hnew w.drawn
  have hnempty : isEmptyS news = true → news = [] := by cases news <;> simp [isEmptyS]
  -- a new block
  have out : ∀ (σ1 : AState) {base : Option Addr} {sLen sCap lo : Nat} {old : List AVal} {ovs : List Value}, WRel G σ1.get w → Dom G σ1 → name < σ1.next → Tr own G noLb σ w G noLb σ1 w → old.length = sLen → ERels G i.size old ovs →
      (ovs ≠ [] → ∃ b o, base = some ⟨b, o, none⟩ ∧ ∀ (j : Nat) v, ovs[j]? = some v → w.cell? ⟨b, o + j, none⟩ = some v) → sCap < sLen + news.length → lo ≤ (old ++ news).length → rowNew σ1 name i.size i.bytes old news lo = some (v, σ') →
      ∃ xr w' G', (Builtin.append_ #[t, u] ty #[.slice base sLen sCap, xv]).run P w = .ok xr w' ∧ VRel G' v xr ∧ WRel G' σ'.get w' ∧ Dom G' σ' ∧ Tr own G noLb σ w G' noLb σ' w' := by
    intro σ1 base sLen sCap lo old ovs hw1 hd1 hlt1 hT1 hl ho hread hfit hlo hrow
    obtain ⟨e1, rfl, rfl⟩ := rowNew_some hrow
    subst hl
    have e2 : (old.length + news.length) * i.bytes * 2 + 1024 * i.bytes ≤ 281474976710656 := by rw [← List.length_append]; exact e1
    obtain ⟨cap, rest, f1, f2, f3⟩ := run_append_out (P := P) (w := w) (ty := ty) ht hu hdd hi hzero (base := base) (sCap := sCap) hlen (fun k => run_first ho.length hread _ _ k) hnew hfit e2 hb
    rw [← List.length_append] at f1
    obtain ⟨G', g1, g2, g3, g4⟩ := row_out hw1 hd1 h1 h2 hlt1 (lo := lo) (rest := rest) elem hsz ho hn hlo f1 (by rw [f2, hz, List.length_append]) hown
    rw [List.length_append] at g1
    exact ⟨_, _, G', f3, by rw [List.length_append]; exact g1, g2, g3, (hT1.trans g4).mono fun r hr => hr.elim id id⟩
  -- in a live row
  have both : ∀ {r b o cap x lo lo' : Nat} {es : List AVal} {ad : Addr}, G.row r = some (b, o, cap, i.size) → σ.get r = some (.row x es lo) → (cap ≠ 0 → ad = ⟨b, o, none⟩) → lo ≤ lo' → lo' ≤ es.length →
      rowNew (σ.set r (.cells [])) name i.size i.bytes es news lo' = some (v, σ') →
      ∃ xr w' G', (Builtin.append_ #[t, u] ty #[.slice (some ad) es.length cap, xv]).run P w = .ok xr w' ∧ VRel G' v xr ∧ WRel G' σ'.get w' ∧ Dom G' σ' ∧ Tr own G noLb σ w G' noLb σ' w' := by
    intro r b o cap x lo lo' es ad hr hm had hlo hlo' hrow
    by_cases hfit : es.length + news.length ≤ cap
    · obtain ⟨_, rfl, rfl⟩ := rowNew_some hrow
      obtain ⟨w', G', f1, f2, f3⟩ := row_in (P := P) hw hd hr hm h1 h2 hlt hn hone hfit hlo hlo' hown ad had
      refine ⟨_, w', G', run_append_in (P := P) (w := w) (ty := ty) ht hu hdd hi hlen hnew0 hfit (by simpa using f1), ?_, f3⟩
      rw [List.length_append] at f2 ⊢
      exact f2
    · obtain ⟨g1, g2, g3⟩ := drop_row hw hd hr hm own
      obtain ⟨vs, k1, k2⟩ := row_cells hw hr hm (off := 0) (len := es.length) (by omega)
      simp only [List.drop_zero, List.take_length, Nat.zero_mul, Nat.add_zero] at k1 k2
      refine out _ g1 g2 hlt g3 rfl k1 (fun hne => ⟨b, o, ?_, k2⟩) (by omega) (by simp; omega) hrow
      have hcap : cap ≠ 0 := fun he => by
        have := (hw.rows _ _ _ _ _ _ _ _ hr hm).fits
        have he2 : es = [] := List.length_eq_zero_iff.1 (by omega)
        subst he2
        exact hne (erels_nil.1 k1)
      rw [had hcap]
  unfold appendTo at h
  split at h
  · -- nil
    rename_i es
    simp only [VRel, TokOk] at hs
    obtain ⟨a, cap, sz', vs, rfl, hE, _, rfl, hl0, rfl⟩ := hs
    have he : es = [] := List.length_eq_zero_iff.1 hl0
    subst he
    cases hemp : isEmptyS news with
    | true =>
      rw [hemp] at h
      cases h
      have hn0 := hnempty hemp
      subst hn0
      refine ⟨_, w, G, run_append_nil0 (P := P) (w := w) (ty := ty) ht hu hdd hi hlen hnew0, ?_, hw, hd, Tr.refl _ _ _ _ _⟩
      simp only [VRel, TokOk]
      exact ⟨none, 0, 1, [], rfl, by simp [erels_nil], fun h => absurd rfl h, rfl, rfl, rfl⟩
    | false =>
      rw [hemp] at h
      have hpos : 0 < news.length := by
        cases news with
        | nil => simp [isEmptyS] at hemp
        | cons _ _ => simp
      exact out σ hw hd hlt (Tr.refl _ _ _ _ _) (old := []) (ovs := []) rfl (by simp [erels_nil]) (fun h => absurd rfl h) (by simpa using hpos) (Nat.zero_le _) h
  · -- full
    rename_i es
    have hs0 := hs
    simp only [VRel, TokOk] at hs
    obtain ⟨a, cap, sz', vs, rfl, hE, him, hsome, rfl⟩ := hs
    obtain ⟨ad, rfl⟩ := Option.isSome_iff_exists.1 hsome
    cases hemp : isEmptyS news with
    | true =>
      rw [hemp] at h
      cases h
      have hn0 := hnempty hemp
      subst hn0
      have hnv : nvs = [] := erels_nil.1 hn
      subst hnv
      exact ⟨_, w, G, run_append_in (P := P) (w := w) (ty := ty) ht hu hdd hi hlen hnew0 (by simp) (by simp [storeCells]), hs0, hw, hd, Tr.refl _ _ _ _ _⟩
    | false =>
      rw [hemp] at h
      obtain ⟨hh, h⟩ := cond_some h
      have hpos : 0 < news.length := by
        cases news with
        | nil => simp [isEmptyS] at hemp
        | cons _ _ => simp
      -- the elements are of one size
      have hall : ERels G i.size es vs := by
        cases es with
        | nil => rw [erels_nil] at hE ⊢; exact hE
        | cons e r =>
          obtain ⟨x, m, q1, q2, q3, q4⟩ := erels_cons.1 hE
          have : e.cells.length = i.size := Nat.eq_of_beq_eq_true hh
          have hsz' : sz' = i.size := by rw [← q3, q2.size, this]
          rw [← hsz']; exact hE
      refine out σ hw hd hlt (Tr.refl _ _ _ _ _) rfl hall (fun hne => ?_) (by omega) (Nat.zero_le _) h
      have hes : es ≠ [] := fun he => by subst he; exact hne (erels_nil.1 hE)
      obtain ⟨b, o, q1, q2⟩ := him hes
      exact ⟨b, o, q1, fun j v hj => hw.im _ _ _ (q2 j v hj)⟩
  · -- tail
    rename_i es r
    split at h
    · rename_i sz' es' lo hm
      obtain ⟨hc, h⟩ := cond_some h
      simp only [Bool.and_eq_true] at hc
      obtain ⟨hc1, hc2⟩ := hc
      have hc1 := Nat.eq_of_beq_eq_true hc1
      have hc2 := Nat.eq_of_beq_eq_true hc2
      simp only [VRel, TokOk] at hs
      obtain ⟨a, cap, sz2, vs, rfl, hE, him, b, o, rfl, hr, hcap⟩ := hs
      have hsz2 := (hw.rows _ _ _ _ _ _ _ _ hr hm).sizeEq
      rw [hc2]
      have hr' : G.row r = some (b, o, cap, i.size) := by rw [hc1, hsz2]; exact hr
      exact both hr' hm (fun _ => rfl) (hw.rows _ _ _ _ _ _ _ _ hr hm).loLe (Nat.le_refl _) h
    · cases h
  · -- live
    rename_i r off len sz' full
    split at h
    · rename_i x es lo hm
      have hc1 := Nat.eq_of_beq_eq_true (cond_some h).1
      replace h := (cond_some h).2
      subst hc1
      simp only [VRel] at hs
      obtain ⟨b, o, cap, ad, c, e1, e2, e3, rfl, e5⟩ := hs
      cases full with
      | true =>
        simp only [cond_true] at h
        simp only [if_true] at e3
        subst e3
        cases hemp : isEmptyS news with
        | true => rw [hemp] at h; cases h
        | false =>
          rw [hemp] at h
          obtain ⟨hfit, h⟩ := cond_some h
          have hfit := Nat.le_of_ble_eq_true hfit
          have hpos : 0 < news.length := by
            cases news with
            | nil => simp [isEmptyS] at hemp
            | cons _ _ => simp
          obtain ⟨vs, k1, k2⟩ := row_cells hw e1 hm hfit
          have hlen' : ((es.drop off).take c).length = c := by simp; omega
          refine out σ hw hd hlt (Tr.refl _ _ _ _ _) hlen' k1 (fun hne => ⟨b, _, ?_, k2⟩) (by omega) (Nat.zero_le _) h
          have hc : c ≠ 0 := fun he => by
            subst he
            simp [erels_nil] at k1
            exact hne k1
          rw [e5 hc]
      | false =>
        simp only [cond_false] at h
        simp only [Bool.false_eq_true, if_false] at e3
        have hc := (cond_some h).1
        replace h := (cond_some h).2
        simp only [Bool.and_eq_true] at hc
        obtain ⟨hc1, hc2⟩ := hc
        have hc1 := Nat.eq_of_beq_eq_true hc1
        have hc2 := Nat.eq_of_beq_eq_true hc2
        subst hc1
        subst hc2
        subst e3
        exact both e1 hm (fun h0 => by simpa using e5 (by omega)) (Nat.le_refl _) (hw.rows _ _ _ _ _ _ _ _ e1 hm).loLe h
    · cases h
  · cases h

/-- `append`. -/
theorem append_sound (hw : WRel G σ.get w) (hd : Dom G σ) {name : Nat} (h1 : G.obj name = none) (h2 : G.row name = none) (hlt : name < σ.next) {t u ty elem : TypeId} {d : TypeDesc} {i : TypeInfo} {z : Value}
    (ht : P.underlying t = some (.slice elem)) (hu : P.underlying u = some d) (hdd : (∃ e, d = .slice e) ∨ d = .string) (hi : P.info? elem = some i) (hzero : i.zero = some z) (hz : z.cells.size = i.size) (hb : 0 < i.bytes) (hsz : 0 < i.size)
    {s x v : AVal} {σ' : AState} {sv xv : Value} (hs : VRel G s sv) (hx : VRel G x xv) (h : append σ name i.size i.bytes s x = some (v, σ')) {own : Nat → Prop} (hown : own name) :
    ∃ xr w' G', (Builtin.append_ #[t, u] ty #[sv, xv]).run P w = .ok xr w' ∧ VRel G' v xr ∧ WRel G' σ'.get w' ∧ Dom G' σ' ∧ Tr own G noLb σ w G' noLb σ' w' := by
  unfold append at h
  split at h
  · cases h
  · rename_i news0 hn0
    split at h
    · cases h
    · rename_i news hn
      obtain ⟨hc, h⟩ := cond_some h
      obtain ⟨vs, e1, e2, e3⟩ := appended_rel (P := P) hw hx hn0
      have hrows := erels_rows e1
      obtain ⟨G1, f1, f2, f3, f4, f5, f6, f7⟩ := lockRows_sound (rowsOfs news0) G σ hw hrows
      have hE := frzs_erels f1 news0 vs news hn e1 f5
      have hlen := frzs_length _ _ hn
      rw [← hlen] at e2 e3
      have hT := tr_lock (w := w) own hrows f1 f2 f3 f6 f7
      have hone := hE.words (by
        rw [List.all_eq_true] at hc ⊢
        intro e he
        have := hc e he
        simp only [Bool.and_eq_true] at this
        exact this.2)
      obtain ⟨xr, w', G', g1, g2, g3, g4, g5⟩ := appendTo_sound (P := P) (ty := ty) f4 (dom_lock hd f2 f3) (by rw [f2]; exact h1) (by rw [f3]; exact h2) (by rw [lockRows_next]; exact hlt) ht hu hdd hi hzero hz hb hsz (VRel.mono f1 _ _ hs) hE hone e2 e3 h hown
      exact ⟨xr, w', G', g1, g2, g3, g4, (hT.trans g5).mono fun r hr => hr.elim id id⟩

end
end Go.Ago

set_option autoImplicit false
set_option linter.unusedSimpArgs false
set_option linter.unusedVariables false
namespace Go.Ago

theorem run_callFunc {P : Program} {f : FuncId} {args : Array Value} {w : World} (h : Enterable P f) : (callFunc f args).run P w = .ok (.enter f args) w := by
  obtain ⟨fn, c, h1, h2, h3⟩ := h
  simp only [callFunc, Sem.run_bind, show (program).run P w = .ok P w from rfl, Result.andThen_ok, h1, h3, h2]
  simp

theorem run_program (P : Program) (w : World) : (program).run P w = .ok P w := rfl

/-- What an effect leaves. -/
def EffPost (Q : Option AVal × AFrame × AState → Prop) (F : AFrame) (σ : AState) (dst : Option Nat) : AEff → Prop
  | .val v σ' => Q (none, F.put dst v, σ')
  | .pan v σ' => Q (some v, F, σ')
  | .dfr d => Q (none, { F.put dst undefA with D := d :: F.D }, σ)

theorem lookI_mem {l : List (TypeId × FuncId)} {t : TypeId} {f : FuncId} (h : lookI l t = some f) : (t, f) ∈ l := by
  induction l with
  | nil => cases h
  | cons p l ih =>
    obtain ⟨u, g⟩ := p
    simp only [lookI] at h
    cases hb : Nat.beq u t with
    | true =>
      rw [hb] at h
      have := Nat.eq_of_beq_eq_true hb
      subst this
      simp only [cond_true, Option.some.injEq] at h
      subst h
      simp
    | false =>
      rw [hb] at h
      simp [ih h]

theorem run_method {P : Program} {t : TypeId} {f : FuncId} {name : String} {v : Value} {w : World} (h : lookI (methodTable P name) t = some f) (n : Nat) :
    (method (n + 1) t v name).run P w = .ok (f, v) w := by
  have hm := lookI_mem h
  unfold methodTable at hm
  obtain ⟨t', h1, h2⟩ := List.mem_filterMap.1 hm
  cases hi : P.info? t' with
  | none => rw [hi] at h2; cases h2
  | some i =>
    rw [hi] at h2
    simp only at h2
    split at h2
    · rename_i m u hf hu
      cases hp : m.path.isEmpty with
      | false => rw [hp] at h2; simp at h2
      | true =>
        have hpath : m.path.toList = [] := by simpa using hp
        cases hfn : m.func with
        | none => rw [hp, hfn] at h2; simp at h2
        | some q =>
          obtain ⟨g, b⟩ := q
          rw [hp, hfn] at h2
          cases b <;> cases u <;> simp at h2 <;> (obtain ⟨rfl, rfl⟩ := h2; simp [method, run_typeInfo hi, hf, hpath, follow, hfn, receiverAt, run_underlying hu, Place.get])
    · cases h2

section
variable {E : CEnv} {G : Gh} {Lb : Nat → Option Nat} {F : AFrame} {σ : AState} {a : Act} {w : World} {cf : CallF}
variable {dst : Option Tmp} {ty : TypeId} {pos : String} {aft : Array Edge} {gd : Option (Nat × Bool)}

/-- A call. -/
theorem wp_call (R : Rel E G Lb F σ a w) {G0 : Gh} (C : CallSim E.P G0 cf) (hle : Le G0 G) {o : Oper} {f : FuncId} {vs : List AVal} {vargs : Array Value} {own : Nat → Prop} (hv : VRels G vs vargs.toList)
    (hex : Enterable E.P f → (execOp a.eval o).run E.P w = .ok (.enter f vargs) w) {Q : Option AVal × AFrame × AState → Prop}
    (h : ((cf false f vs σ).bind fun r => .done (ofRet r)).All (EffPost Q F σ o.dst)) : o.wp E.P a w (StepNext E own G Lb σ w Q) (StepPanic E own G Lb σ w Q) := by
  rw [Out.all_bind] at h
  obtain ⟨hent, hcalls⟩ := C.call f vs σ _ h G w vargs hle hv R.wr R.dom
  unfold Oper.wp
  rw [hex hent, Oper.upon_enter]
  refine hcalls.mono fun e w' hr => ?_
  obtain ⟨r, σ', G', hq, hrel, hw', hd', hT⟩ := hr
  obtain ⟨hR, hT'⟩ := R.of_tr hT hw' hd'
  cases r with
  | ret v =>
    obtain ⟨x, rfl, hx⟩ := hrel
    exact ⟨G', Lb, _, σ', hq, hR.put hx, hT'.mono fun _ h => h.elim⟩
  | pan v =>
    obtain ⟨x, rfl, hx⟩ := hrel
    exact ⟨v, x, G', Lb, F, σ', rfl, hx, hq, hR, hT'.mono fun _ h => h.elim⟩

theorem snd_call (R : Rel E G Lb F σ a w) {G0 : Gh} (C : CallSim E.P G0 cf) (hle : Le G0 G) {f : FuncId} {args : Array Operand} {argTypes : Array TypeId} {ys : List AOpd} {vs : List AVal} {own : Nat → Prop} (hargs : travO opdA args.toList = some ys) (hv : F.evals ys = some vs)
    {Q : Option AVal × AFrame × AState → Prop} (h : ((cf false f vs σ).bind fun r => .done (ofRet r)).All (EffPost Q F σ dst)) :
    Oper.wp E.P ⟨dst, .call ⟨.value (.func f), args, argTypes⟩, ty, pos, aft, gd⟩ a w (StepNext E own G Lb σ w Q) (StepPanic E own G Lb σ w Q) := by
  have := R.opds hargs hv
  refine wp_call R C hle (vargs := args.map a.eval) (by simpa using this) (fun hent => ?_) h
  simp [execOp, resolve, Deferred.ofValue, Act.eval, invoke, run_callFunc hent]

theorem snd_callv (R : Rel E G Lb F σ a w) {G0 : Gh} (C : CallSim E.P G0 cf) (hle : Le G0 G) {x : Operand} {x' : AOpd} {f : FuncId} {first captured : List AVal} {args : Array Operand} {argTypes : Array TypeId} {ys : List AOpd} {vs : List AVal} {own : Nat → Prop}
    (hx : opdA x = some x') (hxv : F.eval x' = some (.func f first captured)) (hargs : travO opdA args.toList = some ys) (hv : F.evals ys = some vs)
    {Q : Option AVal × AFrame × AState → Prop} (h : ((cf false f (first ++ vs ++ captured) σ).bind fun r => .done (ofRet r)).All (EffPost Q F σ dst)) :
    Oper.wp E.P ⟨dst, .call ⟨.value x, args, argTypes⟩, ty, pos, aft, gd⟩ a w (StepNext E own G Lb σ w Q) (StepPanic E own G Lb σ w Q) := by
  have := R.opds hargs hv
  have hf := R.opd hx hxv
  simp only [VRel] at hf
  obtain ⟨p, q, h1, h2, h3⟩ := hf
  refine wp_call R C hle (vargs := p ++ args.map a.eval ++ q) (by simpa using (h2.append this).append h3) (fun hent => ?_) h
  simp [execOp, resolve, Deferred.ofValue, h1, invoke, run_callFunc hent]

theorem snd_calli (R : Rel E G Lb F σ a w) {G0 : Gh} (C : CallSim E.P G0 cf) (hle : Le G0 G) {x : Operand} {x' : AOpd} {name : String} {t : TypeId} {f : FuncId} {u : AVal} {args : Array Operand} {argTypes : Array TypeId} {ys : List AOpd} {vs : List AVal} {own : Nat → Prop}
    (hx : opdA x = some x') (hxv : F.eval x' = some (.iface t u)) (hargs : travO opdA args.toList = some ys) (hv : F.evals ys = some vs) (hl : lookI (methodTable E.P name) t = some f)
    {Q : Option AVal × AFrame × AState → Prop} (h : ((cf false f (u :: vs) σ).bind fun r => .done (ofRet r)).All (EffPost Q F σ dst)) :
    Oper.wp E.P ⟨dst, .call ⟨.invoke x name, args, argTypes⟩, ty, pos, aft, gd⟩ a w (StepNext E own G Lb σ w Q) (StepPanic E own G Lb σ w Q) := by
  have := R.opds hargs hv
  have hf := R.opd hx hxv
  simp only [VRel] at hf
  obtain ⟨p, h1, h2⟩ := hf
  refine wp_call R C hle (vargs := #[p] ++ args.map a.eval) (by simpa using vrels_cons.2 ⟨_, _, rfl, h2, this⟩) (fun hent => ?_) h
  have hmeth := fun n => run_method (P := E.P) (v := p) (w := w) hl n
  have hext : (#[Value.iface t p] ++ args.map a.eval).extract 1 (#[Value.iface t p] ++ args.map a.eval).size = args.map a.eval := by
    apply Array.ext'
    simp
    exact List.take_of_length_le (by simp)
  have hfuel : E.P.types.size + Made.depth = (E.P.types.size + Made.depth - 1) + 1 := by
    have : 0 < Made.depth := by decide
    omega
  simp only [execOp, resolve, invoke, h1, Sem.run_bind, Sem.run_pure, Result.andThen_ok, hext]
  simp only [Array.getElem?_append, List.size_toArray, List.length_cons, List.length_nil, Nat.zero_add, Nat.lt_succ_self, if_true, List.getElem?_toArray, List.getElem?_cons_zero, callMethod, Sem.run_bind, run_program, Result.andThen_ok]
  rw [hfuel]
  simp [hmeth, run_callFunc hent]

theorem snd_dfr (R : Rel E G Lb F σ a w) {x : Operand} {x' : AOpd} {f : FuncId} {first captured : List AVal} {args : Array Operand} {argTypes : Array TypeId} {ys : List AOpd} {vs : List AVal} {own : Nat → Prop}
    (hx : opdA x = some x') (hxv : F.eval x' = some (.func f first captured)) (hargs : travO opdA args.toList = some ys) (hv : F.evals ys = some vs)
    {Q : Option AVal × AFrame × AState → Prop} (h : Q (none, { F.put dst undefA with D := ⟨f, first ++ vs ++ captured⟩ :: F.D }, σ)) (QQ : Exit → Act → World → Prop) :
    Oper.wp E.P ⟨dst, .defer ⟨.value x, args, argTypes⟩, ty, pos, aft, gd⟩ a w (StepNext E own G Lb σ w Q) QQ := by
  have := R.opds hargs hv
  have hf := R.opd hx hxv
  simp only [VRel] at hf
  obtain ⟨p, q, h1, h2, h3⟩ := hf
  unfold Oper.wp
  have hrun : (execOp a.eval ⟨dst, .defer ⟨.value x, args, argTypes⟩, ty, pos, aft, gd⟩).run E.P w = .ok (.defer { target := .fn (.func f) q, args := p ++ args.map a.eval }) w := by
    simp [execOp, resolve, Deferred.ofValue, h1]
  rw [hrun, Oper.upon_defer]
  refine ⟨G, Lb, _, σ, h, ?_, Tr.refl _ _ _ _ _⟩
  have hput := R.put (dst := dst) (vrel_undef (G := G))
  have hb : ({ a with defers := { target := .fn (.func f) q, args := p ++ args.map a.eval } :: a.defers } : Act).put dst undef =
      { a.put dst undef with defers := { target := .fn (.func f) q, args := p ++ args.map a.eval } :: a.defers } := by
    cases dst <;> rfl
  rw [hb]
  refine ⟨hput.wr, hput.dom, hput.size, hput.temps, hput.locs, hput.lbInj, hput.lbFree, ?_⟩
  refine ⟨_, _, q, rfl, rfl, ?_, R.dfrs⟩
  simpa using (h2.append this).append h3

theorem snd_pnc (R : Rel E G Lb F σ a w) {x : Operand} {x' : AOpd} {t : TypeId} {u : AVal} {own : Nat → Prop} (hx : opdA x = some x') (hxv : F.eval x' = some (.iface t u))
    {Q : Option AVal × AFrame × AState → Prop} (h : Q (some (.iface t u), F, σ)) (K : Act → World → Prop) :
    Oper.wp E.P ⟨dst, .panic x, ty, pos, aft, gd⟩ a w K (StepPanic E own G Lb σ w Q) := by
  have hf := R.opd hx hxv
  have hf0 := hf
  simp only [VRel] at hf
  obtain ⟨p, h1, h2⟩ := hf
  unfold Oper.wp
  have hrun : (execOp a.eval ⟨dst, .panic x, ty, pos, aft, gd⟩).run E.P w = .halt (.panic (a.eval x)) w := by
    simp [execOp, Instr.panic, h1]
  rw [hrun, Oper.upon_panic]
  exact ⟨_, _, G, Lb, F, σ, rfl, hf0, h, R, Tr.refl _ _ _ _ _⟩

theorem snd_app (R : Rel E G Lb F σ a w) {args : Array Operand} {argTypes : Array TypeId} {s x : Operand} {s' x' : AOpd} {t u elem : TypeId} {d : TypeDesc} {i : TypeInfo} {n : Nat} {g : Bool} {sv xv v : AVal} {σ' : AState} {r : Nat} {own : Nat → Prop}
    (hown : own r) (hr : G.obj r = none) (hrow : G.row r = none) (hlt : r < σ.next)
    (ha : args.toList = [s, x]) (hat : argTypes.toList = [t, u]) (ht : E.P.underlying t = some (.slice elem)) (hu : E.P.underlying u = some d) (hdd : (∃ e, d = .slice e) ∨ d = .string) (hi : E.P.info? elem = some i) (hl : lay E.P elem = some (n, g))
    (hz : (zeroA E.P elem).isSome) (hb : 0 < i.bytes) (hn : 0 < n) (hs : opdA s = some s') (hx : opdA x = some x') (hsv : F.eval s' = some sv) (hxv : F.eval x' = some xv) (h : append σ r n i.bytes sv xv = some (v, σ'))
    {Q : Option AVal × AFrame × AState → Prop} (hq : Q (none, F.put dst v, σ')) (QQ : Exit → Act → World → Prop) :
    Oper.wp E.P ⟨dst, .call ⟨.builtin .append, args, argTypes⟩, ty, pos, aft, gd⟩ a w (StepNext E own G Lb σ w Q) QQ := by
  have hargs : args = #[s, x] := Array.ext' (by simpa using ha)
  have hats : argTypes = #[t, u] := Array.ext' (by simpa using hat)
  subst hargs; subst hats
  obtain ⟨i', d', e1, e2, e3, e4, e5⟩ := lay_info hl
  rw [hi] at e1
  cases e1
  subst e3
  -- the zero value
  obtain ⟨zv, hzv⟩ := Option.isSome_iff_exists.1 hz
  have hzero : ∃ z, i.zero = some z ∧ z.cells.size = i.size := by
    unfold zeroA at hzv
    rw [hi] at hzv
    simp only at hzv
    split at hzv
    · rename_i z n' g' h1 h2
      rw [hl] at h2
      cases h2
      split at hzv
      · rename_i v' h3
        split at hzv
        · rename_i h4
          refine ⟨z, h1, ?_⟩
          rw [← h4]
          exact (cval_rel G _ _ _ h3).size
        · cases hzv
      · cases hzv
    · cases hzv
  obtain ⟨z, hz1, hz2⟩ := hzero
  obtain ⟨xr, w', G', f1, f2, f3, f4, f5⟩ := append_sound (P := E.P) (ty := ty) R.wr R.dom hr hrow hlt ht hu hdd hi hz1 hz2 hb hn (R.opd hs hsv) (R.opd hx hxv) h hown
  obtain ⟨hR, hT⟩ := R.of_tr f5 f3 f4
  refine wp_value (x := xr) (w' := w') ?_ ⟨G', Lb, _, _, hq, hR.put f2, hT⟩
  simp [execOp, resolve, invoke, builtin, f1]

end
end Go.Ago

set_option autoImplicit false
set_option linter.unusedSimpArgs false
set_option linter.unusedVariables false
namespace Go.Ago

section
variable {E : CEnv} {G : Gh} {Lb : Nat → Option Nat} {F : AFrame} {σ : AState} {a : Act} {w : World} {cf : CallF}

theorem all_cands {es : List (AVal × AVal × Nat)} {since m r clock i : Nat} {seen : List Nat} {dst : Option Nat} {Q : Option AVal × AFrame × AState → Prop}
    (h : (bif Nat.ble (candsA es since seen).length 1 then (match (candsA es since seen)[0]? with
        | some (some e) => .done (.val (.tuple [.bool true, e.1, e.2.1]) (σ.set r (.iter (some m) since (seen ++ [e.2.2]) clock)))
        | some none => .done (.val (.tuple [.bool false]) σ)
        | none => .fail)
      else .choose (candsA es since seen).length fun i => match (candsA es since seen)[i]? with
        | some (some e) => .done (.val (.tuple [.bool true, e.1, e.2.1]) (σ.set r (.iter (some m) since (seen ++ [e.2.2]) clock)))
        | some none => .done (.val (.tuple [.bool false]) σ)
        | none => .fail : Out AEff).All (EffPost Q F σ dst))
    (hi : (candsA es since seen).length ≤ 1 ∧ i = 0 ∨ ¬ (candsA es since seen).length ≤ 1 ∧ i < (candsA es since seen).length) :
    (match (candsA es since seen)[i]? with
      | some (some e) => Q (none, F.put dst (.tuple [.bool true, e.1, e.2.1]), σ.set r (.iter (some m) since (seen ++ [e.2.2]) clock))
      | some none => Q (none, F.put dst (.tuple [.bool false]), σ)
      | none => False) := by
  generalize candsA es since seen = cs at h hi ⊢
  rcases hi with ⟨h5, rfl⟩ | ⟨h5, h6⟩
  · have hb : Nat.ble cs.length 1 = true := Nat.ble_eq_true_of_le h5
    rw [hb] at h
    simp only [cond_true] at h
    split at h <;> rename_i e1 <;> simp only [e1] <;> exact h
  · have hb : Nat.ble cs.length 1 = false := by
      cases hb2 : Nat.ble cs.length 1 with
      | true => exact absurd (Nat.le_of_ble_eq_true hb2) h5
      | false => rfl
    rw [hb] at h
    simp only [cond_false] at h
    replace h := h.2 i h6
    dsimp only at h
    cases e1 : cs[i]? with
    | none => rw [e1] at h; exact h
    | some p => cases p <;> (rw [e1] at h; exact h)

set_option maxHeartbeats 2000000 in
theorem eff_sound (R : Rel E G Lb F σ a w) {G0 : Gh} (C : CallSim E.P G0 cf) (hle : Le G0 G) {o : Oper} {base j k : Nat} {op : AOp} {init : List (Nat × AObj)} (hc : compOp E j o = some (op, k, init)) (hcls : op.cls = .eff) {own : Nat → Prop}
    (hfresh : ∀ r, ownOf base j k r → own r ∧ G.obj r = none ∧ G.row r = none ∧ r < σ.next) {Q : Option AVal × AFrame × AState → Prop}
    (h : (effOp cf base op F σ).All (EffPost Q F σ o.dst)) : o.wp E.P a w (StepNext E own G Lb σ w Q) (StepPanic E own G Lb σ w Q) := by
  obtain ⟨dst, mop, ty, pos, aft, gd⟩ := o
  cases mop with
  | box e x =>
    simp only [compOp] at hc
    split at hc
    · rename_i l y d h1 h2
      split at hc
      · cases hc; cases hcls
      · cases hc
        obtain ⟨f1, f2, f3, f4⟩ := hfresh (base + j) ⟨Nat.le_refl _, by omega⟩
        simp only [effOp] at h
        split at h
        · rename_i v hv
          obtain ⟨n, g⟩ := l
          exact snd_box R f1 f2 f3 f4 h1 h2 hv h _
        · exact h.elim
    · cases hc
  | store t x v =>
    simp only [compOp] at hc
    split at hc
    · rename_i n g a' v' h1 h2 h3
      split at hc
      · cases hc; cases hcls
      · cases hc
        simp only [effOp] at h
        split at h
        · rename_i p u hp hu
          split at h
          · rename_i σ' hs
            exact snd_store R h1 h2 h3 hp hu hs h _
          · exact h.elim
        · exact h.elim
    · cases hc
  | mapUpdate t m k' x =>
    simp only [compOp] at hc
    split at hc
    · rename_i kt e m' k'' x' h1 h2 h3 h4
      obtain ⟨kt', h5, h6⟩ := map_some' hc
      cases h6
      simp only [effOp] at h
      split at h
      · rename_i r kv u e1 e2 e3
        split at h
        · rename_i es clock e4
          cases hk : isKey kt' kv with
          | false => rw [hk] at h; exact h.elim
          | true =>
            rw [hk] at h
            simp only [cond_true] at h
            split at h
            · rename_i o' e5
              exact snd_mset R h1 h5 h2 h3 h4 e1 e2 e3 e4 hk e5 h _
            · exact h.elim
        · exact h.elim
      · exact h.elim
    · cases hc
  | range t x =>
    simp only [compOp] at hc
    split at hc
    · rename_i kt e h1
      obtain ⟨y, h2, h3⟩ := map_some' hc
      cases h3
      obtain ⟨f1, f2, f3, f4⟩ := hfresh (base + j) ⟨Nat.le_refl _, by omega⟩
      simp only [effOp] at h
      split at h
      · rename_i e1
        exact snd_rng R f1 f2 f3 f4 h1 h2 e1 h _
      · rename_i m e1
        refine snd_rng R f1 f2 f3 f4 h1 h2 e1 ?_ _
        split at h
        · rename_i es clock e2
          simp only [e2]
          exact h
        · exact h.elim
      · exact h.elim
    · cases hc
  | next x isString =>
    cases isString with
    | true => simp [compOp] at hc
    | false =>
      obtain ⟨y, h1, h2⟩ := bare_some hc
      cases h2
      simp only [effOp] at h
      split at h
      · rename_i r e1
        split at h
        · rename_i s1 s2 s3 e2
          exact snd_nxt R h1 e1 e2 h _
        · rename_i m since seen last e2
          refine snd_nxt R h1 e1 e2 ?_ _
          split at h
          · rename_i es clock e3
            simp only [e3]
            cases hb : (!seen.isEmpty && !es.isEmpty && es.all fun e => Nat.ble last e.2.2) with
            | true => rw [hb] at h; exact h.elim
            | false =>
              rw [hb] at h
              refine ⟨rfl, fun i hi => ?_⟩
              simp only [cond_false] at h
              exact all_cands h hi
          · exact h.elim
        · exact h.elim
      · exact h.elim
  | call c =>
    simp only [compOp, compCall] at hc
    obtain ⟨callee, args, argTypes⟩ := c
    cases callee with
    | value f =>
      simp only at hc
      split at hc
      · rename_i f' heq
        cases heq
        obtain ⟨ys, h1, h2⟩ := bare_some hc
        cases h2
        simp only [effOp] at h
        split at h
        · rename_i vs e1
          exact snd_call R C hle h1 e1 h
        · exact h.elim
      · rename_i x heq
        cases heq
        split at hc
        · rename_i x' ys h1 h2
          cases hc
          simp only [effOp] at h
          split at h
          · rename_i f' first captured vs e1 e2
            exact snd_callv R C hle h1 e1 h2 e2 h
          · exact h.elim
        · cases hc
      · rename_i heq; cases heq
      · rename_i heq; cases heq
    | invoke x name =>
      simp only at hc
      split at hc
      · rename_i x' ys h1 h2
        cases hc
        simp only [effOp] at h
        split at h
        · rename_i t u vs e1 e2
          split at h
          · rename_i f e3
            exact snd_calli R C hle h1 e1 h2 e2 e3 h
          · exact h.elim
        · exact h.elim
      · cases hc
    | builtin b =>
      simp only at hc
      split at hc
      · split at hc <;> first
          | (cases hc; done)
          | (obtain ⟨y, h1, h2⟩ := bare_some hc
             cases h2; cases hcls)
      · rename_i s x t u ha hat
        split at hc
        · rename_i e e' h1 h2
          split at hc
          · rename_i i n g s' x' h3 h4 h5 h6
            split at hc
            · rename_i h7
              cases hc
              obtain ⟨f1, f2, f3, f4⟩ := hfresh (base + j) ⟨Nat.le_refl _, by omega⟩
              simp only [effOp] at h
              split at h
              · rename_i sv xv e1 e2
                split at h
                · rename_i v σ' e3
                  exact snd_app R f1 f2 f3 f4 ha hat h1 h2 (.inl ⟨_, rfl⟩) h3 h4 h7.2.2 h7.2.1 h7.1 h5 h6 e1 e2 e3 h _
                · exact h.elim
              · exact h.elim
            · cases hc
          · cases hc
        · rename_i e h1 h2
          split at hc
          · rename_i i n g s' x' h3 h4 h5 h6
            split at hc
            · rename_i h7
              cases hc
              obtain ⟨f1, f2, f3, f4⟩ := hfresh (base + j) ⟨Nat.le_refl _, by omega⟩
              simp only [effOp] at h
              split at h
              · rename_i sv xv e1 e2
                split at h
                · rename_i v σ' e3
                  exact snd_app R f1 f2 f3 f4 ha hat h1 h2 (.inr rfl) h3 h4 h7.2.2 h7.2.1 (by omega) h5 h6 e1 e2 e3 h _
                · exact h.elim
              · exact h.elim
            · cases hc
          · cases hc
        · cases hc
      · rename_i m k' t u ha hat
        split at hc
        · rename_i kt e h1
          split at hc
          · rename_i kt' m' k'' h2 h3 h4
            cases hc
            simp only [effOp] at h
            split at h
            · rename_i r kv e1 e2
              split at h
              · rename_i es clock e3
                cases hk : isKey kt' kv with
                | false => rw [hk] at h; exact h.elim
                | true =>
                  rw [hk] at h
                  simp only [cond_true] at h
                  refine snd_del R ha hat h1 h2 h3 h4 e1 e2 e3 hk ?_ _
                  split at h <;> rename_i e4 <;> simp only [e4] <;> exact h
              · exact h.elim
            · exact h.elim
          · cases hc
        · cases hc
      · obtain ⟨ps, h1, h2⟩ := bare_some hc
        cases h2; cases hcls
      · obtain ⟨ps, h1, h2⟩ := bare_some hc
        cases h2; cases hcls
      · cases hc
  | defer c =>
    obtain ⟨callee, args, argTypes⟩ := c
    simp only [compOp, compDefer] at hc
    split at hc
    · rename_i f x
      split at hc
      · rename_i x' ys h1 h2
        cases hc
        simp only [effOp] at h
        split at h
        · rename_i f' first captured vs e1 e2
          exact snd_dfr R h1 e1 h2 e2 h _
        · exact h.elim
      · cases hc
    · cases hc
  | panic x =>
    obtain ⟨y, h1, h2⟩ := bare_some hc
    cases h2
    simp only [effOp] at h
    split at h
    · rename_i t u e1
      exact snd_pnc R h1 e1 h _
    · exact h.elim
  | _ =>
    simp only [compOp] at hc
    (repeat' split at hc) <;> first
      | contradiction
      | (cases hc; done)
      | (cases hc; cases hcls; done)
      | (obtain ⟨y, h1, h2⟩ := bare_some hc; cases h2; cases hcls; done)
      | (obtain ⟨y, h1, h2⟩ := map_some' hc; cases h2; cases hcls; done)

end
end Go.Ago
