/- One operation of a region, whole. Conditions: none. An operation looks at its own operands alone. Conditions: none. What an operation writes. Conditions: none. Two operations that stand in no order may be carried out in either. Conditions: none. Equality that is computed is equality. Conditions: none. A region whose order is drawn: an operation that is ready may come first. Conditions: none. A region in the order of the text. Conditions: none. A region whose order is drawn. Conditions: none. Pieces of code. Conditions: none. Code. Conditions: none. What a function's results come to; deferred calls. Conditions: none. A function's body, and calls in depth. Conditions: none. Calls in depth; a closed function. Conditions: none. Closed runs: the code of a table of functions, and a run that the kernel carries out. Conditions: none. Functions that are told by a contract instead of by their code. Conditions: none. -/
import Derived.Test.YtpajdajecfjnnaaGreatAgoC
import Derived.Test.YtpajdajecfjnnaaGreatAgoA
import Derived.RowKit3
import Derived.KernelRfl
set_option autoImplicit false
set_option linter.unusedSimpArgs false
set_option linter.unusedVariables false
namespace Go.Ago

/-- The guard of an operation, as the region's operations tell it. -/
def guardOf (all : Array Oper) (o : Oper) : Option (Option (Nat × Bool)) :=
  match o.guard with
  | none => some none
  | some (g, want) => match (all[g]?).bind (·.dst) with
    | some d => some (some (d, want))
    | none => none

theorem wp_panic_mono {P : Program} {o : Oper} {a : Act} {w : World} {K : Act → World → Prop} {Q Q' : Exit → Act → World → Prop} (h : ∀ e a' w', Q e a' w' → Q' e a' w') (hh : o.wp P a w K Q) : o.wp P a w K Q' := by
  unfold Oper.wp at *
  generalize (execOp a.eval o).run P w = r at *
  cases r with
  | ok n w' =>
    cases n <;> simp only [Oper.upon] at hh ⊢ <;>
      first
        | exact hh
        | exact Calls.mono hh (fun e w'' he => by
            cases e <;> first
              | exact he
              | exact h _ _ _ he
              | (obtain ⟨a', w', he⟩ := he; exact ⟨a', w', h _ _ _ he⟩))
  | halt x w' => cases x <;> simp only [Oper.upon] at hh ⊢ <;> first | exact h _ _ _ hh | exact hh

section
variable {E : CEnv} {G : Gh} {Lb : Nat → Option Nat} {F : AFrame} {σ : AState} {a : Act} {w : World} {cf : CallF}

theorem wanted_sound (R : Rel E G Lb F σ a w) {all : Array Oper} {o : Oper} {g : Option (Nat × Bool)} {b : Bool} (hg : guardOf all o = some g) (hw : wantedA F g = some b) :
    Region.wanted o (yielded all a.tmps) = b := by
  unfold guardOf at hg
  unfold Region.wanted
  cases ho : o.guard with
  | none =>
    rw [ho] at hg
    cases hg
    simp only [wantedA, Option.some.injEq] at hw
    simpa using hw
  | some p =>
    obtain ⟨j, want⟩ := p
    rw [ho] at hg
    simp only at hg ⊢
    split at hg
    · rename_i d hd
      cases hg
      simp only [wantedA] at hw
      have ht := R.temp d
      unfold yielded
      rw [hd]
      simp only [Option.bind_some]
      generalize hu : F.temp d = u at hw ht
      have hx : ∀ x, a.tmps[d]? = some x → x = a.tmps.getD d undef := fun x hx => by
        rw [Array.getD_eq_getD_getElem?, hx]; rfl
      cases u <;> simp only [reduceCtorEq, Option.some.injEq] at hw
      · rename_i c
        have hv : a.tmps.getD d undef = .bool c := by
          have h := ht
          simp only [TVal, VRel] at h
          exact h
        cases hd2 : a.tmps[d]? with
        | none =>
          rw [Array.getD_eq_getD_getElem?, hd2] at hv
          simp [undef] at hv
        | some x =>
          rw [hx x hd2, hv]
          subst hw
          cases c <;> cases want <;> rfl
      · rename_i vs
        have hv : ∃ y, a.tmps.getD d undef = .tuple y := by
          have h := ht
          simp only [TVal, VRel] at h
          obtain ⟨y, h1, _⟩ := h
          exact ⟨y, h1⟩
        obtain ⟨y, hv⟩ := hv
        subst hw
        cases hd2 : a.tmps[d]? with
        | none => cases want <;> rfl
        | some x =>
          rw [hx x hd2, hv]
          cases want <;> rfl
    · cases hg

/-- What an operation takes for its own. -/
structure Fresh (own : Nat → Prop) (base j k : Nat) (init : List (Nat × AObj)) (G : Gh) (σ : AState) : Prop where
  names : ∀ r, ownOf base j k r → own r ∧ G.obj r = none ∧ G.row r = none ∧ r < σ.next
  init : ∀ p ∈ init, σ.get (base + p.1) = some p.2

/-- One operation, in the world. -/
theorem step_sound (R : Rel E G Lb F σ a w) {G0 : Gh} (C : CallSim E.P G0 cf) (hle : Le G0 G) {all : Array Oper} {i : Nat} {o : Oper} {base j k : Nat} {ao : AOper} {init : List (Nat × AObj)} (ho : all[i]? = some o)
    (hc : compOp E j o = some (ao.op, k, init)) (hdst : ao.dst = o.dst) (hg : guardOf all o = some ao.guard) (hd : dstOk E ao = true) {own : Nat → Prop} (hf : Fresh own base j k init G σ) {Q : Option AVal × AFrame × AState → Prop}
    (h : (stepOp cf base ao F σ).All Q) (QQ : Exit → Act → World → Prop) (hQQ : ∀ e a' w', StepPanic E own G Lb σ w Q e a' w' → QQ e a' w') :
    wpOp E.P all QQ i (StepNext E own G Lb σ w Q) a w := by
  unfold wpOp
  rw [ho]
  simp only
  unfold stepOp at h
  cases hw : wantedA F ao.guard with
  | none => rw [hw] at h; exact h.elim
  | some b =>
    rw [hw] at h
    rw [wanted_sound R hg hw]
    cases b with
    | false =>
      simp only [Bool.false_eq_true, if_false]
      rw [hdst] at h
      exact step_quiet R own vrel_undef h
    | true =>
      simp only [if_true]
      refine .inl ?_
      obtain ⟨adst, ag, aop⟩ := ao
      simp only at hdst hc h hg hd
      subst hdst
      cases hcls : aop.cls with
      | pure =>
        rw [hcls] at h
        simp only at h
        split at h
        · rename_i v hv
          obtain ⟨x, w', h1, h2⟩ := step_pure (own := ownOf base j k) R (pure_sound R hc hcls hv hf.init) (fun r hr => (hf.names r hr).2) h
          refine wp_value h1 ?_
          obtain ⟨G', Lb', F', σ', e1, e2, e3⟩ := h2
          exact ⟨G', Lb', F', σ', e1, e2, e3.mono fun r hr => (hf.names r hr).1⟩
        · exact h.elim
      | loc =>
        rw [hcls] at h
        simp only at h
        split at h
        · rename_i F' hv
          exact loc_sound R hc hcls hd hv own h _
        · exact h.elim
      | read =>
        rw [hcls] at h
        simp only at h
        split at h
        · rename_i v hv
          obtain ⟨x, h1, h2⟩ := read_sound R hc hcls hv
          exact wp_value h1 (step_quiet R own h2 h)
        · exact h.elim
      | eff =>
        rw [hcls] at h
        simp only at h
        rw [Out.all_bind] at h
        have h' : (effOp cf base aop F σ).All (EffPost Q F σ o.dst) := h.mono fun r hr => by
          cases r with
          | val v σ' => exact hr
          | pan v σ' => exact hr
          | dfr d => exact hr
        have := eff_sound R C hle hc hcls hf.names h'
        exact wp_panic_mono hQQ this

end
end Go.Ago

set_option autoImplicit false
set_option linter.unusedSimpArgs false
set_option linter.unusedVariables false
namespace Go.Ago

section
variable {F F' : AFrame}

theorem evals_agree : ∀ {l : List AOpd}, (∀ x ∈ l, F.eval x = F'.eval x) → F.evals l = F'.evals l
  | [], _ => rfl
  | x :: l, h => by
    simp only [AFrame.evals]
    rw [h x (by simp), evals_agree fun y hy => h y (by simp [hy])]

theorem partsEval_agree : ∀ {l : List (Nat × Nat × AOpd)}, (∀ x ∈ l.map (·.2.2), F.eval x = F'.eval x) → partsEval F l = partsEval F' l
  | [], _ => rfl
  | (o, n, x) :: l, h => by
    simp only [partsEval]
    rw [h x (by simp), partsEval_agree fun y hy => h y (by simp only [List.map_cons, List.mem_cons]; exact .inr hy)]

theorem elemsEval_agree {sz : Nat} : ∀ {l : List (Nat × AOpd)}, (∀ x ∈ l.map (·.2), F.eval x = F'.eval x) → elemsEval F sz l = elemsEval F' sz l
  | [], _ => rfl
  | (n, x) :: l, h => by
    simp only [elemsEval]
    rw [h x (by simp), elemsEval_agree fun y hy => h y (by simp only [List.map_cons, List.mem_cons]; exact .inr hy)]

theorem optEval_agree : ∀ {o : Option AOpd}, (∀ x ∈ o.toList, F.eval x = F'.eval x) → optEval F o = optEval F' o
  | none, _ => rfl
  | some x, h => by simp only [optEval]; rw [h x (by simp)]

theorem pureOp_agree {base : Nat} {op : AOp} (h : ∀ x ∈ opdsOf op, F.eval x = F'.eval x) : pureOp base op F = pureOp base op F' := by
  cases op <;> first
    | rfl
    | (simp only [pureOp]; simp only [opdsOf] at h; rw [h _ (by simp)]; done)
    | (simp only [pureOp]; simp only [opdsOf] at h; rw [h _ (List.mem_cons_self ..), h _ (List.mem_cons_of_mem _ (List.mem_cons_self ..))]; done)
    | (simp only [pureOp]; simp only [opdsOf] at h; rw [h _ (List.mem_cons_self ..), h _ (List.mem_cons_of_mem _ (List.mem_cons_self ..)), h _ (List.mem_cons_of_mem _ (List.mem_cons_of_mem _ (List.mem_cons_self ..)))]; done)
    | (simp only [pureOp]; simp only [opdsOf] at h; rw [evals_agree h]; done)
    | (simp only [pureOp]; simp only [opdsOf] at h; rw [partsEval_agree h]; done)
    | (simp only [pureOp]; simp only [opdsOf] at h; rw [elemsEval_agree h]; done)
    | (simp only [pureOp]; simp only [opdsOf] at h; rw [evals_agree fun x hx => h x (List.mem_append_left _ hx), evals_agree fun x hx => h x (List.mem_append_right _ hx)]; done)
    | (simp only [pureOp]; simp only [opdsOf] at h
       rw [h _ (by simp), optEval_agree fun x hx => h x (by simp only [List.mem_append]; exact .inl (.inl (.inr hx))), optEval_agree fun x hx => h x (by simp only [List.mem_append]; exact .inl (.inr hx)),
         optEval_agree fun x hx => h x (by simp only [List.mem_append]; exact .inr hx)]; done)

theorem readMem_agree {σ : AState} {op : AOp} (h : ∀ x ∈ opdsOf op, F.eval x = F'.eval x) : readMem σ op F = readMem σ op F' := by
  cases op <;> first
    | rfl
    | (simp only [readMem]; simp only [opdsOf] at h; rw [h _ (by simp)]; done)
    | (simp only [readMem]; simp only [opdsOf] at h; rw [h _ (List.mem_cons_self ..), h _ (List.mem_cons_of_mem _ (List.mem_cons_self ..))]; done)

theorem effOp_agree {cf : CallF} {base : Nat} {op : AOp} {σ : AState} (h : ∀ x ∈ opdsOf op, F.eval x = F'.eval x) : effOp cf base op F σ = effOp cf base op F' σ := by
  cases op <;> first
    | rfl
    | (simp only [effOp]; simp only [opdsOf] at h; rw [h _ (by simp)]; done)
    | (simp only [effOp]; simp only [opdsOf] at h; rw [h _ (List.mem_cons_self ..), h _ (List.mem_cons_of_mem _ (List.mem_cons_self ..))]; done)
    | (simp only [effOp]; simp only [opdsOf] at h; rw [h _ (List.mem_cons_self ..), h _ (List.mem_cons_of_mem _ (List.mem_cons_self ..)), h _ (List.mem_cons_of_mem _ (List.mem_cons_of_mem _ (List.mem_cons_self ..)))]; done)
    | (simp only [effOp]; simp only [opdsOf] at h; rw [evals_agree h]; done)
    | (simp only [effOp]; simp only [opdsOf] at h; rw [h _ (List.mem_cons_self ..), evals_agree fun x hx => h x (List.mem_cons_of_mem _ hx)]; done)

end
end Go.Ago

set_option autoImplicit false
set_option linter.unusedSimpArgs false
set_option linter.unusedVariables false
namespace Go.Ago

structure Dl where
  ts : List (Nat × AVal)
  ls : List (Nat × List AVal)
  ds : List ADefer

def setTs : TM → List (Nat × AVal) → TM
  | T, [] => T
  | T, (d, v) :: r => setTs (T.set d v) r

def setLs : PM (List AVal) → List (Nat × List AVal) → PM (List AVal)
  | L, [] => L
  | L, (s, c) :: r => setLs (setL L s c) r

def Dl.app (δ : Dl) (F : AFrame) : AFrame := ⟨setTs F.T δ.ts, setLs F.L δ.ls, δ.ds ++ F.D⟩

def dstD (dst : Option Nat) (v : AVal) : Dl := ⟨match dst with | some d => [(d, v)] | none => [], [], []⟩

theorem put_app (F : AFrame) (dst : Option Nat) (v : AVal) : F.put dst v = (dstD dst v).app F := by cases dst <;> rfl

def locD (op : AOp) (d : Option Nat) (F : AFrame) : Option Dl :=
  match op, d with
  | .lalloc zero ds, some s => some ⟨ds.map (fun d => (d, .junk)) ++ [(s, .lptr s 0)], [(s, zero)], []⟩
  | .lbox x ds, some s => match F.eval x with
    | some v => some ⟨ds.map (fun d => (d, .junk)) ++ [(s, .lptr s 0)], [(s, v.cells)], []⟩
    | none => none
  | .lfld s off (.t x), some d => match F.temp x with
    | .lptr s' o => bif Nat.beq s s' then some ⟨[(d, .lptr s (o + off))], [], []⟩ else none
    | _ => none
  | .lld s n g (.t x), some d => match F.temp x with
    | .lptr s' o => bif Nat.beq s s' then match lookL F.L s with
      | some cs => match takeCells cs o n g with
        | some v => some ⟨[(d, v)], [], []⟩
        | none => none
      | none => none
      else none
    | _ => none
  | .lst s n (.t x) v, none => match F.temp x, F.eval v with
    | .lptr s' o, some v => bif Nat.beq s s' && Nat.beq v.cells.length n && v.cells.all wordB then match lookL F.L s with
      | some cs => bif Nat.ble (o + n) cs.length then some ⟨[], [(s, setCells cs o v.cells)], []⟩ else none
      | none => none
      else none
    | _, _ => none
  | _, _ => none

theorem setTs_clear (ds : List Nat) (s : Nat) (v : AVal) : ∀ (T : TM), setTs T (ds.map (fun d => (d, .junk)) ++ [(s, v)]) = (clearT T ds).set s v := by
  induction ds with
  | nil => intro T; rfl
  | cons d ds ih => intro T; simp only [List.map_cons, List.cons_append, setTs, clearT, ih]

theorem locOp_delta (op : AOp) (d : Option Nat) (F : AFrame) : locOp op d F = (locD op d F).map fun δ => δ.app F := by
  cases op with
  | lalloc zero ds =>
    cases d with
    | none => rfl
    | some s => simp [locOp, locD, Dl.app, setTs_clear, setLs]
  | lbox x ds =>
    cases d with
    | none => rfl
    | some s =>
      simp only [locOp, locD]
      cases F.eval x with
      | none => rfl
      | some v => simp [Dl.app, setTs_clear, setLs]
  | lfld s off x =>
    cases x with
    | t n =>
      cases d with
      | none => rfl
      | some d =>
        simp only [locOp, locD]
        cases F.temp n <;> try rfl
        rename_i s' o
        dsimp only
        cases Nat.beq s s' <;> rfl
    | c v => rfl
    | f fn => rfl
  | lld s n g x =>
    cases x with
    | t m =>
      cases d with
      | none => rfl
      | some d =>
        simp only [locOp, locD]
        cases F.temp m <;> try rfl
        rename_i s' o
        dsimp only
        cases Nat.beq s s' with
        | false => rfl
        | true =>
          simp only [cond_true]
          cases lookL F.L s with
          | none => rfl
          | some cs =>
            dsimp only
            cases takeCells cs o n g <;> rfl
    | c v => rfl
    | f fn => rfl
  | lst s n x v =>
    cases x with
    | t m =>
      cases d with
      | some d => rfl
      | none =>
        simp only [locOp, locD]
        cases F.temp m <;> try rfl
        rename_i s' o
        cases F.eval v with
        | none => rfl
        | some u =>
          dsimp only
          cases (Nat.beq s s' && Nat.beq u.cells.length n && u.cells.all wordB) with
          | false => rfl
          | true =>
            simp only [cond_true]
            cases lookL F.L s with
            | none => rfl
            | some cs =>
              dsimp only
              cases Nat.ble (o + n) cs.length <;> rfl
    | c v => rfl
    | f fn => rfl
  | _ => rfl

/-- What a quiet operation writes. -/
def qD (base : Nat) (o : AOper) (F : AFrame) (σ : AState) : Option Dl :=
  match wantedA F o.guard with
  | none => none
  | some false => some (dstD o.dst undefA)
  | some true =>
    match o.op.cls with
    | .pure => (pureOp base o.op F).map (dstD o.dst)
    | .loc => locD o.op o.dst F
    | .read => (readMem σ o.op F).map (dstD o.dst)
    | .eff => none

/-- One operation, as what it writes. -/
def stepD (cf : CallF) (base : Nat) (o : AOper) (F : AFrame) (σ : AState) : Out (Dl × AState) :=
  match o.op.cls with
  | .eff => match wantedA F o.guard with
    | none => .fail
    | some false => .done (dstD o.dst undefA, σ)
    | some true => (effOp cf base o.op F σ).bind fun
      | .val v σ' => .done (dstD o.dst v, σ')
      | .pan _ _ => .fail
      | .dfr d => .done (⟨(dstD o.dst undefA).ts, [], [d]⟩, σ)
  | _ => match qD base o F σ with
    | some δ => .done (δ, σ)
    | none => .fail

/-- .. which is what it does, unless it panics. -/
theorem step_iff {cf : CallF} {base : Nat} {o : AOper} {F : AFrame} {σ : AState} {Q : AFrame → AState → Prop} :
    ((stepOp cf base o F σ).All fun r => r.1 = none ∧ Q r.2.1 r.2.2) ↔ (stepD cf base o F σ).All fun r => Q (r.1.app F) r.2 := by
  unfold stepOp stepD qD
  cases hw : wantedA F o.guard with
  | none => cases o.op.cls <;> exact Iff.rfl
  | some b =>
    cases b with
    | false => cases o.op.cls <;> (simp only [Out.All, put_app]; simp)
    | true =>
      simp only
      cases hcls : o.op.cls with
      | pure =>
        simp only
        cases pureOp base o.op F with
        | none => exact Iff.rfl
        | some v => simp [Out.All, put_app]
      | loc =>
        simp only
        rw [locOp_delta]
        cases locD o.op o.dst F with
        | none => exact Iff.rfl
        | some δ => simp [Out.All]
      | read =>
        simp only
        cases readMem σ o.op F with
        | none => exact Iff.rfl
        | some v => simp [Out.All, put_app]
      | eff =>
        simp only
        rw [Out.all_bind, Out.all_bind]
        have hall : ∀ {A B : AEff → Prop} {x : Out AEff}, (∀ r, A r ↔ B r) → (x.All A ↔ x.All B) := fun h => ⟨fun y => y.mono fun r hr => (h r).1 hr, fun y => y.mono fun r hr => (h r).2 hr⟩
        apply hall
        intro r
        cases r with
        | val v σ' => simp [Out.All, put_app]
        | pan v σ' => simp [Out.All]
        | dfr d =>
          simp only [Out.All, put_app, true_and]
          cases o.dst <;> exact Iff.rfl

/-! ## Agreement -/

def Agree (rs : List Nat) (F F' : AFrame) : Prop := (∀ t, 2 * t ∈ rs → F.temp t = F'.temp t) ∧ (∀ s, 2 * s + 1 ∈ rs → lookL F.L s = lookL F'.L s)

section
variable {F F' : AFrame} {o : AOper}

theorem Agree.temps (h : Agree (regsRead o) F F') : ∀ x ∈ opdsOf o.op, ∀ n, x = .t n → F.temp n = F'.temp n := by
  intro x hx n hn
  subst hn
  refine h.1 n ?_
  unfold regsRead
  refine List.mem_append_left _ (List.mem_append_left _ (List.mem_map.2 ⟨n, ?_, rfl⟩))
  exact List.mem_flatMap.2 ⟨_, hx, by simp [slotsOfOpd]⟩

theorem eval_temp {x : AOpd} (h : ∀ n, x = .t n → F.temp n = F'.temp n) : F.eval x = F'.eval x := by
  cases x with
  | t n => simp only [AFrame.eval]; rw [h n rfl]
  | c v => rfl
  | f fn => rfl

theorem Agree.evals (h : Agree (regsRead o) F F') : ∀ x ∈ opdsOf o.op, F.eval x = F'.eval x := fun x hx => eval_temp (h.temps x hx)

theorem Agree.wanted (h : Agree (regsRead o) F F') : wantedA F o.guard = wantedA F' o.guard := by
  cases hg : o.guard with
  | none => rfl
  | some p =>
    obtain ⟨g, want⟩ := p
    simp only [wantedA]
    rw [h.1 g]
    unfold regsRead
    refine List.mem_append_left _ (List.mem_append_right _ ?_)
    simp [hg]

theorem Agree.loc (h : Agree (regsRead o) F F') (d : Option Nat) : locD o.op d F = locD o.op d F' := by
  obtain ⟨dst, guard, op⟩ := o
  have ht := h.temps
  have he := h.evals
  have hl := h.2
  cases op with
  | lalloc z ds => cases d <;> rfl
  | lbox x ds =>
    cases d with
    | none => rfl
    | some s =>
      simp only [locD]
      rw [he x (by simp [opdsOf])]
  | lfld s off x =>
    cases x with
    | t n =>
      cases d with
      | none => rfl
      | some d =>
        simp only [locD]
        rw [ht (.t n) (by simp [opdsOf]) n rfl]
    | c v => rfl
    | f fn => rfl
  | lld s n g x =>
    cases x with
    | t m =>
      cases d with
      | none => rfl
      | some d =>
        simp only [locD]
        rw [ht (.t m) (by simp [opdsOf]) m rfl, hl s (by simp [regsRead])]
    | c v => rfl
    | f fn => rfl
  | lst s n x v =>
    cases x with
    | t m =>
      cases d with
      | some d => rfl
      | none =>
        simp only [locD]
        rw [ht (.t m) (by simp [opdsOf]) m rfl, hl s (by simp [regsRead]), he v (by simp [opdsOf])]
    | c v => rfl
    | f fn => rfl
  | _ => rfl

theorem Agree.quiet (h : Agree (regsRead o) F F') (base : Nat) (σ : AState) : qD base o F σ = qD base o F' σ := by
  unfold qD
  rw [h.wanted]
  split
  · rfl
  · rfl
  · split
    · rw [pureOp_agree h.evals]
    · exact h.loc _
    · rw [readMem_agree h.evals]
    · rfl

theorem Agree.step (h : Agree (regsRead o) F F') (cf : CallF) (base : Nat) (σ : AState) : stepD cf base o F σ = stepD cf base o F' σ := by
  unfold stepD
  split
  · rw [h.wanted]
    split
    · rfl
    · rfl
    · rw [effOp_agree h.evals]
  · rw [h.quiet]

/-! ## Writes -/

/-- The registers that a change writes. -/
def Dl.In (δ : Dl) (rs : List Nat) : Prop := (∀ p ∈ δ.ts, 2 * p.1 ∈ rs) ∧ (∀ p ∈ δ.ls, 2 * p.1 + 1 ∈ rs)

theorem dstD_in (o : AOper) (v : AVal) : (dstD o.dst v).In (regsWritten o) := by
  refine ⟨fun p hp => ?_, fun p hp => by simp [dstD] at hp⟩
  unfold dstD at hp
  cases hd : o.dst with
  | none => rw [hd] at hp; simp at hp
  | some d =>
    rw [hd] at hp
    simp only [List.mem_singleton] at hp
    subst hp
    simp [regsWritten, hd]

theorem locD_in {δ : Dl} (h : locD o.op o.dst F = some δ) : δ.In (regsWritten o) ∧ δ.ds = [] := by
  obtain ⟨dst, guard, op⟩ := o
  simp only at h
  unfold locD at h
  split at h
  · cases h
    refine ⟨⟨fun p hp => ?_, fun p hp => ?_⟩, rfl⟩
    · simp only [List.mem_append, List.mem_map, List.mem_singleton] at hp
      rcases hp with ⟨d, h1, rfl⟩ | rfl
      · simp only [regsWritten, List.mem_append, List.mem_cons, List.mem_map]
        exact .inr (.inr ⟨d, h1, rfl⟩)
      · simp [regsWritten]
    · simp only [List.mem_singleton] at hp
      subst hp
      simp [regsWritten]
  · split at h
    · cases h
      refine ⟨⟨fun p hp => ?_, fun p hp => ?_⟩, rfl⟩
      · simp only [List.mem_append, List.mem_map, List.mem_singleton] at hp
        rcases hp with ⟨d, h1, rfl⟩ | rfl
        · simp only [regsWritten, List.mem_append, List.mem_cons, List.mem_map]
          exact .inr (.inr ⟨d, h1, rfl⟩)
        · simp [regsWritten]
      · simp only [List.mem_singleton] at hp
        subst hp
        simp [regsWritten]
    · cases h
  · split at h
    · rename_i s off x d u0 s' o _
      cases hb : Nat.beq s s' with
      | false => rw [hb] at h; cases h
      | true =>
        rw [hb] at h
        cases h
        refine ⟨⟨fun p hp => ?_, fun p hp => by simp at hp⟩, rfl⟩
        simp only [List.mem_singleton] at hp
        subst hp
        simp [regsWritten]
    · cases h
  · split at h
    · rename_i s n g x d u0 s' o _
      cases hb : Nat.beq s s' with
      | false => rw [hb] at h; cases h
      | true =>
        rw [hb] at h
        simp only [cond_true] at h
        split at h
        · split at h
          · cases h
            refine ⟨⟨fun p hp => ?_, fun p hp => by simp at hp⟩, rfl⟩
            simp only [List.mem_singleton] at hp
            subst hp
            simp [regsWritten]
          · cases h
        · cases h
    · cases h
  · split at h
    · rename_i s n x v u0 u1 s' o u _ _
      cases hb : (Nat.beq s s' && Nat.beq u.cells.length n && u.cells.all wordB) with
      | false => rw [hb] at h; cases h
      | true =>
        rw [hb] at h
        simp only [cond_true] at h
        split at h
        · rename_i cs _
          cases hb2 : Nat.ble (o + n) cs.length with
          | false => rw [hb2] at h; cases h
          | true =>
            rw [hb2] at h
            cases h
            refine ⟨⟨fun p hp => by simp at hp, fun p hp => ?_⟩, rfl⟩
            simp only [List.mem_singleton] at hp
            subst hp
            simp [regsWritten]
        · cases h
    · cases h
  · cases h

theorem qD_in {base : Nat} {σ : AState} {δ : Dl} (h : qD base o F σ = some δ) : δ.In (regsWritten o) ∧ δ.ds = [] := by
  unfold qD at h
  split at h
  · cases h
  · cases h; exact ⟨dstD_in o _, rfl⟩
  · split at h
    · cases hp : pureOp base o.op F with
      | none => rw [hp] at h; cases h
      | some v => rw [hp] at h; cases h; exact ⟨dstD_in o _, rfl⟩
    · exact locD_in h
    · cases hp : readMem σ o.op F with
      | none => rw [hp] at h; cases h
      | some v => rw [hp] at h; cases h; exact ⟨dstD_in o _, rfl⟩
    · cases h

end
end Go.Ago

set_option autoImplicit false
set_option linter.unusedSimpArgs false
set_option linter.unusedVariables false
namespace Go.Ago

theorem meets_false {a b : List Nat} (h : meets a b = false) : ∀ x ∈ a, x ∉ b := by
  intro x hx hb
  unfold meets at h
  rw [List.any_eq_false] at h
  have := h x hx
  simp at this
  exact this hb

theorem clash_false {x y : AOper} (h : clash x y = false) :
    (∀ r ∈ regsWritten x, r ∉ regsRead y) ∧ (∀ r ∈ regsWritten x, r ∉ regsWritten y) ∧ (∀ r ∈ regsWritten y, r ∉ regsRead x) := by
  unfold clash at h
  simp only [Bool.or_eq_false_iff] at h
  exact ⟨meets_false h.1.1, meets_false h.1.2, fun r h1 h2 => meets_false h.2 r h2 h1⟩

theorem setTs_temp : ∀ (ts : List (Nat × AVal)) (T : TM) (t : Nat), (∀ p ∈ ts, p.1 ≠ t) → (setTs T ts).temp t = T.temp t
  | [], _, _, _ => rfl
  | (k, v) :: ts, T, t, h => by
    simp only [setTs]
    rw [setTs_temp ts _ t fun p hp => h p (by simp [hp])]
    rw [TM.temp_eq, TM.temp_eq, TM.get_set_ne _ _ (h (k, v) (by simp))]

theorem setLs_look : ∀ (ls : List (Nat × List AVal)) (L : PM (List AVal)) (s : Nat), (∀ p ∈ ls, p.1 ≠ s) → lookL (setLs L ls) s = lookL L s
  | [], _, _, _ => rfl
  | (k, c) :: ls, L, s, h => by
    simp only [setLs]
    rw [setLs_look ls _ s fun p hp => h p (by simp [hp])]
    simp only [lookL, setL]
    rw [PM.get_set_other _ _ _ _ (Ne.symm (h (k, c) (by simp)))]

theorem agree_app {δ : Dl} {ws rs : List Nat} (hin : δ.In ws) (h : ∀ r ∈ ws, r ∉ rs) (F : AFrame) : Agree rs F (δ.app F) := by
  refine ⟨fun t ht => ?_, fun s hs => ?_⟩
  · unfold AFrame.temp Dl.app
    rw [setTs_temp]
    intro p hp he
    exact h _ (hin.1 p hp) (he ▸ ht)
  · unfold Dl.app
    rw [setLs_look]
    intro p hp he
    exact h _ (hin.2 p hp) (he ▸ hs)

theorem setTs_set : ∀ (ts : List (Nat × AVal)) (T : TM) (t : Nat) (v : AVal), (∀ p ∈ ts, p.1 ≠ t) → setTs (T.set t v) ts = (setTs T ts).set t v
  | [], _, _, _, _ => rfl
  | (k, u) :: ts, T, t, v, h => by
    simp only [setTs]
    rw [TM.set_comm _ _ _ (Ne.symm (h (k, u) (by simp)))]
    exact setTs_set ts _ t v fun p hp => h p (by simp [hp])

theorem setTs_comm : ∀ (as bs : List (Nat × AVal)) (T : TM), (∀ p ∈ as, ∀ q ∈ bs, p.1 ≠ q.1) → setTs (setTs T as) bs = setTs (setTs T bs) as
  | [], _, _, _ => rfl
  | (k, u) :: as, bs, T, h => by
    simp only [setTs]
    rw [setTs_comm as bs _ fun p hp q hq => h p (by simp [hp]) q hq]
    rw [setTs_set bs T k u fun q hq => Ne.symm (h (k, u) (by simp) q hq)]

theorem setLs_set : ∀ (ts : List (Nat × List AVal)) (T : PM (List AVal)) (t : Nat) (v : List AVal), (∀ p ∈ ts, p.1 ≠ t) → setLs (setL T t v) ts = setL (setLs T ts) t v
  | [], _, _, _, _ => rfl
  | (k, u) :: ts, T, t, v, h => by
    simp only [setLs]
    have hc : setL (setL T t v) k u = setL (setL T k u) t v := PM.set_comm T u v (h (k, u) (by simp))
    rw [hc]
    exact setLs_set ts _ t v fun p hp => h p (by simp [hp])

theorem setLs_comm : ∀ (as bs : List (Nat × List AVal)) (T : PM (List AVal)), (∀ p ∈ as, ∀ q ∈ bs, p.1 ≠ q.1) → setLs (setLs T as) bs = setLs (setLs T bs) as
  | [], _, _, _ => rfl
  | (k, u) :: as, bs, T, h => by
    simp only [setLs]
    rw [setLs_comm as bs _ fun p hp q hq => h p (by simp [hp]) q hq]
    rw [setLs_set bs T k u fun q hq => Ne.symm (h (k, u) (by simp) q hq)]

theorem app_comm {δ δ' : Dl} {ws ws' : List Nat} (h1 : δ.In ws) (h2 : δ'.In ws') (h : ∀ r ∈ ws, r ∉ ws') (hd : δ.ds = [] ∨ δ'.ds = []) (F : AFrame) : δ'.app (δ.app F) = δ.app (δ'.app F) := by
  unfold Dl.app
  simp only
  rw [setTs_comm δ.ts δ'.ts F.T fun p hp q hq he => h _ (h1.1 p hp) (by rw [he]; exact h2.1 q hq), setLs_comm δ.ls δ'.ls F.L fun p hp q hq he => h _ (h1.2 p hp) (by rw [he]; exact h2.2 q hq)]
  rcases hd with hd | hd <;> simp [hd]

/-! ## What is noted -/

theorem compat_symm (a b : HEnt) : compat a b = compat b a := by
  cases a <;> cases b <;> first
    | rfl
    | (simp only [compat]; congr 1
       rename_i r s
       cases h : Nat.beq r s with
       | true => have := Nat.eq_of_beq_eq_true h; subst this; simp
       | false =>
         cases h2 : Nat.beq s r with
         | false => rfl
         | true => have := Nat.eq_of_beq_eq_true h2; subst this; simp at h)

def noteE (vs : List Nat) (i : Nat) (e : Option HEnt) (H : Hist) : Option Hist :=
  match vs with
  | [] => some H
  | vs => match e with
    | some e => bif chk H e vs then some (H.rec i e) else none
    | none => none

theorem note_eq (d : DOp) (F : AFrame) (σ σ' : AState) (H : Hist) : note d F σ σ' H = noteE d.vs d.idx (entOf d F σ σ') H := by
  unfold note noteE
  cases d.vs <;> rfl

theorem rec_same (H : Hist) (i : Nat) (e : HEnt) : (H.rec i e) i = some e := by simp [Hist.rec]
theorem rec_other (H : Hist) {i j : Nat} (e : HEnt) (h : j ≠ i) : (H.rec i e) j = H j := by
  have : Nat.beq j i = false := PM.beq_no h
  simp [Hist.rec, this]

theorem rec_comm (H : Hist) {i j : Nat} (a b : HEnt) (h : i ≠ j) : (H.rec i a).rec j b = (H.rec j b).rec i a := by
  funext k
  by_cases h1 : k = i
  · subst h1
    rw [rec_same, rec_other _ _ h, rec_same]
  · by_cases h2 : k = j
    · subst h2
      rw [rec_same, rec_other _ _ h1, rec_same]
    · rw [rec_other _ _ h2, rec_other _ _ h1, rec_other _ _ h1, rec_other _ _ h2]

theorem noteE_some {vs : List Nat} {i : Nat} {e : Option HEnt} {H H' : Hist} (h : noteE vs i e H = some H') : (vs = [] ∧ H' = H) ∨ (vs ≠ [] ∧ ∃ a, e = some a ∧ chk H a vs = true ∧ H' = H.rec i a) := by
  unfold noteE at h
  split at h
  · cases h; exact .inl ⟨rfl, rfl⟩
  · rename_i hne
    split at h
    · rename_i a
      cases hc : chk H a vs with
      | false => rw [hc] at h; cases h
      | true => rw [hc] at h; cases h; exact .inr ⟨hne, a, rfl, hc, rfl⟩
    · cases h

theorem noteE_of {vs : List Nat} {i : Nat} {a : HEnt} {H : Hist} (hne : vs ≠ []) (hc : chk H a vs = true) : noteE vs i (some a) H = some (H.rec i a) := by
  unfold noteE
  cases vs with
  | nil => exact absurd rfl hne
  | cons x l => simp [hc]

theorem noteE_nil {i : Nat} {e : Option HEnt} {H : Hist} : noteE [] i e H = some H := rfl

theorem chk_iff {H : Hist} {a : HEnt} {vs : List Nat} : chk H a vs = true ↔ ∀ j ∈ vs, ∀ e, H j = some e → compat a e = true := by
  unfold chk
  rw [List.all_eq_true]
  constructor
  · intro h j hj e he
    have := h j hj
    rw [he] at this
    exact this
  · intro h j hj
    cases he : H j with
    | none => rfl
    | some e => exact h j hj e he

/-- Notes may be taken in either order. -/
theorem noteE_swap {vs us : List Nat} {i j : Nat} {e f : Option HEnt} {H H1 H2 : Hist} (hij : i ≠ j) (hs : vs.contains j = us.contains i) (hi : H i = none) (hj : H j = none)
    (h1 : noteE vs i e H = some H1) (h2 : noteE us j f H1 = some H2) : ∃ H', noteE us j f H = some H' ∧ noteE vs i e H' = some H2 := by
  rcases noteE_some h1 with ⟨rfl, rfl⟩ | ⟨hv, a, rfl, ca, rfl⟩
  · exact ⟨H2, h2, noteE_nil⟩
  · rcases noteE_some h2 with ⟨rfl, rfl⟩ | ⟨hu, b, rfl, cb, rfl⟩
    · exact ⟨H, noteE_nil, h1⟩
    · rw [chk_iff] at ca cb
      have c1 : chk H b us = true := chk_iff.2 fun k hk e he => by
        by_cases hki : k = i
        · subst hki; rw [hi] at he; cases he
        · exact cb k hk e (by rw [rec_other _ _ hki]; exact he)
      have c2 : chk (H.rec j b) a vs = true := chk_iff.2 fun k hk e he => by
        by_cases hkj : k = j
        · subst hkj
          rw [rec_same] at he
          cases he
          have : i ∈ us := by
            have h3 : vs.contains k = true := by simpa using hk
            rw [hs] at h3
            simpa using h3
          rw [compat_symm]
          exact cb i this a (rec_same ..)
        · rw [rec_other _ _ hkj] at he
          exact ca k hk e he
      exact ⟨_, noteE_of hu c1, by rw [noteE_of hv c2, rec_comm H a b hij]⟩

/-- Two that look at one another have looked. -/
theorem noteE_compat {vs us : List Nat} {i j : Nat} {a : HEnt} {f : Option HEnt} {H H1 H2 : Hist} (hv : j ∈ vs) (hu : i ∈ us) (h1 : noteE vs i (some a) H = some H1) (h2 : noteE us j f H1 = some H2) :
    ∃ b, f = some b ∧ compat b a = true := by
  rcases noteE_some h1 with ⟨rfl, rfl⟩ | ⟨_, a', ha, ca, rfl⟩
  · simp at hv
  · cases ha
    rcases noteE_some h2 with ⟨rfl, rfl⟩ | ⟨_, b, rfl, cb, rfl⟩
    · simp at hu
    · exact ⟨b, rfl, chk_iff.1 cb i hu a (rec_same ..)⟩

end Go.Ago

set_option autoImplicit false
set_option linter.unusedSimpArgs false
set_option linter.unusedVariables false
namespace Go.Ago

theorem bytes_eq {s t : ByteArray} (h : s.data.toList = t.data.toList) : s = t := by
  cases s; cases t
  simp only [ByteArray.mk.injEq]
  exact Array.ext' h

mutual
theorem AVal.beq_eq : ∀ (a b : AVal), a.beq b = true → a = b
  | .bool _, b, h => by cases b <;> simp [AVal.beq] at h; subst h; rfl
  | .int _ _, b, h => by cases b <;> simp [AVal.beq] at h; obtain ⟨rfl, rfl⟩ := h; rfl
  | .str s, b, h => by
    cases b <;> simp only [AVal.beq, Bool.false_eq_true, decide_eq_true_eq] at h
    rw [bytes_eq h]
  | .nilptr, b, h => by cases b <;> simp [AVal.beq] at h; rfl
  | .ptr _ _, b, h => by cases b <;> simp [AVal.beq] at h; obtain ⟨rfl, rfl⟩ := h; rfl
  | .lptr _ _, b, h => by cases b <;> simp [AVal.beq] at h; obtain ⟨rfl, rfl⟩ := h; rfl
  | .cptr as, b, h => by
    cases b <;> simp only [AVal.beq, Bool.false_eq_true] at h
    rw [AVal.beqs_eq _ _ h]
  | .rptr _ _ _, b, h => by cases b <;> simp [AVal.beq] at h; obtain ⟨⟨rfl, rfl⟩, rfl⟩ := h; rfl
  | .slice as s, b, h => by
    cases b <;> simp only [AVal.beq, Bool.false_eq_true, Bool.and_eq_true, decide_eq_true_eq] at h
    rw [AVal.beqs_eq _ _ h.1, h.2]
  | .slc _ _ _ _ _, b, h => by cases b <;> simp [AVal.beq] at h; obtain ⟨⟨⟨⟨rfl, rfl⟩, rfl⟩, rfl⟩, rfl⟩ := h; rfl
  | .map _, b, h => by cases b <;> simp [AVal.beq] at h; subst h; rfl
  | .func f as bs, b, h => by
    cases b <;> simp only [AVal.beq, Bool.false_eq_true, Bool.and_eq_true] at h
    rw [Nat.eq_of_beq_eq_true h.1.1, AVal.beqs_eq _ _ h.1.2, AVal.beqs_eq _ _ h.2]
  | .nilfunc, b, h => by cases b <;> simp [AVal.beq] at h; rfl
  | .iface t v, b, h => by
    cases b <;> simp only [AVal.beq, Bool.false_eq_true, Bool.and_eq_true] at h
    rw [Nat.eq_of_beq_eq_true h.1, AVal.beq_eq _ _ h.2]
  | .niliface, b, h => by cases b <;> simp [AVal.beq] at h; rfl
  | .agg as, b, h => by
    cases b <;> simp only [AVal.beq, Bool.false_eq_true] at h
    rw [AVal.beqs_eq _ _ h]
  | .tuple as, b, h => by
    cases b <;> simp only [AVal.beq, Bool.false_eq_true] at h
    rw [AVal.beqs_eq _ _ h]
  | .junk, b, h => by cases b <;> simp [AVal.beq] at h; rfl
theorem AVal.beqs_eq : ∀ (l m : List AVal), AVal.beqs l m = true → l = m
  | [], m, h => by cases m <;> simp [AVal.beqs] at h; rfl
  | a :: l, m, h => by
    cases m with
    | nil => simp [AVal.beqs] at h
    | cons b m =>
      simp only [AVal.beqs, Bool.and_eq_true] at h
      rw [AVal.beq_eq _ _ h.1, AVal.beqs_eq _ _ h.2]
end

theorem sameRead_eq {a b : Option AVal} (h : sameRead a b = true) : a = b := by
  unfold sameRead at h
  split at h
  · rw [AVal.beq_eq _ _ h]
  · cases h

end Go.Ago

set_option autoImplicit false
set_option linter.unusedSimpArgs false
set_option linter.unusedVariables false
namespace Go.Ago

def AllD (cf : CallF) (base : Nat) : List DOp → AFrame → AState → Hist → (AFrame → AState → Prop) → Prop
  | [], F, σ, _, Q => Q F σ
  | d :: r, F, σ, H, Q => (stepD cf base d.o F σ).All fun p => ∃ H', note d F σ p.2 H = some H' ∧ AllD cf base r (p.1.app F) p.2 H' Q

section
variable {cf : CallF} {base : Nat}

theorem allD_of_steps : ∀ {ops : List DOp} {F : AFrame} {σ : AState} {H : Hist} {Q : AExit × AFrame × AState → Prop}, (stepOpsD cf base ops F σ H).All Q → AllD cf base ops F σ H fun F σ => Q (.normal, F, σ)
  | [], _, _, _, _, h => h
  | d :: r, F, σ, H, Q, h => by
    simp only [stepOpsD] at h
    rw [Out.all_bind] at h
    simp only [AllD]
    rw [← step_iff (Q := fun F' σ' => ∃ H', note d F σ σ' H = some H' ∧ AllD cf base r F' σ' H' fun F σ => Q (.normal, F, σ))]
    refine h.mono fun p hp => ?_
    obtain ⟨v, F', σ'⟩ := p
    cases v with
    | some v => exact hp.elim
    | none =>
      refine ⟨rfl, ?_⟩
      simp only at hp ⊢
      cases hn : note d F σ σ' H with
      | none => rw [hn] at hp; exact hp.elim
      | some H' =>
        rw [hn] at hp
        exact ⟨H', rfl, allD_of_steps hp⟩

/-- What an operation of no effect comes to. -/
theorem stepD_quiet {o : AOper} (h : o.op.cls ≠ .eff) (F : AFrame) (σ : AState) : stepD cf base o F σ = match qD base o F σ with
    | some δ => .done (δ, σ)
    | none => .fail := by
  unfold stepD
  split
  · rename_i hc; exact absurd hc h
  · rfl

theorem stepD_info {o : AOper} {F : AFrame} {σ : AState} {T : Dl × AState → Prop} (h : (stepD cf base o F σ).All T) :
    (stepD cf base o F σ).All fun p => T p ∧ p.1.In (regsWritten o) ∧ (o.op.cls ≠ .eff → qD base o F σ = some p.1 ∧ p.2 = σ ∧ p.1.ds = []) ∧ (wantedA F o.guard = some false → p.2 = σ) := by
  by_cases hc : o.op.cls = .eff
  · unfold stepD at h ⊢
    rw [hc] at h ⊢
    simp only at h ⊢
    cases hw : wantedA F o.guard with
    | none => rw [hw] at h; exact h.elim
    | some b =>
      rw [hw] at h
      cases b with
      | false => exact ⟨h, dstD_in o _, fun hn => absurd rfl hn, fun _ => rfl⟩
      | true =>
        simp only at h ⊢
        rw [Out.all_bind] at h ⊢
        refine h.mono fun r hr => ?_
        cases r with
        | val v σ' => exact ⟨hr, dstD_in o _, fun hn => absurd rfl hn, fun hf => by cases hf⟩
        | pan v σ' => exact hr.elim
        | dfr d => exact ⟨hr, ⟨(dstD_in o undefA).1, fun p hp => by simp at hp⟩, fun hn => absurd rfl hn, fun hf => by cases hf⟩
  · rw [stepD_quiet hc] at h ⊢
    cases hq : qD base o F σ with
    | none => rw [hq] at h; exact h.elim
    | some δ =>
      rw [hq] at h
      exact ⟨h, (qD_in hq).1, fun _ => ⟨rfl, rfl, (qD_in hq).2⟩, fun _ => rfl⟩

theorem entOf_agree {d : DOp} {F F' : AFrame} (h : Agree (regsRead d.o) F F') (σ σ' : AState) : entOf d F σ σ' = entOf d F' σ σ' := by
  unfold entOf
  rw [h.wanted]
  split
  · rfl
  · rfl
  · cases hs : d.stst with
    | true =>
      simp only [cond_true]
      cases hop : d.o.op <;> try rfl
      rename_i n x v
      simp only
      rw [h.evals x (by rw [hop]; simp [opdsOf]), h.evals v (by rw [hop]; simp [opdsOf])]
    | false =>
      simp only [cond_false]
      split
      · congr 2
        funext τ
        exact readMem_agree h.evals
      · rfl
      · rfl

theorem entOf_quiet {d : DOp} (hc : d.o.op.cls ≠ .eff) (hs : d.stst = false) (F : AFrame) (σ σ' τ τ' : AState) : entOf d F σ σ' = entOf d F τ τ' := by
  unfold entOf
  split
  · rfl
  · rfl
  · rw [hs]
    simp only [cond_false]
    split
    · rfl
    · rename_i hcls; exact absurd hcls hc
    · rfl

/-- What stands in no order. -/
structure Indep (x y : DOp) : Prop where
  idx : x.idx ≠ y.idx
  clash : clash x.o y.o = false
  vs : x.vs.contains y.idx = y.vs.contains x.idx
  stx : x.stst = true → isSt x.o.op = true
  sty : y.stst = true → isSt y.o.op = true
  eff : x.o.op.cls = .eff → y.o.op.cls = .eff → x.stst = true ∧ y.stst = true ∧ y.idx ∈ x.vs ∧ x.idx ∈ y.vs
  readEff : x.o.op.cls = .read → y.o.op.cls = .eff → y.stst = false ∧ y.idx ∈ x.vs ∧ x.idx ∈ y.vs
  effRead : x.o.op.cls = .eff → y.o.op.cls = .read → x.stst = false ∧ y.idx ∈ x.vs ∧ x.idx ∈ y.vs

theorem isSt_eff {op : AOp} (h : isSt op = true) : op.cls = .eff := by
  cases op <;> simp [isSt] at h
  rfl

theorem stst_false {d : DOp} (hs : d.stst = true → isSt d.o.op = true) (hc : d.o.op.cls ≠ .eff) : d.stst = false := by
  cases h : d.stst with
  | false => rfl
  | true => exact absurd (isSt_eff (hs h)) hc

/-- A quiet operation beside an effect that it has been compared with comes to the same. -/
theorem qD_moves {x : DOp} {F : AFrame} {σ τ : AState} {δ : Dl} (hq : qD base x.o F σ = some δ) (hr : x.o.op.cls = .read → wantedA F x.o.guard = some true → readMem σ x.o.op F = readMem τ x.o.op F) : qD base x.o F τ = some δ := by
  unfold qD at hq ⊢
  split at hq
  · cases hq
  · exact hq
  · rename_i hw
    split at hq
    · exact hq
    · exact hq
    · rename_i hc
      rw [← hr hc hw]; exact hq
    · cases hq

/-- .. which the notes tell. -/
theorem read_moves {x i : DOp} {F : AFrame} {σ σ' : AState} (hx : x.o.op.cls = .read) (hi : i.o.op.cls = .eff) (hsx : x.stst = false) (hsi : i.stst = false) (h : (wantedA F i.o.guard = some false → σ' = σ))
    {a b : HEnt} (ha : entOf x F σ σ = some a) (hb : entOf i F σ σ' = some b) (hc : compat b a = true) (hw : wantedA F x.o.guard = some true) : readMem σ x.o.op F = readMem σ' x.o.op F := by
  unfold entOf at ha hb
  rw [hw] at ha
  simp only [hsx, cond_false, hx, Option.some.injEq] at ha
  subst ha
  cases hwi : wantedA F i.o.guard with
  | none => rw [hwi] at hb; cases hb
  | some v =>
    cases v with
    | false => rw [h hwi]
    | true =>
      rw [hwi] at hb
      simp only [hsi, cond_false, hi, Option.some.injEq] at hb
      subst hb
      exact sameRead_eq hc

/-! ## Stores beside stores -/

/-- What a store comes to. -/
def stD (o : AOper) (F : AFrame) (σ : AState) : Option AState :=
  match wantedA F o.guard with
  | none => none
  | some false => some σ
  | some true => match o.op with
    | .st n x v => match F.eval x, F.eval v with
      | some p, some v => storeTo σ n p v
      | _, _ => none
    | _ => none

theorem stepD_st {o : AOper} (h : isSt o.op = true) (F : AFrame) (σ : AState) : stepD cf base o F σ = match stD o F σ with
    | some σ' => .done (dstD o.dst undefA, σ')
    | none => .fail := by
  obtain ⟨dst, guard, op⟩ := o
  cases op <;> simp [isSt] at h
  rename_i n x v
  unfold stepD stD
  simp only [AOp.cls]
  cases wantedA F guard with
  | none => rfl
  | some b =>
    cases b with
    | false => rfl
    | true =>
      simp only [effOp]
      cases F.eval x with
      | none => rfl
      | some p =>
        cases F.eval v with
        | none => rfl
        | some u =>
          simp only
          cases storeTo σ n p u <;> rfl

mutual
theorem frz_free {σ τ : AState} : ∀ (v : AVal) (top : Bool), rowsOf v = [] → frz σ top v = frz τ top v
  | .slc r _ _ _ _, _, h => by simp [rowsOf] at h
  | .agg cs, _, h => by
    simp only [rowsOf] at h
    simp only [frz]
    rw [frzs_free cs h]
  | .tuple cs, _, h => by
    simp only [rowsOf] at h
    simp only [frz]
    rw [frzTop_free cs h]
  | .iface t v, _, h => by
    simp only [rowsOf] at h
    simp only [frz]
    rw [frz_free v false h]
  | .slice es tok, _, h => by cases tok <;> simp only [frz]
  | .bool _, _, _ => by simp only [frz]
  | .int _ _, _, _ => by simp only [frz]
  | .str _, _, _ => by simp only [frz]
  | .nilptr, _, _ => by simp only [frz]
  | .ptr _ _, _, _ => by simp only [frz]
  | .lptr _ _, _, _ => by simp only [frz]
  | .cptr _, _, _ => by simp only [frz]
  | .rptr _ _ _, _, _ => by simp only [frz]
  | .map _, _, _ => by simp only [frz]
  | .func _ _ _, _, _ => by simp only [frz]
  | .nilfunc, _, _ => by simp only [frz]
  | .niliface, _, _ => by simp only [frz]
  | .junk, _, _ => by simp only [frz]
theorem frzs_free {σ τ : AState} : ∀ (l : List AVal), rowsOfs l = [] → frzs σ l = frzs τ l
  | [], _ => by simp only [frzs]
  | v :: r, h => by
    simp only [rowsOfs, List.append_eq_nil_iff] at h
    simp only [frzs]
    rw [frz_free v false h.1, frzs_free r h.2]
theorem frzTop_free {σ τ : AState} : ∀ (l : List AVal), rowsOfs l = [] → frzTop σ l = frzTop τ l
  | [], _ => by simp only [frzTop]
  | v :: r, h => by
    simp only [rowsOfs, List.append_eq_nil_iff] at h
    simp only [frzTop]
    rw [frz_free v true h.1, frzTop_free r h.2]
end

theorem storeTo_at {σ σ' : AState} {n r : Nat} {p v : AVal} (hp : stAt (some p) (some v) = some r) (h : storeTo σ n p v = some σ') :
    ∃ o, σ' = σ.set r o ∧ ∀ τ : AState, τ.get r = σ.get r → storeTo τ n p v = some (τ.set r o) := by
  cases p <;> simp only [stAt] at hp <;> first | contradiction | skip
  · rename_i r' off
    cases hp
    simp only [storeTo] at h
    split at h
    · rename_i cs hm
      cases hb : (Nat.ble (off + n) cs.length && Nat.beq v.cells.length n && v.cells.all wordB) with
      | false => rw [hb] at h; cases h
      | true =>
        rw [hb] at h
        cases h
        refine ⟨_, rfl, fun τ ht => ?_⟩
        rw [hm] at ht
        simp only [storeTo, ht, hb, cond_true]
    · cases h
  · rename_i r' i off
    split at hp
    · rename_i hr
      cases hp
      have hf : ∀ τ : AState, freeze τ false v = (frz σ false v).map fun u => (u, τ) := by
        intro τ
        unfold freeze
        rw [hr, frz_free (σ := τ) (τ := σ) v false hr]
        cases frz σ false v <;> rfl
      simp only [storeTo, hf σ] at h
      cases hz : frz σ false v with
      | none => rw [hz] at h; cases h
      | some u =>
        rw [hz] at h
        simp only [Option.map_some] at h
        have hst : ∀ τ : AState, storeTo τ n (.rptr r i off) v = storeRow τ r i off n u := by
          intro τ
          simp only [storeTo, hf τ, hz, Option.map_some]
        have key : ∃ o, σ' = σ.set r o ∧ ∀ τ : AState, τ.get r = σ.get r → storeRow τ r i off n u = some (τ.set r o) := by
          unfold storeRow at h
          split at h
          · rename_i sz es lo hm
            split at h
            · rename_i e he
              cases hb : (Nat.ble lo i && Nat.ble (off + n) e.cells.length && Nat.beq u.cells.length n && u.cells.all wordB) with
              | false => rw [hb] at h; cases h
              | true =>
                rw [hb] at h
                simp only [cond_true] at h
                split at h
                · cases h
                  refine ⟨_, rfl, fun τ ht => ?_⟩
                  rw [hm] at ht
                  unfold storeRow
                  simp only [ht, he, hb, cond_true]
                · cases h
                · rename_i h1 h2
                  cases hc : Nat.beq off 0 with
                  | false => rw [hc] at h; cases h
                  | true =>
                    rw [hc] at h
                    cases h
                    refine ⟨_, rfl, fun τ ht => ?_⟩
                    rw [hm] at ht
                    unfold storeRow
                    simp only [ht, he, hb, cond_true, hc]
            · cases h
          · cases h
        obtain ⟨o, h1, h2⟩ := key
        exact ⟨o, h1, fun τ ht => by rw [hst]; exact h2 τ ht⟩
    · cases hp

theorem state_set_comm (σ : AState) {r s : Nat} (a b : AObj) (h : r ≠ s) : (σ.set s b).set r a = (σ.set r a).set s b := by
  unfold AState.set
  simp only
  rw [PM.set_comm σ.mem a b h]

theorem state_get_other (σ : AState) {r s : Nat} (a : AObj) (h : r ≠ s) : (σ.set s a).get r = σ.get r := PM.get_set_other _ _ _ _ h

/-- Two stores into two objects. -/
theorem stD_swap {x i : DOp} {F : AFrame} {σ σ1 σ2 : AState} (hx : isSt x.o.op = true) (hi : isSt i.o.op = true) (hsx : x.stst = true) (hsi : i.stst = true) (h1 : stD x.o F σ = some σ1) (h2 : stD i.o F σ1 = some σ2)
    {a b : HEnt} {τ τ' : AState} (ha : entOf x F σ σ1 = some a) (hb : entOf i F σ1 σ2 = some b) (hc : compat b a = true) : ∃ σ1', stD i.o F σ = some σ1' ∧ stD x.o F σ1' = some σ2 := by
  cases hwx : wantedA F x.o.guard with
  | none => unfold stD at h1; rw [hwx] at h1; cases h1
  | some bx =>
    cases bx with
    | false =>
      have hid : ∀ τ, stD x.o F τ = some τ := fun τ => by unfold stD; rw [hwx]
      rw [hid] at h1; cases h1
      exact ⟨σ2, h2, hid _⟩
    | true =>
      cases hwi : wantedA F i.o.guard with
      | none => unfold stD at h2; rw [hwi] at h2; cases h2
      | some bi =>
        cases bi with
        | false =>
          have hid : ∀ τ, stD i.o F τ = some τ := fun τ => by unfold stD; rw [hwi]
          rw [hid] at h2; cases h2
          exact ⟨σ, hid _, h1⟩
        | true =>
          unfold entOf at ha hb
          rw [hwx] at ha
          rw [hwi] at hb
          simp only [hsx, hsi, cond_true] at ha hb
          unfold stD at h1 h2 ⊢
          rw [hwx] at h1 ⊢
          rw [hwi] at h2 ⊢
          obtain ⟨idx, ⟨dst, guard, op⟩, vs, stst⟩ := x
          obtain ⟨idx', ⟨dst', guard', op'⟩, vs', stst'⟩ := i
          simp only at *
          cases op <;> simp [isSt] at hx
          rename_i n p v
          cases op' <;> simp [isSt] at hi
          rename_i m q u
          simp only at *
          obtain ⟨r, e1, rfl⟩ := Option.map_eq_some_iff.1 ha
          obtain ⟨r', e2, rfl⟩ := Option.map_eq_some_iff.1 hb
          have hne : r' ≠ r := fun he => by subst he; simp [compat] at hc
          cases hp : F.eval p with
          | none => rw [hp] at h1; cases h1
          | some P' =>
            cases hq : F.eval q with
            | none => rw [hq] at h2; cases h2
            | some Q' =>
              cases hv : F.eval v with
              | none => rw [hp, hv] at h1; cases h1
              | some V =>
                cases hu : F.eval u with
                | none => rw [hq, hu] at h2; cases h2
                | some U =>
                  rw [hp, hv] at h1 e1
                  rw [hq, hu] at h2 e2
                  simp only at h1 h2 ⊢
                  obtain ⟨o, f2, f3⟩ := storeTo_at e1 h1
                  obtain ⟨o', g2, g3⟩ := storeTo_at e2 h2
                  subst f2
                  have g1' := g3 σ (by rw [state_get_other _ _ hne])
                  refine ⟨_, g1', ?_⟩
                  rw [f3 _ (by rw [state_get_other _ _ (Ne.symm hne)]), g2]
                  rw [state_set_comm _ _ _ hne]

/-- The swap. -/
theorem allD_swap {x i : DOp} {B : List DOp} {F : AFrame} {σ : AState} {H : Hist} {Q : AFrame → AState → Prop} (I : Indep x i) (hHx : H x.idx = none) (hHi : H i.idx = none)
    (h : AllD cf base (x :: i :: B) F σ H Q) : AllD cf base (i :: x :: B) F σ H Q := by
  obtain ⟨cl1, cl2, cl3⟩ := clash_false I.clash
  simp only [AllD] at h ⊢
  by_cases hcx : x.o.op.cls = .eff
  · by_cases hci : i.o.op.cls = .eff
    · -- two stores
      obtain ⟨s1, s2, v1, v2⟩ := I.eff hcx hci
      have ix := I.stx s1
      have ii := I.sty s2
      rw [stepD_st ix] at h
      cases hx : stD x.o F σ with
      | none => rw [hx] at h; exact h.elim
      | some σ1 =>
        rw [hx] at h
        obtain ⟨H1, n1, h⟩ := h
        simp only at n1 h
        have A1 := agree_app (dstD_in x.o undefA) cl1 F
        rw [stepD_st ii] at h
        have hst : stD i.o ((dstD x.o.dst undefA).app F) σ1 = stD i.o F σ1 := by
          unfold stD
          rw [← A1.wanted]
          split
          · rfl
          · rfl
          · cases hop : i.o.op <;> try rfl
            rename_i n p v
            simp only
            rw [← A1.evals p (by rw [hop]; simp [opdsOf]), ← A1.evals v (by rw [hop]; simp [opdsOf])]
        rw [hst] at h
        cases hi : stD i.o F σ1 with
        | none => rw [hi] at h; exact h.elim
        | some σ2 =>
          rw [hi] at h
          obtain ⟨H2, n2, h⟩ := h
          simp only at n2 h
          rw [note_eq] at n1 n2
          rw [← entOf_agree A1] at n2
          have hex : ∃ a, entOf x F σ σ1 = some a := by
            rcases noteE_some n1 with ⟨hv, _⟩ | ⟨_, a, ha, _⟩
            · rw [hv] at v1; simp at v1
            · exact ⟨a, ha⟩
          obtain ⟨a, ha⟩ := hex
          obtain ⟨b, hb, hc⟩ := noteE_compat v1 v2 (ha ▸ n1) n2
          obtain ⟨σ1', e1, e2⟩ := stD_swap (τ := σ) (τ' := σ) ix ii s1 s2 hx hi ha hb hc
          have A2 := agree_app (dstD_in i.o undefA) (fun r h1 h2 => cl3 r h1 h2) F
          rw [stepD_st ii, e1]
          -- entries
          have ent_i : entOf i F σ σ1' = entOf i F σ1 σ2 := by
            unfold entOf
            split
            · rfl
            · rfl
            · simp only [s2, cond_true]
          have ent_x : entOf x ((dstD i.o.dst undefA).app F) σ1' σ2 = entOf x F σ σ1 := by
            rw [← entOf_agree A2]
            unfold entOf
            split
            · rfl
            · rfl
            · simp only [s1, cond_true]
          obtain ⟨H', m1, m2⟩ := noteE_swap I.idx I.vs hHx hHi n1 n2
          refine ⟨H', by rw [note_eq, ent_i]; exact m1, ?_⟩
          simp only
          rw [stepD_st ix]
          have hst2 : stD x.o ((dstD i.o.dst undefA).app F) σ1' = stD x.o F σ1' := by
            unfold stD
            rw [← A2.wanted]
            split
            · rfl
            · rfl
            · cases hop : x.o.op <;> try rfl
              rename_i n p v
              simp only
              rw [← A2.evals p (by rw [hop]; simp [opdsOf]), ← A2.evals v (by rw [hop]; simp [opdsOf])]
          rw [hst2, e2]
          refine ⟨H2, by rw [note_eq, ent_x]; exact m2, ?_⟩
          simp only
          rw [app_comm (dstD_in i.o undefA) (dstD_in x.o undefA) (fun r h1 h2 => cl2 r h2 h1) (.inl rfl)]
          exact h
    · -- an effect, then a quiet operation
      have hsi := stst_false I.sty hci
      have hinfo := stepD_info h
      -- what the quiet one comes to is told by one outcome
      have main : ∀ p : Dl × AState, ((∃ H', note x F σ p.2 H = some H' ∧ (stepD cf base i.o (p.1.app F) p.2).All fun q => ∃ H'', note i (p.1.app F) p.2 q.2 H' = some H'' ∧ AllD cf base B (q.1.app (p.1.app F)) q.2 H'' Q) ∧
          p.1.In (regsWritten x.o) ∧ (x.o.op.cls ≠ .eff → qD base x.o F σ = some p.1 ∧ p.2 = σ ∧ p.1.ds = []) ∧ (wantedA F x.o.guard = some false → p.2 = σ)) →
          ∃ δi H' H'', qD base i.o F σ = some δi ∧ noteE i.vs i.idx (entOf i F σ σ) H = some H' ∧ noteE x.vs x.idx (entOf x F σ p.2) H' = some H'' ∧ AllD cf base B (δi.app (p.1.app F)) p.2 H'' Q ∧ p.1.In (regsWritten x.o) := by
        intro p hp
        obtain ⟨⟨H1, n1, h1⟩, hin, _, hskip⟩ := hp
        have A1 := agree_app hin cl1 F
        rw [stepD_quiet hci] at h1
        cases hq : qD base i.o (p.1.app F) p.2 with
        | none => rw [hq] at h1; exact h1.elim
        | some δi =>
          rw [hq] at h1
          obtain ⟨H2, n2, h2⟩ := h1
          simp only at n2 h2
          rw [← A1.quiet] at hq
          rw [note_eq] at n1 n2
          rw [← entOf_agree A1, entOf_quiet hci hsi F p.2 p.2 σ σ] at n2
          have hq' : qD base i.o F σ = some δi := qD_moves hq fun hr hw => by
            obtain ⟨s1, v1, v2⟩ := I.effRead hcx hr
            have hex : ∃ a, entOf x F σ p.2 = some a := by
              rcases noteE_some n1 with ⟨hv, _⟩ | ⟨_, a, ha, _⟩
              · rw [hv] at v1; simp at v1
              · exact ⟨a, ha⟩
            obtain ⟨a, ha⟩ := hex
            obtain ⟨b, hb, hc⟩ := noteE_compat v1 v2 (ha ▸ n1) n2
            exact (read_moves hr hcx hsi s1 hskip hb ha (by rw [compat_symm]; exact hc) hw).symm
          obtain ⟨H', m1, m2⟩ := noteE_swap I.idx I.vs hHx hHi n1 n2
          exact ⟨δi, H', H2, hq', m1, m2, h2, hin⟩
      obtain ⟨p0, hp0⟩ := hinfo.exists
      obtain ⟨δi, H', _, q1, q2, _⟩ := main p0 hp0
      rw [stepD_quiet hci, q1]
      refine ⟨H', by rw [note_eq]; exact q2, ?_⟩
      simp only
      have A2 := agree_app (qD_in q1).1 (fun r h1 h2 => cl3 r h1 h2) F
      rw [← A2.step]
      refine hinfo.mono fun p hp => ?_
      obtain ⟨δi', H'', H2, r1, r2, r3, r4, r5⟩ := main p hp
      rw [q1] at r1; cases r1
      rw [q2] at r2; cases r2
      refine ⟨H2, by rw [note_eq, ← entOf_agree A2]; exact r3, ?_⟩
      rw [app_comm (qD_in q1).1 r5 (fun r h1 h2 => cl2 r h2 h1) (.inl (qD_in q1).2)]
      exact r4
  · -- a quiet operation first
    have hsx := stst_false I.stx hcx
    rw [stepD_quiet hcx] at h
    cases hq : qD base x.o F σ with
    | none => rw [hq] at h; exact h.elim
    | some δx =>
      rw [hq] at h
      obtain ⟨H1, n1, h⟩ := h
      simp only at n1 h
      obtain ⟨hin, hds⟩ := qD_in hq
      have A1 := agree_app hin cl1 F
      rw [← A1.step] at h
      refine (stepD_info h).mono fun p hp => ?_
      obtain ⟨⟨H2, n2, h2⟩, hini, hqi, hskip⟩ := hp
      rw [note_eq] at n1 n2
      rw [← entOf_agree A1] at n2
      have A2 := agree_app hini (fun r h1 h2 => cl3 r h1 h2) F
      obtain ⟨H', m1, m2⟩ := noteE_swap I.idx I.vs hHx hHi n1 n2
      refine ⟨H', by rw [note_eq]; exact m1, ?_⟩
      rw [← A2.step, stepD_quiet hcx]
      have hq' : qD base x.o F p.2 = some δx := qD_moves hq fun hr hw => by
        by_cases hci : i.o.op.cls = .eff
        · obtain ⟨s1, v1, v2⟩ := I.readEff hr hci
          have hex : ∃ a, entOf x F σ σ = some a := by
            rcases noteE_some n1 with ⟨hv, _⟩ | ⟨_, a, ha, _⟩
            · rw [hv] at v1; simp at v1
            · exact ⟨a, ha⟩
          obtain ⟨a, ha⟩ := hex
          obtain ⟨b, hb, hc⟩ := noteE_compat v1 v2 (ha ▸ n1) n2
          exact read_moves hr hci hsx s1 hskip ha hb hc hw
        · rw [(hqi hci).2.1]
      rw [hq']
      refine ⟨H2, by rw [note_eq, ← entOf_agree A2, entOf_quiet hcx hsx F p.2 p.2 σ σ]; exact m2, ?_⟩
      simp only
      rw [app_comm hini hin (fun r h1 h2 => cl2 r h2 h1) (.inr hds)]
      exact h2

end
end Go.Ago

set_option autoImplicit false
set_option linter.unusedSimpArgs false
set_option linter.unusedVariables false
namespace Go.Ago

/-- How an exit stands to the model's. -/
def XRel (G : Gh) : AExit → Exit → Prop
  | .normal, e => e = .normal
  | .exit id, e => e = .exit id
  | .ret, e => e = .ret
  | .pan v, e => ∃ x, e = .panic [{ v := x, recovered := false }] ∧ VRel G v x

/-- What a piece of code comes to. -/
def CPost (E : CEnv) (own : Nat → Prop) (G : Gh) (Lb : Nat → Option Nat) (σ : AState) (w : World) (Q : AExit × AFrame × AState → Prop) (e : Exit) (a' : Act) (w' : World) : Prop :=
  ∃ x G' Lb' F' σ', Q (x, F', σ') ∧ XRel G' x e ∧ Rel E G' Lb' F' σ' a' w' ∧ Tr own G Lb σ w G' Lb' σ' w'

/-- What an operation of a region became. -/
structure OpIs (E : CEnv) (all : Array Oper) (o : Oper) (ao : AOper) (j k : Nat) (init : List (Nat × AObj)) : Prop where
  comp : compOp E j o = some (ao.op, k, init)
  dst : ao.dst = o.dst
  guard : guardOf all o = some ao.guard
  ok : dstOk E ao = true

/-- .. of a list of them, from a name to a name. -/
inductive OpsAre (E : CEnv) (all : Array Oper) : Nat → List Oper → List AOper → Nat → List (Nat × AObj) → Prop
  | nil (j : Nat) : OpsAre E all j [] [] j []
  | cons {j k j' : Nat} {o : Oper} {ao : AOper} {os : List Oper} {aos : List AOper} {init is : List (Nat × AObj)} (h : OpIs E all o ao j k init) (r : OpsAre E all (j + k) os aos j' is) : OpsAre E all j (o :: os) (ao :: aos) j' (init ++ is)

theorem opsAre_of {E : CEnv} {all : Array Oper} : ∀ {os : List Oper} {j : Nat} {l : List AOper} {j' : Nat} {is : List (Nat × AObj)}, compOps E all j os = some (l, j', is) → l.all (dstOk E) = true → OpsAre E all j os l j' is
  | [], j, l, j', is, h, _ => by
    simp only [compOps, Option.some.injEq, Prod.mk.injEq] at h
    obtain ⟨rfl, rfl, rfl⟩ := h
    exact .nil j
  | o :: os, j, l, j', is, h, hd => by
    simp only [compOps] at h
    split at h
    · cases h
    · rename_i op k init hc
      split at h
      · rename_i g l2 j2 is2 hg hr
        simp only [Option.some.injEq, Prod.mk.injEq] at h
        obtain ⟨rfl, rfl, rfl⟩ := h
        simp only [List.all_cons, Bool.and_eq_true] at hd
        exact .cons ⟨hc, rfl, hg, hd.1⟩ (opsAre_of hr hd.2)
      · cases h

theorem OpsAre.le {E : CEnv} {all : Array Oper} {j j' : Nat} {os : List Oper} {aos : List AOper} {is : List (Nat × AObj)} (h : OpsAre E all j os aos j' is) : j ≤ j' := by
  induction h with
  | nil j => exact Nat.le_refl _
  | cons h r ih => omega

theorem OpsAre.length {E : CEnv} {all : Array Oper} {j j' : Nat} {os : List Oper} {aos : List AOper} {is : List (Nat × AObj)} (h : OpsAre E all j os aos j' is) : os.length = aos.length := by
  induction h with
  | nil j => rfl
  | cons h r ih => simp [ih]

/-- The names of some operations, free for them. -/
def FreshFor (base j j' : Nat) (is : List (Nat × AObj)) (G : Gh) (σ : AState) : Prop :=
  (∀ r, base + j ≤ r → r < base + j' → G.obj r = none ∧ G.row r = none ∧ r < σ.next) ∧ ∀ p ∈ is, σ.get (base + p.1) = some p.2

/-- Where the things lie that an operation lays from the start. -/
theorem compOp_init {E : CEnv} {o : Oper} {j k : Nat} {op : AOp} {init : List (Nat × AObj)} (h : compOp E j o = some (op, k, init)) : ∀ p ∈ init, j ≤ p.1 ∧ p.1 < j + k := by
  obtain ⟨dst, mop, ty, pos, aft, gd⟩ := o
  have nil : ∀ {k : Nat}, ∀ p ∈ ([] : List (Nat × AObj)), j ≤ p.1 ∧ p.1 < j + k := fun p hp => by simp at hp
  have one : ∀ {ob : AObj}, ∀ p ∈ [(j, ob)], j ≤ p.1 ∧ p.1 < j + 1 := fun p hp => by
    simp only [List.mem_singleton] at hp; subst hp; exact ⟨Nat.le_refl _, by simp⟩
  cases mop <;> simp only [compOp, compCall, compDefer] at h <;> (repeat' split at h) <;> first
    | contradiction
    | (cases h; done)
    | (cases h; exact nil)
    | (cases h; exact one)
    | (obtain ⟨y, h1, h2⟩ := bare_some h; cases h2; exact nil)
    | (obtain ⟨y, h1, h2⟩ := map_some' h; cases h2; exact nil)
    | (obtain ⟨y, h1, h2⟩ := map_some' h; cases h2; exact one)

theorem OpsAre.inits {E : CEnv} {all : Array Oper} {j j' : Nat} {os : List Oper} {aos : List AOper} {is : List (Nat × AObj)} (h : OpsAre E all j os aos j' is) : ∀ p ∈ is, j ≤ p.1 ∧ p.1 < j' := by
  induction h with
  | nil j => intro p hp; simp at hp
  | cons h r ih =>
    intro p hp
    have := r.le
    rcases List.mem_append.1 hp with hp | hp
    · have := compOp_init h.comp p hp; omega
    · have := ih p hp; omega

theorem FreshFor.step {base j j' : Nat} {is : List (Nat × AObj)} {G G' : Gh} {Lb Lb' : Nat → Option Nat} {σ σ' : AState} {w w' : World} {own : Nat → Prop} (h : FreshFor base j j' is G σ) (hT : Tr own G Lb σ w G' Lb' σ' w') (hown : ∀ r, base + j ≤ r → r < base + j' → ¬ own r)
    (hin : ∀ p ∈ is, j ≤ p.1 ∧ p.1 < j') : FreshFor base j j' is G' σ' := by
  refine ⟨fun r h1 h2 => ?_, fun p hp => ?_⟩
  · obtain ⟨a1, a2, a3⟩ := h.1 r h1 h2
    obtain ⟨b1, b2, _⟩ := hT.quiet r a3 a1 a2 (hown r h1 h2)
    exact ⟨b1, b2, Nat.lt_of_lt_of_le a3 hT.next⟩
  · obtain ⟨q1, q2⟩ := hin p hp
    obtain ⟨a1, a2, a3⟩ := h.1 (base + p.1) (by omega) (by omega)
    obtain ⟨_, _, b3⟩ := hT.quiet _ a3 a1 a2 (hown _ (by omega) (by omega))
    rw [b3]
    exact h.2 p hp

section
variable {E : CEnv} {cf : CallF}

/-- Operations in the order of the text. -/
theorem ops_sound {G0 : Gh} (C : CallSim E.P G0 cf) {all : Array Oper} {base : Nat} {QQ : Exit → Act → World → Prop} : ∀ {os : List Oper} {aos : List AOper} {j j' i : Nat} {is : List (Nat × AObj)} {G : Gh} {Lb : Nat → Option Nat} {F : AFrame} {σ : AState} {a : Act} {w : World}
    {own : Nat → Prop} {Q : AExit × AFrame × AState → Prop}, OpsAre E all j os aos j' is → (∀ n o, os[n]? = some o → all[i + n]? = some o) → Rel E G Lb F σ a w → Le G0 G → FreshFor base j j' is G σ → (∀ r, base + j ≤ r → r < base + j' → own r) →
    (stepOps cf base aos F σ).All Q → (∀ e a' w', CPost E own G Lb σ w Q e a' w' → QQ e a' w') → wpOps E.P all QQ (List.range' i os.length) a w := by
  intro os
  induction os with
  | nil =>
    intro aos j j' i is G Lb F σ a w own Q hA hall R hle0 hf hown h hq
    cases hA
    exact hq _ _ _ ⟨.normal, G, Lb, F, σ, h, rfl, R, Tr.refl _ _ _ _ _⟩
  | cons o os ih =>
    intro aos j j' i is G Lb F σ a w own Q hA hall R hle0 hf hown h hq
    cases hA with
    | cons hop hr =>
      rename_i k ao aos init is
      have hle := hr.le
      simp only [List.length_cons, List.range'_succ]
      rw [wpOps_cons]
      simp only [stepOps] at h
      rw [Out.all_bind] at h
      have hfresh : Fresh (ownOf base j k) base j k init G σ := by
        refine ⟨fun r hr' => ⟨hr', ?_⟩, fun p hp => hf.2 p (List.mem_append_left _ hp)⟩
        obtain ⟨q1, q2⟩ := hr'
        exact hf.1 r q1 (by omega)
      have hstep := step_sound R C hle0 (hall 0 o rfl) hop.comp hop.dst hop.guard hop.ok hfresh h QQ fun e a' w' hp => by
        obtain ⟨v, x, G', Lb', F', σ', rfl, e1, e2, e3, e4⟩ := hp
        exact hq _ _ _ ⟨.pan v, G', Lb', F', σ', e2, ⟨x, rfl, e1⟩, e3, e4.mono fun r hr' => hown r hr'.1 (by have := hr'.2; omega)⟩
      rw [Nat.add_zero] at hstep
      refine wpOp_mono (fun a' w' hn => ?_) hstep
      obtain ⟨G', Lb', F', σ', e1, e2, e3⟩ := hn
      have hf' : FreshFor base (j + k) j' is G' σ' := by
        refine FreshFor.step (j := j + k) ⟨fun r h1 h2 => hf.1 r (by omega) h2, fun p hp => hf.2 p (List.mem_append_right _ hp)⟩ e3 (fun r h1 h2 hr' => ?_) hr.inits
        have := hr'.2
        omega
      refine ih hr (fun n o hn => ?_) e2 (hle0.trans e3.le) hf' (fun r h1 h2 => hown r (by omega) h2) e1 fun e a'' w'' hp => ?_
      · have := hall (n + 1) o (by simpa using hn)
        rw [show i + 1 + n = i + (n + 1) by omega]
        exact this
      · obtain ⟨x, G2, Lb2, F2, σ2, f1, f2, f3, f4⟩ := hp
        exact hq _ _ _ ⟨x, G2, Lb2, F2, σ2, f1, f2, f3, ((e3.mono fun r hr' => hown r hr'.1 (by have := hr'.2; omega)).trans f4).mono fun r hr' => hr'.elim id id⟩

end
end Go.Ago

set_option autoImplicit false
set_option linter.unusedSimpArgs false
set_option linter.unusedVariables false
namespace Go.Ago

theorem noteE_other {vs : List Nat} {i j : Nat} {e : Option HEnt} {H H' : Hist} (h : noteE vs i e H = some H') (hne : j ≠ i) : H' j = H j := by
  rcases noteE_some h with ⟨_, rfl⟩ | ⟨_, a, _, _, rfl⟩
  · rfl
  · exact rec_other _ _ hne

theorem allD_front {cf : CallF} {base : Nat} {d : DOp} {B : List DOp} {Q : AFrame → AState → Prop} : ∀ {A : List DOp} {F : AFrame} {σ : AState} {H : Hist}, (∀ x ∈ A, Indep x d) → (∀ x ∈ A, H x.idx = none) → H d.idx = none →
    (A.Pairwise fun x y => x.idx ≠ y.idx) → AllD cf base (A ++ d :: B) F σ H Q → AllD cf base (d :: (A ++ B)) F σ H Q
  | [], _, _, _, _, _, _, _, h => h
  | x :: A, F, σ, H, hI, hA, hd, hp, h => by
    refine allD_swap (hI x (by simp)) (hA x (by simp)) hd ?_
    rw [List.cons_append] at h
    rw [AllD] at h ⊢
    rw [List.pairwise_cons] at hp
    refine h.mono fun p hp' => ?_
    obtain ⟨H', h1, h2⟩ := hp'
    refine ⟨H', h1, ?_⟩
    rw [note_eq] at h1
    refine allD_front (fun y hy => hI y (by simp [hy])) (fun y hy => ?_) ?_ hp.2 h2
    · rw [noteE_other h1 (Ne.symm (hp.1 y hy))]
      exact hA y (by simp [hy])
    · rw [noteE_other h1 (Ne.symm (hI x (by simp)).idx)]
      exact hd

/-- The names of the operations, by their places. -/
theorem OpsAre.names {E : CEnv} {all : Array Oper} {j j' : Nat} {os : List Oper} {aos : List AOper} {is : List (Nat × AObj)} (h : OpsAre E all j os aos j' is) :
    ∃ (nj nk : Nat → Nat) (ni : Nat → List (Nat × AObj)), ∀ n o ao, os[n]? = some o → aos[n]? = some ao → OpIs E all o ao (nj n) (nk n) (ni n) ∧ j ≤ nj n ∧ nj n + nk n ≤ j' ∧ (∀ p ∈ ni n, p ∈ is) ∧ ∀ m, m < n → nj m + nk m ≤ nj n := by
  induction h with
  | nil j => exact ⟨fun _ => 0, fun _ => 0, fun _ => [], fun n o ao h => by simp at h⟩
  | cons h r ih =>
    rename_i j k j' o ao os aos init is
    obtain ⟨nj, nk, ni, hn⟩ := ih
    have hle := r.le
    refine ⟨fun n => match n with | 0 => j | n + 1 => nj n, fun n => match n with | 0 => k | n + 1 => nk n, fun n => match n with | 0 => init | n + 1 => ni n, fun n o' ao' h1 h2 => ?_⟩
    cases n with
    | zero =>
      simp only [List.getElem?_cons_zero, Option.some.injEq] at h1 h2
      subst h1; subst h2
      exact ⟨h, Nat.le_refl _, hle, fun p hp => List.mem_append_left _ hp, fun m hm => by omega⟩
    | succ n =>
      simp only [List.getElem?_cons_succ] at h1 h2
      obtain ⟨q1, q2, q3, q4, q5⟩ := hn n o' ao' h1 h2
      refine ⟨q1, by simp only; omega, q3, fun p hp => List.mem_append_right _ (q4 p hp), fun m hm => ?_⟩
      cases m with
      | zero => exact q2
      | succ m => exact q5 m (by omega)

/-! ## What comes ahead -/

def edges (o : Oper) : List Nat := (o.after.toList.filter (Region.binds .any)).map (·.on)

theorem bitB_eq (m x : Nat) : bitB m x = m.testBit x := by
  have h2 : Nat.shiftRight m x = m >>> x := rfl
  have h3 : ∀ a b, Nat.land a b = a &&& b := fun _ _ => rfl
  unfold bitB Nat.testBit
  rw [h2, h3, Nat.and_comm]
  have : 1 &&& (m >>> x) = 0 ∨ 1 &&& (m >>> x) = 1 := by
    have := Nat.one_and_eq_mod_two (m >>> x)
    omega
  rcases this with h | h <;> rw [h] <;> rfl

theorem bitB_lor (a b x : Nat) : bitB (Nat.lor a b) x = (bitB a x || bitB b x) := by
  rw [bitB_eq, bitB_eq, bitB_eq]
  exact Nat.testBit_or a b x

theorem bitB_one (e x : Nat) : bitB (Nat.shiftLeft 1 e) x = true → e = x := by
  rw [bitB_eq]
  show (1 <<< e).testBit x = true → _
  rw [Nat.one_shiftLeft, Nat.testBit_two_pow]
  simp

theorem bitB_zero (x : Nat) : bitB 0 x = false := by rw [bitB_eq]; simp

theorem bitB_foldl (acc : List Nat) (x : Nat) : ∀ (es : List Nat) (m : Nat), bitB (es.foldl (fun m e => Nat.lor m (Nat.lor (Nat.shiftLeft 1 e) (acc.getD e 0))) m) x = true →
    bitB m x = true ∨ ∃ e ∈ es, e = x ∨ bitB (acc.getD e 0) x = true
  | [], m, h => .inl h
  | e :: es, m, h => by
    rcases bitB_foldl acc x es _ h with h | ⟨e', h1, h2⟩
    · rw [bitB_lor, bitB_lor] at h
      simp only [Bool.or_eq_true] at h
      rcases h with h | h | h
      · exact .inl h
      · exact .inr ⟨e, by simp, .inl (bitB_one _ _ h)⟩
      · exact .inr ⟨e, by simp, .inr h⟩
    · exact .inr ⟨e', by simp [h1], h2⟩

theorem beforesM_spec : ∀ {os : List Oper} {i : Nat} {acc ms : List Nat}, beforesM i os acc = some ms → acc.length = i →
    ms.length = i + os.length ∧ (∀ n, n < i → ms.getD n 0 = acc.getD n 0) ∧ ∀ n o, os[n]? = some o → (∀ e ∈ edges o, e < i + n) ∧ ∀ x, bitB (ms.getD (i + n) 0) x = true → ∃ e ∈ edges o, e = x ∨ bitB (ms.getD e 0) x = true
  | [], i, acc, ms, h, hl => by
    simp only [beforesM, Option.some.injEq] at h
    subst h
    exact ⟨by simp [hl], fun _ _ => rfl, fun n o hn => by simp at hn⟩
  | o :: os, i, acc, ms, h, hl => by
    simp only [beforesM] at h
    split at h
    · rename_i hall
      obtain ⟨h0, h1, h2⟩ := beforesM_spec h (by simp [hl])
      have hlt : ∀ e ∈ edges o, e < i := fun e he => by
        have := List.all_eq_true.1 hall e he
        simpa using this
      have hold : ∀ n, n < i → ms.getD n 0 = acc.getD n 0 := fun n hn => by
        rw [h1 n (by omega)]
        simp only [List.getD_eq_getElem?_getD]
        rw [List.getElem?_append_left (by omega)]
      refine ⟨by rw [h0]; simp; omega, hold, fun n o' hn => ?_⟩
      cases n with
      | zero =>
        simp only [List.getElem?_cons_zero, Option.some.injEq] at hn
        subst hn
        refine ⟨fun e he => by have := hlt e he; omega, fun x hx => ?_⟩
        rw [Nat.add_zero, h1 i (by omega)] at hx
        simp only [List.getD_eq_getElem?_getD] at hx
        rw [List.getElem?_append_right (by omega), hl, Nat.sub_self] at hx
        simp only [List.getElem?_cons_zero, Option.getD_some] at hx
        rcases bitB_foldl acc x _ _ (by simpa only [List.getD_eq_getElem?_getD] using hx) with h3 | ⟨e, h3, h4⟩
        · rw [bitB_zero] at h3; cases h3
        · refine ⟨e, h3, ?_⟩
          rw [hold e (hlt e h3)]
          exact h4
      | succ n =>
        simp only [List.getElem?_cons_succ] at hn
        have := h2 n o' hn
        rw [show i + 1 + n = i + (n + 1) by omega] at this
        exact this
    · cases h

theorem befores_spec {os : List Oper} {bef : List (List Nat)} (h : befores os = some bef) :
    ∀ n o, os[n]? = some o → (∀ e ∈ edges o, e < n) ∧ ∀ x ∈ bef.getD n [], x ∈ edges o ∨ ∃ e ∈ edges o, x ∈ bef.getD e [] := by
  unfold befores at h
  cases hm : beforesM 0 os [] with
  | none => rw [hm] at h; cases h
  | some ms =>
    rw [hm] at h
    simp only [Option.map_some, Option.some.injEq] at h
    subst h
    obtain ⟨h0, _, h2⟩ := beforesM_spec hm rfl
    have hget : ∀ n, (ms.map fun m => (List.range os.length).filter (bitB m)).getD n [] = if n < ms.length then (List.range os.length).filter (bitB (ms.getD n 0)) else [] := by
      intro n
      simp only [List.getD_eq_getElem?_getD, List.getElem?_map]
      by_cases hn : n < ms.length
      · rw [if_pos hn, List.getElem?_eq_getElem hn]; rfl
      · rw [if_neg hn, List.getElem?_eq_none (by omega)]; rfl
    intro n o hn
    obtain ⟨h3, h4⟩ := h2 n o hn
    rw [Nat.zero_add] at h3 h4
    refine ⟨h3, fun x hx => ?_⟩
    have hnl : n < os.length := (List.getElem?_eq_some_iff.1 hn).1
    rw [hget, if_pos (by omega)] at hx
    obtain ⟨hx1, hx2⟩ := List.mem_filter.1 hx
    obtain ⟨e, he, h5⟩ := h4 x hx2
    rcases h5 with rfl | h5
    · exact .inl he
    · refine .inr ⟨e, he, ?_⟩
      have := h3 e he
      rw [hget, if_pos (by omega)]
      exact List.mem_filter.2 ⟨hx1, h5⟩

/-! ## The region -/

theorem fresh_step {base j k : Nat} {init : List (Nat × AObj)} {G G' : Gh} {Lb Lb' : Nat → Option Nat} {σ σ' : AState} {w w' : World} {own : Nat → Prop} {E : CEnv} {o : Oper} {op : AOp} (hc : compOp E j o = some (op, k, init)) (h : Fresh (ownOf base j k) base j k init G σ) (hT : Tr own G Lb σ w G' Lb' σ' w')
    (hown : ∀ r, ownOf base j k r → ¬ own r) : Fresh (ownOf base j k) base j k init G' σ' := by
  have := FreshFor.step (j := j) (j' := j + k) (is := init) ⟨fun r h1 h2 => (h.names r ⟨h1, by omega⟩).2, h.init⟩ hT (fun r h1 h2 => hown r ⟨h1, by omega⟩) (compOp_init hc)
  exact ⟨fun r hr => ⟨hr, this.1 r hr.1 (by have := hr.2; omega)⟩, this.2⟩

section
variable {E : CEnv} {cf : CallF}

theorem getD_listed {listed : Array Bool} {i : Nat} (hi : i < listed.size) : (listed[i]? = some true ∧ listed.getD i true = true ∧ listed.getD i false = true) ∨ (listed[i]? = some false ∧ listed.getD i true = false ∧ listed.getD i false = false) := by
  cases h : listed[i] with
  | true => exact .inl (by simp [Array.getD, hi, h])
  | false => exact .inr (by simp [Array.getD, hi, h])

theorem draw_sound {G0 : Gh} (C : CallSim E.P G0 cf) {all : Array Oper} {base : Nat} {bef : List (List Nat)} {nj nk : Nat → Nat} {ni : Nat → List (Nat × AObj)} {QQ : Exit → Act → World → Prop}
    (hbef : ∀ n o, all[n]? = some o → (∀ e ∈ edges o, e < n) ∧ ∀ x ∈ bef.getD n [], x ∈ edges o ∨ ∃ e ∈ edges o, x ∈ bef.getD e [])
    (hdis : ∀ m n, m < n → n < all.size → nj m + nk m ≤ nj n) : ∀ (m : Nat) {P : List DOp} {listed : Array Bool} {G : Gh} {Lb : Nat → Option Nat} {F : AFrame} {σ : AState} {a : Act} {w : World} {H : Hist} {own : Nat → Prop} {Q : AFrame → AState → Prop},
    P.length = m → Rel E G Lb F σ a w → Le G0 G → AllD cf base P F σ H Q → (∀ d ∈ P, ∃ o, all[d.idx]? = some o ∧ OpIs E all o d.o (nj d.idx) (nk d.idx) (ni d.idx)) → (P.Pairwise fun x y => x.idx < y.idx ∧ (x.idx ∈ bef.getD y.idx [] ∨ Indep x y)) →
    (∀ d ∈ P, H d.idx = none) → listed.size = all.size → (∀ i, i < all.size → (listed[i]? = some false ↔ ∃ d ∈ P, d.idx = i)) → (∀ i, i < all.size → listed[i]? = some true → ∀ e ∈ bef.getD i [], listed.getD e false = true) →
    (∀ d ∈ P, Fresh (ownOf base (nj d.idx) (nk d.idx)) base (nj d.idx) (nk d.idx) (ni d.idx) G σ) → (∀ d ∈ P, ∀ r, ownOf base (nj d.idx) (nk d.idx) r → own r) →
    (∀ e a' w', CPost E own G Lb σ w (fun x => x.1 = .normal ∧ Q x.2.1 x.2.2) e a' w' → QQ e a' w') → wpAny E.P .any all QQ m listed a w := by
  intro m
  induction m with
  | zero =>
    intro P listed G Lb F σ a w H own Q hlen R hle0 hall hops hpw hH hls hl hcl hf hown hq
    have hP : P = [] := List.length_eq_zero_iff.1 hlen
    subst hP
    refine ⟨?_, hq _ _ _ ⟨.normal, G, Lb, F, σ, ⟨rfl, hall⟩, rfl, R, Tr.refl _ _ _ _ _⟩⟩
    unfold Region.ready
    rw [List.filter_eq_nil_iff]
    intro i hi
    have hi : i < all.size := by simpa using hi
    rcases getD_listed (listed := listed) (i := i) (by omega) with ⟨_, h2, _⟩ | ⟨h1, _⟩
    · simp [h2]
    · obtain ⟨d, hd, _⟩ := (hl i hi).1 h1
      simp at hd
  | succ m ih =>
    intro P listed G Lb F σ a w H own Q hlen R hle0 hall hops hpw hH hls hl hcl hf hown hq
    refine ⟨fun hnil => ?_, fun i hi => ?_⟩
    · -- the first is ready
      exfalso
      cases P with
      | nil => simp at hlen
      | cons d P =>
        obtain ⟨o, ho, _⟩ := hops d (by simp)
        have hd : d.idx < all.size := (Array.getElem?_eq_some_iff.1 ho).1
        rw [List.pairwise_cons] at hpw
        have h1 : listed[d.idx]? = some false := (hl _ hd).2 ⟨d, by simp, rfl⟩
        have hmem : d.idx ∈ Region.ready .any all listed := by
          unfold Region.ready
          rw [List.mem_filter]
          refine ⟨by simpa using hd, ?_⟩
          rcases getD_listed (listed := listed) (i := d.idx) (by omega) with ⟨h2, _⟩ | ⟨_, h2, _⟩
          · rw [h1] at h2; cases h2
          · rw [h2, ho]
            simp only [Bool.not_false, Bool.true_and, Option.map_some, Option.getD_some]
            rw [← Array.all_toList, List.all_eq_true]
            intro e he
            cases hb : Region.binds .any e with
            | false => rfl
            | true =>
              have hin : e.on ∈ edges o := List.mem_map.2 ⟨e, List.mem_filter.2 ⟨he, hb⟩, rfl⟩
              have hlt := (hbef _ _ ho).1 _ hin
              rcases getD_listed (listed := listed) (i := e.on) (by omega) with ⟨_, _, h3⟩ | ⟨h3, _⟩
              · simp [h3]
              · obtain ⟨d', hd', he'⟩ := (hl _ (by omega)).1 h3
                rcases List.mem_cons.1 hd' with rfl | hd'
                · omega
                · have := (hpw.1 d' hd').1
                  omega
        rw [hnil] at hmem
        simp at hmem
    · unfold Region.ready at hi
      rw [List.mem_filter] at hi
      obtain ⟨hi, hcond⟩ := hi
      have hi : i < all.size := by simpa using hi
      simp only [Bool.and_eq_true, Bool.not_eq_true'] at hcond
      obtain ⟨hc1, hc2⟩ := hcond
      have hli : listed[i]? = some false := by
        rcases getD_listed (listed := listed) (i := i) (by omega) with ⟨_, h2, _⟩ | ⟨h1, _⟩
        · rw [hc1] at h2; cases h2
        · exact h1
      obtain ⟨d, hd, rfl⟩ := (hl i hi).1 hli
      obtain ⟨o, ho, hop⟩ := hops d hd
      rw [ho] at hc2
      simp only [Option.map_some, Option.getD_some] at hc2
      rw [← Array.all_toList, List.all_eq_true] at hc2
      have hedge : ∀ e ∈ edges o, listed.getD e false = true := by
        intro e he
        obtain ⟨e', h1, rfl⟩ := List.mem_map.1 he
        obtain ⟨h1, h2⟩ := List.mem_filter.1 h1
        have := hc2 e' h1
        simpa [h2] using this
      have hlisted : ∀ e, e < all.size → listed.getD e false = true → listed[e]? = some true := by
        intro e he h1
        rcases getD_listed (listed := listed) (i := e) (by omega) with ⟨h2, _⟩ | ⟨_, _, h2⟩
        · exact h2
        · rw [h1] at h2; cases h2
      obtain ⟨hlt, hb⟩ := hbef _ _ ho
      have hbl : ∀ e ∈ bef.getD d.idx [], listed.getD e false = true := by
        intro e he
        rcases hb e he with he | ⟨e', h1, h2⟩
        · exact hedge e he
        ·
          have := hlt e' h1
          exact hcl e' (by omega) (hlisted e' (by omega) (hedge e' h1)) e h2
      obtain ⟨A, B, rfl⟩ := List.append_of_mem hd
      rw [List.pairwise_append] at hpw
      obtain ⟨pA, pB, pAB⟩ := hpw
      rw [List.pairwise_cons] at pB
      have hind : ∀ x ∈ A, Indep x d := by
        intro x hx
        rcases (pAB x hx d (by simp)).2 with h | h
        · obtain ⟨ox, hox, _⟩ := hops x (by simp [hx])
          have hxl : x.idx < all.size := (Array.getElem?_eq_some_iff.1 hox).1
          have h1 := (hl _ hxl).2 ⟨x, by simp [hx], rfl⟩
          have h2 := hlisted _ hxl (hbl _ h)
          rw [h1] at h2; cases h2
        · exact h
      have hfront := allD_front hind (fun x hx => hH x (by simp [hx])) (hH d (by simp)) (pA.imp fun h => Nat.ne_of_lt h.1) hall
      rw [AllD, ← step_iff (Q := fun F' σ' => ∃ H', note d F σ σ' H = some H' ∧ AllD cf base (A ++ B) F' σ' H' Q)] at hfront
      have hstep := step_sound R C hle0 ho hop.comp hop.dst hop.guard hop.ok (hf d (by simp)) hfront QQ fun e a' w' hp => by
        obtain ⟨v, x, G', Lb', F', σ', _, _, e1, _⟩ := hp
        cases e1.1
      refine wpOp_mono (fun a' w' hn => ?_) hstep
      obtain ⟨G', Lb', F', σ', ⟨_, H', n1, n2⟩, e2, e3⟩ := hn
      rw [note_eq] at n1
      have hne : ∀ x ∈ A ++ B, x.idx ≠ d.idx := by
        intro x hx
        rcases List.mem_append.1 hx with hx | hx
        · exact Nat.ne_of_lt (pAB x hx d (by simp)).1
        · exact (Nat.ne_of_lt (pB.1 x hx).1).symm
      have hsub : ∀ x ∈ A ++ B, x ∈ A ++ d :: B := by
        intro x hx
        rcases List.mem_append.1 hx with hx | hx <;> simp [hx]
      have hdlt : d.idx < all.size := hi
      refine ih (P := A ++ B) (by simp at hlen ⊢; omega) e2 (hle0.trans e3.le) n2 (fun x hx => hops x (hsub x hx)) ?_ (fun x hx => ?_) (by simpa using hls) (fun k hk => ?_) (fun k hk hkt e he => ?_) (fun x hx => ?_) (fun x hx => hown x (hsub x hx)) fun e a'' w'' hp => ?_
      · rw [List.pairwise_append]
        exact ⟨pA, pB.2, fun x hx y hy => pAB x hx y (by simp [hy])⟩
      · rw [noteE_other n1 (hne x hx)]
        exact hH x (hsub x hx)
      · by_cases hkd : k = d.idx
        · subst hkd
          constructor
          · intro h
            rw [Array.getElem?_setIfInBounds_self_of_lt (by omega)] at h
            cases h
          · rintro ⟨x, hx, h⟩
            exact absurd h (hne x hx)
        · rw [Array.getElem?_setIfInBounds_ne (Ne.symm hkd)]
          rw [hl k hk]
          constructor
          · rintro ⟨x, hx, rfl⟩
            refine ⟨x, ?_, rfl⟩
            rcases List.mem_append.1 hx with hx | hx
            · simp [hx]
            · rcases List.mem_cons.1 hx with rfl | hx
              · exact absurd rfl hkd
              · simp [hx]
          · rintro ⟨x, hx, rfl⟩
            exact ⟨x, hsub x hx, rfl⟩
      · have up : ∀ e, listed.getD e false = true → (listed.setIfInBounds d.idx true).getD e false = true := by
          intro e h1
          by_cases hed : e = d.idx
          · subst hed
            simp [Array.getD_eq_getD_getElem?, Array.getElem?_setIfInBounds, hls, hdlt]
          · rw [Array.getD_eq_getD_getElem?, Array.getElem?_setIfInBounds_ne (Ne.symm hed), ← Array.getD_eq_getD_getElem?]
            exact h1
        by_cases hkd : k = d.idx
        · subst hkd
          exact up e (hbl e he)
        · rw [Array.getElem?_setIfInBounds_ne (Ne.symm hkd)] at hkt
          exact up e (hcl k hk hkt e he)
      · obtain ⟨ox, hox, hopx⟩ := hops x (hsub x hx)
        have hxl : x.idx < all.size := (Array.getElem?_eq_some_iff.1 hox).1
        refine fresh_step hopx.comp (hf x (hsub x hx)) e3 fun r h1 h2 => ?_
        have hxd := hne x hx
        obtain ⟨u1, u2⟩ := h1
        obtain ⟨u3, u4⟩ := h2
        rcases Nat.lt_or_gt_of_ne hxd with h | h
        · have := hdis _ _ h hdlt; omega
        · have := hdis _ _ h hxl; omega
      · obtain ⟨x, G2, Lb2, F2, σ2, f1, f2, f3, f4⟩ := hp
        exact hq _ _ _ ⟨x, G2, Lb2, F2, σ2, f1, f2, f3, ((e3.mono fun r hr' => hown d (by simp) r hr').trans f4).mono fun r hr' => hr'.elim id id⟩

end
end Go.Ago

set_option autoImplicit false
set_option linter.unusedSimpArgs false
set_option linter.unusedVariables false
namespace Go.Ago

/-! ## The start of a region -/

theorem initMem_other (base : Nat) : ∀ (is : List (Nat × AObj)) (m : PM AObj) (r : Nat), (∀ p ∈ is, r ≠ base + p.1) → (initMem base is m).get r = m.get r
  | [], _, _, _ => rfl
  | (j, o) :: is, m, r, h => by
    simp only [initMem]
    rw [initMem_other base is _ r fun p hp => h p (by simp [hp])]
    exact PM.get_set_other _ _ _ _ (h (j, o) (by simp))

theorem initMem_append (base : Nat) : ∀ (is js : List (Nat × AObj)) (m : PM AObj), initMem base (is ++ js) m = initMem base js (initMem base is m)
  | [], _, _ => rfl
  | (j, o) :: is, js, m => by
    simp only [List.cons_append, initMem]
    exact initMem_append base is js _

theorem compOp_one {E : CEnv} {o : Oper} {j k : Nat} {op : AOp} {init : List (Nat × AObj)} (h : compOp E j o = some (op, k, init)) : init = [] ∨ ∃ ob, init = [(j, ob)] := by
  obtain ⟨dst, mop, ty, pos, aft, gd⟩ := o
  cases mop <;> simp only [compOp, compCall, compDefer] at h <;> (repeat' split at h) <;> first
    | contradiction
    | (cases h; done)
    | (cases h; exact .inl rfl)
    | (cases h; exact .inr ⟨_, rfl⟩)
    | (obtain ⟨y, h1, h2⟩ := bare_some h; cases h2; exact .inl rfl)
    | (obtain ⟨y, h1, h2⟩ := map_some' h; cases h2; exact .inl rfl)

theorem OpsAre.initMem {E : CEnv} {all : Array Oper} {base j j' : Nat} {os : List Oper} {aos : List AOper} {is : List (Nat × AObj)} (h : OpsAre E all j os aos j' is) : ∀ (m : PM AObj), ∀ p ∈ is, (Ago.initMem base is m).get (base + p.1) = some p.2 := by
  induction h with
  | nil j => intro m p hp; simp at hp
  | cons h r ih =>
    intro m p hp
    rw [initMem_append]
    rcases List.mem_append.1 hp with hp | hp
    · have hpl := compOp_init h.comp p hp
      rw [initMem_other base _ _ _ fun q hq => by have := r.inits q hq; omega]
      rcases compOp_one h.comp with h1 | ⟨ob, h1⟩
      · subst h1; simp at hp
      · subst h1
        simp only [List.mem_singleton] at hp
        subst hp
        simp only [Ago.initMem]
        exact PM.get_set_same ..
    · exact ih _ p hp

def noOwn : Nat → Prop := fun _ => False

section
variable {E : CEnv} {G : Gh} {Lb : Nat → Option Nat} {F : AFrame} {σ : AState} {a : Act} {w : World} {cf : CallF} {lf : Nat}

theorem WRel.congr {mem mem' : AMem} (hw : WRel G mem w) (h : ∀ r, (G.obj r ≠ none ∨ G.row r ≠ none) → mem' r = mem r) : WRel G mem' w where
  objs r b hb := let ⟨o, x, h1, h2⟩ := hw.objs r b hb; ⟨o, x, by rw [h r (.inl (by rw [hb]; simp))]; exact h1, h2⟩
  inj := hw.inj
  rows r b o cap sz sz' es lo h1 h2 := hw.rows r b o cap sz sz' es lo h1 (by rw [← h r (.inr (by rw [h1]; simp))]; exact h2)
  rowsApart r s b o cap sz o' cap' sz' x es lo x' es' lo' h1 h2 h3 h4 :=
    hw.rowsApart r s b o cap sz o' cap' sz' x es lo x' es' lo' h1 (by rw [← h r (.inr (by rw [h1]; simp))]; exact h2) h3 (by rw [← h s (.inr (by rw [h3]; simp))]; exact h4)
  rowObj r b o cap sz x es lo s h1 h2 := hw.rowObj r b o cap sz x es lo s h1 (by rw [← h r (.inr (by rw [h1]; simp))]; exact h2)
  im := hw.im
  imObj := hw.imObj

theorem start_sound (R : Rel E G Lb F σ a w) {all : Array Oper} {k : Nat} {os : List Oper} {aos : List AOper} {init : List (Nat × AObj)} (hA : OpsAre E all 0 os aos k init) :
    Rel E G Lb F (startA k init σ) a w ∧ FreshFor σ.next 0 k init G (startA k init σ) ∧
      ∀ {own : Nat → Prop} {G' : Gh} {Lb' : Nat → Option Nat} {σ' : AState} {w' : World}, (∀ r, own r → σ.next ≤ r) → Tr own G Lb (startA k init σ) w G' Lb' σ' w' → Tr noOwn G Lb σ w G' Lb' σ' w' := by
  have hget : ∀ r, r < σ.next → (startA k init σ).get r = σ.get r := fun r hr => initMem_other _ _ _ _ fun p hp => by omega
  have hlt : ∀ r, (G.obj r ≠ none ∨ G.row r ≠ none) → r < σ.next := fun r hr => by
    rcases Nat.lt_or_ge r σ.next with h | h
    · exact h
    · obtain ⟨h1, h2⟩ := R.dom r h
      rcases hr with hr | hr
      · exact absurd h1 hr
      · exact absurd h2 hr
  have hown : ∀ b, Owned G (startA k init σ).get b ↔ Owned G σ.get b := by
    intro b
    constructor
    · rintro (h | ⟨r, o, cap, sz, x, es, lo, h1, h2⟩)
      · exact .inl h
      · exact .inr ⟨r, o, cap, sz, x, es, lo, h1, by rw [← hget r (hlt r (.inr (by rw [h1]; simp)))]; exact h2⟩
    · rintro (h | ⟨r, o, cap, sz, x, es, lo, h1, h2⟩)
      · exact .inl h
      · exact .inr ⟨r, o, cap, sz, x, es, lo, h1, by rw [hget r (hlt r (.inr (by rw [h1]; simp)))]; exact h2⟩
  refine ⟨⟨R.wr.congr fun r hr => hget r (hlt r hr), fun r hr => R.dom r ?_, R.size, R.temps, R.locs, R.lbInj, fun s b h => ?_, R.dfrs⟩, ⟨fun r h1 h2 => ?_, fun p hp => ?_⟩, ?_⟩
  · have : σ.next + k ≤ r := hr
    omega
  · obtain ⟨h1, h2, h3⟩ := R.lbFree s b h
    exact ⟨fun h => h1 ((hown b).1 h), h2, h3⟩
  · obtain ⟨q1, q2⟩ := R.dom r (by omega)
    exact ⟨q1, q2, by show r < σ.next + k; omega⟩
  · exact hA.initMem _ p hp
  · intro own G' Lb' σ' w' ho hT
    refine ⟨hT.le, Nat.le_trans (Nat.le_add_right _ _) hT.next, fun r h1 h2 h3 _ => ?_, hT.size, fun b hb h1 h2 => hT.keep b hb (fun h => h1 ((hown b).1 h)) h2, fun b hb h => (hown b).1 (hT.owned b hb h), hT.lbs, fun b hb h1 o => hT.im b hb (fun h => h1 ((hown b).1 h)) o, hT.os, hT.out⟩
    obtain ⟨q1, q2, q3⟩ := hT.quiet r (Nat.lt_of_lt_of_le h1 (Nat.le_add_right _ _)) h2 h3 fun h => by have := ho r h; omega
    exact ⟨q1, q2, by rw [q3]; exact hget r h1⟩

theorem dopsOf_get {bef : List (List Nat)} {all : List AOper} : ∀ {l : List AOper} {i : Nat} {d : DOp}, d ∈ dopsOf bef all i l → i ≤ d.idx ∧ d.idx < i + l.length ∧ l[d.idx - i]? = some d.o
  | [], _, _, h => by simp [dopsOf] at h
  | o :: l, i, d, h => by
    simp only [dopsOf, List.mem_cons] at h
    rcases h with rfl | h
    · exact ⟨Nat.le_refl _, by simp [dopOf], by simp [dopOf]⟩
    · obtain ⟨h1, h2, h3⟩ := dopsOf_get h
      refine ⟨by omega, by simp; omega, ?_⟩
      rw [show d.idx - i = (d.idx - (i + 1)) + 1 by omega]
      simpa using h3

theorem dopsOf_mem {bef : List (List Nat)} {all : List AOper} : ∀ {l : List AOper} {i n : Nat}, n < l.length → ∃ d ∈ dopsOf bef all i l, d.idx = i + n
  | [], _, _, h => by simp at h
  | o :: l, i, 0, _ => ⟨_, by simp only [dopsOf, List.mem_cons]; exact .inl rfl, rfl⟩
  | o :: l, i, n + 1, h => by
    obtain ⟨d, h1, h2⟩ := dopsOf_mem (bef := bef) (all := all) (l := l) (i := i + 1) (n := n) (by simpa using h)
    exact ⟨d, by simp only [dopsOf, List.mem_cons]; exact .inr h1, by omega⟩

theorem dopsOf_length {bef : List (List Nat)} {all : List AOper} : ∀ {l : List AOper} {i : Nat}, (dopsOf bef all i l).length = l.length
  | [], _ => rfl
  | o :: l, i => by simp [dopsOf, dopsOf_length]

theorem indep_of {x y : DOp} (h : indep x y = true) (hx : (!x.stst || isSt x.o.op) = true) (hy : (!y.stst || isSt y.o.op) = true) : Indep x y := by
  unfold indep at h
  simp only [Bool.and_eq_true, Bool.not_eq_true', beq_iff_eq] at h
  obtain ⟨⟨⟨h1, h2⟩, h3⟩, h4⟩ := h
  have imp : ∀ {d : DOp}, (!d.stst || isSt d.o.op) = true → d.stst = true → isSt d.o.op = true := fun h hs => by rw [hs] at h; simpa using h
  refine ⟨fun he => by rw [he] at h1; simp at h1, h2, h3, imp hx, imp hy, fun a b => ?_, fun a b => ?_, fun a b => ?_⟩
  · rw [a, b] at h4
    simp only [Bool.and_eq_true, List.contains_iff_mem] at h4
    exact ⟨h4.1.1.1, h4.1.1.2, h4.1.2, h4.2⟩
  · rw [a, b] at h4
    simp only [Bool.and_eq_true, Bool.not_eq_true', List.contains_iff_mem] at h4
    exact ⟨h4.1.1, h4.1.2, h4.2⟩
  · rw [a, b] at h4
    simp only [Bool.and_eq_true, Bool.not_eq_true', List.contains_iff_mem] at h4
    exact ⟨h4.1.1, h4.1.2, h4.2⟩

theorem okDraw_stst {bef : List (List Nat)} : ∀ {D : List DOp}, okDraw bef D = true → ∀ d ∈ D, (!d.stst || isSt d.o.op) = true
  | [], _, d, hd => by simp at hd
  | x :: r, h, d, hd => by
    simp only [okDraw, Bool.and_eq_true] at h
    rcases List.mem_cons.1 hd with rfl | hd
    · exact h.1.1.2
    · exact okDraw_stst h.2 d hd

theorem okDraw_pairs {bef : List (List Nat)} {all : List AOper} : ∀ {l : List AOper} {i : Nat}, okDraw bef (dopsOf bef all i l) = true → (dopsOf bef all i l).Pairwise fun x y => x.idx < y.idx ∧ (x.idx ∈ bef.getD y.idx [] ∨ Indep x y)
  | [], _, _ => by simp [dopsOf]
  | o :: l, i, h => by
    have hs := okDraw_stst h
    simp only [dopsOf] at h hs ⊢
    simp only [okDraw, Bool.and_eq_true] at h
    rw [List.pairwise_cons]
    refine ⟨fun y hy => ⟨?_, ?_⟩, okDraw_pairs h.2⟩
    · have := (dopsOf_get hy).1
      show i < y.idx
      omega
    · have := List.all_eq_true.1 h.1.2 y hy
      simp only [Bool.or_eq_true, List.contains_iff_mem] at this
      rcases this with h1 | h1
      · exact .inl h1
      · exact .inr (indep_of h1 (hs _ (by simp)) (hs y (by simp [hy])))

theorem region_sound {G0 : Gh} (C : CallSim E.P G0 cf) (hle0 : Le G0 G) (hmix : E.P.follows .mixedOrders = true) {id : Nat} {ops : Array Oper} {draw : Bool} {ac : ACode} (hc : compCode E (.region id ops draw) = some ac) (R : Rel E G Lb F σ a w) {Q : AExit × AFrame × AState → Prop}
    (h : (execA cf lf ac F σ).All Q) : (Code.region id ops draw).wp E.P (CPost E noOwn G Lb σ w Q) a w := by
  simp only [compCode] at hc
  split at hc
  · rename_i l k init hl
    split at hc
    · rename_i hok
      have hA := opsAre_of hl hok
      obtain ⟨R', hf, hTr⟩ := start_sound R hA
      have hlen := hA.length
      have hown : ∀ r, ownOf σ.next 0 k r → σ.next ≤ r := fun r hr => by have := hr.1; omega
      split at hc
      · rename_i hdraw
        subst hdraw
        split at hc
        · rename_i bef hb
          split at hc
          · rename_i hokd
            cases hc
            simp only [execA] at h
            have hall := allD_of_steps h
            obtain ⟨nj, nk, ni, hn⟩ := hA.names
            obtain ⟨Rd, Td⟩ := R'.drew (w.drawn + 1) noOwn
            have hbs := befores_spec hb
            have hops : ∀ d ∈ dopsOf bef l 0 l, ∃ o, ops[d.idx]? = some o ∧ OpIs E ops o d.o (nj d.idx) (nk d.idx) (ni d.idx) ∧ 0 ≤ nj d.idx ∧ nj d.idx + nk d.idx ≤ k ∧ (∀ p ∈ ni d.idx, p ∈ init) := by
              intro d hd
              obtain ⟨h1, h2, h3⟩ := dopsOf_get hd
              rw [Nat.sub_zero] at h3
              have hlt : d.idx < ops.toList.length := by omega
              obtain ⟨q1, q2, q3, q4, _⟩ := hn d.idx _ d.o (List.getElem?_eq_getElem hlt) h3
              refine ⟨_, ?_, q1, q2, q3, q4⟩
              rw [← Array.getElem?_toList]
              exact List.getElem?_eq_getElem hlt
            have hszl : ops.size = l.length := by rw [← Array.length_toList]; exact hlen
            refine wp_region_any hmix ?_
            refine draw_sound (own := ownOf σ.next 0 k) (Q := fun F σ => Q (.normal, F, σ)) C (base := σ.next) (bef := bef) (nj := nj) (nk := nk) (ni := ni) (fun n o ho => ?_) (fun m n hmn hns => ?_) ops.size (by rw [dopsOf_length]; exact hszl.symm) Rd hle0 hall
              (fun d hd => ?_) (okDraw_pairs hokd) (fun _ _ => rfl) (by simp) (fun i hi => ?_) (fun i hi ht => ?_) (fun d hd => ?_) (fun d hd r hr => ?_) fun e a' w' hp => ?_
            · have := hbs n o (by rw [Array.getElem?_toList]; exact ho)
              simpa using this
            · have h1 : n < ops.toList.length := by simpa using hns
              have h2 : n < l.length := by omega
              exact (hn n _ _ (List.getElem?_eq_getElem h1) (List.getElem?_eq_getElem h2)).2.2.2.2 m hmn
            · obtain ⟨o, h1, h2, _⟩ := hops d hd
              exact ⟨o, h1, h2⟩
            · constructor
              · intro _
                obtain ⟨d, hd, hd2⟩ := dopsOf_mem (bef := bef) (all := l) (l := l) (i := 0) (n := i) (by omega)
                exact ⟨d, hd, by omega⟩
              · intro _
                simp [hi]
            · simp [hi] at ht
            · obtain ⟨o, h1, h2, h3, h4, h5⟩ := hops d hd
              refine ⟨fun r hr => ⟨hr, hf.1 r (by have := hr.1; omega) (by have := hr.2; omega)⟩, fun p hp => hf.2 p (h5 p hp)⟩
            · obtain ⟨o, h1, h2, h3, h4, h5⟩ := hops d hd
              exact ⟨by have := hr.1; omega, by have := hr.2; omega⟩
            · obtain ⟨x, G', Lb', F', σ', ⟨h1, h2⟩, h3, h4, h5⟩ := hp
              simp only at h1 h2
              subst h1
              exact ⟨.normal, G', Lb', F', σ', h2, h3, h4, hTr hown (((Td.mono fun r hr => hr.elim).trans h5).mono fun r hr => hr.elim (fun h => h) (fun h => h))⟩
          · cases hc
        · cases hc
      · rename_i hdraw
        cases hc
        have : draw = false := by simpa using hdraw
        subst this
        simp only [execA] at h
        refine wp_region ?_
        rw [List.range_eq_range']
        have hsz : ops.size = ops.toList.length := by simp
        rw [hsz]
        refine ops_sound (own := ownOf σ.next 0 k) C hA (fun n o hn => by rw [Nat.zero_add, ← Array.getElem?_toList]; exact hn) R' hle0 hf (fun r h1 h2 => ⟨h1, by omega⟩) h fun e a' w' hp => ?_
        obtain ⟨x, G', Lb', F', σ', h1, h2, h3, h4⟩ := hp
        exact ⟨x, G', Lb', F', σ', h1, h2, h3, hTr hown h4⟩
    · cases hc
  · cases hc

end
end Go.Ago

set_option autoImplicit false
set_option linter.unusedSimpArgs false
set_option linter.unusedVariables false
namespace Go.Ago

theorem exists_least (p : Nat → Prop) (h : ∃ n, p n) : ∃ n, p n ∧ ∀ m, p m → n ≤ m := by
  obtain ⟨n, hn⟩ := h
  induction n using Nat.strongRecOn with
  | _ n ih =>
    by_cases hm : ∃ m, m < n ∧ p m
    · obtain ⟨m, h1, h2⟩ := hm
      exact ih m h1 h2
    · refine ⟨n, hn, fun m hm2 => ?_⟩
      rcases Nat.lt_or_ge m n with h | h
      · exact absurd ⟨m, h, hm2⟩ hm
      · exact h

section
variable {E : CEnv} {cf : CallF} {lf : Nat}

theorem CPost.of {G G1 : Gh} {Lb Lb1 : Nat → Option Nat} {σ σ1 : AState} {w w1 : World} {Q : AExit × AFrame × AState → Prop} {e : Exit} {a' : Act} {w' : World} (hT : Tr noOwn G Lb σ w G1 Lb1 σ1 w1) (h : CPost E noOwn G1 Lb1 σ1 w1 Q e a' w') : CPost E noOwn G Lb σ w Q e a' w' := by
  obtain ⟨x, G', Lb', F', σ', h1, h2, h3, h4⟩ := h
  exact ⟨x, G', Lb', F', σ', h1, h2, h3, (hT.trans h4).mono fun r hr => hr.elim id id⟩

theorem exec_sound {G0 : Gh} (C : CallSim E.P G0 cf) (hmix : E.P.follows .mixedOrders = true) : ∀ (c : Code) {ac : ACode} {G : Gh} {Lb : Nat → Option Nat} {F : AFrame} {σ : AState} {a : Act} {w : World} {Q : AExit × AFrame × AState → Prop}, compCode E c = some ac → Rel E G Lb F σ a w → Le G0 G →
    (execA cf lf ac F σ).All Q → c.wp E.P (CPost E noOwn G Lb σ w Q) a w := by
  intro c
  induction c with
  | skip =>
    intro ac G Lb F σ a w Q hc R hle0 h
    cases hc
    exact wp_skip ⟨.normal, G, Lb, F, σ, h, rfl, R, Tr.refl _ _ _ _ _⟩
  | region id ops draw =>
    intro ac G Lb F σ a w Q hc R hle0 h
    exact region_sound C hle0 hmix hc R h
  | seq x y ihx ihy =>
    intro ac G Lb F σ a w Q hc R hle0 h
    simp only [compCode] at hc
    split at hc
    · rename_i ax ay hx hy
      cases hc
      simp only [execA] at h
      rw [Out.all_bind] at h
      refine wp_seq (wp_mono (ihx hx R hle0 h) fun e a' w' hp => ?_)
      obtain ⟨r, G', Lb', F', σ', h1, h2, h3, h4⟩ := hp
      cases r with
      | normal =>
        have he : e = .normal := h2
        subst he
        exact wp_mono (ihy hy h3 (hle0.trans h4.le) h1) fun e a'' w'' hp => CPost.of h4 hp
      | exit id =>
        have he : e = .exit id := h2
        subst he
        exact ⟨.exit id, G', Lb', F', σ', h1, rfl, h3, h4⟩
      | ret =>
        have he : e = .ret := h2
        subst he
        exact ⟨.ret, G', Lb', F', σ', h1, rfl, h3, h4⟩
      | pan v =>
        obtain ⟨x, rfl, hx⟩ := h2
        exact ⟨.pan v, G', Lb', F', σ', h1, ⟨x, rfl, hx⟩, h3, h4⟩
    · cases hc
  | cond c x y ihx ihy =>
    intro ac G Lb F σ a w Q hc R hle0 h
    simp only [compCode] at hc
    split at hc
    · rename_i c' ax ay h1 hx hy
      cases hc
      simp only [execA] at h
      split at h
      · rename_i t ht
        have hv := R.opd h1 ht
        simp only [VRel] at hv
        refine wp_cond hv ?_
        cases t with
        | true => exact ihx hx R hle0 h
        | false => exact ihy hy R hle0 h
      · exact h.elim
    · cases hc
  | block id c ih =>
    intro ac G Lb F σ a w Q hc R hle0 h
    simp only [compCode] at hc
    cases hx : compCode E c with
    | none => rw [hx] at hc; cases hc
    | some ax =>
      rw [hx] at hc
      cases hc
      simp only [execA] at h
      rw [Out.all_bind] at h
      refine wp_block (wp_mono (ih hx R hle0 h) fun e a' w' hp => ?_)
      obtain ⟨r, G', Lb', F', σ', h1, h2, h3, h4⟩ := hp
      cases r with
      | normal =>
        have he : e = .normal := h2
        subst he
        exact ⟨.normal, G', Lb', F', σ', h1, rfl, h3, h4⟩
      | exit j =>
        have he : e = .exit j := h2
        subst he
        simp only [Exit.inBlock]
        by_cases hj : j = id
        · subst hj
          rw [if_pos rfl]
          have hb : Nat.beq j j = true := Nat.beq_refl j
          simp only [hb, cond_true] at h1
          exact ⟨.normal, G', Lb', F', σ', h1, rfl, h3, h4⟩
        · rw [if_neg hj]
          simp only [PM.beq_no hj, cond_false] at h1
          exact ⟨.exit j, G', Lb', F', σ', h1, rfl, h3, h4⟩
      | ret =>
        have he : e = .ret := h2
        subst he
        exact ⟨.ret, G', Lb', F', σ', h1, rfl, h3, h4⟩
      | pan v =>
        obtain ⟨x, rfl, hx⟩ := h2
        exact ⟨.pan v, G', Lb', F', σ', h1, ⟨x, rfl, hx⟩, h3, h4⟩
  | loop c ih =>
    intro ac G Lb F σ a w Q hc R hle0 h
    simp only [compCode] at hc
    cases hx : compCode E c with
    | none => rw [hx] at hc; cases hc
    | some ax =>
      rw [hx] at hc
      cases hc
      simp only [execA] at h
      let J : Nat → Act → World → Prop := fun n a' w' => ∃ G' Lb' F' σ', Rel E G' Lb' F' σ' a' w' ∧ Tr noOwn G Lb σ w G' Lb' σ' w' ∧ (iterA (execA cf lf ax) n F' σ').All Q
      let I : Act → World → Prop := fun a' w' => ∃ n, J n a' w'
      let μ : Act → World → Nat := fun a' w' => open Classical in if hI : I a' w' then (exists_least _ hI).choose else 0
      have hμ : ∀ a' w' (hI : I a' w'), J (μ a' w') a' w' ∧ ∀ m, J m a' w' → μ a' w' ≤ m := by
        intro a' w' hI
        have hs := (exists_least (fun n => J n a' w') hI).choose_spec
        have he : μ a' w' = (exists_least (fun n => J n a' w') hI).choose := by
          show (open Classical in if hI : I a' w' then (exists_least _ hI).choose else 0) = _
          rw [dif_pos hI]
        rw [he]
        exact hs
      refine wp_loop I μ ⟨lf, G, Lb, F, σ, R, Tr.refl _ _ _ _ _, h⟩ fun a1 w1 hI => ?_
      obtain ⟨hJ, hleast⟩ := hμ a1 w1 hI
      cases hn : μ a1 w1 with
      | zero =>
        rw [hn] at hJ
        obtain ⟨G1, Lb1, F1, σ1, R1, T1, h1⟩ := hJ
        exact h1.elim
      | succ n =>
        rw [hn] at hJ
        obtain ⟨G1, Lb1, F1, σ1, R1, T1, h1⟩ := hJ
        simp only [iterA] at h1
        rw [Out.all_bind] at h1
        refine wp_mono (ih hx R1 (hle0.trans T1.le) h1) fun e a' w' hp => ?_
        obtain ⟨r, G', Lb', F', σ', h1, h2, h3, h4⟩ := hp
        have hT := (T1.trans h4).mono (own' := noOwn) fun r hr => hr.elim id id
        cases r with
        | normal =>
          have he : e = .normal := h2
          subst he
          have hJ' : J n a' w' := ⟨G', Lb', F', σ', h3, hT, h1⟩
          refine ⟨⟨n, hJ'⟩, ?_⟩
          have := (hμ a' w' ⟨n, hJ'⟩).2 n hJ'
          omega
        | exit j =>
          have he : e = .exit j := h2
          subst he
          exact ⟨.exit j, G', Lb', F', σ', h1, rfl, h3, hT⟩
        | ret =>
          have he : e = .ret := h2
          subst he
          exact ⟨.ret, G', Lb', F', σ', h1, rfl, h3, hT⟩
        | pan v =>
          obtain ⟨x, rfl, hx⟩ := h2
          exact ⟨.pan v, G', Lb', F', σ', h1, ⟨x, rfl, hx⟩, h3, hT⟩
  | exit id =>
    intro ac G Lb F σ a w Q hc R hle0 h
    cases hc
    exact wp_exit ⟨.exit id, G, Lb, F, σ, h, rfl, R, Tr.refl _ _ _ _ _⟩
  | ret =>
    intro ac G Lb F σ a w Q hc R hle0 h
    cases hc
    exact wp_ret ⟨.ret, G, Lb, F, σ, h, rfl, R, Tr.refl _ _ _ _ _⟩
  | _ =>
    intro ac G Lb F σ a w Q hc R hle0 h
    simp [compCode] at hc

end
end Go.Ago

set_option autoImplicit false
set_option linter.unusedSimpArgs false
set_option linter.unusedVariables false
namespace Go.Ago

theorem run_listMapM {P : Program} {w : World} {α β : Type} {f : α → Sem β} : ∀ {as : List α} {vs : List β}, vs.length = as.length → (∀ (i : Nat) x y, as[i]? = some x → vs[i]? = some y → (f x).run P w = .ok y w) →
    (as.mapM f).run P w = .ok vs w
  | [], vs, hl, _ => by
    have : vs = [] := List.length_eq_zero_iff.1 hl
    subst this
    simp
  | a :: as, [], hl, _ => by simp at hl
  | a :: as, v :: vs, hl, h => by
    have ih := run_listMapM (as := as) (vs := vs) (by simpa using hl) fun i x y hx hy => h (i + 1) x y (by simpa using hx) (by simpa using hy)
    have h0 := h 0 a v rfl rfl
    simp [h0, ih]

theorem run_mapM {P : Program} {w : World} {α β : Type} {f : α → Sem β} {as : Array α} {vs : List β} (hl : vs.length = as.size) (h : ∀ (i : Nat) x y, as[i]? = some x → vs[i]? = some y → (f x).run P w = .ok y w) :
    (as.mapM f).run P w = .ok vs.toArray w := by
  obtain ⟨l⟩ := as
  have := run_listMapM (P := P) (w := w) (f := f) (as := l) (vs := vs) (by simpa using hl) fun i x y hx hy => h i x y (by simpa using hx) hy
  rw [List.mapM_toArray]
  simp [this]

section
variable {E : CEnv} {cf : CallF} {G : Gh} {Lb : Nat → Option Nat} {F : AFrame} {σ : AState} {a : Act} {w : World}

/-- One result. -/
def oneRes (tmps : Array Value) : ResultVar → Sem Value
  | .tmp t => pure (tmps.getD t undef)
  | .cell a t => do loadVar t (← asAddr (tmps.getD a undef))

theorem res_sound (R : Rel E G Lb F σ a w) : ∀ {rs : List ResultVar} {ars : List ARes} {vs : List AVal}, travO (compRes E) rs = some ars → resultsOf F σ ars = some vs →
    ∃ xs, VRels G vs xs ∧ xs.length = rs.length ∧ ∀ (i : Nat) r x, rs[i]? = some r → xs[i]? = some x → (oneRes a.tmps r).run E.P w = .ok x w
  | [], ars, vs, hc, h => by
    simp only [travO, Option.some.injEq] at hc
    subst hc
    simp only [resultsOf, Option.some.injEq] at h
    subst h
    exact ⟨[], vrels_nil.2 rfl, rfl, fun i r x h => by simp at h⟩
  | r :: rs, ars, vs, hc, h => by
    simp only [travO] at hc
    split at hc
    · rename_i ar l h1 h2
      cases hc
      have cons : ∀ {v : AVal} {l' : List AVal} {x : Value}, resultsOf F σ l = some l' → vs = v :: l' → VRel G v x → (oneRes a.tmps r).run E.P w = .ok x w →
          ∃ xs, VRels G vs xs ∧ xs.length = (r :: rs).length ∧ ∀ (i : Nat) r' x, (r :: rs)[i]? = some r' → xs[i]? = some x → (oneRes a.tmps r').run E.P w = .ok x w := by
        intro v l' x hl hv hx hrun
        obtain ⟨xs, e1, e2, e3⟩ := res_sound R h2 hl
        subst hv
        refine ⟨x :: xs, vrels_cons.2 ⟨_, _, rfl, hx, e1⟩, by simp [e2], fun i r' y hi hy => ?_⟩
        cases i with
        | zero => simp at hi hy; subst hi; subst hy; exact hrun
        | succ i => exact e3 i r' y (by simpa using hi) (by simpa using hy)
      cases r with
      | tmp t =>
        simp only [compRes] at h1
        split at h1
        · cases h1
        · cases h1
          simp only [resultsOf] at h
          split at h
          · rename_i v l' hv hl
            cases h
            have := R.opd (x := .tmp t) (y := .t t) rfl hv
            exact cons hl rfl this (by simp [oneRes, Act.eval])
          · cases h
      | cell c t =>
        simp only [compRes] at h1
        split at h1
        · rename_i n g s hlay hs
          split at h1
          · rename_i he
            subst he
            cases h1
            simp only [resultsOf] at h
            split at h
            · rename_i s' cs l' ht hL hl
              cases hb : Nat.beq s s' with
              | false => rw [hb] at h; cases h
              | true =>
                rw [hb] at h
                have hse := Nat.eq_of_beq_eq_true hb
                subst hse
                simp only [cond_true] at h
                cases htk : takeCells cs 0 n g with
                | none => rw [htk] at h; cases h
                | some v =>
                  rw [htk] at h
                  cases h
                  obtain ⟨_, b, hb1, hb2⟩ := R.lptr ht
                  obtain ⟨b', cc, t', f1, f2, f3⟩ := R.locs s cs hL
                  rw [hb1] at f1; cases f1
                  obtain ⟨x, g1, g2⟩ := takeCells_rel (P := E.P) (w := w) (b := b) (o := 0) hlay f3 htk (fun j x hj => by
                    simp only [World.cell?, f2, Option.isSome_none, Bool.false_eq_true, if_false, Nat.zero_add]
                    simpa using hj)
                  exact cons hl rfl g2 (by simp [oneRes, hb2, asAddr, g1])
            · cases h
          · cases h1
        · rename_i n g hlay hs
          cases h1
          simp only [resultsOf] at h
          split at h
          · rename_i v l' hv hl
            cases h
            obtain ⟨x, g1, g2⟩ := rd_load (dst := none) (ty := 0) (pos := "") (aft := #[]) (gd := none) R (x := .tmp c) (y := .t c) hlay rfl hv
            have hrun : (oneRes a.tmps (.cell c t)).run E.P w = .ok x w := by
              simp only [execOp, Instr.loadAt, Sem.run_bind, Act.eval] at g1
              simp only [oneRes, Sem.run_bind]
              generalize a.tmps.getD c undef = u at g1 ⊢
              cases u with
              | pointer p =>
                cases p with
                | none => simp [Instr.sureAddr] at g1
                | some p =>
                  simp only [Instr.sureAddr, asAddr, Sem.run_pure, Result.andThen_ok] at g1 ⊢
                  cases hr : (loadVar t p).run E.P w with
                  | ok y w' =>
                    rw [hr] at g1
                    simp only [Result.andThen_ok, Result.ok.injEq, Next.value.injEq] at g1
                    rw [g1.1, g1.2]
                  | halt y w' => rw [hr] at g1; simp at g1
              | _ => simp [Instr.sureAddr] at g1
            exact cons hl rfl g2 hrun
          · cases h
        · cases h1
    · cases hc

end
end Go.Ago

set_option autoImplicit false
set_option linter.unusedSimpArgs false
set_option linter.unusedVariables false
namespace Go.Ago

section
variable {E : CEnv} {cf : CallF} {G : Gh} {Lb : Nat → Option Nat} {F : AFrame} {σ : AState} {a : Act} {w : World}

theorem results_sound (R : Rel E G Lb F σ a w) {fn : Func} {ars : List ARes} {vs : List AVal} (hc : travO (compRes E) fn.results.toList = some ars) (h : resultsOf F σ ars = some vs) :
    ∃ x, (results fn a.tmps).run E.P w = .ok x w ∧ VRel G (oneOf vs) x := by
  obtain ⟨xs, h1, h2, h3⟩ := res_sound R hc h
  have hm : (fn.results.mapM (oneRes a.tmps)).run E.P w = .ok xs.toArray w := run_mapM (by simpa using h2) fun i r x hr hx => h3 i r x (by rw [Array.getElem?_toList]; exact hr) hx
  have hf : results fn a.tmps = (do
      let vs ← fn.results.mapM (oneRes a.tmps)
      pure (if h : vs.size = 1 then vs[0] else .tuple vs)) := by
    unfold results
    congr 2
  rw [hf]
  simp only [Sem.run_bind, hm, Result.andThen_ok, Sem.run_pure]
  refine ⟨_, rfl, ?_⟩
  match vs, xs, h1 with
  | [], xs, h1 =>
    have : xs = [] := vrels_nil.1 h1
    subst this
    simp only [oneOf]
    rw [dif_neg (by simp)]
    simp only [VRel]
    exact ⟨_, rfl, by simpa using h1⟩
  | [v], xs, h1 =>
    obtain ⟨x, m, rfl, e1, e2⟩ := vrels_cons.1 h1
    have : m = [] := vrels_nil.1 e2
    subst this
    simp only [oneOf]
    rw [dif_pos (by simp)]
    exact e1
  | v :: u :: vs, xs, h1 =>
    have hl := h1.length
    simp only [oneOf]
    rw [dif_neg (by simp [hl])]
    simp only [VRel]
    exact ⟨_, rfl, by simpa using h1⟩

theorem leaves_sound {G0 : Gh} (C : CallSim E.P G0 cf) {fn : Func} {RR : Ending → World → Prop} {T : AState → Prop} : ∀ {D : List ADefer} {ds : List Deferred} {G : Gh} {σ : AState} {w : World}, WRel G σ.get w → Le G0 G → Dom G σ → DRels G D ds → (defersA cf D σ).All T →
    (∀ G' σ' w', T σ' → WRel G' σ'.get w' → Dom G' σ' → Tr noOwn G noLb σ w G' noLb σ' w' → ∃ v, (results fn a.tmps).run E.P w' = .ok v w' ∧ RR (.returned v) w') → Leaves E.P fn a.tmps RR ds .returning w
  | [], ds, G, σ, w, hw, hle, hd, hD, h, hk => by
    have : ds = [] := hD
    subst this
    exact hk G σ w h hw hd (Tr.refl _ _ _ _ _)
  | d :: D, ds, G, σ, w, hw, hle, hd, hD, h, hk => by
    obtain ⟨x, m, cap, rfl, h1, h2, h3⟩ := hD
    obtain ⟨t, dargs⟩ := x
    simp only at h1 h2
    subst h1
    simp only [defersA] at h
    rw [Out.all_bind] at h
    obtain ⟨hent, hcall⟩ := C.dcall d.fn d.args σ _ h G w (dargs ++ cap) hle h2 hw hd
    refine leaves_cons (f := d.fn) (args := dargs ++ cap) (by simp) (by simp [invoke, run_callFunc hent]) (hcall.mono fun e u' w' hp => ?_)
    obtain ⟨rfl, r, σ', G', hq, hrel, hw', hd', hT⟩ := hp
    cases r with
    | ret v =>
      obtain ⟨x, rfl, hx⟩ := hrel
      simp only [settle]
      refine leaves_sound C hw' (hle.trans hT.le) hd' (h3.mono hT.le) hq fun G2 σ2 w2 k1 k2 k3 k4 => ?_
      exact hk G2 σ2 w2 k1 k2 k3 (((hT.mono (own' := noOwn) fun _ h => h).trans k4).mono fun r hr => hr.elim id id)
    | pan v => exact hq.elim

end

/-! ## A body -/

/-- What a compiled function is of. -/
structure CompIs (P : Program) (f : FuncId) (af : AFunc) (fn : Func) (c : Code) (E : CEnv) : Prop where
  isFn : P.funcs[f]? = some fn
  body : fn.body = some c
  env : E.P = P
  code : compCode E c = some af.code
  res : travO (compRes E) fn.results.toList = some af.results
  nargs : af.nargs = fn.params.size + fn.nfree
  ntmps : af.ntmps = fn.ntmps
  le : fn.params.size + fn.nfree ≤ fn.ntmps
  name : (fn.name == "runtime.NumGoroutine") = false

theorem compIs_of {P : Program} {frz : Bool} {f : FuncId} {af : AFunc} (h : compFunc P frz f = some af) : ∃ fn c E, CompIs P f af fn c E := by
  unfold compFunc at h
  split at h
  · cases h
  · rename_i fn hf
    split at h
    · cases h
    · rename_i c hb
      simp only at h
      split at h
      · rename_i code rs h1 h2
        split at h
        · rename_i h3
          cases h
          exact ⟨fn, c, _, hf, hb, rfl, h1, h2, rfl, rfl, h3.1, h3.2⟩
        · cases h
      · cases h

theorem CompIs.enterable {P : Program} {f : FuncId} {af : AFunc} {fn : Func} {c : Code} {E : CEnv} (h : CompIs P f af fn c E) : Enterable P f := ⟨fn, c, h.isFn, h.body, h.name⟩

section
variable {P : Program} {cf : CallF} {lf : Nat} {G : Gh} {σ : AState} {w : World}

/-- The frame at its start. -/
theorem start_frame (E : CEnv) {args : List AVal} {vargs : Array Value} {n : Nat} (hv : VRels G args vargs.toList) (hw : WRel G σ.get w) (hd : Dom G σ) :
    Rel E G noLb ⟨TM.ofArgs args n, .nil, []⟩ σ { tmps := vargs ++ Array.replicate (n - vargs.size) undef, defers := [] } w := by
  have hl : vargs.size = args.length := by simpa using hv.length
  refine ⟨hw, hd, by simp [hl, TM.ofArgs_n], fun t v x h1 h2 => ?_, fun s cs h => by simp [lookL, PM.get_nil] at h, fun s u b h => by simp [noLb] at h, fun s b h => by simp [noLb] at h, rfl⟩
  have hall : VRels G (args ++ List.replicate (n - args.length) undefA) (vargs.toList ++ List.replicate (n - args.length) undef) := hv.append (VRels.replicate vrel_undef _)
  have h2' : (vargs.toList ++ List.replicate (n - args.length) undef)[t]? = some x := by
    rw [← h2, ← Array.getElem?_toList]
    simp [hl]
  rw [TM.ofArgs_get] at h1
  obtain ⟨y, h3, h4⟩ := hall.get h1
  rw [h2'] at h3
  cases h3
  cases v <;> first
    | exact h4
    | (simp only [VRel] at h4; done)
    | (simp only [VRel] at h4; exact h4.elim)

/-- What leaving comes to. -/
theorem leave_sound {E : CEnv} {F : AFrame} {Lb : Nat → Option Nat} {a : Act} {GG : Gh} (C : CallSim E.P GG cf) (hle : Le GG G) {fn : Func} {af : AFunc} (hres : travO (compRes E) fn.results.toList = some af.results) {G0 : Gh} {σ0 : AState} {w0 : World} (R : Rel E G Lb F σ a w)
    (hT : Tr noOwn G0 noLb σ0 w0 G Lb σ w) {Q : ARet × AState → Prop} (h : (leaveA cf af F σ).All Q) : Leaves E.P fn a.tmps (RetPost Q G0 σ0 w0) a.defers .returning w := by
  unfold leaveA at h
  rw [Out.all_bind] at h
  refine leaves_sound C R.wr hle R.dom R.dfrs h fun G' σ' w' hk hw' hd' hT' => ?_
  obtain ⟨R', T'⟩ := R.of_tr hT' hw' hd'
  split at hk
  · rename_i vs hvs
    obtain ⟨x, hx1, hx2⟩ := results_sound R' hres hvs
    refine ⟨x, hx1, ?_⟩
    have hbase : Tr noOwn G0 noLb σ0 w0 G' noLb σ' w' := by
      have h2 := (hT.trans T').mono (own' := noOwn) fun r hr => hr.elim id id
      exact ⟨h2.le, h2.next, h2.quiet, h2.size, h2.keep, h2.owned, fun _ _ h _ => h, h2.im, h2.os, h2.out⟩
    cases hf : af.frz with
    | false =>
      rw [hf] at hk
      exact ⟨.ret (oneOf vs), σ', G', hk, ⟨x, rfl, hx2⟩, hw', hd', hbase⟩
    | true =>
      rw [hf] at hk
      simp only [cond_true] at hk
      split at hk
      · rename_i v σ2 hfr
        obtain ⟨G2, e1, e2, e3, e4⟩ := freeze_sound hw' hd' hx2 hfr noOwn
        exact ⟨.ret v, σ2, G2, hk, ⟨x, rfl, e1⟩, e2, e3, (hbase.trans e4).mono fun r hr => hr.elim id id⟩
      · exact hk.elim
  · exact hk.elim

theorem noDefers_nil {D : List ADefer} (h : noDefers D = true) : D = [] := by
  cases D <;> simp [noDefers] at h
  rfl

theorem body_sound {G0 : Gh} (C : CallSim P G0 cf) (hle : Le G0 G) (hmix : P.follows .mixedOrders = true) {f : FuncId} {af : AFunc} {fn : Func} {c : Code} {E : CEnv} (K : CompIs P f af fn c E) {d : Bool} {args : List AVal} {vargs : Array Value} (hv : VRels G args vargs.toList) (hw : WRel G σ.get w) (hd : Dom G σ)
    {Q : ARet × AState → Prop} (h : (bodyA cf lf d af args σ).All Q) :
    Calls P f vargs w (RetPost Q G σ w) ∧ (d = true → CallsD P f vargs .returning w fun e u' w' => u' = .returning ∧ RetPost Q G σ w e w') := by
  have hP := K.env
  subst hP
  unfold bodyA at h
  cases hb : Nat.beq args.length af.nargs with
  | false => rw [hb] at h; exact h.elim
  | true =>
    rw [hb] at h
    simp only [cond_true] at h
    rw [Out.all_bind] at h
    have R0 := start_frame (n := af.ntmps) E hv hw hd
    rw [K.ntmps] at R0 h
    have hwp := exec_sound C hmix c K.code R0 hle h
    have post : ∀ e a' w', CPost E noOwn G noLb σ w (fun r => Out.All Q (match r with
        | (.normal, F, σ) | (.ret, F, σ) => bif d && !noDefers F.D then .fail else leaveA cf af F σ
        | (.pan v, F, σ) => bif noDefers F.D then .done (.pan v, σ) else .fail
        | _ => .fail)) e a' w' → bodyPostD E.P fn (RetPost Q G σ w) e a' w' ∧ (d = true → bodyPost E.P fn (RetPost Q G σ w) e a' w') := by
      intro e a' w' hp
      obtain ⟨x, G', Lb', F', σ', h1, h2, h3, h4⟩ := hp
      have fin : Out.All Q (bif d && !noDefers F'.D then .fail else leaveA cf af F' σ') → Leaves E.P fn a'.tmps (RetPost Q G σ w) a'.defers .returning w' ∧ (d = true → a'.defers = [] ∧ ∃ v, (results fn a'.tmps).run E.P w' = .ok v w' ∧ RetPost Q G σ w (.returned v) w') := by
        intro hq
        cases hdd : (d && !noDefers F'.D) with
        | true => rw [hdd] at hq; exact hq.elim
        | false =>
          rw [hdd] at hq
          have hl := leave_sound C (hle.trans h4.le) K.res h3 h4 hq
          refine ⟨hl, fun ht => ?_⟩
          subst ht
          simp only [Bool.true_and, Bool.not_eq_false'] at hdd
          have hD := noDefers_nil hdd
          have hds : a'.defers = [] := by
            have := h3.dfrs
            rw [hD] at this
            exact this
          rw [hds] at hl
          exact ⟨hds, hl⟩
      cases x with
      | normal =>
        have he : e = .normal := h2
        subst he
        exact fin h1
      | ret =>
        have he : e = .ret := h2
        subst he
        exact fin h1
      | exit id => exact h1.elim
      | pan v =>
        obtain ⟨x, rfl, hx⟩ := h2
        simp only at h1
        cases hnd : noDefers F'.D with
        | false => rw [hnd] at h1; exact h1.elim
        | true =>
          rw [hnd] at h1
          have hD := noDefers_nil hnd
          have hds : a'.defers = [] := by
            have := h3.dfrs
            rw [hD] at this
            exact this
          have hret : RetPost Q G σ w (.panicked [{ v := x, recovered := false }]) w' :=
            ⟨.pan v, σ', G', h1, ⟨x, rfl, hx⟩, h3.wr, h3.dom, ⟨h4.le, h4.next, h4.quiet, h4.size, h4.keep, h4.owned, fun _ _ h _ => h, h4.im, h4.os, h4.out⟩⟩
          refine ⟨?_, fun _ => ⟨hds, hret⟩⟩
          show Leaves E.P fn a'.tmps _ a'.defers (.panicking _) w'
          rw [hds]
          exact hret
    refine ⟨calls_of_wp_defers K.isFn K.body (wp_mono hwp fun e a' w' hp => (post e a' w' hp).1), fun ht => ?_⟩
    exact callsD_of_wp K.isFn K.body (wp_mono hwp fun e a' w' hp => (post e a' w' hp).2 ht)

end
end Go.Ago

set_option autoImplicit false
set_option linter.unusedSimpArgs false
set_option linter.unusedVariables false
namespace Go.Ago

theorem callA_sound {P : Program} {G0 : Gh} (hmix : P.follows .mixedOrders = true) {own : CallF → CallF} (hown : ∀ cf, CallSim P G0 cf → CallSim P G0 (own cf)) {fs : FuncId → Option AFunc} (hfs : ∀ f af, fs f = some af → ∃ fn c E, CompIs P f af fn c E) (lf : Nat) :
    ∀ n, CallSim P G0 (callA own fs lf n)
  | 0 => ⟨fun _ _ _ _ h => h.elim, fun _ _ _ _ h => h.elim⟩
  | n + 1 => by
    have ih := callA_sound hmix hown hfs lf n
    refine hown _ ⟨fun f args σ Q h G w vargs hle hv hw hd => ?_, fun f args σ Q h G w vargs hle hv hw hd => ?_⟩
    · cases hf : fs f with
      | none => rw [hf] at h; exact h.elim
      | some af =>
        rw [hf] at h
        obtain ⟨fn, c, E, K⟩ := hfs f af hf
        exact ⟨K.enterable, (body_sound ih hle hmix K hv hw hd h).1⟩
    · cases hf : fs f with
      | none => rw [hf] at h; exact h.elim
      | some af =>
        rw [hf] at h
        obtain ⟨fn, c, E, K⟩ := hfs f af hf
        exact ⟨K.enterable, (body_sound ih hle hmix K hv hw hd h).2 rfl⟩

/-- Nothing is named; some cells of the world are never written. -/
def imG (im : Nat → Nat → Option Value) : Gh := ⟨fun _ => none, fun _ => none, im⟩
def emptyA : AState := ⟨0, .nil⟩

theorem imRel {im : Nat → Nat → Option Value} {w : World} (h : ∀ b o v, im b o = some v → w.cell? ⟨b, o, none⟩ = some v) : WRel (imG im) emptyA.get w ∧ Dom (imG im) emptyA := by
  refine ⟨⟨?_, ?_, ?_, ?_, ?_, h, ?_⟩, fun _ _ => ⟨rfl, rfl⟩⟩
  · intro r b h; simp [imG] at h
  · intro r s b h; simp [imG] at h
  · intro r b o cap sz sz' es lo h; simp [imG] at h
  · intro r s b o cap sz o' cap' sz' x es lo x' es' lo' h; simp [imG] at h
  · intro r b o cap sz x es lo s h; simp [imG] at h
  · intro b o v s _; simp [imG]

theorem grown_of {W W' : World} (h : ∀ b, b < W.heap.size → W'.heap[b]? = W.heap[b]?) (hs : W.heap.size ≤ W'.heap.size) (ho : W'.os = W.os) (hu : W'.output = W.output) (hf : ∀ a, W'.frozen? a = W.frozen? a) : Go.RowKit.Grown W W' := by
  refine ⟨⟨ho, hu, fun i hi => ?_⟩, hf, hs⟩
  rw [h i hi]
  exact (World.keptBut_refl W (fun _ => False)).2.2 i hi

/-- A function of no arguments that comes to `true`. -/
theorem calls_true {P : Program} {cf : CallF} {im : Nat → Nat → Option Value} (C : CallSim P (imG im) cf) {f : FuncId} (h : (cf false f [] emptyA).All fun r => r.1 = .ret (.bool true)) {W : World} (him : ∀ b o v, im b o = some v → W.cell? ⟨b, o, none⟩ = some v) :
    Calls P f #[] W fun e W' => e = .returned (.bool true) ∧ Go.RowKit.Grown W W' := by
  obtain ⟨hw, hd⟩ := imRel him
  refine (C.call f [] emptyA _ h (imG im) W #[] (Le.refl _) (by simp [vrels_nil]) hw hd).2.mono fun e W' hp => ?_
  obtain ⟨r, σ', G', hq, hrel, hw', hd', hT⟩ := hp
  simp only at hq
  subst hq
  obtain ⟨x, rfl, hx⟩ := hrel
  simp only [VRel] at hx
  subst hx
  refine ⟨rfl, grown_of (fun b hb => hT.keep b hb ?_ (fun s => by simp [noLb])) hT.size hT.os hT.out.out hT.out.frz⟩
  rintro (⟨r, h⟩ | ⟨r, o, cap, sz, y, es, lo, h, _⟩) <;> simp [imG] at h

end Go.Ago

set_option autoImplicit false
set_option linter.unusedSimpArgs false
set_option linter.unusedVariables false
namespace Go.Ago

/-- A string of bytes. -/
def bs (l : List Nat) : ByteArray := ⟨(l.map Nat.toUInt8).toArray⟩

def tblOf (l : List (Nat × AFunc)) : PM AFunc := l.foldl (fun t p => t.set p.1 p.2) .nil

theorem tblOf_get_aux {l : List (Nat × AFunc)} : ∀ {t : PM AFunc} {f : Nat} {af : AFunc}, (l.foldl (fun t p => t.set p.1 p.2) t).get f = some af → t.get f = some af ∨ (f, af) ∈ l := by
  induction l with
  | nil => intro t f af h; exact .inl h
  | cons p l ih =>
    intro t f af h
    rcases ih h with h | h
    · rw [PM.get_set] at h
      split at h
      · rename_i he
        cases h
        subst he
        exact .inr (by simp)
      · exact .inl h
    · exact .inr (by simp [h])

theorem tblOf_get {l : List (Nat × AFunc)} {f : Nat} {af : AFunc} (h : (tblOf l).get f = some af) : (f, af) ∈ l := by
  rcases tblOf_get_aux h with h | h
  · cases h
  · exact h

def okTrue : Out (ARet × AState) → Bool
  | .done (.ret (.bool b), _) => b
  | .choose n k => Nat.blt 0 n && (List.range n).all fun i => okTrue (k i)
  | _ => false

theorem all_of_okTrue : ∀ {o : Out (ARet × AState)}, okTrue o = true → o.All fun r => r.1 = .ret (.bool true)
  | .done (.ret v, σ), h => by
    cases v <;> simp only [okTrue] at h <;> first
      | contradiction
      | (subst h; rfl)
  | .done (.pan v, σ), h => by simp only [okTrue] at h; contradiction
  | .fail, h => by simp only [okTrue] at h; contradiction
  | .choose n k, h => by
    simp only [okTrue, Bool.and_eq_true, List.all_eq_true, List.mem_range] at h
    exact ⟨Nat.le_of_ble_eq_true h.1, fun i hi => all_of_okTrue (h.2 i hi)⟩

/-- A function of no arguments whose closed run comes to `true`. -/
theorem calls_okTrue {P : Program} {cf : CallF} {im : Nat → Nat → Option Value} (C : CallSim P (imG im) cf) {f : FuncId} (h : okTrue (cf false f [] emptyA) = true) {W : World} (him : ∀ b o v, im b o = some v → W.cell? ⟨b, o, none⟩ = some v) :
    Calls P f #[] W fun e W' => e = .returned (.bool true) ∧ Go.RowKit.Grown W W' :=
  calls_true C (all_of_okTrue h) him

end Go.Ago

set_option autoImplicit false
set_option linter.unusedSimpArgs false
set_option linter.unusedVariables false
namespace Go.Ago

/-- A function that looks at nothing in memory and leaves it as it is, told by what it gives. `d`: for a deferred call. -/
def primA (f0 : FuncId) (d0 : Bool) (g : List AVal → Option AVal) (cf : CallF) : CallF := fun d f args σ =>
  bif Nat.beq f f0 then (bif d == d0 then (match g args with
    | some v => .done (.ret v, σ)
    | none => .fail) else .fail)
  else cf d f args σ

theorem retPost_same {Q : ARet × AState → Prop} {G : Gh} {σ : AState} {w : World} {v : AVal} {x : Value} (h : Q (.ret v, σ)) (hv : VRel G v x) (hw : WRel G σ.get w) (hd : Dom G σ) : RetPost Q G σ w (.returned x) w :=
  ⟨_, _, G, h, ⟨x, rfl, hv⟩, hw, hd, Tr.refl _ _ _ _ _⟩

theorem prim_call {P : Program} {G0 : Gh} {f0 : FuncId} {g : List AVal → Option AVal} {cf : CallF} (C : CallSim P G0 cf)
    (hg : ∀ args v, g args = some v → ∀ G w (vargs : Array Value), Le G0 G → (∀ b o u, G.im b o = some u → w.cell? ⟨b, o, none⟩ = some u) → VRels G args vargs.toList →
      Enterable P f0 ∧ Calls P f0 vargs w fun e w' => w' = w ∧ ∃ x, e = .returned x ∧ VRel G v x) : CallSim P G0 (primA f0 false g cf) := by
  refine ⟨fun f args σ Q h G w vargs hle hv hw hd => ?_, fun f args σ Q h G w vargs hle hv hw hd => ?_⟩
  · unfold primA at h
    cases hf : Nat.beq f f0 with
    | false => rw [hf] at h; exact C.call f args σ Q h G w vargs hle hv hw hd
    | true =>
      rw [hf] at h
      have := Nat.eq_of_beq_eq_true hf
      subst this
      simp only [cond_true, beq_self_eq_true] at h
      cases hga : g args with
      | none => rw [hga] at h; exact h.elim
      | some v =>
        rw [hga] at h
        obtain ⟨h1, h2⟩ := hg args v hga G w vargs hle hw.im hv
        refine ⟨h1, h2.mono fun e w' hp => ?_⟩
        obtain ⟨rfl, x, rfl, hx⟩ := hp
        exact retPost_same h hx hw hd
  · unfold primA at h
    cases hf : Nat.beq f f0 with
    | false => rw [hf] at h; exact C.dcall f args σ Q h G w vargs hle hv hw hd
    | true => rw [hf] at h; exact h.elim

theorem prim_dcall {P : Program} {G0 : Gh} {f0 : FuncId} {g : List AVal → Option AVal} {cf : CallF} (C : CallSim P G0 cf)
    (hg : ∀ args v, g args = some v → ∀ G w (vargs : Array Value), Le G0 G → (∀ b o u, G.im b o = some u → w.cell? ⟨b, o, none⟩ = some u) → VRels G args vargs.toList →
      Enterable P f0 ∧ CallsD P f0 vargs .returning w fun e u' w' => u' = .returning ∧ w' = w ∧ ∃ x, e = .returned x ∧ VRel G v x) : CallSim P G0 (primA f0 true g cf) := by
  refine ⟨fun f args σ Q h G w vargs hle hv hw hd => ?_, fun f args σ Q h G w vargs hle hv hw hd => ?_⟩
  · unfold primA at h
    cases hf : Nat.beq f f0 with
    | false => rw [hf] at h; exact C.call f args σ Q h G w vargs hle hv hw hd
    | true => rw [hf] at h; exact h.elim
  · unfold primA at h
    cases hf : Nat.beq f f0 with
    | false => rw [hf] at h; exact C.dcall f args σ Q h G w vargs hle hv hw hd
    | true =>
      rw [hf] at h
      have := Nat.eq_of_beq_eq_true hf
      subst this
      simp only [cond_true, beq_self_eq_true] at h
      cases hga : g args with
      | none => rw [hga] at h; exact h.elim
      | some v =>
        rw [hga] at h
        obtain ⟨h1, h2⟩ := hg args v hga G w vargs hle hw.im hv
        refine ⟨h1, h2.mono fun e u' w' hp => ?_⟩
        obtain ⟨rfl, rfl, x, rfl, hx⟩ := hp
        exact ⟨rfl, retPost_same h hx hw hd⟩

end Go.Ago
