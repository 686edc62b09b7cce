/-
  Lemmas on the meaning of operations over the heap alone, for every draw; maps and slices on the heap. No conditions.
-/
import Derived.OrdersHeld
import Derived.Tactics
import Derived.KernelRfl
namespace Go.Proofs.YtgdmjdacmebfjaaGreatDoor.D
open Go

abbrev Hp := Array Obj

/-! ### The heap's own words -/
def cellH (h : Hp) (a : Addr) : Option Value :=
  match h[a.block]? with
  | some (.cells c _ _) => if a.spot.isSome then none else c[a.off]?
  | _ => none
def shapeH (h : Hp) (r : Nat) : Option (TypeId × Nat) :=
  match h[r]? with
  | some (.cells c elem _) => some (elem, c.size)
  | _ => none
def frozenH (h : Hp) (a : Addr) : Bool :=
  match h[a.block]? with
  | some (.cells _ _ (lo, hi)) => lo ≤ a.off && a.off < hi
  | _ => false
def freezeH (h : Hp) (a : Addr) (n : Nat) : Hp :=
  if n = 0 then h else
  h.modify a.block fun
      | .cells c elem (lo, hi) => .cells c elem (if lo == hi then (a.off, a.off + n) else (min lo a.off, max hi (a.off + n)))
      | o => o
def setH (h : Hp) (a : Addr) (v : Value) : Hp :=
  h.modify a.block fun
      | .cells c elem frozen => .cells (if a.spot.isSome then c else c.setIfInBounds a.off v) elem frozen
      | o => o

/-- The streams and the tape are as they were. -/
structure Out (w w' : World) : Prop where
  os : w'.os = w.os
  tape : w'.tape = w.tape
  output : w'.output = w.output
theorem Out.refl (w : World) : Out w w := ⟨rfl, rfl, rfl⟩
theorem Out.trans {a b c : World} (h : Out a b) (k : Out b c) : Out a c := ⟨k.os.trans h.os, k.tape.trans h.tape, k.output.trans h.output⟩

def leaf : Value → Prop
  | .agg _ => False
  | .tuple _ => False
  | _ => True
def notCells : Obj → Prop
  | .cells .. => False
  | _ => True

/-! ### What an operation does -/
def semH (P : Program) {α : Type} : Sem α → Hp → (α → Hp → Prop) → Prop
  | .pure a, h, K => K a h
  | .load _ a k, h, K => ∃ v, cellH h a = some v ∧ semH P (k v) h K
  | .store _ a v k, h, K => leaf v ∧ (∃ u, cellH h a = some u) ∧ frozenH h a = false ∧ semH P k (setH h a v) K
  | .new o k, h, K => semH P (k h.size) (h.push o) K
  | .shape r k, h, K => semH P (k (shapeH h r)) h K
  | .freeze a n k, h, K => semH P k (freezeH h a n) K
  | .frozen a k, h, K => semH P (k (frozenH h a)) h K
  | .getObj r k, h, K => ∃ o, h[r]? = some o ∧ notCells o ∧ semH P (k o) h K
  | .setObj r o k, h, K => (∃ o', h[r]? = some o' ∧ notCells o') ∧ semH P k (h.setIfInBounds r o) K
  | .choose q k, h, K => ∀ t, semH P (k (if q.forced then 0 else q.cut t)) h K
  | .sys _ _, _, _ => False
  | .program k, h, K => semH P (k P) h K
  | .mark _ k, h, K => semH P k h K
  | .halt _, _, _ => False

theorem semH_run {P : Program} {α : Type} (s : Sem α) : ∀ {h : Hp} {K : α → Hp → Prop}, semH P s h K → ∀ w : World, w.heap = h →
    ∃ a w', s.run P w = .ok a w' ∧ K a w'.heap ∧ Out w w' := by
  induction s with
  | pure a => intro h K hs w hw; subst hw; exact ⟨a, w, rfl, hs, Out.refl w⟩
  | load m a k ih =>
    intro h K hs w hw
    subst hw
    obtain ⟨v, hc, hs⟩ := hs
    obtain ⟨x, w', hr, hk, ho⟩ := ih v hs w rfl
    refine ⟨x, w', ?_, hk, ho⟩
    have hc' : w.cell? a = some v := hc
    simp only [Sem.run, hc', hr]
  | store m a v k ih =>
    intro h K hs w hw
    subst hw
    obtain ⟨hl, ⟨u, hc⟩, hf, hs⟩ := hs
    obtain ⟨x, w', hr, hk, ho⟩ := ih hs (w.setCell a v) rfl
    refine ⟨x, w', ?_, hk, ⟨ho.os, ho.tape, ho.output⟩⟩
    have hc' : w.cell? a = some u := hc
    have hf' : w.frozen? a = false := hf
    cases v <;> first | exact hl.elim | (simp only [Sem.run, hc', hf', hr]; rfl)
  | new o k ih =>
    intro h K hs w hw
    subst hw
    obtain ⟨x, w', hr, hk, ho⟩ := ih w.heap.size hs { w with heap := w.heap.push o } rfl
    exact ⟨x, w', by simp only [Sem.run, hr], hk, ⟨ho.os, ho.tape, ho.output⟩⟩
  | shape r k ih =>
    intro h K hs w hw
    subst hw
    obtain ⟨x, w', hr, hk, ho⟩ := ih _ hs w rfl
    exact ⟨x, w', hr, hk, ho⟩
  | freeze a n k ih =>
    intro h K hs w hw
    subst hw
    obtain ⟨x, w', hr, hk, ho⟩ := ih hs (w.freeze a n) (by unfold World.freeze freezeH; split <;> rfl)
    have h0 : Out w (w.freeze a n) := by unfold World.freeze; split <;> exact ⟨rfl, rfl, rfl⟩
    exact ⟨x, w', by simp only [Sem.run, hr], hk, h0.trans ho⟩
  | frozen a k ih =>
    intro h K hs w hw
    subst hw
    obtain ⟨x, w', hr, hk, ho⟩ := ih _ hs w rfl
    exact ⟨x, w', hr, hk, ho⟩
  | getObj r k ih =>
    intro h K hs w hw
    subst hw
    obtain ⟨o, hg, hn, hs⟩ := hs
    obtain ⟨x, w', hr, hk, ho⟩ := ih o hs w rfl
    refine ⟨x, w', ?_, hk, ho⟩
    cases o <;> first | exact hn.elim | (simp only [Sem.run, hg, hr])
  | setObj r o k ih =>
    intro h K hs w hw
    subst hw
    obtain ⟨⟨o', hg, hn⟩, hs⟩ := hs
    obtain ⟨x, w', hr, hk, ho⟩ := ih hs { w with heap := w.heap.setIfInBounds r o } rfl
    refine ⟨x, w', ?_, hk, ⟨ho.os, ho.tape, ho.output⟩⟩
    cases o' <;> first | exact hn.elim | (simp only [Sem.run, hg, hr])
  | choose q k ih =>
    intro h K hs w hw
    subst hw
    by_cases hq : q.forced = true
    · have h0 := hs 0
      rw [if_pos hq] at h0
      obtain ⟨x, w', hr, hk, ho⟩ := ih 0 h0 w rfl
      exact ⟨x, w', by simp only [Sem.run, hq, if_true, hr], hk, ho⟩
    · have h0 := hs (w.tape w.drawn q)
      rw [if_neg hq] at h0
      obtain ⟨x, w', hr, hk, ho⟩ := ih _ h0 { w with drawn := w.drawn + 1 } rfl
      exact ⟨x, w', by simp only [Sem.run, hq, Bool.false_eq_true, if_false, hr], hk, ⟨ho.os, ho.tape, ho.output⟩⟩
  | sys c k ih => intro h K hs; exact hs.elim
  | program k ih =>
    intro h K hs w hw
    subst hw
    obtain ⟨x, w', hr, hk, ho⟩ := ih _ hs w rfl
    exact ⟨x, w', hr, hk, ho⟩
  | mark m k ih =>
    intro h K hs w hw
    subst hw
    obtain ⟨x, w', hr, hk, ho⟩ := ih hs w rfl
    exact ⟨x, w', hr, hk, ho⟩
  | halt x => intro h K hs; exact hs.elim

theorem semH_bind {P : Program} {α β : Type} (s : Sem α) (f : α → Sem β) : ∀ (h : Hp) (K : β → Hp → Prop),
    semH P (s >>= f) h K ↔ semH P s h (fun a h' => semH P (f a) h' K) := by
  show ∀ (h : Hp) (K : β → Hp → Prop), semH P (Sem.bind s f) h K ↔ _
  induction s with
  | pure a => intro h K; exact Iff.rfl
  | load m a k ih => intro h K; simp only [Sem.bind, semH, ih]
  | store m a v k ih => intro h K; simp only [Sem.bind, semH, ih]
  | new o k ih => intro h K; simp only [Sem.bind, semH, ih]
  | shape r k ih => intro h K; simp only [Sem.bind, semH, ih]
  | freeze a n k ih => intro h K; simp only [Sem.bind, semH, ih]
  | frozen a k ih => intro h K; simp only [Sem.bind, semH, ih]
  | getObj r k ih => intro h K; simp only [Sem.bind, semH, ih]
  | setObj r o k ih => intro h K; simp only [Sem.bind, semH, ih]
  | choose q k ih => intro h K; simp only [Sem.bind, semH, ih]
  | sys c k ih => intro h K; exact Iff.rfl
  | program k ih => intro h K; simp only [Sem.bind, semH, ih]
  | mark m k ih => intro h K; simp only [Sem.bind, semH, ih]
  | halt x => intro h K; exact Iff.rfl

theorem semH_mono {P : Program} {α : Type} (s : Sem α) : ∀ {h : Hp} {K K' : α → Hp → Prop}, semH P s h K → (∀ a h', K a h' → K' a h') → semH P s h K' := by
  induction s with
  | pure a => intro h K K' hs hk; exact hk _ _ hs
  | load m a k ih => intro h K K' hs hk; obtain ⟨v, hc, hs⟩ := hs; exact ⟨v, hc, ih v hs hk⟩
  | store m a v k ih => intro h K K' hs hk; obtain ⟨hl, hc, hf, hs⟩ := hs; exact ⟨hl, hc, hf, ih hs hk⟩
  | new o k ih => intro h K K' hs hk; exact ih _ hs hk
  | shape r k ih => intro h K K' hs hk; exact ih _ hs hk
  | freeze a n k ih => intro h K K' hs hk; exact ih hs hk
  | frozen a k ih => intro h K K' hs hk; exact ih _ hs hk
  | getObj r k ih => intro h K K' hs hk; obtain ⟨o, hg, hn, hs⟩ := hs; exact ⟨o, hg, hn, ih o hs hk⟩
  | setObj r o k ih => intro h K K' hs hk; exact ⟨hs.1, ih hs.2 hk⟩
  | choose q k ih => intro h K K' hs hk t; exact ih _ (hs t) hk
  | sys c k ih => intro h K K' hs; exact hs.elim
  | program k ih => intro h K K' hs hk; exact ih _ hs hk
  | mark m k ih => intro h K K' hs hk; exact ih hs hk
  | halt x => intro h K K' hs; exact hs.elim

/-- An operation that only reads, and draws nothing. -/
def semQ (P : Program) {α : Type} : Sem α → Hp → Option α
  | .pure a, _ => some a
  | .load _ a k, h => match cellH h a with
    | some v => semQ P (k v) h
    | none => none
  | .shape r k, h => semQ P (k (shapeH h r)) h
  | .frozen a k, h => semQ P (k (frozenH h a)) h
  | .getObj r k, h => match h[r]? with
    | some (.cells ..) => none
    | some o => semQ P (k o) h
    | none => none
  | .program k, h => semQ P (k P) h
  | .mark _ k, h => semQ P k h
  | _, _ => none

theorem semQ_run {P : Program} {α : Type} (s : Sem α) : ∀ {h : Hp} {a : α}, semQ P s h = some a → ∀ w : World, w.heap = h → s.run P w = .ok a w := by
  induction s with
  | pure a => intro h x hs w hw; cases hs; rfl
  | load m a k ih =>
    intro h x hs w hw
    subst hw
    simp only [semQ] at hs
    cases hc : cellH w.heap a with
    | none => rw [hc] at hs; cases hs
    | some v =>
      rw [hc] at hs
      have hc' : w.cell? a = some v := hc
      simp only [Sem.run, hc', ih v hs w rfl]
  | shape r k ih => intro h x hs w hw; subst hw; exact ih _ hs w rfl
  | frozen a k ih => intro h x hs w hw; subst hw; exact ih _ hs w rfl
  | getObj r k ih =>
    intro h x hs w hw
    subst hw
    simp only [semQ] at hs
    cases hg : w.heap[r]? with
    | none => rw [hg] at hs; cases hs
    | some o =>
      rw [hg] at hs
      cases o <;> first | cases hs | (simp only [Sem.run, hg]; exact ih _ hs w rfl)
  | program k ih => intro h x hs w hw; subst hw; exact ih _ hs w rfl
  | mark m k ih => intro h x hs w hw; subst hw; exact ih hs w rfl
  | store m a v k ih => intro h x hs; cases hs
  | new o k ih => intro h x hs; cases hs
  | freeze a n k ih => intro h x hs; cases hs
  | setObj r o k ih => intro h x hs; cases hs
  | choose q k ih => intro h x hs; cases hs
  | sys c k ih => intro h x hs; cases hs
  | halt x => intro h x hs; cases hs

theorem semQ_bind {P : Program} {α β : Type} (s : Sem α) (f : α → Sem β) : ∀ (h : Hp), semQ P (s >>= f) h = (semQ P s h).bind (fun a => semQ P (f a) h) := by
  show ∀ (h : Hp), semQ P (Sem.bind s f) h = _
  induction s with
  | pure a => intro h; rfl
  | load m a k ih =>
    intro h
    simp only [Sem.bind, semQ]
    cases cellH h a with
    | none => rfl
    | some v => exact ih v h
  | shape r k ih => intro h; exact ih _ h
  | frozen a k ih => intro h; exact ih _ h
  | getObj r k ih =>
    intro h
    simp only [Sem.bind, semQ]
    cases h[r]? with
    | none => rfl
    | some o => cases o <;> first | rfl | exact ih _ h
  | program k ih => intro h; exact ih _ h
  | mark m k ih => intro h; exact ih h
  | store m a v k ih => intro h; rfl
  | new o k ih => intro h; rfl
  | freeze a n k ih => intro h; rfl
  | setObj r o k ih => intro h; rfl
  | choose q k ih => intro h; rfl
  | sys c k ih => intro h; rfl
  | halt x => intro h; rfl

/-! ### A call -/
def CallsH (P : Program) (f : FuncId) (args : Array Value) (h : Hp) (R : Value → Hp → Prop) : Prop :=
  ∀ w : World, w.heap = h → Calls P f args w fun e w' => ∃ v, e = .returned v ∧ R v w'.heap ∧ Out w w'

theorem CallsH.mono {P : Program} {f : FuncId} {args : Array Value} {h : Hp} {R R' : Value → Hp → Prop} (hc : CallsH P f args h R) (hr : ∀ v h', R v h' → R' v h') : CallsH P f args h R' :=
  fun w hw => (hc w hw).mono fun _ _ ⟨v, he, hR, ho⟩ => ⟨v, he, hr _ _ hR, ho⟩

/-! ### The slots that are still wanted -/
abbrev Env := List (Nat × Value)
def lk : Env → Nat → Option Value
  | [], _ => none
  | (j, v) :: l, i => bif Nat.beq j i then some v else lk l i
def ev (l : Env) : Operand → Option Value
  | .tmp t => lk l t
  | .const v => some v
  | .global g => some (.pointer (some ⟨g, 0, none⟩))
  | .func f => some (.func (.func f) #[] #[])
structure Fr (n : Nat) (a : Act) (l : Env) : Prop where
  defers : a.defers = []
  size : n ≤ a.tmps.size
  at_ : ∀ i v, lk l i = some v → a.tmps[i]? = some v

theorem Fr.eval {n : Nat} {a : Act} {l : Env} (h : Fr n a l) {x : Operand} {v : Value} (hx : ev l x = some v) : a.eval x = v := by
  cases x with
  | tmp t =>
    have := h.at_ t v hx
    simp [Act.eval, this]
  | const u => simpa [ev, Act.eval] using hx
  | global g => simpa [ev, Act.eval] using hx
  | func f => simpa [ev, Act.eval] using hx

theorem Fr.put {n : Nat} {a : Act} {l : Env} (h : Fr n a l) {d : Nat} (hd : Nat.ble (d + 1) n = true) (v : Value) : Fr n (a.put (some d) v) ((d, v) :: l) := by
  have hd' : d < n := Nat.le_of_ble_eq_true hd
  refine ⟨h.defers, by simpa [Act.put] using h.size, fun i u hi => ?_⟩
  simp only [lk] at hi
  have hs : d < a.tmps.size := Nat.lt_of_lt_of_le hd' h.size
  by_cases e : d = i
  · subst e
    simp at hi
    subst hi
    simp [Act.put, hs]
  · have : Nat.beq d i = false := by
      cases hb : Nat.beq d i with
      | false => rfl
      | true => exact absurd (Nat.eq_of_beq_eq_true hb) e
    rw [this] at hi
    simp only [Act.put, Array.getElem?_setIfInBounds_ne e]
    exact h.at_ i u hi

theorem Fr.put_none {n : Nat} {a : Act} {l : Env} (h : Fr n a l) (v : Value) : Fr n (a.put none v) l := h

/-- Of the slots, those that are wanted. -/
def Keep (l : Env) : Env → Prop
  | [] => True
  | (i, v) :: l' => lk l i = some v ∧ Keep l l'
theorem Keep.lk {l : Env} : ∀ {l' : Env}, Keep l l' → ∀ i v, D.lk l' i = some v → D.lk l i = some v
  | [], _, _, _, h => by cases h
  | (j, u) :: l', hk, i, v, h => by
    simp only [D.lk] at h
    cases hb : Nat.beq j i with
    | true =>
      rw [hb] at h
      have : j = i := Nat.eq_of_beq_eq_true hb
      subst this
      simp at h
      subst h
      exact hk.1
    | false =>
      rw [hb] at h
      exact hk.2.lk i v h
theorem keep_nil {l : Env} : Keep l [] := trivial
theorem keep_cons {l l' : Env} {i : Nat} {v : Value} (h : D.lk l i = some v) (hk : Keep l l') : Keep l ((i, v) :: l') := ⟨h, hk⟩
theorem Keep.trans {l l' : Env} (h : Keep l l') : ∀ {l'' : Env}, Keep l' l'' → Keep l l''
  | [], _ => trivial
  | (i, v) :: _, hk => ⟨h.lk i v hk.1, h.trans hk.2⟩
theorem Fr.keep {n : Nat} {a : Act} {l l' : Env} (h : Fr n a l) (hk : Keep l l') : Fr n a l' := ⟨h.defers, h.size, fun i v hi => h.at_ i v (hk.lk i v hi)⟩

/-! ### An operation, over the slots -/
/-- It only reads: in every heap that meets S it leaves v. -/
def qop (P : Program) (S : Hp → Prop) (o : Oper) (l : Env) (v : Value) : Prop :=
  ∀ n a, Fr n a l → ∀ h, S h → semQ P (execOp a.eval o) h = some (.value v)
@[reducible] def At (h : Hp) : Hp → Prop := fun x => x = h
/-- It does something: whatever it leaves meets R. -/
def eop (P : Program) (o : Oper) (l : Env) (h : Hp) (R : Value → Hp → Prop) : Prop :=
  ∀ n a, Fr n a l → ∀ w : World, w.heap = h → ∀ (next : Act → World → Prop) (Q : Exit → Act → World → Prop),
    (∀ v w', R v w'.heap → Out w w' → next (a.put o.dst v) w') → o.wp P a w next Q

theorem eop_of_sem {P : Program} {o : Oper} {l : Env} {h : Hp} {R : Value → Hp → Prop}
    (hs : ∀ n a, Fr n a l → semH P (execOp a.eval o) h (fun x h' => (∃ v, x = .value v ∧ R v h') ∨ (x = .skip ∧ R undef h'))) : eop P o l h R := by
  intro n a hf w hw next Q hk
  obtain ⟨x, w', hr, hx, ho⟩ := semH_run _ (hs n a hf) w hw
  unfold Oper.wp
  rw [hr]
  rcases hx with ⟨v, rfl, hR⟩ | ⟨rfl, hR⟩
  · exact hk v w' hR ho
  · exact hk undef w' hR ho

theorem eop_enter {P : Program} {o : Oper} {l : Env} {h : Hp} {R : Value → Hp → Prop} {f : FuncId} {args : Array Value}
    (hs : ∀ n a, Fr n a l → semQ P (execOp a.eval o) h = some (.enter f args)) (hc : CallsH P f args h R) : eop P o l h R := by
  intro n a hf w hw next Q hk
  have hr := semQ_run _ (hs n a hf) w hw
  unfold Oper.wp
  rw [hr]
  show Calls P f args w _
  refine (hc w hw).mono fun e w' ⟨v, he, hR, ho⟩ => ?_
  subst he
  exact hk v w' hR ho

/-! ### A region in the order of the text -/
def wl (P : Program) (n : Nat) (ops : Array Oper) (rest : List Oper) (l : Env) (h : Hp) (K : Env → Hp → Prop) : Prop :=
  ∀ (w0 : World) (Q : Exit → Act → World → Prop), (∀ l' w', K l' w'.heap → Out w0 w' → ∀ a, Fr n a l' → Q .normal a w') →
    ∀ w : World, w.heap = h → Out w0 w → ∀ a, Fr n a l → wpList P ops Q rest a w

section
variable {P : Program} {n : Nat} {ops : Array Oper} {rest : List Oper} {o : Oper} {l : Env} {h : Hp} {K : Env → Hp → Prop}

theorem wl_nil (hk : K l h) : wl P n ops [] l h K := fun _ _ hQ w hw ho a hf => hQ l w (by rw [hw]; exact hk) ho a hf

theorem wl_keep {l' : Env} (hk : Keep l l') (hr : wl P n ops rest l' h K) : wl P n ops rest l h K :=
  fun w0 Q hQ w hw ho a hf => hr w0 Q hQ w hw ho a (hf.keep hk)

theorem wl_e {d : Nat} (hg : o.guard = none) (hd : o.dst = some d) (hn : Nat.ble (d + 1) n = true)
    (he : eop P o l h (fun v h' => wl P n ops rest ((d, v) :: l) h' K)) : wl P n ops (o :: rest) l h K := by
  intro w0 Q hQ w hw ho a hf
  refine wpList_plain hg fun K' hK' => he n a hf w hw K' Q fun v w' hR ho' => hK' _ _ ?_
  rw [hd]
  exact hR w0 Q hQ w' rfl (ho.trans ho') _ (hf.put hn v)

theorem wl_e0 (hg : o.guard = none) (hd : o.dst = none)
    (he : eop P o l h (fun _ h' => wl P n ops rest l h' K)) : wl P n ops (o :: rest) l h K := by
  intro w0 Q hQ w hw ho a hf
  refine wpList_plain hg fun K' hK' => he n a hf w hw K' Q fun v w' hR ho' => hK' _ _ ?_
  rw [hd]
  exact hR w0 Q hQ w' rfl (ho.trans ho') _ hf

theorem qop.run {S : Hp → Prop} {v : Value} (hq : qop P S o l v) {n : Nat} {a : Act} (hf : Fr n a l) {w : World} (hS : S w.heap) : (execOp a.eval o).run P w = .ok (.value v) w :=
  semQ_run _ (hq n a hf _ hS) w rfl

theorem wl_q {d : Nat} {v : Value} (hg : o.guard = none) (hd : o.dst = some d) (hn : Nat.ble (d + 1) n = true)
    (hq : qop P (At h) o l v) (hr : wl P n ops rest ((d, v) :: l) h K) : wl P n ops (o :: rest) l h K := by
  intro w0 Q hQ w hw ho a hf
  refine wpList_plain hg fun K' hK' => ?_
  unfold Oper.wp
  rw [hq.run hf hw]
  refine hK' _ _ ?_
  rw [hd]
  exact hr w0 Q hQ w hw ho _ (hf.put hn v)

theorem yielded_lk {ops : Array Oper} {j dj : Nat} {b : Bool} {n : Nat} {a : Act} {l : Env} (hf : Fr n a l) (hj : (ops[j]?).bind (·.dst) = some dj) (hl : lk l dj = some (.bool b)) :
    yielded ops a.tmps j = some b := by
  unfold yielded
  have := hf.at_ dj _ hl
  rw [hj]
  simp [this]

/-- A guard that says yes. -/
theorem wl_gq {d j dj : Nat} {want b : Bool} {v : Value} (hg : o.guard = some (j, want)) (hj : (ops[j]?).bind (·.dst) = some dj) (hl : lk l dj = some (.bool b)) (hb : b = want)
    (hd : o.dst = some d) (hn : Nat.ble (d + 1) n = true)
    (hq : qop P (At h) o l v) (hr : wl P n ops rest ((d, v) :: l) h K) : wl P n ops (o :: rest) l h K := by
  subst hb
  intro w0 Q hQ w hw ho a hf
  refine wpList_step fun K' hK' => ?_
  rw [if_pos (by simp [Region.wanted, hg, yielded_lk hf hj hl])]
  unfold Oper.wp
  rw [hq.run hf hw]
  refine hK' _ _ ?_
  rw [hd]
  exact hr w0 Q hQ w hw ho _ (hf.put hn v)

theorem wl_ge {d j dj : Nat} {want b : Bool} (hg : o.guard = some (j, want)) (hj : (ops[j]?).bind (·.dst) = some dj) (hl : lk l dj = some (.bool b)) (hb : b = want)
    (hd : o.dst = some d) (hn : Nat.ble (d + 1) n = true)
    (he : eop P o l h (fun v h' => wl P n ops rest ((d, v) :: l) h' K)) : wl P n ops (o :: rest) l h K := by
  subst hb
  intro w0 Q hQ w hw ho a hf
  refine wpList_step fun K' hK' => ?_
  rw [if_pos (by simp [Region.wanted, hg, yielded_lk hf hj hl])]
  refine he n a hf w hw K' Q fun v w' hR ho' => hK' _ _ ?_
  rw [hd]
  exact hR w0 Q hQ w' rfl (ho.trans ho') _ (hf.put hn v)

/-- A guard that says no. -/
theorem wl_gn {d j dj : Nat} {want b : Bool} (hg : o.guard = some (j, want)) (hj : (ops[j]?).bind (·.dst) = some dj) (hl : lk l dj = some (.bool b)) (hb : b = !want)
    (hd : o.dst = some d) (hn : Nat.ble (d + 1) n = true)
    (hr : wl P n ops rest ((d, undef) :: l) h K) : wl P n ops (o :: rest) l h K := by
  have hb : (b == want) = false := by subst hb; cases want <;> rfl
  intro w0 Q hQ w hw ho a hf
  refine wpList_step fun K' hK' => ?_
  rw [if_neg (by cases b <;> cases want <;> simp [Region.wanted, hg, yielded_lk hf hj hl] at hb ⊢)]
  refine hK' _ _ ?_
  rw [hd]
  exact hr w0 Q hQ w hw ho _ (hf.put hn undef)

/-- A guard whose own operation did not run. -/
theorem wl_gu {d j dj : Nat} {want : Bool} (hg : o.guard = some (j, want)) (hj : (ops[j]?).bind (·.dst) = some dj) (hl : lk l dj = some undef)
    (hd : o.dst = some d) (hn : Nat.ble (d + 1) n = true)
    (hr : wl P n ops rest ((d, undef) :: l) h K) : wl P n ops (o :: rest) l h K := by
  intro w0 Q hQ w hw ho a hf
  refine wpList_step fun K' hK' => ?_
  have hy : yielded ops a.tmps j = none := by
    unfold yielded
    have := hf.at_ dj _ hl
    rw [hj]
    simp [this, undef]
  rw [if_neg (by simp [Region.wanted, hg, hy])]
  refine hK' _ _ ?_
  rw [hd]
  exact hr w0 Q hQ w hw ho _ (hf.put hn undef)

/-- The list is walked up to a place where ways meet: M. -/
theorem wl_cut (m : Nat) (M : Env → Hp → Prop) (h1 : wl P n ops (rest.take m) l h M) (h2 : ∀ l h, M l h → wl P n ops (rest.drop m) l h K) : wl P n ops rest l h K := by
  intro w0 Q hQ w hw ho a hf
  have key : ∀ (xs ys : List Oper) (a : Act) (w : World), wpList P ops (fun e a w => match e with | .normal => wpList P ops Q ys a w | e => Q e a w) xs a w → wpList P ops Q (xs ++ ys) a w := by
    intro xs ys
    induction xs with
    | nil => intro a w hx; exact hx
    | cons o xs ih =>
      intro a w hx
      simp only [List.cons_append]
      unfold wpList at hx ⊢
      split
      · rename_i hwant
        rw [if_pos hwant] at hx
        rcases hx with hx | ⟨h1, a0, w0, h2⟩
        · refine .inl ?_
          have := Oper.wp_mono (K' := wpList P ops Q (xs ++ ys)) (fun a w hh => ih a w hh) hx
          revert this
          unfold Oper.wp
          generalize (execOp a.eval o).run P w = r
          intro this
          cases r with
          | ok x w' =>
            cases x <;> simp only [Oper.upon] at this ⊢
            all_goals first | exact this | skip
          | halt x w' =>
            cases x <;> simp only [Oper.upon] at this ⊢
            all_goals exact this
        · exact .inr ⟨h1, a0, w0, h2⟩
      · rename_i hwant
        rw [if_neg hwant] at hx
        exact ih _ _ hx
  have := key (rest.take m) (rest.drop m) a w (h1 w0 _ (fun l' w' hM ho' a' hf' => h2 l' w'.heap hM w0 Q hQ w' rfl ho' a' hf') w hw ho a hf)
  rwa [List.take_append_drop] at this
end

/-! ### A region that draws its order -/
/-- Whatever order is picked from here on; S holds behind every operation, up to operation j, which waits for all that leans on S. -/
def wpAnyJ (P : Program) (ops : Array Oper) (Q : Exit → Act → World → Prop) (S : World → Prop) (j : Nat) : Nat → Array Bool → Act → World → Prop
  | 0, listed, a, w => Region.ready .any ops listed = [] ∧ Q .normal a w
  | fuel + 1, listed, a, w =>
    (Region.ready .any ops listed = [] → Q .normal a w) ∧
    ∀ i ∈ Region.ready .any ops listed, wpOp P ops Q i (fun a' w' => (listed.getD j false = true ∨ i = j ∨ S w') ∧ wpAnyJ P ops Q S j fuel (listed.setIfInBounds i true) a' w') a w

section
variable {P : Program} {ops : Array Oper} {Q : Exit → Act → World → Prop} {S : World → Prop} {j : Nat}
theorem wpAny_of_J : ∀ (fuel : Nat) (listed : Array Bool) (a : Act) (w : World), wpAnyJ P ops Q S j fuel listed a w → wpAny P .any ops Q fuel listed a w
  | 0, _, _, _, h => h
  | fuel + 1, _, _, _, h => ⟨h.1, fun i hi => wpOp_mono (fun a' w' h' => wpAny_of_J fuel _ a' w' h'.2) (h.2 i hi)⟩

/-- Does j wait for i? (Or is there no j.) -/
def jok (ops : Array Oper) (j i : Nat) : Bool :=
  match ops[j]? with
  | none => j != i
  | some oj => j != i && oj.after.any fun e => Region.binds .any e && e.on == i
theorem jok_spec {i : Nat} (h : jok ops j i = true) : j ≠ i ∧ ∀ oj, ops[j]? = some oj → ∃ e ∈ oj.after, Region.binds .any e = true ∧ e.on = i := by
  unfold jok at h
  cases ho : ops[j]? with
  | none => rw [ho] at h; exact ⟨by simpa using h, fun oj hoj => by cases hoj⟩
  | some oj =>
    rw [ho] at h
    simp only [Bool.and_eq_true, bne_iff_ne] at h
    refine ⟨h.1, fun oj' hoj => ?_⟩
    cases hoj
    obtain ⟨e, he, hb⟩ := Array.any_eq_true'.1 h.2
    simp only [Bool.and_eq_true, beq_iff_eq] at hb
    exact ⟨e, he, hb.1, hb.2⟩

/-- j waits for i, or for some m that is not listed and that waits for i. -/
def JokL (ops : Array Oper) (j i : Nat) (listed : Array Bool) : Prop :=
  j ≠ i ∧ ((∀ oj, ops[j]? = some oj → ∃ e ∈ oj.after, Region.binds .any e = true ∧ e.on = i) ∨
    ∃ m om, ops[m]? = some om ∧ m ≠ i ∧ listed.getD m true = false ∧ (∀ oj, ops[j]? = some oj → ∃ e ∈ oj.after, Region.binds .any e = true ∧ e.on = m) ∧ ∃ e ∈ om.after, Region.binds .any e = true ∧ e.on = i)
def jokB (ops : Array Oper) (j i : Nat) (listed : Array Bool) : Bool :=
  jok ops j i || (j != i && match ops[j]? with
    | none => false
    | some oj => oj.after.any fun e => Region.binds .any e && (e.on != i && (!(listed.getD e.on true) && match ops[e.on]? with
      | none => false
      | some om => om.after.any fun e2 => Region.binds .any e2 && e2.on == i)))
theorem jokB_spec {i : Nat} {listed : Array Bool} (h : jokB ops j i listed = true) : JokL ops j i listed := by
  unfold jokB at h
  rcases Bool.or_eq_true_iff.1 h with h | h
  · obtain ⟨h1, h2⟩ := jok_spec h
    exact ⟨h1, .inl h2⟩
  · rw [Bool.and_eq_true, bne_iff_ne] at h
    obtain ⟨h1, h2⟩ := h
    refine ⟨h1, .inr ?_⟩
    cases ho : ops[j]? with
    | none => rw [ho] at h2; cases h2
    | some oj =>
      rw [ho] at h2
      obtain ⟨e, he, hb⟩ := Array.any_eq_true'.1 h2
      simp only [Bool.and_eq_true, bne_iff_ne, Bool.not_eq_true'] at hb
      obtain ⟨hb1, hb2, hb3, hb4⟩ := hb
      cases hm : ops[e.on]? with
      | none => rw [hm] at hb4; cases hb4
      | some om =>
        rw [hm] at hb4
        obtain ⟨e2, he2, hc⟩ := Array.any_eq_true'.1 hb4
        simp only [Bool.and_eq_true, beq_iff_eq] at hc
        exact ⟨e.on, om, hm, hb2, hb3, fun oj' hoj => by cases hoj; exact ⟨e, he, hb1, rfl⟩, e2, he2, hc.1, hc.2⟩

theorem wpAnyJ_first {i : Nat} {oi : Oper} {v : Value} (hi : ops[i]? = some oi) (hsel : ∀ (k : Nat) (o : Oper) cs b, ops[k]? = some o → o.op ≠ .select cs b)
    (hQ : ∀ c a w, Q (.panic c) (a.put oi.dst v) w → Q (.panic c) a w) :
    ∀ (fuel : Nat) (listed : Array Bool) (a : Act) (w : World), JokL ops j i listed →
      (∀ k ok, ops[k]? = some ok → k ≠ i → listed.getD k true = false → (∀ e ∈ ok.after, Region.binds .any e = true → e.on ≠ i) → oi.apart ops ok = true) →
      i ∈ Region.ready .any ops listed → YieldsIf P ops S oi v a → S w → listed.getD j false = false →
      wpAnyJ P ops Q S j fuel (listed.setIfInBounds i true) (a.put oi.dst v) w → wpAnyJ P ops Q S j (fuel + 1) listed a w := by
  intro fuel
  induction fuel with
  | zero =>
    intro listed a w _ _ hr hy hS _ H
    refine ⟨fun h => (by rw [h] at hr; cases hr), fun k hk => ?_⟩
    by_cases hki : k = i
    · subst hki; exact hy.wpOp hi hS ⟨.inr (.inr hS), H⟩
    · have := ready_mono hk hki
      rw [H.1] at this
      cases this
  | succ fuel ih =>
    intro listed a w hJ hfree hr hy hS hlj H
    have hji := hJ.1
    refine ⟨fun h => (by rw [h] at hr; cases hr), fun k hk => ?_⟩
    by_cases hki : k = i
    · subst hki; exact hy.wpOp hi hS ⟨.inr (.inr hS), H⟩
    · have h1 := H.2 k (ready_mono hk hki)
      obtain ⟨hkun, ok, hok, hall⟩ := mem_ready.1 hk
      have hun : ∀ e ∈ ok.after, Region.binds .any e = true → e.on ≠ i := fun e he hb heq => by
        have h1 := hall e he hb
        have h0 := (mem_ready.1 hr).1
        rw [heq] at h1
        rcases Nat.lt_or_ge i listed.size with h' | h'
        · simp [h'] at h0 h1; rw [h0] at h1; cases h1
        · simp [Array.getElem?_eq_none h'] at h1
      have hkj : k ≠ j := fun e => by
        subst e
        rcases hJ.2 with hwait | ⟨m, om, hm, hmi, hml, hwm, _⟩
        · obtain ⟨e, he, hb, hon⟩ := hwait ok hok
          exact hun e he hb hon
        · obtain ⟨e, he, hb, hon⟩ := hwm ok hok
          have h2 := hall e he hb
          rw [hon] at h2
          rcases Nat.lt_or_ge m listed.size with h' | h'
          · simp [h'] at hml h2; rw [hml] at h2; cases h2
          · simp [Array.getElem?_eq_none h'] at h2
      have hJ' : JokL ops j i (listed.setIfInBounds k true) := by
        refine ⟨hji, hJ.2.imp id ?_⟩
        rintro ⟨m, om, hm, hmi, hml, hwm, e, he, hb, hon⟩
        refine ⟨m, om, hm, hmi, ?_, hwm, e, he, hb, hon⟩
        have hkm : k ≠ m := fun eq => by
          subst eq
          rw [hok] at hm
          cases hm
          exact hun e he hb hon
        rw [getD_set_ne true hkm]; exact hml
      have h2 := wpOp_putIf hok (hfree k ok hok hki hkun hun) (fun cs b => hsel i oi cs b hi) (fun cs b => hsel k ok cs b hok) hQ hy h1
      have hfree' : ∀ m om, ops[m]? = some om → m ≠ i → (listed.setIfInBounds k true).getD m true = false →
          (∀ e ∈ om.after, Region.binds .any e = true → e.on ≠ i) → oi.apart ops om = true := fun m om hm hmi hmun hno => by
        refine hfree m om hm hmi ?_ hno
        by_cases hkm : k = m
        · subst hkm; exact hkun
        · rw [getD_set_ne true hkm] at hmun; exact hmun
      refine wpOp_mono (fun a' w' h3 => ?_) h2
      have hS' : S w' := by
        rcases h3.2.1 with h4 | h4 | h4
        · rw [getD_set_ne false (fun e => hji e.symm), hlj] at h4; cases h4
        · exact absurd h4 hkj
        · exact h4
      refine ⟨.inr (.inr hS'), ih (listed.setIfInBounds k true) a' w' hJ' hfree' (ready_mono hr (Ne.symm hki)) h3.1 hS' (by rw [getD_set_ne false hkj]; exact hlj) ?_⟩
      rw [Array.setIfInBounds_comm _ _ hki]
      exact h3.2.2

theorem wpAnyJ_take {i : Nat} {oi : Oper} {v : Value} {fuel : Nat} {listed : Array Bool} {a : Act} {w : World} (hi : ops[i]? = some oi)
    (hs : Region.noSelect ops = true) (hf : Region.free .any ops listed i = true) (hr : (Region.ready .any ops listed).contains i = true) (hj : jokB ops j i listed = true) (hlj : listed.getD j false = false)
    (hQ : ∀ c a w, Q (.panic c) (a.put oi.dst v) w → Q (.panic c) a w) (hy : YieldsIf P ops S oi v a) (hS : S w)
    (h : wpAnyJ P ops Q S j fuel (listed.setIfInBounds i true) (a.put oi.dst v) w) : wpAnyJ P ops Q S j (fuel + 1) listed a w :=
  wpAnyJ_first hi (Region.noSelect_spec hs) hQ fuel listed a w (jokB_spec hj) (Region.free_spec hi hf) (by simpa using hr) hy hS hlj h
theorem wpAnyJ_all {rs : List Nat} {fuel : Nat} {listed : Array Bool} {a : Act} {w : World} (hr : Region.ready .any ops listed = rs) (hne : rs ≠ [])
    (h : ∀ i ∈ rs, wpOp P ops Q i (fun a' w' => (listed.getD j false = true ∨ i = j ∨ S w') ∧ wpAnyJ P ops Q S j fuel (listed.setIfInBounds i true) a' w') a w) : wpAnyJ P ops Q S j (fuel + 1) listed a w :=
  ⟨fun h0 => absurd (hr ▸ h0) hne, hr ▸ h⟩
theorem wpAnyJ_done {listed : Array Bool} {a : Act} {w : World} (hr : Region.ready .any ops listed = []) (h : Q .normal a w) : ∀ fuel, wpAnyJ P ops Q S j fuel listed a w
  | 0 => ⟨hr, h⟩
  | _ + 1 => ⟨fun _ => h, by rw [hr]; simp⟩
end

def wh (P : Program) (n : Nat) (ops : Array Oper) (S : Hp → Prop) (j : Nat) (fuel : Nat) (listed : Array Bool) (l : Env) (h : Hp) (K : Env → Hp → Prop) : Prop :=
  ∀ (w0 : World) (Q : Exit → Act → World → Prop), (∀ c a w, ¬ Q (.panic c) a w) → (∀ l' w', K l' w'.heap → Out w0 w' → ∀ a, Fr n a l' → Q .normal a w') →
    ∀ w : World, w.heap = h → Out w0 w → ∀ a, Fr n a l → wpAnyJ P ops Q (fun w => S w.heap) j fuel listed a w

section
variable {P : Program} {n : Nat} {ops : Array Oper} {S : Hp → Prop} {j fuel : Nat} {listed : Array Bool} {l : Env} {h : Hp} {K : Env → Hp → Prop}

theorem wh_keep {l' : Env} (hk : Keep l l') (hr : wh P n ops S j fuel listed l' h K) : wh P n ops S j fuel listed l h K :=
  fun w0 Q hp hQ w hw ho a hf => hr w0 Q hp hQ w hw ho a (hf.keep hk)

/-- What is to be looked up of the region for operation i, taken first: one closed fact. -/
def firstOk (ops : Array Oper) (j : Nat) (listed : Array Bool) (i : Nat) : Bool :=
  Region.noSelect ops && (Region.free .any ops listed i && ((Region.ready .any ops listed).contains i && (jokB ops j i listed && !(listed.getD j false))))

theorem wh_yield (i : Nat) {oi : Oper} {d : Nat} {v : Value} (hi : ops[i]? = some oi) (hok : firstOk ops j listed i = true) (hd : oi.dst = some d) (hn : Nat.ble (d + 1) n = true)
    (hy : ∀ a, Fr n a l → YieldsIf P ops (fun w => S w.heap) oi v a) (hS : S h) (hk : wh P n ops S j fuel (listed.setIfInBounds i true) ((d, v) :: l) h K) : wh P n ops S j (fuel + 1) listed l h K := by
  simp only [firstOk, Bool.and_eq_true, Bool.not_eq_true'] at hok
  obtain ⟨h1, h2, h3, h4, h5⟩ := hok
  intro w0 Q hp hQ w hw ho a hf
  refine wpAnyJ_take (v := v) hi h1 h2 h3 h4 h5 (fun c a w hh => (hp _ _ _ hh).elim) (hy a hf) (by show S w.heap; rw [hw]; exact hS) ?_
  rw [hd]
  exact hk w0 Q hp hQ w hw ho _ (hf.put hn v)

/-- What only reads is taken first. -/
theorem wh_q (i : Nat) {oi : Oper} {d : Nat} {v : Value} (hi : ops[i]? = some oi) (hok : firstOk ops j listed i = true) (hg : oi.guard = none) (hd : oi.dst = some d) (hn : Nat.ble (d + 1) n = true)
    (hq : qop P S oi l v) (hS : S h) (hk : wh P n ops S j fuel (listed.setIfInBounds i true) ((d, v) :: l) h K) : wh P n ops S j (fuel + 1) listed l h K :=
  wh_yield i hi hok hd hn (fun _ hf => .inl ⟨by simp [Region.wanted, hg], fun _ hS => hq.run hf hS⟩) hS hk
theorem wh_gq (i : Nat) {oi : Oper} {d g dj : Nat} {want b : Bool} {v : Value} (hi : ops[i]? = some oi) (hok : firstOk ops j listed i = true) (hg : oi.guard = some (g, want)) (hj : (ops[g]?).bind (·.dst) = some dj) (hl : lk l dj = some (.bool b)) (hb : b = want) (hd : oi.dst = some d) (hn : Nat.ble (d + 1) n = true)
    (hq : qop P S oi l v) (hS : S h) (hk : wh P n ops S j fuel (listed.setIfInBounds i true) ((d, v) :: l) h K) : wh P n ops S j (fuel + 1) listed l h K :=
  wh_yield i hi hok hd hn (fun _ hf => .inl ⟨by simp [Region.wanted, hg, yielded_lk hf hj hl, hb], fun _ hS => hq.run hf hS⟩) hS hk
theorem wh_gn (i : Nat) {oi : Oper} {d g dj : Nat} {want b : Bool} (hi : ops[i]? = some oi) (hok : firstOk ops j listed i = true) (hg : oi.guard = some (g, want)) (hj : (ops[g]?).bind (·.dst) = some dj) (hl : lk l dj = some (.bool b)) (hb : b = !want)
    (hd : oi.dst = some d) (hn : Nat.ble (d + 1) n = true)
    (hS : S h) (hk : wh P n ops S j fuel (listed.setIfInBounds i true) ((d, undef) :: l) h K) : wh P n ops S j (fuel + 1) listed l h K :=
  wh_yield i hi hok hd hn (fun _ hf => .inr ⟨by cases want <;> simp [Region.wanted, hg, yielded_lk hf hj hl, hb], rfl⟩) hS hk
theorem wh_gu (i : Nat) {oi : Oper} {d g dj : Nat} {want : Bool} (hi : ops[i]? = some oi) (hok : firstOk ops j listed i = true) (hg : oi.guard = some (g, want)) (hj : (ops[g]?).bind (·.dst) = some dj) (hl : lk l dj = some undef)
    (hd : oi.dst = some d) (hn : Nat.ble (d + 1) n = true)
    (hS : S h) (hk : wh P n ops S j fuel (listed.setIfInBounds i true) ((d, undef) :: l) h K) : wh P n ops S j (fuel + 1) listed l h K := by
  refine wh_yield i hi hok hd hn (fun a hf => .inr ⟨?_, rfl⟩) hS hk
  have hy : yielded ops a.tmps g = none := by
    unfold yielded
    have := hf.at_ dj _ hl
    rw [hj]
    simp [this, undef]
  simp [Region.wanted, hg, hy]

/-- One operation alone may come up, and it does something. -/
theorem wh_e (i : Nat) {oi : Oper} {d : Nat} (hi : ops[i]? = some oi) (hr : Region.ready .any ops listed = [i]) (hg : oi.guard = none) (hd : oi.dst = some d) (hn : Nat.ble (d + 1) n = true)
    (he : eop P oi l h (fun v h' => S h' ∧ wh P n ops S j fuel (listed.setIfInBounds i true) ((d, v) :: l) h' K)) : wh P n ops S j (fuel + 1) listed l h K := by
  intro w0 Q hp hQ w hw ho a hf
  refine wpAnyJ_all hr (by simp) fun k hk => ?_
  obtain rfl : k = i := by simpa using hk
  unfold wpOp
  simp only [hi]
  rw [if_pos (by simp [Region.wanted, hg])]
  refine .inl (he n a hf w hw _ Q fun v w' hR ho' => ⟨.inr (.inr hR.1), ?_⟩)
  rw [hd]
  exact hR.2 w0 Q hp hQ w' rfl (ho.trans ho') _ (hf.put hn v)
theorem wh_ge (i : Nat) {oi : Oper} {d g dj : Nat} {want b : Bool} (hi : ops[i]? = some oi) (hr : Region.ready .any ops listed = [i]) (hg : oi.guard = some (g, want)) (hj : (ops[g]?).bind (·.dst) = some dj) (hl : lk l dj = some (.bool b)) (hb : b = want)
    (hd : oi.dst = some d) (hn : Nat.ble (d + 1) n = true)
    (he : eop P oi l h (fun v h' => S h' ∧ wh P n ops S j fuel (listed.setIfInBounds i true) ((d, v) :: l) h' K)) : wh P n ops S j (fuel + 1) listed l h K := by
  intro w0 Q hp hQ w hw ho a hf
  refine wpAnyJ_all hr (by simp) fun k hk => ?_
  obtain rfl : k = i := by simpa using hk
  unfold wpOp
  simp only [hi]
  rw [if_pos (by simp [Region.wanted, hg, yielded_lk hf hj hl, hb])]
  refine .inl (he n a hf w hw _ Q fun v w' hR ho' => ⟨.inr (.inr hR.1), ?_⟩)
  rw [hd]
  exact hR.2 w0 Q hp hQ w' rfl (ho.trans ho') _ (hf.put hn v)
theorem wh_e0 (i : Nat) {oi : Oper} (hi : ops[i]? = some oi) (hr : Region.ready .any ops listed = [i]) (hg : oi.guard = none) (hd : oi.dst = none)
    (he : eop P oi l h (fun _ h' => S h' ∧ wh P n ops S j fuel (listed.setIfInBounds i true) l h' K)) : wh P n ops S j (fuel + 1) listed l h K := by
  intro w0 Q hp hQ w hw ho a hf
  refine wpAnyJ_all hr (by simp) fun k hk => ?_
  obtain rfl : k = i := by simpa using hk
  unfold wpOp
  simp only [hi]
  rw [if_pos (by simp [Region.wanted, hg])]
  refine .inl (he n a hf w hw _ Q fun v w' hR ho' => ⟨.inr (.inr hR.1), ?_⟩)
  rw [hd]
  exact hR.2 w0 Q hp hQ w' rfl (ho.trans ho') _ hf
/-- The last one, which all others were waited for: S need not hold behind it. -/
theorem wh_last (i : Nat) {oi : Oper} (hi : ops[i]? = some oi) (hr : Region.ready .any ops listed = [i]) (hij : Nat.beq i j = true) (hg : oi.guard = none) (hd : oi.dst = none)
    (he : eop P oi l h (fun _ h' => wh P n ops S j fuel (listed.setIfInBounds i true) l h' K)) : wh P n ops S j (fuel + 1) listed l h K := by
  intro w0 Q hp hQ w hw ho a hf
  refine wpAnyJ_all hr (by simp) fun k hk => ?_
  obtain rfl : k = i := by simpa using hk
  unfold wpOp
  simp only [hi]
  rw [if_pos (by simp [Region.wanted, hg])]
  refine .inl (he n a hf w hw _ Q fun v w' hR ho' => ⟨.inr (.inl (Nat.eq_of_beq_eq_true hij)), ?_⟩)
  rw [hd]
  exact hR w0 Q hp hQ w' rfl (ho.trans ho') _ hf

/-- Two operations may come up, and each does something. -/
theorem wh_e2 (i i' : Nat) {oi oj : Oper} (hr : Region.ready .any ops listed = [i, i']) (hi : ops[i]? = some oi) (hj : ops[i']? = some oj) (hgi : oi.guard = none) (hgj : oj.guard = none)
    {di dj : Nat} (hdi : oi.dst = some di) (hni : Nat.ble (di + 1) n = true) (hdj : oj.dst = some dj) (hnj : Nat.ble (dj + 1) n = true)
    (hei : eop P oi l h (fun v h' => S h' ∧ wh P n ops S j fuel (listed.setIfInBounds i true) ((di, v) :: l) h' K))
    (hej : eop P oj l h (fun v h' => S h' ∧ wh P n ops S j fuel (listed.setIfInBounds i' true) ((dj, v) :: l) h' K)) : wh P n ops S j (fuel + 1) listed l h K := by
  intro w0 Q hp hQ w hw ho a hf
  refine wpAnyJ_all hr (by simp) fun k hk => ?_
  rcases (show k = i ∨ k = i' by simpa using hk) with rfl | rfl
  · unfold wpOp
    simp only [hi]
    rw [if_pos (by simp [Region.wanted, hgi])]
    refine .inl (hei n a hf w hw _ Q fun v w' hR ho' => ⟨.inr (.inr hR.1), ?_⟩)
    rw [hdi]
    exact hR.2 w0 Q hp hQ w' rfl (ho.trans ho') _ (hf.put hni v)
  · unfold wpOp
    simp only [hj]
    rw [if_pos (by simp [Region.wanted, hgj])]
    refine .inl (hej n a hf w hw _ Q fun v w' hR ho' => ⟨.inr (.inr hR.1), ?_⟩)
    rw [hdj]
    exact hR.2 w0 Q hp hQ w' rfl (ho.trans ho') _ (hf.put hnj v)

theorem wh_more (S' : Hp → Prop) (hr : wh P n ops (fun h => S h ∧ S' h) j fuel listed l h K) : wh P n ops S j fuel listed l h K := by
  intro w0 Q hp hQ w hw ho a hf
  have key : ∀ (fuel : Nat) (listed : Array Bool) (a : Act) (w : World), wpAnyJ P ops Q (fun w => S w.heap ∧ S' w.heap) j fuel listed a w → wpAnyJ P ops Q (fun w => S w.heap) j fuel listed a w := by
    intro fuel
    induction fuel with
    | zero => intro _ _ _ hh; exact hh
    | succ fuel ih => intro listed a w hh; exact ⟨hh.1, fun i hi => wpOp_mono (fun a' w' h' => ⟨h'.1.imp id (·.imp id (·.1)), ih _ _ _ h'.2⟩) (hh.2 i hi)⟩
  exact key _ _ _ _ (hr w0 Q hp hQ w hw ho a hf)

theorem wh_done (hr : Region.ready .any ops listed = []) (hk : K l h) : wh P n ops S j fuel listed l h K :=
  fun _ _ _ hQ w hw ho a hf => wpAnyJ_done hr (hQ l w (by rw [hw]; exact hk) ho a hf) _
end

/-! ### Code -/
def cw (P : Program) (n : Nat) (c : Code) (l : Env) (h : Hp) (N : Env → Hp → Prop) (X : Nat → Env → Hp → Prop) (R : Env → Hp → Prop) : Prop :=
  ∀ (w0 : World) (Q : Exit → Act → World → Prop), (∀ l' w', N l' w'.heap → Out w0 w' → ∀ a, Fr n a l' → Q .normal a w') →
    (∀ k l' w', X k l' w'.heap → Out w0 w' → ∀ a, Fr n a l' → Q (.exit k) a w') → (∀ l' w', R l' w'.heap → Out w0 w' → ∀ a, Fr n a l' → Q .ret a w') →
    ∀ w : World, w.heap = h → Out w0 w → ∀ a, Fr n a l → c.wp P Q a w

/-- Where a block ends. -/
def xput (id : Nat) (N : Env → Hp → Prop) (X : Nat → Env → Hp → Prop) (k : Nat) (l : Env) (h : Hp) : Prop := if k = id then N l h else X k l h
def xno (_ : Nat) (_ : Env) (_ : Hp) : Prop := False

section
variable {P : Program} {n : Nat} {l : Env} {h : Hp} {N : Env → Hp → Prop} {X : Nat → Env → Hp → Prop} {R : Env → Hp → Prop} {x y : Code}

theorem xput_same {id : Nat} (hn : N l h) : xput id N X id l h := by unfold xput; rw [if_pos rfl]; exact hn
theorem xput_other {id k : Nat} (he : Nat.beq k id = false) (hx : X k l h) : xput id N X k l h := by
  unfold xput
  rw [if_neg (fun e => by subst e; simp at he)]
  exact hx

theorem cw_keep {l' : Env} (hk : Keep l l') (hc : cw P n x l' h N X R) : cw P n x l h N X R :=
  fun w0 Q h1 h2 h3 w hw ho a hf => hc w0 Q h1 h2 h3 w hw ho a (hf.keep hk)

theorem cw_mono {N' R' : Env → Hp → Prop} {X' : Nat → Env → Hp → Prop} (hc : cw P n x l h N X R) (h1 : ∀ l h, N l h → N' l h) (h2 : ∀ k l h, X k l h → X' k l h) (h3 : ∀ l h, R l h → R' l h) : cw P n x l h N' X' R' :=
  fun w0 Q q1 q2 q3 w hw ho a hf => hc w0 Q (fun l' w' hh => q1 l' w' (h1 _ _ hh)) (fun k l' w' hh => q2 k l' w' (h2 _ _ _ hh)) (fun l' w' hh => q3 l' w' (h3 _ _ hh)) w hw ho a hf

theorem cw_skip (hn : N l h) : cw P n .skip l h N X R := fun _ _ h1 _ _ w hw ho a hf => wp_skip (h1 l w (by rw [hw]; exact hn) ho a hf)
theorem cw_exit {k : Nat} (hx : X k l h) : cw P n (.exit k) l h N X R := fun _ _ _ h2 _ w hw ho a hf => wp_exit (h2 k l w (by rw [hw]; exact hx) ho a hf)
theorem cw_ret (hr : R l h) : cw P n .ret l h N X R := fun _ _ _ _ h3 w hw ho a hf => wp_ret (h3 l w (by rw [hw]; exact hr) ho a hf)

theorem cw_seq (hc : cw P n x l h (fun l h => cw P n y l h N X R) X R) : cw P n (.seq x y) l h N X R :=
  fun w0 Q h1 h2 h3 w hw ho a hf => wp_seq (hc w0 (Exit.then (y.wp P Q) Q) (fun _ w' hh ho' a' hf' => hh w0 Q h1 h2 h3 w' rfl ho' a' hf') (fun k l' w' hx ho' a' hf' => h2 k l' w' hx ho' a' hf') (fun l' w' hx ho' a' hf' => h3 l' w' hx ho' a' hf') w hw ho a hf)

/-- Ways meet behind x: M. -/
theorem cw_cut (M : Env → Hp → Prop) (hc : cw P n x l h M X R) (hy : ∀ l h, M l h → cw P n y l h N X R) : cw P n (.seq x y) l h N X R :=
  cw_seq (cw_mono hc hy (fun _ _ _ h => h) (fun _ _ h => h))

theorem cw_true {c : Operand} (hc : ev l c = some (.bool true)) (hx : cw P n x l h N X R) : cw P n (.cond c x y) l h N X R :=
  fun w0 Q h1 h2 h3 w hw ho a hf => wp_cond_true (hf.eval hc) (hx w0 Q h1 h2 h3 w hw ho a hf)
theorem cw_false {c : Operand} (hc : ev l c = some (.bool false)) (hy : cw P n y l h N X R) : cw P n (.cond c x y) l h N X R :=
  fun w0 Q h1 h2 h3 w hw ho a hf => wp_cond_false (hf.eval hc) (hy w0 Q h1 h2 h3 w hw ho a hf)
theorem cw_cond {c : Operand} {b : Bool} (hc : ev l c = some (.bool b)) (hx : b = true → cw P n x l h N X R) (hy : b = false → cw P n y l h N X R) : cw P n (.cond c x y) l h N X R := by
  cases b with
  | true => exact cw_true hc (hx rfl)
  | false => exact cw_false hc (hy rfl)

theorem cw_block {id : Nat} (hc : cw P n x l h N (xput id N X) R) : cw P n (.block id x) l h N X R := by
  intro w0 Q h1 h2 h3 w hw ho a hf
  refine wp_block (hc w0 (Exit.inBlock id Q) (fun l' w' hh ho' a' hf' => h1 l' w' hh ho' a' hf') (fun k l' w' hh ho' a' hf' => ?_) (fun l' w' hh ho' a' hf' => h3 l' w' hh ho' a' hf') w hw ho a hf)
  unfold xput at hh
  show Exit.inBlock id Q (.exit k) a' w'
  simp only [Exit.inBlock]
  by_cases e : k = id
  · rw [if_pos e] at hh
    first | (rw [if_pos e]; exact h1 l' w' hh ho' a' hf') | (rw [if_pos e.symm]; exact h1 l' w' hh ho' a' hf')
  · rw [if_neg e] at hh
    first | (rw [if_neg e]; exact h2 k l' w' hh ho' a' hf') | (rw [if_neg (fun e' => e e'.symm)]; exact h2 k l' w' hh ho' a' hf')

/-- The least number that meets p. -/
theorem exists_least {p : Nat → Prop} (h : ∃ k, p k) : ∃ k, p k ∧ ∀ m, p m → k ≤ m := by
  obtain ⟨k, hk⟩ := h
  induction k using Nat.strongRecOn with
  | _ k ih =>
    by_cases hm : ∃ m, m < k ∧ p m
    · obtain ⟨m, hlt, hp⟩ := hm
      exact ih m hlt hp
    · exact ⟨k, hk, fun m hp => Nat.le_of_not_lt fun hlt => hm ⟨m, hlt, hp⟩⟩
open Classical in
noncomputable def sInfNat (p : Nat → Prop) : Nat := if h : ∃ k, p k then (exists_least h).choose else 0
theorem sInfNat_spec {p : Nat → Prop} (h : ∃ k, p k) : p (sInfNat p) := by
  unfold sInfNat
  rw [dif_pos h]
  exact (exists_least h).choose_spec.1
theorem sInfNat_le {p : Nat → Prop} {m : Nat} (h : p m) : sInfNat p ≤ m := by
  unfold sInfNat
  rw [dif_pos ⟨m, h⟩]
  exact (exists_least ⟨m, h⟩).choose_spec.2 m h

theorem cw_loop (I : Env → Hp → Prop) (μ : Env → Hp → Nat) (h0 : I l h) (hs : ∀ l h, I l h → cw P n x l h (fun l' h' => I l' h' ∧ μ l' h' < μ l h) X R) : cw P n (.loop x) l h N X R := by
  intro w0 Q h1 h2 h3 w hw ho a hf
  classical
  refine wp_loop (fun a w => ∃ l, I l w.heap ∧ Fr n a l ∧ Out w0 w) (fun a w => sInfNat fun k => ∃ l, I l w.heap ∧ Fr n a l ∧ Out w0 w ∧ μ l w.heap = k) ⟨l, by rw [hw]; exact h0, hf, ho⟩ ?_
  intro a w hI
  obtain ⟨l, hl, hfl, hol, hm⟩ := (hI.elim fun l0 ⟨q1, q2, q3⟩ => sInfNat_spec (p := fun k => ∃ l, I l w.heap ∧ Fr n a l ∧ Out w0 w ∧ μ l w.heap = k) ⟨_, l0, q1, q2, q3, rfl⟩)
  refine hs l w.heap hl w0 (Exit.then (fun a' w' => (∃ l, I l w'.heap ∧ Fr n a' l ∧ Out w0 w') ∧ (sInfNat fun k => ∃ l, I l w'.heap ∧ Fr n a' l ∧ Out w0 w' ∧ μ l w'.heap = k) < sInfNat fun k => ∃ l, I l w.heap ∧ Fr n a l ∧ Out w0 w ∧ μ l w.heap = k) Q) (fun l' w' hh ho' a' hf' => ?_) (fun k l' w' hh ho' a' hf' => h2 k l' w' hh ho' a' hf') (fun l' w' hh ho' a' hf' => h3 l' w' hh ho' a' hf') w rfl hol a hfl
  refine ⟨⟨l', hh.1, hf', ho'⟩, Nat.lt_of_le_of_lt (sInfNat_le (p := fun k => ∃ l, I l w'.heap ∧ Fr n a' l ∧ Out w0 w' ∧ μ l w'.heap = k) ⟨l', hh.1, hf', ho', rfl⟩) ?_⟩
  first | exact hm ▸ hh.2 | (rw [← hm]; exact hh.2)

/-- A loop over a state s of which the slots speak. -/
theorem cw_loops {σ : Type} (env : σ → Env) (s0 : σ) (I : σ → Hp → Prop) (μ : σ → Hp → Nat) (hk : Keep l (env s0)) (h0 : I s0 h)
    (hs : ∀ s h, I s h → cw P n x (env s) h (fun l' h' => ∃ s', Keep l' (env s') ∧ I s' h' ∧ μ s' h' < μ s h) X R) : cw P n (.loop x) l h N X R := by
  refine cw_loop (fun l h => ∃ s, Keep l (env s) ∧ I s h) (fun l h => sInfNat fun k => ∃ s, Keep l (env s) ∧ I s h ∧ μ s h = k) ⟨s0, hk, h0⟩ ?_
  rintro l h ⟨s1, hk1, hI1⟩
  obtain ⟨s, hks, hIs, hm⟩ := sInfNat_spec (p := fun k => ∃ s, Keep l (env s) ∧ I s h ∧ μ s h = k) ⟨_, s1, hk1, hI1, rfl⟩
  refine cw_keep hks (cw_mono (hs s h hIs) (fun l' h' ⟨s', a1, a2, a3⟩ => ⟨⟨s', a1, a2⟩, ?_⟩) (fun _ _ _ hh => hh) (fun _ _ hh => hh))
  refine Nat.lt_of_le_of_lt (sInfNat_le (p := fun k => ∃ s, Keep l' (env s) ∧ I s h' ∧ μ s h' = k) ⟨s', a1, a2, rfl⟩) ?_
  rw [← hm]
  exact a3

theorem cw_region {id : Nat} {ol : List Oper} (hw : wl P n ol.toArray ol l h N) : cw P n (.region id ol.toArray false) l h N X R :=
  fun w0 Q h1 _ _ w hw' ho a hf => wp_region_lit (hw w0 Q h1 w hw' ho a hf)

/-- A region that draws its order: S holds all along. -/
theorem cw_draw {id : Nat} {ops : Array Oper} (S : Hp → Prop) (j : Nat) (hm : P.follows .mixedOrders = true)
    (hw : wh P n ops S j ops.size (Array.replicate ops.size false) l h N) : cw P n (.region id ops true) l h N X R := by
  intro w0 Q h1 _ _ w hw' ho a hf
  refine wp_mono (Q := fun e a w => match e with | .panic _ => False | e => Q e a w) (wp_region_any hm (wpAny_of_J (S := fun w => S w.heap) (j := j) _ _ _ _ ?_)) (fun e a w hq => ?_)
  · exact hw w0 (fun e a w => match e with | .panic _ => False | e => Q e a w) (fun c a w hh => hh) (fun l' w' hh ho' a' hf' => h1 l' w' hh ho' a' hf') { w with drawn := w.drawn + 1 } hw' ⟨ho.os, ho.tape, ho.output⟩ a hf
  · cases e <;> first | exact hq | exact hq.elim
end

/-! ### A function -/
def argEnv : List Value → Nat → Env
  | [], _ => []
  | v :: vs, i => (i, v) :: argEnv vs (i + 1)

theorem argEnv_lk : ∀ (vs : List Value) (k i : Nat) (v : Value), lk (argEnv vs k) i = some v → k ≤ i ∧ vs[i - k]? = some v
  | [], _, _, _, h => by cases h
  | u :: vs, k, i, v, h => by
    simp only [argEnv, lk] at h
    cases hb : Nat.beq k i with
    | true =>
      have : k = i := Nat.eq_of_beq_eq_true hb
      subst this
      rw [hb] at h
      simp at h
      subst h
      simp
    | false =>
      rw [hb] at h
      obtain ⟨h1, h2⟩ := argEnv_lk vs (k + 1) i v h
      refine ⟨by omega, ?_⟩
      have : i - k = (i - (k + 1)) + 1 := by omega
      rw [this, List.getElem?_cons_succ]
      exact h2

theorem Fr_init (n : Nat) (args : List Value) : Fr n { tmps := args.toArray ++ Array.replicate (n - args.toArray.size) undef, defers := [] } (argEnv args 0) := by
  refine ⟨rfl, by simp; omega, fun i v hi => ?_⟩
  obtain ⟨_, h2⟩ := argEnv_lk args 0 i v hi
  have h3 : args[i]? = some v := by simpa using h2
  have hlt : i < args.length := by
    rcases Nat.lt_or_ge i args.length with h | h
    · exact h
    · rw [List.getElem?_eq_none h] at h3; cases h3
  show (args.toArray ++ _)[i]? = some v
  rw [Array.getElem?_append_left (by simpa using hlt)]
  simpa using h3

/-- What a function hands back. -/
def resq (P : Program) (fn : Func) (l : Env) (h : Hp) (v : Value) : Prop := ∀ n a, Fr n a l → semQ P (results fn a.tmps) h = some v

theorem calls_cw {P : Program} {f : FuncId} {fn : Func} {c : Code} {args : List Value} {h : Hp} {R : Value → Hp → Prop} (hf : P.funcs[f]? = some fn) (hb : fn.body = some c)
    (hc : cw P fn.ntmps c (argEnv args 0) h (fun l h' => ∃ v, resq P fn l h' v ∧ R v h') xno (fun l h' => ∃ v, resq P fn l h' v ∧ R v h')) : CallsH P f args.toArray h R := by
  intro w hw
  refine calls_of_wp hf hb (hc w _ (fun l' w' hh ho a hfr => ?_) (fun k l' w' hh => hh.elim) (fun l' w' hh ho a hfr => ?_) w hw (Out.refl w) _ (Fr_init _ _))
  · obtain ⟨v, hq, hR⟩ := hh
    exact ⟨hfr.defers, v, semQ_run _ (hq _ a hfr) w' rfl, v, rfl, hR, ho⟩
  · obtain ⟨v, hq, hR⟩ := hh
    exact ⟨hfr.defers, v, semQ_run _ (hq _ a hfr) w' rfl, v, rfl, hR, ho⟩
end Go.Proofs.YtgdmjdacmebfjaaGreatDoor.D

namespace Go.Proofs.YtgdmjdacmebfjaaGreatDoor.D
open Go

/-- A slice's value: its address, its length, its capacity. -/
structure Sl where
  a : Option Addr
  len : Nat
  cap : Nat
/-- A block's first cell. -/
@[reducible] def blk (n : Nat) : Addr := ⟨n, 0, none⟩
@[reducible] def Sl.v (s : Sl) : Value := .slice s.a s.len s.cap

def szT (P : Program) (t : TypeId) : Option Nat := (P.info? t).map (·.size)
def byT (P : Program) (t : TypeId) : Option Nat := (P.info? t).map (·.bytes)
def zrT (P : Program) (t : TypeId) : Option Value := (P.info? t).bind (·.zero)
def isAggD : TypeDesc → Bool
  | .struct _ => true
  | .array _ _ => true
  | _ => false
/-- Where a field lies. -/
def fieldOff (P : Program) (s : TypeId) (f : Nat) : Option Nat :=
  match P.underlying s with
  | some (.struct fields) => (fields[f]?).bind fun fd => (szT P fd.type).bind fun n => if n = 0 then none else some fd.offset
  | _ => none
/-- A field that is one cell. -/
def fieldLeaf (P : Program) (s : TypeId) (f : Nat) : Option Nat :=
  match P.underlying s with
  | some (.struct fields) => (fields[f]?).bind fun fd => (P.underlying fd.type).bind fun d => if isAggD d then none else some fd.offset
  | _ => none
/-- A field that is several cells: where it lies, and how many. -/
def fieldAgg (P : Program) (s : TypeId) (f : Nat) : Option (Nat × Nat) :=
  match P.underlying s with
  | some (.struct fields) => (fields[f]?).bind fun fd => (P.underlying fd.type).bind fun d => if isAggD d then (szT P fd.type).map fun n => (fd.offset, n) else none
  | _ => none
/-- A byte of a string. -/
def bt (s : ByteArray) (i : Int) : Int := (((s.data[i.toNat]?).getD 0).toNat : Int)
def cellsFrom (h : Hp) (a : Addr) : Nat → List Value → Prop
  | _, [] => True
  | i, v :: vs => cellH h (a.add i) = some v ∧ cellsFrom h a (i + 1) vs
@[reducible] def cellsAt (h : Hp) (a : Addr) (vs : List Value) : Prop := cellsFrom h a 0 vs

section
variable {P : Program} {S : Hp → Prop} {o : Oper} {l : Env} {h : Hp}

theorem semH_q {α : Type} {s : Sem α} {K : α → Hp → Prop} {a : α} (hq : semQ P s h = some a) (hk : K a h) : semH P s h K := by
  revert h
  induction s with
  | pure x => intro h hq hk; cases hq; exact hk
  | load m p k ih =>
    intro h hq hk
    simp only [semQ] at hq
    cases hc : cellH h p with
    | none => rw [hc] at hq; cases hq
    | some v => rw [hc] at hq; exact ⟨v, hc, ih v hq hk⟩
  | shape r k ih => intro h hq hk; exact ih _ hq hk
  | frozen p k ih => intro h hq hk; exact ih _ hq hk
  | getObj r k ih =>
    intro h hq hk
    simp only [semQ] at hq
    cases hg : h[r]? with
    | none => rw [hg] at hq; cases hq
    | some x =>
      rw [hg] at hq
      cases x <;> first | cases hq | exact ⟨_, hg, trivial, ih _ hq hk⟩
  | program k ih => intro h hq hk; exact ih _ hq hk
  | mark m k ih => intro h hq hk; exact ih hq hk
  | store m a v k ih => intro h hq; cases hq
  | new o k ih => intro h hq; cases hq
  | freeze a n k ih => intro h hq; cases hq
  | setObj r o k ih => intro h hq; cases hq
  | choose q k ih => intro h hq; cases hq
  | sys c k ih => intro h hq; cases hq
  | halt x => intro h hq; cases hq

theorem semH_bind_q {α β : Type} {s : Sem α} {f : α → Sem β} {K : β → Hp → Prop} {a : α} (hq : semQ P s h = some a) (hk : semH P (f a) h K) : semH P (s >>= f) h K :=
  (semH_bind s f h K).2 (semH_q hq hk)
theorem semQ_bind_q {α β : Type} {s : Sem α} {f : α → Sem β} {a : α} {b : β} (hq : semQ P s h = some a) (hk : semQ P (f a) h = some b) : semQ P (s >>= f) h = some b := by
  rw [semQ_bind, hq]; exact hk

theorem semQ_pure {α : Type} (a : α) : semQ P (pure a : Sem α) h = some a := rfl
theorem semQ_underlying {t : TypeId} {d : TypeDesc} (hu : P.underlying t = some d) : semQ P (underlying t) h = some d := by
  unfold underlying
  refine semQ_bind_q (a := P) rfl ?_
  simp only [hu]
  rfl
theorem semQ_isAgg {t : TypeId} {d : TypeDesc} (hu : P.underlying t = some d) : semQ P (isAgg t) h = some (isAggD d) := by
  unfold isAgg
  refine semQ_bind_q (semQ_underlying hu) ?_
  cases d <;> rfl
theorem semQ_typeInfo {t : TypeId} {i : TypeInfo} (hi : P.info? t = some i) : semQ P (typeInfo t) h = some i := by
  unfold typeInfo
  refine semQ_bind_q (a := P) rfl ?_
  simp only [hi]
  rfl
theorem semQ_sizeOf {t : TypeId} {n : Nat} (hs : szT P t = some n) : semQ P (sizeOf t) h = some n := by
  unfold szT at hs
  cases hi : P.info? t with
  | none => rw [hi] at hs; cases hs
  | some i =>
    rw [hi] at hs
    cases hs
    exact semQ_bind_q (semQ_typeInfo hi) rfl
theorem semQ_bytes {t : TypeId} {n : Nat} (hs : byT P t = some n) : ∃ i, semQ P (typeInfo t) h = some i ∧ i.bytes = n := by
  unfold byT at hs
  cases hi : P.info? t with
  | none => rw [hi] at hs; cases hs
  | some i => rw [hi] at hs; cases hs; exact ⟨i, semQ_typeInfo hi, rfl⟩
theorem semQ_zero {t : TypeId} {v : Value} (hs : zrT P t = some v) : semQ P (zeroValue t) h = some v := by
  unfold zrT at hs
  cases hi : P.info? t with
  | none => rw [hi] at hs; cases hs
  | some i =>
    rw [hi] at hs
    unfold zeroValue
    refine semQ_bind_q (semQ_typeInfo hi) ?_
    have hs' : i.zero = some v := hs
    rw [hs']
    rfl

theorem semQ_load {a : Addr} {v : Value} (hc : cellH h a = some v) : semQ P (load a) h = some v := by
  unfold load
  simp only [semQ, hc]
theorem semQ_getObj {r : Nat} {x : Obj} (hg : h[r]? = some x) (hn : notCells x) : semQ P (getObj r) h = some x := by
  unfold getObj
  cases x <;> first | exact hn.elim | simp only [semQ, hg]
theorem semQ_loadCellsFrom {a : Addr} : ∀ (vs : List Value) (i : Nat) (acc : Array Value), cellsFrom h a i vs → semQ P (loadCellsFrom a i vs.length acc) h = some (acc ++ vs.toArray)
  | [], i, acc, _ => by simp [loadCellsFrom, semQ_pure]
  | v :: vs, i, acc, hc => by
    simp only [List.length_cons, loadCellsFrom]
    refine semQ_bind_q (semQ_load hc.1) ?_
    · rw [semQ_loadCellsFrom vs (i + 1) (acc.push v) hc.2]; simp
theorem semQ_loadCells {a : Addr} {vs : List Value} (hc : cellsAt h a vs) : semQ P (loadCells a vs.length) h = some vs.toArray := by
  unfold loadCells
  rw [semQ_loadCellsFrom vs 0 #[] hc]; simp

/-! ### What only reads -/
theorem q_move {x : Operand} {v : Value} (ho : o.op = .move x) (hx : ev l x = some v) : qop P S o l v := by
  intro n a hf h _; simp only [execOp, ho, hf.eval hx]; rfl
theorem q_assign {x : Operand} {v : Value} (ho : o.op = .assign x) (hx : ev l x = some v) : qop P S o l v := by
  intro n a hf h _; simp only [execOp, ho, hf.eval hx]; rfl
theorem q_pick {c x y : Operand} {b : Bool} {v : Value} (ho : o.op = .pick c x y) (hc : ev l c = some (.bool b)) (hx : ev l (bif b then x else y) = some v) : qop P S o l v := by
  intro n a hf h _
  simp only [execOp, ho, hf.eval hc]
  cases b with
  | true => rw [hf.eval (x := x) hx]; rfl
  | false => rw [hf.eval (x := y) hx]; rfl
theorem q_load {t : TypeId} {x : Operand} {p : Addr} {d : TypeDesc} {v : Value} (ho : o.op = .load t x) (hx : ev l x = some (.pointer (some p))) (hu : P.underlying t = some d) (hd : isAggD d = false)
    (hc : ∀ h, S h → cellH h p = some v) : qop P S o l v := by
  intro n a hf h hS
  simp only [execOp, ho, hf.eval hx, Instr.loadAt, Instr.sureAddr, loadVar]
  refine semQ_bind_q (a := v) (semQ_bind_q (a := p) rfl (semQ_bind_q (semQ_isAgg hu) ?_)) rfl
  rw [hd]
  exact semQ_load (hc h hS)
theorem q_loads {t : TypeId} {x : Operand} {p : Addr} {d : TypeDesc} {vs : List Value} (ho : o.op = .load t x) (hx : ev l x = some (.pointer (some p))) (hu : P.underlying t = some d) (hd : isAggD d = true)
    (hz : szT P t = some vs.length) (hc : ∀ h, S h → cellsAt h p vs) : qop P S o l (.agg vs.toArray) := by
  intro n a hf h hS
  simp only [execOp, ho, hf.eval hx, Instr.loadAt, Instr.sureAddr, loadVar]
  refine semQ_bind_q (a := .agg vs.toArray) (semQ_bind_q (a := p) rfl (semQ_bind_q (semQ_isAgg hu) ?_)) rfl
  rw [hd]
  exact semQ_bind_q (semQ_sizeOf hz) (semQ_bind_q (semQ_loadCells (hc h hS)) rfl)
theorem q_nil {x : Operand} {p : Option Addr} {q : Addr} (ho : o.op = .nilCheck x) (hx : ev l x = some (.pointer p)) (hp : p = some q) : qop P S o l (.pointer (some q)) := by
  intro n a hf h _; subst hp; simp only [execOp, ho, hf.eval hx]; rfl
theorem q_nilf {x : Operand} {f : FuncId} {first cap : Array Value} (ho : o.op = .nilCheck x) (hx : ev l x = some (.func (.func f) first cap)) : qop P S o l (.func (.func f) first cap) := by
  intro n a hf h _; simp only [execOp, ho, hf.eval hx]; rfl
theorem q_fieldAddr {s : TypeId} {x : Operand} {f off : Nat} {p : Addr} (ho : o.op = .fieldAddr s x f) (hx : ev l x = some (.pointer (some p))) (hfo : fieldOff P s f = some off) : qop P S o l (.pointer (some (p.add off))) := by
  intro n a hf h _
  unfold fieldOff at hfo
  cases hu : P.underlying s with
  | none => rw [hu] at hfo; cases hfo
  | some d =>
    rw [hu] at hfo
    cases d <;> try cases hfo
    rename_i fields
    simp only [] at hfo
    cases hg : fields[f]? with
    | none => rw [hg] at hfo; cases hfo
    | some fd =>
      rw [hg] at hfo
      simp only [Option.bind_some] at hfo
      cases hz : szT P fd.type with
      | none => rw [hz] at hfo; cases hfo
      | some k =>
        rw [hz] at hfo
        simp only [Option.bind_some] at hfo
        split at hfo
        · cases hfo
        · rename_i hk
          cases hfo
          simp only [execOp, ho, hf.eval hx, Instr.fieldAt]
          refine semQ_bind_q (a := .pointer (some (p.add fd.offset))) (semQ_bind_q (semQ_underlying hu) ?_) rfl
          simp only [hg]
          refine semQ_bind_q (a := p) rfl (semQ_bind_q (a := p.add fd.offset) ?_ rfl)
          unfold fieldPlace
          refine semQ_bind_q (semQ_sizeOf hz) ?_
          rw [if_neg hk]; rfl
theorem q_field {s : TypeId} {x : Operand} {f off : Nat} {cs : Array Value} {v : Value} (ho : o.op = .field s x f) (hx : ev l x = some (.agg cs)) (hfo : fieldLeaf P s f = some off) (hv : cs[off]? = some v) : qop P S o l v := by
  intro n a hf h _
  unfold fieldLeaf at hfo
  cases hu : P.underlying s with
  | none => rw [hu] at hfo; cases hfo
  | some d =>
    rw [hu] at hfo
    cases d <;> try cases hfo
    rename_i fields
    simp only [] at hfo
    cases hg : fields[f]? with
    | none => rw [hg] at hfo; cases hfo
    | some fd =>
      rw [hg] at hfo
      simp only [Option.bind_some] at hfo
      cases hz : P.underlying fd.type with
      | none => rw [hz] at hfo; cases hfo
      | some k =>
        rw [hz] at hfo
        simp only [Option.bind_some] at hfo
        split at hfo
        · cases hfo
        · rename_i hk
          cases hfo
          simp only [execOp, ho, hf.eval hx, Instr.field]
          refine semQ_bind_q (a := v) (semQ_bind_q (semQ_underlying hu) ?_) rfl
          simp only [hg]
          refine semQ_bind_q (a := cs) rfl ?_
          unfold part
          refine semQ_bind_q (semQ_isAgg hz) ?_
          have hk' : isAggD k = false := by simpa using hk
          rw [hk', hv]
          rfl
theorem q_fields {s : TypeId} {x : Operand} {f off m : Nat} {cs : Array Value} (ho : o.op = .field s x f) (hx : ev l x = some (.agg cs)) (hfo : fieldAgg P s f = some (off, m)) : qop P S o l (.agg (cs.extract off (off + m))) := by
  intro n a hf h _
  unfold fieldAgg at hfo
  cases hu : P.underlying s with
  | none => rw [hu] at hfo; cases hfo
  | some d =>
    rw [hu] at hfo
    cases d <;> try cases hfo
    rename_i fields
    simp only [] at hfo
    cases hg : fields[f]? with
    | none => rw [hg] at hfo; cases hfo
    | some fd =>
      rw [hg] at hfo
      simp only [Option.bind_some] at hfo
      cases hz : P.underlying fd.type with
      | none => rw [hz] at hfo; cases hfo
      | some k =>
        rw [hz] at hfo
        simp only [Option.bind_some] at hfo
        split at hfo
        · rename_i hk
          cases hs : szT P fd.type with
          | none => rw [hs] at hfo; cases hfo
          | some q =>
            rw [hs] at hfo
            cases hfo
            simp only [execOp, ho, hf.eval hx, Instr.field]
            refine semQ_bind_q (semQ_bind_q (semQ_underlying hu) ?_) rfl
            simp only [hg]
            refine semQ_bind_q (a := cs) rfl ?_
            unfold part
            refine semQ_bind_q (semQ_isAgg hz) ?_
            rw [hk]
            exact semQ_bind_q (semQ_sizeOf hs) rfl
        · cases hfo
theorem q_index_string {t : TypeId} {x i : Operand} {s : ByteArray} {k : IntKind} {m : Int} (ho : o.op = .index t x i) (hx : ev l x = some (.string s)) (hi : ev l i = some (.int k m)) (hu : P.underlying t = some .string)
    (h0 : 0 ≤ m) (h1 : m < s.size) : qop P S o l (.int .u8 (bt s m)) := by
  intro n a hf h _
  simp only [execOp, ho, hf.eval hx, hf.eval hi, Instr.index]
  refine semQ_bind_q (a := .int .u8 (bt s m)) (semQ_bind_q (a := (k, m)) rfl (semQ_bind_q (semQ_underlying hu) ?_)) rfl
  simp only [h0, if_true]
  have hlt : m.toNat < s.size := by omega
  have hb : s[m.toNat]? = some (s[m.toNat]) := by simp [hlt]
  rw [hb]
  have : bt s m = ((s[m.toNat]).toNat : Int) := by
    unfold bt
    have hs : m.toNat < s.data.size := hlt
    rw [Array.getElem?_eq_getElem hs]
    rfl
  rw [this]
  rfl
theorem q_index_array {t e : TypeId} {x i : Operand} {len : Nat} {cs : Array Value} {k : IntKind} {m : Int} {d : TypeDesc} {v : Value} (ho : o.op = .index t x i) (hx : ev l x = some (.agg cs)) (hi : ev l i = some (.int k m)) (hu : P.underlying t = some (.array len e))
    (he : P.underlying e = some d) (hd : isAggD d = false) (hz : szT P e = some 1) (h0 : 0 ≤ m) (h1 : m < len) (hv : cs[m.toNat]? = some v) : qop P S o l v := by
  intro n a hf h _
  simp only [execOp, ho, hf.eval hx, hf.eval hi, Instr.index]
  refine semQ_bind_q (a := v) (semQ_bind_q (a := (k, m)) rfl (semQ_bind_q (semQ_underlying hu) ?_)) rfl
  simp only [h0, h1, and_self, if_true]
  refine semQ_bind_q (semQ_sizeOf hz) ?_
  unfold part
  refine semQ_bind_q (semQ_isAgg he) ?_
  rw [hd, Nat.mul_one, hv]
  rfl
theorem q_indexAddr {t e : TypeId} {x i : Operand} {p : Option Addr} {q : Addr} {len cap sz : Nat} {k : IntKind} {m : Int} (ho : o.op = .indexAddr t x i) (hx : ev l x = some (.slice p len cap)) (hi : ev l i = some (.int k m)) (hu : P.underlying t = some (.slice e))
    (hz : szT P e = some sz) (hp : p = some q) (h0 : 0 ≤ m) (h1 : m < len) : qop P S o l (.pointer (some (q.add (m.toNat * sz)))) := by
  intro n a hf h _
  subst hp
  simp only [execOp, ho, hf.eval hx, hf.eval hi, Instr.indexAt]
  refine semQ_bind_q (a := .pointer (some (q.add (m.toNat * sz)))) (semQ_bind_q (a := (k, m)) rfl (semQ_bind_q (semQ_underlying hu) (semQ_bind_q (a := (some q, len, e)) rfl (semQ_bind_q (semQ_underlying hu) ?_)))) rfl
  simp only [h0, h1, and_self, if_true]
  exact semQ_bind_q (semQ_sizeOf hz) rfl
theorem q_indexAddr_array {t e : TypeId} {x i : Operand} {q : Addr} {len sz : Nat} {k : IntKind} {m : Int} (ho : o.op = .indexAddr t x i) (hx : ev l x = some (.pointer (some q))) (hi : ev l i = some (.int k m)) (hu : P.underlying t = some (.array len e))
    (hz : szT P e = some sz) (h0 : 0 ≤ m) (h1 : m < len) : qop P S o l (.pointer (some (q.add (m.toNat * sz)))) := by
  intro n a hf h _
  simp only [execOp, ho, hf.eval hx, hf.eval hi, Instr.indexAt]
  refine semQ_bind_q (a := .pointer (some (q.add (m.toNat * sz)))) (semQ_bind_q (a := (k, m)) rfl (semQ_bind_q (semQ_underlying hu) (semQ_bind_q (a := (some q, len, e)) rfl (semQ_bind_q (semQ_underlying hu) ?_)))) rfl
  simp only [h0, h1, and_self, if_true]
  exact semQ_bind_q (semQ_sizeOf hz) rfl
theorem q_bin {op : BinOp} {t t' : TypeId} {x y : Operand} {vx vy v : Value} (ho : o.op = .binOp op t x y t') (hx : ev l x = some vx) (hy : ev l y = some vy)
    (hv : ∀ h, S h → semQ P (do eqGuard op t x y vx vy; binOp op t vx vy) h = some v) : qop P S o l v := by
  intro n a hf h hS
  simp only [execOp, ho, hf.eval hx, hf.eval hy]
  exact semQ_bind_q (hv h hS) rfl
theorem q_quo {t t' : TypeId} {x y : Operand} {k : IntKind} {i j : Int} (ho : o.op = .binOp .quo t x y t') (hx : ev l x = some (.int k i)) (hy : ev l y = some (.int k j)) (h0 : j ≠ 0) : qop P S o l (.int k (k.wrap (i.tdiv j))) := by
  refine q_bin ho hx hy fun h _ => ?_
  show semQ P (binOp .quo t (.int k i) (.int k j)) h = _
  simp only [binOp, Op.intDiv, ne_eq, not_true_eq_false, if_false, h0]; rfl
theorem q_rem {t t' : TypeId} {x y : Operand} {k : IntKind} {i j : Int} (ho : o.op = .binOp .rem t x y t') (hx : ev l x = some (.int k i)) (hy : ev l y = some (.int k j)) (h0 : j ≠ 0) : qop P S o l (.int k (i.tmod j)) := by
  refine q_bin ho hx hy fun h _ => ?_
  show semQ P (binOp .rem t (.int k i) (.int k j)) h = _
  simp only [binOp, Op.intDiv, ne_eq, not_true_eq_false, if_false, h0]; rfl
theorem q_shl {t t' : TypeId} {x y : Operand} {k k' : IntKind} {i j : Int} (ho : o.op = .binOp .shl t x y t') (hx : ev l x = some (.int k i)) (hy : ev l y = some (.int k' j)) (h0 : 0 ≤ j) : qop P S o l (.int k (k.wrap (i * 2 ^ (min j.toNat k.bits)))) := by
  refine q_bin ho hx hy fun h _ => ?_
  show semQ P (binOp .shl t (.int k i) (.int k' j)) h = _
  simp only [binOp, Op.shift, if_neg (show ¬ j < 0 by omega)]; rfl
theorem q_shr {t t' : TypeId} {x y : Operand} {k k' : IntKind} {i j : Int} (ho : o.op = .binOp .shr t x y t') (hx : ev l x = some (.int k i)) (hy : ev l y = some (.int k' j)) (h0 : 0 ≤ j) : qop P S o l (.int k (i.fdiv (2 ^ (min j.toNat k.bits)))) := by
  refine q_bin ho hx hy fun h _ => ?_
  show semQ P (binOp .shr t (.int k i) (.int k' j)) h = _
  simp only [binOp, Op.shift, if_neg (show ¬ j < 0 by omega)]; rfl
theorem q_cat {t t' : TypeId} {x y : Operand} {a b : ByteArray} (ho : o.op = .binOp .add t x y t') (hx : ev l x = some (.string a)) (hy : ev l y = some (.string b)) (hs : ((a.size + b.size : Nat) : Int) ≤ 9223372036854775807) : qop P S o l (.string (a ++ b)) := by
  refine q_bin ho hx hy fun h _ => ?_
  show semQ P (binOp .add t (.string a) (.string b)) h = _
  simp only [binOp, Op.stringOp]
  rw [if_neg (by show ¬ (_ > (9223372036854775807 : Int)); omega)]; rfl
theorem q_un {op : UnOp} {t : TypeId} {x : Operand} {vx v : Value} (ho : o.op = .unOp op t x) (hx : ev l x = some vx) (hv : ∀ h, semQ P (Op.unary op vx) h = some v) : qop P S o l v := by
  intro n a hf h hS
  simp only [execOp, ho, hf.eval hx]
  exact semQ_bind_q (hv h) rfl
theorem q_conv_int {s d : TypeId} {x : Operand} {k k' : IntKind} {i : Int} {ds : TypeDesc} (ho : o.op = .convert s d x) (hx : ev l x = some (.int k i)) (hs : P.underlying s = some ds) (hd : P.underlying d = some (.int k')) : qop P S o l (.int k' (k'.wrap i)) := by
  intro n a hf h hS
  simp only [execOp, ho, hf.eval hx, convert]
  refine semQ_bind_q (a := .int k' (k'.wrap i)) (semQ_bind_q (semQ_underlying hs) (semQ_bind_q (semQ_underlying hd) ?_)) rfl
  cases ds <;> rfl
theorem q_conv_string {s d : TypeId} {x : Operand} {b : ByteArray} (ho : o.op = .convert s d x) (hx : ev l x = some (.string b)) (hs : P.underlying s = some .string) (hd : P.underlying d = some .string) : qop P S o l (.string b) := by
  intro n a hf h hS
  simp only [execOp, ho, hf.eval hx, convert]
  exact semQ_bind_q (a := .string b) (semQ_bind_q (semQ_underlying hs) (semQ_bind_q (semQ_underlying hd) rfl)) rfl
def u8s (b : ByteArray) : List Value := b.data.toList.map fun x => .int .u8 (x.toNat : Int)
theorem q_conv_bytes_nil {s d e : TypeId} {x : Operand} {n c : Nat} (ho : o.op = .convert s d x) (hx : ev l x = some (.slice none n c)) (hs : P.underlying s = some (.slice e)) (hd : P.underlying d = some .string) (he : P.underlying e = some (.int .u8)) : qop P S o l (.string .empty) := by
  intro n a hf h hS
  simp only [execOp, ho, hf.eval hx, convert]
  exact semQ_bind_q (a := .string .empty) (semQ_bind_q (semQ_underlying hs) (semQ_bind_q (semQ_underlying hd) (semQ_bind_q (semQ_underlying he) rfl))) rfl
theorem foldl_push (xs : List UInt8) : ∀ acc : ByteArray, xs.foldl ByteArray.push acc = ⟨acc.data ++ xs.toArray⟩ := by
  induction xs with
  | nil => intro acc; simp
  | cons x xs ih =>
    intro acc
    rw [List.foldl_cons, ih]
    simp [ByteArray.push]
theorem q_conv_bytes {s d e : TypeId} {x : Operand} {p : Addr} {n c : Nat} {b : ByteArray} (ho : o.op = .convert s d x) (hx : ev l x = some (.slice (some p) n c)) (hs : P.underlying s = some (.slice e)) (hd : P.underlying d = some .string) (he : P.underlying e = some (.int .u8))
    (hn : b.size = n) (hc : ∀ h, S h → cellsAt h p (u8s b)) : qop P S o l (.string b) := by
  intro n' a hf h hS
  simp only [execOp, ho, hf.eval hx, convert]
  refine semQ_bind_q (a := .string b) (semQ_bind_q (semQ_underlying hs) (semQ_bind_q (semQ_underlying hd) (semQ_bind_q (semQ_underlying he) ?_))) rfl
  simp only [Conv.bytesToString]
  have hl : (u8s b).length = n := by unfold u8s; rw [List.length_map, Array.length_toList]; exact hn
  rw [← hl]
  refine semQ_bind_q (semQ_loadCells (hc h hS)) ?_
  refine semQ_bind_q (a := b) ?_ rfl
  have e : b = b.data.toList.foldl ByteArray.push ByteArray.empty := by
    rw [foldl_push]
    cases b
    simp only [ByteArray.empty, ByteArray.emptyWithCapacity, Array.toArray_toList]
    first | rfl | (simp; done) | (simp; rfl)
  simp only [u8s, List.forIn_toArray]
  conv => rhs; rw [e]
  generalize ByteArray.empty = acc
  clear hc hl e hn
  generalize b.data.toList = xs
  induction xs generalizing acc with
  | nil => rfl
  | cons x xs ih =>
    simp only [List.map_cons, List.forIn_cons, List.foldl_cons]
    refine semQ_bind_q (a := ForInStep.yield (acc.push (UInt8.ofNat (((x.toNat : Int)).toNat)))) rfl ?_
    simp only [Int.toNat_natCast, UInt8.ofNat_toNat]
    exact ih _
theorem q_len_string {t u : TypeId} {x : Operand} {s : ByteArray} (ho : o.op = .call { callee := .builtin .len, args := #[x], argTypes := #[t] }) (hx : ev l x = some (.string s)) (hu : P.underlying t = some .string) (_ : o.type = u) : qop P S o l (.int .i64 (s.size : Int)) := by
  intro n a hf h hS
  simp only [execOp, ho, resolve, invoke, builtin, Builtin.len_, List.map_toArray, List.map_cons, List.map_nil, hf.eval hx]
  exact semQ_bind_q (a := _) rfl (semQ_bind_q (a := .int .i64 (s.size : Int)) (semQ_bind_q (semQ_underlying hu) rfl) rfl)
theorem q_len_slice {t e u : TypeId} {x : Operand} {p : Option Addr} {m c : Nat} (ho : o.op = .call { callee := .builtin .len, args := #[x], argTypes := #[t] }) (hx : ev l x = some (.slice p m c)) (hu : P.underlying t = some (.slice e)) (_ : o.type = u) : qop P S o l (.int .i64 (m : Int)) := by
  intro n a hf h hS
  simp only [execOp, ho, resolve, invoke, builtin, Builtin.len_, List.map_toArray, List.map_cons, List.map_nil, hf.eval hx]
  exact semQ_bind_q (a := _) rfl (semQ_bind_q (a := .int .i64 (m : Int)) (semQ_bind_q (semQ_underlying hu) rfl) rfl)
theorem q_cap_slice {t e u : TypeId} {x : Operand} {p : Option Addr} {m c : Nat} (ho : o.op = .call { callee := .builtin .cap, args := #[x], argTypes := #[t] }) (hx : ev l x = some (.slice p m c)) (hu : P.underlying t = some (.slice e)) (_ : o.type = u) (hv : ∀ h, semQ P (Builtin.cap_ #[t] u #[.slice p m c]) h = some (.int .i64 (c : Int))) : qop P S o l (.int .i64 (c : Int)) := by
  intro n a hf h hS
  have hu' := hu
  subst_vars
  simp only [execOp, ho, resolve, invoke, builtin, List.map_toArray, List.map_cons, List.map_nil, hf.eval hx]
  exact semQ_bind_q (a := _) rfl (semQ_bind_q (a := .int .i64 (c : Int)) (hv h) rfl)
def lenMap (h : Hp) (m : Option Nat) : Option Nat :=
  match m with
  | none => some 0
  | some r => match h[r]? with
    | some (.map es _) => some es.size
    | _ => none
theorem q_len_map {t k e : TypeId} {x : Operand} {m : Option Nat} {c : Nat} (ho : o.op = .call { callee := .builtin .len, args := #[x], argTypes := #[t] }) (hx : ev l x = some (.map m)) (hu : P.underlying t = some (.map k e))
    (hm : ∀ h, S h → lenMap h m = some c) : qop P S o l (.int .i64 (c : Int)) := by
  intro n a hf h hS
  have hm := hm h hS
  simp only [execOp, ho, resolve, invoke, builtin, Builtin.len_, List.map_toArray, List.map_cons, List.map_nil, hf.eval hx]
  refine semQ_bind_q (a := _) rfl (semQ_bind_q (a := .int .i64 (c : Int)) (semQ_bind_q (semQ_underlying hu) ?_) rfl)
  cases m with
  | none => cases hm; rfl
  | some r =>
    simp only [lenMap] at hm
    cases hg : h[r]? with
    | none => rw [hg] at hm; cases hm
    | some x =>
      rw [hg] at hm
      cases x <;> try cases hm
      rename_i es clk
      exact semQ_bind_q (semQ_getObj hg trivial) rfl
theorem q_max {t u : TypeId} {x y : Operand} {k : IntKind} {i j : Int} (ho : o.op = .call { callee := .builtin .max, args := #[x, y], argTypes := #[t, t] }) (hx : ev l x = some (.int k i)) (hy : ev l y = some (.int k j)) (_ : o.type = u) : qop P S o l (.int k (if j > i then j else i)) := by
  intro n a hf h hS
  simp only [execOp, ho, resolve, invoke, builtin, Builtin.max_, List.map_toArray, List.map_cons, List.map_nil, hf.eval hx, hf.eval hy]
  exact semQ_bind_q (a := _) rfl rfl
theorem q_min {t u : TypeId} {x y : Operand} {k : IntKind} {i j : Int} (ho : o.op = .call { callee := .builtin .min, args := #[x, y], argTypes := #[t, t] }) (hx : ev l x = some (.int k i)) (hy : ev l y = some (.int k j)) (_ : o.type = u) : qop P S o l (.int k (if j < i then j else i)) := by
  intro n a hf h hS
  simp only [execOp, ho, resolve, invoke, builtin, Builtin.min_, List.map_toArray, List.map_cons, List.map_nil, hf.eval hx, hf.eval hy]
  exact semQ_bind_q (a := _) rfl rfl
theorem q_extract {x : Operand} {i : Nat} {vs : Array Value} {v : Value} (ho : o.op = .extract x i) (hx : ev l x = some (.tuple vs)) (hv : vs[i]? = some v) : qop P S o l v := by
  intro n a hf h hS
  simp only [execOp, ho, hf.eval hx, Instr.extract, hv]
  exact semQ_bind_q (a := v) rfl rfl
theorem evs_map {n : Nat} {a : Act} (hf : Fr n a l) : ∀ {xs : List Operand} {vs : List Value}, xs.mapM (ev l) = some vs → xs.map a.eval = vs
  | [], vs, h => by cases h; rfl
  | x :: xs, vs, h => by
    simp only [List.mapM_cons] at h
    cases hx : ev l x with
    | none => rw [hx] at h; cases h
    | some v =>
      rw [hx] at h
      cases hxs : xs.mapM (ev l) with
      | none => rw [hxs] at h; cases h
      | some us =>
        rw [hxs] at h
        cases h
        rw [List.map_cons, hf.eval hx, evs_map hf hxs]
theorem q_makeFunc {fn : Fn} {xs ys : List Operand} {us vs : List Value} (ho : o.op = .makeFunc fn xs.toArray ys.toArray) (hx : xs.mapM (ev l) = some us) (hy : ys.mapM (ev l) = some vs) : qop P S o l (.func fn us.toArray vs.toArray) := by
  intro n a hf h hS
  simp only [execOp, ho, Instr.makeFunc, List.map_toArray, evs_map hf hx, evs_map hf hy]
  exact semQ_bind_q (a := _) rfl rfl
theorem q_build {t : TypeId} {ps : List (Nat × Operand)} {vs : List (Nat × Value)} {v : Value} (ho : o.op = .build t ps.toArray) (hx : ps.mapM (fun p => (ev l p.2).map fun v => (p.1, v)) = some vs)
    (hv : ∀ h, S h → semQ P (Instr.build t vs.toArray) h = some v) : qop P S o l v := by
  intro n a hf h hS
  have : ∀ (ps : List (Nat × Operand)) (vs : List (Nat × Value)), ps.mapM (fun p => (ev l p.2).map fun v => (p.1, v)) = some vs → ps.map (fun p => (p.1, a.eval p.2)) = vs := by
    intro ps
    induction ps with
    | nil => intro vs h; cases h; rfl
    | cons p ps ih =>
      intro vs h
      simp only [List.mapM_cons] at h
      cases hp : ev l p.2 with
      | none => rw [hp] at h; cases h
      | some v =>
        rw [hp] at h
        simp only [Option.map_some, Option.bind_eq_bind, Option.bind_some] at h
        cases hps : ps.mapM (fun p => (ev l p.2).map fun v => (p.1, v)) with
        | none => rw [hps] at h; cases h
        | some us =>
          rw [hps] at h
          cases h
          rw [List.map_cons, hf.eval hp, ih us hps]
  simp only [execOp, ho, List.map_toArray]
  rw [show (ps.map fun x => (x.1, a.eval x.2)) = vs from this ps vs hx]
  exact semQ_bind_q (hv h hS) rfl
theorem semQ_sliceBound {k : IntKind} {i y : Nat} {code : BoundsCode} (h1 : i ≤ y) : semQ P (Instr.sliceBound (.int k (i : Int)) y code) h = some i := by
  unfold Instr.sliceBound
  refine semQ_bind_q (a := (k, (i : Int))) rfl ?_
  simp only []
  rw [if_pos (by omega)]
  rfl
theorem semQ_sliceBounds {isS : Bool} {len cap i j : Nat} {lo hi : Option Value} (hlo : lo = none ∧ i = 0 ∨ ∃ k, lo = some (.int k (i : Int))) (hhi : hi = none ∧ j = len ∨ ∃ k, hi = some (.int k (j : Int))) (h1 : i ≤ j) (h2 : j ≤ cap) :
    semQ P (Instr.sliceBounds isS len cap lo hi none) h = some (i, j, cap) := by
  rcases hlo with ⟨rfl, rfl⟩ | ⟨k, rfl⟩ <;> rcases hhi with ⟨rfl, rfl⟩ | ⟨k', rfl⟩ <;> simp only [Instr.sliceBounds]
  · rfl
  · exact semQ_bind_q (a := cap) rfl (semQ_bind_q (semQ_sliceBound h2) rfl)
  · exact semQ_bind_q (a := cap) rfl (semQ_bind_q (a := j) rfl (semQ_bind_q (semQ_sliceBound h1) rfl))
  · exact semQ_bind_q (a := cap) rfl (semQ_bind_q (semQ_sliceBound h2) (semQ_bind_q (semQ_sliceBound h1) rfl))
/-- A bound of a cut: left out, or a number. -/
def bnd (l : Env) (x : Option Operand) (i dflt : Nat) : Prop :=
  match x with
  | none => i = dflt
  | some y => ∃ k m, ev l y = some (.int k m) ∧ m = (i : Int)
theorem low_of {n : Nat} {a : Act} (hf : Fr n a l) {lo : Option Operand} {i m : Nat} (hlo : bnd l lo i m) :
    lo.map a.eval = none ∧ i = m ∨ ∃ k, lo.map a.eval = some (.int k (i : Int)) := by
  cases lo with
  | none => exact .inl ⟨rfl, hlo⟩
  | some y => obtain ⟨k, q, hk, rfl⟩ := hlo; exact .inr ⟨k, by simp [hf.eval hk]⟩
theorem q_slice_string {t : TypeId} {x : Operand} {lo hi : Option Operand} {s : ByteArray} {i j : Nat} (ho : o.op = .slice t x lo hi none) (hx : ev l x = some (.string s)) (hu : P.underlying t = some .string)
    (hlo : bnd l lo i 0) (hhi : bnd l hi j s.size) (h1 : i ≤ j) (h2 : j ≤ s.size) :
    qop P S o l (.string (s.extract i j)) := by
  intro n a hf h hS
  have hB := semQ_sliceBounds (P := P) (h := h) (isS := false) (low_of hf hlo) (low_of hf hhi) h1 h2
  simp only [execOp, ho, hf.eval hx, Instr.sliceAt, Option.map_none]
  refine semQ_bind_q (a := .string (s.extract i j)) (semQ_bind_q (semQ_underlying hu) ?_) rfl
  simp only [Instr.slice]
  exact semQ_bind_q (semQ_underlying hu) (semQ_bind_q hB rfl)
theorem q_slice {t e : TypeId} {x : Operand} {lo hi : Option Operand} {p : Option Addr} {len cap i j sz : Nat} (ho : o.op = .slice t x lo hi none) (hx : ev l x = some (.slice p len cap)) (hu : P.underlying t = some (.slice e)) (hz : szT P e = some sz)
    (hlo : bnd l lo i 0) (hhi : bnd l hi j len) (h1 : i ≤ j) (h2 : j ≤ cap) :
    qop P S o l (.slice (if cap = i then p else p.map (·.add (i * sz))) (j - i) (cap - i)) := by
  intro n a hf h hS
  have hB := semQ_sliceBounds (P := P) (h := h) (isS := true) (low_of hf hlo) (low_of hf hhi) h1 h2
  simp only [execOp, ho, hf.eval hx, Instr.sliceAt, Option.map_none]
  refine semQ_bind_q (a := .slice (if cap = i then p else p.map (·.add (i * sz))) (j - i) (cap - i)) (semQ_bind_q (semQ_underlying hu) ?_) rfl
  simp only [Instr.slice]
  exact semQ_bind_q (semQ_underlying hu) (semQ_bind_q hB (semQ_bind_q (semQ_sizeOf hz) rfl))
theorem q_slice_array {t e : TypeId} {x : Operand} {lo hi : Option Operand} {p : Addr} {len i j sz : Nat} (ho : o.op = .slice t x lo hi none) (hx : ev l x = some (.pointer (some p))) (hu : P.underlying t = some (.array len e)) (hz : szT P e = some sz)
    (hlo : bnd l lo i 0) (hhi : bnd l hi j len) (h1 : i ≤ j) (h2 : j ≤ len) :
    qop P S o l (.slice (some (if len = i then p else p.add (i * sz))) (j - i) (len - i)) := by
  intro n a hf h hS
  have hB := semQ_sliceBounds (P := P) (h := h) (isS := false) (low_of hf hlo) (low_of hf hhi) h1 h2
  simp only [execOp, ho, hf.eval hx, Instr.sliceAt, Option.map_none]
  exact semQ_bind_q (a := _) (semQ_bind_q (semQ_underlying hu) (semQ_bind_q (a := p) rfl (semQ_bind_q hB (semQ_bind_q (semQ_sizeOf hz) rfl)))) rfl
end
end Go.Proofs.YtgdmjdacmebfjaaGreatDoor.D

namespace Go.Proofs.YtgdmjdacmebfjaaGreatDoor.D
open Go

def putsFrom (a : Addr) : Hp → Nat → List Value → Hp
  | h, _, [] => h
  | h, i, v :: vs => putsFrom a (setH h (a.add i) v) (i + 1) vs
def canPut (a : Addr) : Hp → Nat → List Value → Prop
  | _, _, [] => True
  | h, i, v :: vs => leaf v ∧ (∃ u, cellH h (a.add i) = some u) ∧ frozenH h (a.add i) = false ∧ canPut a (setH h (a.add i) v) (i + 1) vs

/-! ### Maps whose keys are strings -/
def strKeys (es : List MapEntry) : Prop := ∀ e ∈ es, ∃ s, e.key = .string s
def idxS (k : ByteArray) : List MapEntry → Nat → Option (Nat × Value)
  | [], _ => none
  | e :: es, i => match e.key with
    | .string s => if k == s then some (i, e.val) else idxS k es (i + 1)
    | _ => idxS k es (i + 1)
def mapEs (h : Hp) (m : Option Nat) : Option (List MapEntry) :=
  match m with
  | none => some []
  | some r => match h[r]? with
    | some (.map es _) => some es.toList
    | _ => none
/-- The entries behind 'm[k] = v', and the clock. -/
def updS (es : Array MapEntry) (clk : Nat) (k : ByteArray) (v : Value) : Obj :=
  match idxS k es.toList 0 with
  | some (i, _) => .map (es.modify i fun e => { e with key := .string k, val := v }) clk
  | none => .map (es.push { key := .string k, val := v, born := clk }) (clk + 1)
def delS (es : Array MapEntry) (clk : Nat) (k : ByteArray) : Obj :=
  match idxS k es.toList 0 with
  | some (i, _) => .map (es.eraseIdxIfInBounds i) clk
  | none => .map es clk

/-- 'append': in place, or in a new block. -/
def apd (sz bytes : Nat) (elem : TypeId) (z : List Value) (h : Hp) (s : Sl) (m : Nat) (news : List Value) (K : Sl → Hp → Prop) : Prop :=
  (s.len + m ≤ s.cap → (s.a = none → K ⟨none, s.len + m, s.cap⟩ h) ∧ (∀ b, s.a = some b → canPut (b.add (s.len * sz)) h 0 news ∧ K ⟨some b, s.len + m, s.cap⟩ (putsFrom (b.add (s.len * sz)) h 0 news))) ∧
  (s.cap < s.len + m → s.len + m ≤ 9223372036854775807 ∧ Builtin.nextslicecap (s.len + m) s.cap * bytes ≤ 281474976710656 ∧
    ∃ olds : List Value, olds.length = s.len * sz ∧ (s.a = none → olds = []) ∧ (∀ b, s.a = some b → cellsAt h b olds) ∧
      ∀ c, s.len + m ≤ c → K ⟨some ⟨h.size, 0, none⟩, s.len + m, c⟩ (h.push (.cells (olds.toArray ++ news.toArray ++ Builtin.zeroCells z.toArray (c - (s.len + m))) elem)))

section
variable {P : Program} {S : Hp → Prop} {o : Oper} {l : Env} {h : Hp} {R : Value → Hp → Prop}

theorem semH_store {α : Type} {a : Addr} {v : Value} {f : Unit → Sem α} {K : α → Hp → Prop} (hl : leaf v) (hc : ∃ u, cellH h a = some u) (hf : frozenH h a = false) (hk : semH P (f ()) (setH h a v) K) : semH P (store a v >>= f) h K :=
  (semH_bind _ _ _ _).2 ⟨hl, hc, hf, hk⟩
theorem semH_storeCells {α : Type} {a : Addr} {f : Unit → Sem α} {K : α → Hp → Prop} : ∀ {vs : List Value} {h : Hp} {i : Nat}, canPut a h i vs → semH P (f ()) (putsFrom a h i vs) K → semH P (storeCells a vs i >>= f) h K
  | [], h, i, _, hk => by unfold storeCells; exact hk
  | v :: vs, h, i, hc, hk => by
    unfold storeCells
    refine (semH_bind _ _ _ _).2 ?_
    refine semH_store hc.1 hc.2.1 hc.2.2.1 ?_
    exact (semH_bind _ _ _ _).1 (semH_storeCells (vs := vs) hc.2.2.2 hk)

theorem e_alloc {t : TypeId} {z : Value} (ho : o.op = .alloc t) (hz : zrT P t = some z) (hR : ∀ h', h' = (h.push (.cells z.cells t)) → R (.pointer (some ⟨h.size, 0, none⟩)) h') : eop P o l h R := by
  have hR := hR _ rfl
  refine eop_of_sem fun n a hf => ?_
  simp only [execOp, ho, Instr.alloc]
  refine (semH_bind _ _ _ _).2 (semH_bind_q (semQ_zero hz) ?_)
  exact .inl ⟨_, rfl, hR⟩
theorem e_box {t : TypeId} {x : Operand} {v : Value} (ho : o.op = .box t x) (hx : ev l x = some v) (hR : ∀ h', h' = (h.push (.cells v.cells t)) → R (.pointer (some ⟨h.size, 0, none⟩)) h') : eop P o l h R := by
  have hR := hR _ rfl
  refine eop_of_sem fun n a hf => ?_
  simp only [execOp, ho, Instr.box, hf.eval hx]
  exact .inl ⟨_, rfl, hR⟩
theorem e_store {t : TypeId} {x y : Operand} {p : Addr} {v u : Value} (ho : o.op = .store t x y) (hx : ev l x = some (.pointer (some p))) (hy : ev l y = some v) (hz : szT P t = some 1) (hl : leaf v) (hc : cellH h p = some u) (hfz : frozenH h p = false)
    (hR : ∀ h', h' = (setH h p v) → R undef h') : eop P o l h R := by
  have hR := hR _ rfl
  refine eop_of_sem fun n a hf => ?_
  simp only [execOp, ho, Instr.storeAt, Instr.sureAddr, hf.eval hx, hf.eval hy]
  have hv : v.cells = #[v] := by cases v <;> first | rfl | exact hl.elim
  refine (semH_bind _ _ _ _).2 ?_
  refine semH_bind_q (a := p) rfl ?_
  unfold storeVar
  refine semH_bind_q (semQ_sizeOf hz) ?_
  rw [hv]
  simp only [List.size_toArray, List.length_cons, List.length_nil, Nat.zero_add, ne_eq, not_true_eq_false, if_false]
  refine semH_mono (K := fun _ h' => h' = setH h p v) _ ?_ (fun _ h' e => .inr ⟨rfl, by rw [e]; exact hR⟩)
  show semH P (storeCells p [v] 0) h _
  unfold storeCells storeCells
  have e0 : p.add 0 = p := rfl
  rw [e0]
  exact semH_store hl ⟨u, hc⟩ hfz rfl
theorem e_stores {t : TypeId} {x y : Operand} {p : Addr} {vs : List Value} (ho : o.op = .store t x y) (hx : ev l x = some (.pointer (some p))) (hy : ev l y = some (.agg vs.toArray)) (hz : szT P t = some vs.length) (hc : canPut p h 0 vs)
    (hR : ∀ h', h' = (putsFrom p h 0 vs) → R undef h') : eop P o l h R := by
  have hR := hR _ rfl
  refine eop_of_sem fun n a hf => ?_
  simp only [execOp, ho, Instr.storeAt, Instr.sureAddr, hf.eval hx, hf.eval hy]
  refine (semH_bind _ _ _ _).2 ?_
  refine semH_bind_q (a := p) rfl ?_
  unfold storeVar
  refine semH_bind_q (semQ_sizeOf hz) ?_
  simp only [Value.cells, List.size_toArray, ne_eq, not_true_eq_false, if_false]
  have := semH_storeCells (P := P) (f := fun _ => pure ()) (K := fun _ h' => h' = putsFrom p h 0 vs) hc rfl
  have h2 := (semH_bind _ _ _ _).1 this
  exact semH_mono _ h2 (fun _ h' e => .inr ⟨rfl, by rw [show h' = putsFrom p h 0 vs from e]; exact hR⟩)
theorem e_buildSlice {t e : TypeId} {len sz : Nat} {ps : List (Nat × Operand)} {vs : List (Nat × Value)} {z : Value} {cs : Array Value} (ho : o.op = .buildSlice t len ps.toArray) (hx : ps.mapM (fun p => (ev l p.2).map fun v => (p.1, v)) = some vs)
    (hu : P.underlying t = some (.slice e)) (hsz : szT P e = some sz) (hz : zrT P e = some z) (hb : ¬ len * sz > 2 ^ 24)
    (hfill : Instr.fill (fun i => some (i * sz, sz)) ((Array.range (len * sz)).map ((if len * sz = 0 then #[] else z.cells)[· % (if len * sz = 0 then #[] else z.cells).size]!)) vs = some cs)
    (hR : ∀ h', h' = (h.push (.cells cs e)) → R (.slice (some ⟨h.size, 0, none⟩) len len) h') : eop P o l h R := by
  have hR := hR _ rfl
  refine eop_of_sem fun n a hf => ?_
  have hps : ∀ (ps : List (Nat × Operand)) (vs : List (Nat × Value)), ps.mapM (fun p => (ev l p.2).map fun v => (p.1, v)) = some vs → ps.map (fun p => (p.1, a.eval p.2)) = vs := by
    intro ps
    induction ps with
    | nil => intro vs h; cases h; rfl
    | cons p ps ih =>
      intro vs h
      simp only [List.mapM_cons] at h
      cases hp : ev l p.2 with
      | none => rw [hp] at h; cases h
      | some v =>
        rw [hp] at h
        simp only [Option.map_some, Option.bind_eq_bind, Option.bind_some] at h
        cases hps : ps.mapM (fun p => (ev l p.2).map fun v => (p.1, v)) with
        | none => rw [hps] at h; cases h
        | some us =>
          rw [hps] at h
          cases h
          rw [List.map_cons, hf.eval hp, ih us hps]
  simp only [execOp, ho, List.map_toArray]
  rw [show (ps.map fun x => (x.1, a.eval x.2)) = vs from hps ps vs hx]
  simp only [Instr.buildSlice]
  refine (semH_bind _ _ _ _).2 ?_
  refine semH_bind_q (semQ_underlying hu) (semH_bind_q (semQ_sizeOf hsz) ?_)
  rw [if_neg hb]
  by_cases h0 : len * sz = 0
  · rw [if_pos h0] at hfill ⊢
    refine semH_bind_q (a := #[]) rfl ?_
    rw [hfill]
    exact .inl ⟨_, rfl, hR⟩
  · rw [if_neg h0] at hfill ⊢
    refine semH_bind_q (semQ_zero hz) (semH_bind_q (a := z.cells) rfl ?_)
    rw [hfill]
    exact .inl ⟨_, rfl, hR⟩

/-! ### Calls -/
def callable (P : Program) (g : FuncId) : Bool :=
  match P.funcs[g]? with
  | some fn => !(fn.name == "runtime.NumGoroutine") && fn.body.isSome
  | none => false
theorem semQ_callFunc {g : FuncId} {args : Array Value} (hg : callable P g = true) : semQ P (callFunc g args) h = some (.enter g args) := by
  unfold callable at hg
  cases hf : P.funcs[g]? with
  | none => rw [hf] at hg; cases hg
  | some fn =>
    rw [hf] at hg
    simp only [Bool.and_eq_true, Bool.not_eq_true'] at hg
    unfold callFunc
    refine semQ_bind_q (a := P) rfl ?_
    simp only [hf, hg.1]
    have hb : fn.body.isNone = false := by
      cases hb : fn.body with
      | none => rw [hb] at hg; cases hg.2
      | some _ => rfl
    simp only [hb]
    rfl
theorem e_call {f : Operand} {xs : List Operand} {ts : Array TypeId} {g : FuncId} {first vs cap : List Value} (ho : o.op = .call { callee := .value f, args := xs.toArray, argTypes := ts }) (hf : ev l f = some (.func (.func g) first.toArray cap.toArray))
    (hx : xs.mapM (ev l) = some vs) (hg : callable P g = true) (hc : CallsH P g (first ++ vs ++ cap).toArray h R) : eop P o l h R := by
  refine eop_enter (f := g) (args := (first ++ vs ++ cap).toArray) (fun n a hfr => ?_) hc
  simp only [execOp, ho, resolve, hfr.eval hf, List.map_toArray, evs_map hfr hx, Deferred.ofValue]
  refine semQ_bind_q (a := { target := .fn (.func g) cap.toArray, args := first.toArray ++ vs.toArray }) rfl ?_
  simp only [invoke]
  have : (first.toArray ++ vs.toArray ++ cap.toArray) = (first ++ vs ++ cap).toArray := by simp
  rw [this]
  exact semQ_callFunc hg

/-! ### Maps -/
theorem semQ_checkKey {t : TypeId} {d : TypeDesc} {b : Bool} {k : ByteArray} (hu : P.underlying t = some d) (hd : d = .string) : semQ P (Instr.checkKey b 10000 t (.string k)) h = some () := by
  subst hd
  unfold Instr.checkKey
  exact semQ_bind_q (semQ_underlying hu) rfl
theorem bytes_beq {a b : ByteArray} : (a == b) = true ↔ a = b := by
  have h : (a == b) = (a.data == b.data) := by cases a; cases b; rfl
  rw [h, beq_iff_eq]
  cases a; cases b
  simp
theorem findNow_idxS {k : ByteArray} : ∀ {es : List MapEntry} {i : Nat}, strKeys es → Instr.findNow .string (.string k) es i = some (idxS k es i)
  | [], _, _ => rfl
  | e :: es, i, hk => by
    obtain ⟨s, hs⟩ := hk e (List.mem_cons_self ..)
    simp only [Instr.findNow, idxS, hs, Instr.sameNow]
    by_cases hb : (k == s) = true
    · rw [hb]; rfl
    · have hb' : (k == s) = false := by simpa using hb
      rw [hb']
      simp only [Bool.false_eq_true, if_false]
      exact findNow_idxS fun x hx => hk x (List.mem_cons_of_mem _ hx)
theorem semQ_findKey {t : TypeId} {k : ByteArray} {es : List MapEntry} (hu : P.underlying t = some .string) (hk : strKeys es) : semQ P (Instr.findKey t (.string k) es) h = some (idxS k es 0) := by
  unfold Instr.findKey
  refine semQ_bind_q (semQ_underlying hu) ?_
  simp only [findNow_idxS hk]
  rfl
theorem q_lookup {t k e : TypeId} {x y : Operand} {m : Option Nat} {key : ByteArray} {es : List MapEntry} {z : Value} {ok : Bool} (ho : o.op = .lookup t x y ok) (hx : ev l x = some (.map m)) (hy : ev l y = some (.string key)) (hu : P.underlying t = some (.map k e)) (hk : P.underlying k = some .string)
    (hz : zrT P e = some z) (hs : strKeys es) (hm : ∀ h, S h → mapEs h m = some es) : qop P S o l (if ok then .tuple #[((idxS key es 0).map (·.2)).getD z, .bool (idxS key es 0).isSome] else ((idxS key es 0).map (·.2)).getD z) := by
  intro n a hf h hS
  have hm := hm h hS
  simp only [execOp, ho, hf.eval hx, hf.eval hy, Instr.lookup]
  refine semQ_bind_q (a := (if ok then .tuple #[((idxS key es 0).map (·.2)).getD z, .bool (idxS key es 0).isSome] else ((idxS key es 0).map (·.2)).getD z)) (semQ_bind_q (semQ_underlying hu) ?_) rfl
  cases m with
  | none =>
    cases hm
    simp only []
    refine semQ_bind_q (a := #[]) rfl (semQ_bind_q (a := ()) (semQ_checkKey hk rfl) (semQ_bind_q (semQ_findKey (es := []) hk hs) ?_))
    cases ok
    · exact semQ_bind_q (semQ_zero hz) rfl
    · exact semQ_bind_q (semQ_zero hz) rfl
  | some r =>
    simp only [mapEs] at hm
    cases hg : h[r]? with
    | none => rw [hg] at hm; cases hm
    | some ob =>
      rw [hg] at hm
      cases ob <;> try cases hm
      rename_i q clk
      simp only []
      refine semQ_bind_q (semQ_getObj hg trivial) ?_
      simp only []
      refine semQ_bind_q (a := q) rfl (semQ_bind_q (a := ()) (semQ_checkKey hk rfl) (semQ_bind_q (semQ_findKey hk hs) ?_))
      cases hi : idxS key q.toList 0 with
      | none =>
        cases ok
        · exact semQ_bind_q (semQ_zero hz) rfl
        · exact semQ_bind_q (semQ_zero hz) rfl
      | some p => cases ok <;> rfl
theorem e_makeMap {t : TypeId} (ho : o.op = .makeMap t none) (hR : ∀ h', h' = (h.push (.map #[] 0)) → R (.map (some h.size)) h') : eop P o l h R := by
  have hR := hR _ rfl
  refine eop_of_sem fun n a hf => ?_
  simp only [execOp, ho, Instr.makeMap, Option.map_none]
  exact .inl ⟨_, rfl, hR⟩
theorem idxS_key {k : ByteArray} : ∀ {es : List MapEntry} {i j : Nat} {v : Value}, idxS k es i = some (j, v) → i ≤ j ∧ ∃ e, es[j - i]? = some e ∧ ∃ s, e.key = .string s ∧ (k == s) = true
  | [], _, _, _, h => by cases h
  | e :: es, i, j, v, h => by
    simp only [idxS] at h
    have next : idxS k es (i + 1) = some (j, v) → i ≤ j ∧ ∃ e', (e :: es)[j - i]? = some e' ∧ ∃ s, e'.key = .string s ∧ (k == s) = true := by
      intro h
      obtain ⟨h1, e', h2, h3⟩ := idxS_key h
      refine ⟨by omega, e', ?_, h3⟩
      rw [show j - i = (j - (i + 1)) + 1 by omega, List.getElem?_cons_succ]
      exact h2
    split at h
    · rename_i s hs
      split at h
      · rename_i hb
        cases h
        exact ⟨Nat.le_refl _, e, by simp, s, hs, hb⟩
      · exact next h
    · exact next h
theorem e_mapUpdate {t k e : TypeId} {x y w : Operand} {r : Nat} {key : ByteArray} {v : Value} {es : Array MapEntry} {clk : Nat} (ho : o.op = .mapUpdate t x y w) (hx : ev l x = some (.map (some r))) (hy : ev l y = some (.string key)) (hw : ev l w = some v)
    (hu : P.underlying t = some (.map k e)) (hk : P.underlying k = some .string) (hm : h[r]? = some (.map es clk)) (hs : strKeys es.toList) (hR : ∀ h', h' = (h.setIfInBounds r (updS es clk key v)) → R undef h') : eop P o l h R := by
  have hR := hR _ rfl
  refine eop_of_sem fun n a hf => ?_
  simp only [execOp, ho, hf.eval hx, hf.eval hy, hf.eval hw, Instr.mapUpdate]
  refine (semH_bind _ _ _ _).2 ?_
  refine semH_bind_q (semQ_underlying hu) ?_
  simp only []
  refine semH_bind_q (semQ_getObj hm trivial) ?_
  simp only []
  refine semH_bind_q (semQ_checkKey hk rfl) (semH_bind_q (semQ_findKey hk hs) ?_)
  unfold updS at hR
  cases hi : idxS key es.toList 0 with
  | none =>
    rw [hi] at hR
    exact ⟨⟨_, hm, trivial⟩, .inr ⟨rfl, hR⟩⟩
  | some p =>
    obtain ⟨j, u⟩ := p
    rw [hi] at hR
    obtain ⟨_, en, h2, s, h3, h4⟩ := idxS_key hi
    have hj : ((es[j]?).map (·.key)).getD (.string key) = .string s := by
      have : es[j]? = some en := by simpa using h2
      rw [this]; exact h3
    simp only [hj]
    refine semH_bind_q (a := .string key) ?_ ⟨⟨_, hm, trivial⟩, .inr ⟨rfl, hR⟩⟩
    unfold Instr.keyThatStays
    have hb : Instr.sameBits 10000 (.string s) (.string key) = true := by
      obtain rfl : key = s := bytes_beq.1 h4
      simp only [Instr.sameBits]
      exact bytes_beq.2 rfl
    rw [if_pos hb]
    rfl
theorem e_delete {t k e u : TypeId} {x y : Operand} {r : Nat} {key : ByteArray} {es : Array MapEntry} {clk : Nat} (ho : o.op = .call { callee := .builtin .delete, args := #[x, y], argTypes := #[t, u] }) (hx : ev l x = some (.map (some r))) (hy : ev l y = some (.string key))
    (hu : P.underlying t = some (.map k e)) (hk : P.underlying k = some .string) (hm : h[r]? = some (.map es clk)) (hs : strKeys es.toList) (hR : ∀ h', h' = (h.setIfInBounds r (delS es clk key)) → R (.tuple #[]) h') : eop P o l h R := by
  have hR := hR _ rfl
  refine eop_of_sem fun n a hf => ?_
  simp only [execOp, ho, resolve, invoke, builtin, Builtin.delete_, List.map_toArray, List.map_cons, List.map_nil, hf.eval hx, hf.eval hy]
  refine semH_bind_q (a := _) rfl ?_
  simp only [List.getElem?_toArray, List.getElem?_cons_zero, List.getElem?_cons_succ]
  refine (semH_bind _ _ _ _).2 ?_
  refine semH_bind_q (semQ_underlying hu) ?_
  simp only []
  refine semH_bind_q (semQ_getObj hm trivial) ?_
  simp only []
  refine semH_bind_q (semQ_checkKey hk rfl) (semH_bind_q (semQ_findKey hk hs) ?_)
  unfold delS at hR
  cases hi : idxS key es.toList 0 with
  | none => rw [hi] at hR; exact ⟨⟨_, hm, trivial⟩, .inl ⟨_, rfl, hR⟩⟩
  | some p => rw [hi] at hR; exact ⟨⟨_, hm, trivial⟩, .inl ⟨_, rfl, hR⟩⟩
end
end Go.Proofs.YtgdmjdacmebfjaaGreatDoor.D

namespace Go.Proofs.YtgdmjdacmebfjaaGreatDoor.D
open Go

section
variable {P : Program} {S : Hp → Prop} {o : Oper} {l : Env} {h : Hp} {R : Value → Hp → Prop}

/-- The cells that a slice's value leads to. -/
def srcAt (h : Hp) (q : Option Addr) (news : List Value) : Prop := (q = none → news = []) ∧ ∀ b, q = some b → cellsAt h b news

theorem semQ_firstCells {sz m c : Nat} {q : Option Addr} {news : List Value} (hl : news.length = m * sz) (hs : srcAt h q news) : semQ P (Builtin.firstCells sz m (.slice q m c)) h = some news.toArray := by
  cases q with
  | none => rw [hs.1 rfl]; rfl
  | some b =>
    simp only [Builtin.firstCells]
    rw [← hl]
    exact semQ_loadCells (hs.2 b rfl)
theorem semH_askRoom {α : Type} {n : Nat} {f : Unit → Sem α} {K : α → Hp → Prop} (hk : semH P (f ()) h K) : semH P (askRoom n >>= f) h K := by
  unfold askRoom
  split
  · exact hk
  · exact hk
theorem cut_appendCap (need old : Nat) (e : TypeId) (t : Nat) : need ≤ (if (Question.appendCap need old e).forced then 0 else (Question.appendCap need old e).cut t) := by
  have h0 : (Question.appendCap need old e).forced = false := rfl
  rw [h0]
  simp only [Bool.false_eq_true, if_false, Question.cut]
  omega

theorem e_append {t t' e e' u : TypeId} {x y : Operand} {s : Sl} {q : Option Addr} {m c sz bytes : Nat} {z : Value} {news : List Value} (ho : o.op = .call { callee := .builtin .append, args := #[x, y], argTypes := #[t, t'] }) (_ : o.type = u)
    (hx : ev l x = some s.v) (hy : ev l y = some (.slice q m c)) (hu : P.underlying t = some (.slice e)) (hu' : P.underlying t' = some (.slice e')) (hsz : szT P e = some sz) (hby : byT P e = some bytes) (hz : zrT P e = some z)
    (hl : news.length = m * sz) (hs : srcAt h q news) (hap : apd sz bytes e z.cells.toList h s m news (fun s' h' => R s'.v h')) : eop P o l h R := by
  refine eop_of_sem fun n a hf => ?_
  obtain ⟨i, hi, hib⟩ := semQ_bytes (h := h) hby
  simp only [execOp, ho, resolve, invoke, builtin, List.map_toArray, List.map_cons, List.map_nil, hf.eval hx, hf.eval hy]
  refine semH_bind_q (a := _) rfl ?_
  simp only []
  refine (semH_bind _ _ _ _).2 ?_
  simp only [Builtin.append_, List.getElem?_toArray, List.getElem?_cons_zero, List.getElem?_cons_succ, Sl.v]
  refine semH_bind_q (semQ_underlying hu) (semH_bind_q (semQ_sizeOf hsz) ?_)
  refine semH_bind_q (semQ_underlying hu') (semH_bind_q (a := false) rfl ?_)
  simp only [Bool.false_eq_true, if_false, Bool.not_false, if_true]
  refine semH_bind_q (a := m) rfl ?_
  obtain ⟨h1, h2⟩ := hap
  by_cases hn : s.len + m ≤ s.cap
  · rw [if_pos hn]
    obtain ⟨k1, k2⟩ := h1 hn
    refine semH_bind_q (semQ_firstCells hl hs) ?_
    cases ha : s.a with
    | none =>
      simp only []
      exact .inl ⟨_, rfl, by have := k1 ha; simpa [Sl.v] using this⟩
    | some b =>
      simp only []
      obtain ⟨k3, k4⟩ := k2 b ha
      refine semH_storeCells (vs := news) k3 ?_
      exact .inl ⟨_, rfl, by simpa [Sl.v] using k4⟩
  · rw [if_neg hn]
    obtain ⟨k1, k2, olds, k3, k4, k5, k6⟩ := h2 (by omega)
    refine semH_bind_q hi ?_
    rw [if_neg (by
      rintro ⟨hh, _⟩
      have hmax : (IntKind.i64.max : Int) = 9223372036854775807 := by decide
      rw [hmax] at hh
      omega)]
    refine semH_bind_q hi ?_
    rw [if_neg (by rw [hib]; omega)]
    refine (semH_bind _ _ _ _).2 ?_
    intro tt
    have hcap := cut_appendCap (s.len + m) s.cap e tt
    generalize (if (Question.appendCap (s.len + m) s.cap e).forced = true then 0 else (Question.appendCap (s.len + m) s.cap e).cut tt) = cap at hcap ⊢
    refine semH_bind_q hi (semH_askRoom ?_)
    refine semH_bind_q (semQ_firstCells k3 ⟨k4, k5⟩) (semH_bind_q (semQ_firstCells hl hs) (semH_bind_q (semQ_zero hz) ?_))
    exact .inl ⟨_, rfl, by simpa [Sl.v] using k6 cap hcap⟩

/-- 'copy' of cells that lie somewhere. -/
theorem e_copy {t t' e u : TypeId} {x y : Operand} {p q : Option Addr} {dl dc m c sz : Nat} {news : List Value} (ho : o.op = .call { callee := .builtin .copy, args := #[x, y], argTypes := #[t, t'] }) (_ : o.type = u)
    (hx : ev l x = some (.slice p dl dc)) (hy : ev l y = some (.slice q m c)) (hu : P.underlying t = some (.slice e)) (hsz : szT P e = some sz)
    (hl : news.length = Nat.min m dl * sz) (hs : srcAt h q news) (hput : ∀ b, p = some b → canPut b h 0 news)
    (hR : ∀ h', h' = (match p with | none => h | some b => putsFrom b h 0 news) → R (.int .i64 (Nat.min m dl : Nat)) h') : eop P o l h R := by
  have hR := hR _ rfl
  refine eop_of_sem fun n a hf => ?_
  simp only [execOp, ho, resolve, invoke, builtin, List.map_toArray, List.map_cons, List.map_nil, hf.eval hx, hf.eval hy]
  refine semH_bind_q (a := _) rfl ?_
  simp only []
  refine (semH_bind _ _ _ _).2 ?_
  simp only [Builtin.copy_, List.getElem?_toArray, List.getElem?_cons_zero, List.getElem?_cons_succ]
  refine semH_bind_q (semQ_underlying hu) ?_
  simp only []
  refine semH_bind_q (a := m) rfl (semH_bind_q (semQ_sizeOf hsz) ?_)
  have hfc : semQ P (Builtin.firstCells sz (m.min dl) (.slice q m c)) h = some news.toArray := by
    cases q with
    | none => rw [hs.1 rfl]; rfl
    | some b =>
      simp only [Builtin.firstCells]
      rw [← hl]
      exact semQ_loadCells (hs.2 b rfl)
  refine semH_bind_q hfc ?_
  cases p with
  | none => exact .inl ⟨_, rfl, hR⟩
  | some b =>
    simp only []
    refine semH_storeCells (vs := news) (hput b rfl) ?_
    exact .inl ⟨_, rfl, hR⟩
theorem e_copy_string {t t' e u : TypeId} {x y : Operand} {p : Option Addr} {dl dc : Nat} {s : ByteArray} (ho : o.op = .call { callee := .builtin .copy, args := #[x, y], argTypes := #[t, t'] }) (_ : o.type = u)
    (hx : ev l x = some (.slice p dl dc)) (hy : ev l y = some (.string s)) (hu : P.underlying t = some (.slice e)) {sz : Nat} (hsz : szT P e = some sz)
    (hput : ∀ b, p = some b → canPut b h 0 (u8s (s.extract 0 (Nat.min s.size dl))))
    (hR : ∀ h', h' = (match p with | none => h | some b => putsFrom b h 0 (u8s (s.extract 0 (Nat.min s.size dl)))) → R (.int .i64 (Nat.min s.size dl : Nat)) h') : eop P o l h R := by
  have hR := hR _ rfl
  refine eop_of_sem fun n a hf => ?_
  simp only [execOp, ho, resolve, invoke, builtin, List.map_toArray, List.map_cons, List.map_nil, hf.eval hx, hf.eval hy]
  refine semH_bind_q (a := _) rfl ?_
  simp only []
  refine (semH_bind _ _ _ _).2 ?_
  simp only [Builtin.copy_, List.getElem?_toArray, List.getElem?_cons_zero, List.getElem?_cons_succ]
  refine semH_bind_q (semQ_underlying hu) ?_
  simp only []
  refine semH_bind_q (a := s.size) rfl (semH_bind_q (semQ_sizeOf hsz) ?_)
  refine semH_bind_q (a := (u8s (s.extract 0 (Nat.min s.size dl))).toArray) ?_ ?_
  · show some _ = some _
    congr 1
    unfold u8s
    rw [← List.map_toArray]
  cases p with
  | none => exact .inl ⟨_, rfl, hR⟩
  | some b =>
    simp only []
    refine semH_storeCells (vs := u8s (s.extract 0 (Nat.min s.size dl))) (hput b rfl) ?_
    exact .inl ⟨_, rfl, hR⟩

theorem e_makeSlice {t e : TypeId} {x y : Operand} {k k' : IntKind} {i c : Int} {sz bytes : Nat} {z : Value} (ho : o.op = .makeSlice t x y) (hx : ev l x = some (.int k i)) (hy : ev l y = some (.int k' c)) (hu : P.underlying t = some (.slice e)) (hsz : szT P e = some sz) (hby : byT P e = some bytes) (hz : zrT P e = some z)
    (h0 : 0 ≤ i) (h1 : i ≤ c) (h2 : (bytes : Int) * c ≤ 281474976710656) (h3 : c ≤ 9223372036854775807)
    (hR : ∀ h', h' = (h.push (.cells (Builtin.zeroCells (if c.toNat * sz = 0 then #[] else z.cells) (if c.toNat * sz = 0 then 0 else c.toNat)) e)) → R (.slice (some ⟨h.size, 0, none⟩) i.toNat c.toNat) h') (hzs : z.cells.size = sz) : eop P o l h R := by
  have hR := hR _ rfl
  refine eop_of_sem fun n a hf => ?_
  obtain ⟨inf, hi, hib⟩ := semQ_bytes (h := h) hby
  simp only [execOp, ho, Instr.makeSlice, hf.eval hx, hf.eval hy]
  refine (semH_bind _ _ _ _).2 ?_
  refine semH_bind_q (semQ_underlying hu) ?_
  simp only []
  refine semH_bind_q (a := i) rfl (semH_bind_q (a := c) rfl (semH_bind_q hi ?_))
  have hw : ∀ j : Int, 0 ≤ j → j ≤ 9223372036854775807 → IntKind.i64.wrap j = j := by
    intro j hj1 hj2
    rw [IntKind.wrap_i64]
    omega
  rw [hib, hw i h0 (by omega), hw c (by omega) h3]
  have ht : (decide (c < 0) || decide ((bytes : Int) * c > 2 ^ 48)) = false := by
    simp only [Bool.or_eq_false_iff, decide_eq_false_iff_not]
    constructor
    · omega
    · show ¬ (bytes : Int) * c > 281474976710656
      omega
  simp only [ht, Bool.false_or]
  rw [if_neg (by simp; omega)]
  refine semH_askRoom (semH_bind_q (semQ_sizeOf hsz) ?_)
  by_cases hc0 : c.toNat * sz = 0
  · rw [if_pos hc0]
    rw [if_pos hc0, if_pos hc0] at hR
    refine semH_bind_q (a := #[]) rfl ?_
    refine .inl ⟨_, rfl, ?_⟩
    have : (Array.range (c.toNat * sz)).map ((#[] : Array Value)[· % (#[] : Array Value).size]!) = Builtin.zeroCells #[] 0 := by rw [hc0]; rfl
    rw [this]
    exact hR
  · rw [if_neg hc0]
    rw [if_neg hc0, if_neg hc0] at hR
    refine semH_bind_q (semQ_zero hz) (semH_bind_q (a := z.cells) rfl ?_)
    refine .inl ⟨_, rfl, ?_⟩
    have : (Array.range (c.toNat * sz)).map (z.cells[· % z.cells.size]!) = Builtin.zeroCells z.cells c.toNat := by
      unfold Builtin.zeroCells
      rw [hzs]
    rw [this]
    exact hR

/-- '[]byte(s)': the bytes in a new block, of some capacity; the mark behind its end is no cell. -/
theorem e_conv_to_bytes {s d e : TypeId} {x : Operand} {b : ByteArray} (ho : o.op = .convert s d x) (hx : ev l x = some (.string b)) (hs : P.underlying s = some .string) (hd : P.underlying d = some (.slice e)) (he : P.underlying e = some (.int .u8))
    (hR : ∀ c h', b.size ≤ c → h' = h.push (.cells ((u8s b).toArray ++ Array.replicate (c - b.size) (.int .u8 0)) e (c, c + 1)) → R (.slice (some ⟨h.size, 0, none⟩) b.size c) h') : eop P o l h R := by
  refine eop_of_sem fun n a hf => ?_
  simp only [execOp, ho, hf.eval hx, convert]
  refine (semH_bind _ _ _ _).2 ?_
  refine semH_bind_q (semQ_underlying hs) (semH_bind_q (semQ_underlying hd) ?_)
  simp only []
  refine semH_bind_q (semQ_underlying he) ?_
  simp only [Conv.stringToBytes]
  refine (semH_bind _ _ _ _).2 ?_
  intro tt
  have hcap := cut_appendCap b.size 0 e tt
  generalize (if (Question.appendCap b.size 0 e).forced = true then 0 else (Question.appendCap b.size 0 e).cut tt) = cap at hcap ⊢
  refine (semH_bind _ _ _ _).2 ?_
  simp only [newRow]
  refine (semH_bind _ _ _ _).2 ?_
  simp only [newObj, semH]
  change semH P (do markStringish _; pure _) _ _
  refine (semH_bind _ _ _ _).2 ?_
  have hsz : (Array.map (fun b => Value.int IntKind.u8 (b.toNat : Int)) b.data ++ Array.replicate (cap - b.size) (Value.int IntKind.u8 0)).size = cap := by
    simp only [Array.size_append, Array.size_map, Array.size_replicate]
    show b.size + (cap - b.size) = cap
    omega
  have hu8 : Array.map (fun b => Value.int IntKind.u8 (b.toNat : Int)) b.data = (u8s b).toArray := by
    unfold u8s
    rw [← List.map_toArray]
  unfold markStringish
  refine semH_bind_q (a := some (e, cap)) ?_ ?_
  · show some (shapeH _ h.size) = _
    unfold shapeH
    rw [Array.getElem?_push_size]
    simp only [hsz]
  · simp only []
    refine .inl ⟨_, rfl, ?_⟩
    have := hR cap _ hcap rfl
    have hfr : freezeH (h.push (.cells (Array.map (fun b => Value.int IntKind.u8 (b.toNat : Int)) b.data ++ Array.replicate (cap - b.size) (Value.int IntKind.u8 0)) e)) ⟨h.size, cap, none⟩ 1
        = h.push (.cells ((u8s b).toArray ++ Array.replicate (cap - b.size) (.int .u8 0)) e (cap, cap + 1)) := by
      unfold freezeH
      rw [if_neg (by omega), hu8]
      refine Array.ext_getElem? fun j => ?_
      rw [Array.getElem?_modify, Array.getElem?_push, Array.getElem?_push]
      by_cases hj : h.size = j
      · subst hj; simp
      · rw [if_neg hj, if_neg (fun e => hj e.symm), if_neg (fun e => hj e.symm)]
    show R _ (freezeH _ _ 1)
    rw [hfr]
    exact this

/-! ### Ranging over a map that is not written meanwhile -/
theorem e_range_map {t k e : TypeId} {x : Operand} {r : Nat} {es : Array MapEntry} {clk : Nat} (ho : o.op = .range t x) (hx : ev l x = some (.map (some r))) (hu : P.underlying t = some (.map k e)) (hm : h[r]? = some (.map es clk))
    (hR : ∀ h', h' = (h.push (.mapIter (some r) clk #[] clk)) → R (.pointer (some ⟨h.size, 0, none⟩)) h') : eop P o l h R := by
  have hR := hR _ rfl
  refine eop_of_sem fun n a hf => ?_
  simp only [execOp, ho, hf.eval hx, Instr.range]
  refine (semH_bind _ _ _ _).2 ?_
  refine semH_bind_q (semQ_underlying hu) ?_
  simp only []
  refine semH_bind_q (semQ_getObj hm trivial) ?_
  simp only []
  refine semH_bind_q (a := .mapIter (some r) clk #[] clk) rfl ?_
  exact .inl ⟨_, rfl, hR⟩
theorem e_range_nil {t k e : TypeId} {x : Operand} (ho : o.op = .range t x) (hx : ev l x = some (.map none)) (hu : P.underlying t = some (.map k e))
    (hR : ∀ h', h' = (h.push (.mapIter none 0 #[] 0)) → R (.pointer (some ⟨h.size, 0, none⟩)) h') : eop P o l h R := by
  have hR := hR _ rfl
  refine eop_of_sem fun n a hf => ?_
  simp only [execOp, ho, hf.eval hx, Instr.range]
  refine (semH_bind _ _ _ _).2 ?_
  refine semH_bind_q (semQ_underlying hu) ?_
  simp only []
  refine semH_bind_q (a := .mapIter none 0 #[] 0) rfl ?_
  exact .inl ⟨_, rfl, hR⟩
/-- A step: some entry that has not come yet, or all have come. -/
theorem e_next {x : Operand} {it m clk : Nat} {seen : Array Nat} {es : Array MapEntry} (ho : o.op = .next x false) (hx : ev l x = some (.pointer (some ⟨it, 0, none⟩))) (hi : h[it]? = some (.mapIter (some m) clk seen clk)) (hm : h[m]? = some (.map es clk))
    (hb : ∀ e ∈ es.toList, e.born < clk)
    (hs : ∀ e ∈ es.toList, seen.contains e.born = false → ∀ h', h' = h.setIfInBounds it (.mapIter (some m) clk (seen.push e.born) clk) → R (.tuple #[.bool true, e.key, e.val]) h')
    (hd : (∀ e ∈ es.toList, seen.contains e.born = true) → R (.tuple #[.bool false]) h) : eop P o l h R := by
  refine eop_of_sem fun n a hf => ?_
  simp only [execOp, ho, hf.eval hx, Instr.next]
  refine (semH_bind _ _ _ _).2 ?_
  refine semH_bind_q (semQ_getObj hi trivial) ?_
  simp only []
  refine semH_bind_q (semQ_getObj hm trivial) ?_
  simp only []
  have hg : (!seen.isEmpty && !es.isEmpty && es.all (fun x => decide (x.born ≥ clk))) = false := by
    cases hemp : es.isEmpty with
    | true => simp
    | false =>
      have hne : es.size ≠ 0 := by
        intro h0
        have : es = #[] := Array.eq_empty_of_size_eq_zero h0
        subst this
        simp at hemp
      have hall : es.all (fun x => decide (x.born ≥ clk)) = false := by
        rw [Array.all_eq_false]
        refine ⟨0, by omega, ?_⟩
        have := hb es[0] (Array.getElem_mem_toList (by omega))
        simp
        omega
      simp [hall]
  rw [hg]
  simp only [Bool.false_eq_true, if_false]
  have hold : ∀ q : Array MapEntry, (∀ e ∈ q.toList, e.born < clk) → q.filter (fun x => decide (x.born < clk)) = q := by
    intro q hq
    rw [Array.filter_eq_self]
    intro e he
    simpa using hq e (Array.mem_toList_iff.2 he)
  have hnew : ∀ q : Array MapEntry, (∀ e ∈ q.toList, e.born < clk) → q.filter (fun x => decide (x.born ≥ clk)) = #[] := by
    intro q hq
    rw [Array.filter_eq_empty_iff]
    intro e he
    have := hq e (Array.mem_toList_iff.2 he)
    simp
    omega
  have hleft : ∀ e ∈ (es.filter (fun e => !seen.contains e.born)).toList, e.born < clk := by
    intro e he
    have := Array.mem_toList_iff.1 he
    rw [Array.mem_filter] at this
    exact hb e (Array.mem_toList_iff.2 this.1)
  rw [hold _ hleft, hnew _ hleft]
  refine (semH_bind _ _ _ _).2 ?_
  intro tt
  generalize hleq : es.filter (fun e => !seen.contains e.born) = left
  have hmem : ∀ e ∈ left.toList, e ∈ es.toList ∧ seen.contains e.born = false := by
    intro e he
    subst hleq
    have := Array.mem_toList_iff.1 he
    rw [Array.mem_filter] at this
    exact ⟨Array.mem_toList_iff.2 this.1, by simpa using this.2⟩
  cases hle : left.isEmpty with
  | true =>
    have : left = #[] := by simpa using hle
    subst this
    simp only [if_true, Array.append_empty, Array.map_empty]
    have hz : (if (Question.mapNext (#[none] : Array (Option MapEntry)).size).forced = true then 0 else (Question.mapNext (#[none] : Array (Option MapEntry)).size).cut tt) = 0 := rfl
    rw [hz]
    simp only [List.getElem?_toArray]
    refine .inl ⟨_, rfl, hd fun e he => ?_⟩
    cases hc : seen.contains e.born with
    | true => rfl
    | false =>
      have : e ∈ es.filter (fun e => !seen.contains e.born) := Array.mem_filter.2 ⟨Array.mem_toList_iff.1 he, by simp only [hc]; rfl⟩
      rw [hleq] at this
      cases this
      rename_i hh
      cases hh
  | false =>
    simp only [Bool.false_eq_true, if_false, Array.empty_append, Array.append_empty]
    have hpos : 0 < left.size := by
      rcases Nat.eq_zero_or_pos left.size with h0 | h0
      · rw [Array.eq_empty_of_size_eq_zero h0] at hle; simp at hle
      · exact h0
    have hlt : (if (Question.mapNext (left.map some).size).forced = true then 0 else (Question.mapNext (left.map some).size).cut tt) < left.size := by
      split
      · exact hpos
      · simp only [Question.cut, Array.size_map]
        exact Nat.mod_lt _ hpos
    generalize (if (Question.mapNext (left.map some).size).forced = true then 0 else (Question.mapNext (left.map some).size).cut tt) = j at hlt ⊢
    have hj : (left.map some)[j]? = some (some left[j]) := by simp [hlt]
    simp only [semH]
    rw [hj]
    simp only []
    obtain ⟨q1, q2⟩ := hmem left[j] (Array.getElem_mem_toList hlt)
    exact ⟨⟨_, hi, trivial⟩, .inl ⟨_, rfl, hs _ q1 q2 _ rfl⟩⟩
theorem e_next_nil {x : Operand} {it : Nat} (ho : o.op = .next x false) (hx : ev l x = some (.pointer (some ⟨it, 0, none⟩))) (hi : h[it]? = some (.mapIter none 0 #[] 0))
    (hd : R (.tuple #[.bool false]) h) : eop P o l h R := by
  refine eop_of_sem fun n a hf => ?_
  simp only [execOp, ho, hf.eval hx, Instr.next]
  refine (semH_bind _ _ _ _).2 ?_
  refine semH_bind_q (semQ_getObj hi trivial) ?_
  exact .inl ⟨_, rfl, hd⟩
theorem q_entry {x : Operand} {it m clk : Nat} {seen : Array Nat} {es : Array MapEntry} {e : MapEntry} {b : Nat} (ho : o.op = .entry x) (hx : ev l x = some (.pointer (some ⟨it, 0, none⟩))) (hi : ∀ h, S h → h[it]? = some (.mapIter (some m) clk (seen.push b) clk)) (hm : ∀ h, S h → h[m]? = some (.map es clk))
    (he : es.find? (fun e => e.born == b) = some e) : qop P S o l (.tuple #[e.key, e.val]) := by
  intro n a hf h hS
  simp only [execOp, ho, hf.eval hx, Instr.entry]
  refine semQ_bind_q (a := .tuple #[e.key, e.val]) (semQ_bind_q (semQ_getObj (hi h hS) trivial) ?_) rfl
  simp only [Array.back?_push]
  refine semQ_bind_q (semQ_getObj (hm h hS) trivial) ?_
  simp only [bne_self_eq_false, Bool.false_eq_true, if_false, he]
  rfl
end
end Go.Proofs.YtgdmjdacmebfjaaGreatDoor.D

namespace Go.Proofs.YtgdmjdacmebfjaaGreatDoor.D
open Go

def slCut (s : Sl) (i j sz : Nat) : Sl := ⟨if s.cap = i then s.a else s.a.map (·.add (i * sz)), j - i, s.cap - i⟩
def slArr (p : Addr) (n i j sz : Nat) : Sl := ⟨some (if n = i then p else p.add (i * sz)), j - i, n - i⟩
def minI (x y : Int) : Int := if y < x then y else x
def maxI (x y : Int) : Int := if y > x then y else x
/-- The bits of two numbers of a kind. -/
def bitsI (op : BinOp) (k : IntKind) (x y : Int) : Int :=
  let a := BitVec.ofInt k.bits x
  let b := BitVec.ofInt k.bits y
  match op with
  | .and => k.wrap (a &&& b).toNat
  | .or => k.wrap (a ||| b).toNat
  | .xor => k.wrap (a ^^^ b).toNat
  | .andNot => k.wrap (a &&& ~~~b).toNat
  | _ => 0
theorem leaf_cells {v : Value} (h : leaf v) : v.cells = #[v] := by cases v <;> first | rfl | exact h.elim
theorem fill_one {v : Value} {z : Array Value} (h : leaf v) : Instr.fill (fun i => some (i * 1, 1)) ((Array.range (1 * 1)).map ((if 1 * 1 = 0 then #[] else z)[· % (if 1 * 1 = 0 then #[] else z).size]!)) [(0, v)] = some #[v] := by
  have hr : Array.range (1 * 1) = #[0] := by decide
  rw [hr]
  simp only [Instr.fill, leaf_cells h]
  simp
theorem ifT {b : Bool} {A B : Prop} (hb : b = true) (h : if b = true then A else B) : A := by rwa [if_pos hb] at h
theorem ifF {b : Bool} {A B : Prop} (hb : b = false) (h : if b = true then A else B) : B := by rwa [if_neg (by rw [hb]; decide)] at h
theorem bool_or (b : Bool) : b = true ∨ b = false := by cases b <;> simp

theorem apd_mono {sz bytes : Nat} {e : TypeId} {z : List Value} {h : Hp} {s : Sl} {m : Nat} {news : List Value} {K K' : Sl → Hp → Prop} (ha : apd sz bytes e z h s m news K) (hk : ∀ s' h', K s' h' → K' s' h') : apd sz bytes e z h s m news K' := by
  obtain ⟨h1, h2⟩ := ha
  refine ⟨fun hn => ⟨fun ha => hk _ _ ((h1 hn).1 ha), fun b hb => ⟨((h1 hn).2 b hb).1, hk _ _ ((h1 hn).2 b hb).2⟩⟩, fun hn => ?_⟩
  obtain ⟨a1, a2, olds, a3, a4, a5, a6⟩ := h2 hn
  exact ⟨a1, a2, olds, a3, a4, a5, fun c hc => hk _ _ (a6 c hc)⟩

theorem cellsFrom_new {h h' : Hp} {t : TypeId} {fz : Nat × Nat} {cs : List Value} (e : h' = h.push (.cells cs.toArray t fz)) : ∀ (vs : List Value) (i : Nat), (∀ k v, vs[k]? = some v → cs[i + k]? = some v) → cellsFrom h' ⟨h.size, 0, none⟩ i vs
  | [], _, _ => trivial
  | v :: vs, i, hv => by
    refine ⟨?_, cellsFrom_new e vs (i + 1) fun k u hu => by have := hv (k + 1) u (by simpa using hu); rw [show i + 1 + k = i + (k + 1) by omega]; exact this⟩
    have h0 := hv 0 v rfl
    subst e
    unfold cellH Addr.add
    by_cases hi : i = 0
    · subst hi
      simp only [if_true, Array.getElem?_push_size]
      simpa using h0
    · simp only [if_neg hi, Array.getElem?_push_size]
      simpa using h0
theorem srcAt_new {h h' : Hp} {t : TypeId} {fz : Nat × Nat} {cs : List Value} (e : h' = h.push (.cells cs.toArray t fz)) : srcAt h' (some ⟨h.size, 0, none⟩) cs :=
  ⟨(fun hh => by cases hh), (fun b hb => by
    cases hb
    exact cellsFrom_new e cs 0 fun k v hv => by simpa using hv)⟩

section
variable {P : Program} {S : Hp → Prop} {o : Oper} {l : Env} {h : Hp} {R : Value → Hp → Prop}

theorem At.cell {h : Hp} {p : Addr} {v : Value} (c : cellH h p = some v) : ∀ x, At h x → cellH x p = some v := fun x e => by rw [show x = h from e]; exact c
theorem At.cells {h : Hp} {p : Addr} {vs : List Value} (c : cellsAt h p vs) : ∀ x, At h x → cellsAt x p vs := fun x e => by rw [show x = h from e]; exact c
theorem At.mapEs {h : Hp} {m : Option Nat} {es : List MapEntry} (c : D.mapEs h m = some es) : ∀ x, At h x → D.mapEs x m = some es := fun x e => by rw [show x = h from e]; exact c
theorem At.lenMap {h : Hp} {m : Option Nat} {n : Nat} (c : D.lenMap h m = some n) : ∀ x, At h x → D.lenMap x m = some n := fun x e => by rw [show x = h from e]; exact c
theorem At.obj {h : Hp} {r : Nat} {ob : Obj} (c : h[r]? = some ob) : ∀ x : Hp, At h x → x[r]? = some ob := fun x e => by rw [show x = h from e]; exact c

theorem e_box1 {t : TypeId} {x : Operand} {v : Value} (hl : leaf v) (ho : o.op = .box t x) (hx : ev l x = some v) (hR : ∀ h', h' = h.push (.cells #[v] t) → R (.pointer (some ⟨h.size, 0, none⟩)) h') : eop P o l h R :=
  e_box ho hx (by rw [leaf_cells hl]; exact hR)
theorem q_pickT {c x y : Operand} {b : Bool} {v : Value} (ho : o.op = .pick c x y) (hc : ev l c = some (.bool b)) (hb : b = true) (hx : ev l x = some v) : qop P S o l v := q_pick ho hc (by subst hb; exact hx)
theorem q_pickF {c x y : Operand} {b : Bool} {v : Value} (ho : o.op = .pick c x y) (hc : ev l c = some (.bool b)) (hb : b = false) (hx : ev l y = some v) : qop P S o l v := q_pick ho hc (by subst hb; exact hx)
theorem q_lookup1 {t k e : TypeId} {x y : Operand} {m : Option Nat} {key : ByteArray} {es : List MapEntry} {z v : Value} (ho : o.op = .lookup t x y false) (hx : ev l x = some (.map m)) (hy : ev l y = some (.string key)) (hu : P.underlying t = some (.map k e)) (hk : P.underlying k = some .string)
    (hz : zrT P e = some z) (hs : strKeys es) (hm : ∀ h, S h → mapEs h m = some es) (hv : ((idxS key es 0).map (·.2)).getD z = v) : qop P S o l v := by
  have := q_lookup (ok := false) ho hx hy hu hk hz hs hm
  rw [hv] at this
  exact this
theorem q_lookup2 {t k e : TypeId} {x y : Operand} {m : Option Nat} {key : ByteArray} {es : List MapEntry} {z v : Value} {b : Bool} (ho : o.op = .lookup t x y true) (hx : ev l x = some (.map m)) (hy : ev l y = some (.string key)) (hu : P.underlying t = some (.map k e)) (hk : P.underlying k = some .string)
    (hz : zrT P e = some z) (hs : strKeys es) (hm : ∀ h, S h → mapEs h m = some es) (hv : ((idxS key es 0).map (·.2)).getD z = v) (hb : (idxS key es 0).isSome = b) : qop P S o l (.tuple #[v, .bool b]) := by
  have := q_lookup (ok := true) ho hx hy hu hk hz hs hm
  rw [hv, hb] at this
  exact this

theorem q_fields' {s : TypeId} {x : Operand} {f off m : Nat} {cs cs' : Array Value} (ho : o.op = .field s x f) (hx : ev l x = some (.agg cs)) (hfo : fieldAgg P s f = some (off, m)) (hv : cs.extract off (off + m) = cs') : qop P S o l (.agg cs') := hv ▸ q_fields ho hx hfo
/-- A slice of bytes reads as a string. -/
def bytesAt (h : Hp) (s : Sl) (b : ByteArray) : Prop := b.size = s.len ∧ srcAt h s.a (u8s b)
theorem q_conv_b {s d e : TypeId} {x : Operand} {sl : Sl} {b : ByteArray} (ho : o.op = .convert s d x) (hx : ev l x = some sl.v) (hs : P.underlying s = some (.slice e)) (hd : P.underlying d = some .string) (he : P.underlying e = some (.int .u8))
    (hb : ∀ h, S h → bytesAt h sl b) : qop P S o l (.string b) := by
  intro n a hf h hS
  obtain ⟨h1, h2, h3⟩ := hb h hS
  cases ha : sl.a with
  | none =>
    have h0 := h2 ha
    have hb0 : b = .empty := by
      have : b.data.toList = [] := by simpa [u8s] using h0
      cases b
      simp at this
      subst this
      rfl
    subst hb0
    exact q_conv_bytes_nil (S := S) (n := sl.len) (c := sl.cap) ho (by rw [hx, Sl.v, ha]) hs hd he n a hf h hS
  | some q => exact q_conv_bytes (S := fun x => x = h) (n := sl.len) (c := sl.cap) ho (by rw [hx, Sl.v, ha]) hs hd he h1 (fun x e => by subst e; exact h3 q ha) n a hf h rfl
theorem At.bytes {h : Hp} {s : Sl} {b : ByteArray} (c : bytesAt h s b) : ∀ x, At h x → bytesAt x s b := fun x e => by rw [show x = h from e]; exact c
theorem At.prop {h : Hp} (p : Hp → Prop) (c : p h) : ∀ x, At h x → p x := fun x e => by rw [show x = h from e]; exact c

/-! ### '==' with nil, and on bools -/
theorem sem_eq_ptr_nil {t e : TypeId} {x y : Operand} {p : Option Addr} (hu : P.underlying t = some (.pointer e)) : semQ P (do eqGuard .eql t x y (.pointer p) (.pointer none); binOp .eql t (.pointer p) (.pointer none)) h = some (.bool p.isNone) := by
  refine semQ_bind_q (a := ()) rfl ?_
  refine semQ_bind_q (a := p.isNone) (semQ_bind_q (semQ_underlying hu) ?_) rfl
  cases p <;> rfl
theorem sem_ne_ptr_nil {t e : TypeId} {x y : Operand} {p : Option Addr} (hu : P.underlying t = some (.pointer e)) : semQ P (do eqGuard .neq t x y (.pointer p) (.pointer none); binOp .neq t (.pointer p) (.pointer none)) h = some (.bool (!p.isNone)) := by
  refine semQ_bind_q (a := ()) rfl ?_
  refine semQ_bind_q (a := p.isNone) (semQ_bind_q (semQ_underlying hu) ?_) rfl
  cases p <;> rfl
theorem sem_eq_sl_nil {t e : TypeId} {x y : Operand} {p : Option Addr} {n c n' c' : Nat} (hu : P.underlying t = some (.slice e)) : semQ P (do eqGuard .eql t x y (.slice p n c) (.slice none n' c'); binOp .eql t (.slice p n c) (.slice none n' c')) h = some (.bool p.isNone) := by
  refine semQ_bind_q (a := ()) rfl ?_
  refine semQ_bind_q (a := p.isNone) (semQ_bind_q (semQ_underlying hu) ?_) rfl
  cases p <;> rfl
theorem sem_ne_sl_nil {t e : TypeId} {x y : Operand} {p : Option Addr} {n c n' c' : Nat} (hu : P.underlying t = some (.slice e)) : semQ P (do eqGuard .neq t x y (.slice p n c) (.slice none n' c'); binOp .neq t (.slice p n c) (.slice none n' c')) h = some (.bool (!p.isNone)) := by
  refine semQ_bind_q (a := ()) rfl ?_
  refine semQ_bind_q (a := p.isNone) (semQ_bind_q (semQ_underlying hu) ?_) rfl
  cases p <;> rfl
theorem sem_eq_map_nil {t k e : TypeId} {x y : Operand} {p : Option Nat} (hu : P.underlying t = some (.map k e)) : semQ P (do eqGuard .eql t x y (.map p) (.map none); binOp .eql t (.map p) (.map none)) h = some (.bool p.isNone) := by
  refine semQ_bind_q (a := ()) rfl ?_
  refine semQ_bind_q (a := p.isNone) (semQ_bind_q (semQ_underlying hu) ?_) rfl
  cases p <;> rfl
theorem sem_ne_map_nil {t k e : TypeId} {x y : Operand} {p : Option Nat} (hu : P.underlying t = some (.map k e)) : semQ P (do eqGuard .neq t x y (.map p) (.map none); binOp .neq t (.map p) (.map none)) h = some (.bool (!p.isNone)) := by
  refine semQ_bind_q (a := ()) rfl ?_
  refine semQ_bind_q (a := p.isNone) (semQ_bind_q (semQ_underlying hu) ?_) rfl
  cases p <;> rfl
theorem sem_eq_bool {t : TypeId} {x y : Operand} {a b : Bool} (hu : P.underlying t = some .bool) : semQ P (do eqGuard .eql t x y (.bool a) (.bool b); binOp .eql t (.bool a) (.bool b)) h = some (.bool (a == b)) :=
  semQ_bind_q (a := ()) rfl (semQ_bind_q (a := (a == b)) (semQ_bind_q (semQ_underlying hu) rfl) rfl)
theorem sem_ne_bool {t : TypeId} {x y : Operand} {a b : Bool} (hu : P.underlying t = some .bool) : semQ P (do eqGuard .neq t x y (.bool a) (.bool b); binOp .neq t (.bool a) (.bool b)) h = some (.bool (!(a == b))) :=
  semQ_bind_q (a := ()) rfl (semQ_bind_q (a := (a == b)) (semQ_bind_q (semQ_underlying hu) rfl) rfl)

/-! ### What a function hands back -/
theorem tmps_at {n : Nat} {a : Act} (hf : Fr n a l) {t : Nat} {v : Value} (ht : lk l t = some v) : a.tmps.getD t undef = v := by
  have := hf.at_ t v ht
  simp [this]
theorem resq0 {fn : Func} (hr : fn.results = #[]) : resq P fn l h (.tuple #[]) := by
  intro n a hf
  have : results fn a.tmps = pure (.tuple #[]) := by simp [results, hr]
  rw [this]
  rfl
theorem resq1 {fn : Func} {t : Nat} {v : Value} (hr : fn.results = #[.tmp t]) (ht : lk l t = some v) : resq P fn l h v := by
  intro n a hf
  have : results fn a.tmps = pure (a.tmps.getD t undef) := by simp [results, hr]
  rw [this, tmps_at hf ht]
  rfl
theorem resq2 {fn : Func} {t u : Nat} {v x : Value} (hr : fn.results = #[.tmp t, .tmp u]) (ht : lk l t = some v) (hu : lk l u = some x) : resq P fn l h (.tuple #[v, x]) := by
  intro n a hf
  have : results fn a.tmps = pure (.tuple #[a.tmps.getD t undef, a.tmps.getD u undef]) := by simp [results, hr]
  rw [this, tmps_at hf ht, tmps_at hf hu]
  rfl
theorem resq3 {fn : Func} {t u s : Nat} {v x y : Value} (hr : fn.results = #[.tmp t, .tmp u, .tmp s]) (ht : lk l t = some v) (hu : lk l u = some x) (hs : lk l s = some y) : resq P fn l h (.tuple #[v, x, y]) := by
  intro n a hf
  have : results fn a.tmps = pure (.tuple #[a.tmps.getD t undef, a.tmps.getD u undef, a.tmps.getD s undef]) := by simp [results, hr]
  rw [this, tmps_at hf ht, tmps_at hf hu, tmps_at hf hs]
  rfl

theorem semQ_loadVar_cell {t : TypeId} {p : Addr} {d : TypeDesc} {v : Value} (hu : P.underlying t = some d) (hd : isAggD d = false) (hc : cellH h p = some v) : semQ P (loadVar t p) h = some v := by
  unfold loadVar
  refine semQ_bind_q (semQ_isAgg hu) ?_
  rw [hd]
  exact semQ_load hc
theorem semQ_loadVar_cells {t : TypeId} {p : Addr} {d : TypeDesc} {vs : List Value} (hu : P.underlying t = some d) (hd : isAggD d = true) (hz : szT P t = some vs.length) (hc : cellsAt h p vs) : semQ P (loadVar t p) h = some (.agg vs.toArray) := by
  unfold loadVar
  refine semQ_bind_q (semQ_isAgg hu) ?_
  rw [hd]
  exact semQ_bind_q (semQ_sizeOf hz) (semQ_bind_q (semQ_loadCells hc) rfl)
/-- One result. -/
def resOne (tmps : Array Value) : ResultVar → Sem Value
  | .tmp t => pure (tmps.getD t undef)
  | .cell a t => do loadVar t (← asAddr (tmps.getD a undef))
def ResV (P : Program) (l : Env) (h : Hp) (r : ResultVar) (v : Value) : Prop := ∀ n a, Fr n a l → semQ P (resOne a.tmps r) h = some v
theorem resv_tmp {t : Nat} {v : Value} (ht : lk l t = some v) : ResV P l h (.tmp t) v := by
  intro n a hf
  show some (a.tmps.getD t undef) = _
  rw [tmps_at hf ht]
theorem resv_cell {s : Nat} {t : TypeId} {p : Addr} {d : TypeDesc} {v : Value} (ht : lk l s = some (.pointer (some p))) (hu : P.underlying t = some d) (hd : isAggD d = false) (hc : cellH h p = some v) : ResV P l h (.cell s t) v := by
  intro n a hf
  simp only [resOne]
  rw [tmps_at hf ht]
  exact semQ_bind_q (a := p) rfl (semQ_loadVar_cell hu hd hc)
theorem resv_cells {s : Nat} {t : TypeId} {p : Addr} {d : TypeDesc} {vs : List Value} (ht : lk l s = some (.pointer (some p))) (hu : P.underlying t = some d) (hd : isAggD d = true) (hz : szT P t = some vs.length) (hc : cellsAt h p vs) : ResV P l h (.cell s t) (.agg vs.toArray) := by
  intro n a hf
  simp only [resOne]
  rw [tmps_at hf ht]
  exact semQ_bind_q (a := p) rfl (semQ_loadVar_cells hu hd hz hc)
theorem results_one (fn : Func) (r : ResultVar) (hr : fn.results = #[r]) (tmps : Array Value) : results fn tmps = (do let x ← resOne tmps r; pure x) := by
  cases r <;> simp [results, hr, resOne]
theorem results_two (fn : Func) (r s : ResultVar) (hr : fn.results = #[r, s]) (tmps : Array Value) : results fn tmps = (do let x ← resOne tmps r; let y ← resOne tmps s; pure (.tuple #[x, y])) := by
  cases r <;> cases s <;> simp [results, hr, resOne]
theorem results_three (fn : Func) (r s t : ResultVar) (hr : fn.results = #[r, s, t]) (tmps : Array Value) : results fn tmps = (do let x ← resOne tmps r; let y ← resOne tmps s; let z ← resOne tmps t; pure (.tuple #[x, y, z])) := by
  cases r <;> cases s <;> cases t <;> simp [results, hr, resOne]
theorem resx1 {fn : Func} {r : ResultVar} {v : Value} (hr : fn.results = #[r]) (h1 : ResV P l h r v) : resq P fn l h v := by
  intro n a hf
  rw [results_one fn r hr]
  exact h1 n a hf
theorem resx2 {fn : Func} {r s : ResultVar} {v x : Value} (hr : fn.results = #[r, s]) (h1 : ResV P l h r v) (h2 : ResV P l h s x) : resq P fn l h (.tuple #[v, x]) := by
  intro n a hf
  rw [results_two fn r s hr]
  exact semQ_bind_q (h1 n a hf) (semQ_bind_q (h2 n a hf) rfl)
theorem resx3 {fn : Func} {r s t : ResultVar} {v x y : Value} (hr : fn.results = #[r, s, t]) (h1 : ResV P l h r v) (h2 : ResV P l h s x) (h3 : ResV P l h t y) : resq P fn l h (.tuple #[v, x, y]) := by
  intro n a hf
  rw [results_three fn r s t hr]
  exact semQ_bind_q (h1 n a hf) (semQ_bind_q (h2 n a hf) (semQ_bind_q (h3 n a hf) rfl))

/-! ### Values in an interface; 'maps.clone'; 'clear' -/
theorem q_makeInterface {t : TypeId} {x : Operand} {v : Value} {d : TypeDesc} (ho : o.op = .makeInterface t x) (hx : ev l x = some v) (hu : P.underlying t = some d) (hd : ∀ q, d ≠ .interface q) : qop P S o l (.iface t v) := by
  intro n a hf h hS
  simp only [execOp, ho, hf.eval hx, Instr.makeInterface]
  refine semQ_bind_q (a := .iface t v) (semQ_bind_q (semQ_underlying hu) ?_) rfl
  cases d <;> first | rfl | exact absurd rfl (hd _)
theorem q_typeAssert {t t' : TypeId} {x : Operand} {v : Value} {d : TypeDesc} (ho : o.op = .typeAssert x t' t false) (hx : ev l x = some (.iface t v)) (hu : P.underlying t = some d) (hd : ∀ q, d ≠ .interface q) : qop P S o l v := by
  intro n a hf h hS
  simp only [execOp, ho, hf.eval hx, Instr.typeAssert]
  refine semQ_bind_q (a := v) (semQ_bind_q (semQ_underlying hu) ?_) rfl
  cases d <;> first | exact absurd rfl (hd _) | (simp only [if_true]; rfl)
theorem e_clone {f : FuncId} {x : Operand} {ts : Array TypeId} {t : TypeId} {r : Nat} {es : Array MapEntry} {clk : Nat} (ho : o.op = .call { callee := .value (.func f), args := #[x], argTypes := ts }) (hx : ev l x = some (.iface t (.map (some r)))) (hm : h[r]? = some (.map es clk))
    (hf : (match P.funcs[f]? with | some fn => !(fn.name == "runtime.NumGoroutine") && (fn.body.isNone && (Extern.findNext fn).isNone) | none => false) = true) (hc : (P.funcs[f]?).bind Extern.find = some Extern.MapsClone.clone)
    (hR : ∀ h', h' = h.push (.map es clk) → R (.iface t (.map (some h.size))) h') : eop P o l h R := by
  refine eop_of_sem fun n a hfr => ?_
  simp only [execOp, ho, resolve, List.map_toArray, List.map_cons, List.map_nil, hfr.eval hx]
  have he : a.eval (.func f) = .func (.func f) #[] #[] := rfl
  rw [he]
  simp only [Deferred.ofValue]
  refine semH_bind_q (a := { target := .fn (.func f) #[], args := #[] ++ #[.iface t (.map (some r))] }) rfl ?_
  simp only [invoke, callFunc]
  refine semH_bind_q (a := P) rfl ?_
  cases hfn : P.funcs[f]? with
  | none => rw [hfn] at hf; cases hf
  | some fn =>
    rw [hfn] at hf hc
    simp only [Bool.and_eq_true, Bool.not_eq_true'] at hf
    simp only [Option.bind_some] at hc
    simp only [hf.1, hf.2.1, Bool.false_eq_true, if_false, if_true]
    refine semH_bind_q (a := ()) rfl ?_
    have hn : Extern.findNext fn = none := by simpa using hf.2.2
    rw [hn]
    simp only [hc]
    refine (semH_bind _ _ _ _).2 ?_
    simp only [Array.empty_append, Array.append_empty]
    unfold Extern.MapsClone.clone
    refine semH_bind_q (semQ_getObj hm trivial) ?_
    exact .inl ⟨_, rfl, hR _ rfl⟩
def clrH (h : Hp) (s : Sl) (zs : List Value) : Hp := match s.a with
  | none => h
  | some b => putsFrom b h 0 zs
theorem e_clear {t e : TypeId} {x : Operand} {s : Sl} {z : Value} (ho : o.op = .call { callee := .builtin .clear, args := #[x], argTypes := #[t] }) (hx : ev l x = some s.v) (hu : P.underlying t = some (.slice e)) (hz : zrT P e = some z)
    (hc : ∀ b, s.a = some b → canPut b h 0 (Builtin.zeroCells z.cells s.len).toList) (hR : ∀ h', h' = clrH h s (Builtin.zeroCells z.cells s.len).toList → R (.tuple #[]) h') : eop P o l h R := by
  refine eop_of_sem fun n a hf => ?_
  have hR := hR _ rfl
  simp only [execOp, ho, resolve, invoke, builtin, List.map_toArray, List.map_cons, List.map_nil, hf.eval hx]
  refine semH_bind_q (a := _) rfl ?_
  simp only []
  refine (semH_bind _ _ _ _).2 ?_
  simp only [Builtin.clear_, List.getElem?_toArray, List.getElem?_cons_zero]
  refine semH_bind_q (semQ_underlying hu) ?_
  unfold clrH at hR
  simp only [Sl.v]
  cases ha : s.a with
  | none => rw [ha] at hR; exact .inl ⟨_, rfl, hR⟩
  | some b =>
    rw [ha] at hR
    cases hl : s.len with
    | zero =>
      simp only [hl] at hR
      have h0 : (Builtin.zeroCells z.cells 0).toList = [] := by simp [Builtin.zeroCells]
      rw [h0] at hR
      exact .inl ⟨_, rfl, hR⟩
    | succ k =>
      simp only []
      refine semH_bind_q (semQ_zero hz) ?_
      have hcb := hc b ha
      rw [hl] at hcb hR
      refine semH_storeCells hcb ?_
      exact .inl ⟨_, rfl, hR⟩
end
section
variable {P : Program} {n : Nat} {l : Env} {h : Hp} {N : Env → Hp → Prop} {X : Nat → Env → Hp → Prop} {R : Env → Hp → Prop} {x y : Code}
theorem cw_condT {c : Operand} {b : Bool} (hc : ev l c = some (.bool b)) (hb : b = true) (hx : cw P n x l h N X R) : cw P n (.cond c x y) l h N X R := cw_true (by rw [hc, hb]) hx
theorem cw_condF {c : Operand} {b : Bool} (hc : ev l c = some (.bool b)) (hb : b = false) (hy : cw P n y l h N X R) : cw P n (.cond c x y) l h N X R := cw_false (by rw [hc, hb]) hy
end
end Go.Proofs.YtgdmjdacmebfjaaGreatDoor.D

namespace Go.Proofs.YtgdmjdacmebfjaaGreatDoor.D
open Go

theorem blk_add (b i : Nat) : (blk b).add i = ⟨b, i, none⟩ := by
  unfold Addr.add blk
  by_cases h : i = 0
  · subst h; rfl
  · simp [h]
theorem addr_add (b o i : Nat) : (Addr.mk b o none).add i = ⟨b, o + i, none⟩ := by
  unfold Addr.add
  by_cases h : i = 0
  · subst h; rfl
  · simp [h]
theorem lt_of_some {h : Hp} {b : Nat} {o : Obj} (hb : h[b]? = some o) : b < h.size := by
  rcases Nat.lt_or_ge b h.size with hl | hl
  · exact hl
  · rw [Array.getElem?_eq_none hl] at hb; cases hb

section
variable {h h' : Hp} {b : Nat} {cs : Array Value} {t : TypeId} {fz : Nat × Nat} {v : Value} {i o : Nat}

theorem cell_at (hb : h[b]? = some (.cells cs t fz)) (hv : cs[i]? = some v) : cellH h ((blk b).add i) = some v := by
  rw [blk_add]; unfold cellH; rw [hb]; exact hv
theorem cell_at0 (hb : h[b]? = some (.cells cs t fz)) (hv : cs[0]? = some v) : cellH h (blk b) = some v := by
  unfold cellH blk; rw [hb]; exact hv
theorem cell_in (hb : h[b]? = some (.cells cs t fz)) (hv : cs[o + i]? = some v) : cellH h ((Addr.mk b o none).add i) = some v := by
  rw [addr_add]; unfold cellH; rw [hb]; exact hv
theorem frz_at (hb : h[b]? = some (.cells cs t (0, 0))) : frozenH h ((blk b).add i) = false := by
  rw [blk_add]; unfold frozenH; rw [hb]; simp
theorem frz_at0 (hb : h[b]? = some (.cells cs t (0, 0))) : frozenH h (blk b) = false := by
  unfold frozenH blk; rw [hb]; simp
theorem frz_in (hb : h[b]? = some (.cells cs t (0, 0))) : frozenH h ((Addr.mk b o none).add i) = false := by
  rw [addr_add]; unfold frozenH; rw [hb]; simp
theorem setH_ne {a : Addr} (hne : b ≠ a.block) : (setH h a v)[b]? = h[b]? := by
  unfold setH
  rw [Array.getElem?_modify, if_neg (fun e => hne e.symm)]
theorem setH_size {a : Addr} : (setH h a v).size = h.size := by unfold setH; simp
theorem set_at {cs' : Array Value} (e : h' = setH h ((blk b).add i) v) (hb : h[b]? = some (.cells cs t fz)) (hc : cs.setIfInBounds i v = cs') : h'[b]? = some (.cells cs' t fz) := by
  subst e; rw [blk_add]; unfold setH
  rw [Array.getElem?_modify, if_pos rfl, hb, ← hc]; rfl
theorem set_at0 {cs' : Array Value} (e : h' = setH h (blk b) v) (hb : h[b]? = some (.cells cs t fz)) (hc : cs.setIfInBounds 0 v = cs') : h'[b]? = some (.cells cs' t fz) := by
  subst e; unfold setH
  rw [Array.getElem?_modify, if_pos rfl, hb, ← hc]; rfl
theorem set_in {cs' : Array Value} (e : h' = setH h ((Addr.mk b o none).add i) v) (hb : h[b]? = some (.cells cs t fz)) (hc : cs.setIfInBounds (o + i) v = cs') : h'[b]? = some (.cells cs' t fz) := by
  subst e; rw [addr_add]; unfold setH
  rw [Array.getElem?_modify, if_pos rfl, hb, ← hc]; rfl
theorem push_new {ob : Obj} (e : h' = h.push ob) : h'[h.size]? = some ob := by subst e; exact Array.getElem?_push_size
theorem push_old {ob x : Obj} (e : h' = h.push ob) (hb : h[b]? = some x) : h'[b]? = some x := by
  subst e
  have := lt_of_some hb
  rw [Array.getElem?_push, if_neg (by omega)]
  exact hb
end

/-! ### What has turned -/
/-- Of the blocks below B only those of S may have turned; none has gone. -/
structure Ext (B : Nat) (S : Nat → Prop) (h h' : Hp) : Prop where
  size : h.size ≤ h'.size
  same : ∀ b, b < B → ¬ S b → h'[b]? = h[b]?
namespace Ext
variable {B B' : Nat} {S S' : Nat → Prop} {h h1 h2 : Hp}
theorem refl (B : Nat) (S : Nat → Prop) (h : Hp) : Ext B S h h := ⟨Nat.le_refl _, fun _ _ _ => rfl⟩
theorem trans (e1 : Ext B S h h1) (e2 : Ext B S h1 h2) : Ext B S h h2 := ⟨Nat.le_trans e1.size e2.size, fun b hb hs => (e2.same b hb hs).trans (e1.same b hb hs)⟩
theorem mono (e : Ext B' S' h h1) (hB : B ≤ B') (hS : ∀ b, b < B → S' b → S b) : Ext B S h h1 := ⟨e.size, fun b hb hs => e.same b (by omega) (fun hs' => hs (hS b hb hs'))⟩
/-- Behind a call whose own turns are S'. -/
theorem call (e1 : Ext B S h h1) (e2 : Ext h1.size S' h1 h2) (hB : B ≤ h.size) (hS : ∀ b, b < B → S' b → S b) : Ext B S h h2 := e1.trans (e2.mono (Nat.le_trans hB e1.size) hS)
theorem push {o : Obj} (e : Ext B S h h1) (hB : B ≤ h.size) (e2 : h2 = h1.push o) : Ext B S h h2 := e.trans ⟨by subst e2; simp, fun b hb _ => by
  subst e2; have := e.size; rw [Array.getElem?_push, if_neg (by omega)]⟩
theorem set {a : Addr} {v : Value} (e : Ext B S h h1) (e2 : h2 = setH h1 a v) (ha : a.block < B → S a.block) : Ext B S h h2 := e.trans ⟨by subst e2; rw [setH_size]; exact Nat.le_refl _, fun b hb hs => by
  subst e2; exact setH_ne (fun e => by subst e; exact hs (ha hb))⟩
theorem setObj {r : Nat} {o : Obj} (e : Ext B S h h1) (e2 : h2 = h1.setIfInBounds r o) (ha : r < B → S r) : Ext B S h h2 := e.trans ⟨by subst e2; simp, fun b hb hs => by
  subst e2; exact Array.getElem?_setIfInBounds_ne (fun e => by subst e; exact hs (ha hb))⟩
theorem at_ (e : Ext B S h h1) {b : Nat} {o : Obj} (hb : h[b]? = some o) (hlt : b < B) (hs : ¬ S b) : h1[b]? = some o := (e.same b hlt hs).trans hb
end Ext

/-! ### Maps -/
def lookL {α : Type} (k : ByteArray) : List (ByteArray × α) → Option α
  | [] => none
  | p :: l => if k = p.1 then some p.2 else lookL k l
def putL {α : Type} (k : ByteArray) (v : α) : List (ByteArray × α) → List (ByteArray × α)
  | [] => [(k, v)]
  | p :: l => if k = p.1 then (k, v) :: l else p :: putL k v l
def delL {α : Type} (k : ByteArray) (l : List (ByteArray × α)) : List (ByteArray × α) := l.filter fun p => decide (p.1 ≠ k)
theorem lookL_map {α β : Type} {f : α → β} {k : ByteArray} : ∀ {l : List (ByteArray × α)}, lookL k (l.map fun p => (p.1, f p.2)) = (lookL k l).map f
  | [] => rfl
  | p :: l => by
    simp only [List.map_cons, lookL]
    split
    · rfl
    · exact lookL_map
theorem putL_map {α β : Type} {f : α → β} {k : ByteArray} {v : α} : ∀ {l : List (ByteArray × α)}, putL k (f v) (l.map fun p => (p.1, f p.2)) = (putL k v l).map fun p => (p.1, f p.2)
  | [] => rfl
  | p :: l => by
    simp only [List.map_cons, putL]
    split
    · rfl
    · rw [putL_map]; rfl
theorem delL_map {α β : Type} {f : α → β} {k : ByteArray} {l : List (ByteArray × α)} : delL k (l.map fun p => (p.1, f p.2)) = (delL k l).map fun p => (p.1, f p.2) := by
  unfold delL
  rw [List.filter_map]
  rfl
theorem lookL_mem {α : Type} {k : ByteArray} {v : α} : ∀ {l : List (ByteArray × α)}, lookL k l = some v → (k, v) ∈ l
  | [], h => by cases h
  | p :: l, h => by
    unfold lookL at h
    by_cases hk : k = p.1
    · rw [if_pos hk] at h; cases h; subst hk; exact List.mem_cons_self ..
    · rw [if_neg hk] at h; exact List.mem_cons_of_mem _ (lookL_mem h)
theorem mem_putL {α : Type} {k : ByteArray} {v : α} {x : ByteArray × α} : ∀ {l : List (ByteArray × α)}, x ∈ putL k v l → x = (k, v) ∨ x ∈ l
  | [], h => by simp only [putL, List.mem_singleton] at h; exact .inl h
  | p :: l, h => by
    unfold putL at h
    by_cases hk : k = p.1
    · rw [if_pos hk] at h
      exact (List.mem_cons.1 h).imp id (List.mem_cons_of_mem _)
    · rw [if_neg hk] at h
      rcases List.mem_cons.1 h with h | h
      · exact .inr (by rw [h]; exact List.mem_cons_self ..)
      · exact (mem_putL h).imp id (List.mem_cons_of_mem _)
theorem mem_delL {α : Type} {k : ByteArray} {x : ByteArray × α} {l : List (ByteArray × α)} (h : x ∈ delL k l) : x ∈ l := (List.mem_filter.1 h).1
/-- What sort of block it is. -/
def obTag : Obj → Nat
  | .cells _ t _ => t + 2
  | .map _ _ => 0
  | _ => 1
theorem ne_tag {h : Hp} {b b' : Nat} {o o' : Obj} (h1 : h[b]? = some o) (h2 : h[b']? = some o') (hn : Nat.beq (obTag o) (obTag o') = false) : b ≠ b' := by
  rintro rfl
  rw [h1] at h2
  cases h2
  rw [Nat.beq_refl] at hn
  cases hn
/-- Block r is a map that holds just these, in the order in which they came. -/
def MapIs (h : Hp) (r : Nat) (l : List (ByteArray × Value)) : Prop :=
  ∃ es clk, h[r]? = some (.map es clk) ∧ es.toList.map (fun e => (e.key, e.val)) = l.map (fun p => (Value.string p.1, p.2)) ∧
    (∀ e ∈ es.toList, e.born < clk) ∧ (es.toList.map (·.born)).Nodup ∧ (l.map (·.1)).Nodup

theorem ents_keys {es : List MapEntry} {l : List (ByteArray × Value)} (he : es.map (fun e => (e.key, e.val)) = l.map (fun p => (Value.string p.1, p.2))) : strKeys es := by
  intro e hm
  have : (e.key, e.val) ∈ es.map (fun e => (e.key, e.val)) := List.mem_map.2 ⟨e, hm, rfl⟩
  rw [he] at this
  obtain ⟨p, _, hp⟩ := List.mem_map.1 this
  exact ⟨p.1, (congrArg Prod.fst hp).symm⟩
theorem ents_idx {k : ByteArray} : ∀ {es : List MapEntry} {l : List (ByteArray × Value)} {i : Nat}, es.map (fun e => (e.key, e.val)) = l.map (fun p => (Value.string p.1, p.2)) → (idxS k es i).map (·.2) = lookL k l
  | [], [], _, _ => rfl
  | [], _ :: _, _, h => by simp at h
  | _ :: _, [], _, h => by simp at h
  | e :: es, p :: l, i, h => by
    simp only [List.map_cons, List.cons.injEq, Prod.mk.injEq] at h
    obtain ⟨⟨h1, h2⟩, h3⟩ := h
    simp only [idxS, h1, lookL]
    by_cases hk : k = p.1
    · rw [if_pos (bytes_beq.2 hk), if_pos hk]; simp [h2]
    · rw [if_neg (fun hb => hk (bytes_beq.1 hb)), if_neg hk]; exact ents_idx h3

theorem MapIs.lt {h : Hp} {r : Nat} {l : List (ByteArray × Value)} (H : MapIs h r l) : r < h.size := by obtain ⟨_, _, h1, _⟩ := H; exact lt_of_some h1
theorem MapIs.frame {h h' : Hp} {r : Nat} {l : List (ByteArray × Value)} (H : MapIs h r l) (e : h'[r]? = h[r]?) : MapIs h' r l := by
  obtain ⟨es, clk, h1, h2⟩ := H
  exact ⟨es, clk, e.trans h1, h2⟩
theorem MapIs.nodup {h : Hp} {r : Nat} {l : List (ByteArray × Value)} (H : MapIs h r l) : (l.map (·.1)).Nodup := by obtain ⟨_, _, _, _, _, _, h5⟩ := H; exact h5
theorem MapIs.look {h : Hp} {r : Nat} {l : List (ByteArray × Value)} (H : MapIs h r l) (k : ByteArray) (z : Value) :
    ∃ es, mapEs h (some r) = some es ∧ strKeys es ∧ ((idxS k es 0).map (·.2)).getD z = (lookL k l).getD z ∧ (idxS k es 0).isSome = (lookL k l).isSome := by
  obtain ⟨es, clk, h1, h2, _⟩ := H
  refine ⟨es.toList, by simp [mapEs, h1], ents_keys h2, by rw [ents_idx h2], ?_⟩
  rw [← ents_idx h2 (i := 0)]
  cases idxS k es.toList 0 <;> rfl
theorem MapIs.len {h : Hp} {r : Nat} {l : List (ByteArray × Value)} (H : MapIs h r l) : lenMap h (some r) = some l.length := by
  obtain ⟨es, clk, h1, h2, _⟩ := H
  have : es.size = l.length := by
    have := congrArg List.length h2
    simpa using this
  simp [lenMap, h1, this]
theorem MapIs.raw {h : Hp} {r : Nat} {l : List (ByteArray × Value)} (H : MapIs h r l) : ∃ es clk, h[r]? = some (.map es clk) ∧ strKeys es.toList := by
  obtain ⟨es, clk, h1, h2, _⟩ := H
  exact ⟨es, clk, h1, ents_keys h2⟩
theorem MapIs.new {h h' : Hp} (e : h' = h.push (.map #[] 0)) : MapIs h' h.size [] := ⟨#[], 0, push_new e, rfl, by simp, by simp, by simp⟩
theorem MapIs.clone {h h' : Hp} {r : Nat} {l : List (ByteArray × Value)} {es : Array MapEntry} {clk : Nat} (H : MapIs h r l) (hr : h[r]? = some (.map es clk)) (e : h' = h.push (.map es clk)) : MapIs h' h.size l := by
  obtain ⟨es', clk', h1, h2⟩ := H
  rw [hr] at h1
  cases h1
  exact ⟨es, clk, push_new e, h2⟩

theorem ents_none {k : ByteArray} : ∀ {es : List MapEntry} {l : List (ByteArray × Value)} {i : Nat} {v : Value}, es.map (fun e => (e.key, e.val)) = l.map (fun p => (Value.string p.1, p.2)) → idxS k es i = none →
      putL k v l = l ++ [(k, v)] ∧ delL k l = l ∧ k ∉ l.map (·.1)
  | [], [], _, _, _, _ => ⟨rfl, rfl, by simp⟩
  | [], _ :: _, _, _, h, _ => by simp at h
  | _ :: _, [], _, _, h, _ => by simp at h
  | e :: es, p :: l, i, v, h, hn => by
    simp only [List.map_cons, List.cons.injEq, Prod.mk.injEq] at h
    obtain ⟨⟨h1, h2⟩, h3⟩ := h
    simp only [idxS, h1] at hn
    by_cases hk : k = p.1
    · rw [if_pos (bytes_beq.2 hk)] at hn; cases hn
    · rw [if_neg (fun hb => hk (bytes_beq.1 hb))] at hn
      obtain ⟨q1, q2, q3⟩ := ents_none (v := v) h3 hn
      refine ⟨by simp [putL, hk, q1], ?_, ?_⟩
      · unfold delL at q2 ⊢
        rw [List.filter_cons, if_pos (by simpa using fun e => hk e.symm), q2]
      · simp only [List.map_cons, List.mem_cons, not_or]
        exact ⟨hk, q3⟩
theorem ents_some {k : ByteArray} : ∀ {es : List MapEntry} {l : List (ByteArray × Value)} {i j : Nat} {u v : Value}, es.map (fun e => (e.key, e.val)) = l.map (fun p => (Value.string p.1, p.2)) → (l.map (·.1)).Nodup → idxS k es i = some (j, u) →
      i ≤ j ∧ (es.modify (j - i) fun e => { e with key := .string k, val := v }).map (fun e => (e.key, e.val)) = (putL k v l).map (fun p => (Value.string p.1, p.2)) ∧
      (es.eraseIdx (j - i)).map (fun e => (e.key, e.val)) = (delL k l).map (fun p => (Value.string p.1, p.2)) ∧ j - i < es.length
  | [], [], _, _, _, _, _, _, h => by cases h
  | [], _ :: _, _, _, _, _, h, _, _ => by simp at h
  | _ :: _, [], _, _, _, _, h, _, _ => by simp at h
  | e :: es, p :: l, i, j, u, v, h, hd, hn => by
    simp only [List.map_cons, List.cons.injEq, Prod.mk.injEq] at h
    obtain ⟨⟨h1, h2⟩, h3⟩ := h
    simp only [List.map_cons, List.nodup_cons] at hd
    simp only [idxS, h1] at hn
    by_cases hk : k = p.1
    · rw [if_pos (bytes_beq.2 hk)] at hn
      cases hn
      refine ⟨Nat.le_refl _, ?_, ?_, by simp⟩
      · simp [putL, hk, h3]
      · have hl : ∀ q ∈ l, q.1 ≠ k := fun q hq e => hd.1 (List.mem_map.2 ⟨q, hq, by rw [e, hk]⟩)
        have : delL k l = l := by
          unfold delL
          rw [List.filter_eq_self]
          intro q hq
          simpa using hl q hq
        unfold delL at this ⊢
        rw [List.filter_cons, if_neg (by simp [hk]), this]
        simpa using h3
    · rw [if_neg (fun hb => hk (bytes_beq.1 hb))] at hn
      obtain ⟨q0, q1, q2, q3⟩ := ents_some (v := v) h3 hd.2 hn
      have hj : j - i = (j - (i + 1)) + 1 := by omega
      refine ⟨by omega, ?_, ?_, by simp only [List.length_cons]; omega⟩
      · rw [hj]
        simp only [List.modify_succ_cons, List.map_cons, putL, if_neg hk, q1, h1, h2]
      · rw [hj]
        unfold delL at q2 ⊢
        rw [List.filter_cons, if_pos (by simpa using fun e => hk e.symm)]
        simp only [List.eraseIdx_cons_succ, List.map_cons, q2, h1, h2]
theorem putL_keys {k : ByteArray} {v : Value} : ∀ {l : List (ByteArray × Value)}, (l.map (·.1)).Nodup → ((putL k v l).map (·.1)).Nodup ∧ ∀ x, x ∈ (putL k v l).map (·.1) → x = k ∨ x ∈ l.map (·.1)
  | [], _ => by simp [putL]
  | p :: l, hd => by
    simp only [List.map_cons, List.nodup_cons] at hd
    obtain ⟨q1, q2⟩ := putL_keys (k := k) (v := v) hd.2
    by_cases hk : k = p.1
    · simp only [putL, if_pos hk, List.map_cons, List.nodup_cons]
      refine ⟨⟨by rw [hk]; exact hd.1, hd.2⟩, fun x hx => ?_⟩
      rcases List.mem_cons.1 hx with h | h
      · exact .inl h
      · exact .inr (List.mem_cons_of_mem _ h)
    · simp only [putL, if_neg hk, List.map_cons, List.nodup_cons]
      refine ⟨⟨fun hm => ?_, q1⟩, fun x hx => ?_⟩
      · rcases q2 _ hm with h | h
        · exact hk h.symm
        · exact hd.1 h
      · rcases List.mem_cons.1 hx with h | h
        · exact .inr (by rw [h]; exact List.mem_cons_self ..)
        · exact (q2 x h).imp id (List.mem_cons_of_mem _)
theorem MapIs.upd {h h' : Hp} {r : Nat} {l : List (ByteArray × Value)} {es : Array MapEntry} {clk : Nat} {k : ByteArray} {v : Value} (H : MapIs h r l) (hr : h[r]? = some (.map es clk)) (e : h' = h.setIfInBounds r (updS es clk k v)) : MapIs h' r (putL k v l) := by
  obtain ⟨es', clk', h1, h2, h3, h4, h5⟩ := H
  rw [hr] at h1
  cases h1
  have hlt := lt_of_some hr
  have hget : h'[r]? = some (updS es clk k v) := by subst e; simp [hlt]
  unfold updS at hget
  cases hi : idxS k es.toList 0 with
  | none =>
    rw [hi] at hget
    obtain ⟨q1, _, q3⟩ := ents_none (v := v) h2 hi
    refine ⟨_, _, hget, ?_, ?_, ?_, (putL_keys h5).1⟩
    · rw [q1]; simp [h2]
    · intro x hx
      simp only [Array.toList_push, List.mem_append, List.mem_singleton] at hx
      rcases hx with hx | rfl
      · have := h3 x hx; omega
      · simp
    · simp only [Array.toList_push, List.map_append, List.map_cons, List.map_nil]
      rw [List.nodup_append]
      refine ⟨h4, by simp, fun a ha b hb => ?_⟩
      obtain ⟨x, hx, rfl⟩ := List.mem_map.1 ha
      have := h3 x hx
      simp at hb
      omega
  | some p =>
    obtain ⟨j, u⟩ := p
    rw [hi] at hget
    obtain ⟨_, q1, _, q3⟩ := ents_some (v := v) h2 h5 hi
    refine ⟨_, _, hget, ?_, ?_, ?_, (putL_keys h5).1⟩
    · rw [Array.toList_modify]; exact q1
    · intro x hx
      rw [Array.toList_modify] at hx
      obtain ⟨m, hm, hx⟩ := List.mem_iff_getElem.1 hx
      rw [List.getElem_modify] at hx
      have hm' : m < es.toList.length := by simpa using hm
      have := h3 _ (List.getElem_mem hm')
      split at hx <;> (subst hx; exact this)
    · rw [Array.toList_modify]
      have : (es.toList.modify j fun e => { e with key := .string k, val := v }).map (·.born) = es.toList.map (·.born) := by
        apply List.ext_getElem
        · simp
        · intro m h1 h2
          simp only [List.getElem_map, List.getElem_modify]
          split <;> rfl
      rw [this]
      exact h4
theorem MapIs.del {h h' : Hp} {r : Nat} {l : List (ByteArray × Value)} {es : Array MapEntry} {clk : Nat} {k : ByteArray} (H : MapIs h r l) (hr : h[r]? = some (.map es clk)) (e : h' = h.setIfInBounds r (delS es clk k)) : MapIs h' r (delL k l) := by
  obtain ⟨es', clk', h1, h2, h3, h4, h5⟩ := H
  rw [hr] at h1
  cases h1
  have hlt := lt_of_some hr
  have hget : h'[r]? = some (delS es clk k) := by subst e; simp [hlt]
  have hdk : ((delL k l).map (·.1)).Nodup := h5.sublist (List.Sublist.map _ List.filter_sublist)
  unfold delS at hget
  cases hi : idxS k es.toList 0 with
  | none =>
    rw [hi] at hget
    obtain ⟨_, q2, _⟩ := ents_none (v := .nilFunc) h2 hi
    exact ⟨es, clk, hget, by rw [q2]; exact h2, h3, h4, hdk⟩
  | some p =>
    obtain ⟨j, u⟩ := p
    rw [hi] at hget
    obtain ⟨_, _, q2, q3⟩ := ents_some (v := .nilFunc) h2 h5 hi
    have hl : (es.eraseIdxIfInBounds j).toList = es.toList.eraseIdx j := by
      unfold Array.eraseIdxIfInBounds
      rw [dif_pos (by simpa using q3)]
      simp
    refine ⟨_, _, hget, by rw [hl]; exact q2, fun x hx => ?_, ?_, hdk⟩
    · rw [hl] at hx; exact h3 x (List.mem_of_mem_eraseIdx hx)
    · rw [hl]; exact h4.sublist (List.Sublist.map _ (List.eraseIdx_sublist _ _))

/-! ### Slices that are owned -/
/-- A slice that is nil, or leads to a part of a block that may be written; its cells. -/
def SlOwn (h : Hp) (s : Sl) (t : TypeId) (sz : Nat) (vs : List Value) : Prop :=
  vs.length = s.len * sz ∧ ((s.a = none ∧ s.len = 0 ∧ s.cap = 0) ∨
    ∃ b o cs, s.a = some ⟨b, o, none⟩ ∧ h[b]? = some (.cells cs t (0, 0)) ∧ o + s.cap * sz ≤ cs.size ∧ s.len ≤ s.cap ∧ ∀ i, i < vs.length → cs[o + i]? = vs[i]?)
def Sl.blk? (s : Sl) : Option Nat := s.a.map (·.block)

theorem SlOwn.nil {h : Hp} {t : TypeId} {sz : Nat} : SlOwn h ⟨none, 0, 0⟩ t sz [] := ⟨by simp, .inl ⟨rfl, rfl, rfl⟩⟩
theorem SlOwn.frame {h h' : Hp} {s : Sl} {t : TypeId} {sz : Nat} {vs : List Value} (H : SlOwn h s t sz vs) (e : ∀ b, s.blk? = some b → h'[b]? = h[b]?) : SlOwn h' s t sz vs := by
  obtain ⟨h1, h2⟩ := H
  refine ⟨h1, h2.imp id ?_⟩
  rintro ⟨b, o, cs, ha, hb, hr⟩
  exact ⟨b, o, cs, ha, (e b (by simp [Sl.blk?, ha])).trans hb, hr⟩
theorem SlOwn.lt {h : Hp} {s : Sl} {t : TypeId} {sz : Nat} {vs : List Value} (H : SlOwn h s t sz vs) {b : Nat} (hb : s.blk? = some b) : b < h.size := by
  rcases H.2 with ⟨ha, _⟩ | ⟨b', o, cs, ha, hb', _⟩
  · simp [Sl.blk?, ha] at hb
  · have : b' = b := by simpa [Sl.blk?, ha] using hb
    subst this
    exact lt_of_some hb'
theorem SlOwn.len_le {h : Hp} {s : Sl} {t : TypeId} {sz : Nat} {vs : List Value} (H : SlOwn h s t sz vs) : s.len ≤ s.cap := by
  rcases H.2 with ⟨_, h1, h2⟩ | ⟨_, _, _, _, _, _, h, _⟩ <;> omega
/-- An element's place. -/
theorem SlOwn.elem {h : Hp} {s : Sl} {t : TypeId} {sz : Nat} {vs : List Value} (H : SlOwn h s t sz vs) {i : Nat} (hi : i < s.len) : ∃ a : Addr, s.a = some a ∧ a.spot = none ∧ s.blk? = some a.block ∧ ∀ j v, vs[i * sz + j]? = some v → cellH h ((a.add (i * sz)).add j) = some v := by
  rcases H.2 with ⟨_, h1, _⟩ | ⟨b, o, cs, ha, hb, hs, hl, hv⟩
  · omega
  · refine ⟨⟨b, o, none⟩, ha, rfl, by simp [Sl.blk?, ha], fun j v hj => ?_⟩
    rw [addr_add, addr_add]
    unfold cellH
    rw [hb]
    have hlt : i * sz + j < vs.length := by
      rcases Nat.lt_or_ge (i * sz + j) vs.length with h | h
      · exact h
      · rw [List.getElem?_eq_none h] at hj; cases hj
    have := hv _ hlt
    simp only [Nat.add_assoc]
    exact this.trans hj
theorem SlOwn.get {h : Hp} {s : Sl} {t : TypeId} {vs : List Value} (H : SlOwn h s t 1 vs) {i : Nat} {v : Value} (hv : vs[i]? = some v) : ∃ a : Addr, s.a = some a ∧ cellH h (a.add (i * 1)) = some v := by
  have hi : i < s.len := by
    have := H.1
    rcases Nat.lt_or_ge i vs.length with h | h
    · omega
    · rw [List.getElem?_eq_none h] at hv; cases hv
  obtain ⟨a, h1, h2, _, h3⟩ := H.elem hi
  exact ⟨a, h1, h3 0 v (by simpa using hv)⟩
theorem SlOwn.read {h : Hp} {s : Sl} {t : TypeId} {sz : Nat} {vs : List Value} (H : SlOwn h s t sz vs) : srcAt h s.a vs := by
  rcases H.2 with ⟨ha, h1, _⟩ | ⟨b, o, cs, ha, hb, hs, hl, hv⟩
  · refine ⟨fun _ => List.eq_nil_of_length_eq_zero (by rw [H.1, h1]; simp), fun b hb => by rw [ha] at hb; cases hb⟩
  · refine ⟨fun h0 => absurd (ha.symm.trans h0) (by simp), fun b' hb' => ?_⟩
    rw [ha] at hb'
    cases hb'
    have key : ∀ (us : List Value) (i : Nat), (∀ k v, us[k]? = some v → cs[o + (i + k)]? = some v) → cellsFrom h ⟨b, o, none⟩ i us := by
      intro us
      induction us with
      | nil => intro _ _; trivial
      | cons u us ih =>
        intro i hh
        refine ⟨cell_in hb (hh 0 u rfl), ih (i + 1) fun k v hk => ?_⟩
        have := hh (k + 1) v (by simpa using hk)
        rw [show i + 1 + k = i + (k + 1) by omega]
        exact this
    refine key vs 0 fun k v hk => ?_
    have hlt : k < vs.length := by
      rcases Nat.lt_or_ge k vs.length with h | h
      · exact h
      · rw [List.getElem?_eq_none h] at hk; cases hk
    rw [Nat.zero_add, hv k hlt]
    exact hk

theorem putsFrom_ne {a : Addr} {b : Nat} (hne : b ≠ a.block) : ∀ (vs : List Value) (h : Hp) (i : Nat), (putsFrom a h i vs)[b]? = h[b]?
  | [], _, _ => rfl
  | v :: vs, h, i => by
    simp only [putsFrom]
    rw [putsFrom_ne hne vs, setH_ne]
    unfold Addr.add; split <;> exact hne
theorem putsFrom_size {a : Addr} : ∀ (vs : List Value) (h : Hp) (i : Nat), (putsFrom a h i vs).size = h.size
  | [], _, _ => rfl
  | v :: vs, h, i => by simp only [putsFrom]; rw [putsFrom_size vs, setH_size]
/-- Writing a list into a block: may be done, and what the block holds behind it. -/
theorem puts_in {b o : Nat} {t : TypeId} : ∀ (vs : List Value) (h : Hp) (i : Nat) (cs : Array Value), h[b]? = some (.cells cs t (0, 0)) → o + i + vs.length ≤ cs.size → (∀ v ∈ vs, leaf v) →
    canPut ⟨b, o, none⟩ h i vs ∧ ∃ cs', (putsFrom ⟨b, o, none⟩ h i vs)[b]? = some (.cells cs' t (0, 0)) ∧ cs'.size = cs.size ∧
      (∀ k, k < o + i → cs'[k]? = cs[k]?) ∧ (∀ k, k < vs.length → cs'[o + i + k]? = vs[k]?) ∧ (∀ k, o + i + vs.length ≤ k → cs'[k]? = cs[k]?)
  | [], h, i, cs, hb, _, _ => ⟨trivial, cs, hb, rfl, fun _ _ => rfl, fun k hk => by simp at hk, fun _ _ => rfl⟩
  | v :: vs, h, i, cs, hb, hl, hv => by
    simp only [List.length_cons] at hl
    have hlt : o + i < cs.size := by omega
    have hb' : (setH h ((Addr.mk b o none).add i) v)[b]? = some (.cells (cs.setIfInBounds (o + i) v) t (0, 0)) := set_in rfl hb rfl
    obtain ⟨c1, cs', c2, c3, c4, c5, c6⟩ := puts_in (b := b) (o := o) (t := t) vs (setH h ((Addr.mk b o none).add i) v) (i + 1) (cs.setIfInBounds (o + i) v) hb' (by rw [Array.size_setIfInBounds]; omega) (fun u hu => hv u (List.mem_cons_of_mem _ hu))
    refine ⟨⟨hv v (List.mem_cons_self ..), ⟨cs[o + i]'hlt, cell_in (o := o) (i := i) hb (by simp [hlt])⟩, frz_in hb, c1⟩, cs', c2, by simpa using c3, fun k hk => ?_, fun k hk => ?_, fun k hk => ?_⟩
    · have hk' : k < o + (i + 1) := by omega
      rw [c4 k hk', Array.getElem?_setIfInBounds_ne (by omega)]
    · cases k with
      | zero =>
        have hk' : o + i + 0 < o + (i + 1) := by omega
        rw [c4 _ hk']
        simp [hlt]
      | succ k =>
        have := c5 k (by simpa using hk)
        rw [show o + i + (k + 1) = o + (i + 1) + k by omega, this]
        simp
    · simp only [List.length_cons] at hk
      have hk' : o + (i + 1) + vs.length ≤ k := by omega
      rw [c6 k hk', Array.getElem?_setIfInBounds_ne (by omega)]

/-- A block that is written whole. -/
theorem puts_all {h : Hp} {b : Nat} {t : TypeId} {cs : Array Value} {vs : List Value} (hb : h[b]? = some (.cells cs t (0, 0))) (hl : vs.length = cs.size) (hv : ∀ v ∈ vs, leaf v) :
    canPut (blk b) h 0 vs ∧ (putsFrom (blk b) h 0 vs)[b]? = some (.cells vs.toArray t (0, 0)) := by
  obtain ⟨c1, cs', c2, c3, _, c5, _⟩ := puts_in (b := b) (o := 0) vs h 0 cs hb (by omega) hv
  refine ⟨c1, c2.trans ?_⟩
  have : cs' = vs.toArray := by
    apply Array.ext_getElem?
    intro i
    rw [show vs.toArray[i]? = vs[i]? from List.getElem?_toArray ..]
    rcases Nat.lt_or_ge i vs.length with hi | hi
    · have := c5 i hi
      simp only [Nat.zero_add] at this
      exact this
    · rw [Array.getElem?_eq_none (by omega), List.getElem?_eq_none hi]
  rw [this]
theorem cellsAt_all {h : Hp} {b : Nat} {t : TypeId} {fz : Nat × Nat} {vs : List Value} (hb : h[b]? = some (.cells vs.toArray t fz)) : cellsAt h (blk b) vs := by
  suffices key : ∀ (us : List Value) (i : Nat), (∀ k v, us[k]? = some v → vs[i + k]? = some v) → cellsFrom h (blk b) i us from key vs 0 fun k v hk => by rw [Nat.zero_add]; exact hk
  intro us
  induction us with
  | nil => intro _ _; trivial
  | cons u us ih =>
    intro i hh
    refine ⟨cell_at hb (by rw [List.getElem?_toArray]; exact hh 0 u rfl), ih (i + 1) fun k v hk => ?_⟩
    have := hh (k + 1) v (by simpa using hk)
    rw [show i + 1 + k = i + (k + 1) by omega]
    exact this

/-- What append leaves, of an owned slice: it is owned, longer; where it lies; what has turned. -/
structure Appended (h : Hp) (s : Sl) (t : TypeId) (sz m : Nat) (vs news : List Value) (s' : Sl) (h' : Hp) : Prop where
  own : SlOwn h' s' t sz (vs ++ news)
  len : s'.len = s.len + m
  where_ : s'.blk? = s.blk? ∨ s'.blk? = some h.size
  size : h.size ≤ h'.size
  same : ∀ b, b < h.size → s.blk? ≠ some b → h'[b]? = h[b]?
theorem apd_own {sz bytes : Nat} {t : TypeId} {z : List Value} {h : Hp} {s : Sl} {m : Nat} {vs news : List Value} {K : Sl → Hp → Prop} (H : SlOwn h s t sz vs) (hz : z.length = sz) (hl : ∀ v ∈ news, leaf v) (hn : news.length = m * sz) (hm : 0 < m)
    (hsz : s.len + m ≤ 1073741824) (hby : bytes ≤ 1024) (hk : ∀ s' h', Appended h s t sz m vs news s' h' → K s' h') : apd sz bytes t z h s m news K := by
  obtain ⟨hlen, hown⟩ := H
  refine ⟨fun hfit => ⟨fun ha => ?_, fun b hb => ?_⟩, fun hgrow => ⟨by omega, ?_, ?_⟩⟩
  · rcases hown with ⟨_, h1, h2⟩ | ⟨b, o, cs, ha', _⟩
    · omega
    · rw [ha] at ha'; cases ha'
  · rcases hown with ⟨ha, _⟩ | ⟨b', o, cs, ha, hb', hs, hle, hv⟩
    · rw [hb] at ha; cases ha
    · rw [hb] at ha
      cases ha
      rw [addr_add]
      have hroom : o + s.len * sz + 0 + news.length ≤ cs.size := by
        rw [hn]
        have : (s.len + m) * sz ≤ s.cap * sz := Nat.mul_le_mul_right _ hfit
        rw [Nat.add_mul] at this
        omega
      obtain ⟨c1, cs', c2, c3, c4, c5, c6⟩ := puts_in (b := b') (o := o + s.len * sz) news h 0 cs hb' hroom hl
      refine ⟨c1, hk _ _ ⟨⟨by rw [List.length_append, hlen, hn, ← Nat.add_mul], .inr ⟨b', o, cs', rfl, c2, by rw [c3]; exact hs, hfit, fun i hi => ?_⟩⟩, rfl, .inl (by simp [Sl.blk?, hb]), by rw [putsFrom_size]; exact Nat.le_refl _, fun b hb1 hb2 => putsFrom_ne (fun e => hb2 (by simp [Sl.blk?, hb, e])) _ _ _⟩⟩
      rw [List.length_append] at hi
      rcases Nat.lt_or_ge i vs.length with h1 | h1
      · rw [List.getElem?_append_left h1, ← hv i h1]
        exact c4 _ (by omega)
      · rw [List.getElem?_append_right h1]
        have := c5 (i - vs.length) (by omega)
        rw [← this]
        congr 1
        omega
  · have hcap : Builtin.nextslicecap (s.len + m) s.cap ≤ 17179869184 := by
      have hg : ∀ (r c : Nat), Builtin.growBy (s.len + m) r c ≤ max c ((s.len + m) + (s.len + m + 768) / 4) := by
        intro r
        induction r with
        | zero => intro c; simp only [Builtin.growBy]; omega
        | succ r ih =>
          intro c
          simp only [Builtin.growBy]
          split
          · omega
          · rename_i hlt
            have := ih (c + (c + 768) / 4)
            omega
      unfold Builtin.nextslicecap
      have := hg 4 s.cap
      split
      · omega
      · split
        · omega
        · omega
    calc Builtin.nextslicecap (s.len + m) s.cap * bytes ≤ 17179869184 * 1024 := Nat.mul_le_mul hcap hby
      _ ≤ 281474976710656 := by omega
  · refine ⟨vs, hlen, fun ha => ?_, fun b hb => ?_, fun c hcc => hk _ _ ⟨⟨by rw [List.length_append, hlen, hn, ← Nat.add_mul], .inr ⟨h.size, 0, _, rfl, push_new rfl, ?_, hcc, fun i hi => ?_⟩⟩, rfl, .inr rfl, by simp, fun b hb1 _ => by rw [Array.getElem?_push, if_neg (by omega)]⟩⟩
    · rcases hown with ⟨_, h1, h2⟩ | ⟨b, o, cs, ha', _⟩
      · exact List.eq_nil_of_length_eq_zero (by rw [hlen, h1]; simp)
      · rw [ha] at ha'; cases ha'
    · exact (SlOwn.read (h := h) (s := s) (t := t) (sz := sz) ⟨hlen, hown⟩).2 b hb
    · simp only [Array.size_append, List.size_toArray, Builtin.zeroCells, Array.size_map, Array.size_range, hlen, hn, hz, Nat.zero_add]
      have : (s.len + m) * sz + (c - (s.len + m)) * sz = c * sz := by rw [← Nat.add_mul]; congr 1; omega
      rw [Nat.add_mul] at this
      omega
    · rw [Nat.zero_add]
      have hlt : i < (vs.toArray ++ news.toArray).size := by simpa using hi
      rw [Array.getElem?_append_left hlt]
      simp
end Go.Proofs.YtgdmjdacmebfjaaGreatDoor.D
