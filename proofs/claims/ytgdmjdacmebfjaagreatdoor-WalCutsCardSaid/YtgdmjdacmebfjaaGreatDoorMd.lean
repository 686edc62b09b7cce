/-
  What the functions of the disk, the codec and the frame do on the heap. No conditions of the text itself.
-/
import Derived.Test.YtgdmjdacmebfjaaGreatDoorMa
import Derived.Test.YtgdmjdacmebfjaaGreatDoorMc
import Derived.Laws.Strings
import Derived.Shelf.SlIter.Nil
import Derived.Shelf.SortM.Plain
import Derived.Shelf.SortM.SortNone
import Derived.Ground.GgzProg
import Derived.Ground.SlgmProg
import Derived.Test.YtgdmjdacmebfjaaGreatDoorProg
import Derived.StringKeys
namespace Go.Proofs.YtgdmjdacmebfjaaGreatDoor.D
open Go

/-- A call's own turns, and what is then its: what was the thing's, or is new. -/
structure Step (h : Hp) (O : Nat → Prop) (h' : Hp) (O' : Nat → Prop) : Prop where
  ext : Ext h.size O h h'
  own : ∀ b, O' b → O b ∨ h.size ≤ b
namespace Step
variable {h h1 h2 : Hp} {O O1 O2 : Nat → Prop}
theorem refl (h : Hp) (O : Nat → Prop) : Step h O h O := ⟨Ext.refl _ _ _, fun _ => .inl⟩
theorem trans (s1 : Step h O h1 O1) (s2 : Step h1 O1 h2 O2) : Step h O h2 O2 :=
  ⟨⟨Nat.le_trans s1.ext.size s2.ext.size, fun b hb ho => (s2.ext.same b (Nat.lt_of_lt_of_le hb s1.ext.size) (fun h1 => (s1.own b h1).elim ho (fun h2 => absurd hb (Nat.not_lt.2 h2)))).trans (s1.ext.same b hb ho)⟩,
   fun b hb => (s2.own b hb).elim (s1.own b) (fun h2 => .inr (Nat.le_trans s1.ext.size h2))⟩
theorem of (e : Ext h.size O h h1) : Step h O h1 O := ⟨e, fun _ => .inl⟩
theorem of' (e : Ext h.size O h h1) (ho : ∀ b, O1 b → O b ∨ h.size ≤ b) : Step h O h1 O1 := ⟨e, ho⟩
theorem keep (s : Step h O h1 O1) {b : Nat} {x : Obj} (hb : h[b]? = some x) (hn : ¬ O b) : h1[b]? = some x := (s.ext.same b (lt_of_some hb) hn).trans hb
theorem size (s : Step h O h1 O1) : h.size ≤ h1.size := s.ext.size
end Step

/-! ### The state -/
inductive Chg where
  | put (k : ByteArray) (b : Nat)
  | del (k : ByteArray)
  | ren (f k : ByteArray) (b : Nat)
abbrev FL := List (ByteArray × Nat)
def Chg.on : Chg → FL → FL
  | .put k b, l => putL k b l
  | .del k, l => delL k l
  | .ren f k b, l => putL k b (delL f l)
/-- The file that a change names. -/
def Chg.blk : Chg → Option Nat
  | .put _ b => some b
  | .del _ => none
  | .ren _ _ b => some b
structure DS where
  room : Int
  now : FL
  lasting : FL
  chg : List Chg
  dead : Bool
  fuse : Int
  fs : Nat → ByteArray × Nat
def DS.has (D : DS) (b : Nat) : Prop := (∃ k, (k, b) ∈ D.now) ∨ (∃ k, (k, b) ∈ D.lasting) ∨ ∃ c, c ∈ D.chg ∧ c.blk = some b

def fval (b : Nat) : Value := .pointer (some (blk b))
def fmap (l : FL) : List (ByteArray × Value) := l.map fun p => (p.1, fval p.2)
def ChgAt (h : Hp) (O : Nat → Prop) (v : Value) : Chg → Prop
  | .put k b => ∃ pf pn, v = .func (.func F_disk_Disk_Append_1) #[] #[.pointer (some (blk pf)), .pointer (some (blk pn))] ∧ (h[pf]? = some (.cells #[fval b] T_pt_disk_file (0, 0)) ∧ O pf) ∧ h[pn]? = some (.cells #[.string k] T_string (0, 0)) ∧ O pn
  | .del k => ∃ pn, v = .func (.func F_disk_Disk_Remove_1) #[] #[.pointer (some (blk pn))] ∧ h[pn]? = some (.cells #[.string k] T_string (0, 0)) ∧ O pn
  | .ren f k b => ∃ pa pf pn, v = .func (.func F_disk_Disk_Rename_1) #[] #[.pointer (some (blk pa)), .pointer (some (blk pf)), .pointer (some (blk pn))] ∧ (h[pa]? = some (.cells #[.string f] T_string (0, 0)) ∧ O pa) ∧ (h[pf]? = some (.cells #[fval b] T_pt_disk_file (0, 0)) ∧ O pf) ∧ h[pn]? = some (.cells #[.string k] T_string (0, 0)) ∧ O pn
def fileOb (f : ByteArray × Nat) : Obj := .cells #[.string f.1, .int .i64 f.2] T_disk_file (0, 0)
def diskOb (D : DS) (rn rl : Nat) (s : Sl) : Obj := .cells #[.int .i64 D.room, .map (some rn), .map (some rl), s.v, .bool D.dead, .int .i64 D.fuse] T_disk_Disk (0, 0)

structure DiskB (h : Hp) (a rn rl : Nat) (s : Sl) (D : DS) (O : Nat → Prop) : Prop where
  cell : h[a]? = some (diskOb D rn rl s)
  now : MapIs h rn (fmap D.now)
  las : MapIs h rl (fmap D.lasting)
  ne : rn ≠ rl
  chg : ∃ vs, SlOwn h s T_fn_disk_names 1 vs ∧ vs.length = D.chg.length ∧ ∀ (i : Nat) (v : Value) (c : Chg), vs[i]? = some v → D.chg[i]? = some c → ChgAt h O v c
  file : ∀ b, D.has b → h[b]? = some (fileOb (D.fs b)) ∧ O b
  oa : O a
  on : O rn
  ol : O rl
  os : ∀ b, s.blk? = some b → O b
  lt : ∀ b, O b → b < h.size
  fuse : -1 ≤ D.fuse ∧ D.fuse ≤ 9223372036854775807
def DiskAt (h : Hp) (a : Nat) (D : DS) (O : Nat → Prop) : Prop := ∃ rn rl s, DiskB h a rn rl s D O

theorem ChgAt.frame {h h' : Hp} {O O' : Nat → Prop} {v : Value} {c : Chg} (H : ChgAt h O v c) (e : ∀ b x, O b → h[b]? = some x → obTag x = T_pt_disk_file + 2 ∨ obTag x = T_string + 2 → h'[b]? = some x) (ho : ∀ b, O b → O' b) : ChgAt h' O' v c := by
  cases c with
  | put k b =>
    obtain ⟨pf, pn, h1, ⟨h2, h3⟩, h4, h5⟩ := H
    exact ⟨pf, pn, h1, ⟨e _ _ h3 h2 (.inl rfl), ho _ h3⟩, e _ _ h5 h4 (.inr rfl), ho _ h5⟩
  | del k =>
    obtain ⟨pn, h1, h4, h5⟩ := H
    exact ⟨pn, h1, e _ _ h5 h4 (.inr rfl), ho _ h5⟩
  | ren f k b =>
    obtain ⟨pa, pf, pn, h1, ⟨h6, h7⟩, ⟨h2, h3⟩, h4, h5⟩ := H
    exact ⟨pa, pf, pn, h1, ⟨e _ _ h7 h6 (.inr rfl), ho _ h7⟩, ⟨e _ _ h3 h2 (.inl rfl), ho _ h3⟩, e _ _ h5 h4 (.inr rfl), ho _ h5⟩
/-- What may have turned so that the changes' list stands: not the cells of its closures. -/
theorem DiskB.frame {h h' : Hp} {a rn rl : Nat} {s : Sl} {D : DS} {O O' : Nat → Prop} (H : DiskB h a rn rl s D O) (e : ∀ b, O b → h'[b]? = h[b]?) (ho : ∀ b, O b → O' b) (hl : ∀ b, O' b → b < h'.size) : DiskB h' a rn rl s D O' := by
  obtain ⟨vs, c1, c2, c3⟩ := H.chg
  exact ⟨(e a H.oa).trans H.cell, H.now.frame (e _ H.on), H.las.frame (e _ H.ol), H.ne, ⟨vs, c1.frame fun b hb => e b (H.os b hb), c2, fun i v c hv hc => (c3 i v c hv hc).frame (fun b x ob hx _ => (e b ob).trans hx) ho⟩,
    fun b hb => ⟨(e b (H.file b hb).2).trans (H.file b hb).1, ho _ (H.file b hb).2⟩, ho _ H.oa, ho _ H.on, ho _ H.ol, fun b hb => ho _ (H.os b hb), hl, H.fuse⟩
theorem DiskAt.frame {h h' : Hp} {a : Nat} {D : DS} {O : Nat → Prop} (H : DiskAt h a D O) (e : ∀ b, O b → h'[b]? = h[b]?) (hs : h.size ≤ h'.size) : DiskAt h' a D O := by
  obtain ⟨rn, rl, s, H⟩ := H
  exact ⟨rn, rl, s, H.frame e (fun _ => id) (fun b hb => Nat.lt_of_lt_of_le (H.lt b hb) hs)⟩
theorem DiskAt.lt {h : Hp} {a : Nat} {D : DS} {O : Nat → Prop} (H : DiskAt h a D O) : ∀ b, O b → b < h.size := by
  obtain ⟨rn, rl, s, H⟩ := H
  exact H.lt
theorem DiskAt.oa {h : Hp} {a : Nat} {D : DS} {O : Nat → Prop} (H : DiskAt h a D O) : O a := by
  obtain ⟨rn, rl, s, H⟩ := H
  exact H.oa
/-- Behind a call that turned nothing that was there. -/
theorem DiskAt.ext {h h' : Hp} {a : Nat} {D : DS} {O S : Nat → Prop} (H : DiskAt h a D O) (e : Ext h.size S h h') (hS : ∀ b, S b → ¬ O b) : DiskAt h' a D O :=
  H.frame (fun b hb => e.same b (H.lt b hb) (fun hs => hS b hs hb)) e.size

section
variable {h h' : Hp} {a rn rl : Nat} {s : Sl} {D : DS} {O : Nat → Prop}
theorem DiskB.mapNe {r : Nat} {l : List (ByteArray × Value)} (_ : DiskB h a rn rl s D O) (hr : MapIs h r l) {b : Nat} {x : Obj} (hb : h[b]? = some x) (hx : Nat.beq (obTag x) 0 = false) : b ≠ r := by
  obtain ⟨es, clk, h1, _⟩ := hr
  exact ne_tag hb h1 hx
theorem SlOwn.ob {t : TypeId} {sz : Nat} {vs : List Value} (H : SlOwn h s t sz vs) {b : Nat} (hb : s.blk? = some b) : ∃ cs, h[b]? = some (.cells cs t (0, 0)) := by
  rcases H.2 with ⟨ha, _⟩ | ⟨b', o, cs, ha, hb', _⟩
  · simp [Sl.blk?, ha] at hb
  · have : b' = b := by simpa [Sl.blk?, ha] using hb
    subst this
    exact ⟨cs, hb'⟩
/-- The disk's own block has turned. -/
theorem DiskB.swap {D' : DS} (H : DiskB h a rn rl s D O) (hc : h'[a]? = some (diskOb D' rn rl s)) (ho : ∀ b, b ≠ a → h'[b]? = h[b]?) (hs : h'.size = h.size) (e : D'.now = D.now ∧ D'.lasting = D.lasting ∧ D'.chg = D.chg ∧ D'.fs = D.fs)
    (hf : -1 ≤ D'.fuse ∧ D'.fuse ≤ 9223372036854775807) : DiskB h' a rn rl s D' O := by
  obtain ⟨e1, e2, e3, e4⟩ := e
  obtain ⟨vs, c1, c2, c3⟩ := H.chg
  have hn : rn ≠ a := fun e => H.mapNe H.now H.cell rfl e.symm
  have hl : rl ≠ a := fun e => H.mapNe H.las H.cell rfl e.symm
  refine ⟨hc, by rw [e1]; exact H.now.frame (ho _ hn), by rw [e2]; exact H.las.frame (ho _ hl), H.ne, ⟨vs, c1.frame fun b hb => ho _ ?_, by rw [e3]; exact c2, fun i v c hv hc' => ?_⟩, fun b hb => ?_, H.oa, H.on, H.ol, H.os, fun b hb => by rw [hs]; exact H.lt b hb, hf⟩
  · obtain ⟨cs, hcs⟩ := c1.ob hb
    exact ne_tag hcs H.cell rfl
  · rw [e3] at hc'
    refine (c3 i v c hv hc').frame (fun b x ob hx ht => (ho _ ?_).trans hx) (fun _ => id)
    rintro rfl
    rw [H.cell] at hx
    cases hx
    rcases ht with ht | ht <;> exact absurd (show T_disk_Disk + 2 = _ from ht) (by decide)
  · have hb' : D.has b := by unfold DS.has at hb ⊢; rw [e1, e2, e3] at hb; exact hb
    obtain ⟨q1, q2⟩ := H.file b hb'
    exact ⟨by rw [e4]; exact (ho _ (ne_tag q1 H.cell rfl)).trans q1, q2⟩
end

/-! ### Small functions -/
section
variable {h : Hp} {a : Nat} {D : DS} {O : Nat → Prop}

theorem disk_Up {K : Bool → Hp → Prop} (H : DiskAt h a D O) (hk : K (!D.dead) h) : C_disk_Disk_Up (some (blk a)) h K := by
  obtain ⟨rn, rl, s, H⟩ := H
  exact S_disk_Disk_Up ⟨blk a, rfl, D.dead, cell_at H.cell rfl, hk⟩

def DS.write (D : DS) : Bool × DS :=
  if D.fuse = 0 then (false, { D with dead := true })
  else if D.dead then (false, D)
  else (true, { D with fuse := maxI (D.fuse - 1) (-1) })

theorem wrap_of {x : Int} (h : -9223372036854775808 ≤ x ∧ x ≤ 9223372036854775807) : IntKind.i64.wrap x = x := by
  simp [IntKind.wrap, IntKind.bits, IntKind.signed]
  omega

theorem disk_write {K : Bool → Hp → Prop} (H : DiskAt h a D O) (hk : ∀ h', DiskAt h' a D.write.2 O → Step h O h' O → K D.write.1 h') : C_disk_Disk_write (some (blk a)) h K := by
  obtain ⟨rn, rl, s, H⟩ := H
  refine S_disk_Disk_write ⟨blk a, rfl, D.fuse, cell_at H.cell rfl, ?_⟩
  unfold DS.write at hk
  by_cases h0 : D.fuse = 0
  · rw [if_pos h0] at hk
    rw [if_pos (by simpa using h0)]
    refine ⟨_, cell_at H.cell rfl, frz_at H.cell, fun h1 e1 => ?_⟩
    have hc := set_at e1 H.cell rfl
    have H1 : DiskB h1 a rn rl s { D with dead := true } O := H.swap hc (fun b hb => by rw [e1, blk_add]; exact setH_ne hb) (by rw [e1]; exact setH_size) ⟨rfl, rfl, rfl, rfl⟩ H.fuse
    refine ⟨blk a, rfl, true, cell_at H1.cell rfl, ?_⟩
    rw [if_pos rfl]
    exact hk h1 ⟨rn, rl, s, H1⟩ (.of ((Ext.refl _ _ _).set e1 (fun _ => by rw [blk_add]; exact H.oa)))
  · rw [if_neg h0] at hk
    rw [if_neg (by simpa using h0)]
    refine ⟨blk a, rfl, D.dead, cell_at H.cell rfl, ?_⟩
    by_cases hd : D.dead = true
    · rw [if_pos hd] at hk ⊢
      exact hk h ⟨rn, rl, s, H⟩ (.refl _ _)
    · rw [if_neg hd] at hk ⊢
      refine ⟨D.fuse, cell_at H.cell rfl, _, cell_at H.cell rfl, frz_at H.cell, fun h1 e1 => ?_⟩
      have hc := set_at e1 H.cell rfl
      have hf := H.fuse
      rw [wrap_of (by omega)] at hc
      exact hk h1 ⟨rn, rl, s, H.swap hc (fun b hb => by rw [e1, blk_add]; exact setH_ne hb) (by rw [e1]; exact setH_size) ⟨rfl, rfl, rfl, rfl⟩ (by simp only [maxI]; split <;> omega)⟩ (.of ((Ext.refl _ _ _).set e1 (fun _ => by rw [blk_add]; exact H.oa)))

theorem write_now : D.write.2.now = D.now := by unfold DS.write; split <;> first | rfl | (split <;> rfl)
theorem write_lasting : D.write.2.lasting = D.lasting := by unfold DS.write; split <;> first | rfl | (split <;> rfl)
theorem write_chg : D.write.2.chg = D.chg := by unfold DS.write; split <;> first | rfl | (split <;> rfl)
theorem write_fs : D.write.2.fs = D.fs := by unfold DS.write; split <;> first | rfl | (split <;> rfl)
theorem write_room : D.write.2.room = D.room := by unfold DS.write; split <;> first | rfl | (split <;> rfl)
theorem write_has {b : Nat} : D.write.2.has b ↔ D.has b := by unfold DS.has; rw [write_now, write_lasting, write_chg]

theorem fmap_look {k : ByteArray} {l : FL} : lookL k (fmap l) = (lookL k l).map fval := lookL_map
theorem fmap_put {k : ByteArray} {b : Nat} {l : FL} : putL k (fval b) (fmap l) = fmap (putL k b l) := putL_map
theorem fmap_del {k : ByteArray} {l : FL} : delL k (fmap l) = fmap (delL k l) := delL_map
theorem DiskB.look {rn rl : Nat} {s : Sl} (H : DiskB h a rn rl s D O) (k : ByteArray) : ∃ es, mapEs h (some rn) = some es ∧ strKeys es ∧ ((idxS k es 0).map (·.2)).getD (Value.pointer none) = .pointer ((lookL k D.now).map blk) := by
  obtain ⟨es, h1, h2, h3, _⟩ := H.now.look k (Value.pointer none)
  refine ⟨es, h1, h2, h3.trans ?_⟩
  rw [fmap_look]
  cases lookL k D.now <;> rfl
theorem look_has {k : ByteArray} {b : Nat} (h : lookL k D.now = some b) : D.has b := .inl ⟨k, lookL_mem h⟩

theorem disk_find {name : ByteArray} {K : Option Addr → Int → Hp → Prop} (H : DiskAt h a D O)
    (k1 : D.write.1 = false → ∀ h', DiskAt h' a D.write.2 O → Step h O h' O → K none 11 h')
    (k2 : D.write.1 = true → lookL name D.now = none → ∀ h', DiskAt h' a D.write.2 O → Step h O h' O → K none 12 h')
    (k3 : D.write.1 = true → ∀ b, lookL name D.now = some b → ∀ h', DiskAt h' a D.write.2 O → Step h O h' O → K (some (blk b)) 0 h') : C_disk_Disk_find (some (blk a)) name h K := by
  refine S_disk_Disk_find (disk_write H fun h1 H1 s1 => ?_)
  by_cases hw : D.write.1 = true
  · rw [if_neg (by rw [hw]; decide)]
    obtain ⟨rn, rl, s, H1'⟩ := id H1
    obtain ⟨es, m1, m2, m3⟩ := H1'.look name
    rw [write_now] at m3
    refine ⟨blk a, rfl, some rn, cell_at H1'.cell rfl, es, m1, m2, _, m3, ?_⟩
    cases hl : lookL name D.now with
    | none => exact k2 hw hl h1 H1 s1
    | some b => exact k3 hw b hl h1 H1 s1
  · rw [Bool.not_eq_true] at hw
    rw [if_pos (by rw [hw]; decide)]
    exact k1 hw h1 H1 s1

def DS.read (D : DS) (name : ByteArray) : ByteArray × Int :=
  if D.dead then (.mk #[], 11) else match lookL name D.now with
    | none => (.mk #[], 12)
    | some b => ((D.fs b).1, 0)
theorem disk_Read {name : ByteArray} {K : ByteArray → Int → Hp → Prop} (H : DiskAt h a D O) (hk : K (D.read name).1 (D.read name).2 h) : C_disk_Disk_Read (some (blk a)) name h K := by
  obtain ⟨rn, rl, s, H⟩ := H
  obtain ⟨es, m1, m2, m3⟩ := H.look name
  refine S_disk_Disk_Read ⟨blk a, rfl, some rn, cell_at H.cell rfl, es, m1, m2, _, m3, D.dead, cell_at H.cell rfl, ?_⟩
  unfold DS.read at hk
  split
  · rename_i hd
    rw [if_pos hd] at hk
    exact hk
  · rename_i hd
    rw [if_neg hd] at hk
    cases hl : lookL name D.now with
    | none => rw [hl] at hk; exact hk
    | some b =>
      rw [hl] at hk
      exact ⟨blk b, rfl, (D.fs b).1, cell_at (H.file b (look_has hl)).1 rfl, hk⟩

/-! ### Changes of names -/
theorem set_twice {h : Hp} {r : Nat} {x y : Obj} : (h.setIfInBounds r x).setIfInBounds r y = h.setIfInBounds r y := by
  apply Array.ext_getElem?
  intro i
  by_cases hi : r = i
  · subst hi
    simp only [Array.getElem?_setIfInBounds_self, Array.size_setIfInBounds]
  · rw [Array.getElem?_setIfInBounds_ne hi, Array.getElem?_setIfInBounds_ne hi, Array.getElem?_setIfInBounds_ne hi]
theorem chg_call {r : Nat} {l : FL} {v : Value} {c : Chg} {K : Hp → Prop} (hv : ChgAt h O v c) (hm : MapIs h r (fmap l)) (hk : ∀ h' ob, h' = h.setIfInBounds r ob → MapIs h' r (fmap (c.on l)) → K h') :
    ∃ (g : FuncId) (fi ca : List Value), v = Value.func (.func g) fi.toArray ca.toArray ∧ callable PROG g = true ∧ CallsH PROG g (fi ++ [Value.map (some r)] ++ ca).toArray h fun v h' => v = Value.tuple #[] ∧ K h' := by
  obtain ⟨es, clk, m1, m2⟩ := hm.raw
  cases c with
  | put k b =>
    obtain ⟨pf, pn, rfl, ⟨h2, _⟩, h4, _⟩ := hv
    refine ⟨F_disk_Disk_Append_1, [], [.pointer (some (blk pf)), .pointer (some (blk pn))], rfl, by kernel_rfl, ?_⟩
    exact S_disk_Disk_Append_1 (n_0 := some r) (q1 := blk pf) (q2 := blk pn) ⟨k, cell_at0 h4 rfl, some (blk b), cell_at0 h2 rfl, r, es, clk, rfl, m1, m2, fun h' e => hk h' _ e (by show MapIs h' r (fmap (putL k b l)); rw [← fmap_put]; exact hm.upd m1 e)⟩
  | del k =>
    obtain ⟨pn, rfl, h4, _⟩ := hv
    refine ⟨F_disk_Disk_Remove_1, [], [.pointer (some (blk pn))], rfl, by kernel_rfl, ?_⟩
    exact S_disk_Disk_Remove_1 (n_0 := some r) (q1 := blk pn) ⟨k, cell_at0 h4 rfl, r, es, clk, rfl, m1, m2, fun h' e => hk h' _ e (by show MapIs h' r (fmap (delL k l)); rw [← fmap_del]; exact hm.del m1 e)⟩
  | ren f k b =>
    obtain ⟨pa, pf, pn, rfl, ⟨h6, _⟩, ⟨h2, _⟩, h4, _⟩ := hv
    refine ⟨F_disk_Disk_Rename_1, [], [.pointer (some (blk pa)), .pointer (some (blk pf)), .pointer (some (blk pn))], rfl, by kernel_rfl, ?_⟩
    refine S_disk_Disk_Rename_1 (n_0 := some r) (q1 := blk pa) (q2 := blk pf) (q3 := blk pn) ⟨f, cell_at0 h6 rfl, r, es, clk, rfl, m1, m2, fun h' e => ?_⟩
    have hm1 : MapIs h' r (fmap (delL f l)) := by rw [← fmap_del]; exact hm.del m1 e
    obtain ⟨es1, clk1, n1, n2⟩ := hm1.raw
    have o1 : ∀ b x, h[b]? = some x → Nat.beq (obTag x) 0 = false → h'[b]? = some x := fun b x hb hx => by
      rw [e, Array.getElem?_setIfInBounds_ne (fun e' => ne_tag hb m1 hx e'.symm)]; exact hb
    exact ⟨k, cell_at0 (o1 _ _ h4 rfl) rfl, some (blk b), cell_at0 (o1 _ _ h2 rfl) rfl, r, es1, clk1, rfl, n1, n2, fun h2' e2 => hk h2' (updS es1 clk1 k (Value.pointer (some (blk b)))) (e2.trans (by rw [e, set_twice])) (by show MapIs h2' r (fmap (putL k b (delL f l))); rw [← fmap_put]; exact hm1.upd n1 e2)⟩

def DS.change (D : DS) (c : Chg) : DS := { D with now := c.on D.now, chg := D.chg ++ [c] }
theorem chg_mem {c : Chg} {l : FL} {k : ByteArray} {b : Nat} (h : (k, b) ∈ c.on l) : (∃ k, (k, b) ∈ l) ∨ c.blk = some b := by
  cases c with
  | put k' b' =>
    rcases mem_putL h with h | h
    · cases h; exact .inr rfl
    · exact .inl ⟨k, h⟩
  | del k' => exact .inl ⟨k, mem_delL h⟩
  | ren f' k' b' =>
    rcases mem_putL h with h | h
    · cases h; exact .inr rfl
    · exact .inl ⟨k, mem_delL h⟩
theorem change_has {c : Chg} {b : Nat} (hb : (D.change c).has b) : D.has b ∨ c.blk = some b := by
  unfold DS.has DS.change at hb
  simp only [List.mem_append, List.mem_singleton] at hb
  rcases hb with ⟨k, hb⟩ | ⟨k, hb⟩ | ⟨c', hb | hb, he⟩
  · exact (chg_mem hb).imp .inl id
  · exact .inl (.inr (.inl ⟨k, hb⟩))
  · exact .inl (.inr (.inr ⟨c', hb, he⟩))
  · exact .inr (hb ▸ he)
theorem ChgAt.leaf {v : Value} {c : Chg} (H : ChgAt h O v c) : leaf v := by
  cases c with
  | put k b => obtain ⟨pf, pn, rfl, _⟩ := H; trivial
  | del k => obtain ⟨pn, rfl, _⟩ := H; trivial
  | ren f k b => obtain ⟨pa, pf, pn, rfl, _⟩ := H; trivial
/-- What a change of names leaves as it was: whatever is no map, no list of changes, no disk. -/
def KeptT (h h' : Hp) : Prop := ∀ (b : Nat) (x : Obj), h[b]? = some x → Nat.beq (obTag x) 0 = false → Nat.beq (obTag x) (T_fn_disk_names + 2) = false → Nat.beq (obTag x) (T_disk_Disk + 2) = false → h'[b]? = some x
theorem disk_change {c : Chg} {v : Value} {K : Hp → Prop} (H : DiskAt h a D O) (hv : ChgAt h O v c) (hp : ∀ b, c.blk = some b → h[b]? = some (fileOb (D.fs b)) ∧ O b) (hn : D.chg.length < 1000000)
    (hk : ∀ h' O', DiskAt h' a (D.change c) O' → Step h O h' O' → KeptT h h' → K h') : C_disk_Disk_change (some (blk a)) v h K := by
  obtain ⟨rn, rl, s, H⟩ := H
  obtain ⟨vs, c1, c2, c3⟩ := H.chg
  have nrn : a ≠ rn := H.mapNe H.now H.cell rfl
  have nrl : a ≠ rl := H.mapNe H.las H.cell rfl
  have sob : ∀ b, s.blk? = some b → ∃ cs, h[b]? = some (.cells cs T_fn_disk_names (0, 0)) := fun b hb => c1.ob hb
  have srn : ∀ b, s.blk? = some b → b ≠ rn := fun b hb => by obtain ⟨cs, hcs⟩ := sob b hb; exact H.mapNe H.now hcs rfl
  have srl : ∀ b, s.blk? = some b → b ≠ rl := fun b hb => by obtain ⟨cs, hcs⟩ := sob b hb; exact H.mapNe H.las hcs rfl
  have sa : ∀ b, s.blk? = some b → b ≠ a := fun b hb => by obtain ⟨cs, hcs⟩ := sob b hb; exact ne_tag hcs H.cell rfl
  refine S_disk_Disk_change ⟨blk a, rfl, some rn, cell_at H.cell rfl, chg_call hv H.now fun h5 ob e5 m5 => ?_⟩
  have o5 : ∀ b x, h[b]? = some x → b ≠ rn → h5[b]? = some x := fun b x hb hne => by
    rw [e5, Array.getElem?_setIfInBounds_ne (Ne.symm hne)]; exact hb
  have z5 : h5.size = h.size := by rw [e5]; simp
  have a5 := o5 a _ H.cell nrn
  refine ⟨s, cell_at a5 rfl, hv.leaf, fun h8 e8 => ?_⟩
  have z8 : h8.size = h.size + 1 := by rw [e8, Array.size_push, z5]
  have c8 : SlOwn h8 s T_fn_disk_names 1 vs := c1.frame fun b hb => by
    obtain ⟨cs, hcs⟩ := sob b hb
    rw [push_old e8 (o5 b _ hcs (srn b hb)), hcs]
  refine apd_own c8 rfl (fun u hu => by rw [List.mem_singleton.1 hu]; exact hv.leaf) rfl (by omega) (by have := c1.1; omega) (by omega) fun s' h11 A => ?_
  have o11 : ∀ b x, h5[b]? = some x → s.blk? ≠ some b → h11[b]? = some x := fun b x hb hne => by
    have := push_old e8 hb
    rw [A.same b (lt_of_some this) hne]; exact this
  have a11 := o11 a _ a5 (fun hb => sa a hb rfl)
  refine ⟨_, cell_at a11 rfl, frz_at a11, fun h13 e13 => ?_⟩
  have a13 := set_at (cs' := #[.int .i64 D.room, .map (some rn), .map (some rl), s'.v, .bool D.dead, .int .i64 D.fuse]) e13 a11 rfl
  have n13 : ∀ b, b ≠ a → h13[b]? = h11[b]? := fun b hb => by rw [e13, blk_add]; exact setH_ne hb
  have z13 : h13.size = h11.size := by rw [e13]; exact setH_size
  have z11 := A.size
  have tr : ∀ b x, h[b]? = some x → b ≠ rn → s.blk? ≠ some b → b ≠ a → h13[b]? = some x := fun b x h1 h2 h3 h4 => by
    rw [n13 b h4]; exact o11 b x (o5 b x h1 h2) h3
  have trt : ∀ b x, h[b]? = some x → Nat.beq (obTag x) 0 = false → Nat.beq (obTag x) (T_fn_disk_names + 2) = false → Nat.beq (obTag x) (T_disk_Disk + 2) = false → h13[b]? = some x := fun b x h1 h2 h3 h4 => by
    refine tr b x h1 (H.mapNe H.now h1 h2) (fun hb => ?_) (ne_tag h1 H.cell h4)
    obtain ⟨cs, hcs⟩ := sob b hb
    exact ne_tag h1 hcs h3 rfl
  have trc : ∀ b x, O b → h[b]? = some x → obTag x = T_pt_disk_file + 2 ∨ obTag x = T_string + 2 → h13[b]? = some x := fun b x _ h1 h2 => by
    refine trt b x h1 ?_ ?_ ?_ <;> (rcases h2 with h2 | h2 <;> (rw [h2]; rfl))
  have s'b : ∀ b, s'.blk? = some b → b = h8.size ∨ s.blk? = some b := fun b hb => by
    rcases A.where_ with h | h
    · exact .inr (h ▸ hb)
    · rw [h] at hb; cases hb; exact .inl rfl
  have s'a : ∀ b, s'.blk? = some b → b ≠ a := fun b hb => by
    rcases s'b b hb with h | h
    · have := lt_of_some H.cell; omega
    · exact sa b h
  have m13 : MapIs h13 rn (fmap (c.on D.now)) := m5.frame (by
    obtain ⟨es, clk, q1, _⟩ := m5
    rw [n13 rn nrn.symm, o11 rn _ q1 (fun hb => srn rn hb rfl), q1])
  have l13 : MapIs h13 rl (fmap D.lasting) := H.las.frame (by
    obtain ⟨es, clk, q1, _⟩ := H.las
    rw [tr rl _ q1 H.ne.symm (fun hb => srl rl hb rfl) nrl.symm, q1])
  refine hk h13 (fun b => O b ∨ (h.size ≤ b ∧ b < h13.size)) ⟨rn, rl, s', a13, m13, l13, H.ne, ⟨vs ++ [v], A.own.frame fun b hb => n13 b (s'a b hb), by simp [DS.change, c2], fun i u x hu hx => ?_⟩, fun b hb => ?_, .inl H.oa, .inl H.on, .inl H.ol, fun b hb => ?_, fun b hb => ?_, H.fuse⟩ ⟨?_, fun b hb => hb.imp id (·.1)⟩ trt
  · rcases Nat.lt_or_ge i vs.length with hi | hi
    · rw [List.getElem?_append_left hi] at hu
      unfold DS.change at hx
      rw [List.getElem?_append_left (by omega)] at hx
      exact (c3 i u x hu hx).frame trc (fun _ => .inl)
    · unfold DS.change at hx
      rw [List.getElem?_append_right hi] at hu
      rw [List.getElem?_append_right (by omega)] at hx
      have hi0 : i - vs.length = 0 := by
        rcases Nat.eq_zero_or_pos (i - vs.length) with h | h
        · exact h
        · rw [List.getElem?_eq_none (by simp only [List.length_singleton]; omega)] at hu; cases hu
      rw [hi0] at hu
      rw [← c2, hi0] at hx
      cases hu
      cases hx
      exact hv.frame trc (fun _ => .inl)
  · have q : h[b]? = some (fileOb (D.fs b)) ∧ O b := by
      rcases change_has hb with h | h
      · exact H.file b h
      · exact hp b h
    exact ⟨trt b _ q.1 rfl rfl rfl, .inl q.2⟩
  · rcases s'b b hb with h | h
    · subst h
      have := A.own.lt hb
      exact .inr ⟨by omega, by omega⟩
    · exact .inl (H.os b h)
  · rcases hb with h | h
    · have := H.lt b h; omega
    · exact h.2
  · refine ⟨by omega, fun b hb hnb => ?_⟩
    rw [n13 b (fun e => hnb (by rw [e]; exact H.oa)), A.same b (by omega) (fun e => hnb (H.os b e)), e8, Array.getElem?_push, if_neg (by omega), e5, Array.getElem?_setIfInBounds_ne (fun e => hnb (by rw [← e]; exact H.on))]

theorem DiskAt.more {O' : Nat → Prop} (H : DiskAt h a D O) (ho : ∀ b, O b → O' b) (hl : ∀ b, O' b → b < h.size) : DiskAt h a D O' := by
  obtain ⟨rn, rl, s, H⟩ := H
  exact ⟨rn, rl, s, H.frame (fun _ _ => rfl) ho hl⟩
/-- A new block that is not the disk's. -/
theorem DiskAt.push {h1 : Hp} {o : Obj} (H : DiskAt h a D O) (e : h1 = h.push o) : DiskAt h1 a D O ∧ Step h O h1 O :=
  ⟨H.frame (fun b hb => by rw [e, Array.getElem?_push, if_neg (by have := H.lt b hb; omega)]) (by rw [e, Array.size_push]; omega), .of ((Ext.refl _ _ _).push (Nat.le_refl _) e)⟩
/-- A block that was made since, taken in. -/
theorem DiskAt.take {h0 : Hp} {O0 : Nat → Prop} {r : Nat} (H : DiskAt h a D O) (s : Step h0 O0 h O) (h1 : h0.size ≤ r) (h2 : r < h.size) : DiskAt h a D (fun b => O b ∨ b = r) ∧ Step h0 O0 h (fun b => O b ∨ b = r) :=
  ⟨H.more (fun _ => .inl) (fun b hb => hb.elim (H.lt b) (fun e => by omega)), s.ext, fun b hb => hb.elim (s.own b) (fun e => .inr (by omega))⟩

def DS.remove (D : DS) (name : ByteArray) : Int × DS :=
  if D.write.1 then match lookL name D.now with
    | none => (12, D.write.2)
    | some _ => (0, D.write.2.change (.del name))
  else (11, D.write.2)
theorem disk_Remove {name : ByteArray} {K : Int → Hp → Prop} (H : DiskAt h a D O) (hn : D.chg.length < 1000000) (hk : ∀ h' O', DiskAt h' a (D.remove name).2 O' → Step h O h' O' → K (D.remove name).1 h') : C_disk_Disk_Remove (some (blk a)) name h K := by
  refine S_disk_Disk_Remove fun h1 e1 => ?_
  obtain ⟨H1, s1⟩ := H.push e1
  have c1 := push_new e1
  refine ⟨name, cell_at0 c1 rfl, disk_find H1 (fun hw h2 H2 s2 => ?_) (fun hw hl h2 H2 s2 => ?_) (fun hw b hl h2 H2 s2 => ?_)⟩
  · rw [if_neg (by decide)]
    unfold DS.remove at hk
    rw [if_neg (by simp [hw])] at hk
    exact hk h2 _ H2 (s1.trans s2)
  · rw [if_neg (by decide)]
    unfold DS.remove at hk
    rw [if_pos (by simp [hw]), hl] at hk
    exact hk h2 _ H2 (s1.trans s2)
  · rw [if_pos (by decide)]
    unfold DS.remove at hk
    rw [if_pos (by simp [hw]), hl] at hk
    have c2 : h2[h.size]? = some (.cells #[.string name] T_string (0, 0)) := s2.keep c1 (fun ho => Nat.lt_irrefl _ (H.lt _ ho))
    obtain ⟨H2', s2'⟩ := H2.take (s1.trans s2) (Nat.le_refl _) (lt_of_some c2)
    refine disk_change (c := .del name) H2' ⟨h.size, rfl, c2, .inr rfl⟩ (fun b e => by cases e) (by rw [write_chg]; exact hn) fun h3 O3 H3 s3 _ => ?_
    exact hk h3 O3 H3 (s2'.trans s3)

def DS.syncNames (D : DS) : Int × DS := if D.write.1 then (0, { D.write.2 with lasting := D.now, chg := [] }) else (11, D.write.2)
theorem clone_map {r : Nat} {l : List (ByteArray × Value)} {K : Option Nat → Hp → Prop} (H : MapIs h r l) (hk : ∀ h', MapIs h' h.size l → (∃ o, h' = h.push o) → K (some h.size) h') : C_maps_Clone_disk_names_string_disk_file (some r) h K := by
  refine S_maps_Clone_disk_names_string_disk_file ?_
  unfold D_maps_Clone_disk_names_string_disk_file
  rw [if_neg (by simp)]
  obtain ⟨es, clk, h1, h2⟩ := id H
  exact ⟨r, es, clk, rfl, h1, fun h' e => hk h' (H.clone h1 e) ⟨_, e⟩⟩
theorem disk_SyncNames {K : Int → Hp → Prop} (H : DiskAt h a D O) (hk : ∀ h' O', DiskAt h' a D.syncNames.2 O' → Step h O h' O' → K D.syncNames.1 h') : C_disk_Disk_SyncNames (some (blk a)) h K := by
  refine S_disk_Disk_SyncNames (disk_write H fun h1 H1 s1 => ?_)
  unfold DS.syncNames at hk
  by_cases hw : D.write.1 = true
  · rw [if_pos hw] at hk
    rw [if_neg (by rw [hw]; decide)]
    obtain ⟨rn, rl, s, H1⟩ := H1
    refine ⟨blk a, rfl, some rn, cell_at H1.cell rfl, clone_map H1.now fun h8 m8 e8 => ?_⟩
    obtain ⟨o8, e8⟩ := e8
    have c8 := push_old e8 H1.cell
    refine ⟨_, cell_at c8 rfl, frz_at c8, fun h10 e10 => ?_⟩
    have c10 := set_at (cs' := #[.int .i64 D.write.2.room, .map (some rn), .map (some h1.size), s.v, .bool D.write.2.dead, .int .i64 D.write.2.fuse]) e10 c8 rfl
    refine ⟨_, cell_at c10 rfl, frz_at c10, fun h15 e15 => ?_⟩
    have c15 := set_at (cs' := #[.int .i64 D.write.2.room, .map (some rn), .map (some h1.size), (Sl.mk none 0 0).v, .bool D.write.2.dead, .int .i64 D.write.2.fuse]) e15 c10 rfl
    have n15 : ∀ b, b ≠ a → h15[b]? = h8[b]? := fun b hb => by
      rw [e15, setH_ne (by rw [blk_add]; exact hb), e10, setH_ne (by rw [blk_add]; exact hb)]
    have z8 : h8.size = h1.size + 1 := by rw [e8, Array.size_push]
    have z15 : h15.size = h8.size := by rw [e15, setH_size, e10, setH_size]
    have la := lt_of_some H1.cell
    have tr : ∀ b, b ≠ a → b < h1.size → h15[b]? = h1[b]? := fun b hb hl => by rw [n15 b hb, e8, Array.getElem?_push, if_neg (by omega)]
    have nrn : rn ≠ a := (H1.mapNe H1.now H1.cell rfl).symm
    refine hk h15 (fun b => O b ∨ b = h1.size) ⟨rn, h1.size, ⟨none, 0, 0⟩, ⟨c15, H1.now.frame (tr rn nrn H1.now.lt), ?_, by have := H1.now.lt; omega, ⟨[], SlOwn.nil, rfl, fun i v c hv _ => by simp at hv⟩, fun b hb => ?_, .inl H1.oa, .inl H1.on, .inr rfl, fun b hb => absurd hb (by simp [Sl.blk?]), fun b hb => ?_, H1.fuse⟩⟩ ⟨?_, fun b hb => ?_⟩
    · refine (m8.frame (n15 _ (by omega))) |> fun m => ?_
      rw [write_now] at m
      exact m
    · have : D.write.2.has b := by
        rw [write_has]
        rcases hb with ⟨k, hb⟩ | ⟨k, hb⟩ | ⟨k, hb, he⟩
        · exact .inl ⟨k, by rw [← write_now]; exact hb⟩
        · exact .inl ⟨k, hb⟩
        · cases hb
      obtain ⟨q1, q2⟩ := H1.file b this
      exact ⟨(tr b (ne_tag q1 H1.cell rfl) (lt_of_some q1)).trans q1, .inl q2⟩
    · rcases hb with hb | hb
      · have := H1.lt b hb; omega
      · omega
    · have := s1.size
      refine ⟨by omega, fun b hb hnb => ?_⟩
      rw [tr b (fun e => hnb (by rw [e]; exact H1.oa)) (by omega)]
      exact s1.ext.same b hb hnb
    · exact hb.imp id (fun e => by have := s1.size; omega)
  · rw [if_neg hw] at hk
    rw [if_pos (by simp [hw])]
    exact hk h1 O H1 s1

def fsSet (fs : Nat → ByteArray × Nat) (b : Nat) (f : ByteArray × Nat) : Nat → ByteArray × Nat := fun x => if x = b then f else fs x
/-- A file's block has turned. -/
theorem DiskB.swapFile {h' : Hp} {rn rl : Nat} {s : Sl} {b : Nat} {f : ByteArray × Nat} (H : DiskB h a rn rl s D O) (hb : D.has b) (hc : h'[b]? = some (fileOb f)) (ho : ∀ x, x ≠ b → h'[x]? = h[x]?) (hs : h'.size = h.size) :
    DiskB h' a rn rl s { D with fs := fsSet D.fs b f } O := by
  obtain ⟨q1, q2⟩ := H.file b hb
  obtain ⟨vs, c1, c2, c3⟩ := H.chg
  refine ⟨(ho a (ne_tag H.cell q1 rfl)).trans H.cell, H.now.frame (ho _ (H.mapNe H.now q1 rfl).symm), H.las.frame (ho _ (H.mapNe H.las q1 rfl).symm), H.ne, ⟨vs, c1.frame fun x hx => ho x ?_, c2, fun i v c hv hc' => (c3 i v c hv hc').frame (fun x y _ hx ht => (ho x ?_).trans hx) (fun _ => id)⟩, fun x hx => ?_, H.oa, H.on, H.ol, H.os, fun x hx => by rw [hs]; exact H.lt x hx, H.fuse⟩
  · obtain ⟨cs, hcs⟩ := c1.ob hx
    exact ne_tag hcs q1 rfl
  · refine ne_tag hx q1 ?_
    rcases ht with ht | ht <;> (rw [ht]; rfl)
  · obtain ⟨p1, p2⟩ := H.file x hx
    refine ⟨?_, p2⟩
    show h'[x]? = some (fileOb (fsSet D.fs b f x))
    unfold fsSet
    by_cases hxb : x = b
    · rw [if_pos hxb, hxb]; exact hc
    · rw [if_neg hxb, ho x hxb]; exact p1

def DS.sync (D : DS) (name : ByteArray) : Int × DS :=
  if D.write.1 then match lookL name D.now with
    | none => (12, D.write.2)
    | some b => (0, { D.write.2 with fs := fsSet D.fs b ((D.fs b).1, (D.fs b).1.size) })
  else (11, D.write.2)
theorem disk_Sync {name : ByteArray} {K : Int → Hp → Prop} (H : DiskAt h a D O) (hk : ∀ h' O', DiskAt h' a (D.sync name).2 O' → Step h O h' O' → K (D.sync name).1 h') : C_disk_Disk_Sync (some (blk a)) name h K := by
  refine S_disk_Disk_Sync (disk_find H (fun hw h2 H2 s2 => ?_) (fun hw hl h2 H2 s2 => ?_) (fun hw b hl h2 H2 s2 => ?_))
  · rw [if_neg (by decide)]
    unfold DS.sync at hk
    rw [if_neg (by simp [hw])] at hk
    exact hk h2 _ H2 s2
  · rw [if_neg (by decide)]
    unfold DS.sync at hk
    rw [if_pos (by simp [hw]), hl] at hk
    exact hk h2 _ H2 s2
  · rw [if_pos (by decide)]
    unfold DS.sync at hk
    rw [if_pos (by simp [hw]), hl] at hk
    obtain ⟨rn, rl, s, H2⟩ := H2
    have hh : D.write.2.has b := write_has.2 (look_has hl)
    obtain ⟨q1, q2⟩ := H2.file b hh
    rw [write_fs] at q1
    refine ⟨blk b, rfl, (D.fs b).1, cell_at q1 rfl, _, cell_at q1 rfl, frz_at q1, fun h3 e3 => ?_⟩
    have c3 := set_at (cs' := #[.string (D.fs b).1, .int .i64 ((D.fs b).1.size : Nat)]) e3 q1 rfl
    have H3 := H2.swapFile (f := ((D.fs b).1, (D.fs b).1.size)) hh c3 (fun x hx => by rw [e3, blk_add]; exact setH_ne hx) (by rw [e3]; exact setH_size)
    rw [write_fs] at H3
    exact hk h3 O ⟨rn, rl, s, H3⟩ (s2.trans (.of ((Ext.refl _ _ _).set e3 (fun _ => by rw [blk_add]; exact q2))))

theorem disk_New {room : Int} {K : Option Addr → Hp → Prop} (hk : ∀ h' a O, DiskAt h' a ⟨room, [], [], [], false, -1, fun _ => (.mk #[], 0)⟩ O → Step h (fun _ => False) h' O → K (some (blk a)) h') : C_disk_New room h K := by
  refine S_disk_New fun h1 e1 h3 e3 h5 e5 => ?_
  have z1 : h1.size = h.size + 1 := by rw [e1, Array.size_push]
  have z3 : h3.size = h1.size + 1 := by rw [e3, Array.size_push]
  have z5 : h5.size = h3.size + 1 := by rw [e5, Array.size_push]
  have m1 : MapIs h1 h.size [] := .new e1
  have m3 : MapIs h3 h1.size [] := .new e3
  have o3 : ∀ b, b < h1.size → h3[b]? = h1[b]? := fun b hb => by rw [e3, Array.getElem?_push, if_neg (by omega)]
  have o5 : ∀ b, b < h3.size → h5[b]? = h3[b]? := fun b hb => by rw [e5, Array.getElem?_push, if_neg (by omega)]
  refine hk h5 h3.size (fun b => h.size ≤ b ∧ b < h5.size) ⟨h.size, h1.size, ⟨none, 0, 0⟩, ⟨push_new e5, m1.frame (by rw [o5 _ (by omega), o3 _ (by omega)]), m3.frame (o5 _ (by omega)), by omega, ⟨[], .nil, rfl, fun i v c hv _ => by simp at hv⟩, fun b hb => ?_, ⟨by omega, by omega⟩, ⟨by omega, by omega⟩, ⟨by omega, by omega⟩, fun b hb => absurd hb (by simp [Sl.blk?]), fun b hb => hb.2, ⟨by show (-1 : Int) ≤ -1; decide, by show (-1 : Int) ≤ _; decide⟩⟩⟩ ⟨⟨by omega, fun b hb _ => ?_⟩, fun b hb => .inr hb.1⟩
  · rcases hb with ⟨k, hb⟩ | ⟨k, hb⟩ | ⟨k, hb, he⟩ <;> cases hb
  · rw [o5 b (by omega), o3 b (by omega), e1, Array.getElem?_push, if_neg (by omega)]
end
end Go.Proofs.YtgdmjdacmebfjaaGreatDoor.D

namespace Go.Proofs.YtgdmjdacmebfjaaGreatDoor.D
open Go

/-- Nothing that was there has turned. -/
abbrev Grow (h h' : Hp) : Prop := Ext h.size (fun _ => False) h h'
theorem Grow.refl (h : Hp) : Grow h h := Ext.refl _ _ _
theorem Grow.trans {h h1 h2 : Hp} (a : Grow h h1) (b : Grow h1 h2) : Grow h h2 := a.call b (Nat.le_refl _) (fun _ _ => id)
theorem Grow.push {h h1 h2 : Hp} {o : Obj} (a : Grow h h1) (e : h2 = h1.push o) : Grow h h2 := Ext.push a (Nat.le_refl _) e
theorem Grow.set {h h1 h2 : Hp} {p : Addr} {v : Value} (a : Grow h h1) (e : h2 = setH h1 p v) (hp : h.size ≤ p.block) : Grow h h2 := Ext.set a e (fun h => absurd h (Nat.not_lt.2 hp))
theorem Grow.at_ {h h1 : Hp} {b : Nat} {o : Obj} (a : Grow h h1) (hb : h[b]? = some o) : h1[b]? = some o := Ext.at_ a hb (lt_of_some hb) id
theorem Grow.puts {h h1 h2 : Hp} {p : Addr} {vs : List Value} {i : Nat} (a : Grow h h1) (e : h2 = putsFrom p h1 i vs) (hp : h.size ≤ p.block) : Grow h h2 :=
  Ext.trans a ⟨by rw [e, putsFrom_size]; exact Nat.le_refl _, fun b hb _ => by rw [e]; exact putsFrom_ne (by omega) _ _ _⟩

theorem wrap64 {x : Int} (h1 : -9223372036854775808 ≤ x) (h2 : x ≤ 9223372036854775807) : IntKind.i64.wrap x = x := by
  simp [IntKind.wrap, IntKind.bits, IntKind.signed]
  omega
theorem wrapU64 {x : Int} (h1 : 0 ≤ x) (h2 : x < 18446744073709551616) : IntKind.u64.wrap x = x := by
  simp [IntKind.wrap, IntKind.bits, IntKind.signed]
  omega
theorem wrapU32 {x : Int} (h1 : 0 ≤ x) (h2 : x < 4294967296) : IntKind.u32.wrap x = x := by
  simp [IntKind.wrap, IntKind.bits, IntKind.signed]
  omega
theorem wrapU8 {x : Int} (h1 : 0 ≤ x) (h2 : x < 256) : IntKind.u8.wrap x = x := by
  simp [IntKind.wrap, IntKind.bits, IntKind.signed]
  omega
theorem wrapU8_nat (n : Nat) : IntKind.u8.wrap (n : Int) = ((n % 256 : Nat) : Int) := by
  simp [IntKind.wrap, IntKind.bits, IntKind.signed]

def byteV (x : UInt8) : Value := .int .u8 (x.toNat : Int)
theorem byteV_ofNat (n : Nat) : byteV (UInt8.ofNat n) = .int .u8 ((n % 256 : Nat) : Int) := by
  unfold byteV
  rw [UInt8.toNat_ofNat']
theorem cells_of {h : Hp} {b o : Nat} {cs : Array Value} {t : TypeId} {fz : Nat × Nat} (hb : h[b]? = some (.cells cs t fz)) : ∀ (vs : List Value) (i : Nat), (∀ k v, vs[k]? = some v → cs[o + (i + k)]? = some v) → cellsFrom h ⟨b, o, none⟩ i vs
  | [], _, _ => trivial
  | u :: us, i, hh => ⟨cell_in hb (hh 0 u rfl), cells_of hb us (i + 1) fun k v hk => by
      have := hh (k + 1) v (by simpa using hk)
      rw [show i + 1 + k = i + (k + 1) by omega]
      exact this⟩
/-- The bytes of a block, as a string. -/
theorem bytesAt_cells {h : Hp} {b o n : Nat} {cs : Array Value} {t : TypeId} {fz : Nat × Nat} {l : List UInt8} (hb : h[b]? = some (.cells cs t fz)) (hl : ∀ k x, l[k]? = some x → cs[o + k]? = some (byteV x)) (hn : l.length = n) {c : Nat} : bytesAt h ⟨some ⟨b, o, none⟩, n, c⟩ ⟨l.toArray⟩ := by
  refine ⟨(by rw [← hn]; rfl), (fun h0 => by cases h0), (fun q hq => ?_)⟩
  cases hq
  refine cells_of hb _ 0 fun k v hk => ?_
  rw [Nat.zero_add]
  simp only [u8s, List.getElem?_map, Option.map_eq_some_iff] at hk
  obtain ⟨x, h1, h2⟩ := hk
  rw [← h2]
  exact hl k x (by simpa using h1)

/-! ### A number's bytes -/
def be : Nat → Nat → List UInt8
  | 0, _ => []
  | k + 1, n => UInt8.ofNat (n / 256 ^ k) :: be k n
def cntF : Nat → Nat → Nat
  | 0, _ => 0
  | f + 1, n => if n = 0 then 0 else 1 + cntF f (n / 256)
def cnt (n : Nat) : Nat := cntF 8 n
def numL (n : Nat) : List UInt8 := UInt8.ofNat (cnt n) :: be (cnt n) n
def numB (n : Nat) : ByteArray := ⟨(numL n).toArray⟩
theorem be_len : ∀ (k n : Nat), (be k n).length = k
  | 0, _ => rfl
  | k + 1, n => by simp [be, be_len k n]
theorem cntF_le : ∀ (f n : Nat), cntF f n ≤ f
  | 0, _ => Nat.le_refl _
  | f + 1, n => by
    have := cntF_le f (n / 256)
    unfold cntF
    split <;> omega
theorem set_rep {α : Type} (m : Nat) (z x : α) (l : List α) : (List.replicate (m + 1) z ++ l).set m x = List.replicate m z ++ x :: l := by
  induction m with
  | zero => rfl
  | succ m ih =>
    rw [List.replicate_succ, List.cons_append, List.set_cons_succ, ih]
    rfl
theorem fdiv_nat (a b : Nat) : Int.fdiv (a : Int) (b : Int) = ((a / b : Nat) : Int) := by
  rw [Int.fdiv_eq_ediv_of_nonneg _ (Int.natCast_nonneg b)]
  rfl

theorem digits_Num {n : Nat} {h : Hp} {K : ByteArray → Hp → Prop} (hn : n < 18446744073709551616) (hk : ∀ h', Grow h h' → K (numB n) h') : C_digits_Num (n : Int) h K := by
  refine S_digits_Num fun h1 e1 => ⟨fun n3 i4 g => ∃ j, j ≤ 8 ∧ i4 = ((9 - j : Nat) : Int) ∧ n3 = ((n / 256 ^ j : Nat) : Int) ∧ cnt n = j + cntF (8 - j) (n / 256 ^ j) ∧ Grow h g ∧ g[h.size]? = some (.cells (List.replicate (9 - j) (Value.int .u8 0) ++ (be j n).map byteV).toArray T_ar9_9_uint8 (0, 0)),
    fun _ i4 _ => i4.toNat, ⟨0, by omega, by simp, by simp, by simp [cnt], (Grow.refl h).push e1, push_new e1⟩, ?_⟩
  rintro n3 i4 g ⟨j, hj, rfl, rfl, hc, hg, hb⟩
  have hw : IntKind.i64.wrap (((9 - j : Nat) : Int) - 1) = ((8 - j : Nat) : Int) := by rw [wrap64] <;> omega
  have hget : (List.replicate (9 - j) (Value.int .u8 0) ++ (be j n).map byteV).toArray[8 - j]? = some (.int .u8 0) := by
    rw [List.getElem?_toArray, List.getElem?_append_left (by rw [List.length_replicate]; omega), List.getElem?_replicate, if_pos (by omega)]
  have hset : ∀ x, (List.replicate (9 - j) (Value.int .u8 0) ++ (be j n).map byteV).toArray.setIfInBounds (8 - j) x = (List.replicate (8 - j) (Value.int .u8 0) ++ x :: (be j n).map byteV).toArray := fun x => by
    rw [List.setIfInBounds_toArray, show 9 - j = (8 - j) + 1 by omega, set_rep]
  unfold D_digits_Num_l1
  rw [hw]
  by_cases h0 : n / 256 ^ j = 0
  · rw [if_neg (by simp [h0])]
    have hcj : cnt n = j := by
      rw [hc, h0]
      cases 8 - j <;> simp [cntF]
    refine ⟨by omega, by omega, _, cell_at (i := (8 - j) * 1) hb (by rw [Nat.mul_one]; exact hget), frz_at hb, fun g2 e2 => ?_⟩
    have hb2 := set_at (i := (8 - j) * 1) e2 hb rfl
    rw [Nat.mul_one, hset] at hb2
    refine ⟨8 - j, rfl, by omega, by omega, numB n, ?_, hk g2 (hg.set e2 (by rw [blk_add]; exact Nat.le_refl _))⟩
    have hv : IntKind.u8.wrap (IntKind.i64.wrap (8 - ((8 - j : Nat) : Int))) = ((j % 256 : Nat) : Int) := by
      rw [show (8 : Int) - ((8 - j : Nat) : Int) = (j : Int) by omega, wrap64 (by omega) (by omega), wrapU8_nat]
    rw [hv] at hb2
    have hs : slArr (blk h.size) 9 (8 - j) 9 1 = ⟨some ⟨h.size, 8 - j, none⟩, j + 1, 9 - (8 - j)⟩ := by
      unfold slArr
      rw [if_neg (by omega), blk_add, Nat.mul_one, show 9 - (8 - j) = j + 1 by omega]
    rw [hs]
    refine bytesAt_cells hb2 (fun k x hx => ?_) (by simp [numL, be_len, hcj])
    rw [List.getElem?_toArray, List.getElem?_append_right (by rw [List.length_replicate]; omega), List.length_replicate, show 8 - j + k - (8 - j) = k by omega]
    unfold numL at hx
    rw [hcj] at hx
    cases k with
    | zero => cases hx; rw [byteV_ofNat]; rfl
    | succ k =>
      rw [List.getElem?_cons_succ] at hx ⊢
      rw [List.getElem?_map, hx]
      rfl
  · have hj8 : j ≠ 8 := by
      rintro rfl
      exact h0 (Nat.div_eq_of_lt (by omega))
    rw [if_pos (decide_eq_true (Int.natCast_pos.2 (Nat.pos_of_ne_zero h0)))]
    refine ⟨by omega, by omega, _, cell_at (i := (8 - j) * 1) hb (by rw [Nat.mul_one]; exact hget), frz_at hb, fun g2 e2 => ?_⟩
    have hb2 := set_at (i := (8 - j) * 1) e2 hb rfl
    rw [Nat.mul_one, hset] at hb2
    have hd : n / 256 ^ (j + 1) = n / 256 ^ j / 256 := by rw [Nat.pow_succ, Nat.div_div_eq_div_mul]
    refine ⟨⟨j + 1, by omega, by rw [show 9 - (j + 1) = 8 - j by omega], ?_, ?_, hg.set e2 (by rw [blk_add]; exact Nat.le_refl _), ?_⟩, by show ((8 - j : Nat) : Int).toNat < ((9 - j : Nat) : Int).toNat; simp only [Int.toNat_natCast]; omega⟩
    · rw [hd]; exact fdiv_nat _ 256
    · rw [hc, hd, show 8 - j = (8 - (j + 1)) + 1 by omega]
      simp only [cntF]
      rw [if_neg h0]
      omega
    · rw [hb2, show 9 - (j + 1) = 8 - j by omega]
      simp only [be, List.map_cons, byteV_ofNat, wrapU8_nat]

/-! ### Strings -/
theorem str_eq {a b : ByteArray} : (a.toList == b.toList) = true ↔ a = b := by
  rw [ByteArray.toList_eq, ByteArray.toList_eq, beq_iff_eq]
  constructor
  · intro h
    have : a.data = b.data := Array.toList_inj.1 h
    cases a; cases b; cases this; rfl
  · rintro rfl; rfl
theorem str_nil {a : ByteArray} : (a.toList == (ByteArray.mk #[]).toList) = true ↔ a.data.toList = [] := by
  rw [str_eq]
  constructor
  · rintro rfl; rfl
  · intro h
    have : a.data = #[] := Array.toList_inj.1 h
    cases a; cases this; rfl
theorem size_len (a : ByteArray) : a.size = a.data.toList.length := rfl
theorem extract_list (a : ByteArray) (i j : Nat) : (a.extract i j).data.toList = (a.data.toList.drop i).take (j - i) := by
  rw [ByteArray.data_extract, Array.toList_extract, List.extract_eq_take_drop]
theorem extract_end (a : ByteArray) (i : Nat) : (a.extract i a.size).data.toList = a.data.toList.drop i := by
  rw [extract_list, size_len, List.take_of_length_le (by rw [List.length_drop]; exact Nat.le_refl _)]
theorem extract_front (a : ByteArray) (n : Nat) : (a.extract 0 n).data.toList = a.data.toList.take n := by
  rw [extract_list]; simp
theorem append_list (a b : ByteArray) : (a ++ b).data.toList = a.data.toList ++ b.data.toList := by
  rw [ByteArray.data_append, Array.toList_append]
theorem str_ext {a b : ByteArray} (h : a.data.toList = b.data.toList) : a = b := by
  have : a.data = b.data := Array.toList_inj.1 h
  cases a; cases b; cases this; rfl
theorem bt_get {a : ByteArray} {i : Nat} {x : UInt8} (h : a.data.toList[i]? = some x) : bt a (i : Int) = (x.toNat : Int) := by
  unfold bt
  rw [Int.toNat_natCast, ← Array.getElem?_toList, h]
  rfl

def beVal (l : List UInt8) : Nat := l.foldl (fun n c => n * 256 + c.toNat) 0
theorem beVal_snoc (l : List UInt8) (c : UInt8) : beVal (l ++ [c]) = beVal l * 256 + c.toNat := by
  unfold beVal
  rw [List.foldl_append]
  rfl
theorem beVal_lt (l : List UInt8) : beVal l < 256 ^ l.length := by
  suffices h : ∀ l : List UInt8, beVal l.reverse < 256 ^ l.length by
    have := h l.reverse
    rwa [List.reverse_reverse, List.length_reverse] at this
  intro l
  induction l with
  | nil => decide
  | cons c l ih =>
    rw [List.reverse_cons, beVal_snoc, List.length_cons, Nat.pow_succ]
    have := c.toNat_lt
    omega
theorem or_add {a b : Nat} (ha : a < 72057594037927936) (hb : b < 256) : bitsI .or .u64 (IntKind.u64.wrap ((a : Int) * 2 ^ (min (Int.toNat 8) 64))) (IntKind.u64.wrap (b : Int)) = ((a * 256 + b : Nat) : Int) := by
  have e1 : ((a : Int) * 2 ^ (min (Int.toNat 8) 64)) = ((a * 256 : Nat) : Int) := by
    show (a : Int) * 2 ^ 8 = _
    omega
  rw [e1, wrapU64 (by omega) (by omega), wrapU64 (by omega) (by omega)]
  show IntKind.u64.wrap ((BitVec.ofInt 64 ((a * 256 : Nat) : Int) ||| BitVec.ofInt 64 (b : Int)).toNat : Int) = _
  rw [BitVec.toNat_or, BitVec.toNat_ofInt, BitVec.toNat_ofInt]
  have e2 : (((a * 256 : Nat) : Int) % ((2 ^ 64 : Nat) : Int)).toNat = 2 ^ 8 * a := by
    rw [show ((2 ^ 64 : Nat) : Int) = 18446744073709551616 from rfl]; omega
  have e3 : (((b : Nat) : Int) % ((2 ^ 64 : Nat) : Int)).toNat = b := by
    rw [show ((2 ^ 64 : Nat) : Int) = 18446744073709551616 from rfl]; omega
  rw [e2, e3, ← Nat.two_pow_add_eq_or_of_lt (by omega)]
  rw [wrapU64 (by omega) (by omega)]
  omega

def getNumL : List UInt8 → Int × Int × Int
  | [] => (0, 0, 1)
  | c :: r => if 8 < c.toNat then (0, 0, 2) else if r.length < c.toNat then (0, 0, 1) else if 0 < c.toNat ∧ r.head? = some 0 then (0, 0, 3) else ((beVal (r.take c.toNat) : Nat), 1 + (c.toNat : Int), 0)
def getNum (s : ByteArray) : Int × Int × Int := getNumL s.data.toList
theorem digits_GetNum {s : ByteArray} {h : Hp} {K : Int → Int → Int → Hp → Prop} (hk : ∀ h', Grow h h' → K (getNum s).1 (getNum s).2.1 (getNum s).2.2 h') : C_digits_GetNum s h K := by
  refine S_digits_GetNum ?_
  unfold D_digits_GetNum
  unfold getNum at hk
  cases hl : s.data.toList with
  | nil =>
    rw [if_pos (str_nil.2 hl)]
    rw [hl] at hk
    exact hk h (Grow.refl h)
  | cons c r =>
    rw [hl] at hk
    simp only [getNumL] at hk
    rw [if_neg (by rw [str_nil, hl]; simp)]
    have hsz : s.size = r.length + 1 := by rw [size_len, hl]; rfl
    have hbt : bt s 0 = (c.toNat : Int) := bt_get (i := 0) (by rw [hl]; rfl)
    have hr : (s.extract 1 s.size).data.toList = r := by rw [extract_end, hl]; rfl
    have hrs : (s.extract 1 s.size).size = r.length := by rw [size_len, hr]
    have hc := c.toNat_lt
    rw [hbt, wrap64 (by omega) (by omega), hrs]
    refine ⟨by omega, by omega, by omega, Nat.le_refl _, ?_⟩
    by_cases h8 : 8 < c.toNat
    · rw [if_pos h8] at hk
      rw [if_pos (decide_eq_true (by omega))]
      exact hk h (Grow.refl h)
    · rw [if_neg h8] at hk
      rw [if_neg (by rw [decide_eq_true_iff]; omega)]
      by_cases hlt : r.length < c.toNat
      · rw [if_pos hlt] at hk
        rw [if_pos (decide_eq_true (by omega))]
        exact hk h (Grow.refl h)
      · rw [if_neg hlt] at hk
        rw [if_neg (by rw [decide_eq_true_iff]; omega)]
        have main : ∀ (b : Bool), (b = true ↔ 0 < c.toNat ∧ r.head? = some 0) → D_digits_GetNum_j2 s K b h := by
          intro b hb
          unfold D_digits_GetNum_j2
          by_cases h3 : 0 < c.toNat ∧ r.head? = some 0
          · rw [if_pos h3] at hk
            rw [if_pos (hb.2 h3)]
            exact hk h (Grow.refl h)
          · rw [if_neg h3] at hk
            rw [if_neg (fun e => h3 (hb.1 e))]
            have hx : ((s.extract 1 s.size).extract 0 c.toNat).data.toList = r.take c.toNat := by rw [extract_front, hr]
            have hxs : ((s.extract 1 s.size).extract 0 c.toNat).size = c.toNat := by rw [size_len, hx, List.length_take]; omega
            refine ⟨c.toNat, by rw [hbt, wrap64 (by omega) (by omega)], by omega, by omega, fun cc g hcc eg => ?_⟩
            rw [hxs] at hcc eg
            refine ⟨fun n x g' => ∃ j, j ≤ c.toNat ∧ x = (j : Int) ∧ n = ((beVal ((r.take c.toNat).take j) : Nat) : Int) ∧ Grow h g' ∧ g'[h.size]? = g[h.size]?, fun _ x _ => c.toNat - x.toNat, ⟨0, by omega, rfl, by simp [beVal], (Grow.refl h).push eg, rfl⟩, ?_⟩
            rintro n x g' ⟨j, hj, rfl, rfl, hg, hb'⟩
            unfold D_digits_GetNum_l1
            rw [hxs]
            by_cases hjc : j < c.toNat
            · rw [if_pos (decide_eq_true (by show (j : Int) < (c.toNat : Int); omega))]
              have hjl : j < (r.take c.toNat).length := by rw [List.length_take]; omega
              have hcell : g'[h.size]? = some (.cells ((u8s ((s.extract 1 s.size).extract 0 c.toNat)).toArray ++ Array.replicate (cc - c.toNat) (.int .u8 0)) T_uint8 (cc, cc + 1)) := hb'.trans (push_new eg)
              have hu : (u8s ((s.extract 1 s.size).extract 0 c.toNat))[j]? = some (.int .u8 (((r.take c.toNat)[j]).toNat : Int)) := by
                unfold u8s
                rw [hx, List.getElem?_map, List.getElem?_eq_getElem hjl]
                rfl
              refine ⟨blk h.size, rfl, by omega, by show (j : Int) < (c.toNat : Int); omega, (((r.take c.toNat)[j]).toNat : Int), cell_at (i := j * 1) hcell ?_, ?_⟩
              · rw [Nat.mul_one, Array.getElem?_append_left (by unfold u8s; rw [List.size_toArray, List.length_map, hx]; exact hjl), List.getElem?_toArray]
                exact hu
              · have hlt := beVal_lt ((r.take c.toNat).take j)
                rw [List.length_take, Nat.min_eq_left (Nat.le_of_lt hjl)] at hlt
                have h7 : (256 : Nat) ^ j ≤ 256 ^ 7 := Nat.pow_le_pow_right (by decide) (by omega)
                refine ⟨⟨j + 1, by omega, by rw [wrap64] <;> omega, ?_, hg, hb'⟩, ?_⟩
                · rw [or_add (Nat.lt_of_lt_of_le hlt (by simpa using h7)) (UInt8.toNat_lt _), List.take_add_one, List.getElem?_eq_getElem hjl, Option.toList_some, beVal_snoc]
                · rw [wrap64 (by omega) (by omega)]
                  show c.toNat - ((j : Int) + 1).toNat < c.toNat - ((j : Int)).toNat
                  omega
            · rw [if_neg (by rw [decide_eq_true_iff]; show ¬ (j : Int) < (c.toNat : Int); omega)]
              rw [List.take_of_length_le (by rw [List.length_take]; omega), hbt, wrap64 (x := (c.toNat : Int)) (by omega) (by omega), wrap64 (by omega) (by omega)]
              exact hk g' hg
        by_cases h0 : 0 < c.toNat
        · rw [if_pos (decide_eq_true (by omega))]
          cases r with
          | nil => simp at hlt; omega
          | cons d r' =>
            refine ⟨by omega, by simp only [List.length_cons]; omega, main _ ?_⟩
            rw [show (0 : Int) = ((0 : Nat) : Int) from rfl, bt_get (i := 0) (x := d) (by rw [hr]; rfl)]
            constructor
            · intro e
              refine ⟨h0, ?_⟩
              have : d.toNat = 0 := by simpa using e
              have : d = 0 := UInt8.toNat_inj.1 this
              rw [this]; rfl
            · rintro ⟨_, e⟩
              cases e
              rfl
        · rw [if_neg (by rw [decide_eq_true_iff]; omega)]
          exact main false (by simp [h0])

theorem digits_Text {s : ByteArray} {h : Hp} {K : ByteArray → Hp → Prop} (hs : s.size < 4611686018427387904) (hk : ∀ h', Grow h h' → K (numB s.size ++ s) h') : C_digits_Text s h K := by
  refine S_digits_Text ?_
  unfold D_digits_Text
  rw [wrapU64 (by omega) (by omega)]
  refine digits_Num (by omega) fun h1 g1 => ⟨?_, hk h1 g1⟩
  have : (numB s.size).size ≤ 9 := by
    rw [size_len]
    show (numL s.size).length ≤ 9
    simp only [numL, List.length_cons, be_len]
    have := cntF_le 8 s.size
    unfold cnt
    omega
  omega

def nilB : ByteArray := .mk #[]
theorem getNum_ok {s : ByteArray} (h : (getNum s).2.2 = 0) : ∃ n k : Nat, getNum s = ((n : Int), (k : Int), 0) ∧ 1 ≤ k ∧ k ≤ s.size ∧ n < 18446744073709551616 ∧ k ≤ 9 := by
  unfold getNum at h ⊢
  cases hl : s.data.toList with
  | nil => rw [hl] at h; cases h
  | cons c r =>
    rw [hl] at h
    simp only [getNumL] at h ⊢
    by_cases h8 : 8 < c.toNat
    · rw [if_pos h8] at h; cases h
    · rw [if_neg h8] at h ⊢
      by_cases hlt : r.length < c.toNat
      · rw [if_pos hlt] at h; cases h
      · rw [if_neg hlt] at h ⊢
        by_cases h3 : 0 < c.toNat ∧ r.head? = some 0
        · rw [if_pos h3] at h; cases h
        · rw [if_neg h3]
          refine ⟨beVal (r.take c.toNat), 1 + c.toNat, by rw [Int.natCast_add]; rfl, by omega, by rw [size_len, hl, List.length_cons]; omega, ?_, by omega⟩
          refine Nat.lt_of_lt_of_le (beVal_lt _) ?_
          rw [List.length_take]
          exact Nat.le_trans (Nat.pow_le_pow_right (by decide) (show min c.toNat r.length ≤ 8 by omega)) (by decide)
def getText (s : ByteArray) (most : Nat) : ByteArray × Int × Int :=
  if (getNum s).2.2 ≠ 0 then (nilB, 0, (getNum s).2.2)
  else if (most : Int) < (getNum s).1 then (nilB, 0, 8)
  else if (s.size : Int) - (getNum s).2.1 < (getNum s).1 then (nilB, 0, 1)
  else (s.extract (getNum s).2.1.toNat ((getNum s).2.1 + (getNum s).1).toNat, (getNum s).2.1 + (getNum s).1, 0)
theorem digits_GetText {s : ByteArray} {most : Nat} {h : Hp} {K : ByteArray → Int → Int → Hp → Prop} (hm : most < 4611686018427387904) (hs : s.size < 4611686018427387904)
    (hk : ∀ h', Grow h h' → K (getText s most).1 (getText s most).2.1 (getText s most).2.2 h') : C_digits_GetText s (most : Int) h K := by
  refine S_digits_GetText (digits_GetNum fun h1 g1 => ?_)
  have hk := hk h1 g1
  unfold getText at hk
  by_cases he : (getNum s).2.2 = 0
  · rw [if_neg (by simp [he])] at hk
    rw [if_neg (by simp [he])]
    obtain ⟨n, k, e, k1, k2, k3, k9⟩ := getNum_ok he
    rw [e] at hk ⊢
    simp only [] at hk ⊢
    rw [if_neg (by rw [decide_eq_true_iff]; omega)]
    unfold D_digits_GetText_j1
    rw [wrapU64 (x := (most : Int)) (by omega) (by omega)]
    by_cases h1 : (most : Int) < n
    · rw [if_pos h1] at hk
      rw [if_pos (decide_eq_true (by omega))]
      exact hk
    · rw [if_neg h1] at hk
      rw [if_neg (by rw [decide_eq_true_iff]; omega)]
      rw [wrap64 (x := (s.size : Int) - k) (by omega) (by omega), wrapU64 (x := (s.size : Int) - k) (by omega) (by omega)]
      by_cases h2 : (s.size : Int) - k < n
      · rw [if_pos h2] at hk
        rw [if_pos (decide_eq_true (by omega))]
        exact hk
      · rw [if_neg h2] at hk
        rw [if_neg (by rw [decide_eq_true_iff]; omega)]
        rw [wrap64 (x := (n : Int)) (by omega) (by omega), wrap64 (x := (k : Int) + n) (by omega) (by omega)]
        refine ⟨k, rfl, k + n, by omega, by omega, by omega, ?_⟩
        rw [show ((k : Int) + n).toNat = k + n by omega, Int.toNat_natCast] at hk
        exact hk
  · rw [if_pos he] at hk
    rw [if_pos (by simp [he])]
    exact hk

/-! ### Sums -/
theorem and1 (c : Int) : bitsI .and .u32 c 1 = (((BitVec.ofInt 32 c).toNat % 2 : Nat) : Int) := by
  show IntKind.u32.wrap ((BitVec.ofInt 32 c &&& BitVec.ofInt 32 1).toNat : Int) = _
  rw [BitVec.toNat_and, show (BitVec.ofInt 32 1).toNat = 1 from by decide, Nat.and_one_is_mod, wrapU32] <;> omega
theorem xor_range (x y : Int) : 0 ≤ bitsI .xor .u32 x y ∧ bitsI .xor .u32 x y < 4294967296 := by
  show 0 ≤ IntKind.u32.wrap ((BitVec.ofInt 32 x ^^^ BitVec.ofInt 32 y).toNat : Int) ∧ IntKind.u32.wrap ((BitVec.ofInt 32 x ^^^ BitVec.ofInt 32 y).toNat : Int) < _
  have := (BitVec.ofInt 32 x ^^^ BitVec.ofInt 32 y).isLt
  rw [wrapU32] <;> omega
def stepI (c : Int) : Int := bitsI .xor .u32 (Int.fdiv c (2 ^ (min (Int.toNat 1) 32))) (if bitsI .and .u32 c 1 = 0 then 0 else 2197175160)
def iterS : Nat → Int → Int
  | 0, c => c
  | k + 1, c => iterS k (stepI c)
def moreL : List UInt8 → Int → Int
  | [], c => c
  | x :: l, c => moreL l (iterS 8 (bitsI .xor .u32 c (IntKind.u32.wrap (x.toNat : Int))))
def sumI (s : ByteArray) : Int := bitsI .xor .u32 (IntKind.u32.max) (moreL s.data.toList (bitsI .xor .u32 (IntKind.u32.max) 0))
def masksOb : Obj := .cells #[.int .u32 0, .int .u32 2197175160] T_sum_masks (0, 0)
theorem sum_step {b : Nat} {c : Int} {h : Hp} {K : Int → Hp → Prop} (hb : h[b]? = some masksOb) (hk : K (stepI c) h) : C_sum_masks_step (some (blk b)) c h K := by
  refine S_sum_masks_step ⟨blk b, rfl, ?_⟩
  unfold stepI at hk
  have hm : (BitVec.ofInt 32 c).toNat % 2 < 2 := Nat.mod_lt _ (by decide)
  rw [and1] at hk ⊢
  refine ⟨by omega, by omega, _, cell_at (v := .int .u32 (if (((BitVec.ofInt 32 c).toNat % 2 : Nat) : Int) = 0 then 0 else 2197175160)) hb ?_, hk⟩
  rcases Nat.mod_two_eq_zero_or_one (BitVec.ofInt 32 c).toNat with e | e <;> rw [e] <;> rfl
theorem sum_Of {s : ByteArray} {h : Hp} {K : Int → Hp → Prop} (hs : s.size < 4611686018427387904) (hk : ∀ h', Grow h h' → K (sumI s) h') : C_sum_Of s h K := by
  refine S_sum_Of (S_sum_More fun h1 e1 => ?_)
  have hb1 := push_new e1
  obtain ⟨p1, cs, p2, p3, _, p5, _⟩ := puts_in (b := h.size) (o := 0) [Value.int .u32 0, Value.int .u32 2197175160] h1 0 _ hb1 (by simp) (by intro v hv; simp at hv; rcases hv with rfl | rfl <;> trivial)
  refine ⟨p1, fun h3 e3 => ?_⟩
  have hb3 : h3[h.size]? = some masksOb := by
    rw [e3]
    refine p2.trans ?_
    have : cs = #[.int .u32 0, .int .u32 2197175160] := by
      apply Array.ext_getElem?
      intro i
      rcases Nat.lt_or_ge i 2 with hi | hi
      · have := p5 i hi
        simp only [Nat.zero_add] at this
        rw [this]
        match i, hi with
        | 0, _ => rfl
        | 1, _ => rfl
      · rw [Array.getElem?_eq_none (by rw [p3]; exact hi), Array.getElem?_eq_none hi]
    rw [this]; rfl
  have g3 : Grow h h3 := ((Grow.refl h).push e1).puts e3 (Nat.le_refl _)
  refine ⟨fun c x g => ∃ j, j ≤ s.size ∧ x = (j : Int) ∧ moreL (s.data.toList.drop j) c = moreL s.data.toList (bitsI .xor .u32 (IntKind.u32.max) 0) ∧ g = h3, fun _ x _ => s.size - x.toNat, ⟨0, by omega, rfl, rfl, rfl⟩, ?_⟩
  rintro c x g ⟨j, hj, rfl, hc, rfl⟩
  unfold D_sum_More_l2
  by_cases hjs : j < s.size
  · rw [if_pos (decide_eq_true (by omega))]
    have hjl : j < s.data.toList.length := by rw [← size_len]; exact hjs
    refine ⟨by omega, by omega, fun c' y g' => ∃ i : Nat, i ≤ 8 ∧ y = (i : Int) ∧ iterS (8 - i) c' = iterS 8 (bitsI .xor .u32 c (IntKind.u32.wrap (bt s j))) ∧ g' = g, fun _ y _ => 8 - y.toNat, ⟨0, by omega, rfl, rfl, rfl⟩, ?_⟩
    rintro c' y g' ⟨i, hi, rfl, hc', rfl⟩
    unfold D_sum_More_l1
    by_cases hi8 : i < 8
    · rw [if_pos (decide_eq_true (by omega))]
      refine sum_step hb3 ⟨⟨i + 1, by omega, by rw [wrap64] <;> omega, ?_, rfl⟩, ?_⟩
      · rw [← hc', show 8 - i = (8 - (i + 1)) + 1 by omega]; rfl
      · rw [wrap64 (by omega) (by omega)]
        show 8 - ((i : Int) + 1).toNat < 8 - (i : Int).toNat
        omega
    · rw [if_neg (by rw [decide_eq_true_iff]; omega)]
      have : i = 8 := by omega
      subst this
      refine ⟨⟨j + 1, by omega, by rw [wrap64] <;> omega, ?_, rfl⟩, ?_⟩
      · rw [← hc, List.drop_eq_getElem_cons hjl]
        simp only [moreL]
        rw [bt_get (List.getElem?_eq_getElem hjl)] at hc'
        rw [← hc']
        rfl
      · rw [wrap64 (by omega) (by omega)]
        show s.size - ((j : Int) + 1).toNat < s.size - (j : Int).toNat
        omega
  · rw [if_neg (by rw [decide_eq_true_iff]; omega)]
    rw [List.drop_of_length_le (by rw [← size_len]; omega)] at hc
    have := hk g g3
    unfold sumI at this
    rw [← hc] at this
    exact this

def sumB (c : Int) : ByteArray := .mk #[UInt8.ofNat (c.fdiv (2 ^ (min (Int.toNat 24) 32)) % 256).toNat, UInt8.ofNat (c.fdiv (2 ^ (min (Int.toNat 16) 32)) % 256).toNat, UInt8.ofNat (c.fdiv (2 ^ (min (Int.toNat 8) 32)) % 256).toNat, UInt8.ofNat (c % 256).toNat]
theorem u8_byte (x : Int) : Value.int .u8 (IntKind.u8.wrap x) = byteV (UInt8.ofNat (x % 256).toNat) := by
  rw [byteV_ofNat]
  congr 1
  simp [IntKind.wrap, IntKind.bits, IntKind.signed]
  omega
theorem sum_Bytes {c : Int} {h : Hp} {K : ByteArray → Hp → Prop} (hk : ∀ h', Grow h h' → K (sumB c) h') : C_sum_Bytes c h K := by
  refine S_sum_Bytes fun h1 e1 => ⟨sumB c, ?_, hk h1 ((Grow.refl h).push e1)⟩
  refine bytesAt_cells (o := 0) (l := (sumB c).data.toList) (push_new e1) (fun k x hx => ?_) rfl
  rw [Nat.zero_add]
  match k with
  | 0 => cases hx; exact congrArg some (u8_byte _)
  | 1 => cases hx; exact congrArg some (u8_byte _)
  | 2 => cases hx; exact congrArg some (u8_byte _)
  | 3 => cases hx; exact congrArg some (u8_byte _)
  | k + 4 => cases hx

/-! ### Frames -/
def frameBody (k : Nat) (d : ByteArray) : ByteArray := .mk #[UInt8.ofNat k] ++ (numB d.size ++ d)
def frameB (k : Nat) (d : ByteArray) : ByteArray := frameBody k d ++ sumB (sumI (frameBody k d))
theorem numB_size (n : Nat) : (numB n).size = cnt n + 1 := by
  rw [size_len]
  show (numL n).length = _
  simp [numL, be_len]
theorem cnt_le (n : Nat) : cnt n ≤ 8 := cntF_le 8 n
theorem one_byte {h h1 : Hp} {k : Nat} (e : h1 = h.push (.cells #[.int .u8 (IntKind.u8.wrap (k : Int))] T_uint8)) : bytesAt h1 (Sl.mk (some (blk h.size)) 1 1) (.mk #[UInt8.ofNat k]) := by
  refine bytesAt_cells (o := 0) (l := [UInt8.ofNat k]) (push_new e) (fun i x hx => ?_) rfl
  rw [Nat.zero_add]
  match i with
  | 0 => cases hx; rw [byteV_ofNat, wrapU8_nat]; rfl
  | i + 1 => cases hx
theorem frame_Put {k : Nat} {d : ByteArray} {h : Hp} {K : ByteArray → Int → Hp → Prop} (hk : 1 ≤ k ∧ k ≤ 255) (hd : d.size < 4611686018427387904) (h1 : d.size ≤ 65536 → ∀ h', Grow h h' → K (frameB k d) 0 h') (h2 : 65536 < d.size → ∀ h', Grow h h' → K nilB 8 h') :
    C_frame_Put (k : Int) d h K := by
  refine S_frame_Put fun g1 e1 => ?_
  have c1 := push_new e1
  have w1 : Grow h g1 := (Grow.refl h).push e1
  refine ⟨(k : Int), cell_at c1 rfl, ?_⟩
  rw [if_neg (by rw [decide_eq_true_iff]; omega)]
  refine ⟨(k : Int), cell_at c1 rfl, ?_⟩
  unfold D_frame_Put_j1
  rw [if_neg (by rw [decide_eq_true_iff]; omega)]
  refine ⟨d, cell_at c1 rfl, ?_⟩
  by_cases hs : 65536 < d.size
  · rw [if_pos (decide_eq_true (by omega))]
    exact h2 hs g1 w1
  · rw [if_neg (by rw [decide_eq_true_iff]; omega)]
    have hn := numB_size d.size
    have hc := cnt_le d.size
    have s1 : (ByteArray.mk #[UInt8.ofNat k] ++ (numB d.size ++ d)).size < 100000 := by
      rw [ByteArray.size_append, ByteArray.size_append, hn]
      show 1 + _ < _
      omega
    refine ⟨k, cell_at c1 rfl, d, cell_at c1 rfl, fun g2 e2 => ?_, ?_⟩
    · have c2 := push_old e2 c1
      refine ⟨cell_at c2 rfl, cell_at c2 rfl, _, one_byte e2, digits_Text hd fun g3 w3 => ?_⟩
      have c3 := w3.at_ c2
      have b3 := w3.at_ (push_new e2)
      refine ⟨cell_at c3 rfl, cell_at c3 rfl, ?_, ?_, sum_Of (by omega) fun g4 w4 => sum_Bytes fun g5 w5 => ⟨?_, h1 (by omega) g5 ((((w1.push e2).trans w3).trans w4).trans w5)⟩⟩
      · refine bytesAt_cells (o := 0) (l := [UInt8.ofNat k]) b3 (fun i x hx => ?_) rfl
        rw [Nat.zero_add]
        match i with
        | 0 => cases hx; rw [byteV_ofNat, wrapU8_nat]; rfl
        | i + 1 => cases hx
      · rw [ByteArray.size_append, hn]
        show ((1 + _ : Nat) : Int) ≤ _
        omega
      · have : (sumB (sumI (ByteArray.mk #[UInt8.ofNat k] ++ (numB d.size ++ d)))).size = 4 := rfl
        omega
    · refine digits_Text hd fun g3 w3 => ?_
      have c3 := w3.at_ c1
      refine ⟨cell_at c3 rfl, cell_at c3 rfl, fun g2 e2 => ?_⟩
      have c2 := push_old e2 c3
      refine ⟨cell_at c2 rfl, cell_at c2 rfl, _, one_byte e2, ?_, sum_Of (by omega) fun g4 w4 => sum_Bytes fun g5 w5 => ⟨?_, h1 (by omega) g5 ((((w1.trans w3).push e2).trans w4).trans w5)⟩⟩
      · rw [ByteArray.size_append, hn]
        show ((1 + _ : Nat) : Int) ≤ _
        omega
      · have : (sumB (sumI (ByteArray.mk #[UInt8.ofNat k] ++ (numB d.size ++ d)))).size = 4 := rfl
        omega

theorem getText_ok {s : ByteArray} {most : Nat} (h : (getText s most).2.2 = 0) : ∃ (d : ByteArray) (n : Nat), getText s most = (d, (n : Int), 0) ∧ n ≤ s.size := by
  unfold getText at h ⊢
  by_cases he : (getNum s).2.2 = 0
  · rw [if_neg (by simp [he])] at h ⊢
    obtain ⟨n, k, e, k1, k2, k3, k9⟩ := getNum_ok he
    rw [e] at h ⊢
    simp only [] at h ⊢
    by_cases h1 : (most : Int) < n
    · rw [if_pos h1] at h; cases h
    · rw [if_neg h1] at h ⊢
      by_cases h2 : (s.size : Int) - k < n
      · rw [if_pos h2] at h; cases h
      · rw [if_neg h2]
        exact ⟨_, k + n, by rw [Int.natCast_add], by omega⟩
  · rw [if_pos he] at h
    exact absurd h he
def getFrame (s : ByteArray) : Int × ByteArray × Int × Int :=
  if s.data.toList.head?.getD 0 = 0 then (0, .empty, 0, if s.size = 0 then 1 else 5)
  else if (getText (s.extract 1 s.size) 65536).2.2 ≠ 0 then (0, .empty, 0, (getText (s.extract 1 s.size) 65536).2.2)
  else if (s.size : Int) < (getText (s.extract 1 s.size) 65536).2.1 + 5 then (0, .empty, 0, 1)
  else if s.extract ((getText (s.extract 1 s.size) 65536).2.1 + 1).toNat ((getText (s.extract 1 s.size) 65536).2.1 + 5).toNat ≠ sumB (sumI (s.extract 0 ((getText (s.extract 1 s.size) 65536).2.1 + 1).toNat)) then (0, .empty, 0, 10)
  else (((s.data.toList.head?.getD 0).toNat : Int), (getText (s.extract 1 s.size) 65536).1, (getText (s.extract 1 s.size) 65536).2.1 + 5, 0)
theorem frame_Get {s : ByteArray} {h : Hp} {K : Int → ByteArray → Int → Int → Hp → Prop} (hs : s.size < 4611686018427387904) (hk : ∀ h', Grow h h' → K (getFrame s).1 (getFrame s).2.1 (getFrame s).2.2.1 (getFrame s).2.2.2 h') : C_frame_Get s h K := by
  refine S_frame_Get fun g1 e1 => ?_
  have w1 : Grow h g1 := (Grow.refl h).push e1
  have fin : ∀ (g : Hp) (a : Int) (b : ByteArray), Grow g1 g → (∀ g', Grow h g' → canPut (blk h.size) g 0 [Value.int .i64 a, Value.string b] ∧ ∀ g2 : Hp, g2 = putsFrom (blk h.size) g 0 [Value.int .i64 a, Value.string b] → cellsAt g2 (blk h.size) [Value.int .i64 a, Value.string b] ∧ Grow h g2) := by
    intro g a b w _ _
    have cg := w.at_ (push_new e1)
    obtain ⟨q1, q2⟩ := puts_all (vs := [Value.int .i64 a, Value.string b]) cg rfl (by intro v hv; simp at hv; rcases hv with rfl | rfl <;> trivial)
    exact ⟨q1, fun g2 e2 => ⟨cellsAt_all (t := T_frame_Frame) (fz := (0, 0)) (by rw [e2]; exact q2), (w1.trans w).puts e2 (Nat.le_refl _)⟩⟩
  have fin2 : ∀ (g : Hp) (a : Int) (b : ByteArray) (n e : Int), Grow g1 g → (∀ h', Grow h h' → K a b n e h') → canPut (blk h.size) g 0 [Value.int .i64 a, Value.string b] ∧
      ∀ g2 : Hp, g2 = putsFrom (blk h.size) g 0 [Value.int .i64 a, Value.string b] → ∃ y7 : Int, ∃ y8 : ByteArray, cellsAt g2 (blk h.size) [Value.int .i64 y7, Value.string y8] ∧ K y7 y8 n e g2 := by
    intro g a b n e w hK
    obtain ⟨q1, q2⟩ := fin g a b w h (Grow.refl h)
    exact ⟨q1, fun g2 e2 => ⟨a, b, (q2 g2 e2).1, hK g2 (q2 g2 e2).2⟩⟩
  unfold getFrame at hk
  cases hl : s.data.toList with
  | nil =>
    rw [hl] at hk
    rw [if_pos (str_nil.2 hl)]
    rw [if_pos (show ([] : List UInt8).head?.getD 0 = 0 from rfl), if_pos (by rw [size_len, hl]; rfl)] at hk
    exact fin2 g1 0 .empty 0 1 (Grow.refl _) hk
  | cons c r =>
    rw [hl] at hk
    have hsz : s.size = r.length + 1 := by rw [size_len, hl]; rfl
    have hbt : bt s 0 = (c.toNat : Int) := bt_get (i := 0) (by rw [hl]; rfl)
    rw [if_neg (by rw [str_nil, hl]; simp), hbt]
    refine ⟨by omega, by omega, ?_⟩
    by_cases h0 : c = 0
    · rw [if_pos (by rw [h0]; rfl)]
      rw [if_pos (by rw [h0]; rfl), if_neg (by omega)] at hk
      exact fin2 g1 0 .empty 0 5 (Grow.refl _) hk
    · have hc0 : c.toNat ≠ 0 := fun e => h0 (UInt8.toNat_inj.1 e)
      have hc := c.toNat_lt
      rw [if_neg (by simpa using hc0)]
      rw [if_neg (by simpa using h0)] at hk
      refine ⟨by omega, Nat.le_refl _, digits_GetText (most := 65536) (by decide) (by rw [ByteArray.size_extract]; omega) fun g2 w2 => ?_⟩
      by_cases he : (getText (s.extract 1 s.size) 65536).2.2 = 0
      · rw [if_neg (by simp [he])] at hk ⊢
        obtain ⟨d, n, e, hn⟩ := getText_ok he
        rw [e] at hk ⊢
        simp only [] at hk ⊢
        rw [ByteArray.size_extract] at hn
        have q1 : IntKind.i64.wrap ((n : Int) + 1) = ((n + 1 : Nat) : Int) := by rw [wrap64] <;> omega
        have q2 : IntKind.i64.wrap (((n + 1 : Nat) : Int) + 4) = ((n + 5 : Nat) : Int) := by rw [wrap64] <;> omega
        rw [q1, q2]
        by_cases h5 : (s.size : Int) < (n : Int) + 5
        · rw [if_pos h5] at hk
          rw [if_pos (decide_eq_true (by omega))]
          exact fin2 g2 0 .empty 0 1 w2 hk
        · rw [if_neg h5] at hk
          rw [if_neg (by rw [decide_eq_true_iff]; omega)]
          refine ⟨n + 1, rfl, n + 5, rfl, by omega, by omega, n + 1, rfl, by omega, by omega, sum_Of (by rw [ByteArray.size_extract]; omega) fun g3 w3 => sum_Bytes fun g4 w4 => ?_⟩
          have q3 : ((n : Int) + 1).toNat = n + 1 := by omega
          have q4 : ((n : Int) + 5).toNat = n + 5 := by omega
          rw [q3, q4] at hk
          by_cases h6 : s.extract (n + 1) (n + 5) = sumB (sumI (s.extract 0 (n + 1)))
          · rw [if_neg (by simpa using h6)] at hk
            rw [if_neg (by simp [h6])]
            refine ⟨by omega, by omega, ?_⟩
            rw [wrap64 (x := (c.toNat : Int)) (by omega) (by omega)]
            exact fin2 g4 _ d _ 0 ((w2.trans w3).trans w4) hk
          · rw [if_pos h6] at hk
            rw [if_pos (by rw [Bool.not_eq_true', ← Bool.not_eq_true, str_eq]; exact h6)]
            exact fin2 g4 0 .empty 0 10 ((w2.trans w3).trans w4) hk
      · rw [if_pos he] at hk
        rw [if_pos (by simpa using he)]
        exact fin2 g2 0 .empty 0 _ w2 hk
end Go.Proofs.YtgdmjdacmebfjaaGreatDoor.D

namespace Go.Proofs.YtgdmjdacmebfjaaGreatDoor.D
open Go

def setV (l : List UInt8) : List Value := (List.range 256).map fun c => .bool (l.any fun x => x.toNat == c)
theorem setV_len (l : List UInt8) : (setV l).length = 256 := by simp [setV]
theorem setV_get (l : List UInt8) {c : Nat} (hc : c < 256) : (setV l)[c]? = some (.bool (l.any fun x => x.toNat == c)) := by
  unfold setV
  rw [List.getElem?_map, List.getElem?_range hc]
  rfl
theorem setV_nil : setV [] = List.replicate 256 (.bool false) := by
  unfold setV
  simp only [List.any_nil]
  rw [List.map_const', List.length_range]
theorem setV_leaf (l : List UInt8) : ∀ v ∈ setV l, leaf v := by
  intro v hv
  obtain ⟨c, _, rfl⟩ := List.mem_map.1 hv
  trivial
theorem setV_snoc (l : List UInt8) (x : UInt8) : (setV l).set x.toNat (.bool true) = setV (l ++ [x]) := by
  apply List.ext_getElem?
  intro c
  rcases Nat.lt_or_ge c 256 with hc | hc
  · rw [List.getElem?_set, setV_get _ hc]
    by_cases h : x.toNat = c
    · rw [if_pos h, if_pos (by rw [setV_len]; exact h ▸ hc), setV_get _ hc, List.any_append]
      simp [h]
    · rw [if_neg h, setV_get _ hc, List.any_append]
      simp [h]
  · rw [List.getElem?_eq_none (by rw [List.length_set, setV_len]; exact hc), List.getElem?_eq_none (by rw [setV_len]; exact hc)]
theorem any_mem {l : List UInt8} {x : UInt8} : (l.any fun y => y.toNat == x.toNat) = true ↔ x ∈ l := by
  rw [List.any_eq_true]
  constructor
  · rintro ⟨y, hy, e⟩
    have : y = x := UInt8.toNat_inj.1 (by simpa using e)
    exact this ▸ hy
  · intro h
    exact ⟨x, h, by simp⟩

theorem makeASCIISet_ {s : ByteArray} {h : Hp} {K : List Value → Bool → Hp → Prop} (ha : ∀ x ∈ s.data.toList, x.toNat < 128) (hs : s.size < 1000) (hk : ∀ h', Grow h h' → K (setV s.data.toList) true h') : C_strings_makeASCIISet s h K := by
  refine S_strings_makeASCIISet fun h1 e1 => ⟨fun i g => ∃ j, j ≤ s.size ∧ i = (j : Int) ∧ Grow h g ∧ g[h.size]? = some (.cells (setV (s.data.toList.take j)).toArray T_strings_asciiSet (0, 0)), fun i _ => s.size - i.toNat,
    ⟨0, by omega, rfl, (Grow.refl h).push e1, by rw [push_new e1, List.take_zero, setV_nil]⟩, ?_⟩
  rintro i g ⟨j, hj, rfl, hg, hb⟩
  unfold D_strings_makeASCIISet_l1
  by_cases hjs : j < s.size
  · have hjl : j < s.data.toList.length := by rw [← size_len]; exact hjs
    have hb' : bt s (j : Int) = ((s.data.toList[j]).toNat : Int) := bt_get (List.getElem?_eq_getElem hjl)
    have h128 := ha _ (List.getElem_mem hjl)
    rw [if_pos (decide_eq_true (by omega)), hb']
    refine ⟨by omega, by omega, ?_⟩
    rw [if_neg (by rw [decide_eq_true_iff]; omega)]
    refine ⟨by omega, by omega, _, cell_at (i := (s.data.toList[j]).toNat * 1) hb (by rw [Nat.mul_one, List.getElem?_toArray]; exact setV_get _ (by omega)), frz_at hb, fun g2 e2 => ?_⟩
    have hb2 := set_at (i := (s.data.toList[j]).toNat * 1) e2 hb rfl
    rw [Nat.mul_one, List.setIfInBounds_toArray, setV_snoc] at hb2
    refine ⟨⟨j + 1, by omega, by rw [wrap64] <;> omega, hg.set e2 (by rw [blk_add]; exact Nat.le_refl _), ?_⟩, ?_⟩
    · rw [hb2, List.take_add_one, List.getElem?_eq_getElem hjl]; rfl
    · rw [wrap64 (by omega) (by omega)]
      show s.size - ((j : Int) + 1).toNat < s.size - (j : Int).toNat
      omega
  · rw [if_neg (by rw [decide_eq_true_iff]; omega)]
    rw [List.take_of_length_le (by rw [← size_len]; omega)] at hb
    obtain ⟨q1, q2⟩ := puts_all (vs := setV s.data.toList) hb rfl (setV_leaf _)
    exact ⟨setV s.data.toList, setV_len _, cellsAt_all hb, setV_len _, q1, fun g2 e2 => ⟨setV s.data.toList, setV_len _, cellsAt_all (t := T_strings_asciiSet) (fz := (0, 0)) (by rw [e2]; exact q2), hk g2 (hg.puts e2 (Nat.le_refl _))⟩⟩

def allIn (l : List UInt8) (s : ByteArray) : Prop := ∀ x ∈ s.data.toList, x ∈ l
def setOb (l : List UInt8) : Obj := .cells (setV l).toArray T_strings_asciiSet (0, 0)
theorem contains_ {l : List UInt8} {x : UInt8} {b : Nat} {h : Hp} {K : Bool → Hp → Prop} (hb : h[b]? = some (setOb l)) (hk : K (l.any fun y => y.toNat == x.toNat) h) : C_strings_asciiSet_contains (some (blk b)) (x.toNat : Int) h K := by
  have := x.toNat_lt
  exact S_strings_asciiSet_contains ⟨blk b, rfl, by omega, by omega, _, cell_at hb (by rw [Int.toNat_natCast, Nat.mul_one, List.getElem?_toArray]; exact setV_get _ (by omega)), hk⟩
theorem trimLeft_ {l : List UInt8} {s : ByteArray} {b : Nat} {h : Hp} {K : ByteArray → Hp → Prop} (hb : h[b]? = some (setOb l)) (hk : ∀ r, (allIn l r ↔ allIn l s) → (allIn l r → r = nilB) → r.size ≤ s.size → K r h) : C_strings_trimLeftASCII s (some (blk b)) h K := by
  refine S_strings_trimLeftASCII ⟨fun r g => (allIn l r ↔ allIn l s) ∧ r.size ≤ s.size ∧ g = h, fun r _ => r.size, ⟨Iff.rfl, Nat.le_refl _, rfl⟩, ?_⟩
  rintro r g ⟨hr, hz, rfl⟩
  unfold D_strings_trimLeftASCII_l2 D_strings_trimLeftASCII_j1
  cases hl : r.data.toList with
  | nil =>
    rw [if_neg (by rw [size_len, hl]; decide)]
    exact hk r hr (fun _ => str_ext hl) hz
  | cons c t =>
    have hsz : r.size = t.length + 1 := by rw [size_len, hl]; rfl
    rw [if_pos (decide_eq_true (by omega)), show (0 : Int) = ((0 : Nat) : Int) from rfl, bt_get (i := 0) (x := c) (by rw [hl]; rfl)]
    refine ⟨by omega, by omega, contains_ hb ?_⟩
    by_cases hm : c ∈ l
    · rw [if_neg (by rw [any_mem.2 hm]; decide)]
      refine ⟨by omega, Nat.le_refl _, ⟨?_, ?_, rfl⟩, ?_⟩
      · rw [← hr]
        unfold allIn
        rw [extract_end, hl]
        simp [hm]
      · rw [ByteArray.size_extract]; omega
      · show (r.extract 1 r.size).size < r.size
        rw [ByteArray.size_extract]; omega
    · have : (l.any fun y => y.toNat == c.toNat) = false := by rw [← Bool.not_eq_true, any_mem]; exact hm
      rw [if_pos (by rw [this]; rfl)]
      exact hk r hr (fun ha => absurd (ha c (by rw [hl]; exact List.mem_cons_self ..)) hm) hz
theorem trimRight_ {l : List UInt8} {s : ByteArray} {b : Nat} {h : Hp} {K : ByteArray → Hp → Prop} (hs : s.size < 1000000) (hb : h[b]? = some (setOb l)) (hk : ∀ r, (allIn l r ↔ allIn l s) → (allIn l r → r = nilB) → r.size ≤ s.size → K r h) : C_strings_trimRightASCII s (some (blk b)) h K := by
  refine S_strings_trimRightASCII ⟨fun r g => (allIn l r ↔ allIn l s) ∧ r.size ≤ s.size ∧ g = h, fun r _ => r.size, ⟨Iff.rfl, Nat.le_refl _, rfl⟩, ?_⟩
  rintro r g ⟨hr, hz, rfl⟩
  unfold D_strings_trimRightASCII_l2 D_strings_trimRightASCII_j1
  by_cases h0 : r.size = 0
  · rw [if_neg (by rw [decide_eq_true_iff]; omega)]
    exact hk r hr (fun _ => str_ext (List.eq_nil_of_length_eq_zero (by rw [← size_len]; exact h0))) hz
  · rw [if_pos (decide_eq_true (by omega))]
    have hw : IntKind.i64.wrap ((r.size : Int) - 1) = ((r.size - 1 : Nat) : Int) := by rw [wrap64] <;> omega
    have hlt : r.size - 1 < r.data.toList.length := by rw [← size_len]; omega
    rw [hw, bt_get (List.getElem?_eq_getElem hlt)]
    have hsplit : r.data.toList = r.data.toList.take (r.size - 1) ++ [r.data.toList[r.size - 1]] := by
      rw [List.take_append_getElem, List.take_of_length_le (by rw [← size_len]; omega)]
    refine ⟨by omega, by omega, contains_ hb ?_⟩
    by_cases hm : r.data.toList[r.size - 1] ∈ l
    · rw [if_neg (by rw [any_mem.2 hm]; decide)]
      refine ⟨r.size - 1, rfl, by omega, by omega, ⟨?_, ?_, rfl⟩, ?_⟩
      · rw [← hr]
        unfold allIn
        rw [extract_front]
        constructor
        · intro ha x hx
          rw [hsplit] at hx
          rcases List.mem_append.1 hx with hx | hx
          · exact ha x hx
          · rw [List.mem_singleton.1 hx]; exact hm
        · intro ha x hx
          exact ha x (List.mem_of_mem_take hx)
      · rw [ByteArray.size_extract]; omega
      · show (r.extract 0 (r.size - 1)).size < r.size
        rw [ByteArray.size_extract]; omega
    · have : (l.any fun y => y.toNat == (r.data.toList[r.size - 1]).toNat) = false := by rw [← Bool.not_eq_true, any_mem]; exact hm
      rw [if_pos (by rw [this]; rfl)]
      exact hk r hr (fun ha => absurd (ha _ (List.getElem_mem hlt)) hm) hz
theorem strings_Trim_ {s cut : ByteArray} {h : Hp} {K : ByteArray → Hp → Prop} (hs : s.size < 1000000) (hc : ∀ x ∈ cut.data.toList, x.toNat < 128) (hz : 2 ≤ cut.size ∧ cut.size < 1000) (hk : ∀ r h', (r = nilB ↔ allIn cut.data.toList s) → Grow h h' → K r h') : C_strings_Trim s cut h K := by
  refine S_strings_Trim ?_
  have nn : ¬ (cut.toList == (ByteArray.mk #[]).toList) = true := fun e => by
    rw [str_nil] at e
    rw [size_len, e] at hz
    exact absurd hz.1 (by decide)
  unfold D_strings_Trim
  by_cases h0 : (s.toList == (ByteArray.mk #[]).toList) = true
  · rw [if_pos h0]
    unfold D_strings_Trim_j2
    rw [if_pos rfl]
    have : s = nilB := str_ext (str_nil.1 h0)
    exact hk s h ⟨(fun _ => by rw [this]; intro x hx; cases hx), fun _ => this⟩ (Grow.refl h)
  · rw [if_neg h0]
    unfold D_strings_Trim_j2
    rw [if_neg nn, if_neg (by rw [beq_iff_eq]; omega)]
    unfold D_strings_Trim_j1
    rw [if_neg (by decide)]
    refine makeASCIISet_ hc hz.2 fun h1 w1 h2 e2 => ?_
    obtain ⟨q1, q2⟩ := puts_all (vs := setV cut.data.toList) (push_new e2) (by rw [setV_len, List.size_toArray, List.length_replicate]) (setV_leaf _)
    refine ⟨setV_len _, q1, fun h3 e3 => ?_⟩
    have hb : h3[h1.size]? = some (setOb cut.data.toList) := by rw [e3]; exact q2
    have w3 : Grow h h3 := (w1.push e2).puts e3 w1.size
    rw [if_pos rfl]
    refine trimRight_ hs hb fun r i1 i2 _ => trimLeft_ hb fun t k1 k2 _ => hk t h3 ⟨fun e => ?_, fun ha => k2 (k1.2 (i1.2 ha))⟩ w3
    rw [← i1, ← k1, e]
    intro x hx
    cases hx

def signsB : ByteArray := .mk #[97, 98, 99, 100, 101, 102, 103, 104, 105, 106, 107, 108, 109, 110, 111, 112, 113, 114, 115, 116, 117, 118, 119, 120, 121, 122, 48, 49, 50, 51, 52, 53, 54, 55, 56, 57, 46, 45]
def rightP (s : ByteArray) : Prop := s.size ≠ 0 ∧ s.size ≤ 32 ∧ allIn signsB.data.toList s
theorem disk_right {s : ByteArray} {h : Hp} {K : Bool → Hp → Prop} (h1 : rightP s → ∀ h', Grow h h' → K true h') (h2 : ¬ rightP s → ∀ h', Grow h h' → K false h') : C_disk_right s h K := by
  refine S_disk_right ?_
  unfold D_disk_right D_disk_right_j1
  by_cases h0 : (s.toList == (ByteArray.mk #[]).toList) = true
  · rw [if_neg (by rw [h0]; decide)]
    refine h2 (fun e => e.1 ?_) h (Grow.refl h)
    rw [size_len, str_nil.1 h0]; rfl
  · rw [if_pos (by rw [Bool.not_eq_true] at h0; rw [h0]; rfl)]
    by_cases h3 : s.size ≤ 32
    · rw [if_pos (decide_eq_true (by omega))]
      refine strings_Trim_ (cut := signsB) (by omega) (by decide) (by decide) fun r h' hr w => ?_
      by_cases ha : allIn signsB.data.toList s
      · have e0 : (nilB.toList == (ByteArray.mk #[]).toList) = true := str_nil.2 rfl
        rw [hr.2 ha, e0]
        refine h1 ⟨fun e => h0 (str_nil.2 (List.eq_nil_of_length_eq_zero (by rw [← size_len]; exact e))), h3, ha⟩ h' w
      · have : (r.toList == (ByteArray.mk #[]).toList) = false := by
          rw [← Bool.not_eq_true, str_eq]
          exact fun e => ha (hr.1 e)
        rw [this]
        exact h2 (fun e => ha e.2.2) h' w
    · rw [if_neg (by rw [decide_eq_true_iff]; omega)]
      exact h2 (fun e => h3 e.2.1) h (Grow.refl h)

/-! ### What is used -/
def sumF {α : Type} (p : α → Bool) (w : α → Nat) : List α → Nat
  | [] => 0
  | x :: l => (if p x = true then w x else 0) + sumF p w l
def cntU {α : Type} (p : α → Bool) : List α → Nat
  | [] => 0
  | x :: l => (if p x = true then 0 else 1) + cntU p l
theorem sumF_same {α : Type} {p q : α → Bool} {w : α → Nat} : ∀ {l : List α}, (∀ x ∈ l, p x = q x) → sumF p w l = sumF q w l ∧ cntU p l = cntU q l
  | [], _ => ⟨rfl, rfl⟩
  | x :: l, h => by
    obtain ⟨h1, h2⟩ := sumF_same (w := w) (fun y hy => h y (List.mem_cons_of_mem _ hy))
    simp only [sumF, cntU, h x (List.mem_cons_self ..), h1, h2, and_self]
theorem sumF_take {α : Type} {p q : α → Bool} {w : α → Nat} {f : α → Nat} {e : α} : ∀ {l : List α}, (l.map f).Nodup → e ∈ l → p e = false → (∀ x, q x = (p x || f x == f e)) → sumF q w l = sumF p w l + w e ∧ cntU p l = cntU q l + 1
  | [], _, h, _, _ => by cases h
  | x :: l, hd, hm, hp, hq => by
    simp only [List.map_cons, List.nodup_cons] at hd
    rcases List.mem_cons.1 hm with h | h
    · subst h
      obtain ⟨h1, h2⟩ := sumF_same (p := q) (q := p) (w := w) (l := l) (fun y hy => by
        have : f y ≠ f e := fun hh => hd.1 (hh ▸ List.mem_map.2 ⟨y, hy, rfl⟩)
        rw [hq]; simp [this])
      have he : q e = true := by rw [hq]; simp
      simp only [sumF, cntU, h1, h2, hp, he, if_true, Bool.false_eq_true, if_false]
      omega
    · obtain ⟨h1, h2⟩ := sumF_take (w := w) hd.2 h hp hq
      have : f x ≠ f e := fun hh => hd.1 (hh ▸ List.mem_map.2 ⟨e, h, rfl⟩)
      have hx : q x = p x := by rw [hq]; simp [this]
      simp only [sumF, cntU, h1, h2, hx]
      omega
theorem sumF_le {α : Type} {p : α → Bool} {w : α → Nat} : ∀ {l : List α}, sumF p w l ≤ (l.map w).sum
  | [] => Nat.le_refl _
  | x :: l => by
    have := sumF_le (p := p) (w := w) (l := l)
    simp only [sumF, List.map_cons, List.sum_cons]
    split <;> omega
theorem sumF_all {α : Type} {p : α → Bool} {w : α → Nat} : ∀ {l : List α}, (∀ x ∈ l, p x = true) → sumF p w l = (l.map w).sum
  | [], _ => rfl
  | x :: l, h => by
    simp only [sumF, List.map_cons, List.sum_cons]
    rw [if_pos (h x (List.mem_cons_self ..)), sumF_all (fun y hy => h y (List.mem_cons_of_mem _ hy))]
theorem sumF_none {α : Type} {p : α → Bool} {w : α → Nat} : ∀ {l : List α}, (∀ x ∈ l, p x = false) → sumF p w l = 0
  | [], _ => rfl
  | x :: l, h => by
    simp only [sumF]
    rw [if_neg (by rw [h x (List.mem_cons_self ..)]; decide), sumF_none (fun y hy => h y (List.mem_cons_of_mem _ hy))]
theorem find_born {e : MapEntry} : ∀ {l : List MapEntry}, (l.map (·.born)).Nodup → e ∈ l → l.find? (fun x => x.born == e.born) = some e
  | [], _, h => by cases h
  | x :: l, hd, hm => by
    simp only [List.map_cons, List.nodup_cons] at hd
    rcases List.mem_cons.1 hm with h | h
    · subst h; simp
    · have : x.born ≠ e.born := fun hh => hd.1 (hh ▸ List.mem_map.2 ⟨e, h, rfl⟩)
      rw [List.find?_cons_of_neg (by simpa using this)]
      exact find_born hd.2 h

section
variable {h : Hp} {a : Nat} {D : DS} {O : Nat → Prop}
def fsz (fs : Nat → ByteArray × Nat) (v : Value) : Nat := match v with
  | .pointer (some p) => (fs p.block).1.size
  | _ => 0
def DS.used (D : DS) : Nat := (D.now.map fun p => (D.fs p.2).1.size).sum
theorem disk_Used {K : Int → Hp → Prop} (H : DiskAt h a D O) (hu : D.used < 4611686018427387904) (hk : ∀ h', Grow h h' → K (D.used : Int) h') : C_disk_Disk_Used (some (blk a)) h K := by
  obtain ⟨rn, rl, s, H⟩ := H
  obtain ⟨es, clk, m1, m2, m3, m4, m5⟩ := id H.now
  refine S_disk_Disk_Used ⟨blk a, rfl, some rn, cell_at H.cell rfl, rn, es, clk, rfl, m1, fun h1 e1 => ?_⟩
  have tot : (es.toList.map fun e => fsz D.fs e.val).sum = D.used := by
    have : es.toList.map (fun e => fsz D.fs e.val) = (es.toList.map fun e => (e.key, e.val)).map fun x => fsz D.fs x.2 := by rw [List.map_map]; rfl
    rw [this, m2]
    unfold DS.used fmap
    rw [List.map_map, List.map_map]
    rfl
  have ent : ∀ e ∈ es.toList, ∃ b, e.val = fval b ∧ D.has b := by
    intro e he
    have : (e.key, e.val) ∈ es.toList.map (fun e => (e.key, e.val)) := List.mem_map.2 ⟨e, he, rfl⟩
    rw [m2] at this
    obtain ⟨x, hx, hxe⟩ := List.mem_map.1 this
    obtain ⟨y, hy, rfl⟩ := List.mem_map.1 hx
    exact ⟨y.2, (congrArg Prod.snd hxe).symm, .inl ⟨y.1, hy⟩⟩
  refine ⟨fun n g => ∃ seen : Array Nat, g[h.size]? = some (.mapIter (some rn) clk seen clk) ∧ Grow h g ∧ n = ((sumF (fun e : MapEntry => seen.contains e.born) (fun e => fsz D.fs e.val) es.toList : Nat) : Int),
    fun _ g => match g[h.size]? with
      | some (.mapIter _ _ seen _) => cntU (fun e : MapEntry => seen.contains e.born) es.toList
      | _ => 0, ⟨#[], push_new e1, (Grow.refl h).push e1, by rw [sumF_none (fun _ _ => by simp)]; rfl⟩, ?_⟩
  rintro n g ⟨seen, hg1, hg2, rfl⟩
  refine ⟨rn, clk, seen, es, hg1, hg2.at_ m1, m3, fun e he hse g' e' => ?_, fun hall => ?_⟩
  · obtain ⟨b, hb1, hb2⟩ := ent e he
    have hlt := lt_of_some hg1
    have hg1' : g'[h.size]? = some (.mapIter (some rn) clk (seen.push e.born) clk) := by rw [e']; simp [hlt]
    have hg2' : Grow h g' := Ext.setObj hg2 e' (fun hh => absurd hh (Nat.lt_irrefl _))
    obtain ⟨q1, q2⟩ := sumF_take (w := fun e : MapEntry => fsz D.fs e.val) (p := fun x : MapEntry => seen.contains x.born) (q := fun x : MapEntry => (seen.push e.born).contains x.born) m4 he hse (fun x => by
      simp only [Array.contains_push])
    have hf : fsz D.fs e.val = (D.fs b).1.size := by rw [hb1]; rfl
    have hle := sumF_le (p := fun x : MapEntry => (seen.push e.born).contains x.born) (w := fun e : MapEntry => fsz D.fs e.val) (l := es.toList)
    rw [tot] at hle
    refine ⟨hg1', hg2'.at_ m1, ?_, some (blk b), hb1, blk b, rfl, (D.fs b).1, cell_at (hg2'.at_ (H.file b hb2).1) rfl, ⟨seen.push e.born, hg1', hg2', ?_⟩, ?_⟩
    · rw [← Array.find?_toList]
      exact find_born m4 he
    · rw [q1, hf, wrap64 (by omega) (by omega)]
      omega
    · show (match g'[h.size]? with
        | some (.mapIter _ _ seen _) => cntU (fun e : MapEntry => seen.contains e.born) es.toList
        | _ => 0) < (match g[h.size]? with
        | some (.mapIter _ _ seen _) => cntU (fun e : MapEntry => seen.contains e.born) es.toList
        | _ => 0)
      rw [hg1', hg1]
      simp only []
      omega
  · rw [sumF_all (fun x hx => hall x hx), tot]
    exact hk g hg2

/-! ### Append -/
theorem DiskB.fsFresh {rn rl : Nat} {s : Sl} {b : Nat} {f : ByteArray × Nat} (H : DiskB h a rn rl s D O) (hb : ¬ D.has b) : DiskB h a rn rl s { D with fs := fsSet D.fs b f } O :=
  ⟨H.cell, H.now, H.las, H.ne, H.chg, fun x hx => by
    obtain ⟨q1, q2⟩ := H.file x hx
    refine ⟨?_, q2⟩
    show h[x]? = some (fileOb (fsSet D.fs b f x))
    unfold fsSet
    rw [if_neg (fun e : x = b => hb (by rw [← e]; exact hx))]
    exact q1, H.oa, H.on, H.ol, H.os, H.lt, H.fuse⟩
theorem fsSet_twice (fs : Nat → ByteArray × Nat) (b : Nat) (f g : ByteArray × Nat) : fsSet (fsSet fs b f) b g = fsSet fs b g := by
  funext x
  unfold fsSet
  split <;> rfl
theorem fsSet_same (fs : Nat → ByteArray × Nat) (b : Nat) (f : ByteArray × Nat) : fsSet fs b f b = f := by unfold fsSet; rw [if_pos rfl]
theorem mem_used {k : ByteArray} {b : Nat} : ∀ {l : FL} {fs : Nat → ByteArray × Nat}, (k, b) ∈ l → (fs b).1.size ≤ (l.map fun p => (fs p.2).1.size).sum
  | [], _, h => by cases h
  | p :: l, fs, h => by
    simp only [List.map_cons, List.sum_cons]
    rcases List.mem_cons.1 h with h | h
    · subst h; simp only []; omega
    · have := mem_used (fs := fs) h; omega
theorem write_used : D.write.2.used = D.used := by unfold DS.used; rw [write_now, write_fs]
def DS.full (D : DS) (name s : ByteArray) : Prop := D.room - (D.used : Int) < (s.size : Int) ∨ (lookL name D.now = none ∧ D.now.length = 64)
/-- The disk behind an Append: the file's block is b. -/
def DS.put (D : DS) (name s : ByteArray) (b : Nat) : DS := match lookL name D.now with
  | some b => { D.write.2 with fs := fsSet D.fs b ((D.fs b).1 ++ s, (D.fs b).2) }
  | none => { D.write.2.change (.put name b) with fs := fsSet D.fs b (s, 0) }
theorem empty_append (s : ByteArray) : ByteArray.empty ++ s = s := str_ext (by rw [append_list]; rfl)
theorem disk_Append {name s : ByteArray} {K : Int → Hp → Prop} (H : DiskAt h a D O) (hn : D.chg.length < 1000000) (hr : 0 ≤ D.room ∧ D.room < 4611686018427387904) (hu : D.used < 4611686018427387904)
    (k1 : D.write.1 = false → ∀ h' O', DiskAt h' a D.write.2 O' → Step h O h' O' → K 11 h')
    (k2 : D.write.1 = true → ¬ rightP name → ∀ h' O', DiskAt h' a D.write.2 O' → Step h O h' O' → K 3 h')
    (k3 : D.write.1 = true → rightP name → D.full name s → ∀ h' O', DiskAt h' a D.write.2 O' → Step h O h' O' → K 4 h')
    (k4 : D.write.1 = true → rightP name → ¬ D.full name s → ∀ h' O' b, h.size ≤ b → DiskAt h' a (D.put name s b) O' → Step h O h' O' → K 0 h') : C_disk_Disk_Append (some (blk a)) name s h K := by
  refine S_disk_Disk_Append fun h1 e1 => ?_
  obtain ⟨H1, s1⟩ := H.push e1
  refine disk_write H1 fun h3 H3 s3 => ?_
  have s13 := s1.trans s3
  by_cases hw : D.write.1 = true
  case neg =>
    rw [Bool.not_eq_true] at hw
    rw [if_pos (by rw [hw]; decide)]
    exact k1 hw h3 O H3 s13
  rw [if_neg (by rw [hw]; decide)]
  have nO : ∀ b, O b → b < h.size := H.lt
  have pn3 : h3[h.size]? = some (.cells #[.string name] T_string (0, 0)) := s3.keep (push_new e1) (fun ho => Nat.lt_irrefl _ (nO _ ho))
  have z1 : h1.size = h.size + 1 := by rw [e1, Array.size_push]
  have z3 := s3.size
  obtain ⟨rn, rl, sl, B3⟩ := id H3
  obtain ⟨es, m1, m2, m3⟩ := B3.look name
  rw [write_now] at m3
  refine ⟨blk a, rfl, some rn, cell_at B3.cell rfl, name, cell_at0 pn3 rfl, es, m1, m2, (lookL name D.now).map blk, m3, fun h17 e17 => ?_⟩
  obtain ⟨H17, s17⟩ := H3.push e17
  have pn17 := push_old e17 pn3
  have pf17 := push_new e17
  have B17 : DiskB h17 a rn rl sl D.write.2 O := B3.frame (fun b hb => by rw [e17, Array.getElem?_push, if_neg (by have := B3.lt b hb; omega)]) (fun _ => id) (fun b hb => by have := B3.lt b hb; rw [e17, Array.size_push]; omega)
  refine ⟨cell_at B17.cell rfl, cell_at0 pn17 rfl, ?_, _, cell_at0 pf17 rfl, frz_at0 pf17, fun h19 e19 => ?_⟩
  · obtain ⟨ees, clk, q1, _⟩ := B3.now
    obtain ⟨ees', clk', q1', _⟩ := B17.now
    have := push_old e17 q1
    rw [q1'] at this
    cases this
    rw [← m1]
    simp [mapEs, q1, q1']
  have pf19 := set_at0 (cs' := #[.pointer ((lookL name D.now).map blk)]) e19 pf17 rfl
  have n19 : ∀ b, b ≠ h3.size → h19[b]? = h17[b]? := fun b hb => by rw [e19]; exact setH_ne hb
  have z17 : h17.size = h3.size + 1 := by rw [e17, Array.size_push]
  have z19 : h19.size = h17.size := by rw [e19, setH_size]
  have pn19 : h19[h.size]? = some (.cells #[.string name] T_string (0, 0)) := by rw [n19 _ (by omega)]; exact pn17
  have B19 : DiskB h19 a rn rl sl D.write.2 O := B17.frame (fun b hb => n19 b (by have := nO b hb; omega)) (fun _ => id) (fun b hb => by have := nO b hb; omega)
  have s19 : Step h O h19 O := .of ((s13.trans s17).ext.set e19 (fun hh => absurd hh (by show ¬ h3.size < h.size; omega)))
  refine ⟨name, cell_at0 pn19 rfl, ?_⟩
  by_cases hrt : rightP name
  case neg =>
    refine disk_right (fun e => absurd e hrt) fun _ h26 w26 => ?_
    rw [if_pos (by decide)]
    exact k2 hw hrt h26 O (DiskAt.ext ⟨rn, rl, sl, B19⟩ w26 (fun _ hf => hf.elim)) (s19.trans (.of (w26.mono (Nat.le_refl _) (fun _ _ hf => hf.elim))))
  refine disk_right (fun _ h26 w26 => ?_) (fun e => absurd hrt e)
  rw [if_neg (by decide)]
  have H26 : DiskAt h26 a D.write.2 O := DiskAt.ext ⟨rn, rl, sl, B19⟩ w26 (fun _ hf => hf.elim)
  have B26 : DiskB h26 a rn rl sl D.write.2 O := B19.frame (fun b hb => w26.same b (B19.lt b hb) id) (fun _ => id) (fun b hb => Nat.lt_of_lt_of_le (B19.lt b hb) w26.size)
  refine ⟨D.write.2.room, cell_at B26.cell rfl, disk_Used H26 (by rw [write_used]; exact hu) fun h60 w60 => ?_⟩
  have B60 : DiskB h60 a rn rl sl D.write.2 O := B26.frame (fun b hb => w60.same b (B26.lt b hb) id) (fun _ => id) (fun b hb => Nat.lt_of_lt_of_le (B26.lt b hb) w60.size)
  have w19 : Grow h19 h60 := w26.trans w60
  have pf60 := w19.at_ pf19
  have pn60 := w19.at_ pn19
  have s60 : Step h O h60 O := s19.trans (.of (w19.mono (Nat.le_refl _) (fun _ _ hf => hf.elim)))
  have z60 := w19.size
  refine ⟨cell_at B60.cell rfl, ?_⟩
  have hu' : (D.used : Int) < 4611686018427387904 := by omega
  rw [write_used, write_room, wrap64 (by omega) (by omega)]
  by_cases hf1 : D.room - (D.used : Int) < (s.size : Int)
  · rw [if_pos (decide_eq_true (by omega))]
    unfold D_disk_Disk_Append_j2
    rw [if_pos rfl]
    exact k3 hw hrt (.inl hf1) h60 O ⟨rn, rl, sl, B60⟩ s60
  rw [if_neg (by rw [decide_eq_true_iff]; omega)]
  refine ⟨(lookL name D.now).map blk, cell_at0 pf60 rfl, ?_⟩
  cases hl : lookL name D.now with
  | some b =>
    rw [hl] at pf60
    rw [if_neg (by simp)]
    unfold D_disk_Disk_Append_j2
    rw [if_neg (by decide)]
    refine ⟨some (blk b), cell_at0 pf60 rfl, ?_⟩
    rw [if_neg (by simp)]
    have hh : D.has b := look_has hl
    have q := (B60.file b (write_has.2 hh)).1
    have qo := (B60.file b (write_has.2 hh)).2
    rw [write_fs] at q
    have hle : (D.fs b).1.size ≤ D.used := mem_used (lookL_mem hl)
    refine ⟨some (blk b), cell_at0 pf60 rfl, blk b, rfl, (D.fs b).1, cell_at q rfl, by omega, _, cell_at q rfl, frz_at q, fun h40 e40 => ?_⟩
    have q40 := set_at (cs' := #[.string ((D.fs b).1 ++ s), .int .i64 (D.fs b).2]) e40 q rfl
    have B40 := B60.swapFile (f := ((D.fs b).1 ++ s, (D.fs b).2)) (write_has.2 hh) q40 (fun x hx => by rw [e40, blk_add]; exact setH_ne hx) (by rw [e40]; exact setH_size)
    rw [write_fs] at B40
    refine k4 hw hrt (fun hfl => hfl.elim hf1 (fun e => by rw [hl] at e; cases e.1)) h40 O h.size (Nat.le_refl _) ⟨rn, rl, sl, ?_⟩ (s60.trans (.of ((Ext.refl _ _ _).set e40 (fun _ => by rw [blk_add]; exact qo))))
    unfold DS.put
    rw [hl]
    exact B40
  | none =>
    rw [hl] at pf60
    rw [if_pos (by rfl)]
    refine ⟨some rn, cell_at B60.cell rfl, D.now.length, ?_, ?_⟩
    · have := B60.now.len
      rw [write_now] at this
      rw [this]
      simp [fmap]
    unfold D_disk_Disk_Append_j2
    by_cases hf2 : D.now.length = 64
    · rw [if_pos (by rw [hf2]; rfl)]
      exact k3 hw hrt (.inr ⟨hl, hf2⟩) h60 O ⟨rn, rl, sl, B60⟩ s60
    rw [if_neg (by rw [beq_iff_eq]; omega)]
    refine ⟨none, cell_at0 pf60 rfl, ?_⟩
    rw [if_pos (by rfl)]
    intro h48 e48
    obtain ⟨H48, s48⟩ := DiskAt.push ⟨rn, rl, sl, B60⟩ e48
    have pf48 := push_old e48 pf60
    have pn48 := push_old e48 pn60
    have b48 := push_new e48
    refine ⟨_, cell_at0 pf48 rfl, frz_at0 pf48, fun h50 e50 => ?_⟩
    have pf50 := set_at0 (cs' := #[fval h60.size]) e50 pf48 rfl
    have n50 : ∀ x, x ≠ h3.size → h50[x]? = h48[x]? := fun x hx => by rw [e50]; exact setH_ne hx
    have z50 : h50.size = h48.size := by rw [e50, setH_size]
    have z48 : h48.size = h60.size + 1 := by rw [e48, Array.size_push]
    have pn50 : h50[h.size]? = some (.cells #[.string name] T_string (0, 0)) := by rw [n50 _ (by omega)]; exact pn48
    have b50 : h50[h60.size]? = some (fileOb (.empty, 0)) := by rw [n50 _ (by omega)]; exact b48
    have H50 : DiskAt h50 a D.write.2 O := H48.frame (fun b hb => n50 b (by have := nO b hb; omega)) (by omega)
    have s50 : Step h O h50 O := .of ((s60.trans s48).ext.set e50 (fun hh => absurd hh (by show ¬ h3.size < h.size; omega)))
    obtain ⟨T1, u1⟩ := H50.take s50 (r := h.size) (Nat.le_refl _) (by omega)
    obtain ⟨T2, u2⟩ := T1.take u1 (r := h3.size) (by omega) (by omega)
    obtain ⟨T3, u3⟩ := T2.take u2 (r := h60.size) (by omega) (by omega)
    have nh : ¬ D.write.2.has h60.size := fun hh => by
      have := B60.lt _ (B60.file _ hh).2
      omega
    have T4 : DiskAt h50 a { D.write.2 with fs := fsSet D.write.2.fs h60.size (.empty, 0) } (fun b => ((O b ∨ b = h.size) ∨ b = h3.size) ∨ b = h60.size) := by
      obtain ⟨x1, x2, x3, x4⟩ := T3
      exact ⟨x1, x2, x3, x4.fsFresh nh⟩
    refine disk_change (c := .put name h60.size) T4 ⟨h3.size, h.size, rfl, ⟨pf50, .inl (.inr rfl)⟩, pn50, .inl (.inl (.inr rfl))⟩ (fun b e => by
      cases e
      exact ⟨by show h50[h60.size]? = some (fileOb (fsSet D.write.2.fs h60.size (.empty, 0) h60.size)); rw [fsSet_same]; exact b50, .inr rfl⟩) (by show D.write.2.chg.length < _; rw [write_chg]; exact hn) fun h55 O55 H55 s55 kt => ?_
    have pf55 := kt _ _ pf50 rfl rfl rfl
    have b55 := kt _ _ b50 rfl rfl rfl
    unfold D_disk_Disk_Append_j1
    refine ⟨some (blk h60.size), cell_at0 pf55 rfl, blk h60.size, rfl, .empty, cell_at b55 rfl, ?_, _, cell_at b55 rfl, frz_at b55, fun h40 e40 => ?_⟩
    · show ((0 + s.size : Nat) : Int) ≤ _
      have : (0 : Int) ≤ D.used := Int.natCast_nonneg _
      omega
    rw [empty_append] at e40
    have q40 := set_at (cs' := #[.string s, .int .i64 (0 : Nat)]) e40 b55 rfl
    obtain ⟨y1, y2, y3, y4⟩ := H55
    have hin : (({ D.write.2 with fs := fsSet D.write.2.fs h60.size (.empty, 0) } : DS).change (.put name h60.size)).has h60.size := .inr (.inr ⟨.put name h60.size, by simp [DS.change], rfl⟩)
    have B40 := y4.swapFile (f := (s, 0)) hin q40 (fun x hx => by rw [e40, blk_add]; exact setH_ne hx) (by rw [e40]; exact setH_size)
    have ob := (y4.file _ hin).2
    refine k4 hw hrt (fun hfl => hfl.elim hf1 (fun e => hf2 e.2)) h40 O55 h60.size (by omega) ⟨y1, y2, y3, ?_⟩ ((u3.trans s55).trans (.of ((Ext.refl _ _ _).set e40 (fun _ => by rw [blk_add]; exact ob))))
    unfold DS.put
    rw [hl]
    have ef : fsSet ((({ D.write.2 with fs := fsSet D.write.2.fs h60.size (.empty, 0) } : DS).change (.put name h60.size)).fs) h60.size (s, 0) = fsSet D.fs h60.size (s, 0) := by
      show fsSet (fsSet D.write.2.fs h60.size (.empty, 0)) h60.size (s, 0) = _
      rw [fsSet_twice, write_fs]
    rw [ef] at B40
    exact B40
end
end Go.Proofs.YtgdmjdacmebfjaaGreatDoor.D

namespace Go.Proofs.YtgdmjdacmebfjaaGreatDoor.D
open Go

section
variable {h : Hp} {a : Nat} {D : DS} {O : Nat → Prop}
theorem DiskAt.grows {g : Hp} (H : DiskAt h a D O) (w : Grow h g) : DiskAt g a D O ∧ Step h O g O :=
  ⟨H.ext w (fun _ hf => hf.elim), .of (w.mono (Nat.le_refl _) (fun _ _ hf => hf.elim))⟩
open Classical in
noncomputable def DS.rename (D : DS) (f t : ByteArray) : Int × DS :=
  if D.write.1 then match lookL f D.now with
    | none => (12, D.write.2)
    | some b => if rightP t then (0, D.write.2.change (.ren f t b)) else (3, D.write.2)
  else (11, D.write.2)
/-- A box that is made, and written at once. -/
theorem box_put {g : Hp} {t : TypeId} {u v : Value} {k : Hp → Prop} (hk : ∀ g', Grow g g' → g'[g.size]? = some (.cells #[v] t (0, 0)) → k g') :
    ∀ h10 : Hp, h10 = g.push (.cells #[u] t) → ∃ u13 : Value, cellH h10 (blk g.size) = some u13 ∧ frozenH h10 (blk g.size) = false ∧ ∀ h12 : Hp, h12 = setH h10 (blk g.size) v → k h12 := by
  intro h10 e10
  have c10 := push_new e10
  exact ⟨_, cell_at0 c10 rfl, frz_at0 c10, fun h12 e12 => hk h12 (((Grow.refl g).push e10).set e12 (Nat.le_refl _)) (set_at0 (cs' := #[v]) e12 c10 rfl)⟩
theorem disk_Rename {f t : ByteArray} {K : Int → Hp → Prop} (H : DiskAt h a D O) (hn : D.chg.length < 1000000) (hk : ∀ h' O', DiskAt h' a (D.rename f t).2 O' → Step h O h' O' → K (D.rename f t).1 h') : C_disk_Disk_Rename (some (blk a)) f t h K := by
  refine S_disk_Disk_Rename fun h1 e1 h3 e3 => ?_
  obtain ⟨H1, s1⟩ := H.push e1
  obtain ⟨H3, s3⟩ := H1.push e3
  have s03 := s1.trans s3
  have z1 : h1.size = h.size + 1 := by rw [e1, Array.size_push]
  have z3 : h3.size = h1.size + 1 := by rw [e3, Array.size_push]
  have p1 : h3[h.size]? = some (.cells #[.string f] T_string (0, 0)) := push_old e3 (push_new e1)
  have p3 : h3[h1.size]? = some (.cells #[.string t] T_string (0, 0)) := push_new e3
  have nO : ∀ b, O b → b < h.size := H.lt
  unfold DS.rename at hk
  refine ⟨f, cell_at0 p1 rfl, disk_find H3 (fun hw g Hg sg => ?_) (fun hw hl g Hg sg => ?_) (fun hw b hl g Hg sg => ?_)⟩
  · refine box_put fun g2 w2 _ => ?_
    obtain ⟨H2, s2⟩ := Hg.grows w2
    rw [if_pos (by decide)]
    rw [if_neg (by simp [hw])] at hk
    exact hk g2 O H2 ((s03.trans sg).trans s2)
  · refine box_put fun g2 w2 _ => ?_
    obtain ⟨H2, s2⟩ := Hg.grows w2
    rw [if_pos (by decide)]
    rw [if_pos hw, hl] at hk
    exact hk g2 O H2 ((s03.trans sg).trans s2)
  · refine box_put fun g2 w2 b2 => ?_
    obtain ⟨H2, s2⟩ := Hg.grows w2
    rw [if_neg (by decide)]
    rw [if_pos hw, hl] at hk
    simp only [] at hk
    have s02 := (s03.trans sg).trans s2
    have pz := sg.size
    have pz2 := w2.size
    have p1' : g2[h.size]? = some (.cells #[.string f] T_string (0, 0)) := w2.at_ (sg.keep p1 (fun ho => Nat.lt_irrefl _ (nO _ ho)))
    have p3' : g2[h1.size]? = some (.cells #[.string t] T_string (0, 0)) := w2.at_ (sg.keep p3 (fun ho => by have := nO _ ho; omega))
    refine ⟨t, cell_at0 p3' rfl, disk_right (fun hr g3 w3 => ?_) (fun hr g3 w3 => ?_)⟩
    · rw [if_neg (by decide)]
      rw [if_pos hr] at hk
      obtain ⟨H3', s3'⟩ := H2.grows w3
      have s05 := s02.trans s3'
      have pz3 := w3.size
      have lt2 := lt_of_some b2
      obtain ⟨T1, u1⟩ := H3'.take s05 (r := h.size) (Nat.le_refl _) (by omega)
      obtain ⟨T2, u2⟩ := T1.take u1 (r := h1.size) (by omega) (by omega)
      obtain ⟨T3, u3⟩ := T2.take u2 (r := g.size) (by omega) (by omega)
      refine disk_change (c := .ren f t b) T3 ⟨h.size, g.size, h1.size, rfl, ⟨w3.at_ p1', .inl (.inl (.inr rfl))⟩, ⟨w3.at_ b2, .inr rfl⟩, w3.at_ p3', .inl (.inr rfl)⟩ (fun b' e => ?_) (by rw [write_chg]; exact hn) fun h4 O4 H4 s4 _ => hk h4 O4 H4 (u3.trans s4)
      obtain ⟨rn, rl, s, B⟩ := T3
      have e : b = b' := Option.some.inj e
      subst e
      exact B.file b (look_has (by rw [write_now]; exact hl))
    · rw [if_pos (by decide)]
      rw [if_neg hr] at hk
      obtain ⟨H3', s3'⟩ := H2.grows w3
      exact hk g3 O H3' (s02.trans s3')
end
end Go.Proofs.YtgdmjdacmebfjaaGreatDoor.D

namespace Go.Proofs
open Go.RowKit Go.Maps Go.Sort Go.Shelf
def Tryz.keys34_ren : Go.Shelf.Ren := ⟨fun | 7 => 34 | 10 => 55 | n => n, fun | 23 => 42 | 26 => 9 | 3 => 74 | 28 => 72 | 0 => 0 | 27 => 71 | 33 => 54 | 4 => 4 | n => n, fun | n => n⟩
theorem Tryz.keys34 : Go.Proofs.SlLaysZ.n7 Tryz.prog Tryz.keys34_ren := {
  mixed := by kernel_rfl
  f7 := ⟨Tryz.f34.name, by decide, Tryz.func34.trans (congrArg some (by kernel_rfl))⟩
  f10 := ⟨Tryz.f55.name, by decide, Tryz.func55.trans (congrArg some (by kernel_rfl))⟩
  t0 := Tryz.underlying0
  a0 := Tryz.isAgg0
  z0 := Tryz.sizeOf0
  v0 := Tryz.zeroValue0
  t4 := Tryz.underlying4
  a4 := Tryz.isAgg4
  z4 := Tryz.sizeOf4
  v4 := Tryz.zeroValue4
  t23 := Tryz.underlying42
  a23 := Tryz.isAgg42
  z23 := Tryz.sizeOf42
  v23 := Tryz.zeroValue42
  t26 := Tryz.underlying9
  a26 := Tryz.isAgg9
  z26 := Tryz.sizeOf9
  v26 := Tryz.zeroValue9
  t27 := Tryz.underlying71
  a27 := Tryz.isAgg71
  z27 := Tryz.sizeOf71
  v27 := Tryz.zeroValue71
  t28 := Tryz.underlying72
  a28 := Tryz.isAgg72
  z28 := Tryz.sizeOf72
  v28 := Tryz.zeroValue72
  t33 := Tryz.underlying54
  a33 := Tryz.isAgg54
  z33 := Tryz.sizeOf54
  v33 := Tryz.zeroValue54 }
def Tryz.sorted33_ren : Go.Shelf.Ren := ⟨fun | 6 => 33 | 8 => 53 | 9 => 54 | 11 => 62 | 13 => 64 | 12 => 63 | 23 => 83 | 24 => 84 | 14 => 74 | 15 => 75 | 16 => 76 | 17 => 77 | 18 => 78 | 19 => 79 | 20 => 80 | 21 => 81 | 22 => 82 | 25 => 89 | 26 => 90 | 27 => 91 | 28 => 92 | 29 => 93 | 30 => 94 | 31 => 98 | n => n, fun | 26 => 9 | 28 => 72 | 24 => 50 | 0 => 0 | 3 => 3 | 37 => 94 | 48 => 83 | 50 => 24 | 4 => 4 | 40 => 115 | 39 => 114 | 45 => 120 | 5 => 5 | 9 => 9 | 51 => 129 | 55 => 133 | 57 => 136 | 58 => 137 | 33 => 54 | n => n, fun | n => n⟩
theorem Tryz.sorted33 : Go.Proofs.SlLaysZ.n6 Tryz.prog Tryz.sorted33_ren := {
  mixed := by kernel_rfl
  f6 := ⟨Tryz.f33.name, by decide, Tryz.func33.trans (congrArg some (by kernel_rfl))⟩
  f8 := ⟨Tryz.f53.name, by decide, Tryz.func53.trans (congrArg some (by kernel_rfl))⟩
  f11 := ⟨Tryz.f62.name, by decide, Tryz.func62.trans (congrArg some (by kernel_rfl))⟩
  t0 := Tryz.underlying0
  a0 := Tryz.isAgg0
  z0 := Tryz.sizeOf0
  v0 := Tryz.zeroValue0
  t24 := Tryz.underlying50
  a24 := Tryz.isAgg50
  z24 := Tryz.sizeOf50
  v24 := Tryz.zeroValue50
  t26 := Tryz.underlying9
  a26 := Tryz.isAgg9
  z26 := Tryz.sizeOf9
  v26 := Tryz.zeroValue9
  t28 := Tryz.underlying72
  a28 := Tryz.isAgg72
  z28 := Tryz.sizeOf72
  v28 := Tryz.zeroValue72
  i26 := by kernel_rfl }
def Tryz.sort54_ren : Go.Shelf.Ren := ⟨fun | 6 => 54 | 8 => 64 | 9 => 63 | 19 => 83 | 20 => 84 | 21 => 74 | 22 => 75 | 23 => 76 | 24 => 77 | 25 => 78 | 26 => 79 | 27 => 80 | 28 => 81 | 29 => 82 | 36 => 89 | 31 => 90 | 32 => 91 | 37 => 92 | 38 => 93 | 39 => 94 | 41 => 98 | n => n, fun | 27 => 50 | 29 => 9 | 3 => 3 | 32 => 94 | 26 => 50 | 0 => 0 | 44 => 83 | 46 => 24 | 4 => 4 | 36 => 115 | 35 => 114 | 41 => 120 | 5 => 5 | 9 => 9 | 53 => 129 | 57 => 133 | 63 => 136 | 64 => 137 | n => n, fun | n => n⟩
theorem Tryz.sort54 : Go.Proofs.SlLaysM.n6 Tryz.prog Tryz.sort54_ren := {
  mixed := by kernel_rfl
  f6 := ⟨Tryz.f54.name, by decide, Tryz.func54.trans (congrArg some (by kernel_rfl))⟩
  f8 := Tryz.func64.trans (congrArg some (by kernel_rfl))
  f9 := ⟨Tryz.f63.name, by decide, Tryz.func63.trans (congrArg some (by kernel_rfl))⟩
  f19 := Tryz.func83.trans (congrArg some (by kernel_rfl))
  f20 := Tryz.func84.trans (congrArg some (by kernel_rfl))
  f21 := ⟨Tryz.f74.name, by decide, Tryz.func74.trans (congrArg some (by kernel_rfl))⟩
  f22 := ⟨Tryz.f75.name, by decide, Tryz.func75.trans (congrArg some (by kernel_rfl))⟩
  f23 := ⟨Tryz.f76.name, by decide, Tryz.func76.trans (congrArg some (by kernel_rfl))⟩
  f24 := ⟨Tryz.f77.name, by decide, Tryz.func77.trans (congrArg some (by kernel_rfl))⟩
  f25 := ⟨Tryz.f78.name, by decide, Tryz.func78.trans (congrArg some (by kernel_rfl))⟩
  f26 := ⟨Tryz.f79.name, by decide, Tryz.func79.trans (congrArg some (by kernel_rfl))⟩
  f27 := ⟨Tryz.f80.name, by decide, Tryz.func80.trans (congrArg some (by kernel_rfl))⟩
  f28 := ⟨Tryz.f81.name, by decide, Tryz.func81.trans (congrArg some (by kernel_rfl))⟩
  f29 := ⟨Tryz.f82.name, by decide, Tryz.func82.trans (congrArg some (by kernel_rfl))⟩
  f31 := Tryz.func90.trans (congrArg some (by kernel_rfl))
  f32 := Tryz.func91.trans (congrArg some (by kernel_rfl))
  f36 := ⟨Tryz.f89.name, by decide, Tryz.func89.trans (congrArg some (by kernel_rfl))⟩
  f37 := ⟨Tryz.f92.name, by decide, Tryz.func92.trans (congrArg some (by kernel_rfl))⟩
  f38 := ⟨Tryz.f93.name, by decide, Tryz.func93.trans (congrArg some (by kernel_rfl))⟩
  f39 := ⟨Tryz.f94.name, by decide, Tryz.func94.trans (congrArg some (by kernel_rfl))⟩
  f41 := ⟨Tryz.f98.name, by decide, Tryz.func98.trans (congrArg some (by kernel_rfl))⟩
  t0 := Tryz.underlying0
  a0 := Tryz.isAgg0
  z0 := Tryz.sizeOf0
  v0 := Tryz.zeroValue0
  t3 := Tryz.underlying3
  a3 := Tryz.isAgg3
  z3 := Tryz.sizeOf3
  v3 := Tryz.zeroValue3
  t4 := Tryz.underlying4
  a4 := Tryz.isAgg4
  z4 := Tryz.sizeOf4
  v4 := Tryz.zeroValue4
  t5 := Tryz.underlying5
  a5 := Tryz.isAgg5
  z5 := Tryz.sizeOf5
  v5 := Tryz.zeroValue5
  t9 := Tryz.underlying9
  a9 := Tryz.isAgg9
  z9 := Tryz.sizeOf9
  v9 := Tryz.zeroValue9
  t26 := Tryz.underlying50
  a26 := Tryz.isAgg50
  z26 := Tryz.sizeOf50
  v26 := Tryz.zeroValue50
  t27 := Tryz.underlying50
  a27 := Tryz.isAgg50
  z27 := Tryz.sizeOf50
  v27 := Tryz.zeroValue50
  t29 := Tryz.underlying9
  a29 := Tryz.isAgg9
  z29 := Tryz.sizeOf9
  v29 := Tryz.zeroValue9
  t32 := Tryz.underlying94
  a32 := Tryz.isAgg94
  z32 := Tryz.sizeOf94
  v32 := Tryz.zeroValue94
  t35 := Tryz.underlying114
  a35 := Tryz.isAgg114
  z35 := Tryz.sizeOf114
  v35 := Tryz.zeroValue114
  t36 := Tryz.underlying115
  a36 := Tryz.isAgg115
  z36 := Tryz.sizeOf115
  v36 := Tryz.zeroValue115
  t41 := Tryz.underlying120
  a41 := Tryz.isAgg120
  z41 := Tryz.sizeOf120
  v41 := Tryz.zeroValue120
  t44 := Tryz.underlying83
  a44 := Tryz.isAgg83
  z44 := Tryz.sizeOf83
  v44 := Tryz.zeroValue83
  t46 := Tryz.underlying24
  a46 := Tryz.isAgg24
  z46 := Tryz.sizeOf24
  v46 := Tryz.zeroValue24
  t53 := Tryz.underlying129
  a53 := Tryz.isAgg129
  z53 := Tryz.sizeOf129
  v53 := Tryz.zeroValue129
  t57 := Tryz.underlying133
  a57 := Tryz.isAgg133
  z57 := Tryz.sizeOf133
  v57 := Tryz.zeroValue133
  t63 := Tryz.underlying136
  a63 := Tryz.isAgg136
  z63 := Tryz.sizeOf136
  v63 := Tryz.zeroValue136
  t64 := Tryz.underlying137
  a64 := Tryz.isAgg137
  z64 := Tryz.sizeOf137
  v64 := Tryz.zeroValue137 }
/-- slices.Sort's two contracts at this dump, at the fence that asks nothing. -/
theorem Tryz.sorts33 (m : Nat) : AnyZ.SortsIn Tryz.prog Tryz.sorted33_ren Fence.wide m :=
  ⟨fun blk off cap ss W hH hblk hsz => callsIn_wide.2 (AnyM.slices_Sort_string Tryz.sort54 blk off cap ss W hH hblk hsz),
   fun p cap W => callsIn_wide.2 (AnyM.slices_Sort_string_none Tryz.sort54 p cap W)⟩

/-- **maps.Keys[barograph/disk.names,string,*barograph/disk.file], at whatever map, the nil one too:** a function value over ONE NEW BLOCK, which holds the map. -/
theorem Tryz.maps_Keys (mb : Option Nat) (W : World) : CallsIn Fence.wide 5 Tryz.prog 34 #[.map mb] W fun e w' => e = .returned (.func (.func 55) #[] #[.pointer (some ⟨W.heap.size, 0, none⟩)]) ∧ w' = W.alloc (.cells #[.map mb] 42) :=
  AnyZ.keys_in Tryz.keys34 Fence.wide 5 trivial rfl mb W

set_option maxHeartbeats 1000000 in
/-- **slices.Sorted[string] AT WHAT maps.Keys[barograph/disk.names,string,*barograph/disk.file] HANDED BACK FOR A MAP THAT IS NOT nil** ('w': the world AHEAD of maps.Keys' call): A NEW SLICE THAT HOLDS THE MAP's KEYS, SORTED; nil just where it has none; nothing that lay before has turned. -/
theorem Tryz.slices_Sorted_keys {H : Type} (b nn : Nat) (D0 : DataW H) (R : Value → Option (DataW H × List MemPlace)) (w : World) (hown : w.ownsMap Tryz.prog 9 R b nn D0) (hmax : Maps.size D0 ≤ maxLen) (hbytes : Maps.size D0 * 16 ≤ 140737488355328) :
    CallsIn Fence.wide 5 Tryz.prog 33 #[.func (.func 55) #[] #[.pointer (some ⟨w.heap.size, 0, none⟩)]] (w.alloc (.cells #[.map (some b)] 42)) fun e w' => ∃ (v : Value) (ss : List (List UInt8)), e = .returned v ∧ ss.Perm (strKeys D0) ∧
      w'.ownsRow (w.alloc (.cells #[.map (some b)] 42)).heap.size 9 1 v ss.length ((ss.mergeSort (fun x y => decide (x ≤ y))).map encStr) ∧ (v = .slice none 0 0 ↔ ss = []) ∧ Below (w.alloc (.cells #[.map (some b)] 42)).heap.size (w.alloc (.cells #[.map (some b)] 42)) w' := by
  have hbl := hown.lt
  have hseq : SeqGives Fence.wide 2 Tryz.prog 55 #[.pointer (some ⟨w.heap.size, 0, none⟩)] encStr (fun ss => ss.Perm (strKeys D0)) (Maps.size D0) (w.alloc (.cells #[.map (some b)] 42)) :=
    AnyZ.keys_gives (ρ := Tryz.keys34_ren) { Tryz.keys34 with } Fence.wide _ trivial rfl (by omega) w.heap.size b nn D0 _ (by simp) (by simp) (by
      obtain ⟨es, clock, hb, Ft, hs, hD⟩ := hown
      exact ⟨es, clock, (Below.heap_alloc _ _ b hbl).trans hb, Ft, hs, hD⟩)
  exact AnyZ.sorted_in Tryz.sorted33 Fence.wide 5 trivial trivial trivial trivial rfl (by omega) (Tryz.sorts33 _) (enters_of Tryz.func54 (by kernel_rfl) rfl) 55 #[.pointer (some ⟨w.heap.size, 0, none⟩)] trivial (enters_of Tryz.func55 (by kernel_rfl) rfl) _ _ hmax hbytes _ hseq

set_option maxHeartbeats 1000000 in
/-- **.. AND FOR THE nil MAP: nil.** -/
theorem Tryz.slices_Sorted_keys_nil (w : World) :
    CallsIn Fence.wide 5 Tryz.prog 33 #[.func (.func 55) #[] #[.pointer (some ⟨w.heap.size, 0, none⟩)]] (w.alloc (.cells #[.map none] 42)) fun e w' => ∃ (v : Value) (ss : List (List UInt8)), e = .returned v ∧ ss = [] ∧
      w'.ownsRow (w.alloc (.cells #[.map none] 42)).heap.size 9 1 v ss.length ((ss.mergeSort (fun x y => decide (x ≤ y))).map encStr) ∧ (v = .slice none 0 0 ↔ ss = []) ∧ Below (w.alloc (.cells #[.map none] 42)).heap.size (w.alloc (.cells #[.map none] 42)) w' := by
  have hseq : SeqGives Fence.wide 2 Tryz.prog 55 #[.pointer (some ⟨w.heap.size, 0, none⟩)] encStr (fun ss : List (List UInt8) => ss = []) 0 (w.alloc (.cells #[.map none] 42)) :=
    AnyZ.keys_gives_nil (ρ := Tryz.keys34_ren) { Tryz.keys34 with } Fence.wide _ trivial rfl w.heap.size _ (by simp) (by simp)
  exact AnyZ.sorted_in Tryz.sorted33 Fence.wide 5 trivial trivial trivial trivial rfl (by omega) (Tryz.sorts33 _) (enters_of Tryz.func54 (by kernel_rfl) rfl) 55 #[.pointer (some ⟨w.heap.size, 0, none⟩)] trivial (enters_of Tryz.func55 (by kernel_rfl) rfl) _ 0 (Nat.zero_le _) (by omega) _ hseq
end Go.Proofs

namespace Go.Proofs.YtgdmjdacmebfjaaGreatDoor.D
open Go

def keyLs (l : List (ByteArray × Value)) : List (List UInt8) := l.map fun p => p.1.data.toList
def sortK (l : List (List UInt8)) : List ByteArray := (l.mergeSort fun x y => decide (x ≤ y)).map fun x => ⟨x.toArray⟩
def RU : Value → Option (DataW Unit × List MemPlace) := fun _ => some (.nil, [])
theorem insert_perm {x : Lit × DataW Unit} : ∀ l : List (Lit × DataW Unit), (DataW.insert x l).Perm (x :: l)
  | [] => List.Perm.refl _
  | y :: r => by
    unfold DataW.insert
    split
    · exact List.Perm.refl _
    · exact ((insert_perm r).cons y).trans (List.Perm.swap x y r)
theorem foldr_perm : ∀ l : List (Lit × DataW Unit), (l.foldr DataW.insert []).Perm l
  | [] => List.Perm.refl _
  | x :: l => (insert_perm _).trans ((foldr_perm l).cons x)
theorem own_of {h : Hp} {r : Nat} {l : List (ByteArray × Value)} (H : MapIs h r l) (hs : ∀ p ∈ l, p.1.size ≤ maxLen) (hn : l.length ≤ maxLen) (w : World) (hw : w.heap = h) :
    ∃ D0 : DataW Unit, w.ownsMap PROG T_string RU r l.length D0 ∧ Maps.size D0 = l.length ∧ (Go.strKeys D0).Perm (keyLs l) := by
  obtain ⟨es, clk, m1, m2, m3, m4, m5⟩ := H
  have hlen : es.size = l.length := by
    have := congrArg List.length m2
    simpa using this
  have hu : PROG.underlying T_string = some .string := by kernel_rfl
  have ent : ∀ e ∈ es.toList, ∃ p ∈ l, e.key = .string p.1 := by
    intro e he
    have : (e.key, e.val) ∈ es.toList.map (fun e => (e.key, e.val)) := List.mem_map.2 ⟨e, he, rfl⟩
    rw [m2] at this
    obtain ⟨p, hp, hpe⟩ := List.mem_map.1 this
    exact ⟨p, hp, (congrArg Prod.fst hpe).symm⟩
  have hrd : ∀ e ∈ es.toList, ∀ k, e.key = .string k → k.size ≤ maxLen → WideElems.rd PROG T_string RU e = some (.string k.data.toList, .nil) := by
    intro e _ k hk hks
    unfold WideElems.rd
    rw [hk, WideMaps.keyOf_string_mk hu hks]
    rfl
  have keysE : es.toList.map (fun e => e.key) = l.map (fun p => Value.string p.1) := by
    have := congrArg (List.map Prod.fst) m2
    rw [List.map_map, List.map_map] at this
    exact this
  have rgs : es.toList.map (WideElems.rg PROG T_string RU) = l.map fun p => (Lit.string p.1.data.toList, DataW.nil) := by
    apply List.ext_getElem?
    intro i
    rw [List.getElem?_map, List.getElem?_map]
    have hi := congrArg (fun x => x[i]?) keysE
    simp only [List.getElem?_map] at hi
    cases he : es.toList[i]? with
    | none =>
      rw [he] at hi
      cases hl : l[i]? with
      | none => rfl
      | some p => rw [hl] at hi; cases hi
    | some e =>
      rw [he] at hi
      cases hl : l[i]? with
      | none => rw [hl] at hi; cases hi
      | some p =>
        rw [hl] at hi
        have hk : e.key = .string p.1 := by simpa using hi
        have hm := List.mem_of_getElem? he
        simp only [Option.map_some]
        rw [WideElems.rg_of (hrd e hm p.1 hk (hs p (List.mem_of_getElem? hl)))]
  refine ⟨_, ⟨es, clk, by rw [hw]; exact m1, ⟨by omega, ⟨m3, m4, ?_⟩, fun e he => ?_⟩, by omega, rfl⟩, ?_, ?_⟩
  · rw [keysE]
    have : l.map (fun p => Value.string p.1) = (l.map (·.1)).map Value.string := by rw [List.map_map]; rfl
    rw [this]
    exact List.Pairwise.map _ (fun a b hab e => hab (by injection e)) m5
  · obtain ⟨p, hp, hk⟩ := ent e he
    exact ⟨_, hrd e he p.1 hk (hs p hp)⟩
  · rw [rgs]
    show List.length _ = _
    rw [(foldr_perm _).length_eq, List.length_map]
  · rw [rgs]
    show ((List.foldr DataW.insert [] _).map fun p => strOf p.1).Perm _
    refine ((foldr_perm _).map _).trans ?_
    rw [List.map_map]
    exact List.Perm.refl _

theorem sorted_keys {h : Hp} {r : Nat} {l : List (ByteArray × Value)} {K : Sl → Hp → Prop} (H : MapIs h r l) (hs : ∀ p ∈ l, p.1.size ≤ 1000) (hn : l.length ≤ 1000)
    (hk : ∀ s h', Grow h h' → SlOwn h' s T_string 1 ((sortK (keyLs l)).map Value.string) → (∀ q, s.blk? = some q → h.size ≤ q) → K s h') :
    C_maps_Keys_disk_names_string_disk_file (some r) h fun r9 h8 => C_slices_Sorted_string r9 h8 K := by
  intro w hw
  refine ((callsIn_wide (n := 5)).1 (Tryz.maps_Keys (some r) w)).mono ?_
  rintro e w1 ⟨rfl, rfl⟩
  refine ⟨_, rfl, ⟨_, rfl, ?_⟩, ⟨rfl, rfl, rfl⟩⟩
  intro w2 hw2
  have ew : w2 = World.alloc { w2 with heap := h } (.cells #[.map (some r)] T_disk_names) := by
    have : w2.heap = h.push (.cells #[.map (some r)] T_disk_names) := by rw [hw2, ← hw]; rfl
    unfold World.alloc
    show w2 = { w2 with heap := h.push _ }
    rw [← this]
  obtain ⟨D0, q1, q2, q3⟩ := own_of H (fun p hp => Nat.le_trans (hs p hp) (by decide)) (Nat.le_trans hn (by decide)) { w2 with heap := h } rfl
  have hc := (callsIn_wide (n := 5)).1 (Tryz.slices_Sorted_keys r l.length D0 RU { w2 with heap := h } q1 (by rw [q2]; exact Nat.le_trans hn (by decide)) (by rw [q2]; exact Nat.le_trans (Nat.mul_le_mul_right 16 hn) (by decide)))
  have hsz : (World.alloc { w2 with heap := h } (.cells #[.map (some r)] T_disk_names)).heap.size = h.size + 1 := by
    show (h.push _).size = _
    rw [Array.size_push]
  rw [hw]
  rw [ew]
  refine hc.mono ?_
  rintro e w' ⟨v, ss, rfl, hS, hrow, hnil, hb⟩
  have hg : Grow h w'.heap := ⟨Nat.le_trans (Nat.le_trans (Nat.le_succ _) (Nat.le_of_eq hsz.symm)) hb.size, fun b hb' _ => by
    rw [hb.block b (Nat.lt_of_lt_of_le (Nat.lt_succ_of_lt hb') (Nat.le_of_eq hsz.symm))]
    show (h.push _)[b]? = _
    rw [Array.getElem?_push, if_neg (by omega)]⟩
  have hss : (ss.mergeSort fun x y => decide (x ≤ y)).map Go.Proofs.encStr = (sortK (keyLs l)).map Value.string := by
    rw [mergeSort_of_perm (hS.trans q3)]
    unfold sortK
    rw [List.map_map]
    rfl
  have hlen : ss.length = (sortK (keyLs l)).length := by
    have := congrArg List.length hss
    simpa [sortK] using this
  rw [hss] at hrow
  obtain ⟨r1, r2⟩ := hrow
  rcases r2 with ⟨rfl, r3⟩ | ⟨g, cap, cur, rfl, r3, r4, r5, r6, r7, r8⟩
  · refine ⟨_, rfl, ⟨⟨none, 0, 0⟩, rfl, hk _ _ hg ⟨by rw [r1, r3], .inl ⟨rfl, rfl, rfl⟩⟩ (fun q hq => by simp [Sl.blk?] at hq)⟩, ⟨hb.os, hb.tape, hb.output⟩⟩
  · refine ⟨_, rfl, ⟨⟨some ⟨g, 0, none⟩, ss.length, cap⟩, rfl, hk _ _ hg ⟨r1, .inr ⟨g, 0, cur, rfl, r4, by rw [r7, Nat.zero_add]; exact Nat.le_refl _, r5, fun i hi => ?_⟩⟩ (fun q hq => ?_)⟩, ⟨hb.os, hb.tape, hb.output⟩⟩
    · rw [← r8, Nat.zero_add, List.getElem?_take, if_pos (by rw [r1] at hi; exact hi)]
      exact (Array.getElem?_toList ..).symm
    · have : g = q := by simpa [Sl.blk?] using hq
      rw [← this]
      exact Nat.le_trans (Nat.le_trans (Nat.le_succ _) (Nat.le_of_eq hsz.symm)) r3
end Go.Proofs.YtgdmjdacmebfjaaGreatDoor.D

namespace Go.Proofs.YtgdmjdacmebfjaaGreatDoor.D
open Go

theorem SlOwn.cut {h : Hp} {s : Sl} {t : TypeId} {vs : List Value} (H : SlOwn h s t 1 vs) {i j : Nat} (hi : i ≤ j) (hj : j ≤ s.len) : SlOwn h (slCut s i j 1) t 1 ((vs.drop i).take (j - i)) := by
  obtain ⟨h1, h2⟩ := H
  refine ⟨by show _ = (j - i) * 1; rw [List.length_take, List.length_drop]; omega, ?_⟩
  rcases h2 with ⟨ha, hl, hc⟩ | ⟨b, o, cs, ha, hb, hs, hl, hv⟩
  · refine .inl ⟨?_, by show j - i = 0; omega, by show s.cap - i = 0; omega⟩
    show (if s.cap = i then s.a else s.a.map (·.add (i * 1))) = none
    rw [ha]; split <;> rfl
  · by_cases hci : s.cap = i
    · refine .inr ⟨b, o, cs, ?_, hb, ?_, ?_, fun k hk => ?_⟩
      · show (if s.cap = i then s.a else s.a.map (·.add (i * 1))) = _
        rw [if_pos hci]; exact ha
      · show o + (s.cap - i) * 1 ≤ _; omega
      · show j - i ≤ s.cap - i; omega
      · rw [List.length_take, List.length_drop] at hk; omega
    · refine .inr ⟨b, o + i, cs, ?_, hb, ?_, ?_, fun k hk => ?_⟩
      · show (if s.cap = i then s.a else s.a.map (·.add (i * 1))) = _
        rw [if_neg hci, ha]
        show some ((Addr.mk b o none).add (i * 1)) = _
        rw [addr_add, Nat.mul_one]
      · show o + i + (s.cap - i) * 1 ≤ _; omega
      · show j - i ≤ s.cap - i; omega
      · rw [List.length_take, List.length_drop] at hk
        rw [List.getElem?_take, if_pos (by omega), List.getElem?_drop, Nat.add_assoc]
        exact hv (i + k) (by omega)
theorem slCut_blk {s : Sl} {i j sz : Nat} : (slCut s i j sz).blk? = s.blk? := by
  unfold slCut Sl.blk?
  show (if s.cap = i then s.a else s.a.map (·.add (i * sz))).map _ = _
  split
  · rfl
  · cases s.a with
    | none => rfl
    | some a =>
      show some (a.add (i * sz)).block = some a.block
      unfold Addr.add; split <;> rfl

section
variable {h : Hp} {a : Nat} {D : DS} {O : Nat → Prop}
def DS.names (D : DS) : List ByteArray := if D.dead then [] else sortK (D.now.map fun p => p.1.data.toList)
theorem keyLs_fmap (l : FL) : keyLs (fmap l) = l.map fun p => p.1.data.toList := by
  unfold keyLs fmap
  rw [List.map_map]
  rfl
/-- Few names, and short ones. -/
def FitL (l : FL) : Prop := (∀ p ∈ l, p.1.size ≤ 1000) ∧ l.length ≤ 1000
theorem fit_map {l : FL} (H : FitL l) : (∀ p ∈ fmap l, p.1.size ≤ 1000) ∧ (fmap l).length ≤ 1000 := by
  refine ⟨fun p hp => ?_, by unfold fmap; rw [List.length_map]; exact H.2⟩
  obtain ⟨q, hq, rfl⟩ := List.mem_map.1 hp
  exact H.1 q hq
theorem disk_Names {K : Sl → Hp → Prop} (H : DiskAt h a D O) (hf : FitL D.now) (hk : ∀ s h', Grow h h' → SlOwn h' s T_string 1 (D.names.map Value.string) → (∀ q, s.blk? = some q → h.size ≤ q) → K s h') : C_disk_Disk_Names (some (blk a)) h K := by
  obtain ⟨rn, rl, s, H⟩ := H
  refine S_disk_Disk_Names ⟨blk a, rfl, D.dead, cell_at H.cell rfl, ?_⟩
  unfold DS.names at hk
  by_cases hd : D.dead = true
  · rw [if_pos hd] at hk ⊢
    exact hk _ h (Grow.refl h) .nil (fun q hq => absurd hq (by simp [Sl.blk?]))
  · rw [if_neg hd] at hk ⊢
    refine ⟨some rn, cell_at H.cell rfl, sorted_keys H.now (fit_map hf).1 (fit_map hf).2 fun s h' w hs hq => ?_⟩
    rw [keyLs_fmap] at hs
    exact hk s h' w hs hq

/-! ### A crash -/
def nextK (ks : List Int) (of : Nat) : Nat := match ks with
  | [] => 0
  | k :: _ => (k % 18446744073709551616).toNat % (of + 1)
theorem nextK_le (ks : List Int) (of : Nat) : nextK ks of ≤ of := by
  unfold nextK
  split
  · exact Nat.zero_le _
  · have := Nat.mod_lt ((‹Int› % 18446744073709551616).toNat) (show 0 < of + 1 by omega)
    omega
def i64V (k : Int) : Value := .int .i64 k
/-- What is still kept lies in a box of its own. -/
structure KeepAt (h : Hp) (b : Nat) (t : Sl) (ks : List Int) : Prop where
  box : h[b]? = some (.cells #[t.v] T_sl_int (0, 0))
  own : SlOwn h t T_int 1 (ks.map i64V)
theorem KeepAt.frame {h' : Hp} {b : Nat} {t : Sl} {ks : List Int} (H : KeepAt h b t ks) (e1 : h'[b]? = h[b]?) (e2 : ∀ q, t.blk? = some q → h'[q]? = h[q]?) : KeepAt h' b t ks := ⟨e1.trans H.box, H.own.frame e2⟩
theorem crash_next {b of : Nat} {t : Sl} {ks : List Int} {K : Int → Hp → Prop} (H : KeepAt h b t ks) (hof : of < 4611686018427387904)
    (hk : ∀ h' t', KeepAt h' b t' ks.tail → t'.blk? = t.blk? → (∀ x, x ≠ b → h'[x]? = h[x]?) → h'.size = h.size → K (nextK ks of : Int) h') : C_disk_Disk_Crash_1 (of : Int) (blk b) h K := by
  have hl : t.len = ks.length := by
    have := H.own.1
    rw [List.length_map] at this
    omega
  refine S_disk_Disk_Crash_1 ⟨t, cell_at0 H.box rfl, ?_⟩
  cases ks with
  | nil =>
    rw [if_pos (by rw [hl]; rfl)]
    exact hk h t H rfl (fun _ _ => rfl) rfl
  | cons k r =>
    rw [if_neg (by rw [hl, beq_iff_eq]; simp only [List.length_cons]; omega)]
    obtain ⟨p, p1, p2⟩ := H.own.get (i := 0) (v := i64V k) rfl
    have e1 : IntKind.i64.wrap ((of : Int) + 1) = ((of + 1 : Nat) : Int) := by rw [wrap64] <;> omega
    have e2 : IntKind.u64.wrap ((of + 1 : Nat) : Int) = ((of + 1 : Nat) : Int) := wrapU64 (by omega) (by omega)
    have e3 : IntKind.u64.wrap k = (((k % 18446744073709551616).toNat : Nat) : Int) := by
      have : 0 ≤ k % 18446744073709551616 := Int.emod_nonneg _ (by decide)
      rw [Int.toNat_of_nonneg this]
      simp [IntKind.wrap, IntKind.bits, IntKind.signed]
    simp only [List.length_cons] at hl
    refine ⟨t, cell_at0 H.box rfl, p, p1, by omega, by rw [hl]; omega, k, p2, by rw [e1, e2]; omega, t, cell_at0 H.box rfl, by omega, H.own.len_le, _, cell_at0 H.box rfl, frz_at0 H.box, fun h2 s2 => ?_⟩
    have b2 := set_at0 (cs' := #[(slCut t 1 t.len 1).v]) s2 H.box rfl
    have n2 : ∀ x, x ≠ b → h2[x]? = h[x]? := fun x hx => by rw [s2]; exact setH_ne hx
    have hv : IntKind.i64.wrap (Int.tmod (IntKind.u64.wrap k) (IntKind.u64.wrap (IntKind.i64.wrap ((of : Int) + 1)))) = (nextK (k :: r) of : Int) := by
      rw [e1, e2, e3]
      have ht : Int.tmod (((k % 18446744073709551616).toNat : Nat) : Int) ((of + 1 : Nat) : Int) = (((k % 18446744073709551616).toNat % (of + 1) : Nat) : Int) := rfl
      rw [ht]
      have := nextK_le (k :: r) of
      unfold nextK at this
      simp only [] at this
      rw [wrap64 (Int.le_trans (by decide) (Int.natCast_nonneg _)) (by have := Int.ofNat_le.2 this; omega)]
      rfl
    rw [hv]
    refine hk h2 (slCut t 1 t.len 1) ⟨b2, ?_⟩ slCut_blk n2 (by rw [s2, setH_size])
    have := H.own.cut (i := 1) (j := t.len) (by omega) (Nat.le_refl _)
    rw [List.map_cons, List.drop_one, List.tail_cons, List.take_of_length_le (by rw [List.length_map]; omega)] at this
    exact this.frame (fun q hq => n2 q (by
      rw [slCut_blk] at hq
      obtain ⟨cs, hcs⟩ := H.own.ob hq
      exact ne_tag hcs H.box rfl))

def chgs (l : FL) (cs : List Chg) : FL := cs.foldl (fun l c => c.on l) l
/-- The files behind a crash: what lasts, and of the rest what is kept. -/
def cutF (fs : Nat → ByteArray × Nat) (b n : Nat) : Nat → ByteArray × Nat := fsSet fs b ((fs b).1.extract 0 ((fs b).2 + n), (fs b).2 + n)
def crashF (l : FL) : List ByteArray → List Int → (Nat → ByteArray × Nat) → Nat → ByteArray × Nat
  | [], _, fs => fs
  | k :: ns, ks, fs => match lookL k l with
    | none => fs
    | some b => crashF l ns ks.tail (cutF fs b (nextK ks ((fs b).1.size - (fs b).2)))
def crashL (D : DS) (ks : List Int) : FL := chgs D.lasting (D.chg.take (nextK ks D.chg.length))
def DS.crash (D : DS) (ks : List Int) : DS :=
  ⟨D.room, crashL D ks, crashL D ks, [], false, -1, crashF (crashL D ks) (sortK ((crashL D ks).map fun p => p.1.data.toList)) ks.tail D.fs⟩
def LastsOk (D : DS) : Prop := ∀ b, D.has b → (D.fs b).2 ≤ (D.fs b).1.size ∧ (D.fs b).1.size < 1000000000000
theorem chgs_has {l : FL} : ∀ {cs : List Chg} {k : ByteArray} {b : Nat}, (k, b) ∈ chgs l cs → (∃ k, (k, b) ∈ l) ∨ ∃ c, c ∈ cs ∧ c.blk = some b := by
  intro cs
  induction cs generalizing l with
  | nil => intro k b h; exact .inl ⟨k, h⟩
  | cons c cs ih =>
    intro k b h
    rcases ih h with ⟨k', h'⟩ | ⟨c', h', h2⟩
    · exact (chg_mem h').imp id fun e => ⟨c, List.mem_cons_self .., e⟩
    · exact .inr ⟨c', List.mem_cons_of_mem _ h', h2⟩
theorem fl_look {r : Nat} {l : FL} (H : MapIs h r (fmap l)) (k : ByteArray) : ∃ es, mapEs h (some r) = some es ∧ strKeys es ∧ ((idxS k es 0).map (·.2)).getD (Value.pointer none) = .pointer ((lookL k l).map blk) := by
  obtain ⟨es, h1, h2, h3, _⟩ := H.look k (Value.pointer none)
  refine ⟨es, h1, h2, h3.trans ?_⟩
  rw [fmap_look]
  cases lookL k l <;> rfl
theorem chgs_snoc (l : FL) (cs : List Chg) (c : Chg) : chgs l (cs ++ [c]) = c.on (chgs l cs) := by
  unfold chgs
  rw [List.foldl_append]
  rfl
theorem mem_look {k : ByteArray} : ∀ {l : FL}, k ∈ l.map (·.1) → ∃ b, lookL k l = some b
  | [], h => by cases h
  | p :: l, h => by
    unfold lookL
    by_cases hk : k = p.1
    · exact ⟨p.2, by rw [if_pos hk]⟩
    · rw [if_neg hk]
      rcases List.mem_cons.1 h with h | h
      · exact absurd h hk
      · exact mem_look h
theorem sortK_mem {l : FL} {k : ByteArray} (h : k ∈ sortK (l.map fun p => p.1.data.toList)) : k ∈ l.map (·.1) := by
  unfold sortK at h
  obtain ⟨x, hx, rfl⟩ := List.mem_map.1 h
  rw [List.mem_mergeSort] at hx
  obtain ⟨p, hp, rfl⟩ := List.mem_map.1 hx
  exact List.mem_map.2 ⟨p, hp, by cases p.1; rfl⟩
theorem sortK_len (l : List (List UInt8)) : (sortK l).length = l.length := by
  unfold sortK
  rw [List.length_map, List.length_mergeSort]
theorem DiskB.lasting {rn rl : Nat} {s : Sl} (H : DiskB h a rn rl s D O) {h' : Hp} {L : FL} (hm : MapIs h' rl (fmap L)) (ho : ∀ b, b ≠ rl → h'[b]? = h[b]?) (hs : h'.size = h.size) (hL : ∀ k b, (k, b) ∈ L → D.has b) : DiskB h' a rn rl s { D with lasting := L } O := by
  obtain ⟨vs, c1, c2, c3⟩ := H.chg
  have tag : ∀ (b : Nat) (x : Obj), h[b]? = some x → Nat.beq (obTag x) 0 = false → h'[b]? = some x := fun b x hb hx => (ho b (H.mapNe H.las hb hx)).trans hb
  refine ⟨tag a _ H.cell rfl, H.now.frame (ho _ H.ne), hm, H.ne, ⟨vs, c1.frame fun b hb => ho b ?_, c2, fun i v c hv hc => (c3 i v c hv hc).frame (fun b x _ hx ht => tag b x hx ?_) (fun _ => id)⟩, fun b hb => ?_, H.oa, H.on, H.ol, H.os, fun b hb => by rw [hs]; exact H.lt b hb, H.fuse⟩
  · obtain ⟨cs, hcs⟩ := c1.ob hb
    exact H.mapNe H.las hcs rfl
  · rcases ht with ht | ht <;> (rw [ht]; rfl)
  · have : D.has b := by
      rcases hb with ⟨k, hb⟩ | ⟨k, hb⟩ | ⟨k, hb, he⟩
      · exact .inl ⟨k, hb⟩
      · exact hL k b hb
      · exact .inr (.inr ⟨k, hb, he⟩)
    obtain ⟨q1, q2⟩ := H.file b this
    exact ⟨tag b _ q1 rfl, q2⟩

theorem disk_Crash {t : Sl} {ks : List Int} {K : Hp → Prop} (H : DiskAt h a D O) (ht : SlOwn h t T_int 1 (ks.map i64V)) (hto : ∀ q, t.blk? = some q → ¬ O q) (hn : D.chg.length < 1000000) (hlo : LastsOk D) (hfit : FitL (crashL D ks))
    (hk : ∀ h' O', DiskAt h' a (D.crash ks) O' → Step h O h' O' → K h') : C_disk_Disk_Crash (some (blk a)) t h K := by
  obtain ⟨rn, rl, s, H⟩ := H
  refine S_disk_Disk_Crash fun h1 e1 => ?_
  have z1 : h1.size = h.size + 1 := by rw [e1, Array.size_push]
  have o1 : ∀ b, b < h.size → h1[b]? = h[b]? := fun b hb => by rw [e1, Array.getElem?_push, if_neg (by omega)]
  have H1 : DiskB h1 a rn rl s D O := H.frame (fun b hb => o1 b (H.lt b hb)) (fun _ => id) (fun b hb => by have := H.lt b hb; omega)
  have k1 : KeepAt h1 h.size t ks := ⟨push_new e1, ht.frame (fun q hq => o1 q (ht.lt hq))⟩
  obtain ⟨vs, c1, c2, c3⟩ := H1.chg
  have sl : s.len = D.chg.length := by have := c1.1; omega
  refine ⟨blk a, rfl, some rl, cell_at H1.cell rfl, s, cell_at H1.cell rfl, s, cell_at H1.cell rfl, ?_⟩
  rw [sl]
  refine crash_next k1 (by omega) fun h11 t11 k11 tb11 n11 z11 => ?_
  have notO : ¬ O h.size := fun ho => Nat.lt_irrefl _ (H.lt _ ho)
  have H11 : DiskB h11 a rn rl s D O := H1.frame (fun b hb => n11 b (fun e => notO (e ▸ hb))) (fun _ => id) (fun b hb => by rw [z11]; exact H1.lt b hb)
  have hnk := nextK_le ks D.chg.length
  refine ⟨cell_at H11.cell rfl, cell_at H11.cell rfl, nextK ks D.chg.length, rfl, by omega, by have := c1.len_le; omega, ?_⟩
  refine ⟨fun x g => ∃ j, j ≤ nextK ks D.chg.length ∧ x = (j : Int) ∧ DiskB g a rn rl s { D with lasting := chgs D.lasting (D.chg.take j) } O ∧ (∀ b, b ≠ rl → g[b]? = h11[b]?) ∧ g.size = h11.size,
    fun x _ => nextK ks D.chg.length - x.toNat, ⟨0, by omega, rfl, H11, fun _ _ => rfl, rfl⟩, ?_⟩
  rintro x g ⟨j, hj, rfl, Hg, ng, zg⟩
  unfold D_disk_Disk_Crash_l2
  have cl : (slCut s 0 (nextK ks D.chg.length) 1).len = nextK ks D.chg.length := by show _ - 0 = _; omega
  rw [cl]
  by_cases hjn : j < nextK ks D.chg.length
  · rw [if_pos (decide_eq_true (by omega))]
    obtain ⟨vs', d1, d2, d3⟩ := Hg.chg
    have hjc : j < D.chg.length := by omega
    have hjv : j < vs'.length := by rw [d2]; exact hjc
    have hcv := d3 j vs'[j] D.chg[j] (List.getElem?_eq_getElem hjv) (List.getElem?_eq_getElem hjc)
    have cut := d1.cut (i := 0) (j := nextK ks D.chg.length) (by omega) (by omega)
    obtain ⟨p, p1, p2⟩ := cut.get (i := j) (v := vs'[j]) (by rw [List.drop_zero, List.getElem?_take, if_pos (by omega)]; exact List.getElem?_eq_getElem hjv)
    refine ⟨p, p1, by omega, by omega, vs'[j], p2, chg_call hcv Hg.las fun g2 ob eg2 mg2 => ?_⟩
    have ng2 : ∀ b, b ≠ rl → g2[b]? = g[b]? := fun b hb => by rw [eg2, Array.getElem?_setIfInBounds_ne (Ne.symm hb)]
    have zg2 : g2.size = g.size := by rw [eg2]; simp
    have et : chgs D.lasting (D.chg.take (j + 1)) = D.chg[j].on (chgs D.lasting (D.chg.take j)) := by
      rw [List.take_add_one, List.getElem?_eq_getElem hjc]
      exact chgs_snoc _ _ _
    refine ⟨⟨j + 1, by omega, by rw [wrap64] <;> omega, ?_, fun b hb => (ng2 b hb).trans (ng b hb), by omega⟩, ?_⟩
    · rw [et]
      refine Hg.lasting (L := D.chg[j].on (chgs D.lasting (D.chg.take j))) mg2 ng2 zg2 fun k b hkb => ?_
      rcases chg_mem hkb with h' | h'
      · exact .inr (.inl h')
      · exact .inr (.inr ⟨_, List.getElem_mem hjc, h'⟩)
    · rw [wrap64 (by omega) (by omega)]
      show nextK ks D.chg.length - ((j : Int) + 1).toNat < nextK ks D.chg.length - (j : Int).toNat
      omega
  rw [if_neg (by rw [decide_eq_true_iff]; omega)]
  have hjn' : j = nextK ks D.chg.length := by omega
  subst hjn'
  have Hg : DiskB g a rn rl s { D with lasting := crashL D ks } O := Hg
  have hasD : ∀ b, ({ D with lasting := crashL D ks } : DS).has b → D.has b := by
    rintro b (⟨k, hb⟩ | ⟨k, hb⟩ | ⟨k, hb, he⟩)
    · exact .inl ⟨k, hb⟩
    · rcases chgs_has hb with h' | ⟨c, h', h2⟩
      · exact .inr (.inl h')
      · exact .inr (.inr ⟨c, List.mem_of_mem_take h', h2⟩)
    · exact .inr (.inr ⟨k, hb, he⟩)
  refine sorted_keys Hg.las (fit_map hfit).1 (fit_map hfit).2 fun s36 h35 w35 own36 new36 => ?_
  rw [keyLs_fmap] at own36
  have H35 : DiskB h35 a rn rl s { D with lasting := crashL D ks } O := Hg.frame (fun b hb => w35.same b (Hg.lt b hb) id) (fun _ => id) (fun b hb => Nat.lt_of_lt_of_le (Hg.lt b hb) w35.size)
  have tlt : ∀ q, t.blk? = some q → q < h.size := fun q hq => ht.lt hq
  have k35 : KeepAt h35 h.size t11 ks.tail := by
    refine k11.frame ?_ (fun q hq => ?_)
    · rw [w35.same _ (by omega) id, ng _ (fun e => notO (by rw [e]; exact Hg.ol))]
    · rw [tb11] at hq
      have := tlt q hq
      rw [w35.same _ (by omega) id, ng _ (fun e => hto q hq (by rw [e]; exact Hg.ol))]
  have hg36 : ∀ q, s36.blk? = some q → ¬ O q ∧ q ≠ h.size := fun q hq => ⟨fun ho => by have := Hg.lt q ho; have := new36 q hq; omega, by have := new36 q hq; omega⟩
  refine ⟨fun x g' => ∃ (i : Nat) (fs' : Nat → ByteArray × Nat) (ks' : List Int) (t' : Sl), i ≤ (sortK ((crashL D ks).map fun p => p.1.data.toList)).length ∧ x = (i : Int) ∧ DiskB g' a rn rl s { D with lasting := crashL D ks, fs := fs' } O ∧ KeepAt g' h.size t' ks' ∧ t'.blk? = t.blk? ∧
      crashF (crashL D ks) ((sortK ((crashL D ks).map fun p => p.1.data.toList)).drop i) ks' fs' = crashF (crashL D ks) (sortK ((crashL D ks).map fun p => p.1.data.toList)) ks.tail D.fs ∧
      (∀ b, D.has b → (fs' b).2 ≤ (fs' b).1.size ∧ (fs' b).1.size < 1000000000000) ∧ (∀ b, ¬ O b → b ≠ h.size → g'[b]? = h35[b]?) ∧ g'.size = h35.size,
    fun x _ => (sortK ((crashL D ks).map fun p => p.1.data.toList)).length - x.toNat, ⟨0, D.fs, ks.tail, t11, by omega, rfl, H35, k35, tb11, rfl, hlo, fun _ _ _ => rfl, rfl⟩, ?_⟩
  rintro x g' ⟨i, fs', ks', t', hi, rfl, B, kp, tb', hcf, hlo', ng', zg'⟩
  have own' : SlOwn g' s36 T_string 1 ((sortK ((crashL D ks).map fun p => p.1.data.toList)).map Value.string) := own36.frame (fun q hq => ng' q (hg36 q hq).1 (hg36 q hq).2)
  have len36 : s36.len = (sortK ((crashL D ks).map fun p => p.1.data.toList)).length := by
    have := own'.1
    rw [List.length_map] at this
    omega
  have nl : (sortK ((crashL D ks).map fun p => p.1.data.toList)).length ≤ 1000 := by rw [sortK_len, List.length_map]; exact hfit.2
  unfold D_disk_Disk_Crash_l1
  rw [len36]
  by_cases hil : i < (sortK ((crashL D ks).map fun p => p.1.data.toList)).length
  · rw [if_pos (decide_eq_true (by omega))]
    obtain ⟨p, p1, p2⟩ := own'.get (i := i) (by rw [List.getElem?_map, List.getElem?_eq_getElem hil]; rfl)
    obtain ⟨b, hb⟩ := mem_look (sortK_mem (List.getElem_mem hil))
    obtain ⟨es, m1, m2, m3⟩ := fl_look B.las (sortK ((crashL D ks).map fun p => p.1.data.toList))[i]
    rw [hb] at m3
    have hh : ({ D with lasting := crashL D ks, fs := fs' } : DS).has b := .inr (.inl ⟨_, lookL_mem hb⟩)
    obtain ⟨q1, q2⟩ := B.file b hh
    have hlb := hlo' b (hasD b hh)
    refine ⟨p, p1, by omega, by omega, _, p2, es, m1, m2, some (blk b), m3, blk b, rfl, ((fs' b).2 : Int), cell_at q1 rfl, (fs' b).1, cell_at q1 rfl, ((fs' b).2 : Int), cell_at q1 rfl, ?_⟩
    rw [show (((fs' b).1.size : Int) - ((fs' b).2 : Int)) = (((fs' b).1.size - (fs' b).2 : Nat) : Int) by omega, wrap64 (by omega) (by omega)]
    refine crash_next kp (by omega) fun g2 t2 kp2 tb2 n2 z2 => ?_
    have hnk2 := nextK_le ks' ((fs' b).1.size - (fs' b).2)
    have bO : b ≠ h.size := fun e => notO (e ▸ q2)
    have B2 : DiskB g2 a rn rl s { D with lasting := crashL D ks, fs := fs' } O := B.frame (fun x hx => n2 x (fun e => notO (e ▸ hx))) (fun _ => id) (fun x hx => by rw [z2]; exact B.lt x hx)
    have c2 := (B2.file b hh).1
    refine ⟨cell_at c2 rfl, cell_at c2 rfl, cell_at c2 rfl, _, cell_at c2 rfl, frz_at c2, fun g3 e3 => ?_⟩
    have c3 := set_at (cs' := #[.string (fs' b).1, .int .i64 (((fs' b).2 + nextK ks' ((fs' b).1.size - (fs' b).2) : Nat) : Int)]) e3 c2 (by rw [wrap64 (by omega) (by omega)]; rfl)
    refine ⟨(fs' b).1, cell_at c3 rfl, _, cell_at c3 rfl, _, rfl, by omega, by omega, _, cell_at c3 rfl, frz_at c3, fun g4 e4 => ?_⟩
    have c4 := set_at (cs' := #[.string ((fs' b).1.extract 0 ((fs' b).2 + nextK ks' ((fs' b).1.size - (fs' b).2))), .int .i64 (((fs' b).2 + nextK ks' ((fs' b).1.size - (fs' b).2) : Nat) : Int)]) e4 c3 rfl
    have n4 : ∀ x, x ≠ b → g4[x]? = g2[x]? := fun x hx => by rw [e4, setH_ne (by rw [blk_add]; exact hx), e3, setH_ne (by rw [blk_add]; exact hx)]
    have z4 : g4.size = g2.size := by rw [e4, setH_size, e3, setH_size]
    have B4 := B2.swapFile (f := ((fs' b).1.extract 0 ((fs' b).2 + nextK ks' ((fs' b).1.size - (fs' b).2)), (fs' b).2 + nextK ks' ((fs' b).1.size - (fs' b).2))) hh c4 n4 z4
    refine ⟨⟨i + 1, cutF fs' b (nextK ks' ((fs' b).1.size - (fs' b).2)), ks'.tail, t2, by omega, by rw [wrap64] <;> omega, B4, ?_, by rw [tb2, tb'], ?_, ?_, fun x hx hx2 => ?_, by omega⟩, ?_⟩
    · refine kp2.frame (n4 _ (fun e => bO e.symm)) (fun q hq => n4 q (fun e => ?_))
      rw [tb2, tb'] at hq
      exact hto q hq (e ▸ q2)
    · rw [← hcf, List.drop_eq_getElem_cons hil]
      rw [crashF, hb]
    · intro x hx
      unfold cutF fsSet
      by_cases hxb : x = b
      · rw [if_pos hxb]
        simp only []
        rw [ByteArray.size_extract]
        omega
      · rw [if_neg hxb]; exact hlo' x hx
    · rw [n4 x (fun e => hx (by rw [e]; exact q2)), n2 x hx2]
      exact ng' x hx hx2
    · rw [wrap64 (by omega) (by omega)]
      show (sortK ((crashL D ks).map fun p => p.1.data.toList)).length - ((i : Int) + 1).toNat < (sortK ((crashL D ks).map fun p => p.1.data.toList)).length - (i : Int).toNat
      omega
  · rw [if_neg (by rw [decide_eq_true_iff]; omega)]
    rw [List.drop_of_length_le (by omega)] at hcf
    have hcf : fs' = crashF (crashL D ks) (sortK ((crashL D ks).map fun p => p.1.data.toList)) ks.tail D.fs := by rw [← hcf]; rfl
    refine ⟨D.room, cell_at B.cell rfl, clone_map B.las fun h82 m82 e82 => ?_⟩
    obtain ⟨o82, e82⟩ := e82
    have a82 := push_old e82 B.cell
    obtain ⟨r1, r2⟩ := puts_all (vs := [Value.int .i64 D.room, Value.map (some rl), Value.map (some g'.size), Sl.v (Sl.mk none 0 0), Value.bool false, Value.int .i64 (-1)]) a82 rfl (by intro v hv; simp at hv; rcases hv with rfl | rfl | rfl | rfl | rfl | rfl <;> trivial)
    refine ⟨cell_at a82 rfl, r1, fun h84 e84 => ?_⟩
    have a84 : h84[a]? = some (diskOb (D.crash ks) rl g'.size ⟨none, 0, 0⟩) := by rw [e84]; exact r2
    have z82 : h82.size = g'.size + 1 := by rw [e82, Array.size_push]
    have z84 : h84.size = h82.size := by rw [e84, putsFrom_size]
    have n84 : ∀ x, x ≠ a → h84[x]? = h82[x]? := fun x hx => by rw [e84]; exact putsFrom_ne hx _ _ _
    have n82 : ∀ x, x < g'.size → h82[x]? = g'[x]? := fun x hx => by rw [e82, Array.getElem?_push, if_neg (by omega)]
    have la := lt_of_some B.cell
    have nrl : rl ≠ a := (B.mapNe B.las B.cell rfl).symm
    refine hk h84 (fun b => O b ∨ b = g'.size) ⟨rl, g'.size, ⟨none, 0, 0⟩, ⟨a84, ?_, ?_, by have := B.las.lt; omega, ⟨[], .nil, rfl, fun i v c hv _ => by simp at hv⟩, fun b hb => ?_, .inl B.oa, .inl B.ol, .inr rfl, fun b hb => absurd hb (by simp [Sl.blk?]), fun b hb => ?_, ⟨by show (-1 : Int) ≤ -1; decide, by show (-1 : Int) ≤ _; decide⟩⟩⟩ ⟨⟨?_, fun b hb hnb => ?_⟩, fun b hb => hb.imp id (fun e => ?_)⟩
    · exact B.las.frame (by rw [n84 _ nrl, n82 _ B.las.lt])
    · exact m82.frame (n84 _ (by omega))
    · have hb' : ({ D with lasting := crashL D ks, fs := fs' } : DS).has b := by
        rcases hb with ⟨k, hb⟩ | ⟨k, hb⟩ | ⟨k, hb, he⟩
        · exact .inr (.inl ⟨k, hb⟩)
        · exact .inr (.inl ⟨k, hb⟩)
        · cases hb
      obtain ⟨q1, q2⟩ := B.file b hb'
      refine ⟨?_, .inl q2⟩
      rw [n84 _ (ne_tag q1 B.cell rfl), n82 _ (lt_of_some q1), q1]
      show some (fileOb (fs' b)) = some (fileOb ((D.crash ks).fs b))
      unfold DS.crash
      rw [hcf]
    · rcases hb with hb | hb
      · have := B.lt b hb; omega
      · omega
    · have := w35.size; omega
    · have hbs : b ≠ h.size := by omega
      have := w35.size
      rw [n84 b (fun e => hnb (by rw [e]; exact B.oa)), n82 b (by omega), ng' b hnb hbs, w35.same b (by omega) id, ng b (fun e => hnb (by rw [e]; exact B.ol)), n11 b hbs, o1 b hb]
    · have := w35.size; omega
end
end Go.Proofs.YtgdmjdacmebfjaaGreatDoor.D
