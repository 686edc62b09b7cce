/-
  The law is proved, for every input: the statement of the row and the statement of the card. No conditions of the text itself.
-/
import Derived.Test.YtgdmjdacmebfjaaGreatDoorMe
import Derived.Test.YtgdmjdacmebfjaaGreatDoorMd
import Derived.Below
import Derived.ChangeSlices
import Derived.SizedLaws
import Derived.Test.YtgdmjdacmebfjaaGreatDoorCards
import Derived.Test.YtgdmjdacmebfjaaGreatDoorTie
import Derived.WalkKit
import Derived.ProofKit
import Derived.OpenShut
import Derived.Deep.DeepHandedRow
import Derived.Lib.LaidTab
namespace Go.Proofs.YtgdmjdacmebfjaaGreatDoor.D
open Go

theorem frame_y : (getFrame ((frameOf (.mk #[121])).extract 0 (frameOf (.mk #[121])).size)) = (1, .mk #[121], 8, 0) := by kernel_rfl
theorem size_y : (frameOf (.mk #[121])).size = 8 := by kernel_rfl
theorem size_x : (frameOf (.mk #[120])).size = 8 := by kernel_rfl
def fileAB : ByteArray := frameOf (.mk #[97]) ++ frameOf (.mk #[98])
def fileABC : ByteArray := fileAB ++ frameOf (.mk #[99])
theorem size_a : (frameOf (.mk #[97])).size = 8 ∧ (frameOf (.mk #[98])).size = 8 ∧ (frameOf (.mk #[99])).size = 8 := ⟨by kernel_rfl, by kernel_rfl, by kernel_rfl⟩
theorem cut_ab : fileABC.extract 0 16 = fileAB := by kernel_rfl
theorem parsed_ab : parsed 1 fileAB = ⟨1, [0, 8], 16, false⟩ := by kernel_rfl
theorem get_b : getFrame (fileAB.extract 8 fileAB.size) = (1, .mk #[98], 8, 0) := by kernel_rfl
theorem num_1 : numberN (nameB 1) = 1 := by kernel_rfl
theorem sort_1 : sortK [(nameB 1).data.toList] = [nameB 1] := by
  unfold sortK
  rw [List.mergeSort_singleton]
  rfl

/-! ### Names -/
theorem dig (d : Nat) (h : d < 10) : (UInt8.ofNat (48 + d)).toNat = 48 + d ∧ UInt8.ofNat (48 + d) ∈ signsB.data.toList := by
  have : ∀ d : Fin 10, (UInt8.ofNat (48 + d.val)).toNat = 48 + d.val ∧ UInt8.ofNat (48 + d.val) ∈ signsB.data.toList := by decide
  exact this ⟨d, h⟩
theorem numF_dec : ∀ (k n acc : Nat), numF (dec k n) acc = acc * 10 ^ k + n % 10 ^ k
  | 0, n, acc => by simp [dec, numF, Nat.mod_one]
  | k + 1, n, acc => by
    obtain ⟨h1, _⟩ := dig (n / 10 ^ k % 10) (Nat.mod_lt _ (by decide))
    have hm : n / 10 ^ k % 10 < 10 := Nat.mod_lt _ (by decide)
    simp only [dec, numF]
    rw [h1, if_neg (by omega), numF_dec k n, Nat.mod_pow_succ, Nat.pow_succ, Nat.add_sub_cancel_left, Nat.add_mul, Nat.mul_comm 10 acc, Nat.mul_assoc acc 10, Nat.mul_comm 10 (10 ^ k), Nat.mul_comm (10 ^ k) (n / 10 ^ k % 10)]
    omega
theorem name_size (n : Nat) : (nameB n).size = 9 := by
  rw [size_len]
  show (nameL n).length = 9
  simp [nameL, dec_len]
theorem number_name {n : Nat} (h : n < 100000000) : numberN (nameB n) = n := by
  unfold numberN
  rw [if_pos ⟨name_size n, rfl⟩]
  show numF (dec 8 n) 0 = n
  rw [numF_dec]
  have : n % 10 ^ 8 = n := Nat.mod_eq_of_lt (by simpa using h)
  rw [this]; simp
theorem name_inj {n m : Nat} (hn : n < 100000000) (hm : m < 100000000) (h : nameB n = nameB m) : n = m := by
  rw [← number_name hn, ← number_name hm, h]
theorem dec_signs : ∀ (k n : Nat), ∀ x ∈ dec k n, x ∈ signsB.data.toList
  | 0, _, x, h => by cases h
  | k + 1, n, x, h => by
    rcases List.mem_cons.1 h with h | h
    · rw [h]; exact (dig _ (Nat.mod_lt _ (by decide))).2
    · exact dec_signs k n x h
theorem right_name (n : Nat) : rightP (nameB n) := by
  refine ⟨by rw [name_size]; decide, by rw [name_size]; decide, fun x hx => ?_⟩
  have hx : x ∈ nameL n := hx
  rcases List.mem_cons.1 hx with h | h
  · rw [h]; decide
  · exact dec_signs 8 n x h

/-! ### A disk that lives -/
def Live (D : DS) : Prop := D.dead = false ∧ D.fuse = -1
theorem live_write {D : DS} (h : Live D) : D.write = (true, D) := by
  obtain ⟨h1, h2⟩ := h
  unfold DS.write
  rw [if_neg (by rw [h2]; decide), if_neg (by rw [h1]; decide)]
  cases D
  simp only [] at h2
  subst h2
  rfl
theorem look_none {k : ByteArray} : ∀ {l : FL}, k ∉ l.map (·.1) → lookL k l = none
  | [], _ => rfl
  | p :: l, h => by
    simp only [List.map_cons, List.mem_cons, not_or] at h
    unfold lookL
    rw [if_neg h.1]
    exact look_none h.2
theorem put_new {k : ByteArray} {b : Nat} : ∀ {l : FL}, k ∉ l.map (·.1) → putL k b l = l ++ [(k, b)]
  | [], _ => rfl
  | p :: l, h => by
    simp only [List.map_cons, List.mem_cons, not_or] at h
    unfold putL
    rw [if_neg h.1, put_new h.2]
    rfl
theorem used_le {B : Nat} : ∀ {l : FL} {fs : Nat → ByteArray × Nat}, (∀ x, (fs x).1.size ≤ B) → (l.map fun p => (fs p.2).1.size).sum ≤ l.length * B
  | [], _, _ => by simp
  | p :: l, fs, h => by
    have := used_le (l := l) h
    simp only [List.map_cons, List.sum_cons, List.length_cons]
    have hp := h p.2
    rw [Nat.add_mul]
    omega

/-! ### Records are written -/
/-- What stands behind i Appends, whatever they said. -/
structure W (i : Nat) (L : LS) (D : DS) : Prop where
  live : Live D
  room : D.room = 1048576
  names : D.now.map (·.1) = L.segs.map fun b => nameB (L.sg b).first
  nodup : (L.segs.map fun b => (L.sg b).first).Nodup
  last : L.last ≤ i
  segs : L.segs.length ≤ i
  chg : D.chg.length ≤ i
  seg : ∀ b, b ∈ L.segs → (L.sg b).first ≤ L.last ∧ (L.sg b).places.length ≤ i ∧ (L.sg b).size ≤ 8 * i
  hand : ∀ b, L.hand = some b → b ∈ L.segs ∧ (L.sg b).places ≠ []
  fs : ∀ x, (D.fs x).1.size ≤ 8 * i
theorem W.ok {i : Nat} {L : LS} {D : DS} (H : W i L D) (hi : i ≤ 1000) : L.Ok ∧ D.Ok := by
  have hl := congrArg List.length H.names
  rw [List.length_map, List.length_map] at hl
  have h1 := H.last
  have h2 := H.segs
  have h3 := H.chg
  refine ⟨⟨by omega, by omega, H.hand, fun b hb => ?_⟩, ⟨by omega, by rw [H.room]; decide, ?_⟩⟩
  · obtain ⟨q1, q2, q3⟩ := H.seg b hb
    exact ⟨⟨by omega, by omega⟩, by omega, by omega⟩
  · have := used_le (l := D.now) H.fs
    unfold DS.used
    have h5 : D.now.length * (8 * i) ≤ 1000 * (8 * 1000) := Nat.mul_le_mul (by omega) (by omega)
    omega
theorem W.same {i : Nat} {L : LS} {D : DS} (H : W i L D) : W (i + 1) L D :=
  ⟨H.live, H.room, H.names, H.nodup, by have := H.last; omega, by have := H.segs; omega, by have := H.chg; omega, fun b hb => by
    obtain ⟨q1, q2, q3⟩ := H.seg b hb
    exact ⟨q1, by omega, by omega⟩, H.hand, fun x => by have := H.fs x; omega⟩
theorem W.app {i b fb : Nat} {L : LS} {D : DS} {s : ByteArray} (H : W i L D) (hi : i ≤ 1000) (hs : (frameOf s).size = 8) (hb : b ∉ L.segs) : W (i + 1) (L.app s b) (D.put (nameB L.cur.first) (frameOf s) fb) := by
  have hlw := live_write H.live
  have hL := H.last
  unfold LS.app
  cases hr : L.reuse with
  | some c =>
    have hc : c ∈ L.segs := by
      unfold LS.reuse at hr
      cases hh : L.hand with
      | none => rw [hh] at hr; cases hr
      | some b' =>
        rw [hh] at hr
        simp only [] at hr
        split at hr
        · cases hr; exact (H.hand _ hh).1
        · cases hr
    have hcur : L.cur = L.sg c := by unfold LS.cur; rw [hr]
    rw [hcur]
    have hin : nameB (L.sg c).first ∈ D.now.map (·.1) := by rw [H.names]; exact List.mem_map.2 ⟨c, hc, rfl⟩
    obtain ⟨f, hf⟩ := mem_look hin
    unfold DS.put
    rw [hf, hlw]
    simp only []
    have fir : ∀ y, (sgSet L.sg c ((L.sg c).more (frameOf s).size) y).first = (L.sg y).first := fun y => by
      by_cases hy : y = c
      · rw [hy, sgSet_same]; rfl
      · rw [sgSet_ne _ _ hy]
    refine ⟨H.live, H.room, ?_, ?_, by show L.last + 1 ≤ _; omega, by have := H.segs; show L.segs.length ≤ _; omega, by have := H.chg; show D.chg.length ≤ _; omega, fun y hy => ?_, fun y hy => ?_, fun x => ?_⟩
    · show D.now.map (·.1) = L.segs.map fun y => nameB (sgSet L.sg c _ y).first
      rw [H.names]
      exact List.map_congr_left fun y _ => by rw [fir]
    · show (L.segs.map fun y => (sgSet L.sg c _ y).first).Nodup
      rw [List.map_congr_left (g := fun b => (L.sg b).first) fun y _ => fir y]
      exact H.nodup
    · show (sgSet L.sg c _ y).first ≤ L.last + 1 ∧ (sgSet L.sg c _ y).places.length ≤ i + 1 ∧ (sgSet L.sg c _ y).size ≤ 8 * (i + 1)
      rw [fir]
      obtain ⟨q1, q2, q3⟩ := H.seg y hy
      by_cases hyc : y = c
      · rw [hyc, sgSet_same]
        rw [hyc] at q1 q2 q3
        show _ ∧ ((L.sg c).places ++ [_]).length ≤ _ ∧ (L.sg c).size + _ ≤ _
        rw [List.length_append, hs]
        simp only [List.length_singleton]
        exact ⟨by omega, by omega, by omega⟩
      · rw [sgSet_ne _ _ hyc]
        exact ⟨by omega, by omega, by omega⟩
    · have hy : some c = some y := hy
      cases hy
      refine ⟨hc, ?_⟩
      show (sgSet L.sg c _ c).places ≠ []
      rw [sgSet_same]
      show (L.sg c).places ++ [_] ≠ []
      simp
    · show ((fsSet D.fs f ((D.fs f).1 ++ frameOf s, (D.fs f).2)) x).1.size ≤ _
      unfold fsSet
      by_cases hx : x = f
      · rw [if_pos hx]
        show ((D.fs f).1 ++ frameOf s).size ≤ _
        rw [ByteArray.size_append, hs]
        have := H.fs f; omega
      · rw [if_neg hx]
        have := H.fs x; omega
  | none =>
    have hcur : L.cur = ⟨L.last + 1, [], 0, false⟩ := by unfold LS.cur; rw [hr]
    rw [hcur]
    simp only []
    have hnin : nameB (L.last + 1) ∉ D.now.map (·.1) := by
      rw [H.names]
      intro hm
      obtain ⟨c, hc, he⟩ := List.mem_map.1 hm
      obtain ⟨q1, _⟩ := H.seg c hc
      have := name_inj (by omega) (by omega) he
      omega
    unfold DS.put
    rw [look_none hnin, hlw]
    simp only []
    have sgb : ∀ y, y ≠ b → ((L.begin_ b).wrote b (frameOf s).size).sg y = L.sg y := fun y hy => by
      show sgSet (sgSet L.sg b _) b _ y = _
      rw [sgSet_ne _ _ hy, sgSet_ne _ _ hy]
    have sgb' : ((L.begin_ b).wrote b (frameOf s).size).sg b = ⟨L.last + 1, [0], 8, true⟩ := by
      show sgSet (sgSet L.sg b _) b ((sgSet L.sg b ⟨L.last + 1, [], 0, false⟩ b).more (frameOf s).size) b = _
      rw [sgSet_same, sgSet_same, Seg.more, hs]; rfl
    have nb : ∀ y, y ∈ L.segs → y ≠ b := fun y hy e => hb (e ▸ hy)
    refine ⟨H.live, H.room, ?_, ?_, by show L.last + 1 ≤ _; omega, by have := H.segs; show (L.segs ++ [b]).length ≤ _; rw [List.length_append]; simp only [List.length_singleton]; omega, by have := H.chg; show (D.chg ++ [_]).length ≤ _; rw [List.length_append]; simp only [List.length_singleton]; omega, fun y hy => ?_, fun y hy => ?_, fun x => ?_⟩
    · show (putL _ fb D.now).map (·.1) = (L.segs ++ [b]).map _
      rw [put_new hnin, List.map_append, List.map_append, H.names]
      congr 1
      · exact List.map_congr_left fun y hy => by
          show nameB (L.sg y).first = nameB (((L.begin_ b).wrote b (frameOf s).size).sg y).first
          rw [sgb y (nb y hy)]
      · show [nameB (L.last + 1)] = [nameB (((L.begin_ b).wrote b (frameOf s).size).sg b).first]
        rw [sgb']
    · show ((L.segs ++ [b]).map fun y => (((L.begin_ b).wrote b (frameOf s).size).sg y).first).Nodup
      rw [List.map_append, List.map_congr_left (g := fun b => (L.sg b).first) fun y hy => by rw [sgb y (nb y hy)]]
      rw [List.nodup_append]
      refine ⟨H.nodup, by simp, fun x hx y hy => ?_⟩
      obtain ⟨c, hc, rfl⟩ := List.mem_map.1 hx
      rw [List.map_cons, List.map_nil, List.mem_singleton] at hy
      rw [hy, sgb']
      obtain ⟨q1, _⟩ := H.seg c hc
      simp only []
      omega
    · show (((L.begin_ b).wrote b (frameOf s).size).sg y).first ≤ L.last + 1 ∧ (((L.begin_ b).wrote b (frameOf s).size).sg y).places.length ≤ i + 1 ∧ (((L.begin_ b).wrote b (frameOf s).size).sg y).size ≤ 8 * (i + 1)
      by_cases hyb : y = b
      · rw [hyb, sgb']
        simp only [List.length_singleton]
        exact ⟨by omega, by omega, by omega⟩
      · rw [sgb y hyb]
        have hyl : y ∈ L.segs := (List.mem_append.1 hy).elim id (fun h => absurd (List.mem_singleton.1 h) hyb)
        obtain ⟨q1, q2, q3⟩ := H.seg y hyl
        exact ⟨by omega, by omega, by omega⟩
    · have hy : some b = some y := hy
      cases hy
      refine ⟨List.mem_append_right _ (List.mem_singleton.2 rfl), ?_⟩
      show (((L.begin_ b).wrote b (frameOf s).size).sg b).places ≠ []
      rw [sgb']
      simp
    · show ((fsSet D.fs fb (frameOf s, 0)) x).1.size ≤ _
      unfold fsSet
      by_cases hx : x = fb
      · rw [if_pos hx]; show (frameOf s).size ≤ _; omega
      · rw [if_neg hx]
        have := H.fs x; omega
end Go.Proofs.YtgdmjdacmebfjaaGreatDoor.D

namespace Go.Proofs.YtgdmjdacmebfjaaGreatDoor.D
open Go

theorem reset_live {sg : Nat → Seg} : ∀ (r : List Nat) (D : DS), Live D → D.now.map (·.1) = r.map (fun b => nameB (sg b).first) → (r.map fun b => (sg b).first).Nodup → (∀ b, b ∈ r → (sg b).first < 100000000) →
    ∃ D', resetL sg r D = (0, [], D') ∧ D'.now = [] ∧ Live D' ∧ D'.room = D.room ∧ D'.chg.length = D.chg.length + r.length
  | [], D, hl, hn, _, _ => ⟨D, rfl, List.map_eq_nil_iff.1 hn, hl, rfl, rfl⟩
  | b :: r, D, hl, hn, hd, hf => by
    cases hnow : D.now with
    | nil => rw [hnow] at hn; cases hn
    | cons p l =>
      rw [hnow] at hn
      simp only [List.map_cons, List.cons.injEq] at hn
      simp only [List.map_cons, List.nodup_cons] at hd
      have hlook : lookL (nameB (sg b).first) D.now = some p.2 := by
        rw [hnow]; unfold lookL; rw [if_pos hn.1.symm]
      have hrem : D.remove (nameB (sg b).first) = (0, D.change (.del (nameB (sg b).first))) := by
        unfold DS.remove
        rw [live_write hl, if_pos rfl, hlook]
      have hdel : delL (nameB (sg b).first) D.now = l := by
        rw [hnow]
        unfold delL
        rw [List.filter_cons, if_neg (by simp [hn.1])]
        rw [List.filter_eq_self]
        intro q hq
        have hqm : q.1 ∈ l.map (·.1) := List.mem_map.2 ⟨q, hq, rfl⟩
        rw [hn.2] at hqm
        obtain ⟨c, hc, he⟩ := List.mem_map.1 hqm
        have : q.1 ≠ nameB (sg b).first := fun e => by
          have := name_inj (hf c (List.mem_cons_of_mem _ hc)) (hf b (List.mem_cons_self ..)) (he.trans e)
          exact hd.1 (List.mem_map.2 ⟨c, hc, this⟩)
        simpa using this
      obtain ⟨D', d1, d2, d3, d4, d5⟩ := reset_live r (D.change (.del (nameB (sg b).first))) hl (by show (delL _ D.now).map _ = _; rw [hdel]; exact hn.2) hd.2 (fun c hc => hf c (List.mem_cons_of_mem _ hc))
      refine ⟨D', ?_, d2, d3, d4, ?_⟩
      · rw [resetL, hrem, if_pos rfl]; exact d1
      · rw [d5]
        have : (D.change (.del (nameB (sg b).first))).chg.length = D.chg.length + 1 := by
          show (D.chg ++ [Chg.del (nameB (sg b).first)]).length = _
          rw [List.length_append]; rfl
        rw [this]
        simp only [List.length_cons]
        omega
theorem W.reset {i n : Nat} {L : LS} {D : DS} (H : W i L D) (hi : i ≤ 1000) : ∃ D', resetS L D n = (0, { L with segs := [], hand := none, last := n, durable := n, begun := false }, D') ∧ D'.now = [] ∧ D'.lasting = [] ∧ D'.chg = [] ∧ Live D' ∧ D'.room = 1048576 := by
  obtain ⟨D1, d1, d2, d3, d4, _⟩ := reset_live (sg := L.sg) L.segs D H.live H.names H.nodup (fun b hb => by have := (H.seg b hb).1; have := H.last; omega)
  refine ⟨D1.syncNames.2, ?_, ?_⟩
  · unfold resetS
    rw [d1, if_pos rfl]
    unfold standsS
    rw [live_write d3, if_pos rfl]
  · unfold DS.syncNames
    rw [live_write d3, if_pos rfl]
    exact ⟨d2, d2, rfl, d3, by rw [← H.room, ← d4]⟩
theorem sortK_nil : sortK [] = [] := by unfold sortK; rw [List.mergeSort_nil]; rfl
theorem crash_empty {D : DS} {ks : List Int} (h1 : D.lasting = []) (h2 : D.chg = []) : D.crash ks = ⟨D.room, [], [], [], false, -1, D.fs⟩ ∧ crashL D ks = [] := by
  have h : crashL D ks = [] := by unfold crashL; rw [h1, h2, List.take_nil]; rfl
  refine ⟨?_, h⟩
  unfold DS.crash
  rw [h, List.map_nil, sortK_nil]
  rfl
theorem open_empty {D : DS} {base : Nat} (h1 : D.now = []) (h2 : D.dead = false) : openK D base = [] ∧ openR D base = (0, D) := by
  have hf : D.files = [] := by
    unfold DS.files DS.names
    rw [h2, if_neg (by decide), h1, List.map_nil, sortK_nil]
    rfl
  have hk : openK D base = [] := by
    unfold openK
    rw [hf]
    split <;> rfl
  refine ⟨hk, ?_⟩
  unfold openR
  rw [hf, List.drop_nil]
  rfl
theorem maxI_end {base : Nat} : maxI (base : Int) (endA []) = (base : Int) := by
  unfold maxI endA
  rw [if_neg (by simp)]

/-! ### One segment -/
structure S1 (L : LS) (D : DS) (b fb : Nat) (pl : List Nat) (c : ByteArray) (la : Nat) : Prop where
  segs : L.segs = [b]
  first : (L.sg b).first = 1
  places : (L.sg b).places = pl
  size : (L.sg b).size = c.size
  hand : L.hand = some b
  last : L.last = pl.length
  now : D.now = [(nameB 1, fb)]
  fs : D.fs fb = (c, la)
  live : Live D
  room : D.room = 1000
  has : ∀ x, D.has x → x = fb
  chg : D.chg.length ≤ 2
theorem S1.ok {L : LS} {D : DS} {b fb la : Nat} {pl : List Nat} {c : ByteArray} (H : S1 L D b fb pl c la) (hp : pl ≠ [] ∧ pl.length < 16) (hc : c.size < 500) : L.Ok ∧ D.Ok ∧ L.reuse = some b ∧ L.cur.first = 1 ∧ ∀ s, (frameOf s).size = 8 → ¬ D.full (nameB 1) (frameOf s) := by
  have hu : D.used = c.size := by
    unfold DS.used
    rw [H.now]
    simp [H.fs]
  have hr : L.reuse = some b := by
    unfold LS.reuse
    rw [H.hand]
    simp only []
    rw [H.places, if_pos hp.2]
  refine ⟨⟨by rw [H.last]; omega, by rw [H.segs]; show 1 < _; decide, fun x hx => ?_, fun x hx => ?_⟩, ⟨by have := H.chg; omega, by rw [H.room]; decide, by rw [hu]; omega⟩, hr, by unfold LS.cur; rw [hr]; exact H.first, fun s hs hf => ?_⟩
  · rw [H.hand] at hx
    cases hx
    exact ⟨by rw [H.segs]; exact List.mem_singleton.2 rfl, by rw [H.places]; exact hp.1⟩
  · rw [H.segs] at hx
    rw [List.mem_singleton.1 hx]
    exact ⟨⟨by rw [H.first]; decide, by rw [H.places]; omega⟩, by rw [H.places]; omega, by rw [H.size]; omega⟩
  · rcases hf with hf | ⟨hf, _⟩
    · rw [H.room, hu, hs] at hf; omega
    · rw [H.now] at hf
      unfold lookL at hf
      rw [if_pos rfl] at hf
      cases hf
theorem S1.app {L : LS} {D : DS} {b fb la b' fb' : Nat} {pl : List Nat} {c s : ByteArray} (H : S1 L D b fb pl c la) (hp : pl ≠ [] ∧ pl.length < 16) (hc : c.size < 500) : S1 (L.app s b') (D.put (nameB 1) (frameOf s) fb') b fb (pl ++ [c.size]) (c ++ frameOf s) la := by
  obtain ⟨_, _, hr, _, _⟩ := H.ok hp hc
  have hlook : lookL (nameB 1) D.now = some fb := by rw [H.now]; unfold lookL; rw [if_pos rfl]
  unfold LS.app DS.put
  rw [hr, hlook, live_write H.live]
  simp only []
  have hsg : (L.wrote b (frameOf s).size).sg b = (L.sg b).more (frameOf s).size := sgSet_same ..
  refine ⟨H.segs, by rw [hsg]; exact H.first, ?_, ?_, rfl, ?_, H.now, ?_, H.live, H.room, H.has, H.chg⟩
  · rw [hsg]; show (L.sg b).places ++ [(L.sg b).size] = _; rw [H.places, H.size]
  · rw [hsg]; show (L.sg b).size + _ = _; rw [H.size, ByteArray.size_append]
  · show L.last + 1 = _; rw [H.last, List.length_append]; rfl
  · show fsSet D.fs fb _ fb = _
    rw [fsSet_same, H.fs]
theorem S1.sync {L : LS} {D : DS} {b fb la : Nat} {pl : List Nat} {c : ByteArray} (H : S1 L D b fb pl c la) (hd : (L.sg b).dirty = true) (hb : L.begun = true) : ∃ L' D', syncS L D = (0, L', D') ∧ S1 L' D' b fb pl c c.size ∧ D'.lasting = [(nameB 1, fb)] ∧ D'.chg = [] := by
  have hlook : lookL (nameB 1) D.now = some fb := by rw [H.now]; unfold lookL; rw [if_pos rfl]
  have hs : D.sync (nameB 1) = (0, { D with fs := fsSet D.fs fb (c, c.size) }) := by
    unfold DS.sync
    rw [live_write H.live, if_pos rfl, hlook]
    simp only [H.fs]
  have hl : Live { D with fs := fsSet D.fs fb (c, c.size) } := H.live
  have hsl : syncL L.segs L.sg D = (0, sgSet L.sg b (L.sg b).clean, { D with fs := fsSet D.fs fb (c, c.size) }) := by
    rw [H.segs, syncL, if_pos hd, H.first, hs, if_pos rfl]
    rfl
  refine ⟨{ L with sg := sgSet L.sg b (L.sg b).clean, begun := false, durable := L.last }, ({ D with fs := fsSet D.fs fb (c, c.size) } : DS).syncNames.2, ?_, ?_, ?_, ?_⟩
  · unfold syncS
    rw [hsl, if_pos rfl]
    unfold syncS2
    rw [if_pos hb, live_write hl, if_pos rfl]
  · unfold DS.syncNames
    rw [live_write hl, if_pos rfl]
    refine ⟨H.segs, by show (sgSet L.sg b _ b).first = 1; rw [sgSet_same]; exact H.first, by show (sgSet L.sg b _ b).places = pl; rw [sgSet_same]; exact H.places, by show (sgSet L.sg b _ b).size = _; rw [sgSet_same]; exact H.size, H.hand, H.last, H.now, fsSet_same .., H.live, H.room, fun x hx => ?_, by show 0 ≤ 2; decide⟩
    rcases hx with ⟨k, hx⟩ | ⟨k, hx⟩ | ⟨k, hx, he⟩
    · exact H.has x (.inl ⟨k, hx⟩)
    · exact H.has x (.inl ⟨k, hx⟩)
    · cases hx
  · unfold DS.syncNames
    rw [live_write hl, if_pos rfl]
    exact H.now
  · unfold DS.syncNames
    rw [live_write hl, if_pos rfl]
end Go.Proofs.YtgdmjdacmebfjaaGreatDoor.D

namespace Go.Proofs.YtgdmjdacmebfjaaGreatDoor.D
open Go

theorem Step.widen {h h' : Hp} {O O' P : Nat → Prop} (s : Step h O h' O') : Step h (Or2 O P) h' O' := ⟨⟨s.ext.size, fun b hb hn => s.ext.same b hb (fun ho => hn (.inl ho))⟩, fun b hb => (s.own b hb).imp .inl id⟩
abbrev Non : Nat → Prop := fun _ => False

theorem first_cur {L : LS} (h2 : L.hand = none) : L.reuse = none ∧ L.cur = ⟨L.last + 1, [], 0, false⟩ := by
  have : L.reuse = none := by unfold LS.reuse; rw [h2]
  exact ⟨this, by unfold LS.cur; rw [this]⟩
theorem first_log {L : LS} {s : ByteArray} {b : Nat} (h1 : L.segs = []) (h2 : L.hand = none) (hs : (frameOf s).size = 8) :
    (L.app s b).segs = [b] ∧ (L.app s b).sg b = ⟨L.last + 1, [0], 8, true⟩ ∧ (L.app s b).hand = some b ∧ (L.app s b).begun = true ∧ (L.app s b).last = L.last + 1 := by
  unfold LS.app
  rw [(first_cur h2).1]
  simp only []
  refine ⟨by show L.segs ++ [b] = _; rw [h1]; rfl, ?_, rfl, rfl, rfl⟩
  show sgSet (sgSet L.sg b _) b ((sgSet L.sg b ⟨L.last + 1, [], 0, false⟩ b).more (frameOf s).size) b = _
  rw [sgSet_same, sgSet_same, Seg.more, hs]; rfl
theorem first_disk {D : DS} {name f : ByteArray} {fb : Nat} (hl : Live D) (h3 : D.now = []) : D.put name f fb = { D.change (.put name fb) with fs := fsSet D.fs fb (f, 0) } ∧ (D.put name f fb).now = [(name, fb)] := by
  have : lookL name D.now = none := by rw [h3]; rfl
  have e : D.put name f fb = { D.change (.put name fb) with fs := fsSet D.fs fb (f, 0) } := by
    unfold DS.put
    rw [this, live_write hl]
  refine ⟨e, ?_⟩
  rw [e]
  show putL name fb D.now = _
  rw [h3]; rfl
theorem empty_ok {L : LS} {D : DS} (h1 : L.segs = []) (h2 : L.hand = none) (hl : L.last ≤ 100000000) (h3 : D.now = []) (h4 : D.chg.length ≤ 10) (hr : 100 ≤ D.room ∧ D.room < 4611686018427387904) :
    L.Ok ∧ D.Ok ∧ ∀ s, (frameOf s).size = 8 → ¬ D.full (nameB L.cur.first) (frameOf s) := by
  have hu : D.used = 0 := by unfold DS.used; rw [h3]; rfl
  refine ⟨⟨by omega, by rw [h1]; decide, (fun b hb => by rw [h2] at hb; cases hb), (fun b hb => by rw [h1] at hb; cases hb)⟩, ⟨by omega, ⟨by omega, hr.2⟩, by rw [hu]; decide⟩, fun s hs hf => ?_⟩
  rcases hf with hf | ⟨_, hf⟩
  · rw [hu, hs] at hf; omega
  · rw [h3] at hf; cases hf

section
variable {h h0 : Hp} {lb a : Nat} {L : LS} {D : DS} {Od Ol : Nat → Prop}
/-- An Append that goes. -/
theorem append_goes {s : ByteArray} {K : Int → Int → Hp → Prop} (H : LogAt h lb a L D Od Ol) (hL : L.Ok) (hD : D.Ok) (hl : Live D) (hs : s.size ≤ 65536) (hlast : L.last < 99999999) (hf : ¬ D.full (nameB L.cur.first) (frameOf s))
    (k0 : ∀ h' Od' Ol' b fb, b ∉ L.segs → ¬ D.has fb → LogAt h' lb a (L.app s b) (D.put (nameB L.cur.first) (frameOf s) fb) Od' Ol' → Step h (Or2 Od Ol) h' (Or2 Od' Ol') → K ((L.last + 1 : Nat) : Int) 0 h') : C_wal_Log_Append (some (blk lb)) s h K :=
  log_Append H hL hD (by omega) (fun hh => absurd hs (by omega)) (fun _ hh => absurd hlast (by omega))
    (fun e hh => by
      rcases hh with ⟨_, hh⟩ | ⟨_, hh⟩ | ⟨_, hh⟩
      · rw [live_write hl] at hh; cases hh
      · exact absurd (right_name _) hh
      · exact absurd hh hf)
    (fun _ _ _ _ _ => k0)

theorem S1.putL {b fb la fb' : Nat} {pl : List Nat} {c f : ByteArray} (H : S1 L D b fb pl c la) : (D.put (nameB 1) f fb').lasting = D.lasting ∧ (D.put (nameB 1) f fb').chg = D.chg := by
  have hlook : lookL (nameB 1) D.now = some fb := by rw [H.now]; unfold lookL; rw [if_pos rfl]
  unfold DS.put
  rw [hlook, live_write H.live]
  exact ⟨rfl, rfl⟩
theorem look_1 {fb : Nat} : lookL (nameB 1) [(nameB 1, fb)] = some fb := by unfold lookL; rw [if_pos rfl]
/-- The one file behind a crash. -/
theorem S1.crash {b fb : Nat} {pl : List Nat} (H : S1 L D b fb pl fileABC 16) (h1 : D.lasting = [(nameB 1, fb)]) (h2 : D.chg = []) :
    crashL D [] = [(nameB 1, fb)] ∧ (D.crash []).now = [(nameB 1, fb)] ∧ (D.crash []).dead = false ∧ (D.crash []).chg = [] ∧ (D.crash []).fs fb = (fileAB, 16) := by
  have hc : crashL D [] = [(nameB 1, fb)] := by unfold crashL; rw [h2, List.take_nil, h1]; rfl
  refine ⟨hc, hc, rfl, rfl, ?_⟩
  show crashF (crashL D []) (sortK ((crashL D []).map fun p => p.1.data.toList)) _ D.fs fb = _
  rw [hc]
  show crashF [(nameB 1, fb)] (sortK [(nameB 1).data.toList]) _ D.fs fb = _
  rw [sort_1, crashF, look_1]
  show fsSet D.fs fb ((D.fs fb).1.extract 0 ((D.fs fb).2 + 0), (D.fs fb).2 + 0) fb = _
  rw [fsSet_same, H.fs, Nat.add_zero, cut_ab]
theorem open_ab {fb : Nat} (h1 : D.now = [(nameB 1, fb)]) (h2 : D.dead = false) (h3 : D.fs fb = (fileAB, 16)) : openK D 0 = [⟨1, [0, 8], 16, false⟩] ∧ openR D 0 = (0, D) ∧ D.read (nameB 1) = (fileAB, 0) := by
  have hr : D.read (nameB 1) = (fileAB, 0) := by
    unfold DS.read
    rw [h2, if_neg (by decide), h1, look_1]
    simp only [h3]
  have hf : D.files = [nameB 1] := by
    unfold DS.files DS.names
    rw [h2, if_neg (by decide), h1]
    show (sortK [(nameB 1).data.toList]).filter _ = _
    rw [sort_1, List.filter_cons_of_pos (by rw [num_1]; rfl), List.filter_nil]
  have ho : openF D 0 D.files [] = [⟨1, [0, 8], 16, false⟩] := by
    rw [hf, openF, hr, num_1, parsed_ab, if_pos (by rfl), openF]
    rfl
  have hk : openK D 0 = [⟨1, [0, 8], 16, false⟩] := by
    unfold openK
    rw [ho, if_neg (by show ¬ (2 : Int) < 0; decide)]
  refine ⟨hk, ?_, hr⟩
  unfold openR
  rw [hk, hf]
  rfl
theorem works_true {K : Bool → Hp → Prop} (hk : ∀ h', Grow h h' → K true h') : C_barographlaw05_works h K := by
  refine S_barographlaw05_works (disk_New fun h1 a O1 d1 s1 => ?_)
  have he : ({ room := 1000, now := [], lasting := [], chg := [], dead := false, fuse := -1, fs := fun _ => (.mk #[], 0) } : DS).now = [] := rfl
  obtain ⟨o1, o2⟩ := open_empty (base := 0) he rfl
  refine wal_Open_ (base := 0) d1 (by decide) ⟨(fun p hp => by cases hp), by show 0 ≤ 1000; decide⟩ (fun k => by show (ByteArray.mk #[]).size < _; decide) (by show 0 < _; decide) (fun e => by cases e) (fun _ e => by rw [o2] at e; exact absurd rfl e) fun _ _ h2 lb L0 Od2 Ol2 H2 s2 q1 q2 q3 q4 q5 => ?_
  rw [o1] at q1 q4
  rw [o2] at H2
  have hsg : L0.segs = [] := List.map_eq_nil_iff.1 q1
  rw [maxI_end] at q4
  have hla : L0.last = 0 := by omega
  rw [if_neg (by decide)]
  have st2 : Step h Non h2 (Or2 Od2 Ol2) := s1.trans s2
  show D_barographlaw05_works_j3 K _ _ _ _
  unfold D_barographlaw05_works_j3
  rw [if_neg (by simp)]
  have live0 : Live ({ room := 1000, now := [], lasting := [], chg := [], dead := false, fuse := -1, fs := fun _ => (.mk #[], 0) } : DS) := ⟨rfl, rfl⟩
  obtain ⟨ok1, ok2, ok3⟩ := empty_ok (L := L0) (D := { room := 1000, now := [], lasting := [], chg := [], dead := false, fuse := -1, fs := fun _ => (.mk #[], 0) }) hsg q2 (by omega) rfl (by show 0 ≤ 10; decide) (by show (100 : Int) ≤ 1000 ∧ (1000 : Int) < _; decide)
  refine append_goes H2 ok1 ok2 live0 (by show 1 ≤ _; decide) (by omega) (ok3 _ size_a.1) fun h3 Od3 Ol3 b fb _ nh H3 s3 => ?_
  have hcur : L0.cur.first = 1 := by rw [(first_cur q2).2]; show L0.last + 1 = 1; omega
  obtain ⟨l1, l2, l3, l4, l5⟩ := first_log (s := .mk #[97]) (b := b) hsg q2 size_a.1
  obtain ⟨e1, e2⟩ := first_disk (name := nameB 1) (f := frameOf (.mk #[97])) (fb := fb) live0 rfl
  rw [hcur] at H3
  rw [hla] at l2 l5
  have S3 : S1 (L0.app (.mk #[97]) b) (DS.put { room := 1000, now := [], lasting := [], chg := [], dead := false, fuse := -1, fs := fun _ => (.mk #[], 0) } (nameB 1) (frameOf (.mk #[97])) fb) b fb [0] (frameOf (.mk #[97])) 0 := by
    refine ⟨l1, by rw [l2], by rw [l2], by rw [l2, size_a.1], l3, by rw [l5]; rfl, e2, ?_, ?_, ?_, fun x hx => ?_, ?_⟩
    · rw [e1]; exact fsSet_same ..
    · rw [e1]; exact ⟨rfl, rfl⟩
    · rw [e1]; rfl
    · rw [e1] at hx
      rcases hx with ⟨k, hx⟩ | ⟨k, hx⟩ | ⟨k, hx, he⟩
      · have hx : (k, x) ∈ [(nameB 1, fb)] := hx
        have := List.mem_singleton.1 hx
        exact congrArg Prod.snd this
      · cases hx
      · have hx : k ∈ [Chg.put (nameB 1) fb] := hx
        rw [List.mem_singleton.1 hx] at he
        exact (Option.some.inj he).symm
    · rw [e1]; show 1 ≤ 2; decide
  have dirty3 : ((L0.app (.mk #[97]) b).sg b).dirty = true := by rw [l2]
  obtain ⟨k1, k2, kr, k3, k4⟩ := S3.ok ⟨by simp, by decide⟩ (by rw [size_a.1]; decide)
  refine append_goes H3 k1 k2 S3.live (by show 1 ≤ _; decide) (by rw [S3.last]; decide) (by rw [k3]; exact k4 _ size_a.2.1) fun h4 Od4 Ol4 b' fb' _ _ H4 s4 => ?_
  rw [k3] at H4
  have S4 := S3.app (s := .mk #[98]) (b' := b') (fb' := fb') ⟨by simp, by decide⟩ (by rw [size_a.1]; decide)
  have r13 : (((L0.app (.mk #[97]) b).last + 1 : Nat) : Int) = 2 := by rw [S3.last]; rfl
  rw [r13]
  have app4 : (L0.app (.mk #[97]) b).app (.mk #[98]) b' = (L0.app (.mk #[97]) b).wrote b (frameOf (.mk #[98])).size := by
    show (match (L0.app (.mk #[97]) b).reuse with | some b => _ | none => _) = _
    rw [kr]
  have dirty4 : (((L0.app (.mk #[97]) b).app (.mk #[98]) b').sg b).dirty = true := by
    rw [app4]
    show (sgSet _ b _ b).dirty = true
    rw [sgSet_same]; rfl
  have begun4 : ((L0.app (.mk #[97]) b).app (.mk #[98]) b').begun = true := by rw [app4]; exact l4
  obtain ⟨L5, D5, y1, S5, y2, y3⟩ := S4.sync dirty4 begun4
  refine log_Sync H4 (by rw [S4.segs]; show 1 < _; decide) (fun x hx => by rw [S4.segs] at hx; rw [List.mem_singleton.1 hx, S4.first]; decide) fun h5 Od5 H5 s5 => ?_
  rw [y1] at H5 ⊢
  have c5 : (frameOf (.mk #[97]) ++ frameOf (.mk #[98])).size = 16 := by rw [ByteArray.size_append, size_a.1, size_a.2.1]
  obtain ⟨m1, m2, mr, m3, m4⟩ := S5.ok ⟨by simp, by decide⟩ (by rw [c5]; decide)
  refine append_goes H5 m1 m2 S5.live (by show 1 ≤ _; decide) (by rw [S5.last]; decide) (by rw [m3]; exact m4 _ size_a.2.2) fun h6 Od6 Ol6 b6 fb6 _ _ H6 s6 => ?_
  rw [m3] at H6
  have S6 := S5.app (s := .mk #[99]) (b' := b6) (fb' := fb6) ⟨by simp, by decide⟩ (by rw [c5]; decide)
  have S6 : S1 (L5.app (.mk #[99]) b6) (D5.put (nameB 1) (frameOf (.mk #[99])) fb6) b fb ([0] ++ [(frameOf (.mk #[97])).size] ++ [(frameOf (.mk #[97]) ++ frameOf (.mk #[98])).size]) fileABC 16 := by
    have := S6
    rw [c5] at this ⊢
    exact this
  obtain ⟨t1, t2⟩ := S5.putL (f := frameOf (.mk #[99])) (fb' := fb6)
  rw [y2] at t1
  rw [y3] at t2
  obtain ⟨z1, z2, z3, z4, z5⟩ := S6.crash t1 t2
  refine disk_Crash (ks := []) H6.disk .nil (fun q hq => absurd hq (by simp [Sl.blk?])) (by rw [t2]; decide) (fun x hx => ?_) ?_ fun h7 Od7 d7 s7 => ?_
  · rw [S6.has x hx, S6.fs]
    show 16 ≤ fileABC.size ∧ fileABC.size < _
    have : fileABC.size = 24 := by kernel_rfl
    rw [this]; decide
  · rw [z1]
    refine ⟨fun p hp => ?_, by show 1 ≤ 1000; decide⟩
    rw [List.mem_singleton.1 hp]
    show (nameB 1).size ≤ _
    rw [name_size]; decide
  obtain ⟨v1, v2, v3⟩ := open_ab z2 z3 z5
  refine wal_Open_ (base := 0) d7 (by decide) ⟨fun p hp => ?_, ?_⟩ (fun k => ?_) (by rw [z4]; decide) (fun e => by rw [z3] at e; cases e) (fun _ e => by rw [v2] at e; exact absurd rfl e) fun _ _ h8 lb8 L8 Od8 Ol8 H8 s8 p1 p2 p3 p4 p5 => ?_
  · rw [z2] at hp
    rw [List.mem_singleton.1 hp]
    show (nameB 1).size ≤ _
    rw [name_size]; decide
  · rw [z2]; show 1 ≤ 1000; decide
  · unfold DS.read
    rw [z3, if_neg (by decide), z2]
    by_cases hkk : k = nameB 1
    · rw [hkk, look_1]
      show ((DS.crash _ []).fs fb).1.size < _
      rw [z5]
      show fileAB.size < _
      have : fileAB.size = 16 := by kernel_rfl
      rw [this]; decide
    · have : lookL k [(nameB 1, fb)] = none := by unfold lookL; rw [if_neg hkk]; rfl
      rw [this]
      show (0 : Nat) < _
      decide
  rw [v1] at p1 p4
  rw [v2] at H8
  obtain ⟨b8, hb8⟩ : ∃ b8, L8.segs = [b8] := by
    have := congrArg List.length p1
    rw [List.length_map] at this
    match hh : L8.segs, this with
    | [x], _ => exact ⟨x, rfl⟩
  rw [hb8] at p1
  have sg8 : L8.sg b8 = ⟨1, [0, 8], 16, false⟩ := by
    rw [List.map_cons, List.map_nil] at p1
    exact List.head_eq_of_cons_eq p1
  have la8 : L8.last = 2 := by
    have e : maxI ((0 : Nat) : Int) (endA [⟨1, [0, 8], 16, false⟩]) = 2 := by decide
    rw [e] at p4
    omega
  rw [if_neg (by decide)]
  unfold D_barographlaw05_works_j2
  rw [if_neg (by simp)]
  have hread : readL L8.sg ((D5.put (nameB 1) (frameOf (.mk #[99])) fb6).crash []) 2 L8.segs = (.mk #[98], 0) := by
    rw [hb8, readL, sg8, if_neg (by decide)]
    simp only []
    rw [v3, if_neg (by decide)]
    have e8 : (([0, 8] : List Nat).getD (2 - 1) 0) = 8 := rfl
    simp only [e8]
    rw [get_b]
  refine log_Read (n := 2) H8 (by rw [hb8]; show 1 < _; decide) (fun x hx => ?_) (fun x hx _ => ?_) (by decide) fun h9 H9 w9 => ?_
  · rw [hb8] at hx
    rw [List.mem_singleton.1 hx, sg8]
    exact ⟨by show 1 ≤ _; decide, by show 2 ≤ _; decide⟩
  · rw [hb8] at hx
    rw [List.mem_singleton.1 hx, sg8]
    simp only []
    rw [v3]
    have e16 : fileAB.size = 16 := by kernel_rfl
    show fileAB.size < _ ∧ ∀ (i q : Nat), [0, 8][i]? = some q → q ≤ fileAB.size
    rw [e16]
    refine ⟨by decide, fun i q hi => ?_⟩
    match i, hi with
    | 0, hi => cases hi; decide
    | 1, hi => cases hi; decide
  rw [hread]
  have hgrow : Grow h h9 := by
    have st : Step h Non h8 _ := ((((((st2.trans s3).trans s4).trans s5).trans s6).trans s7.widen).trans s8)
    exact Grow.trans ⟨st.ext.size, fun b hb hn => st.ext.same b hb hn⟩ w9
  rw [if_pos (by rfl), if_pos (by rfl)]
  refine log_Last H9 ?_
  rw [la8, if_pos (by rfl), if_pos (str_eq.2 rfl)]
  exact hk h9 hgrow
end
end Go.Proofs.YtgdmjdacmebfjaaGreatDoor.D

namespace Go.Proofs.YtgdmjdacmebfjaaGreatDoor.D
open Go

theorem mod_nat (d : Int) (m : Nat) (hm : 0 < m ∧ m < 1000000000) : ∃ N : Nat, IntKind.i64.wrap (Int.tmod (IntKind.u64.wrap d) (m : Int)) = (N : Int) ∧ N < m := by
  have hu : IntKind.u64.wrap d = (((d % 18446744073709551616).toNat : Nat) : Int) := by
    have : 0 ≤ d % 18446744073709551616 := Int.emod_nonneg _ (by decide)
    rw [Int.toNat_of_nonneg this]
    simp [IntKind.wrap, IntKind.bits, IntKind.signed]
  refine ⟨(d % 18446744073709551616).toNat % m, ?_, Nat.mod_lt _ hm.1⟩
  rw [hu]
  have ht : Int.tmod (((d % 18446744073709551616).toNat : Nat) : Int) (m : Int) = (((d % 18446744073709551616).toNat % m : Nat) : Int) := rfl
  rw [ht]
  have := Nat.mod_lt (d % 18446744073709551616).toNat hm.1
  exact wrap64 (Int.le_trans (by decide) (Int.natCast_nonneg _)) (by have := Int.ofNat_lt.2 this; omega)

theorem apd_zero {t : TypeId} {z : List Value} {h : Hp} {b m : Nat} {news : List Value} {K : Sl → Hp → Prop} (hz : z.length = 1) (hn : news.length = m) (hm : 0 < m) (h8 : m * 8 ≤ 140737488355328)
    (hk : ∀ s' h', SlOwn h' s' t 1 news → s'.blk? = some h.size → Grow h h' → K s' h') : apd 1 8 t z h ⟨some (blk b), 0, 0⟩ m news K := by
  refine ⟨fun hf => absurd hf (by show ¬ 0 + m ≤ 0; omega), fun _ => ⟨by show 0 + m ≤ _; omega, ?_, [], rfl, (fun e => by cases e), (fun q hq => trivial), fun c hc => ?_⟩⟩
  · show Builtin.nextslicecap (0 + m) 0 * 8 ≤ _
    unfold Builtin.nextslicecap
    rw [if_pos (by omega)]
    omega
  · have hc : m ≤ c := by have : 0 + m ≤ c := hc; omega
    refine hk _ _ ⟨by show news.length = (0 + m) * 1; omega, .inr ⟨h.size, 0, _, rfl, push_new rfl, ?_, by show 0 + m ≤ c; omega, fun i hi => ?_⟩⟩ rfl ((Grow.refl h).push rfl)
    · simp only [Array.size_append, List.size_toArray, Builtin.zeroCells, Array.size_map, Array.size_range, hn, hz, List.length_nil]
      show 0 + c * 1 ≤ 0 + m + (c - (0 + m)) * 1
      omega
    · rw [show 0 + i = i from Nat.zero_add i]
      have hlt : i < (([] : List Value).toArray ++ news.toArray).size := by simpa using hi
      rw [Array.getElem?_append_left hlt]
      simp

end Go.Proofs.YtgdmjdacmebfjaaGreatDoor.D

namespace Go.Proofs.YtgdmjdacmebfjaaGreatDoor.D
open Go

theorem cntF_lt : ∀ (f n : Nat), n < 256 ^ f → n < 256 ^ cntF f n
  | 0, n, h => h
  | f + 1, n, h => by
    unfold cntF
    split
    · rename_i h0; subst h0; decide
    · have h1 : n / 256 < 256 ^ f := by
        rw [Nat.div_lt_iff_lt_mul (by decide)]
        rw [Nat.pow_succ] at h
        exact h
      have := cntF_lt f (n / 256) h1
      rw [Nat.add_comm, Nat.pow_succ]
      rw [Nat.div_lt_iff_lt_mul (by decide)] at this
      exact this
theorem cntF_ge : ∀ (f n : Nat), 0 < cntF f n → 256 ^ (cntF f n - 1) ≤ n
  | 0, _, h => absurd h (Nat.lt_irrefl 0)
  | f + 1, n, h => by
    unfold cntF at h ⊢
    split
    · rename_i h0; rw [if_pos h0] at h; exact absurd h (by decide)
    · rw [Nat.add_sub_cancel_left]
      rcases Nat.eq_zero_or_pos (cntF f (n / 256)) with h1 | h1
      · rw [h1]; show 1 ≤ n; omega
      · have := cntF_ge f (n / 256) h1
        rw [Nat.le_div_iff_mul_le (by decide), ← Nat.pow_succ] at this
        rw [show cntF f (n / 256) = cntF f (n / 256) - 1 + 1 by omega]
        exact this
theorem fold_be (l : List UInt8) : ∀ a : Nat, l.foldl (fun n c => n * 256 + c.toNat) a = a * 256 ^ l.length + beVal l := by
  induction l with
  | nil => intro a; simp [beVal]
  | cons x l ih =>
    intro a
    show l.foldl _ (a * 256 + x.toNat) = _
    rw [ih]
    have : beVal (x :: l) = x.toNat * 256 ^ l.length + beVal l := by
      show l.foldl _ (0 * 256 + x.toNat) = _
      rw [ih, Nat.zero_mul, Nat.zero_add]
    rw [this, List.length_cons, Nat.pow_succ, Nat.add_mul, Nat.mul_assoc, Nat.mul_comm 256, Nat.add_assoc]
theorem beVal_cons (x : UInt8) (l : List UInt8) : beVal (x :: l) = x.toNat * 256 ^ l.length + beVal l := by
  show l.foldl _ (0 * 256 + x.toNat) = _
  rw [fold_be, Nat.zero_mul, Nat.zero_add]
theorem ofNat_toNat (n : Nat) : (UInt8.ofNat n).toNat = n % 256 := by simp
theorem beVal_be : ∀ (k n : Nat), beVal (be k n) = n % 256 ^ k
  | 0, n => by simp [be, beVal, Nat.mod_one]
  | k + 1, n => by
    show beVal (UInt8.ofNat (n / 256 ^ k) :: be k n) = _
    rw [beVal_cons, beVal_be k n, be_len, ofNat_toNat, Nat.mod_pow_succ, Nat.add_comm, Nat.mul_comm]
theorem getNum_num {n : Nat} (hn : n < 18446744073709551616) (r : List UInt8) : getNumL (numL n ++ r) = ((n : Int), 1 + (cnt n : Int), 0) := by
  have hc : cnt n ≤ 8 := cnt_le n
  have h8 : (UInt8.ofNat (cnt n)).toNat = cnt n := by rw [ofNat_toNat]; omega
  show getNumL (UInt8.ofNat (cnt n) :: (be (cnt n) n ++ r)) = _
  unfold getNumL
  simp only []
  rw [h8, if_neg (by omega), if_neg (by rw [List.length_append, be_len]; omega), if_neg (fun h => ?_), List.take_left' (be_len _ _), beVal_be, Nat.mod_eq_of_lt (show n < 256 ^ cnt n from cntF_lt 8 n hn)]
  obtain ⟨h0, h1⟩ := h
  obtain ⟨c, hcc⟩ : ∃ c, cnt n = c + 1 := ⟨cnt n - 1, by omega⟩
  rw [hcc] at h1
  have h2 : UInt8.ofNat (n / 256 ^ c) = 0 := by simpa [be] using h1
  have h3 := congrArg UInt8.toNat h2
  rw [ofNat_toNat] at h3
  have h4 : 256 ^ c ≤ n := by
    have := cntF_ge 8 n h0
    have e : cntF 8 n = c + 1 := hcc
    rw [e] at this
    exact this
  have h5 : n < 256 ^ (c + 1) := by
    have := cntF_lt 8 n hn
    have e : cntF 8 n = c + 1 := hcc
    rw [e] at this
    exact this
  have h6 : n / 256 ^ c < 256 := by
    rw [Nat.div_lt_iff_lt_mul (Nat.pow_pos (by decide)), Nat.mul_comm, ← Nat.pow_succ]
    exact h5
  have h7 : 1 ≤ n / 256 ^ c := (Nat.le_div_iff_mul_le (Nat.pow_pos (by decide))).2 (by omega)
  rw [Nat.mod_eq_of_lt h6] at h3
  have h3 : n / 256 ^ c = 0 := h3
  omega
theorem getText_text {d r : ByteArray} {most : Nat} (hd : d.size ≤ most) (hm : most < 18446744073709551616) : getText (numB d.size ++ (d ++ r)) most = (d, 1 + (cnt d.size : Int) + (d.size : Int), 0) := by
  have hl : (numB d.size ++ (d ++ r)).data.toList = numL d.size ++ (d.data.toList ++ r.data.toList) := by rw [append_list, append_list]; rfl
  have hg : getNum (numB d.size ++ (d ++ r)) = ((d.size : Int), 1 + (cnt d.size : Int), 0) := by
    unfold getNum
    rw [hl, getNum_num (by omega)]
  have hs : (numB d.size ++ (d ++ r)).size = cnt d.size + 1 + (d.size + r.size) := by rw [ByteArray.size_append, ByteArray.size_append, numB_size]
  unfold getText
  rw [hg, if_neg (by simp), if_neg (by simp only []; omega), if_neg (by simp only []; rw [hs]; omega)]
  simp only []
  congr 1
  refine str_ext ?_
  rw [extract_list, hl]
  have e1 : (1 + (cnt d.size : Int)).toNat = (numL d.size).length := by
    show _ = (be (cnt d.size) d.size).length + 1
    rw [be_len]; omega
  have e2 : (1 + (cnt d.size : Int) + (d.size : Int)).toNat - (1 + (cnt d.size : Int)).toNat = d.data.toList.length := by rw [← size_len]; omega
  rw [e2, e1, List.drop_left, List.take_left]
theorem sumB_size (c : Int) : (sumB c).size = 4 := rfl
theorem frame_len (k : Nat) (d : ByteArray) : (frameB k d).size = cnt d.size + d.size + 6 := by
  unfold frameB frameBody
  rw [ByteArray.size_append, ByteArray.size_append, ByteArray.size_append, numB_size, sumB_size]
  show 1 + _ + 4 = _
  omega
/-- THE ROUND TRIP. -/
theorem get_put {k : Nat} {d r : ByteArray} (hk : 1 ≤ k ∧ k ≤ 255) (hd : d.size ≤ 65536) : getFrame (frameB k d ++ r) = ((k : Int), d, ((frameB k d).size : Int), 0) := by
  have hkk : (UInt8.ofNat k).toNat = k := by rw [ofNat_toNat]; omega
  have hl : (frameB k d ++ r).data.toList = UInt8.ofNat k :: (numL d.size ++ (d.data.toList ++ ((sumB (sumI (frameBody k d))).data.toList ++ r.data.toList))) := by
    unfold frameB frameBody
    rw [append_list, append_list, append_list, append_list, List.append_assoc, List.append_assoc, List.append_assoc]
    rfl
  have hb : (frameB k d ++ r).data.toList = (frameBody k d).data.toList ++ ((sumB (sumI (frameBody k d))).data.toList ++ r.data.toList) := by
    unfold frameB
    rw [append_list, append_list, List.append_assoc]
  have hbs : (frameBody k d).data.toList.length = cnt d.size + 1 + d.size + 1 := by
    rw [← size_len]
    unfold frameBody
    rw [ByteArray.size_append, ByteArray.size_append, numB_size]
    show 1 + _ = _
    omega
  have hs : (frameB k d ++ r).size = cnt d.size + d.size + 6 + r.size := by rw [ByteArray.size_append, frame_len]
  have hx : (frameB k d ++ r).extract 1 (frameB k d ++ r).size = numB d.size ++ (d ++ (sumB (sumI (frameBody k d)) ++ r)) := by
    refine str_ext ?_
    rw [extract_end, hl, append_list, append_list, append_list]
    rfl
  have ht := getText_text (d := d) (r := sumB (sumI (frameBody k d)) ++ r) hd (by decide)
  have hh : (frameB k d ++ r).data.toList.head?.getD 0 = UInt8.ofNat k := by rw [hl]; rfl
  have n1 : ((1 : Int) + (cnt d.size : Int) + (d.size : Int) + 1).toNat = (frameBody k d).data.toList.length := by rw [hbs]; omega
  have n2 : ((1 : Int) + (cnt d.size : Int) + (d.size : Int) + 5).toNat - (frameBody k d).data.toList.length = (sumB (sumI (frameBody k d))).data.toList.length := by rw [hbs]; show _ = 4; omega
  have e1 : (frameB k d ++ r).extract 0 ((1 : Int) + (cnt d.size : Int) + (d.size : Int) + 1).toNat = frameBody k d := by
    refine str_ext ?_
    rw [extract_front, n1, hb, List.take_left]
  have e2 : (frameB k d ++ r).extract ((1 : Int) + (cnt d.size : Int) + (d.size : Int) + 1).toNat ((1 : Int) + (cnt d.size : Int) + (d.size : Int) + 5).toNat = sumB (sumI (frameBody k d)) := by
    refine str_ext ?_
    rw [extract_list, n1, n2, hb, List.drop_left, List.take_left]
  unfold getFrame
  rw [hh, hx, ht]
  simp only []
  rw [if_neg (fun e => by have := congrArg UInt8.toNat e; rw [hkk] at this; have : k = 0 := this; omega), if_neg (by simp), if_neg (by rw [hs]; omega), e1, e2, if_neg (fun e => e rfl), hkk, frame_len]
  exact congrArg (fun x => ((k : Int), d, x, (0 : Int))) (by omega)
end Go.Proofs.YtgdmjdacmebfjaaGreatDoor.D

namespace Go.Proofs.YtgdmjdacmebfjaaGreatDoor.D
open Go

def shortT (p_2 : Int) (h0 : Hp) (K : Int → Hp → Prop) (hz1 hz19 hz24 : Hp) : Prop :=
  ∃ x30 : Option Addr, cellH hz24 (blk hz1.size) = some (Value.pointer x30) ∧
  ∃ a32 : Addr, x30 = some a32 ∧
  ∃ x34 : Int, cellH hz24 (a32.add 0) = some (Value.int .i64 x34) ∧
  ∃ x36 : Option Addr, cellH hz24 (blk hz1.size) = some (Value.pointer x36) ∧
  ∃ x38 : Option Addr, cellH hz24 (blk hz1.size) = some (Value.pointer x38) ∧
  ∃ a40 : Addr, x38 = some a40 ∧
  ∃ x42 : Sl, cellH hz24 (a40.add 1) = some (Sl.v x42) ∧
  ∃ a44 : Addr, x42.a = some a44 ∧
  (0 : Int) ≤ IntKind.i64.wrap ((IntKind.i64.wrap (p_2 - x34)) + 1) ∧
  IntKind.i64.wrap ((IntKind.i64.wrap (p_2 - x34)) + 1) < (x42.len : Int) ∧
  ∃ x48 : Int, cellH hz24 (a44.add ((IntKind.i64.wrap ((IntKind.i64.wrap (p_2 - x34)) + 1)).toNat * 1)) = some (Value.int .i64 x48) ∧
  ∃ a50 : Addr, x36 = some a50 ∧
  ∃ u53 : Value, cellH hz24 (a50.add 2) = some u53 ∧
  frozenH hz24 (a50.add 2) = false ∧
  ∀ hz52 : Hp, hz52 = setH hz24 (a50.add 2) (Value.int .i64 x48) →
  ∃ x57 : Option Addr, cellH hz52 (blk hz1.size) = some (Value.pointer x57) ∧
  ∃ x59 : Option Addr, cellH hz52 (blk hz1.size) = some (Value.pointer x59) ∧
  ∃ a61 : Addr, x59 = some a61 ∧
  ∃ x63 : Sl, cellH hz52 (a61.add 1) = some (Sl.v x63) ∧
  ∃ n65 : Nat, IntKind.i64.wrap ((IntKind.i64.wrap (p_2 - x34)) + 1) = (n65 : Int) ∧
  0 ≤ n65 ∧
  n65 ≤ x63.cap ∧
  ∃ a69 : Addr, x57 = some a69 ∧
  ∃ u72 : Value, cellH hz52 (a69.add 1) = some u72 ∧
  frozenH hz52 (a69.add 1) = false ∧
  ∀ hz71 : Hp, hz71 = setH hz52 (a69.add 1) (Sl.v (slCut x63 0 n65 1)) →
  ∃ x99 : Option Addr, cellH hz71 (blk h0.size) = some (Value.pointer x99) ∧
  ∃ a101 : Addr, x99 = some a101 ∧
  ∃ x103 : Option Addr, cellH hz71 (a101.add 0) = some (Value.pointer x103) ∧
  C_disk_Disk_Read x103 (ByteArray.mk #[116]) hz71 fun _r106 r107 hz105 =>
  if (r107 == (0 : Int)) = true then
    ∃ x109 : Option Addr, cellH hz105 (blk h0.size) = some (Value.pointer x109) ∧
    ∃ a111 : Addr, x109 = some a111 ∧
    ∃ x113 : Option Addr, cellH hz105 (a111.add 0) = some (Value.pointer x113) ∧
    C_disk_Disk_Remove x113 (ByteArray.mk #[116]) hz105 fun r116 hz115 =>
    if (r116 != (0 : Int)) = true then
      K r116 hz115
    else
      D_wal_Log_shorten_j2 h0 K hz1 hz19 hz115
  else
    D_wal_Log_shorten_j2 h0 K hz1 hz19 hz105

def tempB : ByteArray := .mk #[116]
section
variable {h : Hp} {lb a : Nat} {L : LS} {D : DS} {Od Ol : Nat → Prop}
/-- The first k places, and their end. -/
def Seg.cutTo (x : Seg) (k : Nat) : Seg := { x with places := x.places.take k, size := x.places.getD k 0 }
def LS.cutSeg (L : LS) (b k : Nat) : LS := { L with sg := sgSet L.sg b ((L.sg b).cutTo k) }
theorem LogAt.swapCut {h' : Hp} {b k : Nat} {s : Sl} {ps : Nat → Sl} (H : LogAt h lb a L D Od Ol) (B : LogB h lb a s ps L Ol) (hb : b ∈ L.segs) (hk : k ≤ (L.sg b).places.length) (hc : h'[b]? = some (segOb ((L.sg b).cutTo k) (slCut (ps b) 0 k 1))) (ho : ∀ y, y ≠ b → h'[y]? = h[y]?) (hz : h'.size = h.size) :
    LogAt h' lb a (L.cutSeg b k) D Od Ol ∧ Step h (Or2 Od Ol) h' (Or2 Od Ol) ∧ LogB h' lb a s (slSet ps b (slCut (ps b) 0 k 1)) (L.cutSeg b k) Ol := by
  have S := B.seg b hb
  have np : ∀ y q, y ∈ L.segs → (ps y).blk? = some q → q ≠ b := fun y q hy hq => by
    obtain ⟨cs, hcs⟩ := (B.seg y hy).places.ob hq
    exact ne_tag hcs S.cell rfl
  have pb : ∀ y, (slSet ps b (slCut (ps b) 0 k 1) y).blk? = (ps y).blk? := fun y => by
    by_cases hyb : y = b
    · subst hyb; rw [slSet_same, slCut_blk]
    · rw [slSet_ne _ _ hyb]
  have BB : LogB h' lb a s (slSet ps b (slCut (ps b) 0 k 1)) (L.cutSeg b k) Ol := by
    refine ⟨(ho lb (ne_tag B.cell S.cell rfl)).trans B.cell, B.segs.frame fun q hq => ho q ?_, fun y hy => ?_, fun y y' q hy hy' h1 h2 => B.dis y y' q hy hy' ((pb y).symm.trans h1) ((pb y').symm.trans h2), B.ol, B.os, fun y hy => ⟨(B.og y hy).1, fun q hq => (B.og y hy).2 q ((pb y).symm.trans hq)⟩, fun y hy => by rw [hz]; exact B.lt y hy⟩
    · obtain ⟨cs, hcs⟩ := B.segs.ob hq
      exact ne_tag hcs S.cell rfl
    · show SegAt h' y (sgSet L.sg b _ y) (slSet ps b _ y)
      by_cases hyb : y = b
      · subst hyb
        rw [sgSet_same, slSet_same]
        refine ⟨hc, ?_⟩
        have := S.places.cut (i := 0) (j := k) (Nat.zero_le _) (by rw [S.len]; exact hk)
        rw [List.drop_zero, Nat.sub_zero, ← List.map_take] at this
        exact this.frame fun q hq => by rw [slCut_blk] at hq; exact ho q (np y q hb hq)
      · rw [sgSet_ne _ _ hyb, slSet_ne _ _ hyb]
        exact (B.seg y hy).frame (ho y hyb) (fun q hq => ho q (np y q hy hq))
  exact ⟨⟨H.disk.frame (fun y hy => ho y (fun e => H.dis b (B.og b hb).1 (e ▸ hy))) (by omega), ⟨s, _, BB⟩, H.dis⟩,
    .of ⟨by omega, fun y _ hn => ho y (fun e => hn (.inr (by rw [e]; exact (B.og b hb).1)))⟩, BB⟩

/-- The disk when a segment's file has been written anew. -/
noncomputable def DS.anew (D : DS) (name s : ByteArray) (fb : Nat) : DS := (((D.put tempB s fb).sync tempB).2.rename tempB name).2
/-- What the boxes of shorten hold. -/
structure ShortB (g : Hp) (lb b b1 b2 b3 : Nat) (s : ByteArray) : Prop where
  l : g[b1]? = some (.cells #[.pointer (some (blk lb))] T_pt_wal_Log (0, 0))
  x : g[b2]? = some (.cells #[.pointer (some (blk b))] T_pt_wal_segment (0, 0))
  s : g[b3]? = some (.cells #[.string s] T_string (0, 0))
theorem ShortB.keep {g g' : Hp} {b b1 b2 b3 : Nat} {s : ByteArray} (B : ShortB g lb b b1 b2 b3 s) {O O' : Nat → Prop} (st : Step g O g' O') (hn : ∀ y, O y → y ≠ b1 ∧ y ≠ b2 ∧ y ≠ b3) : ShortB g' lb b b1 b2 b3 s :=
  ⟨st.keep B.l (fun ho => (hn _ ho).1 rfl), st.keep B.x (fun ho => (hn _ ho).2.1 rfl), st.keep B.s (fun ho => (hn _ ho).2.2 rfl)⟩
theorem look_put {k : ByteArray} {b : Nat} : ∀ {l : FL}, lookL k (putL k b l) = some b
  | [] => by unfold putL lookL; rw [if_pos rfl]
  | p :: l => by
    unfold putL
    split
    · unfold lookL; rw [if_pos rfl]
    · rename_i hk
      unfold lookL
      rw [if_neg hk]
      exact look_put
/-- A new file, written, made to last, and given its name. -/
theorem put_fresh {s : ByteArray} {fb : Nat} (hl : Live D) (ht : lookL tempB D.now = none) : D.put tempB s fb = { D.change (.put tempB fb) with fs := fsSet D.fs fb (s, 0) } := by
  unfold DS.put
  rw [ht, live_write hl]
theorem put_sync {s : ByteArray} {fb : Nat} (hl : Live D) (ht : lookL tempB D.now = none) : (D.put tempB s fb).sync tempB = (0, { D.change (.put tempB fb) with fs := fsSet D.fs fb (s, s.size) }) := by
  rw [put_fresh hl ht]
  unfold DS.sync
  have hl' : Live { D.change (.put tempB fb) with fs := fsSet D.fs fb (s, 0) } := hl
  rw [live_write hl', if_pos rfl]
  have : lookL tempB ({ D.change (.put tempB fb) with fs := fsSet D.fs fb (s, 0) } : DS).now = some fb := look_put
  rw [this]
  simp only [fsSet_same, fsSet_twice]
theorem put_ren {s name : ByteArray} {fb : Nat} (hl : Live D) (ht : lookL tempB D.now = none) (hr : rightP name) : ((D.put tempB s fb).sync tempB).2.rename tempB name = (0, (DS.change { D.change (.put tempB fb) with fs := fsSet D.fs fb (s, s.size) } (.ren tempB name fb))) := by
  rw [put_sync hl ht]
  simp only []
  unfold DS.rename
  have hl' : Live { D.change (.put tempB fb) with fs := fsSet D.fs fb (s, s.size) } := hl
  rw [live_write hl', if_pos rfl]
  have : lookL tempB ({ D.change (.put tempB fb) with fs := fsSet D.fs fb (s, s.size) } : DS).now = some fb := look_put
  simp only [this, if_pos hr]
def stageP (D : DS) (name s : ByteArray) : Nat → DS → Prop
  | 0, E => E = D
  | 1, E => ∃ fb, ¬ D.has fb ∧ E = D.put tempB s fb
  | 2, E => ∃ fb, ¬ D.has fb ∧ E = ((D.put tempB s fb).sync tempB).2
  | 3, E => ∃ fb, ¬ D.has fb ∧ E = D.anew name s fb
  | _, _ => False
theorem tempB_right : rightP tempB := ⟨by decide, by decide, fun x hx => by
  have : x = 116 := by simpa [tempB] using hx
  rw [this]; decide⟩
theorem LogAt.onDiskB {h' : Hp} {sl : Sl} {Od' : Nat → Prop} (H : LogAt h lb a L D Od Ol) (B : ∃ ps, LogB h lb a sl ps L Ol) (st : Step h Od h' Od') : ∃ ps, LogB h' lb a sl ps L Ol := by
  obtain ⟨ps, B⟩ := B
  exact ⟨ps, B.frame (fun b hb => st.ext.same b (B.lt b hb) (H.dis b hb)) st.size⟩
theorem growB {h' : Hp} {sl : Sl} (B : ∃ ps, LogB h lb a sl ps L Ol) (w : Grow h h') : ∃ ps, LogB h' lb a sl ps L Ol := by
  obtain ⟨ps, B⟩ := B
  exact ⟨ps, B.frame (fun b hb => w.same b (B.lt b hb) id) w.size⟩
theorem short_j2 {h0 h1 h2 g : Hp} {b : Nat} {s : ByteArray} {sl : Sl} {K : Int → Hp → Prop} (H : LogAt g lb a L D Od Ol) (B0 : ∃ ps, LogB g lb a sl ps L Ol) (hb : b ∈ L.segs) (SB : ShortB g lb b h0.size h1.size h2.size s) (hO : ∀ y, Or2 Od Ol y → y ≠ h0.size ∧ y ≠ h1.size ∧ y ≠ h2.size)
    (hz : (L.sg b).size ≤ s.size) (hf : (L.sg b).first < 1000000000) (hl : Live D) (hn : D.chg.length < 900000) (hr : 0 ≤ D.room ∧ D.room < 4611686018427387904) (hu : D.used < 4611686018427387904) (ht : lookL tempB D.now = none) (hfu : ¬ D.full tempB (s.extract 0 (L.sg b).size))
    (hk : ∀ h' Od' fb, ¬ D.has fb → LogAt h' lb a L (D.anew (nameB (L.sg b).first) (s.extract 0 (L.sg b).size) fb) Od' Ol → (∃ ps, LogB h' lb a sl ps L Ol) → Step g (Or2 Od Ol) h' (Or2 Od' Ol) → K 0 h') : D_wal_Log_shorten_j2 h0 K h1 h2 g := by
  intro h77 e77
  obtain ⟨H7, s7⟩ := H.grow ((Grow.refl g).push e77)
  have B7 := growB B0 ((Grow.refl g).push e77)
  have SB7 : ShortB h77 lb b h0.size h1.size h2.size s := SB.keep s7 hO
  have c7 := push_new e77
  have n7 : ∀ y, Or2 Od Ol y → y ≠ g.size := fun y hy e => by
    rcases hy with hy | hy
    · have := H.disk.lt y hy; omega
    · have := H.ollt y hy; omega
  refine ⟨fun x q => ∃ (i : Nat) (Dk : DS) (Odk : Nat → Prop), i ≤ 3 ∧ x = (i : Int) ∧ LogAt q lb a L Dk Odk Ol ∧ (∃ ps, LogB q lb a sl ps L Ol) ∧ Step h77 (Or2 Od Ol) q (Or2 Odk Ol) ∧ stageP D (nameB (L.sg b).first) (s.extract 0 (L.sg b).size) i Dk, fun x _ => 3 - x.toNat, ⟨0, D, Od, by omega, rfl, H7, B7, .refl _ _, rfl⟩, ?_⟩
  rintro x q ⟨i, Dk, Odk, hi, rfl, Hq, Bq, sq, hst⟩
  unfold D_wal_Log_shorten_l1
  have SBq : ShortB q lb b h0.size h1.size h2.size s := SB7.keep sq hO
  have cq := sq.keep c7 (fun ho => n7 _ ho rfl)
  have fin : ∀ (r : Int) (g2 : Hp) (D2 : DS) (Od2 : Nat → Prop), r = 0 → i < 3 → LogAt g2 lb a L D2 Od2 Ol → (∃ ps, LogB g2 lb a sl ps L Ol) → Step q (Or2 Odk Ol) g2 (Or2 Od2 Ol) → stageP D (nameB (L.sg b).first) (s.extract 0 (L.sg b).size) (i + 1) D2 →
      if (r != (0 : Int)) = true then K r g2 else (∃ (i' : Nat) (Dk : DS) (Odk : Nat → Prop), i' ≤ 3 ∧ (IntKind.i64.wrap ((i : Int) + 1)) = (i' : Int) ∧ LogAt g2 lb a L Dk Odk Ol ∧ (∃ ps, LogB g2 lb a sl ps L Ol) ∧ Step h77 (Or2 Od Ol) g2 (Or2 Odk Ol) ∧ stageP D (nameB (L.sg b).first) (s.extract 0 (L.sg b).size) i' Dk) ∧ 3 - (IntKind.i64.wrap ((i : Int) + 1)).toNat < 3 - (i : Int).toNat := by
    intro r g2 D2 Od2 hr0 hi3 H2 B2 s2 h2
    rw [hr0, if_neg (by decide)]
    have hw : IntKind.i64.wrap ((i : Int) + 1) = ((i + 1 : Nat) : Int) := by rw [wrap64] <;> omega
    rw [hw]
    exact ⟨⟨i + 1, D2, Od2, by omega, rfl, H2, B2, sq.trans s2, h2⟩, by omega⟩
  obtain ⟨ps, B⟩ := id Bq
  match i, hi, hst, fin with
  | 0, _, hst, fin =>
    have hst : Dk = D := hst
    subst hst
    rw [if_pos (by rfl)]
    refine ⟨blk g.size, rfl, by decide, by show (0 : Int) < 3; decide, _, cell_at cq rfl, F_wal_Log_shorten_1, [], [_, _, _], rfl, by kernel_rfl, ?_⟩
    refine S_wal_Log_shorten_1 (q0 := blk h0.size) (q1 := blk h2.size) (q2 := blk h1.size) ⟨some (blk lb), cell_at0 SBq.l rfl, blk lb, rfl, some (blk a), cell_at B.cell rfl, s, cell_at0 SBq.s rfl, some (blk b), cell_at0 SBq.x rfl, blk b, rfl, ((L.sg b).size : Int), cell_at (B.seg b hb).cell rfl, (L.sg b).size, rfl, Nat.zero_le _, hz, ?_⟩
    refine disk_Append Hq.disk (by omega) hr hu (fun hw => by rw [live_write hl] at hw; cases hw) (fun _ hnr => absurd tempB_right hnr) (fun _ _ hff => absurd hff hfu) fun _ _ _ g2 Od2 fb hfb d2 st2 => ?_
    obtain ⟨H2, s2⟩ := Hq.onDisk d2 st2
    have Bq2 := Hq.onDiskB Bq st2
    have SB2 : ShortB g2 lb b h0.size h1.size h2.size s := SB7.keep (sq.trans s2) hO
    obtain ⟨ps2, B2⟩ := id Bq2
    refine ⟨cell_at0 SB2.l rfl, cell_at B2.cell rfl, cell_at0 SB2.s rfl, cell_at0 SB2.x rfl, cell_at (B2.seg b hb).cell rfl, ?_⟩
    refine fin 0 g2 _ Od2 rfl (by omega) H2 Bq2 s2 ⟨fb, fun hh => ?_, rfl⟩
    obtain ⟨rn, rl, ss, DB⟩ := Hq.disk
    have := DB.lt _ (DB.file _ hh).2
    omega
  | 1, _, hst, fin =>
    obtain ⟨fb, hfb, rfl⟩ := hst
    rw [if_pos (by rfl)]
    refine ⟨blk g.size, rfl, by decide, by show (1 : Int) < 3; decide, _, cell_at cq rfl, F_wal_Log_shorten_2, [], [_], rfl, by kernel_rfl, ?_⟩
    refine S_wal_Log_shorten_2 (q0 := blk h0.size) ⟨some (blk lb), cell_at0 SBq.l rfl, blk lb, rfl, some (blk a), cell_at B.cell rfl, ?_⟩
    refine disk_Sync Hq.disk fun g2 Od2 d2 st2 => ?_
    obtain ⟨H2, s2⟩ := Hq.onDisk d2 st2
    have Bq2 := Hq.onDiskB Bq st2
    exact fin _ g2 _ Od2 (congrArg Prod.fst (put_sync hl ht)) (by omega) H2 Bq2 s2 ⟨fb, hfb, rfl⟩
  | 2, _, hst, fin =>
    obtain ⟨fb, hfb, rfl⟩ := hst
    rw [if_pos (by rfl)]
    refine ⟨blk g.size, rfl, by decide, by show (2 : Int) < 3; decide, _, cell_at cq rfl, F_wal_Log_shorten_3, [], [_, _], rfl, by kernel_rfl, ?_⟩
    refine S_wal_Log_shorten_3 (q0 := blk h0.size) (q1 := blk h1.size) ⟨some (blk lb), cell_at0 SBq.l rfl, blk lb, rfl, some (blk a), cell_at B.cell rfl, some (blk b), cell_at0 SBq.x rfl, blk b, rfl, ((L.sg b).first : Int), cell_at (B.seg b hb).cell rfl, wal_name_ hf fun g1 w1 => ?_⟩
    obtain ⟨H1, s1⟩ := Hq.grow w1
    have Bq1 := growB Bq w1
    obtain ⟨ps1, B1⟩ := id Bq1
    have SB1 : ShortB g1 lb b h0.size h1.size h2.size s := SB7.keep (sq.trans s1) hO
    refine ⟨cell_at0 SB1.l rfl, cell_at B1.cell rfl, cell_at0 SB1.x rfl, cell_at (B1.seg b hb).cell rfl, ?_⟩
    refine disk_Rename H1.disk (by rw [put_sync hl ht]; show (D.chg ++ [_]).length < _; rw [List.length_append, List.length_singleton]; omega) fun g2 Od2 d2 st2 => ?_
    obtain ⟨H2, s2⟩ := H1.onDisk d2 st2
    have Bq2 := H1.onDiskB Bq1 st2
    have SB2 : ShortB g2 lb b h0.size h1.size h2.size s := SB7.keep ((sq.trans s1).trans s2) hO
    obtain ⟨ps2, B2⟩ := id Bq2
    refine ⟨cell_at0 SB2.l rfl, cell_at B2.cell rfl, cell_at0 SB2.x rfl, cell_at (B2.seg b hb).cell rfl, ?_⟩
    exact fin _ g2 _ Od2 (congrArg Prod.fst (put_ren hl ht (right_name _))) (by omega) H2 Bq2 (s1.trans s2) ⟨fb, hfb, rfl⟩
  | 3, _, hst, _ =>
    obtain ⟨fb, hfb, rfl⟩ := hst
    rw [if_neg (by show ¬ decide ((3 : Int) < 3) = true; decide)]
    exact hk q Odk fb hfb Hq Bq (s7.trans sq)
theorem short_tail {h0 h1 hS g : Hp} {b k : Nat} {n : Int} {s : ByteArray} {sl : Sl} {K : Int → Hp → Prop} (H : LogAt g lb a L D Od Ol) (B0 : ∃ ps, LogB g lb a sl ps L Ol) (hb : b ∈ L.segs) (SB : ShortB g lb b h0.size h1.size hS.size s) (hO : ∀ y, Or2 Od Ol y → y ≠ h0.size ∧ y ≠ h1.size ∧ y ≠ hS.size)
    (hk0 : IntKind.i64.wrap (IntKind.i64.wrap (n - ((L.sg b).first : Int)) + 1) = (k : Int)) (hkl : k < (L.sg b).places.length) (hz : (L.sg b).places.getD k 0 ≤ s.size) (hf : (L.sg b).first < 1000000000) (hl : Live D) (hn : D.chg.length < 900000) (hr : 0 ≤ D.room ∧ D.room < 4611686018427387904) (hu : D.used < 4611686018427387904)
    (ht : lookL tempB D.now = none) (hfu : ¬ D.full tempB (s.extract 0 ((L.sg b).places.getD k 0)))
    (hk : ∀ h' Od' fb, ¬ D.has fb → LogAt h' lb a (L.cutSeg b k) (D.anew (nameB (L.sg b).first) (s.extract 0 ((L.sg b).places.getD k 0)) fb) Od' Ol → (∃ ps, LogB h' lb a sl ps (L.cutSeg b k) Ol) → Step g (Or2 Od Ol) h' (Or2 Od' Ol) → K 0 h') : shortT n h0 K h1 hS g := by
  obtain ⟨ps, B⟩ := B0
  have Sb := B.seg b hb
  have hlen := Sb.len
  have hx : cellH g (blk h1.size) = some (Value.pointer (some (blk b))) := cell_at0 SB.x rfl
  obtain ⟨p, p1, p2⟩ := Sb.places.get (i := k) (v := intV ((L.sg b).places.getD k 0)) (by rw [List.getElem?_map, List.getElem?_eq_getElem hkl, List.getD_eq_getElem?_getD, List.getElem?_eq_getElem hkl]; rfl)
  unfold shortT
  refine ⟨some (blk b), hx, blk b, rfl, ((L.sg b).first : Int), cell_at Sb.cell rfl, some (blk b), hx, some (blk b), hx, blk b, rfl, ps b, cell_at Sb.cell rfl, p, p1, by rw [hk0]; omega, by rw [hk0]; omega, (((L.sg b).places.getD k 0 : Nat) : Int), by rw [hk0]; exact p2, blk b, rfl, _, cell_at Sb.cell rfl, frz_at Sb.cell, fun g2 e2 => ?_⟩
  have c2 := set_at (cs' := #[.int .i64 (L.sg b).first, (ps b).v, .int .i64 (((L.sg b).places.getD k 0 : Nat) : Int), .bool (L.sg b).dirty]) e2 Sb.cell rfl
  have xb : h1.size ≠ b := fun e => (hO b (.inr (B.og b hb).1)).2.1 e.symm
  have lb' : h0.size ≠ b := fun e => (hO b (.inr (B.og b hb).1)).1 e.symm
  have sb' : hS.size ≠ b := fun e => (hO b (.inr (B.og b hb).1)).2.2 e.symm
  have n2 : ∀ y, y ≠ b → g2[y]? = g[y]? := fun y hy => by rw [e2, setH_ne (by rw [blk_add]; exact hy)]
  have x2 : g2[h1.size]? = some (.cells #[.pointer (some (blk b))] T_pt_wal_segment (0, 0)) := (n2 _ xb).trans SB.x
  refine ⟨some (blk b), cell_at0 x2 rfl, some (blk b), cell_at0 x2 rfl, blk b, rfl, ps b, cell_at c2 rfl, k, hk0, Nat.zero_le _, by have := Sb.places.len_le; omega, blk b, rfl, _, cell_at c2 rfl, frz_at c2, fun g3 e3 => ?_⟩
  have c3 := set_at (cs' := #[.int .i64 (L.sg b).first, (slCut (ps b) 0 k 1).v, .int .i64 (((L.sg b).places.getD k 0 : Nat) : Int), .bool (L.sg b).dirty]) e3 c2 rfl
  have n3 : ∀ y, y ≠ b → g3[y]? = g[y]? := fun y hy => by rw [e3, setH_ne (by rw [blk_add]; exact hy)]; exact n2 y hy
  obtain ⟨H3, s3, B3⟩ := H.swapCut (k := k) B hb (by omega) c3 n3 (by rw [e3, setH_size, e2, setH_size])
  have SB3 : ShortB g3 lb b h0.size h1.size hS.size s := ⟨(n3 _ lb').trans SB.l, (n3 _ xb).trans SB.x, (n3 _ sb').trans SB.s⟩
  refine ⟨some (blk lb), cell_at0 SB3.l rfl, blk lb, rfl, some (blk a), cell_at B3.cell rfl, disk_Read H3.disk ?_⟩
  have hrd : D.read tempB = (.mk #[], 12) := by
    unfold DS.read
    rw [hl.1, if_neg (by decide), ht]
  have hrd : D.read (.mk #[116]) = (.mk #[], 12) := hrd
  rw [hrd, if_neg (by decide)]
  have hsg : (L.cutSeg b k).sg b = (L.sg b).cutTo k := sgSet_same ..
  have hcz : ((L.cutSeg b k).sg b).size = (L.sg b).places.getD k 0 := by rw [hsg]; rfl
  have hcf : ((L.cutSeg b k).sg b).first = (L.sg b).first := by rw [hsg]; rfl
  refine short_j2 H3 ⟨_, B3⟩ hb SB3 hO (by rw [hcz]; exact hz) (by rw [hcf]; exact hf) hl hn hr hu ht (by rw [hcz]; exact hfu) fun h' Od' fb hfb H' B' s' => ?_
  rw [hcf, hcz] at H'
  exact hk h' Od' fb hfb H' B' (s3.trans s')
theorem wal_shorten {b f0 k : Nat} {n : Int} {s : ByteArray} {sl : Sl} {K : Int → Hp → Prop} (H : LogAt h lb a L D Od Ol) (B0 : ∃ ps, LogB h lb a sl ps L Ol) (hb : b ∈ L.segs)
    (hfile : lookL (nameB (L.sg b).first) D.now = some f0) (hs : (D.fs f0).1 = s)
    (hk0 : IntKind.i64.wrap (IntKind.i64.wrap (n - ((L.sg b).first : Int)) + 1) = (k : Int)) (hkl : k < (L.sg b).places.length) (hz : (L.sg b).places.getD k 0 ≤ s.size) (hf : (L.sg b).first < 1000000000) (hl : Live D) (hn : D.chg.length < 900000) (hr : 0 ≤ D.room ∧ D.room < 4611686018427387904) (hu : D.used < 4611686018427387904)
    (ht : lookL tempB D.now = none) (hfu : ¬ D.full tempB (s.extract 0 ((L.sg b).places.getD k 0)))
    (hk : ∀ h' Od' fb, ¬ D.has fb → LogAt h' lb a (L.cutSeg b k) (D.anew (nameB (L.sg b).first) (s.extract 0 ((L.sg b).places.getD k 0)) fb) Od' Ol → (∃ ps, LogB h' lb a sl ps (L.cutSeg b k) Ol) → Step h (Or2 Od Ol) h' (Or2 Od' Ol) → K 0 h') : C_wal_Log_shorten (some (blk lb)) (some (blk b)) n h K := by
  have hO : ∀ y, Or2 Od Ol y → y < h.size := fun y hy => hy.elim (H.disk.lt y) (H.ollt y)
  have hrd : D.read (nameB (L.sg b).first) = (s, 0) := by
    unfold DS.read
    rw [hl.1, if_neg (by decide), hfile]
    simp only [hs]
  refine S_wal_Log_shorten fun h1 e1 h3 e3 => ?_
  have z1 : h1.size = h.size + 1 := by rw [e1, Array.size_push]
  have z3 : h3.size = h1.size + 1 := by rw [e3, Array.size_push]
  have w3 : Grow h h3 := ((Grow.refl h).push e1).push e3
  have l3 : h3[h.size]? = some (.cells #[.pointer (some (blk lb))] T_pt_wal_Log (0, 0)) := push_old e3 (push_new e1)
  have x3 : h3[h1.size]? = some (.cells #[.pointer (some (blk b))] T_pt_wal_segment (0, 0)) := push_new e3
  obtain ⟨H3, s3⟩ := H.grow w3
  have Bw3 := growB B0 w3
  obtain ⟨ps, B3⟩ := id Bw3
  -- what stands in each world of the region
  have keep : ∀ g, Grow h3 g → cellH g (blk h.size) = some (Value.pointer (some (blk lb))) ∧ cellH g ((blk lb).add 0) = some (Value.pointer (some (blk a))) ∧ cellH g (blk h1.size) = some (Value.pointer (some (blk b))) ∧ cellH g ((blk b).add 0) = some (Value.int .i64 ((L.sg b).first : Int)) := fun g w =>
    ⟨cell_at0 (w.at_ l3) rfl, cell_at (w.at_ B3.cell) rfl, cell_at0 (w.at_ x3) rfl, cell_at (w.at_ (B3.seg b hb).cell) rfl⟩
  have tail : ∀ (hS g : Hp), Grow h3 hS → Grow h3 g → h3.size ≤ hS.size → g[hS.size]? = some (.cells #[.string s] T_string (0, 0)) → shortT n h K h1 hS g := fun hS g wS wg hSz hs3 => by
    obtain ⟨Hg, sg⟩ := H3.grow wg
    have := wS.size
    refine short_tail Hg (growB Bw3 wg) hb ⟨wg.at_ l3, wg.at_ x3, hs3⟩ (fun y hy => ?_) hk0 hkl hz hf hl hn hr hu ht hfu fun h' Od' fb hfb H' B' s' => hk h' Od' fb hfb H' B' ((s3.trans sg).trans s')
    have := hO y hy
    omega
  have rd : ∀ (g : Hp) (k : ByteArray → Int → Hp → Prop), Grow h3 g → k s 0 g → C_disk_Disk_Read (some (blk a)) (nameB (L.sg b).first) g k := fun g k wg hkk => by
    obtain ⟨Hg, _⟩ := H3.grow wg
    refine disk_Read Hg.disk ?_
    rw [hrd]
    exact hkk
  obtain ⟨q1, q2, q3, q4⟩ := keep h3 (Grow.refl _)
  refine ⟨some (blk lb), q1, blk lb, rfl, some (blk a), q2, some (blk b), q3, blk b, rfl, ((L.sg b).first : Int), q4, wal_name_ hf fun g1 w1 => ?_, fun g1 e1' => ?_⟩
  · refine ⟨(keep g1 w1).1, (keep g1 w1).2.1, (keep g1 w1).2.2.1, (keep g1 w1).2.2.2, rd g1 _ w1 ?_, fun g2 e2 => ?_⟩
    · refine ⟨(keep g1 w1).1, (keep g1 w1).2.1, (keep g1 w1).2.2.1, (keep g1 w1).2.2.2, fun g2 e2 => ?_⟩
      have w2 : Grow h3 g2 := w1.push e2
      have c2 := push_new e2
      refine ⟨(keep g2 w2).1, (keep g2 w2).2.1, (keep g2 w2).2.2.1, (keep g2 w2).2.2.2, _, cell_at0 c2 rfl, frz_at0 c2, fun g3 e3' => ?_⟩
      have w3' : Grow h3 g3 := w2.set e3' w1.size
      refine ⟨(keep g3 w3').1, (keep g3 w3').2.1, (keep g3 w3').2.2.1, (keep g3 w3').2.2.2, ?_⟩
      rw [if_neg (by decide)]
      exact tail g1 g3 w1 w3' w1.size (set_at0 (cs' := #[.string s]) e3' c2 rfl)
    · have w2 : Grow h3 g2 := w1.push e2
      have c2 := push_new e2
      refine ⟨(keep g2 w2).1, (keep g2 w2).2.1, (keep g2 w2).2.2.1, (keep g2 w2).2.2.2, rd g2 _ w2 ⟨(keep g2 w2).1, (keep g2 w2).2.1, (keep g2 w2).2.2.1, (keep g2 w2).2.2.2, _, cell_at0 c2 rfl, frz_at0 c2, fun g3 e3' => ?_⟩⟩
      have w3' : Grow h3 g3 := w2.set e3' w1.size
      refine ⟨(keep g3 w3').1, (keep g3 w3').2.1, (keep g3 w3').2.2.1, (keep g3 w3').2.2.2, ?_⟩
      rw [if_neg (by decide)]
      exact tail g1 g3 w1 w3' w1.size (set_at0 (cs' := #[.string s]) e3' c2 rfl)
  · have w1 : Grow h3 g1 := (Grow.refl _).push e1'
    have c1 := push_new e1'
    refine ⟨(keep g1 w1).1, (keep g1 w1).2.1, (keep g1 w1).2.2.1, (keep g1 w1).2.2.2, wal_name_ hf fun g2 w2' => ?_⟩
    have w2 : Grow h3 g2 := w1.trans w2'
    have c2 := w2'.at_ c1
    refine ⟨(keep g2 w2).1, (keep g2 w2).2.1, (keep g2 w2).2.2.1, (keep g2 w2).2.2.2, rd g2 _ w2 ⟨(keep g2 w2).1, (keep g2 w2).2.1, (keep g2 w2).2.2.1, (keep g2 w2).2.2.2, _, cell_at0 c2 rfl, frz_at0 c2, fun g3 e3' => ?_⟩⟩
    have w3' : Grow h3 g3 := w2.set e3' (Nat.le_refl _)
    refine ⟨(keep g3 w3').1, (keep g3 w3').2.1, (keep g3 w3').2.2.1, (keep g3 w3').2.2.2, ?_⟩
    rw [if_neg (by decide)]
    exact tail h3 g3 (Grow.refl _) w3' (Nat.le_refl _) (set_at0 (cs' := #[.string s]) e3' c2 rfl)
end
end Go.Proofs.YtgdmjdacmebfjaaGreatDoor.D

namespace Go.Proofs.YtgdmjdacmebfjaaGreatDoor.D
open Go

section
variable {h : Hp} {lb a : Nat} {L : LS} {D : DS} {Od Ol : Nat → Prop}
theorem standsS_live {n : Nat} (hl : Live D) : standsS L D n = (0, { L with last := n, durable := n, begun := false }, { D with lasting := D.now, chg := [] }) := by
  unfold standsS DS.syncNames
  rw [live_write hl, if_pos rfl, if_pos rfl]
theorem anew_live {name s : ByteArray} {fb : Nat} (hl : Live D) (ht : lookL tempB D.now = none) (hr : rightP name) : D.anew name s fb = DS.change { D.change (.put tempB fb) with fs := fsSet D.fs fb (s, s.size) } (.ren tempB name fb) ∧ Live (D.anew name s fb) := by
  have e : D.anew name s fb = DS.change { D.change (.put tempB fb) with fs := fsSet D.fs fb (s, s.size) } (.ren tempB name fb) := congrArg Prod.snd (put_ren hl ht hr)
  exact ⟨e, by rw [e]; exact hl⟩
/-- What shortening a segment asks. -/
structure ShortOk (L : LS) (D : DS) (b k f0 : Nat) (s : ByteArray) : Prop where
  file : lookL (nameB (L.sg b).first) D.now = some f0
  cont : (D.fs f0).1 = s
  kl : k < (L.sg b).places.length
  size : (L.sg b).places.getD k 0 ≤ s.size
  temp : lookL tempB D.now = none
  room : ¬ D.full tempB (s.extract 0 ((L.sg b).places.getD k 0))
  used : D.used < 4611686018427387904
/-- Behind the loop. -/
theorem cut_tail {n : Nat} {C : Hp → Prop} {K : Int → Hp → Prop} (H : LogAt h lb a L D Od Ol) (hok : ∀ b, b ∈ L.segs → (L.sg b).Ok) (hlen : L.segs.length < 1000000) (hl : Live D) (hn : D.chg.length < 800000) (hr : 0 ≤ D.room ∧ D.room < 4611686018427387904) (hn9 : n < 1000000000)
    (h1 : L.end_ ≤ n → ∀ h' Od', LogAt h' lb a { L with last := n, durable := n, begun := false } { D with lasting := D.now, chg := [] } Od' Ol → Step h (Or2 Od Ol) h' (Or2 Od' Ol) → K 0 h')
    (h2 : (n : Int) < L.end_ → ∃ b k f0 s, L.segs.getLast? = some b ∧ (L.sg b).first + k = n + 1 ∧ ShortOk L D b k f0 s ∧ ∀ h' Od' fb, ¬ D.has fb → LogAt h' lb a { L.cutSeg b k with last := n, durable := n, begun := false } { D.anew (nameB (L.sg b).first) (s.extract 0 ((L.sg b).places.getD k 0)) fb with lasting := (D.anew (nameB (L.sg b).first) (s.extract 0 ((L.sg b).places.getD k 0)) fb).now, chg := [] } Od' Ol → Step h (Or2 Od Ol) h' (Or2 Od' Ol) → K 0 h') :
    D_wal_Log_CutAfter_j2 (some (blk lb)) (n : Int) K (blk lb) C false h := by
  unfold D_wal_Log_CutAfter_j2
  rw [if_neg (by decide)]
  refine log_end H hok hlen ?_
  by_cases he : (n : Int) < L.end_
  · rw [if_pos (by rw [decide_eq_true_iff]; exact he)]
    obtain ⟨b, k, f0, s, hb, hfk, SO, h2⟩ := h2 he
    obtain ⟨sl, ps, B⟩ := H.log
    have hm : b ∈ L.segs := List.mem_of_getLast? hb
    have hne : 0 < L.segs.length := List.length_pos_of_mem hm
    have hg : L.segs[L.segs.length - 1]? = some b := by rw [← List.getLast?_eq_getElem?]; exact hb
    have hw : IntKind.i64.wrap ((sl.len : Int) - 1) = ((L.segs.length - 1 : Nat) : Int) := by rw [B.len, wrap64] <;> omega
    obtain ⟨p, p1, p2⟩ := B.segs.get (i := L.segs.length - 1) (v := fval b) (by rw [List.getElem?_map, hg]; rfl)
    obtain ⟨o1, o2⟩ := hok b hm
    refine ⟨sl, cell_at B.cell rfl, sl, cell_at B.cell rfl, p, p1, by rw [hw]; omega, by rw [hw, B.len]; omega, some (blk b), by rw [hw]; exact p2, ?_⟩
    refine wal_shorten H ⟨ps, B⟩ hm SO.file SO.cont (k := k) (by rw [wrap64 (x := (n : Int) - ((L.sg b).first : Int)) (by omega) (by omega), wrap64 (by omega) (by omega)]; omega) SO.kl SO.size (by omega) hl (by omega) hr SO.used SO.temp SO.room fun h1' Od1 fb hfb H1 B1 s1 => ?_
    obtain ⟨ps1, B1⟩ := B1
    obtain ⟨p', p1', p2'⟩ := B1.segs.get (i := L.segs.length - 1) (v := fval b) (by show (L.segs.map fval)[_]? = _; rw [List.getElem?_map, hg]; rfl)
    rw [p1] at p1'
    cases p1'
    refine ⟨cell_at B1.cell rfl, cell_at B1.cell rfl, by rw [hw]; exact p2', ?_⟩
    rw [if_neg (by decide)]
    unfold D_wal_Log_CutAfter_j1
    obtain ⟨a1, a2⟩ := anew_live (D := D) (name := nameB (L.sg b).first) (s := s.extract 0 ((L.sg b).places.getD k 0)) (fb := fb) hl SO.temp (right_name _)
    refine log_stands H1 fun h2' Od2 H2 s2 => ?_
    rw [standsS_live a2] at H2 ⊢
    exact h2 h2' Od2 fb hfb H2 (s1.trans s2)
  · rw [if_neg (by rw [decide_eq_true_iff]; omega)]
    unfold D_wal_Log_CutAfter_j1
    refine log_stands H fun h2' Od2 H2 s2 => ?_
    rw [standsS_live hl] at H2 ⊢
    exact h1 (by omega) h2' Od2 H2 s2
/-- A log whose last number it is. -/
theorem log_CutAfter_same {K : Int → Hp → Prop} (H : LogAt h lb a L D Od Ol) (hl : L.last < 1000000000) (hf : 1 ≤ L.first ∧ L.first ≤ L.last + 1) (hk : ∀ h', LogAt h' lb a { L with hand := none } D Od Ol → Step h (Or2 Od Ol) h' (Or2 Od Ol) → K 0 h') : C_wal_Log_CutAfter (some (blk lb)) (L.last : Int) h K := by
  refine S_wal_Log_CutAfter (log_First H hl ?_)
  have hw : IntKind.i64.wrap ((L.first : Int) - 1) = ((L.first - 1 : Nat) : Int) := by rw [wrap64] <;> omega
  obtain ⟨s, ps, B⟩ := H.log
  rw [hw, if_neg (by rw [decide_eq_true_iff]; omega)]
  refine ⟨blk lb, rfl, _, cell_at B.cell rfl, ?_⟩
  unfold D_wal_Log_CutAfter_j4
  rw [if_neg (by rw [decide_eq_true_iff]; omega)]
  refine ⟨blk lb, rfl, _, cell_at B.cell rfl, frz_at B.cell, fun g1 e1 => ?_⟩
  have c1 := set_at (cs' := #[.pointer (some (blk a)), s.v, .pointer none, .bool L.begun, .int .i64 L.last, .int .i64 L.durable]) e1 B.cell rfl
  obtain ⟨H1, s1⟩ := H.swap (L' := { L with hand := none }) B c1 (fun b hb => by rw [e1, setH_ne (by rw [blk_add]; exact hb)]) (by rw [e1, setH_size]) B.segs (fun _ => id) (fun _ => id) rfl
  refine ⟨_, cell_at c1 rfl, ?_⟩
  rw [if_pos (by rw [beq_iff_eq])]
  exact hk g1 H1 s1
/-- A log that is cut behind a smaller number. -/
theorem log_CutAfter {n : Nat} {r q : List Nat} {D1 : DS} {K : Int → Hp → Prop} (H : LogAt h lb a L D Od Ol) (hlast : L.last < 1000000000) (hok : ∀ b, b ∈ L.segs → (L.sg b).Ok) (hlen : L.segs.length < 100000) (hf : 1 ≤ L.first ∧ L.first ≤ n + 1) (hn : n < L.last) (hc : D.chg.length < 100000)
    (hseg : L.segs = r ++ q) (hq : ∀ b, b ∈ q → n < (L.sg b).first) (hrl : ∀ b, r.getLast? = some b → (L.sg b).first ≤ n) (hrem : resetL L.sg q.reverse D = (0, [], D1)) (hl1 : Live D1) (hc1 : D1.chg.length < 800000) (hr1 : 0 ≤ D1.room ∧ D1.room < 4611686018427387904)
    (h1 : ({ L with segs := r, hand := none } : LS).end_ ≤ n → ∀ h' Od', LogAt h' lb a { L with segs := r, hand := none, last := n, durable := n, begun := false } { D1 with lasting := D1.now, chg := [] } Od' Ol → Step h (Or2 Od Ol) h' (Or2 Od' Ol) → K 0 h')
    (h2 : (n : Int) < ({ L with segs := r, hand := none } : LS).end_ → ∃ b k f0 s, r.getLast? = some b ∧ (L.sg b).first + k = n + 1 ∧ ShortOk { L with segs := r, hand := none } D1 b k f0 s ∧ ∀ h' Od' fb, ¬ D1.has fb → LogAt h' lb a { ({ L with segs := r, hand := none } : LS).cutSeg b k with last := n, durable := n, begun := false } { D1.anew (nameB (L.sg b).first) (s.extract 0 ((L.sg b).places.getD k 0)) fb with lasting := (D1.anew (nameB (L.sg b).first) (s.extract 0 ((L.sg b).places.getD k 0)) fb).now, chg := [] } Od' Ol → Step h (Or2 Od Ol) h' (Or2 Od' Ol) → K 0 h') :
    C_wal_Log_CutAfter (some (blk lb)) (n : Int) h K := by
  refine S_wal_Log_CutAfter (log_First H hlast ?_)
  have hw : IntKind.i64.wrap ((L.first : Int) - 1) = ((L.first - 1 : Nat) : Int) := by rw [wrap64] <;> omega
  obtain ⟨s, ps, B⟩ := H.log
  rw [hw, if_neg (by rw [decide_eq_true_iff]; omega)]
  refine ⟨blk lb, rfl, _, cell_at B.cell rfl, ?_⟩
  unfold D_wal_Log_CutAfter_j4
  rw [if_neg (by rw [decide_eq_true_iff]; omega)]
  refine ⟨blk lb, rfl, _, cell_at B.cell rfl, frz_at B.cell, fun g1 e1 => ?_⟩
  have c1 := set_at (cs' := #[.pointer (some (blk a)), s.v, .pointer none, .bool L.begun, .int .i64 L.last, .int .i64 L.durable]) e1 B.cell rfl
  obtain ⟨H1, s1⟩ := H.swap (L' := { L with hand := none }) B c1 (fun b hb => by rw [e1, setH_ne (by rw [blk_add]; exact hb)]) (by rw [e1, setH_size]) B.segs (fun _ => id) (fun _ => id) rfl
  refine ⟨_, cell_at c1 rfl, ?_⟩
  rw [if_neg (by rw [beq_iff_eq]; omega)]
  refine ⟨fun g => ∃ q' D' Od1, LogAt g lb a { L with segs := r ++ q', hand := none } D' Od1 Ol ∧ Step h (Or2 Od Ol) g (Or2 Od1 Ol) ∧ (∀ b, b ∈ q' → b ∈ q) ∧ q'.length ≤ q.length ∧ resetL L.sg q'.reverse D' = (0, [], D1) ∧ D'.chg.length + q'.length < 200000,
    fun g => lenAt g lb, ⟨q, D, Od, by rw [← hseg]; exact H1, s1, fun _ => id, Nat.le_refl _, hrem, by rw [hseg, List.length_append] at hlen; omega⟩, ?_⟩
  rintro g ⟨q', D', Od1, Hg, sg, hsub, hql, hres, hcg⟩
  unfold D_wal_Log_CutAfter_l3
  obtain ⟨s, ps, B⟩ := Hg.log
  have hmem : ∀ b, b ∈ r ++ q' → b ∈ L.segs := fun b hb => by
    rw [hseg]
    exact (List.mem_append.1 hb).elim (List.mem_append_left _) (fun h => List.mem_append_right _ (hsub b h))
  have hlen' : (r ++ q').length < 100000 := by
    rw [hseg] at hlen
    rw [List.length_append] at hlen ⊢
    omega
  have slen : s.len = (r ++ q').length := B.len
  refine ⟨s, cell_at B.cell rfl, ?_⟩
  -- the last one's place
  have look : ∀ b, (r ++ q').getLast? = some b → ∃ p, s.a = some p ∧ cellH g (p.add ((r ++ q').length - 1)) = some (fval b) ∧ b ∈ r ++ q' ∧ 0 < (r ++ q').length ∧ IntKind.i64.wrap ((s.len : Int) - 1) = (((r ++ q').length - 1 : Nat) : Int) := fun b hb => by
    have hm : b ∈ r ++ q' := List.mem_of_getLast? hb
    have hne : 0 < (r ++ q').length := List.length_pos_of_mem hm
    have hg : (r ++ q')[(r ++ q').length - 1]? = some b := by rw [← List.getLast?_eq_getElem?]; exact hb
    obtain ⟨p, p1, p2⟩ := B.segs.get (i := (r ++ q').length - 1) (v := fval b) (by show ((r ++ q').map fval)[_]? = _; rw [List.getElem?_map, hg]; rfl)
    rw [Nat.mul_one] at p2
    exact ⟨p, p1, p2, hm, hne, by rw [slen, wrap64] <;> omega⟩
  have done : q' = [] → D_wal_Log_CutAfter_j2 (some (blk lb)) (n : Int) K (blk lb) (fun h' => (∃ q' D' Od1, LogAt h' lb a { L with segs := r ++ q', hand := none } D' Od1 Ol ∧ Step h (Or2 Od Ol) h' (Or2 Od1 Ol) ∧ (∀ b, b ∈ q' → b ∈ q) ∧ q'.length ≤ q.length ∧ resetL L.sg q'.reverse D' = (0, [], D1) ∧ D'.chg.length + q'.length < 200000) ∧ lenAt h' lb < lenAt g lb) false g := by
    intro e
    subst e
    rw [List.append_nil] at Hg hmem
    have e1 : D' = D1 := congrArg (fun x => x.2.2) hres
    subst e1
    refine cut_tail Hg (fun b hb => hok b (hmem b hb)) (by rw [List.append_nil] at hlen'; show r.length < _; omega) hl1 hc1 hr1 (by omega) (fun he h' Od' H' s' => h1 he h' Od' H' (sg.trans s')) fun he => ?_
    obtain ⟨b, k, f0, c, y1, y2, y3, y4⟩ := h2 he
    exact ⟨b, k, f0, c, y1, y2, y3, fun h' Od' fb hfb H' s' => y4 h' Od' fb hfb H' (sg.trans s')⟩
  cases hlast' : (r ++ q').getLast? with
  | none =>
    rw [List.getLast?_eq_none_iff] at hlast'
    have hq0 : q' = [] := (List.append_eq_nil_iff.1 hlast').2
    rw [if_neg (by rw [decide_eq_true_iff, slen, hlast']; decide)]
    exact done hq0
  | some b =>
    obtain ⟨p, p1, p2, hm, hne, hw⟩ := look b hlast'
    have Sb := B.seg b hm
    rw [if_pos (by rw [decide_eq_true_iff]; omega)]
    refine ⟨s, cell_at B.cell rfl, s, cell_at B.cell rfl, p, p1, by rw [hw]; omega, by rw [hw]; omega, some (blk b), by rw [hw, Nat.mul_one]; exact p2, blk b, rfl, _, cell_at Sb.cell rfl, ?_⟩
    rcases List.eq_nil_or_concat q' with hq0 | ⟨q'', b', rfl⟩
    · have hbn : (L.sg b).first ≤ n := hrl b (by rw [hq0, List.append_nil] at hlast'; exact hlast')
      rw [show decide (((L.sg b).first : Int) > (n : Int)) = false from decide_eq_false (by omega)]
      exact done hq0
    · rw [List.concat_eq_append] at *
      have hbb : b' = b := by
        rw [← List.append_assoc, List.getLast?_append] at hlast'
        simpa using hlast'
      subst hbb
      have hbq : b' ∈ q := hsub b' (by simp)
      have hbn := hq b' hbq
      rw [show decide (((L.sg b').first : Int) > (n : Int)) = true from decide_eq_true (by omega)]
      unfold D_wal_Log_CutAfter_j2
      rw [if_pos rfl]
      obtain ⟨o1, o2⟩ := hok b' (hmem b' hm)
      refine ⟨s, cell_at B.cell rfl, some (blk a), cell_at B.cell rfl, s, cell_at B.cell rfl, p, p1, by rw [hw]; omega, by rw [hw]; omega, some (blk b'), by rw [hw, Nat.mul_one]; exact p2, blk b', rfl, _, cell_at Sb.cell rfl, wal_name_ (n := (L.sg b').first) (by omega) fun g1 w1 => ?_⟩
      obtain ⟨Hg1, sg1⟩ := Hg.grow w1
      have B1 : LogB g1 lb a s ps { L with segs := r ++ (q'' ++ [b']), hand := none } Ol := B.frame (fun b hb => w1.same b (B.lt b hb) id) w1.size
      have cellp : ∀ g' ps', LogB g' lb a s ps' { L with segs := r ++ (q'' ++ [b']), hand := none } Ol → cellH g' (p.add ((r ++ (q'' ++ [b'])).length - 1)) = some (fval b') := fun g' ps' B' => by
        have hg : (r ++ (q'' ++ [b']))[(r ++ (q'' ++ [b'])).length - 1]? = some b' := by rw [← List.getLast?_eq_getElem?]; exact hlast'
        obtain ⟨p', p1', p2'⟩ := B'.segs.get (i := (r ++ (q'' ++ [b'])).length - 1) (v := fval b') (by show ((r ++ (q'' ++ [b'])).map fval)[_]? = _; rw [List.getElem?_map, hg]; rfl)
        rw [p1] at p1'
        cases p1'
        rw [Nat.mul_one] at p2'
        exact p2'
      refine ⟨cell_at B1.cell rfl, cell_at B1.cell rfl, by rw [hw, Nat.mul_one]; exact cellp g1 ps B1, cell_at (B1.seg b' hm).cell rfl, disk_Remove Hg1.disk (by omega) fun g2 Od2 d2 st2 => ?_⟩
      obtain ⟨H2, s2⟩ := Hg1.onDisk d2 st2
      have B2 : LogB g2 lb a s ps { L with segs := r ++ (q'' ++ [b']), hand := none } Ol := B1.frame (fun b hb => st2.ext.same b (B1.lt b hb) (Hg1.dis b hb)) st2.size
      refine ⟨cell_at B2.cell rfl, cell_at B2.cell rfl, by rw [hw, Nat.mul_one]; exact cellp g2 ps B2, cell_at (B2.seg b' hm).cell rfl, ?_⟩
      have hrev : (q'' ++ [b']).reverse = b' :: q''.reverse := by simp
      rw [hrev, resetL] at hres
      have h0 : (D'.remove (nameB (L.sg b').first)).1 = 0 := by
        by_cases h0 : (D'.remove (nameB (L.sg b').first)).1 = 0
        · exact h0
        · rw [if_neg h0] at hres
          have := congrArg (fun x => x.2.1) hres
          simp at this
      rw [if_pos h0] at hres
      have h0' : ((D'.remove (nameB (L.sg b').first)).1 != (0 : Int)) = false := by rw [h0]; rfl
      rw [if_neg (by show ¬ ((D'.remove (nameB (L.sg b').first)).1 != (0 : Int)) = true; rw [h0']; decide)]
      refine ⟨s, cell_at B2.cell rfl, (r ++ (q'' ++ [b'])).length - 1, hw, Nat.zero_le _, by have := B2.segs.len_le; omega, _, cell_at B2.cell rfl, frz_at B2.cell, fun g3 e3 => ?_⟩
      have c3 := set_at (cs' := #[.pointer (some (blk a)), (slCut s 0 ((r ++ (q'' ++ [b'])).length - 1) 1).v, .pointer none, .bool L.begun, .int .i64 L.last, .int .i64 L.durable]) e3 B2.cell rfl
      have hln : (r ++ (q'' ++ [b'])).length - 1 = (r ++ q'').length := by simp only [List.length_append, List.length_singleton]; omega
      have hcut := B2.segs.cut (i := 0) (j := (r ++ q'').length) (Nat.zero_le _) (by omega)
      have hsegs : ((({ L with segs := r ++ (q'' ++ [b']), hand := none } : LS).segs.map fval).drop 0).take ((r ++ q'').length - 0) = (r ++ q'').map fval := by
        show (((r ++ (q'' ++ [b'])).map fval).drop 0).take _ = _
        rw [List.drop_zero, Nat.sub_zero, ← List.append_assoc, List.map_append, List.take_append_of_le_length (by rw [List.length_map]; exact Nat.le_refl _), List.take_of_length_le (by rw [List.length_map]; exact Nat.le_refl _)]
      rw [hsegs] at hcut
      rw [hln] at c3
      obtain ⟨H3, s3⟩ := H2.swap (L' := { L with segs := r ++ q'', hand := none }) B2 c3 (fun b hb => by rw [e3, setH_ne (by rw [blk_add]; exact hb)]) (by rw [e3, setH_size]) hcut (fun q hq => by rw [slCut_blk] at hq; exact hq) (fun x hx => by
        rw [← List.append_assoc]
        exact List.mem_append_left _ hx) rfl
      have hrc := remove_chg D' (nameB (L.sg b').first)
      refine ⟨⟨q'', _, Od2, H3, ((sg.trans sg1).trans s2).trans s3, fun x hx => hsub x (List.mem_append_left _ hx), by rw [List.length_append] at hql; omega, hres, by rw [List.length_append, List.length_singleton] at hcg; omega⟩, ?_⟩
      show lenAt g3 lb < lenAt g lb
      rw [lenAt_log (L := { L with segs := r ++ q'', hand := none }) c3, lenAt_log B.cell]
      show (r ++ q'').length - 0 < s.len
      omega
end
end Go.Proofs.YtgdmjdacmebfjaaGreatDoor.D

namespace Go.Proofs.YtgdmjdacmebfjaaGreatDoor.D
open Go

/-! ### Files -/
def recB (i : Nat) : ByteArray := .mk #[UInt8.ofNat i]
def catF : Nat → Nat → ByteArray
  | _, 0 => .mk #[]
  | f, m + 1 => catF f m ++ frameOf (recB (f + m))
def pl (m : Nat) : List Nat := (List.range m).map (8 * ·)
theorem rec_size (i : Nat) : (frameOf (recB i)).size = 8 := by
  unfold frameOf
  rw [frame_len]
  show cnt 1 + 1 + 6 = 8
  decide
theorem cat_size (f : Nat) : ∀ m, (catF f m).size = 8 * m
  | 0 => rfl
  | m + 1 => by
    show (catF f m ++ _).size = _
    rw [ByteArray.size_append, cat_size f m, rec_size]
    omega
theorem cat_split (f k : Nat) : ∀ d, ∃ r, catF f (k + d) = catF f k ++ r
  | 0 => ⟨.mk #[], str_ext (by rw [append_list]; simp)⟩
  | d + 1 => by
    obtain ⟨r, hr⟩ := cat_split f k d
    refine ⟨r ++ frameOf (recB (f + (k + d))), ?_⟩
    show catF f (k + d) ++ frameOf (recB (f + (k + d))) = _
    rw [hr, ByteArray.append_assoc]
theorem cat_take {f k m : Nat} (h : k ≤ m) : (catF f m).extract 0 (8 * k) = catF f k := by
  obtain ⟨r, hr⟩ := cat_split f k (m - k)
  rw [show k + (m - k) = m by omega] at hr
  refine str_ext ?_
  rw [extract_front, hr, append_list, ← cat_size f k, size_len, List.take_left]
theorem cat_drop {f k m : Nat} (h : k < m) : ∃ r, (catF f m).extract (8 * k) (catF f m).size = frameOf (recB (f + k)) ++ r := by
  obtain ⟨r, hr⟩ := cat_split f (k + 1) (m - (k + 1))
  rw [show k + 1 + (m - (k + 1)) = m by omega] at hr
  refine ⟨r, str_ext ?_⟩
  rw [extract_end, hr]
  show List.drop _ (catF f k ++ _ ++ r).data.toList = _
  rw [append_list, append_list, append_list, List.append_assoc, ← cat_size f k, size_len, List.drop_left]
theorem cat_get {f k m : Nat} (h : k < m) : getFrame ((catF f m).extract (8 * k) (catF f m).size) = (1, recB (f + k), 8, 0) := by
  obtain ⟨r, hr⟩ := cat_drop (f := f) h
  rw [hr]
  show getFrame (frameB 1 (recB (f + k)) ++ r) = _
  rw [get_put (by decide) (by show 1 ≤ _; decide)]
  have := rec_size (f + k)
  unfold frameOf at this
  rw [this]
  rfl
theorem cat_parse {f m : Nat} : ∀ (d k fu : Nat), k + d = m → d < fu → parseF (catF f m) fu (8 * k) = ((List.range' k d).map (8 * ·), 8 * m)
  | 0, k, fu + 1, h, _ => by
    unfold parseF
    rw [if_neg (by rw [cat_size]; omega), show k = m by omega]
    rfl
  | d + 1, k, fu + 1, h, hf => by
    have hr := cat_parse (f := f) (m := m) d (k + 1) fu (by omega) (by omega)
    unfold parseF
    rw [if_pos (by rw [cat_size]; omega), cat_get (m := m) (k := k) (by omega), if_neg (by simp)]
    have e : 8 * k + (8 : Int).toNat = 8 * (k + 1) := by
      show 8 * k + 8 = _
      omega
    simp only []
    rw [e, hr]
    rfl
  | _, _, 0, _, h => absurd h (Nat.not_lt_zero _)
theorem cat_parsed (f m : Nat) : parsed f (catF f m) = ⟨f, pl m, 8 * m, false⟩ := by
  have := cat_parse (f := f) (m := m) m 0 ((catF f m).size + 1) (by omega) (by rw [cat_size]; omega)
  unfold parsed
  have e : parseF (catF f m) ((catF f m).size + 1) 0 = ((List.range' 0 m).map (8 * ·), 8 * m) := this
  rw [e]
  unfold pl
  rw [List.range_eq_range']
theorem pl_len (m : Nat) : (pl m).length = m := by simp [pl]
theorem pl_get {m k : Nat} (h : k < m) : (pl m).getD k 0 = 8 * k := by simp [pl, List.getD_eq_getElem?_getD, h]
theorem pl_snoc (m : Nat) : pl m ++ [8 * m] = pl (m + 1) := by simp [pl, List.range_succ]
theorem pl_take {m k : Nat} (h : k ≤ m) : (pl m).take k = pl k := by
  unfold pl
  rw [← List.map_take, List.take_range, Nat.min_eq_left h]

/-! ### Names -/
def mkN : Nat → List Nat → FL
  | _, [] => []
  | j, f :: r => (nameB (16 * j + 1), f) :: mkN (j + 1) r
theorem mkN_len : ∀ (r : List Nat) (j : Nat), (mkN j r).length = r.length
  | [], _ => rfl
  | _ :: r, j => by simp [mkN, mkN_len r]
theorem mkN_mem {k : ByteArray} {f : Nat} : ∀ {r : List Nat} {j : Nat}, (k, f) ∈ mkN j r → ∃ i, r[i]? = some f ∧ k = nameB (16 * (j + i) + 1)
  | _ :: r, j, h => by
    rcases List.mem_cons.1 h with h | h
    · cases h; exact ⟨0, rfl, rfl⟩
    · obtain ⟨i, h1, h2⟩ := mkN_mem h
      exact ⟨i + 1, h1, by rw [h2]; congr 1; omega⟩
theorem mkN_in {f : Nat} : ∀ {r : List Nat} {j i : Nat}, r[i]? = some f → (nameB (16 * (j + i) + 1), f) ∈ mkN j r
  | g :: r, j, 0, h => by cases h; exact List.mem_cons_self ..
  | g :: r, j, i + 1, h => by
    have := mkN_in (r := r) (j := j + 1) (i := i) h
    rw [show 16 * (j + 1 + i) + 1 = 16 * (j + (i + 1)) + 1 by omega] at this
    exact List.mem_cons_of_mem _ this
theorem mkN_look {f : Nat} : ∀ {r : List Nat} {j i : Nat}, r.length + j < 1000 → r[i]? = some f → lookL (nameB (16 * (j + i) + 1)) (mkN j r) = some f
  | g :: r, j, 0, _, h => by cases h; unfold mkN lookL; exact if_pos rfl
  | g :: r, j, i + 1, hl, h => by
    have hi : i < r.length := Nat.lt_of_succ_lt_succ (List.getElem?_eq_some_iff.1 h).1
    simp only [List.length_cons] at hl
    have := mkN_look (r := r) (j := j + 1) (i := i) (by omega) h
    rw [show 16 * (j + 1 + i) + 1 = 16 * (j + (i + 1)) + 1 by omega] at this
    unfold mkN lookL
    rw [if_neg fun e => by have := name_inj (by omega) (by omega) e; omega]
    exact this
theorem mkN_none {k : ByteArray} : ∀ {r : List Nat} {j : Nat}, (∀ i, i < r.length → k ≠ nameB (16 * (j + i) + 1)) → lookL k (mkN j r) = none
  | [], _, _ => rfl
  | g :: r, j, h => by
    unfold mkN lookL
    have h0 : k ≠ nameB (16 * j + 1) := h 0 (by simp)
    rw [if_neg h0]
    exact mkN_none fun i hi => by
      have := h (i + 1) (by simpa using hi)
      rw [show 16 * (j + 1 + i) + 1 = 16 * (j + (i + 1)) + 1 by omega]
      exact this
theorem mkN_put {k : ByteArray} {b : Nat} : ∀ {r : List Nat} {j : Nat}, (∀ i, i < r.length → k ≠ nameB (16 * (j + i) + 1)) → putL k b (mkN j r) = mkN j r ++ [(k, b)]
  | [], _, _ => rfl
  | g :: r, j, h => by
    unfold mkN putL
    have h0 : k ≠ nameB (16 * j + 1) := h 0 (by simp)
    rw [if_neg h0, mkN_put fun i hi => by
      have := h (i + 1) (by simpa using hi)
      rw [show 16 * (j + 1 + i) + 1 = 16 * (j + (i + 1)) + 1 by omega]
      exact this]
    rfl
theorem mkN_snoc {b : Nat} : ∀ {r : List Nat} {j : Nat}, mkN j (r ++ [b]) = mkN j r ++ [(nameB (16 * (j + r.length) + 1), b)]
  | [], _ => rfl
  | g :: r, j => by
    show (nameB (16 * j + 1), g) :: mkN (j + 1) (r ++ [b]) = (nameB (16 * j + 1), g) :: (mkN (j + 1) r ++ _)
    rw [mkN_snoc]
    simp only [List.length_cons]
    rw [show 16 * (j + 1 + r.length) + 1 = 16 * (j + (r.length + 1)) + 1 by omega]
theorem mkN_keep {k : ByteArray} : ∀ {r : List Nat} {j : Nat}, (∀ i, i < r.length → k ≠ nameB (16 * (j + i) + 1)) → delL k (mkN j r) = mkN j r
  | [], _, _ => rfl
  | g :: r, j, h => by
    have ih := mkN_keep (k := k) (r := r) (j := j + 1) fun i hi => by
      have := h (i + 1) (by simpa using hi)
      rw [show 16 * (j + 1 + i) + 1 = 16 * (j + (i + 1)) + 1 by omega]
      exact this
    unfold delL at ih ⊢
    unfold mkN
    have h0 : k ≠ nameB (16 * j + 1) := h 0 (by simp)
    rw [List.filter_cons, if_pos (by rw [decide_eq_true_iff]; exact h0.symm), ih]
theorem seg_ne {j n i : Nat} (h : n + j < 1000) (hi : i < n) : nameB (16 * (j + n) + 1) ≠ nameB (16 * (j + i) + 1) := fun e => by
  have := name_inj (by omega) (by omega) e
  omega
theorem temp_ne (n : Nat) : tempB ≠ nameB n := fun e => by
  have := congrArg ByteArray.size e
  rw [name_size] at this
  exact absurd this (by decide)
theorem mkN_del {r : List Nat} {j b : Nat} (h : r.length + j < 1000) : delL (nameB (16 * (j + r.length) + 1)) (mkN j (r ++ [b])) = mkN j r := by
  rw [mkN_snoc]
  unfold delL
  rw [List.filter_append]
  have := mkN_keep (k := nameB (16 * (j + r.length) + 1)) (r := r) (j := j) fun i hi => seg_ne h hi
  unfold delL at this
  rw [this, List.filter_cons, if_neg (by simp), List.filter_nil, List.append_nil]
theorem put_last {k : ByteArray} {b c : Nat} : ∀ {l : FL}, k ∉ l.map (·.1) → putL k b (l ++ [(k, c)]) = l ++ [(k, b)]
  | [], _ => by show putL k b [(k, c)] = _; unfold putL; rw [if_pos rfl]; rfl
  | p :: l, h => by
    simp only [List.map_cons, List.mem_cons, not_or] at h
    show putL k b (p :: (l ++ [(k, c)])) = _
    unfold putL
    rw [if_neg h.1, put_last h.2]
    rfl
/-- The last segment's file, written anew under the temporary name. -/
theorem mkN_anew {r : List Nat} {f fb : Nat} (h : r.length < 1000) : putL (nameB (16 * r.length + 1)) fb (delL tempB (putL tempB fb (mkN 0 (r ++ [f])))) = mkN 0 (r ++ [fb]) := by
  have hk : ∀ i, i < (r ++ [f]).length → tempB ≠ nameB (16 * (0 + i) + 1) := fun i _ => temp_ne _
  rw [mkN_put hk]
  have : delL tempB (mkN 0 (r ++ [f]) ++ [(tempB, fb)]) = mkN 0 (r ++ [f]) := by
    unfold delL
    rw [List.filter_append]
    have := mkN_keep hk
    unfold delL at this
    rw [this, List.filter_cons, if_neg (by simp), List.filter_nil, List.append_nil]
  rw [this, mkN_snoc, mkN_snoc, Nat.zero_add]
  refine put_last fun hm => ?_
  obtain ⟨p, hp, he⟩ := List.mem_map.1 hm
  obtain ⟨i, hi, e⟩ := mkN_mem (k := p.1) (f := p.2) hp
  have hil : i < r.length := (List.getElem?_eq_some_iff.1 hi).1
  rw [he] at e
  have := name_inj (by omega) (by omega) e
  omega
/-- The names stand in order. -/
theorem names_sorted {r : List Nat} (h : r.length ≤ 4) : sortK ((mkN 0 r).map fun p => p.1.data.toList) = (mkN 0 r).map (·.1) := by
  have hs : List.Pairwise (fun x y : List UInt8 => decide (x ≤ y) = true) ((mkN 0 [0, 0, 0, 0]).map fun p => p.1.data.toList) := by
    have : ((mkN 0 [0, 0, 0, 0]).map fun p => p.1.data.toList) = [nameL 1, nameL 17, nameL 33, nameL 49] := rfl
    rw [this]
    simp only [List.pairwise_cons, List.mem_cons, List.mem_nil_iff, or_false]
    refine ⟨?_, ?_, ?_, ?_, List.Pairwise.nil⟩
    · rintro a (rfl | rfl | rfl) <;> kernel_rfl
    · rintro a (rfl | rfl) <;> kernel_rfl
    · rintro a rfl; kernel_rfl
    · intro a h; cases h
  have hm : ((mkN 0 r).map fun p => p.1.data.toList).Sublist ((mkN 0 [0, 0, 0, 0]).map fun p => p.1.data.toList) := by
    match r, h with
    | [], _ => exact List.nil_sublist _
    | [a], _ => exact List.take_sublist 1 [nameL 1, nameL 17, nameL 33, nameL 49]
    | [a, b], _ => exact List.take_sublist 2 [nameL 1, nameL 17, nameL 33, nameL 49]
    | [a, b, c], _ => exact List.take_sublist 3 [nameL 1, nameL 17, nameL 33, nameL 49]
    | [a, b, c, d], _ => exact List.Sublist.refl _
    | _ :: _ :: _ :: _ :: _ :: _, h => simp at h
  unfold sortK
  rw [List.mergeSort_of_pairwise (hs.sublist hm), List.map_map]
  rfl
end Go.Proofs.YtgdmjdacmebfjaaGreatDoor.D

namespace Go.Proofs.YtgdmjdacmebfjaaGreatDoor.D
open Go

def cn (i j : Nat) : Nat := min 16 (i - 16 * j)
/-- A log, and its disk, behind i records. -/
structure C (i : Nat) (L : LS) (D : DS) (bs fs : List Nat) : Prop where
  segs : L.segs = bs
  len : bs.length = (i + 15) / 16
  flen : fs.length = bs.length
  nb : bs.Nodup
  nf : fs.Nodup
  now : D.now = mkN 0 fs
  sg : ∀ j b, bs[j]? = some b → (L.sg b).first = 16 * j + 1 ∧ (L.sg b).places = pl (cn i j) ∧ (L.sg b).size = 8 * cn i j ∧ (L.sg b).dirty = true
  cont : ∀ j f, fs[j]? = some f → (D.fs f).1 = catF (16 * j + 1) (cn i j)
  last : L.last = i
  hand : L.hand = bs.getLast?
  begun : 0 < i → L.begun = true
  has : ∀ x, D.has x → x ∈ fs
theorem C.mem {i : Nat} {L : LS} {D : DS} {bs fs : List Nat} (H : C i L D bs fs) {x : Nat} (hx : x ∈ fs) : D.has x := by
  obtain ⟨j, hj⟩ := List.getElem?_of_mem hx
  exact .inl ⟨_, by rw [H.now]; exact mkN_in hj⟩
theorem get_snoc {α : Type} {l : List α} {x y : α} {j : Nat} (h : (l ++ [x])[j]? = some y) : (j < l.length ∧ l[j]? = some y) ∨ (j = l.length ∧ y = x) := by
  rcases Nat.lt_or_ge j l.length with hj | hj
  · rw [List.getElem?_append_left hj] at h; exact .inl ⟨hj, h⟩
  · rw [List.getElem?_append_right hj] at h
    rcases Nat.eq_zero_or_pos (j - l.length) with h0 | h0
    · rw [h0] at h; cases h; exact .inr ⟨by omega, rfl⟩
    · rw [List.getElem?_eq_none (by simp only [List.length_singleton]; omega)] at h; cases h
theorem nodup_snoc {l : List Nat} {x : Nat} (h : l.Nodup) (hx : x ∉ l) : (l ++ [x]).Nodup := by
  rw [List.nodup_append]
  refine ⟨h, by simp, fun a ha b hb e => ?_⟩
  rw [List.mem_singleton.1 hb] at e
  exact hx (e ▸ ha)
theorem nodup_ne {l : List Nat} (h : l.Nodup) {i j x y : Nat} (hi : l[i]? = some x) (hj : l[j]? = some y) (hn : i ≠ j) : x ≠ y := by
  intro e
  subst e
  obtain ⟨h1, h2⟩ := List.getElem?_eq_some_iff.1 hi
  obtain ⟨h3, h4⟩ := List.getElem?_eq_some_iff.1 hj
  exact hn ((List.getElem_inj h).1 (h2.trans h4.symm))
theorem C.reuse {i : Nat} {L : LS} {D : DS} {bs fs : List Nat} (H : C i L D bs fs) : (i % 16 = 0 → L.reuse = none) ∧ (i % 16 ≠ 0 → ∃ c, bs[i / 16]? = some c ∧ L.reuse = some c) := by
  have hl := H.len
  unfold LS.reuse
  rw [H.hand, List.getLast?_eq_getElem?]
  refine ⟨fun h => ?_, fun h => ?_⟩
  · cases hb : bs[bs.length - 1]? with
    | none => rfl
    | some c =>
      have hlt := (List.getElem?_eq_some_iff.1 hb).1
      have := (H.sg _ c hb).2.1
      simp only []
      rw [this, pl_len, if_neg (by unfold cn; omega)]
  · have hlt : i / 16 < bs.length := by omega
    have e : bs.length - 1 = i / 16 := by omega
    rw [e, List.getElem?_eq_getElem hlt]
    refine ⟨_, rfl, ?_⟩
    have := (H.sg _ _ (List.getElem?_eq_getElem hlt)).2.1
    simp only []
    rw [this, pl_len, if_pos (by unfold cn; omega)]
theorem C.app {i b fb : Nat} {L : LS} {D : DS} {bs fs : List Nat} (H : C i L D bs fs) (hl : Live D) (hi : i < 50) (hb : b ∉ L.segs) (hfb : ¬ D.has fb) :
    ∃ bs' fs', C (i + 1) (L.app (recB (i + 1)) b) (D.put (nameB L.cur.first) (frameOf (recB (i + 1))) fb) bs' fs' := by
  have hlw := live_write hl
  have hlen := H.len
  have hfl := H.flen
  by_cases hm : i % 16 = 0
  · have hr := H.reuse.1 hm
    have hcur : L.cur = ⟨L.last + 1, [], 0, false⟩ := by unfold LS.cur; rw [hr]
    have hbl : bs.length = i / 16 := by omega
    rw [hcur]
    unfold LS.app
    rw [hr]
    simp only []
    have hnm : nameB (L.last + 1) = nameB (16 * (0 + fs.length) + 1) := by rw [H.last]; congr 1; omega
    have hne : ∀ k, k < fs.length → nameB (16 * (0 + fs.length) + 1) ≠ nameB (16 * (0 + k) + 1) := fun k hk => seg_ne (by omega) hk
    have hlook : lookL (nameB (L.last + 1)) D.now = none := by
      rw [H.now, hnm]
      exact mkN_none hne
    have hnfb : fb ∉ fs := fun h => hfb (H.mem h)
    have hnb : b ∉ bs := by rw [← H.segs]; exact hb
    have eD : D.put (nameB (L.last + 1)) (frameOf (recB (i + 1))) fb = { D.change (.put (nameB (L.last + 1)) fb) with fs := fsSet D.fs fb (frameOf (recB (i + 1)), 0) } := by
      unfold DS.put
      rw [hlook, hlw]
    have sgb : ∀ y, y ≠ b → ((L.begin_ b).wrote b (frameOf (recB (i + 1))).size).sg y = L.sg y := fun y hy => by
      show sgSet (sgSet L.sg b _) b _ y = _
      rw [sgSet_ne _ _ hy, sgSet_ne _ _ hy]
    have sgb' : ((L.begin_ b).wrote b (frameOf (recB (i + 1))).size).sg b = ⟨L.last + 1, [0], 8, true⟩ := by
      show sgSet (sgSet L.sg b _) b ((sgSet L.sg b ⟨L.last + 1, [], 0, false⟩ b).more (frameOf (recB (i + 1))).size) b = _
      rw [sgSet_same, sgSet_same, Seg.more, rec_size]; rfl
    refine ⟨bs ++ [b], fs ++ [fb], ⟨by show L.segs ++ [b] = _; rw [H.segs], by rw [List.length_append, List.length_singleton]; omega, by rw [List.length_append, List.length_append, List.length_singleton, List.length_singleton]; omega,
      nodup_snoc H.nb hnb, nodup_snoc H.nf hnfb, ?_, fun j y hy => ?_, fun j f hf => ?_, by show L.last + 1 = _; rw [H.last], by rw [List.getLast?_append]; rfl, fun _ => rfl, fun x hx => ?_⟩⟩
    · rw [eD]
      show putL _ fb D.now = _
      rw [H.now, hnm, mkN_put hne, mkN_snoc]
    · rcases get_snoc hy with ⟨hj, hy⟩ | ⟨hj, rfl⟩
      · rw [sgb y (fun e => hnb (e ▸ List.mem_of_getElem? hy))]
        obtain ⟨q1, q2, q3, q4⟩ := H.sg j y hy
        have : cn (i + 1) j = cn i j := by unfold cn; omega
        rw [this]
        exact ⟨q1, q2, q3, q4⟩
      · rw [sgb']
        have : cn (i + 1) j = 1 := by unfold cn; omega
        rw [this, H.last]
        exact ⟨by show i + 1 = _; omega, rfl, rfl, rfl⟩
    · rw [eD]
      rcases get_snoc hf with ⟨hj, hf⟩ | ⟨hj, rfl⟩
      · show (fsSet D.fs fb _ f).1 = _
        unfold fsSet
        rw [if_neg (fun e : f = fb => hnfb (e ▸ List.mem_of_getElem? hf)), H.cont j f hf]
        congr 1
        unfold cn; omega
      · show (fsSet D.fs f _ f).1 = _
        rw [fsSet_same]
        have : cn (i + 1) j = 1 := by unfold cn; omega
        rw [this]
        show frameOf (recB (i + 1)) = catF (16 * j + 1) 0 ++ frameOf (recB (16 * j + 1 + 0))
        rw [show 16 * j + 1 + 0 = i + 1 by omega]
        exact (empty_append _).symm
    · rw [eD] at hx
      have hx : (D.change (.put (nameB (L.last + 1)) fb)).has x := hx
      rcases change_has hx with h | h
      · exact List.mem_append_left _ (H.has x h)
      · have : fb = x := Option.some.inj h
        rw [← this]; simp
  · obtain ⟨c, hc, hr⟩ := H.reuse.2 hm
    have hcur : L.cur = L.sg c := by unfold LS.cur; rw [hr]
    obtain ⟨q1, q2, q3, q4⟩ := H.sg _ c hc
    have hjl : i / 16 < bs.length := (List.getElem?_eq_some_iff.1 hc).1
    obtain ⟨f, hf⟩ : ∃ f, fs[i / 16]? = some f := ⟨_, List.getElem?_eq_getElem (by omega)⟩
    have hlook : lookL (nameB (L.sg c).first) D.now = some f := by
      have := mkN_look (r := fs) (j := 0) (i := i / 16) (by omega) hf
      rw [H.now, q1]
      rw [Nat.zero_add] at this
      exact this
    rw [hcur]
    unfold LS.app
    rw [hr]
    simp only []
    have eD : D.put (nameB (L.sg c).first) (frameOf (recB (i + 1))) fb = { D with fs := fsSet D.fs f ((D.fs f).1 ++ frameOf (recB (i + 1)), (D.fs f).2) } := by
      unfold DS.put
      rw [hlook, hlw]
    have hcn : cn (i + 1) (i / 16) = cn i (i / 16) + 1 := by unfold cn; omega
    refine ⟨bs, fs, ⟨H.segs, by omega, H.flen, H.nb, H.nf, by rw [eD]; exact H.now, fun j y hy => ?_, fun j g hg => ?_, by show L.last + 1 = _; rw [H.last], ?_, fun _ => H.begun (by omega), fun x hx => ?_⟩⟩
    · show (sgSet L.sg c ((L.sg c).more _) y).first = _ ∧ (sgSet L.sg c ((L.sg c).more _) y).places = _ ∧ (sgSet L.sg c ((L.sg c).more _) y).size = _ ∧ (sgSet L.sg c ((L.sg c).more _) y).dirty = _
      by_cases hj : j = i / 16
      · subst hj
        rw [hc] at hy
        cases hy
        rw [sgSet_same, hcn]
        exact ⟨q1, by show (L.sg c).places ++ [(L.sg c).size] = _; rw [q2, q3, pl_snoc], by show (L.sg c).size + _ = _; rw [q3, rec_size]; omega, rfl⟩
      · rw [sgSet_ne _ _ (nodup_ne H.nb hy hc hj)]
        have hj2 : j < bs.length := (List.getElem?_eq_some_iff.1 hy).1
        have : cn (i + 1) j = cn i j := by unfold cn; omega
        rw [this]
        exact H.sg j y hy
    · rw [eD]
      show (fsSet D.fs f _ g).1 = _
      by_cases hj : j = i / 16
      · subst hj
        rw [hf] at hg
        cases hg
        rw [fsSet_same, hcn, H.cont _ f hf]
        show _ = catF _ _ ++ frameOf (recB (16 * (i / 16) + 1 + cn i (i / 16)))
        rw [show 16 * (i / 16) + 1 + cn i (i / 16) = i + 1 by unfold cn; omega]
      · unfold fsSet
        rw [if_neg (nodup_ne H.nf hg hf hj), H.cont j g hg]
        have hj2 : j < fs.length := (List.getElem?_eq_some_iff.1 hg).1
        congr 1
        unfold cn; omega
    · show some c = _
      rw [List.getLast?_eq_getElem?, ← hc]
      congr 1
      omega
    · rw [eD] at hx
      exact H.has x hx

/-- A log, and its disk, of m records that last. -/
structure QD (m : Nat) (D : DS) (fs : List Nat) : Prop where
  live : Live D
  room : D.room = 1048576
  now : D.now = mkN 0 fs
  las : D.lasting = mkN 0 fs
  chg : D.chg = []
  nf : fs.Nodup
  len : fs.length = (m + 15) / 16
  cont : ∀ j f, fs[j]? = some f → D.fs f = (catF (16 * j + 1) (cn m j), 8 * cn m j)
structure QL (m : Nat) (L : LS) (bs : List Nat) : Prop where
  segs : L.segs = bs
  nb : bs.Nodup
  len : bs.length = (m + 15) / 16
  sg : ∀ j b, bs[j]? = some b → (L.sg b).first = 16 * j + 1 ∧ (L.sg b).places = pl (cn m j) ∧ (L.sg b).size = 8 * cn m j
  last : L.last = m
theorem sync_all {fs : List Nat} : ∀ (r : List Nat) (j : Nat) (sg : Nat → Seg) (D : DS), Live D → D.now = mkN 0 fs → fs.length < 900 → j + r.length = fs.length → r.Nodup → (∀ k b, r[k]? = some b → (sg b).dirty = true ∧ (sg b).first = 16 * (j + k) + 1) →
    ∃ sg' D', syncL r sg D = (0, sg', D') ∧ Live D' ∧ D'.room = D.room ∧ D'.now = D.now ∧ (∀ f, (D'.fs f).1 = (D.fs f).1) ∧ (∀ f, (D.fs f).2 = (D.fs f).1.size → (D'.fs f).2 = (D'.fs f).1.size) ∧ (∀ k f, j ≤ k → fs[k]? = some f → (D'.fs f).2 = (D'.fs f).1.size) ∧
      ∀ b, (sg' b).first = (sg b).first ∧ (sg' b).places = (sg b).places ∧ (sg' b).size = (sg b).size
  | [], j, sg, D, hl, _, _, hj, _, _ => ⟨sg, D, rfl, hl, rfl, rfl, fun _ => rfl, fun _ h => h, fun k f hk hf => by
      have := (List.getElem?_eq_some_iff.1 hf).1
      simp only [List.length_nil] at hj
      omega, fun _ => ⟨rfl, rfl, rfl⟩⟩
  | b :: r, j, sg, D, hl, hn, h9, hj, hnd, hs => by
    simp only [List.length_cons] at hj
    obtain ⟨hd, hf⟩ := hs 0 b rfl
    obtain ⟨f, hff⟩ : ∃ f, fs[j]? = some f := ⟨_, List.getElem?_eq_getElem (by omega)⟩
    have hlook : lookL (nameB (sg b).first) D.now = some f := by
      have := mkN_look (r := fs) (j := 0) (i := j) (by omega) hff
      rw [hn, hf]
      rw [Nat.zero_add] at this
      exact this
    have hsy : D.sync (nameB (sg b).first) = (0, { D with fs := fsSet D.fs f ((D.fs f).1, (D.fs f).1.size) }) := by
      unfold DS.sync
      rw [live_write hl, if_pos rfl, hlook]
    have hbr : b ∉ r := (List.nodup_cons.1 hnd).1
    obtain ⟨sg', D', e1, e2, e3, e4, e5, e6, e7, e8⟩ := sync_all r (j + 1) (sgSet sg b (sg b).clean) { D with fs := fsSet D.fs f ((D.fs f).1, (D.fs f).1.size) } hl hn h9 (by omega) (List.nodup_cons.1 hnd).2 fun k c hc => by
      have hcb : c ≠ b := fun e => hbr (e ▸ List.mem_of_getElem? hc)
      rw [sgSet_ne _ _ hcb]
      have := hs (k + 1) c hc
      exact ⟨this.1, by rw [this.2]; omega⟩
    have c1 : ∀ x, (fsSet D.fs f ((D.fs f).1, (D.fs f).1.size) x).1 = (D.fs x).1 := fun x => by
      unfold fsSet
      by_cases hx : x = f
      · rw [if_pos hx, hx]
      · rw [if_neg hx]
    refine ⟨sg', D', ?_, e2, e3, e4, fun x => (e5 x).trans (c1 x), fun x hx => e6 x ?_, fun k x hk hx => ?_, fun c => ?_⟩
    · rw [syncL, if_pos hd, hsy, if_pos rfl]
      exact e1
    · show (fsSet D.fs f _ x).2 = (fsSet D.fs f _ x).1.size
      unfold fsSet
      by_cases hxf : x = f
      · rw [if_pos hxf]
      · rw [if_neg hxf]; exact hx
    · rcases Nat.eq_or_lt_of_le hk with h | h
      · subst h
        rw [hff] at hx
        cases hx
        refine e6 f ?_
        show (fsSet D.fs f _ f).2 = (fsSet D.fs f _ f).1.size
        rw [fsSet_same]
      · exact e7 k x h hx
    · obtain ⟨a1, a2, a3⟩ := e8 c
      rw [a1, a2, a3]
      by_cases hcb : c = b
      · rw [hcb, sgSet_same]; exact ⟨rfl, rfl, rfl⟩
      · rw [sgSet_ne _ _ hcb]; exact ⟨rfl, rfl, rfl⟩
theorem C.sync {i : Nat} {L : LS} {D : DS} {bs fs : List Nat} (H : C i L D bs fs) (hl : Live D) (hr : D.room = 1048576) (hi : 0 < i ∧ i ≤ 50) : ∃ L' D', syncS L D = (0, L', D') ∧ QD i D' fs ∧ QL i L' bs := by
  have hlen := H.len
  have hfl := H.flen
  obtain ⟨sg', D', e1, e2, e3, e4, e5, _, e7, e8⟩ := sync_all (fs := fs) bs 0 L.sg D hl H.now (by omega) (by omega) H.nb fun k b hb => by
    obtain ⟨q1, _, _, q4⟩ := H.sg k b hb
    exact ⟨q4, by rw [q1]; omega⟩
  refine ⟨{ L with sg := sg', begun := false, durable := L.last }, { D' with lasting := D'.now, chg := [] }, ?_, ⟨e2, by rw [← hr, ← e3], e4.trans H.now, e4.trans H.now, rfl, H.nf, by omega, fun j f hf => ?_⟩, ⟨H.segs, H.nb, H.len, fun j b hb => ?_, H.last⟩⟩
  · unfold syncS
    rw [H.segs, e1, if_pos rfl]
    unfold syncS2
    have hbg : L.begun = true := H.begun hi.1
    rw [if_pos hbg, live_write e2, if_pos rfl]
    unfold DS.syncNames
    rw [live_write e2, if_pos rfl]
  · have h1 := (e5 f).trans (H.cont j f hf)
    have h2 := e7 j f (Nat.zero_le _) hf
    show D'.fs f = _
    rw [h1, cat_size] at h2
    exact Prod.ext h1 h2
  · obtain ⟨a1, a2, a3⟩ := e8 b
    obtain ⟨q1, q2, q3, _⟩ := H.sg j b hb
    exact ⟨a1.trans q1, a2.trans q2, a3.trans q3⟩
end Go.Proofs.YtgdmjdacmebfjaaGreatDoor.D

namespace Go.Proofs.YtgdmjdacmebfjaaGreatDoor.D
open Go

section
variable {h : Hp} {lb a : Nat} {L : LS} {D : DS} {Od Ol : Nat → Prop}
theorem drop_back {sg : Nat → Seg} : ∀ (m : Nat) (q fq fr : List Nat) (D : DS), q.length = m → fq.length = m → (fr ++ fq).length < 900 → D.now = mkN 0 (fr ++ fq) → Live D → (∀ k b, q[k]? = some b → (sg b).first = 16 * (fr.length + k) + 1) →
    ∃ D1, resetL sg q.reverse D = (0, [], D1) ∧ D1.now = mkN 0 fr ∧ Live D1 ∧ D1.room = D.room ∧ D1.fs = D.fs ∧ D1.chg.length = D.chg.length + m
  | 0, q, fq, fr, D, hq, hfq, _, hn, hl, _ => by
    rw [List.eq_nil_of_length_eq_zero hq]
    rw [List.eq_nil_of_length_eq_zero hfq, List.append_nil] at hn
    exact ⟨D, rfl, hn, hl, rfl, rfl, rfl⟩
  | m + 1, q, fq, fr, D, hq, hfq, h9, hn, hl, hs => by
    rcases List.eq_nil_or_concat q with rfl | ⟨q', b, rfl⟩
    · cases hq
    rcases List.eq_nil_or_concat fq with rfl | ⟨fq', f, rfl⟩
    · cases hfq
    rw [List.concat_eq_append] at *
    rw [List.length_append, List.length_singleton] at hq hfq
    have hb := hs q'.length b (by simp)
    rw [← List.append_assoc] at hn h9
    rw [List.length_append, List.length_singleton, List.length_append] at h9
    have hbn : nameB (sg b).first = nameB (16 * (0 + (fr ++ fq').length) + 1) := by rw [hb, List.length_append]; congr 1; omega
    have hlook : lookL (nameB (sg b).first) D.now = some f := by
      rw [hn, hbn]
      exact mkN_look (by rw [List.length_append, List.length_append, List.length_singleton]; omega) (by simp)
    have hrem : D.remove (nameB (sg b).first) = (0, D.change (.del (nameB (sg b).first))) := by
      unfold DS.remove
      rw [live_write hl, if_pos rfl, hlook]
    obtain ⟨D1, d1, d2, d3, d4, d5, d6⟩ := drop_back (sg := sg) m q' fq' fr (D.change (.del (nameB (sg b).first))) (by omega) (by omega) (by rw [List.length_append]; omega) (by
      show delL _ D.now = _
      rw [hn, hbn]
      exact mkN_del (by rw [List.length_append]; omega)) hl fun k c hc => hs k c (by
        rw [List.getElem?_append_left (List.getElem?_eq_some_iff.1 hc).1]; exact hc)
    refine ⟨D1, ?_, d2, d3, d4, d5, ?_⟩
    · rw [show (q' ++ [b]).reverse = b :: q'.reverse by simp, resetL, hrem, if_pos rfl]
      exact d1
    · rw [d6]
      show (D.chg ++ [_]).length + m = _
      rw [List.length_append, List.length_singleton]
      omega
theorem used_mk {fs : Nat → ByteArray × Nat} {B : Nat} : ∀ {r : List Nat} {j : Nat}, (∀ f, f ∈ r → (fs f).1.size ≤ B) → ((mkN j r).map fun p => (fs p.2).1.size).sum ≤ r.length * B
  | [], _, _ => by simp [mkN]
  | f :: r, j, h => by
    have := used_mk (fs := fs) (r := r) (j := j + 1) fun f hf => h f (List.mem_cons_of_mem _ hf)
    have h0 := h f (List.mem_cons_self ..)
    rw [mkN, List.map_cons, List.sum_cons, List.length_cons, Nat.add_mul]
    show (fs f).1.size + _ ≤ _
    omega
theorem cn_le (i j : Nat) : cn i j ≤ 16 := by unfold cn; omega
theorem QD.used {m : Nat} {fs : List Nat} (H : QD m D fs) (hm : m ≤ 50) : D.used ≤ 512 := by
  have := used_mk (fs := D.fs) (B := 128) (r := fs) (j := 0) fun f hf => by
    obtain ⟨j, hj⟩ := List.getElem?_of_mem hf
    rw [H.cont j f hj]
    show (catF _ _).size ≤ _
    rw [cat_size]
    have := cn_le m j
    omega
  unfold DS.used
  rw [H.now]
  have := H.len
  omega
theorem QD.mem {m : Nat} {fs : List Nat} (H : QD m D fs) {x : Nat} (hx : D.has x) : x ∈ fs := by
  rcases hx with ⟨k, hx⟩ | ⟨k, hx⟩ | ⟨k, hx, _⟩
  · rw [H.now] at hx
    obtain ⟨i, hi, _⟩ := mkN_mem hx
    exact List.mem_of_getElem? hi
  · rw [H.las] at hx
    obtain ⟨i, hi, _⟩ := mkN_mem hx
    exact List.mem_of_getElem? hi
  · rw [H.chg] at hx
    cases hx
theorem first_1 {m : Nat} {bs : List Nat} (H : QL m L bs) (hm : 0 < m) : L.first = 1 := by
  have hl := H.len
  obtain ⟨b, hb⟩ : ∃ b, bs[0]? = some b := ⟨_, List.getElem?_eq_getElem (by omega)⟩
  unfold LS.first
  rw [H.segs]
  cases bs with
  | nil => cases hb
  | cons c r =>
    cases hb
    exact (H.sg 0 _ rfl).1

/-- THE CUT. -/
theorem cut_goes {n t : Nat} {bs fs : List Nat} {K : Int → Hp → Prop} (H : LogAt h lb a L D Od Ol) (HD : QD n D fs) (HL : QL n L bs) (hn : 1 ≤ n ∧ n ≤ 50) (ht : t ≤ n)
    (hk : ∀ h' L' D' Od' fs', LogAt h' lb a L' D' Od' Ol → QD t D' fs' → L'.last = t → Step h (Or2 Od Ol) h' (Or2 Od' Ol) → K 0 h') : C_wal_Log_CutAfter (some (blk lb)) (t : Int) h K := by
  have hlast := HL.last
  have hbl := HL.len
  have hfl := HD.len
  have hf1 := first_1 HL (by omega)
  rcases Nat.eq_or_lt_of_le ht with e | hlt
  · subst e
    have := log_CutAfter_same (K := K) H (by omega) (by omega) fun h' H' s' => hk h' _ D Od fs H' HD hlast s'
    rw [hlast] at this
    exact this
  -- how many segments stay
  have okS : ∀ b, b ∈ L.segs → (L.sg b).Ok := fun b hb => by
    rw [HL.segs] at hb
    obtain ⟨j, hj⟩ := List.getElem?_of_mem hb
    have hjl := (List.getElem?_eq_some_iff.1 hj).1
    obtain ⟨q1, q2, _⟩ := HL.sg j b hj
    exact ⟨by rw [q1]; omega, by rw [q2, pl_len]; have := cn_le n j; omega⟩
  have hJ : (t + 15) / 16 ≤ bs.length := by omega
  have bseg : bs = bs.take ((t + 15) / 16) ++ bs.drop ((t + 15) / 16) := (List.take_append_drop _ _).symm
  have fseg : fs.take ((t + 15) / 16) ++ fs.drop ((t + 15) / 16) = fs := List.take_append_drop _ _
  have dropg : ∀ k b, (bs.drop ((t + 15) / 16))[k]? = some b → (L.sg b).first = 16 * ((fs.take ((t + 15) / 16)).length + k) + 1 := fun k b hb => by
    rw [List.getElem?_drop] at hb
    rw [(HL.sg _ b hb).1, List.length_take]
    have := (List.getElem?_eq_some_iff.1 hb).1
    omega
  obtain ⟨D1, d1, d2, d3, d4, d5, d6⟩ := drop_back (sg := L.sg) (bs.drop ((t + 15) / 16)).length (bs.drop ((t + 15) / 16)) (fs.drop ((t + 15) / 16)) (fs.take ((t + 15) / 16)) D rfl (by rw [List.length_drop, List.length_drop]; omega) (by rw [fseg]; omega) (by rw [fseg]; exact HD.now) HD.live dropg
  have hc0 : D.chg.length = 0 := by rw [HD.chg]; rfl
  rw [List.length_drop] at d6
  have d4' : D1.room = 1048576 := d4.trans HD.room
  -- the last one that stays
  have lastr : ∀ b, (bs.take ((t + 15) / 16)).getLast? = some b → 0 < t ∧ bs[(t + 15) / 16 - 1]? = some b := fun b hb => by
    rw [List.getLast?_eq_getElem?, List.length_take, Nat.min_eq_left hJ] at hb
    rcases Nat.eq_zero_or_pos ((t + 15) / 16) with h0 | h0
    · rw [h0, List.take_zero] at hb; cases hb
    · rw [List.getElem?_take, if_pos (by omega)] at hb
      exact ⟨by omega, hb⟩
  have fget : ∀ j f, (fs.take ((t + 15) / 16))[j]? = some f → j < (t + 15) / 16 ∧ fs[j]? = some f := fun j f hf => by
    have := (List.getElem?_eq_some_iff.1 hf).1
    rw [List.length_take] at this
    rw [List.getElem?_take, if_pos (by omega)] at hf
    exact ⟨by omega, hf⟩
  have hend : ∀ b, (bs.take ((t + 15) / 16)).getLast? = some b → ({ L with segs := bs.take ((t + 15) / 16), hand := none } : LS).end_ = 16 * ((t + 15) / 16 - 1 : Nat) + cn n ((t + 15) / 16 - 1) := fun b hb => by
    obtain ⟨h0, hg⟩ := lastr b hb
    obtain ⟨q1, q2, _⟩ := HL.sg _ b hg
    unfold LS.end_
    simp only [hb]
    unfold Seg.last
    rw [q1, q2, pl_len]
    omega
  have hndt : (fs.take ((t + 15) / 16)).Nodup := HD.nf.sublist (List.take_sublist _ _)
  refine log_CutAfter (r := bs.take ((t + 15) / 16)) (q := bs.drop ((t + 15) / 16)) H (by omega) okS (by rw [HL.segs]; omega) (by omega) (by omega) (by omega) (by rw [HL.segs]; exact bseg) (fun b hb => ?_) (fun b hb => ?_) d1 d3 (by omega) (by rw [d4']; decide) (fun he h' Od' H' s' => ?_) (fun he => ?_)
  · obtain ⟨k, hk'⟩ := List.getElem?_of_mem hb
    rw [dropg k b hk', List.length_take]
    omega
  · obtain ⟨h0, hg⟩ := lastr b hb
    rw [(HL.sg _ b hg).1]
    omega
  · refine hk h' _ _ Od' (fs.take ((t + 15) / 16)) H' ⟨d3, d4', d2, d2, rfl, hndt, by rw [List.length_take]; omega, fun j f hf => ?_⟩ rfl s'
    obtain ⟨hj, hf⟩ := fget j f hf
    show D1.fs f = _
    rw [d5, HD.cont j f hf]
    have hcn : cn n j = cn t j := by
      obtain ⟨b, hb⟩ : ∃ b, (bs.take ((t + 15) / 16)).getLast? = some b := by
        cases hh : (bs.take ((t + 15) / 16)).getLast? with
        | none =>
          rw [List.getLast?_eq_none_iff] at hh
          have := congrArg List.length hh
          rw [List.length_take, List.length_nil] at this
          omega
        | some b => exact ⟨b, rfl⟩
      have := hend b hb
      unfold cn at this ⊢
      omega
    rw [hcn]
  · obtain ⟨b, hb⟩ : ∃ b, (bs.take ((t + 15) / 16)).getLast? = some b := by
      cases hh : (bs.take ((t + 15) / 16)).getLast? with
      | none =>
        have : ({ L with segs := bs.take ((t + 15) / 16), hand := none } : LS).end_ = 0 := by
          unfold LS.end_
          simp only [hh]
        omega
      | some b => exact ⟨b, rfl⟩
    obtain ⟨h0, hg⟩ := lastr b hb
    have he' := hend b hb
    obtain ⟨q1, q2, q3⟩ := HL.sg _ b hg
    have hJ0 : (t + 15) / 16 - 1 < fs.length := by omega
    obtain ⟨f0, hf0⟩ : ∃ f0, fs[(t + 15) / 16 - 1]? = some f0 := ⟨_, List.getElem?_eq_getElem hJ0⟩
    have hfr : fs.take ((t + 15) / 16) = fs.take ((t + 15) / 16 - 1) ++ [f0] := by
      have e := List.take_add_one (l := fs) (i := (t + 15) / 16 - 1)
      rw [show (t + 15) / 16 - 1 + 1 = (t + 15) / 16 by omega, hf0] at e
      exact e
    have htl : (fs.take ((t + 15) / 16 - 1)).length = (t + 15) / 16 - 1 := by rw [List.length_take]; omega
    have hkc : t - 16 * ((t + 15) / 16 - 1) < cn n ((t + 15) / 16 - 1) := by unfold cn at he' ⊢; omega
    have hcont : (D1.fs f0).1 = catF (16 * ((t + 15) / 16 - 1) + 1) (cn n ((t + 15) / 16 - 1)) := by rw [d5, HD.cont _ f0 hf0]
    have hgd : (L.sg b).places.getD (t - 16 * ((t + 15) / 16 - 1)) 0 = 8 * (t - 16 * ((t + 15) / 16 - 1)) := by rw [q2]; exact pl_get hkc
    have htake : (catF (16 * ((t + 15) / 16 - 1) + 1) (cn n ((t + 15) / 16 - 1))).extract 0 (8 * (t - 16 * ((t + 15) / 16 - 1))) = catF (16 * ((t + 15) / 16 - 1) + 1) (t - 16 * ((t + 15) / 16 - 1)) := cat_take (by omega)
    have htemp : lookL tempB D1.now = none := by rw [d2]; exact mkN_none fun i _ => temp_ne _
    have hus : D1.used ≤ 512 := by
      have := used_mk (fs := D1.fs) (B := 128) (r := fs.take ((t + 15) / 16)) (j := 0) fun f hf => by
        obtain ⟨j, hj⟩ := List.getElem?_of_mem hf
        obtain ⟨_, hj⟩ := fget j f hj
        rw [d5, HD.cont j f hj]
        show (catF _ _).size ≤ _
        rw [cat_size]
        have := cn_le n j
        omega
      rw [List.length_take] at this
      unfold DS.used
      rw [d2]
      omega
    refine ⟨b, t - 16 * ((t + 15) / 16 - 1), f0, _, hb, by rw [q1]; omega, ⟨?_, hcont, ?_, ?_, htemp, ?_, by omega⟩, fun h' Od' fb hfb H' s' => ?_⟩
    · show lookL (nameB (L.sg b).first) D1.now = some f0
      rw [d2, q1]
      have := mkN_look (r := fs.take ((t + 15) / 16)) (j := 0) (i := (t + 15) / 16 - 1) (f := f0) (by rw [List.length_take]; omega) (by rw [hfr, List.getElem?_append_right (by omega), htl, Nat.sub_self]; rfl)
      rw [Nat.zero_add] at this
      exact this
    · show _ < (L.sg b).places.length
      rw [q2, pl_len]
      exact hkc
    · show (L.sg b).places.getD _ 0 ≤ _
      rw [hgd, cat_size]
      omega
    · show ¬ D1.full tempB ((catF _ _).extract 0 ((L.sg b).places.getD _ 0))
      rw [hgd, htake]
      rintro (hh | ⟨_, hh⟩)
      · rw [d4', cat_size] at hh
        have := cn_le n ((t + 15) / 16 - 1)
        omega
      · rw [d2, mkN_len, List.length_take] at hh
        omega
    · rw [hgd, htake, q1] at H'
      obtain ⟨a1, a2⟩ := anew_live (D := D1) (name := nameB (16 * ((t + 15) / 16 - 1) + 1)) (s := catF (16 * ((t + 15) / 16 - 1) + 1) (t - 16 * ((t + 15) / 16 - 1))) (fb := fb) d3 htemp (right_name _)
      have hnow : (D1.anew (nameB (16 * ((t + 15) / 16 - 1) + 1)) (catF (16 * ((t + 15) / 16 - 1) + 1) (t - 16 * ((t + 15) / 16 - 1))) fb).now = mkN 0 (fs.take ((t + 15) / 16 - 1) ++ [fb]) := by
        rw [a1]
        show putL _ fb (delL tempB (putL tempB fb D1.now)) = _
        rw [d2, hfr]
        have := mkN_anew (r := fs.take ((t + 15) / 16 - 1)) (f := f0) (fb := fb) (by rw [htl]; omega)
        rw [htl] at this
        exact this
      have hfbn : fb ∉ fs.take ((t + 15) / 16 - 1) := fun hm => by
        refine hfb ?_
        obtain ⟨i, hi⟩ := List.getElem?_of_mem hm
        have hil := (List.getElem?_eq_some_iff.1 hi).1
        refine .inl ⟨nameB (16 * (0 + i) + 1), ?_⟩
        rw [d2]
        exact mkN_in (i := i) (by rw [hfr, List.getElem?_append_left hil]; exact hi)
      refine hk h' _ _ Od' (fs.take ((t + 15) / 16 - 1) ++ [fb]) H' ⟨a2, ?_, hnow, hnow, rfl, nodup_snoc (HD.nf.sublist (List.take_sublist _ _)) hfbn, by rw [List.length_append, htl, List.length_singleton]; omega, fun j f hf => ?_⟩ rfl s'
      · show (D1.anew _ _ fb).room = _
        rw [a1]
        exact d4'
      · show (D1.anew _ _ fb).fs f = _
        rw [a1]
        show fsSet D1.fs fb _ f = _
        rcases get_snoc hf with ⟨hj, hf⟩ | ⟨hj, rfl⟩
        · rw [htl] at hj
          have hf' : fs[j]? = some f := by
            rw [List.getElem?_take, if_pos hj] at hf
            exact hf
          unfold fsSet
          rw [if_neg (fun e : f = fb => hfbn (e ▸ List.mem_of_getElem? hf)), d5, HD.cont j f hf']
          have : cn n j = cn t j := by unfold cn; omega
          rw [this]
        · rw [fsSet_same, hj, htl]
          have : cn t ((t + 15) / 16 - 1) = t - 16 * ((t + 15) / 16 - 1) := by unfold cn; omega
          rw [this, cat_size]
end
end Go.Proofs.YtgdmjdacmebfjaaGreatDoor.D

namespace Go.Proofs.YtgdmjdacmebfjaaGreatDoor.D
open Go

section
variable {D : DS}
theorem nextK_zero (ks : List Int) : nextK ks 0 = 0 := by
  have := nextK_le ks 0
  omega
theorem crashF_same {l : FL} : ∀ (ns : List ByteArray) (ks : List Int) (fs : Nat → ByteArray × Nat), (∀ k b, lookL k l = some b → (fs b).2 = (fs b).1.size) → crashF l ns ks fs = fs
  | [], _, _, _ => rfl
  | k :: ns, ks, fs, h => by
    unfold crashF
    cases hl : lookL k l with
    | none => rfl
    | some b =>
      simp only []
      have hb := h k b hl
      have : cutF fs b (nextK ks ((fs b).1.size - (fs b).2)) = fs := by
        rw [hb, Nat.sub_self, nextK_zero]
        unfold cutF
        funext x
        unfold fsSet
        by_cases hx : x = b
        · rw [if_pos hx, hx]
          refine Prod.ext (str_ext ?_) rfl
          show ((fs b).1.extract 0 ((fs b).2 + 0)).data.toList = _
          rw [extract_front, hb, Nat.add_zero, size_len, List.take_length]
        · rw [if_neg hx]
      rw [this]
      exact crashF_same ns ks.tail fs h
theorem QD.lasts {m : Nat} {fs : List Nat} (H : QD m D fs) {f : Nat} (hf : f ∈ fs) : (D.fs f).2 = (D.fs f).1.size := by
  obtain ⟨j, hj⟩ := List.getElem?_of_mem hf
  rw [H.cont j f hj]
  exact (cat_size _ _).symm
theorem QD.crashL {m : Nat} {fs : List Nat} (H : QD m D fs) (ks : List Int) : crashL D ks = mkN 0 fs := by
  unfold Go.Proofs.YtgdmjdacmebfjaaGreatDoor.D.crashL
  rw [H.las, H.chg, List.take_nil]
  rfl
theorem QD.crash {m : Nat} {fs : List Nat} (H : QD m D fs) (ks : List Int) : QD m (D.crash ks) fs := by
  have e : D.crash ks = ⟨D.room, mkN 0 fs, mkN 0 fs, [], false, -1, D.fs⟩ := by
    unfold DS.crash
    rw [H.crashL ks, crashF_same]
    intro k b hk
    obtain ⟨i, hi, _⟩ := mkN_mem (lookL_mem hk)
    exact H.lasts (List.mem_of_getElem? hi)
  rw [e]
  exact ⟨⟨rfl, rfl⟩, H.room, rfl, rfl, rfl, H.nf, H.len, H.cont⟩
theorem QD.read {m : Nat} {fs : List Nat} (H : QD m D fs) (hm : m ≤ 50) {j : Nat} (hj : j < (m + 15) / 16) : D.read (nameB (16 * j + 1)) = (catF (16 * j + 1) (cn m j), 0) := by
  have hl := H.len
  obtain ⟨f, hf⟩ : ∃ f, fs[j]? = some f := ⟨_, List.getElem?_eq_getElem (by omega)⟩
  have := mkN_look (r := fs) (j := 0) (i := j) (by omega) hf
  rw [Nat.zero_add] at this
  unfold DS.read
  rw [H.live.1, if_neg (by decide), H.now, this]
  simp only [H.cont j f hf]
theorem QD.fit {m : Nat} {fs : List Nat} (H : QD m D fs) (hm : m ≤ 50) : FitL D.now := by
  rw [H.now]
  refine ⟨fun p hp => ?_, by rw [mkN_len, H.len]; omega⟩
  obtain ⟨i, _, he⟩ := mkN_mem (k := p.1) (f := p.2) hp
  rw [he, name_size]
  decide
theorem QD.small {m : Nat} {fs : List Nat} (H : QD m D fs) (k : ByteArray) : (D.read k).1.size ≤ 128 := by
  unfold DS.read
  rw [H.live.1, if_neg (by decide)]
  cases hl : lookL k D.now with
  | none => exact Nat.zero_le _
  | some f =>
    simp only []
    rw [H.now] at hl
    obtain ⟨i, hi, _⟩ := mkN_mem (lookL_mem hl)
    rw [H.cont i f hi]
    show (catF _ _).size ≤ _
    rw [cat_size]
    have := cn_le m i
    omega

/-! ### The log read anew -/
def segQ (m j : Nat) : Seg := ⟨16 * j + 1, pl (cn m j), 8 * cn m j, false⟩
def segsQ (m : Nat) : List Seg := (List.range ((m + 15) / 16)).map (segQ m)
theorem mkN_names : ∀ (r : List Nat) (j : Nat), (mkN j r).map (·.1) = (List.range' j r.length).map fun j => nameB (16 * j + 1)
  | [], _ => rfl
  | f :: r, j => by
    show nameB (16 * j + 1) :: (mkN (j + 1) r).map (·.1) = _
    rw [mkN_names r (j + 1)]
    rfl
theorem endA_range {m d : Nat} : endA ((List.range' 0 (d + 1)).map (segQ m)) = 16 * d + cn m d := by
  unfold endA
  rw [List.range'_concat, List.map_append, List.map_singleton, List.getLast?_append]
  show ((segQ m (0 + 1 * d)).last) = _
  unfold Seg.last segQ
  simp only [pl_len]
  rw [Nat.zero_add, Nat.one_mul]
  omega
theorem open_F {m : Nat} {fs : List Nat} (H : QD m D fs) (hm : m ≤ 50) : ∀ d j, j + d = (m + 15) / 16 → openF D 0 ((List.range' j d).map fun j => nameB (16 * j + 1)) ((List.range' 0 j).map (segQ m)) = (List.range' 0 (j + d)).map (segQ m)
  | 0, j, _ => rfl
  | d + 1, j, hj => by
    have hr := H.read hm (j := j) (by omega)
    have hq : parsed (numberN (nameB (16 * j + 1))) (D.read (nameB (16 * j + 1))).1 = segQ m j := by
      rw [hr, number_name (by omega), cat_parsed]
      rfl
    show openF D 0 (nameB (16 * j + 1) :: (List.range' (j + 1) d).map _) _ = _
    unfold openF
    rw [hq, if_pos]
    · have : (List.range' 0 j).map (segQ m) ++ [segQ m j] = (List.range' 0 (j + 1)).map (segQ m) := by
        rw [List.range'_concat, List.map_append, Nat.zero_add, Nat.one_mul]
        rfl
      rw [this, open_F H hm d (j + 1) (by omega), show j + 1 + d = j + (d + 1) by omega]
    · unfold fitsA
      have hc : 0 < cn m j := by unfold cn; omega
      rw [if_neg (fun e : (segQ m j).places = [] => by have e : pl (cn m j) = [] := e; have := congrArg List.length e; rw [pl_len, List.length_nil] at this; omega)]
      cases j with
      | zero => rfl
      | succ j =>
        rw [if_neg (by rw [List.range'_concat, List.map_append]; simp), endA_range]
        rw [decide_eq_true_iff]
        show ((16 * (j + 1) + 1 : Nat) : Int) = _
        unfold cn
        omega
theorem QD.open_ {m : Nat} {fs : List Nat} (H : QD m D fs) (hm : m ≤ 50) : openK D 0 = segsQ m ∧ openR D 0 = (0, D) ∧ endA (segsQ m) = m := by
  have hlen := H.len
  have hfiles : D.files = (List.range' 0 ((m + 15) / 16)).map fun j => nameB (16 * j + 1) := by
    unfold DS.files DS.names
    rw [H.live.1, if_neg (by decide), H.now, names_sorted (by omega), mkN_names, hlen, List.filter_eq_self]
    intro k hk
    obtain ⟨j, hj, rfl⟩ := List.mem_map.1 hk
    rw [List.mem_range'_1] at hj
    rw [number_name (by omega)]
    simp
  have hF : openF D 0 D.files [] = segsQ m := by
    have := open_F H hm ((m + 15) / 16) 0 (by omega)
    rw [hfiles]
    unfold segsQ
    rw [List.range_eq_range', ← Nat.zero_add ((m + 15) / 16), ← this, Nat.zero_add]
    rfl
  have hE : endA (segsQ m) = m := by
    unfold segsQ
    rw [List.range_eq_range']
    rcases Nat.eq_zero_or_pos m with h0 | h0
    · subst h0; rfl
    · obtain ⟨d, hd⟩ : ∃ d, (m + 15) / 16 = d + 1 := ⟨(m + 15) / 16 - 1, by omega⟩
      rw [hd, endA_range]
      unfold cn
      omega
  have hK : openK D 0 = segsQ m := by
    unfold openK
    rw [hF, hE, if_neg (by omega)]
  refine ⟨hK, ?_, hE⟩
  unfold openR
  rw [hK, hfiles]
  have : List.drop (segsQ m).length ((List.range' 0 ((m + 15) / 16)).map fun j => nameB (16 * j + 1)) = [] := by
    rw [List.drop_eq_nil_iff]
    simp [segsQ]
  rw [this]
  rfl
theorem read_rec {m i b : Nat} {sg : Nat → Seg} (hr : ∀ j, j < (m + 15) / 16 → D.read (nameB (16 * j + 1)) = (catF (16 * j + 1) (cn m j), 0)) : ∀ (d j : Nat) (r : List Nat), j + d = (m + 15) / 16 → r.map sg = (List.range' j d).map (segQ m) → 16 * j < i → i ≤ m → readL sg D i (r ++ [b]) = (recB i, 0)
  | 0, j, _, hj, _, h1, h2 => by omega
  | d + 1, j, [], _, hm, _, _ => by simp at hm
  | d + 1, j, c :: r, hj, hm, h1, h2 => by
    have hc : sg c = segQ m j := by
      rw [List.map_cons] at hm
      exact List.head_eq_of_cons_eq hm
    have ht : r.map sg = (List.range' (j + 1) d).map (segQ m) := by
      rw [List.map_cons] at hm
      exact List.tail_eq_of_cons_eq hm
    show readL sg D i (c :: (r ++ [b])) = _
    unfold readL
    rw [hc]
    have hfst : (segQ m j).first = 16 * j + 1 := rfl
    have hlst : (segQ m j).last = 16 * j + cn m j := by
      unfold Seg.last segQ
      simp only [pl_len]
      omega
    rw [hfst, hlst]
    by_cases hx : i ≤ 16 * j + cn m j
    · rw [if_neg (by omega), hr j (by omega), if_neg (fun e => e rfl)]
      have hp : (segQ m j).places.getD (i - (16 * j + 1)) 0 = 8 * (i - (16 * j + 1)) := pl_get (by omega)
      rw [hp]
      simp only []
      rw [cat_get (by omega), show 16 * j + 1 + (i - (16 * j + 1)) = i by omega]
    · rw [if_pos (by omega)]
      exact read_rec hr d (j + 1) r (by omega) ht (by unfold cn at hx; omega) h2
end
end Go.Proofs.YtgdmjdacmebfjaaGreatDoor.D

namespace Go.Proofs.YtgdmjdacmebfjaaGreatDoor.D
open Go

def nextS : ByteArray := .mk #[110, 101, 120, 116]
theorem next_size : (frameOf nextS).size = 11 := by
  unfold frameOf
  rw [frame_len]
  show cnt 4 + 4 + 6 = 11
  decide
/-- Behind the last Append. -/
structure Fin (t : Nat) (L : LS) (D : DS) (r : List Nat) (b : Nat) : Prop where
  segs : L.segs = r ++ [b]
  sg : r.map L.sg = segsQ t
  sgb : L.sg b = ⟨t + 1, [0], 11, true⟩
  read : ∀ j, j < (t + 15) / 16 → D.read (nameB (16 * j + 1)) = (catF (16 * j + 1) (cn t j), 0)
  new : D.read (nameB (t + 1)) = (frameOf nextS, 0)
theorem Fin.seg {t : Nat} {L : LS} {D : DS} {r : List Nat} {b : Nat} (H : Fin t L D r b) {x : Nat} (hx : x ∈ L.segs) : (∃ j, j < (t + 15) / 16 ∧ L.sg x = segQ t j) ∨ L.sg x = ⟨t + 1, [0], 11, true⟩ := by
  rw [H.segs] at hx
  rcases List.mem_append.1 hx with h | h
  · have : L.sg x ∈ segsQ t := by rw [← H.sg]; exact List.mem_map.2 ⟨x, h, rfl⟩
    obtain ⟨j, hj, e⟩ := List.mem_map.1 this
    exact .inl ⟨j, List.mem_range.1 hj, e.symm⟩
  · rw [List.mem_singleton.1 h]; exact .inr H.sgb
theorem next_fin {t fb b : Nat} {L : LS} {D : DS} {fs : List Nat} (H : QD t D fs) (ht : t ≤ 50) (hm : L.segs.map L.sg = segsQ t) (hh : L.hand = none) (hla : L.last = t) (hb : b ∉ L.segs) (hfb : ¬ D.has fb) : Fin t (L.app nextS b) (D.put (nameB (t + 1)) (frameOf nextS) fb) L.segs b := by
  have hr : L.reuse = none := by unfold LS.reuse; rw [hh]
  have hl := H.len
  have hlook : lookL (nameB (t + 1)) D.now = none := by
    rw [H.now]
    exact mkN_none fun i hi e => by
      have := name_inj (by omega) (by omega) e
      omega
  have eD : D.put (nameB (t + 1)) (frameOf nextS) fb = { D.change (.put (nameB (t + 1)) fb) with fs := fsSet D.fs fb (frameOf nextS, 0) } := by
    unfold DS.put
    rw [hlook, live_write H.live]
  have hput : putL (nameB (t + 1)) fb D.now = D.now ++ [(nameB (t + 1), fb)] := by
    rw [H.now]
    exact mkN_put fun i hi e => by
      have := name_inj (by omega) (by omega) e
      omega
  have eA : L.app nextS b = (L.begin_ b).wrote b (frameOf nextS).size := by unfold LS.app; rw [hr]
  have look_app : ∀ (k k' : ByteArray) (c : Nat) (l : FL), lookL k l = none → lookL k (l ++ [(k', c)]) = if k = k' then some c else none := fun k k' c l => by
    induction l with
    | nil => intro _; rfl
    | cons p l ih =>
      intro h
      unfold lookL at h
      by_cases hk : k = p.1
      · rw [if_pos hk] at h; cases h
      · rw [if_neg hk] at h
        show lookL k (p :: (l ++ _)) = _
        unfold lookL
        rw [if_neg hk]
        exact ih h
  have look_old : ∀ (k k' : ByteArray) (c f : Nat) (l : FL), lookL k l = some f → lookL k (l ++ [(k', c)]) = some f := fun k k' c f l => by
    induction l with
    | nil => intro h; cases h
    | cons p l ih =>
      intro h
      unfold lookL at h
      show lookL k (p :: (l ++ _)) = _
      unfold lookL
      by_cases hk : k = p.1
      · rw [if_pos hk] at h ⊢; exact h
      · rw [if_neg hk] at h ⊢; exact ih h
  refine ⟨by rw [eA]; rfl, ?_, ?_, fun j hj => ?_, ?_⟩
  · rw [eA, ← hm]
    refine List.map_congr_left fun y hy => ?_
    have hyb : y ≠ b := fun e => hb (e ▸ hy)
    show sgSet (sgSet L.sg b _) b _ y = _
    rw [sgSet_ne _ _ hyb, sgSet_ne _ _ hyb]
  · rw [eA]
    show sgSet (sgSet L.sg b _) b ((sgSet L.sg b ⟨L.last + 1, [], 0, false⟩ b).more (frameOf nextS).size) b = _
    rw [sgSet_same, sgSet_same, Seg.more, next_size, hla]; rfl
  · have hold := H.read ht hj
    obtain ⟨f, hf⟩ : ∃ f, fs[j]? = some f := ⟨_, List.getElem?_eq_getElem (by omega)⟩
    have hlk := mkN_look (r := fs) (j := 0) (i := j) (by omega) hf
    rw [Nat.zero_add, ← H.now] at hlk
    rw [eD]
    unfold DS.read at hold ⊢
    rw [H.live.1, if_neg (by decide), hlk] at hold
    have hd : ({ D.change (.put (nameB (t + 1)) fb) with fs := fsSet D.fs fb (frameOf nextS, 0) } : DS).dead = false := H.live.1
    have hn : lookL (nameB (16 * j + 1)) ({ D.change (.put (nameB (t + 1)) fb) with fs := fsSet D.fs fb (frameOf nextS, 0) } : DS).now = some f := by
      show lookL _ (putL _ fb D.now) = _
      rw [hput]
      exact look_old _ _ _ _ _ hlk
    rw [hd, if_neg (by decide), hn]
    simp only [] at hold ⊢
    have hne : f ≠ fb := fun e => hfb (e ▸ .inl ⟨_, lookL_mem hlk⟩)
    have : fsSet D.fs fb (frameOf nextS, 0) f = D.fs f := by unfold fsSet; rw [if_neg hne]
    rw [this]
    exact hold
  · rw [eD]
    unfold DS.read
    have hd : ({ D.change (.put (nameB (t + 1)) fb) with fs := fsSet D.fs fb (frameOf nextS, 0) } : DS).dead = false := H.live.1
    have hn : lookL (nameB (t + 1)) ({ D.change (.put (nameB (t + 1)) fb) with fs := fsSet D.fs fb (frameOf nextS, 0) } : DS).now = some fb := by
      show lookL _ (putL _ fb D.now) = _
      rw [hput, look_app _ _ _ _ hlook, if_pos rfl]
    rw [hd, if_neg (by decide), hn]
    simp only [fsSet_same]

theorem cuts_true {d t : Int} {p : Sl} {ks : List Int} {h : Hp} {K : Bool → Hp → Prop} (hp : srcAt h p.a (ks.map i64V)) (hl : p.len = ks.length) (hm : ks.length * 8 ≤ 140737488355328) (hlt : ∀ q, p.a = some q → q.block < h.size) (hk : ∀ h', Grow h h' → K true h') : D_barographlaw05_WalCuts d t p h K := by
  obtain ⟨N0, hN0, hN50⟩ := mod_nat d 50 (by decide)
  have hN0 : IntKind.i64.wrap (Int.tmod (IntKind.u64.wrap d) 50) = (N0 : Int) := hN0
  obtain ⟨n, hn⟩ : ∃ n : Nat, n = N0 + 1 := ⟨_, rfl⟩
  have hN1 : IntKind.i64.wrap (1 + IntKind.i64.wrap (Int.tmod (IntKind.u64.wrap d) 50)) = (n : Int) := by rw [hN0, wrap64] <;> omega
  have hN2 : IntKind.u64.wrap (IntKind.i64.wrap ((n : Int) + 1)) = ((n + 1 : Nat) : Int) := by
    rw [wrap64 (x := (n : Int) + 1) (by omega) (by omega), wrapU64 (by omega) (by omega)]
    rfl
  obtain ⟨T, hT, hTn⟩ := mod_nat t (n + 1) (by omega)
  have hAT : IntKind.i64.wrap (Int.tmod (IntKind.u64.wrap t) (IntKind.u64.wrap (IntKind.i64.wrap (IntKind.i64.wrap (1 + IntKind.i64.wrap (Int.tmod (IntKind.u64.wrap d) 50)) + 1)))) = (T : Int) := by rw [hN1, hN2]; exact hT
  have hT1 : IntKind.i64.wrap ((T : Int) + 1) = ((T + 1 : Nat) : Int) := by rw [wrap64] <;> omega
  have hTT : ((T : Int) != (T : Int)) = false := by simp
  unfold D_barographlaw05_WalCuts
  refine works_true fun h1 w1 => ?_
  rw [if_neg (by decide)]
  refine ⟨by rw [hN1, hN2]; omega, disk_New fun h2 a O2 d2 s2 => ?_⟩
  have st2 : Step h Non h2 O2 := ⟨w1.trans ⟨s2.ext.size, fun b hb hn => s2.ext.same b hb hn⟩, fun b hb => .inr ((s2.own b hb).elim (fun f => f.elim) (fun h => Nat.le_trans w1.size h))⟩
  obtain ⟨o1, o2⟩ := open_empty (base := 0) (D := { room := 1048576, now := [], lasting := [], chg := [], dead := false, fuse := -1, fs := fun _ => (.mk #[], 0) }) rfl rfl
  refine wal_Open_ (base := 0) d2 (by decide) ⟨(fun p hp => by cases hp), by show 0 ≤ 1000; decide⟩ (fun k => by show (ByteArray.mk #[]).size < _; decide) (by show 0 < _; decide) (fun e => by cases e) (fun _ e => by rw [o2] at e; exact absurd rfl e) fun _ _ h3 lb L0 Od3 Ol3 H3 s3 q1 q2 q3 q4 q5 => ?_
  rw [o1] at q1 q4
  rw [o2] at H3
  have hsg : L0.segs = [] := List.map_eq_nil_iff.1 q1
  rw [maxI_end] at q4
  have hla : L0.last = 0 := by omega
  rw [if_neg (by decide)]
  show D_barographlaw05_WalCuts_j7 d t p K _ _ _ _
  unfold D_barographlaw05_WalCuts_j7
  rw [if_neg (by simp)]
  refine ⟨fun x g => ∃ (i : Nat) (L : LS) (D : DS) (Od Ol : Nat → Prop) (bs fs : List Nat), i ≤ n ∧ x = ((i + 1 : Nat) : Int) ∧ LogAt g lb a L D Od Ol ∧ Step h Non g (Or2 Od Ol) ∧ W i L D ∧ C i L D bs fs, fun x _ => n + 2 - x.toNat,
    ⟨0, L0, _, Od3, Ol3, [], [], by omega, rfl, H3, st2.trans s3, ⟨⟨rfl, rfl⟩, rfl, by rw [hsg]; rfl, by rw [hsg]; exact List.nodup_nil, by omega, by rw [hsg]; exact Nat.le_refl _, Nat.le_refl _, (fun b hb => by rw [hsg] at hb; cases hb), (fun b hb => by rw [q2] at hb; cases hb), (fun x => by show (ByteArray.mk #[]).size ≤ _; exact Nat.zero_le _)⟩,
      ⟨hsg, rfl, rfl, List.nodup_nil, List.nodup_nil, rfl, (fun j b hb => by cases hb), (fun j f hf => by cases hf), hla, q2, (fun hh => absurd hh (by decide)), (fun x hx => by
        rcases hx with ⟨k, hx⟩ | ⟨k, hx⟩ | ⟨k, hx, _⟩ <;> cases hx)⟩⟩, ?_⟩
  rintro x g ⟨i, L, D, Od, Ol, bs, fs, hi, rfl, Hg, st, HW, HC⟩
  unfold D_barographlaw05_WalCuts_l6
  rw [hN1]
  by_cases hiN : i < n
  · rw [if_pos (decide_eq_true (by omega))]
    intro g1 e1
    have w1' : Grow g g1 := (Grow.refl g).push e1
    obtain ⟨Hg1, sg1⟩ := Hg.grow w1'
    refine ⟨recB (i + 1), one_byte e1, ?_⟩
    obtain ⟨k1, k2⟩ := HW.ok (by omega)
    have hused : D.used ≤ 20000 := by
      have := used_le (l := D.now) HW.fs
      have hbl := HC.len
      unfold DS.used
      have h5 : D.now.length * (8 * i) ≤ 4 * (8 * 50) := Nat.mul_le_mul (by rw [HC.now, mkN_len, HC.flen]; omega) (by omega)
      omega
    have hw1 : IntKind.i64.wrap (((i + 1 : Nat) : Int) + 1) = ((i + 1 + 1 : Nat) : Int) := by rw [wrap64] <;> omega
    have hmu : n + 2 - ((i + 1 + 1 : Nat) : Int).toNat < n + 2 - ((i + 1 : Nat) : Int).toNat := by omega
    rw [hw1]
    refine append_goes Hg1 k1 k2 HW.live (by show 1 ≤ _; decide) (by have := HC.last; omega) (fun hf => ?_) fun h' Od' Ol' b fb hb hfb H' s' => ?_
    · rcases hf with hf | ⟨_, hf⟩
      · rw [HW.room, rec_size] at hf; omega
      · rw [HC.now, mkN_len, HC.flen, HC.len] at hf; omega
    · obtain ⟨bs', fs', HC'⟩ := HC.app HW.live (by omega) hb hfb
      exact ⟨⟨i + 1, _, _, Od', Ol', bs', fs', by omega, rfl, H', (st.trans sg1).trans s', HW.app (by omega) (rec_size _) hb, HC'⟩, hmu⟩
  rw [if_neg (by rw [decide_eq_true_iff]; omega)]
  have hin : i = n := by omega
  subst hin
  obtain ⟨k1, k2⟩ := HW.ok (by omega)
  obtain ⟨L4, D4, y1, HQ, HL⟩ := HC.sync HW.live HW.room (by omega)
  refine log_Sync Hg k1.n (fun b hb => by have := (k1.seg b hb).1.1; omega) fun h4 Od4 H4 s4 => ?_
  rw [y1] at H4 ⊢
  rw [if_neg (by show ¬ ((0 : Int) != 0) = true; decide)]
  rw [hN1] at hAT
  rw [hAT]
  refine cut_goes H4 HQ HL (by omega) (by omega) fun h5 L5 D5 Od5 fs5 H5 HQ5 hl5 s5 => ?_
  rw [if_neg (by decide)]
  refine log_Last H5 ?_
  rw [hl5, hTT]
  unfold D_barographlaw05_WalCuts_j5
  rw [if_neg (by decide)]
  intro h6 e6
  have w6 : Grow h5 h6 := (Grow.refl h5).push e6
  have st5 : Step h Non h5 (Or2 Od5 Ol) := (st.trans s4).trans s5
  have g5 : Grow h h5 := ⟨st5.ext.size, fun b hb hn => st5.ext.same b hb hn⟩
  have hz6 : h6.size = h5.size + 1 := by rw [e6, Array.size_push]
  have hp6 : srcAt h6 p.a (ks.map i64V) := by
    refine ⟨hp.1, fun q hq => ?_⟩
    have hql := hlt q hq
    have hc := hp.2 q hq
    have hsame : h6[q.block]? = h[q.block]? := by rw [w6.same _ (by have := g5.size; omega) id, g5.same _ hql id]
    have key : ∀ (vs : List Value) (i : Nat), cellsFrom h q i vs → cellsFrom h6 q i vs := by
      intro vs
      induction vs with
      | nil => intro _ _; trivial
      | cons v vs ih =>
        intro i hh
        refine ⟨?_, ih (i + 1) hh.2⟩
        have h1 := hh.1
        have hb : (q.add i).block = q.block := by unfold Addr.add; split <;> rfl
        unfold cellH at h1 ⊢
        rw [hb] at h1 ⊢
        rw [hsame]
        exact h1
    exact key _ _ hc
  have own6 : SlOwn h6 (Sl.mk (some (blk h5.size)) 0 0) T_int 1 [] := ⟨rfl, .inr ⟨h5.size, 0, #[], rfl, push_new e6, Nat.le_refl _, Nat.le_refl _, fun i hi => by cases hi⟩⟩
  refine ⟨ks.map i64V, by rw [List.length_map, hl, Nat.mul_one], hp6, ?_⟩
  have cont : ∀ (s' : Sl) (h7 : Hp), SlOwn h7 s' T_int 1 (ks.map i64V) → (∀ q, s'.blk? = some q → h5.size ≤ q) → Grow h5 h7 → C_disk_Disk_Crash (some (blk a)) s' h7 fun hz34 =>
      C_wal_Open (some (blk a)) 0 hz34 fun r36 r37 hz35 => if (r37 != (0 : Int)) = true then D_barographlaw05_WalCuts_j4 d t K r36 true hz35 else
        if r36.isNone = true then D_barographlaw05_WalCuts_j4 d t K r36 true hz35 else
          C_wal_Log_Last r36 hz35 fun r72 hz71 => D_barographlaw05_WalCuts_j4 d t K r36 (r72 != IntKind.i64.wrap (Int.tmod (IntKind.u64.wrap t) (IntKind.u64.wrap (IntKind.i64.wrap ((i : Int) + 1))))) hz71 := by
    intro s' h7 own7 new7 w7
    obtain ⟨H7, s7⟩ := H5.grow w7
    have hT50 : T ≤ 50 := by omega
    refine disk_Crash (ks := ks) H7.disk own7 (fun q hq ho => by have := H5.disk.lt q ho; have := new7 q hq; omega) (by rw [HQ5.chg]; decide) (fun x hx => ?_) (by rw [HQ5.crashL ks, ← HQ5.now]; exact HQ5.fit hT50) fun h8 Od8 d8 s8 => ?_
    · rw [HQ5.lasts (HQ5.mem hx)]
      obtain ⟨j, hj⟩ := List.getElem?_of_mem (HQ5.mem hx)
      rw [HQ5.cont j x hj]
      refine ⟨Nat.le_refl _, ?_⟩
      show (catF _ _).size < _
      rw [cat_size]
      have := cn_le T j
      omega
    have HQ8 := HQ5.crash ks
    obtain ⟨v1, v2, v3⟩ := HQ8.open_ hT50
    refine wal_Open_ (base := 0) d8 (by decide) (HQ8.fit hT50) (fun k => by have := HQ8.small k; omega) (by rw [HQ8.chg]; decide) (fun e => by rw [HQ8.live.1] at e; cases e) (fun _ e => by rw [v2] at e; exact absurd rfl e) fun _ _ h9 lb9 L9 Od9 Ol9 H9 s9 p1 p2 p3 p4 p5 => ?_
    rw [v1] at p1 p4
    rw [v2] at H9
    have hl9 : L9.last = T := by
      rw [v3] at p4
      have : maxI ((0 : Nat) : Int) (T : Int) = (T : Int) := by
        unfold maxI
        split <;> omega
      omega
    rw [if_neg (by decide), if_neg (by simp)]
    refine log_Last H9 ?_
    rw [hl9, hAT, hTT]
    unfold D_barographlaw05_WalCuts_j4
    rw [if_neg (by decide)]
    have hsl : L9.segs.length = (T + 15) / 16 := by
      have := congrArg List.length p1
      rw [List.length_map] at this
      rw [this]
      simp [segsQ]
    have ok9 : L9.Ok := ⟨by omega, by omega, (fun b hb => by rw [p2] at hb; cases hb), fun b hb => by
      have : L9.sg b ∈ segsQ T := by rw [← p1]; exact List.mem_map.2 ⟨b, hb, rfl⟩
      obtain ⟨j, hj, e⟩ := List.mem_map.1 this
      rw [List.mem_range] at hj
      have := cn_le T j
      rw [← e]
      refine ⟨⟨by show 16 * j + 1 ≤ _; omega, by show (pl _).length ≤ _; rw [pl_len]; omega⟩, by show (pl _).length < _; rw [pl_len]; omega, by show 8 * cn T j < _; omega⟩⟩
    have hu9 := HQ8.used hT50
    have dok9 : (D5.crash ks).Ok := ⟨by rw [HQ8.chg]; decide, by rw [HQ8.room]; decide, by omega⟩
    have hcur : L9.cur.first = T + 1 := by rw [(first_cur p2).2]; show L9.last + 1 = _; omega
    refine append_goes H9 ok9 dok9 HQ8.live (by show 4 ≤ _; decide) (by omega) (fun hf => ?_) fun h10 Od10 Ol10 b fb hb hfb H10 s10 => ?_
    · rcases hf with hf | ⟨_, hf⟩
      · have hf : (D5.crash ks).room - ((D5.crash ks).used : Int) < _ := hf
        rw [HQ8.room] at hf
        have e11 : (frameOf (.mk #[110, 101, 120, 116])).size = 11 := next_size
        rw [e11] at hf
        omega
      · rw [HQ8.now, mkN_len, HQ8.len] at hf; omega
    rw [hcur] at H10
    have F := next_fin (fb := fb) (b := b) HQ8 hT50 p1 p2 hl9 hb hfb
    rw [hN1, hAT, hl9, hT1]
    rw [if_neg (by simp), show ((0 : Int) != 0) = false from rfl]
    unfold D_barographlaw05_WalCuts_j3
    rw [if_neg (by decide)]
    have g10 : Grow h h10 := by
      have st10 : Step h Non h10 _ := (((st5.trans s7).trans s8.widen).trans s9).trans s10
      exact ⟨st10.ext.size, fun b hb hn => st10.ext.same b hb hn⟩
    refine ⟨fun x g => ∃ j : Nat, 1 ≤ j ∧ j ≤ T + 1 ∧ x = (j : Int) ∧ LogAt g lb9 a (L9.app nextS b) ((D5.crash ks).put (nameB (T + 1)) (frameOf nextS) fb) Od10 Ol10 ∧ Grow h g, fun x _ => T + 2 - x.toNat, ⟨1, by omega, by omega, rfl, H10, g10⟩, ?_⟩
    rintro x g2 ⟨j, hj1, hj2, rfl, Hg2, wg2⟩
    unfold D_barographlaw05_WalCuts_l2
    rw [hN1, hAT]
    by_cases hjT : j ≤ T
    · rw [if_pos (decide_eq_true (by omega))]
      have segF : ∀ x, x ∈ (L9.app nextS b).segs → ((L9.app nextS b).sg x).Ok ∧ (((D5.crash ks).put (nameB (T + 1)) (frameOf nextS) fb).read (nameB ((L9.app nextS b).sg x).first)).1.size < 4611686018427387904 ∧ ∀ (i q : Nat), ((L9.app nextS b).sg x).places[i]? = some q → q ≤ (((D5.crash ks).put (nameB (T + 1)) (frameOf nextS) fb).read (nameB ((L9.app nextS b).sg x).first)).1.size := fun x hx => by
        rcases F.seg hx with ⟨m, hm, e⟩ | e
        · rw [e]
          have := cn_le T m
          have hrd := F.read m hm
          have e1 : (segQ T m).first = 16 * m + 1 := rfl
          rw [e1, hrd]
          refine ⟨⟨by show 16 * m + 1 ≤ _; omega, by show (pl _).length ≤ _; rw [pl_len]; omega⟩, by show (catF _ _).size < _; rw [cat_size]; omega, fun i q hq => ?_⟩
          show q ≤ (catF _ _).size
          rw [cat_size]
          have hq : (pl (cn T m))[i]? = some q := hq
          unfold pl at hq
          rw [List.getElem?_map] at hq
          have hi : i < cn T m := by
            rcases Nat.lt_or_ge i (cn T m) with h | h
            · exact h
            · rw [List.getElem?_eq_none (by rw [List.length_range]; exact h)] at hq; cases hq
          rw [List.getElem?_range hi] at hq
          cases hq
          show 8 * i ≤ 8 * cn T m
          omega
        · rw [e]
          have e1 : (⟨T + 1, [0], 11, true⟩ : Seg).first = T + 1 := rfl
          rw [e1, F.new]
          refine ⟨⟨by show T + 1 ≤ _; omega, by show 1 ≤ _; decide⟩, by show (frameOf nextS).size < _; rw [next_size]; decide, fun i q hq => ?_⟩
          match i, hq with
          | 0, hq => cases hq; exact Nat.zero_le _
      refine log_Read (n := j) Hg2 (by rw [F.segs, List.length_append, List.length_singleton]; omega) (fun x hx => (segF x hx).1) (fun x hx _ => (segF x hx).2) (by omega) fun g3 Hg3 w3 => ?_
      have hread : readL (L9.app nextS b).sg ((D5.crash ks).put (nameB (T + 1)) (frameOf nextS) fb) j (L9.app nextS b).segs = (recB j, 0) := by
        rw [F.segs]
        exact read_rec F.read ((T + 15) / 16) 0 L9.segs (by omega) (by rw [F.sg]; unfold segsQ; rw [List.range_eq_range']) (by omega) hjT
      rw [hread, if_neg (by show ¬ ((0 : Int) != 0) = true; decide)]
      intro g4 e4
      refine ⟨recB j, one_byte e4, ?_⟩
      have heq : ((recB j).toList == (recB j).toList) = true := str_eq.2 rfl
      show D_barographlaw05_WalCuts_j1 K _ _ (!((recB j).toList == (recB j).toList)) g4
      rw [heq]
      unfold D_barographlaw05_WalCuts_j1
      rw [if_neg (by decide)]
      have w4 : Grow g3 g4 := (Grow.refl g3).push e4
      have hw : IntKind.i64.wrap ((j : Int) + 1) = ((j + 1 : Nat) : Int) := by rw [wrap64] <;> omega
      rw [hw]
      exact ⟨⟨j + 1, by omega, by omega, rfl, (Hg3.grow w4).1, (wg2.trans w3).trans w4⟩, by show T + 2 - ((j + 1 : Nat) : Int).toNat < T + 2 - (j : Int).toNat; omega⟩
    · rw [if_neg (by rw [decide_eq_true_iff]; omega)]
      exact hk g2 wg2
  rcases Nat.eq_zero_or_pos p.len with h0 | h0
  · have hks : ks = [] := List.eq_nil_of_length_eq_zero (by omega)
    subst hks
    rw [h0]
    refine ⟨fun _ => ⟨(fun e => by cases e), fun q hq => ⟨trivial, ?_⟩⟩, fun hh => absurd hh (by simp)⟩
    cases hq
    rw [hN1]
    exact cont _ h6 own6 (fun q hq => by cases hq; exact Nat.le_refl _) w6
  · rw [hN1]
    exact apd_zero rfl (by rw [List.length_map, hl]) h0 (by rw [hl]; exact hm) fun s' h7 A1 A2 A3 => cont s' h7 A1 (fun q hq => by rw [A2] at hq; cases hq; omega) (w6.trans A3)
end Go.Proofs.YtgdmjdacmebfjaaGreatDoor.D

namespace Go.Proofs.YtgdmjdacmebfjaaGreatDoor.D
open Go Go.RowKit

/-- WalCuts, called in any world. -/
theorem law_calls {d t : Int} {p : Sl} {ks : List Int} {W : World} (hp : srcAt W.heap p.a (ks.map i64V)) (hl : p.len = ks.length) (hm : ks.length * 8 ≤ 140737488355328) (hlt : ∀ q, p.a = some q → q.block < W.heap.size) :
    Calls PROG F_barographlaw05_WalCuts #[.int .i64 d, .int .i64 t, p.v] W fun e W' => e = .returned (.bool true) ∧ Below W.heap.size W W' := by
  have hc : C_barographlaw05_WalCuts d t p W.heap fun r h' => r = true ∧ Grow W.heap h' := S_barographlaw05_WalCuts (cuts_true hp hl hm hlt fun h' w => ⟨rfl, w⟩)
  refine (hc W rfl).mono ?_
  rintro e W' ⟨v, rfl, ⟨r, rfl, rfl, w⟩, o⟩
  exact ⟨rfl, ⟨o.os, o.tape, o.output, w.size, fun k hk => w.same k hk id⟩⟩
end Go.Proofs.YtgdmjdacmebfjaaGreatDoor.D

namespace Go.Proofs.YtgdmjdacmebfjaaGreatDoor.D
open Go Go.ChangeShapes Go.WideShapes Go.ChangeAt Go.RowKit

section
variable {H : Type} {enc : TypeId × Value → H} {P : Program}
theorem post_of_below {f : Func} {s : ChangeSpec} {apart fresh handsOn again : Bool} {W W' : World} {args : Array Value} {v : Value} {ds gs : List (DataW H)} {before pa pv : List MemPlace}
    (hW : DataW.Whole enc P f.params.toList s.vars apart W args.toList ds gs before)
    (hres : ∀ (b : Nat) (sp : Nat → Bool) (hd : Bool), DataW.TrodAll enc P W' b sp hd f.resultTypes.toList (v.resultList f.resultTypes.size) (s.fn H (ds ++ gs)).results [])
    (hargs : ∀ sp : Nat → Bool, (∀ p ∈ before, sp p.block = true) → DataW.TrodAll enc P W' 0 sp true f.params.toList args.toList (s.fn H (ds ++ gs)).args pa)
    (hvars : ∀ sp : Nat → Bool, (∀ p ∈ before, sp p.block = true) → DataW.TrodVars enc P W' sp s.vars (s.fn H (ds ++ gs)).vars pv)
    (hps : before = pa ++ pv) (hb : Below W.heap.size W W')
    (hok : ∀ (j : Nat) (t : TypeId) (r : Value), f.resultTypes[j]? = some t → (v.resultList f.resultTypes.size)[j]? = some r → Value.okWide P W' .any 0 t r) :
    s.post enc P f apart fresh handsOn again W args v W' := by
  have hlt : ∀ p ∈ before, p.block < W.heap.size := fun p hp => hW.lt p hp
  have hold : ∀ p ∈ before, (fun b => decide (b < W.heap.size)) p.block = true := fun p hp => by simpa using hlt p hp
  refine ⟨ds, gs, before, [], pa, pv, hW, hres _ _ _, hargs _ hold, hvars _ hold, World.keptBut_mono (fun p hp => ⟨hp, ?_⟩) (hb.frame (· ∈ before)), fun _ => ?_⟩
  · rw [hps, List.mem_append] at hp
    exact Or.inr hp
  · obtain ⟨_, _, _, _, _, hz, hn⟩ := hW
    refine ⟨hok, _, _, ([] ++ pa) ++ pv, ⟨[] ++ pa, pv, trodAll_append (hargs _ (fun _ _ => rfl)) (hres _ _ _), hvars _ (fun _ _ => rfl), rfl, ?_, ?_⟩, ?_⟩
    · intro b off hp
      have hin : MemPlace.cell b off ∈ before := by rw [hps]; simpa using hp
      rw [hb.frozen (hlt _ hin)]
      exact hz b off hin
    · intro ha
      have := hn ha
      rw [hps] at this
      simpa using this
    · intro p hp _
      rw [hps]
      simpa using hp
end
end Go.Proofs.YtgdmjdacmebfjaaGreatDoor.D

namespace Go.Proofs.YtgdmjdacmebfjaaGreatDoor.walCuts
open Go Go.ChangeShapes Go.WideShapes Go.ChangeAt Go.RowKit Go.Proofs.YtgdmjdacmebfjaaGreatDoor.D

theorem own : ownKnob Tryz.prog.godebug = none := by kernel_rfl
theorem cellsE : Tryz.prog.cellsOf 3 = 1 := by kernel_rfl
theorem bytesE : Tryz.prog.bytesOf 3 = 8 := by kernel_rfl
theorem bools : Tryz.prog.underlying 4 = some .bool := Tryz.underlying4

set_option maxRecDepth 100000 in
/-- A slice of whole numbers that is not nil lies in a block that is there. -/
theorem block_lt {W : World} {base : Nat} {a : Addr} {len cap : Nat} (h : Value.okWide Tryz.prog W .any base 22 (.slice (some a) len cap)) : a.block < W.heap.size := by
  simp only [Value.okWide, Tryz.underlying22, Cell.okWide, Cell.ok] at h
  obtain ⟨_, _, _, _, row, cells, hs, _⟩ := h
  by_cases c : a.block < W.heap.size
  · exact c
  · exfalso
    have : W.heap[a.block]? = none := Array.getElem?_eq_none (by omega)
    simp [World.shape?, this] at hs

set_option maxRecDepth 100000 in
/-- WHAT THE CALL GIVES, FOR EVERY ARGUMENT. -/
theorem contract (H : Type) (enc : TypeId × Value → H) (W : World) (base : Nat) (args : Array Value) (ds gs : List (DataW H)) (before : List MemPlace)
    (hval : ∀ (j : Nat) t v, Tryz.f3.params[j]? = some t → args[j]? = some v → Value.okWide Tryz.prog W .any base t v)
    (hW : DataW.Whole enc Tryz.prog Tryz.f3.params.toList Rows.walCutsSpec.vars false W args.toList ds gs before)
    (hsz : (DataW.weightsEach Tryz.prog (Tryz.f3.params.toList ++ (OpenSpec.ofChange Rows.walCutsSpec).bare.plain.varTypes Tryz.prog) (ds ++ gs)).all (· ≤ reachBytes) = true) :
    Calls Tryz.prog 3 args W fun e W' => ∃ v, e = .returned v ∧ Rows.walCutsSpec.post enc Tryz.prog Tryz.f3 false true false false W args v W' := by
  have hW' := hW
  obtain ⟨p, q, hA0, hV, rfl, hfz, hnd⟩ := hW
  have hA : DataW.TrodAll enc Tryz.prog W 0 (fun _ => true) true Tryz.f3.params.toList args.toList ds p := hA0
  rw [Tryz.params3] at hA hval hsz
  obtain ⟨v0, vs0, d0, ds0, p0, q0, hargs, rfl, rfl, h0, r0⟩ := trodAll_cons hA
  obtain ⟨v1, vs1, d1, ds1, p1, q1, rfl, rfl, rfl, h1, r1⟩ := trodAll_cons r0
  obtain ⟨v2, vs2, d2, ds2, p2, q2, rfl, rfl, rfl, h2, r2⟩ := trodAll_cons r1
  obtain ⟨rfl, rfl, rfl⟩ := trodAll_nil r2
  obtain rfl : args = #[v0, v1, v2] := by cases args; simp_all
  obtain ⟨rfl, rfl⟩ := trodVars_none hV
  obtain ⟨n0, rfl, rfl, rfl, w0⟩ := open_int Tryz.underlying3 (hval 0 3 v0 rfl rfl) h0
  obtain ⟨n1, rfl, rfl, rfl, w1⟩ := open_int Tryz.underlying3 (hval 1 3 v1 rfl rfl) h1
  have ok2 := hval 2 22 v2 rfl rfl
  obtain ⟨a0, len, cap, rfl⟩ := okWide_slice Tryz.underlying22 ok2
  obtain ⟨fuel, hf⟩ := h2
  clear hA0
  simp only [List.append_nil, List.nil_append] at hW' hf
  have done : ∀ (ks : List Int) (d2 : DataW H), srcAt W.heap a0 (ks.map i64V) → len = ks.length → ks.length * 8 ≤ 140737488355328 → (∀ q, a0 = some q → q.block < W.heap.size) →
      DataW.Whole enc Tryz.prog Tryz.f3.params.toList Rows.walCutsSpec.vars false W [.int .i64 n0, .int .i64 n1, .slice a0 len cap] [.lit (.int .i64 n0), .lit (.int .i64 n1), d2] [] p2 →
      (∀ W' : World, Below W.heap.size W W' → ∀ sp : Nat → Bool, (∀ x ∈ p2, sp x.block = true) → DataW.Trod enc Tryz.prog W' 0 sp true 22 (.slice a0 len cap) d2 p2) →
      Calls Tryz.prog 3 #[.int .i64 n0, .int .i64 n1, .slice a0 len cap] W fun e W' => ∃ v, e = .returned v ∧ Rows.walCutsSpec.post enc Tryz.prog Tryz.f3 false true false false W #[.int .i64 n0, .int .i64 n1, .slice a0 len cap] v W' := by
    intro ks d2 hp hl hm hlt hwh hback
    refine (law_calls (d := n0) (t := n1) (p := ⟨a0, len, cap⟩) hp hl hm hlt).mono fun e W' ⟨he, hb⟩ => ?_
    subst he
    refine ⟨_, rfl, post_of_below (pa := p2) (pv := []) (ds := [.lit (.int .i64 n0), .lit (.int .i64 n1), d2]) (gs := []) hwh (fun _ _ _ => trodAll_cons_mk (shut_bool Tryz.underlying4 _) trodAll_mk0) (fun sp hsp => ?_) (fun _ _ => rfl) (by simp) hb
      (ok_one (by kernel_rfl) rfl (okWide_bool_mk Tryz.underlying4 _))⟩
    have t3 : DataW.TrodAll enc Tryz.prog W' 0 sp true [3, 3, 22] [.int .i64 n0, .int .i64 n1, .slice a0 len cap] [.lit (.int .i64 n0), .lit (.int .i64 n1), d2] ([] ++ ([] ++ (p2 ++ []))) :=
      trodAll_cons_mk (shut_int Tryz.underlying3 w0) (trodAll_cons_mk (shut_int Tryz.underlying3 w1) (trodAll_cons_mk (hback W' hb sp hsp) trodAll_mk0))
    simp only [List.append_nil, List.nil_append] at t3
    rw [Tryz.params3]
    exact t3
  rcases open_ints Tryz.underlying22 Tryz.underlying3 cellsE hf with ⟨hcs, hx⟩ | ⟨a, len', cap', zs, hcs, _, hl, hm, hz, hx, hcell, hwz⟩
  · simp [Value.cells] at hcs
    obtain ⟨rfl, rfl, rfl⟩ := hcs
    simp only [Prod.mk.injEq] at hx
    obtain ⟨rfl, rfl⟩ := hx
    refine done [] .nil ⟨fun _ => rfl, fun q hq => by cases hq⟩ rfl (by simp) (fun q hq => by cases hq) hW' fun W' _ sp _ => ?_
    exact ⟨1, by simp [DataW.trod, Value.cells, Tryz.underlying22]⟩
  · simp [Value.cells] at hcs
    obtain ⟨rfl, rfl, rfl⟩ := hcs
    simp only [Prod.mk.injEq] at hx
    obtain ⟨rfl, rfl⟩ := hx
    simp only [if_true] at hz
    have hba : a.block < W.heap.size := block_lt ok2
    refine done (zs.take len) _ ⟨fun h => (nomatch h), fun q hq => ?_⟩ (by simp; omega) ?_ (fun q hq => by cases hq; exact hba) hW' fun W' hb sp hsp => ?_
    · cases hq
      have key : ∀ (vs : List Int) (i : Nat), (∀ k, k < vs.length → W.cell? (a.add (i + k)) = some (.int .i64 (vs.getD k 0))) → cellsFrom W.heap a i (vs.map i64V) := by
        intro vs
        induction vs with
        | nil => intro _ _; trivial
        | cons v vs ih =>
          intro i hv
          refine ⟨hv 0 (by simp), ih (i + 1) fun k hk => ?_⟩
          have := hv (k + 1) (by simpa using hk)
          rw [show i + 1 + k = i + (k + 1) by omega, this]
          simp
      refine key (zs.take len) 0 fun k hk => ?_
      rw [Nat.zero_add]
      have hk' : k < len := by simp at hk; omega
      rw [hcell k (by omega)]
      simp [List.getD_eq_getElem?_getD, hk']
    · have hs := sized_slice hsz (j := 2) (t := 22) (e := 3) rfl rfl Tryz.underlying22
      rw [bytesE] at hs
      have hr := reachBytes_lt
      simp only [lits, List.length_map, List.length_take, List.length_drop] at hs ⊢
      omega
    · have hz' : zs.length = (if sp a.block then cap else len) := by
        by_cases c : cap = 0
        · have : len = 0 := by omega
          rw [hz, c, this]
          split <;> rfl
        · have : sp a.block = true := hsp (.cell a.block a.off) (MemPlace.mem_row.2 ⟨0, by omega, by simp⟩)
          rw [this, hz]
          rfl
      exact ⟨_, shut_ints 0 Tryz.underlying22 Tryz.underlying3 cellsE (Nat.zero_le _) hl hm hz' (fun i hi => by rw [hb.cell (by rw [block_add]; exact hba)]; exact hcell i hi) hwz⟩

/-- A world for the witness: the settled one, the two tables (blocks 0 and 1) holding what the row lists. -/
def flat : DataW Unit → List Value
  | .agg l => l.filterMap fun | .lit (.int k n) => some (.int k n) | _ => none
  | _ => []
def flat2 : DataW Unit → List Value
  | .agg l => l.flatMap flat
  | _ => []
def put0 : Obj → Obj
  | .cells _ t frozen => .cells (flat Rows.laid_unicode_utf8_first).toArray t frozen
  | o => o
def put1 : Obj → Obj
  | .cells _ t frozen => .cells (flat2 Rows.laid_unicode_utf8_acceptRanges).toArray t frozen
  | o => o
noncomputable def laidWorld (os : Os) : World :=
  { World.holding Tryz.prog os ⟨#[], #[], []⟩ with heap := ((World.holding Tryz.prog os ⟨#[], #[], []⟩).heap.modify 0 put0).modify 1 put1 }
theorem laid_met (os : Os) : laidMet Tryz.prog Rows.walCutsRow.laid ((laidWorld os).forCall (fun _ _ => 0) ⟨#[], #[.int .i64 0, .int .i64 0, .slice none 0 0], []⟩).memory :=
  laidMet_of_run' 8 (by kernel_rfl) (by kernel_rfl)
theorem reads (os : Os) {H : Type} (enc : TypeId × Value → H) : ∃ places, DataW.whole enc Tryz.prog ((laidWorld os).forCall (fun _ _ => 0) ⟨#[], #[.int .i64 0, .int .i64 0, .slice none 0 0], []⟩).memory Tryz.f3.params.toList Rows.walCutsSpec.vars false #[Value.int .i64 0, .int .i64 0, .slice none 0 0].toList 8 = some ([.lit (.int .i64 0), .lit (.int .i64 0), .nil], [], places) :=
  ⟨[], by kernel_rfl⟩

set_option maxRecDepth 100000 in
/-- The row's first form, lifted. -/
theorem lifted (os : Os) (started : os.Started) (H : Type) (enc : TypeId × Value → H) (F : Stop.Interp) :
    ReturnsInHanded {} Tryz.checked os 3 .any ((OpenSpec.ofChange Rows.walCutsSpec).preRow enc Tryz.prog Tryz.f3 Rows.walCutsRow.domain false Rows.walCutsRow.laid) (((OpenSpec.ofChange Rows.walCutsSpec).at F).post enc Tryz.prog Tryz.f3 false true false false) := by
  obtain ⟨places, hx⟩ := reads os enc
  refine returnsInHanded_of_row (C := Tryz.checked) (s := OpenSpec.ofChange Rows.walCutsSpec) own started (by kernel_rfl) Tryz.func3
    (witness_row_at (enc := enc) (C := Tryz.checked) false (laidWorld os) #[.int .i64 0, .int .i64 0, .slice none 0 0] rfl (by kernel_rfl) (by kernel_rfl) (by kernel_rfl)
      (OpenSpec.preRow_of_cond 8 hx (by kernel_rfl) (fun k hk => by cases hk) (by kernel_rfl) (laid_met os))) ?_
  intro W base args ds gs before hval hW _ _ hsz _ _ _
  exact contract H enc W base args ds gs before hval hW hsz

/-- THE ROW: the statement WalCutsSaid. -/
theorem said : Rows.WalCutsSaid :=
  OpenClaim.holds_of_cond 3 Tryz.f3 rfl rfl rfl rfl rfl rfl rfl ⟨rfl, rfl, rfl, rfl, rfl⟩ rfl rfl rfl rfl rfl (by kernel_rfl) Tryz.func3 (by kernel_rfl)
    (of_decide_eq_true (by kernel_rfl)) (by unfold Func.isWrapper; first | (rw [if_pos (by decide +kernel)]; kernel_rfl) | (rw [if_neg (by decide +kernel)]; exact ⟨rfl, rfl⟩))
    (fun os started H enc _ F => by rw [OpenClaim.pre_eq_preRow]; exact lifted os started H enc F)

/-- No parameter wants a stand-in; the program's own looks are off. -/
theorem plain (f : FuncId) (fn : Func) (hf : Tryz.pinned.checked.prog.funcNamed "barograph/barographlaw05.WalCuts" = some f) (hfn : Tryz.pinned.checked.prog.funcs[f]? = some fn) :
    true = Tryz.pinned.checked.prog.looks [] ∧ ∀ (j : Nat) t, fn.params[j]? = some t → Tryz.pinned.checked.prog.wantsStandIn t = false := by
  obtain rfl : f = 3 := Option.some.inj ((show Tryz.prog.funcNamed "barograph/barographlaw05.WalCuts" = some 3 by kernel_rfl).symm.trans hf) |>.symm
  obtain rfl : fn = Tryz.f3 := (Option.some.inj (Tryz.func3.symm.trans hfn)).symm
  refine ⟨by kernel_rfl, fun j t ht => ?_⟩
  rw [Tryz.params3] at ht
  have h3 : Tryz.prog.wantsStandIn 3 = false := by kernel_rfl
  have h22 : Tryz.prog.wantsStandIn 22 = false := by kernel_rfl
  have hm := Array.mem_of_getElem? ht
  simp only [List.mem_toArray, List.mem_cons, List.mem_nil_iff, or_false] at hm
  rcases hm with rfl | rfl | rfl
  · exact h3
  · exact h3
  · exact h22

/-- THE CARD: the statement WalCutsCardSaid. -/
theorem card : Rows.WalCutsCardSaid :=
  Claim7.holds_tied_plain_at .later [] _ _ _ _ said (fun _ h => by cases h) (by kernel_rfl) (fun _ h => by cases h) walCuts_row_tie rfl ⟨rfl, rfl⟩ (by kernel_rfl) rfl plain (by kernel_rfl)

end Go.Proofs.YtgdmjdacmebfjaaGreatDoor.walCuts
