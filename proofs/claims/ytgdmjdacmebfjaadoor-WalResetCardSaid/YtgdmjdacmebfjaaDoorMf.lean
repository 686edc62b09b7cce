/-
  The law is proved, over every input: the row's statement and the card's. No conditions of the text's own.
-/
import Derived.Test.YtgdmjdacmebfjaaDoorMe
import Derived.Below
import Derived.ChangeSlices
import Derived.SizedLaws
import Derived.Test.YtgdmjdacmebfjaaDoorCards
import Derived.Test.YtgdmjdacmebfjaaDoorTie
import Derived.WalkKit
import Derived.ProofKit
import Derived.OpenShut
import Derived.Deep.DeepHandedRow
import Derived.Lib.LaidTab
namespace Go.Proofs.YtgdmjdacmebfjaaDoor.D
open Go

theorem frame_y : (getFrame ((frameOf (.mk #[121])).extract 0 (frameOf (.mk #[121])).size)) = (1, .mk #[121], 8, 0) := by kernel_rfl
theorem size_y : (frameOf (.mk #[121])).size = 8 := by kernel_rfl
theorem size_x : (frameOf (.mk #[120])).size = 8 := by kernel_rfl
def fileAB : ByteArray := frameOf (.mk #[97]) ++ frameOf (.mk #[98])
def fileABC : ByteArray := fileAB ++ frameOf (.mk #[99])
theorem size_a : (frameOf (.mk #[97])).size = 8 ∧ (frameOf (.mk #[98])).size = 8 ∧ (frameOf (.mk #[99])).size = 8 := ⟨by kernel_rfl, by kernel_rfl, by kernel_rfl⟩
theorem cut_ab : fileABC.extract 0 16 = fileAB := by kernel_rfl
theorem parsed_ab : parsed 1 fileAB = ⟨1, [0, 8], 16, false⟩ := by kernel_rfl
theorem get_b : getFrame (fileAB.extract 8 fileAB.size) = (1, .mk #[98], 8, 0) := by kernel_rfl
theorem num_1 : numberN (nameB 1) = 1 := by kernel_rfl
theorem sort_1 : sortK [(nameB 1).data.toList] = [nameB 1] := by
  unfold sortK
  rw [List.mergeSort_singleton]
  rfl

/-! ### Names -/
theorem dig (d : Nat) (h : d < 10) : (UInt8.ofNat (48 + d)).toNat = 48 + d ∧ UInt8.ofNat (48 + d) ∈ signsB.data.toList := by
  have : ∀ d : Fin 10, (UInt8.ofNat (48 + d.val)).toNat = 48 + d.val ∧ UInt8.ofNat (48 + d.val) ∈ signsB.data.toList := by decide
  exact this ⟨d, h⟩
theorem numF_dec : ∀ (k n acc : Nat), numF (dec k n) acc = acc * 10 ^ k + n % 10 ^ k
  | 0, n, acc => by simp [dec, numF, Nat.mod_one]
  | k + 1, n, acc => by
    obtain ⟨h1, _⟩ := dig (n / 10 ^ k % 10) (Nat.mod_lt _ (by decide))
    have hm : n / 10 ^ k % 10 < 10 := Nat.mod_lt _ (by decide)
    simp only [dec, numF]
    rw [h1, if_neg (by omega), numF_dec k n, Nat.mod_pow_succ, Nat.pow_succ, Nat.add_sub_cancel_left, Nat.add_mul, Nat.mul_comm 10 acc, Nat.mul_assoc acc 10, Nat.mul_comm 10 (10 ^ k), Nat.mul_comm (10 ^ k) (n / 10 ^ k % 10)]
    omega
theorem name_size (n : Nat) : (nameB n).size = 9 := by
  rw [size_len]
  show (nameL n).length = 9
  simp [nameL, dec_len]
theorem number_name {n : Nat} (h : n < 100000000) : numberN (nameB n) = n := by
  unfold numberN
  rw [if_pos ⟨name_size n, rfl⟩]
  show numF (dec 8 n) 0 = n
  rw [numF_dec]
  have : n % 10 ^ 8 = n := Nat.mod_eq_of_lt (by simpa using h)
  rw [this]; simp
theorem name_inj {n m : Nat} (hn : n < 100000000) (hm : m < 100000000) (h : nameB n = nameB m) : n = m := by
  rw [← number_name hn, ← number_name hm, h]
theorem dec_signs : ∀ (k n : Nat), ∀ x ∈ dec k n, x ∈ signsB.data.toList
  | 0, _, x, h => by cases h
  | k + 1, n, x, h => by
    rcases List.mem_cons.1 h with h | h
    · rw [h]; exact (dig _ (Nat.mod_lt _ (by decide))).2
    · exact dec_signs k n x h
theorem right_name (n : Nat) : rightP (nameB n) := by
  refine ⟨by rw [name_size]; decide, by rw [name_size]; decide, fun x hx => ?_⟩
  have hx : x ∈ nameL n := hx
  rcases List.mem_cons.1 hx with h | h
  · rw [h]; decide
  · exact dec_signs 8 n x h

/-! ### A disk that lives -/
def Live (D : DS) : Prop := D.dead = false ∧ D.fuse = -1
theorem live_write {D : DS} (h : Live D) : D.write = (true, D) := by
  obtain ⟨h1, h2⟩ := h
  unfold DS.write
  rw [if_neg (by rw [h2]; decide), if_neg (by rw [h1]; decide)]
  cases D
  simp only [] at h2
  subst h2
  rfl
theorem look_none {k : ByteArray} : ∀ {l : FL}, k ∉ l.map (·.1) → lookL k l = none
  | [], _ => rfl
  | p :: l, h => by
    simp only [List.map_cons, List.mem_cons, not_or] at h
    unfold lookL
    rw [if_neg h.1]
    exact look_none h.2
theorem put_new {k : ByteArray} {b : Nat} : ∀ {l : FL}, k ∉ l.map (·.1) → putL k b l = l ++ [(k, b)]
  | [], _ => rfl
  | p :: l, h => by
    simp only [List.map_cons, List.mem_cons, not_or] at h
    unfold putL
    rw [if_neg h.1, put_new h.2]
    rfl
theorem used_le {B : Nat} : ∀ {l : FL} {fs : Nat → ByteArray × Nat}, (∀ x, (fs x).1.size ≤ B) → (l.map fun p => (fs p.2).1.size).sum ≤ l.length * B
  | [], _, _ => by simp
  | p :: l, fs, h => by
    have := used_le (l := l) h
    simp only [List.map_cons, List.sum_cons, List.length_cons]
    have hp := h p.2
    rw [Nat.add_mul]
    omega

/-! ### Records are written -/
/-- What stands behind i Appends, whatever they said. -/
structure W (i : Nat) (L : LS) (D : DS) : Prop where
  live : Live D
  room : D.room = 1048576
  names : D.now.map (·.1) = L.segs.map fun b => nameB (L.sg b).first
  nodup : (L.segs.map fun b => (L.sg b).first).Nodup
  last : L.last ≤ i
  segs : L.segs.length ≤ i
  chg : D.chg.length ≤ i
  seg : ∀ b, b ∈ L.segs → (L.sg b).first ≤ L.last ∧ (L.sg b).places.length ≤ i ∧ (L.sg b).size ≤ 8 * i
  hand : ∀ b, L.hand = some b → b ∈ L.segs ∧ (L.sg b).places ≠ []
  fs : ∀ x, (D.fs x).1.size ≤ 8 * i
theorem W.ok {i : Nat} {L : LS} {D : DS} (H : W i L D) (hi : i ≤ 1000) : L.Ok ∧ D.Ok := by
  have hl := congrArg List.length H.names
  rw [List.length_map, List.length_map] at hl
  have h1 := H.last
  have h2 := H.segs
  have h3 := H.chg
  refine ⟨⟨by omega, by omega, H.hand, fun b hb => ?_⟩, ⟨by omega, by rw [H.room]; decide, ?_⟩⟩
  · obtain ⟨q1, q2, q3⟩ := H.seg b hb
    exact ⟨⟨by omega, by omega⟩, by omega, by omega⟩
  · have := used_le (l := D.now) H.fs
    unfold DS.used
    have h5 : D.now.length * (8 * i) ≤ 1000 * (8 * 1000) := Nat.mul_le_mul (by omega) (by omega)
    omega
theorem W.same {i : Nat} {L : LS} {D : DS} (H : W i L D) : W (i + 1) L D :=
  ⟨H.live, H.room, H.names, H.nodup, by have := H.last; omega, by have := H.segs; omega, by have := H.chg; omega, fun b hb => by
    obtain ⟨q1, q2, q3⟩ := H.seg b hb
    exact ⟨q1, by omega, by omega⟩, H.hand, fun x => by have := H.fs x; omega⟩
theorem W.app {i b fb : Nat} {L : LS} {D : DS} {s : ByteArray} (H : W i L D) (hi : i ≤ 1000) (hs : (frameOf s).size = 8) (hb : b ∉ L.segs) : W (i + 1) (L.app s b) (D.put (nameB L.cur.first) (frameOf s) fb) := by
  have hlw := live_write H.live
  have hL := H.last
  unfold LS.app
  cases hr : L.reuse with
  | some c =>
    have hc : c ∈ L.segs := by
      unfold LS.reuse at hr
      cases hh : L.hand with
      | none => rw [hh] at hr; cases hr
      | some b' =>
        rw [hh] at hr
        simp only [] at hr
        split at hr
        · cases hr; exact (H.hand _ hh).1
        · cases hr
    have hcur : L.cur = L.sg c := by unfold LS.cur; rw [hr]
    rw [hcur]
    have hin : nameB (L.sg c).first ∈ D.now.map (·.1) := by rw [H.names]; exact List.mem_map.2 ⟨c, hc, rfl⟩
    obtain ⟨f, hf⟩ := mem_look hin
    unfold DS.put
    rw [hf, hlw]
    simp only []
    have fir : ∀ y, (sgSet L.sg c ((L.sg c).more (frameOf s).size) y).first = (L.sg y).first := fun y => by
      by_cases hy : y = c
      · rw [hy, sgSet_same]; rfl
      · rw [sgSet_ne _ _ hy]
    refine ⟨H.live, H.room, ?_, ?_, by show L.last + 1 ≤ _; omega, by have := H.segs; show L.segs.length ≤ _; omega, by have := H.chg; show D.chg.length ≤ _; omega, fun y hy => ?_, fun y hy => ?_, fun x => ?_⟩
    · show D.now.map (·.1) = L.segs.map fun y => nameB (sgSet L.sg c _ y).first
      rw [H.names]
      exact List.map_congr_left fun y _ => by rw [fir]
    · show (L.segs.map fun y => (sgSet L.sg c _ y).first).Nodup
      rw [List.map_congr_left (g := fun b => (L.sg b).first) fun y _ => fir y]
      exact H.nodup
    · show (sgSet L.sg c _ y).first ≤ L.last + 1 ∧ (sgSet L.sg c _ y).places.length ≤ i + 1 ∧ (sgSet L.sg c _ y).size ≤ 8 * (i + 1)
      rw [fir]
      obtain ⟨q1, q2, q3⟩ := H.seg y hy
      by_cases hyc : y = c
      · rw [hyc, sgSet_same]
        rw [hyc] at q1 q2 q3
        show _ ∧ ((L.sg c).places ++ [_]).length ≤ _ ∧ (L.sg c).size + _ ≤ _
        rw [List.length_append, hs]
        simp only [List.length_singleton]
        exact ⟨by omega, by omega, by omega⟩
      · rw [sgSet_ne _ _ hyc]
        exact ⟨by omega, by omega, by omega⟩
    · have hy : some c = some y := hy
      cases hy
      refine ⟨hc, ?_⟩
      show (sgSet L.sg c _ c).places ≠ []
      rw [sgSet_same]
      show (L.sg c).places ++ [_] ≠ []
      simp
    · show ((fsSet D.fs f ((D.fs f).1 ++ frameOf s, (D.fs f).2)) x).1.size ≤ _
      unfold fsSet
      by_cases hx : x = f
      · rw [if_pos hx]
        show ((D.fs f).1 ++ frameOf s).size ≤ _
        rw [ByteArray.size_append, hs]
        have := H.fs f; omega
      · rw [if_neg hx]
        have := H.fs x; omega
  | none =>
    have hcur : L.cur = ⟨L.last + 1, [], 0, false⟩ := by unfold LS.cur; rw [hr]
    rw [hcur]
    simp only []
    have hnin : nameB (L.last + 1) ∉ D.now.map (·.1) := by
      rw [H.names]
      intro hm
      obtain ⟨c, hc, he⟩ := List.mem_map.1 hm
      obtain ⟨q1, _⟩ := H.seg c hc
      have := name_inj (by omega) (by omega) he
      omega
    unfold DS.put
    rw [look_none hnin, hlw]
    simp only []
    have sgb : ∀ y, y ≠ b → ((L.begin_ b).wrote b (frameOf s).size).sg y = L.sg y := fun y hy => by
      show sgSet (sgSet L.sg b _) b _ y = _
      rw [sgSet_ne _ _ hy, sgSet_ne _ _ hy]
    have sgb' : ((L.begin_ b).wrote b (frameOf s).size).sg b = ⟨L.last + 1, [0], 8, true⟩ := by
      show sgSet (sgSet L.sg b _) b ((sgSet L.sg b ⟨L.last + 1, [], 0, false⟩ b).more (frameOf s).size) b = _
      rw [sgSet_same, sgSet_same, Seg.more, hs]; rfl
    have nb : ∀ y, y ∈ L.segs → y ≠ b := fun y hy e => hb (e ▸ hy)
    refine ⟨H.live, H.room, ?_, ?_, by show L.last + 1 ≤ _; omega, by have := H.segs; show (L.segs ++ [b]).length ≤ _; rw [List.length_append]; simp only [List.length_singleton]; omega, by have := H.chg; show (D.chg ++ [_]).length ≤ _; rw [List.length_append]; simp only [List.length_singleton]; omega, fun y hy => ?_, fun y hy => ?_, fun x => ?_⟩
    · show (putL _ fb D.now).map (·.1) = (L.segs ++ [b]).map _
      rw [put_new hnin, List.map_append, List.map_append, H.names]
      congr 1
      · exact List.map_congr_left fun y hy => by
          show nameB (L.sg y).first = nameB (((L.begin_ b).wrote b (frameOf s).size).sg y).first
          rw [sgb y (nb y hy)]
      · show [nameB (L.last + 1)] = [nameB (((L.begin_ b).wrote b (frameOf s).size).sg b).first]
        rw [sgb']
    · show ((L.segs ++ [b]).map fun y => (((L.begin_ b).wrote b (frameOf s).size).sg y).first).Nodup
      rw [List.map_append, List.map_congr_left (g := fun b => (L.sg b).first) fun y hy => by rw [sgb y (nb y hy)]]
      rw [List.nodup_append]
      refine ⟨H.nodup, by simp, fun x hx y hy => ?_⟩
      obtain ⟨c, hc, rfl⟩ := List.mem_map.1 hx
      rw [List.map_cons, List.map_nil, List.mem_singleton] at hy
      rw [hy, sgb']
      obtain ⟨q1, _⟩ := H.seg c hc
      simp only []
      omega
    · show (((L.begin_ b).wrote b (frameOf s).size).sg y).first ≤ L.last + 1 ∧ (((L.begin_ b).wrote b (frameOf s).size).sg y).places.length ≤ i + 1 ∧ (((L.begin_ b).wrote b (frameOf s).size).sg y).size ≤ 8 * (i + 1)
      by_cases hyb : y = b
      · rw [hyb, sgb']
        simp only [List.length_singleton]
        exact ⟨by omega, by omega, by omega⟩
      · rw [sgb y hyb]
        have hyl : y ∈ L.segs := (List.mem_append.1 hy).elim id (fun h => absurd (List.mem_singleton.1 h) hyb)
        obtain ⟨q1, q2, q3⟩ := H.seg y hyl
        exact ⟨by omega, by omega, by omega⟩
    · have hy : some b = some y := hy
      cases hy
      refine ⟨List.mem_append_right _ (List.mem_singleton.2 rfl), ?_⟩
      show (((L.begin_ b).wrote b (frameOf s).size).sg b).places ≠ []
      rw [sgb']
      simp
    · show ((fsSet D.fs fb (frameOf s, 0)) x).1.size ≤ _
      unfold fsSet
      by_cases hx : x = fb
      · rw [if_pos hx]; show (frameOf s).size ≤ _; omega
      · rw [if_neg hx]
        have := H.fs x; omega
end Go.Proofs.YtgdmjdacmebfjaaDoor.D

namespace Go.Proofs.YtgdmjdacmebfjaaDoor.D
open Go

theorem reset_live {sg : Nat → Seg} : ∀ (r : List Nat) (D : DS), Live D → D.now.map (·.1) = r.map (fun b => nameB (sg b).first) → (r.map fun b => (sg b).first).Nodup → (∀ b, b ∈ r → (sg b).first < 100000000) →
    ∃ D', resetL sg r D = (0, [], D') ∧ D'.now = [] ∧ Live D' ∧ D'.room = D.room ∧ D'.chg.length = D.chg.length + r.length
  | [], D, hl, hn, _, _ => ⟨D, rfl, List.map_eq_nil_iff.1 hn, hl, rfl, rfl⟩
  | b :: r, D, hl, hn, hd, hf => by
    cases hnow : D.now with
    | nil => rw [hnow] at hn; cases hn
    | cons p l =>
      rw [hnow] at hn
      simp only [List.map_cons, List.cons.injEq] at hn
      simp only [List.map_cons, List.nodup_cons] at hd
      have hlook : lookL (nameB (sg b).first) D.now = some p.2 := by
        rw [hnow]; unfold lookL; rw [if_pos hn.1.symm]
      have hrem : D.remove (nameB (sg b).first) = (0, D.change (.del (nameB (sg b).first))) := by
        unfold DS.remove
        rw [live_write hl, if_pos rfl, hlook]
      have hdel : delL (nameB (sg b).first) D.now = l := by
        rw [hnow]
        unfold delL
        rw [List.filter_cons, if_neg (by simp [hn.1])]
        rw [List.filter_eq_self]
        intro q hq
        have hqm : q.1 ∈ l.map (·.1) := List.mem_map.2 ⟨q, hq, rfl⟩
        rw [hn.2] at hqm
        obtain ⟨c, hc, he⟩ := List.mem_map.1 hqm
        have : q.1 ≠ nameB (sg b).first := fun e => by
          have := name_inj (hf c (List.mem_cons_of_mem _ hc)) (hf b (List.mem_cons_self ..)) (he.trans e)
          exact hd.1 (List.mem_map.2 ⟨c, hc, this⟩)
        simpa using this
      obtain ⟨D', d1, d2, d3, d4, d5⟩ := reset_live r (D.change (.del (nameB (sg b).first))) hl (by show (delL _ D.now).map _ = _; rw [hdel]; exact hn.2) hd.2 (fun c hc => hf c (List.mem_cons_of_mem _ hc))
      refine ⟨D', ?_, d2, d3, d4, ?_⟩
      · rw [resetL, hrem, if_pos rfl]; exact d1
      · rw [d5]
        have : (D.change (.del (nameB (sg b).first))).chg.length = D.chg.length + 1 := by
          show (D.chg ++ [Chg.del (nameB (sg b).first)]).length = _
          rw [List.length_append]; rfl
        rw [this]
        simp only [List.length_cons]
        omega
theorem W.reset {i n : Nat} {L : LS} {D : DS} (H : W i L D) (hi : i ≤ 1000) : ∃ D', resetS L D n = (0, { L with segs := [], hand := none, last := n, durable := n, begun := false }, D') ∧ D'.now = [] ∧ D'.lasting = [] ∧ D'.chg = [] ∧ Live D' ∧ D'.room = 1048576 := by
  obtain ⟨D1, d1, d2, d3, d4, _⟩ := reset_live (sg := L.sg) L.segs D H.live H.names H.nodup (fun b hb => by have := (H.seg b hb).1; have := H.last; omega)
  refine ⟨D1.syncNames.2, ?_, ?_⟩
  · unfold resetS
    rw [d1, if_pos rfl]
    unfold standsS
    rw [live_write d3, if_pos rfl]
  · unfold DS.syncNames
    rw [live_write d3, if_pos rfl]
    exact ⟨d2, d2, rfl, d3, by rw [← H.room, ← d4]⟩
theorem sortK_nil : sortK [] = [] := by unfold sortK; rw [List.mergeSort_nil]; rfl
theorem crash_empty {D : DS} {ks : List Int} (h1 : D.lasting = []) (h2 : D.chg = []) : D.crash ks = ⟨D.room, [], [], [], false, -1, D.fs⟩ ∧ crashL D ks = [] := by
  have h : crashL D ks = [] := by unfold crashL; rw [h1, h2, List.take_nil]; rfl
  refine ⟨?_, h⟩
  unfold DS.crash
  rw [h, List.map_nil, sortK_nil]
  rfl
theorem open_empty {D : DS} {base : Nat} (h1 : D.now = []) (h2 : D.dead = false) : openK D base = [] ∧ openR D base = (0, D) := by
  have hf : D.files = [] := by
    unfold DS.files DS.names
    rw [h2, if_neg (by decide), h1, List.map_nil, sortK_nil]
    rfl
  have hk : openK D base = [] := by
    unfold openK
    rw [hf]
    split <;> rfl
  refine ⟨hk, ?_⟩
  unfold openR
  rw [hf, List.drop_nil]
  rfl
theorem maxI_end {base : Nat} : maxI (base : Int) (endA []) = (base : Int) := by
  unfold maxI endA
  rw [if_neg (by simp)]

/-! ### One segment -/
structure S1 (L : LS) (D : DS) (b fb : Nat) (pl : List Nat) (c : ByteArray) (la : Nat) : Prop where
  segs : L.segs = [b]
  first : (L.sg b).first = 1
  places : (L.sg b).places = pl
  size : (L.sg b).size = c.size
  hand : L.hand = some b
  last : L.last = pl.length
  now : D.now = [(nameB 1, fb)]
  fs : D.fs fb = (c, la)
  live : Live D
  room : D.room = 1000
  has : ∀ x, D.has x → x = fb
  chg : D.chg.length ≤ 2
theorem S1.ok {L : LS} {D : DS} {b fb la : Nat} {pl : List Nat} {c : ByteArray} (H : S1 L D b fb pl c la) (hp : pl ≠ [] ∧ pl.length < 16) (hc : c.size < 500) : L.Ok ∧ D.Ok ∧ L.reuse = some b ∧ L.cur.first = 1 ∧ ∀ s, (frameOf s).size = 8 → ¬ D.full (nameB 1) (frameOf s) := by
  have hu : D.used = c.size := by
    unfold DS.used
    rw [H.now]
    simp [H.fs]
  have hr : L.reuse = some b := by
    unfold LS.reuse
    rw [H.hand]
    simp only []
    rw [H.places, if_pos hp.2]
  refine ⟨⟨by rw [H.last]; omega, by rw [H.segs]; show 1 < _; decide, fun x hx => ?_, fun x hx => ?_⟩, ⟨by have := H.chg; omega, by rw [H.room]; decide, by rw [hu]; omega⟩, hr, by unfold LS.cur; rw [hr]; exact H.first, fun s hs hf => ?_⟩
  · rw [H.hand] at hx
    cases hx
    exact ⟨by rw [H.segs]; exact List.mem_singleton.2 rfl, by rw [H.places]; exact hp.1⟩
  · rw [H.segs] at hx
    rw [List.mem_singleton.1 hx]
    exact ⟨⟨by rw [H.first]; decide, by rw [H.places]; omega⟩, by rw [H.places]; omega, by rw [H.size]; omega⟩
  · rcases hf with hf | ⟨hf, _⟩
    · rw [H.room, hu, hs] at hf; omega
    · rw [H.now] at hf
      unfold lookL at hf
      rw [if_pos rfl] at hf
      cases hf
theorem S1.app {L : LS} {D : DS} {b fb la b' fb' : Nat} {pl : List Nat} {c s : ByteArray} (H : S1 L D b fb pl c la) (hp : pl ≠ [] ∧ pl.length < 16) (hc : c.size < 500) : S1 (L.app s b') (D.put (nameB 1) (frameOf s) fb') b fb (pl ++ [c.size]) (c ++ frameOf s) la := by
  obtain ⟨_, _, hr, _, _⟩ := H.ok hp hc
  have hlook : lookL (nameB 1) D.now = some fb := by rw [H.now]; unfold lookL; rw [if_pos rfl]
  unfold LS.app DS.put
  rw [hr, hlook, live_write H.live]
  simp only []
  have hsg : (L.wrote b (frameOf s).size).sg b = (L.sg b).more (frameOf s).size := sgSet_same ..
  refine ⟨H.segs, by rw [hsg]; exact H.first, ?_, ?_, rfl, ?_, H.now, ?_, H.live, H.room, H.has, H.chg⟩
  · rw [hsg]; show (L.sg b).places ++ [(L.sg b).size] = _; rw [H.places, H.size]
  · rw [hsg]; show (L.sg b).size + _ = _; rw [H.size, ByteArray.size_append]
  · show L.last + 1 = _; rw [H.last, List.length_append]; rfl
  · show fsSet D.fs fb _ fb = _
    rw [fsSet_same, H.fs]
theorem S1.sync {L : LS} {D : DS} {b fb la : Nat} {pl : List Nat} {c : ByteArray} (H : S1 L D b fb pl c la) (hd : (L.sg b).dirty = true) (hb : L.begun = true) : ∃ L' D', syncS L D = (0, L', D') ∧ S1 L' D' b fb pl c c.size ∧ D'.lasting = [(nameB 1, fb)] ∧ D'.chg = [] := by
  have hlook : lookL (nameB 1) D.now = some fb := by rw [H.now]; unfold lookL; rw [if_pos rfl]
  have hs : D.sync (nameB 1) = (0, { D with fs := fsSet D.fs fb (c, c.size) }) := by
    unfold DS.sync
    rw [live_write H.live, if_pos rfl, hlook]
    simp only [H.fs]
  have hl : Live { D with fs := fsSet D.fs fb (c, c.size) } := H.live
  have hsl : syncL L.segs L.sg D = (0, sgSet L.sg b (L.sg b).clean, { D with fs := fsSet D.fs fb (c, c.size) }) := by
    rw [H.segs, syncL, if_pos hd, H.first, hs, if_pos rfl]
    rfl
  refine ⟨{ L with sg := sgSet L.sg b (L.sg b).clean, begun := false, durable := L.last }, ({ D with fs := fsSet D.fs fb (c, c.size) } : DS).syncNames.2, ?_, ?_, ?_, ?_⟩
  · unfold syncS
    rw [hsl, if_pos rfl]
    unfold syncS2
    rw [if_pos hb, live_write hl, if_pos rfl]
  · unfold DS.syncNames
    rw [live_write hl, if_pos rfl]
    refine ⟨H.segs, by show (sgSet L.sg b _ b).first = 1; rw [sgSet_same]; exact H.first, by show (sgSet L.sg b _ b).places = pl; rw [sgSet_same]; exact H.places, by show (sgSet L.sg b _ b).size = _; rw [sgSet_same]; exact H.size, H.hand, H.last, H.now, fsSet_same .., H.live, H.room, fun x hx => ?_, by show 0 ≤ 2; decide⟩
    rcases hx with ⟨k, hx⟩ | ⟨k, hx⟩ | ⟨k, hx⟩
    · exact H.has x (.inl ⟨k, hx⟩)
    · exact H.has x (.inl ⟨k, hx⟩)
    · cases hx
  · unfold DS.syncNames
    rw [live_write hl, if_pos rfl]
    exact H.now
  · unfold DS.syncNames
    rw [live_write hl, if_pos rfl]
end Go.Proofs.YtgdmjdacmebfjaaDoor.D

namespace Go.Proofs.YtgdmjdacmebfjaaDoor.D
open Go

theorem Step.widen {h h' : Hp} {O O' P : Nat → Prop} (s : Step h O h' O') : Step h (Or2 O P) h' O' := ⟨⟨s.ext.size, fun b hb hn => s.ext.same b hb (fun ho => hn (.inl ho))⟩, fun b hb => (s.own b hb).imp .inl id⟩
abbrev Non : Nat → Prop := fun _ => False

theorem first_cur {L : LS} (h2 : L.hand = none) : L.reuse = none ∧ L.cur = ⟨L.last + 1, [], 0, false⟩ := by
  have : L.reuse = none := by unfold LS.reuse; rw [h2]
  exact ⟨this, by unfold LS.cur; rw [this]⟩
theorem first_log {L : LS} {s : ByteArray} {b : Nat} (h1 : L.segs = []) (h2 : L.hand = none) (hs : (frameOf s).size = 8) :
    (L.app s b).segs = [b] ∧ (L.app s b).sg b = ⟨L.last + 1, [0], 8, true⟩ ∧ (L.app s b).hand = some b ∧ (L.app s b).begun = true ∧ (L.app s b).last = L.last + 1 := by
  unfold LS.app
  rw [(first_cur h2).1]
  simp only []
  refine ⟨by show L.segs ++ [b] = _; rw [h1]; rfl, ?_, rfl, rfl, rfl⟩
  show sgSet (sgSet L.sg b _) b ((sgSet L.sg b ⟨L.last + 1, [], 0, false⟩ b).more (frameOf s).size) b = _
  rw [sgSet_same, sgSet_same, Seg.more, hs]; rfl
theorem first_disk {D : DS} {name f : ByteArray} {fb : Nat} (hl : Live D) (h3 : D.now = []) : D.put name f fb = { D.change (.put name fb) with fs := fsSet D.fs fb (f, 0) } ∧ (D.put name f fb).now = [(name, fb)] := by
  have : lookL name D.now = none := by rw [h3]; rfl
  have e : D.put name f fb = { D.change (.put name fb) with fs := fsSet D.fs fb (f, 0) } := by
    unfold DS.put
    rw [this, live_write hl]
  refine ⟨e, ?_⟩
  rw [e]
  show putL name fb D.now = _
  rw [h3]; rfl
theorem empty_ok {L : LS} {D : DS} (h1 : L.segs = []) (h2 : L.hand = none) (hl : L.last ≤ 100000000) (h3 : D.now = []) (h4 : D.chg.length ≤ 10) (hr : 100 ≤ D.room ∧ D.room < 4611686018427387904) :
    L.Ok ∧ D.Ok ∧ ∀ s, (frameOf s).size = 8 → ¬ D.full (nameB L.cur.first) (frameOf s) := by
  have hu : D.used = 0 := by unfold DS.used; rw [h3]; rfl
  refine ⟨⟨by omega, by rw [h1]; decide, (fun b hb => by rw [h2] at hb; cases hb), (fun b hb => by rw [h1] at hb; cases hb)⟩, ⟨by omega, ⟨by omega, hr.2⟩, by rw [hu]; decide⟩, fun s hs hf => ?_⟩
  rcases hf with hf | ⟨_, hf⟩
  · rw [hu, hs] at hf; omega
  · rw [h3] at hf; cases hf

section
variable {h h0 : Hp} {lb a : Nat} {L : LS} {D : DS} {Od Ol : Nat → Prop}
/-- An Append that goes. -/
theorem append_goes {s : ByteArray} {K : Int → Int → Hp → Prop} (H : LogAt h lb a L D Od Ol) (hL : L.Ok) (hD : D.Ok) (hl : Live D) (hs : s.size ≤ 65536) (hlast : L.last < 99999999) (hf : ¬ D.full (nameB L.cur.first) (frameOf s))
    (k0 : ∀ h' Od' Ol' b fb, b ∉ L.segs → ¬ D.has fb → LogAt h' lb a (L.app s b) (D.put (nameB L.cur.first) (frameOf s) fb) Od' Ol' → Step h (Or2 Od Ol) h' (Or2 Od' Ol') → K ((L.last + 1 : Nat) : Int) 0 h') : C_wal_Log_Append (some (blk lb)) s h K :=
  log_Append H hL hD (by omega) (fun hh => absurd hs (by omega)) (fun _ hh => absurd hlast (by omega))
    (fun e hh => by
      rcases hh with ⟨_, hh⟩ | ⟨_, hh⟩ | ⟨_, hh⟩
      · rw [live_write hl] at hh; cases hh
      · exact absurd (right_name _) hh
      · exact absurd hh hf)
    (fun _ _ _ _ _ => k0)

theorem S1.putL {b fb la fb' : Nat} {pl : List Nat} {c f : ByteArray} (H : S1 L D b fb pl c la) : (D.put (nameB 1) f fb').lasting = D.lasting ∧ (D.put (nameB 1) f fb').chg = D.chg := by
  have hlook : lookL (nameB 1) D.now = some fb := by rw [H.now]; unfold lookL; rw [if_pos rfl]
  unfold DS.put
  rw [hlook, live_write H.live]
  exact ⟨rfl, rfl⟩
theorem look_1 {fb : Nat} : lookL (nameB 1) [(nameB 1, fb)] = some fb := by unfold lookL; rw [if_pos rfl]
/-- The one file behind a crash. -/
theorem S1.crash {b fb : Nat} {pl : List Nat} (H : S1 L D b fb pl fileABC 16) (h1 : D.lasting = [(nameB 1, fb)]) (h2 : D.chg = []) :
    crashL D [] = [(nameB 1, fb)] ∧ (D.crash []).now = [(nameB 1, fb)] ∧ (D.crash []).dead = false ∧ (D.crash []).chg = [] ∧ (D.crash []).fs fb = (fileAB, 16) := by
  have hc : crashL D [] = [(nameB 1, fb)] := by unfold crashL; rw [h2, List.take_nil, h1]; rfl
  refine ⟨hc, hc, rfl, rfl, ?_⟩
  show crashF (crashL D []) (sortK ((crashL D []).map fun p => p.1.data.toList)) _ D.fs fb = _
  rw [hc]
  show crashF [(nameB 1, fb)] (sortK [(nameB 1).data.toList]) _ D.fs fb = _
  rw [sort_1, crashF, look_1]
  show fsSet D.fs fb ((D.fs fb).1.extract 0 ((D.fs fb).2 + 0), (D.fs fb).2 + 0) fb = _
  rw [fsSet_same, H.fs, Nat.add_zero, cut_ab]
theorem open_ab {fb : Nat} (h1 : D.now = [(nameB 1, fb)]) (h2 : D.dead = false) (h3 : D.fs fb = (fileAB, 16)) : openK D 0 = [⟨1, [0, 8], 16, false⟩] ∧ openR D 0 = (0, D) ∧ D.read (nameB 1) = (fileAB, 0) := by
  have hr : D.read (nameB 1) = (fileAB, 0) := by
    unfold DS.read
    rw [h2, if_neg (by decide), h1, look_1]
    simp only [h3]
  have hf : D.files = [nameB 1] := by
    unfold DS.files DS.names
    rw [h2, if_neg (by decide), h1]
    show (sortK [(nameB 1).data.toList]).filter _ = _
    rw [sort_1, List.filter_cons_of_pos (by rw [num_1]; rfl), List.filter_nil]
  have ho : openF D 0 D.files [] = [⟨1, [0, 8], 16, false⟩] := by
    rw [hf, openF, hr, num_1, parsed_ab, if_pos (by rfl), openF]
    rfl
  have hk : openK D 0 = [⟨1, [0, 8], 16, false⟩] := by
    unfold openK
    rw [ho, if_neg (by show ¬ (2 : Int) < 0; decide)]
  refine ⟨hk, ?_, hr⟩
  unfold openR
  rw [hk, hf]
  rfl
theorem works_true {K : Bool → Hp → Prop} (hk : ∀ h', Grow h h' → K true h') : C_barographlaw05_works h K := by
  refine S_barographlaw05_works (disk_New fun h1 a O1 d1 s1 => ?_)
  have he : ({ room := 1000, now := [], lasting := [], chg := [], dead := false, fuse := -1, fs := fun _ => (.mk #[], 0) } : DS).now = [] := rfl
  obtain ⟨o1, o2⟩ := open_empty (base := 0) he rfl
  refine wal_Open_ (base := 0) d1 (by decide) ⟨(fun p hp => by cases hp), by show 0 ≤ 1000; decide⟩ (fun k => by show (ByteArray.mk #[]).size < _; decide) (by show 0 < _; decide) (fun e => by cases e) (fun _ e => by rw [o2] at e; exact absurd rfl e) fun _ _ h2 lb L0 Od2 Ol2 H2 s2 q1 q2 q3 q4 q5 => ?_
  rw [o1] at q1 q4
  rw [o2] at H2
  have hsg : L0.segs = [] := List.map_eq_nil_iff.1 q1
  rw [maxI_end] at q4
  have hla : L0.last = 0 := by omega
  rw [if_neg (by decide)]
  have st2 : Step h Non h2 (Or2 Od2 Ol2) := s1.trans s2
  show D_barographlaw05_works_j3 K _ _ _ _
  unfold D_barographlaw05_works_j3
  rw [if_neg (by simp)]
  have live0 : Live ({ room := 1000, now := [], lasting := [], chg := [], dead := false, fuse := -1, fs := fun _ => (.mk #[], 0) } : DS) := ⟨rfl, rfl⟩
  obtain ⟨ok1, ok2, ok3⟩ := empty_ok (L := L0) (D := { room := 1000, now := [], lasting := [], chg := [], dead := false, fuse := -1, fs := fun _ => (.mk #[], 0) }) hsg q2 (by omega) rfl (by show 0 ≤ 10; decide) (by show (100 : Int) ≤ 1000 ∧ (1000 : Int) < _; decide)
  refine append_goes H2 ok1 ok2 live0 (by show 1 ≤ _; decide) (by omega) (ok3 _ size_a.1) fun h3 Od3 Ol3 b fb _ nh H3 s3 => ?_
  have hcur : L0.cur.first = 1 := by rw [(first_cur q2).2]; show L0.last + 1 = 1; omega
  obtain ⟨l1, l2, l3, l4, l5⟩ := first_log (s := .mk #[97]) (b := b) hsg q2 size_a.1
  obtain ⟨e1, e2⟩ := first_disk (name := nameB 1) (f := frameOf (.mk #[97])) (fb := fb) live0 rfl
  rw [hcur] at H3
  rw [hla] at l2 l5
  have S3 : S1 (L0.app (.mk #[97]) b) (DS.put { room := 1000, now := [], lasting := [], chg := [], dead := false, fuse := -1, fs := fun _ => (.mk #[], 0) } (nameB 1) (frameOf (.mk #[97])) fb) b fb [0] (frameOf (.mk #[97])) 0 := by
    refine ⟨l1, by rw [l2], by rw [l2], by rw [l2, size_a.1], l3, by rw [l5]; rfl, e2, ?_, ?_, ?_, fun x hx => ?_, ?_⟩
    · rw [e1]; exact fsSet_same ..
    · rw [e1]; exact ⟨rfl, rfl⟩
    · rw [e1]; rfl
    · rw [e1] at hx
      rcases hx with ⟨k, hx⟩ | ⟨k, hx⟩ | ⟨k, hx⟩
      · have hx : (k, x) ∈ [(nameB 1, fb)] := hx
        have := List.mem_singleton.1 hx
        exact congrArg Prod.snd this
      · cases hx
      · have hx : Chg.put k x ∈ [Chg.put (nameB 1) fb] := hx
        have := List.mem_singleton.1 hx
        injection this
    · rw [e1]; show 1 ≤ 2; decide
  have dirty3 : ((L0.app (.mk #[97]) b).sg b).dirty = true := by rw [l2]
  obtain ⟨k1, k2, kr, k3, k4⟩ := S3.ok ⟨by simp, by decide⟩ (by rw [size_a.1]; decide)
  refine append_goes H3 k1 k2 S3.live (by show 1 ≤ _; decide) (by rw [S3.last]; decide) (by rw [k3]; exact k4 _ size_a.2.1) fun h4 Od4 Ol4 b' fb' _ _ H4 s4 => ?_
  rw [k3] at H4
  have S4 := S3.app (s := .mk #[98]) (b' := b') (fb' := fb') ⟨by simp, by decide⟩ (by rw [size_a.1]; decide)
  have r13 : (((L0.app (.mk #[97]) b).last + 1 : Nat) : Int) = 2 := by rw [S3.last]; rfl
  rw [r13]
  have app4 : (L0.app (.mk #[97]) b).app (.mk #[98]) b' = (L0.app (.mk #[97]) b).wrote b (frameOf (.mk #[98])).size := by
    show (match (L0.app (.mk #[97]) b).reuse with | some b => _ | none => _) = _
    rw [kr]
  have dirty4 : (((L0.app (.mk #[97]) b).app (.mk #[98]) b').sg b).dirty = true := by
    rw [app4]
    show (sgSet _ b _ b).dirty = true
    rw [sgSet_same]; rfl
  have begun4 : ((L0.app (.mk #[97]) b).app (.mk #[98]) b').begun = true := by rw [app4]; exact l4
  obtain ⟨L5, D5, y1, S5, y2, y3⟩ := S4.sync dirty4 begun4
  refine log_Sync H4 (by rw [S4.segs]; show 1 < _; decide) (fun x hx => by rw [S4.segs] at hx; rw [List.mem_singleton.1 hx, S4.first]; decide) fun h5 Od5 H5 s5 => ?_
  rw [y1] at H5 ⊢
  have c5 : (frameOf (.mk #[97]) ++ frameOf (.mk #[98])).size = 16 := by rw [ByteArray.size_append, size_a.1, size_a.2.1]
  obtain ⟨m1, m2, mr, m3, m4⟩ := S5.ok ⟨by simp, by decide⟩ (by rw [c5]; decide)
  refine append_goes H5 m1 m2 S5.live (by show 1 ≤ _; decide) (by rw [S5.last]; decide) (by rw [m3]; exact m4 _ size_a.2.2) fun h6 Od6 Ol6 b6 fb6 _ _ H6 s6 => ?_
  rw [m3] at H6
  have S6 := S5.app (s := .mk #[99]) (b' := b6) (fb' := fb6) ⟨by simp, by decide⟩ (by rw [c5]; decide)
  have S6 : S1 (L5.app (.mk #[99]) b6) (D5.put (nameB 1) (frameOf (.mk #[99])) fb6) b fb ([0] ++ [(frameOf (.mk #[97])).size] ++ [(frameOf (.mk #[97]) ++ frameOf (.mk #[98])).size]) fileABC 16 := by
    have := S6
    rw [c5] at this ⊢
    exact this
  obtain ⟨t1, t2⟩ := S5.putL (f := frameOf (.mk #[99])) (fb' := fb6)
  rw [y2] at t1
  rw [y3] at t2
  obtain ⟨z1, z2, z3, z4, z5⟩ := S6.crash t1 t2
  refine disk_Crash (ks := []) H6.disk .nil (fun q hq => absurd hq (by simp [Sl.blk?])) (by rw [t2]; decide) (fun x hx => ?_) ?_ fun h7 Od7 d7 s7 => ?_
  · rw [S6.has x hx, S6.fs]
    show 16 ≤ fileABC.size ∧ fileABC.size < _
    have : fileABC.size = 24 := by kernel_rfl
    rw [this]; decide
  · rw [z1]
    refine ⟨fun p hp => ?_, by show 1 ≤ 1000; decide⟩
    rw [List.mem_singleton.1 hp]
    show (nameB 1).size ≤ _
    rw [name_size]; decide
  obtain ⟨v1, v2, v3⟩ := open_ab z2 z3 z5
  refine wal_Open_ (base := 0) d7 (by decide) ⟨fun p hp => ?_, ?_⟩ (fun k => ?_) (by rw [z4]; decide) (fun e => by rw [z3] at e; cases e) (fun _ e => by rw [v2] at e; exact absurd rfl e) fun _ _ h8 lb8 L8 Od8 Ol8 H8 s8 p1 p2 p3 p4 p5 => ?_
  · rw [z2] at hp
    rw [List.mem_singleton.1 hp]
    show (nameB 1).size ≤ _
    rw [name_size]; decide
  · rw [z2]; show 1 ≤ 1000; decide
  · unfold DS.read
    rw [z3, if_neg (by decide), z2]
    by_cases hkk : k = nameB 1
    · rw [hkk, look_1]
      show ((DS.crash _ []).fs fb).1.size < _
      rw [z5]
      show fileAB.size < _
      have : fileAB.size = 16 := by kernel_rfl
      rw [this]; decide
    · have : lookL k [(nameB 1, fb)] = none := by unfold lookL; rw [if_neg hkk]; rfl
      rw [this]
      show (0 : Nat) < _
      decide
  rw [v1] at p1 p4
  rw [v2] at H8
  obtain ⟨b8, hb8⟩ : ∃ b8, L8.segs = [b8] := by
    have := congrArg List.length p1
    rw [List.length_map] at this
    match hh : L8.segs, this with
    | [x], _ => exact ⟨x, rfl⟩
  rw [hb8] at p1
  have sg8 : L8.sg b8 = ⟨1, [0, 8], 16, false⟩ := by
    rw [List.map_cons, List.map_nil] at p1
    exact List.head_eq_of_cons_eq p1
  have la8 : L8.last = 2 := by
    have e : maxI ((0 : Nat) : Int) (endA [⟨1, [0, 8], 16, false⟩]) = 2 := by decide
    rw [e] at p4
    omega
  rw [if_neg (by decide)]
  unfold D_barographlaw05_works_j2
  rw [if_neg (by simp)]
  have hread : readL L8.sg ((D5.put (nameB 1) (frameOf (.mk #[99])) fb6).crash []) 2 L8.segs = (.mk #[98], 0) := by
    rw [hb8, readL, sg8, if_neg (by decide)]
    simp only []
    rw [v3, if_neg (by decide)]
    have e8 : (([0, 8] : List Nat).getD (2 - 1) 0) = 8 := rfl
    simp only [e8]
    rw [get_b]
  refine log_Read (n := 2) H8 (by rw [hb8]; show 1 < _; decide) (fun x hx => ?_) (fun x hx _ => ?_) (by decide) fun h9 H9 w9 => ?_
  · rw [hb8] at hx
    rw [List.mem_singleton.1 hx, sg8]
    exact ⟨by show 1 ≤ _; decide, by show 2 ≤ _; decide⟩
  · rw [hb8] at hx
    rw [List.mem_singleton.1 hx, sg8]
    simp only []
    rw [v3]
    have e16 : fileAB.size = 16 := by kernel_rfl
    show fileAB.size < _ ∧ ∀ (i q : Nat), [0, 8][i]? = some q → q ≤ fileAB.size
    rw [e16]
    refine ⟨by decide, fun i q hi => ?_⟩
    match i, hi with
    | 0, hi => cases hi; decide
    | 1, hi => cases hi; decide
  rw [hread]
  have hgrow : Grow h h9 := by
    have st : Step h Non h8 _ := ((((((st2.trans s3).trans s4).trans s5).trans s6).trans s7.widen).trans s8)
    exact Grow.trans ⟨st.ext.size, fun b hb hn => st.ext.same b hb hn⟩ w9
  rw [if_pos (by rfl), if_pos (by rfl)]
  refine log_Last H9 ?_
  rw [la8, if_pos (by rfl), if_pos (str_eq.2 rfl)]
  exact hk h9 hgrow
end
end Go.Proofs.YtgdmjdacmebfjaaDoor.D

namespace Go.Proofs.YtgdmjdacmebfjaaDoor.D
open Go

theorem mod_nat (d : Int) (m : Nat) (hm : 0 < m ∧ m < 1000000000) : ∃ N : Nat, IntKind.i64.wrap (Int.tmod (IntKind.u64.wrap d) (m : Int)) = (N : Int) ∧ N < m := by
  have hu : IntKind.u64.wrap d = (((d % 18446744073709551616).toNat : Nat) : Int) := by
    have : 0 ≤ d % 18446744073709551616 := Int.emod_nonneg _ (by decide)
    rw [Int.toNat_of_nonneg this]
    simp [IntKind.wrap, IntKind.bits, IntKind.signed]
  refine ⟨(d % 18446744073709551616).toNat % m, ?_, Nat.mod_lt _ hm.1⟩
  rw [hu]
  have ht : Int.tmod (((d % 18446744073709551616).toNat : Nat) : Int) (m : Int) = (((d % 18446744073709551616).toNat % m : Nat) : Int) := rfl
  rw [ht]
  have := Nat.mod_lt (d % 18446744073709551616).toNat hm.1
  exact wrap64 (Int.le_trans (by decide) (Int.natCast_nonneg _)) (by have := Int.ofNat_lt.2 this; omega)

theorem apd_zero {t : TypeId} {z : List Value} {h : Hp} {b m : Nat} {news : List Value} {K : Sl → Hp → Prop} (hz : z.length = 1) (hn : news.length = m) (hm : 0 < m) (h8 : m * 8 ≤ 140737488355328)
    (hk : ∀ s' h', SlOwn h' s' t 1 news → s'.blk? = some h.size → Grow h h' → K s' h') : apd 1 8 t z h ⟨some (blk b), 0, 0⟩ m news K := by
  refine ⟨fun hf => absurd hf (by show ¬ 0 + m ≤ 0; omega), fun _ => ⟨by show 0 + m ≤ _; omega, ?_, [], rfl, (fun e => by cases e), (fun q hq => trivial), fun c hc => ?_⟩⟩
  · show Builtin.nextslicecap (0 + m) 0 * 8 ≤ _
    unfold Builtin.nextslicecap
    rw [if_pos (by omega)]
    omega
  · have hc : m ≤ c := by have : 0 + m ≤ c := hc; omega
    refine hk _ _ ⟨by show news.length = (0 + m) * 1; omega, .inr ⟨h.size, 0, _, rfl, push_new rfl, ?_, by show 0 + m ≤ c; omega, fun i hi => ?_⟩⟩ rfl ((Grow.refl h).push rfl)
    · simp only [Array.size_append, List.size_toArray, Builtin.zeroCells, Array.size_map, Array.size_range, hn, hz, List.length_nil]
      show 0 + c * 1 ≤ 0 + m + (c - (0 + m)) * 1
      omega
    · rw [show 0 + i = i from Nat.zero_add i]
      have hlt : i < (([] : List Value).toArray ++ news.toArray).size := by simpa using hi
      rw [Array.getElem?_append_left hlt]
      simp

theorem law_true {d t : Int} {p : Sl} {ks : List Int} {h : Hp} {K : Bool → Hp → Prop} (hp : srcAt h p.a (ks.map i64V)) (hl : p.len = ks.length) (hm : ks.length * 8 ≤ 140737488355328) (hlt : ∀ q, p.a = some q → q.block < h.size) (hk : ∀ h', Grow h h' → K true h') : D_barographlaw05_WalReset d t p h K := by
  obtain ⟨N, hN, hN40⟩ := mod_nat d 40 (by decide)
  obtain ⟨T, hT, hT9⟩ := mod_nat t 99999998 (by decide)
  have hN : IntKind.i64.wrap (Int.tmod (IntKind.u64.wrap d) 40) = (N : Int) := hN
  have hT : IntKind.i64.wrap (Int.tmod (IntKind.u64.wrap t) 99999998) = (T : Int) := hT
  have hT1 : IntKind.i64.wrap ((T : Int) + 1) = ((T + 1 : Nat) : Int) := by rw [wrap64] <;> omega
  unfold D_barographlaw05_WalReset
  refine works_true fun h1 w1 => ?_
  rw [if_neg (by decide)]
  refine disk_New fun h2 a O2 d2 s2 => ?_
  have st2 : Step h Non h2 O2 := ⟨w1.trans ⟨s2.ext.size, fun b hb hn => s2.ext.same b hb hn⟩, fun b hb => .inr ((s2.own b hb).elim (fun f => f.elim) (fun h => Nat.le_trans w1.size h))⟩
  obtain ⟨o1, o2⟩ := open_empty (base := 0) (D := { room := 1048576, now := [], lasting := [], chg := [], dead := false, fuse := -1, fs := fun _ => (.mk #[], 0) }) rfl rfl
  refine wal_Open_ (base := 0) d2 (by decide) ⟨(fun p hp => by cases hp), by show 0 ≤ 1000; decide⟩ (fun k => by show (ByteArray.mk #[]).size < _; decide) (by show 0 < _; decide) (fun e => by cases e) (fun _ e => by rw [o2] at e; exact absurd rfl e) fun _ _ h3 lb L0 Od3 Ol3 H3 s3 q1 q2 q3 q4 q5 => ?_
  rw [o1] at q1 q4
  rw [o2] at H3
  have hsg : L0.segs = [] := List.map_eq_nil_iff.1 q1
  rw [maxI_end] at q4
  have hla : L0.last = 0 := by omega
  rw [if_neg (by decide)]
  show D_barographlaw05_WalReset_j5 d t p K _ _ _ _
  unfold D_barographlaw05_WalReset_j5
  rw [if_neg (by simp)]
  refine ⟨fun x g => ∃ (i : Nat) (L : LS) (D : DS) (Od Ol : Nat → Prop), i ≤ N ∧ x = (i : Int) ∧ LogAt g lb a L D Od Ol ∧ Step h Non g (Or2 Od Ol) ∧ W i L D, fun x _ => N - x.toNat,
    ⟨0, L0, _, Od3, Ol3, by omega, rfl, H3, st2.trans s3, ⟨⟨rfl, rfl⟩, rfl, by rw [hsg]; rfl, by rw [hsg]; exact List.nodup_nil, by omega, by rw [hsg]; exact Nat.le_refl _, Nat.le_refl _, (fun b hb => by rw [hsg] at hb; cases hb), (fun b hb => by rw [q2] at hb; cases hb), (fun x => by show (ByteArray.mk #[]).size ≤ _; exact Nat.zero_le _)⟩⟩, ?_⟩
  rintro x g ⟨i, L, D, Od, Ol, hi, rfl, Hg, st, HW⟩
  unfold D_barographlaw05_WalReset_l4
  rw [hN, hT]
  by_cases hiN : i < N
  · rw [if_pos (decide_eq_true (by omega))]
    obtain ⟨k1, k2⟩ := HW.ok (by omega)
    have hlw := live_write HW.live
    have hlast := HW.last
    have hw1 : IntKind.i64.wrap ((i : Int) + 1) = ((i + 1 : Nat) : Int) := by rw [wrap64] <;> omega
    have hmu : N - ((i + 1 : Nat) : Int).toNat < N - (i : Int).toNat := by omega
    rw [hw1]
    refine log_Append Hg k1 k2 (by show 1 < _; decide) (fun hh => absurd hh (by show ¬ 65536 < 1; decide)) (fun _ hh => absurd hh (by omega)) (fun e _ h' Od' H' s' => ⟨⟨i + 1, L, D, Od', Ol, by omega, rfl, by rw [hlw] at H'; exact H', st.trans s', HW.same⟩, hmu⟩) fun _ _ _ _ _ h' Od' Ol' b fb hb _ H' s' => ⟨⟨i + 1, _, _, Od', Ol', by omega, rfl, H', st.trans s', HW.app (by omega) size_x hb⟩, hmu⟩
  rw [if_neg (by rw [decide_eq_true_iff]; omega)]
  obtain ⟨D1, e1, e2, e3, e4, e5, e6⟩ := HW.reset (n := T) (by omega)
  refine log_Reset Hg (by omega) (fun b hb => by have := (HW.seg b hb).1; have := HW.last; omega) (by have := HW.chg; have := HW.segs; omega) fun h4 Od4 H4 s4 => ?_
  rw [e1] at H4 ⊢
  rw [if_neg (by simp)]
  refine log_Last H4 ?_
  rw [if_neg (by simp)]
  refine log_First H4 (by show T < _; omega) ?_
  rw [hT1, if_neg (by simp [LS.first])]
  refine log_Durable H4 ?_
  have hne : ((T : Int) != (T : Int)) = false := by simp
  show D_barographlaw05_WalReset_j3 t p K (some (blk a)) ((T : Int) != _) h4
  rw [hne]
  unfold D_barographlaw05_WalReset_j3
  rw [if_neg (by decide), hT]
  intro h5 e5'
  have w5 : Grow h4 h5 := (Grow.refl h4).push e5'
  have st4 : Step h Non h4 (Or2 Od4 Ol) := st.trans s4
  have g4 : Grow h h4 := ⟨st4.ext.size, fun b hb hn => st4.ext.same b hb hn⟩
  have hz5 : h5.size = h4.size + 1 := by rw [e5', Array.size_push]
  have hp5 : srcAt h5 p.a (ks.map i64V) := by
    refine ⟨hp.1, fun q hq => ?_⟩
    have hql := hlt q hq
    have hc := hp.2 q hq
    have hsame : h5[q.block]? = h[q.block]? := by rw [w5.same _ (by have := g4.size; omega) id, g4.same _ hql id]
    have key : ∀ (vs : List Value) (i : Nat), cellsFrom h q i vs → cellsFrom h5 q i vs := by
      intro vs
      induction vs with
      | nil => intro _ _; trivial
      | cons v vs ih =>
        intro i hh
        refine ⟨?_, ih (i + 1) hh.2⟩
        have h1 := hh.1
        have hb : (q.add i).block = q.block := by unfold Addr.add; split <;> rfl
        unfold cellH at h1 ⊢
        rw [hb] at h1 ⊢
        rw [hsame]
        exact h1
    exact key _ _ hc
  have own5 : SlOwn h5 (Sl.mk (some (blk h4.size)) 0 0) T_int 1 [] := ⟨rfl, .inr ⟨h4.size, 0, #[], rfl, push_new e5', Nat.le_refl _, Nat.le_refl _, fun i hi => by cases hi⟩⟩
  refine ⟨ks.map i64V, by rw [List.length_map, hl, Nat.mul_one], hp5, ?_⟩
  have cont : ∀ (s' : Sl) (h6 : Hp), SlOwn h6 s' T_int 1 (ks.map i64V) → (∀ q, s'.blk? = some q → h4.size ≤ q) → Grow h4 h6 → C_disk_Disk_Crash (some (blk a)) s' h6 fun hz29 =>
      C_wal_Open (some (blk a)) (T : Int) hz29 fun r31 r32 hz30 => if (r32 != (0 : Int)) = true then D_barographlaw05_WalReset_j2 t K r31 true hz30 else
        if r31.isNone = true then D_barographlaw05_WalReset_j2 t K r31 true hz30 else
          C_wal_Log_Last r31 hz30 fun r52 hz51 => D_barographlaw05_WalReset_j2 t K r31 (r52 != (T : Int)) hz51 := by
    intro s' h6 own6 new6 w6
    obtain ⟨H6, s6⟩ := H4.grow w6
    obtain ⟨c1, c2⟩ := crash_empty (ks := ks) e3 e4
    refine disk_Crash (ks := ks) H6.disk own6 (fun q hq ho => by have := H4.disk.lt q ho; have := new6 q hq; omega) (by show D1.chg.length < _; rw [e4]; decide) (fun x hx => ?_) ?_ fun h7 Od7 d7 s7 => ?_
    · rcases hx with ⟨k, hx⟩ | ⟨k, hx⟩ | ⟨k, hx⟩
      · rw [e2] at hx; cases hx
      · rw [e3] at hx; cases hx
      · rw [e4] at hx; cases hx
    · rw [c2]; exact ⟨fun p hp => (by cases hp), by show 0 ≤ 1000; decide⟩
    rw [c1] at d7
    have hlive : Live (⟨D1.room, [], [], [], false, -1, D1.fs⟩ : DS) := ⟨rfl, rfl⟩
    obtain ⟨v1, v2⟩ := open_empty (base := T) (D := ⟨D1.room, [], [], [], false, -1, D1.fs⟩) rfl rfl
    refine wal_Open_ (base := T) d7 (by omega) ⟨(fun p hp => by cases hp), by show 0 ≤ 1000; decide⟩ (fun k => by show (ByteArray.mk #[]).size < _; decide) (by show 0 < _; decide) (fun e => by cases e) (fun _ e => by rw [v2] at e; exact absurd rfl e) fun _ _ h8 lb8 L8 Od8 Ol8 H8 s8 p1 p2 p3 p4 p5 => ?_
    rw [v1] at p1 p4
    rw [v2] at H8
    have hsg8 : L8.segs = [] := List.map_eq_nil_iff.1 p1
    rw [maxI_end] at p4
    have hla8 : L8.last = T := by omega
    rw [if_neg (by decide), if_neg (by simp)]
    refine log_Last H8 ?_
    rw [hla8, hne]
    unfold D_barographlaw05_WalReset_j2
    rw [if_neg (by decide)]
    obtain ⟨ok1, ok2, ok3⟩ := empty_ok (L := L8) (D := ⟨D1.room, [], [], [], false, -1, D1.fs⟩) hsg8 p2 (by omega) rfl (by show 0 ≤ 10; decide) (by show 100 ≤ D1.room ∧ D1.room < _; rw [e6]; decide)
    have hcur : L8.cur.first = T + 1 := by rw [(first_cur p2).2]; show L8.last + 1 = _; omega
    refine append_goes H8 ok1 ok2 hlive (by show 1 ≤ _; decide) (by omega) (ok3 _ size_y) fun h9 Od9 Ol9 b fb _ _ H9 s9 => ?_
    obtain ⟨l1, l2, l3, l4, l5⟩ := first_log (s := .mk #[121]) (b := b) hsg8 p2 size_y
    obtain ⟨f1, f2⟩ := first_disk (name := nameB (T + 1)) (f := frameOf (.mk #[121])) (fb := fb) hlive rfl
    rw [hcur] at H9
    rw [hla8] at l2 l5
    rw [hla8, hT, hT1]
    have hread : (DS.put ⟨D1.room, [], [], [], false, -1, D1.fs⟩ (nameB (T + 1)) (frameOf (.mk #[121])) fb).read (nameB (T + 1)) = (frameOf (.mk #[121]), 0) := by
      unfold DS.read
      have hd : (DS.put ⟨D1.room, [], [], [], false, -1, D1.fs⟩ (nameB (T + 1)) (frameOf (.mk #[121])) fb).dead = false := by rw [f1]; rfl
      have hff : (DS.put ⟨D1.room, [], [], [], false, -1, D1.fs⟩ (nameB (T + 1)) (frameOf (.mk #[121])) fb).fs fb = (frameOf (.mk #[121]), 0) := by rw [f1]; exact fsSet_same ..
      have hlk : lookL (nameB (T + 1)) [(nameB (T + 1), fb)] = some fb := by unfold lookL; rw [if_pos rfl]
      rw [hd, if_neg (by decide), f2, hlk]
      simp only [hff]
    have hrd : readL (L8.app (.mk #[121]) b).sg (DS.put ⟨D1.room, [], [], [], false, -1, D1.fs⟩ (nameB (T + 1)) (frameOf (.mk #[121])) fb) (T + 1) (L8.app (.mk #[121]) b).segs = (.mk #[121], 0) := by
      rw [l1, readL, l2, if_neg (by simp only [Seg.last, List.length_singleton]; omega)]
      simp only []
      rw [hread, if_neg (by decide), Nat.sub_self]
      have e0 : (([0] : List Nat).getD 0 0) = 0 := rfl
      simp only [e0]
      rw [frame_y]
    refine log_Read (n := T + 1) H9 (by rw [l1]; show 1 < _; decide) (fun x hx => ?_) (fun x hx _ => ?_) (by omega) fun h10 H10 w10 => ?_
    · rw [l1] at hx
      rw [List.mem_singleton.1 hx, l2]
      exact ⟨by show T + 1 ≤ _; omega, by show 1 ≤ _; decide⟩
    · rw [l1] at hx
      rw [List.mem_singleton.1 hx, l2]
      simp only []
      rw [hread]
      show (frameOf (.mk #[121])).size < _ ∧ ∀ (i q : Nat), [0][i]? = some q → q ≤ (frameOf (.mk #[121])).size
      rw [size_y]
      refine ⟨by decide, fun i q hi => ?_⟩
      match i, hi with
      | 0, hi => cases hi; decide
    rw [hrd]
    have hfin : Grow h h10 := by
      have st9 : Step h Non h9 _ := (((st4.trans s6).trans s7.widen).trans s8).trans s9
      exact Grow.trans ⟨st9.ext.size, fun b hb hn => st9.ext.same b hb hn⟩ w10
    rw [if_pos (by simp), if_pos (by rfl), if_pos (str_eq.2 rfl)]
    exact hk h10 hfin
  rcases Nat.eq_zero_or_pos p.len with h0 | h0
  · have hks : ks = [] := List.eq_nil_of_length_eq_zero (by omega)
    subst hks
    rw [h0]
    refine ⟨fun _ => ⟨(fun e => by cases e), fun q hq => ⟨trivial, ?_⟩⟩, fun hh => absurd hh (by simp)⟩
    cases hq
    exact cont _ h5 own5 (fun q hq => by cases hq; exact Nat.le_refl _) w5
  · exact apd_zero rfl (by rw [List.length_map, hl]) h0 (by rw [hl]; exact hm) fun s' h6 A1 A2 A3 => cont s' h6 A1 (fun q hq => by rw [A2] at hq; cases hq; omega) (w5.trans A3)
end Go.Proofs.YtgdmjdacmebfjaaDoor.D

namespace Go.Proofs.YtgdmjdacmebfjaaDoor.D
open Go Go.RowKit

/-- WalReset, called in any world. -/
theorem law_calls {d t : Int} {p : Sl} {ks : List Int} {W : World} (hp : srcAt W.heap p.a (ks.map i64V)) (hl : p.len = ks.length) (hm : ks.length * 8 ≤ 140737488355328) (hlt : ∀ q, p.a = some q → q.block < W.heap.size) :
    Calls PROG F_barographlaw05_WalReset #[.int .i64 d, .int .i64 t, p.v] W fun e W' => e = .returned (.bool true) ∧ Below W.heap.size W W' := by
  have hc : C_barographlaw05_WalReset d t p W.heap fun r h' => r = true ∧ Grow W.heap h' := S_barographlaw05_WalReset (law_true hp hl hm hlt fun h' w => ⟨rfl, w⟩)
  refine (hc W rfl).mono ?_
  rintro e W' ⟨v, rfl, ⟨r, rfl, rfl, w⟩, o⟩
  exact ⟨rfl, ⟨o.os, o.tape, o.output, w.size, fun k hk => w.same k hk id⟩⟩
end Go.Proofs.YtgdmjdacmebfjaaDoor.D

namespace Go.Proofs.YtgdmjdacmebfjaaDoor.D
open Go Go.ChangeShapes Go.WideShapes Go.ChangeAt Go.RowKit

section
variable {H : Type} {enc : TypeId × Value → H} {P : Program}
theorem post_of_below {f : Func} {s : ChangeSpec} {apart fresh handsOn again : Bool} {W W' : World} {args : Array Value} {v : Value} {ds gs : List (DataW H)} {before pa pv : List MemPlace}
    (hW : DataW.Whole enc P f.params.toList s.vars apart W args.toList ds gs before)
    (hres : ∀ (b : Nat) (sp : Nat → Bool) (hd : Bool), DataW.TrodAll enc P W' b sp hd f.resultTypes.toList (v.resultList f.resultTypes.size) (s.fn H (ds ++ gs)).results [])
    (hargs : ∀ sp : Nat → Bool, (∀ p ∈ before, sp p.block = true) → DataW.TrodAll enc P W' 0 sp true f.params.toList args.toList (s.fn H (ds ++ gs)).args pa)
    (hvars : ∀ sp : Nat → Bool, (∀ p ∈ before, sp p.block = true) → DataW.TrodVars enc P W' sp s.vars (s.fn H (ds ++ gs)).vars pv)
    (hps : before = pa ++ pv) (hb : Below W.heap.size W W')
    (hok : ∀ (j : Nat) (t : TypeId) (r : Value), f.resultTypes[j]? = some t → (v.resultList f.resultTypes.size)[j]? = some r → Value.okWide P W' .any 0 t r) :
    s.post enc P f apart fresh handsOn again W args v W' := by
  have hlt : ∀ p ∈ before, p.block < W.heap.size := fun p hp => hW.lt p hp
  have hold : ∀ p ∈ before, (fun b => decide (b < W.heap.size)) p.block = true := fun p hp => by simpa using hlt p hp
  refine ⟨ds, gs, before, [], pa, pv, hW, hres _ _ _, hargs _ hold, hvars _ hold, World.keptBut_mono (fun p hp => ⟨hp, ?_⟩) (hb.frame (· ∈ before)), fun _ => ?_⟩
  · rw [hps, List.mem_append] at hp
    exact Or.inr hp
  · obtain ⟨_, _, _, _, _, hz, hn⟩ := hW
    refine ⟨hok, _, _, ([] ++ pa) ++ pv, ⟨[] ++ pa, pv, trodAll_append (hargs _ (fun _ _ => rfl)) (hres _ _ _), hvars _ (fun _ _ => rfl), rfl, ?_, ?_⟩, ?_⟩
    · intro b off hp
      have hin : MemPlace.cell b off ∈ before := by rw [hps]; simpa using hp
      rw [hb.frozen (hlt _ hin)]
      exact hz b off hin
    · intro ha
      have := hn ha
      rw [hps] at this
      simpa using this
    · intro p hp _
      rw [hps]
      simpa using hp
end
end Go.Proofs.YtgdmjdacmebfjaaDoor.D

namespace Go.Proofs.YtgdmjdacmebfjaaDoor.walReset
open Go Go.ChangeShapes Go.WideShapes Go.ChangeAt Go.RowKit Go.Proofs.YtgdmjdacmebfjaaDoor.D

theorem own : ownKnob Tryd.prog.godebug = none := by kernel_rfl
theorem cellsE : Tryd.prog.cellsOf 3 = 1 := by kernel_rfl
theorem bytesE : Tryd.prog.bytesOf 3 = 8 := by kernel_rfl
theorem bools : Tryd.prog.underlying 4 = some .bool := Tryd.underlying4

set_option maxRecDepth 100000 in
/-- A slice of whole numbers that is not nil lies in a block that is there. -/
theorem block_lt {W : World} {base : Nat} {a : Addr} {len cap : Nat} (h : Value.okWide Tryd.prog W .any base 22 (.slice (some a) len cap)) : a.block < W.heap.size := by
  simp only [Value.okWide, Tryd.underlying22, Cell.okWide, Cell.ok] at h
  obtain ⟨_, _, _, _, row, cells, hs, _⟩ := h
  by_cases c : a.block < W.heap.size
  · exact c
  · exfalso
    have : W.heap[a.block]? = none := Array.getElem?_eq_none (by omega)
    simp [World.shape?, this] at hs

set_option maxRecDepth 100000 in
/-- WHAT THE CALL GIVES, FOR EVERY ARGUMENT. -/
theorem contract (H : Type) (enc : TypeId × Value → H) (W : World) (base : Nat) (args : Array Value) (ds gs : List (DataW H)) (before : List MemPlace)
    (hval : ∀ (j : Nat) t v, Tryd.f3.params[j]? = some t → args[j]? = some v → Value.okWide Tryd.prog W .any base t v)
    (hW : DataW.Whole enc Tryd.prog Tryd.f3.params.toList Rows.walResetSpec.vars false W args.toList ds gs before)
    (hsz : (DataW.weightsEach Tryd.prog (Tryd.f3.params.toList ++ (OpenSpec.ofChange Rows.walResetSpec).bare.plain.varTypes Tryd.prog) (ds ++ gs)).all (· ≤ reachBytes) = true) :
    Calls Tryd.prog 3 args W fun e W' => ∃ v, e = .returned v ∧ Rows.walResetSpec.post enc Tryd.prog Tryd.f3 false true false false W args v W' := by
  have hW' := hW
  obtain ⟨p, q, hA0, hV, rfl, hfz, hnd⟩ := hW
  have hA : DataW.TrodAll enc Tryd.prog W 0 (fun _ => true) true Tryd.f3.params.toList args.toList ds p := hA0
  rw [Tryd.params3] at hA hval hsz
  obtain ⟨v0, vs0, d0, ds0, p0, q0, hargs, rfl, rfl, h0, r0⟩ := trodAll_cons hA
  obtain ⟨v1, vs1, d1, ds1, p1, q1, rfl, rfl, rfl, h1, r1⟩ := trodAll_cons r0
  obtain ⟨v2, vs2, d2, ds2, p2, q2, rfl, rfl, rfl, h2, r2⟩ := trodAll_cons r1
  obtain ⟨rfl, rfl, rfl⟩ := trodAll_nil r2
  obtain rfl : args = #[v0, v1, v2] := by cases args; simp_all
  obtain ⟨rfl, rfl⟩ := trodVars_none hV
  obtain ⟨n0, rfl, rfl, rfl, w0⟩ := open_int Tryd.underlying3 (hval 0 3 v0 rfl rfl) h0
  obtain ⟨n1, rfl, rfl, rfl, w1⟩ := open_int Tryd.underlying3 (hval 1 3 v1 rfl rfl) h1
  have ok2 := hval 2 22 v2 rfl rfl
  obtain ⟨a0, len, cap, rfl⟩ := okWide_slice Tryd.underlying22 ok2
  obtain ⟨fuel, hf⟩ := h2
  clear hA0
  simp only [List.append_nil, List.nil_append] at hW' hf
  have done : ∀ (ks : List Int) (d2 : DataW H), srcAt W.heap a0 (ks.map i64V) → len = ks.length → ks.length * 8 ≤ 140737488355328 → (∀ q, a0 = some q → q.block < W.heap.size) →
      DataW.Whole enc Tryd.prog Tryd.f3.params.toList Rows.walResetSpec.vars false W [.int .i64 n0, .int .i64 n1, .slice a0 len cap] [.lit (.int .i64 n0), .lit (.int .i64 n1), d2] [] p2 →
      (∀ W' : World, Below W.heap.size W W' → ∀ sp : Nat → Bool, (∀ x ∈ p2, sp x.block = true) → DataW.Trod enc Tryd.prog W' 0 sp true 22 (.slice a0 len cap) d2 p2) →
      Calls Tryd.prog 3 #[.int .i64 n0, .int .i64 n1, .slice a0 len cap] W fun e W' => ∃ v, e = .returned v ∧ Rows.walResetSpec.post enc Tryd.prog Tryd.f3 false true false false W #[.int .i64 n0, .int .i64 n1, .slice a0 len cap] v W' := by
    intro ks d2 hp hl hm hlt hwh hback
    refine (law_calls (d := n0) (t := n1) (p := ⟨a0, len, cap⟩) hp hl hm hlt).mono fun e W' ⟨he, hb⟩ => ?_
    subst he
    refine ⟨_, rfl, post_of_below (pa := p2) (pv := []) (ds := [.lit (.int .i64 n0), .lit (.int .i64 n1), d2]) (gs := []) hwh (fun _ _ _ => trodAll_cons_mk (shut_bool Tryd.underlying4 _) trodAll_mk0) (fun sp hsp => ?_) (fun _ _ => rfl) (by simp) hb
      (ok_one (by kernel_rfl) rfl (okWide_bool_mk Tryd.underlying4 _))⟩
    have t3 : DataW.TrodAll enc Tryd.prog W' 0 sp true [3, 3, 22] [.int .i64 n0, .int .i64 n1, .slice a0 len cap] [.lit (.int .i64 n0), .lit (.int .i64 n1), d2] ([] ++ ([] ++ (p2 ++ []))) :=
      trodAll_cons_mk (shut_int Tryd.underlying3 w0) (trodAll_cons_mk (shut_int Tryd.underlying3 w1) (trodAll_cons_mk (hback W' hb sp hsp) trodAll_mk0))
    simp only [List.append_nil, List.nil_append] at t3
    rw [Tryd.params3]
    exact t3
  rcases open_ints Tryd.underlying22 Tryd.underlying3 cellsE hf with ⟨hcs, hx⟩ | ⟨a, len', cap', zs, hcs, _, hl, hm, hz, hx, hcell, hwz⟩
  · simp [Value.cells] at hcs
    obtain ⟨rfl, rfl, rfl⟩ := hcs
    simp only [Prod.mk.injEq] at hx
    obtain ⟨rfl, rfl⟩ := hx
    refine done [] .nil ⟨fun _ => rfl, fun q hq => by cases hq⟩ rfl (by simp) (fun q hq => by cases hq) hW' fun W' _ sp _ => ?_
    exact ⟨1, by simp [DataW.trod, Value.cells, Tryd.underlying22]⟩
  · simp [Value.cells] at hcs
    obtain ⟨rfl, rfl, rfl⟩ := hcs
    simp only [Prod.mk.injEq] at hx
    obtain ⟨rfl, rfl⟩ := hx
    simp only [if_true] at hz
    have hba : a.block < W.heap.size := block_lt ok2
    refine done (zs.take len) _ ⟨fun h => (nomatch h), fun q hq => ?_⟩ (by simp; omega) ?_ (fun q hq => by cases hq; exact hba) hW' fun W' hb sp hsp => ?_
    · cases hq
      have key : ∀ (vs : List Int) (i : Nat), (∀ k, k < vs.length → W.cell? (a.add (i + k)) = some (.int .i64 (vs.getD k 0))) → cellsFrom W.heap a i (vs.map i64V) := by
        intro vs
        induction vs with
        | nil => intro _ _; trivial
        | cons v vs ih =>
          intro i hv
          refine ⟨hv 0 (by simp), ih (i + 1) fun k hk => ?_⟩
          have := hv (k + 1) (by simpa using hk)
          rw [show i + 1 + k = i + (k + 1) by omega, this]
          simp
      refine key (zs.take len) 0 fun k hk => ?_
      rw [Nat.zero_add]
      have hk' : k < len := by simp at hk; omega
      rw [hcell k (by omega)]
      simp [List.getD_eq_getElem?_getD, hk']
    · have hs := sized_slice hsz (j := 2) (t := 22) (e := 3) rfl rfl Tryd.underlying22
      rw [bytesE] at hs
      have hr := reachBytes_lt
      simp only [lits, List.length_map, List.length_take, List.length_drop] at hs ⊢
      omega
    · have hz' : zs.length = (if sp a.block then cap else len) := by
        by_cases c : cap = 0
        · have : len = 0 := by omega
          rw [hz, c, this]
          split <;> rfl
        · have : sp a.block = true := hsp (.cell a.block a.off) (MemPlace.mem_row.2 ⟨0, by omega, by simp⟩)
          rw [this, hz]
          rfl
      exact ⟨_, shut_ints 0 Tryd.underlying22 Tryd.underlying3 cellsE (Nat.zero_le _) hl hm hz' (fun i hi => by rw [hb.cell (by rw [block_add]; exact hba)]; exact hcell i hi) hwz⟩

/-- A world for the witness: the settled one, the two tables (blocks 0 and 1) holding what the row lists. -/
def flat : DataW Unit → List Value
  | .agg l => l.filterMap fun | .lit (.int k n) => some (.int k n) | _ => none
  | _ => []
def flat2 : DataW Unit → List Value
  | .agg l => l.flatMap flat
  | _ => []
def put0 : Obj → Obj
  | .cells _ t frozen => .cells (flat Rows.laid_unicode_utf8_first).toArray t frozen
  | o => o
def put1 : Obj → Obj
  | .cells _ t frozen => .cells (flat2 Rows.laid_unicode_utf8_acceptRanges).toArray t frozen
  | o => o
noncomputable def laidWorld (os : Os) : World :=
  { World.holding Tryd.prog os ⟨#[], #[], []⟩ with heap := ((World.holding Tryd.prog os ⟨#[], #[], []⟩).heap.modify 0 put0).modify 1 put1 }
theorem laid_met (os : Os) : laidMet Tryd.prog Rows.walResetRow.laid ((laidWorld os).forCall (fun _ _ => 0) ⟨#[], #[.int .i64 0, .int .i64 0, .slice none 0 0], []⟩).memory :=
  laidMet_of_run' 8 (by kernel_rfl) (by kernel_rfl)
theorem reads (os : Os) {H : Type} (enc : TypeId × Value → H) : ∃ places, DataW.whole enc Tryd.prog ((laidWorld os).forCall (fun _ _ => 0) ⟨#[], #[.int .i64 0, .int .i64 0, .slice none 0 0], []⟩).memory Tryd.f3.params.toList Rows.walResetSpec.vars false #[Value.int .i64 0, .int .i64 0, .slice none 0 0].toList 8 = some ([.lit (.int .i64 0), .lit (.int .i64 0), .nil], [], places) :=
  ⟨[], by kernel_rfl⟩

set_option maxRecDepth 100000 in
/-- The row's first form, lifted. -/
theorem lifted (os : Os) (started : os.Started) (H : Type) (enc : TypeId × Value → H) (F : Stop.Interp) :
    ReturnsInHanded {} Tryd.checked os 3 .any ((OpenSpec.ofChange Rows.walResetSpec).preRow enc Tryd.prog Tryd.f3 Rows.walResetRow.domain false Rows.walResetRow.laid) (((OpenSpec.ofChange Rows.walResetSpec).at F).post enc Tryd.prog Tryd.f3 false true false false) := by
  obtain ⟨places, hx⟩ := reads os enc
  refine returnsInHanded_of_row (C := Tryd.checked) (s := OpenSpec.ofChange Rows.walResetSpec) own started (by kernel_rfl) Tryd.func3
    (witness_row_at (enc := enc) (C := Tryd.checked) false (laidWorld os) #[.int .i64 0, .int .i64 0, .slice none 0 0] rfl (by kernel_rfl) (by kernel_rfl) (by kernel_rfl)
      (OpenSpec.preRow_of_cond 8 hx (by kernel_rfl) (fun k hk => by cases hk) (by kernel_rfl) (laid_met os))) ?_
  intro W base args ds gs before hval hW _ _ hsz _ _ _
  exact contract H enc W base args ds gs before hval hW hsz

/-- THE ROW: the statement WalResetSaid. -/
theorem said : Rows.WalResetSaid :=
  OpenClaim.holds_of_cond 3 Tryd.f3 rfl rfl rfl rfl rfl rfl rfl ⟨rfl, rfl, rfl, rfl, rfl⟩ rfl rfl rfl rfl rfl (by kernel_rfl) Tryd.func3 (by kernel_rfl)
    (of_decide_eq_true (by kernel_rfl)) (by unfold Func.isWrapper; first | (rw [if_pos (by decide +kernel)]; kernel_rfl) | (rw [if_neg (by decide +kernel)]; exact ⟨rfl, rfl⟩))
    (fun os started H enc _ F => by rw [OpenClaim.pre_eq_preRow]; exact lifted os started H enc F)

/-- No parameter wants a stand-in; the program's own looks are off. -/
theorem plain (f : FuncId) (fn : Func) (hf : Tryd.pinned.checked.prog.funcNamed "barograph/barographlaw05.WalReset" = some f) (hfn : Tryd.pinned.checked.prog.funcs[f]? = some fn) :
    true = Tryd.pinned.checked.prog.looks [] ∧ ∀ (j : Nat) t, fn.params[j]? = some t → Tryd.pinned.checked.prog.wantsStandIn t = false := by
  obtain rfl : f = 3 := Option.some.inj ((show Tryd.prog.funcNamed "barograph/barographlaw05.WalReset" = some 3 by kernel_rfl).symm.trans hf) |>.symm
  obtain rfl : fn = Tryd.f3 := (Option.some.inj (Tryd.func3.symm.trans hfn)).symm
  refine ⟨by kernel_rfl, fun j t ht => ?_⟩
  rw [Tryd.params3] at ht
  have h3 : Tryd.prog.wantsStandIn 3 = false := by kernel_rfl
  have h22 : Tryd.prog.wantsStandIn 22 = false := by kernel_rfl
  have hm := Array.mem_of_getElem? ht
  simp only [List.mem_toArray, List.mem_cons, List.mem_nil_iff, or_false] at hm
  rcases hm with rfl | rfl | rfl
  · exact h3
  · exact h3
  · exact h22

/-- THE CARD: the statement WalResetCardSaid. -/
theorem card : Rows.WalResetCardSaid :=
  Claim7.holds_tied_plain_at .later [] _ _ _ _ said (fun _ h => by cases h) (by kernel_rfl) (fun _ h => by cases h) walReset_row_tie rfl ⟨rfl, rfl⟩ (by kernel_rfl) rfl plain (by kernel_rfl)

end Go.Proofs.YtgdmjdacmebfjaaDoor.walReset
