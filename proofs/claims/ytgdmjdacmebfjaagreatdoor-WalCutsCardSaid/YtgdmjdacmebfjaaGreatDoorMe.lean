/-
  What the functions of the log do on the heap. No conditions of the text itself.
-/
import Derived.Test.YtgdmjdacmebfjaaGreatDoorMd
namespace Go.Proofs.YtgdmjdacmebfjaaGreatDoor.D
open Go

/-! ### Names -/
def dec : Nat → Nat → List UInt8
  | 0, _ => []
  | k + 1, n => UInt8.ofNat (48 + n / 10 ^ k % 10) :: dec k n
def nameL (n : Nat) : List UInt8 := 119 :: dec 8 n
def nameB (n : Nat) : ByteArray := ⟨(nameL n).toArray⟩
theorem dec_len : ∀ (k n : Nat), (dec k n).length = k
  | 0, _ => rfl
  | k + 1, n => by simp [dec, dec_len k n]
theorem wal_name_ {n : Nat} {h : Hp} {K : ByteArray → Hp → Prop} (hn : n < 1000000000) (hk : ∀ h', Grow h h' → K (nameB n) h') : C_wal_name (n : Int) h K := by
  refine S_wal_name ⟨by decide, by decide, by decide, by decide, fun h1 e1 => ?_⟩
  have c1 : h1[h.size]? = some (.cells (List.replicate 9 (Value.int .u8 0)).toArray T_uint8 (0, 0)) := (push_new e1).trans (by rw [show Builtin.zeroCells (if (9 : Int).toNat * 1 = 0 then #[] else #[Value.int .u8 0]) (if (9 : Int).toNat * 1 = 0 then 0 else (9 : Int).toNat) = (List.replicate 9 (Value.int .u8 0)).toArray from by kernel_rfl])
  refine ⟨blk h.size, rfl, by decide, by show (0 : Int) < 9; decide, _, cell_at (i := (0 : Int).toNat * 1) c1 rfl, frz_at c1, fun h2 e2 => ?_⟩
  have c2 : h2[h.size]? = some (.cells (byteV 119 :: List.replicate 8 (Value.int .u8 0)).toArray T_uint8 (0, 0)) := set_at (i := (0 : Int).toNat * 1) e2 c1 rfl
  have w2 : Grow h h2 := ((Grow.refl h).push e1).set e2 (by rw [blk_add]; exact Nat.le_refl _)
  refine ⟨fun n3 i4 g => ∃ j, j ≤ 8 ∧ i4 = ((8 - j : Nat) : Int) ∧ n3 = ((n / 10 ^ j : Nat) : Int) ∧ Grow h g ∧ g[h.size]? = some (.cells (byteV 119 :: (List.replicate (8 - j) (Value.int .u8 0) ++ (dec j n).map byteV)).toArray T_uint8 (0, 0)),
    fun _ i4 _ => i4.toNat, ⟨0, by omega, rfl, by simp, w2, by rw [c2]; simp [dec]⟩, ?_⟩
  rintro n3 i4 g ⟨j, hj, rfl, rfl, hg, hb⟩
  unfold D_wal_name_l1
  by_cases h8 : j < 8
  · rw [if_pos (decide_eq_true (by omega))]
    have hget : (byteV 119 :: (List.replicate (8 - j) (Value.int .u8 0) ++ (dec j n).map byteV)).toArray[8 - j]? = some (.int .u8 0) := by
      rw [List.getElem?_toArray, show 8 - j = (7 - j) + 1 by omega, List.getElem?_cons_succ, List.getElem?_append_left (by rw [List.length_replicate]; omega), List.getElem?_replicate, if_pos (by omega)]
    refine ⟨by omega, by show ((8 - j : Nat) : Int) < 9; omega, _, cell_at (i := (8 - j) * 1) hb (by rw [Nat.mul_one]; exact hget), frz_at hb, fun g2 e2 => ?_⟩
    have hb2 := set_at (i := (8 - j) * 1) e2 hb rfl
    rw [Nat.mul_one, List.setIfInBounds_toArray, show 8 - j = (7 - j) + 1 by omega, List.set_cons_succ, set_rep] at hb2
    have hd : n / 10 ^ (j + 1) = n / 10 ^ j / 10 := by rw [Nat.pow_succ, Nat.div_div_eq_div_mul]
    have hle : n / 10 ^ j ≤ n := Nat.div_le_self _ _
    have ht : Int.tdiv ((n / 10 ^ j : Nat) : Int) 10 = ((n / 10 ^ j / 10 : Nat) : Int) := rfl
    have hm : Int.tmod ((n / 10 ^ j : Nat) : Int) 10 = ((n / 10 ^ j % 10 : Nat) : Int) := rfl
    refine ⟨⟨j + 1, by omega, by rw [wrap64] <;> omega, ?_, hg.set e2 (by rw [blk_add]; exact Nat.le_refl _), ?_⟩, ?_⟩
    · have q0 : (0 : Int) ≤ ((n / 10 ^ j / 10 : Nat) : Int) := Int.natCast_nonneg _
      have q1 : ((n / 10 ^ j / 10 : Nat) : Int) ≤ (n : Int) := Int.ofNat_le.2 (Nat.le_trans (Nat.div_le_self _ _) hle)
      rw [ht, hd, wrap64 (x := ((n / 10 ^ j / 10 : Nat) : Int)) (Int.le_trans (by decide) q0) (Int.le_trans q1 (by omega))]
    · rw [hb2, show 8 - (j + 1) = 7 - j by omega, hm, wrap64 (by omega) (by omega)]
      simp only [dec, List.map_cons, byteV_ofNat]
      rw [show (48 : Int) + ((n / 10 ^ j % 10 : Nat) : Int) = ((48 + n / 10 ^ j % 10 : Nat) : Int) by omega, wrapU8_nat]
    · show (IntKind.i64.wrap (((8 - j : Nat) : Int) - 1)).toNat < ((8 - j : Nat) : Int).toNat
      rw [wrap64 (by omega) (by omega)]
      omega
  · rw [if_neg (by rw [decide_eq_true_iff]; omega)]
    have : j = 8 := by omega
    subst this
    refine ⟨nameB n, bytesAt_cells (o := 0) hb (fun k x hx => ?_) (by simp [nameL, dec_len]), hk g hg⟩
    rw [Nat.zero_add]
    have : (byteV 119 :: (List.replicate (8 - 8) (Value.int .u8 0) ++ (dec 8 n).map byteV)) = (nameL n).map byteV := by simp [nameL]
    rw [this, List.getElem?_toArray, List.getElem?_map, hx]
    rfl

def numF : List UInt8 → Nat → Nat
  | [], n => n
  | x :: l, n => if x.toNat < 48 ∨ 57 < x.toNat then 0 else numF l (10 * n + (x.toNat - 48))
def numberN (s : ByteArray) : Nat := if s.size = 9 ∧ s.data.toList.head? = some 119 then numF (s.data.toList.drop 1) 0 else 0
theorem wal_number_ {s : ByteArray} {h : Hp} {K : Int → Hp → Prop} (hk : ∀ h', Grow h h' → K (numberN s : Int) h') : C_wal_number s h K := by
  refine S_wal_number ?_
  unfold D_wal_number D_wal_number_j3
  unfold numberN at hk
  by_cases h9 : s.size = 9
  case neg =>
    rw [if_neg (fun e => h9 e.1)] at hk
    rw [if_pos (by rw [bne_iff_ne]; omega), if_pos rfl]
    exact hk h (Grow.refl h)
  rw [if_neg (by rw [bne_iff_ne]; omega)]
  refine ⟨by omega, by omega, ?_⟩
  cases hl : s.data.toList with
  | nil => rw [size_len, hl] at h9; cases h9
  | cons c r =>
    have hbt : bt s 0 = (c.toNat : Int) := bt_get (i := 0) (by rw [hl]; rfl)
    rw [hbt]
    rw [hl] at hk
    by_cases hc : c = 119
    case neg =>
      rw [if_neg (fun e => hc (by simpa using e.2))] at hk
      have : c.toNat ≠ 119 := fun e => hc (UInt8.toNat_inj.1 e)
      rw [if_pos (by rw [bne_iff_ne]; omega)]
      exact hk h (Grow.refl h)
    rw [if_pos ⟨h9, by rw [hc]; rfl⟩] at hk
    rw [if_neg (by rw [hc]; decide)]
    have hr : (s.extract 1 s.size).data.toList = r := by rw [extract_end, hl]; rfl
    have hrs : (s.extract 1 s.size).size = 8 := by rw [ByteArray.size_extract]; omega
    have hrl : r.length = 8 := by rw [← hr, ← size_len, hrs]
    refine ⟨by omega, Nat.le_refl _, fun cc g hcc eg => ?_⟩
    rw [hrs] at hcc eg
    have hcell := push_new eg
    refine ⟨fun n x g' => ∃ j m : Nat, j ≤ 8 ∧ x = (j : Int) ∧ n = (m : Int) ∧ m < 10 ^ j ∧ numF (r.drop j) m = numF r 0 ∧ g' = g, fun _ x _ => 8 - x.toNat, ⟨0, 0, by omega, rfl, rfl, by decide, rfl, rfl⟩, ?_⟩
    rintro n x g' ⟨j, m, hj, rfl, rfl, hm, he, rfl⟩
    unfold D_wal_number_l2 D_wal_number_j1
    rw [hrs]
    have hfin : ∀ y : Nat, y = numF r 0 → K (y : Int) g' := fun y e => by rw [e]; exact hk g' ((Grow.refl h).push eg)
    by_cases h8 : j < 8
    · rw [if_pos (decide_eq_true (by show (j : Int) < 8; omega))]
      have hjl : j < r.length := by omega
      rw [List.drop_eq_getElem_cons hjl] at he
      simp only [numF] at he
      have hx := (r[j]).toNat_lt
      refine ⟨blk h.size, rfl, by omega, by show (j : Int) < 8; omega, ((r[j]).toNat : Int), cell_at (i := j * 1) hcell ?_, ?_⟩
      · rw [Nat.mul_one, Array.getElem?_append_left (by unfold u8s; rw [List.size_toArray, List.length_map, hr]; exact hjl), List.getElem?_toArray]
        unfold u8s
        rw [hr, List.getElem?_map, List.getElem?_eq_getElem hjl]
        rfl
      have h10 : (10 : Nat) ^ j ≤ 10 ^ 8 := Nat.pow_le_pow_right (by decide) (by omega)
      by_cases hlo : (r[j]).toNat < 48
      · rw [if_pos (decide_eq_true (by omega)), if_pos rfl]
        rw [if_pos (.inl hlo)] at he
        exact hfin 0 he
      · rw [if_neg (by rw [decide_eq_true_iff]; omega)]
        by_cases hhi : 57 < (r[j]).toNat
        · rw [if_pos (decide_eq_true (by omega))]
          rw [if_pos (.inr hhi)] at he
          exact hfin 0 he
        · rw [if_neg (by rw [decide_eq_true_iff]; omega)]
          rw [if_neg (by omega)] at he
          have e1 : IntKind.i64.wrap ((IntKind.i64.wrap (10 * (m : Int))) + (IntKind.i64.wrap (IntKind.u8.wrap (((r[j]).toNat : Int) - 48)))) = ((10 * m + ((r[j]).toNat - 48) : Nat) : Int) := by
            have : m < 10 ^ 8 := Nat.lt_of_lt_of_le hm h10
            rw [wrapU8 (by omega) (by omega), wrap64 (x := 10 * (m : Int)) (by omega) (by omega), wrap64 (x := ((r[j]).toNat : Int) - 48) (by omega) (by omega), wrap64 (by omega) (by omega)]
            omega
          rw [e1]
          refine ⟨⟨j + 1, _, by omega, by rw [wrap64] <;> omega, rfl, ?_, he, rfl⟩, ?_⟩
          · rw [Nat.pow_succ]; omega
          · rw [wrap64 (by omega) (by omega)]
            show 8 - ((j : Int) + 1).toNat < 8 - (j : Int).toNat
            omega
    · rw [if_neg (by rw [decide_eq_true_iff]; show ¬ (j : Int) < 8; omega)]
      rw [List.drop_of_length_le (by omega)] at he
      exact hfin m he

/-! ### A segment -/
structure Seg where
  first : Nat
  places : List Nat
  size : Nat
  dirty : Bool
def segOb (x : Seg) (p : Sl) : Obj := .cells #[.int .i64 x.first, p.v, .int .i64 x.size, .bool x.dirty] T_wal_segment (0, 0)
def intV (n : Nat) : Value := .int .i64 (n : Int)
structure SegAt (h : Hp) (b : Nat) (x : Seg) (p : Sl) : Prop where
  cell : h[b]? = some (segOb x p)
  places : SlOwn h p T_int 1 (x.places.map intV)
theorem SegAt.frame {h h' : Hp} {b : Nat} {x : Seg} {p : Sl} (H : SegAt h b x p) (e1 : h'[b]? = h[b]?) (e2 : ∀ q, p.blk? = some q → h'[q]? = h[q]?) : SegAt h' b x p :=
  ⟨e1.trans H.cell, H.places.frame e2⟩
theorem SegAt.len {h : Hp} {b : Nat} {x : Seg} {p : Sl} (H : SegAt h b x p) : p.len = x.places.length := by
  have := H.places.1
  rw [List.length_map] at this
  omega

theorem getFrame_ok {s : ByteArray} (h : (getFrame s).2.2.2 = 0) : ∃ (k : Int) (d : ByteArray) (n : Nat), getFrame s = (k, d, (n : Int), 0) ∧ 5 ≤ n ∧ n ≤ s.size := by
  unfold getFrame at h ⊢
  split at h
  · exfalso
    simp only [] at h
    split at h <;> cases h
  · rename_i h0
    rw [if_neg h0]
    by_cases he : (getText (s.extract 1 s.size) 65536).2.2 = 0
    · rw [if_neg (by simp [he])] at h ⊢
      obtain ⟨d, n, e, hn⟩ := getText_ok he
      rw [e] at h ⊢
      simp only [] at h ⊢
      by_cases h5 : (s.size : Int) < (n : Int) + 5
      · rw [if_pos h5] at h; cases h
      · rw [if_neg h5] at h ⊢
        split at h
        · cases h
        · rename_i h6
          rw [if_neg h6]
          exact ⟨_, _, n + 5, by rw [Int.natCast_add]; rfl, by omega, by omega⟩
    · rw [if_pos he] at h
      exact absurd h he
def parseF (s : ByteArray) : Nat → Nat → List Nat × Nat
  | 0, o => ([], o)
  | f + 1, o => if o < s.size then (if (getFrame (s.extract o s.size)).2.2.2 ≠ 0 ∨ (getFrame (s.extract o s.size)).1 ≠ 1 then ([], o) else (o :: (parseF s f (o + (getFrame (s.extract o s.size)).2.2.1.toNat)).1, (parseF s f (o + (getFrame (s.extract o s.size)).2.2.1.toNat)).2)) else ([], o)
def parsed (first : Nat) (s : ByteArray) : Seg := ⟨first, (parseF s (s.size + 1) 0).1, (parseF s (s.size + 1) 0).2, false⟩
theorem parseF_len (s : ByteArray) : ∀ (f o : Nat), (parseF s f o).1.length ≤ f
  | 0, _ => Nat.le_refl _
  | f + 1, o => by
    have := parseF_len s f (o + (getFrame (s.extract o s.size)).2.2.1.toNat)
    unfold parseF
    split
    · split
      · simp
      · simp only [List.length_cons]; omega
    · simp
def segO (g : Hp) (b : Nat) : Nat := match g[b]? with
  | some (.cells cs _ _) => match cs[2]? with
    | some (Value.int _ o) => o.toNat
    | _ => 0
  | _ => 0
theorem segO_at {g : Hp} {b : Nat} {x : Seg} {p : Sl} (hS : g[b]? = some (segOb x p)) : segO g b = x.size := by
  unfold segO
  rw [hS]
  exact Int.toNat_natCast _
theorem wal_parse_ {first : Nat} {s : ByteArray} {h : Hp} {K : Option Addr → Hp → Prop} (hs : s.size < 1000000000)
    (hk : ∀ h' p, Grow h h' → SegAt h' h.size (parsed first s) p → (∀ q, p.blk? = some q → h.size ≤ q) → K (some (blk h.size)) h') : C_wal_parse (first : Int) s h K := by
  refine S_wal_parse fun h1 e1 => ?_
  refine ⟨fun g => ∃ (ps : List Nat) (o f : Nat) (p : Sl), SegAt g h.size ⟨first, ps, o, false⟩ p ∧ Grow h g ∧ (∀ q, p.blk? = some q → h.size ≤ q) ∧ o ≤ s.size ∧ s.size - o < f ∧ ps.length + f = s.size + 1 ∧ parseF s (s.size + 1) 0 = (ps ++ (parseF s f o).1, (parseF s f o).2),
    fun g => s.size - segO g h.size, ⟨[], 0, s.size + 1, ⟨none, 0, 0⟩, ⟨push_new e1, .nil⟩, (Grow.refl h).push e1, fun q hq => absurd hq (by simp [Sl.blk?]), by omega, by omega, by simp, by simp⟩, ?_⟩
  rintro g ⟨ps, o, f, p, hS, hg, hp, ho, hf', hlen, hpar⟩
  unfold D_wal_parse_l3 D_wal_parse_j1
  refine ⟨(o : Int), cell_at hS.cell rfl, ?_⟩
  obtain ⟨f, rfl⟩ : ∃ f', f = f' + 1 := ⟨f - 1, by omega⟩
  by_cases hos : o < s.size
  case neg =>
    rw [if_neg (by rw [decide_eq_true_iff]; omega)]
    have : parseF s (f + 1) o = ([], o) := by unfold parseF; rw [if_neg hos]
    rw [this, List.append_nil] at hpar
    refine hk g p hg ?_ hp
    unfold parsed
    rw [hpar]
    exact hS
  rw [if_pos (decide_eq_true (by omega))]
  refine ⟨(o : Int), cell_at hS.cell rfl, o, rfl, by omega, Nat.le_refl _, frame_Get (by rw [ByteArray.size_extract]; omega) fun g1 w1 g2 e2 => ?_⟩
  obtain ⟨q1, q2⟩ := puts_all (vs := [Value.int .i64 (getFrame (s.extract o s.size)).1, Value.string (getFrame (s.extract o s.size)).2.1]) (push_new e2) rfl (by intro v hv; simp at hv; rcases hv with rfl | rfl <;> trivial)
  refine ⟨q1, fun g3 e3 => ?_⟩
  have c3 : g3[g1.size]? = some (.cells #[Value.int .i64 (getFrame (s.extract o s.size)).1, Value.string (getFrame (s.extract o s.size)).2.1] T_frame_Frame (0, 0)) := by rw [e3]; exact q2
  have w3 : Grow g g3 := (w1.push e2).puts e3 w1.size
  have hS3 : SegAt g3 h.size ⟨first, ps, o, false⟩ p := hS.frame (w3.same _ (lt_of_some hS.cell) id) (fun q hq => w3.same _ (hS.places.lt hq) id)
  have stop : ((getFrame (s.extract o s.size)).2.2.2 ≠ 0 ∨ (getFrame (s.extract o s.size)).1 ≠ 1) → K (some (blk h.size)) g3 := by
    intro hst
    have : parseF s (f + 1) o = ([], o) := by unfold parseF; rw [if_pos hos, if_pos hst]
    rw [this, List.append_nil] at hpar
    refine hk g3 p (hg.trans w3) ?_ hp
    unfold parsed
    rw [hpar]
    exact hS3
  unfold D_wal_parse_j2 D_wal_parse_j1
  by_cases he : (getFrame (s.extract o s.size)).2.2.2 = 0
  case neg =>
    rw [if_pos (by rw [bne_iff_ne]; exact he), if_pos rfl]
    exact stop (.inl he)
  rw [if_neg (by rw [bne_iff_ne]; exact fun e => e he)]
  refine ⟨_, cell_at c3 rfl, ?_⟩
  by_cases hkd : (getFrame (s.extract o s.size)).1 = 1
  case neg =>
    rw [if_pos (by rw [bne_iff_ne]; exact hkd)]
    exact stop (.inr hkd)
  rw [if_neg (by rw [bne_iff_ne]; exact fun e => e hkd)]
  obtain ⟨k, d, n, en, n5, ns⟩ := getFrame_ok he
  have hstep : parseF s (f + 1) o = (o :: (parseF s f (o + n)).1, (parseF s f (o + n)).2) := by
    rw [parseF, if_pos hos, if_neg (by rintro (h | h); exact h he; exact h hkd), en]
    rfl
  rw [en]
  simp only []
  refine ⟨p, cell_at hS3.cell rfl, (o : Int), cell_at hS3.cell rfl, fun g4 e4 => ?_⟩
  have w4 := w3.push e4
  have hS4 : SegAt g4 h.size ⟨first, ps, o, false⟩ p := hS.frame (w4.same _ (lt_of_some hS.cell) id) (fun q hq => w4.same _ (hS.places.lt hq) id)
  have hpl : p.len = ps.length := hS4.len
  refine ⟨cell_at hS4.cell rfl, cell_at hS4.cell rfl, ?_⟩
  refine apd_own hS4.places rfl (fun v hv => by rw [List.mem_singleton.1 hv]; trivial) rfl (by omega) (by omega) (by omega) fun p' g5 A => ?_
  have pne : ∀ q, p.blk? = some q → q ≠ h.size := fun q hq => by
    obtain ⟨cs, hcs⟩ := hS4.places.ob hq
    exact ne_tag hcs hS4.cell rfl
  have c5 : g5[h.size]? = some (segOb ⟨first, ps, o, false⟩ p) := (A.same _ (lt_of_some hS4.cell) (fun e => pne _ e rfl)).trans hS4.cell
  have w5 : Grow h g5 := Ext.trans (hg.trans w4) ⟨A.size, fun b hb _ => A.same b (Nat.lt_of_lt_of_le hb (hg.trans w4).size) (fun e => absurd (hp b e) (Nat.not_le.2 hb))⟩
  refine ⟨cell_at c5 rfl, cell_at c5 rfl, _, cell_at c5 rfl, frz_at c5, fun g6 e6 => ?_⟩
  have c6 := set_at (cs' := #[.int .i64 (first : Int), p'.v, .int .i64 (o : Int), .bool false]) e6 c5 rfl
  refine ⟨(o : Int), cell_at c6 rfl, _, cell_at c6 rfl, frz_at c6, fun g7 e7 => ?_⟩
  have c7 := set_at (cs' := #[.int .i64 (first : Int), p'.v, .int .i64 ((o + n : Nat) : Int), .bool false]) e7 c6 (by rw [wrap64 (by omega) (by rw [ByteArray.size_extract] at ns; omega)]; rfl)
  have n7 : ∀ b, b ≠ h.size → g7[b]? = g5[b]? := fun b hb => by rw [e7, setH_ne (by rw [blk_add]; exact hb), e6, setH_ne (by rw [blk_add]; exact hb)]
  have w7 : Grow h g7 := (w5.set e6 (by rw [blk_add]; exact Nat.le_refl _)).set e7 (by rw [blk_add]; exact Nat.le_refl _)
  have p'ge : ∀ q, p'.blk? = some q → h.size ≤ q ∧ q ≠ h.size := fun q hq => by
    rcases A.where_ with hw | hw
    · rw [hw] at hq; exact ⟨hp q hq, pne q hq⟩
    · rw [hw] at hq
      cases hq
      have := lt_of_some hS4.cell
      omega
  rw [ByteArray.size_extract] at ns
  refine ⟨⟨ps ++ [o], o + n, f, p', ⟨c7, ?_⟩, w7, fun q hq => (p'ge q hq).1, by omega, by omega, by simp only [List.length_append, List.length_singleton]; omega, by rw [hpar, hstep]; simp⟩, ?_⟩
  · have := A.own.frame (h' := g7) (fun q hq => n7 q (p'ge q hq).2)
    simpa [intV] using this
  · show s.size - segO g7 h.size < s.size - segO g h.size
    rw [segO_at (x := ⟨first, ps ++ [o], o + n, false⟩) c7, segO_at hS.cell]
    simp only []
    omega
end Go.Proofs.YtgdmjdacmebfjaaGreatDoor.D

namespace Go.Proofs.YtgdmjdacmebfjaaGreatDoor.D
open Go

structure LS where
  segs : List Nat
  sg : Nat → Seg
  hand : Option Nat
  begun : Bool
  last : Nat
  durable : Nat
def logOb (a : Nat) (s : Sl) (L : LS) : Obj := .cells #[.pointer (some (blk a)), s.v, .pointer (L.hand.map blk), .bool L.begun, .int .i64 L.last, .int .i64 L.durable] T_wal_Log (0, 0)
structure LogB (h : Hp) (lb a : Nat) (s : Sl) (ps : Nat → Sl) (L : LS) (O : Nat → Prop) : Prop where
  cell : h[lb]? = some (logOb a s L)
  segs : SlOwn h s T_pt_wal_segment 1 (L.segs.map fval)
  seg : ∀ b, b ∈ L.segs → SegAt h b (L.sg b) (ps b)
  dis : ∀ b b' q, b ∈ L.segs → b' ∈ L.segs → (ps b).blk? = some q → (ps b').blk? = some q → b = b'
  ol : O lb
  os : ∀ q, s.blk? = some q → O q
  og : ∀ b, b ∈ L.segs → O b ∧ ∀ q, (ps b).blk? = some q → O q
  lt : ∀ b, O b → b < h.size
structure LogAt (h : Hp) (lb a : Nat) (L : LS) (D : DS) (Od Ol : Nat → Prop) : Prop where
  disk : DiskAt h a D Od
  log : ∃ s ps, LogB h lb a s ps L Ol
  dis : ∀ b, Ol b → ¬ Od b
def Or2 (A B : Nat → Prop) : Nat → Prop := fun b => A b ∨ B b

theorem LogB.frame {h h' : Hp} {lb a : Nat} {s : Sl} {ps : Nat → Sl} {L : LS} {O : Nat → Prop} (H : LogB h lb a s ps L O) (e : ∀ b, O b → h'[b]? = h[b]?) (hs : h.size ≤ h'.size) : LogB h' lb a s ps L O :=
  ⟨(e _ H.ol).trans H.cell, H.segs.frame (fun q hq => e q (H.os q hq)), fun b hb => (H.seg b hb).frame (e b (H.og b hb).1) (fun q hq => e q ((H.og b hb).2 q hq)), H.dis, H.ol, H.os, H.og, fun b hb => Nat.lt_of_lt_of_le (H.lt b hb) hs⟩
theorem LogB.len {h : Hp} {lb a : Nat} {s : Sl} {ps : Nat → Sl} {L : LS} {O : Nat → Prop} (H : LogB h lb a s ps L O) : s.len = L.segs.length := by
  have := H.segs.1
  rw [List.length_map] at this
  omega
theorem LogAt.ollt {h : Hp} {lb a : Nat} {L : LS} {D : DS} {Od Ol : Nat → Prop} (H : LogAt h lb a L D Od Ol) : ∀ b, Ol b → b < h.size := by
  obtain ⟨s, ps, B⟩ := H.log
  exact B.lt
/-- Behind a call on the disk. -/
theorem LogAt.onDisk {h h' : Hp} {lb a : Nat} {L : LS} {D D' : DS} {Od Od' Ol : Nat → Prop} (H : LogAt h lb a L D Od Ol) (hd : DiskAt h' a D' Od') (st : Step h Od h' Od') : LogAt h' lb a L D' Od' Ol ∧ Step h (Or2 Od Ol) h' (Or2 Od' Ol) := by
  obtain ⟨d1, ⟨s, ps, B⟩, d3⟩ := H
  refine ⟨⟨hd, ⟨s, ps, B.frame (fun b hb => st.ext.same b (B.lt b hb) (d3 b hb)) st.size⟩, fun b hb ho => ?_⟩, ⟨⟨st.size, fun b hb hn => st.ext.same b hb (fun ho => hn (.inl ho))⟩, fun b hb => ?_⟩⟩
  · rcases st.own b ho with h1 | h1
    · exact d3 b hb h1
    · have := B.lt b hb; omega
  · rcases hb with hb | hb
    · exact (st.own b hb).imp .inl id
    · exact .inl (.inr hb)
/-- Behind a call that turned nothing that was there. -/
theorem LogAt.grow {h h' : Hp} {lb a : Nat} {L : LS} {D : DS} {Od Ol : Nat → Prop} (H : LogAt h lb a L D Od Ol) (w : Grow h h') : LogAt h' lb a L D Od Ol ∧ Step h (Or2 Od Ol) h' (Or2 Od Ol) :=
  ⟨⟨H.disk.ext w (fun _ hf => hf.elim), by obtain ⟨s, ps, B⟩ := H.log; exact ⟨s, ps, B.frame (fun b hb => w.same b (B.lt b hb) id) w.size⟩, H.dis⟩, .of (w.mono (Nat.le_refl _) (fun _ _ hf => hf.elim))⟩
/-- The log's own block has turned. -/
theorem LogAt.swap {h h' : Hp} {lb a : Nat} {s s' : Sl} {ps : Nat → Sl} {L L' : LS} {D : DS} {Od Ol : Nat → Prop} (H : LogAt h lb a L D Od Ol) (B : LogB h lb a s ps L Ol) (hc : h'[lb]? = some (logOb a s' L')) (ho : ∀ b, b ≠ lb → h'[b]? = h[b]?) (hz : h'.size = h.size)
    (hs : SlOwn h s' T_pt_wal_segment 1 (L'.segs.map fval)) (hb : ∀ q, s'.blk? = some q → s.blk? = some q) (hsub : ∀ b, b ∈ L'.segs → b ∈ L.segs) (hsg : L'.sg = L.sg) : LogAt h' lb a L' D Od Ol ∧ Step h (Or2 Od Ol) h' (Or2 Od Ol) := by
  have n1 : ∀ q, s'.blk? = some q → q ≠ lb := fun q hq => by
    obtain ⟨cs, hcs⟩ := hs.ob hq
    exact ne_tag hcs B.cell rfl
  have n2 : ∀ b, b ∈ L.segs → b ≠ lb := fun b hb => ne_tag (B.seg b hb).cell B.cell rfl
  have n3 : ∀ b q, b ∈ L.segs → (ps b).blk? = some q → q ≠ lb := fun b q hb hq => by
    obtain ⟨cs, hcs⟩ := (B.seg b hb).places.ob hq
    exact ne_tag hcs B.cell rfl
  refine ⟨⟨H.disk.frame (fun b hb => ho b (fun e => H.dis lb B.ol (e ▸ hb))) (by omega), ⟨s', ps, ⟨hc, hs.frame (fun q hq => ho q (n1 q hq)), fun b hb => ?_, fun b b' q h1 h2 => B.dis b b' q (hsub b h1) (hsub b' h2), B.ol, fun q hq => B.os q (hb q hq), fun b hb => B.og b (hsub b hb), fun b hb => by rw [hz]; exact B.lt b hb⟩⟩, H.dis⟩,
    .of ⟨by omega, fun b _ hn => ho b (fun e => hn (.inr (by rw [e]; exact B.ol)))⟩⟩
  rw [hsg]
  exact (B.seg b (hsub b hb)).frame (ho b (n2 b (hsub b hb))) (fun q hq => ho q (n3 b q (hsub b hb) hq))

section
variable {h : Hp} {lb a : Nat} {L : LS} {D : DS} {Od Ol : Nat → Prop}
def Seg.last (x : Seg) : Int := (x.first : Int) + x.places.length - 1
def Seg.Ok (x : Seg) : Prop := x.first ≤ 200000000 ∧ x.places.length ≤ 100000000
theorem seg_last {b : Nat} {x : Seg} {p : Sl} {K : Int → Hp → Prop} (H : SegAt h b x p) (hx : x.Ok) (hk : K x.last h) : C_wal_segment_last (some (blk b)) h K := by
  have hl := H.len
  obtain ⟨x1, x2⟩ := hx
  refine S_wal_segment_last ⟨blk b, rfl, (x.first : Int), cell_at H.cell rfl, p, cell_at H.cell rfl, ?_⟩
  rw [hl, wrap64 (x := (x.first : Int) + x.places.length) (by omega) (by omega), wrap64 (by omega) (by omega)]
  exact hk
theorem log_Last {K : Int → Hp → Prop} (H : LogAt h lb a L D Od Ol) (hk : K (L.last : Int) h) : C_wal_Log_Last (some (blk lb)) h K := by
  obtain ⟨s, ps, B⟩ := H.log
  exact S_wal_Log_Last ⟨blk lb, rfl, _, cell_at B.cell rfl, hk⟩
def LS.first (L : LS) : Nat := match L.segs with
  | [] => L.last + 1
  | b :: _ => (L.sg b).first
theorem log_First {K : Int → Hp → Prop} (H : LogAt h lb a L D Od Ol) (hl : L.last < 1000000000) (hk : K (L.first : Int) h) : C_wal_Log_First (some (blk lb)) h K := by
  obtain ⟨s, ps, B⟩ := H.log
  refine S_wal_Log_First ⟨blk lb, rfl, s, cell_at B.cell rfl, ?_⟩
  rw [B.len]
  unfold LS.first at hk
  cases hs : L.segs with
  | nil =>
    rw [hs] at hk
    rw [if_pos (by rfl)]
    refine ⟨_, cell_at B.cell rfl, ?_⟩
    rw [wrap64 (by omega) (by omega)]
    exact hk
  | cons b r =>
    rw [hs] at hk
    rw [if_neg (by simp only [List.length_cons]; rw [beq_iff_eq]; omega)]
    obtain ⟨p, p1, p2⟩ := B.segs.get (i := 0) (v := fval b) (by rw [hs]; rfl)
    exact ⟨s, cell_at B.cell rfl, p, p1, by omega, by rw [B.len, hs]; simp only [List.length_cons]; omega, some (blk b), p2, blk b, rfl, _, cell_at (B.seg b (by rw [hs]; exact List.mem_cons_self ..)).cell rfl, hk⟩
def LS.end_ (L : LS) : Int := match L.segs.getLast? with
  | none => 0
  | some b => (L.sg b).last
theorem log_end {K : Int → Hp → Prop} (H : LogAt h lb a L D Od Ol) (hok : ∀ b, b ∈ L.segs → (L.sg b).Ok) (hn : L.segs.length < 1000000) (hk : K L.end_ h) : C_wal_Log_end (some (blk lb)) h K := by
  obtain ⟨s, ps, B⟩ := H.log
  refine S_wal_Log_end ⟨blk lb, rfl, s, cell_at B.cell rfl, ?_⟩
  rw [B.len]
  unfold LS.end_ at hk
  cases hs : L.segs.getLast? with
  | none =>
    rw [hs] at hk
    rw [List.getLast?_eq_none_iff] at hs
    rw [if_pos (by rw [hs]; rfl)]
    exact hk
  | some b =>
    rw [hs] at hk
    have hm : b ∈ L.segs := List.mem_of_getLast? hs
    have hne : 0 < L.segs.length := List.length_pos_of_mem hm
    rw [if_neg (by rw [beq_iff_eq]; omega)]
    have hg : L.segs[L.segs.length - 1]? = some b := by rw [← List.getLast?_eq_getElem?]; exact hs
    obtain ⟨p, p1, p2⟩ := B.segs.get (i := L.segs.length - 1) (v := fval b) (by rw [List.getElem?_map, hg]; rfl)
    have hw : IntKind.i64.wrap ((L.segs.length : Int) - 1) = ((L.segs.length - 1 : Nat) : Int) := by rw [wrap64] <;> omega
    refine ⟨s, cell_at B.cell rfl, s, cell_at B.cell rfl, p, p1, by rw [B.len, hw]; omega, by rw [B.len, hw]; omega, some (blk b), by rw [B.len, hw]; exact p2, seg_last (B.seg b hm) (hok b hm) ?_⟩
    exact ⟨cell_at B.cell rfl, cell_at B.cell rfl, by rw [B.len, hw]; exact p2, hk⟩

def standsS (L : LS) (D : DS) (n : Nat) : Int × LS × DS := if D.write.1 then (0, { L with last := n, durable := n, begun := false }, D.syncNames.2) else (11, L, D.syncNames.2)
theorem log_stands {n : Nat} {K : Int → Hp → Prop} (H : LogAt h lb a L D Od Ol) (hk : ∀ h' Od', LogAt h' lb a (standsS L D n).2.1 (standsS L D n).2.2 Od' Ol → Step h (Or2 Od Ol) h' (Or2 Od' Ol) → K (standsS L D n).1 h') : C_wal_Log_stands (some (blk lb)) (n : Int) h K := by
  obtain ⟨s0, ps0, B0⟩ := H.log
  refine S_wal_Log_stands ⟨blk lb, rfl, some (blk a), cell_at B0.cell rfl, disk_SyncNames H.disk fun h1 Od1 d1 st1 => ?_⟩
  obtain ⟨H1, s1⟩ := H.onDisk d1 st1
  unfold standsS at hk
  unfold D_wal_Log_stands_j1
  by_cases hw : D.write.1 = true
  · rw [if_pos hw] at hk
    have e : D.syncNames.1 = 0 := by unfold DS.syncNames; rw [if_pos hw]
    rw [e, if_pos (by decide)]
    obtain ⟨s, ps, B⟩ := H1.log
    refine ⟨_, cell_at B.cell rfl, frz_at B.cell, fun g1 e1 => ?_⟩
    have c1 := set_at (cs' := #[.pointer (some (blk a)), s.v, .pointer (L.hand.map blk), .bool L.begun, .int .i64 n, .int .i64 L.durable]) e1 B.cell rfl
    refine ⟨_, cell_at c1 rfl, frz_at c1, fun g2 e2 => ?_⟩
    have c2 := set_at (cs' := #[.pointer (some (blk a)), s.v, .pointer (L.hand.map blk), .bool L.begun, .int .i64 n, .int .i64 n]) e2 c1 rfl
    refine ⟨_, cell_at c2 rfl, frz_at c2, fun g3 e3 => ?_⟩
    have c3 := set_at (cs' := #[.pointer (some (blk a)), s.v, .pointer (L.hand.map blk), .bool false, .int .i64 n, .int .i64 n]) e3 c2 rfl
    obtain ⟨H3, s3⟩ := H1.swap (L' := { L with last := n, durable := n, begun := false }) B c3 (fun b hb => by rw [e3, setH_ne (by rw [blk_add]; exact hb), e2, setH_ne (by rw [blk_add]; exact hb), e1, setH_ne (by rw [blk_add]; exact hb)]) (by rw [e3, setH_size, e2, setH_size, e1, setH_size]) B.segs (fun _ => id) (fun _ => id) rfl
    exact hk g3 Od1 H3 (s1.trans s3)
  · rw [if_neg hw] at hk
    have e : D.syncNames.1 = 11 := by unfold DS.syncNames; rw [if_neg hw]
    rw [e, if_neg (by decide)]
    exact hk h1 Od1 H1 s1

def lenAt (g : Hp) (b : Nat) : Nat := match g[b]? with
  | some (.cells cs _ _) => match cs[1]? with
    | some (Value.slice _ n _) => n
    | _ => 0
  | _ => 0
theorem lenAt_log {g : Hp} {b a : Nat} {s : Sl} {L : LS} (hc : g[b]? = some (logOb a s L)) : lenAt g b = s.len := by
  unfold lenAt
  rw [hc]
  rfl
def resetL (sg : Nat → Seg) : List Nat → DS → Int × List Nat × DS
  | [], D => (0, [], D)
  | b :: r, D => if (D.remove (nameB (sg b).first)).1 = 0 then resetL sg r (D.remove (nameB (sg b).first)).2 else ((D.remove (nameB (sg b).first)).1, b :: r, (D.remove (nameB (sg b).first)).2)
def resetS (L : LS) (D : DS) (n : Nat) : Int × LS × DS :=
  if (resetL L.sg L.segs D).1 = 0 then standsS { L with segs := [], hand := none } (resetL L.sg L.segs D).2.2 n
  else ((resetL L.sg L.segs D).1, { L with segs := (resetL L.sg L.segs D).2.1 }, (resetL L.sg L.segs D).2.2)
theorem remove_chg (D : DS) (k : ByteArray) : (D.remove k).2.chg.length ≤ D.chg.length + 1 := by
  unfold DS.remove
  split
  · split
    · show D.write.2.chg.length ≤ _; rw [write_chg]; omega
    · show (D.write.2.chg ++ _).length ≤ _; rw [write_chg, List.length_append]; exact Nat.le_refl _
  · show D.write.2.chg.length ≤ _; rw [write_chg]; omega
end
end Go.Proofs.YtgdmjdacmebfjaaGreatDoor.D

namespace Go.Proofs.YtgdmjdacmebfjaaGreatDoor.D
open Go

def sgSet (sg : Nat → Seg) (b : Nat) (x : Seg) : Nat → Seg := fun y => if y = b then x else sg y
def slSet (ps : Nat → Sl) (b : Nat) (x : Sl) : Nat → Sl := fun y => if y = b then x else ps y
theorem sgSet_same (sg : Nat → Seg) (b : Nat) (x : Seg) : sgSet sg b x b = x := if_pos rfl
theorem sgSet_ne (sg : Nat → Seg) {b y : Nat} (x : Seg) (h : y ≠ b) : sgSet sg b x y = sg y := if_neg h
theorem slSet_same (ps : Nat → Sl) (b : Nat) (x : Sl) : slSet ps b x b = x := if_pos rfl
theorem slSet_ne (ps : Nat → Sl) {b y : Nat} (x : Sl) (h : y ≠ b) : slSet ps b x y = ps y := if_neg h

def Seg.more (x : Seg) (n : Nat) : Seg := ⟨x.first, x.places ++ [x.size], x.size + n, true⟩
/-- The log behind a record that was written into segment b. -/
def LS.wrote (L : LS) (b n : Nat) : LS := { L with sg := sgSet L.sg b ((L.sg b).more n), hand := some b, last := L.last + 1 }

section
variable {h : Hp} {lb a : Nat} {L : LS} {D : DS} {Od Ol : Nat → Prop}
theorem log_wrote {b : Nat} {f : ByteArray} {K : Int → Int → Hp → Prop} (H : LogAt h lb a L D Od Ol) (hb : b ∈ L.segs) (hl : L.last < 1000000000) (hp : (L.sg b).places.length < 1000000) (hz : (L.sg b).size + f.size < 1000000000000)
    (hk : ∀ h' Ol', LogAt h' lb a (L.wrote b f.size) D Od Ol' → Step h (Or2 Od Ol) h' (Or2 Od Ol') → K ((L.last + 1 : Nat) : Int) 0 h') : D_wal_Log_Append_j1 K f (blk lb) (some (blk b)) (blk b) h := by
  obtain ⟨s, ps, B⟩ := H.log
  have S := B.seg b hb
  obtain ⟨ob, op⟩ := B.og b hb
  unfold D_wal_Log_Append_j1
  refine ⟨ps b, cell_at S.cell rfl, ((L.sg b).size : Int), cell_at S.cell rfl, fun g1 e1 => ?_⟩
  have w1 : Grow h g1 := (Grow.refl h).push e1
  have z1 : g1.size = h.size + 1 := by rw [e1, Array.size_push]
  have B1 : LogB g1 lb a s ps L Ol := B.frame (fun x hx => w1.same x (B.lt x hx) id) w1.size
  have S1 := B1.seg b hb
  have pl : (ps b).len = (L.sg b).places.length := S1.len
  refine ⟨cell_at S1.cell rfl, cell_at S1.cell rfl, ?_⟩
  refine apd_own S1.places rfl (fun v hv => by rw [List.mem_singleton.1 hv]; trivial) rfl (by omega) (by omega) (by omega) fun p' g2 A => ?_
  have nb : ∀ q, (ps b).blk? = some q → q ≠ b := fun q hq => by
    obtain ⟨cs, hcs⟩ := S1.places.ob hq
    exact ne_tag hcs S1.cell rfl
  have o2 : ∀ x, x < g1.size → (ps b).blk? ≠ some x → g2[x]? = g1[x]? := A.same
  have c2 : g2[b]? = some (segOb (L.sg b) (ps b)) := (o2 b (lt_of_some S1.cell) (fun e => nb b e rfl)).trans S1.cell
  have lbb : lb ≠ b := ne_tag B.cell S.cell rfl
  have nl : ∀ x q, x ∈ L.segs → (ps x).blk? = some q → q ≠ lb := fun x q hx hq => by
    obtain ⟨cs, hcs⟩ := (B1.seg x hx).places.ob hq
    exact ne_tag hcs B1.cell rfl
  have l2 : g2[lb]? = some (logOb a s L) := (o2 lb (lt_of_some B1.cell) (fun e => nl b lb hb e rfl)).trans B1.cell
  refine ⟨cell_at c2 rfl, cell_at c2 rfl, _, cell_at c2 rfl, frz_at c2, fun g3 e3 => ?_⟩
  have c3 := set_at (cs' := #[.int .i64 (L.sg b).first, p'.v, .int .i64 (L.sg b).size, .bool (L.sg b).dirty]) e3 c2 rfl
  refine ⟨((L.sg b).size : Int), cell_at c3 rfl, _, cell_at c3 rfl, frz_at c3, fun g4 e4 => ?_⟩
  have c4 := set_at (cs' := #[.int .i64 (L.sg b).first, p'.v, .int .i64 (((L.sg b).size + f.size : Nat) : Int), .bool (L.sg b).dirty]) e4 c3 (by rw [wrap64 (by omega) (by omega)]; rfl)
  refine ⟨_, cell_at c4 rfl, frz_at c4, fun g5 e5 => ?_⟩
  have c5 := set_at (cs' := #[.int .i64 (L.sg b).first, p'.v, .int .i64 (((L.sg b).size + f.size : Nat) : Int), .bool true]) e5 c4 rfl
  have n5 : ∀ x, x ≠ b → g5[x]? = g2[x]? := fun x hx => by rw [e5, setH_ne (by rw [blk_add]; exact hx), e4, setH_ne (by rw [blk_add]; exact hx), e3, setH_ne (by rw [blk_add]; exact hx)]
  have z5 : g5.size = g2.size := by rw [e5, setH_size, e4, setH_size, e3, setH_size]
  have l5 : g5[lb]? = some (logOb a s L) := (n5 lb lbb).trans l2
  refine ⟨_, cell_at l5 rfl, frz_at l5, fun g6 e6 => ?_⟩
  have l6 := set_at (cs' := #[.pointer (some (blk a)), s.v, .pointer (some (blk b)), .bool L.begun, .int .i64 L.last, .int .i64 L.durable]) e6 l5 rfl
  refine ⟨(L.last : Int), cell_at l6 rfl, _, cell_at l6 rfl, frz_at l6, fun g7 e7 => ?_⟩
  have l7 := set_at (cs' := #[.pointer (some (blk a)), s.v, .pointer (some (blk b)), .bool L.begun, .int .i64 ((L.last + 1 : Nat) : Int), .int .i64 L.durable]) e7 l6 (by rw [wrap64 (by omega) (by omega)]; rfl)
  refine ⟨((L.last + 1 : Nat) : Int), cell_at l7 rfl, ?_⟩
  have n7 : ∀ x, x ≠ lb → g7[x]? = g5[x]? := fun x hx => by rw [e7, setH_ne (by rw [blk_add]; exact hx), e6, setH_ne (by rw [blk_add]; exact hx)]
  have z7 : g7.size = g5.size := by rw [e7, setH_size, e6, setH_size]
  have z2 := A.size
  have p'b : ∀ q, p'.blk? = some q → q = g1.size ∨ (ps b).blk? = some q := fun q hq => by
    rcases A.where_ with hw | hw
    · exact .inr (hw ▸ hq)
    · rw [hw] at hq; cases hq; exact .inl rfl
  have lb1 := lt_of_some B1.cell
  have b1 := lt_of_some S1.cell
  have tr : ∀ x, x < g1.size → x ≠ lb → x ≠ b → (ps b).blk? ≠ some x → g7[x]? = g1[x]? := fun x h1 h2 h3 h4 => by rw [n7 x h2, n5 x h3, o2 x h1 h4]
  refine hk g7 (fun x => Ol x ∨ (x = g1.size ∧ x < g7.size)) ⟨H.disk.frame (fun x hx => ?_) (by omega), ⟨s, slSet ps b p', ⟨l7, B1.segs.frame fun q hq => ?_, fun x hx => ?_, fun x x' q hx hx' hq hq' => ?_, .inl B.ol, fun q hq => .inl (B.os q hq), fun x hx => ⟨.inl (B.og x hx).1, fun q hq => ?_⟩, fun x hx => ?_⟩⟩, fun x hx => ?_⟩ ⟨⟨by omega, fun x hx hnx => ?_⟩, fun x hx => ?_⟩
  · have hxO : ¬ Ol x := fun e => H.dis x e hx
    have := H.disk.lt x hx
    rw [tr x (by omega) (fun e => hxO (e ▸ B.ol)) (fun e => hxO (e ▸ ob)) (fun e => hxO (op x e)), w1.same x this id]
  · obtain ⟨cs, hcs⟩ := B1.segs.ob hq
    refine tr q (B1.segs.lt hq) (ne_tag hcs B1.cell rfl) (ne_tag hcs S1.cell rfl) (fun e => ?_)
    obtain ⟨cs', hcs'⟩ := S1.places.ob e
    exact ne_tag hcs hcs' rfl rfl
  · show SegAt g7 x (sgSet L.sg b ((L.sg b).more f.size) x) (slSet ps b p' x)
    by_cases hxb : x = b
    · subst hxb
      rw [sgSet_same, slSet_same]
      refine ⟨(n7 x lbb.symm).trans c5, ?_⟩
      have := A.own.frame (h' := g7) (fun q hq => by
        have h1 : q ≠ lb := by
          rcases p'b q hq with h | h
          · omega
          · exact nl x q hx h
        have h2 : q ≠ x := by
          rcases p'b q hq with h | h
          · omega
          · exact nb q h
        rw [n7 q h1, n5 q h2])
      simpa [Seg.more, intV] using this
    · rw [sgSet_ne _ _ hxb, slSet_ne _ _ hxb]
      refine (B1.seg x hx).frame (tr x (lt_of_some (B1.seg x hx).cell) (ne_tag (B1.seg x hx).cell B1.cell rfl) hxb (fun e => ?_)) (fun q hq => ?_)
      · obtain ⟨cs, hcs⟩ := S1.places.ob e
        exact ne_tag (B1.seg x hx).cell hcs rfl rfl
      · obtain ⟨cs, hcs⟩ := (B1.seg x hx).places.ob hq
        exact tr q ((B1.seg x hx).places.lt hq) (nl x q hx hq) (ne_tag hcs S1.cell rfl) (fun e => hxb (B.dis x b q hx hb hq e))
  · by_cases hxb : x = b
    · by_cases hxb' : x' = b
      · rw [hxb, hxb']
      · subst hxb
        rw [slSet_same] at hq
        rw [slSet_ne _ _ hxb'] at hq'
        rcases p'b q hq with h | h
        · have := (B1.seg x' hx').places.lt hq'; omega
        · exact B.dis x x' q hx hx' h hq'
    · rw [slSet_ne _ _ hxb] at hq
      by_cases hxb' : x' = b
      · subst hxb'
        rw [slSet_same] at hq'
        rcases p'b q hq' with h | h
        · have := (B1.seg x hx).places.lt hq; omega
        · exact B.dis x x' q hx hx' hq h
      · rw [slSet_ne _ _ hxb'] at hq'
        exact B.dis x x' q hx hx' hq hq'
  · by_cases hxb : x = b
    · subst hxb
      rw [slSet_same] at hq
      have hlt := A.own.lt hq
      exact (p'b q hq).elim (fun h => .inr ⟨h, by omega⟩) (fun h => .inl (op q h))
    · rw [slSet_ne _ _ hxb] at hq
      exact .inl ((B.og x hx).2 q hq)
  · rcases hx with hx | hx
    · have := B1.lt x hx; omega
    · exact hx.2
  · rcases hx with hx | hx
    · exact H.dis x hx
    · intro ho
      have := H.disk.lt x ho
      omega
  · rw [tr x (by omega) (fun e => hnx (.inr (by rw [e]; exact B.ol))) (fun e => hnx (.inr (by rw [e]; exact ob))) (fun e => hnx (.inr (op x e))), w1.same x hx id]
  · rcases hx with hx | hx | hx
    · exact .inl (.inl hx)
    · exact .inl (.inr hx)
    · exact .inr (by omega)

def LS.reuse (L : LS) : Option Nat := match L.hand with
  | some b => if (L.sg b).places.length < 16 then some b else none
  | none => none
def LS.begin_ (L : LS) (b : Nat) : LS := { L with segs := L.segs ++ [b], sg := sgSet L.sg b ⟨L.last + 1, [], 0, false⟩, begun := true }
/-- A new segment is taken into the log. -/
theorem log_begin {b : Nat} {s : Sl} {ps : Nat → Sl} {K : Hp → Prop} (H : LogAt h lb a L D Od Ol) (B : LogB h lb a s ps L Ol) (hb : h[b]? = some (segOb ⟨L.last + 1, [], 0, false⟩ ⟨none, 0, 0⟩)) (hnl : ¬ Ol b) (hnd : ¬ Od b) (hn : L.segs.length < 1000000) {h0 : Hp} {O0 : Nat → Prop} (hb0 : h0.size ≤ b)
    (st : Step h0 O0 h (Or2 Od Ol))
    (hk : ∀ h' Ol', LogAt h' lb a (L.begin_ b) D Od Ol' → Step h0 O0 h' (Or2 Od Ol') → K h') :
    ∀ h1 : Hp, h1 = h.push (.cells #[Value.pointer (some (blk b))] T_pt_wal_segment) → apd 1 8 T_pt_wal_segment [Value.pointer none] h1 s 1 [Value.pointer (some (blk b))] fun s' h2 =>
      ∃ u75 : Value, cellH h2 ((blk lb).add 1) = some u75 ∧ frozenH h2 ((blk lb).add 1) = false ∧ ∀ h3 : Hp, h3 = setH h2 ((blk lb).add 1) (Sl.v s') →
      ∃ u80 : Value, cellH h3 ((blk lb).add 3) = some u80 ∧ frozenH h3 ((blk lb).add 3) = false ∧ ∀ h4 : Hp, h4 = setH h3 ((blk lb).add 3) (Value.bool true) → K h4 := by
  intro g1 e1
  have w1 : Grow h g1 := (Grow.refl h).push e1
  have z1 : g1.size = h.size + 1 := by rw [e1, Array.size_push]
  have B1 : LogB g1 lb a s ps L Ol := B.frame (fun x hx => w1.same x (B.lt x hx) id) w1.size
  have hb1 := w1.at_ hb
  have sl := B.len
  refine apd_own B1.segs rfl (fun v hv => by rw [List.mem_singleton.1 hv]; trivial) rfl (by omega) (by omega) (by omega) fun s' g2 A => ?_
  have slb : ∀ q, s.blk? = some q → q ≠ lb := fun q hq => by
    obtain ⟨cs, hcs⟩ := B1.segs.ob hq
    exact ne_tag hcs B1.cell rfl
  have z2 := A.size
  have l2 : g2[lb]? = some (logOb a s L) := (A.same lb (lt_of_some B1.cell) (fun e => slb lb e rfl)).trans B1.cell
  refine ⟨_, cell_at l2 rfl, frz_at l2, fun g3 e3 => ?_⟩
  have l3 := set_at (cs' := #[.pointer (some (blk a)), s'.v, .pointer (L.hand.map blk), .bool L.begun, .int .i64 L.last, .int .i64 L.durable]) e3 l2 rfl
  refine ⟨_, cell_at l3 rfl, frz_at l3, fun g4 e4 => ?_⟩
  have l4 := set_at (cs' := #[.pointer (some (blk a)), s'.v, .pointer (L.hand.map blk), .bool true, .int .i64 L.last, .int .i64 L.durable]) e4 l3 rfl
  have n4 : ∀ x, x ≠ lb → g4[x]? = g2[x]? := fun x hx => by rw [e4, setH_ne (by rw [blk_add]; exact hx), e3, setH_ne (by rw [blk_add]; exact hx)]
  have z4 : g4.size = g2.size := by rw [e4, setH_size, e3, setH_size]
  have lb1 := lt_of_some B1.cell
  have tr : ∀ x, x < g1.size → x ≠ lb → s.blk? ≠ some x → g4[x]? = g1[x]? := fun x h1 h2 h3 => by rw [n4 x h2, A.same x h1 h3]
  have s'b : ∀ q, s'.blk? = some q → q = g1.size ∨ s.blk? = some q := fun q hq => by
    rcases A.where_ with hw | hw
    · exact .inr (hw ▸ hq)
    · rw [hw] at hq; cases hq; exact .inl rfl
  have bns : b ∉ L.segs := fun e => hnl (B.og b e).1
  have hbl := lt_of_some hb
  refine hk g4 (fun x => Ol x ∨ x = b ∨ (x = g1.size ∧ x < g4.size)) ⟨H.disk.frame (fun x hx => ?_) (by omega), ⟨s', slSet ps b ⟨none, 0, 0⟩, ⟨l4, ?_, fun x hx => ?_, fun x x' q hx hx' hq hq' => ?_, .inl B.ol, fun q hq => ?_, fun x hx => ?_, fun x hx => ?_⟩⟩, fun x hx => ?_⟩ ⟨⟨by have := st.size; omega, fun x hx hnx => ?_⟩, fun x hx => ?_⟩
  · have hxO : ¬ Ol x := fun e => H.dis x e hx
    have := H.disk.lt x hx
    rw [tr x (by omega) (fun e => hxO (e ▸ B.ol)) (fun e => hxO (B.os x e)), w1.same x this id]
  · have := A.own.frame (h' := g4) (fun q hq => n4 q (by
      rcases s'b q hq with h | h
      · omega
      · exact slb q h))
    simpa [LS.begin_, fval] using this
  · show SegAt g4 x (sgSet L.sg b ⟨L.last + 1, [], 0, false⟩ x) (slSet ps b ⟨none, 0, 0⟩ x)
    have hx' : x ∈ L.segs ++ [b] := hx
    by_cases hxb : x = b
    · rw [hxb, sgSet_same, slSet_same]
      refine ⟨?_, .nil⟩
      rw [tr b (by omega) (ne_tag hb1 B1.cell rfl) (fun e => hnl (B.os b e)), hb1]
    · rw [sgSet_ne _ _ hxb, slSet_ne _ _ hxb]
      have hxm : x ∈ L.segs := by
        rcases List.mem_append.1 hx' with h | h
        · exact h
        · exact absurd (List.mem_singleton.1 h) hxb
      refine (B1.seg x hxm).frame (tr x (lt_of_some (B1.seg x hxm).cell) (ne_tag (B1.seg x hxm).cell B1.cell rfl) (fun e => ?_)) (fun q hq => ?_)
      · obtain ⟨cs, hcs⟩ := B1.segs.ob e
        exact ne_tag (B1.seg x hxm).cell hcs rfl rfl
      · obtain ⟨cs, hcs⟩ := (B1.seg x hxm).places.ob hq
        refine tr q ((B1.seg x hxm).places.lt hq) (ne_tag hcs B1.cell rfl) (fun e => ?_)
        obtain ⟨cs', hcs'⟩ := B1.segs.ob e
        exact ne_tag hcs hcs' rfl rfl
  · by_cases hxb : x = b
    · rw [hxb, slSet_same] at hq
      exact absurd hq (by simp [Sl.blk?])
    · by_cases hxb' : x' = b
      · rw [hxb', slSet_same] at hq'
        exact absurd hq' (by simp [Sl.blk?])
      · rw [slSet_ne _ _ hxb] at hq
        rw [slSet_ne _ _ hxb'] at hq'
        have m1 : x ∈ L.segs := (List.mem_append.1 hx).elim id (fun h => absurd (List.mem_singleton.1 h) hxb)
        have m2 : x' ∈ L.segs := (List.mem_append.1 hx').elim id (fun h => absurd (List.mem_singleton.1 h) hxb')
        exact B.dis x x' q m1 m2 hq hq'
  · have hlt := A.own.lt hq
    rcases s'b q hq with h | h
    · exact .inr (.inr ⟨h, by omega⟩)
    · exact .inl (B.os q h)
  · by_cases hxb : x = b
    · rw [hxb, slSet_same]
      exact ⟨.inr (.inl rfl), fun q hq => absurd hq (by simp [Sl.blk?])⟩
    · rw [slSet_ne _ _ hxb]
      have m1 : x ∈ L.segs := (List.mem_append.1 hx).elim id (fun h => absurd (List.mem_singleton.1 h) hxb)
      exact ⟨.inl (B.og x m1).1, fun q hq => .inl ((B.og x m1).2 q hq)⟩
  · rcases hx with hx | hx | hx
    · have := B1.lt x hx; omega
    · omega
    · exact hx.2
  · rcases hx with hx | hx | hx
    · exact H.dis x hx
    · rw [hx]; exact hnd
    · intro ho
      have := H.disk.lt x ho
      omega
  · have hs := st.size
    rw [tr x (by omega) (fun e => ?_) (fun e => ?_), w1.same x (by omega) id]
    · exact st.ext.same x hx hnx
    · rcases st.own lb (.inr B.ol) with h | h
      · exact hnx (e ▸ h)
      · omega
    · rcases st.own x (.inr (B.os x e)) with h | h
      · exact hnx h
      · omega
  · rcases hx with hx | hx | hx | hx
    · exact st.own x (.inl hx)
    · exact st.own x (.inr hx)
    · exact .inr (by omega)
    · exact .inr (by have := st.size; omega)
end
end Go.Proofs.YtgdmjdacmebfjaaGreatDoor.D

namespace Go.Proofs.YtgdmjdacmebfjaaGreatDoor.D
open Go

section
variable {h : Hp} {lb a : Nat} {L : LS} {D : DS} {Od Ol : Nat → Prop}
/-- What a log that works keeps to. -/
structure LS.Ok (L : LS) : Prop where
  last : L.last ≤ 200000000
  n : L.segs.length < 1000000
  hand : ∀ b, L.hand = some b → b ∈ L.segs ∧ (L.sg b).places ≠ []
  seg : ∀ b, b ∈ L.segs → (L.sg b).Ok ∧ (L.sg b).places.length < 1000000 ∧ (L.sg b).size < 100000000000
structure DS.Ok (D : DS) : Prop where
  chg : D.chg.length < 1000000
  room : 0 ≤ D.room ∧ D.room < 4611686018427387904
  used : D.used < 4611686018427387904
def LS.cur (L : LS) : Seg := match L.reuse with
  | some b => L.sg b
  | none => ⟨L.last + 1, [], 0, false⟩
def frameOf (s : ByteArray) : ByteArray := frameB 1 s
/-- The log behind an Append that went; b: the segment's block, if it is a new one. -/
def LS.app (L : LS) (s : ByteArray) (b : Nat) : LS := match L.reuse with
  | some b => L.wrote b (frameOf s).size
  | none => (L.begin_ b).wrote b (frameOf s).size
theorem frame_size {s : ByteArray} (hs : s.size ≤ 65536) : (frameOf s).size ≤ 100000 := by
  unfold frameOf frameB frameBody
  rw [ByteArray.size_append, ByteArray.size_append, ByteArray.size_append, numB_size]
  have := cnt_le s.size
  show 1 + _ + 4 ≤ _
  omega

theorem log_Append {s : ByteArray} {K : Int → Int → Hp → Prop} (H : LogAt h lb a L D Od Ol) (hL : L.Ok) (hD : D.Ok) (hs : s.size < 4611686018427387904)
    (k8 : 65536 < s.size → ∀ h', Grow h h' → K 0 8 h')
    (k4 : s.size ≤ 65536 → 99999999 ≤ L.last → ∀ h', Grow h h' → K 0 4 h')
    (kd : ∀ e : Int, (e = 11 ∧ D.write.1 = false) ∨ (e = 3 ∧ ¬ rightP (nameB L.cur.first)) ∨ (e = 4 ∧ D.full (nameB L.cur.first) (frameOf s)) → ∀ h' Od', LogAt h' lb a L D.write.2 Od' Ol → Step h (Or2 Od Ol) h' (Or2 Od' Ol) → K 0 e h')
    (k0 : s.size ≤ 65536 → L.last < 99999999 → D.write.1 = true → rightP (nameB L.cur.first) → ¬ D.full (nameB L.cur.first) (frameOf s) → ∀ h' Od' Ol' b fb, b ∉ L.segs → ¬ D.has fb → LogAt h' lb a (L.app s b) (D.put (nameB L.cur.first) (frameOf s) fb) Od' Ol' → Step h (Or2 Od Ol) h' (Or2 Od' Ol') → K ((L.last + 1 : Nat) : Int) 0 h') :
    C_wal_Log_Append (some (blk lb)) s h K := by
  obtain ⟨hL1, hL2, hL3, hL4⟩ := hL
  obtain ⟨hD1, hD2, hD3⟩ := hD
  have hput : C_frame_Put ((1 : Nat) : Int) s h fun r2 r3 hz1 => if (r3 != (0 : Int)) = true then K 0 r3 hz1 else
      ∃ a5 : Addr, some (blk lb) = some a5 ∧ ∃ x7 : Int, cellH hz1 (a5.add 4) = some (Value.int .i64 x7) ∧
      if (decide (x7 ≥ (99999999 : Int))) = true then K 0 4 hz1 else
        ∃ x10 : Option Addr, cellH hz1 (a5.add 2) = some (Value.pointer x10) ∧
        if x10.isNone = true then D_wal_Log_Append_j3 K r2 a5 x10 true hz1 else
          ∃ a94 : Addr, x10 = some a94 ∧ ∃ x96 : Sl, cellH hz1 (a94.add 1) = some (Sl.v x96) ∧ D_wal_Log_Append_j3 K r2 a5 x10 (decide ((x96.len : Int) ≥ (16 : Int))) hz1 := by
    refine frame_Put ⟨by decide, by decide⟩ hs (fun hle h1 w1 => ?_) (fun hgt h1 w1 => by rw [if_pos (by decide)]; exact k8 hgt h1 w1)
    rw [if_neg (by decide)]
    obtain ⟨H1, s1⟩ := H.grow w1
    obtain ⟨sl, ps, B⟩ := H1.log
    refine ⟨blk lb, rfl, (L.last : Int), cell_at B.cell rfl, ?_⟩
    by_cases hlast : 99999999 ≤ L.last
    · rw [if_pos (decide_eq_true (by omega))]
      exact k4 hle hlast h1 w1
    rw [if_neg (by rw [decide_eq_true_iff]; omega)]
    have hfs : (frameOf s).size ≤ 100000 := frame_size hle
    -- a segment that is there
    have old : ∀ b, L.reuse = some b → D_wal_Log_Append_j2 K (frameOf s) (blk lb) (some (blk b)) h1 := by
      intro b hr
      have hb : b ∈ L.segs ∧ (L.sg b).places ≠ [] := by
        unfold LS.reuse at hr
        cases hh : L.hand with
        | none => rw [hh] at hr; cases hr
        | some b' =>
          rw [hh] at hr
          simp only [] at hr
          split at hr
          · cases hr; exact hL3 _ hh
          · cases hr
      have hcur : L.cur = L.sg b := by unfold LS.cur; rw [hr]
      rw [hcur] at kd k0
      obtain ⟨⟨q1, q2⟩, q3, q4⟩ := hL4 b hb.1
      unfold D_wal_Log_Append_j2
      refine ⟨some (blk a), cell_at B.cell rfl, blk b, rfl, ((L.sg b).first : Int), cell_at (B.seg b hb.1).cell rfl, wal_name_ (by omega) fun h2 w2 => ?_⟩
      obtain ⟨H2, s2⟩ := H1.grow w2
      obtain ⟨sl2, ps2, B2⟩ := H2.log
      refine ⟨cell_at B2.cell rfl, cell_at (B2.seg b hb.1).cell rfl, ?_⟩
      have fin : ∀ (Z : Prop) (e : Int), e ≠ 0 → ((e = 11 ∧ D.write.1 = false) ∨ (e = 3 ∧ ¬ rightP (nameB (L.sg b).first)) ∨ (e = 4 ∧ D.full (nameB (L.sg b).first) (frameOf s))) → ∀ h' O', DiskAt h' a D.write.2 O' → Step h2 Od h' O' →
          cellH h' ((blk lb).add 0) = some (Value.pointer (some (blk a))) ∧ cellH h' ((blk b).add 0) = some (Value.int .i64 ((L.sg b).first : Int)) ∧ if (e != (0 : Int)) = true then K 0 e h' else Z := by
        intro Z e he hc h' O' hd st
        obtain ⟨H3, s3⟩ := H2.onDisk hd st
        obtain ⟨sl3, ps3, B3⟩ := H3.log
        refine ⟨cell_at B3.cell rfl, cell_at (B3.seg b hb.1).cell rfl, ?_⟩
        rw [if_pos (by rw [bne_iff_ne]; exact he)]
        exact kd e hc h' O' H3 ((s1.trans s2).trans s3)
      refine disk_Append H2.disk hD1 hD2 hD3 (fun hw h' O' hd st => fin _ 11 (by decide) (.inl ⟨rfl, hw⟩) h' O' hd st) (fun _ hnr h' O' hd st => fin _ 3 (by decide) (.inr (.inl ⟨rfl, hnr⟩)) h' O' hd st) (fun _ _ hfl h' O' hd st => fin _ 4 (by decide) (.inr (.inr ⟨rfl, hfl⟩)) h' O' hd st) fun hw hr2 hnf h3 O3 fb hfb hd st => ?_
      obtain ⟨H3, s3⟩ := H2.onDisk hd st
      obtain ⟨sl3, ps3, B3⟩ := H3.log
      have nhas : ¬ D.has fb := fun e => by
        obtain ⟨_, _, _, Bd⟩ := H2.disk
        have := Bd.lt _ (Bd.file fb e).2
        omega
      refine ⟨cell_at B3.cell rfl, cell_at (B3.seg b hb.1).cell rfl, ?_⟩
      rw [if_neg (by decide)]
      refine ⟨ps3 b, cell_at (B3.seg b hb.1).cell rfl, ?_⟩
      have hlen : (ps3 b).len ≠ 0 := by
        rw [(B3.seg b hb.1).len]
        exact fun e => hb.2 (List.eq_nil_of_length_eq_zero e)
      rw [if_neg (by rw [beq_iff_eq]; omega)]
      refine log_wrote H3 hb.1 (by omega) q3 (by omega) fun h4 Ol4 H4 s4 => ?_
      refine k0 hle (by omega) hw hr2 hnf h4 O3 Ol4 h2.size fb (fun e => ?_) nhas ?_ (((s1.trans s2).trans s3).trans s4)
      · have := lt_of_some (B2.seg _ e).cell
        omega
      · unfold LS.app
        rw [hr]
        exact H4
    -- a new one
    have new : L.reuse = none → D_wal_Log_Append_j3 K (frameOf s) (blk lb) (L.hand.map blk) true h1 := by
      intro hr
      have hcur : L.cur = ⟨L.last + 1, [], 0, false⟩ := by unfold LS.cur; rw [hr]
      rw [hcur] at kd k0
      unfold D_wal_Log_Append_j3
      rw [if_pos rfl]
      refine ⟨(L.last : Int), cell_at B.cell rfl, fun g1 e1 => ?_⟩
      have hb1 : g1[h1.size]? = some (segOb ⟨L.last + 1, [], 0, false⟩ ⟨none, 0, 0⟩) := (push_new e1).trans (by rw [wrap64 (by omega) (by omega)]; rfl)
      have wg : Grow h1 g1 := (Grow.refl h1).push e1
      obtain ⟨Hg, sg⟩ := H1.grow wg
      obtain ⟨slg, psg, Bg⟩ := Hg.log
      unfold D_wal_Log_Append_j2
      refine ⟨some (blk a), cell_at Bg.cell rfl, blk h1.size, rfl, ((L.last + 1 : Nat) : Int), cell_at hb1 rfl, wal_name_ (by omega) fun h2 w2 => ?_⟩
      obtain ⟨H2, s2⟩ := Hg.grow w2
      obtain ⟨sl2, ps2, B2⟩ := H2.log
      have hb2 := w2.at_ hb1
      have nOd : ¬ Od h1.size := fun e => Nat.lt_irrefl _ (H1.disk.lt _ e)
      have nOl : ¬ Ol h1.size := fun e => Nat.lt_irrefl _ (B.lt _ e)
      refine ⟨cell_at B2.cell rfl, cell_at hb2 rfl, ?_⟩
      have fin : ∀ (Z : Prop) (e : Int), e ≠ 0 → ((e = 11 ∧ D.write.1 = false) ∨ (e = 3 ∧ ¬ rightP (nameB (L.last + 1))) ∨ (e = 4 ∧ D.full (nameB (L.last + 1)) (frameOf s))) → ∀ h' O', DiskAt h' a D.write.2 O' → Step h2 Od h' O' →
          cellH h' ((blk lb).add 0) = some (Value.pointer (some (blk a))) ∧ cellH h' ((blk h1.size).add 0) = some (Value.int .i64 ((L.last + 1 : Nat) : Int)) ∧ if (e != (0 : Int)) = true then K 0 e h' else Z := by
        intro Z e he hc h' O' hd st
        obtain ⟨H3, s3⟩ := H2.onDisk hd st
        obtain ⟨sl3, ps3, B3⟩ := H3.log
        refine ⟨cell_at B3.cell rfl, cell_at (st.keep hb2 nOd) rfl, ?_⟩
        rw [if_pos (by rw [bne_iff_ne]; exact he)]
        exact kd e hc h' O' H3 (((s1.trans sg).trans s2).trans s3)
      refine disk_Append H2.disk hD1 hD2 hD3 (fun hw h' O' hd st => fin _ 11 (by decide) (.inl ⟨rfl, hw⟩) h' O' hd st) (fun _ hnr h' O' hd st => fin _ 3 (by decide) (.inr (.inl ⟨rfl, hnr⟩)) h' O' hd st) (fun _ _ hfl h' O' hd st => fin _ 4 (by decide) (.inr (.inr ⟨rfl, hfl⟩)) h' O' hd st) fun hw hr2 hnf h3 O3 fb hfb hd st => ?_
      obtain ⟨H3, s3⟩ := H2.onDisk hd st
      obtain ⟨sl3, ps3, B3⟩ := H3.log
      have hb3 := st.keep hb2 nOd
      have nhas : ¬ D.has fb := fun e => by
        obtain ⟨_, _, _, Bd⟩ := H2.disk
        have := Bd.lt _ (Bd.file fb e).2
        omega
      have nO3 : ¬ O3 h1.size := fun e => (st.own _ e).elim nOd (fun h => by have := lt_of_some hb2; omega)
      refine ⟨cell_at B3.cell rfl, cell_at hb3 rfl, ?_⟩
      rw [if_neg (by decide)]
      refine ⟨⟨none, 0, 0⟩, cell_at hb3 rfl, ?_⟩
      rw [if_pos (by rfl)]
      refine ⟨sl3, cell_at B3.cell rfl, log_begin H3 B3 hb3 nOl nO3 hL2 w1.size (((s1.trans sg).trans s2).trans s3) fun h4 Ol4 H4 s4 => ?_⟩
      have hm : h1.size ∈ (L.begin_ h1.size).segs := by show _ ∈ L.segs ++ [h1.size]; exact List.mem_append_right _ (List.mem_singleton.2 rfl)
      have hc0 : (L.begin_ h1.size).sg h1.size = ⟨L.last + 1, [], 0, false⟩ := sgSet_same ..
      refine log_wrote H4 hm (by show L.last < _; omega) (by rw [hc0]; show 0 < _; omega) (by rw [hc0]; show 0 + _ < _; omega) fun h5 Ol5 H5 s5 => ?_
      refine k0 hle (by omega) hw hr2 hnf h5 O3 Ol5 h1.size fb (fun e => nOl (B.og _ e).1) nhas ?_ (s4.trans s5)
      unfold LS.app
      rw [hr]
      exact H5
    refine ⟨L.hand.map blk, cell_at B.cell rfl, ?_⟩
    show if (L.hand.map blk).isNone = true then _ else _
    cases hh : L.hand with
    | none =>
      rw [if_pos (by rfl)]
      have := new (by unfold LS.reuse; rw [hh])
      rw [hh] at this
      exact this
    | some b =>
      rw [if_neg (by simp)]
      have hb := hL3 b hh
      refine ⟨blk b, rfl, ps b, cell_at (B.seg b hb.1).cell rfl, ?_⟩
      rw [(B.seg b hb.1).len]
      by_cases h16 : (L.sg b).places.length < 16
      · rw [show decide (((L.sg b).places.length : Int) ≥ 16) = false by rw [decide_eq_false_iff_not]; omega]
        have := old b (by unfold LS.reuse; rw [hh]; simp only []; rw [if_pos h16])
        unfold D_wal_Log_Append_j3
        rw [if_neg (by decide)]
        exact this
      · rw [show decide (((L.sg b).places.length : Int) ≥ 16) = true by rw [decide_eq_true_iff]; omega]
        have := new (by unfold LS.reuse; rw [hh]; simp only []; rw [if_neg h16])
        rw [hh] at this
        exact this
  exact S_wal_Log_Append hput
end
end Go.Proofs.YtgdmjdacmebfjaaGreatDoor.D

namespace Go.Proofs.YtgdmjdacmebfjaaGreatDoor.D
open Go

section
variable {h : Hp} {lb a : Nat} {L : LS} {D : DS} {Od Ol : Nat → Prop}
/-- A segment's block has turned; its places have not. -/
theorem LogAt.swapSeg {h' : Hp} {b : Nat} {x : Seg} {s : Sl} {ps : Nat → Sl} (H : LogAt h lb a L D Od Ol) (B : LogB h lb a s ps L Ol) (hb : b ∈ L.segs) (hc : h'[b]? = some (segOb x (ps b))) (hx : x.places = (L.sg b).places) (ho : ∀ y, y ≠ b → h'[y]? = h[y]?) (hz : h'.size = h.size) :
    LogAt h' lb a { L with sg := sgSet L.sg b x } D Od Ol ∧ Step h (Or2 Od Ol) h' (Or2 Od Ol) := by
  have S := B.seg b hb
  have np : ∀ y q, y ∈ L.segs → (ps y).blk? = some q → q ≠ b := fun y q hy hq => by
    obtain ⟨cs, hcs⟩ := (B.seg y hy).places.ob hq
    exact ne_tag hcs S.cell rfl
  refine ⟨⟨H.disk.frame (fun y hy => ho y (fun e => H.dis b (B.og b hb).1 (e ▸ hy))) (by omega), ⟨s, ps, ⟨(ho lb (ne_tag B.cell S.cell rfl)).trans B.cell, B.segs.frame fun q hq => ho q ?_, fun y hy => ?_, B.dis, B.ol, B.os, B.og, fun y hy => by rw [hz]; exact B.lt y hy⟩⟩, H.dis⟩,
    .of ⟨by omega, fun y _ hn => ho y (fun e => hn (.inr (by rw [e]; exact (B.og b hb).1)))⟩⟩
  · obtain ⟨cs, hcs⟩ := B.segs.ob hq
    exact ne_tag hcs S.cell rfl
  · show SegAt h' y (sgSet L.sg b x y) (ps y)
    by_cases hyb : y = b
    · subst hyb
      rw [sgSet_same]
      refine ⟨hc, ?_⟩
      rw [hx]
      exact S.places.frame fun q hq => ho q (np y q hb hq)
    · rw [sgSet_ne _ _ hyb]
      exact (B.seg y hy).frame (ho y hyb) (fun q hq => ho q (np y q hy hq))

def Seg.clean (x : Seg) : Seg := { x with dirty := false }
def syncL : List Nat → (Nat → Seg) → DS → Int × (Nat → Seg) × DS
  | [], sg, D => (0, sg, D)
  | b :: r, sg, D => if (sg b).dirty = true then
      (if (D.sync (nameB (sg b).first)).1 = 0 then syncL r (sgSet sg b (sg b).clean) (D.sync (nameB (sg b).first)).2 else ((D.sync (nameB (sg b).first)).1, sg, (D.sync (nameB (sg b).first)).2))
    else syncL r sg D
def syncS2 (L : LS) (D : DS) : Int × LS × DS :=
  if L.begun = true then (if D.write.1 then (0, { L with begun := false, durable := L.last }, D.syncNames.2) else (11, L, D.syncNames.2))
  else (0, { L with durable := L.last }, D)
def syncS (L : LS) (D : DS) : Int × LS × DS :=
  if (syncL L.segs L.sg D).1 = 0 then syncS2 { L with sg := (syncL L.segs L.sg D).2.1 } (syncL L.segs L.sg D).2.2
  else ((syncL L.segs L.sg D).1, { L with sg := (syncL L.segs L.sg D).2.1 }, (syncL L.segs L.sg D).2.2)
theorem log_Sync {K : Int → Hp → Prop} (H : LogAt h lb a L D Od Ol) (hn : L.segs.length < 1000000) (hok : ∀ b, b ∈ L.segs → (L.sg b).first < 1000000000)
    (hk : ∀ h' Od', LogAt h' lb a (syncS L D).2.1 (syncS L D).2.2 Od' Ol → Step h (Or2 Od Ol) h' (Or2 Od' Ol) → K (syncS L D).1 h') : C_wal_Log_Sync (some (blk lb)) h K := by
  obtain ⟨s0, ps0, B0⟩ := H.log
  refine S_wal_Log_Sync ⟨blk lb, rfl, s0, cell_at B0.cell rfl, fun x g => ∃ (i : Nat) (sg : Nat → Seg) (D1 : DS) (Od1 : Nat → Prop), i ≤ L.segs.length ∧ x = (i : Int) ∧ LogAt g lb a { L with sg := sg } D1 Od1 Ol ∧ (∃ ps, LogB g lb a s0 ps { L with sg := sg } Ol) ∧ Step h (Or2 Od Ol) g (Or2 Od1 Ol) ∧
      syncL (L.segs.drop i) sg D1 = syncL L.segs L.sg D ∧ (∀ b, (sg b).first = (L.sg b).first), fun x _ => L.segs.length - x.toNat, ⟨0, L.sg, D, Od, by omega, rfl, H, ⟨ps0, B0⟩, .refl _ _, rfl, fun _ => rfl⟩, ?_⟩
  rintro x g ⟨i, sg, D1, Od1, hi, rfl, Hg, ⟨ps, B⟩, st, hres, hfir⟩
  unfold D_wal_Log_Sync_l3 D_wal_Log_Sync_j1
  rw [B0.len]
  by_cases hil : i < L.segs.length
  · rw [if_pos (decide_eq_true (by omega))]
    obtain ⟨b, hb⟩ : ∃ b, L.segs[i]? = some b := ⟨_, List.getElem?_eq_getElem hil⟩
    have hm : b ∈ L.segs := List.mem_of_getElem? hb
    obtain ⟨p, p1, p2⟩ := B.segs.get (i := i) (v := fval b) (by show (L.segs.map fval)[i]? = _; rw [List.getElem?_map, hb]; rfl)
    have hdrop : L.segs.drop i = b :: L.segs.drop (i + 1) := by
      rw [List.drop_eq_getElem_cons hil]
      congr 1
      rw [List.getElem?_eq_getElem hil] at hb
      exact Option.some.inj hb
    rw [hdrop, syncL] at hres
    refine ⟨p, p1, by omega, by omega, some (blk b), p2, blk b, rfl, (sg b).dirty, cell_at (B.seg b hm).cell rfl, ?_⟩
    have hmu : L.segs.length - ((i : Int) + 1).toNat < L.segs.length - (i : Int).toNat := by omega
    cases hd : (sg b).dirty with
    | false =>
      rw [hd, if_neg (by decide)] at hres
      rw [if_pos (by decide)]
      refine ⟨⟨i + 1, sg, D1, Od1, by omega, by rw [wrap64] <;> omega, Hg, ⟨ps, B⟩, st, hres, hfir⟩, ?_⟩
      rw [wrap64 (by omega) (by omega)]
      exact hmu
    | true =>
      rw [hd, if_pos rfl] at hres
      rw [if_neg (by decide)]
      refine ⟨some (blk a), cell_at B.cell rfl, ((sg b).first : Int), cell_at (B.seg b hm).cell rfl, wal_name_ (by rw [hfir]; exact hok b hm) fun g1 w1 => ?_⟩
      obtain ⟨H1, s1⟩ := Hg.grow w1
      have B1 : LogB g1 lb a s0 ps { L with sg := sg } Ol := B.frame (fun x hx => w1.same x (B.lt x hx) id) w1.size
      refine ⟨cell_at B1.cell rfl, cell_at (B1.seg b hm).cell rfl, disk_Sync H1.disk fun g2 Od2 d2 st2 => ?_⟩
      obtain ⟨H2, s2⟩ := H1.onDisk d2 st2
      have B2 : LogB g2 lb a s0 ps { L with sg := sg } Ol := B1.frame (fun x hx => st2.ext.same x (B1.lt x hx) (H1.dis x hx)) st2.size
      refine ⟨cell_at B2.cell rfl, cell_at (B2.seg b hm).cell rfl, ?_⟩
      by_cases h0 : (D1.sync (nameB (sg b).first)).1 = 0
      · rw [if_pos h0] at hres
        rw [if_neg (by rw [bne_iff_ne]; exact fun e => e h0)]
        refine ⟨_, cell_at (B2.seg b hm).cell rfl, frz_at (B2.seg b hm).cell, fun g3 e3 => ?_⟩
        have c3 := set_at (cs' := #[.int .i64 (sg b).first, (ps b).v, .int .i64 (sg b).size, .bool false]) e3 (B2.seg b hm).cell rfl
        obtain ⟨H3, s3⟩ := H2.swapSeg (x := (sg b).clean) B2 hm c3 rfl (fun y hy => by rw [e3, setH_ne (by rw [blk_add]; exact hy)]) (by rw [e3, setH_size])
        have B3 : LogB g3 lb a s0 ps { L with sg := sgSet sg b (sg b).clean } Ol := by
          have n3 : ∀ y, y ≠ b → g3[y]? = g2[y]? := fun y hy => by rw [e3, setH_ne (by rw [blk_add]; exact hy)]
          refine ⟨(n3 lb (ne_tag B2.cell (B2.seg b hm).cell rfl)).trans B2.cell, B2.segs.frame fun q hq => n3 q ?_, fun y hy => ?_, B2.dis, B2.ol, B2.os, B2.og, fun y hy => by rw [e3, setH_size]; exact B2.lt y hy⟩
          · obtain ⟨cs, hcs⟩ := B2.segs.ob hq
            exact ne_tag hcs (B2.seg b hm).cell rfl
          · show SegAt g3 y (sgSet sg b (sg b).clean y) (ps y)
            have np : ∀ q, (ps y).blk? = some q → q ≠ b := fun q hq => by
              obtain ⟨cs, hcs⟩ := (B2.seg y hy).places.ob hq
              exact ne_tag hcs (B2.seg b hm).cell rfl
            by_cases hyb : y = b
            · rw [hyb, sgSet_same]
              rw [hyb] at np
              exact ⟨c3, (B2.seg b hm).places.frame fun q hq => n3 q (np q hq)⟩
            · rw [sgSet_ne _ _ hyb]
              exact (B2.seg y hy).frame (n3 y hyb) (fun q hq => n3 q (np q hq))
        refine ⟨⟨i + 1, _, _, Od2, by omega, by rw [wrap64] <;> omega, H3, ⟨ps, B3⟩, ((st.trans s1).trans s2).trans s3, hres, fun y => ?_⟩, ?_⟩
        · by_cases hyb : y = b
          · rw [hyb, sgSet_same]; exact hfir b
          · rw [sgSet_ne _ _ hyb]; exact hfir y
        · rw [wrap64 (by omega) (by omega)]
          exact hmu
      · rw [if_neg h0] at hres
        rw [if_pos (by rw [bne_iff_ne]; exact h0)]
        unfold syncS at hk
        rw [← hres] at hk
        rw [if_neg h0] at hk
        exact hk g2 Od2 H2 ((st.trans s1).trans s2)
  · rw [if_neg (by rw [decide_eq_true_iff]; omega)]
    rw [List.drop_of_length_le (by omega), syncL] at hres
    unfold syncS at hk
    rw [← hres, if_pos rfl] at hk
    unfold syncS2 at hk
    simp only [] at hk
    refine ⟨L.begun, cell_at B.cell rfl, ?_⟩
    unfold D_wal_Log_Sync_j2
    cases hbg : L.begun with
    | true =>
      rw [hbg, if_pos rfl] at hk
      rw [if_pos rfl]
      refine ⟨some (blk a), cell_at B.cell rfl, disk_SyncNames Hg.disk fun g1 Od2 d1 st1 => ?_⟩
      obtain ⟨H1, s1⟩ := Hg.onDisk d1 st1
      have B1 : LogB g1 lb a s0 ps { L with sg := sg } Ol := B.frame (fun x hx => st1.ext.same x (B.lt x hx) (Hg.dis x hx)) st1.size
      by_cases hw : D1.write.1 = true
      · rw [if_pos hw] at hk
        have e : D1.syncNames.1 = 0 := by unfold DS.syncNames; rw [if_pos hw]
        rw [e, if_neg (by decide)]
        refine ⟨_, cell_at B1.cell rfl, frz_at B1.cell, fun g2 e2 => ?_⟩
        have c2 := set_at (cs' := #[.pointer (some (blk a)), s0.v, .pointer (L.hand.map blk), .bool false, .int .i64 L.last, .int .i64 L.durable]) e2 B1.cell rfl
        refine ⟨(L.last : Int), cell_at c2 rfl, _, cell_at c2 rfl, frz_at c2, fun g3 e3 => ?_⟩
        have c3 := set_at (cs' := #[.pointer (some (blk a)), s0.v, .pointer (L.hand.map blk), .bool false, .int .i64 L.last, .int .i64 L.last]) e3 c2 rfl
        obtain ⟨H3, s3⟩ := H1.swap (L' := { L with sg := sg, begun := false, durable := L.last }) B1 c3 (fun b hb => by rw [e3, setH_ne (by rw [blk_add]; exact hb), e2, setH_ne (by rw [blk_add]; exact hb)]) (by rw [e3, setH_size, e2, setH_size]) B1.segs (fun _ => id) (fun _ => id) rfl
        exact hk g3 Od2 H3 ((st.trans s1).trans s3)
      · rw [if_neg hw] at hk
        have e : D1.syncNames.1 = 11 := by unfold DS.syncNames; rw [if_neg hw]
        rw [e, if_pos (by decide)]
        rw [hbg] at H1
        exact hk g1 Od2 H1 (st.trans s1)
    | false =>
      rw [hbg, if_neg (by decide)] at hk
      rw [if_neg (by decide)]
      refine ⟨(L.last : Int), cell_at B.cell rfl, _, cell_at B.cell rfl, frz_at B.cell, fun g3 e3 => ?_⟩
      have c3 := set_at (cs' := #[.pointer (some (blk a)), s0.v, .pointer (L.hand.map blk), .bool L.begun, .int .i64 L.last, .int .i64 L.last]) e3 B.cell rfl
      obtain ⟨H3, s3⟩ := Hg.swap (L' := { L with sg := sg, durable := L.last }) B c3 (fun b hb => by rw [e3, setH_ne (by rw [blk_add]; exact hb)]) (by rw [e3, setH_size]) B.segs (fun _ => id) (fun _ => id) rfl
      refine hk g3 Od1 ?_ (st.trans s3)
      have : ({ L with sg := sg, durable := L.last } : LS) = { segs := L.segs, sg := sg, hand := L.hand, begun := false, last := L.last, durable := L.last } := by rw [← hbg]
      rw [← this]
      exact H3

def readL (sg : Nat → Seg) (D : DS) (n : Nat) : List Nat → ByteArray × Int
  | [] => (nilB, 12)
  | b :: r => if (n : Int) < (sg b).first ∨ (sg b).last < n then readL sg D n r
    else if (D.read (nameB (sg b).first)).2 ≠ 0 then (nilB, (D.read (nameB (sg b).first)).2)
    else ((getFrame ((D.read (nameB (sg b).first)).1.extract ((sg b).places.getD (n - (sg b).first) 0) (D.read (nameB (sg b).first)).1.size)).2.1,
      (getFrame ((D.read (nameB (sg b).first)).1.extract ((sg b).places.getD (n - (sg b).first) 0) (D.read (nameB (sg b).first)).1.size)).2.2.2)
theorem log_Read {n : Nat} {K : ByteArray → Int → Hp → Prop} (H : LogAt h lb a L D Od Ol) (hn : L.segs.length < 1000000) (hok : ∀ b, b ∈ L.segs → (L.sg b).Ok)
    (hpl : ∀ b, b ∈ L.segs → (D.read (nameB (L.sg b).first)).2 = 0 → (D.read (nameB (L.sg b).first)).1.size < 4611686018427387904 ∧ ∀ (i q : Nat), (L.sg b).places[i]? = some q → q ≤ (D.read (nameB (L.sg b).first)).1.size)
    (hnb : n < 4611686018427387904) (hk : ∀ h', LogAt h' lb a L D Od Ol → Grow h h' → K (readL L.sg D n L.segs).1 (readL L.sg D n L.segs).2 h') : C_wal_Log_Read (some (blk lb)) (n : Int) h K := by
  obtain ⟨s0, ps0, B0⟩ := H.log
  refine S_wal_Log_Read ⟨blk lb, rfl, s0, cell_at B0.cell rfl, fun x g => ∃ i : Nat, i ≤ L.segs.length ∧ x = (i : Int) ∧ readL L.sg D n (L.segs.drop i) = readL L.sg D n L.segs ∧ g = h, fun x _ => L.segs.length - x.toNat, ⟨0, by omega, rfl, rfl, rfl⟩, ?_⟩
  rintro x g ⟨i, hi, rfl, hres, rfl⟩
  unfold D_wal_Log_Read_l2
  rw [B0.len]
  by_cases hil : i < L.segs.length
  case neg =>
    rw [if_neg (by rw [decide_eq_true_iff]; omega)]
    rw [List.drop_of_length_le (by omega), readL] at hres
    have := hk g H (Grow.refl g)
    rw [← hres] at this
    exact this
  rw [if_pos (decide_eq_true (by omega))]
  obtain ⟨b, hb⟩ : ∃ b, L.segs[i]? = some b := ⟨_, List.getElem?_eq_getElem hil⟩
  have hm : b ∈ L.segs := List.mem_of_getElem? hb
  obtain ⟨p, p1, p2⟩ := B0.segs.get (i := i) (v := fval b) (by rw [List.getElem?_map, hb]; rfl)
  have hdrop : L.segs.drop i = b :: L.segs.drop (i + 1) := by
    rw [List.drop_eq_getElem_cons hil]
    congr 1
    rw [List.getElem?_eq_getElem hil] at hb
    exact Option.some.inj hb
  rw [hdrop, readL] at hres
  have S0 := B0.seg b hm
  obtain ⟨o1, o2⟩ := hok b hm
  have next : ((n : Int) < (L.sg b).first ∨ (L.sg b).last < n) → (∃ i' : Nat, i' ≤ L.segs.length ∧ IntKind.i64.wrap ((i : Int) + 1) = (i' : Int) ∧ readL L.sg D n (L.segs.drop i') = readL L.sg D n L.segs ∧ g = g) ∧ L.segs.length - (IntKind.i64.wrap ((i : Int) + 1)).toNat < L.segs.length - (i : Int).toNat := by
    intro hc
    rw [if_pos hc] at hres
    rw [wrap64 (by omega) (by omega)]
    exact ⟨⟨i + 1, by omega, rfl, hres, rfl⟩, by omega⟩
  refine ⟨p, p1, by omega, by omega, some (blk b), p2, blk b, rfl, ((L.sg b).first : Int), cell_at S0.cell rfl, ?_⟩
  unfold D_wal_Log_Read_j1
  by_cases hlo : (n : Int) < (L.sg b).first
  · rw [if_pos (decide_eq_true hlo), if_pos rfl]
    exact next (.inl hlo)
  rw [if_neg (by rw [decide_eq_true_iff]; exact hlo)]
  refine seg_last S0 ⟨o1, o2⟩ ?_
  by_cases hhi : (L.sg b).last < (n : Int)
  · rw [if_pos (decide_eq_true hhi)]
    exact next (.inr hhi)
  rw [if_neg (by rw [decide_eq_true_iff]; exact hhi)]
  rw [if_neg (by omega)] at hres
  refine ⟨some (blk a), cell_at B0.cell rfl, blk b, rfl, ((L.sg b).first : Int), cell_at S0.cell rfl, wal_name_ (by omega) fun g1 w1 => ?_⟩
  obtain ⟨H1, s1⟩ := H.grow w1
  have B1 : LogB g1 lb a s0 ps0 L Ol := B0.frame (fun x hx => w1.same x (B0.lt x hx) id) w1.size
  have S1 := B1.seg b hm
  refine ⟨cell_at B1.cell rfl, cell_at S1.cell rfl, disk_Read H1.disk ⟨cell_at B1.cell rfl, cell_at S1.cell rfl, ?_⟩⟩
  by_cases h0 : (D.read (nameB (L.sg b).first)).2 = 0
  case neg =>
    rw [if_pos h0] at hres
    rw [if_pos (by rw [bne_iff_ne]; exact h0)]
    have := hk g1 H1 w1
    rw [← hres] at this
    exact this
  rw [if_neg (by simpa using h0)] at hres
  rw [if_neg (by rw [bne_iff_ne]; exact fun e => e h0)]
  obtain ⟨f1, f2⟩ := hpl b hm h0
  have hidx : n - (L.sg b).first < (L.sg b).places.length := by
    unfold Seg.last at hhi
    omega
  have hw : IntKind.i64.wrap ((n : Int) - ((L.sg b).first : Int)) = ((n - (L.sg b).first : Nat) : Int) := by rw [wrap64] <;> omega
  have hget : (L.sg b).places[n - (L.sg b).first]? = some ((L.sg b).places.getD (n - (L.sg b).first) 0) := by
    rw [List.getD_eq_getElem?_getD, List.getElem?_eq_getElem hidx]
    rfl
  obtain ⟨q, q1, q2⟩ := S1.places.get (i := n - (L.sg b).first) (v := intV ((L.sg b).places.getD (n - (L.sg b).first) 0)) (by rw [List.getElem?_map, hget]; rfl)
  have hple := f2 _ _ hget
  refine ⟨ps0 b, cell_at S1.cell rfl, ((L.sg b).first : Int), cell_at S1.cell rfl, q, q1, by rw [hw]; omega, by rw [hw, S1.len]; omega, (((L.sg b).places.getD (n - (L.sg b).first) 0 : Nat) : Int), by rw [hw]; exact q2, _, rfl, hple, Nat.le_refl _, ?_, ?_⟩
  all_goals
    have keep3 : ∀ g', Grow g1 g' → cellH g' ((blk b).add 1) = some (Sl.v (ps0 b)) ∧ cellH g' ((blk b).add 0) = some (Value.int .i64 ((L.sg b).first : Int)) ∧ cellH g' (q.add ((IntKind.i64.wrap ((n : Int) - ((L.sg b).first : Int))).toNat * 1)) = some (Value.int .i64 (((L.sg b).places.getD (n - (L.sg b).first) 0 : Nat) : Int)) := by
      intro g' w
      have S' : SegAt g' b (L.sg b) (ps0 b) := S1.frame (w.same _ (lt_of_some S1.cell) id) (fun q hq => w.same _ (S1.places.lt hq) id)
      obtain ⟨q', q1', q2'⟩ := S'.places.get (i := n - (L.sg b).first) (v := intV ((L.sg b).places.getD (n - (L.sg b).first) 0)) (by rw [List.getElem?_map, hget]; rfl)
      rw [q1] at q1'
      cases q1'
      rw [hw]
      exact ⟨cell_at S'.cell rfl, cell_at S'.cell rfl, q2'⟩
    have fsz : ((D.read (nameB (L.sg b).first)).1.extract ((L.sg b).places.getD (n - (L.sg b).first) 0) (D.read (nameB (L.sg b).first)).1.size).size < 4611686018427387904 := by
      rw [ByteArray.size_extract]; omega
    generalize (D.read (nameB (L.sg b).first)).1.extract ((L.sg b).places.getD (n - (L.sg b).first) 0) (D.read (nameB (L.sg b).first)).1.size = X at hres fsz ⊢
  · refine frame_Get fsz fun g2 w2 => ?_
    obtain ⟨t1, t2, t3⟩ := keep3 g2 w2
    refine ⟨t1, t2, t3, fun g3 e3 => ?_⟩
    have w3 := w2.push e3
    obtain ⟨t1, t2, t3⟩ := keep3 g3 w3
    refine ⟨t1, t2, t3, ?_⟩
    obtain ⟨r1, r2⟩ := puts_all (vs := [Value.int .i64 (getFrame X).1, Value.string (getFrame X).2.1]) (push_new e3) rfl (by intro v hv; simp at hv; rcases hv with rfl | rfl <;> trivial)
    refine ⟨r1, fun g4 e4 => ?_⟩
    have w4 : Grow g1 g4 := w3.puts e4 w2.size
    obtain ⟨t1, t2, t3⟩ := keep3 g4 w4
    have c4 : g4[g2.size]? = some (.cells [Value.int .i64 (getFrame X).1, Value.string (getFrame X).2.1].toArray T_frame_Frame (0, 0)) := by rw [e4]; exact r2
    refine ⟨t1, t2, t3, _, cell_at c4 rfl, ?_⟩
    have := hk g4 (H1.grow w4).1 (w1.trans w4)
    rw [← hres] at this
    exact this
  · intro g2 e2
    have w2 : Grow g1 g2 := (Grow.refl g1).push e2
    obtain ⟨t1, t2, t3⟩ := keep3 g2 w2
    refine ⟨t1, t2, t3, ?_⟩
    refine frame_Get fsz fun g3 v3 => ?_
    have w3 := w2.trans v3
    obtain ⟨t1, t2, t3⟩ := keep3 g3 w3
    refine ⟨t1, t2, t3, ?_⟩
    obtain ⟨r1, r2⟩ := puts_all (vs := [Value.int .i64 (getFrame X).1, Value.string (getFrame X).2.1]) (v3.at_ (push_new e2)) rfl (by intro v hv; simp at hv; rcases hv with rfl | rfl <;> trivial)
    refine ⟨r1, fun g4 e4 => ?_⟩
    have w4 : Grow g1 g4 := w3.puts e4 (Nat.le_refl _)
    obtain ⟨t1, t2, t3⟩ := keep3 g4 w4
    have c4 : g4[g1.size]? = some (.cells [Value.int .i64 (getFrame X).1, Value.string (getFrame X).2.1].toArray T_frame_Frame (0, 0)) := by rw [e4]; exact r2
    refine ⟨t1, t2, t3, _, cell_at c4 rfl, ?_⟩
    have := hk g4 (H1.grow w4).1 (w1.trans w4)
    rw [← hres] at this
    exact this
end
end Go.Proofs.YtgdmjdacmebfjaaGreatDoor.D

namespace Go.Proofs.YtgdmjdacmebfjaaGreatDoor.D
open Go

def PredV (v : Value) (pr : ByteArray → Bool) : Prop := ∃ g, v = .func (.func g) #[] #[] ∧ callable PROG g = true ∧
  ∀ (x : ByteArray) (h : Hp) (K : Bool → Hp → Prop), (∀ h', Grow h h' → K (pr x) h') → CallsH PROG g #[.string x] h fun v h' => ∃ r : Bool, v = .bool r ∧ K r h'
def idxF (pr : ByteArray → Bool) : List ByteArray → Nat → Int
  | [], _ => -1
  | x :: l, i => if pr x = true then (i : Int) else idxF pr l (i + 1)
section
variable {h : Hp} {s : Sl} {f : Value} {pr : ByteArray → Bool} {l : List ByteArray}
theorem SlOwn.len1 {t : TypeId} {vs : List Value} (H : SlOwn h s t 1 vs) : s.len = vs.length := by have := H.1; omega
theorem index_func {K : Int → Hp → Prop} (H : SlOwn h s T_string 1 (l.map Value.string)) (hn : l.length < 1000000) (hp : PredV f pr) (hk : ∀ h', Grow h h' → K (idxF pr l 0) h') : C_slices_IndexFunc_string_string s f h K := by
  have hl : s.len = l.length := by have := H.len1; rw [List.length_map] at this; exact this
  refine S_slices_IndexFunc_string_string ⟨fun x g => ∃ i : Nat, i ≤ l.length ∧ x = (i : Int) ∧ idxF pr (l.drop i) i = idxF pr l 0 ∧ Grow h g, fun x _ => l.length - x.toNat, ⟨0, by omega, rfl, rfl, Grow.refl h⟩, ?_⟩
  rintro x g ⟨i, hi, rfl, he, hg⟩
  unfold D_slices_IndexFunc_string_string_l1
  rw [hl]
  by_cases hil : i < l.length
  · rw [if_pos (decide_eq_true (by omega))]
    have Hg := H.frame (h' := g) (fun q hq => hg.same q (H.lt hq) id)
    obtain ⟨p, p1, p2⟩ := Hg.get (i := i) (v := .string l[i]) (by rw [List.getElem?_map, List.getElem?_eq_getElem hil]; rfl)
    obtain ⟨fg, rfl, hc, hf⟩ := hp
    rw [List.drop_eq_getElem_cons hil, idxF] at he
    refine ⟨p, p1, by omega, by omega, l[i], p2, fg, [], [], rfl, hc, hf _ _ _ fun g2 w2 => ?_⟩
    by_cases hpr : pr l[i] = true
    · rw [if_pos hpr] at he ⊢
      rw [he]
      exact hk g2 (hg.trans w2)
    · rw [if_neg hpr] at he ⊢
      refine ⟨⟨i + 1, by omega, by rw [wrap64] <;> omega, he, hg.trans w2⟩, ?_⟩
      rw [wrap64 (by omega) (by omega)]
      show l.length - ((i : Int) + 1).toNat < l.length - (i : Int).toNat
      omega
  · rw [if_neg (by rw [decide_eq_true_iff]; omega)]
    rw [List.drop_of_length_le (by omega), idxF] at he
    rw [he]
    exact hk g hg
theorem idxF_spec : ∀ {l : List ByteArray} {i : Nat}, (idxF pr l i = -1 ∧ ∀ x ∈ l, pr x = false) ∨ ∃ j, j < l.length ∧ idxF pr l i = ((i + j : Nat) : Int) ∧ (∀ x ∈ l.take j, pr x = false) ∧ ∀ y, l[j]? = some y → pr y = true
  | [], _ => .inl ⟨rfl, by simp⟩
  | x :: l, i => by
    unfold idxF
    by_cases hx : pr x = true
    · rw [if_pos hx]
      exact .inr ⟨0, by simp, by simp, by simp, fun y hy => by cases hy; exact hx⟩
    · rw [if_neg hx]
      rw [Bool.not_eq_true] at hx
      rcases idxF_spec (l := l) (i := i + 1) with ⟨h1, h2⟩ | ⟨j, h1, h2, h3, h4⟩
      · refine .inl ⟨h1, fun y hy => ?_⟩
        rcases List.mem_cons.1 hy with h | h
        · rw [h]; exact hx
        · exact h2 y h
      · refine .inr ⟨j + 1, by simp only [List.length_cons]; omega, by rw [h2]; congr 1; omega, fun y hy => ?_, fun y hy => h4 y (by simpa using hy)⟩
        rw [List.take_succ_cons] at hy
        rcases List.mem_cons.1 hy with h | h
        · rw [h]; exact hx
        · exact h3 y h
/-- An element is set. -/
theorem SlOwn.setAt {t : TypeId} {vs : List Value} (H : SlOwn h s t 1 vs) {i : Nat} (hi : i < vs.length) {a : Addr} (ha : s.a = some a) : (∃ u, cellH h (a.add (i * 1)) = some u) ∧ frozenH h (a.add (i * 1)) = false ∧ a.block < h.size ∧ s.blk? = some a.block ∧
    ∀ h' v, h' = setH h (a.add (i * 1)) v → SlOwn h' s t 1 (vs.set i v) ∧ (∀ b, s.blk? ≠ some b → h'[b]? = h[b]?) ∧ h'.size = h.size := by
  obtain ⟨h1, h2⟩ := H
  rcases h2 with ⟨ha', _⟩ | ⟨b, o, cs, ha', hb, hs, hl, hv⟩
  · rw [ha] at ha'; cases ha'
  · rw [ha] at ha'
    cases ha'
    have hlt : o + i < cs.size := by omega
    refine ⟨⟨cs[o + i]'hlt, cell_in (o := o) (i := i * 1) hb (by rw [Nat.mul_one]; simp [hlt])⟩, frz_in hb, lt_of_some hb, by simp [Sl.blk?, ha], fun h' v e => ⟨⟨by rw [List.length_set]; exact h1, .inr ⟨b, o, cs.setIfInBounds (o + i) v, ha, ?_, by rw [Array.size_setIfInBounds]; exact hs, hl, fun k hk => ?_⟩⟩, fun x hx => ?_, by rw [e, setH_size]⟩⟩
    · rw [Nat.mul_one] at e
      exact set_in e hb rfl
    · rw [List.length_set] at hk
      rw [Array.getElem?_setIfInBounds, List.getElem?_set]
      by_cases hik : i = k
      · rw [if_pos (by omega), if_pos hik, if_pos hlt, if_pos (by omega)]
      · rw [if_neg (by omega), if_neg hik]
        exact hv k hk
    · rw [e, addr_add]
      exact setH_ne (fun e => hx (by simp [Sl.blk?, ha, e]))
/-- What is behind an element is written over. -/
theorem SlOwn.clr {t : TypeId} {vs zs : List Value} (H : SlOwn h s t 1 vs) {i : Nat} (hi : i ≤ s.len) (hz : zs.length = s.len - i) (hl : ∀ v ∈ zs, leaf v) :
    (∀ b, (slCut s i s.len 1).a = some b → canPut b h 0 zs) ∧ ∀ h', h' = clrH h (slCut s i s.len 1) zs → SlOwn h' s t 1 (vs.take i ++ zs) ∧ (∀ b, s.blk? ≠ some b → h'[b]? = h[b]?) ∧ h'.size = h.size := by
  obtain ⟨h1, h2⟩ := H
  rcases h2 with ⟨ha, hl0, hc⟩ | ⟨b, o, cs, ha, hb, hs, hle, hv⟩
  · have : (slCut s i s.len 1).a = none := by
      show (if s.cap = i then s.a else s.a.map (·.add (i * 1))) = none
      rw [ha]; split <;> rfl
    refine ⟨(fun b hb => by rw [this] at hb; cases hb), fun h' e => ?_⟩
    have e : h' = h := by rw [e]; unfold clrH; rw [this]
    subst e
    refine ⟨⟨by rw [List.length_append, List.length_take]; omega, .inl ⟨ha, hl0, hc⟩⟩, fun _ _ => rfl, rfl⟩
  · by_cases hci : s.cap = i
    · have hz0 : zs = [] := List.eq_nil_of_length_eq_zero (by omega)
      subst hz0
      refine ⟨fun _ _ => trivial, fun h' e => ?_⟩
      have e : h' = h := by rw [e]; unfold clrH; split <;> rfl
      subst e
      refine ⟨?_, fun _ _ => rfl, rfl⟩
      rw [List.append_nil, List.take_of_length_le (by omega)]
      exact ⟨h1, .inr ⟨b, o, cs, ha, hb, hs, hle, hv⟩⟩
    · have hA : (slCut s i s.len 1).a = some ⟨b, o + i, none⟩ := by
        show (if s.cap = i then s.a else s.a.map (·.add (i * 1))) = _
        rw [if_neg hci, ha]
        show some ((Addr.mk b o none).add (i * 1)) = _
        rw [addr_add, Nat.mul_one]
      obtain ⟨c1, cs', c2, c3, c4, c5, _⟩ := puts_in (b := b) (o := o + i) zs h 0 cs hb (by omega) hl
      refine ⟨(fun p hp => by rw [hA] at hp; cases hp; exact c1), fun h' e => ?_⟩
      have e : h' = putsFrom ⟨b, o + i, none⟩ h 0 zs := by rw [e]; unfold clrH; rw [hA]
      subst e
      refine ⟨⟨by rw [List.length_append, List.length_take]; omega, .inr ⟨b, o, cs', ha, c2, by omega, hle, fun k hk => ?_⟩⟩, fun x hx => putsFrom_ne (fun e => hx (by simp [Sl.blk?, ha, e])) _ _ _, putsFrom_size _ _ _⟩
      rw [List.length_append, List.length_take] at hk
      rcases Nat.lt_or_ge k i with hki | hki
      · rw [List.getElem?_append_left (by rw [List.length_take]; omega), List.getElem?_take, if_pos hki, c4 _ (by omega)]
        exact hv k (by omega)
      · rw [List.getElem?_append_right (by rw [List.length_take]; omega), List.length_take, Nat.min_eq_left (by omega)]
        have := c5 (k - i) (by omega)
        rw [← this]
        congr 1
        omega

theorem zc1 (v : Value) (n : Nat) : (Builtin.zeroCells #[v] n).toList = List.replicate n v := by
  unfold Builtin.zeroCells
  rw [Array.toList_map, Array.toList_range, List.eq_replicate_iff]
  refine ⟨by simp, fun b hb => ?_⟩
  obtain ⟨i, _, rfl⟩ := List.mem_map.1 hb
  simp [Nat.mod_one]
theorem delete_func {K : Sl → Hp → Prop} (H : SlOwn h s T_string 1 (l.map Value.string)) (hn : l.length < 1000000) (hp : PredV f pr)
    (hk : ∀ r h', SlOwn h' r T_string 1 ((l.filter fun x => !pr x).map Value.string) → r.blk? = s.blk? → Ext h.size (fun b => s.blk? = some b) h h' → K r h') : C_slices_DeleteFunc_string_string s f h K := by
  have hl : s.len = l.length := by have := H.len1; rw [List.length_map] at this; exact this
  refine S_slices_DeleteFunc_string_string (index_func H hn hp fun h1 w1 => ?_)
  have H1 := H.frame (h' := h1) (fun q hq => w1.same q (H.lt hq) id)
  have x1 : Ext h.size (fun b => s.blk? = some b) h h1 := w1.mono (Nat.le_refl _) (fun _ _ hf => hf.elim)
  rcases idxF_spec (pr := pr) (l := l) (i := 0) with ⟨i1, i2⟩ | ⟨j0, i1, i2, i3, i4⟩
  · rw [i1, if_pos (by decide)]
    refine hk s h1 ?_ rfl x1
    rw [List.filter_eq_self.2 (fun x hx => by rw [i2 x hx]; rfl)]
    exact H1
  rw [i2, if_neg (by rw [beq_iff_eq]; omega)]
  have hj0 : l.length > j0 := i1
  have e0 : ((0 + j0 : Nat) : Int) = (j0 : Int) := by omega
  rw [e0]
  refine ⟨fun i4 j5 g => ∃ (i j : Nat) (vs : List Value), i ≤ j ∧ j ≤ l.length ∧ i4 = (i : Int) ∧ j5 = (j : Int) ∧ SlOwn g s T_string 1 vs ∧ vs.take i = ((l.take j).filter fun x => !pr x).map Value.string ∧ (∀ k, j ≤ k → vs[k]? = (l.map Value.string)[k]?) ∧ Ext h.size (fun b => s.blk? = some b) h g,
    fun _ j5 _ => l.length - j5.toNat, ⟨j0, j0 + 1, l.map Value.string, by omega, by omega, rfl, by rw [wrap64] <;> omega, H1, ?_, fun _ _ => rfl, x1⟩, ?_⟩
  · rw [List.take_add_one, List.getElem?_eq_getElem i1, Option.toList_some, List.filter_append, List.filter_eq_self.2 (fun x hx => by rw [i3 x hx]; rfl), ← List.map_take]
    rw [List.filter_cons_of_neg (by rw [i4 _ (List.getElem?_eq_getElem i1)]; decide), List.filter_nil, List.append_nil]
  rintro i5 j5 g ⟨i, j, vs, hij, hj, rfl, rfl, Hg, hv1, hv2, hx⟩
  unfold D_slices_DeleteFunc_string_string_l2 D_slices_DeleteFunc_string_string_j1
  have vl : vs.length = l.length := by have := Hg.len1; omega
  rw [hl]
  by_cases hjl : j < l.length
  · rw [if_pos (decide_eq_true (by omega))]
    have hvj : vs[j]? = some (.string l[j]) := by rw [hv2 j (Nat.le_refl _), List.getElem?_map, List.getElem?_eq_getElem hjl]; rfl
    obtain ⟨p, p1, p2⟩ := Hg.get hvj
    obtain ⟨fg, rfl, hc, hf⟩ := hp
    have hmu : l.length - ((j : Int) + 1).toNat < l.length - (j : Int).toNat := by omega
    refine ⟨p, p1, by omega, by omega, l[j], p2, fg, [], [], rfl, hc, hf _ _ _ fun g2 w2 => ?_⟩
    have H2 := Hg.frame (h' := g2) (fun q hq => w2.same q (Hg.lt hq) id)
    have x2 : Ext h.size (fun b => s.blk? = some b) h g2 := hx.call w2 (Nat.le_refl _) (fun _ _ hf => hf.elim)
    have htk : (l.take (j + 1)).filter (fun x => !pr x) = (l.take j).filter (fun x => !pr x) ++ (if pr l[j] = true then [] else [l[j]]) := by
      rw [List.take_add_one, List.getElem?_eq_getElem hjl, Option.toList_some, List.filter_append]
      by_cases hpr : pr l[j] = true
      · rw [if_pos hpr, List.filter_cons_of_neg (by rw [hpr]; decide), List.filter_nil]
      · rw [if_neg hpr, List.filter_cons_of_pos (by rw [Bool.not_eq_true] at hpr; rw [hpr]; rfl), List.filter_nil]
    by_cases hpr : pr l[j] = true
    · rw [if_neg (by rw [hpr]; decide)]
      rw [if_pos hpr, List.append_nil] at htk
      refine ⟨⟨i, j + 1, vs, by omega, by omega, rfl, by rw [wrap64] <;> omega, H2, by rw [htk]; exact hv1, fun k hk => hv2 k (by omega), x2⟩, ?_⟩
      rw [wrap64 (by omega) (by omega)]
      exact hmu
    · rw [if_pos (by rw [Bool.not_eq_true] at hpr; rw [hpr]; rfl)]
      rw [if_neg hpr] at htk
      obtain ⟨q1, q2, _, q4, q5⟩ := H2.setAt (i := i) (by omega) p1
      obtain ⟨u, hu⟩ := q1
      refine ⟨by omega, by omega, u, hu, q2, fun g3 e3 => ?_⟩
      obtain ⟨t1, t2, t3⟩ := q5 g3 (.string l[j]) e3
      refine ⟨⟨i + 1, j + 1, vs.set i (.string l[j]), by omega, by omega, by rw [wrap64] <;> omega, by rw [wrap64] <;> omega, t1, ?_, fun k hk => ?_, x2.trans ⟨by omega, fun b _ hs => t2 b hs⟩⟩, ?_⟩
      · rw [htk, List.map_append, ← hv1, List.take_add_one, List.getElem?_set, if_pos rfl, if_pos (by omega)]
        rw [List.take_set_of_le (Nat.le_refl i)]
        rfl
      · rw [List.getElem?_set, if_neg (by omega)]
        exact hv2 k (by omega)
      · show l.length - (IntKind.i64.wrap ((j : Int) + 1)).toNat < l.length - (j : Int).toNat
        rw [wrap64 (by omega) (by omega)]
        exact hmu
  · rw [if_neg (by rw [decide_eq_true_iff]; omega)]
    have : j = l.length := by omega
    subst this
    rw [List.take_length] at hv1
    have hcl : (slCut s i l.length 1).len = l.length - i := rfl
    obtain ⟨r1, r2⟩ := Hg.clr (i := i) (zs := List.replicate (l.length - i) (.string ByteArray.empty)) (by omega) (by rw [List.length_replicate]; omega) (fun v hv => by rw [List.eq_of_mem_replicate hv]; trivial)
    rw [hl] at r1 r2
    refine ⟨i, rfl, by omega, by rw [← hl]; exact Hg.len_le, by rw [hcl, zc1]; exact r1, ?_⟩
    rw [hcl, zc1]
    refine fun g2 e2 => ⟨i, rfl, by omega, by have := Hg.len_le; omega, ?_⟩
    obtain ⟨t1, t2, t3⟩ := r2 g2 e2
    refine hk _ g2 ?_ slCut_blk (hx.trans ⟨by omega, fun b _ hs => t2 b hs⟩)
    have hcut := t1.cut (i := 0) (j := i) (by omega) (by omega)
    rw [List.drop_zero, Nat.sub_zero, List.take_append_of_le_length (by rw [List.length_take]; omega), List.take_take, Nat.min_self, hv1] at hcut
    exact hcut
end
end Go.Proofs.YtgdmjdacmebfjaaGreatDoor.D

namespace Go.Proofs.YtgdmjdacmebfjaaGreatDoor.D
open Go

section
variable {h : Hp} {lb a : Nat} {L : LS} {D : DS} {Od Ol : Nat → Prop}
def LS.take_ (L : LS) (b : Nat) (x : Seg) : LS := { L with segs := L.segs ++ [b], sg := sgSet L.sg b x }
/-- A segment that was read is taken into the log. -/
theorem log_take {b : Nat} {x : Seg} {p : Sl} {s : Sl} {ps : Nat → Sl} {K : Hp → Prop} (H : LogAt h lb a L D Od Ol) (B : LogB h lb a s ps L Ol) (hS : SegAt h b x p) (hnl : ¬ Ol b ∧ ∀ q, p.blk? = some q → ¬ Ol q) (hnd : ¬ Od b ∧ ∀ q, p.blk? = some q → ¬ Od q) (hn : L.segs.length < 1000000) {h0 : Hp} {O0 : Nat → Prop} (hb0 : h0.size ≤ b ∧ ∀ q, p.blk? = some q → h0.size ≤ q)
    (st : Step h0 O0 h (Or2 Od Ol))
    (hk : ∀ h' Ol', LogAt h' lb a (L.take_ b x) D Od Ol' → Step h0 O0 h' (Or2 Od Ol') → K h') :
    ∀ h1 : Hp, h1 = h.push (.cells #[Value.pointer (some (blk b))] T_pt_wal_segment) → apd 1 8 T_pt_wal_segment [Value.pointer none] h1 s 1 [Value.pointer (some (blk b))] fun s' h2 =>
      ∃ u75 : Value, cellH h2 ((blk lb).add 1) = some u75 ∧ frozenH h2 ((blk lb).add 1) = false ∧ ∀ h3 : Hp, h3 = setH h2 ((blk lb).add 1) (Sl.v s') → K h3 := by
  intro g1 e1
  have w1 : Grow h g1 := (Grow.refl h).push e1
  have z1 : g1.size = h.size + 1 := by rw [e1, Array.size_push]
  have B1 : LogB g1 lb a s ps L Ol := B.frame (fun x hx => w1.same x (B.lt x hx) id) w1.size
  have hb1 : SegAt g1 b x p := hS.frame (w1.same _ (lt_of_some hS.cell) id) (fun q hq => w1.same _ (hS.places.lt hq) id)
  have sl := B.len
  refine apd_own B1.segs rfl (fun v hv => by rw [List.mem_singleton.1 hv]; trivial) rfl (by omega) (by omega) (by omega) fun s' g2 A => ?_
  have slb : ∀ q, s.blk? = some q → q ≠ lb := fun q hq => by
    obtain ⟨cs, hcs⟩ := B1.segs.ob hq
    exact ne_tag hcs B1.cell rfl
  have z2 := A.size
  have l2 : g2[lb]? = some (logOb a s L) := (A.same lb (lt_of_some B1.cell) (fun e => slb lb e rfl)).trans B1.cell
  refine ⟨_, cell_at l2 rfl, frz_at l2, fun g3 e3 => ?_⟩
  have l3 := set_at (cs' := #[.pointer (some (blk a)), s'.v, .pointer (L.hand.map blk), .bool L.begun, .int .i64 L.last, .int .i64 L.durable]) e3 l2 rfl
  have n4 : ∀ x, x ≠ lb → g3[x]? = g2[x]? := fun x hx => by rw [e3, setH_ne (by rw [blk_add]; exact hx)]
  have z4 : g3.size = g2.size := by rw [e3, setH_size]
  have lb1 := lt_of_some B1.cell
  have tr : ∀ x, x < g1.size → x ≠ lb → s.blk? ≠ some x → g3[x]? = g1[x]? := fun x h1 h2 h3 => by rw [n4 x h2, A.same x h1 h3]
  have s'b : ∀ q, s'.blk? = some q → q = g1.size ∨ s.blk? = some q := fun q hq => by
    rcases A.where_ with hw | hw
    · exact .inr (hw ▸ hq)
    · rw [hw] at hq; cases hq; exact .inl rfl
  have hbl := lt_of_some hS.cell
  have plt : ∀ q, p.blk? = some q → q < h.size := fun q hq => hS.places.lt hq
  refine hk g3 (fun y => Ol y ∨ (y = b ∨ p.blk? = some y) ∨ (y = g1.size ∧ y < g3.size)) ⟨H.disk.frame (fun y hy => ?_) (by omega), ⟨s', slSet ps b p, ⟨l3, ?_, fun y hy => ?_, fun y y' q hy hy' hq hq' => ?_, .inl B.ol, fun q hq => ?_, fun y hy => ?_, fun y hy => ?_⟩⟩, fun y hy => ?_⟩ ⟨⟨by have := st.size; omega, fun y hy hny => ?_⟩, fun y hy => ?_⟩
  · have hyO : ¬ Ol y := fun e => H.dis y e hy
    have := H.disk.lt y hy
    rw [tr y (by omega) (fun e => hyO (e ▸ B.ol)) (fun e => hyO (B.os y e)), w1.same y this id]
  · have := A.own.frame (h' := g3) (fun q hq => n4 q (by
      rcases s'b q hq with h | h
      · omega
      · exact slb q h))
    simpa [LS.take_, fval] using this
  · show SegAt g3 y (sgSet L.sg b x y) (slSet ps b p y)
    have hy' : y ∈ L.segs ++ [b] := hy
    by_cases hyb : y = b
    · rw [hyb, sgSet_same, slSet_same]
      refine hb1.frame (tr b (by omega) (ne_tag hb1.cell B1.cell rfl) (fun e => hnl.1 (B.os b e))) (fun q hq => ?_)
      obtain ⟨cs, hcs⟩ := hb1.places.ob hq
      exact tr q (by have := plt q hq; omega) (ne_tag hcs B1.cell rfl) (fun e => hnl.2 q hq (B.os q e))
    · rw [sgSet_ne _ _ hyb, slSet_ne _ _ hyb]
      have hym : y ∈ L.segs := by
        rcases List.mem_append.1 hy' with h | h
        · exact h
        · exact absurd (List.mem_singleton.1 h) hyb
      refine (B1.seg y hym).frame (tr y (lt_of_some (B1.seg y hym).cell) (ne_tag (B1.seg y hym).cell B1.cell rfl) (fun e => ?_)) (fun q hq => ?_)
      · obtain ⟨cs, hcs⟩ := B1.segs.ob e
        exact ne_tag (B1.seg y hym).cell hcs rfl rfl
      · obtain ⟨cs, hcs⟩ := (B1.seg y hym).places.ob hq
        refine tr q ((B1.seg y hym).places.lt hq) (ne_tag hcs B1.cell rfl) (fun e => ?_)
        obtain ⟨cs', hcs'⟩ := B1.segs.ob e
        exact ne_tag hcs hcs' rfl rfl
  · have mem : ∀ z, z ∈ L.segs ++ [b] → z ≠ b → z ∈ L.segs := fun z hz hzb => (List.mem_append.1 hz).elim id (fun h => absurd (List.mem_singleton.1 h) hzb)
    by_cases hyb : y = b
    · by_cases hyb' : y' = b
      · rw [hyb, hyb']
      · rw [hyb, slSet_same] at hq
        rw [slSet_ne _ _ hyb'] at hq'
        exact absurd ((B.og y' (mem y' hy' hyb')).2 q hq') (hnl.2 q hq)
    · rw [slSet_ne _ _ hyb] at hq
      by_cases hyb' : y' = b
      · rw [hyb', slSet_same] at hq'
        exact absurd ((B.og y (mem y hy hyb)).2 q hq) (hnl.2 q hq')
      · rw [slSet_ne _ _ hyb'] at hq'
        exact B.dis y y' q (mem y hy hyb) (mem y' hy' hyb') hq hq'
  · have hlt := A.own.lt hq
    rcases s'b q hq with h | h
    · exact .inr (.inr ⟨h, by omega⟩)
    · exact .inl (B.os q h)
  · by_cases hyb : y = b
    · rw [hyb, slSet_same]
      exact ⟨.inr (.inl (.inl rfl)), fun q hq => .inr (.inl (.inr hq))⟩
    · rw [slSet_ne _ _ hyb]
      have m1 : y ∈ L.segs := (List.mem_append.1 hy).elim id (fun h => absurd (List.mem_singleton.1 h) hyb)
      exact ⟨.inl (B.og y m1).1, fun q hq => .inl ((B.og y m1).2 q hq)⟩
  · rcases hy with hy | (hy | hy) | hy
    · have := B1.lt y hy; omega
    · omega
    · have := plt y hy; omega
    · exact hy.2
  · rcases hy with hy | (hy | hy) | hy
    · exact H.dis y hy
    · rw [hy]; exact hnd.1
    · exact hnd.2 y hy
    · intro ho
      have := H.disk.lt y ho
      omega
  · have hs := st.size
    rw [tr y (by omega) (fun e => ?_) (fun e => ?_), w1.same y (by omega) id]
    · exact st.ext.same y hy hny
    · rcases st.own lb (.inr B.ol) with h | h
      · exact hny (e ▸ h)
      · omega
    · rcases st.own y (.inr (B.os y e)) with h | h
      · exact hny h
      · omega
  · rcases hy with hy | hy | (hy | hy) | hy
    · exact st.own y (.inl hy)
    · exact st.own y (.inr hy)
    · exact .inr (by omega)
    · exact .inr (hb0.2 y hy)
    · exact .inr (by have := st.size; omega)

def endA (acc : List Seg) : Int := match acc.getLast? with
  | none => 0
  | some x => x.last
def fitsA (acc : List Seg) (x : Seg) (base : Nat) : Bool := if x.places = [] then false else if acc = [] then decide (x.first ≤ base + 1) else decide ((x.first : Int) = endA acc + 1)
theorem end_map (L : LS) : L.end_ = endA (L.segs.map L.sg) := by
  unfold LS.end_ endA
  rw [List.getLast?_map]
  cases L.segs.getLast? <;> rfl
theorem log_fits {b base : Nat} {x : Seg} {p : Sl} {K : Bool → Hp → Prop} (H : LogAt h lb a L D Od Ol) (hS : SegAt h b x p) (hok : ∀ b, b ∈ L.segs → (L.sg b).Ok) (hn : L.segs.length < 1000000) (hb : base < 1000000000)
    (hk : K (fitsA (L.segs.map L.sg) x base) h) : C_wal_Log_fits (some (blk lb)) (some (blk b)) (base : Int) h K := by
  obtain ⟨s, ps, B⟩ := H.log
  refine S_wal_Log_fits ⟨blk b, rfl, p, cell_at hS.cell rfl, ?_⟩
  rw [hS.len]
  unfold fitsA at hk
  by_cases hp : x.places = []
  · rw [if_pos hp] at hk
    rw [if_pos (by rw [hp]; rfl)]
    exact hk
  · rw [if_neg hp] at hk
    have : x.places.length ≠ 0 := fun e => hp (List.eq_nil_of_length_eq_zero e)
    rw [if_neg (by rw [beq_iff_eq]; omega)]
    refine ⟨blk lb, rfl, s, cell_at B.cell rfl, ?_⟩
    rw [B.len]
    cases hs : L.segs with
    | nil =>
      rw [hs] at hk
      rw [if_pos (by rfl)]
      refine ⟨(x.first : Int), cell_at hS.cell rfl, ?_⟩
      rw [if_pos (show List.map L.sg [] = [] from rfl)] at hk
      rw [wrap64 (by omega) (by omega)]
      have e : decide ((x.first : Int) ≤ (base : Int) + 1) = decide (x.first ≤ base + 1) := by
        rw [decide_eq_decide]; omega
      rw [e]
      exact hk
    | cons c r =>
      rw [hs] at hk
      rw [if_neg (by simp)] at hk
      rw [if_neg (by simp only [List.length_cons]; rw [beq_iff_eq]; omega)]
      refine ⟨(x.first : Int), cell_at hS.cell rfl, log_end H hok hn ⟨cell_at hS.cell rfl, ?_⟩⟩
      have hl : -1 ≤ L.end_ ∧ L.end_ < 1000000000 := by
        unfold LS.end_
        cases hg : L.segs.getLast? with
        | none => simp
        | some b =>
          obtain ⟨q1, q2⟩ := hok b (List.mem_of_getLast? hg)
          simp only [Seg.last]
          omega
      rw [end_map, hs] at hl ⊢
      rw [wrap64 (by omega) (by omega)]
      have e : ((x.first : Int) == endA (List.map L.sg (c :: r)) + 1) = decide ((x.first : Int) = endA (List.map L.sg (c :: r)) + 1) := by
        rw [Bool.eq_iff_iff, beq_iff_eq, decide_eq_true_iff]
      rw [e]
      exact hk

def removeL : List ByteArray → DS → Int × DS
  | [], D => (0, D)
  | k :: r, D => if (D.remove k).1 = 0 then removeL r (D.remove k).2 else D.remove k
def removeS (l : List ByteArray) (D : DS) : Int × DS := if (removeL l D).1 = 0 then (if l = [] then (0, (removeL l D).2) else (removeL l D).2.syncNames) else removeL l D
theorem log_remove {s : Sl} {l : List ByteArray} {K : Int → Hp → Prop} (H : LogAt h lb a L D Od Ol) (hs : SlOwn h s T_string 1 (l.map Value.string)) (hso : ∀ q, s.blk? = some q → ¬ Od q) (hc : D.chg.length + l.length < 1000000)
    (hk : ∀ h' Od', LogAt h' lb a L (removeS l D).2 Od' Ol → Step h (Or2 Od Ol) h' (Or2 Od' Ol) → K (removeS l D).1 h') : C_wal_Log_remove (some (blk lb)) s h K := by
  have hl : s.len = l.length := by have := hs.len1; rw [List.length_map] at this; exact this
  refine S_wal_Log_remove ⟨fun x g => ∃ (i : Nat) (D1 : DS) (Od1 : Nat → Prop), i ≤ l.length ∧ x = (i : Int) ∧ LogAt g lb a L D1 Od1 Ol ∧ Step h (Or2 Od Ol) g (Or2 Od1 Ol) ∧ removeL (l.drop i) D1 = removeL l D ∧ D1.chg.length + (l.length - i) < 1000000 ∧ SlOwn g s T_string 1 (l.map Value.string) ∧ (∀ q, s.blk? = some q → ¬ Od1 q),
    fun x _ => l.length - x.toNat, ⟨0, D, Od, by omega, rfl, H, .refl _ _, rfl, by omega, hs, hso⟩, ?_⟩
  rintro x g ⟨i, D1, Od1, hi, rfl, Hg, st, hres, hcg, hsg, hog⟩
  unfold D_wal_Log_remove_l1
  obtain ⟨sl, ps, B⟩ := Hg.log
  rw [hl]
  by_cases hil : i < l.length
  · rw [if_pos (decide_eq_true (by omega))]
    rw [List.drop_eq_getElem_cons hil, removeL] at hres
    obtain ⟨p, p1, p2⟩ := hsg.get (i := i) (v := .string l[i]) (by rw [List.getElem?_map, List.getElem?_eq_getElem hil]; rfl)
    refine ⟨p, p1, by omega, by omega, l[i], p2, blk lb, rfl, some (blk a), cell_at B.cell rfl, disk_Remove Hg.disk (by omega) fun g2 Od2 d2 st2 => ?_⟩
    obtain ⟨H2, s2⟩ := Hg.onDisk d2 st2
    by_cases h0 : (D1.remove l[i]).1 = 0
    · rw [if_pos h0] at hres
      rw [if_neg (by rw [bne_iff_ne]; exact fun e => e h0)]
      have := remove_chg D1 l[i]
      refine ⟨⟨i + 1, _, Od2, by omega, by rw [wrap64] <;> omega, H2, st.trans s2, hres, by omega, hsg.frame (fun q hq => st2.ext.same q (hsg.lt hq) (hog q hq)), fun q hq ho => ?_⟩, ?_⟩
      · rcases st2.own q ho with h | h
        · exact hog q hq h
        · have := hsg.lt hq; omega
      · rw [wrap64 (by omega) (by omega)]
        show l.length - ((i : Int) + 1).toNat < l.length - (i : Int).toNat
        omega
    · rw [if_neg h0] at hres
      rw [if_pos (by rw [bne_iff_ne]; exact h0)]
      unfold removeS at hk
      rw [← hres, if_neg h0] at hk
      exact hk g2 Od2 H2 (st.trans s2)
  · rw [if_neg (by rw [decide_eq_true_iff]; omega)]
    rw [List.drop_of_length_le (by omega), removeL] at hres
    unfold removeS at hk
    rw [← hres, if_pos rfl] at hk
    by_cases hnil : l = []
    · rw [if_pos hnil] at hk
      rw [if_pos (by rw [hnil]; rfl)]
      exact hk g Od1 Hg st
    · rw [if_neg hnil] at hk
      have : l.length ≠ 0 := fun e => hnil (List.eq_nil_of_length_eq_zero e)
      rw [if_neg (by rw [beq_iff_eq]; omega)]
      refine ⟨blk lb, rfl, some (blk a), cell_at B.cell rfl, disk_SyncNames Hg.disk fun g2 Od2 d2 st2 => ?_⟩
      obtain ⟨H2, s2⟩ := Hg.onDisk d2 st2
      exact hk g2 Od2 H2 (st.trans s2)
end
end Go.Proofs.YtgdmjdacmebfjaaGreatDoor.D

namespace Go.Proofs.YtgdmjdacmebfjaaGreatDoor.D
open Go

theorem numF_lt : ∀ (l : List UInt8) (n : Nat), numF l n < 10 ^ l.length * (n + 1)
  | [], n => by simp [numF]
  | x :: l, n => by
    unfold numF
    have h10 : 0 < 10 ^ l.length := Nat.pow_pos (by decide)
    split
    · exact Nat.mul_pos (Nat.pow_pos (by decide)) (Nat.succ_pos _)
    · have := numF_lt l (10 * n + (x.toNat - 48))
      refine Nat.lt_of_lt_of_le this ?_
      rw [List.length_cons, Nat.pow_succ, Nat.mul_assoc]
      exact Nat.mul_le_mul_left _ (by omega)
theorem numberN_lt (s : ByteArray) : numberN s ≤ 100000000 := by
  unfold numberN
  split
  · rename_i h
    have := numF_lt (s.data.toList.drop 1) 0
    rw [List.length_drop, ← size_len, h.1] at this
    have e : (10 : Nat) ^ (9 - 1) * (0 + 1) = 100000000 := by decide
    rw [e] at this
    omega
  · omega

section
variable {h : Hp} {lb a : Nat} {L : LS} {D : DS} {Od Ol : Nat → Prop}
def openF (D : DS) (base : Nat) : List ByteArray → List Seg → List Seg
  | [], acc => acc
  | k :: r, acc => if fitsA acc (parsed (numberN k) (D.read k).1) base = true then openF D base r (acc ++ [parsed (numberN k) (D.read k).1]) else acc
def DS.files (D : DS) : List ByteArray := D.names.filter fun k => !(numberN k == 0)
def openK (D : DS) (base : Nat) : List Seg := if endA (openF D base D.files []) < base then [] else openF D base D.files []
def openR (D : DS) (base : Nat) : Int × DS := removeS (D.files.drop (openK D base).length) D
theorem pred_open : PredV (.func (.func F_wal_Open_1) #[] #[]) fun k => numberN k == 0 := by
  refine ⟨F_wal_Open_1, rfl, by kernel_rfl, fun x h K hk => ?_⟩
  refine S_wal_Open_1 (s_0 := x) ?_
  refine wal_number_ fun h1 w1 => ?_
  have e : ((numberN x : Int) == 0) = (numberN x == 0) := by
    rw [Bool.eq_iff_iff, beq_iff_eq, beq_iff_eq]; omega
  rw [e]
  exact hk h1 w1
theorem parsed_ok {first : Nat} {s : ByteArray} (hf : first ≤ 200000000) (hs : s.size < 90000000) : (parsed first s).Ok := by
  refine ⟨hf, ?_⟩
  show (parseF s (s.size + 1) 0).1.length ≤ _
  have := parseF_len s (s.size + 1) 0
  omega
theorem LogAt.frame {h' : Hp} (H : LogAt h lb a L D Od Ol) (e : ∀ b, Od b ∨ Ol b → h'[b]? = h[b]?) (hs : h.size ≤ h'.size) : LogAt h' lb a L D Od Ol :=
  ⟨H.disk.frame (fun b hb => e b (.inl hb)) hs, by obtain ⟨s, ps, B⟩ := H.log; exact ⟨s, ps, B.frame (fun b hb => e b (.inr hb)) hs⟩, H.dis⟩
theorem endA_bound {acc : List Seg} (hok : ∀ x ∈ acc, x.Ok) : -1 ≤ endA acc ∧ endA acc < 1000000000 := by
  unfold endA
  cases hg : acc.getLast? with
  | none => simp
  | some x =>
    obtain ⟨q1, q2⟩ := hok x (List.mem_of_getLast? hg)
    simp only [Seg.last]
    omega
theorem open_tail {base : Nat} {s12 : Sl} {h0 : Hp} {O0 : Nat → Prop} {h4 : Hp} {K : Option Addr → Int → Hp → Prop} (hlb : lb = h4.size) (H : LogAt h lb a L D Od Ol) (hb : base < 99999999) (hc : D.chg.length < 900000) (st : Step h0 O0 h (Or2 Od Ol))
    (hs : SlOwn h s12 T_string 1 (D.files.map Value.string)) (hso : ∀ q, s12.blk? = some q → ¬ Od q) (hfl : D.files.length ≤ 1000) (hsegs : L.segs.map L.sg = openK D base) (hlen : L.segs.length ≤ D.files.length) (hok : ∀ b, b ∈ L.segs → (L.sg b).Ok) (hh : L.hand = none) (hbg : L.begun = false)
    (k2 : (openR D base).1 ≠ 0 → ∀ h' Od', DiskAt h' a (openR D base).2 Od' → Step h0 O0 h' (Or2 Od' Ol) → K none (openR D base).1 h')
    (k3 : (openR D base).1 = 0 → ∀ h' L' Od', LogAt h' lb a L' (openR D base).2 Od' Ol → Step h0 O0 h' (Or2 Od' Ol) →
      L'.segs.map L'.sg = openK D base → L'.hand = none → L'.begun = false → (L'.last : Int) = maxI base (endA (openK D base)) → L'.durable = L'.last → K (some (blk lb)) 0 h') : D_wal_Open_j1 (base : Int) K h4 s12 h := by
  obtain ⟨s, ps, B⟩ := H.log
  unfold D_wal_Open_j1
  rw [← hlb]
  have h12 : s12.len = D.files.length := by have := hs.len1; rw [List.length_map] at this; exact this
  have hkl : (openK D base).length = L.segs.length := by rw [← hsegs, List.length_map]
  refine ⟨s, cell_at B.cell rfl, L.segs.length, by rw [B.len], by omega, hs.len_le, ?_⟩
  have hcut := hs.cut (i := L.segs.length) (j := s12.len) (by omega) (Nat.le_refl _)
  rw [← List.map_drop, List.take_of_length_le (by rw [List.length_map, List.length_drop]; omega)] at hcut
  refine log_remove H hcut (fun q hq => hso q (by rw [slCut_blk] at hq; exact hq)) (by rw [List.length_drop]; omega) fun h2 Od2 H2 s2 => ?_
  have hR : removeS (D.files.drop L.segs.length) D = openR D base := by unfold openR; rw [hkl]
  rw [hR] at H2 ⊢
  by_cases h0e : (openR D base).1 = 0
  · rw [if_neg (by rw [bne_iff_ne]; exact fun e => e h0e)]
    refine log_end H2 hok (by omega) ?_
    obtain ⟨s', ps', B2⟩ := H2.log
    rw [end_map, hsegs]
    have hbd := endA_bound (acc := openK D base) (fun x hx => by
      rw [← hsegs] at hx
      obtain ⟨b, hb, rfl⟩ := List.mem_map.1 hx
      exact hok b hb)
    obtain ⟨m, hm⟩ : ∃ m : Nat, maxI (base : Int) (endA (openK D base)) = (m : Int) := by
      refine ⟨(maxI (base : Int) (endA (openK D base))).toNat, ?_⟩
      unfold maxI
      split <;> omega
    rw [hm]
    refine ⟨_, cell_at B2.cell rfl, frz_at B2.cell, fun g1 e1 => ?_⟩
    have c1 := set_at (cs' := #[.pointer (some (blk a)), s'.v, .pointer (L.hand.map blk), .bool L.begun, .int .i64 m, .int .i64 L.durable]) e1 B2.cell rfl
    refine ⟨(m : Int), cell_at c1 rfl, _, cell_at c1 rfl, frz_at c1, fun g2 e2 => ?_⟩
    have c2 := set_at (cs' := #[.pointer (some (blk a)), s'.v, .pointer (L.hand.map blk), .bool L.begun, .int .i64 m, .int .i64 m]) e2 c1 rfl
    obtain ⟨H3, s3⟩ := H2.swap (L' := { L with last := m, durable := m }) B2 c2 (fun b hb => by rw [e2, setH_ne (by rw [blk_add]; exact hb), e1, setH_ne (by rw [blk_add]; exact hb)]) (by rw [e2, setH_size, e1, setH_size]) B2.segs (fun _ => id) (fun _ => id) rfl
    exact k3 h0e g2 _ Od2 H3 ((st.trans s2).trans s3) hsegs hh hbg hm.symm rfl
  · rw [if_pos (by rw [bne_iff_ne]; exact h0e)]
    exact k2 h0e h2 Od2 H2.disk (st.trans s2)
theorem wal_Open_ {base : Nat} {K : Option Addr → Int → Hp → Prop} (H : DiskAt h a D Od) (hb : base < 99999999) (hfit : FitL D.now) (hsz : ∀ k, (D.read k).1.size < 90000000) (hc : D.chg.length < 900000)
    (k1 : D.dead = true → K none 11 h)
    (k2 : D.dead = false → (openR D base).1 ≠ 0 → ∀ h' Od', DiskAt h' a (openR D base).2 Od' → Step h Od h' Od' → K none (openR D base).1 h')
    (k3 : D.dead = false → (openR D base).1 = 0 → ∀ h' lb L Od' Ol', LogAt h' lb a L (openR D base).2 Od' Ol' → Step h Od h' (Or2 Od' Ol') →
      L.segs.map L.sg = openK D base → L.hand = none → L.begun = false → (L.last : Int) = maxI base (endA (openK D base)) → L.durable = L.last → K (some (blk lb)) 0 h') : C_wal_Open (some (blk a)) (base : Int) h K := by
  refine S_wal_Open ?_
  unfold D_wal_Open D_wal_Open_j4
  rw [if_neg (by rw [decide_eq_true_iff]; omega), if_neg (by rw [decide_eq_true_iff]; omega)]
  refine disk_Up H ?_
  by_cases hd : D.dead = true
  · rw [if_pos (by rw [hd]; rfl)]
    exact k1 hd
  rw [Bool.not_eq_true] at hd
  rw [if_neg (by rw [hd]; decide)]
  intro h7 e7
  have w7 : Grow h h7 := (Grow.refl h).push e7
  have z7 : h7.size = h.size + 1 := by rw [e7, Array.size_push]
  have c7 : h7[h.size]? = some (logOb a ⟨none, 0, 0⟩ ⟨[], fun _ => ⟨0, [], 0, false⟩, none, false, 0, 0⟩) := push_new e7
  have H7 : LogAt h7 h.size a ⟨[], fun _ => ⟨0, [], 0, false⟩, none, false, 0, 0⟩ D Od (fun x => x = h.size) :=
    ⟨(H.push e7).1, ⟨⟨none, 0, 0⟩, fun _ => ⟨none, 0, 0⟩, ⟨c7, .nil, (fun b hb => by cases hb), (fun b b' q hb => by cases hb), rfl, (fun q hq => by cases hq), (fun b hb => by cases hb), (fun b hb => by omega)⟩⟩, fun b hb ho => by have := H.lt b ho; omega⟩
  have hnl : D.names.length ≤ 1000 := by
    unfold DS.names
    rw [if_neg (by rw [hd]; decide), sortK_len, List.length_map]
    exact hfit.2
  have hfl : D.files.length ≤ 1000 := Nat.le_trans (List.length_filter_le _ _) hnl
  refine disk_Names H7.disk hfit fun s10 h9 w9 own10 new10 => ?_
  refine delete_func own10 (by omega) pred_open fun s12 h11 own12 blk12 x11 => ?_
  have own12 : SlOwn h11 s12 T_string 1 (D.files.map Value.string) := own12
  have new12 : ∀ q, s12.blk? = some q → h7.size ≤ q := fun q hq => new10 q (blk12 ▸ hq)
  obtain ⟨H9, _⟩ := H7.grow w9
  have H11 : LogAt h11 h.size a ⟨[], fun _ => ⟨0, [], 0, false⟩, none, false, 0, 0⟩ D Od (fun x => x = h.size) := H9.frame (fun b hb => x11.same b (by
      have := w9.size
      rcases hb with hb | hb
      · have := H.lt b hb; omega
      · omega) (fun e => by
      have := new10 b e
      rcases hb with hb | hb
      · have := H.lt b hb; omega
      · omega)) x11.size
  have st11 : Step h Od h11 (Or2 Od (fun x => x = h.size)) := ⟨⟨by have := w9.size; have := x11.size; omega, fun b hb _ => by
      have := w9.size
      rw [x11.same b (by omega) (fun e => by have := new10 b e; omega), w9.same b (by omega) id, w7.same b hb id]⟩, fun b hb => hb.imp id (fun e => Nat.le_of_eq e.symm)⟩
  have h12 : s12.len = D.files.length := by have := own12.len1; rw [List.length_map] at this; exact this
  refine ⟨fun x g => ∃ (i : Nat) (L : LS) (Ol : Nat → Prop), i ≤ D.files.length ∧ x = (i : Int) ∧ LogAt g h.size a L D Od Ol ∧ Step h Od g (Or2 Od Ol) ∧ openF D base (D.files.drop i) (L.segs.map L.sg) = openF D base D.files [] ∧ (L.hand = none ∧ L.begun = false) ∧ (∀ b, b ∈ L.segs → (L.sg b).Ok) ∧ L.segs.length ≤ i ∧
      SlOwn g s12 T_string 1 (D.files.map Value.string) ∧ (∀ q, s12.blk? = some q → ¬ Od q ∧ ¬ Ol q), fun x _ => D.files.length - x.toNat,
    ⟨0, _, _, by omega, rfl, H11, st11, rfl, ⟨rfl, rfl⟩, fun b hb => (by cases hb), Nat.le_refl _, own12, fun q hq => ⟨fun ho => (by have := H.lt q ho; have := new12 q hq; omega), fun ho => (by have := new12 q hq; omega)⟩⟩, ?_⟩
  rintro x g ⟨i, L, Ol, hi, rfl, Hg, st, hres, hhb, hok, hlen, own, nown⟩
  have tail : ∀ (g : Hp) (Ol : Nat → Prop), LogAt g h.size a L D Od Ol → Step h Od g (Or2 Od Ol) → SlOwn g s12 T_string 1 (D.files.map Value.string) → L.segs.map L.sg = openF D base D.files [] → D_wal_Open_j2 (base : Int) K h s12 g := by
    intro g Ol Hg st own hacc
    unfold D_wal_Open_j2
    refine log_end Hg hok (by omega) ?_
    rw [end_map, hacc]
    obtain ⟨sl, ps, B⟩ := Hg.log
    by_cases hlt : endA (openF D base D.files []) < (base : Int)
    · rw [if_pos (decide_eq_true hlt)]
      refine ⟨_, cell_at B.cell rfl, frz_at B.cell, fun g1 e1 => ?_⟩
      have c1 := set_at (cs' := #[.pointer (some (blk a)), (Sl.mk none 0 0).v, .pointer (L.hand.map blk), .bool L.begun, .int .i64 L.last, .int .i64 L.durable]) e1 B.cell rfl
      have n1 : ∀ b, b ≠ h.size → g1[b]? = g[b]? := fun b hb => by rw [e1, setH_ne (by rw [blk_add]; exact hb)]
      obtain ⟨H1, s1⟩ := Hg.swap (L' := { L with segs := [] }) B c1 n1 (by rw [e1, setH_size]) .nil (fun q hq => absurd hq (by simp [Sl.blk?])) (fun b hb => absurd hb (by simp)) rfl
      have hK : openK D base = [] := by unfold openK; rw [if_pos hlt]
      refine open_tail (L := { L with segs := [] }) rfl H1 hb hc (st.trans s1) (own.frame fun q hq => n1 q (by have := new12 q hq; omega)) (fun q hq => (nown q hq).1) hfl (by rw [hK]; rfl) (by simp) (fun b hb => by simp at hb) hhb.1 hhb.2 ?_ ?_
      · intro e h' Od' hd' st'
        exact k2 hd e h' Od' hd' ⟨st'.ext, fun b hb => st'.own b (.inl hb)⟩
      · intro e h' L' Od' HL st' q1 q2 q3 q4 q5
        exact k3 hd e h' h.size L' Od' Ol HL st' q1 q2 q3 q4 q5
    · rw [if_neg (by rw [decide_eq_true_iff]; exact hlt)]
      have hK : openK D base = openF D base D.files [] := by unfold openK; rw [if_neg hlt]
      refine open_tail rfl Hg hb hc st own (fun q hq => (nown q hq).1) hfl (by rw [hK]; exact hacc) (by omega) hok hhb.1 hhb.2 ?_ ?_
      · intro e h' Od' hd' st'
        exact k2 hd e h' Od' hd' ⟨st'.ext, fun b hb => st'.own b (.inl hb)⟩
      · intro e h' L' Od' HL st' q1 q2 q3 q4 q5
        exact k3 hd e h' h.size L' Od' Ol HL st' q1 q2 q3 q4 q5
  unfold D_wal_Open_l3
  rw [h12]
  by_cases hil : i < D.files.length
  · rw [if_pos (decide_eq_true (by omega))]
    rw [List.drop_eq_getElem_cons hil, openF] at hres
    obtain ⟨p, p1, p2⟩ := own.get (i := i) (v := .string D.files[i]) (by rw [List.getElem?_map, List.getElem?_eq_getElem hil]; rfl)
    refine ⟨p, p1, by omega, by omega, D.files[i], p2, disk_Read Hg.disk (wal_number_ fun g1 w1 => ?_)⟩
    have hsk := hsz D.files[i]
    refine wal_parse_ (by omega) fun g2 pl w2 hS hnew => ?_
    have wg : Grow g g2 := w1.trans w2
    obtain ⟨H2, s2⟩ := Hg.grow wg
    have own2 := own.frame (h' := g2) (fun q hq => wg.same q (own.lt hq) id)
    have hxok := parsed_ok (s := (D.read D.files[i]).1) (first := numberN D.files[i]) (by have := numberN_lt D.files[i]; omega) hsk
    refine log_fits H2 hS hok (by omega) (by omega) ?_
    by_cases hfit2 : fitsA (L.segs.map L.sg) (parsed (numberN D.files[i]) (D.read D.files[i]).1) base = true
    · rw [if_pos hfit2] at hres
      rw [if_neg (by rw [hfit2]; decide)]
      obtain ⟨sl, ps, B2⟩ := H2.log
      refine ⟨sl, cell_at B2.cell rfl, ?_⟩
      have hg1 := w1.size
      have lt2 := lt_of_some hS.cell
      refine log_take H2 B2 hS ⟨fun e => (by have := Hg.ollt _ e; omega), fun q hq e => (by have := hnew q hq; have := Hg.ollt _ e; omega)⟩ ⟨fun e => (by have := Hg.disk.lt _ e; omega), fun q hq e => (by have := hnew q hq; have := Hg.disk.lt _ e; omega)⟩ (by omega) (h0 := g) (O0 := Or2 Od Ol) ⟨hg1, fun q hq => (by have := hnew q hq; omega)⟩ s2 fun g3 Ol3 H3 s3 => ?_
      have bnew : g1.size ∉ L.segs := fun e => by
        obtain ⟨_, ps0, B0⟩ := Hg.log
        have := lt_of_some (B0.seg _ e).cell
        omega
      refine ⟨⟨i + 1, _, Ol3, by omega, by rw [wrap64] <;> omega, H3, st.trans s3, ?_, hhb, fun b hb => ?_, ?_, own.frame fun q hq => s3.ext.same q (own.lt hq) (fun ho => ho.elim (nown q hq).1 (nown q hq).2), fun q hq => ⟨(nown q hq).1, fun ho => ?_⟩⟩, ?_⟩
      · rw [← hres]
        congr 1
        show (L.segs ++ [g1.size]).map (sgSet L.sg g1.size _) = _
        rw [List.map_append, List.map_cons, List.map_nil, sgSet_same]
        congr 1
        apply List.map_congr_left
        intro b hb
        exact sgSet_ne _ _ (fun e => bnew (e ▸ hb))
      · show (sgSet L.sg g1.size _ b).Ok
        by_cases hbb : b = g1.size
        · rw [hbb, sgSet_same]; exact hxok
        · rw [sgSet_ne _ _ hbb]
          exact hok b ((List.mem_append.1 hb).elim id (fun h => absurd (List.mem_singleton.1 h) hbb))
      · show (L.segs ++ [g1.size]).length ≤ i + 1
        rw [List.length_append]; simp only [List.length_singleton]; omega
      · rcases s3.own q (.inr ho) with h | h
        · exact h.elim (nown q hq).1 (nown q hq).2
        · have := own.lt hq; omega
      · rw [wrap64 (by omega) (by omega)]
        show D.files.length - ((i : Int) + 1).toNat < D.files.length - (i : Int).toNat
        omega
    · rw [if_neg hfit2] at hres
      rw [if_pos (by rw [Bool.not_eq_true] at hfit2; rw [hfit2]; rfl)]
      exact tail g2 Ol H2 (st.trans s2) own2 hres
  · rw [if_neg (by rw [decide_eq_true_iff]; omega)]
    rw [List.drop_of_length_le (by omega), openF] at hres
    exact tail g Ol Hg st own hres
end
end Go.Proofs.YtgdmjdacmebfjaaGreatDoor.D
