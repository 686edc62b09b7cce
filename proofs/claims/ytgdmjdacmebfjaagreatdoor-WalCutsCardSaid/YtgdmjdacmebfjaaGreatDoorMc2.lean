/-
  The code of each function does what its plain text says (written by a program). No conditions.
-/
import Derived.Test.YtgdmjdacmebfjaaGreatDoorMb
namespace Go.Proofs.YtgdmjdacmebfjaaGreatDoor.D
open Go
set_option maxRecDepth 100000
theorem S_wal_name {n_0 : Int} {h0 : Hp} {K : ByteArray → Hp → Prop} (hD : D_wal_name n_0 h0 K) : C_wal_name n_0 h0 K := by
  unfold D_wal_name at hD
  refine calls_cw (args := [Value.int .i64 n_0]) Go.Proofs.Tryz.func25 rfl ?_
  show cw _ 23 _ [(0, Value.int .i64 n_0)] _ _ _ _
  refine cw_seq ?_
  refine cw_region ?_
  refine wl_q rfl rfl rfl (q_assign rfl rfl) ?_
  refine wl_keep (l' := [(0, Value.int .i64 n_0)]) (keep_cons rfl keep_nil) (wl_nil ?_)
  refine cw_seq ?_
  refine cw_region ?_
  obtain ⟨c2, c3, c4, c5, hD⟩ := hD
  refine wl_e rfl rfl rfl (e_makeSlice rfl rfl rfl Go.Proofs.Tryz.underlying33 sz_5 by_5 zr_5 c2 c3 c4 c5 ?_ rfl)
  intro hz1 e6
  have hD := hD hz1 e6
  refine wl_q rfl rfl rfl (q_assign rfl rfl) ?_
  refine wl_keep (l' := [(0, Value.int .i64 n_0), (3, Sl.v (Sl.mk (some (blk h0.size)) (9 : Int).toNat (9 : Int).toNat))]) (keep_cons rfl (keep_cons rfl keep_nil)) (wl_nil ?_)
  refine cw_seq ?_
  refine cw_region ?_
  refine wl_q rfl rfl rfl (q_move rfl rfl) ?_
  obtain ⟨a7, c8, c9, c10, hD⟩ := hD
  refine wl_q rfl rfl rfl (q_indexAddr rfl rfl rfl Go.Proofs.Tryz.underlying33 sz_5 c8 c9 c10) ?_
  obtain ⟨u12, c13, c14, hD⟩ := hD
  refine wl_e0 rfl rfl (e_store rfl rfl rfl sz_5 trivial c13 c14 ?_)
  intro hz11 e15
  have hD := hD hz11 e15
  refine wl_keep (l' := [(0, Value.int .i64 n_0), (3, Sl.v (Sl.mk (some (blk h0.size)) (9 : Int).toNat (9 : Int).toNat))]) (keep_cons rfl (keep_cons rfl keep_nil)) (wl_nil ?_)
  refine cw_seq ?_
  refine cw_seq ?_
  refine cw_region ?_
  refine wl_q rfl rfl rfl (q_assign rfl rfl) ?_
  refine wl_keep (l' := [(0, Value.int .i64 n_0), (3, Sl.v (Sl.mk (some (blk h0.size)) (9 : Int).toNat (9 : Int).toNat)), (4, Value.int .i64 8)]) (keep_cons rfl (keep_cons rfl (keep_cons rfl keep_nil))) (wl_nil ?_)
  refine cw_block ?_
  obtain ⟨I, μ, hI30, hL31⟩ := hD
  refine cw_loops (σ := Int × Int) (fun s => [(0, Value.int .i64 s.1), (3, Sl.v (Sl.mk (some (blk h0.size)) (9 : Int).toNat (9 : Int).toNat)), (4, Value.int .i64 s.2)]) (n_0, 8) (fun s h => I s.1 s.2 h) (fun s h => μ s.1 s.2 h) (keep_cons rfl (keep_cons rfl (keep_cons rfl keep_nil))) hI30 ?_
  rintro ⟨n16, i17⟩ hz18 hI
  have hD := hL31 n16 i17 hz18 hI
  obtain ⟨C19, hC19⟩ : ∃ c : Int → Int → Hp → Prop, c = (fun n16' i17' h' => I n16' i17' h' ∧ μ n16' i17' h' < μ n16 i17 hz18) := ⟨_, rfl⟩
  rw [← hC19] at hD
  unfold D_wal_name_l1 at hD
  show cw _ _ _ [(0, Value.int .i64 n16), (3, Sl.v (Sl.mk (some (blk h0.size)) (9 : Int).toNat (9 : Int).toNat)), (4, Value.int .i64 i17)] _ _ _ _
  refine cw_seq ?_
  refine cw_seq ?_
  refine cw_region ?_
  refine wl_q rfl rfl rfl (q_move rfl rfl) ?_
  refine wl_q rfl rfl rfl (q_bin rfl rfl rfl (fun _ _ => rfl)) ?_
  refine wl_keep (l' := [(0, Value.int .i64 n16), (3, Sl.v (Sl.mk (some (blk h0.size)) (9 : Int).toNat (9 : Int).toNat)), (4, Value.int .i64 i17), (9, Value.bool (decide (i17 > (0 : Int))))]) (keep_cons rfl (keep_cons rfl (keep_cons rfl (keep_cons rfl keep_nil)))) (wl_nil ?_)
  refine cw_cond rfl (fun hb20 => ?_) (fun hb20 => ?_)
  · have hD := ifT hb20 hD
    refine cw_skip ?_
    refine cw_seq ?_
    refine cw_block ?_
    refine cw_seq ?_
    refine cw_region ?_
    refine wl_q rfl rfl rfl (q_move rfl rfl) ?_
    refine wl_q rfl rfl rfl (q_move rfl rfl) ?_
    refine wl_q rfl rfl rfl (q_move rfl rfl) ?_
    refine wl_q rfl rfl rfl (q_rem rfl rfl rfl (by decide)) ?_
    refine wl_q rfl rfl rfl (q_bin rfl rfl rfl (fun _ _ => rfl)) ?_
    refine wl_q rfl rfl rfl (q_conv_int rfl rfl Go.Proofs.Tryz.underlying3 Go.Proofs.Tryz.underlying5) ?_
    obtain ⟨c21, c22, hD⟩ := hD
    refine wl_q rfl rfl rfl (q_indexAddr rfl rfl rfl Go.Proofs.Tryz.underlying33 sz_5 c8 c21 c22) ?_
    obtain ⟨u24, c25, c26, hD⟩ := hD
    refine wl_e0 rfl rfl (e_store rfl rfl rfl sz_5 trivial c25 c26 ?_)
    intro hz23 e27
    have hD := hD hz23 e27
    refine wl_keep (l' := [(0, Value.int .i64 n16), (3, Sl.v (Sl.mk (some (blk h0.size)) (9 : Int).toNat (9 : Int).toNat)), (4, Value.int .i64 i17)]) (keep_cons rfl (keep_cons rfl (keep_cons rfl keep_nil))) (wl_nil ?_)
    refine cw_region ?_
    refine wl_q rfl rfl rfl (q_move rfl rfl) ?_
    refine wl_q rfl rfl rfl (q_quo rfl rfl rfl (by decide)) ?_
    refine wl_q rfl rfl rfl (q_assign rfl rfl) ?_
    refine wl_keep (l' := [(0, Value.int .i64 (IntKind.i64.wrap (Int.tdiv n16 10))), (3, Sl.v (Sl.mk (some (blk h0.size)) (9 : Int).toNat (9 : Int).toNat)), (4, Value.int .i64 i17)]) (keep_cons rfl (keep_cons rfl (keep_cons rfl keep_nil))) (wl_nil ?_)
    refine cw_region ?_
    refine wl_q rfl rfl rfl (q_move rfl rfl) ?_
    refine wl_q rfl rfl rfl (q_bin rfl rfl rfl (fun _ _ => rfl)) ?_
    refine wl_q rfl rfl rfl (q_assign rfl rfl) ?_
    refine wl_keep (l' := [(0, Value.int .i64 (IntKind.i64.wrap (Int.tdiv n16 10))), (3, Sl.v (Sl.mk (some (blk h0.size)) (9 : Int).toNat (9 : Int).toNat)), (4, Value.int .i64 (IntKind.i64.wrap (i17 - 1)))]) (keep_cons rfl (keep_cons rfl (keep_cons rfl keep_nil))) (wl_nil ?_)
    rw [hC19] at hD
    exact ⟨(IntKind.i64.wrap (Int.tdiv n16 10), IntKind.i64.wrap (i17 - 1)), (keep_cons rfl (keep_cons rfl (keep_cons rfl keep_nil))), hD⟩
  · have hD := ifF hb20 hD
    refine cw_exit ?_
    refine xput_same ?_
    refine cw_seq ?_
    refine cw_region ?_
    refine wl_q rfl rfl rfl (q_move rfl rfl) ?_
    obtain ⟨x28, c29, hD⟩ := hD
    refine wl_q rfl rfl rfl (q_conv_b rfl rfl Go.Proofs.Tryz.underlying33 Go.Proofs.Tryz.underlying9 Go.Proofs.Tryz.underlying5 (At.bytes c29)) ?_
    refine wl_q rfl rfl rfl (q_assign rfl rfl) ?_
    refine wl_keep (l' := [(2, Value.string x28)]) (keep_cons rfl keep_nil) (wl_nil ?_)
    refine cw_ret ?_
    exact ⟨_, resq1 rfl rfl, _, rfl, hD⟩
end Go.Proofs.YtgdmjdacmebfjaaGreatDoor.D

namespace Go.Proofs.YtgdmjdacmebfjaaGreatDoor.D
open Go
set_option maxRecDepth 100000
theorem S_disk_Disk_Sync {d_0 : Option Addr} {name_1 : ByteArray} {h0 : Hp} {K : Int → Hp → Prop} (hD : D_disk_Disk_Sync d_0 name_1 h0 K) : C_disk_Disk_Sync d_0 name_1 h0 K := by
  unfold D_disk_Disk_Sync at hD
  refine calls_cw (args := [Value.pointer d_0, Value.string name_1]) Go.Proofs.Tryz.func26 rfl ?_
  show cw _ 24 _ [(0, Value.pointer d_0), (1, Value.string name_1)] _ _ _ _
  refine cw_seq ?_
  refine cw_region ?_
  refine wl_q rfl rfl rfl (q_assign rfl rfl) ?_
  refine wl_keep (l' := [(0, Value.pointer d_0), (1, Value.string name_1)]) (keep_cons rfl (keep_cons rfl keep_nil)) (wl_nil ?_)
  refine cw_seq ?_
  refine cw_region ?_
  refine wl_q rfl rfl rfl (q_move rfl rfl) ?_
  refine wl_q rfl rfl rfl (q_move rfl rfl) ?_
  refine wl_e rfl rfl rfl (e_call (first := []) (vs := [Value.pointer d_0, Value.string name_1]) (cap := []) rfl rfl rfl cf_47 (CallsH.mono hD ?_))
  rintro _ hz1 ⟨r2, r3, rfl, hD⟩
  refine wl_q rfl rfl rfl (q_move rfl rfl) ?_
  refine wl_q rfl rfl rfl (q_extract rfl rfl rfl) ?_
  refine wl_q rfl rfl rfl (q_extract rfl rfl rfl) ?_
  refine wl_q rfl rfl rfl (q_assign rfl rfl) ?_
  refine wl_q rfl rfl rfl (q_assign rfl rfl) ?_
  refine wl_keep (l' := [(5, Value.pointer r2), (6, Value.int .i64 r3)]) (keep_cons rfl (keep_cons rfl keep_nil)) (wl_nil ?_)
  refine cw_cut (fun l h => Keep l [(6, Value.int .i64 r3)] ∧ D_disk_Disk_Sync_j1 K r3 h) ?_ ?_
  · refine cw_seq ?_
    refine cw_region ?_
    refine wl_q rfl rfl rfl (q_move rfl rfl) ?_
    refine wl_q rfl rfl rfl (q_bin rfl rfl rfl (fun _ _ => rfl)) ?_
    refine wl_keep (l' := [(5, Value.pointer r2), (6, Value.int .i64 r3), (14, Value.bool (r3 == (0 : Int)))]) (keep_cons rfl (keep_cons rfl (keep_cons rfl keep_nil))) (wl_nil ?_)
    refine cw_cond rfl (fun hb5 => ?_) (fun hb5 => ?_)
    · have hD := ifT hb5 hD
      refine cw_region ?_
      refine wl_q rfl rfl rfl (q_move rfl rfl) ?_
      refine wl_q rfl rfl rfl (q_move rfl rfl) ?_
      obtain ⟨a6, c7, hD⟩ := hD
      refine wl_q rfl rfl rfl (q_nil rfl rfl c7) ?_
      refine wl_q rfl rfl rfl (q_fieldAddr rfl rfl fo_76_0) ?_
      obtain ⟨x8, c9, hD⟩ := hD
      refine wl_q rfl rfl rfl (q_load rfl rfl Go.Proofs.Tryz.underlying9 rfl (At.cell c9)) ?_
      refine wl_q rfl rfl rfl (q_len_string rfl rfl Go.Proofs.Tryz.underlying9 rfl) ?_
      refine wl_q rfl rfl rfl (q_nil rfl rfl c7) ?_
      refine wl_q rfl rfl rfl (q_fieldAddr rfl rfl fo_76_1) ?_
      obtain ⟨u11, c12, c13, hD⟩ := hD
      refine wl_e0 rfl rfl (e_store rfl rfl rfl sz_3 trivial c12 c13 ?_)
      intro hz10 e14
      have hD := hD hz10 e14
      refine wl_keep (l' := [(6, Value.int .i64 r3)]) (keep_cons rfl keep_nil) (wl_nil ?_)
      exact ⟨(keep_cons rfl keep_nil), hD⟩
    · have hD := ifF hb5 hD
      refine cw_skip ?_
      exact ⟨(keep_cons rfl keep_nil), hD⟩
  · rintro l16 hz4 ⟨hk15, hD⟩
    refine cw_keep hk15 ?_
    unfold D_disk_Disk_Sync_j1 at hD
    refine cw_seq ?_
    refine cw_region ?_
    refine wl_q rfl rfl rfl (q_move rfl rfl) ?_
    refine wl_q rfl rfl rfl (q_assign rfl rfl) ?_
    refine wl_keep (l' := [(4, Value.int .i64 r3)]) (keep_cons rfl keep_nil) (wl_nil ?_)
    refine cw_ret ?_
    exact ⟨_, resq1 rfl rfl, _, rfl, hD⟩
end Go.Proofs.YtgdmjdacmebfjaaGreatDoor.D

namespace Go.Proofs.YtgdmjdacmebfjaaGreatDoor.D
open Go
set_option maxRecDepth 100000
theorem S_disk_Disk_SyncNames {d_0 : Option Addr} {h0 : Hp} {K : Int → Hp → Prop} (hD : D_disk_Disk_SyncNames d_0 h0 K) : C_disk_Disk_SyncNames d_0 h0 K := by
  unfold D_disk_Disk_SyncNames at hD
  refine calls_cw (args := [Value.pointer d_0]) Go.Proofs.Tryz.func27 rfl ?_
  show cw _ 17 _ [(0, Value.pointer d_0)] _ _ _ _
  refine cw_seq ?_
  refine cw_region ?_
  refine wl_q rfl rfl rfl (q_assign rfl rfl) ?_
  refine wl_keep (l' := [(0, Value.pointer d_0)]) (keep_cons rfl keep_nil) (wl_nil ?_)
  refine cw_seq ?_
  refine cw_seq ?_
  refine cw_region ?_
  refine wl_q rfl rfl rfl (q_move rfl rfl) ?_
  refine wl_e rfl rfl rfl (e_call (first := []) (vs := [Value.pointer d_0]) (cap := []) rfl rfl rfl cf_42 (CallsH.mono hD ?_))
  rintro _ hz1 ⟨r2, rfl, hD⟩
  refine wl_q rfl rfl rfl (q_un rfl rfl (fun _ => rfl)) ?_
  refine wl_keep (l' := [(0, Value.pointer d_0), (5, Value.bool (!r2))]) (keep_cons rfl (keep_cons rfl keep_nil)) (wl_nil ?_)
  refine cw_cond rfl (fun hb3 => ?_) (fun hb3 => ?_)
  · have hD := ifT hb3 hD
    refine cw_seq ?_
    refine cw_region ?_
    refine wl_q rfl rfl rfl (q_assign rfl rfl) ?_
    refine wl_keep (l' := [(2, Value.int .i64 11)]) (keep_cons rfl keep_nil) (wl_nil ?_)
    refine cw_ret ?_
    exact ⟨_, resq1 rfl rfl, _, rfl, hD⟩
  · have hD := ifF hb3 hD
    refine cw_skip ?_
    refine cw_seq ?_
    refine cw_region ?_
    refine wl_q rfl rfl rfl (q_move rfl rfl) ?_
    refine wl_q rfl rfl rfl (q_move rfl rfl) ?_
    refine wl_q rfl rfl rfl (q_move rfl rfl) ?_
    obtain ⟨a4, c5, hD⟩ := hD
    refine wl_q rfl rfl rfl (q_nil rfl rfl c5) ?_
    refine wl_q rfl rfl rfl (q_fieldAddr rfl rfl fo_45_1) ?_
    obtain ⟨x6, c7, hD⟩ := hD
    refine wl_q rfl rfl rfl (q_load rfl rfl Go.Proofs.Tryz.underlying42 rfl (At.cell c7)) ?_
    refine wl_e rfl rfl rfl (e_call (first := []) (vs := [Value.map x6]) (cap := []) rfl rfl rfl cf_35 (CallsH.mono hD ?_))
    rintro _ hz8 ⟨r9, rfl, hD⟩
    refine wl_q rfl rfl rfl (q_nil rfl rfl c5) ?_
    refine wl_q rfl rfl rfl (q_fieldAddr rfl rfl fo_45_2) ?_
    obtain ⟨u11, c12, c13, hD⟩ := hD
    refine wl_e0 rfl rfl (e_store rfl rfl rfl sz_42 trivial c12 c13 ?_)
    intro hz10 e14
    have hD := hD hz10 e14
    refine wl_q rfl rfl rfl (q_nil rfl rfl c5) ?_
    refine wl_q rfl rfl rfl (q_fieldAddr rfl rfl fo_45_3) ?_
    obtain ⟨u16, c17, c18, hD⟩ := hD
    refine wl_e0 rfl rfl (e_store rfl rfl rfl sz_43 trivial c17 c18 ?_)
    intro hz15 e19
    have hD := hD hz15 e19
    refine wl_keep (l' := []) keep_nil (wl_nil ?_)
    refine cw_seq ?_
    refine cw_region ?_
    refine wl_q rfl rfl rfl (q_assign rfl rfl) ?_
    refine wl_keep (l' := [(2, Value.int .i64 0)]) (keep_cons rfl keep_nil) (wl_nil ?_)
    refine cw_ret ?_
    exact ⟨_, resq1 rfl rfl, _, rfl, hD⟩
end Go.Proofs.YtgdmjdacmebfjaaGreatDoor.D

namespace Go.Proofs.YtgdmjdacmebfjaaGreatDoor.D
open Go
set_option maxRecDepth 100000
theorem S_wal_Log_First {l_0 : Option Addr} {h0 : Hp} {K : Int → Hp → Prop} (hD : D_wal_Log_First l_0 h0 K) : C_wal_Log_First l_0 h0 K := by
  unfold D_wal_Log_First at hD
  refine calls_cw (args := [Value.pointer l_0]) Go.Proofs.Tryz.func28 rfl ?_
  show cw _ 23 _ [(0, Value.pointer l_0)] _ _ _ _
  refine cw_seq ?_
  refine cw_region ?_
  refine wl_q rfl rfl rfl (q_assign rfl rfl) ?_
  refine wl_keep (l' := [(0, Value.pointer l_0)]) (keep_cons rfl keep_nil) (wl_nil ?_)
  refine cw_seq ?_
  refine cw_seq ?_
  refine cw_region ?_
  refine wl_q rfl rfl rfl (q_move rfl rfl) ?_
  obtain ⟨a1, c2, hD⟩ := hD
  refine wl_q rfl rfl rfl (q_nil rfl rfl c2) ?_
  refine wl_q rfl rfl rfl (q_fieldAddr rfl rfl fo_49_1) ?_
  obtain ⟨x3, c4, hD⟩ := hD
  refine wl_q rfl rfl rfl (q_load rfl rfl Go.Proofs.Tryz.underlying46 rfl (At.cell c4)) ?_
  refine wl_q rfl rfl rfl (q_len_slice rfl rfl Go.Proofs.Tryz.underlying46 rfl) ?_
  refine wl_q rfl rfl rfl (q_bin rfl rfl rfl (fun _ _ => rfl)) ?_
  refine wl_keep (l' := [(0, Value.pointer l_0), (8, Value.bool ((x3.len : Int) == (0 : Int)))]) (keep_cons rfl (keep_cons rfl keep_nil)) (wl_nil ?_)
  refine cw_cond rfl (fun hb5 => ?_) (fun hb5 => ?_)
  · have hD := ifT hb5 hD
    refine cw_seq ?_
    refine cw_region ?_
    refine wl_q rfl rfl rfl (q_move rfl rfl) ?_
    refine wl_q rfl rfl rfl (q_nil rfl rfl c2) ?_
    refine wl_q rfl rfl rfl (q_fieldAddr rfl rfl fo_49_4) ?_
    obtain ⟨x6, c7, hD⟩ := hD
    refine wl_q rfl rfl rfl (q_load rfl rfl Go.Proofs.Tryz.underlying3 rfl (At.cell c7)) ?_
    refine wl_q rfl rfl rfl (q_bin rfl rfl rfl (fun _ _ => rfl)) ?_
    refine wl_q rfl rfl rfl (q_assign rfl rfl) ?_
    refine wl_keep (l' := [(2, Value.int .i64 (IntKind.i64.wrap (x6 + 1)))]) (keep_cons rfl keep_nil) (wl_nil ?_)
    refine cw_ret ?_
    exact ⟨_, resq1 rfl rfl, _, rfl, hD⟩
  · have hD := ifF hb5 hD
    refine cw_skip ?_
    refine cw_seq ?_
    refine cw_region ?_
    refine wl_q rfl rfl rfl (q_move rfl rfl) ?_
    refine wl_q rfl rfl rfl (q_nil rfl rfl c2) ?_
    refine wl_q rfl rfl rfl (q_fieldAddr rfl rfl fo_49_1) ?_
    obtain ⟨x8, c9, hD⟩ := hD
    refine wl_q rfl rfl rfl (q_load rfl rfl Go.Proofs.Tryz.underlying46 rfl (At.cell c9)) ?_
    obtain ⟨a10, c11, c12, c13, hD⟩ := hD
    refine wl_q rfl rfl rfl (q_indexAddr rfl rfl rfl Go.Proofs.Tryz.underlying46 sz_47 c11 c12 c13) ?_
    obtain ⟨x14, c15, hD⟩ := hD
    refine wl_q rfl rfl rfl (q_load rfl rfl Go.Proofs.Tryz.underlying47 rfl (At.cell c15)) ?_
    obtain ⟨a16, c17, hD⟩ := hD
    refine wl_q rfl rfl rfl (q_nil rfl rfl c17) ?_
    refine wl_q rfl rfl rfl (q_fieldAddr rfl rfl fo_63_0) ?_
    obtain ⟨x18, c19, hD⟩ := hD
    refine wl_q rfl rfl rfl (q_load rfl rfl Go.Proofs.Tryz.underlying3 rfl (At.cell c19)) ?_
    refine wl_q rfl rfl rfl (q_assign rfl rfl) ?_
    refine wl_keep (l' := [(2, Value.int .i64 x18)]) (keep_cons rfl keep_nil) (wl_nil ?_)
    refine cw_ret ?_
    exact ⟨_, resq1 rfl rfl, _, rfl, hD⟩
end Go.Proofs.YtgdmjdacmebfjaaGreatDoor.D

namespace Go.Proofs.YtgdmjdacmebfjaaGreatDoor.D
open Go
set_option maxRecDepth 100000
theorem S_disk_Disk_Remove {d_0 : Option Addr} {name_1 : ByteArray} {h0 : Hp} {K : Int → Hp → Prop} (hD : D_disk_Disk_Remove d_0 name_1 h0 K) : C_disk_Disk_Remove d_0 name_1 h0 K := by
  unfold D_disk_Disk_Remove at hD
  refine calls_cw (args := [Value.pointer d_0, Value.string name_1]) Go.Proofs.Tryz.func29 rfl ?_
  show cw _ 19 _ [(0, Value.pointer d_0), (1, Value.string name_1)] _ _ _ _
  refine cw_seq ?_
  refine cw_region ?_
  refine wl_e rfl rfl rfl (e_box rfl rfl ?_)
  intro hz1 e2
  have hD := hD hz1 e2
  refine wl_q rfl rfl rfl (q_assign rfl rfl) ?_
  refine wl_keep (l' := [(0, Value.pointer d_0), (3, Value.pointer (some (blk h0.size)))]) (keep_cons rfl (keep_cons rfl keep_nil)) (wl_nil ?_)
  refine cw_seq ?_
  refine cw_region ?_
  refine wl_q rfl rfl rfl (q_move rfl rfl) ?_
  obtain ⟨x3, c4, hD⟩ := hD
  refine wl_q rfl rfl rfl (q_load rfl rfl Go.Proofs.Tryz.underlying9 rfl (At.cell c4)) ?_
  refine wl_e rfl rfl rfl (e_call (first := []) (vs := [Value.pointer d_0, Value.string x3]) (cap := []) rfl rfl rfl cf_47 (CallsH.mono hD ?_))
  rintro _ hz5 ⟨r6, r7, rfl, hD⟩
  refine wl_q rfl rfl rfl (q_move rfl rfl) ?_
  refine wl_q rfl rfl rfl (q_extract rfl rfl rfl) ?_
  refine wl_q rfl rfl rfl (q_extract rfl rfl rfl) ?_
  refine wl_q rfl rfl rfl (q_assign rfl rfl) ?_
  refine wl_q rfl rfl rfl (q_assign rfl rfl) ?_
  refine wl_keep (l' := [(0, Value.pointer d_0), (3, Value.pointer (some (blk h0.size))), (6, Value.int .i64 r7)]) (keep_cons rfl (keep_cons rfl (keep_cons rfl keep_nil))) (wl_nil ?_)
  refine cw_cut (fun l h => Keep l [(6, Value.int .i64 r7)] ∧ D_disk_Disk_Remove_j1 K r7 h) ?_ ?_
  · refine cw_seq ?_
    refine cw_region ?_
    refine wl_q rfl rfl rfl (q_move rfl rfl) ?_
    refine wl_q rfl rfl rfl (q_bin rfl rfl rfl (fun _ _ => rfl)) ?_
    refine wl_keep (l' := [(0, Value.pointer d_0), (3, Value.pointer (some (blk h0.size))), (6, Value.int .i64 r7), (14, Value.bool (r7 == (0 : Int)))]) (keep_cons rfl (keep_cons rfl (keep_cons rfl (keep_cons rfl keep_nil)))) (wl_nil ?_)
    refine cw_cond rfl (fun hb9 => ?_) (fun hb9 => ?_)
    · have hD := ifT hb9 hD
      refine cw_region ?_
      refine wl_q rfl rfl rfl (q_move rfl rfl) ?_
      refine wl_q rfl rfl rfl (q_makeFunc (xs := []) (ys := [.tmp 3]) rfl rfl rfl) ?_
      refine wl_e rfl rfl rfl (e_call (first := []) (vs := [Value.pointer d_0, Value.func (.func F_disk_Disk_Remove_1) #[] #[Value.pointer (some (blk h0.size))]]) (cap := []) rfl rfl rfl cf_45 (CallsH.mono hD ?_))
      rintro _ hz10 ⟨rfl, hD⟩
      refine wl_keep (l' := [(6, Value.int .i64 r7)]) (keep_cons rfl keep_nil) (wl_nil ?_)
      exact ⟨(keep_cons rfl keep_nil), hD⟩
    · have hD := ifF hb9 hD
      refine cw_skip ?_
      exact ⟨(keep_cons rfl keep_nil), hD⟩
  · rintro l12 hz8 ⟨hk11, hD⟩
    refine cw_keep hk11 ?_
    unfold D_disk_Disk_Remove_j1 at hD
    refine cw_seq ?_
    refine cw_region ?_
    refine wl_q rfl rfl rfl (q_move rfl rfl) ?_
    refine wl_q rfl rfl rfl (q_assign rfl rfl) ?_
    refine wl_keep (l' := [(4, Value.int .i64 r7)]) (keep_cons rfl keep_nil) (wl_nil ?_)
    refine cw_ret ?_
    exact ⟨_, resq1 rfl rfl, _, rfl, hD⟩
end Go.Proofs.YtgdmjdacmebfjaaGreatDoor.D

namespace Go.Proofs.YtgdmjdacmebfjaaGreatDoor.D
open Go
set_option maxRecDepth 100000
theorem S_wal_Log_shorten {d_0 : Option Addr} {t_1 : Option Addr} {p_2 : Int} {h0 : Hp} {K : Int → Hp → Prop} (hD : D_wal_Log_shorten d_0 t_1 p_2 h0 K) : C_wal_Log_shorten d_0 t_1 p_2 h0 K := by
  unfold D_wal_Log_shorten at hD
  refine calls_cw (args := [Value.pointer d_0, Value.pointer t_1, Value.int .i64 p_2]) Go.Proofs.Tryz.func30 rfl ?_
  show cw _ 91 _ [(0, Value.pointer d_0), (1, Value.pointer t_1), (2, Value.int .i64 p_2)] _ _ _ _
  refine cw_seq ?_
  refine cw_region ?_
  refine wl_e rfl rfl rfl (e_box rfl rfl ?_)
  intro hz1 e2
  have hD := hD hz1 e2
  refine wl_e rfl rfl rfl (e_box rfl rfl ?_)
  intro hz3 e4
  have hD := hD hz3 e4
  refine wl_q rfl rfl rfl (q_assign rfl rfl) ?_
  refine wl_keep (l' := [(2, Value.int .i64 p_2), (3, Value.pointer (some (blk h0.size))), (4, Value.pointer (some (blk hz1.size)))]) (keep_cons rfl (keep_cons rfl (keep_cons rfl keep_nil))) (wl_nil ?_)
  refine cw_seq ?_
  obtain ⟨x5, c6, hD⟩ := hD
  obtain ⟨a7, c8, hD⟩ := hD
  obtain ⟨x9, c10, hD⟩ := hD
  obtain ⟨x11, c12, hD⟩ := hD
  obtain ⟨a13, c14, hD⟩ := hD
  obtain ⟨x15, c16, hD⟩ := hD
  refine cw_draw (fun h => cellH h (blk h0.size) = some (Value.pointer x5) ∧ cellH h (a7.add 0) = some (Value.pointer x9) ∧ cellH h (blk hz1.size) = some (Value.pointer x11) ∧ cellH h (a13.add 0) = some (Value.int .i64 x15) ∧ True) 16 wide ?_
  have hS : cellH hz3 (blk h0.size) = some (Value.pointer x5) ∧ cellH hz3 (a7.add 0) = some (Value.pointer x9) ∧ cellH hz3 (blk hz1.size) = some (Value.pointer x11) ∧ cellH hz3 (a13.add 0) = some (Value.int .i64 x15) ∧ True := ⟨c6, c10, c12, c16, trivial⟩
  refine wh_q 0 rfl (by kernel_rfl) rfl rfl rfl (q_load rfl rfl Go.Proofs.Tryz.underlying27 rfl (by exact fun _ s => s.1)) (by exact hS) ?_
  refine wh_q 1 rfl (by kernel_rfl) rfl rfl rfl (q_nil rfl rfl c8) (by exact hS) ?_
  refine wh_q 2 rfl (by kernel_rfl) rfl rfl rfl (q_fieldAddr rfl rfl fo_49_0) (by exact hS) ?_
  refine wh_q 3 rfl (by kernel_rfl) rfl rfl rfl (q_load rfl rfl Go.Proofs.Tryz.underlying25 rfl (by exact fun _ s => s.2.1)) (by exact hS) ?_
  refine wh_q 4 rfl (by kernel_rfl) rfl rfl rfl (q_load rfl rfl Go.Proofs.Tryz.underlying47 rfl (by exact fun _ s => s.2.2.1)) (by exact hS) ?_
  refine wh_q 5 rfl (by kernel_rfl) rfl rfl rfl (q_nil rfl rfl c14) (by exact hS) ?_
  refine wh_q 6 rfl (by kernel_rfl) rfl rfl rfl (q_fieldAddr rfl rfl fo_63_0) (by exact hS) ?_
  refine wh_q 7 rfl (by kernel_rfl) rfl rfl rfl (q_load rfl rfl Go.Proofs.Tryz.underlying3 rfl (by exact fun _ s => s.2.2.2.1)) (by exact hS) ?_
  refine wh_e2 8 13 (by kernel_rfl) rfl rfl rfl rfl rfl rfl rfl rfl ?_ ?_
  · have hD := hD.1
    refine e_call (first := []) (vs := [Value.int .i64 x15]) (cap := []) rfl rfl rfl cf_25 (CallsH.mono hD ?_)
    rintro _ hz17 ⟨r18, rfl, hD⟩
    obtain ⟨hk0, hk1, hk2, hk3, hD⟩ := hD
    refine ⟨⟨hk0, hk1, hk2, hk3, trivial⟩, ?_⟩
    have hS : cellH hz17 (blk h0.size) = some (Value.pointer x5) ∧ cellH hz17 (a7.add 0) = some (Value.pointer x9) ∧ cellH hz17 (blk hz1.size) = some (Value.pointer x11) ∧ cellH hz17 (a13.add 0) = some (Value.int .i64 x15) ∧ True := ⟨hk0, hk1, hk2, hk3, trivial⟩
    refine wh_e2 9 13 (by kernel_rfl) rfl rfl rfl rfl rfl rfl rfl rfl ?_ ?_
    · have hD := hD.1
      refine e_call (first := []) (vs := [Value.pointer x9, Value.string r18]) (cap := []) rfl rfl rfl cf_18 (CallsH.mono hD ?_)
      rintro _ hz19 ⟨r20, r21, rfl, hD⟩
      obtain ⟨hk0, hk1, hk2, hk3, hD⟩ := hD
      refine ⟨⟨hk0, hk1, hk2, hk3, trivial⟩, ?_⟩
      have hS : cellH hz19 (blk h0.size) = some (Value.pointer x5) ∧ cellH hz19 (a7.add 0) = some (Value.pointer x9) ∧ cellH hz19 (blk hz1.size) = some (Value.pointer x11) ∧ cellH hz19 (a13.add 0) = some (Value.int .i64 x15) ∧ True := ⟨hk0, hk1, hk2, hk3, trivial⟩
      refine wh_q 10 rfl (by kernel_rfl) rfl rfl rfl (q_move rfl rfl) (by exact hS) ?_
      refine wh_q 11 rfl (by kernel_rfl) rfl rfl rfl (q_extract rfl rfl rfl) (by exact hS) ?_
      refine wh_q 12 rfl (by kernel_rfl) rfl rfl rfl (q_extract rfl rfl rfl) (by exact hS) ?_
      refine wh_e 13 rfl (by kernel_rfl) rfl rfl rfl (e_alloc rfl zr_9 ?_)
      intro hz22 e23
      have hD := hD hz22 e23
      obtain ⟨hk0, hk1, hk2, hk3, hD⟩ := hD
      refine ⟨⟨hk0, hk1, hk2, hk3, trivial⟩, ?_⟩
      have hS : cellH hz22 (blk h0.size) = some (Value.pointer x5) ∧ cellH hz22 (a7.add 0) = some (Value.pointer x9) ∧ cellH hz22 (blk hz1.size) = some (Value.pointer x11) ∧ cellH hz22 (a13.add 0) = some (Value.int .i64 x15) ∧ True := ⟨hk0, hk1, hk2, hk3, trivial⟩
      obtain ⟨u25, c26, c27, hD⟩ := hD
      refine wh_e0 14 rfl (by kernel_rfl) rfl rfl (e_store rfl rfl rfl sz_9 trivial c26 c27 ?_)
      intro hz24 e28
      have hD := hD hz24 e28
      obtain ⟨hk0, hk1, hk2, hk3, hD⟩ := hD
      refine ⟨⟨hk0, hk1, hk2, hk3, trivial⟩, ?_⟩
      have hS : cellH hz24 (blk h0.size) = some (Value.pointer x5) ∧ cellH hz24 (a7.add 0) = some (Value.pointer x9) ∧ cellH hz24 (blk hz1.size) = some (Value.pointer x11) ∧ cellH hz24 (a13.add 0) = some (Value.int .i64 x15) ∧ True := ⟨hk0, hk1, hk2, hk3, trivial⟩
      refine wh_q 15 rfl (by kernel_rfl) rfl rfl rfl (q_assign rfl rfl) (by exact hS) ?_
      refine wh_keep (l' := [(2, Value.int .i64 p_2), (3, Value.pointer (some (blk h0.size))), (4, Value.pointer (some (blk hz1.size))), (7, Value.pointer (some (blk hz19.size))), (8, Value.int .i64 r21)]) (keep_cons rfl (keep_cons rfl (keep_cons rfl (keep_cons rfl (keep_cons rfl keep_nil))))) (wh_done (by kernel_rfl) ?_)
      refine cw_seq ?_
      refine cw_seq ?_
      refine cw_region ?_
      refine wl_q rfl rfl rfl (q_move rfl rfl) ?_
      refine wl_q rfl rfl rfl (q_bin rfl rfl rfl (fun _ _ => rfl)) ?_
      refine wl_keep (l' := [(2, Value.int .i64 p_2), (3, Value.pointer (some (blk h0.size))), (4, Value.pointer (some (blk hz1.size))), (7, Value.pointer (some (blk hz19.size))), (8, Value.int .i64 r21), (30, Value.bool (r21 != (0 : Int)))]) (keep_cons rfl (keep_cons rfl (keep_cons rfl (keep_cons rfl (keep_cons rfl (keep_cons rfl keep_nil)))))) (wl_nil ?_)
      refine cw_cond rfl (fun hb29 => ?_) (fun hb29 => ?_)
      · have hD := ifT hb29 hD
        refine cw_seq ?_
        refine cw_region ?_
        refine wl_q rfl rfl rfl (q_move rfl rfl) ?_
        refine wl_q rfl rfl rfl (q_assign rfl rfl) ?_
        refine wl_keep (l' := [(6, Value.int .i64 r21)]) (keep_cons rfl keep_nil) (wl_nil ?_)
        refine cw_ret ?_
        exact ⟨_, resq1 rfl rfl, _, rfl, hD⟩
      · have hD := ifF hb29 hD
        refine cw_skip ?_
        refine cw_seq ?_
        refine cw_region ?_
        refine wl_q rfl rfl rfl (q_move rfl rfl) ?_
        obtain ⟨x30, c31, hD⟩ := hD
        refine wl_q rfl rfl rfl (q_load rfl rfl Go.Proofs.Tryz.underlying47 rfl (At.cell c31)) ?_
        obtain ⟨a32, c33, hD⟩ := hD
        refine wl_q rfl rfl rfl (q_nil rfl rfl c33) ?_
        refine wl_q rfl rfl rfl (q_fieldAddr rfl rfl fo_63_0) ?_
        obtain ⟨x34, c35, hD⟩ := hD
        refine wl_q rfl rfl rfl (q_load rfl rfl Go.Proofs.Tryz.underlying3 rfl (At.cell c35)) ?_
        refine wl_q rfl rfl rfl (q_bin rfl rfl rfl (fun _ _ => rfl)) ?_
        refine wl_q rfl rfl rfl (q_bin rfl rfl rfl (fun _ _ => rfl)) ?_
        refine wl_q rfl rfl rfl (q_assign rfl rfl) ?_
        refine wl_keep (l' := [(3, Value.pointer (some (blk h0.size))), (4, Value.pointer (some (blk hz1.size))), (7, Value.pointer (some (blk hz19.size))), (9, Value.int .i64 (IntKind.i64.wrap ((IntKind.i64.wrap (p_2 - x34)) + 1)))]) (keep_cons rfl (keep_cons rfl (keep_cons rfl (keep_cons rfl keep_nil)))) (wl_nil ?_)
        refine cw_seq ?_
        obtain ⟨x36, c37, hD⟩ := hD
        obtain ⟨x38, c39, hD⟩ := hD
        obtain ⟨a40, c41, hD⟩ := hD
        obtain ⟨x42, c43, hD⟩ := hD
        obtain ⟨a44, c45, c46, c47, hD⟩ := hD
        obtain ⟨x48, c49, hD⟩ := hD
        obtain ⟨a50, c51, hD⟩ := hD
        refine cw_draw (fun h => cellH h (blk hz1.size) = some (Value.pointer x36) ∧ cellH h (blk hz1.size) = some (Value.pointer x38) ∧ cellH h (a40.add 1) = some (Sl.v x42) ∧ cellH h (a44.add ((IntKind.i64.wrap ((IntKind.i64.wrap (p_2 - x34)) + 1)).toNat * 1)) = some (Value.int .i64 x48) ∧ True) 10 wide ?_
        have hS : cellH hz24 (blk hz1.size) = some (Value.pointer x36) ∧ cellH hz24 (blk hz1.size) = some (Value.pointer x38) ∧ cellH hz24 (a40.add 1) = some (Sl.v x42) ∧ cellH hz24 (a44.add ((IntKind.i64.wrap ((IntKind.i64.wrap (p_2 - x34)) + 1)).toNat * 1)) = some (Value.int .i64 x48) ∧ True := ⟨c37, c39, c43, c49, trivial⟩
        refine wh_q 0 rfl (by kernel_rfl) rfl rfl rfl (q_load rfl rfl Go.Proofs.Tryz.underlying47 rfl (by exact fun _ s => s.1)) (by exact hS) ?_
        refine wh_q 1 rfl (by kernel_rfl) rfl rfl rfl (q_load rfl rfl Go.Proofs.Tryz.underlying47 rfl (by exact fun _ s => s.2.1)) (by exact hS) ?_
        refine wh_q 2 rfl (by kernel_rfl) rfl rfl rfl (q_nil rfl rfl c41) (by exact hS) ?_
        refine wh_q 3 rfl (by kernel_rfl) rfl rfl rfl (q_fieldAddr rfl rfl fo_63_1) (by exact hS) ?_
        refine wh_q 4 rfl (by kernel_rfl) rfl rfl rfl (q_load rfl rfl Go.Proofs.Tryz.underlying22 rfl (by exact fun _ s => s.2.2.1)) (by exact hS) ?_
        refine wh_q 5 rfl (by kernel_rfl) rfl rfl rfl (q_move rfl rfl) (by exact hS) ?_
        refine wh_q 6 rfl (by kernel_rfl) rfl rfl rfl (q_indexAddr rfl rfl rfl Go.Proofs.Tryz.underlying22 sz_3 c45 c46 c47) (by exact hS) ?_
        refine wh_q 7 rfl (by kernel_rfl) rfl rfl rfl (q_load rfl rfl Go.Proofs.Tryz.underlying3 rfl (by exact fun _ s => s.2.2.2.1)) (by exact hS) ?_
        refine wh_q 8 rfl (by kernel_rfl) rfl rfl rfl (q_nil rfl rfl c51) (by exact hS) ?_
        refine wh_q 9 rfl (by kernel_rfl) rfl rfl rfl (q_fieldAddr rfl rfl fo_63_2) (by exact hS) ?_
        obtain ⟨u53, c54, c55, hD⟩ := hD
        refine wh_last 10 rfl (by kernel_rfl) rfl rfl rfl (e_store rfl rfl rfl sz_3 trivial c54 c55 ?_)
        intro hz52 e56
        have hD := hD hz52 e56
        refine wh_keep (l' := [(3, Value.pointer (some (blk h0.size))), (4, Value.pointer (some (blk hz1.size))), (7, Value.pointer (some (blk hz19.size))), (9, Value.int .i64 (IntKind.i64.wrap ((IntKind.i64.wrap (p_2 - x34)) + 1)))]) (keep_cons rfl (keep_cons rfl (keep_cons rfl (keep_cons rfl keep_nil)))) (wh_done (by kernel_rfl) ?_)
        refine cw_seq ?_
        obtain ⟨x57, c58, hD⟩ := hD
        obtain ⟨x59, c60, hD⟩ := hD
        obtain ⟨a61, c62, hD⟩ := hD
        obtain ⟨x63, c64, hD⟩ := hD
        obtain ⟨n65, c66, c67, c68, hD⟩ := hD
        obtain ⟨a69, c70, hD⟩ := hD
        refine cw_draw (fun h => cellH h (blk hz1.size) = some (Value.pointer x57) ∧ cellH h (blk hz1.size) = some (Value.pointer x59) ∧ cellH h (a61.add 1) = some (Sl.v x63) ∧ True) 9 wide ?_
        have hS : cellH hz52 (blk hz1.size) = some (Value.pointer x57) ∧ cellH hz52 (blk hz1.size) = some (Value.pointer x59) ∧ cellH hz52 (a61.add 1) = some (Sl.v x63) ∧ True := ⟨c58, c60, c64, trivial⟩
        refine wh_q 0 rfl (by kernel_rfl) rfl rfl rfl (q_load rfl rfl Go.Proofs.Tryz.underlying47 rfl (by exact fun _ s => s.1)) (by exact hS) ?_
        refine wh_q 1 rfl (by kernel_rfl) rfl rfl rfl (q_load rfl rfl Go.Proofs.Tryz.underlying47 rfl (by exact fun _ s => s.2.1)) (by exact hS) ?_
        refine wh_q 2 rfl (by kernel_rfl) rfl rfl rfl (q_nil rfl rfl c62) (by exact hS) ?_
        refine wh_q 3 rfl (by kernel_rfl) rfl rfl rfl (q_fieldAddr rfl rfl fo_63_1) (by exact hS) ?_
        refine wh_q 4 rfl (by kernel_rfl) rfl rfl rfl (q_load rfl rfl Go.Proofs.Tryz.underlying22 rfl (by exact fun _ s => s.2.2.1)) (by exact hS) ?_
        refine wh_q 5 rfl (by kernel_rfl) rfl rfl rfl (q_move rfl rfl) (by exact hS) ?_
        refine wh_q 6 rfl (by kernel_rfl) rfl rfl rfl (q_slice (i := 0) (j := n65) rfl rfl Go.Proofs.Tryz.underlying22 sz_3 rfl ⟨_, _, rfl, c66⟩ c67 c68) (by exact hS) ?_
        refine wh_q 7 rfl (by kernel_rfl) rfl rfl rfl (q_nil rfl rfl c70) (by exact hS) ?_
        refine wh_q 8 rfl (by kernel_rfl) rfl rfl rfl (q_fieldAddr rfl rfl fo_63_1) (by exact hS) ?_
        obtain ⟨u72, c73, c74, hD⟩ := hD
        refine wh_last 9 rfl (by kernel_rfl) rfl rfl rfl (e_store rfl rfl rfl sz_22 trivial c73 c74 ?_)
        intro hz71 e75
        have hD := hD hz71 e75
        refine wh_keep (l' := [(3, Value.pointer (some (blk h0.size))), (4, Value.pointer (some (blk hz1.size))), (7, Value.pointer (some (blk hz19.size)))]) (keep_cons rfl (keep_cons rfl (keep_cons rfl keep_nil))) (wh_done (by kernel_rfl) ?_)
        refine cw_cut (fun l h => Keep l [(3, Value.pointer (some (blk h0.size))), (4, Value.pointer (some (blk hz1.size))), (7, Value.pointer (some (blk hz19.size)))] ∧ D_wal_Log_shorten_j2 h0 K hz1 hz19 h) ?_ ?_
        · refine cw_seq ?_
          refine cw_region ?_
          obtain ⟨x99, c100, hD⟩ := hD
          refine wl_q rfl rfl rfl (q_load rfl rfl Go.Proofs.Tryz.underlying27 rfl (At.cell c100)) ?_
          obtain ⟨a101, c102, hD⟩ := hD
          refine wl_q rfl rfl rfl (q_nil rfl rfl c102) ?_
          refine wl_q rfl rfl rfl (q_fieldAddr rfl rfl fo_49_0) ?_
          obtain ⟨x103, c104, hD⟩ := hD
          refine wl_q rfl rfl rfl (q_load rfl rfl Go.Proofs.Tryz.underlying25 rfl (At.cell c104)) ?_
          refine wl_e rfl rfl rfl (e_call (first := []) (vs := [Value.pointer x103, Value.string (ByteArray.mk #[116])]) (cap := []) rfl rfl rfl cf_18 (CallsH.mono hD ?_))
          rintro _ hz105 ⟨r106, r107, rfl, hD⟩
          refine wl_q rfl rfl rfl (q_move rfl rfl) ?_
          refine wl_q rfl rfl rfl (q_extract rfl rfl rfl) ?_
          refine wl_q rfl rfl rfl (q_extract rfl rfl rfl) ?_
          refine wl_q rfl rfl rfl (q_assign rfl rfl) ?_
          refine wl_q rfl rfl rfl (q_assign rfl rfl) ?_
          refine wl_keep (l' := [(3, Value.pointer (some (blk h0.size))), (4, Value.pointer (some (blk hz1.size))), (7, Value.pointer (some (blk hz19.size))), (11, Value.int .i64 r107)]) (keep_cons rfl (keep_cons rfl (keep_cons rfl (keep_cons rfl keep_nil)))) (wl_nil ?_)
          refine cw_seq ?_
          refine cw_region ?_
          refine wl_q rfl rfl rfl (q_move rfl rfl) ?_
          refine wl_q rfl rfl rfl (q_bin rfl rfl rfl (fun _ _ => rfl)) ?_
          refine wl_keep (l' := [(3, Value.pointer (some (blk h0.size))), (4, Value.pointer (some (blk hz1.size))), (7, Value.pointer (some (blk hz19.size))), (67, Value.bool (r107 == (0 : Int)))]) (keep_cons rfl (keep_cons rfl (keep_cons rfl (keep_cons rfl keep_nil)))) (wl_nil ?_)
          refine cw_cond rfl (fun hb108 => ?_) (fun hb108 => ?_)
          · have hD := ifT hb108 hD
            refine cw_seq ?_
            refine cw_region ?_
            obtain ⟨x109, c110, hD⟩ := hD
            refine wl_q rfl rfl rfl (q_load rfl rfl Go.Proofs.Tryz.underlying27 rfl (At.cell c110)) ?_
            obtain ⟨a111, c112, hD⟩ := hD
            refine wl_q rfl rfl rfl (q_nil rfl rfl c112) ?_
            refine wl_q rfl rfl rfl (q_fieldAddr rfl rfl fo_49_0) ?_
            obtain ⟨x113, c114, hD⟩ := hD
            refine wl_q rfl rfl rfl (q_load rfl rfl Go.Proofs.Tryz.underlying25 rfl (At.cell c114)) ?_
            refine wl_e rfl rfl rfl (e_call (first := []) (vs := [Value.pointer x113, Value.string (ByteArray.mk #[116])]) (cap := []) rfl rfl rfl cf_29 (CallsH.mono hD ?_))
            rintro _ hz115 ⟨r116, rfl, hD⟩
            refine wl_q rfl rfl rfl (q_assign rfl rfl) ?_
            refine wl_keep (l' := [(3, Value.pointer (some (blk h0.size))), (4, Value.pointer (some (blk hz1.size))), (7, Value.pointer (some (blk hz19.size))), (12, Value.int .i64 r116)]) (keep_cons rfl (keep_cons rfl (keep_cons rfl (keep_cons rfl keep_nil)))) (wl_nil ?_)
            refine cw_seq ?_
            refine cw_region ?_
            refine wl_q rfl rfl rfl (q_move rfl rfl) ?_
            refine wl_q rfl rfl rfl (q_bin rfl rfl rfl (fun _ _ => rfl)) ?_
            refine wl_keep (l' := [(3, Value.pointer (some (blk h0.size))), (4, Value.pointer (some (blk hz1.size))), (7, Value.pointer (some (blk hz19.size))), (12, Value.int .i64 r116), (74, Value.bool (r116 != (0 : Int)))]) (keep_cons rfl (keep_cons rfl (keep_cons rfl (keep_cons rfl (keep_cons rfl keep_nil))))) (wl_nil ?_)
            refine cw_cond rfl (fun hb117 => ?_) (fun hb117 => ?_)
            · have hD := ifT hb117 hD
              refine cw_seq ?_
              refine cw_region ?_
              refine wl_q rfl rfl rfl (q_move rfl rfl) ?_
              refine wl_q rfl rfl rfl (q_assign rfl rfl) ?_
              refine wl_keep (l' := [(6, Value.int .i64 r116)]) (keep_cons rfl keep_nil) (wl_nil ?_)
              refine cw_ret ?_
              exact ⟨_, resq1 rfl rfl, _, rfl, hD⟩
            · have hD := ifF hb117 hD
              refine cw_skip ?_
              exact ⟨(keep_cons rfl (keep_cons rfl (keep_cons rfl keep_nil))), hD⟩
          · have hD := ifF hb108 hD
            refine cw_skip ?_
            exact ⟨(keep_cons rfl (keep_cons rfl (keep_cons rfl keep_nil))), hD⟩
        · rintro l119 hz76 ⟨hk118, hD⟩
          refine cw_keep hk118 ?_
          unfold D_wal_Log_shorten_j2 at hD
          refine cw_seq ?_
          refine cw_seq ?_
          refine cw_region ?_
          refine wl_q rfl rfl rfl (q_makeFunc (xs := []) (ys := [.tmp 3, .tmp 7, .tmp 4]) rfl rfl rfl) ?_
          refine wl_q rfl rfl rfl (q_makeFunc (xs := []) (ys := [.tmp 3]) rfl rfl rfl) ?_
          refine wl_q rfl rfl rfl (q_makeFunc (xs := []) (ys := [.tmp 3, .tmp 4]) rfl rfl rfl) ?_
          refine wl_e rfl rfl rfl (e_buildSlice (cs := #[Value.func (.func F_wal_Log_shorten_1) #[] #[Value.pointer (some (blk h0.size)), Value.pointer (some (blk hz19.size)), Value.pointer (some (blk hz1.size))], Value.func (.func F_wal_Log_shorten_2) #[] #[Value.pointer (some (blk h0.size))], Value.func (.func F_wal_Log_shorten_3) #[] #[Value.pointer (some (blk h0.size)), Value.pointer (some (blk hz1.size))]]) rfl rfl Go.Proofs.Tryz.underlying88 sz_34 zr_34 (by decide) (by kernel_rfl) ?_)
          intro hz77 e78
          have hD := hD hz77 e78
          refine wl_q rfl rfl rfl (q_len_slice rfl rfl Go.Proofs.Tryz.underlying88 rfl) ?_
          refine wl_q rfl rfl rfl (q_move rfl rfl) ?_
          refine wl_keep (l' := [(79, Sl.v (Sl.mk (some (blk hz76.size)) 3 3)), (80, Value.int .i64 ((Sl.mk (some (blk hz76.size)) 3 3).len : Int)), (81, Value.int .i64 0)]) (keep_cons rfl (keep_cons rfl (keep_cons rfl keep_nil))) (wl_nil ?_)
          refine cw_block ?_
          obtain ⟨I, μ, hI97, hL98⟩ := hD
          refine cw_loops (σ := Int) (fun s => [(79, Sl.v (Sl.mk (some (blk hz76.size)) 3 3)), (80, Value.int .i64 ((Sl.mk (some (blk hz76.size)) 3 3).len : Int)), (81, Value.int .i64 s)]) (0) (fun s h => I s h) (fun s h => μ s h) (keep_cons rfl (keep_cons rfl (keep_cons rfl keep_nil))) hI97 ?_
          rintro x79 hz80 hI
          have hD := hL98 x79 hz80 hI
          obtain ⟨C81, hC81⟩ : ∃ c : Int → Hp → Prop, c = (fun x79' h' => I x79' h' ∧ μ x79' h' < μ x79 hz80) := ⟨_, rfl⟩
          rw [← hC81] at hD
          unfold D_wal_Log_shorten_l1 at hD
          show cw _ _ _ [(79, Sl.v (Sl.mk (some (blk hz76.size)) 3 3)), (80, Value.int .i64 ((Sl.mk (some (blk hz76.size)) 3 3).len : Int)), (81, Value.int .i64 x79)] _ _ _ _
          refine cw_seq ?_
          refine cw_region ?_
          refine wl_q rfl rfl rfl (q_bin rfl rfl rfl (fun _ _ => rfl)) ?_
          refine wl_keep (l' := [(79, Sl.v (Sl.mk (some (blk hz76.size)) 3 3)), (80, Value.int .i64 ((Sl.mk (some (blk hz76.size)) 3 3).len : Int)), (81, Value.int .i64 x79), (82, Value.bool (decide (x79 < ((Sl.mk (some (blk hz76.size)) 3 3).len : Int))))]) (keep_cons rfl (keep_cons rfl (keep_cons rfl (keep_cons rfl keep_nil)))) (wl_nil ?_)
          refine cw_seq ?_
          refine cw_cond rfl (fun hb82 => ?_) (fun hb82 => ?_)
          · have hD := ifT hb82 hD
            refine cw_skip ?_
            refine cw_seq ?_
            refine cw_block ?_
            refine cw_seq ?_
            refine cw_region ?_
            obtain ⟨a83, c84, c85, c86, hD⟩ := hD
            refine wl_q rfl rfl rfl (q_indexAddr rfl rfl rfl Go.Proofs.Tryz.underlying88 sz_34 c84 c85 c86) ?_
            obtain ⟨x87, c88, hD⟩ := hD
            refine wl_q rfl rfl rfl (q_load rfl rfl Go.Proofs.Tryz.underlying34 rfl (At.cell c88)) ?_
            refine wl_q rfl rfl rfl (q_assign rfl rfl) ?_
            refine wl_keep (l' := [(14, x87), (79, Sl.v (Sl.mk (some (blk hz76.size)) 3 3)), (80, Value.int .i64 ((Sl.mk (some (blk hz76.size)) 3 3).len : Int)), (81, Value.int .i64 x79)]) (keep_cons rfl (keep_cons rfl (keep_cons rfl (keep_cons rfl keep_nil)))) (wl_nil ?_)
            refine cw_seq ?_
            refine cw_region ?_
            refine wl_q rfl rfl rfl (q_move rfl rfl) ?_
            obtain ⟨g92, fi93, ca94, c95, c96, hD⟩ := hD
            refine wl_e rfl rfl rfl (e_call (first := fi93) (vs := []) (cap := ca94) rfl (by rw [← c95]; rfl) rfl c96 (CallsH.mono hD ?_))
            rintro _ hz89 ⟨r90, rfl, hD⟩
            refine wl_q rfl rfl rfl (q_assign rfl rfl) ?_
            refine wl_keep (l' := [(15, Value.int .i64 r90), (79, Sl.v (Sl.mk (some (blk hz76.size)) 3 3)), (80, Value.int .i64 ((Sl.mk (some (blk hz76.size)) 3 3).len : Int)), (81, Value.int .i64 x79)]) (keep_cons rfl (keep_cons rfl (keep_cons rfl (keep_cons rfl keep_nil)))) (wl_nil ?_)
            refine cw_seq ?_
            refine cw_region ?_
            refine wl_q rfl rfl rfl (q_move rfl rfl) ?_
            refine wl_q rfl rfl rfl (q_bin rfl rfl rfl (fun _ _ => rfl)) ?_
            refine wl_keep (l' := [(15, Value.int .i64 r90), (79, Sl.v (Sl.mk (some (blk hz76.size)) 3 3)), (80, Value.int .i64 ((Sl.mk (some (blk hz76.size)) 3 3).len : Int)), (81, Value.int .i64 x79), (88, Value.bool (r90 != (0 : Int)))]) (keep_cons rfl (keep_cons rfl (keep_cons rfl (keep_cons rfl (keep_cons rfl keep_nil))))) (wl_nil ?_)
            refine cw_cond rfl (fun hb91 => ?_) (fun hb91 => ?_)
            · have hD := ifT hb91 hD
              refine cw_seq ?_
              refine cw_region ?_
              refine wl_q rfl rfl rfl (q_move rfl rfl) ?_
              refine wl_q rfl rfl rfl (q_assign rfl rfl) ?_
              refine wl_keep (l' := [(6, Value.int .i64 r90)]) (keep_cons rfl keep_nil) (wl_nil ?_)
              refine cw_ret ?_
              exact ⟨_, resq1 rfl rfl, _, rfl, hD⟩
            · have hD := ifF hb91 hD
              refine cw_skip ?_
              refine cw_region ?_
              refine wl_q rfl rfl rfl (q_bin rfl rfl rfl (fun _ _ => rfl)) ?_
              refine wl_q rfl rfl rfl (q_move rfl rfl) ?_
              refine wl_keep (l' := [(79, Sl.v (Sl.mk (some (blk hz76.size)) 3 3)), (80, Value.int .i64 ((Sl.mk (some (blk hz76.size)) 3 3).len : Int)), (81, Value.int .i64 (IntKind.i64.wrap (x79 + 1)))]) (keep_cons rfl (keep_cons rfl (keep_cons rfl keep_nil))) (wl_nil ?_)
              rw [hC81] at hD
              exact ⟨(IntKind.i64.wrap (x79 + 1)), (keep_cons rfl (keep_cons rfl (keep_cons rfl keep_nil))), hD⟩
          · have hD := ifF hb82 hD
            refine cw_exit ?_
            refine xput_same ?_
            refine cw_seq ?_
            refine cw_region ?_
            refine wl_q rfl rfl rfl (q_assign rfl rfl) ?_
            refine wl_keep (l' := [(6, Value.int .i64 0)]) (keep_cons rfl keep_nil) (wl_nil ?_)
            refine cw_ret ?_
            exact ⟨_, resq1 rfl rfl, _, rfl, hD⟩
    · have hD := hD.2
      refine e_alloc rfl zr_9 ?_
      intro hz120 e121
      have hD := hD hz120 e121
      obtain ⟨hk0, hk1, hk2, hk3, hD⟩ := hD
      refine ⟨⟨hk0, hk1, hk2, hk3, trivial⟩, ?_⟩
      have hS : cellH hz120 (blk h0.size) = some (Value.pointer x5) ∧ cellH hz120 (a7.add 0) = some (Value.pointer x9) ∧ cellH hz120 (blk hz1.size) = some (Value.pointer x11) ∧ cellH hz120 (a13.add 0) = some (Value.int .i64 x15) ∧ True := ⟨hk0, hk1, hk2, hk3, trivial⟩
      refine wh_e 9 rfl (by kernel_rfl) rfl rfl rfl (e_call (first := []) (vs := [Value.pointer x9, Value.string r18]) (cap := []) rfl rfl rfl cf_18 (CallsH.mono hD ?_))
      rintro _ hz122 ⟨r123, r124, rfl, hD⟩
      obtain ⟨hk0, hk1, hk2, hk3, hD⟩ := hD
      refine ⟨⟨hk0, hk1, hk2, hk3, trivial⟩, ?_⟩
      have hS : cellH hz122 (blk h0.size) = some (Value.pointer x5) ∧ cellH hz122 (a7.add 0) = some (Value.pointer x9) ∧ cellH hz122 (blk hz1.size) = some (Value.pointer x11) ∧ cellH hz122 (a13.add 0) = some (Value.int .i64 x15) ∧ True := ⟨hk0, hk1, hk2, hk3, trivial⟩
      refine wh_q 10 rfl (by kernel_rfl) rfl rfl rfl (q_move rfl rfl) (by exact hS) ?_
      refine wh_q 11 rfl (by kernel_rfl) rfl rfl rfl (q_extract rfl rfl rfl) (by exact hS) ?_
      refine wh_q 12 rfl (by kernel_rfl) rfl rfl rfl (q_extract rfl rfl rfl) (by exact hS) ?_
      obtain ⟨u126, c127, c128, hD⟩ := hD
      refine wh_e0 14 rfl (by kernel_rfl) rfl rfl (e_store rfl rfl rfl sz_9 trivial c127 c128 ?_)
      intro hz125 e129
      have hD := hD hz125 e129
      obtain ⟨hk0, hk1, hk2, hk3, hD⟩ := hD
      refine ⟨⟨hk0, hk1, hk2, hk3, trivial⟩, ?_⟩
      have hS : cellH hz125 (blk h0.size) = some (Value.pointer x5) ∧ cellH hz125 (a7.add 0) = some (Value.pointer x9) ∧ cellH hz125 (blk hz1.size) = some (Value.pointer x11) ∧ cellH hz125 (a13.add 0) = some (Value.int .i64 x15) ∧ True := ⟨hk0, hk1, hk2, hk3, trivial⟩
      refine wh_q 15 rfl (by kernel_rfl) rfl rfl rfl (q_assign rfl rfl) (by exact hS) ?_
      refine wh_keep (l' := [(2, Value.int .i64 p_2), (3, Value.pointer (some (blk h0.size))), (4, Value.pointer (some (blk hz1.size))), (7, Value.pointer (some (blk hz17.size))), (8, Value.int .i64 r124)]) (keep_cons rfl (keep_cons rfl (keep_cons rfl (keep_cons rfl (keep_cons rfl keep_nil))))) (wh_done (by kernel_rfl) ?_)
      refine cw_seq ?_
      refine cw_seq ?_
      refine cw_region ?_
      refine wl_q rfl rfl rfl (q_move rfl rfl) ?_
      refine wl_q rfl rfl rfl (q_bin rfl rfl rfl (fun _ _ => rfl)) ?_
      refine wl_keep (l' := [(2, Value.int .i64 p_2), (3, Value.pointer (some (blk h0.size))), (4, Value.pointer (some (blk hz1.size))), (7, Value.pointer (some (blk hz17.size))), (8, Value.int .i64 r124), (30, Value.bool (r124 != (0 : Int)))]) (keep_cons rfl (keep_cons rfl (keep_cons rfl (keep_cons rfl (keep_cons rfl (keep_cons rfl keep_nil)))))) (wl_nil ?_)
      refine cw_cond rfl (fun hb130 => ?_) (fun hb130 => ?_)
      · have hD := ifT hb130 hD
        refine cw_seq ?_
        refine cw_region ?_
        refine wl_q rfl rfl rfl (q_move rfl rfl) ?_
        refine wl_q rfl rfl rfl (q_assign rfl rfl) ?_
        refine wl_keep (l' := [(6, Value.int .i64 r124)]) (keep_cons rfl keep_nil) (wl_nil ?_)
        refine cw_ret ?_
        exact ⟨_, resq1 rfl rfl, _, rfl, hD⟩
      · have hD := ifF hb130 hD
        refine cw_skip ?_
        refine cw_seq ?_
        refine cw_region ?_
        refine wl_q rfl rfl rfl (q_move rfl rfl) ?_
        obtain ⟨x131, c132, hD⟩ := hD
        refine wl_q rfl rfl rfl (q_load rfl rfl Go.Proofs.Tryz.underlying47 rfl (At.cell c132)) ?_
        obtain ⟨a133, c134, hD⟩ := hD
        refine wl_q rfl rfl rfl (q_nil rfl rfl c134) ?_
        refine wl_q rfl rfl rfl (q_fieldAddr rfl rfl fo_63_0) ?_
        obtain ⟨x135, c136, hD⟩ := hD
        refine wl_q rfl rfl rfl (q_load rfl rfl Go.Proofs.Tryz.underlying3 rfl (At.cell c136)) ?_
        refine wl_q rfl rfl rfl (q_bin rfl rfl rfl (fun _ _ => rfl)) ?_
        refine wl_q rfl rfl rfl (q_bin rfl rfl rfl (fun _ _ => rfl)) ?_
        refine wl_q rfl rfl rfl (q_assign rfl rfl) ?_
        refine wl_keep (l' := [(3, Value.pointer (some (blk h0.size))), (4, Value.pointer (some (blk hz1.size))), (7, Value.pointer (some (blk hz17.size))), (9, Value.int .i64 (IntKind.i64.wrap ((IntKind.i64.wrap (p_2 - x135)) + 1)))]) (keep_cons rfl (keep_cons rfl (keep_cons rfl (keep_cons rfl keep_nil)))) (wl_nil ?_)
        refine cw_seq ?_
        obtain ⟨x137, c138, hD⟩ := hD
        obtain ⟨x139, c140, hD⟩ := hD
        obtain ⟨a141, c142, hD⟩ := hD
        obtain ⟨x143, c144, hD⟩ := hD
        obtain ⟨a145, c146, c147, c148, hD⟩ := hD
        obtain ⟨x149, c150, hD⟩ := hD
        obtain ⟨a151, c152, hD⟩ := hD
        refine cw_draw (fun h => cellH h (blk hz1.size) = some (Value.pointer x137) ∧ cellH h (blk hz1.size) = some (Value.pointer x139) ∧ cellH h (a141.add 1) = some (Sl.v x143) ∧ cellH h (a145.add ((IntKind.i64.wrap ((IntKind.i64.wrap (p_2 - x135)) + 1)).toNat * 1)) = some (Value.int .i64 x149) ∧ True) 10 wide ?_
        have hS : cellH hz125 (blk hz1.size) = some (Value.pointer x137) ∧ cellH hz125 (blk hz1.size) = some (Value.pointer x139) ∧ cellH hz125 (a141.add 1) = some (Sl.v x143) ∧ cellH hz125 (a145.add ((IntKind.i64.wrap ((IntKind.i64.wrap (p_2 - x135)) + 1)).toNat * 1)) = some (Value.int .i64 x149) ∧ True := ⟨c138, c140, c144, c150, trivial⟩
        refine wh_q 0 rfl (by kernel_rfl) rfl rfl rfl (q_load rfl rfl Go.Proofs.Tryz.underlying47 rfl (by exact fun _ s => s.1)) (by exact hS) ?_
        refine wh_q 1 rfl (by kernel_rfl) rfl rfl rfl (q_load rfl rfl Go.Proofs.Tryz.underlying47 rfl (by exact fun _ s => s.2.1)) (by exact hS) ?_
        refine wh_q 2 rfl (by kernel_rfl) rfl rfl rfl (q_nil rfl rfl c142) (by exact hS) ?_
        refine wh_q 3 rfl (by kernel_rfl) rfl rfl rfl (q_fieldAddr rfl rfl fo_63_1) (by exact hS) ?_
        refine wh_q 4 rfl (by kernel_rfl) rfl rfl rfl (q_load rfl rfl Go.Proofs.Tryz.underlying22 rfl (by exact fun _ s => s.2.2.1)) (by exact hS) ?_
        refine wh_q 5 rfl (by kernel_rfl) rfl rfl rfl (q_move rfl rfl) (by exact hS) ?_
        refine wh_q 6 rfl (by kernel_rfl) rfl rfl rfl (q_indexAddr rfl rfl rfl Go.Proofs.Tryz.underlying22 sz_3 c146 c147 c148) (by exact hS) ?_
        refine wh_q 7 rfl (by kernel_rfl) rfl rfl rfl (q_load rfl rfl Go.Proofs.Tryz.underlying3 rfl (by exact fun _ s => s.2.2.2.1)) (by exact hS) ?_
        refine wh_q 8 rfl (by kernel_rfl) rfl rfl rfl (q_nil rfl rfl c152) (by exact hS) ?_
        refine wh_q 9 rfl (by kernel_rfl) rfl rfl rfl (q_fieldAddr rfl rfl fo_63_2) (by exact hS) ?_
        obtain ⟨u154, c155, c156, hD⟩ := hD
        refine wh_last 10 rfl (by kernel_rfl) rfl rfl rfl (e_store rfl rfl rfl sz_3 trivial c155 c156 ?_)
        intro hz153 e157
        have hD := hD hz153 e157
        refine wh_keep (l' := [(3, Value.pointer (some (blk h0.size))), (4, Value.pointer (some (blk hz1.size))), (7, Value.pointer (some (blk hz17.size))), (9, Value.int .i64 (IntKind.i64.wrap ((IntKind.i64.wrap (p_2 - x135)) + 1)))]) (keep_cons rfl (keep_cons rfl (keep_cons rfl (keep_cons rfl keep_nil)))) (wh_done (by kernel_rfl) ?_)
        refine cw_seq ?_
        obtain ⟨x158, c159, hD⟩ := hD
        obtain ⟨x160, c161, hD⟩ := hD
        obtain ⟨a162, c163, hD⟩ := hD
        obtain ⟨x164, c165, hD⟩ := hD
        obtain ⟨n166, c167, c168, c169, hD⟩ := hD
        obtain ⟨a170, c171, hD⟩ := hD
        refine cw_draw (fun h => cellH h (blk hz1.size) = some (Value.pointer x158) ∧ cellH h (blk hz1.size) = some (Value.pointer x160) ∧ cellH h (a162.add 1) = some (Sl.v x164) ∧ True) 9 wide ?_
        have hS : cellH hz153 (blk hz1.size) = some (Value.pointer x158) ∧ cellH hz153 (blk hz1.size) = some (Value.pointer x160) ∧ cellH hz153 (a162.add 1) = some (Sl.v x164) ∧ True := ⟨c159, c161, c165, trivial⟩
        refine wh_q 0 rfl (by kernel_rfl) rfl rfl rfl (q_load rfl rfl Go.Proofs.Tryz.underlying47 rfl (by exact fun _ s => s.1)) (by exact hS) ?_
        refine wh_q 1 rfl (by kernel_rfl) rfl rfl rfl (q_load rfl rfl Go.Proofs.Tryz.underlying47 rfl (by exact fun _ s => s.2.1)) (by exact hS) ?_
        refine wh_q 2 rfl (by kernel_rfl) rfl rfl rfl (q_nil rfl rfl c163) (by exact hS) ?_
        refine wh_q 3 rfl (by kernel_rfl) rfl rfl rfl (q_fieldAddr rfl rfl fo_63_1) (by exact hS) ?_
        refine wh_q 4 rfl (by kernel_rfl) rfl rfl rfl (q_load rfl rfl Go.Proofs.Tryz.underlying22 rfl (by exact fun _ s => s.2.2.1)) (by exact hS) ?_
        refine wh_q 5 rfl (by kernel_rfl) rfl rfl rfl (q_move rfl rfl) (by exact hS) ?_
        refine wh_q 6 rfl (by kernel_rfl) rfl rfl rfl (q_slice (i := 0) (j := n166) rfl rfl Go.Proofs.Tryz.underlying22 sz_3 rfl ⟨_, _, rfl, c167⟩ c168 c169) (by exact hS) ?_
        refine wh_q 7 rfl (by kernel_rfl) rfl rfl rfl (q_nil rfl rfl c171) (by exact hS) ?_
        refine wh_q 8 rfl (by kernel_rfl) rfl rfl rfl (q_fieldAddr rfl rfl fo_63_1) (by exact hS) ?_
        obtain ⟨u173, c174, c175, hD⟩ := hD
        refine wh_last 9 rfl (by kernel_rfl) rfl rfl rfl (e_store rfl rfl rfl sz_22 trivial c174 c175 ?_)
        intro hz172 e176
        have hD := hD hz172 e176
        refine wh_keep (l' := [(3, Value.pointer (some (blk h0.size))), (4, Value.pointer (some (blk hz1.size))), (7, Value.pointer (some (blk hz17.size)))]) (keep_cons rfl (keep_cons rfl (keep_cons rfl keep_nil))) (wh_done (by kernel_rfl) ?_)
        refine cw_cut (fun l h => Keep l [(3, Value.pointer (some (blk h0.size))), (4, Value.pointer (some (blk hz1.size))), (7, Value.pointer (some (blk hz17.size)))] ∧ D_wal_Log_shorten_j4 h0 K hz1 hz17 h) ?_ ?_
        · refine cw_seq ?_
          refine cw_region ?_
          obtain ⟨x200, c201, hD⟩ := hD
          refine wl_q rfl rfl rfl (q_load rfl rfl Go.Proofs.Tryz.underlying27 rfl (At.cell c201)) ?_
          obtain ⟨a202, c203, hD⟩ := hD
          refine wl_q rfl rfl rfl (q_nil rfl rfl c203) ?_
          refine wl_q rfl rfl rfl (q_fieldAddr rfl rfl fo_49_0) ?_
          obtain ⟨x204, c205, hD⟩ := hD
          refine wl_q rfl rfl rfl (q_load rfl rfl Go.Proofs.Tryz.underlying25 rfl (At.cell c205)) ?_
          refine wl_e rfl rfl rfl (e_call (first := []) (vs := [Value.pointer x204, Value.string (ByteArray.mk #[116])]) (cap := []) rfl rfl rfl cf_18 (CallsH.mono hD ?_))
          rintro _ hz206 ⟨r207, r208, rfl, hD⟩
          refine wl_q rfl rfl rfl (q_move rfl rfl) ?_
          refine wl_q rfl rfl rfl (q_extract rfl rfl rfl) ?_
          refine wl_q rfl rfl rfl (q_extract rfl rfl rfl) ?_
          refine wl_q rfl rfl rfl (q_assign rfl rfl) ?_
          refine wl_q rfl rfl rfl (q_assign rfl rfl) ?_
          refine wl_keep (l' := [(3, Value.pointer (some (blk h0.size))), (4, Value.pointer (some (blk hz1.size))), (7, Value.pointer (some (blk hz17.size))), (11, Value.int .i64 r208)]) (keep_cons rfl (keep_cons rfl (keep_cons rfl (keep_cons rfl keep_nil)))) (wl_nil ?_)
          refine cw_seq ?_
          refine cw_region ?_
          refine wl_q rfl rfl rfl (q_move rfl rfl) ?_
          refine wl_q rfl rfl rfl (q_bin rfl rfl rfl (fun _ _ => rfl)) ?_
          refine wl_keep (l' := [(3, Value.pointer (some (blk h0.size))), (4, Value.pointer (some (blk hz1.size))), (7, Value.pointer (some (blk hz17.size))), (67, Value.bool (r208 == (0 : Int)))]) (keep_cons rfl (keep_cons rfl (keep_cons rfl (keep_cons rfl keep_nil)))) (wl_nil ?_)
          refine cw_cond rfl (fun hb209 => ?_) (fun hb209 => ?_)
          · have hD := ifT hb209 hD
            refine cw_seq ?_
            refine cw_region ?_
            obtain ⟨x210, c211, hD⟩ := hD
            refine wl_q rfl rfl rfl (q_load rfl rfl Go.Proofs.Tryz.underlying27 rfl (At.cell c211)) ?_
            obtain ⟨a212, c213, hD⟩ := hD
            refine wl_q rfl rfl rfl (q_nil rfl rfl c213) ?_
            refine wl_q rfl rfl rfl (q_fieldAddr rfl rfl fo_49_0) ?_
            obtain ⟨x214, c215, hD⟩ := hD
            refine wl_q rfl rfl rfl (q_load rfl rfl Go.Proofs.Tryz.underlying25 rfl (At.cell c215)) ?_
            refine wl_e rfl rfl rfl (e_call (first := []) (vs := [Value.pointer x214, Value.string (ByteArray.mk #[116])]) (cap := []) rfl rfl rfl cf_29 (CallsH.mono hD ?_))
            rintro _ hz216 ⟨r217, rfl, hD⟩
            refine wl_q rfl rfl rfl (q_assign rfl rfl) ?_
            refine wl_keep (l' := [(3, Value.pointer (some (blk h0.size))), (4, Value.pointer (some (blk hz1.size))), (7, Value.pointer (some (blk hz17.size))), (12, Value.int .i64 r217)]) (keep_cons rfl (keep_cons rfl (keep_cons rfl (keep_cons rfl keep_nil)))) (wl_nil ?_)
            refine cw_seq ?_
            refine cw_region ?_
            refine wl_q rfl rfl rfl (q_move rfl rfl) ?_
            refine wl_q rfl rfl rfl (q_bin rfl rfl rfl (fun _ _ => rfl)) ?_
            refine wl_keep (l' := [(3, Value.pointer (some (blk h0.size))), (4, Value.pointer (some (blk hz1.size))), (7, Value.pointer (some (blk hz17.size))), (12, Value.int .i64 r217), (74, Value.bool (r217 != (0 : Int)))]) (keep_cons rfl (keep_cons rfl (keep_cons rfl (keep_cons rfl (keep_cons rfl keep_nil))))) (wl_nil ?_)
            refine cw_cond rfl (fun hb218 => ?_) (fun hb218 => ?_)
            · have hD := ifT hb218 hD
              refine cw_seq ?_
              refine cw_region ?_
              refine wl_q rfl rfl rfl (q_move rfl rfl) ?_
              refine wl_q rfl rfl rfl (q_assign rfl rfl) ?_
              refine wl_keep (l' := [(6, Value.int .i64 r217)]) (keep_cons rfl keep_nil) (wl_nil ?_)
              refine cw_ret ?_
              exact ⟨_, resq1 rfl rfl, _, rfl, hD⟩
            · have hD := ifF hb218 hD
              refine cw_skip ?_
              exact ⟨(keep_cons rfl (keep_cons rfl (keep_cons rfl keep_nil))), hD⟩
          · have hD := ifF hb209 hD
            refine cw_skip ?_
            exact ⟨(keep_cons rfl (keep_cons rfl (keep_cons rfl keep_nil))), hD⟩
        · rintro l220 hz177 ⟨hk219, hD⟩
          refine cw_keep hk219 ?_
          unfold D_wal_Log_shorten_j4 at hD
          refine cw_seq ?_
          refine cw_seq ?_
          refine cw_region ?_
          refine wl_q rfl rfl rfl (q_makeFunc (xs := []) (ys := [.tmp 3, .tmp 7, .tmp 4]) rfl rfl rfl) ?_
          refine wl_q rfl rfl rfl (q_makeFunc (xs := []) (ys := [.tmp 3]) rfl rfl rfl) ?_
          refine wl_q rfl rfl rfl (q_makeFunc (xs := []) (ys := [.tmp 3, .tmp 4]) rfl rfl rfl) ?_
          refine wl_e rfl rfl rfl (e_buildSlice (cs := #[Value.func (.func F_wal_Log_shorten_1) #[] #[Value.pointer (some (blk h0.size)), Value.pointer (some (blk hz17.size)), Value.pointer (some (blk hz1.size))], Value.func (.func F_wal_Log_shorten_2) #[] #[Value.pointer (some (blk h0.size))], Value.func (.func F_wal_Log_shorten_3) #[] #[Value.pointer (some (blk h0.size)), Value.pointer (some (blk hz1.size))]]) rfl rfl Go.Proofs.Tryz.underlying88 sz_34 zr_34 (by decide) (by kernel_rfl) ?_)
          intro hz178 e179
          have hD := hD hz178 e179
          refine wl_q rfl rfl rfl (q_len_slice rfl rfl Go.Proofs.Tryz.underlying88 rfl) ?_
          refine wl_q rfl rfl rfl (q_move rfl rfl) ?_
          refine wl_keep (l' := [(79, Sl.v (Sl.mk (some (blk hz177.size)) 3 3)), (80, Value.int .i64 ((Sl.mk (some (blk hz177.size)) 3 3).len : Int)), (81, Value.int .i64 0)]) (keep_cons rfl (keep_cons rfl (keep_cons rfl keep_nil))) (wl_nil ?_)
          refine cw_block ?_
          obtain ⟨I, μ, hI198, hL199⟩ := hD
          refine cw_loops (σ := Int) (fun s => [(79, Sl.v (Sl.mk (some (blk hz177.size)) 3 3)), (80, Value.int .i64 ((Sl.mk (some (blk hz177.size)) 3 3).len : Int)), (81, Value.int .i64 s)]) (0) (fun s h => I s h) (fun s h => μ s h) (keep_cons rfl (keep_cons rfl (keep_cons rfl keep_nil))) hI198 ?_
          rintro x180 hz181 hI
          have hD := hL199 x180 hz181 hI
          obtain ⟨C182, hC182⟩ : ∃ c : Int → Hp → Prop, c = (fun x180' h' => I x180' h' ∧ μ x180' h' < μ x180 hz181) := ⟨_, rfl⟩
          rw [← hC182] at hD
          unfold D_wal_Log_shorten_l3 at hD
          show cw _ _ _ [(79, Sl.v (Sl.mk (some (blk hz177.size)) 3 3)), (80, Value.int .i64 ((Sl.mk (some (blk hz177.size)) 3 3).len : Int)), (81, Value.int .i64 x180)] _ _ _ _
          refine cw_seq ?_
          refine cw_region ?_
          refine wl_q rfl rfl rfl (q_bin rfl rfl rfl (fun _ _ => rfl)) ?_
          refine wl_keep (l' := [(79, Sl.v (Sl.mk (some (blk hz177.size)) 3 3)), (80, Value.int .i64 ((Sl.mk (some (blk hz177.size)) 3 3).len : Int)), (81, Value.int .i64 x180), (82, Value.bool (decide (x180 < ((Sl.mk (some (blk hz177.size)) 3 3).len : Int))))]) (keep_cons rfl (keep_cons rfl (keep_cons rfl (keep_cons rfl keep_nil)))) (wl_nil ?_)
          refine cw_seq ?_
          refine cw_cond rfl (fun hb183 => ?_) (fun hb183 => ?_)
          · have hD := ifT hb183 hD
            refine cw_skip ?_
            refine cw_seq ?_
            refine cw_block ?_
            refine cw_seq ?_
            refine cw_region ?_
            obtain ⟨a184, c185, c186, c187, hD⟩ := hD
            refine wl_q rfl rfl rfl (q_indexAddr rfl rfl rfl Go.Proofs.Tryz.underlying88 sz_34 c185 c186 c187) ?_
            obtain ⟨x188, c189, hD⟩ := hD
            refine wl_q rfl rfl rfl (q_load rfl rfl Go.Proofs.Tryz.underlying34 rfl (At.cell c189)) ?_
            refine wl_q rfl rfl rfl (q_assign rfl rfl) ?_
            refine wl_keep (l' := [(14, x188), (79, Sl.v (Sl.mk (some (blk hz177.size)) 3 3)), (80, Value.int .i64 ((Sl.mk (some (blk hz177.size)) 3 3).len : Int)), (81, Value.int .i64 x180)]) (keep_cons rfl (keep_cons rfl (keep_cons rfl (keep_cons rfl keep_nil)))) (wl_nil ?_)
            refine cw_seq ?_
            refine cw_region ?_
            refine wl_q rfl rfl rfl (q_move rfl rfl) ?_
            obtain ⟨g193, fi194, ca195, c196, c197, hD⟩ := hD
            refine wl_e rfl rfl rfl (e_call (first := fi194) (vs := []) (cap := ca195) rfl (by rw [← c196]; rfl) rfl c197 (CallsH.mono hD ?_))
            rintro _ hz190 ⟨r191, rfl, hD⟩
            refine wl_q rfl rfl rfl (q_assign rfl rfl) ?_
            refine wl_keep (l' := [(15, Value.int .i64 r191), (79, Sl.v (Sl.mk (some (blk hz177.size)) 3 3)), (80, Value.int .i64 ((Sl.mk (some (blk hz177.size)) 3 3).len : Int)), (81, Value.int .i64 x180)]) (keep_cons rfl (keep_cons rfl (keep_cons rfl (keep_cons rfl keep_nil)))) (wl_nil ?_)
            refine cw_seq ?_
            refine cw_region ?_
            refine wl_q rfl rfl rfl (q_move rfl rfl) ?_
            refine wl_q rfl rfl rfl (q_bin rfl rfl rfl (fun _ _ => rfl)) ?_
            refine wl_keep (l' := [(15, Value.int .i64 r191), (79, Sl.v (Sl.mk (some (blk hz177.size)) 3 3)), (80, Value.int .i64 ((Sl.mk (some (blk hz177.size)) 3 3).len : Int)), (81, Value.int .i64 x180), (88, Value.bool (r191 != (0 : Int)))]) (keep_cons rfl (keep_cons rfl (keep_cons rfl (keep_cons rfl (keep_cons rfl keep_nil))))) (wl_nil ?_)
            refine cw_cond rfl (fun hb192 => ?_) (fun hb192 => ?_)
            · have hD := ifT hb192 hD
              refine cw_seq ?_
              refine cw_region ?_
              refine wl_q rfl rfl rfl (q_move rfl rfl) ?_
              refine wl_q rfl rfl rfl (q_assign rfl rfl) ?_
              refine wl_keep (l' := [(6, Value.int .i64 r191)]) (keep_cons rfl keep_nil) (wl_nil ?_)
              refine cw_ret ?_
              exact ⟨_, resq1 rfl rfl, _, rfl, hD⟩
            · have hD := ifF hb192 hD
              refine cw_skip ?_
              refine cw_region ?_
              refine wl_q rfl rfl rfl (q_bin rfl rfl rfl (fun _ _ => rfl)) ?_
              refine wl_q rfl rfl rfl (q_move rfl rfl) ?_
              refine wl_keep (l' := [(79, Sl.v (Sl.mk (some (blk hz177.size)) 3 3)), (80, Value.int .i64 ((Sl.mk (some (blk hz177.size)) 3 3).len : Int)), (81, Value.int .i64 (IntKind.i64.wrap (x180 + 1)))]) (keep_cons rfl (keep_cons rfl (keep_cons rfl keep_nil))) (wl_nil ?_)
              rw [hC182] at hD
              exact ⟨(IntKind.i64.wrap (x180 + 1)), (keep_cons rfl (keep_cons rfl (keep_cons rfl keep_nil))), hD⟩
          · have hD := ifF hb183 hD
            refine cw_exit ?_
            refine xput_same ?_
            refine cw_seq ?_
            refine cw_region ?_
            refine wl_q rfl rfl rfl (q_assign rfl rfl) ?_
            refine wl_keep (l' := [(6, Value.int .i64 0)]) (keep_cons rfl keep_nil) (wl_nil ?_)
            refine cw_ret ?_
            exact ⟨_, resq1 rfl rfl, _, rfl, hD⟩
  · have hD := hD.2
    refine e_alloc rfl zr_9 ?_
    intro hz221 e222
    have hD := hD hz221 e222
    obtain ⟨hk0, hk1, hk2, hk3, hD⟩ := hD
    refine ⟨⟨hk0, hk1, hk2, hk3, trivial⟩, ?_⟩
    have hS : cellH hz221 (blk h0.size) = some (Value.pointer x5) ∧ cellH hz221 (a7.add 0) = some (Value.pointer x9) ∧ cellH hz221 (blk hz1.size) = some (Value.pointer x11) ∧ cellH hz221 (a13.add 0) = some (Value.int .i64 x15) ∧ True := ⟨hk0, hk1, hk2, hk3, trivial⟩
    refine wh_e 8 rfl (by kernel_rfl) rfl rfl rfl (e_call (first := []) (vs := [Value.int .i64 x15]) (cap := []) rfl rfl rfl cf_25 (CallsH.mono hD ?_))
    rintro _ hz223 ⟨r224, rfl, hD⟩
    obtain ⟨hk0, hk1, hk2, hk3, hD⟩ := hD
    refine ⟨⟨hk0, hk1, hk2, hk3, trivial⟩, ?_⟩
    have hS : cellH hz223 (blk h0.size) = some (Value.pointer x5) ∧ cellH hz223 (a7.add 0) = some (Value.pointer x9) ∧ cellH hz223 (blk hz1.size) = some (Value.pointer x11) ∧ cellH hz223 (a13.add 0) = some (Value.int .i64 x15) ∧ True := ⟨hk0, hk1, hk2, hk3, trivial⟩
    refine wh_e 9 rfl (by kernel_rfl) rfl rfl rfl (e_call (first := []) (vs := [Value.pointer x9, Value.string r224]) (cap := []) rfl rfl rfl cf_18 (CallsH.mono hD ?_))
    rintro _ hz225 ⟨r226, r227, rfl, hD⟩
    obtain ⟨hk0, hk1, hk2, hk3, hD⟩ := hD
    refine ⟨⟨hk0, hk1, hk2, hk3, trivial⟩, ?_⟩
    have hS : cellH hz225 (blk h0.size) = some (Value.pointer x5) ∧ cellH hz225 (a7.add 0) = some (Value.pointer x9) ∧ cellH hz225 (blk hz1.size) = some (Value.pointer x11) ∧ cellH hz225 (a13.add 0) = some (Value.int .i64 x15) ∧ True := ⟨hk0, hk1, hk2, hk3, trivial⟩
    refine wh_q 10 rfl (by kernel_rfl) rfl rfl rfl (q_move rfl rfl) (by exact hS) ?_
    refine wh_q 11 rfl (by kernel_rfl) rfl rfl rfl (q_extract rfl rfl rfl) (by exact hS) ?_
    refine wh_q 12 rfl (by kernel_rfl) rfl rfl rfl (q_extract rfl rfl rfl) (by exact hS) ?_
    obtain ⟨u229, c230, c231, hD⟩ := hD
    refine wh_e0 14 rfl (by kernel_rfl) rfl rfl (e_store rfl rfl rfl sz_9 trivial c230 c231 ?_)
    intro hz228 e232
    have hD := hD hz228 e232
    obtain ⟨hk0, hk1, hk2, hk3, hD⟩ := hD
    refine ⟨⟨hk0, hk1, hk2, hk3, trivial⟩, ?_⟩
    have hS : cellH hz228 (blk h0.size) = some (Value.pointer x5) ∧ cellH hz228 (a7.add 0) = some (Value.pointer x9) ∧ cellH hz228 (blk hz1.size) = some (Value.pointer x11) ∧ cellH hz228 (a13.add 0) = some (Value.int .i64 x15) ∧ True := ⟨hk0, hk1, hk2, hk3, trivial⟩
    refine wh_q 15 rfl (by kernel_rfl) rfl rfl rfl (q_assign rfl rfl) (by exact hS) ?_
    refine wh_keep (l' := [(2, Value.int .i64 p_2), (3, Value.pointer (some (blk h0.size))), (4, Value.pointer (some (blk hz1.size))), (7, Value.pointer (some (blk hz3.size))), (8, Value.int .i64 r227)]) (keep_cons rfl (keep_cons rfl (keep_cons rfl (keep_cons rfl (keep_cons rfl keep_nil))))) (wh_done (by kernel_rfl) ?_)
    refine cw_seq ?_
    refine cw_seq ?_
    refine cw_region ?_
    refine wl_q rfl rfl rfl (q_move rfl rfl) ?_
    refine wl_q rfl rfl rfl (q_bin rfl rfl rfl (fun _ _ => rfl)) ?_
    refine wl_keep (l' := [(2, Value.int .i64 p_2), (3, Value.pointer (some (blk h0.size))), (4, Value.pointer (some (blk hz1.size))), (7, Value.pointer (some (blk hz3.size))), (8, Value.int .i64 r227), (30, Value.bool (r227 != (0 : Int)))]) (keep_cons rfl (keep_cons rfl (keep_cons rfl (keep_cons rfl (keep_cons rfl (keep_cons rfl keep_nil)))))) (wl_nil ?_)
    refine cw_cond rfl (fun hb233 => ?_) (fun hb233 => ?_)
    · have hD := ifT hb233 hD
      refine cw_seq ?_
      refine cw_region ?_
      refine wl_q rfl rfl rfl (q_move rfl rfl) ?_
      refine wl_q rfl rfl rfl (q_assign rfl rfl) ?_
      refine wl_keep (l' := [(6, Value.int .i64 r227)]) (keep_cons rfl keep_nil) (wl_nil ?_)
      refine cw_ret ?_
      exact ⟨_, resq1 rfl rfl, _, rfl, hD⟩
    · have hD := ifF hb233 hD
      refine cw_skip ?_
      refine cw_seq ?_
      refine cw_region ?_
      refine wl_q rfl rfl rfl (q_move rfl rfl) ?_
      obtain ⟨x234, c235, hD⟩ := hD
      refine wl_q rfl rfl rfl (q_load rfl rfl Go.Proofs.Tryz.underlying47 rfl (At.cell c235)) ?_
      obtain ⟨a236, c237, hD⟩ := hD
      refine wl_q rfl rfl rfl (q_nil rfl rfl c237) ?_
      refine wl_q rfl rfl rfl (q_fieldAddr rfl rfl fo_63_0) ?_
      obtain ⟨x238, c239, hD⟩ := hD
      refine wl_q rfl rfl rfl (q_load rfl rfl Go.Proofs.Tryz.underlying3 rfl (At.cell c239)) ?_
      refine wl_q rfl rfl rfl (q_bin rfl rfl rfl (fun _ _ => rfl)) ?_
      refine wl_q rfl rfl rfl (q_bin rfl rfl rfl (fun _ _ => rfl)) ?_
      refine wl_q rfl rfl rfl (q_assign rfl rfl) ?_
      refine wl_keep (l' := [(3, Value.pointer (some (blk h0.size))), (4, Value.pointer (some (blk hz1.size))), (7, Value.pointer (some (blk hz3.size))), (9, Value.int .i64 (IntKind.i64.wrap ((IntKind.i64.wrap (p_2 - x238)) + 1)))]) (keep_cons rfl (keep_cons rfl (keep_cons rfl (keep_cons rfl keep_nil)))) (wl_nil ?_)
      refine cw_seq ?_
      obtain ⟨x240, c241, hD⟩ := hD
      obtain ⟨x242, c243, hD⟩ := hD
      obtain ⟨a244, c245, hD⟩ := hD
      obtain ⟨x246, c247, hD⟩ := hD
      obtain ⟨a248, c249, c250, c251, hD⟩ := hD
      obtain ⟨x252, c253, hD⟩ := hD
      obtain ⟨a254, c255, hD⟩ := hD
      refine cw_draw (fun h => cellH h (blk hz1.size) = some (Value.pointer x240) ∧ cellH h (blk hz1.size) = some (Value.pointer x242) ∧ cellH h (a244.add 1) = some (Sl.v x246) ∧ cellH h (a248.add ((IntKind.i64.wrap ((IntKind.i64.wrap (p_2 - x238)) + 1)).toNat * 1)) = some (Value.int .i64 x252) ∧ True) 10 wide ?_
      have hS : cellH hz228 (blk hz1.size) = some (Value.pointer x240) ∧ cellH hz228 (blk hz1.size) = some (Value.pointer x242) ∧ cellH hz228 (a244.add 1) = some (Sl.v x246) ∧ cellH hz228 (a248.add ((IntKind.i64.wrap ((IntKind.i64.wrap (p_2 - x238)) + 1)).toNat * 1)) = some (Value.int .i64 x252) ∧ True := ⟨c241, c243, c247, c253, trivial⟩
      refine wh_q 0 rfl (by kernel_rfl) rfl rfl rfl (q_load rfl rfl Go.Proofs.Tryz.underlying47 rfl (by exact fun _ s => s.1)) (by exact hS) ?_
      refine wh_q 1 rfl (by kernel_rfl) rfl rfl rfl (q_load rfl rfl Go.Proofs.Tryz.underlying47 rfl (by exact fun _ s => s.2.1)) (by exact hS) ?_
      refine wh_q 2 rfl (by kernel_rfl) rfl rfl rfl (q_nil rfl rfl c245) (by exact hS) ?_
      refine wh_q 3 rfl (by kernel_rfl) rfl rfl rfl (q_fieldAddr rfl rfl fo_63_1) (by exact hS) ?_
      refine wh_q 4 rfl (by kernel_rfl) rfl rfl rfl (q_load rfl rfl Go.Proofs.Tryz.underlying22 rfl (by exact fun _ s => s.2.2.1)) (by exact hS) ?_
      refine wh_q 5 rfl (by kernel_rfl) rfl rfl rfl (q_move rfl rfl) (by exact hS) ?_
      refine wh_q 6 rfl (by kernel_rfl) rfl rfl rfl (q_indexAddr rfl rfl rfl Go.Proofs.Tryz.underlying22 sz_3 c249 c250 c251) (by exact hS) ?_
      refine wh_q 7 rfl (by kernel_rfl) rfl rfl rfl (q_load rfl rfl Go.Proofs.Tryz.underlying3 rfl (by exact fun _ s => s.2.2.2.1)) (by exact hS) ?_
      refine wh_q 8 rfl (by kernel_rfl) rfl rfl rfl (q_nil rfl rfl c255) (by exact hS) ?_
      refine wh_q 9 rfl (by kernel_rfl) rfl rfl rfl (q_fieldAddr rfl rfl fo_63_2) (by exact hS) ?_
      obtain ⟨u257, c258, c259, hD⟩ := hD
      refine wh_last 10 rfl (by kernel_rfl) rfl rfl rfl (e_store rfl rfl rfl sz_3 trivial c258 c259 ?_)
      intro hz256 e260
      have hD := hD hz256 e260
      refine wh_keep (l' := [(3, Value.pointer (some (blk h0.size))), (4, Value.pointer (some (blk hz1.size))), (7, Value.pointer (some (blk hz3.size))), (9, Value.int .i64 (IntKind.i64.wrap ((IntKind.i64.wrap (p_2 - x238)) + 1)))]) (keep_cons rfl (keep_cons rfl (keep_cons rfl (keep_cons rfl keep_nil)))) (wh_done (by kernel_rfl) ?_)
      refine cw_seq ?_
      obtain ⟨x261, c262, hD⟩ := hD
      obtain ⟨x263, c264, hD⟩ := hD
      obtain ⟨a265, c266, hD⟩ := hD
      obtain ⟨x267, c268, hD⟩ := hD
      obtain ⟨n269, c270, c271, c272, hD⟩ := hD
      obtain ⟨a273, c274, hD⟩ := hD
      refine cw_draw (fun h => cellH h (blk hz1.size) = some (Value.pointer x261) ∧ cellH h (blk hz1.size) = some (Value.pointer x263) ∧ cellH h (a265.add 1) = some (Sl.v x267) ∧ True) 9 wide ?_
      have hS : cellH hz256 (blk hz1.size) = some (Value.pointer x261) ∧ cellH hz256 (blk hz1.size) = some (Value.pointer x263) ∧ cellH hz256 (a265.add 1) = some (Sl.v x267) ∧ True := ⟨c262, c264, c268, trivial⟩
      refine wh_q 0 rfl (by kernel_rfl) rfl rfl rfl (q_load rfl rfl Go.Proofs.Tryz.underlying47 rfl (by exact fun _ s => s.1)) (by exact hS) ?_
      refine wh_q 1 rfl (by kernel_rfl) rfl rfl rfl (q_load rfl rfl Go.Proofs.Tryz.underlying47 rfl (by exact fun _ s => s.2.1)) (by exact hS) ?_
      refine wh_q 2 rfl (by kernel_rfl) rfl rfl rfl (q_nil rfl rfl c266) (by exact hS) ?_
      refine wh_q 3 rfl (by kernel_rfl) rfl rfl rfl (q_fieldAddr rfl rfl fo_63_1) (by exact hS) ?_
      refine wh_q 4 rfl (by kernel_rfl) rfl rfl rfl (q_load rfl rfl Go.Proofs.Tryz.underlying22 rfl (by exact fun _ s => s.2.2.1)) (by exact hS) ?_
      refine wh_q 5 rfl (by kernel_rfl) rfl rfl rfl (q_move rfl rfl) (by exact hS) ?_
      refine wh_q 6 rfl (by kernel_rfl) rfl rfl rfl (q_slice (i := 0) (j := n269) rfl rfl Go.Proofs.Tryz.underlying22 sz_3 rfl ⟨_, _, rfl, c270⟩ c271 c272) (by exact hS) ?_
      refine wh_q 7 rfl (by kernel_rfl) rfl rfl rfl (q_nil rfl rfl c274) (by exact hS) ?_
      refine wh_q 8 rfl (by kernel_rfl) rfl rfl rfl (q_fieldAddr rfl rfl fo_63_1) (by exact hS) ?_
      obtain ⟨u276, c277, c278, hD⟩ := hD
      refine wh_last 9 rfl (by kernel_rfl) rfl rfl rfl (e_store rfl rfl rfl sz_22 trivial c277 c278 ?_)
      intro hz275 e279
      have hD := hD hz275 e279
      refine wh_keep (l' := [(3, Value.pointer (some (blk h0.size))), (4, Value.pointer (some (blk hz1.size))), (7, Value.pointer (some (blk hz3.size)))]) (keep_cons rfl (keep_cons rfl (keep_cons rfl keep_nil))) (wh_done (by kernel_rfl) ?_)
      refine cw_cut (fun l h => Keep l [(3, Value.pointer (some (blk h0.size))), (4, Value.pointer (some (blk hz1.size))), (7, Value.pointer (some (blk hz3.size)))] ∧ D_wal_Log_shorten_j6 h0 K hz1 hz3 h) ?_ ?_
      · refine cw_seq ?_
        refine cw_region ?_
        obtain ⟨x303, c304, hD⟩ := hD
        refine wl_q rfl rfl rfl (q_load rfl rfl Go.Proofs.Tryz.underlying27 rfl (At.cell c304)) ?_
        obtain ⟨a305, c306, hD⟩ := hD
        refine wl_q rfl rfl rfl (q_nil rfl rfl c306) ?_
        refine wl_q rfl rfl rfl (q_fieldAddr rfl rfl fo_49_0) ?_
        obtain ⟨x307, c308, hD⟩ := hD
        refine wl_q rfl rfl rfl (q_load rfl rfl Go.Proofs.Tryz.underlying25 rfl (At.cell c308)) ?_
        refine wl_e rfl rfl rfl (e_call (first := []) (vs := [Value.pointer x307, Value.string (ByteArray.mk #[116])]) (cap := []) rfl rfl rfl cf_18 (CallsH.mono hD ?_))
        rintro _ hz309 ⟨r310, r311, rfl, hD⟩
        refine wl_q rfl rfl rfl (q_move rfl rfl) ?_
        refine wl_q rfl rfl rfl (q_extract rfl rfl rfl) ?_
        refine wl_q rfl rfl rfl (q_extract rfl rfl rfl) ?_
        refine wl_q rfl rfl rfl (q_assign rfl rfl) ?_
        refine wl_q rfl rfl rfl (q_assign rfl rfl) ?_
        refine wl_keep (l' := [(3, Value.pointer (some (blk h0.size))), (4, Value.pointer (some (blk hz1.size))), (7, Value.pointer (some (blk hz3.size))), (11, Value.int .i64 r311)]) (keep_cons rfl (keep_cons rfl (keep_cons rfl (keep_cons rfl keep_nil)))) (wl_nil ?_)
        refine cw_seq ?_
        refine cw_region ?_
        refine wl_q rfl rfl rfl (q_move rfl rfl) ?_
        refine wl_q rfl rfl rfl (q_bin rfl rfl rfl (fun _ _ => rfl)) ?_
        refine wl_keep (l' := [(3, Value.pointer (some (blk h0.size))), (4, Value.pointer (some (blk hz1.size))), (7, Value.pointer (some (blk hz3.size))), (67, Value.bool (r311 == (0 : Int)))]) (keep_cons rfl (keep_cons rfl (keep_cons rfl (keep_cons rfl keep_nil)))) (wl_nil ?_)
        refine cw_cond rfl (fun hb312 => ?_) (fun hb312 => ?_)
        · have hD := ifT hb312 hD
          refine cw_seq ?_
          refine cw_region ?_
          obtain ⟨x313, c314, hD⟩ := hD
          refine wl_q rfl rfl rfl (q_load rfl rfl Go.Proofs.Tryz.underlying27 rfl (At.cell c314)) ?_
          obtain ⟨a315, c316, hD⟩ := hD
          refine wl_q rfl rfl rfl (q_nil rfl rfl c316) ?_
          refine wl_q rfl rfl rfl (q_fieldAddr rfl rfl fo_49_0) ?_
          obtain ⟨x317, c318, hD⟩ := hD
          refine wl_q rfl rfl rfl (q_load rfl rfl Go.Proofs.Tryz.underlying25 rfl (At.cell c318)) ?_
          refine wl_e rfl rfl rfl (e_call (first := []) (vs := [Value.pointer x317, Value.string (ByteArray.mk #[116])]) (cap := []) rfl rfl rfl cf_29 (CallsH.mono hD ?_))
          rintro _ hz319 ⟨r320, rfl, hD⟩
          refine wl_q rfl rfl rfl (q_assign rfl rfl) ?_
          refine wl_keep (l' := [(3, Value.pointer (some (blk h0.size))), (4, Value.pointer (some (blk hz1.size))), (7, Value.pointer (some (blk hz3.size))), (12, Value.int .i64 r320)]) (keep_cons rfl (keep_cons rfl (keep_cons rfl (keep_cons rfl keep_nil)))) (wl_nil ?_)
          refine cw_seq ?_
          refine cw_region ?_
          refine wl_q rfl rfl rfl (q_move rfl rfl) ?_
          refine wl_q rfl rfl rfl (q_bin rfl rfl rfl (fun _ _ => rfl)) ?_
          refine wl_keep (l' := [(3, Value.pointer (some (blk h0.size))), (4, Value.pointer (some (blk hz1.size))), (7, Value.pointer (some (blk hz3.size))), (12, Value.int .i64 r320), (74, Value.bool (r320 != (0 : Int)))]) (keep_cons rfl (keep_cons rfl (keep_cons rfl (keep_cons rfl (keep_cons rfl keep_nil))))) (wl_nil ?_)
          refine cw_cond rfl (fun hb321 => ?_) (fun hb321 => ?_)
          · have hD := ifT hb321 hD
            refine cw_seq ?_
            refine cw_region ?_
            refine wl_q rfl rfl rfl (q_move rfl rfl) ?_
            refine wl_q rfl rfl rfl (q_assign rfl rfl) ?_
            refine wl_keep (l' := [(6, Value.int .i64 r320)]) (keep_cons rfl keep_nil) (wl_nil ?_)
            refine cw_ret ?_
            exact ⟨_, resq1 rfl rfl, _, rfl, hD⟩
          · have hD := ifF hb321 hD
            refine cw_skip ?_
            exact ⟨(keep_cons rfl (keep_cons rfl (keep_cons rfl keep_nil))), hD⟩
        · have hD := ifF hb312 hD
          refine cw_skip ?_
          exact ⟨(keep_cons rfl (keep_cons rfl (keep_cons rfl keep_nil))), hD⟩
      · rintro l323 hz280 ⟨hk322, hD⟩
        refine cw_keep hk322 ?_
        unfold D_wal_Log_shorten_j6 at hD
        refine cw_seq ?_
        refine cw_seq ?_
        refine cw_region ?_
        refine wl_q rfl rfl rfl (q_makeFunc (xs := []) (ys := [.tmp 3, .tmp 7, .tmp 4]) rfl rfl rfl) ?_
        refine wl_q rfl rfl rfl (q_makeFunc (xs := []) (ys := [.tmp 3]) rfl rfl rfl) ?_
        refine wl_q rfl rfl rfl (q_makeFunc (xs := []) (ys := [.tmp 3, .tmp 4]) rfl rfl rfl) ?_
        refine wl_e rfl rfl rfl (e_buildSlice (cs := #[Value.func (.func F_wal_Log_shorten_1) #[] #[Value.pointer (some (blk h0.size)), Value.pointer (some (blk hz3.size)), Value.pointer (some (blk hz1.size))], Value.func (.func F_wal_Log_shorten_2) #[] #[Value.pointer (some (blk h0.size))], Value.func (.func F_wal_Log_shorten_3) #[] #[Value.pointer (some (blk h0.size)), Value.pointer (some (blk hz1.size))]]) rfl rfl Go.Proofs.Tryz.underlying88 sz_34 zr_34 (by decide) (by kernel_rfl) ?_)
        intro hz281 e282
        have hD := hD hz281 e282
        refine wl_q rfl rfl rfl (q_len_slice rfl rfl Go.Proofs.Tryz.underlying88 rfl) ?_
        refine wl_q rfl rfl rfl (q_move rfl rfl) ?_
        refine wl_keep (l' := [(79, Sl.v (Sl.mk (some (blk hz280.size)) 3 3)), (80, Value.int .i64 ((Sl.mk (some (blk hz280.size)) 3 3).len : Int)), (81, Value.int .i64 0)]) (keep_cons rfl (keep_cons rfl (keep_cons rfl keep_nil))) (wl_nil ?_)
        refine cw_block ?_
        obtain ⟨I, μ, hI301, hL302⟩ := hD
        refine cw_loops (σ := Int) (fun s => [(79, Sl.v (Sl.mk (some (blk hz280.size)) 3 3)), (80, Value.int .i64 ((Sl.mk (some (blk hz280.size)) 3 3).len : Int)), (81, Value.int .i64 s)]) (0) (fun s h => I s h) (fun s h => μ s h) (keep_cons rfl (keep_cons rfl (keep_cons rfl keep_nil))) hI301 ?_
        rintro x283 hz284 hI
        have hD := hL302 x283 hz284 hI
        obtain ⟨C285, hC285⟩ : ∃ c : Int → Hp → Prop, c = (fun x283' h' => I x283' h' ∧ μ x283' h' < μ x283 hz284) := ⟨_, rfl⟩
        rw [← hC285] at hD
        unfold D_wal_Log_shorten_l5 at hD
        show cw _ _ _ [(79, Sl.v (Sl.mk (some (blk hz280.size)) 3 3)), (80, Value.int .i64 ((Sl.mk (some (blk hz280.size)) 3 3).len : Int)), (81, Value.int .i64 x283)] _ _ _ _
        refine cw_seq ?_
        refine cw_region ?_
        refine wl_q rfl rfl rfl (q_bin rfl rfl rfl (fun _ _ => rfl)) ?_
        refine wl_keep (l' := [(79, Sl.v (Sl.mk (some (blk hz280.size)) 3 3)), (80, Value.int .i64 ((Sl.mk (some (blk hz280.size)) 3 3).len : Int)), (81, Value.int .i64 x283), (82, Value.bool (decide (x283 < ((Sl.mk (some (blk hz280.size)) 3 3).len : Int))))]) (keep_cons rfl (keep_cons rfl (keep_cons rfl (keep_cons rfl keep_nil)))) (wl_nil ?_)
        refine cw_seq ?_
        refine cw_cond rfl (fun hb286 => ?_) (fun hb286 => ?_)
        · have hD := ifT hb286 hD
          refine cw_skip ?_
          refine cw_seq ?_
          refine cw_block ?_
          refine cw_seq ?_
          refine cw_region ?_
          obtain ⟨a287, c288, c289, c290, hD⟩ := hD
          refine wl_q rfl rfl rfl (q_indexAddr rfl rfl rfl Go.Proofs.Tryz.underlying88 sz_34 c288 c289 c290) ?_
          obtain ⟨x291, c292, hD⟩ := hD
          refine wl_q rfl rfl rfl (q_load rfl rfl Go.Proofs.Tryz.underlying34 rfl (At.cell c292)) ?_
          refine wl_q rfl rfl rfl (q_assign rfl rfl) ?_
          refine wl_keep (l' := [(14, x291), (79, Sl.v (Sl.mk (some (blk hz280.size)) 3 3)), (80, Value.int .i64 ((Sl.mk (some (blk hz280.size)) 3 3).len : Int)), (81, Value.int .i64 x283)]) (keep_cons rfl (keep_cons rfl (keep_cons rfl (keep_cons rfl keep_nil)))) (wl_nil ?_)
          refine cw_seq ?_
          refine cw_region ?_
          refine wl_q rfl rfl rfl (q_move rfl rfl) ?_
          obtain ⟨g296, fi297, ca298, c299, c300, hD⟩ := hD
          refine wl_e rfl rfl rfl (e_call (first := fi297) (vs := []) (cap := ca298) rfl (by rw [← c299]; rfl) rfl c300 (CallsH.mono hD ?_))
          rintro _ hz293 ⟨r294, rfl, hD⟩
          refine wl_q rfl rfl rfl (q_assign rfl rfl) ?_
          refine wl_keep (l' := [(15, Value.int .i64 r294), (79, Sl.v (Sl.mk (some (blk hz280.size)) 3 3)), (80, Value.int .i64 ((Sl.mk (some (blk hz280.size)) 3 3).len : Int)), (81, Value.int .i64 x283)]) (keep_cons rfl (keep_cons rfl (keep_cons rfl (keep_cons rfl keep_nil)))) (wl_nil ?_)
          refine cw_seq ?_
          refine cw_region ?_
          refine wl_q rfl rfl rfl (q_move rfl rfl) ?_
          refine wl_q rfl rfl rfl (q_bin rfl rfl rfl (fun _ _ => rfl)) ?_
          refine wl_keep (l' := [(15, Value.int .i64 r294), (79, Sl.v (Sl.mk (some (blk hz280.size)) 3 3)), (80, Value.int .i64 ((Sl.mk (some (blk hz280.size)) 3 3).len : Int)), (81, Value.int .i64 x283), (88, Value.bool (r294 != (0 : Int)))]) (keep_cons rfl (keep_cons rfl (keep_cons rfl (keep_cons rfl (keep_cons rfl keep_nil))))) (wl_nil ?_)
          refine cw_cond rfl (fun hb295 => ?_) (fun hb295 => ?_)
          · have hD := ifT hb295 hD
            refine cw_seq ?_
            refine cw_region ?_
            refine wl_q rfl rfl rfl (q_move rfl rfl) ?_
            refine wl_q rfl rfl rfl (q_assign rfl rfl) ?_
            refine wl_keep (l' := [(6, Value.int .i64 r294)]) (keep_cons rfl keep_nil) (wl_nil ?_)
            refine cw_ret ?_
            exact ⟨_, resq1 rfl rfl, _, rfl, hD⟩
          · have hD := ifF hb295 hD
            refine cw_skip ?_
            refine cw_region ?_
            refine wl_q rfl rfl rfl (q_bin rfl rfl rfl (fun _ _ => rfl)) ?_
            refine wl_q rfl rfl rfl (q_move rfl rfl) ?_
            refine wl_keep (l' := [(79, Sl.v (Sl.mk (some (blk hz280.size)) 3 3)), (80, Value.int .i64 ((Sl.mk (some (blk hz280.size)) 3 3).len : Int)), (81, Value.int .i64 (IntKind.i64.wrap (x283 + 1)))]) (keep_cons rfl (keep_cons rfl (keep_cons rfl keep_nil))) (wl_nil ?_)
            rw [hC285] at hD
            exact ⟨(IntKind.i64.wrap (x283 + 1)), (keep_cons rfl (keep_cons rfl (keep_cons rfl keep_nil))), hD⟩
        · have hD := ifF hb286 hD
          refine cw_exit ?_
          refine xput_same ?_
          refine cw_seq ?_
          refine cw_region ?_
          refine wl_q rfl rfl rfl (q_assign rfl rfl) ?_
          refine wl_keep (l' := [(6, Value.int .i64 0)]) (keep_cons rfl keep_nil) (wl_nil ?_)
          refine cw_ret ?_
          exact ⟨_, resq1 rfl rfl, _, rfl, hD⟩
end Go.Proofs.YtgdmjdacmebfjaaGreatDoor.D

namespace Go.Proofs.YtgdmjdacmebfjaaGreatDoor.D
open Go
set_option maxRecDepth 100000
theorem S_wal_Log_stands {l_0 : Option Addr} {n_1 : Int} {h0 : Hp} {K : Int → Hp → Prop} (hD : D_wal_Log_stands l_0 n_1 h0 K) : C_wal_Log_stands l_0 n_1 h0 K := by
  unfold D_wal_Log_stands at hD
  refine calls_cw (args := [Value.pointer l_0, Value.int .i64 n_1]) Go.Proofs.Tryz.func31 rfl ?_
  show cw _ 25 _ [(0, Value.pointer l_0), (1, Value.int .i64 n_1)] _ _ _ _
  refine cw_seq ?_
  refine cw_region ?_
  refine wl_q rfl rfl rfl (q_assign rfl rfl) ?_
  refine wl_keep (l' := [(0, Value.pointer l_0), (1, Value.int .i64 n_1)]) (keep_cons rfl (keep_cons rfl keep_nil)) (wl_nil ?_)
  refine cw_seq ?_
  refine cw_region ?_
  refine wl_q rfl rfl rfl (q_move rfl rfl) ?_
  obtain ⟨a1, c2, hD⟩ := hD
  refine wl_q rfl rfl rfl (q_nil rfl rfl c2) ?_
  refine wl_q rfl rfl rfl (q_fieldAddr rfl rfl fo_49_0) ?_
  obtain ⟨x3, c4, hD⟩ := hD
  refine wl_q rfl rfl rfl (q_load rfl rfl Go.Proofs.Tryz.underlying25 rfl (At.cell c4)) ?_
  refine wl_e rfl rfl rfl (e_call (first := []) (vs := [Value.pointer x3]) (cap := []) rfl rfl rfl cf_27 (CallsH.mono hD ?_))
  rintro _ hz5 ⟨r6, rfl, hD⟩
  refine wl_q rfl rfl rfl (q_assign rfl rfl) ?_
  refine wl_keep (l' := [(0, Value.pointer l_0), (1, Value.int .i64 n_1), (5, Value.int .i64 r6)]) (keep_cons rfl (keep_cons rfl (keep_cons rfl keep_nil))) (wl_nil ?_)
  refine cw_cut (fun l h => Keep l [(5, Value.int .i64 r6)] ∧ D_wal_Log_stands_j1 K r6 h) ?_ ?_
  · refine cw_seq ?_
    refine cw_region ?_
    refine wl_q rfl rfl rfl (q_move rfl rfl) ?_
    refine wl_q rfl rfl rfl (q_bin rfl rfl rfl (fun _ _ => rfl)) ?_
    refine wl_keep (l' := [(0, Value.pointer l_0), (1, Value.int .i64 n_1), (5, Value.int .i64 r6), (12, Value.bool (r6 == (0 : Int)))]) (keep_cons rfl (keep_cons rfl (keep_cons rfl (keep_cons rfl keep_nil)))) (wl_nil ?_)
    refine cw_cond rfl (fun hb8 => ?_) (fun hb8 => ?_)
    · have hD := ifT hb8 hD
      refine cw_region ?_
      refine wl_q rfl rfl rfl (q_move rfl rfl) ?_
      refine wl_q rfl rfl rfl (q_move rfl rfl) ?_
      refine wl_q rfl rfl rfl (q_move rfl rfl) ?_
      refine wl_q rfl rfl rfl (q_move rfl rfl) ?_
      refine wl_q rfl rfl rfl (q_move rfl rfl) ?_
      refine wl_q rfl rfl rfl (q_nil rfl rfl c2) ?_
      refine wl_q rfl rfl rfl (q_fieldAddr rfl rfl fo_49_4) ?_
      obtain ⟨u10, c11, c12, hD⟩ := hD
      refine wl_e0 rfl rfl (e_store rfl rfl rfl sz_3 trivial c11 c12 ?_)
      intro hz9 e13
      have hD := hD hz9 e13
      refine wl_q rfl rfl rfl (q_nil rfl rfl c2) ?_
      refine wl_q rfl rfl rfl (q_fieldAddr rfl rfl fo_49_5) ?_
      obtain ⟨u15, c16, c17, hD⟩ := hD
      refine wl_e0 rfl rfl (e_store rfl rfl rfl sz_3 trivial c16 c17 ?_)
      intro hz14 e18
      have hD := hD hz14 e18
      refine wl_q rfl rfl rfl (q_nil rfl rfl c2) ?_
      refine wl_q rfl rfl rfl (q_fieldAddr rfl rfl fo_49_3) ?_
      obtain ⟨u20, c21, c22, hD⟩ := hD
      refine wl_e0 rfl rfl (e_store rfl rfl rfl sz_4 trivial c21 c22 ?_)
      intro hz19 e23
      have hD := hD hz19 e23
      refine wl_keep (l' := [(5, Value.int .i64 r6)]) (keep_cons rfl keep_nil) (wl_nil ?_)
      exact ⟨(keep_cons rfl keep_nil), hD⟩
    · have hD := ifF hb8 hD
      refine cw_skip ?_
      exact ⟨(keep_cons rfl keep_nil), hD⟩
  · rintro l25 hz7 ⟨hk24, hD⟩
    refine cw_keep hk24 ?_
    unfold D_wal_Log_stands_j1 at hD
    refine cw_seq ?_
    refine cw_region ?_
    refine wl_q rfl rfl rfl (q_move rfl rfl) ?_
    refine wl_q rfl rfl rfl (q_assign rfl rfl) ?_
    refine wl_keep (l' := [(4, Value.int .i64 r6)]) (keep_cons rfl keep_nil) (wl_nil ?_)
    refine cw_ret ?_
    exact ⟨_, resq1 rfl rfl, _, rfl, hD⟩
end Go.Proofs.YtgdmjdacmebfjaaGreatDoor.D

namespace Go.Proofs.YtgdmjdacmebfjaaGreatDoor.D
open Go
set_option maxRecDepth 100000
theorem S_disk_Disk_Crash_1 {of_0 : Int} {q1 : Addr} {h0 : Hp} {K : Int → Hp → Prop} (hD : D_disk_Disk_Crash_1 of_0 q1 h0 K) : C_disk_Disk_Crash_1 of_0 q1 h0 K := by
  unfold D_disk_Disk_Crash_1 at hD
  refine calls_cw (args := [Value.int .i64 of_0, Value.pointer (some q1)]) Go.Proofs.Tryz.func32 rfl ?_
  show cw _ 20 _ [(0, Value.int .i64 of_0), (1, Value.pointer (some q1))] _ _ _ _
  refine cw_seq ?_
  refine cw_region ?_
  refine wl_q rfl rfl rfl (q_assign rfl rfl) ?_
  refine wl_keep (l' := [(0, Value.int .i64 of_0), (1, Value.pointer (some q1))]) (keep_cons rfl (keep_cons rfl keep_nil)) (wl_nil ?_)
  refine cw_seq ?_
  refine cw_seq ?_
  refine cw_region ?_
  obtain ⟨x1, c2, hD⟩ := hD
  refine wl_q rfl rfl rfl (q_load rfl rfl Go.Proofs.Tryz.underlying22 rfl (At.cell c2)) ?_
  refine wl_q rfl rfl rfl (q_len_slice rfl rfl Go.Proofs.Tryz.underlying22 rfl) ?_
  refine wl_q rfl rfl rfl (q_bin rfl rfl rfl (fun _ _ => rfl)) ?_
  refine wl_keep (l' := [(0, Value.int .i64 of_0), (1, Value.pointer (some q1)), (7, Value.bool ((x1.len : Int) == (0 : Int)))]) (keep_cons rfl (keep_cons rfl (keep_cons rfl keep_nil))) (wl_nil ?_)
  refine cw_cond rfl (fun hb3 => ?_) (fun hb3 => ?_)
  · have hD := ifT hb3 hD
    refine cw_seq ?_
    refine cw_region ?_
    refine wl_q rfl rfl rfl (q_assign rfl rfl) ?_
    refine wl_keep (l' := [(3, Value.int .i64 0)]) (keep_cons rfl keep_nil) (wl_nil ?_)
    refine cw_ret ?_
    exact ⟨_, resq1 rfl rfl, _, rfl, hD⟩
  · have hD := ifF hb3 hD
    refine cw_skip ?_
    refine cw_seq ?_
    refine cw_region ?_
    obtain ⟨x4, c5, hD⟩ := hD
    refine wl_q rfl rfl rfl (q_load rfl rfl Go.Proofs.Tryz.underlying22 rfl (At.cell c5)) ?_
    obtain ⟨a6, c7, c8, c9, hD⟩ := hD
    refine wl_q rfl rfl rfl (q_indexAddr rfl rfl rfl Go.Proofs.Tryz.underlying22 sz_3 c7 c8 c9) ?_
    obtain ⟨x10, c11, hD⟩ := hD
    refine wl_q rfl rfl rfl (q_load rfl rfl Go.Proofs.Tryz.underlying3 rfl (At.cell c11)) ?_
    refine wl_q rfl rfl rfl (q_conv_int rfl rfl Go.Proofs.Tryz.underlying3 Go.Proofs.Tryz.underlying24) ?_
    refine wl_q rfl rfl rfl (q_move rfl rfl) ?_
    refine wl_q rfl rfl rfl (q_bin rfl rfl rfl (fun _ _ => rfl)) ?_
    refine wl_q rfl rfl rfl (q_conv_int rfl rfl Go.Proofs.Tryz.underlying3 Go.Proofs.Tryz.underlying24) ?_
    obtain ⟨c12, hD⟩ := hD
    refine wl_q rfl rfl rfl (q_rem rfl rfl rfl c12) ?_
    refine wl_q rfl rfl rfl (q_conv_int rfl rfl Go.Proofs.Tryz.underlying24 Go.Proofs.Tryz.underlying3) ?_
    refine wl_q rfl rfl rfl (q_assign rfl rfl) ?_
    refine wl_keep (l' := [(1, Value.pointer (some q1)), (4, Value.int .i64 (IntKind.i64.wrap (Int.tmod (IntKind.u64.wrap x10) (IntKind.u64.wrap (IntKind.i64.wrap (of_0 + 1))))))]) (keep_cons rfl (keep_cons rfl keep_nil)) (wl_nil ?_)
    refine cw_seq ?_
    refine cw_region ?_
    obtain ⟨x13, c14, hD⟩ := hD
    refine wl_q rfl rfl rfl (q_load rfl rfl Go.Proofs.Tryz.underlying22 rfl (At.cell c14)) ?_
    obtain ⟨c15, c16, hD⟩ := hD
    refine wl_q rfl rfl rfl (q_slice (i := 1) (j := x13.len) rfl rfl Go.Proofs.Tryz.underlying22 sz_3 ⟨_, _, rfl, rfl⟩ rfl c15 c16) ?_
    obtain ⟨u18, c19, c20, hD⟩ := hD
    refine wl_e0 rfl rfl (e_store rfl rfl rfl sz_22 trivial c19 c20 ?_)
    intro hz17 e21
    have hD := hD hz17 e21
    refine wl_keep (l' := [(4, Value.int .i64 (IntKind.i64.wrap (Int.tmod (IntKind.u64.wrap x10) (IntKind.u64.wrap (IntKind.i64.wrap (of_0 + 1))))))]) (keep_cons rfl keep_nil) (wl_nil ?_)
    refine cw_seq ?_
    refine cw_region ?_
    refine wl_q rfl rfl rfl (q_move rfl rfl) ?_
    refine wl_q rfl rfl rfl (q_assign rfl rfl) ?_
    refine wl_keep (l' := [(3, Value.int .i64 (IntKind.i64.wrap (Int.tmod (IntKind.u64.wrap x10) (IntKind.u64.wrap (IntKind.i64.wrap (of_0 + 1))))))]) (keep_cons rfl keep_nil) (wl_nil ?_)
    refine cw_ret ?_
    exact ⟨_, resq1 rfl rfl, _, rfl, hD⟩
end Go.Proofs.YtgdmjdacmebfjaaGreatDoor.D

namespace Go.Proofs.YtgdmjdacmebfjaaGreatDoor.D
open Go
set_option maxRecDepth 100000
theorem S_maps_Clone_disk_names_string_disk_file {m_0 : Option Nat} {h0 : Hp} {K : Option Nat → Hp → Prop} (hD : D_maps_Clone_disk_names_string_disk_file m_0 h0 K) : C_maps_Clone_disk_names_string_disk_file m_0 h0 K := by
  unfold D_maps_Clone_disk_names_string_disk_file at hD
  refine calls_cw (args := [Value.map m_0]) Go.Proofs.Tryz.func35 rfl ?_
  show cw _ 9 _ [(0, Value.map m_0)] _ _ _ _
  refine cw_seq ?_
  refine cw_region ?_
  refine wl_q rfl rfl rfl (q_assign rfl rfl) ?_
  refine wl_keep (l' := [(0, Value.map m_0)]) (keep_cons rfl keep_nil) (wl_nil ?_)
  refine cw_seq ?_
  refine cw_seq ?_
  refine cw_region ?_
  refine wl_q rfl rfl rfl (q_move rfl rfl) ?_
  refine wl_q rfl rfl rfl (q_bin rfl rfl rfl (fun _ _ => sem_eq_map_nil Go.Proofs.Tryz.underlying42)) ?_
  refine wl_keep (l' := [(0, Value.map m_0), (4, Value.bool m_0.isNone)]) (keep_cons rfl (keep_cons rfl keep_nil)) (wl_nil ?_)
  refine cw_cond rfl (fun hb1 => ?_) (fun hb1 => ?_)
  · have hD := ifT hb1 hD
    refine cw_seq ?_
    refine cw_region ?_
    refine wl_q rfl rfl rfl (q_assign rfl rfl) ?_
    refine wl_keep (l' := [(2, Value.map none)]) (keep_cons rfl keep_nil) (wl_nil ?_)
    refine cw_ret ?_
    exact ⟨_, resq1 rfl rfl, _, rfl, hD⟩
  · have hD := ifF hb1 hD
    refine cw_skip ?_
    refine cw_seq ?_
    refine cw_region ?_
    refine wl_q rfl rfl rfl (q_move rfl rfl) ?_
    refine wl_q rfl rfl rfl (q_makeInterface rfl rfl Go.Proofs.Tryz.underlying42 (by intro q hq; cases hq)) ?_
    obtain ⟨r3, es4, clk5, c6, c7, hD⟩ := hD
    refine wl_e rfl rfl rfl (e_clone (t := 42) (r := r3) (f := 56) rfl (by rw [← c6]; rfl) c7 (by kernel_rfl) (by kernel_rfl) ?_)
    intro hz2 e8
    have hD := hD hz2 e8
    refine wl_q rfl rfl rfl (q_typeAssert rfl rfl Go.Proofs.Tryz.underlying42 (by intro q hq; cases hq)) ?_
    refine wl_q rfl rfl rfl (q_assign rfl rfl) ?_
    refine wl_keep (l' := [(2, Value.map (some h0.size))]) (keep_cons rfl keep_nil) (wl_nil ?_)
    refine cw_ret ?_
    exact ⟨_, resq1 rfl rfl, _, rfl, hD⟩
end Go.Proofs.YtgdmjdacmebfjaaGreatDoor.D

namespace Go.Proofs.YtgdmjdacmebfjaaGreatDoor.D
open Go
set_option maxRecDepth 100000
theorem S_wal_segment_last {s_0 : Option Addr} {h0 : Hp} {K : Int → Hp → Prop} (hD : D_wal_segment_last s_0 h0 K) : C_wal_segment_last s_0 h0 K := by
  unfold D_wal_segment_last at hD
  refine calls_cw (args := [Value.pointer s_0]) Go.Proofs.Tryz.func36 rfl ?_
  show cw _ 14 _ [(0, Value.pointer s_0)] _ _ _ _
  refine cw_seq ?_
  refine cw_region ?_
  refine wl_q rfl rfl rfl (q_assign rfl rfl) ?_
  refine wl_keep (l' := [(0, Value.pointer s_0)]) (keep_cons rfl keep_nil) (wl_nil ?_)
  refine cw_seq ?_
  obtain ⟨a1, c2, hD⟩ := hD
  obtain ⟨x3, c4, hD⟩ := hD
  obtain ⟨x5, c6, hD⟩ := hD
  refine cw_draw (fun h => cellH h (a1.add 0) = some (Value.int .i64 x3) ∧ cellH h (a1.add 1) = some (Sl.v x5) ∧ True) 12 wide ?_
  have hS : cellH h0 (a1.add 0) = some (Value.int .i64 x3) ∧ cellH h0 (a1.add 1) = some (Sl.v x5) ∧ True := ⟨c4, c6, trivial⟩
  refine wh_q 0 rfl (by kernel_rfl) rfl rfl rfl (q_move rfl rfl) (by exact hS) ?_
  refine wh_q 1 rfl (by kernel_rfl) rfl rfl rfl (q_nil rfl rfl c2) (by exact hS) ?_
  refine wh_q 2 rfl (by kernel_rfl) rfl rfl rfl (q_fieldAddr rfl rfl fo_63_0) (by exact hS) ?_
  refine wh_q 3 rfl (by kernel_rfl) rfl rfl rfl (q_load rfl rfl Go.Proofs.Tryz.underlying3 rfl (by exact fun _ s => s.1)) (by exact hS) ?_
  refine wh_q 4 rfl (by kernel_rfl) rfl rfl rfl (q_move rfl rfl) (by exact hS) ?_
  refine wh_q 5 rfl (by kernel_rfl) rfl rfl rfl (q_nil rfl rfl c2) (by exact hS) ?_
  refine wh_q 6 rfl (by kernel_rfl) rfl rfl rfl (q_fieldAddr rfl rfl fo_63_1) (by exact hS) ?_
  refine wh_q 7 rfl (by kernel_rfl) rfl rfl rfl (q_load rfl rfl Go.Proofs.Tryz.underlying22 rfl (by exact fun _ s => s.2.1)) (by exact hS) ?_
  refine wh_q 8 rfl (by kernel_rfl) rfl rfl rfl (q_len_slice rfl rfl Go.Proofs.Tryz.underlying22 rfl) (by exact hS) ?_
  refine wh_q 9 rfl (by kernel_rfl) rfl rfl rfl (q_bin rfl rfl rfl (fun _ _ => rfl)) (by exact hS) ?_
  refine wh_q 10 rfl (by kernel_rfl) rfl rfl rfl (q_bin rfl rfl rfl (fun _ _ => rfl)) (by exact hS) ?_
  refine wh_q 11 rfl (by kernel_rfl) rfl rfl rfl (q_assign rfl rfl) (by exact hS) ?_
  refine wh_keep (l' := [(2, Value.int .i64 (IntKind.i64.wrap ((IntKind.i64.wrap (x3 + (x5.len : Int))) - 1)))]) (keep_cons rfl keep_nil) (wh_done (by kernel_rfl) ?_)
  refine cw_ret ?_
  exact ⟨_, resq1 rfl rfl, _, rfl, hD⟩
end Go.Proofs.YtgdmjdacmebfjaaGreatDoor.D

namespace Go.Proofs.YtgdmjdacmebfjaaGreatDoor.D
open Go
set_option maxRecDepth 100000
theorem S_frame_Get {s_0 : ByteArray} {h0 : Hp} {K : Int → ByteArray → Int → Int → Hp → Prop} (hD : D_frame_Get s_0 h0 K) : C_frame_Get s_0 h0 K := by
  unfold D_frame_Get at hD
  refine calls_cw (args := [Value.string s_0]) Go.Proofs.Tryz.func37 rfl ?_
  show cw _ 57 _ [(0, Value.string s_0)] _ _ _ _
  refine cw_seq ?_
  refine cw_region ?_
  refine wl_e rfl rfl rfl (e_alloc rfl zr_61 ?_)
  intro hz1 e2
  have hD := hD hz1 e2
  refine wl_q rfl rfl rfl (q_assign rfl rfl) ?_
  refine wl_q rfl rfl rfl (q_assign rfl rfl) ?_
  refine wl_keep (l' := [(0, Value.string s_0), (2, Value.pointer (some (blk h0.size)))]) (keep_cons rfl (keep_cons rfl keep_nil)) (wl_nil ?_)
  refine cw_seq ?_
  refine cw_block ?_
  refine cw_seq ?_
  refine cw_region ?_
  refine wl_q rfl rfl rfl (q_move rfl rfl) ?_
  refine wl_q rfl rfl rfl (q_bin rfl rfl rfl (fun _ _ => rfl)) ?_
  refine wl_q rfl rfl rfl (q_assign rfl rfl) ?_
  refine wl_keep (l' := [(0, Value.string s_0), (2, Value.pointer (some (blk h0.size))), (9, Value.bool (s_0.toList == (ByteArray.mk #[]).toList))]) (keep_cons rfl (keep_cons rfl (keep_cons rfl keep_nil))) (wl_nil ?_)
  refine cw_cond rfl (fun hb3 => ?_) (fun hb3 => ?_)
  · have hD := ifT hb3 hD
    refine cw_seq ?_
    refine cw_region ?_
    refine wl_q rfl rfl rfl (q_build (v := Value.agg #[Value.int .i64 0, Value.string ByteArray.empty]) rfl rfl (fun _ _ => by kernel_rfl)) ?_
    obtain ⟨c5, hD⟩ := hD
    refine wl_e0 rfl rfl (e_stores (vs := [Value.int .i64 0, Value.string ByteArray.empty]) rfl rfl rfl sz_61 c5 ?_)
    intro hz4 e6
    have hD := hD hz4 e6
    refine wl_q rfl rfl rfl (q_assign rfl rfl) ?_
    refine wl_q rfl rfl rfl (q_assign rfl rfl) ?_
    refine wl_keep (l' := [(2, Value.pointer (some (blk h0.size))), (3, Value.int .i64 0), (4, Value.int .i64 1)]) (keep_cons rfl (keep_cons rfl (keep_cons rfl keep_nil))) (wl_nil ?_)
    refine cw_ret ?_
    obtain ⟨y7, y8, c9, hD⟩ := hD
    exact ⟨_, resx3 rfl (resv_cells (vs := [Value.int .i64 y7, Value.string y8]) rfl Go.Proofs.Tryz.underlying61 rfl sz_61 c9) (resv_tmp rfl) (resv_tmp rfl), _, _, _, _, rfl, hD⟩
  · have hD := ifF hb3 hD
    refine cw_seq ?_
    refine cw_region ?_
    refine wl_q rfl rfl rfl (q_move rfl rfl) ?_
    obtain ⟨c10, c11, hD⟩ := hD
    refine wl_q rfl rfl rfl (q_index_string rfl rfl rfl Go.Proofs.Tryz.underlying9 c10 c11) ?_
    refine wl_q rfl rfl rfl (q_bin rfl rfl rfl (fun _ _ => rfl)) ?_
    refine wl_q rfl rfl rfl (q_assign rfl rfl) ?_
    refine wl_keep (l' := [(0, Value.string s_0), (2, Value.pointer (some (blk h0.size))), (13, Value.bool ((bt s_0 0) == (0 : Int)))]) (keep_cons rfl (keep_cons rfl (keep_cons rfl keep_nil))) (wl_nil ?_)
    refine cw_cond rfl (fun hb12 => ?_) (fun hb12 => ?_)
    · have hD := ifT hb12 hD
      refine cw_seq ?_
      refine cw_region ?_
      refine wl_q rfl rfl rfl (q_build (v := Value.agg #[Value.int .i64 0, Value.string ByteArray.empty]) rfl rfl (fun _ _ => by kernel_rfl)) ?_
      obtain ⟨c14, hD⟩ := hD
      refine wl_e0 rfl rfl (e_stores (vs := [Value.int .i64 0, Value.string ByteArray.empty]) rfl rfl rfl sz_61 c14 ?_)
      intro hz13 e15
      have hD := hD hz13 e15
      refine wl_q rfl rfl rfl (q_assign rfl rfl) ?_
      refine wl_q rfl rfl rfl (q_assign rfl rfl) ?_
      refine wl_keep (l' := [(2, Value.pointer (some (blk h0.size))), (3, Value.int .i64 0), (4, Value.int .i64 5)]) (keep_cons rfl (keep_cons rfl (keep_cons rfl keep_nil))) (wl_nil ?_)
      refine cw_ret ?_
      obtain ⟨y16, y17, c18, hD⟩ := hD
      exact ⟨_, resx3 rfl (resv_cells (vs := [Value.int .i64 y16, Value.string y17]) rfl Go.Proofs.Tryz.underlying61 rfl sz_61 c18) (resv_tmp rfl) (resv_tmp rfl), _, _, _, _, rfl, hD⟩
    · have hD := ifF hb12 hD
      refine cw_skip ?_
      refine cw_seq ?_
      refine cw_region ?_
      refine wl_q rfl rfl rfl (q_move rfl rfl) ?_
      obtain ⟨c19, c20, hD⟩ := hD
      refine wl_q rfl rfl rfl (q_slice_string rfl rfl Go.Proofs.Tryz.underlying9 ⟨_, _, rfl, rfl⟩ rfl c19 c20) ?_
      refine wl_e rfl rfl rfl (e_call (first := []) (vs := [Value.string (s_0.extract 1 s_0.size), Value.int .i64 65536]) (cap := []) rfl rfl rfl cf_57 (CallsH.mono hD ?_))
      rintro _ hz21 ⟨r22, r23, r24, rfl, hD⟩
      refine wl_q rfl rfl rfl (q_move rfl rfl) ?_
      refine wl_q rfl rfl rfl (q_extract rfl rfl rfl) ?_
      refine wl_q rfl rfl rfl (q_extract rfl rfl rfl) ?_
      refine wl_q rfl rfl rfl (q_extract rfl rfl rfl) ?_
      refine wl_q rfl rfl rfl (q_assign rfl rfl) ?_
      refine wl_q rfl rfl rfl (q_assign rfl rfl) ?_
      refine wl_q rfl rfl rfl (q_assign rfl rfl) ?_
      refine wl_keep (l' := [(0, Value.string s_0), (2, Value.pointer (some (blk h0.size))), (5, Value.string r22), (6, Value.int .i64 r23), (7, Value.int .i64 r24)]) (keep_cons rfl (keep_cons rfl (keep_cons rfl (keep_cons rfl (keep_cons rfl keep_nil))))) (wl_nil ?_)
      refine cw_seq ?_
      refine cw_seq ?_
      refine cw_region ?_
      refine wl_q rfl rfl rfl (q_move rfl rfl) ?_
      refine wl_q rfl rfl rfl (q_bin rfl rfl rfl (fun _ _ => rfl)) ?_
      refine wl_keep (l' := [(0, Value.string s_0), (2, Value.pointer (some (blk h0.size))), (5, Value.string r22), (6, Value.int .i64 r23), (7, Value.int .i64 r24), (26, Value.bool (r24 != (0 : Int)))]) (keep_cons rfl (keep_cons rfl (keep_cons rfl (keep_cons rfl (keep_cons rfl (keep_cons rfl keep_nil)))))) (wl_nil ?_)
      refine cw_cond rfl (fun hb25 => ?_) (fun hb25 => ?_)
      · have hD := ifT hb25 hD
        refine cw_seq ?_
        refine cw_region ?_
        refine wl_q rfl rfl rfl (q_build (v := Value.agg #[Value.int .i64 0, Value.string ByteArray.empty]) rfl rfl (fun _ _ => by kernel_rfl)) ?_
        refine wl_q rfl rfl rfl (q_move rfl rfl) ?_
        obtain ⟨c27, hD⟩ := hD
        refine wl_e0 rfl rfl (e_stores (vs := [Value.int .i64 0, Value.string ByteArray.empty]) rfl rfl rfl sz_61 c27 ?_)
        intro hz26 e28
        have hD := hD hz26 e28
        refine wl_q rfl rfl rfl (q_assign rfl rfl) ?_
        refine wl_q rfl rfl rfl (q_assign rfl rfl) ?_
        refine wl_keep (l' := [(2, Value.pointer (some (blk h0.size))), (3, Value.int .i64 0), (4, Value.int .i64 r24)]) (keep_cons rfl (keep_cons rfl (keep_cons rfl keep_nil))) (wl_nil ?_)
        refine cw_ret ?_
        obtain ⟨y29, y30, c31, hD⟩ := hD
        exact ⟨_, resx3 rfl (resv_cells (vs := [Value.int .i64 y29, Value.string y30]) rfl Go.Proofs.Tryz.underlying61 rfl sz_61 c31) (resv_tmp rfl) (resv_tmp rfl), _, _, _, _, rfl, hD⟩
      · have hD := ifF hb25 hD
        refine cw_skip ?_
        refine cw_seq ?_
        refine cw_region ?_
        refine wl_q rfl rfl rfl (q_move rfl rfl) ?_
        refine wl_q rfl rfl rfl (q_bin rfl rfl rfl (fun _ _ => rfl)) ?_
        refine wl_q rfl rfl rfl (q_assign rfl rfl) ?_
        refine wl_keep (l' := [(0, Value.string s_0), (2, Value.pointer (some (blk h0.size))), (5, Value.string r22), (6, Value.int .i64 (IntKind.i64.wrap (r23 + 1)))]) (keep_cons rfl (keep_cons rfl (keep_cons rfl (keep_cons rfl keep_nil)))) (wl_nil ?_)
        refine cw_seq ?_
        refine cw_region ?_
        refine wl_q rfl rfl rfl (q_move rfl rfl) ?_
        refine wl_q rfl rfl rfl (q_bin rfl rfl rfl (fun _ _ => rfl)) ?_
        refine wl_q rfl rfl rfl (q_assign rfl rfl) ?_
        refine wl_keep (l' := [(0, Value.string s_0), (2, Value.pointer (some (blk h0.size))), (5, Value.string r22), (6, Value.int .i64 (IntKind.i64.wrap (r23 + 1))), (8, Value.int .i64 (IntKind.i64.wrap ((IntKind.i64.wrap (r23 + 1)) + 4)))]) (keep_cons rfl (keep_cons rfl (keep_cons rfl (keep_cons rfl (keep_cons rfl keep_nil))))) (wl_nil ?_)
        refine cw_seq ?_
        refine cw_block ?_
        refine cw_seq ?_
        refine cw_region ?_
        refine wl_q rfl rfl rfl (q_move rfl rfl) ?_
        refine wl_q rfl rfl rfl (q_move rfl rfl) ?_
        refine wl_q rfl rfl rfl (q_len_string rfl rfl Go.Proofs.Tryz.underlying9 rfl) ?_
        refine wl_q rfl rfl rfl (q_bin rfl rfl rfl (fun _ _ => rfl)) ?_
        refine wl_q rfl rfl rfl (q_assign rfl rfl) ?_
        refine wl_keep (l' := [(0, Value.string s_0), (2, Value.pointer (some (blk h0.size))), (5, Value.string r22), (6, Value.int .i64 (IntKind.i64.wrap (r23 + 1))), (8, Value.int .i64 (IntKind.i64.wrap ((IntKind.i64.wrap (r23 + 1)) + 4))), (33, Value.bool (decide ((IntKind.i64.wrap ((IntKind.i64.wrap (r23 + 1)) + 4)) > (s_0.size : Int))))]) (keep_cons rfl (keep_cons rfl (keep_cons rfl (keep_cons rfl (keep_cons rfl (keep_cons rfl keep_nil)))))) (wl_nil ?_)
        refine cw_cond rfl (fun hb32 => ?_) (fun hb32 => ?_)
        · have hD := ifT hb32 hD
          refine cw_seq ?_
          refine cw_region ?_
          refine wl_q rfl rfl rfl (q_build (v := Value.agg #[Value.int .i64 0, Value.string ByteArray.empty]) rfl rfl (fun _ _ => by kernel_rfl)) ?_
          obtain ⟨c34, hD⟩ := hD
          refine wl_e0 rfl rfl (e_stores (vs := [Value.int .i64 0, Value.string ByteArray.empty]) rfl rfl rfl sz_61 c34 ?_)
          intro hz33 e35
          have hD := hD hz33 e35
          refine wl_q rfl rfl rfl (q_assign rfl rfl) ?_
          refine wl_q rfl rfl rfl (q_assign rfl rfl) ?_
          refine wl_keep (l' := [(2, Value.pointer (some (blk h0.size))), (3, Value.int .i64 0), (4, Value.int .i64 1)]) (keep_cons rfl (keep_cons rfl (keep_cons rfl keep_nil))) (wl_nil ?_)
          refine cw_ret ?_
          obtain ⟨y36, y37, c38, hD⟩ := hD
          exact ⟨_, resx3 rfl (resv_cells (vs := [Value.int .i64 y36, Value.string y37]) rfl Go.Proofs.Tryz.underlying61 rfl sz_61 c38) (resv_tmp rfl) (resv_tmp rfl), _, _, _, _, rfl, hD⟩
        · have hD := ifF hb32 hD
          refine cw_seq ?_
          obtain ⟨n39, c40, n41, c42, c43, c44, hD⟩ := hD
          obtain ⟨n45, c46, c47, c48, hD⟩ := hD
          refine cw_draw (fun h => True) 11 wide ?_
          have hS : True := trivial
          refine wh_q 0 rfl (by kernel_rfl) rfl rfl rfl (q_move rfl rfl) (by exact hS) ?_
          refine wh_q 1 rfl (by kernel_rfl) rfl rfl rfl (q_move rfl rfl) (by exact hS) ?_
          refine wh_q 2 rfl (by kernel_rfl) rfl rfl rfl (q_move rfl rfl) (by exact hS) ?_
          refine wh_q 3 rfl (by kernel_rfl) rfl rfl rfl (q_slice_string rfl rfl Go.Proofs.Tryz.underlying9 ⟨_, _, rfl, c40⟩ ⟨_, _, rfl, c42⟩ c43 c44) (by exact hS) ?_
          refine wh_q 4 rfl (by kernel_rfl) rfl rfl rfl (q_move rfl rfl) (by exact hS) ?_
          refine wh_q 5 rfl (by kernel_rfl) rfl rfl rfl (q_move rfl rfl) (by exact hS) ?_
          refine wh_q 6 rfl (by kernel_rfl) rfl rfl rfl (q_slice_string rfl rfl Go.Proofs.Tryz.underlying9 rfl ⟨_, _, rfl, c46⟩ c47 c48) (by exact hS) ?_
          refine wh_e 7 rfl (by kernel_rfl) rfl rfl rfl (e_call (first := []) (vs := [Value.string (s_0.extract 0 n45)]) (cap := []) rfl rfl rfl cf_41 (CallsH.mono hD ?_))
          rintro _ hz49 ⟨r50, rfl, hD⟩
          refine ⟨trivial, ?_⟩
          have hS : True := trivial
          refine wh_e 8 rfl (by kernel_rfl) rfl rfl rfl (e_call (first := []) (vs := [Value.int .u32 r50]) (cap := []) rfl rfl rfl cf_40 (CallsH.mono hD ?_))
          rintro _ hz51 ⟨r52, rfl, hD⟩
          refine ⟨trivial, ?_⟩
          have hS : True := trivial
          refine wh_q 9 rfl (by kernel_rfl) rfl rfl rfl (q_bin rfl rfl rfl (fun _ _ => rfl)) (by exact hS) ?_
          refine wh_q 10 rfl (by kernel_rfl) rfl rfl rfl (q_assign rfl rfl) (by exact hS) ?_
          refine wh_keep (l' := [(0, Value.string s_0), (2, Value.pointer (some (blk h0.size))), (5, Value.string r22), (8, Value.int .i64 (IntKind.i64.wrap ((IntKind.i64.wrap (r23 + 1)) + 4))), (39, Value.bool (!((s_0.extract n39 n41).toList == r52.toList)))]) (keep_cons rfl (keep_cons rfl (keep_cons rfl (keep_cons rfl (keep_cons rfl keep_nil))))) (wh_done (by kernel_rfl) ?_)
          refine cw_cond rfl (fun hb53 => ?_) (fun hb53 => ?_)
          · have hD := ifT hb53 hD
            refine cw_seq ?_
            refine cw_region ?_
            refine wl_q rfl rfl rfl (q_build (v := Value.agg #[Value.int .i64 0, Value.string ByteArray.empty]) rfl rfl (fun _ _ => by kernel_rfl)) ?_
            obtain ⟨c55, hD⟩ := hD
            refine wl_e0 rfl rfl (e_stores (vs := [Value.int .i64 0, Value.string ByteArray.empty]) rfl rfl rfl sz_61 c55 ?_)
            intro hz54 e56
            have hD := hD hz54 e56
            refine wl_q rfl rfl rfl (q_assign rfl rfl) ?_
            refine wl_q rfl rfl rfl (q_assign rfl rfl) ?_
            refine wl_keep (l' := [(2, Value.pointer (some (blk h0.size))), (3, Value.int .i64 0), (4, Value.int .i64 10)]) (keep_cons rfl (keep_cons rfl (keep_cons rfl keep_nil))) (wl_nil ?_)
            refine cw_ret ?_
            obtain ⟨y57, y58, c59, hD⟩ := hD
            exact ⟨_, resx3 rfl (resv_cells (vs := [Value.int .i64 y57, Value.string y58]) rfl Go.Proofs.Tryz.underlying61 rfl sz_61 c59) (resv_tmp rfl) (resv_tmp rfl), _, _, _, _, rfl, hD⟩
          · have hD := ifF hb53 hD
            refine cw_skip ?_
            refine cw_seq ?_
            refine cw_region ?_
            refine wl_q rfl rfl rfl (q_move rfl rfl) ?_
            obtain ⟨c60, c61, hD⟩ := hD
            refine wl_q rfl rfl rfl (q_index_string rfl rfl rfl Go.Proofs.Tryz.underlying9 c60 c61) ?_
            refine wl_q rfl rfl rfl (q_conv_int rfl rfl Go.Proofs.Tryz.underlying5 Go.Proofs.Tryz.underlying3) ?_
            refine wl_q rfl rfl rfl (q_move rfl rfl) ?_
            refine wl_q rfl rfl rfl (q_build (v := Value.agg #[Value.int .i64 (IntKind.i64.wrap (bt s_0 0)), Value.string r22]) rfl rfl (fun _ _ => by kernel_rfl)) ?_
            refine wl_q rfl rfl rfl (q_move rfl rfl) ?_
            obtain ⟨c63, hD⟩ := hD
            refine wl_e0 rfl rfl (e_stores (vs := [Value.int .i64 (IntKind.i64.wrap (bt s_0 0)), Value.string r22]) rfl rfl rfl sz_61 c63 ?_)
            intro hz62 e64
            have hD := hD hz62 e64
            refine wl_q rfl rfl rfl (q_assign rfl rfl) ?_
            refine wl_q rfl rfl rfl (q_assign rfl rfl) ?_
            refine wl_keep (l' := [(2, Value.pointer (some (blk h0.size))), (3, Value.int .i64 (IntKind.i64.wrap ((IntKind.i64.wrap (r23 + 1)) + 4))), (4, Value.int .i64 0)]) (keep_cons rfl (keep_cons rfl (keep_cons rfl keep_nil))) (wl_nil ?_)
            refine cw_ret ?_
            obtain ⟨y65, y66, c67, hD⟩ := hD
            exact ⟨_, resx3 rfl (resv_cells (vs := [Value.int .i64 y65, Value.string y66]) rfl Go.Proofs.Tryz.underlying61 rfl sz_61 c67) (resv_tmp rfl) (resv_tmp rfl), _, _, _, _, rfl, hD⟩
end Go.Proofs.YtgdmjdacmebfjaaGreatDoor.D

namespace Go.Proofs.YtgdmjdacmebfjaaGreatDoor.D
open Go
set_option maxRecDepth 100000
theorem S_slices_IndexFunc_string_string {s_0 : Sl} {f_1 : Value} {h0 : Hp} {K : Int → Hp → Prop} (hD : D_slices_IndexFunc_string_string s_0 f_1 h0 K) : C_slices_IndexFunc_string_string s_0 f_1 h0 K := by
  unfold D_slices_IndexFunc_string_string at hD
  refine calls_cw (args := [Sl.v s_0, f_1]) Go.Proofs.Tryz.func38 rfl ?_
  show cw _ 19 _ [(0, Sl.v s_0), (1, f_1)] _ _ _ _
  refine cw_seq ?_
  refine cw_region ?_
  refine wl_q rfl rfl rfl (q_assign rfl rfl) ?_
  refine wl_keep (l' := [(0, Sl.v s_0), (1, f_1)]) (keep_cons rfl (keep_cons rfl keep_nil)) (wl_nil ?_)
  refine cw_seq ?_
  refine cw_seq ?_
  refine cw_region ?_
  refine wl_q rfl rfl rfl (q_move rfl rfl) ?_
  refine wl_q rfl rfl rfl (q_len_slice rfl rfl Go.Proofs.Tryz.underlying50 rfl) ?_
  refine wl_q rfl rfl rfl (q_move rfl rfl) ?_
  refine wl_keep (l' := [(0, Sl.v s_0), (1, f_1), (7, Value.int .i64 (s_0.len : Int)), (8, Value.int .i64 0)]) (keep_cons rfl (keep_cons rfl (keep_cons rfl (keep_cons rfl keep_nil)))) (wl_nil ?_)
  refine cw_block ?_
  obtain ⟨I, μ, hI19, hL20⟩ := hD
  refine cw_loops (σ := Int) (fun s => [(0, Sl.v s_0), (1, f_1), (7, Value.int .i64 (s_0.len : Int)), (8, Value.int .i64 s)]) (0) (fun s h => I s h) (fun s h => μ s h) (keep_cons rfl (keep_cons rfl (keep_cons rfl (keep_cons rfl keep_nil)))) hI19 ?_
  rintro x1 hz2 hI
  have hD := hL20 x1 hz2 hI
  obtain ⟨C3, hC3⟩ : ∃ c : Int → Hp → Prop, c = (fun x1' h' => I x1' h' ∧ μ x1' h' < μ x1 hz2) := ⟨_, rfl⟩
  rw [← hC3] at hD
  unfold D_slices_IndexFunc_string_string_l1 at hD
  show cw _ _ _ [(0, Sl.v s_0), (1, f_1), (7, Value.int .i64 (s_0.len : Int)), (8, Value.int .i64 x1)] _ _ _ _
  refine cw_seq ?_
  refine cw_region ?_
  refine wl_q rfl rfl rfl (q_bin rfl rfl rfl (fun _ _ => rfl)) ?_
  refine wl_keep (l' := [(0, Sl.v s_0), (1, f_1), (7, Value.int .i64 (s_0.len : Int)), (8, Value.int .i64 x1), (9, Value.bool (decide (x1 < (s_0.len : Int))))]) (keep_cons rfl (keep_cons rfl (keep_cons rfl (keep_cons rfl (keep_cons rfl keep_nil))))) (wl_nil ?_)
  refine cw_seq ?_
  refine cw_cond rfl (fun hb4 => ?_) (fun hb4 => ?_)
  · have hD := ifT hb4 hD
    refine cw_skip ?_
    refine cw_seq ?_
    refine cw_block ?_
    refine cw_seq ?_
    refine cw_region ?_
    refine wl_q rfl rfl rfl (q_move rfl rfl) ?_
    refine wl_q rfl rfl rfl (q_assign rfl rfl) ?_
    refine wl_keep (l' := [(0, Sl.v s_0), (1, f_1), (5, Value.int .i64 x1), (7, Value.int .i64 (s_0.len : Int)), (8, Value.int .i64 x1)]) (keep_cons rfl (keep_cons rfl (keep_cons rfl (keep_cons rfl (keep_cons rfl keep_nil))))) (wl_nil ?_)
    refine cw_seq ?_
    refine cw_region ?_
    refine wl_q rfl rfl rfl (q_move rfl rfl) ?_
    refine wl_q rfl rfl rfl (q_move rfl rfl) ?_
    refine wl_q rfl rfl rfl (q_move rfl rfl) ?_
    obtain ⟨a5, c6, c7, c8, hD⟩ := hD
    refine wl_q rfl rfl rfl (q_indexAddr rfl rfl rfl Go.Proofs.Tryz.underlying50 sz_9 c6 c7 c8) ?_
    obtain ⟨x9, c10, hD⟩ := hD
    refine wl_q rfl rfl rfl (q_load rfl rfl Go.Proofs.Tryz.underlying9 rfl (At.cell c10)) ?_
    obtain ⟨g14, fi15, ca16, c17, c18, hD⟩ := hD
    refine wl_e rfl rfl rfl (e_call (first := fi15) (vs := [Value.string x9]) (cap := ca16) rfl (by rw [← c17]; rfl) rfl c18 (CallsH.mono hD ?_))
    rintro _ hz11 ⟨r12, rfl, hD⟩
    refine wl_keep (l' := [(0, Sl.v s_0), (1, f_1), (5, Value.int .i64 x1), (7, Value.int .i64 (s_0.len : Int)), (8, Value.int .i64 x1), (16, Value.bool r12)]) (keep_cons rfl (keep_cons rfl (keep_cons rfl (keep_cons rfl (keep_cons rfl (keep_cons rfl keep_nil)))))) (wl_nil ?_)
    refine cw_cond rfl (fun hb13 => ?_) (fun hb13 => ?_)
    · have hD := ifT hb13 hD
      refine cw_seq ?_
      refine cw_region ?_
      refine wl_q rfl rfl rfl (q_move rfl rfl) ?_
      refine wl_q rfl rfl rfl (q_assign rfl rfl) ?_
      refine wl_keep (l' := [(4, Value.int .i64 x1)]) (keep_cons rfl keep_nil) (wl_nil ?_)
      refine cw_ret ?_
      exact ⟨_, resq1 rfl rfl, _, rfl, hD⟩
    · have hD := ifF hb13 hD
      refine cw_skip ?_
      refine cw_region ?_
      refine wl_q rfl rfl rfl (q_bin rfl rfl rfl (fun _ _ => rfl)) ?_
      refine wl_q rfl rfl rfl (q_move rfl rfl) ?_
      refine wl_keep (l' := [(0, Sl.v s_0), (1, f_1), (7, Value.int .i64 (s_0.len : Int)), (8, Value.int .i64 (IntKind.i64.wrap (x1 + 1)))]) (keep_cons rfl (keep_cons rfl (keep_cons rfl (keep_cons rfl keep_nil)))) (wl_nil ?_)
      rw [hC3] at hD
      exact ⟨(IntKind.i64.wrap (x1 + 1)), (keep_cons rfl (keep_cons rfl (keep_cons rfl (keep_cons rfl keep_nil)))), hD⟩
  · have hD := ifF hb4 hD
    refine cw_exit ?_
    refine xput_same ?_
    refine cw_seq ?_
    refine cw_region ?_
    refine wl_q rfl rfl rfl (q_assign rfl rfl) ?_
    refine wl_keep (l' := [(4, Value.int .i64 (-1))]) (keep_cons rfl keep_nil) (wl_nil ?_)
    refine cw_ret ?_
    exact ⟨_, resq1 rfl rfl, _, rfl, hD⟩
end Go.Proofs.YtgdmjdacmebfjaaGreatDoor.D

namespace Go.Proofs.YtgdmjdacmebfjaaGreatDoor.D
open Go
set_option maxRecDepth 100000
theorem S_digits_Text {s_0 : ByteArray} {h0 : Hp} {K : ByteArray → Hp → Prop} (hD : D_digits_Text s_0 h0 K) : C_digits_Text s_0 h0 K := by
  unfold D_digits_Text at hD
  refine calls_cw (args := [Value.string s_0]) Go.Proofs.Tryz.func39 rfl ?_
  show cw _ 9 _ [(0, Value.string s_0)] _ _ _ _
  refine cw_seq ?_
  refine cw_region ?_
  refine wl_q rfl rfl rfl (q_assign rfl rfl) ?_
  refine wl_keep (l' := [(0, Value.string s_0)]) (keep_cons rfl keep_nil) (wl_nil ?_)
  refine cw_seq ?_
  refine cw_region ?_
  refine wl_q rfl rfl rfl (q_move rfl rfl) ?_
  refine wl_q rfl rfl rfl (q_len_string rfl rfl Go.Proofs.Tryz.underlying9 rfl) ?_
  refine wl_q rfl rfl rfl (q_conv_int rfl rfl Go.Proofs.Tryz.underlying3 Go.Proofs.Tryz.underlying24) ?_
  refine wl_e rfl rfl rfl (e_call (first := []) (vs := [Value.int .u64 (IntKind.u64.wrap (s_0.size : Int))]) (cap := []) rfl rfl rfl cf_58 (CallsH.mono hD ?_))
  rintro _ hz1 ⟨r2, rfl, hD⟩
  refine wl_q rfl rfl rfl (q_move rfl rfl) ?_
  obtain ⟨c3, hD⟩ := hD
  refine wl_q rfl rfl rfl (q_cat rfl rfl rfl c3) ?_
  refine wl_q rfl rfl rfl (q_assign rfl rfl) ?_
  refine wl_keep (l' := [(2, Value.string (r2 ++ s_0))]) (keep_cons rfl keep_nil) (wl_nil ?_)
  refine cw_ret ?_
  exact ⟨_, resq1 rfl rfl, _, rfl, hD⟩
end Go.Proofs.YtgdmjdacmebfjaaGreatDoor.D

namespace Go.Proofs.YtgdmjdacmebfjaaGreatDoor.D
open Go
set_option maxRecDepth 100000
theorem S_sum_Bytes {c_0 : Int} {h0 : Hp} {K : ByteArray → Hp → Prop} (hD : D_sum_Bytes c_0 h0 K) : C_sum_Bytes c_0 h0 K := by
  unfold D_sum_Bytes at hD
  refine calls_cw (args := [Value.int .u32 c_0]) Go.Proofs.Tryz.func40 rfl ?_
  show cw _ 16 _ [(0, Value.int .u32 c_0)] _ _ _ _
  refine cw_seq ?_
  refine cw_region ?_
  refine wl_q rfl rfl rfl (q_assign rfl rfl) ?_
  refine wl_keep (l' := [(0, Value.int .u32 c_0)]) (keep_cons rfl keep_nil) (wl_nil ?_)
  refine cw_seq ?_
  refine cw_region ?_
  refine wl_q rfl rfl rfl (q_move rfl rfl) ?_
  refine wl_q rfl rfl rfl (q_shr rfl rfl rfl (by decide)) ?_
  refine wl_q rfl rfl rfl (q_conv_int rfl rfl Go.Proofs.Tryz.underlying83 Go.Proofs.Tryz.underlying5) ?_
  refine wl_q rfl rfl rfl (q_move rfl rfl) ?_
  refine wl_q rfl rfl rfl (q_shr rfl rfl rfl (by decide)) ?_
  refine wl_q rfl rfl rfl (q_conv_int rfl rfl Go.Proofs.Tryz.underlying83 Go.Proofs.Tryz.underlying5) ?_
  refine wl_q rfl rfl rfl (q_move rfl rfl) ?_
  refine wl_q rfl rfl rfl (q_shr rfl rfl rfl (by decide)) ?_
  refine wl_q rfl rfl rfl (q_conv_int rfl rfl Go.Proofs.Tryz.underlying83 Go.Proofs.Tryz.underlying5) ?_
  refine wl_q rfl rfl rfl (q_move rfl rfl) ?_
  refine wl_q rfl rfl rfl (q_conv_int rfl rfl Go.Proofs.Tryz.underlying83 Go.Proofs.Tryz.underlying5) ?_
  refine wl_e rfl rfl rfl (e_buildSlice (cs := #[Value.int .u8 (IntKind.u8.wrap (Int.fdiv c_0 (2 ^ (min (Int.toNat 24) 32)))), Value.int .u8 (IntKind.u8.wrap (Int.fdiv c_0 (2 ^ (min (Int.toNat 16) 32)))), Value.int .u8 (IntKind.u8.wrap (Int.fdiv c_0 (2 ^ (min (Int.toNat 8) 32)))), Value.int .u8 (IntKind.u8.wrap c_0)]) rfl rfl Go.Proofs.Tryz.underlying33 sz_5 zr_5 (by decide) (by kernel_rfl) ?_)
  intro hz1 e2
  have hD := hD hz1 e2
  obtain ⟨x3, c4, hD⟩ := hD
  refine wl_q rfl rfl rfl (q_conv_b rfl rfl Go.Proofs.Tryz.underlying33 Go.Proofs.Tryz.underlying9 Go.Proofs.Tryz.underlying5 (At.bytes c4)) ?_
  refine wl_q rfl rfl rfl (q_assign rfl rfl) ?_
  refine wl_keep (l' := [(2, Value.string x3)]) (keep_cons rfl keep_nil) (wl_nil ?_)
  refine cw_ret ?_
  exact ⟨_, resq1 rfl rfl, _, rfl, hD⟩
end Go.Proofs.YtgdmjdacmebfjaaGreatDoor.D

namespace Go.Proofs.YtgdmjdacmebfjaaGreatDoor.D
open Go
set_option maxRecDepth 100000
theorem S_sum_Of {s_0 : ByteArray} {h0 : Hp} {K : Int → Hp → Prop} (hD : D_sum_Of s_0 h0 K) : C_sum_Of s_0 h0 K := by
  unfold D_sum_Of at hD
  refine calls_cw (args := [Value.string s_0]) Go.Proofs.Tryz.func41 rfl ?_
  show cw _ 5 _ [(0, Value.string s_0)] _ _ _ _
  refine cw_seq ?_
  refine cw_region ?_
  refine wl_q rfl rfl rfl (q_assign rfl rfl) ?_
  refine wl_keep (l' := [(0, Value.string s_0)]) (keep_cons rfl keep_nil) (wl_nil ?_)
  refine cw_seq ?_
  refine cw_region ?_
  refine wl_q rfl rfl rfl (q_move rfl rfl) ?_
  refine wl_e rfl rfl rfl (e_call (first := []) (vs := [Value.int .u32 0, Value.string s_0]) (cap := []) rfl rfl rfl cf_59 (CallsH.mono hD ?_))
  rintro _ hz1 ⟨r2, rfl, hD⟩
  refine wl_q rfl rfl rfl (q_assign rfl rfl) ?_
  refine wl_keep (l' := [(2, Value.int .u32 r2)]) (keep_cons rfl keep_nil) (wl_nil ?_)
  refine cw_ret ?_
  exact ⟨_, resq1 rfl rfl, _, rfl, hD⟩
end Go.Proofs.YtgdmjdacmebfjaaGreatDoor.D

namespace Go.Proofs.YtgdmjdacmebfjaaGreatDoor.D
open Go
set_option maxRecDepth 100000
theorem S_disk_Disk_write {d_0 : Option Addr} {h0 : Hp} {K : Bool → Hp → Prop} (hD : D_disk_Disk_write d_0 h0 K) : C_disk_Disk_write d_0 h0 K := by
  unfold D_disk_Disk_write at hD
  refine calls_cw (args := [Value.pointer d_0]) Go.Proofs.Tryz.func42 rfl ?_
  show cw _ 24 _ [(0, Value.pointer d_0)] _ _ _ _
  refine cw_seq ?_
  refine cw_region ?_
  refine wl_q rfl rfl rfl (q_assign rfl rfl) ?_
  refine wl_keep (l' := [(0, Value.pointer d_0)]) (keep_cons rfl keep_nil) (wl_nil ?_)
  refine cw_cut (fun l h => Keep l [(0, Value.pointer d_0)] ∧ D_disk_Disk_write_j1 d_0 K h) ?_ ?_
  · refine cw_seq ?_
    refine cw_region ?_
    refine wl_q rfl rfl rfl (q_move rfl rfl) ?_
    obtain ⟨a14, c15, hD⟩ := hD
    refine wl_q rfl rfl rfl (q_nil rfl rfl c15) ?_
    refine wl_q rfl rfl rfl (q_fieldAddr rfl rfl fo_45_5) ?_
    obtain ⟨x16, c17, hD⟩ := hD
    refine wl_q rfl rfl rfl (q_load rfl rfl Go.Proofs.Tryz.underlying3 rfl (At.cell c17)) ?_
    refine wl_q rfl rfl rfl (q_bin rfl rfl rfl (fun _ _ => rfl)) ?_
    refine wl_keep (l' := [(0, Value.pointer d_0), (7, Value.bool (x16 == (0 : Int)))]) (keep_cons rfl (keep_cons rfl keep_nil)) (wl_nil ?_)
    refine cw_cond rfl (fun hb18 => ?_) (fun hb18 => ?_)
    · have hD := ifT hb18 hD
      refine cw_region ?_
      refine wl_q rfl rfl rfl (q_move rfl rfl) ?_
      refine wl_q rfl rfl rfl (q_nil rfl rfl c15) ?_
      refine wl_q rfl rfl rfl (q_fieldAddr rfl rfl fo_45_4) ?_
      obtain ⟨u20, c21, c22, hD⟩ := hD
      refine wl_e0 rfl rfl (e_store rfl rfl rfl sz_4 trivial c21 c22 ?_)
      intro hz19 e23
      have hD := hD hz19 e23
      refine wl_keep (l' := [(0, Value.pointer d_0)]) (keep_cons rfl keep_nil) (wl_nil ?_)
      exact ⟨(keep_cons rfl keep_nil), hD⟩
    · have hD := ifF hb18 hD
      refine cw_skip ?_
      exact ⟨(keep_cons rfl keep_nil), hD⟩
  · rintro l25 hz1 ⟨hk24, hD⟩
    refine cw_keep hk24 ?_
    unfold D_disk_Disk_write_j1 at hD
    refine cw_seq ?_
    refine cw_seq ?_
    refine cw_region ?_
    refine wl_q rfl rfl rfl (q_move rfl rfl) ?_
    obtain ⟨a2, c3, hD⟩ := hD
    refine wl_q rfl rfl rfl (q_nil rfl rfl c3) ?_
    refine wl_q rfl rfl rfl (q_fieldAddr rfl rfl fo_45_4) ?_
    obtain ⟨x4, c5, hD⟩ := hD
    refine wl_q rfl rfl rfl (q_load rfl rfl Go.Proofs.Tryz.underlying4 rfl (At.cell c5)) ?_
    refine wl_keep (l' := [(0, Value.pointer d_0), (14, Value.bool x4)]) (keep_cons rfl (keep_cons rfl keep_nil)) (wl_nil ?_)
    refine cw_cond rfl (fun hb6 => ?_) (fun hb6 => ?_)
    · have hD := ifT hb6 hD
      refine cw_seq ?_
      refine cw_region ?_
      refine wl_q rfl rfl rfl (q_assign rfl rfl) ?_
      refine wl_keep (l' := [(2, Value.bool false)]) (keep_cons rfl keep_nil) (wl_nil ?_)
      refine cw_ret ?_
      exact ⟨_, resq1 rfl rfl, _, rfl, hD⟩
    · have hD := ifF hb6 hD
      refine cw_skip ?_
      refine cw_seq ?_
      refine cw_region ?_
      refine wl_q rfl rfl rfl (q_move rfl rfl) ?_
      refine wl_q rfl rfl rfl (q_move rfl rfl) ?_
      refine wl_q rfl rfl rfl (q_nil rfl rfl c3) ?_
      refine wl_q rfl rfl rfl (q_fieldAddr rfl rfl fo_45_5) ?_
      obtain ⟨x7, c8, hD⟩ := hD
      refine wl_q rfl rfl rfl (q_load rfl rfl Go.Proofs.Tryz.underlying3 rfl (At.cell c8)) ?_
      refine wl_q rfl rfl rfl (q_bin rfl rfl rfl (fun _ _ => rfl)) ?_
      refine wl_q rfl rfl rfl (q_max rfl rfl rfl rfl) ?_
      refine wl_q rfl rfl rfl (q_nil rfl rfl c3) ?_
      refine wl_q rfl rfl rfl (q_fieldAddr rfl rfl fo_45_5) ?_
      obtain ⟨u10, c11, c12, hD⟩ := hD
      refine wl_e0 rfl rfl (e_store rfl rfl rfl sz_3 trivial c11 c12 ?_)
      intro hz9 e13
      have hD := hD hz9 e13
      refine wl_keep (l' := []) keep_nil (wl_nil ?_)
      refine cw_seq ?_
      refine cw_region ?_
      refine wl_q rfl rfl rfl (q_assign rfl rfl) ?_
      refine wl_keep (l' := [(2, Value.bool true)]) (keep_cons rfl keep_nil) (wl_nil ?_)
      refine cw_ret ?_
      exact ⟨_, resq1 rfl rfl, _, rfl, hD⟩
end Go.Proofs.YtgdmjdacmebfjaaGreatDoor.D

namespace Go.Proofs.YtgdmjdacmebfjaaGreatDoor.D
open Go
set_option maxRecDepth 100000
theorem S_disk_right {name_0 : ByteArray} {h0 : Hp} {K : Bool → Hp → Prop} (hD : D_disk_right name_0 h0 K) : C_disk_right name_0 h0 K := by
  unfold D_disk_right at hD
  refine calls_cw (args := [Value.string name_0]) Go.Proofs.Tryz.func43 rfl ?_
  show cw _ 15 _ [(0, Value.string name_0)] _ _ _ _
  refine cw_seq ?_
  refine cw_region ?_
  refine wl_q rfl rfl rfl (q_assign rfl rfl) ?_
  refine wl_keep (l' := [(0, Value.string name_0)]) (keep_cons rfl keep_nil) (wl_nil ?_)
  refine cw_cut (fun l h => ∃ (x1 : Bool), Keep l [(2, Value.bool x1)] ∧ D_disk_right_j1 K x1 h) ?_ ?_
  · refine cw_region ?_
    refine wl_q rfl rfl rfl (q_move rfl rfl) ?_
    refine wl_q rfl rfl rfl (q_bin rfl rfl rfl (fun _ _ => rfl)) ?_
    refine wl_q rfl rfl rfl (q_move rfl rfl) ?_
    rcases bool_or (!(name_0.toList == (ByteArray.mk #[]).toList)) with hb3 | hb3
    · have hD := ifT hb3 hD
      refine wl_gq rfl rfl rfl hb3 rfl rfl (q_move rfl rfl) ?_
      refine wl_gq rfl rfl rfl hb3 rfl rfl (q_len_string rfl rfl Go.Proofs.Tryz.underlying9 rfl) ?_
      refine wl_gq rfl rfl rfl hb3 rfl rfl (q_bin rfl rfl rfl (fun _ _ => rfl)) ?_
      refine wl_q rfl rfl rfl (q_pickT rfl rfl hb3 rfl) ?_
      refine wl_q rfl rfl rfl (q_move rfl rfl) ?_
      rcases bool_or (decide ((name_0.size : Int) ≤ (32 : Int))) with hb4 | hb4
      · have hD := ifT hb4 hD
        refine wl_gq rfl rfl rfl hb4 rfl rfl (q_move rfl rfl) ?_
        refine wl_ge rfl rfl rfl hb4 rfl rfl (e_call (first := []) (vs := [Value.string name_0, Value.string (ByteArray.mk #[97, 98, 99, 100, 101, 102, 103, 104, 105, 106, 107, 108, 109, 110, 111, 112, 113, 114, 115, 116, 117, 118, 119, 120, 121, 122, 48, 49, 50, 51, 52, 53, 54, 55, 56, 57, 46, 45])]) (cap := []) rfl rfl rfl cf_60 (CallsH.mono hD ?_))
        rintro _ hz5 ⟨r6, rfl, hD⟩
        refine wl_gq rfl rfl rfl hb4 rfl rfl (q_bin rfl rfl rfl (fun _ _ => rfl)) ?_
        refine wl_q rfl rfl rfl (q_pickT rfl rfl hb4 rfl) ?_
        refine wl_q rfl rfl rfl (q_assign rfl rfl) ?_
        refine wl_keep (l' := [(2, Value.bool (r6.toList == (ByteArray.mk #[]).toList))]) (keep_cons rfl keep_nil) (wl_nil ?_)
        exact ⟨_, (keep_cons rfl keep_nil), hD⟩
      · have hD := ifF hb4 hD
        refine wl_gn rfl rfl rfl hb4 rfl rfl ?_
        refine wl_gn rfl rfl rfl hb4 rfl rfl ?_
        refine wl_gn rfl rfl rfl hb4 rfl rfl ?_
        refine wl_q rfl rfl rfl (q_pickF rfl rfl hb4 rfl) ?_
        refine wl_q rfl rfl rfl (q_assign rfl rfl) ?_
        refine wl_keep (l' := [(2, Value.bool false)]) (keep_cons rfl keep_nil) (wl_nil ?_)
        exact ⟨_, (keep_cons rfl keep_nil), hD⟩
    · have hD := ifF hb3 hD
      refine wl_gn rfl rfl rfl hb3 rfl rfl ?_
      refine wl_gn rfl rfl rfl hb3 rfl rfl ?_
      refine wl_gn rfl rfl rfl hb3 rfl rfl ?_
      refine wl_q rfl rfl rfl (q_pickF rfl rfl hb3 rfl) ?_
      refine wl_q rfl rfl rfl (q_move rfl rfl) ?_
      refine wl_gn rfl rfl rfl rfl rfl rfl ?_
      refine wl_gn rfl rfl rfl rfl rfl rfl ?_
      refine wl_gn rfl rfl rfl rfl rfl rfl ?_
      refine wl_q rfl rfl rfl (q_pickF rfl rfl rfl rfl) ?_
      refine wl_q rfl rfl rfl (q_assign rfl rfl) ?_
      refine wl_keep (l' := [(2, Value.bool false)]) (keep_cons rfl keep_nil) (wl_nil ?_)
      exact ⟨_, (keep_cons rfl keep_nil), hD⟩
  · rintro l8 hz2 ⟨x1, hk7, hD⟩
    refine cw_keep hk7 ?_
    unfold D_disk_right_j1 at hD
    refine cw_ret ?_
    exact ⟨_, resq1 rfl rfl, _, rfl, hD⟩
end Go.Proofs.YtgdmjdacmebfjaaGreatDoor.D

namespace Go.Proofs.YtgdmjdacmebfjaaGreatDoor.D
open Go
set_option maxRecDepth 100000
theorem S_disk_Disk_Used {d_0 : Option Addr} {h0 : Hp} {K : Int → Hp → Prop} (hD : D_disk_Disk_Used d_0 h0 K) : C_disk_Disk_Used d_0 h0 K := by
  unfold D_disk_Disk_Used at hD
  refine calls_cw (args := [Value.pointer d_0]) Go.Proofs.Tryz.func44 rfl ?_
  show cw _ 23 _ [(0, Value.pointer d_0)] _ _ _ _
  refine cw_seq ?_
  refine cw_region ?_
  refine wl_q rfl rfl rfl (q_assign rfl rfl) ?_
  refine wl_keep (l' := [(0, Value.pointer d_0)]) (keep_cons rfl keep_nil) (wl_nil ?_)
  refine cw_seq ?_
  refine cw_region ?_
  refine wl_q rfl rfl rfl (q_assign rfl rfl) ?_
  refine wl_keep (l' := [(0, Value.pointer d_0), (3, Value.int .i64 0)]) (keep_cons rfl (keep_cons rfl keep_nil)) (wl_nil ?_)
  refine cw_seq ?_
  refine cw_seq ?_
  refine cw_region ?_
  refine wl_q rfl rfl rfl (q_move rfl rfl) ?_
  obtain ⟨a1, c2, hD⟩ := hD
  refine wl_q rfl rfl rfl (q_nil rfl rfl c2) ?_
  refine wl_q rfl rfl rfl (q_fieldAddr rfl rfl fo_45_1) ?_
  obtain ⟨x3, c4, hD⟩ := hD
  refine wl_q rfl rfl rfl (q_load rfl rfl Go.Proofs.Tryz.underlying42 rfl (At.cell c4)) ?_
  obtain ⟨r6, es7, clk8, c9, c10, hD⟩ := hD
  refine wl_e rfl rfl rfl (e_range_map rfl (by rw [← c9]; rfl) Go.Proofs.Tryz.underlying42 c10 ?_)
  intro hz5 e11
  have hD := hD hz5 e11
  refine wl_keep (l' := [(3, Value.int .i64 0), (10, Value.pointer (some (blk h0.size)))]) (keep_cons rfl (keep_cons rfl keep_nil)) (wl_nil ?_)
  refine cw_block ?_
  obtain ⟨I, μ, hI36, hL37⟩ := hD
  refine cw_loops (σ := Int) (fun s => [(3, Value.int .i64 s), (10, Value.pointer (some (blk h0.size)))]) (0) (fun s h => I s h) (fun s h => μ s h) (keep_cons rfl (keep_cons rfl keep_nil)) hI36 ?_
  rintro n12 hz13 hI
  have hD := hL37 n12 hz13 hI
  obtain ⟨C14, hC14⟩ : ∃ c : Int → Hp → Prop, c = (fun n12' h' => I n12' h' ∧ μ n12' h' < μ n12 hz13) := ⟨_, rfl⟩
  rw [← hC14] at hD
  unfold D_disk_Disk_Used_l1 at hD
  show cw _ _ _ [(3, Value.int .i64 n12), (10, Value.pointer (some (blk h0.size)))] _ _ _ _
  refine cw_seq ?_
  refine cw_region ?_
  obtain ⟨m16, clk17, seen18, es19, c21, c22, c23, hD1, hD2⟩ := hD
  refine wl_e rfl rfl rfl (e_next rfl rfl c21 c22 c23 ?_ ?_)
  · intro e20 c24 c25 hz15 e26
    have hD := hD1 e20 c24 c25 hz15 e26
    refine wl_q rfl rfl rfl (q_extract rfl rfl rfl) ?_
    refine wl_keep (l' := [(3, Value.int .i64 n12), (10, Value.pointer (some (blk h0.size))), (12, Value.bool true)]) (keep_cons rfl (keep_cons rfl (keep_cons rfl keep_nil))) (wl_nil ?_)
    refine cw_seq ?_
    refine cw_condT rfl rfl ?_
    refine cw_skip ?_
    refine cw_block ?_
    refine cw_seq ?_
    refine cw_region ?_
    obtain ⟨c27, c28, c29, hD⟩ := hD
    refine wl_q rfl rfl rfl (q_entry rfl rfl (At.obj c27) (At.obj c28) c29) ?_
    obtain ⟨x30, c31, hD⟩ := hD
    refine wl_q rfl rfl rfl (q_extract rfl rfl (congrArg some c31)) ?_
    refine wl_q rfl rfl rfl (q_assign rfl rfl) ?_
    refine wl_keep (l' := [(3, Value.int .i64 n12), (5, Value.pointer x30), (10, Value.pointer (some (blk h0.size)))]) (keep_cons rfl (keep_cons rfl (keep_cons rfl keep_nil))) (wl_nil ?_)
    refine cw_region ?_
    refine wl_q rfl rfl rfl (q_move rfl rfl) ?_
    refine wl_q rfl rfl rfl (q_move rfl rfl) ?_
    obtain ⟨a32, c33, hD⟩ := hD
    refine wl_q rfl rfl rfl (q_nil rfl rfl c33) ?_
    refine wl_q rfl rfl rfl (q_fieldAddr rfl rfl fo_76_0) ?_
    obtain ⟨x34, c35, hD⟩ := hD
    refine wl_q rfl rfl rfl (q_load rfl rfl Go.Proofs.Tryz.underlying9 rfl (At.cell c35)) ?_
    refine wl_q rfl rfl rfl (q_len_string rfl rfl Go.Proofs.Tryz.underlying9 rfl) ?_
    refine wl_q rfl rfl rfl (q_bin rfl rfl rfl (fun _ _ => rfl)) ?_
    refine wl_q rfl rfl rfl (q_assign rfl rfl) ?_
    refine wl_keep (l' := [(3, Value.int .i64 (IntKind.i64.wrap (n12 + (x34.size : Int)))), (10, Value.pointer (some (blk h0.size)))]) (keep_cons rfl (keep_cons rfl keep_nil)) (wl_nil ?_)
    rw [hC14] at hD
    exact ⟨(IntKind.i64.wrap (n12 + (x34.size : Int))), (keep_cons rfl (keep_cons rfl keep_nil)), hD⟩
  · intro c24
    have hD := hD2 c24
    refine wl_q rfl rfl rfl (q_extract rfl rfl rfl) ?_
    refine wl_keep (l' := [(3, Value.int .i64 n12), (10, Value.pointer (some (blk h0.size))), (12, Value.bool false)]) (keep_cons rfl (keep_cons rfl (keep_cons rfl keep_nil))) (wl_nil ?_)
    refine cw_seq ?_
    refine cw_condF rfl rfl ?_
    refine cw_exit ?_
    refine xput_same ?_
    refine cw_seq ?_
    refine cw_region ?_
    refine wl_q rfl rfl rfl (q_move rfl rfl) ?_
    refine wl_q rfl rfl rfl (q_assign rfl rfl) ?_
    refine wl_keep (l' := [(2, Value.int .i64 n12)]) (keep_cons rfl keep_nil) (wl_nil ?_)
    refine cw_ret ?_
    exact ⟨_, resq1 rfl rfl, _, rfl, hD⟩
end Go.Proofs.YtgdmjdacmebfjaaGreatDoor.D

namespace Go.Proofs.YtgdmjdacmebfjaaGreatDoor.D
open Go
set_option maxRecDepth 100000
theorem S_disk_Disk_change {d_0 : Option Addr} {c_1 : Value} {h0 : Hp} {K : Hp → Prop} (hD : D_disk_Disk_change d_0 c_1 h0 K) : C_disk_Disk_change d_0 c_1 h0 K := by
  unfold D_disk_Disk_change at hD
  refine calls_cw (args := [Value.pointer d_0, c_1]) Go.Proofs.Tryz.func45 rfl ?_
  show cw _ 20 _ [(0, Value.pointer d_0), (1, c_1)] _ _ _ _
  refine cw_seq ?_
  refine cw_region ?_
  refine wl_q rfl rfl rfl (q_move rfl rfl) ?_
  refine wl_q rfl rfl rfl (q_move rfl rfl) ?_
  obtain ⟨a1, c2, hD⟩ := hD
  refine wl_q rfl rfl rfl (q_nil rfl rfl c2) ?_
  refine wl_q rfl rfl rfl (q_fieldAddr rfl rfl fo_45_1) ?_
  obtain ⟨x3, c4, hD⟩ := hD
  refine wl_q rfl rfl rfl (q_load rfl rfl Go.Proofs.Tryz.underlying42 rfl (At.cell c4)) ?_
  obtain ⟨g18, fi19, ca20, c21, c22, hD⟩ := hD
  refine wl_e rfl rfl rfl (e_call (first := fi19) (vs := [Value.map x3]) (cap := ca20) rfl (by rw [← c21]; rfl) rfl c22 (CallsH.mono hD ?_))
  rintro _ hz5 ⟨rfl, hD⟩
  refine wl_keep (l' := [(0, Value.pointer d_0), (1, c_1)]) (keep_cons rfl (keep_cons rfl keep_nil)) (wl_nil ?_)
  refine cw_region ?_
  refine wl_q rfl rfl rfl (q_move rfl rfl) ?_
  refine wl_q rfl rfl rfl (q_move rfl rfl) ?_
  refine wl_q rfl rfl rfl (q_nil rfl rfl c2) ?_
  refine wl_q rfl rfl rfl (q_fieldAddr rfl rfl fo_45_3) ?_
  obtain ⟨x6, c7, hD⟩ := hD
  refine wl_q rfl rfl rfl (q_load rfl rfl Go.Proofs.Tryz.underlying43 rfl (At.cell c7)) ?_
  refine wl_q rfl rfl rfl (q_move rfl rfl) ?_
  obtain ⟨c9, hD⟩ := hD
  refine wl_e rfl rfl rfl (e_buildSlice (cs := #[c_1]) rfl rfl Go.Proofs.Tryz.underlying43 sz_69 zr_69 (by decide) (fill_one c9) ?_)
  intro hz8 e10
  have hD := hD hz8 e10
  refine wl_e rfl rfl rfl (e_append (s := x6) (news := [c_1]) rfl rfl rfl rfl Go.Proofs.Tryz.underlying43 Go.Proofs.Tryz.underlying43 sz_69 by_69 zr_69 rfl (srcAt_new e10) (apd_mono hD ?_))
  intro s12 hz11 hD
  refine wl_q rfl rfl rfl (q_nil rfl rfl c2) ?_
  refine wl_q rfl rfl rfl (q_fieldAddr rfl rfl fo_45_3) ?_
  obtain ⟨u14, c15, c16, hD⟩ := hD
  refine wl_e0 rfl rfl (e_store rfl rfl rfl sz_43 trivial c15 c16 ?_)
  intro hz13 e17
  have hD := hD hz13 e17
  refine wl_keep (l' := []) keep_nil (wl_nil ?_)
  exact ⟨_, resq0 rfl, rfl, hD⟩
end Go.Proofs.YtgdmjdacmebfjaaGreatDoor.D

namespace Go.Proofs.YtgdmjdacmebfjaaGreatDoor.D
open Go
set_option maxRecDepth 100000
theorem S_disk_Disk_Append_1 {n_0 : Option Nat} {q1 : Addr} {q2 : Addr} {h0 : Hp} {K : Hp → Prop} (hD : D_disk_Disk_Append_1 n_0 q1 q2 h0 K) : C_disk_Disk_Append_1 n_0 q1 q2 h0 K := by
  unfold D_disk_Disk_Append_1 at hD
  refine calls_cw (args := [Value.map n_0, Value.pointer (some q1), Value.pointer (some q2)]) Go.Proofs.Tryz.func46 rfl ?_
  show cw _ 7 _ [(0, Value.map n_0), (1, Value.pointer (some q1)), (2, Value.pointer (some q2))] _ _ _ _
  refine cw_region ?_
  refine wl_q rfl rfl rfl (q_move rfl rfl) ?_
  obtain ⟨x1, c2, hD⟩ := hD
  refine wl_q rfl rfl rfl (q_load rfl rfl Go.Proofs.Tryz.underlying9 rfl (At.cell c2)) ?_
  obtain ⟨x3, c4, hD⟩ := hD
  refine wl_q rfl rfl rfl (q_load rfl rfl Go.Proofs.Tryz.underlying74 rfl (At.cell c4)) ?_
  obtain ⟨r6, es7, clk8, c9, c10, c11, hD⟩ := hD
  refine wl_e0 rfl rfl (e_mapUpdate rfl (by rw [← c9]; rfl) rfl rfl Go.Proofs.Tryz.underlying42 Go.Proofs.Tryz.underlying9 c10 c11 ?_)
  intro hz5 e12
  have hD := hD hz5 e12
  refine wl_keep (l' := []) keep_nil (wl_nil ?_)
  exact ⟨_, resq0 rfl, rfl, hD⟩
end Go.Proofs.YtgdmjdacmebfjaaGreatDoor.D

namespace Go.Proofs.YtgdmjdacmebfjaaGreatDoor.D
open Go
set_option maxRecDepth 100000
theorem S_disk_Disk_find {d_0 : Option Addr} {name_1 : ByteArray} {h0 : Hp} {K : Option Addr → Int → Hp → Prop} (hD : D_disk_Disk_find d_0 name_1 h0 K) : C_disk_Disk_find d_0 name_1 h0 K := by
  unfold D_disk_Disk_find at hD
  refine calls_cw (args := [Value.pointer d_0, Value.string name_1]) Go.Proofs.Tryz.func47 rfl ?_
  show cw _ 19 _ [(0, Value.pointer d_0), (1, Value.string name_1)] _ _ _ _
  refine cw_seq ?_
  refine cw_region ?_
  refine wl_q rfl rfl rfl (q_assign rfl rfl) ?_
  refine wl_q rfl rfl rfl (q_assign rfl rfl) ?_
  refine wl_keep (l' := [(0, Value.pointer d_0), (1, Value.string name_1)]) (keep_cons rfl (keep_cons rfl keep_nil)) (wl_nil ?_)
  refine cw_seq ?_
  refine cw_seq ?_
  refine cw_region ?_
  refine wl_q rfl rfl rfl (q_move rfl rfl) ?_
  refine wl_e rfl rfl rfl (e_call (first := []) (vs := [Value.pointer d_0]) (cap := []) rfl rfl rfl cf_42 (CallsH.mono hD ?_))
  rintro _ hz1 ⟨r2, rfl, hD⟩
  refine wl_q rfl rfl rfl (q_un rfl rfl (fun _ => rfl)) ?_
  refine wl_keep (l' := [(0, Value.pointer d_0), (1, Value.string name_1), (9, Value.bool (!r2))]) (keep_cons rfl (keep_cons rfl (keep_cons rfl keep_nil))) (wl_nil ?_)
  refine cw_cond rfl (fun hb3 => ?_) (fun hb3 => ?_)
  · have hD := ifT hb3 hD
    refine cw_seq ?_
    refine cw_region ?_
    refine wl_q rfl rfl rfl (q_assign rfl rfl) ?_
    refine wl_q rfl rfl rfl (q_assign rfl rfl) ?_
    refine wl_keep (l' := [(4, Value.pointer none), (5, Value.int .i64 11)]) (keep_cons rfl (keep_cons rfl keep_nil)) (wl_nil ?_)
    refine cw_ret ?_
    exact ⟨_, resq2 rfl rfl rfl, _, _, rfl, hD⟩
  · have hD := ifF hb3 hD
    refine cw_skip ?_
    refine cw_seq ?_
    refine cw_region ?_
    refine wl_q rfl rfl rfl (q_move rfl rfl) ?_
    obtain ⟨a4, c5, hD⟩ := hD
    refine wl_q rfl rfl rfl (q_nil rfl rfl c5) ?_
    refine wl_q rfl rfl rfl (q_fieldAddr rfl rfl fo_45_1) ?_
    obtain ⟨x6, c7, hD⟩ := hD
    refine wl_q rfl rfl rfl (q_load rfl rfl Go.Proofs.Tryz.underlying42 rfl (At.cell c7)) ?_
    refine wl_q rfl rfl rfl (q_move rfl rfl) ?_
    obtain ⟨es8, c9, c10, v11, c12, hD⟩ := hD
    refine wl_q rfl rfl rfl (q_lookup1 rfl rfl rfl Go.Proofs.Tryz.underlying42 Go.Proofs.Tryz.underlying9 zr_74 c10 (At.mapEs c9) c12) ?_
    refine wl_q rfl rfl rfl (q_assign rfl rfl) ?_
    refine wl_keep (l' := [(6, Value.pointer v11)]) (keep_cons rfl keep_nil) (wl_nil ?_)
    refine cw_seq ?_
    refine cw_seq ?_
    refine cw_region ?_
    refine wl_q rfl rfl rfl (q_move rfl rfl) ?_
    refine wl_q rfl rfl rfl (q_bin rfl rfl rfl (fun _ _ => sem_eq_ptr_nil Go.Proofs.Tryz.underlying74)) ?_
    refine wl_keep (l' := [(6, Value.pointer v11), (17, Value.bool v11.isNone)]) (keep_cons rfl (keep_cons rfl keep_nil)) (wl_nil ?_)
    refine cw_cond rfl (fun hb13 => ?_) (fun hb13 => ?_)
    · have hD := ifT hb13 hD
      refine cw_seq ?_
      refine cw_region ?_
      refine wl_q rfl rfl rfl (q_assign rfl rfl) ?_
      refine wl_q rfl rfl rfl (q_assign rfl rfl) ?_
      refine wl_keep (l' := [(4, Value.pointer none), (5, Value.int .i64 12)]) (keep_cons rfl (keep_cons rfl keep_nil)) (wl_nil ?_)
      refine cw_ret ?_
      exact ⟨_, resq2 rfl rfl rfl, _, _, rfl, hD⟩
    · have hD := ifF hb13 hD
      refine cw_skip ?_
      refine cw_seq ?_
      refine cw_region ?_
      refine wl_q rfl rfl rfl (q_move rfl rfl) ?_
      refine wl_q rfl rfl rfl (q_assign rfl rfl) ?_
      refine wl_q rfl rfl rfl (q_assign rfl rfl) ?_
      refine wl_keep (l' := [(4, Value.pointer v11), (5, Value.int .i64 0)]) (keep_cons rfl (keep_cons rfl keep_nil)) (wl_nil ?_)
      refine cw_ret ?_
      exact ⟨_, resq2 rfl rfl rfl, _, _, rfl, hD⟩
end Go.Proofs.YtgdmjdacmebfjaaGreatDoor.D

namespace Go.Proofs.YtgdmjdacmebfjaaGreatDoor.D
open Go
set_option maxRecDepth 100000
theorem S_disk_Disk_Remove_1 {n_0 : Option Nat} {q1 : Addr} {h0 : Hp} {K : Hp → Prop} (hD : D_disk_Disk_Remove_1 n_0 q1 h0 K) : C_disk_Disk_Remove_1 n_0 q1 h0 K := by
  unfold D_disk_Disk_Remove_1 at hD
  refine calls_cw (args := [Value.map n_0, Value.pointer (some q1)]) Go.Proofs.Tryz.func48 rfl ?_
  show cw _ 5 _ [(0, Value.map n_0), (1, Value.pointer (some q1))] _ _ _ _
  refine cw_region ?_
  refine wl_q rfl rfl rfl (q_move rfl rfl) ?_
  obtain ⟨x1, c2, hD⟩ := hD
  refine wl_q rfl rfl rfl (q_load rfl rfl Go.Proofs.Tryz.underlying9 rfl (At.cell c2)) ?_
  obtain ⟨r4, es5, clk6, c7, c8, c9, hD⟩ := hD
  refine wl_e0 rfl rfl (e_delete rfl (by rw [← c7]; rfl) rfl Go.Proofs.Tryz.underlying42 Go.Proofs.Tryz.underlying9 c8 c9 ?_)
  intro hz3 e10
  have hD := hD hz3 e10
  refine wl_keep (l' := []) keep_nil (wl_nil ?_)
  exact ⟨_, resq0 rfl, rfl, hD⟩
end Go.Proofs.YtgdmjdacmebfjaaGreatDoor.D

namespace Go.Proofs.YtgdmjdacmebfjaaGreatDoor.D
open Go
set_option maxRecDepth 100000
theorem S_wal_Log_shorten_1 {q0 : Addr} {q1 : Addr} {q2 : Addr} {h0 : Hp} {K : Int → Hp → Prop} (hD : D_wal_Log_shorten_1 q0 q1 q2 h0 K) : C_wal_Log_shorten_1 q0 q1 q2 h0 K := by
  unfold D_wal_Log_shorten_1 at hD
  refine calls_cw (args := [Value.pointer (some q0), Value.pointer (some q1), Value.pointer (some q2)]) Go.Proofs.Tryz.func49 rfl ?_
  show cw _ 15 _ [(0, Value.pointer (some q0)), (1, Value.pointer (some q1)), (2, Value.pointer (some q2))] _ _ _ _
  refine cw_seq ?_
  refine cw_region ?_
  refine wl_q rfl rfl rfl (q_assign rfl rfl) ?_
  refine wl_keep (l' := [(0, Value.pointer (some q0)), (1, Value.pointer (some q1)), (2, Value.pointer (some q2))]) (keep_cons rfl (keep_cons rfl (keep_cons rfl keep_nil))) (wl_nil ?_)
  refine cw_seq ?_
  obtain ⟨x1, c2, hD⟩ := hD
  obtain ⟨a3, c4, hD⟩ := hD
  obtain ⟨x5, c6, hD⟩ := hD
  obtain ⟨x7, c8, hD⟩ := hD
  obtain ⟨x9, c10, hD⟩ := hD
  obtain ⟨a11, c12, hD⟩ := hD
  obtain ⟨x13, c14, hD⟩ := hD
  obtain ⟨n15, c16, c17, c18, hD⟩ := hD
  refine cw_draw (fun h => cellH h q0 = some (Value.pointer x1) ∧ cellH h (a3.add 0) = some (Value.pointer x5) ∧ cellH h q1 = some (Value.string x7) ∧ cellH h q2 = some (Value.pointer x9) ∧ cellH h (a11.add 2) = some (Value.int .i64 x13) ∧ True) 12 wide ?_
  have hS : cellH h0 q0 = some (Value.pointer x1) ∧ cellH h0 (a3.add 0) = some (Value.pointer x5) ∧ cellH h0 q1 = some (Value.string x7) ∧ cellH h0 q2 = some (Value.pointer x9) ∧ cellH h0 (a11.add 2) = some (Value.int .i64 x13) ∧ True := ⟨c2, c6, c8, c10, c14, trivial⟩
  refine wh_q 0 rfl (by kernel_rfl) rfl rfl rfl (q_load rfl rfl Go.Proofs.Tryz.underlying27 rfl (by exact fun _ s => s.1)) (by exact hS) ?_
  refine wh_q 1 rfl (by kernel_rfl) rfl rfl rfl (q_nil rfl rfl c4) (by exact hS) ?_
  refine wh_q 2 rfl (by kernel_rfl) rfl rfl rfl (q_fieldAddr rfl rfl fo_49_0) (by exact hS) ?_
  refine wh_q 3 rfl (by kernel_rfl) rfl rfl rfl (q_load rfl rfl Go.Proofs.Tryz.underlying25 rfl (by exact fun _ s => s.2.1)) (by exact hS) ?_
  refine wh_q 4 rfl (by kernel_rfl) rfl rfl rfl (q_load rfl rfl Go.Proofs.Tryz.underlying9 rfl (by exact fun _ s => s.2.2.1)) (by exact hS) ?_
  refine wh_q 5 rfl (by kernel_rfl) rfl rfl rfl (q_load rfl rfl Go.Proofs.Tryz.underlying47 rfl (by exact fun _ s => s.2.2.2.1)) (by exact hS) ?_
  refine wh_q 6 rfl (by kernel_rfl) rfl rfl rfl (q_nil rfl rfl c12) (by exact hS) ?_
  refine wh_q 7 rfl (by kernel_rfl) rfl rfl rfl (q_fieldAddr rfl rfl fo_63_2) (by exact hS) ?_
  refine wh_q 8 rfl (by kernel_rfl) rfl rfl rfl (q_load rfl rfl Go.Proofs.Tryz.underlying3 rfl (by exact fun _ s => s.2.2.2.2.1)) (by exact hS) ?_
  refine wh_q 9 rfl (by kernel_rfl) rfl rfl rfl (q_slice_string rfl rfl Go.Proofs.Tryz.underlying9 rfl ⟨_, _, rfl, c16⟩ c17 c18) (by exact hS) ?_
  refine wh_e 10 rfl (by kernel_rfl) rfl rfl rfl (e_call (first := []) (vs := [Value.pointer x5, Value.string (ByteArray.mk #[116]), Value.string (x7.extract 0 n15)]) (cap := []) rfl rfl rfl cf_24 (CallsH.mono hD ?_))
  rintro _ hz19 ⟨r20, rfl, hD⟩
  obtain ⟨hk0, hk1, hk2, hk3, hk4, hD⟩ := hD
  refine ⟨⟨hk0, hk1, hk2, hk3, hk4, trivial⟩, ?_⟩
  have hS : cellH hz19 q0 = some (Value.pointer x1) ∧ cellH hz19 (a3.add 0) = some (Value.pointer x5) ∧ cellH hz19 q1 = some (Value.string x7) ∧ cellH hz19 q2 = some (Value.pointer x9) ∧ cellH hz19 (a11.add 2) = some (Value.int .i64 x13) ∧ True := ⟨hk0, hk1, hk2, hk3, hk4, trivial⟩
  refine wh_q 11 rfl (by kernel_rfl) rfl rfl rfl (q_assign rfl rfl) (by exact hS) ?_
  refine wh_keep (l' := [(3, Value.int .i64 r20)]) (keep_cons rfl keep_nil) (wh_done (by kernel_rfl) ?_)
  refine cw_ret ?_
  exact ⟨_, resq1 rfl rfl, _, rfl, hD⟩
end Go.Proofs.YtgdmjdacmebfjaaGreatDoor.D

namespace Go.Proofs.YtgdmjdacmebfjaaGreatDoor.D
open Go
set_option maxRecDepth 100000
theorem S_wal_Log_shorten_2 {q0 : Addr} {h0 : Hp} {K : Int → Hp → Prop} (hD : D_wal_Log_shorten_2 q0 h0 K) : C_wal_Log_shorten_2 q0 h0 K := by
  unfold D_wal_Log_shorten_2 at hD
  refine calls_cw (args := [Value.pointer (some q0)]) Go.Proofs.Tryz.func50 rfl ?_
  show cw _ 7 _ [(0, Value.pointer (some q0))] _ _ _ _
  refine cw_seq ?_
  refine cw_region ?_
  refine wl_q rfl rfl rfl (q_assign rfl rfl) ?_
  refine wl_keep (l' := [(0, Value.pointer (some q0))]) (keep_cons rfl keep_nil) (wl_nil ?_)
  refine cw_seq ?_
  refine cw_region ?_
  obtain ⟨x1, c2, hD⟩ := hD
  refine wl_q rfl rfl rfl (q_load rfl rfl Go.Proofs.Tryz.underlying27 rfl (At.cell c2)) ?_
  obtain ⟨a3, c4, hD⟩ := hD
  refine wl_q rfl rfl rfl (q_nil rfl rfl c4) ?_
  refine wl_q rfl rfl rfl (q_fieldAddr rfl rfl fo_49_0) ?_
  obtain ⟨x5, c6, hD⟩ := hD
  refine wl_q rfl rfl rfl (q_load rfl rfl Go.Proofs.Tryz.underlying25 rfl (At.cell c6)) ?_
  refine wl_e rfl rfl rfl (e_call (first := []) (vs := [Value.pointer x5, Value.string (ByteArray.mk #[116])]) (cap := []) rfl rfl rfl cf_26 (CallsH.mono hD ?_))
  rintro _ hz7 ⟨r8, rfl, hD⟩
  refine wl_q rfl rfl rfl (q_assign rfl rfl) ?_
  refine wl_keep (l' := [(1, Value.int .i64 r8)]) (keep_cons rfl keep_nil) (wl_nil ?_)
  refine cw_ret ?_
  exact ⟨_, resq1 rfl rfl, _, rfl, hD⟩
end Go.Proofs.YtgdmjdacmebfjaaGreatDoor.D

namespace Go.Proofs.YtgdmjdacmebfjaaGreatDoor.D
open Go
set_option maxRecDepth 100000
theorem S_wal_Log_shorten_3 {q0 : Addr} {q1 : Addr} {h0 : Hp} {K : Int → Hp → Prop} (hD : D_wal_Log_shorten_3 q0 q1 h0 K) : C_wal_Log_shorten_3 q0 q1 h0 K := by
  unfold D_wal_Log_shorten_3 at hD
  refine calls_cw (args := [Value.pointer (some q0), Value.pointer (some q1)]) Go.Proofs.Tryz.func51 rfl ?_
  show cw _ 13 _ [(0, Value.pointer (some q0)), (1, Value.pointer (some q1))] _ _ _ _
  refine cw_seq ?_
  refine cw_region ?_
  refine wl_q rfl rfl rfl (q_assign rfl rfl) ?_
  refine wl_keep (l' := [(0, Value.pointer (some q0)), (1, Value.pointer (some q1))]) (keep_cons rfl (keep_cons rfl keep_nil)) (wl_nil ?_)
  refine cw_seq ?_
  obtain ⟨x1, c2, hD⟩ := hD
  obtain ⟨a3, c4, hD⟩ := hD
  obtain ⟨x5, c6, hD⟩ := hD
  obtain ⟨x7, c8, hD⟩ := hD
  obtain ⟨a9, c10, hD⟩ := hD
  obtain ⟨x11, c12, hD⟩ := hD
  refine cw_draw (fun h => cellH h q0 = some (Value.pointer x1) ∧ cellH h (a3.add 0) = some (Value.pointer x5) ∧ cellH h q1 = some (Value.pointer x7) ∧ cellH h (a9.add 0) = some (Value.int .i64 x11) ∧ True) 11 wide ?_
  have hS : cellH h0 q0 = some (Value.pointer x1) ∧ cellH h0 (a3.add 0) = some (Value.pointer x5) ∧ cellH h0 q1 = some (Value.pointer x7) ∧ cellH h0 (a9.add 0) = some (Value.int .i64 x11) ∧ True := ⟨c2, c6, c8, c12, trivial⟩
  refine wh_q 0 rfl (by kernel_rfl) rfl rfl rfl (q_load rfl rfl Go.Proofs.Tryz.underlying27 rfl (by exact fun _ s => s.1)) (by exact hS) ?_
  refine wh_q 1 rfl (by kernel_rfl) rfl rfl rfl (q_nil rfl rfl c4) (by exact hS) ?_
  refine wh_q 2 rfl (by kernel_rfl) rfl rfl rfl (q_fieldAddr rfl rfl fo_49_0) (by exact hS) ?_
  refine wh_q 3 rfl (by kernel_rfl) rfl rfl rfl (q_load rfl rfl Go.Proofs.Tryz.underlying25 rfl (by exact fun _ s => s.2.1)) (by exact hS) ?_
  refine wh_q 4 rfl (by kernel_rfl) rfl rfl rfl (q_load rfl rfl Go.Proofs.Tryz.underlying47 rfl (by exact fun _ s => s.2.2.1)) (by exact hS) ?_
  refine wh_q 5 rfl (by kernel_rfl) rfl rfl rfl (q_nil rfl rfl c10) (by exact hS) ?_
  refine wh_q 6 rfl (by kernel_rfl) rfl rfl rfl (q_fieldAddr rfl rfl fo_63_0) (by exact hS) ?_
  refine wh_q 7 rfl (by kernel_rfl) rfl rfl rfl (q_load rfl rfl Go.Proofs.Tryz.underlying3 rfl (by exact fun _ s => s.2.2.2.1)) (by exact hS) ?_
  refine wh_e 8 rfl (by kernel_rfl) rfl rfl rfl (e_call (first := []) (vs := [Value.int .i64 x11]) (cap := []) rfl rfl rfl cf_25 (CallsH.mono hD ?_))
  rintro _ hz13 ⟨r14, rfl, hD⟩
  obtain ⟨hk0, hk1, hk2, hk3, hD⟩ := hD
  refine ⟨⟨hk0, hk1, hk2, hk3, trivial⟩, ?_⟩
  have hS : cellH hz13 q0 = some (Value.pointer x1) ∧ cellH hz13 (a3.add 0) = some (Value.pointer x5) ∧ cellH hz13 q1 = some (Value.pointer x7) ∧ cellH hz13 (a9.add 0) = some (Value.int .i64 x11) ∧ True := ⟨hk0, hk1, hk2, hk3, trivial⟩
  refine wh_e 9 rfl (by kernel_rfl) rfl rfl rfl (e_call (first := []) (vs := [Value.pointer x5, Value.string (ByteArray.mk #[116]), Value.string r14]) (cap := []) rfl rfl rfl cf_52 (CallsH.mono hD ?_))
  rintro _ hz15 ⟨r16, rfl, hD⟩
  obtain ⟨hk0, hk1, hk2, hk3, hD⟩ := hD
  refine ⟨⟨hk0, hk1, hk2, hk3, trivial⟩, ?_⟩
  have hS : cellH hz15 q0 = some (Value.pointer x1) ∧ cellH hz15 (a3.add 0) = some (Value.pointer x5) ∧ cellH hz15 q1 = some (Value.pointer x7) ∧ cellH hz15 (a9.add 0) = some (Value.int .i64 x11) ∧ True := ⟨hk0, hk1, hk2, hk3, trivial⟩
  refine wh_q 10 rfl (by kernel_rfl) rfl rfl rfl (q_assign rfl rfl) (by exact hS) ?_
  refine wh_keep (l' := [(2, Value.int .i64 r16)]) (keep_cons rfl keep_nil) (wh_done (by kernel_rfl) ?_)
  refine cw_ret ?_
  exact ⟨_, resq1 rfl rfl, _, rfl, hD⟩
end Go.Proofs.YtgdmjdacmebfjaaGreatDoor.D

namespace Go.Proofs.YtgdmjdacmebfjaaGreatDoor.D
open Go
set_option maxRecDepth 100000
theorem S_disk_Disk_Rename {d_0 : Option Addr} {from_1 : ByteArray} {to_2 : ByteArray} {h0 : Hp} {K : Int → Hp → Prop} (hD : D_disk_Disk_Rename d_0 from_1 to_2 h0 K) : C_disk_Disk_Rename d_0 from_1 to_2 h0 K := by
  unfold D_disk_Disk_Rename at hD
  refine calls_cw (args := [Value.pointer d_0, Value.string from_1, Value.string to_2]) Go.Proofs.Tryz.func52 rfl ?_
  show cw _ 26 _ [(0, Value.pointer d_0), (1, Value.string from_1), (2, Value.string to_2)] _ _ _ _
  refine cw_seq ?_
  refine cw_region ?_
  refine wl_e rfl rfl rfl (e_box rfl rfl ?_)
  intro hz1 e2
  have hD := hD hz1 e2
  refine wl_e rfl rfl rfl (e_box rfl rfl ?_)
  intro hz3 e4
  have hD := hD hz3 e4
  refine wl_q rfl rfl rfl (q_assign rfl rfl) ?_
  refine wl_keep (l' := [(0, Value.pointer d_0), (4, Value.pointer (some (blk h0.size))), (5, Value.pointer (some (blk hz1.size)))]) (keep_cons rfl (keep_cons rfl (keep_cons rfl keep_nil))) (wl_nil ?_)
  refine cw_seq ?_
  refine cw_region ?_
  refine wl_q rfl rfl rfl (q_move rfl rfl) ?_
  obtain ⟨x5, c6, hD⟩ := hD
  refine wl_q rfl rfl rfl (q_load rfl rfl Go.Proofs.Tryz.underlying9 rfl (At.cell c6)) ?_
  refine wl_e rfl rfl rfl (e_call (first := []) (vs := [Value.pointer d_0, Value.string x5]) (cap := []) rfl rfl rfl cf_47 (CallsH.mono hD ?_))
  rintro _ hz7 ⟨r8, r9, rfl, hD⟩
  refine wl_q rfl rfl rfl (q_move rfl rfl) ?_
  refine wl_q rfl rfl rfl (q_extract rfl rfl rfl) ?_
  refine wl_q rfl rfl rfl (q_extract rfl rfl rfl) ?_
  refine wl_e rfl rfl rfl (e_alloc rfl zr_74 ?_)
  intro hz10 e11
  have hD := hD hz10 e11
  obtain ⟨u13, c14, c15, hD⟩ := hD
  refine wl_e0 rfl rfl (e_store rfl rfl rfl sz_74 trivial c14 c15 ?_)
  intro hz12 e16
  have hD := hD hz12 e16
  refine wl_q rfl rfl rfl (q_assign rfl rfl) ?_
  refine wl_keep (l' := [(0, Value.pointer d_0), (4, Value.pointer (some (blk h0.size))), (5, Value.pointer (some (blk hz1.size))), (7, Value.pointer (some (blk hz7.size))), (8, Value.int .i64 r9)]) (keep_cons rfl (keep_cons rfl (keep_cons rfl (keep_cons rfl (keep_cons rfl keep_nil))))) (wl_nil ?_)
  refine cw_seq ?_
  refine cw_block ?_
  refine cw_seq ?_
  refine cw_region ?_
  refine wl_q rfl rfl rfl (q_move rfl rfl) ?_
  refine wl_q rfl rfl rfl (q_bin rfl rfl rfl (fun _ _ => rfl)) ?_
  refine wl_q rfl rfl rfl (q_assign rfl rfl) ?_
  refine wl_keep (l' := [(0, Value.pointer d_0), (4, Value.pointer (some (blk h0.size))), (5, Value.pointer (some (blk hz1.size))), (7, Value.pointer (some (blk hz7.size))), (8, Value.int .i64 r9), (15, Value.bool (r9 != (0 : Int)))]) (keep_cons rfl (keep_cons rfl (keep_cons rfl (keep_cons rfl (keep_cons rfl (keep_cons rfl keep_nil)))))) (wl_nil ?_)
  refine cw_cond rfl (fun hb17 => ?_) (fun hb17 => ?_)
  · have hD := ifT hb17 hD
    refine cw_seq ?_
    refine cw_region ?_
    refine wl_q rfl rfl rfl (q_move rfl rfl) ?_
    refine wl_q rfl rfl rfl (q_assign rfl rfl) ?_
    refine wl_keep (l' := [(6, Value.int .i64 r9)]) (keep_cons rfl keep_nil) (wl_nil ?_)
    refine cw_ret ?_
    exact ⟨_, resq1 rfl rfl, _, rfl, hD⟩
  · have hD := ifF hb17 hD
    refine cw_seq ?_
    refine cw_region ?_
    obtain ⟨x18, c19, hD⟩ := hD
    refine wl_q rfl rfl rfl (q_load rfl rfl Go.Proofs.Tryz.underlying9 rfl (At.cell c19)) ?_
    refine wl_e rfl rfl rfl (e_call (first := []) (vs := [Value.string x18]) (cap := []) rfl rfl rfl cf_43 (CallsH.mono hD ?_))
    rintro _ hz20 ⟨r21, rfl, hD⟩
    refine wl_q rfl rfl rfl (q_un rfl rfl (fun _ => rfl)) ?_
    refine wl_q rfl rfl rfl (q_assign rfl rfl) ?_
    refine wl_keep (l' := [(0, Value.pointer d_0), (4, Value.pointer (some (blk h0.size))), (5, Value.pointer (some (blk hz1.size))), (7, Value.pointer (some (blk hz7.size))), (19, Value.bool (!r21))]) (keep_cons rfl (keep_cons rfl (keep_cons rfl (keep_cons rfl (keep_cons rfl keep_nil))))) (wl_nil ?_)
    refine cw_cond rfl (fun hb22 => ?_) (fun hb22 => ?_)
    · have hD := ifT hb22 hD
      refine cw_seq ?_
      refine cw_region ?_
      refine wl_q rfl rfl rfl (q_assign rfl rfl) ?_
      refine wl_keep (l' := [(6, Value.int .i64 3)]) (keep_cons rfl keep_nil) (wl_nil ?_)
      refine cw_ret ?_
      exact ⟨_, resq1 rfl rfl, _, rfl, hD⟩
    · have hD := ifF hb22 hD
      refine cw_skip ?_
      refine cw_seq ?_
      refine cw_region ?_
      refine wl_q rfl rfl rfl (q_move rfl rfl) ?_
      refine wl_q rfl rfl rfl (q_makeFunc (xs := []) (ys := [.tmp 4, .tmp 7, .tmp 5]) rfl rfl rfl) ?_
      refine wl_e rfl rfl rfl (e_call (first := []) (vs := [Value.pointer d_0, Value.func (.func F_disk_Disk_Rename_1) #[] #[Value.pointer (some (blk h0.size)), Value.pointer (some (blk hz7.size)), Value.pointer (some (blk hz1.size))]]) (cap := []) rfl rfl rfl cf_45 (CallsH.mono hD ?_))
      rintro _ hz23 ⟨rfl, hD⟩
      refine wl_keep (l' := []) keep_nil (wl_nil ?_)
      refine cw_seq ?_
      refine cw_region ?_
      refine wl_q rfl rfl rfl (q_assign rfl rfl) ?_
      refine wl_keep (l' := [(6, Value.int .i64 0)]) (keep_cons rfl keep_nil) (wl_nil ?_)
      refine cw_ret ?_
      exact ⟨_, resq1 rfl rfl, _, rfl, hD⟩
end Go.Proofs.YtgdmjdacmebfjaaGreatDoor.D

namespace Go.Proofs.YtgdmjdacmebfjaaGreatDoor.D
open Go
set_option maxRecDepth 100000
theorem S_digits_GetText {s_0 : ByteArray} {most_1 : Int} {h0 : Hp} {K : ByteArray → Int → Int → Hp → Prop} (hD : D_digits_GetText s_0 most_1 h0 K) : C_digits_GetText s_0 most_1 h0 K := by
  unfold D_digits_GetText at hD
  refine calls_cw (args := [Value.string s_0, Value.int .i64 most_1]) Go.Proofs.Tryz.func57 rfl ?_
  show cw _ 47 _ [(0, Value.string s_0), (1, Value.int .i64 most_1)] _ _ _ _
  refine cw_seq ?_
  refine cw_region ?_
  refine wl_q rfl rfl rfl (q_assign rfl rfl) ?_
  refine wl_q rfl rfl rfl (q_assign rfl rfl) ?_
  refine wl_q rfl rfl rfl (q_assign rfl rfl) ?_
  refine wl_keep (l' := [(0, Value.string s_0), (1, Value.int .i64 most_1)]) (keep_cons rfl (keep_cons rfl keep_nil)) (wl_nil ?_)
  refine cw_seq ?_
  refine cw_region ?_
  refine wl_q rfl rfl rfl (q_move rfl rfl) ?_
  refine wl_e rfl rfl rfl (e_call (first := []) (vs := [Value.string s_0]) (cap := []) rfl rfl rfl cf_65 (CallsH.mono hD ?_))
  rintro _ hz1 ⟨r2, r3, r4, rfl, hD⟩
  refine wl_q rfl rfl rfl (q_move rfl rfl) ?_
  refine wl_q rfl rfl rfl (q_extract rfl rfl rfl) ?_
  refine wl_q rfl rfl rfl (q_extract rfl rfl rfl) ?_
  refine wl_q rfl rfl rfl (q_extract rfl rfl rfl) ?_
  refine wl_q rfl rfl rfl (q_assign rfl rfl) ?_
  refine wl_q rfl rfl rfl (q_assign rfl rfl) ?_
  refine wl_q rfl rfl rfl (q_assign rfl rfl) ?_
  refine wl_keep (l' := [(0, Value.string s_0), (1, Value.int .i64 most_1), (7, Value.int .u64 r2), (8, Value.int .i64 r3), (9, Value.int .i64 r4)]) (keep_cons rfl (keep_cons rfl (keep_cons rfl (keep_cons rfl (keep_cons rfl keep_nil))))) (wl_nil ?_)
  refine cw_seq ?_
  refine cw_block ?_
  refine cw_seq ?_
  refine cw_region ?_
  refine wl_q rfl rfl rfl (q_move rfl rfl) ?_
  refine wl_q rfl rfl rfl (q_bin rfl rfl rfl (fun _ _ => rfl)) ?_
  refine wl_q rfl rfl rfl (q_assign rfl rfl) ?_
  refine wl_keep (l' := [(0, Value.string s_0), (1, Value.int .i64 most_1), (7, Value.int .u64 r2), (8, Value.int .i64 r3), (9, Value.int .i64 r4), (17, Value.bool (r4 != (0 : Int)))]) (keep_cons rfl (keep_cons rfl (keep_cons rfl (keep_cons rfl (keep_cons rfl (keep_cons rfl keep_nil)))))) (wl_nil ?_)
  refine cw_cond rfl (fun hb5 => ?_) (fun hb5 => ?_)
  · have hD := ifT hb5 hD
    refine cw_seq ?_
    refine cw_region ?_
    refine wl_q rfl rfl rfl (q_move rfl rfl) ?_
    refine wl_q rfl rfl rfl (q_assign rfl rfl) ?_
    refine wl_q rfl rfl rfl (q_assign rfl rfl) ?_
    refine wl_q rfl rfl rfl (q_assign rfl rfl) ?_
    refine wl_keep (l' := [(4, Value.string (ByteArray.mk #[])), (5, Value.int .i64 0), (6, Value.int .i64 r4)]) (keep_cons rfl (keep_cons rfl (keep_cons rfl keep_nil))) (wl_nil ?_)
    refine cw_ret ?_
    exact ⟨_, resq3 rfl rfl rfl rfl, _, _, _, rfl, hD⟩
  · have hD := ifF hb5 hD
    refine cw_cut (fun l h => ∃ (x6 : Bool), Keep l [(0, Value.string s_0), (7, Value.int .u64 r2), (8, Value.int .i64 r3), (21, Value.bool x6)] ∧ D_digits_GetText_j1 s_0 K r2 r3 x6 h) ?_ ?_
    · refine cw_region ?_
      refine wl_q rfl rfl rfl (q_move rfl rfl) ?_
      refine wl_q rfl rfl rfl (q_bin rfl rfl rfl (fun _ _ => rfl)) ?_
      refine wl_q rfl rfl rfl (q_move rfl rfl) ?_
      rcases bool_or (decide (most_1 < (0 : Int))) with hb16 | hb16
      · have hD := ifT hb16 hD
        refine wl_gn rfl rfl rfl hb16 rfl rfl ?_
        refine wl_gn rfl rfl rfl hb16 rfl rfl ?_
        refine wl_gn rfl rfl rfl hb16 rfl rfl ?_
        refine wl_gn rfl rfl rfl hb16 rfl rfl ?_
        refine wl_q rfl rfl rfl (q_pickT rfl rfl hb16 rfl) ?_
        refine wl_q rfl rfl rfl (q_assign rfl rfl) ?_
        refine wl_keep (l' := [(0, Value.string s_0), (7, Value.int .u64 r2), (8, Value.int .i64 r3), (21, Value.bool true)]) (keep_cons rfl (keep_cons rfl (keep_cons rfl (keep_cons rfl keep_nil)))) (wl_nil ?_)
        exact ⟨_, (keep_cons rfl (keep_cons rfl (keep_cons rfl (keep_cons rfl keep_nil)))), hD⟩
      · have hD := ifF hb16 hD
        refine wl_gq rfl rfl rfl hb16 rfl rfl (q_move rfl rfl) ?_
        refine wl_gq rfl rfl rfl hb16 rfl rfl (q_move rfl rfl) ?_
        refine wl_gq rfl rfl rfl hb16 rfl rfl (q_conv_int rfl rfl Go.Proofs.Tryz.underlying3 Go.Proofs.Tryz.underlying24) ?_
        refine wl_gq rfl rfl rfl hb16 rfl rfl (q_bin rfl rfl rfl (fun _ _ => rfl)) ?_
        refine wl_q rfl rfl rfl (q_pickF rfl rfl hb16 rfl) ?_
        refine wl_q rfl rfl rfl (q_assign rfl rfl) ?_
        refine wl_keep (l' := [(0, Value.string s_0), (7, Value.int .u64 r2), (8, Value.int .i64 r3), (21, Value.bool (decide (r2 > (IntKind.u64.wrap most_1))))]) (keep_cons rfl (keep_cons rfl (keep_cons rfl (keep_cons rfl keep_nil)))) (wl_nil ?_)
        exact ⟨_, (keep_cons rfl (keep_cons rfl (keep_cons rfl (keep_cons rfl keep_nil)))), hD⟩
    · rintro l18 hz7 ⟨x6, hk17, hD⟩
      refine cw_keep hk17 ?_
      unfold D_digits_GetText_j1 at hD
      refine cw_cond rfl (fun hb8 => ?_) (fun hb8 => ?_)
      · have hD := ifT hb8 hD
        refine cw_seq ?_
        refine cw_region ?_
        refine wl_q rfl rfl rfl (q_assign rfl rfl) ?_
        refine wl_q rfl rfl rfl (q_assign rfl rfl) ?_
        refine wl_q rfl rfl rfl (q_assign rfl rfl) ?_
        refine wl_keep (l' := [(4, Value.string (ByteArray.mk #[])), (5, Value.int .i64 0), (6, Value.int .i64 8)]) (keep_cons rfl (keep_cons rfl (keep_cons rfl keep_nil))) (wl_nil ?_)
        refine cw_ret ?_
        exact ⟨_, resq3 rfl rfl rfl rfl, _, _, _, rfl, hD⟩
      · have hD := ifF hb8 hD
        refine cw_seq ?_
        refine cw_region ?_
        refine wl_q rfl rfl rfl (q_move rfl rfl) ?_
        refine wl_q rfl rfl rfl (q_move rfl rfl) ?_
        refine wl_q rfl rfl rfl (q_len_string rfl rfl Go.Proofs.Tryz.underlying9 rfl) ?_
        refine wl_q rfl rfl rfl (q_move rfl rfl) ?_
        refine wl_q rfl rfl rfl (q_bin rfl rfl rfl (fun _ _ => rfl)) ?_
        refine wl_q rfl rfl rfl (q_conv_int rfl rfl Go.Proofs.Tryz.underlying3 Go.Proofs.Tryz.underlying24) ?_
        refine wl_q rfl rfl rfl (q_bin rfl rfl rfl (fun _ _ => rfl)) ?_
        refine wl_q rfl rfl rfl (q_assign rfl rfl) ?_
        refine wl_keep (l' := [(0, Value.string s_0), (7, Value.int .u64 r2), (8, Value.int .i64 r3), (30, Value.bool (decide (r2 > (IntKind.u64.wrap (IntKind.i64.wrap ((s_0.size : Int) - r3))))))]) (keep_cons rfl (keep_cons rfl (keep_cons rfl (keep_cons rfl keep_nil)))) (wl_nil ?_)
        refine cw_cond rfl (fun hb9 => ?_) (fun hb9 => ?_)
        · have hD := ifT hb9 hD
          refine cw_seq ?_
          refine cw_region ?_
          refine wl_q rfl rfl rfl (q_assign rfl rfl) ?_
          refine wl_q rfl rfl rfl (q_assign rfl rfl) ?_
          refine wl_q rfl rfl rfl (q_assign rfl rfl) ?_
          refine wl_keep (l' := [(4, Value.string (ByteArray.mk #[])), (5, Value.int .i64 0), (6, Value.int .i64 1)]) (keep_cons rfl (keep_cons rfl (keep_cons rfl keep_nil))) (wl_nil ?_)
          refine cw_ret ?_
          exact ⟨_, resq3 rfl rfl rfl rfl, _, _, _, rfl, hD⟩
        · have hD := ifF hb9 hD
          refine cw_skip ?_
          refine cw_seq ?_
          refine cw_region ?_
          refine wl_q rfl rfl rfl (q_move rfl rfl) ?_
          refine wl_q rfl rfl rfl (q_move rfl rfl) ?_
          refine wl_q rfl rfl rfl (q_conv_int rfl rfl Go.Proofs.Tryz.underlying24 Go.Proofs.Tryz.underlying3) ?_
          refine wl_q rfl rfl rfl (q_bin rfl rfl rfl (fun _ _ => rfl)) ?_
          refine wl_q rfl rfl rfl (q_assign rfl rfl) ?_
          refine wl_keep (l' := [(0, Value.string s_0), (8, Value.int .i64 r3), (10, Value.int .i64 (IntKind.i64.wrap (r3 + (IntKind.i64.wrap r2))))]) (keep_cons rfl (keep_cons rfl (keep_cons rfl keep_nil))) (wl_nil ?_)
          refine cw_seq ?_
          refine cw_region ?_
          refine wl_q rfl rfl rfl (q_move rfl rfl) ?_
          refine wl_q rfl rfl rfl (q_move rfl rfl) ?_
          refine wl_q rfl rfl rfl (q_move rfl rfl) ?_
          obtain ⟨n10, c11, n12, c13, c14, c15, hD⟩ := hD
          refine wl_q rfl rfl rfl (q_slice_string rfl rfl Go.Proofs.Tryz.underlying9 ⟨_, _, rfl, c11⟩ ⟨_, _, rfl, c13⟩ c14 c15) ?_
          refine wl_q rfl rfl rfl (q_move rfl rfl) ?_
          refine wl_q rfl rfl rfl (q_assign rfl rfl) ?_
          refine wl_q rfl rfl rfl (q_assign rfl rfl) ?_
          refine wl_q rfl rfl rfl (q_assign rfl rfl) ?_
          refine wl_keep (l' := [(4, Value.string (s_0.extract n10 n12)), (5, Value.int .i64 (IntKind.i64.wrap (r3 + (IntKind.i64.wrap r2)))), (6, Value.int .i64 0)]) (keep_cons rfl (keep_cons rfl (keep_cons rfl keep_nil))) (wl_nil ?_)
          refine cw_ret ?_
          exact ⟨_, resq3 rfl rfl rfl rfl, _, _, _, rfl, hD⟩
end Go.Proofs.YtgdmjdacmebfjaaGreatDoor.D

namespace Go.Proofs.YtgdmjdacmebfjaaGreatDoor.D
open Go
set_option maxRecDepth 100000
theorem S_digits_Num {n_0 : Int} {h0 : Hp} {K : ByteArray → Hp → Prop} (hD : D_digits_Num n_0 h0 K) : C_digits_Num n_0 h0 K := by
  unfold D_digits_Num at hD
  refine calls_cw (args := [Value.int .u64 n_0]) Go.Proofs.Tryz.func58 rfl ?_
  show cw _ 25 _ [(0, Value.int .u64 n_0)] _ _ _ _
  refine cw_seq ?_
  refine cw_region ?_
  refine wl_q rfl rfl rfl (q_assign rfl rfl) ?_
  refine wl_keep (l' := [(0, Value.int .u64 n_0)]) (keep_cons rfl keep_nil) (wl_nil ?_)
  refine cw_seq ?_
  refine cw_region ?_
  refine wl_e rfl rfl rfl (e_alloc rfl zr_102 ?_)
  intro hz1 e2
  have hD := hD hz1 e2
  refine wl_keep (l' := [(0, Value.int .u64 n_0), (3, Value.pointer (some (blk h0.size)))]) (keep_cons rfl (keep_cons rfl keep_nil)) (wl_nil ?_)
  refine cw_seq ?_
  refine cw_region ?_
  refine wl_q rfl rfl rfl (q_assign rfl rfl) ?_
  refine wl_keep (l' := [(0, Value.int .u64 n_0), (3, Value.pointer (some (blk h0.size))), (4, Value.int .i64 9)]) (keep_cons rfl (keep_cons rfl (keep_cons rfl keep_nil))) (wl_nil ?_)
  refine cw_seq ?_
  refine cw_block ?_
  obtain ⟨I, μ, hI28, hL29⟩ := hD
  refine cw_loops (σ := Int × Int) (fun s => [(0, Value.int .u64 s.1), (3, Value.pointer (some (blk h0.size))), (4, Value.int .i64 s.2)]) (n_0, 9) (fun s h => I s.1 s.2 h) (fun s h => μ s.1 s.2 h) (keep_cons rfl (keep_cons rfl (keep_cons rfl keep_nil))) hI28 ?_
  rintro ⟨n3, i4⟩ hz5 hI
  have hD := hL29 n3 i4 hz5 hI
  obtain ⟨C6, hC6⟩ : ∃ c : Int → Int → Hp → Prop, c = (fun n3' i4' h' => I n3' i4' h' ∧ μ n3' i4' h' < μ n3 i4 hz5) := ⟨_, rfl⟩
  rw [← hC6] at hD
  unfold D_digits_Num_l1 at hD
  show cw _ _ _ [(0, Value.int .u64 n3), (3, Value.pointer (some (blk h0.size))), (4, Value.int .i64 i4)] _ _ _ _
  refine cw_seq ?_
  refine cw_seq ?_
  refine cw_region ?_
  refine wl_q rfl rfl rfl (q_move rfl rfl) ?_
  refine wl_q rfl rfl rfl (q_bin rfl rfl rfl (fun _ _ => rfl)) ?_
  refine wl_keep (l' := [(0, Value.int .u64 n3), (3, Value.pointer (some (blk h0.size))), (4, Value.int .i64 i4), (6, Value.bool (decide (n3 > (0 : Int))))]) (keep_cons rfl (keep_cons rfl (keep_cons rfl (keep_cons rfl keep_nil)))) (wl_nil ?_)
  refine cw_cond rfl (fun hb7 => ?_) (fun hb7 => ?_)
  · have hD := ifT hb7 hD
    refine cw_skip ?_
    refine cw_seq ?_
    refine cw_block ?_
    refine cw_seq ?_
    refine cw_region ?_
    refine wl_q rfl rfl rfl (q_move rfl rfl) ?_
    refine wl_q rfl rfl rfl (q_bin rfl rfl rfl (fun _ _ => rfl)) ?_
    refine wl_q rfl rfl rfl (q_assign rfl rfl) ?_
    refine wl_keep (l' := [(0, Value.int .u64 n3), (3, Value.pointer (some (blk h0.size))), (4, Value.int .i64 (IntKind.i64.wrap (i4 - 1)))]) (keep_cons rfl (keep_cons rfl (keep_cons rfl keep_nil))) (wl_nil ?_)
    refine cw_region ?_
    refine wl_q rfl rfl rfl (q_move rfl rfl) ?_
    refine wl_q rfl rfl rfl (q_move rfl rfl) ?_
    refine wl_q rfl rfl rfl (q_conv_int rfl rfl Go.Proofs.Tryz.underlying24 Go.Proofs.Tryz.underlying5) ?_
    obtain ⟨c8, c9, hD⟩ := hD
    refine wl_q rfl rfl rfl (q_indexAddr_array rfl rfl rfl Go.Proofs.Tryz.underlying102 sz_5 c8 c9) ?_
    obtain ⟨u11, c12, c13, hD⟩ := hD
    refine wl_e0 rfl rfl (e_store rfl rfl rfl sz_5 trivial c12 c13 ?_)
    intro hz10 e14
    have hD := hD hz10 e14
    refine wl_keep (l' := [(0, Value.int .u64 n3), (3, Value.pointer (some (blk h0.size))), (4, Value.int .i64 (IntKind.i64.wrap (i4 - 1)))]) (keep_cons rfl (keep_cons rfl (keep_cons rfl keep_nil))) (wl_nil ?_)
    refine cw_region ?_
    refine wl_q rfl rfl rfl (q_move rfl rfl) ?_
    refine wl_q rfl rfl rfl (q_shr rfl rfl rfl (by decide)) ?_
    refine wl_q rfl rfl rfl (q_assign rfl rfl) ?_
    refine wl_keep (l' := [(0, Value.int .u64 (Int.fdiv n3 (2 ^ (min (Int.toNat 8) 64)))), (3, Value.pointer (some (blk h0.size))), (4, Value.int .i64 (IntKind.i64.wrap (i4 - 1)))]) (keep_cons rfl (keep_cons rfl (keep_cons rfl keep_nil))) (wl_nil ?_)
    rw [hC6] at hD
    exact ⟨(Int.fdiv n3 (2 ^ (min (Int.toNat 8) 64)), IntKind.i64.wrap (i4 - 1)), (keep_cons rfl (keep_cons rfl (keep_cons rfl keep_nil))), hD⟩
  · have hD := ifF hb7 hD
    refine cw_exit ?_
    refine xput_same ?_
    refine cw_seq ?_
    refine cw_region ?_
    refine wl_q rfl rfl rfl (q_move rfl rfl) ?_
    refine wl_q rfl rfl rfl (q_bin rfl rfl rfl (fun _ _ => rfl)) ?_
    refine wl_q rfl rfl rfl (q_assign rfl rfl) ?_
    refine wl_keep (l' := [(3, Value.pointer (some (blk h0.size))), (4, Value.int .i64 (IntKind.i64.wrap (i4 - 1)))]) (keep_cons rfl (keep_cons rfl keep_nil)) (wl_nil ?_)
    refine cw_seq ?_
    refine cw_region ?_
    refine wl_q rfl rfl rfl (q_move rfl rfl) ?_
    refine wl_q rfl rfl rfl (q_move rfl rfl) ?_
    refine wl_q rfl rfl rfl (q_bin rfl rfl rfl (fun _ _ => rfl)) ?_
    refine wl_q rfl rfl rfl (q_conv_int rfl rfl Go.Proofs.Tryz.underlying3 Go.Proofs.Tryz.underlying5) ?_
    obtain ⟨c15, c16, hD⟩ := hD
    refine wl_q rfl rfl rfl (q_indexAddr_array rfl rfl rfl Go.Proofs.Tryz.underlying102 sz_5 c15 c16) ?_
    obtain ⟨u18, c19, c20, hD⟩ := hD
    refine wl_e0 rfl rfl (e_store rfl rfl rfl sz_5 trivial c19 c20 ?_)
    intro hz17 e21
    have hD := hD hz17 e21
    refine wl_keep (l' := [(3, Value.pointer (some (blk h0.size))), (4, Value.int .i64 (IntKind.i64.wrap (i4 - 1)))]) (keep_cons rfl (keep_cons rfl keep_nil)) (wl_nil ?_)
    refine cw_seq ?_
    refine cw_region ?_
    refine wl_q rfl rfl rfl (q_move rfl rfl) ?_
    obtain ⟨n22, c23, c24, c25, hD⟩ := hD
    refine wl_q rfl rfl rfl (q_slice_array (i := n22) (j := 9) rfl rfl Go.Proofs.Tryz.underlying102 sz_5 ⟨_, _, rfl, c23⟩ rfl c24 c25) ?_
    obtain ⟨x26, c27, hD⟩ := hD
    refine wl_q rfl rfl rfl (q_conv_b rfl rfl Go.Proofs.Tryz.underlying33 Go.Proofs.Tryz.underlying9 Go.Proofs.Tryz.underlying5 (At.bytes c27)) ?_
    refine wl_q rfl rfl rfl (q_assign rfl rfl) ?_
    refine wl_keep (l' := [(2, Value.string x26)]) (keep_cons rfl keep_nil) (wl_nil ?_)
    refine cw_ret ?_
    exact ⟨_, resq1 rfl rfl, _, rfl, hD⟩
end Go.Proofs.YtgdmjdacmebfjaaGreatDoor.D

namespace Go.Proofs.YtgdmjdacmebfjaaGreatDoor.D
open Go
set_option maxRecDepth 100000
theorem S_sum_More {c_0 : Int} {s_1 : ByteArray} {h0 : Hp} {K : Int → Hp → Prop} (hD : D_sum_More c_0 s_1 h0 K) : C_sum_More c_0 s_1 h0 K := by
  unfold D_sum_More at hD
  refine calls_cw (args := [Value.int .u32 c_0, Value.string s_1]) Go.Proofs.Tryz.func59 rfl ?_
  show cw _ 29 _ [(0, Value.int .u32 c_0), (1, Value.string s_1)] _ _ _ _
  refine cw_seq ?_
  refine cw_region ?_
  refine wl_q rfl rfl rfl (q_assign rfl rfl) ?_
  refine wl_keep (l' := [(0, Value.int .u32 c_0), (1, Value.string s_1)]) (keep_cons rfl (keep_cons rfl keep_nil)) (wl_nil ?_)
  refine cw_seq ?_
  refine cw_region ?_
  refine wl_q rfl rfl rfl (q_build (v := Value.agg #[Value.int .u32 0, Value.int .u32 2197175160]) rfl rfl (fun _ _ => by kernel_rfl)) ?_
  refine wl_e rfl rfl rfl (e_alloc rfl zr_104 ?_)
  intro hz1 e2
  have hD := hD hz1 e2
  obtain ⟨c4, hD⟩ := hD
  refine wl_e0 rfl rfl (e_stores (vs := [Value.int .u32 0, Value.int .u32 2197175160]) rfl rfl rfl sz_104 c4 ?_)
  intro hz3 e5
  have hD := hD hz3 e5
  refine wl_keep (l' := [(0, Value.int .u32 c_0), (1, Value.string s_1), (5, Value.pointer (some (blk h0.size)))]) (keep_cons rfl (keep_cons rfl (keep_cons rfl keep_nil))) (wl_nil ?_)
  refine cw_seq ?_
  refine cw_region ?_
  refine wl_q rfl rfl rfl (q_move rfl rfl) ?_
  refine wl_q rfl rfl rfl (q_un rfl rfl (fun _ => rfl)) ?_
  refine wl_q rfl rfl rfl (q_assign rfl rfl) ?_
  refine wl_keep (l' := [(0, Value.int .u32 (bitsI .xor .u32 (IntKind.u32.max) c_0)), (1, Value.string s_1), (5, Value.pointer (some (blk h0.size)))]) (keep_cons rfl (keep_cons rfl (keep_cons rfl keep_nil))) (wl_nil ?_)
  refine cw_seq ?_
  refine cw_seq ?_
  refine cw_region ?_
  refine wl_q rfl rfl rfl (q_move rfl rfl) ?_
  refine wl_q rfl rfl rfl (q_len_string rfl rfl Go.Proofs.Tryz.underlying9 rfl) ?_
  refine wl_q rfl rfl rfl (q_move rfl rfl) ?_
  refine wl_keep (l' := [(0, Value.int .u32 (bitsI .xor .u32 (IntKind.u32.max) c_0)), (1, Value.string s_1), (5, Value.pointer (some (blk h0.size))), (11, Value.int .i64 (s_1.size : Int)), (12, Value.int .i64 0)]) (keep_cons rfl (keep_cons rfl (keep_cons rfl (keep_cons rfl (keep_cons rfl keep_nil))))) (wl_nil ?_)
  refine cw_block ?_
  obtain ⟨I, μ, hI22, hL23⟩ := hD
  refine cw_loops (σ := Int × Int) (fun s => [(0, Value.int .u32 s.1), (1, Value.string s_1), (5, Value.pointer (some (blk h0.size))), (11, Value.int .i64 (s_1.size : Int)), (12, Value.int .i64 s.2)]) (bitsI .xor .u32 (IntKind.u32.max) c_0, 0) (fun s h => I s.1 s.2 h) (fun s h => μ s.1 s.2 h) (keep_cons rfl (keep_cons rfl (keep_cons rfl (keep_cons rfl (keep_cons rfl keep_nil))))) hI22 ?_
  rintro ⟨c6, x7⟩ hz8 hI
  have hD := hL23 c6 x7 hz8 hI
  obtain ⟨C9, hC9⟩ : ∃ c : Int → Int → Hp → Prop, c = (fun c6' x7' h' => I c6' x7' h' ∧ μ c6' x7' h' < μ c6 x7 hz8) := ⟨_, rfl⟩
  rw [← hC9] at hD
  unfold D_sum_More_l2 at hD
  show cw _ _ _ [(0, Value.int .u32 c6), (1, Value.string s_1), (5, Value.pointer (some (blk h0.size))), (11, Value.int .i64 (s_1.size : Int)), (12, Value.int .i64 x7)] _ _ _ _
  refine cw_seq ?_
  refine cw_region ?_
  refine wl_q rfl rfl rfl (q_bin rfl rfl rfl (fun _ _ => rfl)) ?_
  refine wl_keep (l' := [(0, Value.int .u32 c6), (1, Value.string s_1), (5, Value.pointer (some (blk h0.size))), (11, Value.int .i64 (s_1.size : Int)), (12, Value.int .i64 x7), (13, Value.bool (decide (x7 < (s_1.size : Int))))]) (keep_cons rfl (keep_cons rfl (keep_cons rfl (keep_cons rfl (keep_cons rfl (keep_cons rfl keep_nil)))))) (wl_nil ?_)
  refine cw_seq ?_
  refine cw_cond rfl (fun hb10 => ?_) (fun hb10 => ?_)
  · have hD := ifT hb10 hD
    refine cw_skip ?_
    refine cw_seq ?_
    refine cw_block ?_
    refine cw_seq ?_
    refine cw_region ?_
    refine wl_q rfl rfl rfl (q_move rfl rfl) ?_
    refine wl_q rfl rfl rfl (q_assign rfl rfl) ?_
    refine wl_keep (l' := [(0, Value.int .u32 c6), (1, Value.string s_1), (5, Value.pointer (some (blk h0.size))), (6, Value.int .i64 x7), (11, Value.int .i64 (s_1.size : Int)), (12, Value.int .i64 x7)]) (keep_cons rfl (keep_cons rfl (keep_cons rfl (keep_cons rfl (keep_cons rfl (keep_cons rfl keep_nil)))))) (wl_nil ?_)
    refine cw_seq ?_
    refine cw_region ?_
    refine wl_q rfl rfl rfl (q_move rfl rfl) ?_
    refine wl_q rfl rfl rfl (q_move rfl rfl) ?_
    refine wl_q rfl rfl rfl (q_move rfl rfl) ?_
    obtain ⟨c11, c12, hD⟩ := hD
    refine wl_q rfl rfl rfl (q_index_string rfl rfl rfl Go.Proofs.Tryz.underlying9 c11 c12) ?_
    refine wl_q rfl rfl rfl (q_conv_int rfl rfl Go.Proofs.Tryz.underlying5 Go.Proofs.Tryz.underlying83) ?_
    refine wl_q rfl rfl rfl (q_bin rfl rfl rfl (fun _ _ => rfl)) ?_
    refine wl_q rfl rfl rfl (q_assign rfl rfl) ?_
    refine wl_keep (l' := [(0, Value.int .u32 (bitsI .xor .u32 c6 (IntKind.u32.wrap (bt s_1 x7)))), (1, Value.string s_1), (5, Value.pointer (some (blk h0.size))), (11, Value.int .i64 (s_1.size : Int)), (12, Value.int .i64 x7)]) (keep_cons rfl (keep_cons rfl (keep_cons rfl (keep_cons rfl (keep_cons rfl keep_nil))))) (wl_nil ?_)
    refine cw_seq ?_
    refine cw_region ?_
    refine wl_q rfl rfl rfl (q_move rfl rfl) ?_
    refine wl_keep (l' := [(0, Value.int .u32 (bitsI .xor .u32 c6 (IntKind.u32.wrap (bt s_1 x7)))), (1, Value.string s_1), (5, Value.pointer (some (blk h0.size))), (11, Value.int .i64 (s_1.size : Int)), (12, Value.int .i64 x7), (21, Value.int .i64 0)]) (keep_cons rfl (keep_cons rfl (keep_cons rfl (keep_cons rfl (keep_cons rfl (keep_cons rfl keep_nil)))))) (wl_nil ?_)
    refine cw_block ?_
    obtain ⟨I, μ, hI20, hL21⟩ := hD
    refine cw_loops (σ := Int × Int) (fun s => [(0, Value.int .u32 s.1), (1, Value.string s_1), (5, Value.pointer (some (blk h0.size))), (11, Value.int .i64 (s_1.size : Int)), (12, Value.int .i64 x7), (21, Value.int .i64 s.2)]) (bitsI .xor .u32 c6 (IntKind.u32.wrap (bt s_1 x7)), 0) (fun s h => I s.1 s.2 h) (fun s h => μ s.1 s.2 h) (keep_cons rfl (keep_cons rfl (keep_cons rfl (keep_cons rfl (keep_cons rfl (keep_cons rfl keep_nil)))))) hI20 ?_
    rintro ⟨c13, x14⟩ hz15 hI
    have hD := hL21 c13 x14 hz15 hI
    obtain ⟨C16, hC16⟩ : ∃ c : Int → Int → Hp → Prop, c = (fun c13' x14' h' => I c13' x14' h' ∧ μ c13' x14' h' < μ c13 x14 hz15) := ⟨_, rfl⟩
    rw [← hC16] at hD
    unfold D_sum_More_l1 at hD
    show cw _ _ _ [(0, Value.int .u32 c13), (1, Value.string s_1), (5, Value.pointer (some (blk h0.size))), (11, Value.int .i64 (s_1.size : Int)), (12, Value.int .i64 x7), (21, Value.int .i64 x14)] _ _ _ _
    refine cw_seq ?_
    refine cw_region ?_
    refine wl_q rfl rfl rfl (q_bin rfl rfl rfl (fun _ _ => rfl)) ?_
    refine wl_keep (l' := [(0, Value.int .u32 c13), (1, Value.string s_1), (5, Value.pointer (some (blk h0.size))), (11, Value.int .i64 (s_1.size : Int)), (12, Value.int .i64 x7), (21, Value.int .i64 x14), (22, Value.bool (decide (x14 < (8 : Int))))]) (keep_cons rfl (keep_cons rfl (keep_cons rfl (keep_cons rfl (keep_cons rfl (keep_cons rfl (keep_cons rfl keep_nil))))))) (wl_nil ?_)
    refine cw_seq ?_
    refine cw_cond rfl (fun hb17 => ?_) (fun hb17 => ?_)
    · have hD := ifT hb17 hD
      refine cw_skip ?_
      refine cw_seq ?_
      refine cw_block ?_
      refine cw_region ?_
      refine wl_q rfl rfl rfl (q_move rfl rfl) ?_
      refine wl_e rfl rfl rfl (e_call (first := []) (vs := [Value.pointer (some (blk h0.size)), Value.int .u32 c13]) (cap := []) rfl rfl rfl cf_66 (CallsH.mono hD ?_))
      rintro _ hz18 ⟨r19, rfl, hD⟩
      refine wl_q rfl rfl rfl (q_assign rfl rfl) ?_
      refine wl_keep (l' := [(0, Value.int .u32 r19), (1, Value.string s_1), (5, Value.pointer (some (blk h0.size))), (11, Value.int .i64 (s_1.size : Int)), (12, Value.int .i64 x7), (21, Value.int .i64 x14)]) (keep_cons rfl (keep_cons rfl (keep_cons rfl (keep_cons rfl (keep_cons rfl (keep_cons rfl keep_nil)))))) (wl_nil ?_)
      refine cw_region ?_
      refine wl_q rfl rfl rfl (q_bin rfl rfl rfl (fun _ _ => rfl)) ?_
      refine wl_q rfl rfl rfl (q_move rfl rfl) ?_
      refine wl_keep (l' := [(0, Value.int .u32 r19), (1, Value.string s_1), (5, Value.pointer (some (blk h0.size))), (11, Value.int .i64 (s_1.size : Int)), (12, Value.int .i64 x7), (21, Value.int .i64 (IntKind.i64.wrap (x14 + 1)))]) (keep_cons rfl (keep_cons rfl (keep_cons rfl (keep_cons rfl (keep_cons rfl (keep_cons rfl keep_nil)))))) (wl_nil ?_)
      rw [hC16] at hD
      exact ⟨(r19, IntKind.i64.wrap (x14 + 1)), (keep_cons rfl (keep_cons rfl (keep_cons rfl (keep_cons rfl (keep_cons rfl (keep_cons rfl keep_nil)))))), hD⟩
    · have hD := ifF hb17 hD
      refine cw_exit ?_
      refine xput_same ?_
      refine cw_region ?_
      refine wl_q rfl rfl rfl (q_bin rfl rfl rfl (fun _ _ => rfl)) ?_
      refine wl_q rfl rfl rfl (q_move rfl rfl) ?_
      refine wl_keep (l' := [(0, Value.int .u32 c13), (1, Value.string s_1), (5, Value.pointer (some (blk h0.size))), (11, Value.int .i64 (s_1.size : Int)), (12, Value.int .i64 (IntKind.i64.wrap (x7 + 1)))]) (keep_cons rfl (keep_cons rfl (keep_cons rfl (keep_cons rfl (keep_cons rfl keep_nil))))) (wl_nil ?_)
      rw [hC9] at hD
      exact ⟨(c13, IntKind.i64.wrap (x7 + 1)), (keep_cons rfl (keep_cons rfl (keep_cons rfl (keep_cons rfl (keep_cons rfl keep_nil))))), hD⟩
  · have hD := ifF hb10 hD
    refine cw_exit ?_
    refine xput_same ?_
    refine cw_seq ?_
    refine cw_region ?_
    refine wl_q rfl rfl rfl (q_move rfl rfl) ?_
    refine wl_q rfl rfl rfl (q_un rfl rfl (fun _ => rfl)) ?_
    refine wl_q rfl rfl rfl (q_assign rfl rfl) ?_
    refine wl_keep (l' := [(4, Value.int .u32 (bitsI .xor .u32 (IntKind.u32.max) c6))]) (keep_cons rfl keep_nil) (wl_nil ?_)
    refine cw_ret ?_
    exact ⟨_, resq1 rfl rfl, _, rfl, hD⟩
end Go.Proofs.YtgdmjdacmebfjaaGreatDoor.D

namespace Go.Proofs.YtgdmjdacmebfjaaGreatDoor.D
open Go
set_option maxRecDepth 100000
theorem S_strings_Trim {s_0 : ByteArray} {cutset_1 : ByteArray} {h0 : Hp} {K : ByteArray → Hp → Prop} (hD : D_strings_Trim s_0 cutset_1 h0 K) : C_strings_Trim s_0 cutset_1 h0 K := by
  unfold D_strings_Trim at hD
  refine calls_cw (args := [Value.string s_0, Value.string cutset_1]) Go.Proofs.Tryz.func60 rfl ?_
  show cw _ 43 _ [(0, Value.string s_0), (1, Value.string cutset_1)] _ _ _ _
  refine cw_seq ?_
  refine cw_region ?_
  refine wl_q rfl rfl rfl (q_assign rfl rfl) ?_
  refine wl_keep (l' := [(0, Value.string s_0), (1, Value.string cutset_1)]) (keep_cons rfl (keep_cons rfl keep_nil)) (wl_nil ?_)
  refine cw_seq ?_
  refine cw_cut (fun l h => ∃ (x1 : Bool), Keep l [(0, Value.string s_0), (1, Value.string cutset_1), (12, Value.bool x1)] ∧ D_strings_Trim_j2 s_0 cutset_1 K x1 h) ?_ ?_
  · refine cw_region ?_
    refine wl_q rfl rfl rfl (q_move rfl rfl) ?_
    refine wl_q rfl rfl rfl (q_bin rfl rfl rfl (fun _ _ => rfl)) ?_
    refine wl_q rfl rfl rfl (q_move rfl rfl) ?_
    rcases bool_or (s_0.toList == (ByteArray.mk #[]).toList) with hb38 | hb38
    · have hD := ifT hb38 hD
      refine wl_gn rfl rfl rfl hb38 rfl rfl ?_
      refine wl_gn rfl rfl rfl hb38 rfl rfl ?_
      refine wl_q rfl rfl rfl (q_pickT rfl rfl hb38 rfl) ?_
      refine wl_keep (l' := [(0, Value.string s_0), (1, Value.string cutset_1), (12, Value.bool true)]) (keep_cons rfl (keep_cons rfl (keep_cons rfl keep_nil))) (wl_nil ?_)
      exact ⟨_, (keep_cons rfl (keep_cons rfl (keep_cons rfl keep_nil))), hD⟩
    · have hD := ifF hb38 hD
      refine wl_gq rfl rfl rfl hb38 rfl rfl (q_move rfl rfl) ?_
      refine wl_gq rfl rfl rfl hb38 rfl rfl (q_bin rfl rfl rfl (fun _ _ => rfl)) ?_
      refine wl_q rfl rfl rfl (q_pickF rfl rfl hb38 rfl) ?_
      refine wl_keep (l' := [(0, Value.string s_0), (1, Value.string cutset_1), (12, Value.bool (cutset_1.toList == (ByteArray.mk #[]).toList))]) (keep_cons rfl (keep_cons rfl (keep_cons rfl keep_nil))) (wl_nil ?_)
      exact ⟨_, (keep_cons rfl (keep_cons rfl (keep_cons rfl keep_nil))), hD⟩
  · rintro l40 hz2 ⟨x1, hk39, hD⟩
    refine cw_keep hk39 ?_
    unfold D_strings_Trim_j2 at hD
    refine cw_cond rfl (fun hb3 => ?_) (fun hb3 => ?_)
    · have hD := ifT hb3 hD
      refine cw_seq ?_
      refine cw_region ?_
      refine wl_q rfl rfl rfl (q_move rfl rfl) ?_
      refine wl_q rfl rfl rfl (q_assign rfl rfl) ?_
      refine wl_keep (l' := [(4, Value.string s_0)]) (keep_cons rfl keep_nil) (wl_nil ?_)
      refine cw_ret ?_
      exact ⟨_, resq1 rfl rfl, _, rfl, hD⟩
    · have hD := ifF hb3 hD
      refine cw_skip ?_
      refine cw_seq ?_
      refine cw_cut (fun l h => ∃ (x4 : Bool), Keep l [(0, Value.string s_0), (1, Value.string cutset_1), (21, Value.bool x4)] ∧ D_strings_Trim_j1 s_0 cutset_1 K x4 h) ?_ ?_
      · refine cw_region ?_
        refine wl_q rfl rfl rfl (q_move rfl rfl) ?_
        refine wl_q rfl rfl rfl (q_len_string rfl rfl Go.Proofs.Tryz.underlying9 rfl) ?_
        refine wl_q rfl rfl rfl (q_bin rfl rfl rfl (fun _ _ => rfl)) ?_
        refine wl_q rfl rfl rfl (q_move rfl rfl) ?_
        rcases bool_or ((cutset_1.size : Int) == (1 : Int)) with hb33 | hb33
        · have hD := ifT hb33 hD
          refine wl_gq rfl rfl rfl hb33 rfl rfl (q_move rfl rfl) ?_
          obtain ⟨c34, c35, hD⟩ := hD
          refine wl_gq rfl rfl rfl hb33 rfl rfl (q_index_string rfl rfl rfl Go.Proofs.Tryz.underlying9 c34 c35) ?_
          refine wl_gq rfl rfl rfl hb33 rfl rfl (q_bin rfl rfl rfl (fun _ _ => rfl)) ?_
          refine wl_q rfl rfl rfl (q_pickT rfl rfl hb33 rfl) ?_
          refine wl_keep (l' := [(0, Value.string s_0), (1, Value.string cutset_1), (21, Value.bool (decide ((bt cutset_1 0) < (128 : Int))))]) (keep_cons rfl (keep_cons rfl (keep_cons rfl keep_nil))) (wl_nil ?_)
          exact ⟨_, (keep_cons rfl (keep_cons rfl (keep_cons rfl keep_nil))), hD⟩
        · have hD := ifF hb33 hD
          refine wl_gn rfl rfl rfl hb33 rfl rfl ?_
          refine wl_gn rfl rfl rfl hb33 rfl rfl ?_
          refine wl_gn rfl rfl rfl hb33 rfl rfl ?_
          refine wl_q rfl rfl rfl (q_pickF rfl rfl hb33 rfl) ?_
          refine wl_keep (l' := [(0, Value.string s_0), (1, Value.string cutset_1), (21, Value.bool false)]) (keep_cons rfl (keep_cons rfl (keep_cons rfl keep_nil))) (wl_nil ?_)
          exact ⟨_, (keep_cons rfl (keep_cons rfl (keep_cons rfl keep_nil))), hD⟩
      · rintro l37 hz5 ⟨x4, hk36, hD⟩
        refine cw_keep hk36 ?_
        unfold D_strings_Trim_j1 at hD
        refine cw_cond rfl (fun hb6 => ?_) (fun hb6 => ?_)
        · have hD := ifT hb6 hD
          refine cw_seq ?_
          obtain ⟨c7, c8, hD⟩ := hD
          obtain ⟨c9, c10, hD⟩ := hD
          refine cw_draw (fun h => True) 8 wide ?_
          have hS : True := trivial
          refine wh_q 0 rfl (by kernel_rfl) rfl rfl rfl (q_move rfl rfl) (by exact hS) ?_
          refine wh_q 1 rfl (by kernel_rfl) rfl rfl rfl (q_move rfl rfl) (by exact hS) ?_
          refine wh_q 2 rfl (by kernel_rfl) rfl rfl rfl (q_index_string rfl rfl rfl Go.Proofs.Tryz.underlying9 c7 c8) (by exact hS) ?_
          refine wh_q 4 rfl (by kernel_rfl) rfl rfl rfl (q_move rfl rfl) (by exact hS) ?_
          refine wh_q 5 rfl (by kernel_rfl) rfl rfl rfl (q_index_string rfl rfl rfl Go.Proofs.Tryz.underlying9 c9 c10) (by exact hS) ?_
          refine wh_e 3 rfl (by kernel_rfl) rfl rfl rfl (e_call (first := []) (vs := [Value.string s_0, Value.int .u8 (bt cutset_1 0)]) (cap := []) rfl rfl rfl cf_68 (CallsH.mono hD ?_))
          rintro _ hz11 ⟨r12, rfl, hD⟩
          refine ⟨trivial, ?_⟩
          have hS : True := trivial
          refine wh_e 6 rfl (by kernel_rfl) rfl rfl rfl (e_call (first := []) (vs := [Value.string r12, Value.int .u8 (bt cutset_1 0)]) (cap := []) rfl rfl rfl cf_67 (CallsH.mono hD ?_))
          rintro _ hz13 ⟨r14, rfl, hD⟩
          refine ⟨trivial, ?_⟩
          have hS : True := trivial
          refine wh_q 7 rfl (by kernel_rfl) rfl rfl rfl (q_assign rfl rfl) (by exact hS) ?_
          refine wh_keep (l' := [(4, Value.string r14)]) (keep_cons rfl keep_nil) (wh_done (by kernel_rfl) ?_)
          refine cw_ret ?_
          exact ⟨_, resq1 rfl rfl, _, rfl, hD⟩
        · have hD := ifF hb6 hD
          refine cw_skip ?_
          refine cw_seq ?_
          refine cw_seq ?_
          refine cw_region ?_
          refine wl_q rfl rfl rfl (q_move rfl rfl) ?_
          refine wl_e rfl rfl rfl (e_call (first := []) (vs := [Value.string cutset_1]) (cap := []) rfl rfl rfl cf_69 (CallsH.mono hD ?_))
          rintro _ hz15 ⟨r16, r17, rfl, hD⟩
          refine wl_q rfl rfl rfl (q_move rfl rfl) ?_
          refine wl_q rfl rfl rfl (q_extract rfl rfl rfl) ?_
          refine wl_q rfl rfl rfl (q_extract rfl rfl rfl) ?_
          refine wl_e rfl rfl rfl (e_alloc rfl zr_108 ?_)
          intro hz18 e19
          have hD := hD hz18 e19
          obtain ⟨c21, c22, hD⟩ := hD
          refine wl_e0 rfl rfl (e_stores (vs := r16) rfl rfl rfl (by rw [c21]; exact sz_108) c22 ?_)
          intro hz20 e23
          have hD := hD hz20 e23
          refine wl_q rfl rfl rfl (q_assign rfl rfl) ?_
          refine wl_keep (l' := [(0, Value.string s_0), (1, Value.string cutset_1), (5, Value.pointer (some (blk hz15.size))), (6, Value.bool r17)]) (keep_cons rfl (keep_cons rfl (keep_cons rfl (keep_cons rfl keep_nil)))) (wl_nil ?_)
          refine cw_seq ?_
          refine cw_region ?_
          refine wl_q rfl rfl rfl (q_move rfl rfl) ?_
          refine wl_keep (l' := [(0, Value.string s_0), (1, Value.string cutset_1), (5, Value.pointer (some (blk hz15.size))), (34, Value.bool r17)]) (keep_cons rfl (keep_cons rfl (keep_cons rfl (keep_cons rfl keep_nil)))) (wl_nil ?_)
          refine cw_cond rfl (fun hb24 => ?_) (fun hb24 => ?_)
          · have hD := ifT hb24 hD
            refine cw_seq ?_
            refine cw_region ?_
            refine wl_q rfl rfl rfl (q_move rfl rfl) ?_
            refine wl_e rfl rfl rfl (e_call (first := []) (vs := [Value.string s_0, Value.pointer (some (blk hz15.size))]) (cap := []) rfl rfl rfl cf_71 (CallsH.mono hD ?_))
            rintro _ hz25 ⟨r26, rfl, hD⟩
            refine wl_e rfl rfl rfl (e_call (first := []) (vs := [Value.string r26, Value.pointer (some (blk hz15.size))]) (cap := []) rfl rfl rfl cf_70 (CallsH.mono hD ?_))
            rintro _ hz27 ⟨r28, rfl, hD⟩
            refine wl_q rfl rfl rfl (q_assign rfl rfl) ?_
            refine wl_keep (l' := [(4, Value.string r28)]) (keep_cons rfl keep_nil) (wl_nil ?_)
            refine cw_ret ?_
            exact ⟨_, resq1 rfl rfl, _, rfl, hD⟩
          · have hD := ifF hb24 hD
            refine cw_skip ?_
            refine cw_seq ?_
            refine cw_region ?_
            refine wl_q rfl rfl rfl (q_move rfl rfl) ?_
            refine wl_q rfl rfl rfl (q_move rfl rfl) ?_
            refine wl_e rfl rfl rfl (e_call (first := []) (vs := [Value.string s_0, Value.string cutset_1]) (cap := []) rfl rfl rfl cf_73 (CallsH.mono hD ?_))
            rintro _ hz29 ⟨r30, rfl, hD⟩
            refine wl_q rfl rfl rfl (q_move rfl rfl) ?_
            refine wl_e rfl rfl rfl (e_call (first := []) (vs := [Value.string r30, Value.string cutset_1]) (cap := []) rfl rfl rfl cf_72 (CallsH.mono hD ?_))
            rintro _ hz31 ⟨r32, rfl, hD⟩
            refine wl_q rfl rfl rfl (q_assign rfl rfl) ?_
            refine wl_keep (l' := [(4, Value.string r32)]) (keep_cons rfl keep_nil) (wl_nil ?_)
            refine cw_ret ?_
            exact ⟨_, resq1 rfl rfl, _, rfl, hD⟩
end Go.Proofs.YtgdmjdacmebfjaaGreatDoor.D

namespace Go.Proofs.YtgdmjdacmebfjaaGreatDoor.D
open Go
set_option maxRecDepth 100000
theorem S_disk_Disk_Rename_1 {n_0 : Option Nat} {q1 : Addr} {q2 : Addr} {q3 : Addr} {h0 : Hp} {K : Hp → Prop} (hD : D_disk_Disk_Rename_1 n_0 q1 q2 q3 h0 K) : C_disk_Disk_Rename_1 n_0 q1 q2 q3 h0 K := by
  unfold D_disk_Disk_Rename_1 at hD
  refine calls_cw (args := [Value.map n_0, Value.pointer (some q1), Value.pointer (some q2), Value.pointer (some q3)]) Go.Proofs.Tryz.func61 rfl ?_
  show cw _ 10 _ [(0, Value.map n_0), (1, Value.pointer (some q1)), (2, Value.pointer (some q2)), (3, Value.pointer (some q3))] _ _ _ _
  refine cw_seq ?_
  refine cw_region ?_
  refine wl_q rfl rfl rfl (q_move rfl rfl) ?_
  obtain ⟨x1, c2, hD⟩ := hD
  refine wl_q rfl rfl rfl (q_load rfl rfl Go.Proofs.Tryz.underlying9 rfl (At.cell c2)) ?_
  obtain ⟨r4, es5, clk6, c7, c8, c9, hD⟩ := hD
  refine wl_e0 rfl rfl (e_delete rfl (by rw [← c7]; rfl) rfl Go.Proofs.Tryz.underlying42 Go.Proofs.Tryz.underlying9 c8 c9 ?_)
  intro hz3 e10
  have hD := hD hz3 e10
  refine wl_keep (l' := [(0, Value.map n_0), (2, Value.pointer (some q2)), (3, Value.pointer (some q3))]) (keep_cons rfl (keep_cons rfl (keep_cons rfl keep_nil))) (wl_nil ?_)
  refine cw_region ?_
  refine wl_q rfl rfl rfl (q_move rfl rfl) ?_
  obtain ⟨x11, c12, hD⟩ := hD
  refine wl_q rfl rfl rfl (q_load rfl rfl Go.Proofs.Tryz.underlying9 rfl (At.cell c12)) ?_
  obtain ⟨x13, c14, hD⟩ := hD
  refine wl_q rfl rfl rfl (q_load rfl rfl Go.Proofs.Tryz.underlying74 rfl (At.cell c14)) ?_
  obtain ⟨r16, es17, clk18, c19, c20, c21, hD⟩ := hD
  refine wl_e0 rfl rfl (e_mapUpdate rfl (by rw [← c19]; rfl) rfl rfl Go.Proofs.Tryz.underlying42 Go.Proofs.Tryz.underlying9 c20 c21 ?_)
  intro hz15 e22
  have hD := hD hz15 e22
  refine wl_keep (l' := []) keep_nil (wl_nil ?_)
  exact ⟨_, resq0 rfl, rfl, hD⟩
end Go.Proofs.YtgdmjdacmebfjaaGreatDoor.D

namespace Go.Proofs.YtgdmjdacmebfjaaGreatDoor.D
open Go
set_option maxRecDepth 100000
theorem S_digits_GetNum {s_0 : ByteArray} {h0 : Hp} {K : Int → Int → Int → Hp → Prop} (hD : D_digits_GetNum s_0 h0 K) : C_digits_GetNum s_0 h0 K := by
  unfold D_digits_GetNum at hD
  refine calls_cw (args := [Value.string s_0]) Go.Proofs.Tryz.func65 rfl ?_
  show cw _ 51 _ [(0, Value.string s_0)] _ _ _ _
  refine cw_seq ?_
  refine cw_region ?_
  refine wl_q rfl rfl rfl (q_assign rfl rfl) ?_
  refine wl_q rfl rfl rfl (q_assign rfl rfl) ?_
  refine wl_q rfl rfl rfl (q_assign rfl rfl) ?_
  refine wl_keep (l' := [(0, Value.string s_0)]) (keep_cons rfl keep_nil) (wl_nil ?_)
  refine cw_seq ?_
  refine cw_seq ?_
  refine cw_region ?_
  refine wl_q rfl rfl rfl (q_move rfl rfl) ?_
  refine wl_q rfl rfl rfl (q_bin rfl rfl rfl (fun _ _ => rfl)) ?_
  refine wl_keep (l' := [(0, Value.string s_0), (11, Value.bool (s_0.toList == (ByteArray.mk #[]).toList))]) (keep_cons rfl (keep_cons rfl keep_nil)) (wl_nil ?_)
  refine cw_cond rfl (fun hb1 => ?_) (fun hb1 => ?_)
  · have hD := ifT hb1 hD
    refine cw_seq ?_
    refine cw_region ?_
    refine wl_q rfl rfl rfl (q_assign rfl rfl) ?_
    refine wl_q rfl rfl rfl (q_assign rfl rfl) ?_
    refine wl_q rfl rfl rfl (q_assign rfl rfl) ?_
    refine wl_keep (l' := [(2, Value.int .u64 0), (3, Value.int .i64 0), (4, Value.int .i64 1)]) (keep_cons rfl (keep_cons rfl (keep_cons rfl keep_nil))) (wl_nil ?_)
    refine cw_ret ?_
    exact ⟨_, resq3 rfl rfl rfl rfl, _, _, _, rfl, hD⟩
  · have hD := ifF hb1 hD
    refine cw_skip ?_
    refine cw_seq ?_
    obtain ⟨c2, c3, hD⟩ := hD
    obtain ⟨c4, c5, hD⟩ := hD
    refine cw_draw (fun h => True) 7 wide ?_
    have hS : True := trivial
    refine wh_q 0 rfl (by kernel_rfl) rfl rfl rfl (q_move rfl rfl) (by exact hS) ?_
    refine wh_q 1 rfl (by kernel_rfl) rfl rfl rfl (q_index_string rfl rfl rfl Go.Proofs.Tryz.underlying9 c2 c3) (by exact hS) ?_
    refine wh_q 2 rfl (by kernel_rfl) rfl rfl rfl (q_conv_int rfl rfl Go.Proofs.Tryz.underlying5 Go.Proofs.Tryz.underlying3) (by exact hS) ?_
    refine wh_q 3 rfl (by kernel_rfl) rfl rfl rfl (q_move rfl rfl) (by exact hS) ?_
    refine wh_q 4 rfl (by kernel_rfl) rfl rfl rfl (q_slice_string rfl rfl Go.Proofs.Tryz.underlying9 ⟨_, _, rfl, rfl⟩ rfl c4 c5) (by exact hS) ?_
    refine wh_q 5 rfl (by kernel_rfl) rfl rfl rfl (q_assign rfl rfl) (by exact hS) ?_
    refine wh_q 6 rfl (by kernel_rfl) rfl rfl rfl (q_assign rfl rfl) (by exact hS) ?_
    refine wh_keep (l' := [(5, Value.int .i64 (IntKind.i64.wrap (bt s_0 0))), (6, Value.string (s_0.extract 1 s_0.size))]) (keep_cons rfl (keep_cons rfl keep_nil)) (wh_done (by kernel_rfl) ?_)
    refine cw_seq ?_
    refine cw_block ?_
    refine cw_seq ?_
    refine cw_region ?_
    refine wl_q rfl rfl rfl (q_move rfl rfl) ?_
    refine wl_q rfl rfl rfl (q_bin rfl rfl rfl (fun _ _ => rfl)) ?_
    refine wl_q rfl rfl rfl (q_assign rfl rfl) ?_
    refine wl_keep (l' := [(5, Value.int .i64 (IntKind.i64.wrap (bt s_0 0))), (6, Value.string (s_0.extract 1 s_0.size)), (17, Value.bool (decide ((IntKind.i64.wrap (bt s_0 0)) > (8 : Int))))]) (keep_cons rfl (keep_cons rfl (keep_cons rfl keep_nil))) (wl_nil ?_)
    refine cw_cond rfl (fun hb6 => ?_) (fun hb6 => ?_)
    · have hD := ifT hb6 hD
      refine cw_seq ?_
      refine cw_region ?_
      refine wl_q rfl rfl rfl (q_assign rfl rfl) ?_
      refine wl_q rfl rfl rfl (q_assign rfl rfl) ?_
      refine wl_q rfl rfl rfl (q_assign rfl rfl) ?_
      refine wl_keep (l' := [(2, Value.int .u64 0), (3, Value.int .i64 0), (4, Value.int .i64 2)]) (keep_cons rfl (keep_cons rfl (keep_cons rfl keep_nil))) (wl_nil ?_)
      refine cw_ret ?_
      exact ⟨_, resq3 rfl rfl rfl rfl, _, _, _, rfl, hD⟩
    · have hD := ifF hb6 hD
      refine cw_seq ?_
      refine cw_region ?_
      refine wl_q rfl rfl rfl (q_move rfl rfl) ?_
      refine wl_q rfl rfl rfl (q_len_string rfl rfl Go.Proofs.Tryz.underlying9 rfl) ?_
      refine wl_q rfl rfl rfl (q_move rfl rfl) ?_
      refine wl_q rfl rfl rfl (q_bin rfl rfl rfl (fun _ _ => rfl)) ?_
      refine wl_q rfl rfl rfl (q_assign rfl rfl) ?_
      refine wl_keep (l' := [(5, Value.int .i64 (IntKind.i64.wrap (bt s_0 0))), (6, Value.string (s_0.extract 1 s_0.size)), (20, Value.bool (decide (((s_0.extract 1 s_0.size).size : Int) < (IntKind.i64.wrap (bt s_0 0)))))]) (keep_cons rfl (keep_cons rfl (keep_cons rfl keep_nil))) (wl_nil ?_)
      refine cw_cond rfl (fun hb7 => ?_) (fun hb7 => ?_)
      · have hD := ifT hb7 hD
        refine cw_seq ?_
        refine cw_region ?_
        refine wl_q rfl rfl rfl (q_assign rfl rfl) ?_
        refine wl_q rfl rfl rfl (q_assign rfl rfl) ?_
        refine wl_q rfl rfl rfl (q_assign rfl rfl) ?_
        refine wl_keep (l' := [(2, Value.int .u64 0), (3, Value.int .i64 0), (4, Value.int .i64 1)]) (keep_cons rfl (keep_cons rfl (keep_cons rfl keep_nil))) (wl_nil ?_)
        refine cw_ret ?_
        exact ⟨_, resq3 rfl rfl rfl rfl, _, _, _, rfl, hD⟩
      · have hD := ifF hb7 hD
        refine cw_cut (fun l h => ∃ (x8 : Bool), Keep l [(5, Value.int .i64 (IntKind.i64.wrap (bt s_0 0))), (6, Value.string (s_0.extract 1 s_0.size)), (25, Value.bool x8)] ∧ D_digits_GetNum_j2 s_0 K x8 h) ?_ ?_
        · refine cw_region ?_
          refine wl_q rfl rfl rfl (q_move rfl rfl) ?_
          refine wl_q rfl rfl rfl (q_bin rfl rfl rfl (fun _ _ => rfl)) ?_
          refine wl_q rfl rfl rfl (q_move rfl rfl) ?_
          rcases bool_or (decide ((IntKind.i64.wrap (bt s_0 0)) > (0 : Int))) with hb32 | hb32
          · have hD := ifT hb32 hD
            refine wl_gq rfl rfl rfl hb32 rfl rfl (q_move rfl rfl) ?_
            obtain ⟨c33, c34, hD⟩ := hD
            refine wl_gq rfl rfl rfl hb32 rfl rfl (q_index_string rfl rfl rfl Go.Proofs.Tryz.underlying9 c33 c34) ?_
            refine wl_gq rfl rfl rfl hb32 rfl rfl (q_bin rfl rfl rfl (fun _ _ => rfl)) ?_
            refine wl_q rfl rfl rfl (q_pickT rfl rfl hb32 rfl) ?_
            refine wl_q rfl rfl rfl (q_assign rfl rfl) ?_
            refine wl_keep (l' := [(5, Value.int .i64 (IntKind.i64.wrap (bt s_0 0))), (6, Value.string (s_0.extract 1 s_0.size)), (25, Value.bool ((bt (s_0.extract 1 s_0.size) 0) == (0 : Int)))]) (keep_cons rfl (keep_cons rfl (keep_cons rfl keep_nil))) (wl_nil ?_)
            exact ⟨_, (keep_cons rfl (keep_cons rfl (keep_cons rfl keep_nil))), hD⟩
          · have hD := ifF hb32 hD
            refine wl_gn rfl rfl rfl hb32 rfl rfl ?_
            refine wl_gn rfl rfl rfl hb32 rfl rfl ?_
            refine wl_gn rfl rfl rfl hb32 rfl rfl ?_
            refine wl_q rfl rfl rfl (q_pickF rfl rfl hb32 rfl) ?_
            refine wl_q rfl rfl rfl (q_assign rfl rfl) ?_
            refine wl_keep (l' := [(5, Value.int .i64 (IntKind.i64.wrap (bt s_0 0))), (6, Value.string (s_0.extract 1 s_0.size)), (25, Value.bool false)]) (keep_cons rfl (keep_cons rfl (keep_cons rfl keep_nil))) (wl_nil ?_)
            exact ⟨_, (keep_cons rfl (keep_cons rfl (keep_cons rfl keep_nil))), hD⟩
        · rintro l36 hz9 ⟨x8, hk35, hD⟩
          refine cw_keep hk35 ?_
          unfold D_digits_GetNum_j2 at hD
          refine cw_cond rfl (fun hb10 => ?_) (fun hb10 => ?_)
          · have hD := ifT hb10 hD
            refine cw_seq ?_
            refine cw_region ?_
            refine wl_q rfl rfl rfl (q_assign rfl rfl) ?_
            refine wl_q rfl rfl rfl (q_assign rfl rfl) ?_
            refine wl_q rfl rfl rfl (q_assign rfl rfl) ?_
            refine wl_keep (l' := [(2, Value.int .u64 0), (3, Value.int .i64 0), (4, Value.int .i64 3)]) (keep_cons rfl (keep_cons rfl (keep_cons rfl keep_nil))) (wl_nil ?_)
            refine cw_ret ?_
            exact ⟨_, resq3 rfl rfl rfl rfl, _, _, _, rfl, hD⟩
          · have hD := ifF hb10 hD
            refine cw_skip ?_
            refine cw_seq ?_
            refine cw_region ?_
            refine wl_q rfl rfl rfl (q_assign rfl rfl) ?_
            refine wl_keep (l' := [(5, Value.int .i64 (IntKind.i64.wrap (bt s_0 0))), (6, Value.string (s_0.extract 1 s_0.size)), (7, Value.int .u64 0)]) (keep_cons rfl (keep_cons rfl (keep_cons rfl keep_nil))) (wl_nil ?_)
            refine cw_seq ?_
            refine cw_seq ?_
            refine cw_region ?_
            refine wl_q rfl rfl rfl (q_move rfl rfl) ?_
            refine wl_q rfl rfl rfl (q_move rfl rfl) ?_
            obtain ⟨n11, c12, c13, c14, hD⟩ := hD
            refine wl_q rfl rfl rfl (q_slice_string rfl rfl Go.Proofs.Tryz.underlying9 rfl ⟨_, _, rfl, c12⟩ c13 c14) ?_
            refine wl_e rfl rfl rfl (e_conv_to_bytes rfl rfl Go.Proofs.Tryz.underlying9 Go.Proofs.Tryz.underlying33 Go.Proofs.Tryz.underlying5 ?_)
            intro c16 hz15 c17 e18
            have hD := hD c16 hz15 c17 e18
            refine wl_q rfl rfl rfl (q_len_slice rfl rfl Go.Proofs.Tryz.underlying33 rfl) ?_
            refine wl_q rfl rfl rfl (q_move rfl rfl) ?_
            refine wl_keep (l' := [(5, Value.int .i64 (IntKind.i64.wrap (bt s_0 0))), (7, Value.int .u64 0), (36, Sl.v (Sl.mk (some (blk hz9.size)) ((s_0.extract 1 s_0.size).extract 0 n11).size c16)), (37, Value.int .i64 ((Sl.mk (some (blk hz9.size)) ((s_0.extract 1 s_0.size).extract 0 n11).size c16).len : Int)), (38, Value.int .i64 0)]) (keep_cons rfl (keep_cons rfl (keep_cons rfl (keep_cons rfl (keep_cons rfl keep_nil))))) (wl_nil ?_)
            refine cw_block ?_
            obtain ⟨I, μ, hI30, hL31⟩ := hD
            refine cw_loops (σ := Int × Int) (fun s => [(5, Value.int .i64 (IntKind.i64.wrap (bt s_0 0))), (7, Value.int .u64 s.1), (36, Sl.v (Sl.mk (some (blk hz9.size)) ((s_0.extract 1 s_0.size).extract 0 n11).size c16)), (37, Value.int .i64 ((Sl.mk (some (blk hz9.size)) ((s_0.extract 1 s_0.size).extract 0 n11).size c16).len : Int)), (38, Value.int .i64 s.2)]) (0, 0) (fun s h => I s.1 s.2 h) (fun s h => μ s.1 s.2 h) (keep_cons rfl (keep_cons rfl (keep_cons rfl (keep_cons rfl (keep_cons rfl keep_nil))))) hI30 ?_
            rintro ⟨n19, x20⟩ hz21 hI
            have hD := hL31 n19 x20 hz21 hI
            obtain ⟨C22, hC22⟩ : ∃ c : Int → Int → Hp → Prop, c = (fun n19' x20' h' => I n19' x20' h' ∧ μ n19' x20' h' < μ n19 x20 hz21) := ⟨_, rfl⟩
            rw [← hC22] at hD
            unfold D_digits_GetNum_l1 at hD
            show cw _ _ _ [(5, Value.int .i64 (IntKind.i64.wrap (bt s_0 0))), (7, Value.int .u64 n19), (36, Sl.v (Sl.mk (some (blk hz9.size)) ((s_0.extract 1 s_0.size).extract 0 n11).size c16)), (37, Value.int .i64 ((Sl.mk (some (blk hz9.size)) ((s_0.extract 1 s_0.size).extract 0 n11).size c16).len : Int)), (38, Value.int .i64 x20)] _ _ _ _
            refine cw_seq ?_
            refine cw_region ?_
            refine wl_q rfl rfl rfl (q_bin rfl rfl rfl (fun _ _ => rfl)) ?_
            refine wl_keep (l' := [(5, Value.int .i64 (IntKind.i64.wrap (bt s_0 0))), (7, Value.int .u64 n19), (36, Sl.v (Sl.mk (some (blk hz9.size)) ((s_0.extract 1 s_0.size).extract 0 n11).size c16)), (37, Value.int .i64 ((Sl.mk (some (blk hz9.size)) ((s_0.extract 1 s_0.size).extract 0 n11).size c16).len : Int)), (38, Value.int .i64 x20), (39, Value.bool (decide (x20 < ((Sl.mk (some (blk hz9.size)) ((s_0.extract 1 s_0.size).extract 0 n11).size c16).len : Int))))]) (keep_cons rfl (keep_cons rfl (keep_cons rfl (keep_cons rfl (keep_cons rfl (keep_cons rfl keep_nil)))))) (wl_nil ?_)
            refine cw_seq ?_
            refine cw_cond rfl (fun hb23 => ?_) (fun hb23 => ?_)
            · have hD := ifT hb23 hD
              refine cw_skip ?_
              refine cw_seq ?_
              refine cw_block ?_
              refine cw_seq ?_
              refine cw_region ?_
              obtain ⟨a24, c25, c26, c27, hD⟩ := hD
              refine wl_q rfl rfl rfl (q_indexAddr rfl rfl rfl Go.Proofs.Tryz.underlying33 sz_5 c25 c26 c27) ?_
              obtain ⟨x28, c29, hD⟩ := hD
              refine wl_q rfl rfl rfl (q_load rfl rfl Go.Proofs.Tryz.underlying5 rfl (At.cell c29)) ?_
              refine wl_q rfl rfl rfl (q_assign rfl rfl) ?_
              refine wl_keep (l' := [(5, Value.int .i64 (IntKind.i64.wrap (bt s_0 0))), (7, Value.int .u64 n19), (9, Value.int .u8 x28), (36, Sl.v (Sl.mk (some (blk hz9.size)) ((s_0.extract 1 s_0.size).extract 0 n11).size c16)), (37, Value.int .i64 ((Sl.mk (some (blk hz9.size)) ((s_0.extract 1 s_0.size).extract 0 n11).size c16).len : Int)), (38, Value.int .i64 x20)]) (keep_cons rfl (keep_cons rfl (keep_cons rfl (keep_cons rfl (keep_cons rfl (keep_cons rfl keep_nil)))))) (wl_nil ?_)
              refine cw_region ?_
              refine wl_q rfl rfl rfl (q_move rfl rfl) ?_
              refine wl_q rfl rfl rfl (q_shl rfl rfl rfl (by decide)) ?_
              refine wl_q rfl rfl rfl (q_move rfl rfl) ?_
              refine wl_q rfl rfl rfl (q_conv_int rfl rfl Go.Proofs.Tryz.underlying5 Go.Proofs.Tryz.underlying24) ?_
              refine wl_q rfl rfl rfl (q_bin rfl rfl rfl (fun _ _ => rfl)) ?_
              refine wl_q rfl rfl rfl (q_assign rfl rfl) ?_
              refine wl_keep (l' := [(5, Value.int .i64 (IntKind.i64.wrap (bt s_0 0))), (7, Value.int .u64 (bitsI .or .u64 (IntKind.u64.wrap (n19 * 2 ^ (min (Int.toNat 8) 64))) (IntKind.u64.wrap x28))), (36, Sl.v (Sl.mk (some (blk hz9.size)) ((s_0.extract 1 s_0.size).extract 0 n11).size c16)), (37, Value.int .i64 ((Sl.mk (some (blk hz9.size)) ((s_0.extract 1 s_0.size).extract 0 n11).size c16).len : Int)), (38, Value.int .i64 x20)]) (keep_cons rfl (keep_cons rfl (keep_cons rfl (keep_cons rfl (keep_cons rfl keep_nil))))) (wl_nil ?_)
              refine cw_region ?_
              refine wl_q rfl rfl rfl (q_bin rfl rfl rfl (fun _ _ => rfl)) ?_
              refine wl_q rfl rfl rfl (q_move rfl rfl) ?_
              refine wl_keep (l' := [(5, Value.int .i64 (IntKind.i64.wrap (bt s_0 0))), (7, Value.int .u64 (bitsI .or .u64 (IntKind.u64.wrap (n19 * 2 ^ (min (Int.toNat 8) 64))) (IntKind.u64.wrap x28))), (36, Sl.v (Sl.mk (some (blk hz9.size)) ((s_0.extract 1 s_0.size).extract 0 n11).size c16)), (37, Value.int .i64 ((Sl.mk (some (blk hz9.size)) ((s_0.extract 1 s_0.size).extract 0 n11).size c16).len : Int)), (38, Value.int .i64 (IntKind.i64.wrap (x20 + 1)))]) (keep_cons rfl (keep_cons rfl (keep_cons rfl (keep_cons rfl (keep_cons rfl keep_nil))))) (wl_nil ?_)
              rw [hC22] at hD
              exact ⟨(bitsI .or .u64 (IntKind.u64.wrap (n19 * 2 ^ (min (Int.toNat 8) 64))) (IntKind.u64.wrap x28), IntKind.i64.wrap (x20 + 1)), (keep_cons rfl (keep_cons rfl (keep_cons rfl (keep_cons rfl (keep_cons rfl keep_nil))))), hD⟩
            · have hD := ifF hb23 hD
              refine cw_exit ?_
              refine xput_same ?_
              refine cw_seq ?_
              refine cw_region ?_
              refine wl_q rfl rfl rfl (q_move rfl rfl) ?_
              refine wl_q rfl rfl rfl (q_move rfl rfl) ?_
              refine wl_q rfl rfl rfl (q_bin rfl rfl rfl (fun _ _ => rfl)) ?_
              refine wl_q rfl rfl rfl (q_assign rfl rfl) ?_
              refine wl_q rfl rfl rfl (q_assign rfl rfl) ?_
              refine wl_q rfl rfl rfl (q_assign rfl rfl) ?_
              refine wl_keep (l' := [(2, Value.int .u64 n19), (3, Value.int .i64 (IntKind.i64.wrap (1 + (IntKind.i64.wrap (bt s_0 0))))), (4, Value.int .i64 0)]) (keep_cons rfl (keep_cons rfl (keep_cons rfl keep_nil))) (wl_nil ?_)
              refine cw_ret ?_
              exact ⟨_, resq3 rfl rfl rfl rfl, _, _, _, rfl, hD⟩
end Go.Proofs.YtgdmjdacmebfjaaGreatDoor.D

namespace Go.Proofs.YtgdmjdacmebfjaaGreatDoor.D
open Go
set_option maxRecDepth 100000
theorem S_sum_masks_step {m_0 : Option Addr} {c_1 : Int} {h0 : Hp} {K : Int → Hp → Prop} (hD : D_sum_masks_step m_0 c_1 h0 K) : C_sum_masks_step m_0 c_1 h0 K := by
  unfold D_sum_masks_step at hD
  refine calls_cw (args := [Value.pointer m_0, Value.int .u32 c_1]) Go.Proofs.Tryz.func66 rfl ?_
  show cw _ 14 _ [(0, Value.pointer m_0), (1, Value.int .u32 c_1)] _ _ _ _
  refine cw_seq ?_
  refine cw_region ?_
  refine wl_q rfl rfl rfl (q_assign rfl rfl) ?_
  refine wl_keep (l' := [(0, Value.pointer m_0), (1, Value.int .u32 c_1)]) (keep_cons rfl (keep_cons rfl keep_nil)) (wl_nil ?_)
  refine cw_seq ?_
  refine cw_region ?_
  refine wl_q rfl rfl rfl (q_move rfl rfl) ?_
  refine wl_q rfl rfl rfl (q_shr rfl rfl rfl (by decide)) ?_
  refine wl_q rfl rfl rfl (q_move rfl rfl) ?_
  refine wl_q rfl rfl rfl (q_move rfl rfl) ?_
  refine wl_q rfl rfl rfl (q_bin rfl rfl rfl (fun _ _ => rfl)) ?_
  obtain ⟨a1, c2, hD⟩ := hD
  refine wl_q rfl rfl rfl (q_nil rfl rfl c2) ?_
  obtain ⟨c3, c4, hD⟩ := hD
  refine wl_q rfl rfl rfl (q_indexAddr_array rfl rfl rfl Go.Proofs.Tryz.underlying104 sz_83 c3 c4) ?_
  obtain ⟨x5, c6, hD⟩ := hD
  refine wl_q rfl rfl rfl (q_load rfl rfl Go.Proofs.Tryz.underlying83 rfl (At.cell c6)) ?_
  refine wl_q rfl rfl rfl (q_bin rfl rfl rfl (fun _ _ => rfl)) ?_
  refine wl_q rfl rfl rfl (q_assign rfl rfl) ?_
  refine wl_keep (l' := [(4, Value.int .u32 (bitsI .xor .u32 (Int.fdiv c_1 (2 ^ (min (Int.toNat 1) 32))) x5))]) (keep_cons rfl keep_nil) (wl_nil ?_)
  refine cw_ret ?_
  exact ⟨_, resq1 rfl rfl, _, rfl, hD⟩
end Go.Proofs.YtgdmjdacmebfjaaGreatDoor.D

namespace Go.Proofs.YtgdmjdacmebfjaaGreatDoor.D
open Go
set_option maxRecDepth 100000
theorem S_strings_makeASCIISet {chars_0 : ByteArray} {h0 : Hp} {K : List Value → Bool → Hp → Prop} (hD : D_strings_makeASCIISet chars_0 h0 K) : C_strings_makeASCIISet chars_0 h0 K := by
  unfold D_strings_makeASCIISet at hD
  refine calls_cw (args := [Value.string chars_0]) Go.Proofs.Tryz.func69 rfl ?_
  show cw _ 21 _ [(0, Value.string chars_0)] _ _ _ _
  refine cw_seq ?_
  refine cw_region ?_
  refine wl_e rfl rfl rfl (e_alloc rfl zr_108 ?_)
  intro hz1 e2
  have hD := hD hz1 e2
  refine wl_q rfl rfl rfl (q_assign rfl rfl) ?_
  refine wl_keep (l' := [(0, Value.string chars_0), (2, Value.pointer (some (blk h0.size)))]) (keep_cons rfl (keep_cons rfl keep_nil)) (wl_nil ?_)
  refine cw_seq ?_
  refine cw_seq ?_
  refine cw_region ?_
  refine wl_q rfl rfl rfl (q_assign rfl rfl) ?_
  refine wl_keep (l' := [(0, Value.string chars_0), (2, Value.pointer (some (blk h0.size))), (4, Value.int .i64 0)]) (keep_cons rfl (keep_cons rfl (keep_cons rfl keep_nil))) (wl_nil ?_)
  refine cw_block ?_
  obtain ⟨I, μ, hI37, hL38⟩ := hD
  refine cw_loops (σ := Int) (fun s => [(0, Value.string chars_0), (2, Value.pointer (some (blk h0.size))), (4, Value.int .i64 s)]) (0) (fun s h => I s h) (fun s h => μ s h) (keep_cons rfl (keep_cons rfl (keep_cons rfl keep_nil))) hI37 ?_
  rintro i3 hz4 hI
  have hD := hL38 i3 hz4 hI
  obtain ⟨C5, hC5⟩ : ∃ c : Int → Hp → Prop, c = (fun i3' h' => I i3' h' ∧ μ i3' h' < μ i3 hz4) := ⟨_, rfl⟩
  rw [← hC5] at hD
  unfold D_strings_makeASCIISet_l1 at hD
  show cw _ _ _ [(0, Value.string chars_0), (2, Value.pointer (some (blk h0.size))), (4, Value.int .i64 i3)] _ _ _ _
  refine cw_seq ?_
  refine cw_seq ?_
  refine cw_region ?_
  refine wl_q rfl rfl rfl (q_move rfl rfl) ?_
  refine wl_q rfl rfl rfl (q_move rfl rfl) ?_
  refine wl_q rfl rfl rfl (q_len_string rfl rfl Go.Proofs.Tryz.underlying9 rfl) ?_
  refine wl_q rfl rfl rfl (q_bin rfl rfl rfl (fun _ _ => rfl)) ?_
  refine wl_keep (l' := [(0, Value.string chars_0), (2, Value.pointer (some (blk h0.size))), (4, Value.int .i64 i3), (9, Value.bool (decide (i3 < (chars_0.size : Int))))]) (keep_cons rfl (keep_cons rfl (keep_cons rfl (keep_cons rfl keep_nil)))) (wl_nil ?_)
  refine cw_cond rfl (fun hb6 => ?_) (fun hb6 => ?_)
  · have hD := ifT hb6 hD
    refine cw_skip ?_
    refine cw_seq ?_
    refine cw_block ?_
    refine cw_seq ?_
    refine cw_region ?_
    refine wl_q rfl rfl rfl (q_move rfl rfl) ?_
    refine wl_q rfl rfl rfl (q_move rfl rfl) ?_
    obtain ⟨c7, c8, hD⟩ := hD
    refine wl_q rfl rfl rfl (q_index_string rfl rfl rfl Go.Proofs.Tryz.underlying9 c7 c8) ?_
    refine wl_q rfl rfl rfl (q_assign rfl rfl) ?_
    refine wl_keep (l' := [(0, Value.string chars_0), (2, Value.pointer (some (blk h0.size))), (4, Value.int .i64 i3), (5, Value.int .u8 (bt chars_0 i3))]) (keep_cons rfl (keep_cons rfl (keep_cons rfl (keep_cons rfl keep_nil)))) (wl_nil ?_)
    refine cw_seq ?_
    refine cw_seq ?_
    refine cw_region ?_
    refine wl_q rfl rfl rfl (q_move rfl rfl) ?_
    refine wl_q rfl rfl rfl (q_bin rfl rfl rfl (fun _ _ => rfl)) ?_
    refine wl_keep (l' := [(0, Value.string chars_0), (2, Value.pointer (some (blk h0.size))), (4, Value.int .i64 i3), (5, Value.int .u8 (bt chars_0 i3)), (16, Value.bool (decide ((bt chars_0 i3) ≥ (128 : Int))))]) (keep_cons rfl (keep_cons rfl (keep_cons rfl (keep_cons rfl (keep_cons rfl keep_nil))))) (wl_nil ?_)
    refine cw_cond rfl (fun hb9 => ?_) (fun hb9 => ?_)
    · have hD := ifT hb9 hD
      refine cw_seq ?_
      refine cw_region ?_
      obtain ⟨xs10, c11, c12, hD⟩ := hD
      refine wl_q rfl rfl rfl (q_loads (vs := xs10) rfl rfl Go.Proofs.Tryz.underlying108 rfl (by rw [c11]; exact sz_108) (At.cells c12)) ?_
      obtain ⟨c14, c15, hD⟩ := hD
      refine wl_e0 rfl rfl (e_stores (vs := xs10) rfl rfl rfl (by rw [c14]; exact sz_108) c15 ?_)
      intro hz13 e16
      have hD := hD hz13 e16
      refine wl_q rfl rfl rfl (q_assign rfl rfl) ?_
      refine wl_keep (l' := [(2, Value.pointer (some (blk h0.size))), (3, Value.bool false)]) (keep_cons rfl (keep_cons rfl keep_nil)) (wl_nil ?_)
      refine cw_ret ?_
      obtain ⟨xs17, c18, c19, hD⟩ := hD
      exact ⟨_, resx2 rfl (resv_cells (vs := xs17) rfl Go.Proofs.Tryz.underlying108 rfl (by rw [c18]; exact sz_108) c19) (resv_tmp rfl), _, _, rfl, hD⟩
    · have hD := ifF hb9 hD
      refine cw_skip ?_
      refine cw_region ?_
      refine wl_q rfl rfl rfl (q_move rfl rfl) ?_
      obtain ⟨c20, c21, hD⟩ := hD
      refine wl_q rfl rfl rfl (q_indexAddr_array rfl rfl rfl Go.Proofs.Tryz.underlying108 sz_4 c20 c21) ?_
      obtain ⟨u23, c24, c25, hD⟩ := hD
      refine wl_e0 rfl rfl (e_store rfl rfl rfl sz_4 trivial c24 c25 ?_)
      intro hz22 e26
      have hD := hD hz22 e26
      refine wl_keep (l' := [(0, Value.string chars_0), (2, Value.pointer (some (blk h0.size))), (4, Value.int .i64 i3)]) (keep_cons rfl (keep_cons rfl (keep_cons rfl keep_nil))) (wl_nil ?_)
      refine cw_region ?_
      refine wl_q rfl rfl rfl (q_move rfl rfl) ?_
      refine wl_q rfl rfl rfl (q_bin rfl rfl rfl (fun _ _ => rfl)) ?_
      refine wl_q rfl rfl rfl (q_assign rfl rfl) ?_
      refine wl_keep (l' := [(0, Value.string chars_0), (2, Value.pointer (some (blk h0.size))), (4, Value.int .i64 (IntKind.i64.wrap (i3 + 1)))]) (keep_cons rfl (keep_cons rfl (keep_cons rfl keep_nil))) (wl_nil ?_)
      rw [hC5] at hD
      exact ⟨(IntKind.i64.wrap (i3 + 1)), (keep_cons rfl (keep_cons rfl (keep_cons rfl keep_nil))), hD⟩
  · have hD := ifF hb6 hD
    refine cw_exit ?_
    refine xput_same ?_
    refine cw_seq ?_
    refine cw_region ?_
    obtain ⟨xs27, c28, c29, hD⟩ := hD
    refine wl_q rfl rfl rfl (q_loads (vs := xs27) rfl rfl Go.Proofs.Tryz.underlying108 rfl (by rw [c28]; exact sz_108) (At.cells c29)) ?_
    obtain ⟨c31, c32, hD⟩ := hD
    refine wl_e0 rfl rfl (e_stores (vs := xs27) rfl rfl rfl (by rw [c31]; exact sz_108) c32 ?_)
    intro hz30 e33
    have hD := hD hz30 e33
    refine wl_q rfl rfl rfl (q_assign rfl rfl) ?_
    refine wl_keep (l' := [(2, Value.pointer (some (blk h0.size))), (3, Value.bool true)]) (keep_cons rfl (keep_cons rfl keep_nil)) (wl_nil ?_)
    refine cw_ret ?_
    obtain ⟨xs34, c35, c36, hD⟩ := hD
    exact ⟨_, resx2 rfl (resv_cells (vs := xs34) rfl Go.Proofs.Tryz.underlying108 rfl (by rw [c35]; exact sz_108) c36) (resv_tmp rfl), _, _, rfl, hD⟩
end Go.Proofs.YtgdmjdacmebfjaaGreatDoor.D

namespace Go.Proofs.YtgdmjdacmebfjaaGreatDoor.D
open Go
set_option maxRecDepth 100000
theorem S_strings_trimLeftASCII {s_0 : ByteArray} {as_1 : Option Addr} {h0 : Hp} {K : ByteArray → Hp → Prop} (hD : D_strings_trimLeftASCII s_0 as_1 h0 K) : C_strings_trimLeftASCII s_0 as_1 h0 K := by
  unfold D_strings_trimLeftASCII at hD
  refine calls_cw (args := [Value.string s_0, Value.pointer as_1]) Go.Proofs.Tryz.func70 rfl ?_
  show cw _ 16 _ [(0, Value.string s_0), (1, Value.pointer as_1)] _ _ _ _
  refine cw_seq ?_
  refine cw_region ?_
  refine wl_q rfl rfl rfl (q_assign rfl rfl) ?_
  refine wl_keep (l' := [(0, Value.string s_0), (1, Value.pointer as_1)]) (keep_cons rfl (keep_cons rfl keep_nil)) (wl_nil ?_)
  refine cw_cut (fun l h => ∃ (s1 : ByteArray), Keep l [(0, Value.string s1)] ∧ D_strings_trimLeftASCII_j1 K s1 h) ?_ ?_
  · refine cw_block ?_
    obtain ⟨I, μ, hI14, hL15⟩ := hD
    refine cw_loops (σ := ByteArray) (fun s => [(0, Value.string s), (1, Value.pointer as_1)]) (s_0) (fun s h => I s h) (fun s h => μ s h) (keep_cons rfl (keep_cons rfl keep_nil)) hI14 ?_
    rintro s3 hz4 hI
    have hD := hL15 s3 hz4 hI
    obtain ⟨C5, hC5⟩ : ∃ c : ByteArray → Hp → Prop, c = (fun s3' h' => I s3' h' ∧ μ s3' h' < μ s3 hz4) := ⟨_, rfl⟩
    rw [← hC5] at hD
    unfold D_strings_trimLeftASCII_l2 at hD
    show cw _ _ _ [(0, Value.string s3), (1, Value.pointer as_1)] _ _ _ _
    refine cw_seq ?_
    refine cw_seq ?_
    refine cw_region ?_
    refine wl_q rfl rfl rfl (q_move rfl rfl) ?_
    refine wl_q rfl rfl rfl (q_len_string rfl rfl Go.Proofs.Tryz.underlying9 rfl) ?_
    refine wl_q rfl rfl rfl (q_bin rfl rfl rfl (fun _ _ => rfl)) ?_
    refine wl_keep (l' := [(0, Value.string s3), (1, Value.pointer as_1), (7, Value.bool (decide ((s3.size : Int) > (0 : Int))))]) (keep_cons rfl (keep_cons rfl (keep_cons rfl keep_nil))) (wl_nil ?_)
    refine cw_cond rfl (fun hb6 => ?_) (fun hb6 => ?_)
    · have hD := ifT hb6 hD
      refine cw_skip ?_
      refine cw_block ?_
      refine cw_seq ?_
      refine cw_seq ?_
      refine cw_region ?_
      refine wl_q rfl rfl rfl (q_move rfl rfl) ?_
      refine wl_q rfl rfl rfl (q_move rfl rfl) ?_
      obtain ⟨c7, c8, hD⟩ := hD
      refine wl_q rfl rfl rfl (q_index_string rfl rfl rfl Go.Proofs.Tryz.underlying9 c7 c8) ?_
      refine wl_e rfl rfl rfl (e_call (first := []) (vs := [Value.pointer as_1, Value.int .u8 (bt s3 0)]) (cap := []) rfl rfl rfl cf_85 (CallsH.mono hD ?_))
      rintro _ hz9 ⟨r10, rfl, hD⟩
      refine wl_q rfl rfl rfl (q_un rfl rfl (fun _ => rfl)) ?_
      refine wl_keep (l' := [(0, Value.string s3), (1, Value.pointer as_1), (12, Value.bool (!r10))]) (keep_cons rfl (keep_cons rfl (keep_cons rfl keep_nil))) (wl_nil ?_)
      refine cw_cond rfl (fun hb11 => ?_) (fun hb11 => ?_)
      · have hD := ifT hb11 hD
        refine cw_exit ?_
        refine xput_other rfl ?_
        refine xput_same ?_
        exact ⟨_, (keep_cons rfl keep_nil), hD⟩
      · have hD := ifF hb11 hD
        refine cw_skip ?_
        refine cw_region ?_
        refine wl_q rfl rfl rfl (q_move rfl rfl) ?_
        obtain ⟨c12, c13, hD⟩ := hD
        refine wl_q rfl rfl rfl (q_slice_string rfl rfl Go.Proofs.Tryz.underlying9 ⟨_, _, rfl, rfl⟩ rfl c12 c13) ?_
        refine wl_q rfl rfl rfl (q_assign rfl rfl) ?_
        refine wl_keep (l' := [(0, Value.string (s3.extract 1 s3.size)), (1, Value.pointer as_1)]) (keep_cons rfl (keep_cons rfl keep_nil)) (wl_nil ?_)
        rw [hC5] at hD
        exact ⟨(s3.extract 1 s3.size), (keep_cons rfl (keep_cons rfl keep_nil)), hD⟩
    · have hD := ifF hb6 hD
      refine cw_exit ?_
      refine xput_same ?_
      exact ⟨_, (keep_cons rfl keep_nil), hD⟩
  · rintro l17 hz2 ⟨s1, hk16, hD⟩
    refine cw_keep hk16 ?_
    unfold D_strings_trimLeftASCII_j1 at hD
    refine cw_seq ?_
    refine cw_region ?_
    refine wl_q rfl rfl rfl (q_move rfl rfl) ?_
    refine wl_q rfl rfl rfl (q_assign rfl rfl) ?_
    refine wl_keep (l' := [(4, Value.string s1)]) (keep_cons rfl keep_nil) (wl_nil ?_)
    refine cw_ret ?_
    exact ⟨_, resq1 rfl rfl, _, rfl, hD⟩
end Go.Proofs.YtgdmjdacmebfjaaGreatDoor.D

namespace Go.Proofs.YtgdmjdacmebfjaaGreatDoor.D
open Go
set_option maxRecDepth 100000
theorem S_strings_trimRightASCII {s_0 : ByteArray} {as_1 : Option Addr} {h0 : Hp} {K : ByteArray → Hp → Prop} (hD : D_strings_trimRightASCII s_0 as_1 h0 K) : C_strings_trimRightASCII s_0 as_1 h0 K := by
  unfold D_strings_trimRightASCII at hD
  refine calls_cw (args := [Value.string s_0, Value.pointer as_1]) Go.Proofs.Tryz.func71 rfl ?_
  show cw _ 22 _ [(0, Value.string s_0), (1, Value.pointer as_1)] _ _ _ _
  refine cw_seq ?_
  refine cw_region ?_
  refine wl_q rfl rfl rfl (q_assign rfl rfl) ?_
  refine wl_keep (l' := [(0, Value.string s_0), (1, Value.pointer as_1)]) (keep_cons rfl (keep_cons rfl keep_nil)) (wl_nil ?_)
  refine cw_cut (fun l h => ∃ (s1 : ByteArray), Keep l [(0, Value.string s1)] ∧ D_strings_trimRightASCII_j1 K s1 h) ?_ ?_
  · refine cw_block ?_
    obtain ⟨I, μ, hI16, hL17⟩ := hD
    refine cw_loops (σ := ByteArray) (fun s => [(0, Value.string s), (1, Value.pointer as_1)]) (s_0) (fun s h => I s h) (fun s h => μ s h) (keep_cons rfl (keep_cons rfl keep_nil)) hI16 ?_
    rintro s3 hz4 hI
    have hD := hL17 s3 hz4 hI
    obtain ⟨C5, hC5⟩ : ∃ c : ByteArray → Hp → Prop, c = (fun s3' h' => I s3' h' ∧ μ s3' h' < μ s3 hz4) := ⟨_, rfl⟩
    rw [← hC5] at hD
    unfold D_strings_trimRightASCII_l2 at hD
    show cw _ _ _ [(0, Value.string s3), (1, Value.pointer as_1)] _ _ _ _
    refine cw_seq ?_
    refine cw_seq ?_
    refine cw_region ?_
    refine wl_q rfl rfl rfl (q_move rfl rfl) ?_
    refine wl_q rfl rfl rfl (q_len_string rfl rfl Go.Proofs.Tryz.underlying9 rfl) ?_
    refine wl_q rfl rfl rfl (q_bin rfl rfl rfl (fun _ _ => rfl)) ?_
    refine wl_keep (l' := [(0, Value.string s3), (1, Value.pointer as_1), (7, Value.bool (decide ((s3.size : Int) > (0 : Int))))]) (keep_cons rfl (keep_cons rfl (keep_cons rfl keep_nil))) (wl_nil ?_)
    refine cw_cond rfl (fun hb6 => ?_) (fun hb6 => ?_)
    · have hD := ifT hb6 hD
      refine cw_skip ?_
      refine cw_block ?_
      refine cw_seq ?_
      refine cw_seq ?_
      refine cw_region ?_
      refine wl_q rfl rfl rfl (q_move rfl rfl) ?_
      refine wl_q rfl rfl rfl (q_move rfl rfl) ?_
      refine wl_q rfl rfl rfl (q_move rfl rfl) ?_
      refine wl_q rfl rfl rfl (q_len_string rfl rfl Go.Proofs.Tryz.underlying9 rfl) ?_
      refine wl_q rfl rfl rfl (q_bin rfl rfl rfl (fun _ _ => rfl)) ?_
      obtain ⟨c7, c8, hD⟩ := hD
      refine wl_q rfl rfl rfl (q_index_string rfl rfl rfl Go.Proofs.Tryz.underlying9 c7 c8) ?_
      refine wl_e rfl rfl rfl (e_call (first := []) (vs := [Value.pointer as_1, Value.int .u8 (bt s3 (IntKind.i64.wrap ((s3.size : Int) - 1)))]) (cap := []) rfl rfl rfl cf_85 (CallsH.mono hD ?_))
      rintro _ hz9 ⟨r10, rfl, hD⟩
      refine wl_q rfl rfl rfl (q_un rfl rfl (fun _ => rfl)) ?_
      refine wl_keep (l' := [(0, Value.string s3), (1, Value.pointer as_1), (15, Value.bool (!r10))]) (keep_cons rfl (keep_cons rfl (keep_cons rfl keep_nil))) (wl_nil ?_)
      refine cw_cond rfl (fun hb11 => ?_) (fun hb11 => ?_)
      · have hD := ifT hb11 hD
        refine cw_exit ?_
        refine xput_other rfl ?_
        refine xput_same ?_
        exact ⟨_, (keep_cons rfl keep_nil), hD⟩
      · have hD := ifF hb11 hD
        refine cw_skip ?_
        refine cw_region ?_
        refine wl_q rfl rfl rfl (q_move rfl rfl) ?_
        refine wl_q rfl rfl rfl (q_move rfl rfl) ?_
        refine wl_q rfl rfl rfl (q_len_string rfl rfl Go.Proofs.Tryz.underlying9 rfl) ?_
        refine wl_q rfl rfl rfl (q_bin rfl rfl rfl (fun _ _ => rfl)) ?_
        obtain ⟨n12, c13, c14, c15, hD⟩ := hD
        refine wl_q rfl rfl rfl (q_slice_string rfl rfl Go.Proofs.Tryz.underlying9 rfl ⟨_, _, rfl, c13⟩ c14 c15) ?_
        refine wl_q rfl rfl rfl (q_assign rfl rfl) ?_
        refine wl_keep (l' := [(0, Value.string (s3.extract 0 n12)), (1, Value.pointer as_1)]) (keep_cons rfl (keep_cons rfl keep_nil)) (wl_nil ?_)
        rw [hC5] at hD
        exact ⟨(s3.extract 0 n12), (keep_cons rfl (keep_cons rfl keep_nil)), hD⟩
    · have hD := ifF hb6 hD
      refine cw_exit ?_
      refine xput_same ?_
      exact ⟨_, (keep_cons rfl keep_nil), hD⟩
  · rintro l19 hz2 ⟨s1, hk18, hD⟩
    refine cw_keep hk18 ?_
    unfold D_strings_trimRightASCII_j1 at hD
    refine cw_seq ?_
    refine cw_region ?_
    refine wl_q rfl rfl rfl (q_move rfl rfl) ?_
    refine wl_q rfl rfl rfl (q_assign rfl rfl) ?_
    refine wl_keep (l' := [(4, Value.string s1)]) (keep_cons rfl keep_nil) (wl_nil ?_)
    refine cw_ret ?_
    exact ⟨_, resq1 rfl rfl, _, rfl, hD⟩
end Go.Proofs.YtgdmjdacmebfjaaGreatDoor.D

namespace Go.Proofs.YtgdmjdacmebfjaaGreatDoor.D
open Go
set_option maxRecDepth 100000
theorem S_strings_asciiSet_contains {as_0 : Option Addr} {c_1 : Int} {h0 : Hp} {K : Bool → Hp → Prop} (hD : D_strings_asciiSet_contains as_0 c_1 h0 K) : C_strings_asciiSet_contains as_0 c_1 h0 K := by
  unfold D_strings_asciiSet_contains at hD
  refine calls_cw (args := [Value.pointer as_0, Value.int .u8 c_1]) Go.Proofs.Tryz.func85 rfl ?_
  show cw _ 10 _ [(0, Value.pointer as_0), (1, Value.int .u8 c_1)] _ _ _ _
  refine cw_seq ?_
  refine cw_region ?_
  refine wl_q rfl rfl rfl (q_assign rfl rfl) ?_
  refine wl_keep (l' := [(0, Value.pointer as_0), (1, Value.int .u8 c_1)]) (keep_cons rfl (keep_cons rfl keep_nil)) (wl_nil ?_)
  refine cw_seq ?_
  refine cw_region ?_
  refine wl_q rfl rfl rfl (q_move rfl rfl) ?_
  refine wl_q rfl rfl rfl (q_move rfl rfl) ?_
  obtain ⟨a1, c2, hD⟩ := hD
  refine wl_q rfl rfl rfl (q_nil rfl rfl c2) ?_
  obtain ⟨c3, c4, hD⟩ := hD
  refine wl_q rfl rfl rfl (q_indexAddr_array rfl rfl rfl Go.Proofs.Tryz.underlying108 sz_4 c3 c4) ?_
  obtain ⟨x5, c6, hD⟩ := hD
  refine wl_q rfl rfl rfl (q_load rfl rfl Go.Proofs.Tryz.underlying4 rfl (At.cell c6)) ?_
  refine wl_q rfl rfl rfl (q_assign rfl rfl) ?_
  refine wl_keep (l' := [(4, Value.bool x5)]) (keep_cons rfl keep_nil) (wl_nil ?_)
  refine cw_ret ?_
  exact ⟨_, resq1 rfl rfl, _, rfl, hD⟩
end Go.Proofs.YtgdmjdacmebfjaaGreatDoor.D
