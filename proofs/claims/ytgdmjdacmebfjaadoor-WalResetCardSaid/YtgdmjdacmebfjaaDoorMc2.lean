/-
  Each function's code does what its plain text says (written by a program). No conditions.
-/
import Derived.Test.YtgdmjdacmebfjaaDoorMb
namespace Go.Proofs.YtgdmjdacmebfjaaDoor.D
open Go
set_option maxRecDepth 100000
theorem S_wal_segment_last {s_0 : Option Addr} {h0 : Hp} {K : Int → Hp → Prop} (hD : D_wal_segment_last s_0 h0 K) : C_wal_segment_last s_0 h0 K := by
  unfold D_wal_segment_last at hD
  refine calls_cw (args := [Value.pointer s_0]) Go.Proofs.Tryd.func34 rfl ?_
  show cw _ 14 _ [(0, Value.pointer s_0)] _ _ _ _
  refine cw_seq ?_
  refine cw_region ?_
  refine wl_q rfl rfl rfl (q_assign rfl rfl) ?_
  refine wl_keep (l' := [(0, Value.pointer s_0)]) (keep_cons rfl keep_nil) (wl_nil ?_)
  refine cw_seq ?_
  obtain ⟨a1, c2, hD⟩ := hD
  obtain ⟨x3, c4, hD⟩ := hD
  obtain ⟨x5, c6, hD⟩ := hD
  refine cw_draw (fun h => cellH h (a1.add 0) = some (Value.int .i64 x3) ∧ cellH h (a1.add 1) = some (Sl.v x5) ∧ True) 12 wide ?_
  have hS : cellH h0 (a1.add 0) = some (Value.int .i64 x3) ∧ cellH h0 (a1.add 1) = some (Sl.v x5) ∧ True := ⟨c4, c6, trivial⟩
  refine wh_q 0 rfl (by kernel_rfl) rfl rfl rfl (q_move rfl rfl) (by exact hS) ?_
  refine wh_q 1 rfl (by kernel_rfl) rfl rfl rfl (q_nil rfl rfl c2) (by exact hS) ?_
  refine wh_q 2 rfl (by kernel_rfl) rfl rfl rfl (q_fieldAddr rfl rfl fo_62_0) (by exact hS) ?_
  refine wh_q 3 rfl (by kernel_rfl) rfl rfl rfl (q_load rfl rfl Go.Proofs.Tryd.underlying3 rfl (by exact fun _ s => s.1)) (by exact hS) ?_
  refine wh_q 4 rfl (by kernel_rfl) rfl rfl rfl (q_move rfl rfl) (by exact hS) ?_
  refine wh_q 5 rfl (by kernel_rfl) rfl rfl rfl (q_nil rfl rfl c2) (by exact hS) ?_
  refine wh_q 6 rfl (by kernel_rfl) rfl rfl rfl (q_fieldAddr rfl rfl fo_62_1) (by exact hS) ?_
  refine wh_q 7 rfl (by kernel_rfl) rfl rfl rfl (q_load rfl rfl Go.Proofs.Tryd.underlying22 rfl (by exact fun _ s => s.2.1)) (by exact hS) ?_
  refine wh_q 8 rfl (by kernel_rfl) rfl rfl rfl (q_len_slice rfl rfl Go.Proofs.Tryd.underlying22 rfl) (by exact hS) ?_
  refine wh_q 9 rfl (by kernel_rfl) rfl rfl rfl (q_bin rfl rfl rfl (fun _ _ => rfl)) (by exact hS) ?_
  refine wh_q 10 rfl (by kernel_rfl) rfl rfl rfl (q_bin rfl rfl rfl (fun _ _ => rfl)) (by exact hS) ?_
  refine wh_q 11 rfl (by kernel_rfl) rfl rfl rfl (q_assign rfl rfl) (by exact hS) ?_
  refine wh_keep (l' := [(2, Value.int .i64 (IntKind.i64.wrap ((IntKind.i64.wrap (x3 + (x5.len : Int))) - 1)))]) (keep_cons rfl keep_nil) (wh_done (by kernel_rfl) ?_)
  refine cw_ret ?_
  exact ⟨_, resq1 rfl rfl, _, rfl, hD⟩
end Go.Proofs.YtgdmjdacmebfjaaDoor.D

namespace Go.Proofs.YtgdmjdacmebfjaaDoor.D
open Go
set_option maxRecDepth 100000
theorem S_frame_Get {s_0 : ByteArray} {h0 : Hp} {K : Int → ByteArray → Int → Int → Hp → Prop} (hD : D_frame_Get s_0 h0 K) : C_frame_Get s_0 h0 K := by
  unfold D_frame_Get at hD
  refine calls_cw (args := [Value.string s_0]) Go.Proofs.Tryd.func35 rfl ?_
  show cw _ 57 _ [(0, Value.string s_0)] _ _ _ _
  refine cw_seq ?_
  refine cw_region ?_
  refine wl_e rfl rfl rfl (e_alloc rfl zr_60 ?_)
  intro hz1 e2
  have hD := hD hz1 e2
  refine wl_q rfl rfl rfl (q_assign rfl rfl) ?_
  refine wl_q rfl rfl rfl (q_assign rfl rfl) ?_
  refine wl_keep (l' := [(0, Value.string s_0), (2, Value.pointer (some (blk h0.size)))]) (keep_cons rfl (keep_cons rfl keep_nil)) (wl_nil ?_)
  refine cw_seq ?_
  refine cw_block ?_
  refine cw_seq ?_
  refine cw_region ?_
  refine wl_q rfl rfl rfl (q_move rfl rfl) ?_
  refine wl_q rfl rfl rfl (q_bin rfl rfl rfl (fun _ _ => rfl)) ?_
  refine wl_q rfl rfl rfl (q_assign rfl rfl) ?_
  refine wl_keep (l' := [(0, Value.string s_0), (2, Value.pointer (some (blk h0.size))), (9, Value.bool (s_0.toList == (ByteArray.mk #[]).toList))]) (keep_cons rfl (keep_cons rfl (keep_cons rfl keep_nil))) (wl_nil ?_)
  refine cw_cond rfl (fun hb3 => ?_) (fun hb3 => ?_)
  · have hD := ifT hb3 hD
    refine cw_seq ?_
    refine cw_region ?_
    refine wl_q rfl rfl rfl (q_build (v := Value.agg #[Value.int .i64 0, Value.string ByteArray.empty]) rfl rfl (fun _ _ => by kernel_rfl)) ?_
    obtain ⟨c5, hD⟩ := hD
    refine wl_e0 rfl rfl (e_stores (vs := [Value.int .i64 0, Value.string ByteArray.empty]) rfl rfl rfl sz_60 c5 ?_)
    intro hz4 e6
    have hD := hD hz4 e6
    refine wl_q rfl rfl rfl (q_assign rfl rfl) ?_
    refine wl_q rfl rfl rfl (q_assign rfl rfl) ?_
    refine wl_keep (l' := [(2, Value.pointer (some (blk h0.size))), (3, Value.int .i64 0), (4, Value.int .i64 1)]) (keep_cons rfl (keep_cons rfl (keep_cons rfl keep_nil))) (wl_nil ?_)
    refine cw_ret ?_
    obtain ⟨y7, y8, c9, hD⟩ := hD
    exact ⟨_, resx3 rfl (resv_cells (vs := [Value.int .i64 y7, Value.string y8]) rfl Go.Proofs.Tryd.underlying60 rfl sz_60 c9) (resv_tmp rfl) (resv_tmp rfl), _, _, _, _, rfl, hD⟩
  · have hD := ifF hb3 hD
    refine cw_seq ?_
    refine cw_region ?_
    refine wl_q rfl rfl rfl (q_move rfl rfl) ?_
    obtain ⟨c10, c11, hD⟩ := hD
    refine wl_q rfl rfl rfl (q_index_string rfl rfl rfl Go.Proofs.Tryd.underlying9 c10 c11) ?_
    refine wl_q rfl rfl rfl (q_bin rfl rfl rfl (fun _ _ => rfl)) ?_
    refine wl_q rfl rfl rfl (q_assign rfl rfl) ?_
    refine wl_keep (l' := [(0, Value.string s_0), (2, Value.pointer (some (blk h0.size))), (13, Value.bool ((bt s_0 0) == (0 : Int)))]) (keep_cons rfl (keep_cons rfl (keep_cons rfl keep_nil))) (wl_nil ?_)
    refine cw_cond rfl (fun hb12 => ?_) (fun hb12 => ?_)
    · have hD := ifT hb12 hD
      refine cw_seq ?_
      refine cw_region ?_
      refine wl_q rfl rfl rfl (q_build (v := Value.agg #[Value.int .i64 0, Value.string ByteArray.empty]) rfl rfl (fun _ _ => by kernel_rfl)) ?_
      obtain ⟨c14, hD⟩ := hD
      refine wl_e0 rfl rfl (e_stores (vs := [Value.int .i64 0, Value.string ByteArray.empty]) rfl rfl rfl sz_60 c14 ?_)
      intro hz13 e15
      have hD := hD hz13 e15
      refine wl_q rfl rfl rfl (q_assign rfl rfl) ?_
      refine wl_q rfl rfl rfl (q_assign rfl rfl) ?_
      refine wl_keep (l' := [(2, Value.pointer (some (blk h0.size))), (3, Value.int .i64 0), (4, Value.int .i64 5)]) (keep_cons rfl (keep_cons rfl (keep_cons rfl keep_nil))) (wl_nil ?_)
      refine cw_ret ?_
      obtain ⟨y16, y17, c18, hD⟩ := hD
      exact ⟨_, resx3 rfl (resv_cells (vs := [Value.int .i64 y16, Value.string y17]) rfl Go.Proofs.Tryd.underlying60 rfl sz_60 c18) (resv_tmp rfl) (resv_tmp rfl), _, _, _, _, rfl, hD⟩
    · have hD := ifF hb12 hD
      refine cw_skip ?_
      refine cw_seq ?_
      refine cw_region ?_
      refine wl_q rfl rfl rfl (q_move rfl rfl) ?_
      obtain ⟨c19, c20, hD⟩ := hD
      refine wl_q rfl rfl rfl (q_slice_string rfl rfl Go.Proofs.Tryd.underlying9 ⟨_, _, rfl, rfl⟩ rfl c19 c20) ?_
      refine wl_e rfl rfl rfl (e_call (first := []) (vs := [Value.string (s_0.extract 1 s_0.size), Value.int .i64 65536]) (cap := []) rfl rfl rfl cf_53 (CallsH.mono hD ?_))
      rintro _ hz21 ⟨r22, r23, r24, rfl, hD⟩
      refine wl_q rfl rfl rfl (q_move rfl rfl) ?_
      refine wl_q rfl rfl rfl (q_extract rfl rfl rfl) ?_
      refine wl_q rfl rfl rfl (q_extract rfl rfl rfl) ?_
      refine wl_q rfl rfl rfl (q_extract rfl rfl rfl) ?_
      refine wl_q rfl rfl rfl (q_assign rfl rfl) ?_
      refine wl_q rfl rfl rfl (q_assign rfl rfl) ?_
      refine wl_q rfl rfl rfl (q_assign rfl rfl) ?_
      refine wl_keep (l' := [(0, Value.string s_0), (2, Value.pointer (some (blk h0.size))), (5, Value.string r22), (6, Value.int .i64 r23), (7, Value.int .i64 r24)]) (keep_cons rfl (keep_cons rfl (keep_cons rfl (keep_cons rfl (keep_cons rfl keep_nil))))) (wl_nil ?_)
      refine cw_seq ?_
      refine cw_seq ?_
      refine cw_region ?_
      refine wl_q rfl rfl rfl (q_move rfl rfl) ?_
      refine wl_q rfl rfl rfl (q_bin rfl rfl rfl (fun _ _ => rfl)) ?_
      refine wl_keep (l' := [(0, Value.string s_0), (2, Value.pointer (some (blk h0.size))), (5, Value.string r22), (6, Value.int .i64 r23), (7, Value.int .i64 r24), (26, Value.bool (r24 != (0 : Int)))]) (keep_cons rfl (keep_cons rfl (keep_cons rfl (keep_cons rfl (keep_cons rfl (keep_cons rfl keep_nil)))))) (wl_nil ?_)
      refine cw_cond rfl (fun hb25 => ?_) (fun hb25 => ?_)
      · have hD := ifT hb25 hD
        refine cw_seq ?_
        refine cw_region ?_
        refine wl_q rfl rfl rfl (q_build (v := Value.agg #[Value.int .i64 0, Value.string ByteArray.empty]) rfl rfl (fun _ _ => by kernel_rfl)) ?_
        refine wl_q rfl rfl rfl (q_move rfl rfl) ?_
        obtain ⟨c27, hD⟩ := hD
        refine wl_e0 rfl rfl (e_stores (vs := [Value.int .i64 0, Value.string ByteArray.empty]) rfl rfl rfl sz_60 c27 ?_)
        intro hz26 e28
        have hD := hD hz26 e28
        refine wl_q rfl rfl rfl (q_assign rfl rfl) ?_
        refine wl_q rfl rfl rfl (q_assign rfl rfl) ?_
        refine wl_keep (l' := [(2, Value.pointer (some (blk h0.size))), (3, Value.int .i64 0), (4, Value.int .i64 r24)]) (keep_cons rfl (keep_cons rfl (keep_cons rfl keep_nil))) (wl_nil ?_)
        refine cw_ret ?_
        obtain ⟨y29, y30, c31, hD⟩ := hD
        exact ⟨_, resx3 rfl (resv_cells (vs := [Value.int .i64 y29, Value.string y30]) rfl Go.Proofs.Tryd.underlying60 rfl sz_60 c31) (resv_tmp rfl) (resv_tmp rfl), _, _, _, _, rfl, hD⟩
      · have hD := ifF hb25 hD
        refine cw_skip ?_
        refine cw_seq ?_
        refine cw_region ?_
        refine wl_q rfl rfl rfl (q_move rfl rfl) ?_
        refine wl_q rfl rfl rfl (q_bin rfl rfl rfl (fun _ _ => rfl)) ?_
        refine wl_q rfl rfl rfl (q_assign rfl rfl) ?_
        refine wl_keep (l' := [(0, Value.string s_0), (2, Value.pointer (some (blk h0.size))), (5, Value.string r22), (6, Value.int .i64 (IntKind.i64.wrap (r23 + 1)))]) (keep_cons rfl (keep_cons rfl (keep_cons rfl (keep_cons rfl keep_nil)))) (wl_nil ?_)
        refine cw_seq ?_
        refine cw_region ?_
        refine wl_q rfl rfl rfl (q_move rfl rfl) ?_
        refine wl_q rfl rfl rfl (q_bin rfl rfl rfl (fun _ _ => rfl)) ?_
        refine wl_q rfl rfl rfl (q_assign rfl rfl) ?_
        refine wl_keep (l' := [(0, Value.string s_0), (2, Value.pointer (some (blk h0.size))), (5, Value.string r22), (6, Value.int .i64 (IntKind.i64.wrap (r23 + 1))), (8, Value.int .i64 (IntKind.i64.wrap ((IntKind.i64.wrap (r23 + 1)) + 4)))]) (keep_cons rfl (keep_cons rfl (keep_cons rfl (keep_cons rfl (keep_cons rfl keep_nil))))) (wl_nil ?_)
        refine cw_seq ?_
        refine cw_block ?_
        refine cw_seq ?_
        refine cw_region ?_
        refine wl_q rfl rfl rfl (q_move rfl rfl) ?_
        refine wl_q rfl rfl rfl (q_move rfl rfl) ?_
        refine wl_q rfl rfl rfl (q_len_string rfl rfl Go.Proofs.Tryd.underlying9 rfl) ?_
        refine wl_q rfl rfl rfl (q_bin rfl rfl rfl (fun _ _ => rfl)) ?_
        refine wl_q rfl rfl rfl (q_assign rfl rfl) ?_
        refine wl_keep (l' := [(0, Value.string s_0), (2, Value.pointer (some (blk h0.size))), (5, Value.string r22), (6, Value.int .i64 (IntKind.i64.wrap (r23 + 1))), (8, Value.int .i64 (IntKind.i64.wrap ((IntKind.i64.wrap (r23 + 1)) + 4))), (33, Value.bool (decide ((IntKind.i64.wrap ((IntKind.i64.wrap (r23 + 1)) + 4)) > (s_0.size : Int))))]) (keep_cons rfl (keep_cons rfl (keep_cons rfl (keep_cons rfl (keep_cons rfl (keep_cons rfl keep_nil)))))) (wl_nil ?_)
        refine cw_cond rfl (fun hb32 => ?_) (fun hb32 => ?_)
        · have hD := ifT hb32 hD
          refine cw_seq ?_
          refine cw_region ?_
          refine wl_q rfl rfl rfl (q_build (v := Value.agg #[Value.int .i64 0, Value.string ByteArray.empty]) rfl rfl (fun _ _ => by kernel_rfl)) ?_
          obtain ⟨c34, hD⟩ := hD
          refine wl_e0 rfl rfl (e_stores (vs := [Value.int .i64 0, Value.string ByteArray.empty]) rfl rfl rfl sz_60 c34 ?_)
          intro hz33 e35
          have hD := hD hz33 e35
          refine wl_q rfl rfl rfl (q_assign rfl rfl) ?_
          refine wl_q rfl rfl rfl (q_assign rfl rfl) ?_
          refine wl_keep (l' := [(2, Value.pointer (some (blk h0.size))), (3, Value.int .i64 0), (4, Value.int .i64 1)]) (keep_cons rfl (keep_cons rfl (keep_cons rfl keep_nil))) (wl_nil ?_)
          refine cw_ret ?_
          obtain ⟨y36, y37, c38, hD⟩ := hD
          exact ⟨_, resx3 rfl (resv_cells (vs := [Value.int .i64 y36, Value.string y37]) rfl Go.Proofs.Tryd.underlying60 rfl sz_60 c38) (resv_tmp rfl) (resv_tmp rfl), _, _, _, _, rfl, hD⟩
        · have hD := ifF hb32 hD
          refine cw_seq ?_
          obtain ⟨n39, c40, n41, c42, c43, c44, hD⟩ := hD
          obtain ⟨n45, c46, c47, c48, hD⟩ := hD
          refine cw_draw (fun h => True) 11 wide ?_
          have hS : True := trivial
          refine wh_q 0 rfl (by kernel_rfl) rfl rfl rfl (q_move rfl rfl) (by exact hS) ?_
          refine wh_q 1 rfl (by kernel_rfl) rfl rfl rfl (q_move rfl rfl) (by exact hS) ?_
          refine wh_q 2 rfl (by kernel_rfl) rfl rfl rfl (q_move rfl rfl) (by exact hS) ?_
          refine wh_q 3 rfl (by kernel_rfl) rfl rfl rfl (q_slice_string rfl rfl Go.Proofs.Tryd.underlying9 ⟨_, _, rfl, c40⟩ ⟨_, _, rfl, c42⟩ c43 c44) (by exact hS) ?_
          refine wh_q 4 rfl (by kernel_rfl) rfl rfl rfl (q_move rfl rfl) (by exact hS) ?_
          refine wh_q 5 rfl (by kernel_rfl) rfl rfl rfl (q_move rfl rfl) (by exact hS) ?_
          refine wh_q 6 rfl (by kernel_rfl) rfl rfl rfl (q_slice_string rfl rfl Go.Proofs.Tryd.underlying9 rfl ⟨_, _, rfl, c46⟩ c47 c48) (by exact hS) ?_
          refine wh_e 7 rfl (by kernel_rfl) rfl rfl rfl (e_call (first := []) (vs := [Value.string (s_0.extract 0 n45)]) (cap := []) rfl rfl rfl cf_41 (CallsH.mono hD ?_))
          rintro _ hz49 ⟨r50, rfl, hD⟩
          refine ⟨trivial, ?_⟩
          have hS : True := trivial
          refine wh_e 8 rfl (by kernel_rfl) rfl rfl rfl (e_call (first := []) (vs := [Value.int .u32 r50]) (cap := []) rfl rfl rfl cf_40 (CallsH.mono hD ?_))
          rintro _ hz51 ⟨r52, rfl, hD⟩
          refine ⟨trivial, ?_⟩
          have hS : True := trivial
          refine wh_q 9 rfl (by kernel_rfl) rfl rfl rfl (q_bin rfl rfl rfl (fun _ _ => rfl)) (by exact hS) ?_
          refine wh_q 10 rfl (by kernel_rfl) rfl rfl rfl (q_assign rfl rfl) (by exact hS) ?_
          refine wh_keep (l' := [(0, Value.string s_0), (2, Value.pointer (some (blk h0.size))), (5, Value.string r22), (8, Value.int .i64 (IntKind.i64.wrap ((IntKind.i64.wrap (r23 + 1)) + 4))), (39, Value.bool (!((s_0.extract n39 n41).toList == r52.toList)))]) (keep_cons rfl (keep_cons rfl (keep_cons rfl (keep_cons rfl (keep_cons rfl keep_nil))))) (wh_done (by kernel_rfl) ?_)
          refine cw_cond rfl (fun hb53 => ?_) (fun hb53 => ?_)
          · have hD := ifT hb53 hD
            refine cw_seq ?_
            refine cw_region ?_
            refine wl_q rfl rfl rfl (q_build (v := Value.agg #[Value.int .i64 0, Value.string ByteArray.empty]) rfl rfl (fun _ _ => by kernel_rfl)) ?_
            obtain ⟨c55, hD⟩ := hD
            refine wl_e0 rfl rfl (e_stores (vs := [Value.int .i64 0, Value.string ByteArray.empty]) rfl rfl rfl sz_60 c55 ?_)
            intro hz54 e56
            have hD := hD hz54 e56
            refine wl_q rfl rfl rfl (q_assign rfl rfl) ?_
            refine wl_q rfl rfl rfl (q_assign rfl rfl) ?_
            refine wl_keep (l' := [(2, Value.pointer (some (blk h0.size))), (3, Value.int .i64 0), (4, Value.int .i64 10)]) (keep_cons rfl (keep_cons rfl (keep_cons rfl keep_nil))) (wl_nil ?_)
            refine cw_ret ?_
            obtain ⟨y57, y58, c59, hD⟩ := hD
            exact ⟨_, resx3 rfl (resv_cells (vs := [Value.int .i64 y57, Value.string y58]) rfl Go.Proofs.Tryd.underlying60 rfl sz_60 c59) (resv_tmp rfl) (resv_tmp rfl), _, _, _, _, rfl, hD⟩
          · have hD := ifF hb53 hD
            refine cw_skip ?_
            refine cw_seq ?_
            refine cw_region ?_
            refine wl_q rfl rfl rfl (q_move rfl rfl) ?_
            obtain ⟨c60, c61, hD⟩ := hD
            refine wl_q rfl rfl rfl (q_index_string rfl rfl rfl Go.Proofs.Tryd.underlying9 c60 c61) ?_
            refine wl_q rfl rfl rfl (q_conv_int rfl rfl Go.Proofs.Tryd.underlying5 Go.Proofs.Tryd.underlying3) ?_
            refine wl_q rfl rfl rfl (q_move rfl rfl) ?_
            refine wl_q rfl rfl rfl (q_build (v := Value.agg #[Value.int .i64 (IntKind.i64.wrap (bt s_0 0)), Value.string r22]) rfl rfl (fun _ _ => by kernel_rfl)) ?_
            refine wl_q rfl rfl rfl (q_move rfl rfl) ?_
            obtain ⟨c63, hD⟩ := hD
            refine wl_e0 rfl rfl (e_stores (vs := [Value.int .i64 (IntKind.i64.wrap (bt s_0 0)), Value.string r22]) rfl rfl rfl sz_60 c63 ?_)
            intro hz62 e64
            have hD := hD hz62 e64
            refine wl_q rfl rfl rfl (q_assign rfl rfl) ?_
            refine wl_q rfl rfl rfl (q_assign rfl rfl) ?_
            refine wl_keep (l' := [(2, Value.pointer (some (blk h0.size))), (3, Value.int .i64 (IntKind.i64.wrap ((IntKind.i64.wrap (r23 + 1)) + 4))), (4, Value.int .i64 0)]) (keep_cons rfl (keep_cons rfl (keep_cons rfl keep_nil))) (wl_nil ?_)
            refine cw_ret ?_
            obtain ⟨y65, y66, c67, hD⟩ := hD
            exact ⟨_, resx3 rfl (resv_cells (vs := [Value.int .i64 y65, Value.string y66]) rfl Go.Proofs.Tryd.underlying60 rfl sz_60 c67) (resv_tmp rfl) (resv_tmp rfl), _, _, _, _, rfl, hD⟩
end Go.Proofs.YtgdmjdacmebfjaaDoor.D

namespace Go.Proofs.YtgdmjdacmebfjaaDoor.D
open Go
set_option maxRecDepth 100000
theorem S_disk_Disk_Sync {d_0 : Option Addr} {name_1 : ByteArray} {h0 : Hp} {K : Int → Hp → Prop} (hD : D_disk_Disk_Sync d_0 name_1 h0 K) : C_disk_Disk_Sync d_0 name_1 h0 K := by
  unfold D_disk_Disk_Sync at hD
  refine calls_cw (args := [Value.pointer d_0, Value.string name_1]) Go.Proofs.Tryd.func36 rfl ?_
  show cw _ 24 _ [(0, Value.pointer d_0), (1, Value.string name_1)] _ _ _ _
  refine cw_seq ?_
  refine cw_region ?_
  refine wl_q rfl rfl rfl (q_assign rfl rfl) ?_
  refine wl_keep (l' := [(0, Value.pointer d_0), (1, Value.string name_1)]) (keep_cons rfl (keep_cons rfl keep_nil)) (wl_nil ?_)
  refine cw_seq ?_
  refine cw_region ?_
  refine wl_q rfl rfl rfl (q_move rfl rfl) ?_
  refine wl_q rfl rfl rfl (q_move rfl rfl) ?_
  refine wl_e rfl rfl rfl (e_call (first := []) (vs := [Value.pointer d_0, Value.string name_1]) (cap := []) rfl rfl rfl cf_47 (CallsH.mono hD ?_))
  rintro _ hz1 ⟨r2, r3, rfl, hD⟩
  refine wl_q rfl rfl rfl (q_move rfl rfl) ?_
  refine wl_q rfl rfl rfl (q_extract rfl rfl rfl) ?_
  refine wl_q rfl rfl rfl (q_extract rfl rfl rfl) ?_
  refine wl_q rfl rfl rfl (q_assign rfl rfl) ?_
  refine wl_q rfl rfl rfl (q_assign rfl rfl) ?_
  refine wl_keep (l' := [(5, Value.pointer r2), (6, Value.int .i64 r3)]) (keep_cons rfl (keep_cons rfl keep_nil)) (wl_nil ?_)
  refine cw_cut (fun l h => Keep l [(6, Value.int .i64 r3)] ∧ D_disk_Disk_Sync_j1 K r3 h) ?_ ?_
  · refine cw_seq ?_
    refine cw_region ?_
    refine wl_q rfl rfl rfl (q_move rfl rfl) ?_
    refine wl_q rfl rfl rfl (q_bin rfl rfl rfl (fun _ _ => rfl)) ?_
    refine wl_keep (l' := [(5, Value.pointer r2), (6, Value.int .i64 r3), (14, Value.bool (r3 == (0 : Int)))]) (keep_cons rfl (keep_cons rfl (keep_cons rfl keep_nil))) (wl_nil ?_)
    refine cw_cond rfl (fun hb5 => ?_) (fun hb5 => ?_)
    · have hD := ifT hb5 hD
      refine cw_region ?_
      refine wl_q rfl rfl rfl (q_move rfl rfl) ?_
      refine wl_q rfl rfl rfl (q_move rfl rfl) ?_
      obtain ⟨a6, c7, hD⟩ := hD
      refine wl_q rfl rfl rfl (q_nil rfl rfl c7) ?_
      refine wl_q rfl rfl rfl (q_fieldAddr rfl rfl fo_74_0) ?_
      obtain ⟨x8, c9, hD⟩ := hD
      refine wl_q rfl rfl rfl (q_load rfl rfl Go.Proofs.Tryd.underlying9 rfl (At.cell c9)) ?_
      refine wl_q rfl rfl rfl (q_len_string rfl rfl Go.Proofs.Tryd.underlying9 rfl) ?_
      refine wl_q rfl rfl rfl (q_nil rfl rfl c7) ?_
      refine wl_q rfl rfl rfl (q_fieldAddr rfl rfl fo_74_1) ?_
      obtain ⟨u11, c12, c13, hD⟩ := hD
      refine wl_e0 rfl rfl (e_store rfl rfl rfl sz_3 trivial c12 c13 ?_)
      intro hz10 e14
      have hD := hD hz10 e14
      refine wl_keep (l' := [(6, Value.int .i64 r3)]) (keep_cons rfl keep_nil) (wl_nil ?_)
      exact ⟨(keep_cons rfl keep_nil), hD⟩
    · have hD := ifF hb5 hD
      refine cw_skip ?_
      exact ⟨(keep_cons rfl keep_nil), hD⟩
  · rintro l16 hz4 ⟨hk15, hD⟩
    refine cw_keep hk15 ?_
    unfold D_disk_Disk_Sync_j1 at hD
    refine cw_seq ?_
    refine cw_region ?_
    refine wl_q rfl rfl rfl (q_move rfl rfl) ?_
    refine wl_q rfl rfl rfl (q_assign rfl rfl) ?_
    refine wl_keep (l' := [(4, Value.int .i64 r3)]) (keep_cons rfl keep_nil) (wl_nil ?_)
    refine cw_ret ?_
    exact ⟨_, resq1 rfl rfl, _, rfl, hD⟩
end Go.Proofs.YtgdmjdacmebfjaaDoor.D

namespace Go.Proofs.YtgdmjdacmebfjaaDoor.D
open Go
set_option maxRecDepth 100000
theorem S_disk_Disk_SyncNames {d_0 : Option Addr} {h0 : Hp} {K : Int → Hp → Prop} (hD : D_disk_Disk_SyncNames d_0 h0 K) : C_disk_Disk_SyncNames d_0 h0 K := by
  unfold D_disk_Disk_SyncNames at hD
  refine calls_cw (args := [Value.pointer d_0]) Go.Proofs.Tryd.func37 rfl ?_
  show cw _ 17 _ [(0, Value.pointer d_0)] _ _ _ _
  refine cw_seq ?_
  refine cw_region ?_
  refine wl_q rfl rfl rfl (q_assign rfl rfl) ?_
  refine wl_keep (l' := [(0, Value.pointer d_0)]) (keep_cons rfl keep_nil) (wl_nil ?_)
  refine cw_seq ?_
  refine cw_seq ?_
  refine cw_region ?_
  refine wl_q rfl rfl rfl (q_move rfl rfl) ?_
  refine wl_e rfl rfl rfl (e_call (first := []) (vs := [Value.pointer d_0]) (cap := []) rfl rfl rfl cf_42 (CallsH.mono hD ?_))
  rintro _ hz1 ⟨r2, rfl, hD⟩
  refine wl_q rfl rfl rfl (q_un rfl rfl (fun _ => rfl)) ?_
  refine wl_keep (l' := [(0, Value.pointer d_0), (5, Value.bool (!r2))]) (keep_cons rfl (keep_cons rfl keep_nil)) (wl_nil ?_)
  refine cw_cond rfl (fun hb3 => ?_) (fun hb3 => ?_)
  · have hD := ifT hb3 hD
    refine cw_seq ?_
    refine cw_region ?_
    refine wl_q rfl rfl rfl (q_assign rfl rfl) ?_
    refine wl_keep (l' := [(2, Value.int .i64 11)]) (keep_cons rfl keep_nil) (wl_nil ?_)
    refine cw_ret ?_
    exact ⟨_, resq1 rfl rfl, _, rfl, hD⟩
  · have hD := ifF hb3 hD
    refine cw_skip ?_
    refine cw_seq ?_
    refine cw_region ?_
    refine wl_q rfl rfl rfl (q_move rfl rfl) ?_
    refine wl_q rfl rfl rfl (q_move rfl rfl) ?_
    refine wl_q rfl rfl rfl (q_move rfl rfl) ?_
    obtain ⟨a4, c5, hD⟩ := hD
    refine wl_q rfl rfl rfl (q_nil rfl rfl c5) ?_
    refine wl_q rfl rfl rfl (q_fieldAddr rfl rfl fo_44_1) ?_
    obtain ⟨x6, c7, hD⟩ := hD
    refine wl_q rfl rfl rfl (q_load rfl rfl Go.Proofs.Tryd.underlying41 rfl (At.cell c7)) ?_
    refine wl_e rfl rfl rfl (e_call (first := []) (vs := [Value.map x6]) (cap := []) rfl rfl rfl cf_33 (CallsH.mono hD ?_))
    rintro _ hz8 ⟨r9, rfl, hD⟩
    refine wl_q rfl rfl rfl (q_nil rfl rfl c5) ?_
    refine wl_q rfl rfl rfl (q_fieldAddr rfl rfl fo_44_2) ?_
    obtain ⟨u11, c12, c13, hD⟩ := hD
    refine wl_e0 rfl rfl (e_store rfl rfl rfl sz_41 trivial c12 c13 ?_)
    intro hz10 e14
    have hD := hD hz10 e14
    refine wl_q rfl rfl rfl (q_nil rfl rfl c5) ?_
    refine wl_q rfl rfl rfl (q_fieldAddr rfl rfl fo_44_3) ?_
    obtain ⟨u16, c17, c18, hD⟩ := hD
    refine wl_e0 rfl rfl (e_store rfl rfl rfl sz_42 trivial c17 c18 ?_)
    intro hz15 e19
    have hD := hD hz15 e19
    refine wl_keep (l' := []) keep_nil (wl_nil ?_)
    refine cw_seq ?_
    refine cw_region ?_
    refine wl_q rfl rfl rfl (q_assign rfl rfl) ?_
    refine wl_keep (l' := [(2, Value.int .i64 0)]) (keep_cons rfl keep_nil) (wl_nil ?_)
    refine cw_ret ?_
    exact ⟨_, resq1 rfl rfl, _, rfl, hD⟩
end Go.Proofs.YtgdmjdacmebfjaaDoor.D

namespace Go.Proofs.YtgdmjdacmebfjaaDoor.D
open Go
set_option maxRecDepth 100000
theorem S_slices_IndexFunc_string_string {s_0 : Sl} {f_1 : Value} {h0 : Hp} {K : Int → Hp → Prop} (hD : D_slices_IndexFunc_string_string s_0 f_1 h0 K) : C_slices_IndexFunc_string_string s_0 f_1 h0 K := by
  unfold D_slices_IndexFunc_string_string at hD
  refine calls_cw (args := [Sl.v s_0, f_1]) Go.Proofs.Tryd.func38 rfl ?_
  show cw _ 19 _ [(0, Sl.v s_0), (1, f_1)] _ _ _ _
  refine cw_seq ?_
  refine cw_region ?_
  refine wl_q rfl rfl rfl (q_assign rfl rfl) ?_
  refine wl_keep (l' := [(0, Sl.v s_0), (1, f_1)]) (keep_cons rfl (keep_cons rfl keep_nil)) (wl_nil ?_)
  refine cw_seq ?_
  refine cw_seq ?_
  refine cw_region ?_
  refine wl_q rfl rfl rfl (q_move rfl rfl) ?_
  refine wl_q rfl rfl rfl (q_len_slice rfl rfl Go.Proofs.Tryd.underlying49 rfl) ?_
  refine wl_q rfl rfl rfl (q_move rfl rfl) ?_
  refine wl_keep (l' := [(0, Sl.v s_0), (1, f_1), (7, Value.int .i64 (s_0.len : Int)), (8, Value.int .i64 0)]) (keep_cons rfl (keep_cons rfl (keep_cons rfl (keep_cons rfl keep_nil)))) (wl_nil ?_)
  refine cw_block ?_
  obtain ⟨I, μ, hI19, hL20⟩ := hD
  refine cw_loops (σ := Int) (fun s => [(0, Sl.v s_0), (1, f_1), (7, Value.int .i64 (s_0.len : Int)), (8, Value.int .i64 s)]) (0) (fun s h => I s h) (fun s h => μ s h) (keep_cons rfl (keep_cons rfl (keep_cons rfl (keep_cons rfl keep_nil)))) hI19 ?_
  rintro x1 hz2 hI
  have hD := hL20 x1 hz2 hI
  obtain ⟨C3, hC3⟩ : ∃ c : Int → Hp → Prop, c = (fun x1' h' => I x1' h' ∧ μ x1' h' < μ x1 hz2) := ⟨_, rfl⟩
  rw [← hC3] at hD
  unfold D_slices_IndexFunc_string_string_l1 at hD
  show cw _ _ _ [(0, Sl.v s_0), (1, f_1), (7, Value.int .i64 (s_0.len : Int)), (8, Value.int .i64 x1)] _ _ _ _
  refine cw_seq ?_
  refine cw_region ?_
  refine wl_q rfl rfl rfl (q_bin rfl rfl rfl (fun _ _ => rfl)) ?_
  refine wl_keep (l' := [(0, Sl.v s_0), (1, f_1), (7, Value.int .i64 (s_0.len : Int)), (8, Value.int .i64 x1), (9, Value.bool (decide (x1 < (s_0.len : Int))))]) (keep_cons rfl (keep_cons rfl (keep_cons rfl (keep_cons rfl (keep_cons rfl keep_nil))))) (wl_nil ?_)
  refine cw_seq ?_
  refine cw_cond rfl (fun hb4 => ?_) (fun hb4 => ?_)
  · have hD := ifT hb4 hD
    refine cw_skip ?_
    refine cw_seq ?_
    refine cw_block ?_
    refine cw_seq ?_
    refine cw_region ?_
    refine wl_q rfl rfl rfl (q_move rfl rfl) ?_
    refine wl_q rfl rfl rfl (q_assign rfl rfl) ?_
    refine wl_keep (l' := [(0, Sl.v s_0), (1, f_1), (5, Value.int .i64 x1), (7, Value.int .i64 (s_0.len : Int)), (8, Value.int .i64 x1)]) (keep_cons rfl (keep_cons rfl (keep_cons rfl (keep_cons rfl (keep_cons rfl keep_nil))))) (wl_nil ?_)
    refine cw_seq ?_
    refine cw_region ?_
    refine wl_q rfl rfl rfl (q_move rfl rfl) ?_
    refine wl_q rfl rfl rfl (q_move rfl rfl) ?_
    refine wl_q rfl rfl rfl (q_move rfl rfl) ?_
    obtain ⟨a5, c6, c7, c8, hD⟩ := hD
    refine wl_q rfl rfl rfl (q_indexAddr rfl rfl rfl Go.Proofs.Tryd.underlying49 sz_9 c6 c7 c8) ?_
    obtain ⟨x9, c10, hD⟩ := hD
    refine wl_q rfl rfl rfl (q_load rfl rfl Go.Proofs.Tryd.underlying9 rfl (At.cell c10)) ?_
    obtain ⟨g14, fi15, ca16, c17, c18, hD⟩ := hD
    refine wl_e rfl rfl rfl (e_call (first := fi15) (vs := [Value.string x9]) (cap := ca16) rfl (by rw [← c17]; rfl) rfl c18 (CallsH.mono hD ?_))
    rintro _ hz11 ⟨r12, rfl, hD⟩
    refine wl_keep (l' := [(0, Sl.v s_0), (1, f_1), (5, Value.int .i64 x1), (7, Value.int .i64 (s_0.len : Int)), (8, Value.int .i64 x1), (16, Value.bool r12)]) (keep_cons rfl (keep_cons rfl (keep_cons rfl (keep_cons rfl (keep_cons rfl (keep_cons rfl keep_nil)))))) (wl_nil ?_)
    refine cw_cond rfl (fun hb13 => ?_) (fun hb13 => ?_)
    · have hD := ifT hb13 hD
      refine cw_seq ?_
      refine cw_region ?_
      refine wl_q rfl rfl rfl (q_move rfl rfl) ?_
      refine wl_q rfl rfl rfl (q_assign rfl rfl) ?_
      refine wl_keep (l' := [(4, Value.int .i64 x1)]) (keep_cons rfl keep_nil) (wl_nil ?_)
      refine cw_ret ?_
      exact ⟨_, resq1 rfl rfl, _, rfl, hD⟩
    · have hD := ifF hb13 hD
      refine cw_skip ?_
      refine cw_region ?_
      refine wl_q rfl rfl rfl (q_bin rfl rfl rfl (fun _ _ => rfl)) ?_
      refine wl_q rfl rfl rfl (q_move rfl rfl) ?_
      refine wl_keep (l' := [(0, Sl.v s_0), (1, f_1), (7, Value.int .i64 (s_0.len : Int)), (8, Value.int .i64 (IntKind.i64.wrap (x1 + 1)))]) (keep_cons rfl (keep_cons rfl (keep_cons rfl (keep_cons rfl keep_nil)))) (wl_nil ?_)
      rw [hC3] at hD
      exact ⟨(IntKind.i64.wrap (x1 + 1)), (keep_cons rfl (keep_cons rfl (keep_cons rfl (keep_cons rfl keep_nil)))), hD⟩
  · have hD := ifF hb4 hD
    refine cw_exit ?_
    refine xput_same ?_
    refine cw_seq ?_
    refine cw_region ?_
    refine wl_q rfl rfl rfl (q_assign rfl rfl) ?_
    refine wl_keep (l' := [(4, Value.int .i64 (-1))]) (keep_cons rfl keep_nil) (wl_nil ?_)
    refine cw_ret ?_
    exact ⟨_, resq1 rfl rfl, _, rfl, hD⟩
end Go.Proofs.YtgdmjdacmebfjaaDoor.D

namespace Go.Proofs.YtgdmjdacmebfjaaDoor.D
open Go
set_option maxRecDepth 100000
theorem S_digits_Text {s_0 : ByteArray} {h0 : Hp} {K : ByteArray → Hp → Prop} (hD : D_digits_Text s_0 h0 K) : C_digits_Text s_0 h0 K := by
  unfold D_digits_Text at hD
  refine calls_cw (args := [Value.string s_0]) Go.Proofs.Tryd.func39 rfl ?_
  show cw _ 9 _ [(0, Value.string s_0)] _ _ _ _
  refine cw_seq ?_
  refine cw_region ?_
  refine wl_q rfl rfl rfl (q_assign rfl rfl) ?_
  refine wl_keep (l' := [(0, Value.string s_0)]) (keep_cons rfl keep_nil) (wl_nil ?_)
  refine cw_seq ?_
  refine cw_region ?_
  refine wl_q rfl rfl rfl (q_move rfl rfl) ?_
  refine wl_q rfl rfl rfl (q_len_string rfl rfl Go.Proofs.Tryd.underlying9 rfl) ?_
  refine wl_q rfl rfl rfl (q_conv_int rfl rfl Go.Proofs.Tryd.underlying3 Go.Proofs.Tryd.underlying24) ?_
  refine wl_e rfl rfl rfl (e_call (first := []) (vs := [Value.int .u64 (IntKind.u64.wrap (s_0.size : Int))]) (cap := []) rfl rfl rfl cf_54 (CallsH.mono hD ?_))
  rintro _ hz1 ⟨r2, rfl, hD⟩
  refine wl_q rfl rfl rfl (q_move rfl rfl) ?_
  obtain ⟨c3, hD⟩ := hD
  refine wl_q rfl rfl rfl (q_cat rfl rfl rfl c3) ?_
  refine wl_q rfl rfl rfl (q_assign rfl rfl) ?_
  refine wl_keep (l' := [(2, Value.string (r2 ++ s_0))]) (keep_cons rfl keep_nil) (wl_nil ?_)
  refine cw_ret ?_
  exact ⟨_, resq1 rfl rfl, _, rfl, hD⟩
end Go.Proofs.YtgdmjdacmebfjaaDoor.D

namespace Go.Proofs.YtgdmjdacmebfjaaDoor.D
open Go
set_option maxRecDepth 100000
theorem S_sum_Bytes {c_0 : Int} {h0 : Hp} {K : ByteArray → Hp → Prop} (hD : D_sum_Bytes c_0 h0 K) : C_sum_Bytes c_0 h0 K := by
  unfold D_sum_Bytes at hD
  refine calls_cw (args := [Value.int .u32 c_0]) Go.Proofs.Tryd.func40 rfl ?_
  show cw _ 16 _ [(0, Value.int .u32 c_0)] _ _ _ _
  refine cw_seq ?_
  refine cw_region ?_
  refine wl_q rfl rfl rfl (q_assign rfl rfl) ?_
  refine wl_keep (l' := [(0, Value.int .u32 c_0)]) (keep_cons rfl keep_nil) (wl_nil ?_)
  refine cw_seq ?_
  refine cw_region ?_
  refine wl_q rfl rfl rfl (q_move rfl rfl) ?_
  refine wl_q rfl rfl rfl (q_shr rfl rfl rfl (by decide)) ?_
  refine wl_q rfl rfl rfl (q_conv_int rfl rfl Go.Proofs.Tryd.underlying82 Go.Proofs.Tryd.underlying5) ?_
  refine wl_q rfl rfl rfl (q_move rfl rfl) ?_
  refine wl_q rfl rfl rfl (q_shr rfl rfl rfl (by decide)) ?_
  refine wl_q rfl rfl rfl (q_conv_int rfl rfl Go.Proofs.Tryd.underlying82 Go.Proofs.Tryd.underlying5) ?_
  refine wl_q rfl rfl rfl (q_move rfl rfl) ?_
  refine wl_q rfl rfl rfl (q_shr rfl rfl rfl (by decide)) ?_
  refine wl_q rfl rfl rfl (q_conv_int rfl rfl Go.Proofs.Tryd.underlying82 Go.Proofs.Tryd.underlying5) ?_
  refine wl_q rfl rfl rfl (q_move rfl rfl) ?_
  refine wl_q rfl rfl rfl (q_conv_int rfl rfl Go.Proofs.Tryd.underlying82 Go.Proofs.Tryd.underlying5) ?_
  refine wl_e rfl rfl rfl (e_buildSlice (cs := #[Value.int .u8 (IntKind.u8.wrap (Int.fdiv c_0 (2 ^ (min (Int.toNat 24) 32)))), Value.int .u8 (IntKind.u8.wrap (Int.fdiv c_0 (2 ^ (min (Int.toNat 16) 32)))), Value.int .u8 (IntKind.u8.wrap (Int.fdiv c_0 (2 ^ (min (Int.toNat 8) 32)))), Value.int .u8 (IntKind.u8.wrap c_0)]) rfl rfl Go.Proofs.Tryd.underlying79 sz_5 zr_5 (by decide) (by kernel_rfl) ?_)
  intro hz1 e2
  have hD := hD hz1 e2
  obtain ⟨x3, c4, hD⟩ := hD
  refine wl_q rfl rfl rfl (q_conv_b rfl rfl Go.Proofs.Tryd.underlying79 Go.Proofs.Tryd.underlying9 Go.Proofs.Tryd.underlying5 (At.bytes c4)) ?_
  refine wl_q rfl rfl rfl (q_assign rfl rfl) ?_
  refine wl_keep (l' := [(2, Value.string x3)]) (keep_cons rfl keep_nil) (wl_nil ?_)
  refine cw_ret ?_
  exact ⟨_, resq1 rfl rfl, _, rfl, hD⟩
end Go.Proofs.YtgdmjdacmebfjaaDoor.D

namespace Go.Proofs.YtgdmjdacmebfjaaDoor.D
open Go
set_option maxRecDepth 100000
theorem S_sum_Of {s_0 : ByteArray} {h0 : Hp} {K : Int → Hp → Prop} (hD : D_sum_Of s_0 h0 K) : C_sum_Of s_0 h0 K := by
  unfold D_sum_Of at hD
  refine calls_cw (args := [Value.string s_0]) Go.Proofs.Tryd.func41 rfl ?_
  show cw _ 5 _ [(0, Value.string s_0)] _ _ _ _
  refine cw_seq ?_
  refine cw_region ?_
  refine wl_q rfl rfl rfl (q_assign rfl rfl) ?_
  refine wl_keep (l' := [(0, Value.string s_0)]) (keep_cons rfl keep_nil) (wl_nil ?_)
  refine cw_seq ?_
  refine cw_region ?_
  refine wl_q rfl rfl rfl (q_move rfl rfl) ?_
  refine wl_e rfl rfl rfl (e_call (first := []) (vs := [Value.int .u32 0, Value.string s_0]) (cap := []) rfl rfl rfl cf_55 (CallsH.mono hD ?_))
  rintro _ hz1 ⟨r2, rfl, hD⟩
  refine wl_q rfl rfl rfl (q_assign rfl rfl) ?_
  refine wl_keep (l' := [(2, Value.int .u32 r2)]) (keep_cons rfl keep_nil) (wl_nil ?_)
  refine cw_ret ?_
  exact ⟨_, resq1 rfl rfl, _, rfl, hD⟩
end Go.Proofs.YtgdmjdacmebfjaaDoor.D

namespace Go.Proofs.YtgdmjdacmebfjaaDoor.D
open Go
set_option maxRecDepth 100000
theorem S_disk_Disk_write {d_0 : Option Addr} {h0 : Hp} {K : Bool → Hp → Prop} (hD : D_disk_Disk_write d_0 h0 K) : C_disk_Disk_write d_0 h0 K := by
  unfold D_disk_Disk_write at hD
  refine calls_cw (args := [Value.pointer d_0]) Go.Proofs.Tryd.func42 rfl ?_
  show cw _ 24 _ [(0, Value.pointer d_0)] _ _ _ _
  refine cw_seq ?_
  refine cw_region ?_
  refine wl_q rfl rfl rfl (q_assign rfl rfl) ?_
  refine wl_keep (l' := [(0, Value.pointer d_0)]) (keep_cons rfl keep_nil) (wl_nil ?_)
  refine cw_cut (fun l h => Keep l [(0, Value.pointer d_0)] ∧ D_disk_Disk_write_j1 d_0 K h) ?_ ?_
  · refine cw_seq ?_
    refine cw_region ?_
    refine wl_q rfl rfl rfl (q_move rfl rfl) ?_
    obtain ⟨a14, c15, hD⟩ := hD
    refine wl_q rfl rfl rfl (q_nil rfl rfl c15) ?_
    refine wl_q rfl rfl rfl (q_fieldAddr rfl rfl fo_44_5) ?_
    obtain ⟨x16, c17, hD⟩ := hD
    refine wl_q rfl rfl rfl (q_load rfl rfl Go.Proofs.Tryd.underlying3 rfl (At.cell c17)) ?_
    refine wl_q rfl rfl rfl (q_bin rfl rfl rfl (fun _ _ => rfl)) ?_
    refine wl_keep (l' := [(0, Value.pointer d_0), (7, Value.bool (x16 == (0 : Int)))]) (keep_cons rfl (keep_cons rfl keep_nil)) (wl_nil ?_)
    refine cw_cond rfl (fun hb18 => ?_) (fun hb18 => ?_)
    · have hD := ifT hb18 hD
      refine cw_region ?_
      refine wl_q rfl rfl rfl (q_move rfl rfl) ?_
      refine wl_q rfl rfl rfl (q_nil rfl rfl c15) ?_
      refine wl_q rfl rfl rfl (q_fieldAddr rfl rfl fo_44_4) ?_
      obtain ⟨u20, c21, c22, hD⟩ := hD
      refine wl_e0 rfl rfl (e_store rfl rfl rfl sz_4 trivial c21 c22 ?_)
      intro hz19 e23
      have hD := hD hz19 e23
      refine wl_keep (l' := [(0, Value.pointer d_0)]) (keep_cons rfl keep_nil) (wl_nil ?_)
      exact ⟨(keep_cons rfl keep_nil), hD⟩
    · have hD := ifF hb18 hD
      refine cw_skip ?_
      exact ⟨(keep_cons rfl keep_nil), hD⟩
  · rintro l25 hz1 ⟨hk24, hD⟩
    refine cw_keep hk24 ?_
    unfold D_disk_Disk_write_j1 at hD
    refine cw_seq ?_
    refine cw_seq ?_
    refine cw_region ?_
    refine wl_q rfl rfl rfl (q_move rfl rfl) ?_
    obtain ⟨a2, c3, hD⟩ := hD
    refine wl_q rfl rfl rfl (q_nil rfl rfl c3) ?_
    refine wl_q rfl rfl rfl (q_fieldAddr rfl rfl fo_44_4) ?_
    obtain ⟨x4, c5, hD⟩ := hD
    refine wl_q rfl rfl rfl (q_load rfl rfl Go.Proofs.Tryd.underlying4 rfl (At.cell c5)) ?_
    refine wl_keep (l' := [(0, Value.pointer d_0), (14, Value.bool x4)]) (keep_cons rfl (keep_cons rfl keep_nil)) (wl_nil ?_)
    refine cw_cond rfl (fun hb6 => ?_) (fun hb6 => ?_)
    · have hD := ifT hb6 hD
      refine cw_seq ?_
      refine cw_region ?_
      refine wl_q rfl rfl rfl (q_assign rfl rfl) ?_
      refine wl_keep (l' := [(2, Value.bool false)]) (keep_cons rfl keep_nil) (wl_nil ?_)
      refine cw_ret ?_
      exact ⟨_, resq1 rfl rfl, _, rfl, hD⟩
    · have hD := ifF hb6 hD
      refine cw_skip ?_
      refine cw_seq ?_
      refine cw_region ?_
      refine wl_q rfl rfl rfl (q_move rfl rfl) ?_
      refine wl_q rfl rfl rfl (q_move rfl rfl) ?_
      refine wl_q rfl rfl rfl (q_nil rfl rfl c3) ?_
      refine wl_q rfl rfl rfl (q_fieldAddr rfl rfl fo_44_5) ?_
      obtain ⟨x7, c8, hD⟩ := hD
      refine wl_q rfl rfl rfl (q_load rfl rfl Go.Proofs.Tryd.underlying3 rfl (At.cell c8)) ?_
      refine wl_q rfl rfl rfl (q_bin rfl rfl rfl (fun _ _ => rfl)) ?_
      refine wl_q rfl rfl rfl (q_max rfl rfl rfl rfl) ?_
      refine wl_q rfl rfl rfl (q_nil rfl rfl c3) ?_
      refine wl_q rfl rfl rfl (q_fieldAddr rfl rfl fo_44_5) ?_
      obtain ⟨u10, c11, c12, hD⟩ := hD
      refine wl_e0 rfl rfl (e_store rfl rfl rfl sz_3 trivial c11 c12 ?_)
      intro hz9 e13
      have hD := hD hz9 e13
      refine wl_keep (l' := []) keep_nil (wl_nil ?_)
      refine cw_seq ?_
      refine cw_region ?_
      refine wl_q rfl rfl rfl (q_assign rfl rfl) ?_
      refine wl_keep (l' := [(2, Value.bool true)]) (keep_cons rfl keep_nil) (wl_nil ?_)
      refine cw_ret ?_
      exact ⟨_, resq1 rfl rfl, _, rfl, hD⟩
end Go.Proofs.YtgdmjdacmebfjaaDoor.D

namespace Go.Proofs.YtgdmjdacmebfjaaDoor.D
open Go
set_option maxRecDepth 100000
theorem S_disk_right {name_0 : ByteArray} {h0 : Hp} {K : Bool → Hp → Prop} (hD : D_disk_right name_0 h0 K) : C_disk_right name_0 h0 K := by
  unfold D_disk_right at hD
  refine calls_cw (args := [Value.string name_0]) Go.Proofs.Tryd.func43 rfl ?_
  show cw _ 15 _ [(0, Value.string name_0)] _ _ _ _
  refine cw_seq ?_
  refine cw_region ?_
  refine wl_q rfl rfl rfl (q_assign rfl rfl) ?_
  refine wl_keep (l' := [(0, Value.string name_0)]) (keep_cons rfl keep_nil) (wl_nil ?_)
  refine cw_cut (fun l h => ∃ (x1 : Bool), Keep l [(2, Value.bool x1)] ∧ D_disk_right_j1 K x1 h) ?_ ?_
  · refine cw_region ?_
    refine wl_q rfl rfl rfl (q_move rfl rfl) ?_
    refine wl_q rfl rfl rfl (q_bin rfl rfl rfl (fun _ _ => rfl)) ?_
    refine wl_q rfl rfl rfl (q_move rfl rfl) ?_
    rcases bool_or (!(name_0.toList == (ByteArray.mk #[]).toList)) with hb3 | hb3
    · have hD := ifT hb3 hD
      refine wl_gq rfl rfl rfl hb3 rfl rfl (q_move rfl rfl) ?_
      refine wl_gq rfl rfl rfl hb3 rfl rfl (q_len_string rfl rfl Go.Proofs.Tryd.underlying9 rfl) ?_
      refine wl_gq rfl rfl rfl hb3 rfl rfl (q_bin rfl rfl rfl (fun _ _ => rfl)) ?_
      refine wl_q rfl rfl rfl (q_pickT rfl rfl hb3 rfl) ?_
      refine wl_q rfl rfl rfl (q_move rfl rfl) ?_
      rcases bool_or (decide ((name_0.size : Int) ≤ (32 : Int))) with hb4 | hb4
      · have hD := ifT hb4 hD
        refine wl_gq rfl rfl rfl hb4 rfl rfl (q_move rfl rfl) ?_
        refine wl_ge rfl rfl rfl hb4 rfl rfl (e_call (first := []) (vs := [Value.string name_0, Value.string (ByteArray.mk #[97, 98, 99, 100, 101, 102, 103, 104, 105, 106, 107, 108, 109, 110, 111, 112, 113, 114, 115, 116, 117, 118, 119, 120, 121, 122, 48, 49, 50, 51, 52, 53, 54, 55, 56, 57, 46, 45])]) (cap := []) rfl rfl rfl cf_56 (CallsH.mono hD ?_))
        rintro _ hz5 ⟨r6, rfl, hD⟩
        refine wl_gq rfl rfl rfl hb4 rfl rfl (q_bin rfl rfl rfl (fun _ _ => rfl)) ?_
        refine wl_q rfl rfl rfl (q_pickT rfl rfl hb4 rfl) ?_
        refine wl_q rfl rfl rfl (q_assign rfl rfl) ?_
        refine wl_keep (l' := [(2, Value.bool (r6.toList == (ByteArray.mk #[]).toList))]) (keep_cons rfl keep_nil) (wl_nil ?_)
        exact ⟨_, (keep_cons rfl keep_nil), hD⟩
      · have hD := ifF hb4 hD
        refine wl_gn rfl rfl rfl hb4 rfl rfl ?_
        refine wl_gn rfl rfl rfl hb4 rfl rfl ?_
        refine wl_gn rfl rfl rfl hb4 rfl rfl ?_
        refine wl_q rfl rfl rfl (q_pickF rfl rfl hb4 rfl) ?_
        refine wl_q rfl rfl rfl (q_assign rfl rfl) ?_
        refine wl_keep (l' := [(2, Value.bool false)]) (keep_cons rfl keep_nil) (wl_nil ?_)
        exact ⟨_, (keep_cons rfl keep_nil), hD⟩
    · have hD := ifF hb3 hD
      refine wl_gn rfl rfl rfl hb3 rfl rfl ?_
      refine wl_gn rfl rfl rfl hb3 rfl rfl ?_
      refine wl_gn rfl rfl rfl hb3 rfl rfl ?_
      refine wl_q rfl rfl rfl (q_pickF rfl rfl hb3 rfl) ?_
      refine wl_q rfl rfl rfl (q_move rfl rfl) ?_
      refine wl_gn rfl rfl rfl rfl rfl rfl ?_
      refine wl_gn rfl rfl rfl rfl rfl rfl ?_
      refine wl_gn rfl rfl rfl rfl rfl rfl ?_
      refine wl_q rfl rfl rfl (q_pickF rfl rfl rfl rfl) ?_
      refine wl_q rfl rfl rfl (q_assign rfl rfl) ?_
      refine wl_keep (l' := [(2, Value.bool false)]) (keep_cons rfl keep_nil) (wl_nil ?_)
      exact ⟨_, (keep_cons rfl keep_nil), hD⟩
  · rintro l8 hz2 ⟨x1, hk7, hD⟩
    refine cw_keep hk7 ?_
    unfold D_disk_right_j1 at hD
    refine cw_ret ?_
    exact ⟨_, resq1 rfl rfl, _, rfl, hD⟩
end Go.Proofs.YtgdmjdacmebfjaaDoor.D

namespace Go.Proofs.YtgdmjdacmebfjaaDoor.D
open Go
set_option maxRecDepth 100000
theorem S_disk_Disk_Used {d_0 : Option Addr} {h0 : Hp} {K : Int → Hp → Prop} (hD : D_disk_Disk_Used d_0 h0 K) : C_disk_Disk_Used d_0 h0 K := by
  unfold D_disk_Disk_Used at hD
  refine calls_cw (args := [Value.pointer d_0]) Go.Proofs.Tryd.func44 rfl ?_
  show cw _ 23 _ [(0, Value.pointer d_0)] _ _ _ _
  refine cw_seq ?_
  refine cw_region ?_
  refine wl_q rfl rfl rfl (q_assign rfl rfl) ?_
  refine wl_keep (l' := [(0, Value.pointer d_0)]) (keep_cons rfl keep_nil) (wl_nil ?_)
  refine cw_seq ?_
  refine cw_region ?_
  refine wl_q rfl rfl rfl (q_assign rfl rfl) ?_
  refine wl_keep (l' := [(0, Value.pointer d_0), (3, Value.int .i64 0)]) (keep_cons rfl (keep_cons rfl keep_nil)) (wl_nil ?_)
  refine cw_seq ?_
  refine cw_seq ?_
  refine cw_region ?_
  refine wl_q rfl rfl rfl (q_move rfl rfl) ?_
  obtain ⟨a1, c2, hD⟩ := hD
  refine wl_q rfl rfl rfl (q_nil rfl rfl c2) ?_
  refine wl_q rfl rfl rfl (q_fieldAddr rfl rfl fo_44_1) ?_
  obtain ⟨x3, c4, hD⟩ := hD
  refine wl_q rfl rfl rfl (q_load rfl rfl Go.Proofs.Tryd.underlying41 rfl (At.cell c4)) ?_
  obtain ⟨r6, es7, clk8, c9, c10, hD⟩ := hD
  refine wl_e rfl rfl rfl (e_range_map rfl (by rw [← c9]; rfl) Go.Proofs.Tryd.underlying41 c10 ?_)
  intro hz5 e11
  have hD := hD hz5 e11
  refine wl_keep (l' := [(3, Value.int .i64 0), (10, Value.pointer (some (blk h0.size)))]) (keep_cons rfl (keep_cons rfl keep_nil)) (wl_nil ?_)
  refine cw_block ?_
  obtain ⟨I, μ, hI36, hL37⟩ := hD
  refine cw_loops (σ := Int) (fun s => [(3, Value.int .i64 s), (10, Value.pointer (some (blk h0.size)))]) (0) (fun s h => I s h) (fun s h => μ s h) (keep_cons rfl (keep_cons rfl keep_nil)) hI36 ?_
  rintro n12 hz13 hI
  have hD := hL37 n12 hz13 hI
  obtain ⟨C14, hC14⟩ : ∃ c : Int → Hp → Prop, c = (fun n12' h' => I n12' h' ∧ μ n12' h' < μ n12 hz13) := ⟨_, rfl⟩
  rw [← hC14] at hD
  unfold D_disk_Disk_Used_l1 at hD
  show cw _ _ _ [(3, Value.int .i64 n12), (10, Value.pointer (some (blk h0.size)))] _ _ _ _
  refine cw_seq ?_
  refine cw_region ?_
  obtain ⟨m16, clk17, seen18, es19, c21, c22, c23, hD1, hD2⟩ := hD
  refine wl_e rfl rfl rfl (e_next rfl rfl c21 c22 c23 ?_ ?_)
  · intro e20 c24 c25 hz15 e26
    have hD := hD1 e20 c24 c25 hz15 e26
    refine wl_q rfl rfl rfl (q_extract rfl rfl rfl) ?_
    refine wl_keep (l' := [(3, Value.int .i64 n12), (10, Value.pointer (some (blk h0.size))), (12, Value.bool true)]) (keep_cons rfl (keep_cons rfl (keep_cons rfl keep_nil))) (wl_nil ?_)
    refine cw_seq ?_
    refine cw_condT rfl rfl ?_
    refine cw_skip ?_
    refine cw_block ?_
    refine cw_seq ?_
    refine cw_region ?_
    obtain ⟨c27, c28, c29, hD⟩ := hD
    refine wl_q rfl rfl rfl (q_entry rfl rfl (At.obj c27) (At.obj c28) c29) ?_
    obtain ⟨x30, c31, hD⟩ := hD
    refine wl_q rfl rfl rfl (q_extract rfl rfl (congrArg some c31)) ?_
    refine wl_q rfl rfl rfl (q_assign rfl rfl) ?_
    refine wl_keep (l' := [(3, Value.int .i64 n12), (5, Value.pointer x30), (10, Value.pointer (some (blk h0.size)))]) (keep_cons rfl (keep_cons rfl (keep_cons rfl keep_nil))) (wl_nil ?_)
    refine cw_region ?_
    refine wl_q rfl rfl rfl (q_move rfl rfl) ?_
    refine wl_q rfl rfl rfl (q_move rfl rfl) ?_
    obtain ⟨a32, c33, hD⟩ := hD
    refine wl_q rfl rfl rfl (q_nil rfl rfl c33) ?_
    refine wl_q rfl rfl rfl (q_fieldAddr rfl rfl fo_74_0) ?_
    obtain ⟨x34, c35, hD⟩ := hD
    refine wl_q rfl rfl rfl (q_load rfl rfl Go.Proofs.Tryd.underlying9 rfl (At.cell c35)) ?_
    refine wl_q rfl rfl rfl (q_len_string rfl rfl Go.Proofs.Tryd.underlying9 rfl) ?_
    refine wl_q rfl rfl rfl (q_bin rfl rfl rfl (fun _ _ => rfl)) ?_
    refine wl_q rfl rfl rfl (q_assign rfl rfl) ?_
    refine wl_keep (l' := [(3, Value.int .i64 (IntKind.i64.wrap (n12 + (x34.size : Int)))), (10, Value.pointer (some (blk h0.size)))]) (keep_cons rfl (keep_cons rfl keep_nil)) (wl_nil ?_)
    rw [hC14] at hD
    exact ⟨(IntKind.i64.wrap (n12 + (x34.size : Int))), (keep_cons rfl (keep_cons rfl keep_nil)), hD⟩
  · intro c24
    have hD := hD2 c24
    refine wl_q rfl rfl rfl (q_extract rfl rfl rfl) ?_
    refine wl_keep (l' := [(3, Value.int .i64 n12), (10, Value.pointer (some (blk h0.size))), (12, Value.bool false)]) (keep_cons rfl (keep_cons rfl (keep_cons rfl keep_nil))) (wl_nil ?_)
    refine cw_seq ?_
    refine cw_condF rfl rfl ?_
    refine cw_exit ?_
    refine xput_same ?_
    refine cw_seq ?_
    refine cw_region ?_
    refine wl_q rfl rfl rfl (q_move rfl rfl) ?_
    refine wl_q rfl rfl rfl (q_assign rfl rfl) ?_
    refine wl_keep (l' := [(2, Value.int .i64 n12)]) (keep_cons rfl keep_nil) (wl_nil ?_)
    refine cw_ret ?_
    exact ⟨_, resq1 rfl rfl, _, rfl, hD⟩
end Go.Proofs.YtgdmjdacmebfjaaDoor.D

namespace Go.Proofs.YtgdmjdacmebfjaaDoor.D
open Go
set_option maxRecDepth 100000
theorem S_disk_Disk_change {d_0 : Option Addr} {c_1 : Value} {h0 : Hp} {K : Hp → Prop} (hD : D_disk_Disk_change d_0 c_1 h0 K) : C_disk_Disk_change d_0 c_1 h0 K := by
  unfold D_disk_Disk_change at hD
  refine calls_cw (args := [Value.pointer d_0, c_1]) Go.Proofs.Tryd.func45 rfl ?_
  show cw _ 20 _ [(0, Value.pointer d_0), (1, c_1)] _ _ _ _
  refine cw_seq ?_
  refine cw_region ?_
  refine wl_q rfl rfl rfl (q_move rfl rfl) ?_
  refine wl_q rfl rfl rfl (q_move rfl rfl) ?_
  obtain ⟨a1, c2, hD⟩ := hD
  refine wl_q rfl rfl rfl (q_nil rfl rfl c2) ?_
  refine wl_q rfl rfl rfl (q_fieldAddr rfl rfl fo_44_1) ?_
  obtain ⟨x3, c4, hD⟩ := hD
  refine wl_q rfl rfl rfl (q_load rfl rfl Go.Proofs.Tryd.underlying41 rfl (At.cell c4)) ?_
  obtain ⟨g18, fi19, ca20, c21, c22, hD⟩ := hD
  refine wl_e rfl rfl rfl (e_call (first := fi19) (vs := [Value.map x3]) (cap := ca20) rfl (by rw [← c21]; rfl) rfl c22 (CallsH.mono hD ?_))
  rintro _ hz5 ⟨rfl, hD⟩
  refine wl_keep (l' := [(0, Value.pointer d_0), (1, c_1)]) (keep_cons rfl (keep_cons rfl keep_nil)) (wl_nil ?_)
  refine cw_region ?_
  refine wl_q rfl rfl rfl (q_move rfl rfl) ?_
  refine wl_q rfl rfl rfl (q_move rfl rfl) ?_
  refine wl_q rfl rfl rfl (q_nil rfl rfl c2) ?_
  refine wl_q rfl rfl rfl (q_fieldAddr rfl rfl fo_44_3) ?_
  obtain ⟨x6, c7, hD⟩ := hD
  refine wl_q rfl rfl rfl (q_load rfl rfl Go.Proofs.Tryd.underlying42 rfl (At.cell c7)) ?_
  refine wl_q rfl rfl rfl (q_move rfl rfl) ?_
  obtain ⟨c9, hD⟩ := hD
  refine wl_e rfl rfl rfl (e_buildSlice (cs := #[c_1]) rfl rfl Go.Proofs.Tryd.underlying42 sz_67 zr_67 (by decide) (fill_one c9) ?_)
  intro hz8 e10
  have hD := hD hz8 e10
  refine wl_e rfl rfl rfl (e_append (s := x6) (news := [c_1]) rfl rfl rfl rfl Go.Proofs.Tryd.underlying42 Go.Proofs.Tryd.underlying42 sz_67 by_67 zr_67 rfl (srcAt_new e10) (apd_mono hD ?_))
  intro s12 hz11 hD
  refine wl_q rfl rfl rfl (q_nil rfl rfl c2) ?_
  refine wl_q rfl rfl rfl (q_fieldAddr rfl rfl fo_44_3) ?_
  obtain ⟨u14, c15, c16, hD⟩ := hD
  refine wl_e0 rfl rfl (e_store rfl rfl rfl sz_42 trivial c15 c16 ?_)
  intro hz13 e17
  have hD := hD hz13 e17
  refine wl_keep (l' := []) keep_nil (wl_nil ?_)
  exact ⟨_, resq0 rfl, rfl, hD⟩
end Go.Proofs.YtgdmjdacmebfjaaDoor.D

namespace Go.Proofs.YtgdmjdacmebfjaaDoor.D
open Go
set_option maxRecDepth 100000
theorem S_disk_Disk_Append_1 {n_0 : Option Nat} {q1 : Addr} {q2 : Addr} {h0 : Hp} {K : Hp → Prop} (hD : D_disk_Disk_Append_1 n_0 q1 q2 h0 K) : C_disk_Disk_Append_1 n_0 q1 q2 h0 K := by
  unfold D_disk_Disk_Append_1 at hD
  refine calls_cw (args := [Value.map n_0, Value.pointer (some q1), Value.pointer (some q2)]) Go.Proofs.Tryd.func46 rfl ?_
  show cw _ 7 _ [(0, Value.map n_0), (1, Value.pointer (some q1)), (2, Value.pointer (some q2))] _ _ _ _
  refine cw_region ?_
  refine wl_q rfl rfl rfl (q_move rfl rfl) ?_
  obtain ⟨x1, c2, hD⟩ := hD
  refine wl_q rfl rfl rfl (q_load rfl rfl Go.Proofs.Tryd.underlying9 rfl (At.cell c2)) ?_
  obtain ⟨x3, c4, hD⟩ := hD
  refine wl_q rfl rfl rfl (q_load rfl rfl Go.Proofs.Tryd.underlying72 rfl (At.cell c4)) ?_
  obtain ⟨r6, es7, clk8, c9, c10, c11, hD⟩ := hD
  refine wl_e0 rfl rfl (e_mapUpdate rfl (by rw [← c9]; rfl) rfl rfl Go.Proofs.Tryd.underlying41 Go.Proofs.Tryd.underlying9 c10 c11 ?_)
  intro hz5 e12
  have hD := hD hz5 e12
  refine wl_keep (l' := []) keep_nil (wl_nil ?_)
  exact ⟨_, resq0 rfl, rfl, hD⟩
end Go.Proofs.YtgdmjdacmebfjaaDoor.D

namespace Go.Proofs.YtgdmjdacmebfjaaDoor.D
open Go
set_option maxRecDepth 100000
theorem S_disk_Disk_find {d_0 : Option Addr} {name_1 : ByteArray} {h0 : Hp} {K : Option Addr → Int → Hp → Prop} (hD : D_disk_Disk_find d_0 name_1 h0 K) : C_disk_Disk_find d_0 name_1 h0 K := by
  unfold D_disk_Disk_find at hD
  refine calls_cw (args := [Value.pointer d_0, Value.string name_1]) Go.Proofs.Tryd.func47 rfl ?_
  show cw _ 19 _ [(0, Value.pointer d_0), (1, Value.string name_1)] _ _ _ _
  refine cw_seq ?_
  refine cw_region ?_
  refine wl_q rfl rfl rfl (q_assign rfl rfl) ?_
  refine wl_q rfl rfl rfl (q_assign rfl rfl) ?_
  refine wl_keep (l' := [(0, Value.pointer d_0), (1, Value.string name_1)]) (keep_cons rfl (keep_cons rfl keep_nil)) (wl_nil ?_)
  refine cw_seq ?_
  refine cw_seq ?_
  refine cw_region ?_
  refine wl_q rfl rfl rfl (q_move rfl rfl) ?_
  refine wl_e rfl rfl rfl (e_call (first := []) (vs := [Value.pointer d_0]) (cap := []) rfl rfl rfl cf_42 (CallsH.mono hD ?_))
  rintro _ hz1 ⟨r2, rfl, hD⟩
  refine wl_q rfl rfl rfl (q_un rfl rfl (fun _ => rfl)) ?_
  refine wl_keep (l' := [(0, Value.pointer d_0), (1, Value.string name_1), (9, Value.bool (!r2))]) (keep_cons rfl (keep_cons rfl (keep_cons rfl keep_nil))) (wl_nil ?_)
  refine cw_cond rfl (fun hb3 => ?_) (fun hb3 => ?_)
  · have hD := ifT hb3 hD
    refine cw_seq ?_
    refine cw_region ?_
    refine wl_q rfl rfl rfl (q_assign rfl rfl) ?_
    refine wl_q rfl rfl rfl (q_assign rfl rfl) ?_
    refine wl_keep (l' := [(4, Value.pointer none), (5, Value.int .i64 11)]) (keep_cons rfl (keep_cons rfl keep_nil)) (wl_nil ?_)
    refine cw_ret ?_
    exact ⟨_, resq2 rfl rfl rfl, _, _, rfl, hD⟩
  · have hD := ifF hb3 hD
    refine cw_skip ?_
    refine cw_seq ?_
    refine cw_region ?_
    refine wl_q rfl rfl rfl (q_move rfl rfl) ?_
    obtain ⟨a4, c5, hD⟩ := hD
    refine wl_q rfl rfl rfl (q_nil rfl rfl c5) ?_
    refine wl_q rfl rfl rfl (q_fieldAddr rfl rfl fo_44_1) ?_
    obtain ⟨x6, c7, hD⟩ := hD
    refine wl_q rfl rfl rfl (q_load rfl rfl Go.Proofs.Tryd.underlying41 rfl (At.cell c7)) ?_
    refine wl_q rfl rfl rfl (q_move rfl rfl) ?_
    obtain ⟨es8, c9, c10, v11, c12, hD⟩ := hD
    refine wl_q rfl rfl rfl (q_lookup1 rfl rfl rfl Go.Proofs.Tryd.underlying41 Go.Proofs.Tryd.underlying9 zr_72 c10 (At.mapEs c9) c12) ?_
    refine wl_q rfl rfl rfl (q_assign rfl rfl) ?_
    refine wl_keep (l' := [(6, Value.pointer v11)]) (keep_cons rfl keep_nil) (wl_nil ?_)
    refine cw_seq ?_
    refine cw_seq ?_
    refine cw_region ?_
    refine wl_q rfl rfl rfl (q_move rfl rfl) ?_
    refine wl_q rfl rfl rfl (q_bin rfl rfl rfl (fun _ _ => sem_eq_ptr_nil Go.Proofs.Tryd.underlying72)) ?_
    refine wl_keep (l' := [(6, Value.pointer v11), (17, Value.bool v11.isNone)]) (keep_cons rfl (keep_cons rfl keep_nil)) (wl_nil ?_)
    refine cw_cond rfl (fun hb13 => ?_) (fun hb13 => ?_)
    · have hD := ifT hb13 hD
      refine cw_seq ?_
      refine cw_region ?_
      refine wl_q rfl rfl rfl (q_assign rfl rfl) ?_
      refine wl_q rfl rfl rfl (q_assign rfl rfl) ?_
      refine wl_keep (l' := [(4, Value.pointer none), (5, Value.int .i64 12)]) (keep_cons rfl (keep_cons rfl keep_nil)) (wl_nil ?_)
      refine cw_ret ?_
      exact ⟨_, resq2 rfl rfl rfl, _, _, rfl, hD⟩
    · have hD := ifF hb13 hD
      refine cw_skip ?_
      refine cw_seq ?_
      refine cw_region ?_
      refine wl_q rfl rfl rfl (q_move rfl rfl) ?_
      refine wl_q rfl rfl rfl (q_assign rfl rfl) ?_
      refine wl_q rfl rfl rfl (q_assign rfl rfl) ?_
      refine wl_keep (l' := [(4, Value.pointer v11), (5, Value.int .i64 0)]) (keep_cons rfl (keep_cons rfl keep_nil)) (wl_nil ?_)
      refine cw_ret ?_
      exact ⟨_, resq2 rfl rfl rfl, _, _, rfl, hD⟩
end Go.Proofs.YtgdmjdacmebfjaaDoor.D

namespace Go.Proofs.YtgdmjdacmebfjaaDoor.D
open Go
set_option maxRecDepth 100000
theorem S_disk_Disk_Remove_1 {n_0 : Option Nat} {q1 : Addr} {h0 : Hp} {K : Hp → Prop} (hD : D_disk_Disk_Remove_1 n_0 q1 h0 K) : C_disk_Disk_Remove_1 n_0 q1 h0 K := by
  unfold D_disk_Disk_Remove_1 at hD
  refine calls_cw (args := [Value.map n_0, Value.pointer (some q1)]) Go.Proofs.Tryd.func48 rfl ?_
  show cw _ 5 _ [(0, Value.map n_0), (1, Value.pointer (some q1))] _ _ _ _
  refine cw_region ?_
  refine wl_q rfl rfl rfl (q_move rfl rfl) ?_
  obtain ⟨x1, c2, hD⟩ := hD
  refine wl_q rfl rfl rfl (q_load rfl rfl Go.Proofs.Tryd.underlying9 rfl (At.cell c2)) ?_
  obtain ⟨r4, es5, clk6, c7, c8, c9, hD⟩ := hD
  refine wl_e0 rfl rfl (e_delete rfl (by rw [← c7]; rfl) rfl Go.Proofs.Tryd.underlying41 Go.Proofs.Tryd.underlying9 c8 c9 ?_)
  intro hz3 e10
  have hD := hD hz3 e10
  refine wl_keep (l' := []) keep_nil (wl_nil ?_)
  exact ⟨_, resq0 rfl, rfl, hD⟩
end Go.Proofs.YtgdmjdacmebfjaaDoor.D

namespace Go.Proofs.YtgdmjdacmebfjaaDoor.D
open Go
set_option maxRecDepth 100000
theorem S_slices_Collect_string {seq_0 : Value} {h0 : Hp} {K : Sl → Hp → Prop} (hD : D_slices_Collect_string seq_0 h0 K) : C_slices_Collect_string seq_0 h0 K := by
  unfold D_slices_Collect_string at hD
  refine calls_cw (args := [seq_0]) Go.Proofs.Tryd.func49 rfl ?_
  show cw _ 5 _ [(0, seq_0)] _ _ _ _
  refine cw_seq ?_
  refine cw_region ?_
  refine wl_q rfl rfl rfl (q_assign rfl rfl) ?_
  refine wl_keep (l' := [(0, seq_0)]) (keep_cons rfl keep_nil) (wl_nil ?_)
  refine cw_seq ?_
  refine cw_region ?_
  refine wl_q rfl rfl rfl (q_move rfl rfl) ?_
  refine wl_e rfl rfl rfl (e_call (first := []) (vs := [Sl.v (Sl.mk none 0 0), seq_0]) (cap := []) rfl rfl rfl cf_57 (CallsH.mono hD ?_))
  rintro _ hz1 ⟨r2, rfl, hD⟩
  refine wl_q rfl rfl rfl (q_assign rfl rfl) ?_
  refine wl_keep (l' := [(2, Sl.v r2)]) (keep_cons rfl keep_nil) (wl_nil ?_)
  refine cw_ret ?_
  exact ⟨_, resq1 rfl rfl, _, rfl, hD⟩
end Go.Proofs.YtgdmjdacmebfjaaDoor.D

namespace Go.Proofs.YtgdmjdacmebfjaaDoor.D
open Go
set_option maxRecDepth 100000
theorem S_slices_Sort_string_string {x_0 : Sl} {h0 : Hp} {K : Hp → Prop} (hD : D_slices_Sort_string_string x_0 h0 K) : C_slices_Sort_string_string x_0 h0 K := by
  unfold D_slices_Sort_string_string at hD
  refine calls_cw (args := [Sl.v x_0]) Go.Proofs.Tryd.func50 rfl ?_
  show cw _ 11 _ [(0, Sl.v x_0)] _ _ _ _
  refine cw_seq ?_
  refine cw_region ?_
  refine wl_q rfl rfl rfl (q_move rfl rfl) ?_
  refine wl_q rfl rfl rfl (q_len_slice rfl rfl Go.Proofs.Tryd.underlying49 rfl) ?_
  refine wl_q rfl rfl rfl (q_assign rfl rfl) ?_
  refine wl_keep (l' := [(0, Sl.v x_0), (2, Value.int .i64 (x_0.len : Int))]) (keep_cons rfl (keep_cons rfl keep_nil)) (wl_nil ?_)
  refine cw_region ?_
  refine wl_q rfl rfl rfl (q_move rfl rfl) ?_
  refine wl_q rfl rfl rfl (q_move rfl rfl) ?_
  refine wl_q rfl rfl rfl (q_move rfl rfl) ?_
  refine wl_q rfl rfl rfl (q_conv_int rfl rfl Go.Proofs.Tryd.underlying3 Go.Proofs.Tryd.underlying92) ?_
  refine wl_e rfl rfl rfl (e_call (first := []) (vs := [Value.int .u64 (IntKind.u64.wrap (x_0.len : Int))]) (cap := []) rfl rfl rfl cf_59 (CallsH.mono hD ?_))
  rintro _ hz1 ⟨r2, rfl, hD⟩
  refine wl_e rfl rfl rfl (e_call (first := []) (vs := [Sl.v x_0, Value.int .i64 0, Value.int .i64 (x_0.len : Int), Value.int .i64 r2]) (cap := []) rfl rfl rfl cf_58 (CallsH.mono hD ?_))
  rintro _ hz3 ⟨rfl, hD⟩
  refine wl_keep (l' := []) keep_nil (wl_nil ?_)
  exact ⟨_, resq0 rfl, rfl, hD⟩
end Go.Proofs.YtgdmjdacmebfjaaDoor.D

namespace Go.Proofs.YtgdmjdacmebfjaaDoor.D
open Go
set_option maxRecDepth 100000
theorem S_digits_GetText {s_0 : ByteArray} {most_1 : Int} {h0 : Hp} {K : ByteArray → Int → Int → Hp → Prop} (hD : D_digits_GetText s_0 most_1 h0 K) : C_digits_GetText s_0 most_1 h0 K := by
  unfold D_digits_GetText at hD
  refine calls_cw (args := [Value.string s_0, Value.int .i64 most_1]) Go.Proofs.Tryd.func53 rfl ?_
  show cw _ 47 _ [(0, Value.string s_0), (1, Value.int .i64 most_1)] _ _ _ _
  refine cw_seq ?_
  refine cw_region ?_
  refine wl_q rfl rfl rfl (q_assign rfl rfl) ?_
  refine wl_q rfl rfl rfl (q_assign rfl rfl) ?_
  refine wl_q rfl rfl rfl (q_assign rfl rfl) ?_
  refine wl_keep (l' := [(0, Value.string s_0), (1, Value.int .i64 most_1)]) (keep_cons rfl (keep_cons rfl keep_nil)) (wl_nil ?_)
  refine cw_seq ?_
  refine cw_region ?_
  refine wl_q rfl rfl rfl (q_move rfl rfl) ?_
  refine wl_e rfl rfl rfl (e_call (first := []) (vs := [Value.string s_0]) (cap := []) rfl rfl rfl cf_60 (CallsH.mono hD ?_))
  rintro _ hz1 ⟨r2, r3, r4, rfl, hD⟩
  refine wl_q rfl rfl rfl (q_move rfl rfl) ?_
  refine wl_q rfl rfl rfl (q_extract rfl rfl rfl) ?_
  refine wl_q rfl rfl rfl (q_extract rfl rfl rfl) ?_
  refine wl_q rfl rfl rfl (q_extract rfl rfl rfl) ?_
  refine wl_q rfl rfl rfl (q_assign rfl rfl) ?_
  refine wl_q rfl rfl rfl (q_assign rfl rfl) ?_
  refine wl_q rfl rfl rfl (q_assign rfl rfl) ?_
  refine wl_keep (l' := [(0, Value.string s_0), (1, Value.int .i64 most_1), (7, Value.int .u64 r2), (8, Value.int .i64 r3), (9, Value.int .i64 r4)]) (keep_cons rfl (keep_cons rfl (keep_cons rfl (keep_cons rfl (keep_cons rfl keep_nil))))) (wl_nil ?_)
  refine cw_seq ?_
  refine cw_block ?_
  refine cw_seq ?_
  refine cw_region ?_
  refine wl_q rfl rfl rfl (q_move rfl rfl) ?_
  refine wl_q rfl rfl rfl (q_bin rfl rfl rfl (fun _ _ => rfl)) ?_
  refine wl_q rfl rfl rfl (q_assign rfl rfl) ?_
  refine wl_keep (l' := [(0, Value.string s_0), (1, Value.int .i64 most_1), (7, Value.int .u64 r2), (8, Value.int .i64 r3), (9, Value.int .i64 r4), (17, Value.bool (r4 != (0 : Int)))]) (keep_cons rfl (keep_cons rfl (keep_cons rfl (keep_cons rfl (keep_cons rfl (keep_cons rfl keep_nil)))))) (wl_nil ?_)
  refine cw_cond rfl (fun hb5 => ?_) (fun hb5 => ?_)
  · have hD := ifT hb5 hD
    refine cw_seq ?_
    refine cw_region ?_
    refine wl_q rfl rfl rfl (q_move rfl rfl) ?_
    refine wl_q rfl rfl rfl (q_assign rfl rfl) ?_
    refine wl_q rfl rfl rfl (q_assign rfl rfl) ?_
    refine wl_q rfl rfl rfl (q_assign rfl rfl) ?_
    refine wl_keep (l' := [(4, Value.string (ByteArray.mk #[])), (5, Value.int .i64 0), (6, Value.int .i64 r4)]) (keep_cons rfl (keep_cons rfl (keep_cons rfl keep_nil))) (wl_nil ?_)
    refine cw_ret ?_
    exact ⟨_, resq3 rfl rfl rfl rfl, _, _, _, rfl, hD⟩
  · have hD := ifF hb5 hD
    refine cw_cut (fun l h => ∃ (x6 : Bool), Keep l [(0, Value.string s_0), (7, Value.int .u64 r2), (8, Value.int .i64 r3), (21, Value.bool x6)] ∧ D_digits_GetText_j1 s_0 K r2 r3 x6 h) ?_ ?_
    · refine cw_region ?_
      refine wl_q rfl rfl rfl (q_move rfl rfl) ?_
      refine wl_q rfl rfl rfl (q_bin rfl rfl rfl (fun _ _ => rfl)) ?_
      refine wl_q rfl rfl rfl (q_move rfl rfl) ?_
      rcases bool_or (decide (most_1 < (0 : Int))) with hb16 | hb16
      · have hD := ifT hb16 hD
        refine wl_gn rfl rfl rfl hb16 rfl rfl ?_
        refine wl_gn rfl rfl rfl hb16 rfl rfl ?_
        refine wl_gn rfl rfl rfl hb16 rfl rfl ?_
        refine wl_gn rfl rfl rfl hb16 rfl rfl ?_
        refine wl_q rfl rfl rfl (q_pickT rfl rfl hb16 rfl) ?_
        refine wl_q rfl rfl rfl (q_assign rfl rfl) ?_
        refine wl_keep (l' := [(0, Value.string s_0), (7, Value.int .u64 r2), (8, Value.int .i64 r3), (21, Value.bool true)]) (keep_cons rfl (keep_cons rfl (keep_cons rfl (keep_cons rfl keep_nil)))) (wl_nil ?_)
        exact ⟨_, (keep_cons rfl (keep_cons rfl (keep_cons rfl (keep_cons rfl keep_nil)))), hD⟩
      · have hD := ifF hb16 hD
        refine wl_gq rfl rfl rfl hb16 rfl rfl (q_move rfl rfl) ?_
        refine wl_gq rfl rfl rfl hb16 rfl rfl (q_move rfl rfl) ?_
        refine wl_gq rfl rfl rfl hb16 rfl rfl (q_conv_int rfl rfl Go.Proofs.Tryd.underlying3 Go.Proofs.Tryd.underlying24) ?_
        refine wl_gq rfl rfl rfl hb16 rfl rfl (q_bin rfl rfl rfl (fun _ _ => rfl)) ?_
        refine wl_q rfl rfl rfl (q_pickF rfl rfl hb16 rfl) ?_
        refine wl_q rfl rfl rfl (q_assign rfl rfl) ?_
        refine wl_keep (l' := [(0, Value.string s_0), (7, Value.int .u64 r2), (8, Value.int .i64 r3), (21, Value.bool (decide (r2 > (IntKind.u64.wrap most_1))))]) (keep_cons rfl (keep_cons rfl (keep_cons rfl (keep_cons rfl keep_nil)))) (wl_nil ?_)
        exact ⟨_, (keep_cons rfl (keep_cons rfl (keep_cons rfl (keep_cons rfl keep_nil)))), hD⟩
    · rintro l18 hz7 ⟨x6, hk17, hD⟩
      refine cw_keep hk17 ?_
      unfold D_digits_GetText_j1 at hD
      refine cw_cond rfl (fun hb8 => ?_) (fun hb8 => ?_)
      · have hD := ifT hb8 hD
        refine cw_seq ?_
        refine cw_region ?_
        refine wl_q rfl rfl rfl (q_assign rfl rfl) ?_
        refine wl_q rfl rfl rfl (q_assign rfl rfl) ?_
        refine wl_q rfl rfl rfl (q_assign rfl rfl) ?_
        refine wl_keep (l' := [(4, Value.string (ByteArray.mk #[])), (5, Value.int .i64 0), (6, Value.int .i64 8)]) (keep_cons rfl (keep_cons rfl (keep_cons rfl keep_nil))) (wl_nil ?_)
        refine cw_ret ?_
        exact ⟨_, resq3 rfl rfl rfl rfl, _, _, _, rfl, hD⟩
      · have hD := ifF hb8 hD
        refine cw_seq ?_
        refine cw_region ?_
        refine wl_q rfl rfl rfl (q_move rfl rfl) ?_
        refine wl_q rfl rfl rfl (q_move rfl rfl) ?_
        refine wl_q rfl rfl rfl (q_len_string rfl rfl Go.Proofs.Tryd.underlying9 rfl) ?_
        refine wl_q rfl rfl rfl (q_move rfl rfl) ?_
        refine wl_q rfl rfl rfl (q_bin rfl rfl rfl (fun _ _ => rfl)) ?_
        refine wl_q rfl rfl rfl (q_conv_int rfl rfl Go.Proofs.Tryd.underlying3 Go.Proofs.Tryd.underlying24) ?_
        refine wl_q rfl rfl rfl (q_bin rfl rfl rfl (fun _ _ => rfl)) ?_
        refine wl_q rfl rfl rfl (q_assign rfl rfl) ?_
        refine wl_keep (l' := [(0, Value.string s_0), (7, Value.int .u64 r2), (8, Value.int .i64 r3), (30, Value.bool (decide (r2 > (IntKind.u64.wrap (IntKind.i64.wrap ((s_0.size : Int) - r3))))))]) (keep_cons rfl (keep_cons rfl (keep_cons rfl (keep_cons rfl keep_nil)))) (wl_nil ?_)
        refine cw_cond rfl (fun hb9 => ?_) (fun hb9 => ?_)
        · have hD := ifT hb9 hD
          refine cw_seq ?_
          refine cw_region ?_
          refine wl_q rfl rfl rfl (q_assign rfl rfl) ?_
          refine wl_q rfl rfl rfl (q_assign rfl rfl) ?_
          refine wl_q rfl rfl rfl (q_assign rfl rfl) ?_
          refine wl_keep (l' := [(4, Value.string (ByteArray.mk #[])), (5, Value.int .i64 0), (6, Value.int .i64 1)]) (keep_cons rfl (keep_cons rfl (keep_cons rfl keep_nil))) (wl_nil ?_)
          refine cw_ret ?_
          exact ⟨_, resq3 rfl rfl rfl rfl, _, _, _, rfl, hD⟩
        · have hD := ifF hb9 hD
          refine cw_skip ?_
          refine cw_seq ?_
          refine cw_region ?_
          refine wl_q rfl rfl rfl (q_move rfl rfl) ?_
          refine wl_q rfl rfl rfl (q_move rfl rfl) ?_
          refine wl_q rfl rfl rfl (q_conv_int rfl rfl Go.Proofs.Tryd.underlying24 Go.Proofs.Tryd.underlying3) ?_
          refine wl_q rfl rfl rfl (q_bin rfl rfl rfl (fun _ _ => rfl)) ?_
          refine wl_q rfl rfl rfl (q_assign rfl rfl) ?_
          refine wl_keep (l' := [(0, Value.string s_0), (8, Value.int .i64 r3), (10, Value.int .i64 (IntKind.i64.wrap (r3 + (IntKind.i64.wrap r2))))]) (keep_cons rfl (keep_cons rfl (keep_cons rfl keep_nil))) (wl_nil ?_)
          refine cw_seq ?_
          refine cw_region ?_
          refine wl_q rfl rfl rfl (q_move rfl rfl) ?_
          refine wl_q rfl rfl rfl (q_move rfl rfl) ?_
          refine wl_q rfl rfl rfl (q_move rfl rfl) ?_
          obtain ⟨n10, c11, n12, c13, c14, c15, hD⟩ := hD
          refine wl_q rfl rfl rfl (q_slice_string rfl rfl Go.Proofs.Tryd.underlying9 ⟨_, _, rfl, c11⟩ ⟨_, _, rfl, c13⟩ c14 c15) ?_
          refine wl_q rfl rfl rfl (q_move rfl rfl) ?_
          refine wl_q rfl rfl rfl (q_assign rfl rfl) ?_
          refine wl_q rfl rfl rfl (q_assign rfl rfl) ?_
          refine wl_q rfl rfl rfl (q_assign rfl rfl) ?_
          refine wl_keep (l' := [(4, Value.string (s_0.extract n10 n12)), (5, Value.int .i64 (IntKind.i64.wrap (r3 + (IntKind.i64.wrap r2)))), (6, Value.int .i64 0)]) (keep_cons rfl (keep_cons rfl (keep_cons rfl keep_nil))) (wl_nil ?_)
          refine cw_ret ?_
          exact ⟨_, resq3 rfl rfl rfl rfl, _, _, _, rfl, hD⟩
end Go.Proofs.YtgdmjdacmebfjaaDoor.D

namespace Go.Proofs.YtgdmjdacmebfjaaDoor.D
open Go
set_option maxRecDepth 100000
theorem S_digits_Num {n_0 : Int} {h0 : Hp} {K : ByteArray → Hp → Prop} (hD : D_digits_Num n_0 h0 K) : C_digits_Num n_0 h0 K := by
  unfold D_digits_Num at hD
  refine calls_cw (args := [Value.int .u64 n_0]) Go.Proofs.Tryd.func54 rfl ?_
  show cw _ 25 _ [(0, Value.int .u64 n_0)] _ _ _ _
  refine cw_seq ?_
  refine cw_region ?_
  refine wl_q rfl rfl rfl (q_assign rfl rfl) ?_
  refine wl_keep (l' := [(0, Value.int .u64 n_0)]) (keep_cons rfl keep_nil) (wl_nil ?_)
  refine cw_seq ?_
  refine cw_region ?_
  refine wl_e rfl rfl rfl (e_alloc rfl zr_100 ?_)
  intro hz1 e2
  have hD := hD hz1 e2
  refine wl_keep (l' := [(0, Value.int .u64 n_0), (3, Value.pointer (some (blk h0.size)))]) (keep_cons rfl (keep_cons rfl keep_nil)) (wl_nil ?_)
  refine cw_seq ?_
  refine cw_region ?_
  refine wl_q rfl rfl rfl (q_assign rfl rfl) ?_
  refine wl_keep (l' := [(0, Value.int .u64 n_0), (3, Value.pointer (some (blk h0.size))), (4, Value.int .i64 9)]) (keep_cons rfl (keep_cons rfl (keep_cons rfl keep_nil))) (wl_nil ?_)
  refine cw_seq ?_
  refine cw_block ?_
  obtain ⟨I, μ, hI28, hL29⟩ := hD
  refine cw_loops (σ := Int × Int) (fun s => [(0, Value.int .u64 s.1), (3, Value.pointer (some (blk h0.size))), (4, Value.int .i64 s.2)]) (n_0, 9) (fun s h => I s.1 s.2 h) (fun s h => μ s.1 s.2 h) (keep_cons rfl (keep_cons rfl (keep_cons rfl keep_nil))) hI28 ?_
  rintro ⟨n3, i4⟩ hz5 hI
  have hD := hL29 n3 i4 hz5 hI
  obtain ⟨C6, hC6⟩ : ∃ c : Int → Int → Hp → Prop, c = (fun n3' i4' h' => I n3' i4' h' ∧ μ n3' i4' h' < μ n3 i4 hz5) := ⟨_, rfl⟩
  rw [← hC6] at hD
  unfold D_digits_Num_l1 at hD
  show cw _ _ _ [(0, Value.int .u64 n3), (3, Value.pointer (some (blk h0.size))), (4, Value.int .i64 i4)] _ _ _ _
  refine cw_seq ?_
  refine cw_seq ?_
  refine cw_region ?_
  refine wl_q rfl rfl rfl (q_move rfl rfl) ?_
  refine wl_q rfl rfl rfl (q_bin rfl rfl rfl (fun _ _ => rfl)) ?_
  refine wl_keep (l' := [(0, Value.int .u64 n3), (3, Value.pointer (some (blk h0.size))), (4, Value.int .i64 i4), (6, Value.bool (decide (n3 > (0 : Int))))]) (keep_cons rfl (keep_cons rfl (keep_cons rfl (keep_cons rfl keep_nil)))) (wl_nil ?_)
  refine cw_cond rfl (fun hb7 => ?_) (fun hb7 => ?_)
  · have hD := ifT hb7 hD
    refine cw_skip ?_
    refine cw_seq ?_
    refine cw_block ?_
    refine cw_seq ?_
    refine cw_region ?_
    refine wl_q rfl rfl rfl (q_move rfl rfl) ?_
    refine wl_q rfl rfl rfl (q_bin rfl rfl rfl (fun _ _ => rfl)) ?_
    refine wl_q rfl rfl rfl (q_assign rfl rfl) ?_
    refine wl_keep (l' := [(0, Value.int .u64 n3), (3, Value.pointer (some (blk h0.size))), (4, Value.int .i64 (IntKind.i64.wrap (i4 - 1)))]) (keep_cons rfl (keep_cons rfl (keep_cons rfl keep_nil))) (wl_nil ?_)
    refine cw_region ?_
    refine wl_q rfl rfl rfl (q_move rfl rfl) ?_
    refine wl_q rfl rfl rfl (q_move rfl rfl) ?_
    refine wl_q rfl rfl rfl (q_conv_int rfl rfl Go.Proofs.Tryd.underlying24 Go.Proofs.Tryd.underlying5) ?_
    obtain ⟨c8, c9, hD⟩ := hD
    refine wl_q rfl rfl rfl (q_indexAddr_array rfl rfl rfl Go.Proofs.Tryd.underlying100 sz_5 c8 c9) ?_
    obtain ⟨u11, c12, c13, hD⟩ := hD
    refine wl_e0 rfl rfl (e_store rfl rfl rfl sz_5 trivial c12 c13 ?_)
    intro hz10 e14
    have hD := hD hz10 e14
    refine wl_keep (l' := [(0, Value.int .u64 n3), (3, Value.pointer (some (blk h0.size))), (4, Value.int .i64 (IntKind.i64.wrap (i4 - 1)))]) (keep_cons rfl (keep_cons rfl (keep_cons rfl keep_nil))) (wl_nil ?_)
    refine cw_region ?_
    refine wl_q rfl rfl rfl (q_move rfl rfl) ?_
    refine wl_q rfl rfl rfl (q_shr rfl rfl rfl (by decide)) ?_
    refine wl_q rfl rfl rfl (q_assign rfl rfl) ?_
    refine wl_keep (l' := [(0, Value.int .u64 (Int.fdiv n3 (2 ^ (min (Int.toNat 8) 64)))), (3, Value.pointer (some (blk h0.size))), (4, Value.int .i64 (IntKind.i64.wrap (i4 - 1)))]) (keep_cons rfl (keep_cons rfl (keep_cons rfl keep_nil))) (wl_nil ?_)
    rw [hC6] at hD
    exact ⟨(Int.fdiv n3 (2 ^ (min (Int.toNat 8) 64)), IntKind.i64.wrap (i4 - 1)), (keep_cons rfl (keep_cons rfl (keep_cons rfl keep_nil))), hD⟩
  · have hD := ifF hb7 hD
    refine cw_exit ?_
    refine xput_same ?_
    refine cw_seq ?_
    refine cw_region ?_
    refine wl_q rfl rfl rfl (q_move rfl rfl) ?_
    refine wl_q rfl rfl rfl (q_bin rfl rfl rfl (fun _ _ => rfl)) ?_
    refine wl_q rfl rfl rfl (q_assign rfl rfl) ?_
    refine wl_keep (l' := [(3, Value.pointer (some (blk h0.size))), (4, Value.int .i64 (IntKind.i64.wrap (i4 - 1)))]) (keep_cons rfl (keep_cons rfl keep_nil)) (wl_nil ?_)
    refine cw_seq ?_
    refine cw_region ?_
    refine wl_q rfl rfl rfl (q_move rfl rfl) ?_
    refine wl_q rfl rfl rfl (q_move rfl rfl) ?_
    refine wl_q rfl rfl rfl (q_bin rfl rfl rfl (fun _ _ => rfl)) ?_
    refine wl_q rfl rfl rfl (q_conv_int rfl rfl Go.Proofs.Tryd.underlying3 Go.Proofs.Tryd.underlying5) ?_
    obtain ⟨c15, c16, hD⟩ := hD
    refine wl_q rfl rfl rfl (q_indexAddr_array rfl rfl rfl Go.Proofs.Tryd.underlying100 sz_5 c15 c16) ?_
    obtain ⟨u18, c19, c20, hD⟩ := hD
    refine wl_e0 rfl rfl (e_store rfl rfl rfl sz_5 trivial c19 c20 ?_)
    intro hz17 e21
    have hD := hD hz17 e21
    refine wl_keep (l' := [(3, Value.pointer (some (blk h0.size))), (4, Value.int .i64 (IntKind.i64.wrap (i4 - 1)))]) (keep_cons rfl (keep_cons rfl keep_nil)) (wl_nil ?_)
    refine cw_seq ?_
    refine cw_region ?_
    refine wl_q rfl rfl rfl (q_move rfl rfl) ?_
    obtain ⟨n22, c23, c24, c25, hD⟩ := hD
    refine wl_q rfl rfl rfl (q_slice_array (i := n22) (j := 9) rfl rfl Go.Proofs.Tryd.underlying100 sz_5 ⟨_, _, rfl, c23⟩ rfl c24 c25) ?_
    obtain ⟨x26, c27, hD⟩ := hD
    refine wl_q rfl rfl rfl (q_conv_b rfl rfl Go.Proofs.Tryd.underlying79 Go.Proofs.Tryd.underlying9 Go.Proofs.Tryd.underlying5 (At.bytes c27)) ?_
    refine wl_q rfl rfl rfl (q_assign rfl rfl) ?_
    refine wl_keep (l' := [(2, Value.string x26)]) (keep_cons rfl keep_nil) (wl_nil ?_)
    refine cw_ret ?_
    exact ⟨_, resq1 rfl rfl, _, rfl, hD⟩
end Go.Proofs.YtgdmjdacmebfjaaDoor.D

namespace Go.Proofs.YtgdmjdacmebfjaaDoor.D
open Go
set_option maxRecDepth 100000
theorem S_sum_More {c_0 : Int} {s_1 : ByteArray} {h0 : Hp} {K : Int → Hp → Prop} (hD : D_sum_More c_0 s_1 h0 K) : C_sum_More c_0 s_1 h0 K := by
  unfold D_sum_More at hD
  refine calls_cw (args := [Value.int .u32 c_0, Value.string s_1]) Go.Proofs.Tryd.func55 rfl ?_
  show cw _ 29 _ [(0, Value.int .u32 c_0), (1, Value.string s_1)] _ _ _ _
  refine cw_seq ?_
  refine cw_region ?_
  refine wl_q rfl rfl rfl (q_assign rfl rfl) ?_
  refine wl_keep (l' := [(0, Value.int .u32 c_0), (1, Value.string s_1)]) (keep_cons rfl (keep_cons rfl keep_nil)) (wl_nil ?_)
  refine cw_seq ?_
  refine cw_region ?_
  refine wl_q rfl rfl rfl (q_build (v := Value.agg #[Value.int .u32 0, Value.int .u32 2197175160]) rfl rfl (fun _ _ => by kernel_rfl)) ?_
  refine wl_e rfl rfl rfl (e_alloc rfl zr_102 ?_)
  intro hz1 e2
  have hD := hD hz1 e2
  obtain ⟨c4, hD⟩ := hD
  refine wl_e0 rfl rfl (e_stores (vs := [Value.int .u32 0, Value.int .u32 2197175160]) rfl rfl rfl sz_102 c4 ?_)
  intro hz3 e5
  have hD := hD hz3 e5
  refine wl_keep (l' := [(0, Value.int .u32 c_0), (1, Value.string s_1), (5, Value.pointer (some (blk h0.size)))]) (keep_cons rfl (keep_cons rfl (keep_cons rfl keep_nil))) (wl_nil ?_)
  refine cw_seq ?_
  refine cw_region ?_
  refine wl_q rfl rfl rfl (q_move rfl rfl) ?_
  refine wl_q rfl rfl rfl (q_un rfl rfl (fun _ => rfl)) ?_
  refine wl_q rfl rfl rfl (q_assign rfl rfl) ?_
  refine wl_keep (l' := [(0, Value.int .u32 (bitsI .xor .u32 (IntKind.u32.max) c_0)), (1, Value.string s_1), (5, Value.pointer (some (blk h0.size)))]) (keep_cons rfl (keep_cons rfl (keep_cons rfl keep_nil))) (wl_nil ?_)
  refine cw_seq ?_
  refine cw_seq ?_
  refine cw_region ?_
  refine wl_q rfl rfl rfl (q_move rfl rfl) ?_
  refine wl_q rfl rfl rfl (q_len_string rfl rfl Go.Proofs.Tryd.underlying9 rfl) ?_
  refine wl_q rfl rfl rfl (q_move rfl rfl) ?_
  refine wl_keep (l' := [(0, Value.int .u32 (bitsI .xor .u32 (IntKind.u32.max) c_0)), (1, Value.string s_1), (5, Value.pointer (some (blk h0.size))), (11, Value.int .i64 (s_1.size : Int)), (12, Value.int .i64 0)]) (keep_cons rfl (keep_cons rfl (keep_cons rfl (keep_cons rfl (keep_cons rfl keep_nil))))) (wl_nil ?_)
  refine cw_block ?_
  obtain ⟨I, μ, hI22, hL23⟩ := hD
  refine cw_loops (σ := Int × Int) (fun s => [(0, Value.int .u32 s.1), (1, Value.string s_1), (5, Value.pointer (some (blk h0.size))), (11, Value.int .i64 (s_1.size : Int)), (12, Value.int .i64 s.2)]) (bitsI .xor .u32 (IntKind.u32.max) c_0, 0) (fun s h => I s.1 s.2 h) (fun s h => μ s.1 s.2 h) (keep_cons rfl (keep_cons rfl (keep_cons rfl (keep_cons rfl (keep_cons rfl keep_nil))))) hI22 ?_
  rintro ⟨c6, x7⟩ hz8 hI
  have hD := hL23 c6 x7 hz8 hI
  obtain ⟨C9, hC9⟩ : ∃ c : Int → Int → Hp → Prop, c = (fun c6' x7' h' => I c6' x7' h' ∧ μ c6' x7' h' < μ c6 x7 hz8) := ⟨_, rfl⟩
  rw [← hC9] at hD
  unfold D_sum_More_l2 at hD
  show cw _ _ _ [(0, Value.int .u32 c6), (1, Value.string s_1), (5, Value.pointer (some (blk h0.size))), (11, Value.int .i64 (s_1.size : Int)), (12, Value.int .i64 x7)] _ _ _ _
  refine cw_seq ?_
  refine cw_region ?_
  refine wl_q rfl rfl rfl (q_bin rfl rfl rfl (fun _ _ => rfl)) ?_
  refine wl_keep (l' := [(0, Value.int .u32 c6), (1, Value.string s_1), (5, Value.pointer (some (blk h0.size))), (11, Value.int .i64 (s_1.size : Int)), (12, Value.int .i64 x7), (13, Value.bool (decide (x7 < (s_1.size : Int))))]) (keep_cons rfl (keep_cons rfl (keep_cons rfl (keep_cons rfl (keep_cons rfl (keep_cons rfl keep_nil)))))) (wl_nil ?_)
  refine cw_seq ?_
  refine cw_cond rfl (fun hb10 => ?_) (fun hb10 => ?_)
  · have hD := ifT hb10 hD
    refine cw_skip ?_
    refine cw_seq ?_
    refine cw_block ?_
    refine cw_seq ?_
    refine cw_region ?_
    refine wl_q rfl rfl rfl (q_move rfl rfl) ?_
    refine wl_q rfl rfl rfl (q_assign rfl rfl) ?_
    refine wl_keep (l' := [(0, Value.int .u32 c6), (1, Value.string s_1), (5, Value.pointer (some (blk h0.size))), (6, Value.int .i64 x7), (11, Value.int .i64 (s_1.size : Int)), (12, Value.int .i64 x7)]) (keep_cons rfl (keep_cons rfl (keep_cons rfl (keep_cons rfl (keep_cons rfl (keep_cons rfl keep_nil)))))) (wl_nil ?_)
    refine cw_seq ?_
    refine cw_region ?_
    refine wl_q rfl rfl rfl (q_move rfl rfl) ?_
    refine wl_q rfl rfl rfl (q_move rfl rfl) ?_
    refine wl_q rfl rfl rfl (q_move rfl rfl) ?_
    obtain ⟨c11, c12, hD⟩ := hD
    refine wl_q rfl rfl rfl (q_index_string rfl rfl rfl Go.Proofs.Tryd.underlying9 c11 c12) ?_
    refine wl_q rfl rfl rfl (q_conv_int rfl rfl Go.Proofs.Tryd.underlying5 Go.Proofs.Tryd.underlying82) ?_
    refine wl_q rfl rfl rfl (q_bin rfl rfl rfl (fun _ _ => rfl)) ?_
    refine wl_q rfl rfl rfl (q_assign rfl rfl) ?_
    refine wl_keep (l' := [(0, Value.int .u32 (bitsI .xor .u32 c6 (IntKind.u32.wrap (bt s_1 x7)))), (1, Value.string s_1), (5, Value.pointer (some (blk h0.size))), (11, Value.int .i64 (s_1.size : Int)), (12, Value.int .i64 x7)]) (keep_cons rfl (keep_cons rfl (keep_cons rfl (keep_cons rfl (keep_cons rfl keep_nil))))) (wl_nil ?_)
    refine cw_seq ?_
    refine cw_region ?_
    refine wl_q rfl rfl rfl (q_move rfl rfl) ?_
    refine wl_keep (l' := [(0, Value.int .u32 (bitsI .xor .u32 c6 (IntKind.u32.wrap (bt s_1 x7)))), (1, Value.string s_1), (5, Value.pointer (some (blk h0.size))), (11, Value.int .i64 (s_1.size : Int)), (12, Value.int .i64 x7), (21, Value.int .i64 0)]) (keep_cons rfl (keep_cons rfl (keep_cons rfl (keep_cons rfl (keep_cons rfl (keep_cons rfl keep_nil)))))) (wl_nil ?_)
    refine cw_block ?_
    obtain ⟨I, μ, hI20, hL21⟩ := hD
    refine cw_loops (σ := Int × Int) (fun s => [(0, Value.int .u32 s.1), (1, Value.string s_1), (5, Value.pointer (some (blk h0.size))), (11, Value.int .i64 (s_1.size : Int)), (12, Value.int .i64 x7), (21, Value.int .i64 s.2)]) (bitsI .xor .u32 c6 (IntKind.u32.wrap (bt s_1 x7)), 0) (fun s h => I s.1 s.2 h) (fun s h => μ s.1 s.2 h) (keep_cons rfl (keep_cons rfl (keep_cons rfl (keep_cons rfl (keep_cons rfl (keep_cons rfl keep_nil)))))) hI20 ?_
    rintro ⟨c13, x14⟩ hz15 hI
    have hD := hL21 c13 x14 hz15 hI
    obtain ⟨C16, hC16⟩ : ∃ c : Int → Int → Hp → Prop, c = (fun c13' x14' h' => I c13' x14' h' ∧ μ c13' x14' h' < μ c13 x14 hz15) := ⟨_, rfl⟩
    rw [← hC16] at hD
    unfold D_sum_More_l1 at hD
    show cw _ _ _ [(0, Value.int .u32 c13), (1, Value.string s_1), (5, Value.pointer (some (blk h0.size))), (11, Value.int .i64 (s_1.size : Int)), (12, Value.int .i64 x7), (21, Value.int .i64 x14)] _ _ _ _
    refine cw_seq ?_
    refine cw_region ?_
    refine wl_q rfl rfl rfl (q_bin rfl rfl rfl (fun _ _ => rfl)) ?_
    refine wl_keep (l' := [(0, Value.int .u32 c13), (1, Value.string s_1), (5, Value.pointer (some (blk h0.size))), (11, Value.int .i64 (s_1.size : Int)), (12, Value.int .i64 x7), (21, Value.int .i64 x14), (22, Value.bool (decide (x14 < (8 : Int))))]) (keep_cons rfl (keep_cons rfl (keep_cons rfl (keep_cons rfl (keep_cons rfl (keep_cons rfl (keep_cons rfl keep_nil))))))) (wl_nil ?_)
    refine cw_seq ?_
    refine cw_cond rfl (fun hb17 => ?_) (fun hb17 => ?_)
    · have hD := ifT hb17 hD
      refine cw_skip ?_
      refine cw_seq ?_
      refine cw_block ?_
      refine cw_region ?_
      refine wl_q rfl rfl rfl (q_move rfl rfl) ?_
      refine wl_e rfl rfl rfl (e_call (first := []) (vs := [Value.pointer (some (blk h0.size)), Value.int .u32 c13]) (cap := []) rfl rfl rfl cf_61 (CallsH.mono hD ?_))
      rintro _ hz18 ⟨r19, rfl, hD⟩
      refine wl_q rfl rfl rfl (q_assign rfl rfl) ?_
      refine wl_keep (l' := [(0, Value.int .u32 r19), (1, Value.string s_1), (5, Value.pointer (some (blk h0.size))), (11, Value.int .i64 (s_1.size : Int)), (12, Value.int .i64 x7), (21, Value.int .i64 x14)]) (keep_cons rfl (keep_cons rfl (keep_cons rfl (keep_cons rfl (keep_cons rfl (keep_cons rfl keep_nil)))))) (wl_nil ?_)
      refine cw_region ?_
      refine wl_q rfl rfl rfl (q_bin rfl rfl rfl (fun _ _ => rfl)) ?_
      refine wl_q rfl rfl rfl (q_move rfl rfl) ?_
      refine wl_keep (l' := [(0, Value.int .u32 r19), (1, Value.string s_1), (5, Value.pointer (some (blk h0.size))), (11, Value.int .i64 (s_1.size : Int)), (12, Value.int .i64 x7), (21, Value.int .i64 (IntKind.i64.wrap (x14 + 1)))]) (keep_cons rfl (keep_cons rfl (keep_cons rfl (keep_cons rfl (keep_cons rfl (keep_cons rfl keep_nil)))))) (wl_nil ?_)
      rw [hC16] at hD
      exact ⟨(r19, IntKind.i64.wrap (x14 + 1)), (keep_cons rfl (keep_cons rfl (keep_cons rfl (keep_cons rfl (keep_cons rfl (keep_cons rfl keep_nil)))))), hD⟩
    · have hD := ifF hb17 hD
      refine cw_exit ?_
      refine xput_same ?_
      refine cw_region ?_
      refine wl_q rfl rfl rfl (q_bin rfl rfl rfl (fun _ _ => rfl)) ?_
      refine wl_q rfl rfl rfl (q_move rfl rfl) ?_
      refine wl_keep (l' := [(0, Value.int .u32 c13), (1, Value.string s_1), (5, Value.pointer (some (blk h0.size))), (11, Value.int .i64 (s_1.size : Int)), (12, Value.int .i64 (IntKind.i64.wrap (x7 + 1)))]) (keep_cons rfl (keep_cons rfl (keep_cons rfl (keep_cons rfl (keep_cons rfl keep_nil))))) (wl_nil ?_)
      rw [hC9] at hD
      exact ⟨(c13, IntKind.i64.wrap (x7 + 1)), (keep_cons rfl (keep_cons rfl (keep_cons rfl (keep_cons rfl (keep_cons rfl keep_nil))))), hD⟩
  · have hD := ifF hb10 hD
    refine cw_exit ?_
    refine xput_same ?_
    refine cw_seq ?_
    refine cw_region ?_
    refine wl_q rfl rfl rfl (q_move rfl rfl) ?_
    refine wl_q rfl rfl rfl (q_un rfl rfl (fun _ => rfl)) ?_
    refine wl_q rfl rfl rfl (q_assign rfl rfl) ?_
    refine wl_keep (l' := [(4, Value.int .u32 (bitsI .xor .u32 (IntKind.u32.max) c6))]) (keep_cons rfl keep_nil) (wl_nil ?_)
    refine cw_ret ?_
    exact ⟨_, resq1 rfl rfl, _, rfl, hD⟩
end Go.Proofs.YtgdmjdacmebfjaaDoor.D

namespace Go.Proofs.YtgdmjdacmebfjaaDoor.D
open Go
set_option maxRecDepth 100000
theorem S_strings_Trim {s_0 : ByteArray} {cutset_1 : ByteArray} {h0 : Hp} {K : ByteArray → Hp → Prop} (hD : D_strings_Trim s_0 cutset_1 h0 K) : C_strings_Trim s_0 cutset_1 h0 K := by
  unfold D_strings_Trim at hD
  refine calls_cw (args := [Value.string s_0, Value.string cutset_1]) Go.Proofs.Tryd.func56 rfl ?_
  show cw _ 43 _ [(0, Value.string s_0), (1, Value.string cutset_1)] _ _ _ _
  refine cw_seq ?_
  refine cw_region ?_
  refine wl_q rfl rfl rfl (q_assign rfl rfl) ?_
  refine wl_keep (l' := [(0, Value.string s_0), (1, Value.string cutset_1)]) (keep_cons rfl (keep_cons rfl keep_nil)) (wl_nil ?_)
  refine cw_seq ?_
  refine cw_cut (fun l h => ∃ (x1 : Bool), Keep l [(0, Value.string s_0), (1, Value.string cutset_1), (12, Value.bool x1)] ∧ D_strings_Trim_j2 s_0 cutset_1 K x1 h) ?_ ?_
  · refine cw_region ?_
    refine wl_q rfl rfl rfl (q_move rfl rfl) ?_
    refine wl_q rfl rfl rfl (q_bin rfl rfl rfl (fun _ _ => rfl)) ?_
    refine wl_q rfl rfl rfl (q_move rfl rfl) ?_
    rcases bool_or (s_0.toList == (ByteArray.mk #[]).toList) with hb38 | hb38
    · have hD := ifT hb38 hD
      refine wl_gn rfl rfl rfl hb38 rfl rfl ?_
      refine wl_gn rfl rfl rfl hb38 rfl rfl ?_
      refine wl_q rfl rfl rfl (q_pickT rfl rfl hb38 rfl) ?_
      refine wl_keep (l' := [(0, Value.string s_0), (1, Value.string cutset_1), (12, Value.bool true)]) (keep_cons rfl (keep_cons rfl (keep_cons rfl keep_nil))) (wl_nil ?_)
      exact ⟨_, (keep_cons rfl (keep_cons rfl (keep_cons rfl keep_nil))), hD⟩
    · have hD := ifF hb38 hD
      refine wl_gq rfl rfl rfl hb38 rfl rfl (q_move rfl rfl) ?_
      refine wl_gq rfl rfl rfl hb38 rfl rfl (q_bin rfl rfl rfl (fun _ _ => rfl)) ?_
      refine wl_q rfl rfl rfl (q_pickF rfl rfl hb38 rfl) ?_
      refine wl_keep (l' := [(0, Value.string s_0), (1, Value.string cutset_1), (12, Value.bool (cutset_1.toList == (ByteArray.mk #[]).toList))]) (keep_cons rfl (keep_cons rfl (keep_cons rfl keep_nil))) (wl_nil ?_)
      exact ⟨_, (keep_cons rfl (keep_cons rfl (keep_cons rfl keep_nil))), hD⟩
  · rintro l40 hz2 ⟨x1, hk39, hD⟩
    refine cw_keep hk39 ?_
    unfold D_strings_Trim_j2 at hD
    refine cw_cond rfl (fun hb3 => ?_) (fun hb3 => ?_)
    · have hD := ifT hb3 hD
      refine cw_seq ?_
      refine cw_region ?_
      refine wl_q rfl rfl rfl (q_move rfl rfl) ?_
      refine wl_q rfl rfl rfl (q_assign rfl rfl) ?_
      refine wl_keep (l' := [(4, Value.string s_0)]) (keep_cons rfl keep_nil) (wl_nil ?_)
      refine cw_ret ?_
      exact ⟨_, resq1 rfl rfl, _, rfl, hD⟩
    · have hD := ifF hb3 hD
      refine cw_skip ?_
      refine cw_seq ?_
      refine cw_cut (fun l h => ∃ (x4 : Bool), Keep l [(0, Value.string s_0), (1, Value.string cutset_1), (21, Value.bool x4)] ∧ D_strings_Trim_j1 s_0 cutset_1 K x4 h) ?_ ?_
      · refine cw_region ?_
        refine wl_q rfl rfl rfl (q_move rfl rfl) ?_
        refine wl_q rfl rfl rfl (q_len_string rfl rfl Go.Proofs.Tryd.underlying9 rfl) ?_
        refine wl_q rfl rfl rfl (q_bin rfl rfl rfl (fun _ _ => rfl)) ?_
        refine wl_q rfl rfl rfl (q_move rfl rfl) ?_
        rcases bool_or ((cutset_1.size : Int) == (1 : Int)) with hb33 | hb33
        · have hD := ifT hb33 hD
          refine wl_gq rfl rfl rfl hb33 rfl rfl (q_move rfl rfl) ?_
          obtain ⟨c34, c35, hD⟩ := hD
          refine wl_gq rfl rfl rfl hb33 rfl rfl (q_index_string rfl rfl rfl Go.Proofs.Tryd.underlying9 c34 c35) ?_
          refine wl_gq rfl rfl rfl hb33 rfl rfl (q_bin rfl rfl rfl (fun _ _ => rfl)) ?_
          refine wl_q rfl rfl rfl (q_pickT rfl rfl hb33 rfl) ?_
          refine wl_keep (l' := [(0, Value.string s_0), (1, Value.string cutset_1), (21, Value.bool (decide ((bt cutset_1 0) < (128 : Int))))]) (keep_cons rfl (keep_cons rfl (keep_cons rfl keep_nil))) (wl_nil ?_)
          exact ⟨_, (keep_cons rfl (keep_cons rfl (keep_cons rfl keep_nil))), hD⟩
        · have hD := ifF hb33 hD
          refine wl_gn rfl rfl rfl hb33 rfl rfl ?_
          refine wl_gn rfl rfl rfl hb33 rfl rfl ?_
          refine wl_gn rfl rfl rfl hb33 rfl rfl ?_
          refine wl_q rfl rfl rfl (q_pickF rfl rfl hb33 rfl) ?_
          refine wl_keep (l' := [(0, Value.string s_0), (1, Value.string cutset_1), (21, Value.bool false)]) (keep_cons rfl (keep_cons rfl (keep_cons rfl keep_nil))) (wl_nil ?_)
          exact ⟨_, (keep_cons rfl (keep_cons rfl (keep_cons rfl keep_nil))), hD⟩
      · rintro l37 hz5 ⟨x4, hk36, hD⟩
        refine cw_keep hk36 ?_
        unfold D_strings_Trim_j1 at hD
        refine cw_cond rfl (fun hb6 => ?_) (fun hb6 => ?_)
        · have hD := ifT hb6 hD
          refine cw_seq ?_
          obtain ⟨c7, c8, hD⟩ := hD
          obtain ⟨c9, c10, hD⟩ := hD
          refine cw_draw (fun h => True) 8 wide ?_
          have hS : True := trivial
          refine wh_q 0 rfl (by kernel_rfl) rfl rfl rfl (q_move rfl rfl) (by exact hS) ?_
          refine wh_q 1 rfl (by kernel_rfl) rfl rfl rfl (q_move rfl rfl) (by exact hS) ?_
          refine wh_q 2 rfl (by kernel_rfl) rfl rfl rfl (q_index_string rfl rfl rfl Go.Proofs.Tryd.underlying9 c7 c8) (by exact hS) ?_
          refine wh_q 4 rfl (by kernel_rfl) rfl rfl rfl (q_move rfl rfl) (by exact hS) ?_
          refine wh_q 5 rfl (by kernel_rfl) rfl rfl rfl (q_index_string rfl rfl rfl Go.Proofs.Tryd.underlying9 c9 c10) (by exact hS) ?_
          refine wh_e 3 rfl (by kernel_rfl) rfl rfl rfl (e_call (first := []) (vs := [Value.string s_0, Value.int .u8 (bt cutset_1 0)]) (cap := []) rfl rfl rfl cf_63 (CallsH.mono hD ?_))
          rintro _ hz11 ⟨r12, rfl, hD⟩
          refine ⟨trivial, ?_⟩
          have hS : True := trivial
          refine wh_e 6 rfl (by kernel_rfl) rfl rfl rfl (e_call (first := []) (vs := [Value.string r12, Value.int .u8 (bt cutset_1 0)]) (cap := []) rfl rfl rfl cf_62 (CallsH.mono hD ?_))
          rintro _ hz13 ⟨r14, rfl, hD⟩
          refine ⟨trivial, ?_⟩
          have hS : True := trivial
          refine wh_q 7 rfl (by kernel_rfl) rfl rfl rfl (q_assign rfl rfl) (by exact hS) ?_
          refine wh_keep (l' := [(4, Value.string r14)]) (keep_cons rfl keep_nil) (wh_done (by kernel_rfl) ?_)
          refine cw_ret ?_
          exact ⟨_, resq1 rfl rfl, _, rfl, hD⟩
        · have hD := ifF hb6 hD
          refine cw_skip ?_
          refine cw_seq ?_
          refine cw_seq ?_
          refine cw_region ?_
          refine wl_q rfl rfl rfl (q_move rfl rfl) ?_
          refine wl_e rfl rfl rfl (e_call (first := []) (vs := [Value.string cutset_1]) (cap := []) rfl rfl rfl cf_64 (CallsH.mono hD ?_))
          rintro _ hz15 ⟨r16, r17, rfl, hD⟩
          refine wl_q rfl rfl rfl (q_move rfl rfl) ?_
          refine wl_q rfl rfl rfl (q_extract rfl rfl rfl) ?_
          refine wl_q rfl rfl rfl (q_extract rfl rfl rfl) ?_
          refine wl_e rfl rfl rfl (e_alloc rfl zr_106 ?_)
          intro hz18 e19
          have hD := hD hz18 e19
          obtain ⟨c21, c22, hD⟩ := hD
          refine wl_e0 rfl rfl (e_stores (vs := r16) rfl rfl rfl (by rw [c21]; exact sz_106) c22 ?_)
          intro hz20 e23
          have hD := hD hz20 e23
          refine wl_q rfl rfl rfl (q_assign rfl rfl) ?_
          refine wl_keep (l' := [(0, Value.string s_0), (1, Value.string cutset_1), (5, Value.pointer (some (blk hz15.size))), (6, Value.bool r17)]) (keep_cons rfl (keep_cons rfl (keep_cons rfl (keep_cons rfl keep_nil)))) (wl_nil ?_)
          refine cw_seq ?_
          refine cw_region ?_
          refine wl_q rfl rfl rfl (q_move rfl rfl) ?_
          refine wl_keep (l' := [(0, Value.string s_0), (1, Value.string cutset_1), (5, Value.pointer (some (blk hz15.size))), (34, Value.bool r17)]) (keep_cons rfl (keep_cons rfl (keep_cons rfl (keep_cons rfl keep_nil)))) (wl_nil ?_)
          refine cw_cond rfl (fun hb24 => ?_) (fun hb24 => ?_)
          · have hD := ifT hb24 hD
            refine cw_seq ?_
            refine cw_region ?_
            refine wl_q rfl rfl rfl (q_move rfl rfl) ?_
            refine wl_e rfl rfl rfl (e_call (first := []) (vs := [Value.string s_0, Value.pointer (some (blk hz15.size))]) (cap := []) rfl rfl rfl cf_66 (CallsH.mono hD ?_))
            rintro _ hz25 ⟨r26, rfl, hD⟩
            refine wl_e rfl rfl rfl (e_call (first := []) (vs := [Value.string r26, Value.pointer (some (blk hz15.size))]) (cap := []) rfl rfl rfl cf_65 (CallsH.mono hD ?_))
            rintro _ hz27 ⟨r28, rfl, hD⟩
            refine wl_q rfl rfl rfl (q_assign rfl rfl) ?_
            refine wl_keep (l' := [(4, Value.string r28)]) (keep_cons rfl keep_nil) (wl_nil ?_)
            refine cw_ret ?_
            exact ⟨_, resq1 rfl rfl, _, rfl, hD⟩
          · have hD := ifF hb24 hD
            refine cw_skip ?_
            refine cw_seq ?_
            refine cw_region ?_
            refine wl_q rfl rfl rfl (q_move rfl rfl) ?_
            refine wl_q rfl rfl rfl (q_move rfl rfl) ?_
            refine wl_e rfl rfl rfl (e_call (first := []) (vs := [Value.string s_0, Value.string cutset_1]) (cap := []) rfl rfl rfl cf_68 (CallsH.mono hD ?_))
            rintro _ hz29 ⟨r30, rfl, hD⟩
            refine wl_q rfl rfl rfl (q_move rfl rfl) ?_
            refine wl_e rfl rfl rfl (e_call (first := []) (vs := [Value.string r30, Value.string cutset_1]) (cap := []) rfl rfl rfl cf_67 (CallsH.mono hD ?_))
            rintro _ hz31 ⟨r32, rfl, hD⟩
            refine wl_q rfl rfl rfl (q_assign rfl rfl) ?_
            refine wl_keep (l' := [(4, Value.string r32)]) (keep_cons rfl keep_nil) (wl_nil ?_)
            refine cw_ret ?_
            exact ⟨_, resq1 rfl rfl, _, rfl, hD⟩
end Go.Proofs.YtgdmjdacmebfjaaDoor.D

namespace Go.Proofs.YtgdmjdacmebfjaaDoor.D
open Go
set_option maxRecDepth 100000
theorem S_slices_pdqsortOrdered_string {d_0 : Sl} {t_1 : Int} {p_2 : Int} {p_3 : Int} {h0 : Hp} {K : Hp → Prop} (hD : D_slices_pdqsortOrdered_string d_0 t_1 p_2 p_3 h0 K) : C_slices_pdqsortOrdered_string d_0 t_1 p_2 p_3 h0 K := by
  unfold D_slices_pdqsortOrdered_string at hD
  refine calls_cw (args := [Sl.v d_0, Value.int .i64 t_1, Value.int .i64 p_2, Value.int .i64 p_3]) Go.Proofs.Tryd.func58 rfl ?_
  show cw _ 134 _ [(0, Sl.v d_0), (1, Value.int .i64 t_1), (2, Value.int .i64 p_2), (3, Value.int .i64 p_3)] _ _ _ _
  refine cw_seq ?_
  refine cw_region ?_
  refine wl_q rfl rfl rfl (q_assign rfl rfl) ?_
  refine wl_keep (l' := [(0, Sl.v d_0), (1, Value.int .i64 t_1), (2, Value.int .i64 p_2), (3, Value.int .i64 p_3), (8, Value.bool true)]) (keep_cons rfl (keep_cons rfl (keep_cons rfl (keep_cons rfl (keep_cons rfl keep_nil))))) (wl_nil ?_)
  refine cw_seq ?_
  refine cw_region ?_
  refine wl_q rfl rfl rfl (q_assign rfl rfl) ?_
  refine wl_keep (l' := [(0, Sl.v d_0), (1, Value.int .i64 t_1), (2, Value.int .i64 p_2), (3, Value.int .i64 p_3), (8, Value.bool true), (9, Value.bool true)]) (keep_cons rfl (keep_cons rfl (keep_cons rfl (keep_cons rfl (keep_cons rfl (keep_cons rfl keep_nil)))))) (wl_nil ?_)
  refine cw_block ?_
  obtain ⟨I, μ, hI67, hL68⟩ := hD
  refine cw_loops (σ := Int × Int × Int × Bool × Bool) (fun s => [(0, Sl.v d_0), (1, Value.int .i64 s.1), (2, Value.int .i64 s.2.1), (3, Value.int .i64 s.2.2.1), (8, Value.bool s.2.2.2.1), (9, Value.bool s.2.2.2.2)]) (t_1, p_2, p_3, true, true) (fun s h => I s.1 s.2.1 s.2.2.1 s.2.2.2.1 s.2.2.2.2 h) (fun s h => μ s.1 s.2.1 s.2.2.1 s.2.2.2.1 s.2.2.2.2 h) (keep_cons rfl (keep_cons rfl (keep_cons rfl (keep_cons rfl (keep_cons rfl (keep_cons rfl keep_nil)))))) hI67 ?_
  rintro ⟨t1, x2, x3, x4, x5⟩ hz6 hI
  have hD := hL68 t1 x2 x3 x4 x5 hz6 hI
  obtain ⟨C7, hC7⟩ : ∃ c : Int → Int → Int → Bool → Bool → Hp → Prop, c = (fun t1' x2' x3' x4' x5' h' => I t1' x2' x3' x4' x5' h' ∧ μ t1' x2' x3' x4' x5' h' < μ t1 x2 x3 x4 x5 hz6) := ⟨_, rfl⟩
  rw [← hC7] at hD
  unfold D_slices_pdqsortOrdered_string_l6 at hD
  show cw _ _ _ [(0, Sl.v d_0), (1, Value.int .i64 t1), (2, Value.int .i64 x2), (3, Value.int .i64 x3), (8, Value.bool x4), (9, Value.bool x5)] _ _ _ _
  refine cw_block ?_
  refine cw_seq ?_
  refine cw_region ?_
  refine wl_q rfl rfl rfl (q_move rfl rfl) ?_
  refine wl_q rfl rfl rfl (q_move rfl rfl) ?_
  refine wl_q rfl rfl rfl (q_bin rfl rfl rfl (fun _ _ => rfl)) ?_
  refine wl_q rfl rfl rfl (q_assign rfl rfl) ?_
  refine wl_keep (l' := [(0, Sl.v d_0), (1, Value.int .i64 t1), (2, Value.int .i64 x2), (3, Value.int .i64 x3), (8, Value.bool x4), (9, Value.bool x5), (10, Value.int .i64 (IntKind.i64.wrap (x2 - t1)))]) (keep_cons rfl (keep_cons rfl (keep_cons rfl (keep_cons rfl (keep_cons rfl (keep_cons rfl (keep_cons rfl keep_nil))))))) (wl_nil ?_)
  refine cw_seq ?_
  refine cw_seq ?_
  refine cw_region ?_
  refine wl_q rfl rfl rfl (q_move rfl rfl) ?_
  refine wl_q rfl rfl rfl (q_bin rfl rfl rfl (fun _ _ => rfl)) ?_
  refine wl_keep (l' := [(0, Sl.v d_0), (1, Value.int .i64 t1), (2, Value.int .i64 x2), (3, Value.int .i64 x3), (8, Value.bool x4), (9, Value.bool x5), (10, Value.int .i64 (IntKind.i64.wrap (x2 - t1))), (23, Value.bool (decide ((IntKind.i64.wrap (x2 - t1)) ≤ (12 : Int))))]) (keep_cons rfl (keep_cons rfl (keep_cons rfl (keep_cons rfl (keep_cons rfl (keep_cons rfl (keep_cons rfl (keep_cons rfl keep_nil)))))))) (wl_nil ?_)
  refine cw_cond rfl (fun hb8 => ?_) (fun hb8 => ?_)
  · have hD := ifT hb8 hD
    refine cw_seq ?_
    refine cw_region ?_
    refine wl_q rfl rfl rfl (q_move rfl rfl) ?_
    refine wl_q rfl rfl rfl (q_move rfl rfl) ?_
    refine wl_q rfl rfl rfl (q_move rfl rfl) ?_
    refine wl_e rfl rfl rfl (e_call (first := []) (vs := [Sl.v d_0, Value.int .i64 t1, Value.int .i64 x2]) (cap := []) rfl rfl rfl cf_69 (CallsH.mono hD ?_))
    rintro _ hz9 ⟨rfl, hD⟩
    refine wl_keep (l' := []) keep_nil (wl_nil ?_)
    refine cw_ret ?_
    exact ⟨_, resq0 rfl, rfl, hD⟩
  · have hD := ifF hb8 hD
    refine cw_skip ?_
    refine cw_seq ?_
    refine cw_seq ?_
    refine cw_region ?_
    refine wl_q rfl rfl rfl (q_move rfl rfl) ?_
    refine wl_q rfl rfl rfl (q_bin rfl rfl rfl (fun _ _ => rfl)) ?_
    refine wl_keep (l' := [(0, Sl.v d_0), (1, Value.int .i64 t1), (2, Value.int .i64 x2), (3, Value.int .i64 x3), (8, Value.bool x4), (9, Value.bool x5), (10, Value.int .i64 (IntKind.i64.wrap (x2 - t1))), (29, Value.bool (x3 == (0 : Int)))]) (keep_cons rfl (keep_cons rfl (keep_cons rfl (keep_cons rfl (keep_cons rfl (keep_cons rfl (keep_cons rfl (keep_cons rfl keep_nil)))))))) (wl_nil ?_)
    refine cw_cond rfl (fun hb10 => ?_) (fun hb10 => ?_)
    · have hD := ifT hb10 hD
      refine cw_seq ?_
      refine cw_region ?_
      refine wl_q rfl rfl rfl (q_move rfl rfl) ?_
      refine wl_q rfl rfl rfl (q_move rfl rfl) ?_
      refine wl_q rfl rfl rfl (q_move rfl rfl) ?_
      refine wl_e rfl rfl rfl (e_call (first := []) (vs := [Sl.v d_0, Value.int .i64 t1, Value.int .i64 x2]) (cap := []) rfl rfl rfl cf_70 (CallsH.mono hD ?_))
      rintro _ hz11 ⟨rfl, hD⟩
      refine wl_keep (l' := []) keep_nil (wl_nil ?_)
      refine cw_ret ?_
      exact ⟨_, resq0 rfl, rfl, hD⟩
    · have hD := ifF hb10 hD
      refine cw_skip ?_
      refine cw_cut (fun l h => ∃ (x12 : Int), Keep l [(0, Sl.v d_0), (1, Value.int .i64 t1), (2, Value.int .i64 x2), (3, Value.int .i64 x12), (8, Value.bool x4), (9, Value.bool x5), (10, Value.int .i64 (IntKind.i64.wrap (x2 - t1)))] ∧ D_slices_pdqsortOrdered_string_j5 d_0 K t1 x2 x4 x5 C7 x12 h) ?_ ?_
      · refine cw_seq ?_
        refine cw_region ?_
        refine wl_q rfl rfl rfl (q_move rfl rfl) ?_
        refine wl_q rfl rfl rfl (q_un rfl rfl (fun _ => rfl)) ?_
        refine wl_keep (l' := [(0, Sl.v d_0), (1, Value.int .i64 t1), (2, Value.int .i64 x2), (3, Value.int .i64 x3), (8, Value.bool x4), (9, Value.bool x5), (10, Value.int .i64 (IntKind.i64.wrap (x2 - t1))), (35, Value.bool (!x4))]) (keep_cons rfl (keep_cons rfl (keep_cons rfl (keep_cons rfl (keep_cons rfl (keep_cons rfl (keep_cons rfl (keep_cons rfl keep_nil)))))))) (wl_nil ?_)
        refine cw_cond rfl (fun hb63 => ?_) (fun hb63 => ?_)
        · have hD := ifT hb63 hD
          refine cw_seq ?_
          refine cw_region ?_
          refine wl_q rfl rfl rfl (q_move rfl rfl) ?_
          refine wl_q rfl rfl rfl (q_move rfl rfl) ?_
          refine wl_q rfl rfl rfl (q_move rfl rfl) ?_
          refine wl_e rfl rfl rfl (e_call (first := []) (vs := [Sl.v d_0, Value.int .i64 t1, Value.int .i64 x2]) (cap := []) rfl rfl rfl cf_71 (CallsH.mono hD ?_))
          rintro _ hz64 ⟨rfl, hD⟩
          refine wl_keep (l' := [(0, Sl.v d_0), (1, Value.int .i64 t1), (2, Value.int .i64 x2), (3, Value.int .i64 x3), (8, Value.bool x4), (9, Value.bool x5), (10, Value.int .i64 (IntKind.i64.wrap (x2 - t1)))]) (keep_cons rfl (keep_cons rfl (keep_cons rfl (keep_cons rfl (keep_cons rfl (keep_cons rfl (keep_cons rfl keep_nil))))))) (wl_nil ?_)
          refine cw_region ?_
          refine wl_q rfl rfl rfl (q_move rfl rfl) ?_
          refine wl_q rfl rfl rfl (q_bin rfl rfl rfl (fun _ _ => rfl)) ?_
          refine wl_q rfl rfl rfl (q_assign rfl rfl) ?_
          refine wl_keep (l' := [(0, Sl.v d_0), (1, Value.int .i64 t1), (2, Value.int .i64 x2), (3, Value.int .i64 (IntKind.i64.wrap (x3 - 1))), (8, Value.bool x4), (9, Value.bool x5), (10, Value.int .i64 (IntKind.i64.wrap (x2 - t1)))]) (keep_cons rfl (keep_cons rfl (keep_cons rfl (keep_cons rfl (keep_cons rfl (keep_cons rfl (keep_cons rfl keep_nil))))))) (wl_nil ?_)
          exact ⟨_, (keep_cons rfl (keep_cons rfl (keep_cons rfl (keep_cons rfl (keep_cons rfl (keep_cons rfl (keep_cons rfl keep_nil))))))), hD⟩
        · have hD := ifF hb63 hD
          refine cw_skip ?_
          exact ⟨_, (keep_cons rfl (keep_cons rfl (keep_cons rfl (keep_cons rfl (keep_cons rfl (keep_cons rfl (keep_cons rfl keep_nil))))))), hD⟩
      · rintro l66 hz13 ⟨x12, hk65, hD⟩
        refine cw_keep hk65 ?_
        unfold D_slices_pdqsortOrdered_string_j5 at hD
        refine cw_seq ?_
        refine cw_region ?_
        refine wl_q rfl rfl rfl (q_move rfl rfl) ?_
        refine wl_q rfl rfl rfl (q_move rfl rfl) ?_
        refine wl_q rfl rfl rfl (q_move rfl rfl) ?_
        refine wl_e rfl rfl rfl (e_call (first := []) (vs := [Sl.v d_0, Value.int .i64 t1, Value.int .i64 x2]) (cap := []) rfl rfl rfl cf_72 (CallsH.mono hD ?_))
        rintro _ hz14 ⟨r15, r16, rfl, hD⟩
        refine wl_q rfl rfl rfl (q_move rfl rfl) ?_
        refine wl_q rfl rfl rfl (q_extract rfl rfl rfl) ?_
        refine wl_q rfl rfl rfl (q_extract rfl rfl rfl) ?_
        refine wl_q rfl rfl rfl (q_assign rfl rfl) ?_
        refine wl_q rfl rfl rfl (q_assign rfl rfl) ?_
        refine wl_keep (l' := [(0, Sl.v d_0), (1, Value.int .i64 t1), (2, Value.int .i64 x2), (3, Value.int .i64 x12), (8, Value.bool x4), (9, Value.bool x5), (10, Value.int .i64 (IntKind.i64.wrap (x2 - t1))), (11, Value.int .i64 r15), (12, Value.int .i64 r16)]) (keep_cons rfl (keep_cons rfl (keep_cons rfl (keep_cons rfl (keep_cons rfl (keep_cons rfl (keep_cons rfl (keep_cons rfl (keep_cons rfl keep_nil))))))))) (wl_nil ?_)
        refine cw_cut (fun l h => ∃ (x17 : Int) (x18 : Int), Keep l [(0, Sl.v d_0), (1, Value.int .i64 t1), (2, Value.int .i64 x2), (3, Value.int .i64 x12), (8, Value.bool x4), (9, Value.bool x5), (10, Value.int .i64 (IntKind.i64.wrap (x2 - t1))), (11, Value.int .i64 x17), (12, Value.int .i64 x18)] ∧ D_slices_pdqsortOrdered_string_j4 d_0 K t1 x2 x4 x5 C7 x12 x17 x18 h) ?_ ?_
        · refine cw_seq ?_
          refine cw_region ?_
          refine wl_q rfl rfl rfl (q_move rfl rfl) ?_
          refine wl_q rfl rfl rfl (q_bin rfl rfl rfl (fun _ _ => rfl)) ?_
          refine wl_keep (l' := [(0, Sl.v d_0), (1, Value.int .i64 t1), (2, Value.int .i64 x2), (3, Value.int .i64 x12), (8, Value.bool x4), (9, Value.bool x5), (10, Value.int .i64 (IntKind.i64.wrap (x2 - t1))), (11, Value.int .i64 r15), (12, Value.int .i64 r16), (50, Value.bool (r16 == (2 : Int)))]) (keep_cons rfl (keep_cons rfl (keep_cons rfl (keep_cons rfl (keep_cons rfl (keep_cons rfl (keep_cons rfl (keep_cons rfl (keep_cons rfl (keep_cons rfl keep_nil)))))))))) (wl_nil ?_)
          refine cw_cond rfl (fun hb59 => ?_) (fun hb59 => ?_)
          · have hD := ifT hb59 hD
            refine cw_seq ?_
            refine cw_region ?_
            refine wl_q rfl rfl rfl (q_move rfl rfl) ?_
            refine wl_q rfl rfl rfl (q_move rfl rfl) ?_
            refine wl_q rfl rfl rfl (q_move rfl rfl) ?_
            refine wl_e rfl rfl rfl (e_call (first := []) (vs := [Sl.v d_0, Value.int .i64 t1, Value.int .i64 x2]) (cap := []) rfl rfl rfl cf_73 (CallsH.mono hD ?_))
            rintro _ hz60 ⟨rfl, hD⟩
            refine wl_keep (l' := [(0, Sl.v d_0), (1, Value.int .i64 t1), (2, Value.int .i64 x2), (3, Value.int .i64 x12), (8, Value.bool x4), (9, Value.bool x5), (10, Value.int .i64 (IntKind.i64.wrap (x2 - t1))), (11, Value.int .i64 r15)]) (keep_cons rfl (keep_cons rfl (keep_cons rfl (keep_cons rfl (keep_cons rfl (keep_cons rfl (keep_cons rfl (keep_cons rfl keep_nil)))))))) (wl_nil ?_)
            refine cw_seq ?_
            refine cw_region ?_
            refine wl_q rfl rfl rfl (q_move rfl rfl) ?_
            refine wl_q rfl rfl rfl (q_bin rfl rfl rfl (fun _ _ => rfl)) ?_
            refine wl_q rfl rfl rfl (q_move rfl rfl) ?_
            refine wl_q rfl rfl rfl (q_move rfl rfl) ?_
            refine wl_q rfl rfl rfl (q_bin rfl rfl rfl (fun _ _ => rfl)) ?_
            refine wl_q rfl rfl rfl (q_bin rfl rfl rfl (fun _ _ => rfl)) ?_
            refine wl_q rfl rfl rfl (q_assign rfl rfl) ?_
            refine wl_keep (l' := [(0, Sl.v d_0), (1, Value.int .i64 t1), (2, Value.int .i64 x2), (3, Value.int .i64 x12), (8, Value.bool x4), (9, Value.bool x5), (10, Value.int .i64 (IntKind.i64.wrap (x2 - t1))), (11, Value.int .i64 (IntKind.i64.wrap ((IntKind.i64.wrap (x2 - 1)) - (IntKind.i64.wrap (r15 - t1)))))]) (keep_cons rfl (keep_cons rfl (keep_cons rfl (keep_cons rfl (keep_cons rfl (keep_cons rfl (keep_cons rfl (keep_cons rfl keep_nil)))))))) (wl_nil ?_)
            refine cw_region ?_
            refine wl_q rfl rfl rfl (q_assign rfl rfl) ?_
            refine wl_keep (l' := [(0, Sl.v d_0), (1, Value.int .i64 t1), (2, Value.int .i64 x2), (3, Value.int .i64 x12), (8, Value.bool x4), (9, Value.bool x5), (10, Value.int .i64 (IntKind.i64.wrap (x2 - t1))), (11, Value.int .i64 (IntKind.i64.wrap ((IntKind.i64.wrap (x2 - 1)) - (IntKind.i64.wrap (r15 - t1))))), (12, Value.int .i64 1)]) (keep_cons rfl (keep_cons rfl (keep_cons rfl (keep_cons rfl (keep_cons rfl (keep_cons rfl (keep_cons rfl (keep_cons rfl (keep_cons rfl keep_nil))))))))) (wl_nil ?_)
            exact ⟨_, _, (keep_cons rfl (keep_cons rfl (keep_cons rfl (keep_cons rfl (keep_cons rfl (keep_cons rfl (keep_cons rfl (keep_cons rfl (keep_cons rfl keep_nil))))))))), hD⟩
          · have hD := ifF hb59 hD
            refine cw_skip ?_
            exact ⟨_, _, (keep_cons rfl (keep_cons rfl (keep_cons rfl (keep_cons rfl (keep_cons rfl (keep_cons rfl (keep_cons rfl (keep_cons rfl (keep_cons rfl keep_nil))))))))), hD⟩
        · rintro l62 hz19 ⟨x17, x18, hk61, hD⟩
          refine cw_keep hk61 ?_
          unfold D_slices_pdqsortOrdered_string_j4 at hD
          refine cw_cut (fun l h => Keep l [(0, Sl.v d_0), (1, Value.int .i64 t1), (2, Value.int .i64 x2), (3, Value.int .i64 x12), (8, Value.bool x4), (9, Value.bool x5), (10, Value.int .i64 (IntKind.i64.wrap (x2 - t1))), (11, Value.int .i64 x17)] ∧ D_slices_pdqsortOrdered_string_j2 d_0 t1 x2 x4 x5 C7 x12 x17 h) ?_ ?_
          · refine cw_cut (fun l h => ∃ (x47 : Bool), Keep l [(0, Sl.v d_0), (1, Value.int .i64 t1), (2, Value.int .i64 x2), (3, Value.int .i64 x12), (8, Value.bool x4), (9, Value.bool x5), (10, Value.int .i64 (IntKind.i64.wrap (x2 - t1))), (11, Value.int .i64 x17), (68, Value.bool x47)] ∧ D_slices_pdqsortOrdered_string_j3 d_0 K t1 x2 x4 x5 C7 x12 x17 x47 h) ?_ ?_
            · refine cw_region ?_
              refine wl_q rfl rfl rfl (q_move rfl rfl) ?_
              refine wl_q rfl rfl rfl (q_move rfl rfl) ?_
              rcases bool_or x4 with hb53 | hb53
              · have hD := ifT hb53 hD
                refine wl_gq rfl rfl rfl hb53 rfl rfl (q_move rfl rfl) ?_
                refine wl_q rfl rfl rfl (q_pickT rfl rfl hb53 rfl) ?_
                refine wl_q rfl rfl rfl (q_move rfl rfl) ?_
                rcases bool_or x5 with hb54 | hb54
                · have hD := ifT hb54 hD
                  refine wl_gq rfl rfl rfl hb54 rfl rfl (q_move rfl rfl) ?_
                  refine wl_gq rfl rfl rfl hb54 rfl rfl (q_bin rfl rfl rfl (fun _ _ => rfl)) ?_
                  refine wl_q rfl rfl rfl (q_pickT rfl rfl hb54 rfl) ?_
                  refine wl_keep (l' := [(0, Sl.v d_0), (1, Value.int .i64 t1), (2, Value.int .i64 x2), (3, Value.int .i64 x12), (8, Value.bool x4), (9, Value.bool x5), (10, Value.int .i64 (IntKind.i64.wrap (x2 - t1))), (11, Value.int .i64 x17), (68, Value.bool (x18 == (1 : Int)))]) (keep_cons rfl (keep_cons rfl (keep_cons rfl (keep_cons rfl (keep_cons rfl (keep_cons rfl (keep_cons rfl (keep_cons rfl (keep_cons rfl keep_nil))))))))) (wl_nil ?_)
                  exact ⟨_, (keep_cons rfl (keep_cons rfl (keep_cons rfl (keep_cons rfl (keep_cons rfl (keep_cons rfl (keep_cons rfl (keep_cons rfl (keep_cons rfl keep_nil))))))))), hD⟩
                · have hD := ifF hb54 hD
                  refine wl_gn rfl rfl rfl hb54 rfl rfl ?_
                  refine wl_gn rfl rfl rfl hb54 rfl rfl ?_
                  refine wl_q rfl rfl rfl (q_pickF rfl rfl hb54 rfl) ?_
                  refine wl_keep (l' := [(0, Sl.v d_0), (1, Value.int .i64 t1), (2, Value.int .i64 x2), (3, Value.int .i64 x12), (8, Value.bool x4), (9, Value.bool x5), (10, Value.int .i64 (IntKind.i64.wrap (x2 - t1))), (11, Value.int .i64 x17), (68, Value.bool false)]) (keep_cons rfl (keep_cons rfl (keep_cons rfl (keep_cons rfl (keep_cons rfl (keep_cons rfl (keep_cons rfl (keep_cons rfl (keep_cons rfl keep_nil))))))))) (wl_nil ?_)
                  exact ⟨_, (keep_cons rfl (keep_cons rfl (keep_cons rfl (keep_cons rfl (keep_cons rfl (keep_cons rfl (keep_cons rfl (keep_cons rfl (keep_cons rfl keep_nil))))))))), hD⟩
              · have hD := ifF hb53 hD
                refine wl_gn rfl rfl rfl hb53 rfl rfl ?_
                refine wl_q rfl rfl rfl (q_pickF rfl rfl hb53 rfl) ?_
                refine wl_q rfl rfl rfl (q_move rfl rfl) ?_
                refine wl_gn rfl rfl rfl rfl rfl rfl ?_
                refine wl_gn rfl rfl rfl rfl rfl rfl ?_
                refine wl_q rfl rfl rfl (q_pickF rfl rfl rfl rfl) ?_
                refine wl_keep (l' := [(0, Sl.v d_0), (1, Value.int .i64 t1), (2, Value.int .i64 x2), (3, Value.int .i64 x12), (8, Value.bool x4), (9, Value.bool x5), (10, Value.int .i64 (IntKind.i64.wrap (x2 - t1))), (11, Value.int .i64 x17), (68, Value.bool false)]) (keep_cons rfl (keep_cons rfl (keep_cons rfl (keep_cons rfl (keep_cons rfl (keep_cons rfl (keep_cons rfl (keep_cons rfl (keep_cons rfl keep_nil))))))))) (wl_nil ?_)
                exact ⟨_, (keep_cons rfl (keep_cons rfl (keep_cons rfl (keep_cons rfl (keep_cons rfl (keep_cons rfl (keep_cons rfl (keep_cons rfl (keep_cons rfl keep_nil))))))))), hD⟩
            · rintro l56 hz48 ⟨x47, hk55, hD⟩
              refine cw_keep hk55 ?_
              unfold D_slices_pdqsortOrdered_string_j3 at hD
              refine cw_cond rfl (fun hb49 => ?_) (fun hb49 => ?_)
              · have hD := ifT hb49 hD
                refine cw_seq ?_
                refine cw_region ?_
                refine wl_q rfl rfl rfl (q_move rfl rfl) ?_
                refine wl_q rfl rfl rfl (q_move rfl rfl) ?_
                refine wl_q rfl rfl rfl (q_move rfl rfl) ?_
                refine wl_e rfl rfl rfl (e_call (first := []) (vs := [Sl.v d_0, Value.int .i64 t1, Value.int .i64 x2]) (cap := []) rfl rfl rfl cf_74 (CallsH.mono hD ?_))
                rintro _ hz50 ⟨r51, rfl, hD⟩
                refine wl_keep (l' := [(0, Sl.v d_0), (1, Value.int .i64 t1), (2, Value.int .i64 x2), (3, Value.int .i64 x12), (8, Value.bool x4), (9, Value.bool x5), (10, Value.int .i64 (IntKind.i64.wrap (x2 - t1))), (11, Value.int .i64 x17), (72, Value.bool r51)]) (keep_cons rfl (keep_cons rfl (keep_cons rfl (keep_cons rfl (keep_cons rfl (keep_cons rfl (keep_cons rfl (keep_cons rfl (keep_cons rfl keep_nil))))))))) (wl_nil ?_)
                refine cw_cond rfl (fun hb52 => ?_) (fun hb52 => ?_)
                · have hD := ifT hb52 hD
                  refine cw_ret ?_
                  exact ⟨_, resq0 rfl, rfl, hD⟩
                · have hD := ifF hb52 hD
                  refine cw_skip ?_
                  exact ⟨(keep_cons rfl (keep_cons rfl (keep_cons rfl (keep_cons rfl (keep_cons rfl (keep_cons rfl (keep_cons rfl (keep_cons rfl keep_nil)))))))), hD⟩
              · have hD := ifF hb49 hD
                refine cw_skip ?_
                exact ⟨(keep_cons rfl (keep_cons rfl (keep_cons rfl (keep_cons rfl (keep_cons rfl (keep_cons rfl (keep_cons rfl (keep_cons rfl keep_nil)))))))), hD⟩
          · rintro l58 hz20 ⟨hk57, hD⟩
            refine cw_keep hk57 ?_
            unfold D_slices_pdqsortOrdered_string_j2 at hD
            refine cw_seq ?_
            refine cw_cut (fun l h => ∃ (x21 : Bool), Keep l [(0, Sl.v d_0), (1, Value.int .i64 t1), (2, Value.int .i64 x2), (3, Value.int .i64 x12), (8, Value.bool x4), (9, Value.bool x5), (10, Value.int .i64 (IntKind.i64.wrap (x2 - t1))), (11, Value.int .i64 x17), (87, Value.bool x21)] ∧ D_slices_pdqsortOrdered_string_j1 d_0 t1 x2 x4 x5 C7 x12 x17 x21 h) ?_ ?_
            · rcases bool_or (decide (t1 > (0 : Int))) with hb32 | hb32
              · have hD := ifT hb32 hD
                obtain ⟨a33, c34, c35, c36, hD⟩ := hD
                obtain ⟨x37, c38, hD⟩ := hD
                obtain ⟨c39, c40, hD⟩ := hD
                obtain ⟨x41, c42, hD⟩ := hD
                refine cw_draw (fun h => cellH h (a33.add ((IntKind.i64.wrap (t1 - 1)).toNat * 1)) = some (Value.string x37) ∧ cellH h (a33.add (x17.toNat * 1)) = some (Value.string x41) ∧ True) 15 wide ?_
                have hS : cellH hz20 (a33.add ((IntKind.i64.wrap (t1 - 1)).toNat * 1)) = some (Value.string x37) ∧ cellH hz20 (a33.add (x17.toNat * 1)) = some (Value.string x41) ∧ True := ⟨c38, c42, trivial⟩
                refine wh_q 0 rfl (by kernel_rfl) rfl rfl rfl (q_move rfl rfl) (by exact hS) ?_
                refine wh_q 1 rfl (by kernel_rfl) rfl rfl rfl (q_bin rfl rfl rfl (fun _ _ => rfl)) (by exact hS) ?_
                refine wh_q 2 rfl (by kernel_rfl) rfl rfl rfl (q_move rfl rfl) (by exact hS) ?_
                refine wh_gq 3 rfl (by kernel_rfl) rfl rfl rfl hb32 rfl rfl (q_move rfl rfl) (by exact hS) ?_
                refine wh_gq 4 rfl (by kernel_rfl) rfl rfl rfl hb32 rfl rfl (q_move rfl rfl) (by exact hS) ?_
                refine wh_gq 5 rfl (by kernel_rfl) rfl rfl rfl hb32 rfl rfl (q_bin rfl rfl rfl (fun _ _ => rfl)) (by exact hS) ?_
                refine wh_gq 6 rfl (by kernel_rfl) rfl rfl rfl hb32 rfl rfl (q_indexAddr rfl rfl rfl Go.Proofs.Tryd.underlying49 sz_9 c34 c35 c36) (by exact hS) ?_
                refine wh_gq 7 rfl (by kernel_rfl) rfl rfl rfl hb32 rfl rfl (q_load rfl rfl Go.Proofs.Tryd.underlying9 rfl (by exact fun _ s => s.1)) (by exact hS) ?_
                refine wh_gq 8 rfl (by kernel_rfl) rfl rfl rfl hb32 rfl rfl (q_move rfl rfl) (by exact hS) ?_
                refine wh_gq 9 rfl (by kernel_rfl) rfl rfl rfl hb32 rfl rfl (q_move rfl rfl) (by exact hS) ?_
                refine wh_gq 10 rfl (by kernel_rfl) rfl rfl rfl hb32 rfl rfl (q_indexAddr rfl rfl rfl Go.Proofs.Tryd.underlying49 sz_9 c34 c39 c40) (by exact hS) ?_
                refine wh_gq 11 rfl (by kernel_rfl) rfl rfl rfl hb32 rfl rfl (q_load rfl rfl Go.Proofs.Tryd.underlying9 rfl (by exact fun _ s => s.2.1)) (by exact hS) ?_
                refine wh_ge 12 rfl (by kernel_rfl) rfl rfl rfl hb32 rfl rfl (e_call (first := []) (vs := [Value.string x37, Value.string x41]) (cap := []) rfl rfl rfl cf_75 (CallsH.mono hD ?_))
                rintro _ hz43 ⟨r44, rfl, hD⟩
                obtain ⟨hk0, hk1, hD⟩ := hD
                refine ⟨⟨hk0, hk1, trivial⟩, ?_⟩
                have hS : cellH hz43 (a33.add ((IntKind.i64.wrap (t1 - 1)).toNat * 1)) = some (Value.string x37) ∧ cellH hz43 (a33.add (x17.toNat * 1)) = some (Value.string x41) ∧ True := ⟨hk0, hk1, trivial⟩
                refine wh_gq 13 rfl (by kernel_rfl) rfl rfl rfl hb32 rfl rfl (q_un rfl rfl (fun _ => rfl)) (by exact hS) ?_
                refine wh_q 14 rfl (by kernel_rfl) rfl rfl rfl (q_pickT rfl rfl hb32 rfl) (by exact hS) ?_
                refine wh_keep (l' := [(0, Sl.v d_0), (1, Value.int .i64 t1), (2, Value.int .i64 x2), (3, Value.int .i64 x12), (8, Value.bool x4), (9, Value.bool x5), (10, Value.int .i64 (IntKind.i64.wrap (x2 - t1))), (11, Value.int .i64 x17), (87, Value.bool (!r44))]) (keep_cons rfl (keep_cons rfl (keep_cons rfl (keep_cons rfl (keep_cons rfl (keep_cons rfl (keep_cons rfl (keep_cons rfl (keep_cons rfl keep_nil))))))))) (wh_done (by kernel_rfl) ?_)
                exact ⟨_, (keep_cons rfl (keep_cons rfl (keep_cons rfl (keep_cons rfl (keep_cons rfl (keep_cons rfl (keep_cons rfl (keep_cons rfl (keep_cons rfl keep_nil))))))))), hD⟩
              · have hD := ifF hb32 hD
                refine cw_draw (fun h => True) 15 wide ?_
                have hS : True := trivial
                refine wh_q 0 rfl (by kernel_rfl) rfl rfl rfl (q_move rfl rfl) (by exact hS) ?_
                refine wh_q 1 rfl (by kernel_rfl) rfl rfl rfl (q_bin rfl rfl rfl (fun _ _ => rfl)) (by exact hS) ?_
                refine wh_q 2 rfl (by kernel_rfl) rfl rfl rfl (q_move rfl rfl) (by exact hS) ?_
                refine wh_gn 3 rfl (by kernel_rfl) rfl rfl rfl hb32 rfl rfl (by exact hS) ?_
                refine wh_gn 4 rfl (by kernel_rfl) rfl rfl rfl hb32 rfl rfl (by exact hS) ?_
                refine wh_gn 5 rfl (by kernel_rfl) rfl rfl rfl hb32 rfl rfl (by exact hS) ?_
                refine wh_gn 6 rfl (by kernel_rfl) rfl rfl rfl hb32 rfl rfl (by exact hS) ?_
                refine wh_gn 7 rfl (by kernel_rfl) rfl rfl rfl hb32 rfl rfl (by exact hS) ?_
                refine wh_gn 8 rfl (by kernel_rfl) rfl rfl rfl hb32 rfl rfl (by exact hS) ?_
                refine wh_gn 9 rfl (by kernel_rfl) rfl rfl rfl hb32 rfl rfl (by exact hS) ?_
                refine wh_gn 10 rfl (by kernel_rfl) rfl rfl rfl hb32 rfl rfl (by exact hS) ?_
                refine wh_gn 11 rfl (by kernel_rfl) rfl rfl rfl hb32 rfl rfl (by exact hS) ?_
                refine wh_gn 12 rfl (by kernel_rfl) rfl rfl rfl hb32 rfl rfl (by exact hS) ?_
                refine wh_gn 13 rfl (by kernel_rfl) rfl rfl rfl hb32 rfl rfl (by exact hS) ?_
                refine wh_q 14 rfl (by kernel_rfl) rfl rfl rfl (q_pickF rfl rfl hb32 rfl) (by exact hS) ?_
                refine wh_keep (l' := [(0, Sl.v d_0), (1, Value.int .i64 t1), (2, Value.int .i64 x2), (3, Value.int .i64 x12), (8, Value.bool x4), (9, Value.bool x5), (10, Value.int .i64 (IntKind.i64.wrap (x2 - t1))), (11, Value.int .i64 x17), (87, Value.bool false)]) (keep_cons rfl (keep_cons rfl (keep_cons rfl (keep_cons rfl (keep_cons rfl (keep_cons rfl (keep_cons rfl (keep_cons rfl (keep_cons rfl keep_nil))))))))) (wh_done (by kernel_rfl) ?_)
                exact ⟨_, (keep_cons rfl (keep_cons rfl (keep_cons rfl (keep_cons rfl (keep_cons rfl (keep_cons rfl (keep_cons rfl (keep_cons rfl (keep_cons rfl keep_nil))))))))), hD⟩
            · rintro l46 hz22 ⟨x21, hk45, hD⟩
              refine cw_keep hk45 ?_
              unfold D_slices_pdqsortOrdered_string_j1 at hD
              refine cw_cond rfl (fun hb23 => ?_) (fun hb23 => ?_)
              · have hD := ifT hb23 hD
                refine cw_seq ?_
                refine cw_region ?_
                refine wl_q rfl rfl rfl (q_move rfl rfl) ?_
                refine wl_q rfl rfl rfl (q_move rfl rfl) ?_
                refine wl_q rfl rfl rfl (q_move rfl rfl) ?_
                refine wl_q rfl rfl rfl (q_move rfl rfl) ?_
                refine wl_e rfl rfl rfl (e_call (first := []) (vs := [Sl.v d_0, Value.int .i64 t1, Value.int .i64 x2, Value.int .i64 x17]) (cap := []) rfl rfl rfl cf_76 (CallsH.mono hD ?_))
                rintro _ hz24 ⟨r25, rfl, hD⟩
                refine wl_q rfl rfl rfl (q_assign rfl rfl) ?_
                refine wl_keep (l' := [(0, Sl.v d_0), (2, Value.int .i64 x2), (3, Value.int .i64 x12), (8, Value.bool x4), (9, Value.bool x5), (13, Value.int .i64 r25)]) (keep_cons rfl (keep_cons rfl (keep_cons rfl (keep_cons rfl (keep_cons rfl (keep_cons rfl keep_nil)))))) (wl_nil ?_)
                refine cw_seq ?_
                refine cw_region ?_
                refine wl_q rfl rfl rfl (q_move rfl rfl) ?_
                refine wl_q rfl rfl rfl (q_assign rfl rfl) ?_
                refine wl_keep (l' := [(0, Sl.v d_0), (1, Value.int .i64 r25), (2, Value.int .i64 x2), (3, Value.int .i64 x12), (8, Value.bool x4), (9, Value.bool x5)]) (keep_cons rfl (keep_cons rfl (keep_cons rfl (keep_cons rfl (keep_cons rfl (keep_cons rfl keep_nil)))))) (wl_nil ?_)
                refine cw_exit ?_
                refine xput_same ?_
                rw [hC7] at hD
                exact ⟨(r25, x2, x12, x4, x5), (keep_cons rfl (keep_cons rfl (keep_cons rfl (keep_cons rfl (keep_cons rfl (keep_cons rfl keep_nil)))))), hD⟩
              · have hD := ifF hb23 hD
                refine cw_skip ?_
                refine cw_seq ?_
                refine cw_region ?_
                refine wl_q rfl rfl rfl (q_move rfl rfl) ?_
                refine wl_q rfl rfl rfl (q_move rfl rfl) ?_
                refine wl_q rfl rfl rfl (q_move rfl rfl) ?_
                refine wl_q rfl rfl rfl (q_move rfl rfl) ?_
                refine wl_e rfl rfl rfl (e_call (first := []) (vs := [Sl.v d_0, Value.int .i64 t1, Value.int .i64 x2, Value.int .i64 x17]) (cap := []) rfl rfl rfl cf_77 (CallsH.mono hD ?_))
                rintro _ hz26 ⟨r27, r28, rfl, hD⟩
                refine wl_q rfl rfl rfl (q_move rfl rfl) ?_
                refine wl_q rfl rfl rfl (q_extract rfl rfl rfl) ?_
                refine wl_q rfl rfl rfl (q_extract rfl rfl rfl) ?_
                refine wl_q rfl rfl rfl (q_assign rfl rfl) ?_
                refine wl_q rfl rfl rfl (q_assign rfl rfl) ?_
                refine wl_keep (l' := [(0, Sl.v d_0), (1, Value.int .i64 t1), (2, Value.int .i64 x2), (3, Value.int .i64 x12), (10, Value.int .i64 (IntKind.i64.wrap (x2 - t1))), (14, Value.int .i64 r27), (15, Value.bool r28)]) (keep_cons rfl (keep_cons rfl (keep_cons rfl (keep_cons rfl (keep_cons rfl (keep_cons rfl (keep_cons rfl keep_nil))))))) (wl_nil ?_)
                refine cw_seq ?_
                refine cw_region ?_
                refine wl_q rfl rfl rfl (q_move rfl rfl) ?_
                refine wl_q rfl rfl rfl (q_assign rfl rfl) ?_
                refine wl_keep (l' := [(0, Sl.v d_0), (1, Value.int .i64 t1), (2, Value.int .i64 x2), (3, Value.int .i64 x12), (9, Value.bool r28), (10, Value.int .i64 (IntKind.i64.wrap (x2 - t1))), (14, Value.int .i64 r27)]) (keep_cons rfl (keep_cons rfl (keep_cons rfl (keep_cons rfl (keep_cons rfl (keep_cons rfl (keep_cons rfl keep_nil))))))) (wl_nil ?_)
                refine cw_seq ?_
                refine cw_region ?_
                refine wl_q rfl rfl rfl (q_move rfl rfl) ?_
                refine wl_q rfl rfl rfl (q_move rfl rfl) ?_
                refine wl_q rfl rfl rfl (q_bin rfl rfl rfl (fun _ _ => rfl)) ?_
                refine wl_q rfl rfl rfl (q_move rfl rfl) ?_
                refine wl_q rfl rfl rfl (q_move rfl rfl) ?_
                refine wl_q rfl rfl rfl (q_bin rfl rfl rfl (fun _ _ => rfl)) ?_
                refine wl_q rfl rfl rfl (q_assign rfl rfl) ?_
                refine wl_q rfl rfl rfl (q_assign rfl rfl) ?_
                refine wl_keep (l' := [(0, Sl.v d_0), (1, Value.int .i64 t1), (2, Value.int .i64 x2), (3, Value.int .i64 x12), (9, Value.bool r28), (10, Value.int .i64 (IntKind.i64.wrap (x2 - t1))), (14, Value.int .i64 r27), (16, Value.int .i64 (IntKind.i64.wrap (r27 - t1))), (17, Value.int .i64 (IntKind.i64.wrap (x2 - r27)))]) (keep_cons rfl (keep_cons rfl (keep_cons rfl (keep_cons rfl (keep_cons rfl (keep_cons rfl (keep_cons rfl (keep_cons rfl (keep_cons rfl keep_nil))))))))) (wl_nil ?_)
                refine cw_seq ?_
                refine cw_region ?_
                refine wl_q rfl rfl rfl (q_move rfl rfl) ?_
                refine wl_q rfl rfl rfl (q_quo rfl rfl rfl (by decide)) ?_
                refine wl_q rfl rfl rfl (q_assign rfl rfl) ?_
                refine wl_keep (l' := [(0, Sl.v d_0), (1, Value.int .i64 t1), (2, Value.int .i64 x2), (3, Value.int .i64 x12), (9, Value.bool r28), (14, Value.int .i64 r27), (16, Value.int .i64 (IntKind.i64.wrap (r27 - t1))), (17, Value.int .i64 (IntKind.i64.wrap (x2 - r27))), (18, Value.int .i64 (IntKind.i64.wrap (Int.tdiv (IntKind.i64.wrap (x2 - t1)) 8)))]) (keep_cons rfl (keep_cons rfl (keep_cons rfl (keep_cons rfl (keep_cons rfl (keep_cons rfl (keep_cons rfl (keep_cons rfl (keep_cons rfl keep_nil))))))))) (wl_nil ?_)
                refine cw_seq ?_
                refine cw_region ?_
                refine wl_q rfl rfl rfl (q_move rfl rfl) ?_
                refine wl_q rfl rfl rfl (q_move rfl rfl) ?_
                refine wl_q rfl rfl rfl (q_bin rfl rfl rfl (fun _ _ => rfl)) ?_
                refine wl_keep (l' := [(0, Sl.v d_0), (1, Value.int .i64 t1), (2, Value.int .i64 x2), (3, Value.int .i64 x12), (9, Value.bool r28), (14, Value.int .i64 r27), (16, Value.int .i64 (IntKind.i64.wrap (r27 - t1))), (17, Value.int .i64 (IntKind.i64.wrap (x2 - r27))), (18, Value.int .i64 (IntKind.i64.wrap (Int.tdiv (IntKind.i64.wrap (x2 - t1)) 8))), (113, Value.bool (decide ((IntKind.i64.wrap (r27 - t1)) < (IntKind.i64.wrap (x2 - r27)))))]) (keep_cons rfl (keep_cons rfl (keep_cons rfl (keep_cons rfl (keep_cons rfl (keep_cons rfl (keep_cons rfl (keep_cons rfl (keep_cons rfl (keep_cons rfl keep_nil)))))))))) (wl_nil ?_)
                refine cw_cond rfl (fun hb29 => ?_) (fun hb29 => ?_)
                · have hD := ifT hb29 hD
                  refine cw_seq ?_
                  refine cw_region ?_
                  refine wl_q rfl rfl rfl (q_move rfl rfl) ?_
                  refine wl_q rfl rfl rfl (q_move rfl rfl) ?_
                  refine wl_q rfl rfl rfl (q_bin rfl rfl rfl (fun _ _ => rfl)) ?_
                  refine wl_q rfl rfl rfl (q_assign rfl rfl) ?_
                  refine wl_keep (l' := [(0, Sl.v d_0), (1, Value.int .i64 t1), (2, Value.int .i64 x2), (3, Value.int .i64 x12), (8, Value.bool (decide ((IntKind.i64.wrap (r27 - t1)) ≥ (IntKind.i64.wrap (Int.tdiv (IntKind.i64.wrap (x2 - t1)) 8))))), (9, Value.bool r28), (14, Value.int .i64 r27)]) (keep_cons rfl (keep_cons rfl (keep_cons rfl (keep_cons rfl (keep_cons rfl (keep_cons rfl (keep_cons rfl keep_nil))))))) (wl_nil ?_)
                  refine cw_seq ?_
                  refine cw_region ?_
                  refine wl_q rfl rfl rfl (q_move rfl rfl) ?_
                  refine wl_q rfl rfl rfl (q_move rfl rfl) ?_
                  refine wl_q rfl rfl rfl (q_move rfl rfl) ?_
                  refine wl_q rfl rfl rfl (q_move rfl rfl) ?_
                  refine wl_e rfl rfl rfl (e_call (first := []) (vs := [Sl.v d_0, Value.int .i64 t1, Value.int .i64 r27, Value.int .i64 x12]) (cap := []) rfl rfl rfl cf_58 (CallsH.mono hD ?_))
                  rintro _ hz30 ⟨rfl, hD⟩
                  refine wl_keep (l' := [(0, Sl.v d_0), (2, Value.int .i64 x2), (3, Value.int .i64 x12), (8, Value.bool (decide ((IntKind.i64.wrap (r27 - t1)) ≥ (IntKind.i64.wrap (Int.tdiv (IntKind.i64.wrap (x2 - t1)) 8))))), (9, Value.bool r28), (14, Value.int .i64 r27)]) (keep_cons rfl (keep_cons rfl (keep_cons rfl (keep_cons rfl (keep_cons rfl (keep_cons rfl keep_nil)))))) (wl_nil ?_)
                  refine cw_region ?_
                  refine wl_q rfl rfl rfl (q_move rfl rfl) ?_
                  refine wl_q rfl rfl rfl (q_bin rfl rfl rfl (fun _ _ => rfl)) ?_
                  refine wl_q rfl rfl rfl (q_assign rfl rfl) ?_
                  refine wl_keep (l' := [(0, Sl.v d_0), (1, Value.int .i64 (IntKind.i64.wrap (r27 + 1))), (2, Value.int .i64 x2), (3, Value.int .i64 x12), (8, Value.bool (decide ((IntKind.i64.wrap (r27 - t1)) ≥ (IntKind.i64.wrap (Int.tdiv (IntKind.i64.wrap (x2 - t1)) 8))))), (9, Value.bool r28)]) (keep_cons rfl (keep_cons rfl (keep_cons rfl (keep_cons rfl (keep_cons rfl (keep_cons rfl keep_nil)))))) (wl_nil ?_)
                  rw [hC7] at hD
                  exact ⟨(IntKind.i64.wrap (r27 + 1), x2, x12, decide ((IntKind.i64.wrap (r27 - t1)) ≥ (IntKind.i64.wrap (Int.tdiv (IntKind.i64.wrap (x2 - t1)) 8))), r28), (keep_cons rfl (keep_cons rfl (keep_cons rfl (keep_cons rfl (keep_cons rfl (keep_cons rfl keep_nil)))))), hD⟩
                · have hD := ifF hb29 hD
                  refine cw_seq ?_
                  refine cw_region ?_
                  refine wl_q rfl rfl rfl (q_move rfl rfl) ?_
                  refine wl_q rfl rfl rfl (q_move rfl rfl) ?_
                  refine wl_q rfl rfl rfl (q_bin rfl rfl rfl (fun _ _ => rfl)) ?_
                  refine wl_q rfl rfl rfl (q_assign rfl rfl) ?_
                  refine wl_keep (l' := [(0, Sl.v d_0), (1, Value.int .i64 t1), (2, Value.int .i64 x2), (3, Value.int .i64 x12), (8, Value.bool (decide ((IntKind.i64.wrap (x2 - r27)) ≥ (IntKind.i64.wrap (Int.tdiv (IntKind.i64.wrap (x2 - t1)) 8))))), (9, Value.bool r28), (14, Value.int .i64 r27)]) (keep_cons rfl (keep_cons rfl (keep_cons rfl (keep_cons rfl (keep_cons rfl (keep_cons rfl (keep_cons rfl keep_nil))))))) (wl_nil ?_)
                  refine cw_seq ?_
                  refine cw_region ?_
                  refine wl_q rfl rfl rfl (q_move rfl rfl) ?_
                  refine wl_q rfl rfl rfl (q_move rfl rfl) ?_
                  refine wl_q rfl rfl rfl (q_bin rfl rfl rfl (fun _ _ => rfl)) ?_
                  refine wl_q rfl rfl rfl (q_move rfl rfl) ?_
                  refine wl_q rfl rfl rfl (q_move rfl rfl) ?_
                  refine wl_e rfl rfl rfl (e_call (first := []) (vs := [Sl.v d_0, Value.int .i64 (IntKind.i64.wrap (r27 + 1)), Value.int .i64 x2, Value.int .i64 x12]) (cap := []) rfl rfl rfl cf_58 (CallsH.mono hD ?_))
                  rintro _ hz31 ⟨rfl, hD⟩
                  refine wl_keep (l' := [(0, Sl.v d_0), (1, Value.int .i64 t1), (3, Value.int .i64 x12), (8, Value.bool (decide ((IntKind.i64.wrap (x2 - r27)) ≥ (IntKind.i64.wrap (Int.tdiv (IntKind.i64.wrap (x2 - t1)) 8))))), (9, Value.bool r28), (14, Value.int .i64 r27)]) (keep_cons rfl (keep_cons rfl (keep_cons rfl (keep_cons rfl (keep_cons rfl (keep_cons rfl keep_nil)))))) (wl_nil ?_)
                  refine cw_region ?_
                  refine wl_q rfl rfl rfl (q_move rfl rfl) ?_
                  refine wl_q rfl rfl rfl (q_assign rfl rfl) ?_
                  refine wl_keep (l' := [(0, Sl.v d_0), (1, Value.int .i64 t1), (2, Value.int .i64 r27), (3, Value.int .i64 x12), (8, Value.bool (decide ((IntKind.i64.wrap (x2 - r27)) ≥ (IntKind.i64.wrap (Int.tdiv (IntKind.i64.wrap (x2 - t1)) 8))))), (9, Value.bool r28)]) (keep_cons rfl (keep_cons rfl (keep_cons rfl (keep_cons rfl (keep_cons rfl (keep_cons rfl keep_nil)))))) (wl_nil ?_)
                  rw [hC7] at hD
                  exact ⟨(t1, r27, x12, decide ((IntKind.i64.wrap (x2 - r27)) ≥ (IntKind.i64.wrap (Int.tdiv (IntKind.i64.wrap (x2 - t1)) 8))), r28), (keep_cons rfl (keep_cons rfl (keep_cons rfl (keep_cons rfl (keep_cons rfl (keep_cons rfl keep_nil)))))), hD⟩
end Go.Proofs.YtgdmjdacmebfjaaDoor.D

namespace Go.Proofs.YtgdmjdacmebfjaaDoor.D
open Go
set_option maxRecDepth 100000
theorem S_bits_Len {x_0 : Int} {h0 : Hp} {K : Int → Hp → Prop} (hD : D_bits_Len x_0 h0 K) : C_bits_Len x_0 h0 K := by
  unfold D_bits_Len at hD
  refine calls_cw (args := [Value.int .u64 x_0]) Go.Proofs.Tryd.func59 rfl ?_
  show cw _ 8 _ [(0, Value.int .u64 x_0)] _ _ _ _
  refine cw_seq ?_
  refine cw_region ?_
  refine wl_q rfl rfl rfl (q_assign rfl rfl) ?_
  refine wl_keep (l' := [(0, Value.int .u64 x_0)]) (keep_cons rfl keep_nil) (wl_nil ?_)
  refine cw_seq ?_
  refine cw_condF rfl rfl ?_
  refine cw_skip ?_
  refine cw_seq ?_
  refine cw_region ?_
  refine wl_q rfl rfl rfl (q_move rfl rfl) ?_
  refine wl_e rfl rfl rfl (e_call (first := []) (vs := [Value.int .u64 x_0]) (cap := []) rfl rfl rfl cf_79 (CallsH.mono hD ?_))
  rintro _ hz1 ⟨r2, rfl, hD⟩
  refine wl_q rfl rfl rfl (q_assign rfl rfl) ?_
  refine wl_keep (l' := [(2, Value.int .i64 r2)]) (keep_cons rfl keep_nil) (wl_nil ?_)
  refine cw_ret ?_
  exact ⟨_, resq1 rfl rfl, _, rfl, hD⟩
end Go.Proofs.YtgdmjdacmebfjaaDoor.D

namespace Go.Proofs.YtgdmjdacmebfjaaDoor.D
open Go
set_option maxRecDepth 100000
theorem S_digits_GetNum {s_0 : ByteArray} {h0 : Hp} {K : Int → Int → Int → Hp → Prop} (hD : D_digits_GetNum s_0 h0 K) : C_digits_GetNum s_0 h0 K := by
  unfold D_digits_GetNum at hD
  refine calls_cw (args := [Value.string s_0]) Go.Proofs.Tryd.func60 rfl ?_
  show cw _ 51 _ [(0, Value.string s_0)] _ _ _ _
  refine cw_seq ?_
  refine cw_region ?_
  refine wl_q rfl rfl rfl (q_assign rfl rfl) ?_
  refine wl_q rfl rfl rfl (q_assign rfl rfl) ?_
  refine wl_q rfl rfl rfl (q_assign rfl rfl) ?_
  refine wl_keep (l' := [(0, Value.string s_0)]) (keep_cons rfl keep_nil) (wl_nil ?_)
  refine cw_seq ?_
  refine cw_seq ?_
  refine cw_region ?_
  refine wl_q rfl rfl rfl (q_move rfl rfl) ?_
  refine wl_q rfl rfl rfl (q_bin rfl rfl rfl (fun _ _ => rfl)) ?_
  refine wl_keep (l' := [(0, Value.string s_0), (11, Value.bool (s_0.toList == (ByteArray.mk #[]).toList))]) (keep_cons rfl (keep_cons rfl keep_nil)) (wl_nil ?_)
  refine cw_cond rfl (fun hb1 => ?_) (fun hb1 => ?_)
  · have hD := ifT hb1 hD
    refine cw_seq ?_
    refine cw_region ?_
    refine wl_q rfl rfl rfl (q_assign rfl rfl) ?_
    refine wl_q rfl rfl rfl (q_assign rfl rfl) ?_
    refine wl_q rfl rfl rfl (q_assign rfl rfl) ?_
    refine wl_keep (l' := [(2, Value.int .u64 0), (3, Value.int .i64 0), (4, Value.int .i64 1)]) (keep_cons rfl (keep_cons rfl (keep_cons rfl keep_nil))) (wl_nil ?_)
    refine cw_ret ?_
    exact ⟨_, resq3 rfl rfl rfl rfl, _, _, _, rfl, hD⟩
  · have hD := ifF hb1 hD
    refine cw_skip ?_
    refine cw_seq ?_
    obtain ⟨c2, c3, hD⟩ := hD
    obtain ⟨c4, c5, hD⟩ := hD
    refine cw_draw (fun h => True) 7 wide ?_
    have hS : True := trivial
    refine wh_q 0 rfl (by kernel_rfl) rfl rfl rfl (q_move rfl rfl) (by exact hS) ?_
    refine wh_q 1 rfl (by kernel_rfl) rfl rfl rfl (q_index_string rfl rfl rfl Go.Proofs.Tryd.underlying9 c2 c3) (by exact hS) ?_
    refine wh_q 2 rfl (by kernel_rfl) rfl rfl rfl (q_conv_int rfl rfl Go.Proofs.Tryd.underlying5 Go.Proofs.Tryd.underlying3) (by exact hS) ?_
    refine wh_q 3 rfl (by kernel_rfl) rfl rfl rfl (q_move rfl rfl) (by exact hS) ?_
    refine wh_q 4 rfl (by kernel_rfl) rfl rfl rfl (q_slice_string rfl rfl Go.Proofs.Tryd.underlying9 ⟨_, _, rfl, rfl⟩ rfl c4 c5) (by exact hS) ?_
    refine wh_q 5 rfl (by kernel_rfl) rfl rfl rfl (q_assign rfl rfl) (by exact hS) ?_
    refine wh_q 6 rfl (by kernel_rfl) rfl rfl rfl (q_assign rfl rfl) (by exact hS) ?_
    refine wh_keep (l' := [(5, Value.int .i64 (IntKind.i64.wrap (bt s_0 0))), (6, Value.string (s_0.extract 1 s_0.size))]) (keep_cons rfl (keep_cons rfl keep_nil)) (wh_done (by kernel_rfl) ?_)
    refine cw_seq ?_
    refine cw_block ?_
    refine cw_seq ?_
    refine cw_region ?_
    refine wl_q rfl rfl rfl (q_move rfl rfl) ?_
    refine wl_q rfl rfl rfl (q_bin rfl rfl rfl (fun _ _ => rfl)) ?_
    refine wl_q rfl rfl rfl (q_assign rfl rfl) ?_
    refine wl_keep (l' := [(5, Value.int .i64 (IntKind.i64.wrap (bt s_0 0))), (6, Value.string (s_0.extract 1 s_0.size)), (17, Value.bool (decide ((IntKind.i64.wrap (bt s_0 0)) > (8 : Int))))]) (keep_cons rfl (keep_cons rfl (keep_cons rfl keep_nil))) (wl_nil ?_)
    refine cw_cond rfl (fun hb6 => ?_) (fun hb6 => ?_)
    · have hD := ifT hb6 hD
      refine cw_seq ?_
      refine cw_region ?_
      refine wl_q rfl rfl rfl (q_assign rfl rfl) ?_
      refine wl_q rfl rfl rfl (q_assign rfl rfl) ?_
      refine wl_q rfl rfl rfl (q_assign rfl rfl) ?_
      refine wl_keep (l' := [(2, Value.int .u64 0), (3, Value.int .i64 0), (4, Value.int .i64 2)]) (keep_cons rfl (keep_cons rfl (keep_cons rfl keep_nil))) (wl_nil ?_)
      refine cw_ret ?_
      exact ⟨_, resq3 rfl rfl rfl rfl, _, _, _, rfl, hD⟩
    · have hD := ifF hb6 hD
      refine cw_seq ?_
      refine cw_region ?_
      refine wl_q rfl rfl rfl (q_move rfl rfl) ?_
      refine wl_q rfl rfl rfl (q_len_string rfl rfl Go.Proofs.Tryd.underlying9 rfl) ?_
      refine wl_q rfl rfl rfl (q_move rfl rfl) ?_
      refine wl_q rfl rfl rfl (q_bin rfl rfl rfl (fun _ _ => rfl)) ?_
      refine wl_q rfl rfl rfl (q_assign rfl rfl) ?_
      refine wl_keep (l' := [(5, Value.int .i64 (IntKind.i64.wrap (bt s_0 0))), (6, Value.string (s_0.extract 1 s_0.size)), (20, Value.bool (decide (((s_0.extract 1 s_0.size).size : Int) < (IntKind.i64.wrap (bt s_0 0)))))]) (keep_cons rfl (keep_cons rfl (keep_cons rfl keep_nil))) (wl_nil ?_)
      refine cw_cond rfl (fun hb7 => ?_) (fun hb7 => ?_)
      · have hD := ifT hb7 hD
        refine cw_seq ?_
        refine cw_region ?_
        refine wl_q rfl rfl rfl (q_assign rfl rfl) ?_
        refine wl_q rfl rfl rfl (q_assign rfl rfl) ?_
        refine wl_q rfl rfl rfl (q_assign rfl rfl) ?_
        refine wl_keep (l' := [(2, Value.int .u64 0), (3, Value.int .i64 0), (4, Value.int .i64 1)]) (keep_cons rfl (keep_cons rfl (keep_cons rfl keep_nil))) (wl_nil ?_)
        refine cw_ret ?_
        exact ⟨_, resq3 rfl rfl rfl rfl, _, _, _, rfl, hD⟩
      · have hD := ifF hb7 hD
        refine cw_cut (fun l h => ∃ (x8 : Bool), Keep l [(5, Value.int .i64 (IntKind.i64.wrap (bt s_0 0))), (6, Value.string (s_0.extract 1 s_0.size)), (25, Value.bool x8)] ∧ D_digits_GetNum_j2 s_0 K x8 h) ?_ ?_
        · refine cw_region ?_
          refine wl_q rfl rfl rfl (q_move rfl rfl) ?_
          refine wl_q rfl rfl rfl (q_bin rfl rfl rfl (fun _ _ => rfl)) ?_
          refine wl_q rfl rfl rfl (q_move rfl rfl) ?_
          rcases bool_or (decide ((IntKind.i64.wrap (bt s_0 0)) > (0 : Int))) with hb32 | hb32
          · have hD := ifT hb32 hD
            refine wl_gq rfl rfl rfl hb32 rfl rfl (q_move rfl rfl) ?_
            obtain ⟨c33, c34, hD⟩ := hD
            refine wl_gq rfl rfl rfl hb32 rfl rfl (q_index_string rfl rfl rfl Go.Proofs.Tryd.underlying9 c33 c34) ?_
            refine wl_gq rfl rfl rfl hb32 rfl rfl (q_bin rfl rfl rfl (fun _ _ => rfl)) ?_
            refine wl_q rfl rfl rfl (q_pickT rfl rfl hb32 rfl) ?_
            refine wl_q rfl rfl rfl (q_assign rfl rfl) ?_
            refine wl_keep (l' := [(5, Value.int .i64 (IntKind.i64.wrap (bt s_0 0))), (6, Value.string (s_0.extract 1 s_0.size)), (25, Value.bool ((bt (s_0.extract 1 s_0.size) 0) == (0 : Int)))]) (keep_cons rfl (keep_cons rfl (keep_cons rfl keep_nil))) (wl_nil ?_)
            exact ⟨_, (keep_cons rfl (keep_cons rfl (keep_cons rfl keep_nil))), hD⟩
          · have hD := ifF hb32 hD
            refine wl_gn rfl rfl rfl hb32 rfl rfl ?_
            refine wl_gn rfl rfl rfl hb32 rfl rfl ?_
            refine wl_gn rfl rfl rfl hb32 rfl rfl ?_
            refine wl_q rfl rfl rfl (q_pickF rfl rfl hb32 rfl) ?_
            refine wl_q rfl rfl rfl (q_assign rfl rfl) ?_
            refine wl_keep (l' := [(5, Value.int .i64 (IntKind.i64.wrap (bt s_0 0))), (6, Value.string (s_0.extract 1 s_0.size)), (25, Value.bool false)]) (keep_cons rfl (keep_cons rfl (keep_cons rfl keep_nil))) (wl_nil ?_)
            exact ⟨_, (keep_cons rfl (keep_cons rfl (keep_cons rfl keep_nil))), hD⟩
        · rintro l36 hz9 ⟨x8, hk35, hD⟩
          refine cw_keep hk35 ?_
          unfold D_digits_GetNum_j2 at hD
          refine cw_cond rfl (fun hb10 => ?_) (fun hb10 => ?_)
          · have hD := ifT hb10 hD
            refine cw_seq ?_
            refine cw_region ?_
            refine wl_q rfl rfl rfl (q_assign rfl rfl) ?_
            refine wl_q rfl rfl rfl (q_assign rfl rfl) ?_
            refine wl_q rfl rfl rfl (q_assign rfl rfl) ?_
            refine wl_keep (l' := [(2, Value.int .u64 0), (3, Value.int .i64 0), (4, Value.int .i64 3)]) (keep_cons rfl (keep_cons rfl (keep_cons rfl keep_nil))) (wl_nil ?_)
            refine cw_ret ?_
            exact ⟨_, resq3 rfl rfl rfl rfl, _, _, _, rfl, hD⟩
          · have hD := ifF hb10 hD
            refine cw_skip ?_
            refine cw_seq ?_
            refine cw_region ?_
            refine wl_q rfl rfl rfl (q_assign rfl rfl) ?_
            refine wl_keep (l' := [(5, Value.int .i64 (IntKind.i64.wrap (bt s_0 0))), (6, Value.string (s_0.extract 1 s_0.size)), (7, Value.int .u64 0)]) (keep_cons rfl (keep_cons rfl (keep_cons rfl keep_nil))) (wl_nil ?_)
            refine cw_seq ?_
            refine cw_seq ?_
            refine cw_region ?_
            refine wl_q rfl rfl rfl (q_move rfl rfl) ?_
            refine wl_q rfl rfl rfl (q_move rfl rfl) ?_
            obtain ⟨n11, c12, c13, c14, hD⟩ := hD
            refine wl_q rfl rfl rfl (q_slice_string rfl rfl Go.Proofs.Tryd.underlying9 rfl ⟨_, _, rfl, c12⟩ c13 c14) ?_
            refine wl_e rfl rfl rfl (e_conv_to_bytes rfl rfl Go.Proofs.Tryd.underlying9 Go.Proofs.Tryd.underlying79 Go.Proofs.Tryd.underlying5 ?_)
            intro c16 hz15 c17 e18
            have hD := hD c16 hz15 c17 e18
            refine wl_q rfl rfl rfl (q_len_slice rfl rfl Go.Proofs.Tryd.underlying79 rfl) ?_
            refine wl_q rfl rfl rfl (q_move rfl rfl) ?_
            refine wl_keep (l' := [(5, Value.int .i64 (IntKind.i64.wrap (bt s_0 0))), (7, Value.int .u64 0), (36, Sl.v (Sl.mk (some (blk hz9.size)) ((s_0.extract 1 s_0.size).extract 0 n11).size c16)), (37, Value.int .i64 ((Sl.mk (some (blk hz9.size)) ((s_0.extract 1 s_0.size).extract 0 n11).size c16).len : Int)), (38, Value.int .i64 0)]) (keep_cons rfl (keep_cons rfl (keep_cons rfl (keep_cons rfl (keep_cons rfl keep_nil))))) (wl_nil ?_)
            refine cw_block ?_
            obtain ⟨I, μ, hI30, hL31⟩ := hD
            refine cw_loops (σ := Int × Int) (fun s => [(5, Value.int .i64 (IntKind.i64.wrap (bt s_0 0))), (7, Value.int .u64 s.1), (36, Sl.v (Sl.mk (some (blk hz9.size)) ((s_0.extract 1 s_0.size).extract 0 n11).size c16)), (37, Value.int .i64 ((Sl.mk (some (blk hz9.size)) ((s_0.extract 1 s_0.size).extract 0 n11).size c16).len : Int)), (38, Value.int .i64 s.2)]) (0, 0) (fun s h => I s.1 s.2 h) (fun s h => μ s.1 s.2 h) (keep_cons rfl (keep_cons rfl (keep_cons rfl (keep_cons rfl (keep_cons rfl keep_nil))))) hI30 ?_
            rintro ⟨n19, x20⟩ hz21 hI
            have hD := hL31 n19 x20 hz21 hI
            obtain ⟨C22, hC22⟩ : ∃ c : Int → Int → Hp → Prop, c = (fun n19' x20' h' => I n19' x20' h' ∧ μ n19' x20' h' < μ n19 x20 hz21) := ⟨_, rfl⟩
            rw [← hC22] at hD
            unfold D_digits_GetNum_l1 at hD
            show cw _ _ _ [(5, Value.int .i64 (IntKind.i64.wrap (bt s_0 0))), (7, Value.int .u64 n19), (36, Sl.v (Sl.mk (some (blk hz9.size)) ((s_0.extract 1 s_0.size).extract 0 n11).size c16)), (37, Value.int .i64 ((Sl.mk (some (blk hz9.size)) ((s_0.extract 1 s_0.size).extract 0 n11).size c16).len : Int)), (38, Value.int .i64 x20)] _ _ _ _
            refine cw_seq ?_
            refine cw_region ?_
            refine wl_q rfl rfl rfl (q_bin rfl rfl rfl (fun _ _ => rfl)) ?_
            refine wl_keep (l' := [(5, Value.int .i64 (IntKind.i64.wrap (bt s_0 0))), (7, Value.int .u64 n19), (36, Sl.v (Sl.mk (some (blk hz9.size)) ((s_0.extract 1 s_0.size).extract 0 n11).size c16)), (37, Value.int .i64 ((Sl.mk (some (blk hz9.size)) ((s_0.extract 1 s_0.size).extract 0 n11).size c16).len : Int)), (38, Value.int .i64 x20), (39, Value.bool (decide (x20 < ((Sl.mk (some (blk hz9.size)) ((s_0.extract 1 s_0.size).extract 0 n11).size c16).len : Int))))]) (keep_cons rfl (keep_cons rfl (keep_cons rfl (keep_cons rfl (keep_cons rfl (keep_cons rfl keep_nil)))))) (wl_nil ?_)
            refine cw_seq ?_
            refine cw_cond rfl (fun hb23 => ?_) (fun hb23 => ?_)
            · have hD := ifT hb23 hD
              refine cw_skip ?_
              refine cw_seq ?_
              refine cw_block ?_
              refine cw_seq ?_
              refine cw_region ?_
              obtain ⟨a24, c25, c26, c27, hD⟩ := hD
              refine wl_q rfl rfl rfl (q_indexAddr rfl rfl rfl Go.Proofs.Tryd.underlying79 sz_5 c25 c26 c27) ?_
              obtain ⟨x28, c29, hD⟩ := hD
              refine wl_q rfl rfl rfl (q_load rfl rfl Go.Proofs.Tryd.underlying5 rfl (At.cell c29)) ?_
              refine wl_q rfl rfl rfl (q_assign rfl rfl) ?_
              refine wl_keep (l' := [(5, Value.int .i64 (IntKind.i64.wrap (bt s_0 0))), (7, Value.int .u64 n19), (9, Value.int .u8 x28), (36, Sl.v (Sl.mk (some (blk hz9.size)) ((s_0.extract 1 s_0.size).extract 0 n11).size c16)), (37, Value.int .i64 ((Sl.mk (some (blk hz9.size)) ((s_0.extract 1 s_0.size).extract 0 n11).size c16).len : Int)), (38, Value.int .i64 x20)]) (keep_cons rfl (keep_cons rfl (keep_cons rfl (keep_cons rfl (keep_cons rfl (keep_cons rfl keep_nil)))))) (wl_nil ?_)
              refine cw_region ?_
              refine wl_q rfl rfl rfl (q_move rfl rfl) ?_
              refine wl_q rfl rfl rfl (q_shl rfl rfl rfl (by decide)) ?_
              refine wl_q rfl rfl rfl (q_move rfl rfl) ?_
              refine wl_q rfl rfl rfl (q_conv_int rfl rfl Go.Proofs.Tryd.underlying5 Go.Proofs.Tryd.underlying24) ?_
              refine wl_q rfl rfl rfl (q_bin rfl rfl rfl (fun _ _ => rfl)) ?_
              refine wl_q rfl rfl rfl (q_assign rfl rfl) ?_
              refine wl_keep (l' := [(5, Value.int .i64 (IntKind.i64.wrap (bt s_0 0))), (7, Value.int .u64 (bitsI .or .u64 (IntKind.u64.wrap (n19 * 2 ^ (min (Int.toNat 8) 64))) (IntKind.u64.wrap x28))), (36, Sl.v (Sl.mk (some (blk hz9.size)) ((s_0.extract 1 s_0.size).extract 0 n11).size c16)), (37, Value.int .i64 ((Sl.mk (some (blk hz9.size)) ((s_0.extract 1 s_0.size).extract 0 n11).size c16).len : Int)), (38, Value.int .i64 x20)]) (keep_cons rfl (keep_cons rfl (keep_cons rfl (keep_cons rfl (keep_cons rfl keep_nil))))) (wl_nil ?_)
              refine cw_region ?_
              refine wl_q rfl rfl rfl (q_bin rfl rfl rfl (fun _ _ => rfl)) ?_
              refine wl_q rfl rfl rfl (q_move rfl rfl) ?_
              refine wl_keep (l' := [(5, Value.int .i64 (IntKind.i64.wrap (bt s_0 0))), (7, Value.int .u64 (bitsI .or .u64 (IntKind.u64.wrap (n19 * 2 ^ (min (Int.toNat 8) 64))) (IntKind.u64.wrap x28))), (36, Sl.v (Sl.mk (some (blk hz9.size)) ((s_0.extract 1 s_0.size).extract 0 n11).size c16)), (37, Value.int .i64 ((Sl.mk (some (blk hz9.size)) ((s_0.extract 1 s_0.size).extract 0 n11).size c16).len : Int)), (38, Value.int .i64 (IntKind.i64.wrap (x20 + 1)))]) (keep_cons rfl (keep_cons rfl (keep_cons rfl (keep_cons rfl (keep_cons rfl keep_nil))))) (wl_nil ?_)
              rw [hC22] at hD
              exact ⟨(bitsI .or .u64 (IntKind.u64.wrap (n19 * 2 ^ (min (Int.toNat 8) 64))) (IntKind.u64.wrap x28), IntKind.i64.wrap (x20 + 1)), (keep_cons rfl (keep_cons rfl (keep_cons rfl (keep_cons rfl (keep_cons rfl keep_nil))))), hD⟩
            · have hD := ifF hb23 hD
              refine cw_exit ?_
              refine xput_same ?_
              refine cw_seq ?_
              refine cw_region ?_
              refine wl_q rfl rfl rfl (q_move rfl rfl) ?_
              refine wl_q rfl rfl rfl (q_move rfl rfl) ?_
              refine wl_q rfl rfl rfl (q_bin rfl rfl rfl (fun _ _ => rfl)) ?_
              refine wl_q rfl rfl rfl (q_assign rfl rfl) ?_
              refine wl_q rfl rfl rfl (q_assign rfl rfl) ?_
              refine wl_q rfl rfl rfl (q_assign rfl rfl) ?_
              refine wl_keep (l' := [(2, Value.int .u64 n19), (3, Value.int .i64 (IntKind.i64.wrap (1 + (IntKind.i64.wrap (bt s_0 0))))), (4, Value.int .i64 0)]) (keep_cons rfl (keep_cons rfl (keep_cons rfl keep_nil))) (wl_nil ?_)
              refine cw_ret ?_
              exact ⟨_, resq3 rfl rfl rfl rfl, _, _, _, rfl, hD⟩
end Go.Proofs.YtgdmjdacmebfjaaDoor.D

namespace Go.Proofs.YtgdmjdacmebfjaaDoor.D
open Go
set_option maxRecDepth 100000
theorem S_sum_masks_step {m_0 : Option Addr} {c_1 : Int} {h0 : Hp} {K : Int → Hp → Prop} (hD : D_sum_masks_step m_0 c_1 h0 K) : C_sum_masks_step m_0 c_1 h0 K := by
  unfold D_sum_masks_step at hD
  refine calls_cw (args := [Value.pointer m_0, Value.int .u32 c_1]) Go.Proofs.Tryd.func61 rfl ?_
  show cw _ 14 _ [(0, Value.pointer m_0), (1, Value.int .u32 c_1)] _ _ _ _
  refine cw_seq ?_
  refine cw_region ?_
  refine wl_q rfl rfl rfl (q_assign rfl rfl) ?_
  refine wl_keep (l' := [(0, Value.pointer m_0), (1, Value.int .u32 c_1)]) (keep_cons rfl (keep_cons rfl keep_nil)) (wl_nil ?_)
  refine cw_seq ?_
  refine cw_region ?_
  refine wl_q rfl rfl rfl (q_move rfl rfl) ?_
  refine wl_q rfl rfl rfl (q_shr rfl rfl rfl (by decide)) ?_
  refine wl_q rfl rfl rfl (q_move rfl rfl) ?_
  refine wl_q rfl rfl rfl (q_move rfl rfl) ?_
  refine wl_q rfl rfl rfl (q_bin rfl rfl rfl (fun _ _ => rfl)) ?_
  obtain ⟨a1, c2, hD⟩ := hD
  refine wl_q rfl rfl rfl (q_nil rfl rfl c2) ?_
  obtain ⟨c3, c4, hD⟩ := hD
  refine wl_q rfl rfl rfl (q_indexAddr_array rfl rfl rfl Go.Proofs.Tryd.underlying102 sz_82 c3 c4) ?_
  obtain ⟨x5, c6, hD⟩ := hD
  refine wl_q rfl rfl rfl (q_load rfl rfl Go.Proofs.Tryd.underlying82 rfl (At.cell c6)) ?_
  refine wl_q rfl rfl rfl (q_bin rfl rfl rfl (fun _ _ => rfl)) ?_
  refine wl_q rfl rfl rfl (q_assign rfl rfl) ?_
  refine wl_keep (l' := [(4, Value.int .u32 (bitsI .xor .u32 (Int.fdiv c_1 (2 ^ (min (Int.toNat 1) 32))) x5))]) (keep_cons rfl keep_nil) (wl_nil ?_)
  refine cw_ret ?_
  exact ⟨_, resq1 rfl rfl, _, rfl, hD⟩
end Go.Proofs.YtgdmjdacmebfjaaDoor.D

namespace Go.Proofs.YtgdmjdacmebfjaaDoor.D
open Go
set_option maxRecDepth 100000
theorem S_strings_trimLeftByte {s_0 : ByteArray} {c_1 : Int} {h0 : Hp} {K : ByteArray → Hp → Prop} (hD : D_strings_trimLeftByte s_0 c_1 h0 K) : C_strings_trimLeftByte s_0 c_1 h0 K := by
  unfold D_strings_trimLeftByte at hD
  refine calls_cw (args := [Value.string s_0, Value.int .u8 c_1]) Go.Proofs.Tryd.func62 rfl ?_
  show cw _ 17 _ [(0, Value.string s_0), (1, Value.int .u8 c_1)] _ _ _ _
  refine cw_seq ?_
  refine cw_region ?_
  refine wl_q rfl rfl rfl (q_assign rfl rfl) ?_
  refine wl_keep (l' := [(0, Value.string s_0), (1, Value.int .u8 c_1)]) (keep_cons rfl (keep_cons rfl keep_nil)) (wl_nil ?_)
  refine cw_seq ?_
  refine cw_block ?_
  obtain ⟨I, μ, hI14, hL15⟩ := hD
  refine cw_loops (σ := ByteArray) (fun s => [(0, Value.string s), (1, Value.int .u8 c_1)]) (s_0) (fun s h => I s h) (fun s h => μ s h) (keep_cons rfl (keep_cons rfl keep_nil)) hI14 ?_
  rintro s1 hz2 hI
  have hD := hL15 s1 hz2 hI
  obtain ⟨C3, hC3⟩ : ∃ c : ByteArray → Hp → Prop, c = (fun s1' h' => I s1' h' ∧ μ s1' h' < μ s1 hz2) := ⟨_, rfl⟩
  rw [← hC3] at hD
  unfold D_strings_trimLeftByte_l2 at hD
  show cw _ _ _ [(0, Value.string s1), (1, Value.int .u8 c_1)] _ _ _ _
  refine cw_seq ?_
  refine cw_cut (fun l h => ∃ (x4 : Bool), Keep l [(0, Value.string s1), (1, Value.int .u8 c_1), (13, Value.bool x4)] ∧ D_strings_trimLeftByte_j1 K s1 C3 x4 h) ?_ ?_
  · refine cw_region ?_
    refine wl_q rfl rfl rfl (q_move rfl rfl) ?_
    refine wl_q rfl rfl rfl (q_len_string rfl rfl Go.Proofs.Tryd.underlying9 rfl) ?_
    refine wl_q rfl rfl rfl (q_bin rfl rfl rfl (fun _ _ => rfl)) ?_
    refine wl_q rfl rfl rfl (q_move rfl rfl) ?_
    rcases bool_or (decide ((s1.size : Int) > (0 : Int))) with hb9 | hb9
    · have hD := ifT hb9 hD
      refine wl_gq rfl rfl rfl hb9 rfl rfl (q_move rfl rfl) ?_
      obtain ⟨c10, c11, hD⟩ := hD
      refine wl_gq rfl rfl rfl hb9 rfl rfl (q_index_string rfl rfl rfl Go.Proofs.Tryd.underlying9 c10 c11) ?_
      refine wl_gq rfl rfl rfl hb9 rfl rfl (q_move rfl rfl) ?_
      refine wl_gq rfl rfl rfl hb9 rfl rfl (q_bin rfl rfl rfl (fun _ _ => rfl)) ?_
      refine wl_q rfl rfl rfl (q_pickT rfl rfl hb9 rfl) ?_
      refine wl_keep (l' := [(0, Value.string s1), (1, Value.int .u8 c_1), (13, Value.bool ((bt s1 0) == c_1))]) (keep_cons rfl (keep_cons rfl (keep_cons rfl keep_nil))) (wl_nil ?_)
      exact ⟨_, (keep_cons rfl (keep_cons rfl (keep_cons rfl keep_nil))), hD⟩
    · have hD := ifF hb9 hD
      refine wl_gn rfl rfl rfl hb9 rfl rfl ?_
      refine wl_gn rfl rfl rfl hb9 rfl rfl ?_
      refine wl_gn rfl rfl rfl hb9 rfl rfl ?_
      refine wl_gn rfl rfl rfl hb9 rfl rfl ?_
      refine wl_q rfl rfl rfl (q_pickF rfl rfl hb9 rfl) ?_
      refine wl_keep (l' := [(0, Value.string s1), (1, Value.int .u8 c_1), (13, Value.bool false)]) (keep_cons rfl (keep_cons rfl (keep_cons rfl keep_nil))) (wl_nil ?_)
      exact ⟨_, (keep_cons rfl (keep_cons rfl (keep_cons rfl keep_nil))), hD⟩
  · rintro l13 hz5 ⟨x4, hk12, hD⟩
    refine cw_keep hk12 ?_
    unfold D_strings_trimLeftByte_j1 at hD
    refine cw_cond rfl (fun hb6 => ?_) (fun hb6 => ?_)
    · have hD := ifT hb6 hD
      refine cw_skip ?_
      refine cw_block ?_
      refine cw_region ?_
      refine wl_q rfl rfl rfl (q_move rfl rfl) ?_
      obtain ⟨c7, c8, hD⟩ := hD
      refine wl_q rfl rfl rfl (q_slice_string rfl rfl Go.Proofs.Tryd.underlying9 ⟨_, _, rfl, rfl⟩ rfl c7 c8) ?_
      refine wl_q rfl rfl rfl (q_assign rfl rfl) ?_
      refine wl_keep (l' := [(0, Value.string (s1.extract 1 s1.size)), (1, Value.int .u8 c_1)]) (keep_cons rfl (keep_cons rfl keep_nil)) (wl_nil ?_)
      rw [hC3] at hD
      exact ⟨(s1.extract 1 s1.size), (keep_cons rfl (keep_cons rfl keep_nil)), hD⟩
    · have hD := ifF hb6 hD
      refine cw_exit ?_
      refine xput_same ?_
      refine cw_seq ?_
      refine cw_region ?_
      refine wl_q rfl rfl rfl (q_move rfl rfl) ?_
      refine wl_q rfl rfl rfl (q_assign rfl rfl) ?_
      refine wl_keep (l' := [(4, Value.string s1)]) (keep_cons rfl keep_nil) (wl_nil ?_)
      refine cw_ret ?_
      exact ⟨_, resq1 rfl rfl, _, rfl, hD⟩
end Go.Proofs.YtgdmjdacmebfjaaDoor.D

namespace Go.Proofs.YtgdmjdacmebfjaaDoor.D
open Go
set_option maxRecDepth 100000
theorem S_strings_trimRightByte {s_0 : ByteArray} {c_1 : Int} {h0 : Hp} {K : ByteArray → Hp → Prop} (hD : D_strings_trimRightByte s_0 c_1 h0 K) : C_strings_trimRightByte s_0 c_1 h0 K := by
  unfold D_strings_trimRightByte at hD
  refine calls_cw (args := [Value.string s_0, Value.int .u8 c_1]) Go.Proofs.Tryd.func63 rfl ?_
  show cw _ 23 _ [(0, Value.string s_0), (1, Value.int .u8 c_1)] _ _ _ _
  refine cw_seq ?_
  refine cw_region ?_
  refine wl_q rfl rfl rfl (q_assign rfl rfl) ?_
  refine wl_keep (l' := [(0, Value.string s_0), (1, Value.int .u8 c_1)]) (keep_cons rfl (keep_cons rfl keep_nil)) (wl_nil ?_)
  refine cw_seq ?_
  refine cw_block ?_
  obtain ⟨I, μ, hI16, hL17⟩ := hD
  refine cw_loops (σ := ByteArray) (fun s => [(0, Value.string s), (1, Value.int .u8 c_1)]) (s_0) (fun s h => I s h) (fun s h => μ s h) (keep_cons rfl (keep_cons rfl keep_nil)) hI16 ?_
  rintro s1 hz2 hI
  have hD := hL17 s1 hz2 hI
  obtain ⟨C3, hC3⟩ : ∃ c : ByteArray → Hp → Prop, c = (fun s1' h' => I s1' h' ∧ μ s1' h' < μ s1 hz2) := ⟨_, rfl⟩
  rw [← hC3] at hD
  unfold D_strings_trimRightByte_l2 at hD
  show cw _ _ _ [(0, Value.string s1), (1, Value.int .u8 c_1)] _ _ _ _
  refine cw_seq ?_
  refine cw_cut (fun l h => ∃ (x4 : Bool), Keep l [(0, Value.string s1), (1, Value.int .u8 c_1), (16, Value.bool x4)] ∧ D_strings_trimRightByte_j1 K s1 C3 x4 h) ?_ ?_
  · refine cw_region ?_
    refine wl_q rfl rfl rfl (q_move rfl rfl) ?_
    refine wl_q rfl rfl rfl (q_len_string rfl rfl Go.Proofs.Tryd.underlying9 rfl) ?_
    refine wl_q rfl rfl rfl (q_bin rfl rfl rfl (fun _ _ => rfl)) ?_
    refine wl_q rfl rfl rfl (q_move rfl rfl) ?_
    rcases bool_or (decide ((s1.size : Int) > (0 : Int))) with hb11 | hb11
    · have hD := ifT hb11 hD
      refine wl_gq rfl rfl rfl hb11 rfl rfl (q_move rfl rfl) ?_
      refine wl_gq rfl rfl rfl hb11 rfl rfl (q_move rfl rfl) ?_
      refine wl_gq rfl rfl rfl hb11 rfl rfl (q_len_string rfl rfl Go.Proofs.Tryd.underlying9 rfl) ?_
      refine wl_gq rfl rfl rfl hb11 rfl rfl (q_bin rfl rfl rfl (fun _ _ => rfl)) ?_
      obtain ⟨c12, c13, hD⟩ := hD
      refine wl_gq rfl rfl rfl hb11 rfl rfl (q_index_string rfl rfl rfl Go.Proofs.Tryd.underlying9 c12 c13) ?_
      refine wl_gq rfl rfl rfl hb11 rfl rfl (q_move rfl rfl) ?_
      refine wl_gq rfl rfl rfl hb11 rfl rfl (q_bin rfl rfl rfl (fun _ _ => rfl)) ?_
      refine wl_q rfl rfl rfl (q_pickT rfl rfl hb11 rfl) ?_
      refine wl_keep (l' := [(0, Value.string s1), (1, Value.int .u8 c_1), (16, Value.bool ((bt s1 (IntKind.i64.wrap ((s1.size : Int) - 1))) == c_1))]) (keep_cons rfl (keep_cons rfl (keep_cons rfl keep_nil))) (wl_nil ?_)
      exact ⟨_, (keep_cons rfl (keep_cons rfl (keep_cons rfl keep_nil))), hD⟩
    · have hD := ifF hb11 hD
      refine wl_gn rfl rfl rfl hb11 rfl rfl ?_
      refine wl_gn rfl rfl rfl hb11 rfl rfl ?_
      refine wl_gn rfl rfl rfl hb11 rfl rfl ?_
      refine wl_gn rfl rfl rfl hb11 rfl rfl ?_
      refine wl_gn rfl rfl rfl hb11 rfl rfl ?_
      refine wl_gn rfl rfl rfl hb11 rfl rfl ?_
      refine wl_gn rfl rfl rfl hb11 rfl rfl ?_
      refine wl_q rfl rfl rfl (q_pickF rfl rfl hb11 rfl) ?_
      refine wl_keep (l' := [(0, Value.string s1), (1, Value.int .u8 c_1), (16, Value.bool false)]) (keep_cons rfl (keep_cons rfl (keep_cons rfl keep_nil))) (wl_nil ?_)
      exact ⟨_, (keep_cons rfl (keep_cons rfl (keep_cons rfl keep_nil))), hD⟩
  · rintro l15 hz5 ⟨x4, hk14, hD⟩
    refine cw_keep hk14 ?_
    unfold D_strings_trimRightByte_j1 at hD
    refine cw_cond rfl (fun hb6 => ?_) (fun hb6 => ?_)
    · have hD := ifT hb6 hD
      refine cw_skip ?_
      refine cw_block ?_
      refine cw_region ?_
      refine wl_q rfl rfl rfl (q_move rfl rfl) ?_
      refine wl_q rfl rfl rfl (q_move rfl rfl) ?_
      refine wl_q rfl rfl rfl (q_len_string rfl rfl Go.Proofs.Tryd.underlying9 rfl) ?_
      refine wl_q rfl rfl rfl (q_bin rfl rfl rfl (fun _ _ => rfl)) ?_
      obtain ⟨n7, c8, c9, c10, hD⟩ := hD
      refine wl_q rfl rfl rfl (q_slice_string rfl rfl Go.Proofs.Tryd.underlying9 rfl ⟨_, _, rfl, c8⟩ c9 c10) ?_
      refine wl_q rfl rfl rfl (q_assign rfl rfl) ?_
      refine wl_keep (l' := [(0, Value.string (s1.extract 0 n7)), (1, Value.int .u8 c_1)]) (keep_cons rfl (keep_cons rfl keep_nil)) (wl_nil ?_)
      rw [hC3] at hD
      exact ⟨(s1.extract 0 n7), (keep_cons rfl (keep_cons rfl keep_nil)), hD⟩
    · have hD := ifF hb6 hD
      refine cw_exit ?_
      refine xput_same ?_
      refine cw_seq ?_
      refine cw_region ?_
      refine wl_q rfl rfl rfl (q_move rfl rfl) ?_
      refine wl_q rfl rfl rfl (q_assign rfl rfl) ?_
      refine wl_keep (l' := [(4, Value.string s1)]) (keep_cons rfl keep_nil) (wl_nil ?_)
      refine cw_ret ?_
      exact ⟨_, resq1 rfl rfl, _, rfl, hD⟩
end Go.Proofs.YtgdmjdacmebfjaaDoor.D

namespace Go.Proofs.YtgdmjdacmebfjaaDoor.D
open Go
set_option maxRecDepth 100000
theorem S_strings_makeASCIISet {chars_0 : ByteArray} {h0 : Hp} {K : List Value → Bool → Hp → Prop} (hD : D_strings_makeASCIISet chars_0 h0 K) : C_strings_makeASCIISet chars_0 h0 K := by
  unfold D_strings_makeASCIISet at hD
  refine calls_cw (args := [Value.string chars_0]) Go.Proofs.Tryd.func64 rfl ?_
  show cw _ 21 _ [(0, Value.string chars_0)] _ _ _ _
  refine cw_seq ?_
  refine cw_region ?_
  refine wl_e rfl rfl rfl (e_alloc rfl zr_106 ?_)
  intro hz1 e2
  have hD := hD hz1 e2
  refine wl_q rfl rfl rfl (q_assign rfl rfl) ?_
  refine wl_keep (l' := [(0, Value.string chars_0), (2, Value.pointer (some (blk h0.size)))]) (keep_cons rfl (keep_cons rfl keep_nil)) (wl_nil ?_)
  refine cw_seq ?_
  refine cw_seq ?_
  refine cw_region ?_
  refine wl_q rfl rfl rfl (q_assign rfl rfl) ?_
  refine wl_keep (l' := [(0, Value.string chars_0), (2, Value.pointer (some (blk h0.size))), (4, Value.int .i64 0)]) (keep_cons rfl (keep_cons rfl (keep_cons rfl keep_nil))) (wl_nil ?_)
  refine cw_block ?_
  obtain ⟨I, μ, hI37, hL38⟩ := hD
  refine cw_loops (σ := Int) (fun s => [(0, Value.string chars_0), (2, Value.pointer (some (blk h0.size))), (4, Value.int .i64 s)]) (0) (fun s h => I s h) (fun s h => μ s h) (keep_cons rfl (keep_cons rfl (keep_cons rfl keep_nil))) hI37 ?_
  rintro i3 hz4 hI
  have hD := hL38 i3 hz4 hI
  obtain ⟨C5, hC5⟩ : ∃ c : Int → Hp → Prop, c = (fun i3' h' => I i3' h' ∧ μ i3' h' < μ i3 hz4) := ⟨_, rfl⟩
  rw [← hC5] at hD
  unfold D_strings_makeASCIISet_l1 at hD
  show cw _ _ _ [(0, Value.string chars_0), (2, Value.pointer (some (blk h0.size))), (4, Value.int .i64 i3)] _ _ _ _
  refine cw_seq ?_
  refine cw_seq ?_
  refine cw_region ?_
  refine wl_q rfl rfl rfl (q_move rfl rfl) ?_
  refine wl_q rfl rfl rfl (q_move rfl rfl) ?_
  refine wl_q rfl rfl rfl (q_len_string rfl rfl Go.Proofs.Tryd.underlying9 rfl) ?_
  refine wl_q rfl rfl rfl (q_bin rfl rfl rfl (fun _ _ => rfl)) ?_
  refine wl_keep (l' := [(0, Value.string chars_0), (2, Value.pointer (some (blk h0.size))), (4, Value.int .i64 i3), (9, Value.bool (decide (i3 < (chars_0.size : Int))))]) (keep_cons rfl (keep_cons rfl (keep_cons rfl (keep_cons rfl keep_nil)))) (wl_nil ?_)
  refine cw_cond rfl (fun hb6 => ?_) (fun hb6 => ?_)
  · have hD := ifT hb6 hD
    refine cw_skip ?_
    refine cw_seq ?_
    refine cw_block ?_
    refine cw_seq ?_
    refine cw_region ?_
    refine wl_q rfl rfl rfl (q_move rfl rfl) ?_
    refine wl_q rfl rfl rfl (q_move rfl rfl) ?_
    obtain ⟨c7, c8, hD⟩ := hD
    refine wl_q rfl rfl rfl (q_index_string rfl rfl rfl Go.Proofs.Tryd.underlying9 c7 c8) ?_
    refine wl_q rfl rfl rfl (q_assign rfl rfl) ?_
    refine wl_keep (l' := [(0, Value.string chars_0), (2, Value.pointer (some (blk h0.size))), (4, Value.int .i64 i3), (5, Value.int .u8 (bt chars_0 i3))]) (keep_cons rfl (keep_cons rfl (keep_cons rfl (keep_cons rfl keep_nil)))) (wl_nil ?_)
    refine cw_seq ?_
    refine cw_seq ?_
    refine cw_region ?_
    refine wl_q rfl rfl rfl (q_move rfl rfl) ?_
    refine wl_q rfl rfl rfl (q_bin rfl rfl rfl (fun _ _ => rfl)) ?_
    refine wl_keep (l' := [(0, Value.string chars_0), (2, Value.pointer (some (blk h0.size))), (4, Value.int .i64 i3), (5, Value.int .u8 (bt chars_0 i3)), (16, Value.bool (decide ((bt chars_0 i3) ≥ (128 : Int))))]) (keep_cons rfl (keep_cons rfl (keep_cons rfl (keep_cons rfl (keep_cons rfl keep_nil))))) (wl_nil ?_)
    refine cw_cond rfl (fun hb9 => ?_) (fun hb9 => ?_)
    · have hD := ifT hb9 hD
      refine cw_seq ?_
      refine cw_region ?_
      obtain ⟨xs10, c11, c12, hD⟩ := hD
      refine wl_q rfl rfl rfl (q_loads (vs := xs10) rfl rfl Go.Proofs.Tryd.underlying106 rfl (by rw [c11]; exact sz_106) (At.cells c12)) ?_
      obtain ⟨c14, c15, hD⟩ := hD
      refine wl_e0 rfl rfl (e_stores (vs := xs10) rfl rfl rfl (by rw [c14]; exact sz_106) c15 ?_)
      intro hz13 e16
      have hD := hD hz13 e16
      refine wl_q rfl rfl rfl (q_assign rfl rfl) ?_
      refine wl_keep (l' := [(2, Value.pointer (some (blk h0.size))), (3, Value.bool false)]) (keep_cons rfl (keep_cons rfl keep_nil)) (wl_nil ?_)
      refine cw_ret ?_
      obtain ⟨xs17, c18, c19, hD⟩ := hD
      exact ⟨_, resx2 rfl (resv_cells (vs := xs17) rfl Go.Proofs.Tryd.underlying106 rfl (by rw [c18]; exact sz_106) c19) (resv_tmp rfl), _, _, rfl, hD⟩
    · have hD := ifF hb9 hD
      refine cw_skip ?_
      refine cw_region ?_
      refine wl_q rfl rfl rfl (q_move rfl rfl) ?_
      obtain ⟨c20, c21, hD⟩ := hD
      refine wl_q rfl rfl rfl (q_indexAddr_array rfl rfl rfl Go.Proofs.Tryd.underlying106 sz_4 c20 c21) ?_
      obtain ⟨u23, c24, c25, hD⟩ := hD
      refine wl_e0 rfl rfl (e_store rfl rfl rfl sz_4 trivial c24 c25 ?_)
      intro hz22 e26
      have hD := hD hz22 e26
      refine wl_keep (l' := [(0, Value.string chars_0), (2, Value.pointer (some (blk h0.size))), (4, Value.int .i64 i3)]) (keep_cons rfl (keep_cons rfl (keep_cons rfl keep_nil))) (wl_nil ?_)
      refine cw_region ?_
      refine wl_q rfl rfl rfl (q_move rfl rfl) ?_
      refine wl_q rfl rfl rfl (q_bin rfl rfl rfl (fun _ _ => rfl)) ?_
      refine wl_q rfl rfl rfl (q_assign rfl rfl) ?_
      refine wl_keep (l' := [(0, Value.string chars_0), (2, Value.pointer (some (blk h0.size))), (4, Value.int .i64 (IntKind.i64.wrap (i3 + 1)))]) (keep_cons rfl (keep_cons rfl (keep_cons rfl keep_nil))) (wl_nil ?_)
      rw [hC5] at hD
      exact ⟨(IntKind.i64.wrap (i3 + 1)), (keep_cons rfl (keep_cons rfl (keep_cons rfl keep_nil))), hD⟩
  · have hD := ifF hb6 hD
    refine cw_exit ?_
    refine xput_same ?_
    refine cw_seq ?_
    refine cw_region ?_
    obtain ⟨xs27, c28, c29, hD⟩ := hD
    refine wl_q rfl rfl rfl (q_loads (vs := xs27) rfl rfl Go.Proofs.Tryd.underlying106 rfl (by rw [c28]; exact sz_106) (At.cells c29)) ?_
    obtain ⟨c31, c32, hD⟩ := hD
    refine wl_e0 rfl rfl (e_stores (vs := xs27) rfl rfl rfl (by rw [c31]; exact sz_106) c32 ?_)
    intro hz30 e33
    have hD := hD hz30 e33
    refine wl_q rfl rfl rfl (q_assign rfl rfl) ?_
    refine wl_keep (l' := [(2, Value.pointer (some (blk h0.size))), (3, Value.bool true)]) (keep_cons rfl (keep_cons rfl keep_nil)) (wl_nil ?_)
    refine cw_ret ?_
    obtain ⟨xs34, c35, c36, hD⟩ := hD
    exact ⟨_, resx2 rfl (resv_cells (vs := xs34) rfl Go.Proofs.Tryd.underlying106 rfl (by rw [c35]; exact sz_106) c36) (resv_tmp rfl), _, _, rfl, hD⟩
end Go.Proofs.YtgdmjdacmebfjaaDoor.D

namespace Go.Proofs.YtgdmjdacmebfjaaDoor.D
open Go
set_option maxRecDepth 100000
theorem S_strings_trimLeftASCII {s_0 : ByteArray} {as_1 : Option Addr} {h0 : Hp} {K : ByteArray → Hp → Prop} (hD : D_strings_trimLeftASCII s_0 as_1 h0 K) : C_strings_trimLeftASCII s_0 as_1 h0 K := by
  unfold D_strings_trimLeftASCII at hD
  refine calls_cw (args := [Value.string s_0, Value.pointer as_1]) Go.Proofs.Tryd.func65 rfl ?_
  show cw _ 16 _ [(0, Value.string s_0), (1, Value.pointer as_1)] _ _ _ _
  refine cw_seq ?_
  refine cw_region ?_
  refine wl_q rfl rfl rfl (q_assign rfl rfl) ?_
  refine wl_keep (l' := [(0, Value.string s_0), (1, Value.pointer as_1)]) (keep_cons rfl (keep_cons rfl keep_nil)) (wl_nil ?_)
  refine cw_cut (fun l h => ∃ (s1 : ByteArray), Keep l [(0, Value.string s1)] ∧ D_strings_trimLeftASCII_j1 K s1 h) ?_ ?_
  · refine cw_block ?_
    obtain ⟨I, μ, hI14, hL15⟩ := hD
    refine cw_loops (σ := ByteArray) (fun s => [(0, Value.string s), (1, Value.pointer as_1)]) (s_0) (fun s h => I s h) (fun s h => μ s h) (keep_cons rfl (keep_cons rfl keep_nil)) hI14 ?_
    rintro s3 hz4 hI
    have hD := hL15 s3 hz4 hI
    obtain ⟨C5, hC5⟩ : ∃ c : ByteArray → Hp → Prop, c = (fun s3' h' => I s3' h' ∧ μ s3' h' < μ s3 hz4) := ⟨_, rfl⟩
    rw [← hC5] at hD
    unfold D_strings_trimLeftASCII_l2 at hD
    show cw _ _ _ [(0, Value.string s3), (1, Value.pointer as_1)] _ _ _ _
    refine cw_seq ?_
    refine cw_seq ?_
    refine cw_region ?_
    refine wl_q rfl rfl rfl (q_move rfl rfl) ?_
    refine wl_q rfl rfl rfl (q_len_string rfl rfl Go.Proofs.Tryd.underlying9 rfl) ?_
    refine wl_q rfl rfl rfl (q_bin rfl rfl rfl (fun _ _ => rfl)) ?_
    refine wl_keep (l' := [(0, Value.string s3), (1, Value.pointer as_1), (7, Value.bool (decide ((s3.size : Int) > (0 : Int))))]) (keep_cons rfl (keep_cons rfl (keep_cons rfl keep_nil))) (wl_nil ?_)
    refine cw_cond rfl (fun hb6 => ?_) (fun hb6 => ?_)
    · have hD := ifT hb6 hD
      refine cw_skip ?_
      refine cw_block ?_
      refine cw_seq ?_
      refine cw_seq ?_
      refine cw_region ?_
      refine wl_q rfl rfl rfl (q_move rfl rfl) ?_
      refine wl_q rfl rfl rfl (q_move rfl rfl) ?_
      obtain ⟨c7, c8, hD⟩ := hD
      refine wl_q rfl rfl rfl (q_index_string rfl rfl rfl Go.Proofs.Tryd.underlying9 c7 c8) ?_
      refine wl_e rfl rfl rfl (e_call (first := []) (vs := [Value.pointer as_1, Value.int .u8 (bt s3 0)]) (cap := []) rfl rfl rfl cf_80 (CallsH.mono hD ?_))
      rintro _ hz9 ⟨r10, rfl, hD⟩
      refine wl_q rfl rfl rfl (q_un rfl rfl (fun _ => rfl)) ?_
      refine wl_keep (l' := [(0, Value.string s3), (1, Value.pointer as_1), (12, Value.bool (!r10))]) (keep_cons rfl (keep_cons rfl (keep_cons rfl keep_nil))) (wl_nil ?_)
      refine cw_cond rfl (fun hb11 => ?_) (fun hb11 => ?_)
      · have hD := ifT hb11 hD
        refine cw_exit ?_
        refine xput_other rfl ?_
        refine xput_same ?_
        exact ⟨_, (keep_cons rfl keep_nil), hD⟩
      · have hD := ifF hb11 hD
        refine cw_skip ?_
        refine cw_region ?_
        refine wl_q rfl rfl rfl (q_move rfl rfl) ?_
        obtain ⟨c12, c13, hD⟩ := hD
        refine wl_q rfl rfl rfl (q_slice_string rfl rfl Go.Proofs.Tryd.underlying9 ⟨_, _, rfl, rfl⟩ rfl c12 c13) ?_
        refine wl_q rfl rfl rfl (q_assign rfl rfl) ?_
        refine wl_keep (l' := [(0, Value.string (s3.extract 1 s3.size)), (1, Value.pointer as_1)]) (keep_cons rfl (keep_cons rfl keep_nil)) (wl_nil ?_)
        rw [hC5] at hD
        exact ⟨(s3.extract 1 s3.size), (keep_cons rfl (keep_cons rfl keep_nil)), hD⟩
    · have hD := ifF hb6 hD
      refine cw_exit ?_
      refine xput_same ?_
      exact ⟨_, (keep_cons rfl keep_nil), hD⟩
  · rintro l17 hz2 ⟨s1, hk16, hD⟩
    refine cw_keep hk16 ?_
    unfold D_strings_trimLeftASCII_j1 at hD
    refine cw_seq ?_
    refine cw_region ?_
    refine wl_q rfl rfl rfl (q_move rfl rfl) ?_
    refine wl_q rfl rfl rfl (q_assign rfl rfl) ?_
    refine wl_keep (l' := [(4, Value.string s1)]) (keep_cons rfl keep_nil) (wl_nil ?_)
    refine cw_ret ?_
    exact ⟨_, resq1 rfl rfl, _, rfl, hD⟩
end Go.Proofs.YtgdmjdacmebfjaaDoor.D

namespace Go.Proofs.YtgdmjdacmebfjaaDoor.D
open Go
set_option maxRecDepth 100000
theorem S_strings_trimRightASCII {s_0 : ByteArray} {as_1 : Option Addr} {h0 : Hp} {K : ByteArray → Hp → Prop} (hD : D_strings_trimRightASCII s_0 as_1 h0 K) : C_strings_trimRightASCII s_0 as_1 h0 K := by
  unfold D_strings_trimRightASCII at hD
  refine calls_cw (args := [Value.string s_0, Value.pointer as_1]) Go.Proofs.Tryd.func66 rfl ?_
  show cw _ 22 _ [(0, Value.string s_0), (1, Value.pointer as_1)] _ _ _ _
  refine cw_seq ?_
  refine cw_region ?_
  refine wl_q rfl rfl rfl (q_assign rfl rfl) ?_
  refine wl_keep (l' := [(0, Value.string s_0), (1, Value.pointer as_1)]) (keep_cons rfl (keep_cons rfl keep_nil)) (wl_nil ?_)
  refine cw_cut (fun l h => ∃ (s1 : ByteArray), Keep l [(0, Value.string s1)] ∧ D_strings_trimRightASCII_j1 K s1 h) ?_ ?_
  · refine cw_block ?_
    obtain ⟨I, μ, hI16, hL17⟩ := hD
    refine cw_loops (σ := ByteArray) (fun s => [(0, Value.string s), (1, Value.pointer as_1)]) (s_0) (fun s h => I s h) (fun s h => μ s h) (keep_cons rfl (keep_cons rfl keep_nil)) hI16 ?_
    rintro s3 hz4 hI
    have hD := hL17 s3 hz4 hI
    obtain ⟨C5, hC5⟩ : ∃ c : ByteArray → Hp → Prop, c = (fun s3' h' => I s3' h' ∧ μ s3' h' < μ s3 hz4) := ⟨_, rfl⟩
    rw [← hC5] at hD
    unfold D_strings_trimRightASCII_l2 at hD
    show cw _ _ _ [(0, Value.string s3), (1, Value.pointer as_1)] _ _ _ _
    refine cw_seq ?_
    refine cw_seq ?_
    refine cw_region ?_
    refine wl_q rfl rfl rfl (q_move rfl rfl) ?_
    refine wl_q rfl rfl rfl (q_len_string rfl rfl Go.Proofs.Tryd.underlying9 rfl) ?_
    refine wl_q rfl rfl rfl (q_bin rfl rfl rfl (fun _ _ => rfl)) ?_
    refine wl_keep (l' := [(0, Value.string s3), (1, Value.pointer as_1), (7, Value.bool (decide ((s3.size : Int) > (0 : Int))))]) (keep_cons rfl (keep_cons rfl (keep_cons rfl keep_nil))) (wl_nil ?_)
    refine cw_cond rfl (fun hb6 => ?_) (fun hb6 => ?_)
    · have hD := ifT hb6 hD
      refine cw_skip ?_
      refine cw_block ?_
      refine cw_seq ?_
      refine cw_seq ?_
      refine cw_region ?_
      refine wl_q rfl rfl rfl (q_move rfl rfl) ?_
      refine wl_q rfl rfl rfl (q_move rfl rfl) ?_
      refine wl_q rfl rfl rfl (q_move rfl rfl) ?_
      refine wl_q rfl rfl rfl (q_len_string rfl rfl Go.Proofs.Tryd.underlying9 rfl) ?_
      refine wl_q rfl rfl rfl (q_bin rfl rfl rfl (fun _ _ => rfl)) ?_
      obtain ⟨c7, c8, hD⟩ := hD
      refine wl_q rfl rfl rfl (q_index_string rfl rfl rfl Go.Proofs.Tryd.underlying9 c7 c8) ?_
      refine wl_e rfl rfl rfl (e_call (first := []) (vs := [Value.pointer as_1, Value.int .u8 (bt s3 (IntKind.i64.wrap ((s3.size : Int) - 1)))]) (cap := []) rfl rfl rfl cf_80 (CallsH.mono hD ?_))
      rintro _ hz9 ⟨r10, rfl, hD⟩
      refine wl_q rfl rfl rfl (q_un rfl rfl (fun _ => rfl)) ?_
      refine wl_keep (l' := [(0, Value.string s3), (1, Value.pointer as_1), (15, Value.bool (!r10))]) (keep_cons rfl (keep_cons rfl (keep_cons rfl keep_nil))) (wl_nil ?_)
      refine cw_cond rfl (fun hb11 => ?_) (fun hb11 => ?_)
      · have hD := ifT hb11 hD
        refine cw_exit ?_
        refine xput_other rfl ?_
        refine xput_same ?_
        exact ⟨_, (keep_cons rfl keep_nil), hD⟩
      · have hD := ifF hb11 hD
        refine cw_skip ?_
        refine cw_region ?_
        refine wl_q rfl rfl rfl (q_move rfl rfl) ?_
        refine wl_q rfl rfl rfl (q_move rfl rfl) ?_
        refine wl_q rfl rfl rfl (q_len_string rfl rfl Go.Proofs.Tryd.underlying9 rfl) ?_
        refine wl_q rfl rfl rfl (q_bin rfl rfl rfl (fun _ _ => rfl)) ?_
        obtain ⟨n12, c13, c14, c15, hD⟩ := hD
        refine wl_q rfl rfl rfl (q_slice_string rfl rfl Go.Proofs.Tryd.underlying9 rfl ⟨_, _, rfl, c13⟩ c14 c15) ?_
        refine wl_q rfl rfl rfl (q_assign rfl rfl) ?_
        refine wl_keep (l' := [(0, Value.string (s3.extract 0 n12)), (1, Value.pointer as_1)]) (keep_cons rfl (keep_cons rfl keep_nil)) (wl_nil ?_)
        rw [hC5] at hD
        exact ⟨(s3.extract 0 n12), (keep_cons rfl (keep_cons rfl keep_nil)), hD⟩
    · have hD := ifF hb6 hD
      refine cw_exit ?_
      refine xput_same ?_
      exact ⟨_, (keep_cons rfl keep_nil), hD⟩
  · rintro l19 hz2 ⟨s1, hk18, hD⟩
    refine cw_keep hk18 ?_
    unfold D_strings_trimRightASCII_j1 at hD
    refine cw_seq ?_
    refine cw_region ?_
    refine wl_q rfl rfl rfl (q_move rfl rfl) ?_
    refine wl_q rfl rfl rfl (q_assign rfl rfl) ?_
    refine wl_keep (l' := [(4, Value.string s1)]) (keep_cons rfl keep_nil) (wl_nil ?_)
    refine cw_ret ?_
    exact ⟨_, resq1 rfl rfl, _, rfl, hD⟩
end Go.Proofs.YtgdmjdacmebfjaaDoor.D

namespace Go.Proofs.YtgdmjdacmebfjaaDoor.D
open Go
set_option maxRecDepth 100000
theorem S_strings_trimLeftUnicode {s_0 : ByteArray} {cutset_1 : ByteArray} {h0 : Hp} {K : ByteArray → Hp → Prop} (hD : D_strings_trimLeftUnicode s_0 cutset_1 h0 K) : C_strings_trimLeftUnicode s_0 cutset_1 h0 K := by
  unfold D_strings_trimLeftUnicode at hD
  refine calls_cw (args := [Value.string s_0, Value.string cutset_1]) Go.Proofs.Tryd.func67 rfl ?_
  show cw _ 23 _ [(0, Value.string s_0), (1, Value.string cutset_1)] _ _ _ _
  refine cw_seq ?_
  refine cw_region ?_
  refine wl_q rfl rfl rfl (q_assign rfl rfl) ?_
  refine wl_keep (l' := [(0, Value.string s_0), (1, Value.string cutset_1)]) (keep_cons rfl (keep_cons rfl keep_nil)) (wl_nil ?_)
  refine cw_cut (fun l h => ∃ (s1 : ByteArray), Keep l [(0, Value.string s1)] ∧ D_strings_trimLeftUnicode_j1 K s1 h) ?_ ?_
  · refine cw_block ?_
    obtain ⟨I, μ, hI17, hL18⟩ := hD
    refine cw_loops (σ := ByteArray) (fun s => [(0, Value.string s), (1, Value.string cutset_1)]) (s_0) (fun s h => I s h) (fun s h => μ s h) (keep_cons rfl (keep_cons rfl keep_nil)) hI17 ?_
    rintro s3 hz4 hI
    have hD := hL18 s3 hz4 hI
    obtain ⟨C5, hC5⟩ : ∃ c : ByteArray → Hp → Prop, c = (fun s3' h' => I s3' h' ∧ μ s3' h' < μ s3 hz4) := ⟨_, rfl⟩
    rw [← hC5] at hD
    unfold D_strings_trimLeftUnicode_l2 at hD
    show cw _ _ _ [(0, Value.string s3), (1, Value.string cutset_1)] _ _ _ _
    refine cw_seq ?_
    refine cw_seq ?_
    refine cw_region ?_
    refine wl_q rfl rfl rfl (q_move rfl rfl) ?_
    refine wl_q rfl rfl rfl (q_len_string rfl rfl Go.Proofs.Tryd.underlying9 rfl) ?_
    refine wl_q rfl rfl rfl (q_bin rfl rfl rfl (fun _ _ => rfl)) ?_
    refine wl_keep (l' := [(0, Value.string s3), (1, Value.string cutset_1), (9, Value.bool (decide ((s3.size : Int) > (0 : Int))))]) (keep_cons rfl (keep_cons rfl (keep_cons rfl keep_nil))) (wl_nil ?_)
    refine cw_cond rfl (fun hb6 => ?_) (fun hb6 => ?_)
    · have hD := ifT hb6 hD
      refine cw_skip ?_
      refine cw_block ?_
      refine cw_seq ?_
      refine cw_region ?_
      refine wl_q rfl rfl rfl (q_move rfl rfl) ?_
      refine wl_e rfl rfl rfl (e_call (first := []) (vs := [Value.string s3]) (cap := []) rfl rfl rfl cf_81 (CallsH.mono hD ?_))
      rintro _ hz7 ⟨r8, r9, rfl, hD⟩
      refine wl_q rfl rfl rfl (q_move rfl rfl) ?_
      refine wl_q rfl rfl rfl (q_extract rfl rfl rfl) ?_
      refine wl_q rfl rfl rfl (q_extract rfl rfl rfl) ?_
      refine wl_q rfl rfl rfl (q_assign rfl rfl) ?_
      refine wl_q rfl rfl rfl (q_assign rfl rfl) ?_
      refine wl_keep (l' := [(0, Value.string s3), (1, Value.string cutset_1), (5, Value.int .i32 r8), (6, Value.int .i64 r9)]) (keep_cons rfl (keep_cons rfl (keep_cons rfl (keep_cons rfl keep_nil)))) (wl_nil ?_)
      refine cw_seq ?_
      refine cw_seq ?_
      refine cw_region ?_
      refine wl_q rfl rfl rfl (q_move rfl rfl) ?_
      refine wl_q rfl rfl rfl (q_move rfl rfl) ?_
      refine wl_e rfl rfl rfl (e_call (first := []) (vs := [Value.string cutset_1, Value.int .i32 r8]) (cap := []) rfl rfl rfl cf_82 (CallsH.mono hD ?_))
      rintro _ hz10 ⟨r11, rfl, hD⟩
      refine wl_q rfl rfl rfl (q_un rfl rfl (fun _ => rfl)) ?_
      refine wl_keep (l' := [(0, Value.string s3), (1, Value.string cutset_1), (6, Value.int .i64 r9), (18, Value.bool (!r11))]) (keep_cons rfl (keep_cons rfl (keep_cons rfl (keep_cons rfl keep_nil)))) (wl_nil ?_)
      refine cw_cond rfl (fun hb12 => ?_) (fun hb12 => ?_)
      · have hD := ifT hb12 hD
        refine cw_exit ?_
        refine xput_other rfl ?_
        refine xput_same ?_
        exact ⟨_, (keep_cons rfl keep_nil), hD⟩
      · have hD := ifF hb12 hD
        refine cw_skip ?_
        refine cw_region ?_
        refine wl_q rfl rfl rfl (q_move rfl rfl) ?_
        refine wl_q rfl rfl rfl (q_move rfl rfl) ?_
        obtain ⟨n13, c14, c15, c16, hD⟩ := hD
        refine wl_q rfl rfl rfl (q_slice_string rfl rfl Go.Proofs.Tryd.underlying9 ⟨_, _, rfl, c14⟩ rfl c15 c16) ?_
        refine wl_q rfl rfl rfl (q_assign rfl rfl) ?_
        refine wl_keep (l' := [(0, Value.string (s3.extract n13 s3.size)), (1, Value.string cutset_1)]) (keep_cons rfl (keep_cons rfl keep_nil)) (wl_nil ?_)
        rw [hC5] at hD
        exact ⟨(s3.extract n13 s3.size), (keep_cons rfl (keep_cons rfl keep_nil)), hD⟩
    · have hD := ifF hb6 hD
      refine cw_exit ?_
      refine xput_same ?_
      exact ⟨_, (keep_cons rfl keep_nil), hD⟩
  · rintro l20 hz2 ⟨s1, hk19, hD⟩
    refine cw_keep hk19 ?_
    unfold D_strings_trimLeftUnicode_j1 at hD
    refine cw_seq ?_
    refine cw_region ?_
    refine wl_q rfl rfl rfl (q_move rfl rfl) ?_
    refine wl_q rfl rfl rfl (q_assign rfl rfl) ?_
    refine wl_keep (l' := [(4, Value.string s1)]) (keep_cons rfl keep_nil) (wl_nil ?_)
    refine cw_ret ?_
    exact ⟨_, resq1 rfl rfl, _, rfl, hD⟩
end Go.Proofs.YtgdmjdacmebfjaaDoor.D

namespace Go.Proofs.YtgdmjdacmebfjaaDoor.D
open Go
set_option maxRecDepth 100000
theorem S_strings_trimRightUnicode {s_0 : ByteArray} {cutset_1 : ByteArray} {h0 : Hp} {K : ByteArray → Hp → Prop} (hD : D_strings_trimRightUnicode s_0 cutset_1 h0 K) : C_strings_trimRightUnicode s_0 cutset_1 h0 K := by
  unfold D_strings_trimRightUnicode at hD
  refine calls_cw (args := [Value.string s_0, Value.string cutset_1]) Go.Proofs.Tryd.func68 rfl ?_
  show cw _ 34 _ [(0, Value.string s_0), (1, Value.string cutset_1)] _ _ _ _
  refine cw_seq ?_
  refine cw_region ?_
  refine wl_q rfl rfl rfl (q_assign rfl rfl) ?_
  refine wl_keep (l' := [(0, Value.string s_0), (1, Value.string cutset_1)]) (keep_cons rfl (keep_cons rfl keep_nil)) (wl_nil ?_)
  refine cw_cut (fun l h => ∃ (s1 : ByteArray), Keep l [(0, Value.string s1)] ∧ D_strings_trimRightUnicode_j1 K s1 h) ?_ ?_
  · refine cw_block ?_
    obtain ⟨I, μ, hI25, hL26⟩ := hD
    refine cw_loops (σ := ByteArray) (fun s => [(0, Value.string s), (1, Value.string cutset_1)]) (s_0) (fun s h => I s h) (fun s h => μ s h) (keep_cons rfl (keep_cons rfl keep_nil)) hI25 ?_
    rintro s3 hz4 hI
    have hD := hL26 s3 hz4 hI
    obtain ⟨C5, hC5⟩ : ∃ c : ByteArray → Hp → Prop, c = (fun s3' h' => I s3' h' ∧ μ s3' h' < μ s3 hz4) := ⟨_, rfl⟩
    rw [← hC5] at hD
    unfold D_strings_trimRightUnicode_l3 at hD
    show cw _ _ _ [(0, Value.string s3), (1, Value.string cutset_1)] _ _ _ _
    refine cw_seq ?_
    refine cw_seq ?_
    refine cw_region ?_
    refine wl_q rfl rfl rfl (q_move rfl rfl) ?_
    refine wl_q rfl rfl rfl (q_len_string rfl rfl Go.Proofs.Tryd.underlying9 rfl) ?_
    refine wl_q rfl rfl rfl (q_bin rfl rfl rfl (fun _ _ => rfl)) ?_
    refine wl_keep (l' := [(0, Value.string s3), (1, Value.string cutset_1), (9, Value.bool (decide ((s3.size : Int) > (0 : Int))))]) (keep_cons rfl (keep_cons rfl (keep_cons rfl keep_nil))) (wl_nil ?_)
    refine cw_cond rfl (fun hb6 => ?_) (fun hb6 => ?_)
    · have hD := ifT hb6 hD
      refine cw_skip ?_
      refine cw_block ?_
      refine cw_seq ?_
      refine cw_region ?_
      refine wl_q rfl rfl rfl (q_move rfl rfl) ?_
      refine wl_q rfl rfl rfl (q_move rfl rfl) ?_
      refine wl_q rfl rfl rfl (q_len_string rfl rfl Go.Proofs.Tryd.underlying9 rfl) ?_
      refine wl_q rfl rfl rfl (q_bin rfl rfl rfl (fun _ _ => rfl)) ?_
      obtain ⟨c7, c8, hD⟩ := hD
      refine wl_q rfl rfl rfl (q_index_string rfl rfl rfl Go.Proofs.Tryd.underlying9 c7 c8) ?_
      refine wl_q rfl rfl rfl (q_conv_int rfl rfl Go.Proofs.Tryd.underlying5 Go.Proofs.Tryd.underlying21) ?_
      refine wl_q rfl rfl rfl (q_assign rfl rfl) ?_
      refine wl_q rfl rfl rfl (q_assign rfl rfl) ?_
      refine wl_keep (l' := [(0, Value.string s3), (1, Value.string cutset_1), (5, Value.int .i32 (IntKind.i32.wrap (bt s3 (IntKind.i64.wrap ((s3.size : Int) - 1))))), (6, Value.int .i64 1)]) (keep_cons rfl (keep_cons rfl (keep_cons rfl (keep_cons rfl keep_nil)))) (wl_nil ?_)
      refine cw_cut (fun l h => ∃ (r9 : Int) (n10 : Int), Keep l [(0, Value.string s3), (1, Value.string cutset_1), (5, Value.int .i32 r9), (6, Value.int .i64 n10)] ∧ D_strings_trimRightUnicode_j2 cutset_1 K s3 C5 r9 n10 h) ?_ ?_
      · refine cw_seq ?_
        refine cw_region ?_
        refine wl_q rfl rfl rfl (q_move rfl rfl) ?_
        refine wl_q rfl rfl rfl (q_bin rfl rfl rfl (fun _ _ => rfl)) ?_
        refine wl_keep (l' := [(0, Value.string s3), (1, Value.string cutset_1), (5, Value.int .i32 (IntKind.i32.wrap (bt s3 (IntKind.i64.wrap ((s3.size : Int) - 1))))), (6, Value.int .i64 1), (17, Value.bool (decide ((IntKind.i32.wrap (bt s3 (IntKind.i64.wrap ((s3.size : Int) - 1)))) ≥ (128 : Int))))]) (keep_cons rfl (keep_cons rfl (keep_cons rfl (keep_cons rfl (keep_cons rfl keep_nil))))) (wl_nil ?_)
        refine cw_cond rfl (fun hb19 => ?_) (fun hb19 => ?_)
        · have hD := ifT hb19 hD
          refine cw_region ?_
          refine wl_q rfl rfl rfl (q_move rfl rfl) ?_
          refine wl_e rfl rfl rfl (e_call (first := []) (vs := [Value.string s3]) (cap := []) rfl rfl rfl cf_83 (CallsH.mono hD ?_))
          rintro _ hz20 ⟨r21, r22, rfl, hD⟩
          refine wl_q rfl rfl rfl (q_move rfl rfl) ?_
          refine wl_q rfl rfl rfl (q_extract rfl rfl rfl) ?_
          refine wl_q rfl rfl rfl (q_extract rfl rfl rfl) ?_
          refine wl_q rfl rfl rfl (q_assign rfl rfl) ?_
          refine wl_q rfl rfl rfl (q_assign rfl rfl) ?_
          refine wl_keep (l' := [(0, Value.string s3), (1, Value.string cutset_1), (5, Value.int .i32 r21), (6, Value.int .i64 r22)]) (keep_cons rfl (keep_cons rfl (keep_cons rfl (keep_cons rfl keep_nil)))) (wl_nil ?_)
          exact ⟨_, _, (keep_cons rfl (keep_cons rfl (keep_cons rfl (keep_cons rfl keep_nil)))), hD⟩
        · have hD := ifF hb19 hD
          refine cw_skip ?_
          exact ⟨_, _, (keep_cons rfl (keep_cons rfl (keep_cons rfl (keep_cons rfl keep_nil)))), hD⟩
      · rintro l24 hz11 ⟨r9, n10, hk23, hD⟩
        refine cw_keep hk23 ?_
        unfold D_strings_trimRightUnicode_j2 at hD
        refine cw_seq ?_
        refine cw_seq ?_
        refine cw_region ?_
        refine wl_q rfl rfl rfl (q_move rfl rfl) ?_
        refine wl_q rfl rfl rfl (q_move rfl rfl) ?_
        refine wl_e rfl rfl rfl (e_call (first := []) (vs := [Value.string cutset_1, Value.int .i32 r9]) (cap := []) rfl rfl rfl cf_82 (CallsH.mono hD ?_))
        rintro _ hz12 ⟨r13, rfl, hD⟩
        refine wl_q rfl rfl rfl (q_un rfl rfl (fun _ => rfl)) ?_
        refine wl_keep (l' := [(0, Value.string s3), (1, Value.string cutset_1), (6, Value.int .i64 n10), (26, Value.bool (!r13))]) (keep_cons rfl (keep_cons rfl (keep_cons rfl (keep_cons rfl keep_nil)))) (wl_nil ?_)
        refine cw_cond rfl (fun hb14 => ?_) (fun hb14 => ?_)
        · have hD := ifT hb14 hD
          refine cw_exit ?_
          refine xput_other rfl ?_
          refine xput_same ?_
          exact ⟨_, (keep_cons rfl keep_nil), hD⟩
        · have hD := ifF hb14 hD
          refine cw_skip ?_
          refine cw_region ?_
          refine wl_q rfl rfl rfl (q_move rfl rfl) ?_
          refine wl_q rfl rfl rfl (q_move rfl rfl) ?_
          refine wl_q rfl rfl rfl (q_len_string rfl rfl Go.Proofs.Tryd.underlying9 rfl) ?_
          refine wl_q rfl rfl rfl (q_move rfl rfl) ?_
          refine wl_q rfl rfl rfl (q_bin rfl rfl rfl (fun _ _ => rfl)) ?_
          obtain ⟨n15, c16, c17, c18, hD⟩ := hD
          refine wl_q rfl rfl rfl (q_slice_string rfl rfl Go.Proofs.Tryd.underlying9 rfl ⟨_, _, rfl, c16⟩ c17 c18) ?_
          refine wl_q rfl rfl rfl (q_assign rfl rfl) ?_
          refine wl_keep (l' := [(0, Value.string (s3.extract 0 n15)), (1, Value.string cutset_1)]) (keep_cons rfl (keep_cons rfl keep_nil)) (wl_nil ?_)
          rw [hC5] at hD
          exact ⟨(s3.extract 0 n15), (keep_cons rfl (keep_cons rfl keep_nil)), hD⟩
    · have hD := ifF hb6 hD
      refine cw_exit ?_
      refine xput_same ?_
      exact ⟨_, (keep_cons rfl keep_nil), hD⟩
  · rintro l28 hz2 ⟨s1, hk27, hD⟩
    refine cw_keep hk27 ?_
    unfold D_strings_trimRightUnicode_j1 at hD
    refine cw_seq ?_
    refine cw_region ?_
    refine wl_q rfl rfl rfl (q_move rfl rfl) ?_
    refine wl_q rfl rfl rfl (q_assign rfl rfl) ?_
    refine wl_keep (l' := [(4, Value.string s1)]) (keep_cons rfl keep_nil) (wl_nil ?_)
    refine cw_ret ?_
    exact ⟨_, resq1 rfl rfl, _, rfl, hD⟩
end Go.Proofs.YtgdmjdacmebfjaaDoor.D

namespace Go.Proofs.YtgdmjdacmebfjaaDoor.D
open Go
set_option maxRecDepth 100000
theorem S_slices_insertionSortOrdered_string {data_0 : Sl} {a_1 : Int} {b_2 : Int} {h0 : Hp} {K : Hp → Prop} (hD : D_slices_insertionSortOrdered_string data_0 a_1 b_2 h0 K) : C_slices_insertionSortOrdered_string data_0 a_1 b_2 h0 K := by
  unfold D_slices_insertionSortOrdered_string at hD
  refine calls_cw (args := [Sl.v data_0, Value.int .i64 a_1, Value.int .i64 b_2]) Go.Proofs.Tryd.func69 rfl ?_
  show cw _ 49 _ [(0, Sl.v data_0), (1, Value.int .i64 a_1), (2, Value.int .i64 b_2)] _ _ _ _
  refine cw_seq ?_
  refine cw_region ?_
  refine wl_q rfl rfl rfl (q_move rfl rfl) ?_
  refine wl_q rfl rfl rfl (q_bin rfl rfl rfl (fun _ _ => rfl)) ?_
  refine wl_q rfl rfl rfl (q_assign rfl rfl) ?_
  refine wl_keep (l' := [(0, Sl.v data_0), (1, Value.int .i64 a_1), (2, Value.int .i64 b_2), (6, Value.int .i64 (IntKind.i64.wrap (a_1 + 1)))]) (keep_cons rfl (keep_cons rfl (keep_cons rfl (keep_cons rfl keep_nil)))) (wl_nil ?_)
  refine cw_block ?_
  obtain ⟨I, μ, hI52, hL53⟩ := hD
  refine cw_loops (σ := Int) (fun s => [(0, Sl.v data_0), (1, Value.int .i64 a_1), (2, Value.int .i64 b_2), (6, Value.int .i64 s)]) (IntKind.i64.wrap (a_1 + 1)) (fun s h => I s h) (fun s h => μ s h) (keep_cons rfl (keep_cons rfl (keep_cons rfl (keep_cons rfl keep_nil)))) hI52 ?_
  rintro i1 hz2 hI
  have hD := hL53 i1 hz2 hI
  obtain ⟨C3, hC3⟩ : ∃ c : Int → Hp → Prop, c = (fun i1' h' => I i1' h' ∧ μ i1' h' < μ i1 hz2) := ⟨_, rfl⟩
  rw [← hC3] at hD
  unfold D_slices_insertionSortOrdered_string_l3 at hD
  show cw _ _ _ [(0, Sl.v data_0), (1, Value.int .i64 a_1), (2, Value.int .i64 b_2), (6, Value.int .i64 i1)] _ _ _ _
  refine cw_seq ?_
  refine cw_seq ?_
  refine cw_region ?_
  refine wl_q rfl rfl rfl (q_move rfl rfl) ?_
  refine wl_q rfl rfl rfl (q_move rfl rfl) ?_
  refine wl_q rfl rfl rfl (q_bin rfl rfl rfl (fun _ _ => rfl)) ?_
  refine wl_keep (l' := [(0, Sl.v data_0), (1, Value.int .i64 a_1), (2, Value.int .i64 b_2), (6, Value.int .i64 i1), (12, Value.bool (decide (i1 < b_2)))]) (keep_cons rfl (keep_cons rfl (keep_cons rfl (keep_cons rfl (keep_cons rfl keep_nil))))) (wl_nil ?_)
  refine cw_cond rfl (fun hb4 => ?_) (fun hb4 => ?_)
  · have hD := ifT hb4 hD
    refine cw_skip ?_
    refine cw_seq ?_
    refine cw_block ?_
    refine cw_seq ?_
    refine cw_region ?_
    refine wl_q rfl rfl rfl (q_move rfl rfl) ?_
    refine wl_q rfl rfl rfl (q_assign rfl rfl) ?_
    refine wl_keep (l' := [(0, Sl.v data_0), (1, Value.int .i64 a_1), (2, Value.int .i64 b_2), (6, Value.int .i64 i1), (7, Value.int .i64 i1)]) (keep_cons rfl (keep_cons rfl (keep_cons rfl (keep_cons rfl (keep_cons rfl keep_nil))))) (wl_nil ?_)
    refine cw_block ?_
    obtain ⟨I, μ, hI50, hL51⟩ := hD
    refine cw_loops (σ := Int) (fun s => [(0, Sl.v data_0), (1, Value.int .i64 a_1), (2, Value.int .i64 b_2), (6, Value.int .i64 i1), (7, Value.int .i64 s)]) (i1) (fun s h => I s h) (fun s h => μ s h) (keep_cons rfl (keep_cons rfl (keep_cons rfl (keep_cons rfl (keep_cons rfl keep_nil))))) hI50 ?_
    rintro j5 hz6 hI
    have hD := hL51 j5 hz6 hI
    obtain ⟨C7, hC7⟩ : ∃ c : Int → Hp → Prop, c = (fun j5' h' => I j5' h' ∧ μ j5' h' < μ j5 hz6) := ⟨_, rfl⟩
    rw [← hC7] at hD
    unfold D_slices_insertionSortOrdered_string_l2 at hD
    show cw _ _ _ [(0, Sl.v data_0), (1, Value.int .i64 a_1), (2, Value.int .i64 b_2), (6, Value.int .i64 i1), (7, Value.int .i64 j5)] _ _ _ _
    refine cw_seq ?_
    refine cw_cut (fun l h => ∃ (x8 : Bool), Keep l [(0, Sl.v data_0), (1, Value.int .i64 a_1), (2, Value.int .i64 b_2), (6, Value.int .i64 i1), (7, Value.int .i64 j5), (30, Value.bool x8)] ∧ D_slices_insertionSortOrdered_string_j1 data_0 i1 C3 j5 C7 x8 h) ?_ ?_
    · rcases bool_or (decide (j5 > a_1)) with hb35 | hb35
      · have hD := ifT hb35 hD
        obtain ⟨a36, c37, c38, c39, hD⟩ := hD
        obtain ⟨x40, c41, hD⟩ := hD
        obtain ⟨c42, c43, hD⟩ := hD
        obtain ⟨x44, c45, hD⟩ := hD
        refine cw_draw (fun h => cellH h (a36.add (j5.toNat * 1)) = some (Value.string x40) ∧ cellH h (a36.add ((IntKind.i64.wrap (j5 - 1)).toNat * 1)) = some (Value.string x44) ∧ True) 15 wide ?_
        have hS : cellH hz6 (a36.add (j5.toNat * 1)) = some (Value.string x40) ∧ cellH hz6 (a36.add ((IntKind.i64.wrap (j5 - 1)).toNat * 1)) = some (Value.string x44) ∧ True := ⟨c41, c45, trivial⟩
        refine wh_q 0 rfl (by kernel_rfl) rfl rfl rfl (q_move rfl rfl) (by exact hS) ?_
        refine wh_q 1 rfl (by kernel_rfl) rfl rfl rfl (q_move rfl rfl) (by exact hS) ?_
        refine wh_q 2 rfl (by kernel_rfl) rfl rfl rfl (q_bin rfl rfl rfl (fun _ _ => rfl)) (by exact hS) ?_
        refine wh_q 3 rfl (by kernel_rfl) rfl rfl rfl (q_move rfl rfl) (by exact hS) ?_
        refine wh_gq 4 rfl (by kernel_rfl) rfl rfl rfl hb35 rfl rfl (q_move rfl rfl) (by exact hS) ?_
        refine wh_gq 5 rfl (by kernel_rfl) rfl rfl rfl hb35 rfl rfl (q_move rfl rfl) (by exact hS) ?_
        refine wh_gq 6 rfl (by kernel_rfl) rfl rfl rfl hb35 rfl rfl (q_indexAddr rfl rfl rfl Go.Proofs.Tryd.underlying49 sz_9 c37 c38 c39) (by exact hS) ?_
        refine wh_gq 7 rfl (by kernel_rfl) rfl rfl rfl hb35 rfl rfl (q_load rfl rfl Go.Proofs.Tryd.underlying9 rfl (by exact fun _ s => s.1)) (by exact hS) ?_
        refine wh_gq 8 rfl (by kernel_rfl) rfl rfl rfl hb35 rfl rfl (q_move rfl rfl) (by exact hS) ?_
        refine wh_gq 9 rfl (by kernel_rfl) rfl rfl rfl hb35 rfl rfl (q_move rfl rfl) (by exact hS) ?_
        refine wh_gq 10 rfl (by kernel_rfl) rfl rfl rfl hb35 rfl rfl (q_bin rfl rfl rfl (fun _ _ => rfl)) (by exact hS) ?_
        refine wh_gq 11 rfl (by kernel_rfl) rfl rfl rfl hb35 rfl rfl (q_indexAddr rfl rfl rfl Go.Proofs.Tryd.underlying49 sz_9 c37 c42 c43) (by exact hS) ?_
        refine wh_gq 12 rfl (by kernel_rfl) rfl rfl rfl hb35 rfl rfl (q_load rfl rfl Go.Proofs.Tryd.underlying9 rfl (by exact fun _ s => s.2.1)) (by exact hS) ?_
        refine wh_ge 13 rfl (by kernel_rfl) rfl rfl rfl hb35 rfl rfl (e_call (first := []) (vs := [Value.string x40, Value.string x44]) (cap := []) rfl rfl rfl cf_75 (CallsH.mono hD ?_))
        rintro _ hz46 ⟨r47, rfl, hD⟩
        obtain ⟨hk0, hk1, hD⟩ := hD
        refine ⟨⟨hk0, hk1, trivial⟩, ?_⟩
        have hS : cellH hz46 (a36.add (j5.toNat * 1)) = some (Value.string x40) ∧ cellH hz46 (a36.add ((IntKind.i64.wrap (j5 - 1)).toNat * 1)) = some (Value.string x44) ∧ True := ⟨hk0, hk1, trivial⟩
        refine wh_q 14 rfl (by kernel_rfl) rfl rfl rfl (q_pickT rfl rfl hb35 rfl) (by exact hS) ?_
        refine wh_keep (l' := [(0, Sl.v data_0), (1, Value.int .i64 a_1), (2, Value.int .i64 b_2), (6, Value.int .i64 i1), (7, Value.int .i64 j5), (30, Value.bool r47)]) (keep_cons rfl (keep_cons rfl (keep_cons rfl (keep_cons rfl (keep_cons rfl (keep_cons rfl keep_nil)))))) (wh_done (by kernel_rfl) ?_)
        exact ⟨_, (keep_cons rfl (keep_cons rfl (keep_cons rfl (keep_cons rfl (keep_cons rfl (keep_cons rfl keep_nil)))))), hD⟩
      · have hD := ifF hb35 hD
        refine cw_draw (fun h => True) 15 wide ?_
        have hS : True := trivial
        refine wh_q 0 rfl (by kernel_rfl) rfl rfl rfl (q_move rfl rfl) (by exact hS) ?_
        refine wh_q 1 rfl (by kernel_rfl) rfl rfl rfl (q_move rfl rfl) (by exact hS) ?_
        refine wh_q 2 rfl (by kernel_rfl) rfl rfl rfl (q_bin rfl rfl rfl (fun _ _ => rfl)) (by exact hS) ?_
        refine wh_q 3 rfl (by kernel_rfl) rfl rfl rfl (q_move rfl rfl) (by exact hS) ?_
        refine wh_gn 4 rfl (by kernel_rfl) rfl rfl rfl hb35 rfl rfl (by exact hS) ?_
        refine wh_gn 5 rfl (by kernel_rfl) rfl rfl rfl hb35 rfl rfl (by exact hS) ?_
        refine wh_gn 6 rfl (by kernel_rfl) rfl rfl rfl hb35 rfl rfl (by exact hS) ?_
        refine wh_gn 7 rfl (by kernel_rfl) rfl rfl rfl hb35 rfl rfl (by exact hS) ?_
        refine wh_gn 8 rfl (by kernel_rfl) rfl rfl rfl hb35 rfl rfl (by exact hS) ?_
        refine wh_gn 9 rfl (by kernel_rfl) rfl rfl rfl hb35 rfl rfl (by exact hS) ?_
        refine wh_gn 10 rfl (by kernel_rfl) rfl rfl rfl hb35 rfl rfl (by exact hS) ?_
        refine wh_gn 11 rfl (by kernel_rfl) rfl rfl rfl hb35 rfl rfl (by exact hS) ?_
        refine wh_gn 12 rfl (by kernel_rfl) rfl rfl rfl hb35 rfl rfl (by exact hS) ?_
        refine wh_gn 13 rfl (by kernel_rfl) rfl rfl rfl hb35 rfl rfl (by exact hS) ?_
        refine wh_q 14 rfl (by kernel_rfl) rfl rfl rfl (q_pickF rfl rfl hb35 rfl) (by exact hS) ?_
        refine wh_keep (l' := [(0, Sl.v data_0), (1, Value.int .i64 a_1), (2, Value.int .i64 b_2), (6, Value.int .i64 i1), (7, Value.int .i64 j5), (30, Value.bool false)]) (keep_cons rfl (keep_cons rfl (keep_cons rfl (keep_cons rfl (keep_cons rfl (keep_cons rfl keep_nil)))))) (wh_done (by kernel_rfl) ?_)
        exact ⟨_, (keep_cons rfl (keep_cons rfl (keep_cons rfl (keep_cons rfl (keep_cons rfl (keep_cons rfl keep_nil)))))), hD⟩
    · rintro l49 hz9 ⟨x8, hk48, hD⟩
      refine cw_keep hk48 ?_
      unfold D_slices_insertionSortOrdered_string_j1 at hD
      refine cw_cond rfl (fun hb10 => ?_) (fun hb10 => ?_)
      · have hD := ifT hb10 hD
        refine cw_skip ?_
        refine cw_seq ?_
        refine cw_block ?_
        obtain ⟨a11, c12, c13, c14, hD⟩ := hD
        obtain ⟨x15, c16, hD⟩ := hD
        obtain ⟨c17, c18, hD⟩ := hD
        obtain ⟨x19, c20, hD⟩ := hD
        obtain ⟨c21, c22, hD⟩ := hD
        refine cw_draw (fun h => cellH h (a11.add ((IntKind.i64.wrap (j5 - 1)).toNat * 1)) = some (Value.string x15) ∧ cellH h (a11.add (j5.toNat * 1)) = some (Value.string x19) ∧ True) 17 wide ?_
        have hS : cellH hz9 (a11.add ((IntKind.i64.wrap (j5 - 1)).toNat * 1)) = some (Value.string x15) ∧ cellH hz9 (a11.add (j5.toNat * 1)) = some (Value.string x19) ∧ True := ⟨c16, c20, trivial⟩
        refine wh_q 0 rfl (by kernel_rfl) rfl rfl rfl (q_move rfl rfl) (by exact hS) ?_
        refine wh_q 1 rfl (by kernel_rfl) rfl rfl rfl (q_move rfl rfl) (by exact hS) ?_
        refine wh_q 2 rfl (by kernel_rfl) rfl rfl rfl (q_move rfl rfl) (by exact hS) ?_
        refine wh_q 3 rfl (by kernel_rfl) rfl rfl rfl (q_move rfl rfl) (by exact hS) ?_
        refine wh_q 4 rfl (by kernel_rfl) rfl rfl rfl (q_bin rfl rfl rfl (fun _ _ => rfl)) (by exact hS) ?_
        refine wh_q 5 rfl (by kernel_rfl) rfl rfl rfl (q_move rfl rfl) (by exact hS) ?_
        refine wh_q 6 rfl (by kernel_rfl) rfl rfl rfl (q_move rfl rfl) (by exact hS) ?_
        refine wh_q 7 rfl (by kernel_rfl) rfl rfl rfl (q_bin rfl rfl rfl (fun _ _ => rfl)) (by exact hS) ?_
        refine wh_q 8 rfl (by kernel_rfl) rfl rfl rfl (q_indexAddr rfl rfl rfl Go.Proofs.Tryd.underlying49 sz_9 c12 c13 c14) (by exact hS) ?_
        refine wh_q 9 rfl (by kernel_rfl) rfl rfl rfl (q_load rfl rfl Go.Proofs.Tryd.underlying9 rfl (by exact fun _ s => s.1)) (by exact hS) ?_
        refine wh_q 10 rfl (by kernel_rfl) rfl rfl rfl (q_move rfl rfl) (by exact hS) ?_
        refine wh_q 11 rfl (by kernel_rfl) rfl rfl rfl (q_move rfl rfl) (by exact hS) ?_
        refine wh_q 12 rfl (by kernel_rfl) rfl rfl rfl (q_indexAddr rfl rfl rfl Go.Proofs.Tryd.underlying49 sz_9 c12 c17 c18) (by exact hS) ?_
        refine wh_q 13 rfl (by kernel_rfl) rfl rfl rfl (q_load rfl rfl Go.Proofs.Tryd.underlying9 rfl (by exact fun _ s => s.2.1)) (by exact hS) ?_
        refine wh_q 14 rfl (by kernel_rfl) rfl rfl rfl (q_indexAddr rfl rfl rfl Go.Proofs.Tryd.underlying49 sz_9 c12 c21 c22) (by exact hS) ?_
        obtain ⟨u24, c25, c26, hD⟩ := hD
        refine wh_e0 15 rfl (by kernel_rfl) rfl rfl (e_store rfl rfl rfl sz_9 trivial c25 c26 ?_)
        intro hz23 e27
        have hD := hD hz23 e27
        obtain ⟨hk0, hk1, hD⟩ := hD
        refine ⟨⟨hk0, hk1, trivial⟩, ?_⟩
        have hS : cellH hz23 (a11.add ((IntKind.i64.wrap (j5 - 1)).toNat * 1)) = some (Value.string x15) ∧ cellH hz23 (a11.add (j5.toNat * 1)) = some (Value.string x19) ∧ True := ⟨hk0, hk1, trivial⟩
        obtain ⟨c28, c29, hD⟩ := hD
        refine wh_q 16 rfl (by kernel_rfl) rfl rfl rfl (q_indexAddr rfl rfl rfl Go.Proofs.Tryd.underlying49 sz_9 c12 c28 c29) (by exact hS) ?_
        obtain ⟨u31, c32, c33, hD⟩ := hD
        refine wh_last 17 rfl (by kernel_rfl) rfl rfl rfl (e_store rfl rfl rfl sz_9 trivial c32 c33 ?_)
        intro hz30 e34
        have hD := hD hz30 e34
        refine wh_keep (l' := [(0, Sl.v data_0), (1, Value.int .i64 a_1), (2, Value.int .i64 b_2), (6, Value.int .i64 i1), (7, Value.int .i64 j5)]) (keep_cons rfl (keep_cons rfl (keep_cons rfl (keep_cons rfl (keep_cons rfl keep_nil))))) (wh_done (by kernel_rfl) ?_)
        refine cw_region ?_
        refine wl_q rfl rfl rfl (q_move rfl rfl) ?_
        refine wl_q rfl rfl rfl (q_bin rfl rfl rfl (fun _ _ => rfl)) ?_
        refine wl_q rfl rfl rfl (q_assign rfl rfl) ?_
        refine wl_keep (l' := [(0, Sl.v data_0), (1, Value.int .i64 a_1), (2, Value.int .i64 b_2), (6, Value.int .i64 i1), (7, Value.int .i64 (IntKind.i64.wrap (j5 - 1)))]) (keep_cons rfl (keep_cons rfl (keep_cons rfl (keep_cons rfl (keep_cons rfl keep_nil))))) (wl_nil ?_)
        rw [hC7] at hD
        exact ⟨(IntKind.i64.wrap (j5 - 1)), (keep_cons rfl (keep_cons rfl (keep_cons rfl (keep_cons rfl (keep_cons rfl keep_nil))))), hD⟩
      · have hD := ifF hb10 hD
        refine cw_exit ?_
        refine xput_same ?_
        refine cw_region ?_
        refine wl_q rfl rfl rfl (q_move rfl rfl) ?_
        refine wl_q rfl rfl rfl (q_bin rfl rfl rfl (fun _ _ => rfl)) ?_
        refine wl_q rfl rfl rfl (q_assign rfl rfl) ?_
        refine wl_keep (l' := [(0, Sl.v data_0), (1, Value.int .i64 a_1), (2, Value.int .i64 b_2), (6, Value.int .i64 (IntKind.i64.wrap (i1 + 1)))]) (keep_cons rfl (keep_cons rfl (keep_cons rfl (keep_cons rfl keep_nil)))) (wl_nil ?_)
        rw [hC3] at hD
        exact ⟨(IntKind.i64.wrap (i1 + 1)), (keep_cons rfl (keep_cons rfl (keep_cons rfl (keep_cons rfl keep_nil)))), hD⟩
  · have hD := ifF hb4 hD
    refine cw_exit ?_
    refine xput_same ?_
    exact ⟨_, resq0 rfl, rfl, hD⟩
end Go.Proofs.YtgdmjdacmebfjaaDoor.D

namespace Go.Proofs.YtgdmjdacmebfjaaDoor.D
open Go
set_option maxRecDepth 100000
theorem S_slices_heapSortOrdered_string {data_0 : Sl} {a_1 : Int} {b_2 : Int} {h0 : Hp} {K : Hp → Prop} (hD : D_slices_heapSortOrdered_string data_0 a_1 b_2 h0 K) : C_slices_heapSortOrdered_string data_0 a_1 b_2 h0 K := by
  unfold D_slices_heapSortOrdered_string at hD
  refine calls_cw (args := [Sl.v data_0, Value.int .i64 a_1, Value.int .i64 b_2]) Go.Proofs.Tryd.func70 rfl ?_
  show cw _ 56 _ [(0, Sl.v data_0), (1, Value.int .i64 a_1), (2, Value.int .i64 b_2)] _ _ _ _
  refine cw_seq ?_
  refine cw_region ?_
  refine wl_q rfl rfl rfl (q_move rfl rfl) ?_
  refine wl_q rfl rfl rfl (q_assign rfl rfl) ?_
  refine wl_keep (l' := [(0, Sl.v data_0), (1, Value.int .i64 a_1), (2, Value.int .i64 b_2), (6, Value.int .i64 a_1)]) (keep_cons rfl (keep_cons rfl (keep_cons rfl (keep_cons rfl keep_nil)))) (wl_nil ?_)
  refine cw_seq ?_
  refine cw_region ?_
  refine wl_q rfl rfl rfl (q_assign rfl rfl) ?_
  refine wl_keep (l' := [(0, Sl.v data_0), (1, Value.int .i64 a_1), (2, Value.int .i64 b_2), (6, Value.int .i64 a_1), (7, Value.int .i64 0)]) (keep_cons rfl (keep_cons rfl (keep_cons rfl (keep_cons rfl (keep_cons rfl keep_nil))))) (wl_nil ?_)
  refine cw_seq ?_
  refine cw_region ?_
  refine wl_q rfl rfl rfl (q_move rfl rfl) ?_
  refine wl_q rfl rfl rfl (q_move rfl rfl) ?_
  refine wl_q rfl rfl rfl (q_bin rfl rfl rfl (fun _ _ => rfl)) ?_
  refine wl_q rfl rfl rfl (q_assign rfl rfl) ?_
  refine wl_keep (l' := [(0, Sl.v data_0), (6, Value.int .i64 a_1), (7, Value.int .i64 0), (8, Value.int .i64 (IntKind.i64.wrap (b_2 - a_1)))]) (keep_cons rfl (keep_cons rfl (keep_cons rfl (keep_cons rfl keep_nil)))) (wl_nil ?_)
  refine cw_seq ?_
  refine cw_seq ?_
  refine cw_region ?_
  refine wl_q rfl rfl rfl (q_move rfl rfl) ?_
  refine wl_q rfl rfl rfl (q_bin rfl rfl rfl (fun _ _ => rfl)) ?_
  refine wl_q rfl rfl rfl (q_quo rfl rfl rfl (by decide)) ?_
  refine wl_q rfl rfl rfl (q_assign rfl rfl) ?_
  refine wl_keep (l' := [(0, Sl.v data_0), (6, Value.int .i64 a_1), (7, Value.int .i64 0), (8, Value.int .i64 (IntKind.i64.wrap (b_2 - a_1))), (9, Value.int .i64 (IntKind.i64.wrap (Int.tdiv (IntKind.i64.wrap ((IntKind.i64.wrap (b_2 - a_1)) - 1)) 2)))]) (keep_cons rfl (keep_cons rfl (keep_cons rfl (keep_cons rfl (keep_cons rfl keep_nil))))) (wl_nil ?_)
  refine cw_block ?_
  obtain ⟨I, μ, hI37, hL38⟩ := hD
  refine cw_loops (σ := Int) (fun s => [(0, Sl.v data_0), (6, Value.int .i64 a_1), (7, Value.int .i64 0), (8, Value.int .i64 (IntKind.i64.wrap (b_2 - a_1))), (9, Value.int .i64 s)]) (IntKind.i64.wrap (Int.tdiv (IntKind.i64.wrap ((IntKind.i64.wrap (b_2 - a_1)) - 1)) 2)) (fun s h => I s h) (fun s h => μ s h) (keep_cons rfl (keep_cons rfl (keep_cons rfl (keep_cons rfl (keep_cons rfl keep_nil))))) hI37 ?_
  rintro i1 hz2 hI
  have hD := hL38 i1 hz2 hI
  obtain ⟨C3, hC3⟩ : ∃ c : Int → Hp → Prop, c = (fun i1' h' => I i1' h' ∧ μ i1' h' < μ i1 hz2) := ⟨_, rfl⟩
  rw [← hC3] at hD
  unfold D_slices_heapSortOrdered_string_l2 at hD
  show cw _ _ _ [(0, Sl.v data_0), (6, Value.int .i64 a_1), (7, Value.int .i64 0), (8, Value.int .i64 (IntKind.i64.wrap (b_2 - a_1))), (9, Value.int .i64 i1)] _ _ _ _
  refine cw_seq ?_
  refine cw_seq ?_
  refine cw_region ?_
  refine wl_q rfl rfl rfl (q_move rfl rfl) ?_
  refine wl_q rfl rfl rfl (q_bin rfl rfl rfl (fun _ _ => rfl)) ?_
  refine wl_keep (l' := [(0, Sl.v data_0), (6, Value.int .i64 a_1), (7, Value.int .i64 0), (8, Value.int .i64 (IntKind.i64.wrap (b_2 - a_1))), (9, Value.int .i64 i1), (19, Value.bool (decide (i1 ≥ (0 : Int))))]) (keep_cons rfl (keep_cons rfl (keep_cons rfl (keep_cons rfl (keep_cons rfl (keep_cons rfl keep_nil)))))) (wl_nil ?_)
  refine cw_cond rfl (fun hb4 => ?_) (fun hb4 => ?_)
  · have hD := ifT hb4 hD
    refine cw_skip ?_
    refine cw_seq ?_
    refine cw_block ?_
    refine cw_region ?_
    refine wl_q rfl rfl rfl (q_move rfl rfl) ?_
    refine wl_q rfl rfl rfl (q_move rfl rfl) ?_
    refine wl_q rfl rfl rfl (q_move rfl rfl) ?_
    refine wl_q rfl rfl rfl (q_move rfl rfl) ?_
    refine wl_e rfl rfl rfl (e_call (first := []) (vs := [Sl.v data_0, Value.int .i64 i1, Value.int .i64 (IntKind.i64.wrap (b_2 - a_1)), Value.int .i64 a_1]) (cap := []) rfl rfl rfl cf_84 (CallsH.mono hD ?_))
    rintro _ hz5 ⟨rfl, hD⟩
    refine wl_keep (l' := [(0, Sl.v data_0), (6, Value.int .i64 a_1), (7, Value.int .i64 0), (8, Value.int .i64 (IntKind.i64.wrap (b_2 - a_1))), (9, Value.int .i64 i1)]) (keep_cons rfl (keep_cons rfl (keep_cons rfl (keep_cons rfl (keep_cons rfl keep_nil))))) (wl_nil ?_)
    refine cw_region ?_
    refine wl_q rfl rfl rfl (q_move rfl rfl) ?_
    refine wl_q rfl rfl rfl (q_bin rfl rfl rfl (fun _ _ => rfl)) ?_
    refine wl_q rfl rfl rfl (q_assign rfl rfl) ?_
    refine wl_keep (l' := [(0, Sl.v data_0), (6, Value.int .i64 a_1), (7, Value.int .i64 0), (8, Value.int .i64 (IntKind.i64.wrap (b_2 - a_1))), (9, Value.int .i64 (IntKind.i64.wrap (i1 - 1)))]) (keep_cons rfl (keep_cons rfl (keep_cons rfl (keep_cons rfl (keep_cons rfl keep_nil))))) (wl_nil ?_)
    rw [hC3] at hD
    exact ⟨(IntKind.i64.wrap (i1 - 1)), (keep_cons rfl (keep_cons rfl (keep_cons rfl (keep_cons rfl (keep_cons rfl keep_nil))))), hD⟩
  · have hD := ifF hb4 hD
    refine cw_exit ?_
    refine xput_same ?_
    refine cw_seq ?_
    refine cw_region ?_
    refine wl_q rfl rfl rfl (q_move rfl rfl) ?_
    refine wl_q rfl rfl rfl (q_bin rfl rfl rfl (fun _ _ => rfl)) ?_
    refine wl_q rfl rfl rfl (q_assign rfl rfl) ?_
    refine wl_keep (l' := [(0, Sl.v data_0), (6, Value.int .i64 a_1), (7, Value.int .i64 0), (10, Value.int .i64 (IntKind.i64.wrap ((IntKind.i64.wrap (b_2 - a_1)) - 1)))]) (keep_cons rfl (keep_cons rfl (keep_cons rfl (keep_cons rfl keep_nil)))) (wl_nil ?_)
    refine cw_block ?_
    obtain ⟨I, μ, hI35, hL36⟩ := hD
    refine cw_loops (σ := Int) (fun s => [(0, Sl.v data_0), (6, Value.int .i64 a_1), (7, Value.int .i64 0), (10, Value.int .i64 s)]) (IntKind.i64.wrap ((IntKind.i64.wrap (b_2 - a_1)) - 1)) (fun s h => I s h) (fun s h => μ s h) (keep_cons rfl (keep_cons rfl (keep_cons rfl (keep_cons rfl keep_nil)))) hI35 ?_
    rintro i6 hz7 hI
    have hD := hL36 i6 hz7 hI
    obtain ⟨C8, hC8⟩ : ∃ c : Int → Hp → Prop, c = (fun i6' h' => I i6' h' ∧ μ i6' h' < μ i6 hz7) := ⟨_, rfl⟩
    rw [← hC8] at hD
    unfold D_slices_heapSortOrdered_string_l1 at hD
    show cw _ _ _ [(0, Sl.v data_0), (6, Value.int .i64 a_1), (7, Value.int .i64 0), (10, Value.int .i64 i6)] _ _ _ _
    refine cw_seq ?_
    refine cw_seq ?_
    refine cw_region ?_
    refine wl_q rfl rfl rfl (q_move rfl rfl) ?_
    refine wl_q rfl rfl rfl (q_bin rfl rfl rfl (fun _ _ => rfl)) ?_
    refine wl_keep (l' := [(0, Sl.v data_0), (6, Value.int .i64 a_1), (7, Value.int .i64 0), (10, Value.int .i64 i6), (30, Value.bool (decide (i6 ≥ (0 : Int))))]) (keep_cons rfl (keep_cons rfl (keep_cons rfl (keep_cons rfl (keep_cons rfl keep_nil))))) (wl_nil ?_)
    refine cw_cond rfl (fun hb9 => ?_) (fun hb9 => ?_)
    · have hD := ifT hb9 hD
      refine cw_skip ?_
      refine cw_seq ?_
      refine cw_block ?_
      refine cw_seq ?_
      obtain ⟨a10, c11, c12, c13, hD⟩ := hD
      obtain ⟨x14, c15, hD⟩ := hD
      obtain ⟨c16, c17, hD⟩ := hD
      obtain ⟨x18, c19, hD⟩ := hD
      obtain ⟨c20, c21, hD⟩ := hD
      refine cw_draw (fun h => cellH h (a10.add ((IntKind.i64.wrap (a_1 + i6)).toNat * 1)) = some (Value.string x14) ∧ cellH h (a10.add (a_1.toNat * 1)) = some (Value.string x18) ∧ True) 19 wide ?_
      have hS : cellH hz7 (a10.add ((IntKind.i64.wrap (a_1 + i6)).toNat * 1)) = some (Value.string x14) ∧ cellH hz7 (a10.add (a_1.toNat * 1)) = some (Value.string x18) ∧ True := ⟨c15, c19, trivial⟩
      refine wh_q 0 rfl (by kernel_rfl) rfl rfl rfl (q_move rfl rfl) (by exact hS) ?_
      refine wh_q 1 rfl (by kernel_rfl) rfl rfl rfl (q_move rfl rfl) (by exact hS) ?_
      refine wh_q 2 rfl (by kernel_rfl) rfl rfl rfl (q_move rfl rfl) (by exact hS) ?_
      refine wh_q 3 rfl (by kernel_rfl) rfl rfl rfl (q_move rfl rfl) (by exact hS) ?_
      refine wh_q 4 rfl (by kernel_rfl) rfl rfl rfl (q_move rfl rfl) (by exact hS) ?_
      refine wh_q 5 rfl (by kernel_rfl) rfl rfl rfl (q_bin rfl rfl rfl (fun _ _ => rfl)) (by exact hS) ?_
      refine wh_q 6 rfl (by kernel_rfl) rfl rfl rfl (q_move rfl rfl) (by exact hS) ?_
      refine wh_q 7 rfl (by kernel_rfl) rfl rfl rfl (q_move rfl rfl) (by exact hS) ?_
      refine wh_q 8 rfl (by kernel_rfl) rfl rfl rfl (q_move rfl rfl) (by exact hS) ?_
      refine wh_q 9 rfl (by kernel_rfl) rfl rfl rfl (q_bin rfl rfl rfl (fun _ _ => rfl)) (by exact hS) ?_
      refine wh_q 10 rfl (by kernel_rfl) rfl rfl rfl (q_indexAddr rfl rfl rfl Go.Proofs.Tryd.underlying49 sz_9 c11 c12 c13) (by exact hS) ?_
      refine wh_q 11 rfl (by kernel_rfl) rfl rfl rfl (q_load rfl rfl Go.Proofs.Tryd.underlying9 rfl (by exact fun _ s => s.1)) (by exact hS) ?_
      refine wh_q 12 rfl (by kernel_rfl) rfl rfl rfl (q_move rfl rfl) (by exact hS) ?_
      refine wh_q 13 rfl (by kernel_rfl) rfl rfl rfl (q_move rfl rfl) (by exact hS) ?_
      refine wh_q 14 rfl (by kernel_rfl) rfl rfl rfl (q_indexAddr rfl rfl rfl Go.Proofs.Tryd.underlying49 sz_9 c11 c16 c17) (by exact hS) ?_
      refine wh_q 15 rfl (by kernel_rfl) rfl rfl rfl (q_load rfl rfl Go.Proofs.Tryd.underlying9 rfl (by exact fun _ s => s.2.1)) (by exact hS) ?_
      refine wh_q 16 rfl (by kernel_rfl) rfl rfl rfl (q_indexAddr rfl rfl rfl Go.Proofs.Tryd.underlying49 sz_9 c11 c20 c21) (by exact hS) ?_
      obtain ⟨u23, c24, c25, hD⟩ := hD
      refine wh_e0 17 rfl (by kernel_rfl) rfl rfl (e_store rfl rfl rfl sz_9 trivial c24 c25 ?_)
      intro hz22 e26
      have hD := hD hz22 e26
      obtain ⟨hk0, hk1, hD⟩ := hD
      refine ⟨⟨hk0, hk1, trivial⟩, ?_⟩
      have hS : cellH hz22 (a10.add ((IntKind.i64.wrap (a_1 + i6)).toNat * 1)) = some (Value.string x14) ∧ cellH hz22 (a10.add (a_1.toNat * 1)) = some (Value.string x18) ∧ True := ⟨hk0, hk1, trivial⟩
      obtain ⟨c27, c28, hD⟩ := hD
      refine wh_q 18 rfl (by kernel_rfl) rfl rfl rfl (q_indexAddr rfl rfl rfl Go.Proofs.Tryd.underlying49 sz_9 c11 c27 c28) (by exact hS) ?_
      obtain ⟨u30, c31, c32, hD⟩ := hD
      refine wh_last 19 rfl (by kernel_rfl) rfl rfl rfl (e_store rfl rfl rfl sz_9 trivial c31 c32 ?_)
      intro hz29 e33
      have hD := hD hz29 e33
      refine wh_keep (l' := [(0, Sl.v data_0), (6, Value.int .i64 a_1), (7, Value.int .i64 0), (10, Value.int .i64 i6)]) (keep_cons rfl (keep_cons rfl (keep_cons rfl (keep_cons rfl keep_nil)))) (wh_done (by kernel_rfl) ?_)
      refine cw_region ?_
      refine wl_q rfl rfl rfl (q_move rfl rfl) ?_
      refine wl_q rfl rfl rfl (q_move rfl rfl) ?_
      refine wl_q rfl rfl rfl (q_move rfl rfl) ?_
      refine wl_q rfl rfl rfl (q_move rfl rfl) ?_
      refine wl_e rfl rfl rfl (e_call (first := []) (vs := [Sl.v data_0, Value.int .i64 0, Value.int .i64 i6, Value.int .i64 a_1]) (cap := []) rfl rfl rfl cf_84 (CallsH.mono hD ?_))
      rintro _ hz34 ⟨rfl, hD⟩
      refine wl_keep (l' := [(0, Sl.v data_0), (6, Value.int .i64 a_1), (7, Value.int .i64 0), (10, Value.int .i64 i6)]) (keep_cons rfl (keep_cons rfl (keep_cons rfl (keep_cons rfl keep_nil)))) (wl_nil ?_)
      refine cw_region ?_
      refine wl_q rfl rfl rfl (q_move rfl rfl) ?_
      refine wl_q rfl rfl rfl (q_bin rfl rfl rfl (fun _ _ => rfl)) ?_
      refine wl_q rfl rfl rfl (q_assign rfl rfl) ?_
      refine wl_keep (l' := [(0, Sl.v data_0), (6, Value.int .i64 a_1), (7, Value.int .i64 0), (10, Value.int .i64 (IntKind.i64.wrap (i6 - 1)))]) (keep_cons rfl (keep_cons rfl (keep_cons rfl (keep_cons rfl keep_nil)))) (wl_nil ?_)
      rw [hC8] at hD
      exact ⟨(IntKind.i64.wrap (i6 - 1)), (keep_cons rfl (keep_cons rfl (keep_cons rfl (keep_cons rfl keep_nil)))), hD⟩
    · have hD := ifF hb9 hD
      refine cw_exit ?_
      refine xput_same ?_
      exact ⟨_, resq0 rfl, rfl, hD⟩
end Go.Proofs.YtgdmjdacmebfjaaDoor.D

namespace Go.Proofs.YtgdmjdacmebfjaaDoor.D
open Go
set_option maxRecDepth 100000
theorem S_slices_breakPatternsOrdered_string {d_0 : Sl} {t_1 : Int} {p_2 : Int} {h0 : Hp} {K : Hp → Prop} (hD : D_slices_breakPatternsOrdered_string d_0 t_1 p_2 h0 K) : C_slices_breakPatternsOrdered_string d_0 t_1 p_2 h0 K := by
  unfold D_slices_breakPatternsOrdered_string at hD
  refine calls_cw (args := [Sl.v d_0, Value.int .i64 t_1, Value.int .i64 p_2]) Go.Proofs.Tryd.func71 rfl ?_
  show cw _ 65 _ [(0, Sl.v d_0), (1, Value.int .i64 t_1), (2, Value.int .i64 p_2)] _ _ _ _
  refine cw_seq ?_
  refine cw_region ?_
  refine wl_q rfl rfl rfl (q_move rfl rfl) ?_
  refine wl_q rfl rfl rfl (q_move rfl rfl) ?_
  refine wl_q rfl rfl rfl (q_bin rfl rfl rfl (fun _ _ => rfl)) ?_
  refine wl_q rfl rfl rfl (q_assign rfl rfl) ?_
  refine wl_keep (l' := [(0, Sl.v d_0), (1, Value.int .i64 t_1), (6, Value.int .i64 (IntKind.i64.wrap (p_2 - t_1)))]) (keep_cons rfl (keep_cons rfl (keep_cons rfl keep_nil))) (wl_nil ?_)
  refine cw_seq ?_
  refine cw_region ?_
  refine wl_q rfl rfl rfl (q_move rfl rfl) ?_
  refine wl_q rfl rfl rfl (q_bin rfl rfl rfl (fun _ _ => rfl)) ?_
  refine wl_keep (l' := [(0, Sl.v d_0), (1, Value.int .i64 t_1), (6, Value.int .i64 (IntKind.i64.wrap (p_2 - t_1))), (15, Value.bool (decide ((IntKind.i64.wrap (p_2 - t_1)) ≥ (8 : Int))))]) (keep_cons rfl (keep_cons rfl (keep_cons rfl (keep_cons rfl keep_nil)))) (wl_nil ?_)
  refine cw_cond rfl (fun hb1 => ?_) (fun hb1 => ?_)
  · have hD := ifT hb1 hD
    refine cw_seq ?_
    refine cw_region ?_
    refine wl_q rfl rfl rfl (q_move rfl rfl) ?_
    refine wl_q rfl rfl rfl (q_conv_int rfl rfl Go.Proofs.Tryd.underlying3 Go.Proofs.Tryd.underlying127) ?_
    refine wl_e rfl rfl rfl (e_alloc rfl zr_127 ?_)
    intro hz2 e3
    have hD := hD hz2 e3
    obtain ⟨u5, c6, c7, hD⟩ := hD
    refine wl_e0 rfl rfl (e_store rfl rfl rfl sz_127 trivial c6 c7 ?_)
    intro hz4 e8
    have hD := hD hz4 e8
    refine wl_keep (l' := [(0, Sl.v d_0), (1, Value.int .i64 t_1), (6, Value.int .i64 (IntKind.i64.wrap (p_2 - t_1))), (7, Value.pointer (some (blk h0.size)))]) (keep_cons rfl (keep_cons rfl (keep_cons rfl (keep_cons rfl keep_nil)))) (wl_nil ?_)
    refine cw_seq ?_
    refine cw_region ?_
    refine wl_q rfl rfl rfl (q_move rfl rfl) ?_
    refine wl_e rfl rfl rfl (e_call (first := []) (vs := [Value.int .i64 (IntKind.i64.wrap (p_2 - t_1))]) (cap := []) rfl rfl rfl cf_85 (CallsH.mono hD ?_))
    rintro _ hz9 ⟨r10, rfl, hD⟩
    refine wl_q rfl rfl rfl (q_assign rfl rfl) ?_
    refine wl_keep (l' := [(0, Sl.v d_0), (1, Value.int .i64 t_1), (6, Value.int .i64 (IntKind.i64.wrap (p_2 - t_1))), (7, Value.pointer (some (blk h0.size))), (8, Value.int .u64 r10)]) (keep_cons rfl (keep_cons rfl (keep_cons rfl (keep_cons rfl (keep_cons rfl keep_nil))))) (wl_nil ?_)
    refine cw_seq ?_
    refine cw_region ?_
    refine wl_q rfl rfl rfl (q_move rfl rfl) ?_
    refine wl_q rfl rfl rfl (q_move rfl rfl) ?_
    refine wl_q rfl rfl rfl (q_quo rfl rfl rfl (by decide)) ?_
    refine wl_q rfl rfl rfl (q_bin rfl rfl rfl (fun _ _ => rfl)) ?_
    refine wl_q rfl rfl rfl (q_bin rfl rfl rfl (fun _ _ => rfl)) ?_
    refine wl_q rfl rfl rfl (q_bin rfl rfl rfl (fun _ _ => rfl)) ?_
    refine wl_q rfl rfl rfl (q_assign rfl rfl) ?_
    refine wl_keep (l' := [(0, Sl.v d_0), (1, Value.int .i64 t_1), (6, Value.int .i64 (IntKind.i64.wrap (p_2 - t_1))), (7, Value.pointer (some (blk h0.size))), (8, Value.int .u64 r10), (9, Value.int .i64 (IntKind.i64.wrap ((IntKind.i64.wrap (t_1 + (IntKind.i64.wrap ((IntKind.i64.wrap (Int.tdiv (IntKind.i64.wrap (p_2 - t_1)) 4)) * 2)))) - 1)))]) (keep_cons rfl (keep_cons rfl (keep_cons rfl (keep_cons rfl (keep_cons rfl (keep_cons rfl keep_nil)))))) (wl_nil ?_)
    refine cw_block ?_
    obtain ⟨I, μ, hI46, hL47⟩ := hD
    refine cw_loops (σ := Int) (fun s => [(0, Sl.v d_0), (1, Value.int .i64 t_1), (6, Value.int .i64 (IntKind.i64.wrap (p_2 - t_1))), (7, Value.pointer (some (blk h0.size))), (8, Value.int .u64 r10), (9, Value.int .i64 s)]) (IntKind.i64.wrap ((IntKind.i64.wrap (t_1 + (IntKind.i64.wrap ((IntKind.i64.wrap (Int.tdiv (IntKind.i64.wrap (p_2 - t_1)) 4)) * 2)))) - 1)) (fun s h => I s h) (fun s h => μ s h) (keep_cons rfl (keep_cons rfl (keep_cons rfl (keep_cons rfl (keep_cons rfl (keep_cons rfl keep_nil)))))) hI46 ?_
    rintro x11 hz12 hI
    have hD := hL47 x11 hz12 hI
    obtain ⟨C13, hC13⟩ : ∃ c : Int → Hp → Prop, c = (fun x11' h' => I x11' h' ∧ μ x11' h' < μ x11 hz12) := ⟨_, rfl⟩
    rw [← hC13] at hD
    unfold D_slices_breakPatternsOrdered_string_l2 at hD
    show cw _ _ _ [(0, Sl.v d_0), (1, Value.int .i64 t_1), (6, Value.int .i64 (IntKind.i64.wrap (p_2 - t_1))), (7, Value.pointer (some (blk h0.size))), (8, Value.int .u64 r10), (9, Value.int .i64 x11)] _ _ _ _
    refine cw_seq ?_
    refine cw_seq ?_
    refine cw_region ?_
    refine wl_q rfl rfl rfl (q_move rfl rfl) ?_
    refine wl_q rfl rfl rfl (q_move rfl rfl) ?_
    refine wl_q rfl rfl rfl (q_move rfl rfl) ?_
    refine wl_q rfl rfl rfl (q_quo rfl rfl rfl (by decide)) ?_
    refine wl_q rfl rfl rfl (q_bin rfl rfl rfl (fun _ _ => rfl)) ?_
    refine wl_q rfl rfl rfl (q_bin rfl rfl rfl (fun _ _ => rfl)) ?_
    refine wl_q rfl rfl rfl (q_bin rfl rfl rfl (fun _ _ => rfl)) ?_
    refine wl_q rfl rfl rfl (q_bin rfl rfl rfl (fun _ _ => rfl)) ?_
    refine wl_keep (l' := [(0, Sl.v d_0), (1, Value.int .i64 t_1), (6, Value.int .i64 (IntKind.i64.wrap (p_2 - t_1))), (7, Value.pointer (some (blk h0.size))), (8, Value.int .u64 r10), (9, Value.int .i64 x11), (33, Value.bool (decide (x11 ≤ (IntKind.i64.wrap ((IntKind.i64.wrap (t_1 + (IntKind.i64.wrap ((IntKind.i64.wrap (Int.tdiv (IntKind.i64.wrap (p_2 - t_1)) 4)) * 2)))) + 1)))))]) (keep_cons rfl (keep_cons rfl (keep_cons rfl (keep_cons rfl (keep_cons rfl (keep_cons rfl (keep_cons rfl keep_nil))))))) (wl_nil ?_)
    refine cw_cond rfl (fun hb14 => ?_) (fun hb14 => ?_)
    · have hD := ifT hb14 hD
      refine cw_skip ?_
      refine cw_seq ?_
      refine cw_block ?_
      refine cw_seq ?_
      refine cw_region ?_
      refine wl_e rfl rfl rfl (e_call (first := []) (vs := [Value.pointer (some (blk h0.size))]) (cap := []) rfl rfl rfl cf_86 (CallsH.mono hD ?_))
      rintro _ hz15 ⟨r16, rfl, hD⟩
      refine wl_q rfl rfl rfl (q_move rfl rfl) ?_
      refine wl_q rfl rfl rfl (q_bin rfl rfl rfl (fun _ _ => rfl)) ?_
      refine wl_q rfl rfl rfl (q_bin rfl rfl rfl (fun _ _ => rfl)) ?_
      refine wl_q rfl rfl rfl (q_conv_int rfl rfl Go.Proofs.Tryd.underlying92 Go.Proofs.Tryd.underlying3) ?_
      refine wl_q rfl rfl rfl (q_assign rfl rfl) ?_
      refine wl_keep (l' := [(0, Sl.v d_0), (1, Value.int .i64 t_1), (6, Value.int .i64 (IntKind.i64.wrap (p_2 - t_1))), (7, Value.pointer (some (blk h0.size))), (8, Value.int .u64 r10), (9, Value.int .i64 x11), (10, Value.int .i64 (IntKind.i64.wrap (bitsI .and .u64 r16 (IntKind.u64.wrap (r10 - 1)))))]) (keep_cons rfl (keep_cons rfl (keep_cons rfl (keep_cons rfl (keep_cons rfl (keep_cons rfl (keep_cons rfl keep_nil))))))) (wl_nil ?_)
      refine cw_cut (fun l h => ∃ (x17 : Int), Keep l [(0, Sl.v d_0), (1, Value.int .i64 t_1), (6, Value.int .i64 (IntKind.i64.wrap (p_2 - t_1))), (7, Value.pointer (some (blk h0.size))), (8, Value.int .u64 r10), (9, Value.int .i64 x11), (10, Value.int .i64 x17)] ∧ D_slices_breakPatternsOrdered_string_j1 d_0 t_1 x11 C13 x17 h) ?_ ?_
      · refine cw_seq ?_
        refine cw_region ?_
        refine wl_q rfl rfl rfl (q_move rfl rfl) ?_
        refine wl_q rfl rfl rfl (q_move rfl rfl) ?_
        refine wl_q rfl rfl rfl (q_bin rfl rfl rfl (fun _ _ => rfl)) ?_
        refine wl_keep (l' := [(0, Sl.v d_0), (1, Value.int .i64 t_1), (6, Value.int .i64 (IntKind.i64.wrap (p_2 - t_1))), (7, Value.pointer (some (blk h0.size))), (8, Value.int .u64 r10), (9, Value.int .i64 x11), (10, Value.int .i64 (IntKind.i64.wrap (bitsI .and .u64 r16 (IntKind.u64.wrap (r10 - 1))))), (43, Value.bool (decide ((IntKind.i64.wrap (bitsI .and .u64 r16 (IntKind.u64.wrap (r10 - 1)))) ≥ (IntKind.i64.wrap (p_2 - t_1)))))]) (keep_cons rfl (keep_cons rfl (keep_cons rfl (keep_cons rfl (keep_cons rfl (keep_cons rfl (keep_cons rfl (keep_cons rfl keep_nil)))))))) (wl_nil ?_)
        refine cw_cond rfl (fun hb43 => ?_) (fun hb43 => ?_)
        · have hD := ifT hb43 hD
          refine cw_region ?_
          refine wl_q rfl rfl rfl (q_move rfl rfl) ?_
          refine wl_q rfl rfl rfl (q_move rfl rfl) ?_
          refine wl_q rfl rfl rfl (q_bin rfl rfl rfl (fun _ _ => rfl)) ?_
          refine wl_q rfl rfl rfl (q_assign rfl rfl) ?_
          refine wl_keep (l' := [(0, Sl.v d_0), (1, Value.int .i64 t_1), (6, Value.int .i64 (IntKind.i64.wrap (p_2 - t_1))), (7, Value.pointer (some (blk h0.size))), (8, Value.int .u64 r10), (9, Value.int .i64 x11), (10, Value.int .i64 (IntKind.i64.wrap ((IntKind.i64.wrap (bitsI .and .u64 r16 (IntKind.u64.wrap (r10 - 1)))) - (IntKind.i64.wrap (p_2 - t_1)))))]) (keep_cons rfl (keep_cons rfl (keep_cons rfl (keep_cons rfl (keep_cons rfl (keep_cons rfl (keep_cons rfl keep_nil))))))) (wl_nil ?_)
          exact ⟨_, (keep_cons rfl (keep_cons rfl (keep_cons rfl (keep_cons rfl (keep_cons rfl (keep_cons rfl (keep_cons rfl keep_nil))))))), hD⟩
        · have hD := ifF hb43 hD
          refine cw_skip ?_
          exact ⟨_, (keep_cons rfl (keep_cons rfl (keep_cons rfl (keep_cons rfl (keep_cons rfl (keep_cons rfl (keep_cons rfl keep_nil))))))), hD⟩
      · rintro l45 hz18 ⟨x17, hk44, hD⟩
        refine cw_keep hk44 ?_
        unfold D_slices_breakPatternsOrdered_string_j1 at hD
        obtain ⟨a19, c20, c21, c22, hD⟩ := hD
        obtain ⟨x23, c24, hD⟩ := hD
        obtain ⟨c25, c26, hD⟩ := hD
        obtain ⟨x27, c28, hD⟩ := hD
        obtain ⟨c29, c30, hD⟩ := hD
        refine cw_draw (fun h => cellH h (a19.add ((IntKind.i64.wrap (t_1 + x17)).toNat * 1)) = some (Value.string x23) ∧ cellH h (a19.add (x11.toNat * 1)) = some (Value.string x27) ∧ True) 19 wide ?_
        have hS : cellH hz18 (a19.add ((IntKind.i64.wrap (t_1 + x17)).toNat * 1)) = some (Value.string x23) ∧ cellH hz18 (a19.add (x11.toNat * 1)) = some (Value.string x27) ∧ True := ⟨c24, c28, trivial⟩
        refine wh_q 0 rfl (by kernel_rfl) rfl rfl rfl (q_move rfl rfl) (by exact hS) ?_
        refine wh_q 1 rfl (by kernel_rfl) rfl rfl rfl (q_move rfl rfl) (by exact hS) ?_
        refine wh_q 2 rfl (by kernel_rfl) rfl rfl rfl (q_move rfl rfl) (by exact hS) ?_
        refine wh_q 3 rfl (by kernel_rfl) rfl rfl rfl (q_move rfl rfl) (by exact hS) ?_
        refine wh_q 4 rfl (by kernel_rfl) rfl rfl rfl (q_move rfl rfl) (by exact hS) ?_
        refine wh_q 5 rfl (by kernel_rfl) rfl rfl rfl (q_bin rfl rfl rfl (fun _ _ => rfl)) (by exact hS) ?_
        refine wh_q 6 rfl (by kernel_rfl) rfl rfl rfl (q_move rfl rfl) (by exact hS) ?_
        refine wh_q 7 rfl (by kernel_rfl) rfl rfl rfl (q_move rfl rfl) (by exact hS) ?_
        refine wh_q 8 rfl (by kernel_rfl) rfl rfl rfl (q_move rfl rfl) (by exact hS) ?_
        refine wh_q 9 rfl (by kernel_rfl) rfl rfl rfl (q_bin rfl rfl rfl (fun _ _ => rfl)) (by exact hS) ?_
        refine wh_q 10 rfl (by kernel_rfl) rfl rfl rfl (q_indexAddr rfl rfl rfl Go.Proofs.Tryd.underlying49 sz_9 c20 c21 c22) (by exact hS) ?_
        refine wh_q 11 rfl (by kernel_rfl) rfl rfl rfl (q_load rfl rfl Go.Proofs.Tryd.underlying9 rfl (by exact fun _ s => s.1)) (by exact hS) ?_
        refine wh_q 12 rfl (by kernel_rfl) rfl rfl rfl (q_move rfl rfl) (by exact hS) ?_
        refine wh_q 13 rfl (by kernel_rfl) rfl rfl rfl (q_move rfl rfl) (by exact hS) ?_
        refine wh_q 14 rfl (by kernel_rfl) rfl rfl rfl (q_indexAddr rfl rfl rfl Go.Proofs.Tryd.underlying49 sz_9 c20 c25 c26) (by exact hS) ?_
        refine wh_q 15 rfl (by kernel_rfl) rfl rfl rfl (q_load rfl rfl Go.Proofs.Tryd.underlying9 rfl (by exact fun _ s => s.2.1)) (by exact hS) ?_
        refine wh_q 16 rfl (by kernel_rfl) rfl rfl rfl (q_indexAddr rfl rfl rfl Go.Proofs.Tryd.underlying49 sz_9 c20 c29 c30) (by exact hS) ?_
        obtain ⟨u32, c33, c34, hD⟩ := hD
        refine wh_e0 17 rfl (by kernel_rfl) rfl rfl (e_store rfl rfl rfl sz_9 trivial c33 c34 ?_)
        intro hz31 e35
        have hD := hD hz31 e35
        obtain ⟨hk0, hk1, hD⟩ := hD
        refine ⟨⟨hk0, hk1, trivial⟩, ?_⟩
        have hS : cellH hz31 (a19.add ((IntKind.i64.wrap (t_1 + x17)).toNat * 1)) = some (Value.string x23) ∧ cellH hz31 (a19.add (x11.toNat * 1)) = some (Value.string x27) ∧ True := ⟨hk0, hk1, trivial⟩
        obtain ⟨c36, c37, hD⟩ := hD
        refine wh_q 18 rfl (by kernel_rfl) rfl rfl rfl (q_indexAddr rfl rfl rfl Go.Proofs.Tryd.underlying49 sz_9 c20 c36 c37) (by exact hS) ?_
        obtain ⟨u39, c40, c41, hD⟩ := hD
        refine wh_last 19 rfl (by kernel_rfl) rfl rfl rfl (e_store rfl rfl rfl sz_9 trivial c40 c41 ?_)
        intro hz38 e42
        have hD := hD hz38 e42
        refine wh_keep (l' := [(0, Sl.v d_0), (1, Value.int .i64 t_1), (6, Value.int .i64 (IntKind.i64.wrap (p_2 - t_1))), (7, Value.pointer (some (blk h0.size))), (8, Value.int .u64 r10), (9, Value.int .i64 x11)]) (keep_cons rfl (keep_cons rfl (keep_cons rfl (keep_cons rfl (keep_cons rfl (keep_cons rfl keep_nil)))))) (wh_done (by kernel_rfl) ?_)
        refine cw_region ?_
        refine wl_q rfl rfl rfl (q_move rfl rfl) ?_
        refine wl_q rfl rfl rfl (q_bin rfl rfl rfl (fun _ _ => rfl)) ?_
        refine wl_q rfl rfl rfl (q_assign rfl rfl) ?_
        refine wl_keep (l' := [(0, Sl.v d_0), (1, Value.int .i64 t_1), (6, Value.int .i64 (IntKind.i64.wrap (p_2 - t_1))), (7, Value.pointer (some (blk h0.size))), (8, Value.int .u64 r10), (9, Value.int .i64 (IntKind.i64.wrap (x11 + 1)))]) (keep_cons rfl (keep_cons rfl (keep_cons rfl (keep_cons rfl (keep_cons rfl (keep_cons rfl keep_nil)))))) (wl_nil ?_)
        rw [hC13] at hD
        exact ⟨(IntKind.i64.wrap (x11 + 1)), (keep_cons rfl (keep_cons rfl (keep_cons rfl (keep_cons rfl (keep_cons rfl (keep_cons rfl keep_nil)))))), hD⟩
    · have hD := ifF hb14 hD
      refine cw_exit ?_
      refine xput_same ?_
      exact ⟨_, resq0 rfl, rfl, hD⟩
  · have hD := ifF hb1 hD
    refine cw_skip ?_
    exact ⟨_, resq0 rfl, rfl, hD⟩
end Go.Proofs.YtgdmjdacmebfjaaDoor.D

namespace Go.Proofs.YtgdmjdacmebfjaaDoor.D
open Go
set_option maxRecDepth 100000
theorem S_slices_choosePivotOrdered_string {data_0 : Sl} {a_1 : Int} {b_2 : Int} {h0 : Hp} {K : Int → Int → Hp → Prop} (hD : D_slices_choosePivotOrdered_string data_0 a_1 b_2 h0 K) : C_slices_choosePivotOrdered_string data_0 a_1 b_2 h0 K := by
  unfold D_slices_choosePivotOrdered_string at hD
  refine calls_cw (args := [Sl.v data_0, Value.int .i64 a_1, Value.int .i64 b_2]) Go.Proofs.Tryd.func72 rfl ?_
  show cw _ 57 _ [(0, Sl.v data_0), (1, Value.int .i64 a_1), (2, Value.int .i64 b_2)] _ _ _ _
  refine cw_seq ?_
  refine cw_region ?_
  refine wl_q rfl rfl rfl (q_assign rfl rfl) ?_
  refine wl_q rfl rfl rfl (q_assign rfl rfl) ?_
  refine wl_keep (l' := [(0, Sl.v data_0), (1, Value.int .i64 a_1), (2, Value.int .i64 b_2)]) (keep_cons rfl (keep_cons rfl (keep_cons rfl keep_nil))) (wl_nil ?_)
  refine cw_seq ?_
  refine cw_region ?_
  refine wl_q rfl rfl rfl (q_move rfl rfl) ?_
  refine wl_q rfl rfl rfl (q_move rfl rfl) ?_
  refine wl_q rfl rfl rfl (q_bin rfl rfl rfl (fun _ _ => rfl)) ?_
  refine wl_q rfl rfl rfl (q_assign rfl rfl) ?_
  refine wl_keep (l' := [(0, Sl.v data_0), (1, Value.int .i64 a_1), (8, Value.int .i64 (IntKind.i64.wrap (b_2 - a_1)))]) (keep_cons rfl (keep_cons rfl (keep_cons rfl keep_nil))) (wl_nil ?_)
  refine cw_seq ?_
  refine cw_region ?_
  refine wl_e rfl rfl rfl (e_alloc rfl zr_3 ?_)
  intro hz1 e2
  have hD := hD hz1 e2
  refine wl_keep (l' := [(0, Sl.v data_0), (1, Value.int .i64 a_1), (8, Value.int .i64 (IntKind.i64.wrap (b_2 - a_1))), (9, Value.pointer (some (blk h0.size)))]) (keep_cons rfl (keep_cons rfl (keep_cons rfl (keep_cons rfl keep_nil)))) (wl_nil ?_)
  refine cw_seq ?_
  refine cw_region ?_
  refine wl_q rfl rfl rfl (q_move rfl rfl) ?_
  refine wl_q rfl rfl rfl (q_move rfl rfl) ?_
  refine wl_q rfl rfl rfl (q_quo rfl rfl rfl (by decide)) ?_
  refine wl_q rfl rfl rfl (q_bin rfl rfl rfl (fun _ _ => rfl)) ?_
  refine wl_q rfl rfl rfl (q_bin rfl rfl rfl (fun _ _ => rfl)) ?_
  refine wl_q rfl rfl rfl (q_assign rfl rfl) ?_
  refine wl_keep (l' := [(0, Sl.v data_0), (1, Value.int .i64 a_1), (8, Value.int .i64 (IntKind.i64.wrap (b_2 - a_1))), (9, Value.pointer (some (blk h0.size))), (10, Value.int .i64 (IntKind.i64.wrap (a_1 + (IntKind.i64.wrap ((IntKind.i64.wrap (Int.tdiv (IntKind.i64.wrap (b_2 - a_1)) 4)) * 1)))))]) (keep_cons rfl (keep_cons rfl (keep_cons rfl (keep_cons rfl (keep_cons rfl keep_nil))))) (wl_nil ?_)
  refine cw_seq ?_
  refine cw_region ?_
  refine wl_q rfl rfl rfl (q_move rfl rfl) ?_
  refine wl_q rfl rfl rfl (q_move rfl rfl) ?_
  refine wl_q rfl rfl rfl (q_quo rfl rfl rfl (by decide)) ?_
  refine wl_q rfl rfl rfl (q_bin rfl rfl rfl (fun _ _ => rfl)) ?_
  refine wl_q rfl rfl rfl (q_bin rfl rfl rfl (fun _ _ => rfl)) ?_
  refine wl_q rfl rfl rfl (q_assign rfl rfl) ?_
  refine wl_keep (l' := [(0, Sl.v data_0), (1, Value.int .i64 a_1), (8, Value.int .i64 (IntKind.i64.wrap (b_2 - a_1))), (9, Value.pointer (some (blk h0.size))), (10, Value.int .i64 (IntKind.i64.wrap (a_1 + (IntKind.i64.wrap ((IntKind.i64.wrap (Int.tdiv (IntKind.i64.wrap (b_2 - a_1)) 4)) * 1))))), (11, Value.int .i64 (IntKind.i64.wrap (a_1 + (IntKind.i64.wrap ((IntKind.i64.wrap (Int.tdiv (IntKind.i64.wrap (b_2 - a_1)) 4)) * 2)))))]) (keep_cons rfl (keep_cons rfl (keep_cons rfl (keep_cons rfl (keep_cons rfl (keep_cons rfl keep_nil)))))) (wl_nil ?_)
  refine cw_seq ?_
  refine cw_region ?_
  refine wl_q rfl rfl rfl (q_move rfl rfl) ?_
  refine wl_q rfl rfl rfl (q_move rfl rfl) ?_
  refine wl_q rfl rfl rfl (q_quo rfl rfl rfl (by decide)) ?_
  refine wl_q rfl rfl rfl (q_bin rfl rfl rfl (fun _ _ => rfl)) ?_
  refine wl_q rfl rfl rfl (q_bin rfl rfl rfl (fun _ _ => rfl)) ?_
  refine wl_q rfl rfl rfl (q_assign rfl rfl) ?_
  refine wl_keep (l' := [(0, Sl.v data_0), (8, Value.int .i64 (IntKind.i64.wrap (b_2 - a_1))), (9, Value.pointer (some (blk h0.size))), (10, Value.int .i64 (IntKind.i64.wrap (a_1 + (IntKind.i64.wrap ((IntKind.i64.wrap (Int.tdiv (IntKind.i64.wrap (b_2 - a_1)) 4)) * 1))))), (11, Value.int .i64 (IntKind.i64.wrap (a_1 + (IntKind.i64.wrap ((IntKind.i64.wrap (Int.tdiv (IntKind.i64.wrap (b_2 - a_1)) 4)) * 2))))), (12, Value.int .i64 (IntKind.i64.wrap (a_1 + (IntKind.i64.wrap ((IntKind.i64.wrap (Int.tdiv (IntKind.i64.wrap (b_2 - a_1)) 4)) * 3)))))]) (keep_cons rfl (keep_cons rfl (keep_cons rfl (keep_cons rfl (keep_cons rfl (keep_cons rfl keep_nil)))))) (wl_nil ?_)
  refine cw_cut (fun l h => ∃ (j3 : Int), Keep l [(9, Value.pointer (some (blk h0.size))), (11, Value.int .i64 j3)] ∧ D_slices_choosePivotOrdered_string_j1 h0 K j3 h) ?_ ?_
  · refine cw_seq ?_
    refine cw_region ?_
    refine wl_q rfl rfl rfl (q_move rfl rfl) ?_
    refine wl_q rfl rfl rfl (q_bin rfl rfl rfl (fun _ _ => rfl)) ?_
    refine wl_keep (l' := [(0, Sl.v data_0), (8, Value.int .i64 (IntKind.i64.wrap (b_2 - a_1))), (9, Value.pointer (some (blk h0.size))), (10, Value.int .i64 (IntKind.i64.wrap (a_1 + (IntKind.i64.wrap ((IntKind.i64.wrap (Int.tdiv (IntKind.i64.wrap (b_2 - a_1)) 4)) * 1))))), (11, Value.int .i64 (IntKind.i64.wrap (a_1 + (IntKind.i64.wrap ((IntKind.i64.wrap (Int.tdiv (IntKind.i64.wrap (b_2 - a_1)) 4)) * 2))))), (12, Value.int .i64 (IntKind.i64.wrap (a_1 + (IntKind.i64.wrap ((IntKind.i64.wrap (Int.tdiv (IntKind.i64.wrap (b_2 - a_1)) 4)) * 3))))), (32, Value.bool (decide ((IntKind.i64.wrap (b_2 - a_1)) ≥ (8 : Int))))]) (keep_cons rfl (keep_cons rfl (keep_cons rfl (keep_cons rfl (keep_cons rfl (keep_cons rfl (keep_cons rfl keep_nil))))))) (wl_nil ?_)
    refine cw_cond rfl (fun hb9 => ?_) (fun hb9 => ?_)
    · have hD := ifT hb9 hD
      refine cw_cut (fun l h => ∃ (i10 : Int) (j11 : Int) (k12 : Int), Keep l [(0, Sl.v data_0), (9, Value.pointer (some (blk h0.size))), (10, Value.int .i64 i10), (11, Value.int .i64 j11), (12, Value.int .i64 k12)] ∧ D_slices_choosePivotOrdered_string_j2 data_0 h0 K i10 j11 k12 h) ?_ ?_
      · refine cw_seq ?_
        refine cw_region ?_
        refine wl_q rfl rfl rfl (q_move rfl rfl) ?_
        refine wl_q rfl rfl rfl (q_bin rfl rfl rfl (fun _ _ => rfl)) ?_
        refine wl_keep (l' := [(0, Sl.v data_0), (9, Value.pointer (some (blk h0.size))), (10, Value.int .i64 (IntKind.i64.wrap (a_1 + (IntKind.i64.wrap ((IntKind.i64.wrap (Int.tdiv (IntKind.i64.wrap (b_2 - a_1)) 4)) * 1))))), (11, Value.int .i64 (IntKind.i64.wrap (a_1 + (IntKind.i64.wrap ((IntKind.i64.wrap (Int.tdiv (IntKind.i64.wrap (b_2 - a_1)) 4)) * 2))))), (12, Value.int .i64 (IntKind.i64.wrap (a_1 + (IntKind.i64.wrap ((IntKind.i64.wrap (Int.tdiv (IntKind.i64.wrap (b_2 - a_1)) 4)) * 3))))), (34, Value.bool (decide ((IntKind.i64.wrap (b_2 - a_1)) ≥ (50 : Int))))]) (keep_cons rfl (keep_cons rfl (keep_cons rfl (keep_cons rfl (keep_cons rfl (keep_cons rfl keep_nil)))))) (wl_nil ?_)
        refine cw_cond rfl (fun hb16 => ?_) (fun hb16 => ?_)
        · have hD := ifT hb16 hD
          refine cw_seq ?_
          refine cw_region ?_
          refine wl_q rfl rfl rfl (q_move rfl rfl) ?_
          refine wl_q rfl rfl rfl (q_move rfl rfl) ?_
          refine wl_e rfl rfl rfl (e_call (first := []) (vs := [Sl.v data_0, Value.int .i64 (IntKind.i64.wrap (a_1 + (IntKind.i64.wrap ((IntKind.i64.wrap (Int.tdiv (IntKind.i64.wrap (b_2 - a_1)) 4)) * 1)))), Value.pointer (some (blk h0.size))]) (cap := []) rfl rfl rfl cf_87 (CallsH.mono hD ?_))
          rintro _ hz17 ⟨r18, rfl, hD⟩
          refine wl_q rfl rfl rfl (q_assign rfl rfl) ?_
          refine wl_keep (l' := [(0, Sl.v data_0), (9, Value.pointer (some (blk h0.size))), (10, Value.int .i64 r18), (11, Value.int .i64 (IntKind.i64.wrap (a_1 + (IntKind.i64.wrap ((IntKind.i64.wrap (Int.tdiv (IntKind.i64.wrap (b_2 - a_1)) 4)) * 2))))), (12, Value.int .i64 (IntKind.i64.wrap (a_1 + (IntKind.i64.wrap ((IntKind.i64.wrap (Int.tdiv (IntKind.i64.wrap (b_2 - a_1)) 4)) * 3)))))]) (keep_cons rfl (keep_cons rfl (keep_cons rfl (keep_cons rfl (keep_cons rfl keep_nil))))) (wl_nil ?_)
          refine cw_seq ?_
          refine cw_region ?_
          refine wl_q rfl rfl rfl (q_move rfl rfl) ?_
          refine wl_q rfl rfl rfl (q_move rfl rfl) ?_
          refine wl_e rfl rfl rfl (e_call (first := []) (vs := [Sl.v data_0, Value.int .i64 (IntKind.i64.wrap (a_1 + (IntKind.i64.wrap ((IntKind.i64.wrap (Int.tdiv (IntKind.i64.wrap (b_2 - a_1)) 4)) * 2)))), Value.pointer (some (blk h0.size))]) (cap := []) rfl rfl rfl cf_87 (CallsH.mono hD ?_))
          rintro _ hz19 ⟨r20, rfl, hD⟩
          refine wl_q rfl rfl rfl (q_assign rfl rfl) ?_
          refine wl_keep (l' := [(0, Sl.v data_0), (9, Value.pointer (some (blk h0.size))), (10, Value.int .i64 r18), (11, Value.int .i64 r20), (12, Value.int .i64 (IntKind.i64.wrap (a_1 + (IntKind.i64.wrap ((IntKind.i64.wrap (Int.tdiv (IntKind.i64.wrap (b_2 - a_1)) 4)) * 3)))))]) (keep_cons rfl (keep_cons rfl (keep_cons rfl (keep_cons rfl (keep_cons rfl keep_nil))))) (wl_nil ?_)
          refine cw_region ?_
          refine wl_q rfl rfl rfl (q_move rfl rfl) ?_
          refine wl_q rfl rfl rfl (q_move rfl rfl) ?_
          refine wl_e rfl rfl rfl (e_call (first := []) (vs := [Sl.v data_0, Value.int .i64 (IntKind.i64.wrap (a_1 + (IntKind.i64.wrap ((IntKind.i64.wrap (Int.tdiv (IntKind.i64.wrap (b_2 - a_1)) 4)) * 3)))), Value.pointer (some (blk h0.size))]) (cap := []) rfl rfl rfl cf_87 (CallsH.mono hD ?_))
          rintro _ hz21 ⟨r22, rfl, hD⟩
          refine wl_q rfl rfl rfl (q_assign rfl rfl) ?_
          refine wl_keep (l' := [(0, Sl.v data_0), (9, Value.pointer (some (blk h0.size))), (10, Value.int .i64 r18), (11, Value.int .i64 r20), (12, Value.int .i64 r22)]) (keep_cons rfl (keep_cons rfl (keep_cons rfl (keep_cons rfl (keep_cons rfl keep_nil))))) (wl_nil ?_)
          exact ⟨_, _, _, (keep_cons rfl (keep_cons rfl (keep_cons rfl (keep_cons rfl (keep_cons rfl keep_nil))))), hD⟩
        · have hD := ifF hb16 hD
          refine cw_skip ?_
          exact ⟨_, _, _, (keep_cons rfl (keep_cons rfl (keep_cons rfl (keep_cons rfl (keep_cons rfl keep_nil))))), hD⟩
      · rintro l24 hz13 ⟨i10, j11, k12, hk23, hD⟩
        refine cw_keep hk23 ?_
        unfold D_slices_choosePivotOrdered_string_j2 at hD
        refine cw_region ?_
        refine wl_q rfl rfl rfl (q_move rfl rfl) ?_
        refine wl_q rfl rfl rfl (q_move rfl rfl) ?_
        refine wl_q rfl rfl rfl (q_move rfl rfl) ?_
        refine wl_q rfl rfl rfl (q_move rfl rfl) ?_
        refine wl_e rfl rfl rfl (e_call (first := []) (vs := [Sl.v data_0, Value.int .i64 i10, Value.int .i64 j11, Value.int .i64 k12, Value.pointer (some (blk h0.size))]) (cap := []) rfl rfl rfl cf_88 (CallsH.mono hD ?_))
        rintro _ hz14 ⟨r15, rfl, hD⟩
        refine wl_q rfl rfl rfl (q_assign rfl rfl) ?_
        refine wl_keep (l' := [(9, Value.pointer (some (blk h0.size))), (11, Value.int .i64 r15)]) (keep_cons rfl (keep_cons rfl keep_nil)) (wl_nil ?_)
        exact ⟨_, (keep_cons rfl (keep_cons rfl keep_nil)), hD⟩
    · have hD := ifF hb9 hD
      refine cw_skip ?_
      exact ⟨_, (keep_cons rfl (keep_cons rfl keep_nil)), hD⟩
  · rintro l26 hz4 ⟨j3, hk25, hD⟩
    refine cw_keep hk25 ?_
    unfold D_slices_choosePivotOrdered_string_j1 at hD
    refine cw_seq ?_
    refine cw_region ?_
    obtain ⟨x5, c6, hD⟩ := hD
    refine wl_q rfl rfl rfl (q_load rfl rfl Go.Proofs.Tryd.underlying3 rfl (At.cell c6)) ?_
    refine wl_keep (l' := [(11, Value.int .i64 j3), (49, Value.int .i64 x5)]) (keep_cons rfl (keep_cons rfl keep_nil)) (wl_nil ?_)
    refine cw_block ?_
    refine cw_seq ?_
    refine cw_region ?_
    refine wl_q rfl rfl rfl (q_bin rfl rfl rfl (fun _ _ => rfl)) ?_
    refine wl_q rfl rfl rfl (q_assign rfl rfl) ?_
    refine wl_keep (l' := [(11, Value.int .i64 j3), (49, Value.int .i64 x5), (51, Value.bool (x5 == (0 : Int)))]) (keep_cons rfl (keep_cons rfl (keep_cons rfl keep_nil))) (wl_nil ?_)
    refine cw_cond rfl (fun hb7 => ?_) (fun hb7 => ?_)
    · have hD := ifT hb7 hD
      refine cw_seq ?_
      refine cw_region ?_
      refine wl_q rfl rfl rfl (q_move rfl rfl) ?_
      refine wl_q rfl rfl rfl (q_assign rfl rfl) ?_
      refine wl_q rfl rfl rfl (q_assign rfl rfl) ?_
      refine wl_keep (l' := [(6, Value.int .i64 j3), (7, Value.int .i64 1)]) (keep_cons rfl (keep_cons rfl keep_nil)) (wl_nil ?_)
      refine cw_ret ?_
      exact ⟨_, resq2 rfl rfl rfl, _, _, rfl, hD⟩
    · have hD := ifF hb7 hD
      refine cw_seq ?_
      refine cw_region ?_
      refine wl_q rfl rfl rfl (q_bin rfl rfl rfl (fun _ _ => rfl)) ?_
      refine wl_q rfl rfl rfl (q_assign rfl rfl) ?_
      refine wl_keep (l' := [(11, Value.int .i64 j3), (54, Value.bool (x5 == (12 : Int)))]) (keep_cons rfl (keep_cons rfl keep_nil)) (wl_nil ?_)
      refine cw_cond rfl (fun hb8 => ?_) (fun hb8 => ?_)
      · have hD := ifT hb8 hD
        refine cw_seq ?_
        refine cw_region ?_
        refine wl_q rfl rfl rfl (q_move rfl rfl) ?_
        refine wl_q rfl rfl rfl (q_assign rfl rfl) ?_
        refine wl_q rfl rfl rfl (q_assign rfl rfl) ?_
        refine wl_keep (l' := [(6, Value.int .i64 j3), (7, Value.int .i64 2)]) (keep_cons rfl (keep_cons rfl keep_nil)) (wl_nil ?_)
        refine cw_ret ?_
        exact ⟨_, resq2 rfl rfl rfl, _, _, rfl, hD⟩
      · have hD := ifF hb8 hD
        refine cw_seq ?_
        refine cw_region ?_
        refine wl_q rfl rfl rfl (q_move rfl rfl) ?_
        refine wl_q rfl rfl rfl (q_assign rfl rfl) ?_
        refine wl_q rfl rfl rfl (q_assign rfl rfl) ?_
        refine wl_keep (l' := [(6, Value.int .i64 j3), (7, Value.int .i64 0)]) (keep_cons rfl (keep_cons rfl keep_nil)) (wl_nil ?_)
        refine cw_ret ?_
        exact ⟨_, resq2 rfl rfl rfl, _, _, rfl, hD⟩
end Go.Proofs.YtgdmjdacmebfjaaDoor.D

namespace Go.Proofs.YtgdmjdacmebfjaaDoor.D
open Go
set_option maxRecDepth 100000
theorem S_slices_reverseRangeOrdered_string {data_0 : Sl} {a_1 : Int} {b_2 : Int} {h0 : Hp} {K : Hp → Prop} (hD : D_slices_reverseRangeOrdered_string data_0 a_1 b_2 h0 K) : C_slices_reverseRangeOrdered_string data_0 a_1 b_2 h0 K := by
  unfold D_slices_reverseRangeOrdered_string at hD
  refine calls_cw (args := [Sl.v data_0, Value.int .i64 a_1, Value.int .i64 b_2]) Go.Proofs.Tryd.func73 rfl ?_
  show cw _ 32 _ [(0, Sl.v data_0), (1, Value.int .i64 a_1), (2, Value.int .i64 b_2)] _ _ _ _
  refine cw_seq ?_
  refine cw_region ?_
  refine wl_q rfl rfl rfl (q_move rfl rfl) ?_
  refine wl_q rfl rfl rfl (q_assign rfl rfl) ?_
  refine wl_keep (l' := [(0, Sl.v data_0), (2, Value.int .i64 b_2), (6, Value.int .i64 a_1)]) (keep_cons rfl (keep_cons rfl (keep_cons rfl keep_nil))) (wl_nil ?_)
  refine cw_seq ?_
  refine cw_region ?_
  refine wl_q rfl rfl rfl (q_move rfl rfl) ?_
  refine wl_q rfl rfl rfl (q_bin rfl rfl rfl (fun _ _ => rfl)) ?_
  refine wl_q rfl rfl rfl (q_assign rfl rfl) ?_
  refine wl_keep (l' := [(0, Sl.v data_0), (6, Value.int .i64 a_1), (7, Value.int .i64 (IntKind.i64.wrap (b_2 - 1)))]) (keep_cons rfl (keep_cons rfl (keep_cons rfl keep_nil))) (wl_nil ?_)
  refine cw_block ?_
  obtain ⟨I, μ, hI30, hL31⟩ := hD
  refine cw_loops (σ := Int × Int) (fun s => [(0, Sl.v data_0), (6, Value.int .i64 s.1), (7, Value.int .i64 s.2)]) (a_1, IntKind.i64.wrap (b_2 - 1)) (fun s h => I s.1 s.2 h) (fun s h => μ s.1 s.2 h) (keep_cons rfl (keep_cons rfl (keep_cons rfl keep_nil))) hI30 ?_
  rintro ⟨i1, j2⟩ hz3 hI
  have hD := hL31 i1 j2 hz3 hI
  obtain ⟨C4, hC4⟩ : ∃ c : Int → Int → Hp → Prop, c = (fun i1' j2' h' => I i1' j2' h' ∧ μ i1' j2' h' < μ i1 j2 hz3) := ⟨_, rfl⟩
  rw [← hC4] at hD
  unfold D_slices_reverseRangeOrdered_string_l1 at hD
  show cw _ _ _ [(0, Sl.v data_0), (6, Value.int .i64 i1), (7, Value.int .i64 j2)] _ _ _ _
  refine cw_seq ?_
  refine cw_seq ?_
  refine cw_region ?_
  refine wl_q rfl rfl rfl (q_move rfl rfl) ?_
  refine wl_q rfl rfl rfl (q_move rfl rfl) ?_
  refine wl_q rfl rfl rfl (q_bin rfl rfl rfl (fun _ _ => rfl)) ?_
  refine wl_keep (l' := [(0, Sl.v data_0), (6, Value.int .i64 i1), (7, Value.int .i64 j2), (13, Value.bool (decide (i1 < j2)))]) (keep_cons rfl (keep_cons rfl (keep_cons rfl (keep_cons rfl keep_nil)))) (wl_nil ?_)
  refine cw_cond rfl (fun hb5 => ?_) (fun hb5 => ?_)
  · have hD := ifT hb5 hD
    refine cw_skip ?_
    refine cw_block ?_
    refine cw_seq ?_
    obtain ⟨a6, c7, c8, c9, hD⟩ := hD
    obtain ⟨x10, c11, hD⟩ := hD
    obtain ⟨c12, c13, hD⟩ := hD
    obtain ⟨x14, c15, hD⟩ := hD
    obtain ⟨c16, c17, hD⟩ := hD
    refine cw_draw (fun h => cellH h (a6.add (j2.toNat * 1)) = some (Value.string x10) ∧ cellH h (a6.add (i1.toNat * 1)) = some (Value.string x14) ∧ True) 15 wide ?_
    have hS : cellH hz3 (a6.add (j2.toNat * 1)) = some (Value.string x10) ∧ cellH hz3 (a6.add (i1.toNat * 1)) = some (Value.string x14) ∧ True := ⟨c11, c15, trivial⟩
    refine wh_q 0 rfl (by kernel_rfl) rfl rfl rfl (q_move rfl rfl) (by exact hS) ?_
    refine wh_q 1 rfl (by kernel_rfl) rfl rfl rfl (q_move rfl rfl) (by exact hS) ?_
    refine wh_q 2 rfl (by kernel_rfl) rfl rfl rfl (q_move rfl rfl) (by exact hS) ?_
    refine wh_q 3 rfl (by kernel_rfl) rfl rfl rfl (q_move rfl rfl) (by exact hS) ?_
    refine wh_q 4 rfl (by kernel_rfl) rfl rfl rfl (q_move rfl rfl) (by exact hS) ?_
    refine wh_q 5 rfl (by kernel_rfl) rfl rfl rfl (q_move rfl rfl) (by exact hS) ?_
    refine wh_q 6 rfl (by kernel_rfl) rfl rfl rfl (q_indexAddr rfl rfl rfl Go.Proofs.Tryd.underlying49 sz_9 c7 c8 c9) (by exact hS) ?_
    refine wh_q 7 rfl (by kernel_rfl) rfl rfl rfl (q_load rfl rfl Go.Proofs.Tryd.underlying9 rfl (by exact fun _ s => s.1)) (by exact hS) ?_
    refine wh_q 8 rfl (by kernel_rfl) rfl rfl rfl (q_move rfl rfl) (by exact hS) ?_
    refine wh_q 9 rfl (by kernel_rfl) rfl rfl rfl (q_move rfl rfl) (by exact hS) ?_
    refine wh_q 10 rfl (by kernel_rfl) rfl rfl rfl (q_indexAddr rfl rfl rfl Go.Proofs.Tryd.underlying49 sz_9 c7 c12 c13) (by exact hS) ?_
    refine wh_q 11 rfl (by kernel_rfl) rfl rfl rfl (q_load rfl rfl Go.Proofs.Tryd.underlying9 rfl (by exact fun _ s => s.2.1)) (by exact hS) ?_
    refine wh_q 12 rfl (by kernel_rfl) rfl rfl rfl (q_indexAddr rfl rfl rfl Go.Proofs.Tryd.underlying49 sz_9 c7 c16 c17) (by exact hS) ?_
    obtain ⟨u19, c20, c21, hD⟩ := hD
    refine wh_e0 13 rfl (by kernel_rfl) rfl rfl (e_store rfl rfl rfl sz_9 trivial c20 c21 ?_)
    intro hz18 e22
    have hD := hD hz18 e22
    obtain ⟨hk0, hk1, hD⟩ := hD
    refine ⟨⟨hk0, hk1, trivial⟩, ?_⟩
    have hS : cellH hz18 (a6.add (j2.toNat * 1)) = some (Value.string x10) ∧ cellH hz18 (a6.add (i1.toNat * 1)) = some (Value.string x14) ∧ True := ⟨hk0, hk1, trivial⟩
    obtain ⟨c23, c24, hD⟩ := hD
    refine wh_q 14 rfl (by kernel_rfl) rfl rfl rfl (q_indexAddr rfl rfl rfl Go.Proofs.Tryd.underlying49 sz_9 c7 c23 c24) (by exact hS) ?_
    obtain ⟨u26, c27, c28, hD⟩ := hD
    refine wh_last 15 rfl (by kernel_rfl) rfl rfl rfl (e_store rfl rfl rfl sz_9 trivial c27 c28 ?_)
    intro hz25 e29
    have hD := hD hz25 e29
    refine wh_keep (l' := [(0, Sl.v data_0), (6, Value.int .i64 i1), (7, Value.int .i64 j2)]) (keep_cons rfl (keep_cons rfl (keep_cons rfl keep_nil))) (wh_done (by kernel_rfl) ?_)
    refine cw_seq ?_
    refine cw_region ?_
    refine wl_q rfl rfl rfl (q_move rfl rfl) ?_
    refine wl_q rfl rfl rfl (q_bin rfl rfl rfl (fun _ _ => rfl)) ?_
    refine wl_q rfl rfl rfl (q_assign rfl rfl) ?_
    refine wl_keep (l' := [(0, Sl.v data_0), (6, Value.int .i64 (IntKind.i64.wrap (i1 + 1))), (7, Value.int .i64 j2)]) (keep_cons rfl (keep_cons rfl (keep_cons rfl keep_nil))) (wl_nil ?_)
    refine cw_region ?_
    refine wl_q rfl rfl rfl (q_move rfl rfl) ?_
    refine wl_q rfl rfl rfl (q_bin rfl rfl rfl (fun _ _ => rfl)) ?_
    refine wl_q rfl rfl rfl (q_assign rfl rfl) ?_
    refine wl_keep (l' := [(0, Sl.v data_0), (6, Value.int .i64 (IntKind.i64.wrap (i1 + 1))), (7, Value.int .i64 (IntKind.i64.wrap (j2 - 1)))]) (keep_cons rfl (keep_cons rfl (keep_cons rfl keep_nil))) (wl_nil ?_)
    rw [hC4] at hD
    exact ⟨(IntKind.i64.wrap (i1 + 1), IntKind.i64.wrap (j2 - 1)), (keep_cons rfl (keep_cons rfl (keep_cons rfl keep_nil))), hD⟩
  · have hD := ifF hb5 hD
    refine cw_exit ?_
    refine xput_same ?_
    exact ⟨_, resq0 rfl, rfl, hD⟩
end Go.Proofs.YtgdmjdacmebfjaaDoor.D
