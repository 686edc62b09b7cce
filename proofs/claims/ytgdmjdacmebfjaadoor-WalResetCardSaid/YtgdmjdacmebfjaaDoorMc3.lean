/-
  Each function's code does what its plain text says (written by a program). No conditions.
-/
import Derived.Test.YtgdmjdacmebfjaaDoorMb
namespace Go.Proofs.YtgdmjdacmebfjaaDoor.D
open Go
set_option maxRecDepth 100000
theorem S_slices_partialInsertionSortOrdered_string {d_0 : Sl} {t_1 : Int} {p_2 : Int} {h0 : Hp} {K : Bool → Hp → Prop} (hD : D_slices_partialInsertionSortOrdered_string d_0 t_1 p_2 h0 K) : C_slices_partialInsertionSortOrdered_string d_0 t_1 p_2 h0 K := by
  unfold D_slices_partialInsertionSortOrdered_string at hD
  refine calls_cw (args := [Sl.v d_0, Value.int .i64 t_1, Value.int .i64 p_2]) Go.Proofs.Tryd.func74 rfl ?_
  show cw _ 133 _ [(0, Sl.v d_0), (1, Value.int .i64 t_1), (2, Value.int .i64 p_2)] _ _ _ _
  refine cw_seq ?_
  refine cw_region ?_
  refine wl_q rfl rfl rfl (q_assign rfl rfl) ?_
  refine wl_keep (l' := [(0, Sl.v d_0), (1, Value.int .i64 t_1), (2, Value.int .i64 p_2)]) (keep_cons rfl (keep_cons rfl (keep_cons rfl keep_nil))) (wl_nil ?_)
  refine cw_seq ?_
  refine cw_region ?_
  refine wl_q rfl rfl rfl (q_move rfl rfl) ?_
  refine wl_q rfl rfl rfl (q_bin rfl rfl rfl (fun _ _ => rfl)) ?_
  refine wl_q rfl rfl rfl (q_assign rfl rfl) ?_
  refine wl_keep (l' := [(0, Sl.v d_0), (1, Value.int .i64 t_1), (2, Value.int .i64 p_2), (7, Value.int .i64 (IntKind.i64.wrap (t_1 + 1)))]) (keep_cons rfl (keep_cons rfl (keep_cons rfl (keep_cons rfl keep_nil)))) (wl_nil ?_)
  refine cw_seq ?_
  refine cw_seq ?_
  refine cw_region ?_
  refine wl_q rfl rfl rfl (q_assign rfl rfl) ?_
  refine wl_keep (l' := [(0, Sl.v d_0), (1, Value.int .i64 t_1), (2, Value.int .i64 p_2), (7, Value.int .i64 (IntKind.i64.wrap (t_1 + 1))), (8, Value.int .i64 0)]) (keep_cons rfl (keep_cons rfl (keep_cons rfl (keep_cons rfl (keep_cons rfl keep_nil))))) (wl_nil ?_)
  refine cw_block ?_
  obtain ⟨I, μ, hI142, hL143⟩ := hD
  refine cw_loops (σ := Int × Int) (fun s => [(0, Sl.v d_0), (1, Value.int .i64 t_1), (2, Value.int .i64 p_2), (7, Value.int .i64 s.1), (8, Value.int .i64 s.2)]) (IntKind.i64.wrap (t_1 + 1), 0) (fun s h => I s.1 s.2 h) (fun s h => μ s.1 s.2 h) (keep_cons rfl (keep_cons rfl (keep_cons rfl (keep_cons rfl (keep_cons rfl keep_nil))))) hI142 ?_
  rintro ⟨x1, x2⟩ hz3 hI
  have hD := hL143 x1 x2 hz3 hI
  obtain ⟨C4, hC4⟩ : ∃ c : Int → Int → Hp → Prop, c = (fun x1' x2' h' => I x1' x2' h' ∧ μ x1' x2' h' < μ x1 x2 hz3) := ⟨_, rfl⟩
  rw [← hC4] at hD
  unfold D_slices_partialInsertionSortOrdered_string_l7 at hD
  show cw _ _ _ [(0, Sl.v d_0), (1, Value.int .i64 t_1), (2, Value.int .i64 p_2), (7, Value.int .i64 x1), (8, Value.int .i64 x2)] _ _ _ _
  refine cw_seq ?_
  refine cw_seq ?_
  refine cw_region ?_
  refine wl_q rfl rfl rfl (q_move rfl rfl) ?_
  refine wl_q rfl rfl rfl (q_bin rfl rfl rfl (fun _ _ => rfl)) ?_
  refine wl_keep (l' := [(0, Sl.v d_0), (1, Value.int .i64 t_1), (2, Value.int .i64 p_2), (7, Value.int .i64 x1), (8, Value.int .i64 x2), (14, Value.bool (decide (x2 < (5 : Int))))]) (keep_cons rfl (keep_cons rfl (keep_cons rfl (keep_cons rfl (keep_cons rfl (keep_cons rfl keep_nil)))))) (wl_nil ?_)
  refine cw_cond rfl (fun hb5 => ?_) (fun hb5 => ?_)
  · have hD := ifT hb5 hD
    refine cw_skip ?_
    refine cw_cut (fun l h => ∃ (x6 : Int), Keep l [(0, Sl.v d_0), (1, Value.int .i64 t_1), (2, Value.int .i64 p_2), (7, Value.int .i64 x6), (8, Value.int .i64 x2)] ∧ D_slices_partialInsertionSortOrdered_string_j1 x2 C4 x6 h) ?_ ?_
    · refine cw_block ?_
      refine cw_seq ?_
      refine cw_block ?_
      obtain ⟨I, μ, hI138, hL139⟩ := hD
      refine cw_loops (σ := Int) (fun s => [(0, Sl.v d_0), (1, Value.int .i64 t_1), (2, Value.int .i64 p_2), (7, Value.int .i64 s), (8, Value.int .i64 x2)]) (x1) (fun s h => I s h) (fun s h => μ s h) (keep_cons rfl (keep_cons rfl (keep_cons rfl (keep_cons rfl (keep_cons rfl keep_nil))))) hI138 ?_
      rintro x8 hz9 hI
      have hD := hL139 x8 hz9 hI
      obtain ⟨C10, hC10⟩ : ∃ c : Int → Hp → Prop, c = (fun x8' h' => I x8' h' ∧ μ x8' h' < μ x8 hz9) := ⟨_, rfl⟩
      rw [← hC10] at hD
      unfold D_slices_partialInsertionSortOrdered_string_l6 at hD
      show cw _ _ _ [(0, Sl.v d_0), (1, Value.int .i64 t_1), (2, Value.int .i64 p_2), (7, Value.int .i64 x8), (8, Value.int .i64 x2)] _ _ _ _
      refine cw_seq ?_
      refine cw_cut (fun l h => ∃ (x11 : Bool), Keep l [(0, Sl.v d_0), (1, Value.int .i64 t_1), (2, Value.int .i64 p_2), (7, Value.int .i64 x8), (8, Value.int .i64 x2), (32, Value.bool x11)] ∧ D_slices_partialInsertionSortOrdered_string_j5 d_0 t_1 p_2 K x2 C4 x8 C10 x11 h) ?_ ?_
      · rcases bool_or (decide (x8 < p_2)) with hb123 | hb123
        · have hD := ifT hb123 hD
          obtain ⟨a124, c125, c126, c127, hD⟩ := hD
          obtain ⟨x128, c129, hD⟩ := hD
          obtain ⟨c130, c131, hD⟩ := hD
          obtain ⟨x132, c133, hD⟩ := hD
          refine cw_draw (fun h => cellH h (a124.add (x8.toNat * 1)) = some (Value.string x128) ∧ cellH h (a124.add ((IntKind.i64.wrap (x8 - 1)).toNat * 1)) = some (Value.string x132) ∧ True) 16 wide ?_
          have hS : cellH hz9 (a124.add (x8.toNat * 1)) = some (Value.string x128) ∧ cellH hz9 (a124.add ((IntKind.i64.wrap (x8 - 1)).toNat * 1)) = some (Value.string x132) ∧ True := ⟨c129, c133, trivial⟩
          refine wh_q 0 rfl (by kernel_rfl) rfl rfl rfl (q_move rfl rfl) (by exact hS) ?_
          refine wh_q 1 rfl (by kernel_rfl) rfl rfl rfl (q_move rfl rfl) (by exact hS) ?_
          refine wh_q 2 rfl (by kernel_rfl) rfl rfl rfl (q_bin rfl rfl rfl (fun _ _ => rfl)) (by exact hS) ?_
          refine wh_q 3 rfl (by kernel_rfl) rfl rfl rfl (q_move rfl rfl) (by exact hS) ?_
          refine wh_gq 4 rfl (by kernel_rfl) rfl rfl rfl hb123 rfl rfl (q_move rfl rfl) (by exact hS) ?_
          refine wh_gq 5 rfl (by kernel_rfl) rfl rfl rfl hb123 rfl rfl (q_move rfl rfl) (by exact hS) ?_
          refine wh_gq 6 rfl (by kernel_rfl) rfl rfl rfl hb123 rfl rfl (q_indexAddr rfl rfl rfl Go.Proofs.Tryd.underlying49 sz_9 c125 c126 c127) (by exact hS) ?_
          refine wh_gq 7 rfl (by kernel_rfl) rfl rfl rfl hb123 rfl rfl (q_load rfl rfl Go.Proofs.Tryd.underlying9 rfl (by exact fun _ s => s.1)) (by exact hS) ?_
          refine wh_gq 8 rfl (by kernel_rfl) rfl rfl rfl hb123 rfl rfl (q_move rfl rfl) (by exact hS) ?_
          refine wh_gq 9 rfl (by kernel_rfl) rfl rfl rfl hb123 rfl rfl (q_move rfl rfl) (by exact hS) ?_
          refine wh_gq 10 rfl (by kernel_rfl) rfl rfl rfl hb123 rfl rfl (q_bin rfl rfl rfl (fun _ _ => rfl)) (by exact hS) ?_
          refine wh_gq 11 rfl (by kernel_rfl) rfl rfl rfl hb123 rfl rfl (q_indexAddr rfl rfl rfl Go.Proofs.Tryd.underlying49 sz_9 c125 c130 c131) (by exact hS) ?_
          refine wh_gq 12 rfl (by kernel_rfl) rfl rfl rfl hb123 rfl rfl (q_load rfl rfl Go.Proofs.Tryd.underlying9 rfl (by exact fun _ s => s.2.1)) (by exact hS) ?_
          refine wh_ge 13 rfl (by kernel_rfl) rfl rfl rfl hb123 rfl rfl (e_call (first := []) (vs := [Value.string x128, Value.string x132]) (cap := []) rfl rfl rfl cf_75 (CallsH.mono hD ?_))
          rintro _ hz134 ⟨r135, rfl, hD⟩
          obtain ⟨hk0, hk1, hD⟩ := hD
          refine ⟨⟨hk0, hk1, trivial⟩, ?_⟩
          have hS : cellH hz134 (a124.add (x8.toNat * 1)) = some (Value.string x128) ∧ cellH hz134 (a124.add ((IntKind.i64.wrap (x8 - 1)).toNat * 1)) = some (Value.string x132) ∧ True := ⟨hk0, hk1, trivial⟩
          refine wh_gq 14 rfl (by kernel_rfl) rfl rfl rfl hb123 rfl rfl (q_un rfl rfl (fun _ => rfl)) (by exact hS) ?_
          refine wh_q 15 rfl (by kernel_rfl) rfl rfl rfl (q_pickT rfl rfl hb123 rfl) (by exact hS) ?_
          refine wh_keep (l' := [(0, Sl.v d_0), (1, Value.int .i64 t_1), (2, Value.int .i64 p_2), (7, Value.int .i64 x8), (8, Value.int .i64 x2), (32, Value.bool (!r135))]) (keep_cons rfl (keep_cons rfl (keep_cons rfl (keep_cons rfl (keep_cons rfl (keep_cons rfl keep_nil)))))) (wh_done (by kernel_rfl) ?_)
          exact ⟨_, (keep_cons rfl (keep_cons rfl (keep_cons rfl (keep_cons rfl (keep_cons rfl (keep_cons rfl keep_nil)))))), hD⟩
        · have hD := ifF hb123 hD
          refine cw_draw (fun h => True) 16 wide ?_
          have hS : True := trivial
          refine wh_q 0 rfl (by kernel_rfl) rfl rfl rfl (q_move rfl rfl) (by exact hS) ?_
          refine wh_q 1 rfl (by kernel_rfl) rfl rfl rfl (q_move rfl rfl) (by exact hS) ?_
          refine wh_q 2 rfl (by kernel_rfl) rfl rfl rfl (q_bin rfl rfl rfl (fun _ _ => rfl)) (by exact hS) ?_
          refine wh_q 3 rfl (by kernel_rfl) rfl rfl rfl (q_move rfl rfl) (by exact hS) ?_
          refine wh_gn 4 rfl (by kernel_rfl) rfl rfl rfl hb123 rfl rfl (by exact hS) ?_
          refine wh_gn 5 rfl (by kernel_rfl) rfl rfl rfl hb123 rfl rfl (by exact hS) ?_
          refine wh_gn 6 rfl (by kernel_rfl) rfl rfl rfl hb123 rfl rfl (by exact hS) ?_
          refine wh_gn 7 rfl (by kernel_rfl) rfl rfl rfl hb123 rfl rfl (by exact hS) ?_
          refine wh_gn 8 rfl (by kernel_rfl) rfl rfl rfl hb123 rfl rfl (by exact hS) ?_
          refine wh_gn 9 rfl (by kernel_rfl) rfl rfl rfl hb123 rfl rfl (by exact hS) ?_
          refine wh_gn 10 rfl (by kernel_rfl) rfl rfl rfl hb123 rfl rfl (by exact hS) ?_
          refine wh_gn 11 rfl (by kernel_rfl) rfl rfl rfl hb123 rfl rfl (by exact hS) ?_
          refine wh_gn 12 rfl (by kernel_rfl) rfl rfl rfl hb123 rfl rfl (by exact hS) ?_
          refine wh_gn 13 rfl (by kernel_rfl) rfl rfl rfl hb123 rfl rfl (by exact hS) ?_
          refine wh_gn 14 rfl (by kernel_rfl) rfl rfl rfl hb123 rfl rfl (by exact hS) ?_
          refine wh_q 15 rfl (by kernel_rfl) rfl rfl rfl (q_pickF rfl rfl hb123 rfl) (by exact hS) ?_
          refine wh_keep (l' := [(0, Sl.v d_0), (1, Value.int .i64 t_1), (2, Value.int .i64 p_2), (7, Value.int .i64 x8), (8, Value.int .i64 x2), (32, Value.bool false)]) (keep_cons rfl (keep_cons rfl (keep_cons rfl (keep_cons rfl (keep_cons rfl (keep_cons rfl keep_nil)))))) (wh_done (by kernel_rfl) ?_)
          exact ⟨_, (keep_cons rfl (keep_cons rfl (keep_cons rfl (keep_cons rfl (keep_cons rfl (keep_cons rfl keep_nil)))))), hD⟩
      · rintro l137 hz12 ⟨x11, hk136, hD⟩
        refine cw_keep hk136 ?_
        unfold D_slices_partialInsertionSortOrdered_string_j5 at hD
        refine cw_cond rfl (fun hb13 => ?_) (fun hb13 => ?_)
        · have hD := ifT hb13 hD
          refine cw_skip ?_
          refine cw_block ?_
          refine cw_region ?_
          refine wl_q rfl rfl rfl (q_move rfl rfl) ?_
          refine wl_q rfl rfl rfl (q_bin rfl rfl rfl (fun _ _ => rfl)) ?_
          refine wl_q rfl rfl rfl (q_assign rfl rfl) ?_
          refine wl_keep (l' := [(0, Sl.v d_0), (1, Value.int .i64 t_1), (2, Value.int .i64 p_2), (7, Value.int .i64 (IntKind.i64.wrap (x8 + 1))), (8, Value.int .i64 x2)]) (keep_cons rfl (keep_cons rfl (keep_cons rfl (keep_cons rfl (keep_cons rfl keep_nil))))) (wl_nil ?_)
          rw [hC10] at hD
          exact ⟨(IntKind.i64.wrap (x8 + 1)), (keep_cons rfl (keep_cons rfl (keep_cons rfl (keep_cons rfl (keep_cons rfl keep_nil))))), hD⟩
        · have hD := ifF hb13 hD
          refine cw_exit ?_
          refine xput_same ?_
          refine cw_seq ?_
          refine cw_seq ?_
          refine cw_region ?_
          refine wl_q rfl rfl rfl (q_move rfl rfl) ?_
          refine wl_q rfl rfl rfl (q_move rfl rfl) ?_
          refine wl_q rfl rfl rfl (q_bin rfl rfl rfl (fun _ _ => rfl)) ?_
          refine wl_keep (l' := [(0, Sl.v d_0), (1, Value.int .i64 t_1), (2, Value.int .i64 p_2), (7, Value.int .i64 x8), (8, Value.int .i64 x2), (37, Value.bool (x8 == p_2))]) (keep_cons rfl (keep_cons rfl (keep_cons rfl (keep_cons rfl (keep_cons rfl (keep_cons rfl keep_nil)))))) (wl_nil ?_)
          refine cw_cond rfl (fun hb14 => ?_) (fun hb14 => ?_)
          · have hD := ifT hb14 hD
            refine cw_seq ?_
            refine cw_region ?_
            refine wl_q rfl rfl rfl (q_assign rfl rfl) ?_
            refine wl_keep (l' := [(6, Value.bool true)]) (keep_cons rfl keep_nil) (wl_nil ?_)
            refine cw_ret ?_
            exact ⟨_, resq1 rfl rfl, _, rfl, hD⟩
          · have hD := ifF hb14 hD
            refine cw_skip ?_
            refine cw_seq ?_
            refine cw_seq ?_
            refine cw_region ?_
            refine wl_q rfl rfl rfl (q_move rfl rfl) ?_
            refine wl_q rfl rfl rfl (q_move rfl rfl) ?_
            refine wl_q rfl rfl rfl (q_bin rfl rfl rfl (fun _ _ => rfl)) ?_
            refine wl_q rfl rfl rfl (q_bin rfl rfl rfl (fun _ _ => rfl)) ?_
            refine wl_keep (l' := [(0, Sl.v d_0), (1, Value.int .i64 t_1), (2, Value.int .i64 p_2), (7, Value.int .i64 x8), (8, Value.int .i64 x2), (41, Value.bool (decide ((IntKind.i64.wrap (p_2 - t_1)) < (50 : Int))))]) (keep_cons rfl (keep_cons rfl (keep_cons rfl (keep_cons rfl (keep_cons rfl (keep_cons rfl keep_nil)))))) (wl_nil ?_)
            refine cw_cond rfl (fun hb15 => ?_) (fun hb15 => ?_)
            · have hD := ifT hb15 hD
              refine cw_seq ?_
              refine cw_region ?_
              refine wl_q rfl rfl rfl (q_assign rfl rfl) ?_
              refine wl_keep (l' := [(6, Value.bool false)]) (keep_cons rfl keep_nil) (wl_nil ?_)
              refine cw_ret ?_
              exact ⟨_, resq1 rfl rfl, _, rfl, hD⟩
            · have hD := ifF hb15 hD
              refine cw_skip ?_
              refine cw_seq ?_
              obtain ⟨a16, c17, c18, c19, hD⟩ := hD
              obtain ⟨x20, c21, hD⟩ := hD
              obtain ⟨c22, c23, hD⟩ := hD
              obtain ⟨x24, c25, hD⟩ := hD
              obtain ⟨c26, c27, hD⟩ := hD
              refine cw_draw (fun h => cellH h (a16.add ((IntKind.i64.wrap (x8 - 1)).toNat * 1)) = some (Value.string x20) ∧ cellH h (a16.add (x8.toNat * 1)) = some (Value.string x24) ∧ True) 17 wide ?_
              have hS : cellH hz12 (a16.add ((IntKind.i64.wrap (x8 - 1)).toNat * 1)) = some (Value.string x20) ∧ cellH hz12 (a16.add (x8.toNat * 1)) = some (Value.string x24) ∧ True := ⟨c21, c25, trivial⟩
              refine wh_q 0 rfl (by kernel_rfl) rfl rfl rfl (q_move rfl rfl) (by exact hS) ?_
              refine wh_q 1 rfl (by kernel_rfl) rfl rfl rfl (q_move rfl rfl) (by exact hS) ?_
              refine wh_q 2 rfl (by kernel_rfl) rfl rfl rfl (q_move rfl rfl) (by exact hS) ?_
              refine wh_q 3 rfl (by kernel_rfl) rfl rfl rfl (q_move rfl rfl) (by exact hS) ?_
              refine wh_q 4 rfl (by kernel_rfl) rfl rfl rfl (q_bin rfl rfl rfl (fun _ _ => rfl)) (by exact hS) ?_
              refine wh_q 5 rfl (by kernel_rfl) rfl rfl rfl (q_move rfl rfl) (by exact hS) ?_
              refine wh_q 6 rfl (by kernel_rfl) rfl rfl rfl (q_move rfl rfl) (by exact hS) ?_
              refine wh_q 7 rfl (by kernel_rfl) rfl rfl rfl (q_bin rfl rfl rfl (fun _ _ => rfl)) (by exact hS) ?_
              refine wh_q 8 rfl (by kernel_rfl) rfl rfl rfl (q_indexAddr rfl rfl rfl Go.Proofs.Tryd.underlying49 sz_9 c17 c18 c19) (by exact hS) ?_
              refine wh_q 9 rfl (by kernel_rfl) rfl rfl rfl (q_load rfl rfl Go.Proofs.Tryd.underlying9 rfl (by exact fun _ s => s.1)) (by exact hS) ?_
              refine wh_q 10 rfl (by kernel_rfl) rfl rfl rfl (q_move rfl rfl) (by exact hS) ?_
              refine wh_q 11 rfl (by kernel_rfl) rfl rfl rfl (q_move rfl rfl) (by exact hS) ?_
              refine wh_q 12 rfl (by kernel_rfl) rfl rfl rfl (q_indexAddr rfl rfl rfl Go.Proofs.Tryd.underlying49 sz_9 c17 c22 c23) (by exact hS) ?_
              refine wh_q 13 rfl (by kernel_rfl) rfl rfl rfl (q_load rfl rfl Go.Proofs.Tryd.underlying9 rfl (by exact fun _ s => s.2.1)) (by exact hS) ?_
              refine wh_q 14 rfl (by kernel_rfl) rfl rfl rfl (q_indexAddr rfl rfl rfl Go.Proofs.Tryd.underlying49 sz_9 c17 c26 c27) (by exact hS) ?_
              obtain ⟨u29, c30, c31, hD⟩ := hD
              refine wh_e0 15 rfl (by kernel_rfl) rfl rfl (e_store rfl rfl rfl sz_9 trivial c30 c31 ?_)
              intro hz28 e32
              have hD := hD hz28 e32
              obtain ⟨hk0, hk1, hD⟩ := hD
              refine ⟨⟨hk0, hk1, trivial⟩, ?_⟩
              have hS : cellH hz28 (a16.add ((IntKind.i64.wrap (x8 - 1)).toNat * 1)) = some (Value.string x20) ∧ cellH hz28 (a16.add (x8.toNat * 1)) = some (Value.string x24) ∧ True := ⟨hk0, hk1, trivial⟩
              obtain ⟨c33, c34, hD⟩ := hD
              refine wh_q 16 rfl (by kernel_rfl) rfl rfl rfl (q_indexAddr rfl rfl rfl Go.Proofs.Tryd.underlying49 sz_9 c17 c33 c34) (by exact hS) ?_
              obtain ⟨u36, c37, c38, hD⟩ := hD
              refine wh_last 17 rfl (by kernel_rfl) rfl rfl rfl (e_store rfl rfl rfl sz_9 trivial c37 c38 ?_)
              intro hz35 e39
              have hD := hD hz35 e39
              refine wh_keep (l' := [(0, Sl.v d_0), (1, Value.int .i64 t_1), (2, Value.int .i64 p_2), (7, Value.int .i64 x8), (8, Value.int .i64 x2)]) (keep_cons rfl (keep_cons rfl (keep_cons rfl (keep_cons rfl (keep_cons rfl keep_nil))))) (wh_done (by kernel_rfl) ?_)
              refine cw_cut (fun l h => Keep l [(0, Sl.v d_0), (1, Value.int .i64 t_1), (2, Value.int .i64 p_2), (7, Value.int .i64 x8), (8, Value.int .i64 x2)] ∧ D_slices_partialInsertionSortOrdered_string_j3 d_0 p_2 x2 C4 x8 a16 h) ?_ ?_
              · refine cw_seq ?_
                refine cw_region ?_
                refine wl_q rfl rfl rfl (q_move rfl rfl) ?_
                refine wl_q rfl rfl rfl (q_move rfl rfl) ?_
                refine wl_q rfl rfl rfl (q_bin rfl rfl rfl (fun _ _ => rfl)) ?_
                refine wl_q rfl rfl rfl (q_bin rfl rfl rfl (fun _ _ => rfl)) ?_
                refine wl_keep (l' := [(0, Sl.v d_0), (1, Value.int .i64 t_1), (2, Value.int .i64 p_2), (7, Value.int .i64 x8), (8, Value.int .i64 x2), (61, Value.bool (decide ((IntKind.i64.wrap (x8 - t_1)) ≥ (2 : Int))))]) (keep_cons rfl (keep_cons rfl (keep_cons rfl (keep_cons rfl (keep_cons rfl (keep_cons rfl keep_nil)))))) (wl_nil ?_)
                refine cw_cond rfl (fun hb81 => ?_) (fun hb81 => ?_)
                · have hD := ifT hb81 hD
                  refine cw_seq ?_
                  refine cw_region ?_
                  refine wl_q rfl rfl rfl (q_move rfl rfl) ?_
                  refine wl_q rfl rfl rfl (q_bin rfl rfl rfl (fun _ _ => rfl)) ?_
                  refine wl_q rfl rfl rfl (q_assign rfl rfl) ?_
                  refine wl_keep (l' := [(0, Sl.v d_0), (1, Value.int .i64 t_1), (2, Value.int .i64 p_2), (7, Value.int .i64 x8), (8, Value.int .i64 x2), (9, Value.int .i64 (IntKind.i64.wrap (x8 - 1)))]) (keep_cons rfl (keep_cons rfl (keep_cons rfl (keep_cons rfl (keep_cons rfl (keep_cons rfl keep_nil)))))) (wl_nil ?_)
                  refine cw_block ?_
                  obtain ⟨I, μ, hI119, hL120⟩ := hD
                  refine cw_loops (σ := Int) (fun s => [(0, Sl.v d_0), (1, Value.int .i64 t_1), (2, Value.int .i64 p_2), (7, Value.int .i64 x8), (8, Value.int .i64 x2), (9, Value.int .i64 s)]) (IntKind.i64.wrap (x8 - 1)) (fun s h => I s h) (fun s h => μ s h) (keep_cons rfl (keep_cons rfl (keep_cons rfl (keep_cons rfl (keep_cons rfl (keep_cons rfl keep_nil)))))) hI119 ?_
                  rintro x82 hz83 hI
                  have hD := hL120 x82 hz83 hI
                  obtain ⟨C84, hC84⟩ : ∃ c : Int → Hp → Prop, c = (fun x82' h' => I x82' h' ∧ μ x82' h' < μ x82 hz83) := ⟨_, rfl⟩
                  rw [← hC84] at hD
                  unfold D_slices_partialInsertionSortOrdered_string_l4 at hD
                  show cw _ _ _ [(0, Sl.v d_0), (1, Value.int .i64 t_1), (2, Value.int .i64 p_2), (7, Value.int .i64 x8), (8, Value.int .i64 x2), (9, Value.int .i64 x82)] _ _ _ _
                  refine cw_seq ?_
                  refine cw_seq ?_
                  refine cw_region ?_
                  refine wl_q rfl rfl rfl (q_move rfl rfl) ?_
                  refine wl_q rfl rfl rfl (q_bin rfl rfl rfl (fun _ _ => rfl)) ?_
                  refine wl_keep (l' := [(0, Sl.v d_0), (1, Value.int .i64 t_1), (2, Value.int .i64 p_2), (7, Value.int .i64 x8), (8, Value.int .i64 x2), (9, Value.int .i64 x82), (65, Value.bool (decide (x82 ≥ (1 : Int))))]) (keep_cons rfl (keep_cons rfl (keep_cons rfl (keep_cons rfl (keep_cons rfl (keep_cons rfl (keep_cons rfl keep_nil))))))) (wl_nil ?_)
                  refine cw_cond rfl (fun hb85 => ?_) (fun hb85 => ?_)
                  · have hD := ifT hb85 hD
                    refine cw_skip ?_
                    refine cw_seq ?_
                    refine cw_block ?_
                    refine cw_seq ?_
                    refine cw_seq ?_
                    obtain ⟨c86, c87, hD⟩ := hD
                    obtain ⟨x88, c89, hD⟩ := hD
                    obtain ⟨c90, c91, hD⟩ := hD
                    obtain ⟨x92, c93, hD⟩ := hD
                    refine cw_draw (fun h => cellH h (a16.add (x82.toNat * 1)) = some (Value.string x88) ∧ cellH h (a16.add ((IntKind.i64.wrap (x82 - 1)).toNat * 1)) = some (Value.string x92) ∧ True) 11 wide ?_
                    have hS : cellH hz83 (a16.add (x82.toNat * 1)) = some (Value.string x88) ∧ cellH hz83 (a16.add ((IntKind.i64.wrap (x82 - 1)).toNat * 1)) = some (Value.string x92) ∧ True := ⟨c89, c93, trivial⟩
                    refine wh_q 0 rfl (by kernel_rfl) rfl rfl rfl (q_move rfl rfl) (by exact hS) ?_
                    refine wh_q 1 rfl (by kernel_rfl) rfl rfl rfl (q_move rfl rfl) (by exact hS) ?_
                    refine wh_q 2 rfl (by kernel_rfl) rfl rfl rfl (q_indexAddr rfl rfl rfl Go.Proofs.Tryd.underlying49 sz_9 c17 c86 c87) (by exact hS) ?_
                    refine wh_q 3 rfl (by kernel_rfl) rfl rfl rfl (q_load rfl rfl Go.Proofs.Tryd.underlying9 rfl (by exact fun _ s => s.1)) (by exact hS) ?_
                    refine wh_q 4 rfl (by kernel_rfl) rfl rfl rfl (q_move rfl rfl) (by exact hS) ?_
                    refine wh_q 5 rfl (by kernel_rfl) rfl rfl rfl (q_move rfl rfl) (by exact hS) ?_
                    refine wh_q 6 rfl (by kernel_rfl) rfl rfl rfl (q_bin rfl rfl rfl (fun _ _ => rfl)) (by exact hS) ?_
                    refine wh_q 7 rfl (by kernel_rfl) rfl rfl rfl (q_indexAddr rfl rfl rfl Go.Proofs.Tryd.underlying49 sz_9 c17 c90 c91) (by exact hS) ?_
                    refine wh_q 8 rfl (by kernel_rfl) rfl rfl rfl (q_load rfl rfl Go.Proofs.Tryd.underlying9 rfl (by exact fun _ s => s.2.1)) (by exact hS) ?_
                    refine wh_e 9 rfl (by kernel_rfl) rfl rfl rfl (e_call (first := []) (vs := [Value.string x88, Value.string x92]) (cap := []) rfl rfl rfl cf_75 (CallsH.mono hD ?_))
                    rintro _ hz94 ⟨r95, rfl, hD⟩
                    obtain ⟨hk0, hk1, hD⟩ := hD
                    refine ⟨⟨hk0, hk1, trivial⟩, ?_⟩
                    have hS : cellH hz94 (a16.add (x82.toNat * 1)) = some (Value.string x88) ∧ cellH hz94 (a16.add ((IntKind.i64.wrap (x82 - 1)).toNat * 1)) = some (Value.string x92) ∧ True := ⟨hk0, hk1, trivial⟩
                    refine wh_q 10 rfl (by kernel_rfl) rfl rfl rfl (q_un rfl rfl (fun _ => rfl)) (by exact hS) ?_
                    refine wh_keep (l' := [(0, Sl.v d_0), (1, Value.int .i64 t_1), (2, Value.int .i64 p_2), (7, Value.int .i64 x8), (8, Value.int .i64 x2), (9, Value.int .i64 x82), (78, Value.bool (!r95))]) (keep_cons rfl (keep_cons rfl (keep_cons rfl (keep_cons rfl (keep_cons rfl (keep_cons rfl (keep_cons rfl keep_nil))))))) (wh_done (by kernel_rfl) ?_)
                    refine cw_cond rfl (fun hb96 => ?_) (fun hb96 => ?_)
                    · have hD := ifT hb96 hD
                      refine cw_exit ?_
                      refine xput_other rfl ?_
                      refine xput_same ?_
                      exact ⟨(keep_cons rfl (keep_cons rfl (keep_cons rfl (keep_cons rfl (keep_cons rfl keep_nil))))), hD⟩
                    · have hD := ifF hb96 hD
                      refine cw_skip ?_
                      obtain ⟨c97, c98, hD⟩ := hD
                      obtain ⟨x99, c100, hD⟩ := hD
                      obtain ⟨c101, c102, hD⟩ := hD
                      obtain ⟨x103, c104, hD⟩ := hD
                      obtain ⟨c105, c106, hD⟩ := hD
                      refine cw_draw (fun h => cellH h (a16.add ((IntKind.i64.wrap (x82 - 1)).toNat * 1)) = some (Value.string x99) ∧ cellH h (a16.add (x82.toNat * 1)) = some (Value.string x103) ∧ True) 17 wide ?_
                      have hS : cellH hz94 (a16.add ((IntKind.i64.wrap (x82 - 1)).toNat * 1)) = some (Value.string x99) ∧ cellH hz94 (a16.add (x82.toNat * 1)) = some (Value.string x103) ∧ True := ⟨c100, c104, trivial⟩
                      refine wh_q 0 rfl (by kernel_rfl) rfl rfl rfl (q_move rfl rfl) (by exact hS) ?_
                      refine wh_q 1 rfl (by kernel_rfl) rfl rfl rfl (q_move rfl rfl) (by exact hS) ?_
                      refine wh_q 2 rfl (by kernel_rfl) rfl rfl rfl (q_move rfl rfl) (by exact hS) ?_
                      refine wh_q 3 rfl (by kernel_rfl) rfl rfl rfl (q_move rfl rfl) (by exact hS) ?_
                      refine wh_q 4 rfl (by kernel_rfl) rfl rfl rfl (q_bin rfl rfl rfl (fun _ _ => rfl)) (by exact hS) ?_
                      refine wh_q 5 rfl (by kernel_rfl) rfl rfl rfl (q_move rfl rfl) (by exact hS) ?_
                      refine wh_q 6 rfl (by kernel_rfl) rfl rfl rfl (q_move rfl rfl) (by exact hS) ?_
                      refine wh_q 7 rfl (by kernel_rfl) rfl rfl rfl (q_bin rfl rfl rfl (fun _ _ => rfl)) (by exact hS) ?_
                      refine wh_q 8 rfl (by kernel_rfl) rfl rfl rfl (q_indexAddr rfl rfl rfl Go.Proofs.Tryd.underlying49 sz_9 c17 c97 c98) (by exact hS) ?_
                      refine wh_q 9 rfl (by kernel_rfl) rfl rfl rfl (q_load rfl rfl Go.Proofs.Tryd.underlying9 rfl (by exact fun _ s => s.1)) (by exact hS) ?_
                      refine wh_q 10 rfl (by kernel_rfl) rfl rfl rfl (q_move rfl rfl) (by exact hS) ?_
                      refine wh_q 11 rfl (by kernel_rfl) rfl rfl rfl (q_move rfl rfl) (by exact hS) ?_
                      refine wh_q 12 rfl (by kernel_rfl) rfl rfl rfl (q_indexAddr rfl rfl rfl Go.Proofs.Tryd.underlying49 sz_9 c17 c101 c102) (by exact hS) ?_
                      refine wh_q 13 rfl (by kernel_rfl) rfl rfl rfl (q_load rfl rfl Go.Proofs.Tryd.underlying9 rfl (by exact fun _ s => s.2.1)) (by exact hS) ?_
                      refine wh_q 14 rfl (by kernel_rfl) rfl rfl rfl (q_indexAddr rfl rfl rfl Go.Proofs.Tryd.underlying49 sz_9 c17 c105 c106) (by exact hS) ?_
                      obtain ⟨u108, c109, c110, hD⟩ := hD
                      refine wh_e0 15 rfl (by kernel_rfl) rfl rfl (e_store rfl rfl rfl sz_9 trivial c109 c110 ?_)
                      intro hz107 e111
                      have hD := hD hz107 e111
                      obtain ⟨hk0, hk1, hD⟩ := hD
                      refine ⟨⟨hk0, hk1, trivial⟩, ?_⟩
                      have hS : cellH hz107 (a16.add ((IntKind.i64.wrap (x82 - 1)).toNat * 1)) = some (Value.string x99) ∧ cellH hz107 (a16.add (x82.toNat * 1)) = some (Value.string x103) ∧ True := ⟨hk0, hk1, trivial⟩
                      obtain ⟨c112, c113, hD⟩ := hD
                      refine wh_q 16 rfl (by kernel_rfl) rfl rfl rfl (q_indexAddr rfl rfl rfl Go.Proofs.Tryd.underlying49 sz_9 c17 c112 c113) (by exact hS) ?_
                      obtain ⟨u115, c116, c117, hD⟩ := hD
                      refine wh_last 17 rfl (by kernel_rfl) rfl rfl rfl (e_store rfl rfl rfl sz_9 trivial c116 c117 ?_)
                      intro hz114 e118
                      have hD := hD hz114 e118
                      refine wh_keep (l' := [(0, Sl.v d_0), (1, Value.int .i64 t_1), (2, Value.int .i64 p_2), (7, Value.int .i64 x8), (8, Value.int .i64 x2), (9, Value.int .i64 x82)]) (keep_cons rfl (keep_cons rfl (keep_cons rfl (keep_cons rfl (keep_cons rfl (keep_cons rfl keep_nil)))))) (wh_done (by kernel_rfl) ?_)
                      refine cw_region ?_
                      refine wl_q rfl rfl rfl (q_move rfl rfl) ?_
                      refine wl_q rfl rfl rfl (q_bin rfl rfl rfl (fun _ _ => rfl)) ?_
                      refine wl_q rfl rfl rfl (q_assign rfl rfl) ?_
                      refine wl_keep (l' := [(0, Sl.v d_0), (1, Value.int .i64 t_1), (2, Value.int .i64 p_2), (7, Value.int .i64 x8), (8, Value.int .i64 x2), (9, Value.int .i64 (IntKind.i64.wrap (x82 - 1)))]) (keep_cons rfl (keep_cons rfl (keep_cons rfl (keep_cons rfl (keep_cons rfl (keep_cons rfl keep_nil)))))) (wl_nil ?_)
                      rw [hC84] at hD
                      exact ⟨(IntKind.i64.wrap (x82 - 1)), (keep_cons rfl (keep_cons rfl (keep_cons rfl (keep_cons rfl (keep_cons rfl (keep_cons rfl keep_nil)))))), hD⟩
                  · have hD := ifF hb85 hD
                    refine cw_exit ?_
                    refine xput_same ?_
                    exact ⟨(keep_cons rfl (keep_cons rfl (keep_cons rfl (keep_cons rfl (keep_cons rfl keep_nil))))), hD⟩
                · have hD := ifF hb81 hD
                  refine cw_skip ?_
                  exact ⟨(keep_cons rfl (keep_cons rfl (keep_cons rfl (keep_cons rfl (keep_cons rfl keep_nil))))), hD⟩
              · rintro l122 hz40 ⟨hk121, hD⟩
                refine cw_keep hk121 ?_
                unfold D_slices_partialInsertionSortOrdered_string_j3 at hD
                refine cw_seq ?_
                refine cw_region ?_
                refine wl_q rfl rfl rfl (q_move rfl rfl) ?_
                refine wl_q rfl rfl rfl (q_move rfl rfl) ?_
                refine wl_q rfl rfl rfl (q_bin rfl rfl rfl (fun _ _ => rfl)) ?_
                refine wl_q rfl rfl rfl (q_bin rfl rfl rfl (fun _ _ => rfl)) ?_
                refine wl_keep (l' := [(0, Sl.v d_0), (1, Value.int .i64 t_1), (2, Value.int .i64 p_2), (7, Value.int .i64 x8), (8, Value.int .i64 x2), (98, Value.bool (decide ((IntKind.i64.wrap (p_2 - x8)) ≥ (2 : Int))))]) (keep_cons rfl (keep_cons rfl (keep_cons rfl (keep_cons rfl (keep_cons rfl (keep_cons rfl keep_nil)))))) (wl_nil ?_)
                refine cw_cond rfl (fun hb41 => ?_) (fun hb41 => ?_)
                · have hD := ifT hb41 hD
                  refine cw_seq ?_
                  refine cw_region ?_
                  refine wl_q rfl rfl rfl (q_move rfl rfl) ?_
                  refine wl_q rfl rfl rfl (q_bin rfl rfl rfl (fun _ _ => rfl)) ?_
                  refine wl_q rfl rfl rfl (q_assign rfl rfl) ?_
                  refine wl_keep (l' := [(0, Sl.v d_0), (1, Value.int .i64 t_1), (2, Value.int .i64 p_2), (7, Value.int .i64 x8), (8, Value.int .i64 x2), (10, Value.int .i64 (IntKind.i64.wrap (x8 + 1)))]) (keep_cons rfl (keep_cons rfl (keep_cons rfl (keep_cons rfl (keep_cons rfl (keep_cons rfl keep_nil)))))) (wl_nil ?_)
                  refine cw_block ?_
                  obtain ⟨I, μ, hI79, hL80⟩ := hD
                  refine cw_loops (σ := Int) (fun s => [(0, Sl.v d_0), (1, Value.int .i64 t_1), (2, Value.int .i64 p_2), (7, Value.int .i64 x8), (8, Value.int .i64 x2), (10, Value.int .i64 s)]) (IntKind.i64.wrap (x8 + 1)) (fun s h => I s h) (fun s h => μ s h) (keep_cons rfl (keep_cons rfl (keep_cons rfl (keep_cons rfl (keep_cons rfl (keep_cons rfl keep_nil)))))) hI79 ?_
                  rintro x42 hz43 hI
                  have hD := hL80 x42 hz43 hI
                  obtain ⟨C44, hC44⟩ : ∃ c : Int → Hp → Prop, c = (fun x42' h' => I x42' h' ∧ μ x42' h' < μ x42 hz43) := ⟨_, rfl⟩
                  rw [← hC44] at hD
                  unfold D_slices_partialInsertionSortOrdered_string_l2 at hD
                  show cw _ _ _ [(0, Sl.v d_0), (1, Value.int .i64 t_1), (2, Value.int .i64 p_2), (7, Value.int .i64 x8), (8, Value.int .i64 x2), (10, Value.int .i64 x42)] _ _ _ _
                  refine cw_seq ?_
                  refine cw_seq ?_
                  refine cw_region ?_
                  refine wl_q rfl rfl rfl (q_move rfl rfl) ?_
                  refine wl_q rfl rfl rfl (q_move rfl rfl) ?_
                  refine wl_q rfl rfl rfl (q_bin rfl rfl rfl (fun _ _ => rfl)) ?_
                  refine wl_keep (l' := [(0, Sl.v d_0), (1, Value.int .i64 t_1), (2, Value.int .i64 p_2), (7, Value.int .i64 x8), (8, Value.int .i64 x2), (10, Value.int .i64 x42), (103, Value.bool (decide (x42 < p_2)))]) (keep_cons rfl (keep_cons rfl (keep_cons rfl (keep_cons rfl (keep_cons rfl (keep_cons rfl (keep_cons rfl keep_nil))))))) (wl_nil ?_)
                  refine cw_cond rfl (fun hb45 => ?_) (fun hb45 => ?_)
                  · have hD := ifT hb45 hD
                    refine cw_skip ?_
                    refine cw_seq ?_
                    refine cw_block ?_
                    refine cw_seq ?_
                    refine cw_seq ?_
                    obtain ⟨c46, c47, hD⟩ := hD
                    obtain ⟨x48, c49, hD⟩ := hD
                    obtain ⟨c50, c51, hD⟩ := hD
                    obtain ⟨x52, c53, hD⟩ := hD
                    refine cw_draw (fun h => cellH h (a16.add (x42.toNat * 1)) = some (Value.string x48) ∧ cellH h (a16.add ((IntKind.i64.wrap (x42 - 1)).toNat * 1)) = some (Value.string x52) ∧ True) 11 wide ?_
                    have hS : cellH hz43 (a16.add (x42.toNat * 1)) = some (Value.string x48) ∧ cellH hz43 (a16.add ((IntKind.i64.wrap (x42 - 1)).toNat * 1)) = some (Value.string x52) ∧ True := ⟨c49, c53, trivial⟩
                    refine wh_q 0 rfl (by kernel_rfl) rfl rfl rfl (q_move rfl rfl) (by exact hS) ?_
                    refine wh_q 1 rfl (by kernel_rfl) rfl rfl rfl (q_move rfl rfl) (by exact hS) ?_
                    refine wh_q 2 rfl (by kernel_rfl) rfl rfl rfl (q_indexAddr rfl rfl rfl Go.Proofs.Tryd.underlying49 sz_9 c17 c46 c47) (by exact hS) ?_
                    refine wh_q 3 rfl (by kernel_rfl) rfl rfl rfl (q_load rfl rfl Go.Proofs.Tryd.underlying9 rfl (by exact fun _ s => s.1)) (by exact hS) ?_
                    refine wh_q 4 rfl (by kernel_rfl) rfl rfl rfl (q_move rfl rfl) (by exact hS) ?_
                    refine wh_q 5 rfl (by kernel_rfl) rfl rfl rfl (q_move rfl rfl) (by exact hS) ?_
                    refine wh_q 6 rfl (by kernel_rfl) rfl rfl rfl (q_bin rfl rfl rfl (fun _ _ => rfl)) (by exact hS) ?_
                    refine wh_q 7 rfl (by kernel_rfl) rfl rfl rfl (q_indexAddr rfl rfl rfl Go.Proofs.Tryd.underlying49 sz_9 c17 c50 c51) (by exact hS) ?_
                    refine wh_q 8 rfl (by kernel_rfl) rfl rfl rfl (q_load rfl rfl Go.Proofs.Tryd.underlying9 rfl (by exact fun _ s => s.2.1)) (by exact hS) ?_
                    refine wh_e 9 rfl (by kernel_rfl) rfl rfl rfl (e_call (first := []) (vs := [Value.string x48, Value.string x52]) (cap := []) rfl rfl rfl cf_75 (CallsH.mono hD ?_))
                    rintro _ hz54 ⟨r55, rfl, hD⟩
                    obtain ⟨hk0, hk1, hD⟩ := hD
                    refine ⟨⟨hk0, hk1, trivial⟩, ?_⟩
                    have hS : cellH hz54 (a16.add (x42.toNat * 1)) = some (Value.string x48) ∧ cellH hz54 (a16.add ((IntKind.i64.wrap (x42 - 1)).toNat * 1)) = some (Value.string x52) ∧ True := ⟨hk0, hk1, trivial⟩
                    refine wh_q 10 rfl (by kernel_rfl) rfl rfl rfl (q_un rfl rfl (fun _ => rfl)) (by exact hS) ?_
                    refine wh_keep (l' := [(0, Sl.v d_0), (1, Value.int .i64 t_1), (2, Value.int .i64 p_2), (7, Value.int .i64 x8), (8, Value.int .i64 x2), (10, Value.int .i64 x42), (116, Value.bool (!r55))]) (keep_cons rfl (keep_cons rfl (keep_cons rfl (keep_cons rfl (keep_cons rfl (keep_cons rfl (keep_cons rfl keep_nil))))))) (wh_done (by kernel_rfl) ?_)
                    refine cw_cond rfl (fun hb56 => ?_) (fun hb56 => ?_)
                    · have hD := ifT hb56 hD
                      refine cw_exit ?_
                      refine xput_other rfl ?_
                      refine xput_same ?_
                      exact ⟨_, (keep_cons rfl (keep_cons rfl (keep_cons rfl (keep_cons rfl (keep_cons rfl keep_nil))))), hD⟩
                    · have hD := ifF hb56 hD
                      refine cw_skip ?_
                      obtain ⟨c57, c58, hD⟩ := hD
                      obtain ⟨x59, c60, hD⟩ := hD
                      obtain ⟨c61, c62, hD⟩ := hD
                      obtain ⟨x63, c64, hD⟩ := hD
                      obtain ⟨c65, c66, hD⟩ := hD
                      refine cw_draw (fun h => cellH h (a16.add ((IntKind.i64.wrap (x42 - 1)).toNat * 1)) = some (Value.string x59) ∧ cellH h (a16.add (x42.toNat * 1)) = some (Value.string x63) ∧ True) 17 wide ?_
                      have hS : cellH hz54 (a16.add ((IntKind.i64.wrap (x42 - 1)).toNat * 1)) = some (Value.string x59) ∧ cellH hz54 (a16.add (x42.toNat * 1)) = some (Value.string x63) ∧ True := ⟨c60, c64, trivial⟩
                      refine wh_q 0 rfl (by kernel_rfl) rfl rfl rfl (q_move rfl rfl) (by exact hS) ?_
                      refine wh_q 1 rfl (by kernel_rfl) rfl rfl rfl (q_move rfl rfl) (by exact hS) ?_
                      refine wh_q 2 rfl (by kernel_rfl) rfl rfl rfl (q_move rfl rfl) (by exact hS) ?_
                      refine wh_q 3 rfl (by kernel_rfl) rfl rfl rfl (q_move rfl rfl) (by exact hS) ?_
                      refine wh_q 4 rfl (by kernel_rfl) rfl rfl rfl (q_bin rfl rfl rfl (fun _ _ => rfl)) (by exact hS) ?_
                      refine wh_q 5 rfl (by kernel_rfl) rfl rfl rfl (q_move rfl rfl) (by exact hS) ?_
                      refine wh_q 6 rfl (by kernel_rfl) rfl rfl rfl (q_move rfl rfl) (by exact hS) ?_
                      refine wh_q 7 rfl (by kernel_rfl) rfl rfl rfl (q_bin rfl rfl rfl (fun _ _ => rfl)) (by exact hS) ?_
                      refine wh_q 8 rfl (by kernel_rfl) rfl rfl rfl (q_indexAddr rfl rfl rfl Go.Proofs.Tryd.underlying49 sz_9 c17 c57 c58) (by exact hS) ?_
                      refine wh_q 9 rfl (by kernel_rfl) rfl rfl rfl (q_load rfl rfl Go.Proofs.Tryd.underlying9 rfl (by exact fun _ s => s.1)) (by exact hS) ?_
                      refine wh_q 10 rfl (by kernel_rfl) rfl rfl rfl (q_move rfl rfl) (by exact hS) ?_
                      refine wh_q 11 rfl (by kernel_rfl) rfl rfl rfl (q_move rfl rfl) (by exact hS) ?_
                      refine wh_q 12 rfl (by kernel_rfl) rfl rfl rfl (q_indexAddr rfl rfl rfl Go.Proofs.Tryd.underlying49 sz_9 c17 c61 c62) (by exact hS) ?_
                      refine wh_q 13 rfl (by kernel_rfl) rfl rfl rfl (q_load rfl rfl Go.Proofs.Tryd.underlying9 rfl (by exact fun _ s => s.2.1)) (by exact hS) ?_
                      refine wh_q 14 rfl (by kernel_rfl) rfl rfl rfl (q_indexAddr rfl rfl rfl Go.Proofs.Tryd.underlying49 sz_9 c17 c65 c66) (by exact hS) ?_
                      obtain ⟨u68, c69, c70, hD⟩ := hD
                      refine wh_e0 15 rfl (by kernel_rfl) rfl rfl (e_store rfl rfl rfl sz_9 trivial c69 c70 ?_)
                      intro hz67 e71
                      have hD := hD hz67 e71
                      obtain ⟨hk0, hk1, hD⟩ := hD
                      refine ⟨⟨hk0, hk1, trivial⟩, ?_⟩
                      have hS : cellH hz67 (a16.add ((IntKind.i64.wrap (x42 - 1)).toNat * 1)) = some (Value.string x59) ∧ cellH hz67 (a16.add (x42.toNat * 1)) = some (Value.string x63) ∧ True := ⟨hk0, hk1, trivial⟩
                      obtain ⟨c72, c73, hD⟩ := hD
                      refine wh_q 16 rfl (by kernel_rfl) rfl rfl rfl (q_indexAddr rfl rfl rfl Go.Proofs.Tryd.underlying49 sz_9 c17 c72 c73) (by exact hS) ?_
                      obtain ⟨u75, c76, c77, hD⟩ := hD
                      refine wh_last 17 rfl (by kernel_rfl) rfl rfl rfl (e_store rfl rfl rfl sz_9 trivial c76 c77 ?_)
                      intro hz74 e78
                      have hD := hD hz74 e78
                      refine wh_keep (l' := [(0, Sl.v d_0), (1, Value.int .i64 t_1), (2, Value.int .i64 p_2), (7, Value.int .i64 x8), (8, Value.int .i64 x2), (10, Value.int .i64 x42)]) (keep_cons rfl (keep_cons rfl (keep_cons rfl (keep_cons rfl (keep_cons rfl (keep_cons rfl keep_nil)))))) (wh_done (by kernel_rfl) ?_)
                      refine cw_region ?_
                      refine wl_q rfl rfl rfl (q_move rfl rfl) ?_
                      refine wl_q rfl rfl rfl (q_bin rfl rfl rfl (fun _ _ => rfl)) ?_
                      refine wl_q rfl rfl rfl (q_assign rfl rfl) ?_
                      refine wl_keep (l' := [(0, Sl.v d_0), (1, Value.int .i64 t_1), (2, Value.int .i64 p_2), (7, Value.int .i64 x8), (8, Value.int .i64 x2), (10, Value.int .i64 (IntKind.i64.wrap (x42 + 1)))]) (keep_cons rfl (keep_cons rfl (keep_cons rfl (keep_cons rfl (keep_cons rfl (keep_cons rfl keep_nil)))))) (wl_nil ?_)
                      rw [hC44] at hD
                      exact ⟨(IntKind.i64.wrap (x42 + 1)), (keep_cons rfl (keep_cons rfl (keep_cons rfl (keep_cons rfl (keep_cons rfl (keep_cons rfl keep_nil)))))), hD⟩
                  · have hD := ifF hb45 hD
                    refine cw_exit ?_
                    refine xput_same ?_
                    exact ⟨_, (keep_cons rfl (keep_cons rfl (keep_cons rfl (keep_cons rfl (keep_cons rfl keep_nil))))), hD⟩
                · have hD := ifF hb41 hD
                  refine cw_skip ?_
                  exact ⟨_, (keep_cons rfl (keep_cons rfl (keep_cons rfl (keep_cons rfl (keep_cons rfl keep_nil))))), hD⟩
    · rintro l141 hz7 ⟨x6, hk140, hD⟩
      refine cw_keep hk140 ?_
      unfold D_slices_partialInsertionSortOrdered_string_j1 at hD
      refine cw_region ?_
      refine wl_q rfl rfl rfl (q_move rfl rfl) ?_
      refine wl_q rfl rfl rfl (q_bin rfl rfl rfl (fun _ _ => rfl)) ?_
      refine wl_q rfl rfl rfl (q_assign rfl rfl) ?_
      refine wl_keep (l' := [(0, Sl.v d_0), (1, Value.int .i64 t_1), (2, Value.int .i64 p_2), (7, Value.int .i64 x6), (8, Value.int .i64 (IntKind.i64.wrap (x2 + 1)))]) (keep_cons rfl (keep_cons rfl (keep_cons rfl (keep_cons rfl (keep_cons rfl keep_nil))))) (wl_nil ?_)
      rw [hC4] at hD
      exact ⟨(x6, IntKind.i64.wrap (x2 + 1)), (keep_cons rfl (keep_cons rfl (keep_cons rfl (keep_cons rfl (keep_cons rfl keep_nil))))), hD⟩
  · have hD := ifF hb5 hD
    refine cw_exit ?_
    refine xput_same ?_
    refine cw_seq ?_
    refine cw_region ?_
    refine wl_q rfl rfl rfl (q_assign rfl rfl) ?_
    refine wl_keep (l' := [(6, Value.bool false)]) (keep_cons rfl keep_nil) (wl_nil ?_)
    refine cw_ret ?_
    exact ⟨_, resq1 rfl rfl, _, rfl, hD⟩
end Go.Proofs.YtgdmjdacmebfjaaDoor.D

namespace Go.Proofs.YtgdmjdacmebfjaaDoor.D
open Go
set_option maxRecDepth 100000
theorem S_cmp_Less_string {x_0 : ByteArray} {y_1 : ByteArray} {h0 : Hp} {K : Bool → Hp → Prop} (hD : D_cmp_Less_string x_0 y_1 h0 K) : C_cmp_Less_string x_0 y_1 h0 K := by
  unfold D_cmp_Less_string at hD
  refine calls_cw (args := [Value.string x_0, Value.string y_1]) Go.Proofs.Tryd.func75 rfl ?_
  show cw _ 17 _ [(0, Value.string x_0), (1, Value.string y_1)] _ _ _ _
  refine cw_seq ?_
  refine cw_region ?_
  refine wl_q rfl rfl rfl (q_assign rfl rfl) ?_
  refine wl_keep (l' := [(0, Value.string x_0), (1, Value.string y_1)]) (keep_cons rfl (keep_cons rfl keep_nil)) (wl_nil ?_)
  refine cw_cut (fun l h => ∃ (x1 : Bool), Keep l [(4, Value.bool x1)] ∧ D_cmp_Less_string_j1 K x1 h) ?_ ?_
  · refine cw_region ?_
    refine wl_q rfl rfl rfl (q_move rfl rfl) ?_
    refine wl_e rfl rfl rfl (e_call (first := []) (vs := [Value.string x_0]) (cap := []) rfl rfl rfl cf_89 (CallsH.mono hD ?_))
    rintro _ hz3 ⟨r4, rfl, hD⟩
    refine wl_q rfl rfl rfl (q_move rfl rfl) ?_
    rcases bool_or r4 with hb5 | hb5
    · have hD := ifT hb5 hD
      refine wl_gq rfl rfl rfl hb5 rfl rfl (q_move rfl rfl) ?_
      refine wl_ge rfl rfl rfl hb5 rfl rfl (e_call (first := []) (vs := [Value.string y_1]) (cap := []) rfl rfl rfl cf_89 (CallsH.mono hD ?_))
      rintro _ hz6 ⟨r7, rfl, hD⟩
      refine wl_gq rfl rfl rfl hb5 rfl rfl (q_un rfl rfl (fun _ => rfl)) ?_
      refine wl_q rfl rfl rfl (q_pickT rfl rfl hb5 rfl) ?_
      refine wl_q rfl rfl rfl (q_move rfl rfl) ?_
      rcases bool_or (!r7) with hb8 | hb8
      · have hD := ifT hb8 hD
        refine wl_gn rfl rfl rfl hb8 rfl rfl ?_
        refine wl_gn rfl rfl rfl hb8 rfl rfl ?_
        refine wl_gn rfl rfl rfl hb8 rfl rfl ?_
        refine wl_q rfl rfl rfl (q_pickT rfl rfl hb8 rfl) ?_
        refine wl_q rfl rfl rfl (q_assign rfl rfl) ?_
        refine wl_keep (l' := [(4, Value.bool true)]) (keep_cons rfl keep_nil) (wl_nil ?_)
        exact ⟨_, (keep_cons rfl keep_nil), hD⟩
      · have hD := ifF hb8 hD
        refine wl_gq rfl rfl rfl hb8 rfl rfl (q_move rfl rfl) ?_
        refine wl_gq rfl rfl rfl hb8 rfl rfl (q_move rfl rfl) ?_
        refine wl_gq rfl rfl rfl hb8 rfl rfl (q_bin rfl rfl rfl (fun _ _ => rfl)) ?_
        refine wl_q rfl rfl rfl (q_pickF rfl rfl hb8 rfl) ?_
        refine wl_q rfl rfl rfl (q_assign rfl rfl) ?_
        refine wl_keep (l' := [(4, Value.bool (Op.bytesLess x_0.toList y_1.toList))]) (keep_cons rfl keep_nil) (wl_nil ?_)
        exact ⟨_, (keep_cons rfl keep_nil), hD⟩
    · have hD := ifF hb5 hD
      refine wl_gn rfl rfl rfl hb5 rfl rfl ?_
      refine wl_gn rfl rfl rfl hb5 rfl rfl ?_
      refine wl_gn rfl rfl rfl hb5 rfl rfl ?_
      refine wl_q rfl rfl rfl (q_pickF rfl rfl hb5 rfl) ?_
      refine wl_q rfl rfl rfl (q_move rfl rfl) ?_
      refine wl_gq rfl rfl rfl rfl rfl rfl (q_move rfl rfl) ?_
      refine wl_gq rfl rfl rfl rfl rfl rfl (q_move rfl rfl) ?_
      refine wl_gq rfl rfl rfl rfl rfl rfl (q_bin rfl rfl rfl (fun _ _ => rfl)) ?_
      refine wl_q rfl rfl rfl (q_pickF rfl rfl rfl rfl) ?_
      refine wl_q rfl rfl rfl (q_assign rfl rfl) ?_
      refine wl_keep (l' := [(4, Value.bool (Op.bytesLess x_0.toList y_1.toList))]) (keep_cons rfl keep_nil) (wl_nil ?_)
      exact ⟨_, (keep_cons rfl keep_nil), hD⟩
  · rintro l10 hz2 ⟨x1, hk9, hD⟩
    refine cw_keep hk9 ?_
    unfold D_cmp_Less_string_j1 at hD
    refine cw_ret ?_
    exact ⟨_, resq1 rfl rfl, _, rfl, hD⟩
end Go.Proofs.YtgdmjdacmebfjaaDoor.D

namespace Go.Proofs.YtgdmjdacmebfjaaDoor.D
open Go
set_option maxRecDepth 100000
theorem S_slices_partitionEqualOrdered_string {d_0 : Sl} {t_1 : Int} {p_2 : Int} {p_3 : Int} {h0 : Hp} {K : Int → Hp → Prop} (hD : D_slices_partitionEqualOrdered_string d_0 t_1 p_2 p_3 h0 K) : C_slices_partitionEqualOrdered_string d_0 t_1 p_2 p_3 h0 K := by
  unfold D_slices_partitionEqualOrdered_string at hD
  refine calls_cw (args := [Sl.v d_0, Value.int .i64 t_1, Value.int .i64 p_2, Value.int .i64 p_3]) Go.Proofs.Tryd.func76 rfl ?_
  show cw _ 84 _ [(0, Sl.v d_0), (1, Value.int .i64 t_1), (2, Value.int .i64 p_2), (3, Value.int .i64 p_3)] _ _ _ _
  refine cw_seq ?_
  refine cw_region ?_
  refine wl_q rfl rfl rfl (q_assign rfl rfl) ?_
  refine wl_keep (l' := [(0, Sl.v d_0), (1, Value.int .i64 t_1), (2, Value.int .i64 p_2), (3, Value.int .i64 p_3)]) (keep_cons rfl (keep_cons rfl (keep_cons rfl (keep_cons rfl keep_nil)))) (wl_nil ?_)
  refine cw_seq ?_
  obtain ⟨a1, c2, c3, c4, hD⟩ := hD
  obtain ⟨x5, c6, hD⟩ := hD
  obtain ⟨c7, c8, hD⟩ := hD
  obtain ⟨x9, c10, hD⟩ := hD
  obtain ⟨c11, c12, hD⟩ := hD
  refine cw_draw (fun h => cellH h (a1.add (p_3.toNat * 1)) = some (Value.string x5) ∧ cellH h (a1.add (t_1.toNat * 1)) = some (Value.string x9) ∧ True) 15 wide ?_
  have hS : cellH h0 (a1.add (p_3.toNat * 1)) = some (Value.string x5) ∧ cellH h0 (a1.add (t_1.toNat * 1)) = some (Value.string x9) ∧ True := ⟨c6, c10, trivial⟩
  refine wh_q 0 rfl (by kernel_rfl) rfl rfl rfl (q_move rfl rfl) (by exact hS) ?_
  refine wh_q 1 rfl (by kernel_rfl) rfl rfl rfl (q_move rfl rfl) (by exact hS) ?_
  refine wh_q 2 rfl (by kernel_rfl) rfl rfl rfl (q_move rfl rfl) (by exact hS) ?_
  refine wh_q 3 rfl (by kernel_rfl) rfl rfl rfl (q_move rfl rfl) (by exact hS) ?_
  refine wh_q 4 rfl (by kernel_rfl) rfl rfl rfl (q_move rfl rfl) (by exact hS) ?_
  refine wh_q 5 rfl (by kernel_rfl) rfl rfl rfl (q_move rfl rfl) (by exact hS) ?_
  refine wh_q 6 rfl (by kernel_rfl) rfl rfl rfl (q_indexAddr rfl rfl rfl Go.Proofs.Tryd.underlying49 sz_9 c2 c3 c4) (by exact hS) ?_
  refine wh_q 7 rfl (by kernel_rfl) rfl rfl rfl (q_load rfl rfl Go.Proofs.Tryd.underlying9 rfl (by exact fun _ s => s.1)) (by exact hS) ?_
  refine wh_q 8 rfl (by kernel_rfl) rfl rfl rfl (q_move rfl rfl) (by exact hS) ?_
  refine wh_q 9 rfl (by kernel_rfl) rfl rfl rfl (q_move rfl rfl) (by exact hS) ?_
  refine wh_q 10 rfl (by kernel_rfl) rfl rfl rfl (q_indexAddr rfl rfl rfl Go.Proofs.Tryd.underlying49 sz_9 c2 c7 c8) (by exact hS) ?_
  refine wh_q 11 rfl (by kernel_rfl) rfl rfl rfl (q_load rfl rfl Go.Proofs.Tryd.underlying9 rfl (by exact fun _ s => s.2.1)) (by exact hS) ?_
  refine wh_q 12 rfl (by kernel_rfl) rfl rfl rfl (q_indexAddr rfl rfl rfl Go.Proofs.Tryd.underlying49 sz_9 c2 c11 c12) (by exact hS) ?_
  obtain ⟨u14, c15, c16, hD⟩ := hD
  refine wh_e0 13 rfl (by kernel_rfl) rfl rfl (e_store rfl rfl rfl sz_9 trivial c15 c16 ?_)
  intro hz13 e17
  have hD := hD hz13 e17
  obtain ⟨hk0, hk1, hD⟩ := hD
  refine ⟨⟨hk0, hk1, trivial⟩, ?_⟩
  have hS : cellH hz13 (a1.add (p_3.toNat * 1)) = some (Value.string x5) ∧ cellH hz13 (a1.add (t_1.toNat * 1)) = some (Value.string x9) ∧ True := ⟨hk0, hk1, trivial⟩
  obtain ⟨c18, c19, hD⟩ := hD
  refine wh_q 14 rfl (by kernel_rfl) rfl rfl rfl (q_indexAddr rfl rfl rfl Go.Proofs.Tryd.underlying49 sz_9 c2 c18 c19) (by exact hS) ?_
  obtain ⟨u21, c22, c23, hD⟩ := hD
  refine wh_last 15 rfl (by kernel_rfl) rfl rfl rfl (e_store rfl rfl rfl sz_9 trivial c22 c23 ?_)
  intro hz20 e24
  have hD := hD hz20 e24
  refine wh_keep (l' := [(0, Sl.v d_0), (1, Value.int .i64 t_1), (2, Value.int .i64 p_2)]) (keep_cons rfl (keep_cons rfl (keep_cons rfl keep_nil))) (wh_done (by kernel_rfl) ?_)
  refine cw_seq ?_
  refine cw_region ?_
  refine wl_q rfl rfl rfl (q_move rfl rfl) ?_
  refine wl_q rfl rfl rfl (q_bin rfl rfl rfl (fun _ _ => rfl)) ?_
  refine wl_q rfl rfl rfl (q_move rfl rfl) ?_
  refine wl_q rfl rfl rfl (q_bin rfl rfl rfl (fun _ _ => rfl)) ?_
  refine wl_q rfl rfl rfl (q_assign rfl rfl) ?_
  refine wl_q rfl rfl rfl (q_assign rfl rfl) ?_
  refine wl_keep (l' := [(0, Sl.v d_0), (1, Value.int .i64 t_1), (9, Value.int .i64 (IntKind.i64.wrap (t_1 + 1))), (10, Value.int .i64 (IntKind.i64.wrap (p_2 - 1)))]) (keep_cons rfl (keep_cons rfl (keep_cons rfl (keep_cons rfl keep_nil)))) (wl_nil ?_)
  refine cw_seq ?_
  refine cw_block ?_
  obtain ⟨I, μ, hI94, hL95⟩ := hD
  refine cw_loops (σ := Int × Int) (fun s => [(0, Sl.v d_0), (1, Value.int .i64 t_1), (9, Value.int .i64 s.1), (10, Value.int .i64 s.2)]) (IntKind.i64.wrap (t_1 + 1), IntKind.i64.wrap (p_2 - 1)) (fun s h => I s.1 s.2 h) (fun s h => μ s.1 s.2 h) (keep_cons rfl (keep_cons rfl (keep_cons rfl (keep_cons rfl keep_nil)))) hI94 ?_
  rintro ⟨x25, x26⟩ hz27 hI
  have hD := hL95 x25 x26 hz27 hI
  obtain ⟨C28, hC28⟩ : ∃ c : Int → Int → Hp → Prop, c = (fun x25' x26' h' => I x25' x26' h' ∧ μ x25' x26' h' < μ x25 x26 hz27) := ⟨_, rfl⟩
  rw [← hC28] at hD
  unfold D_slices_partitionEqualOrdered_string_l5 at hD
  show cw _ _ _ [(0, Sl.v d_0), (1, Value.int .i64 t_1), (9, Value.int .i64 x25), (10, Value.int .i64 x26)] _ _ _ _
  refine cw_block ?_
  refine cw_seq ?_
  refine cw_block ?_
  obtain ⟨I, μ, hI92, hL93⟩ := hD
  refine cw_loops (σ := Int) (fun s => [(0, Sl.v d_0), (1, Value.int .i64 t_1), (9, Value.int .i64 s), (10, Value.int .i64 x26)]) (x25) (fun s h => I s h) (fun s h => μ s h) (keep_cons rfl (keep_cons rfl (keep_cons rfl (keep_cons rfl keep_nil)))) hI92 ?_
  rintro x29 hz30 hI
  have hD := hL93 x29 hz30 hI
  obtain ⟨C31, hC31⟩ : ∃ c : Int → Hp → Prop, c = (fun x29' h' => I x29' h' ∧ μ x29' h' < μ x29 hz30) := ⟨_, rfl⟩
  rw [← hC31] at hD
  unfold D_slices_partitionEqualOrdered_string_l4 at hD
  show cw _ _ _ [(0, Sl.v d_0), (1, Value.int .i64 t_1), (9, Value.int .i64 x29), (10, Value.int .i64 x26)] _ _ _ _
  refine cw_seq ?_
  refine cw_cut (fun l h => ∃ (x32 : Bool), Keep l [(0, Sl.v d_0), (1, Value.int .i64 t_1), (9, Value.int .i64 x29), (10, Value.int .i64 x26), (43, Value.bool x32)] ∧ D_slices_partitionEqualOrdered_string_j3 d_0 t_1 K a1 x26 C28 x29 C31 x32 h) ?_ ?_
  · rcases bool_or (decide (x29 ≤ x26)) with hb79 | hb79
    · have hD := ifT hb79 hD
      obtain ⟨c80, c81, hD⟩ := hD
      obtain ⟨x82, c83, hD⟩ := hD
      obtain ⟨c84, c85, hD⟩ := hD
      obtain ⟨x86, c87, hD⟩ := hD
      refine cw_draw (fun h => cellH h (a1.add (t_1.toNat * 1)) = some (Value.string x82) ∧ cellH h (a1.add (x29.toNat * 1)) = some (Value.string x86) ∧ True) 15 wide ?_
      have hS : cellH hz30 (a1.add (t_1.toNat * 1)) = some (Value.string x82) ∧ cellH hz30 (a1.add (x29.toNat * 1)) = some (Value.string x86) ∧ True := ⟨c83, c87, trivial⟩
      refine wh_q 0 rfl (by kernel_rfl) rfl rfl rfl (q_move rfl rfl) (by exact hS) ?_
      refine wh_q 1 rfl (by kernel_rfl) rfl rfl rfl (q_move rfl rfl) (by exact hS) ?_
      refine wh_q 2 rfl (by kernel_rfl) rfl rfl rfl (q_bin rfl rfl rfl (fun _ _ => rfl)) (by exact hS) ?_
      refine wh_q 3 rfl (by kernel_rfl) rfl rfl rfl (q_move rfl rfl) (by exact hS) ?_
      refine wh_gq 4 rfl (by kernel_rfl) rfl rfl rfl hb79 rfl rfl (q_move rfl rfl) (by exact hS) ?_
      refine wh_gq 5 rfl (by kernel_rfl) rfl rfl rfl hb79 rfl rfl (q_move rfl rfl) (by exact hS) ?_
      refine wh_gq 6 rfl (by kernel_rfl) rfl rfl rfl hb79 rfl rfl (q_indexAddr rfl rfl rfl Go.Proofs.Tryd.underlying49 sz_9 c2 c80 c81) (by exact hS) ?_
      refine wh_gq 7 rfl (by kernel_rfl) rfl rfl rfl hb79 rfl rfl (q_load rfl rfl Go.Proofs.Tryd.underlying9 rfl (by exact fun _ s => s.1)) (by exact hS) ?_
      refine wh_gq 8 rfl (by kernel_rfl) rfl rfl rfl hb79 rfl rfl (q_move rfl rfl) (by exact hS) ?_
      refine wh_gq 9 rfl (by kernel_rfl) rfl rfl rfl hb79 rfl rfl (q_move rfl rfl) (by exact hS) ?_
      refine wh_gq 10 rfl (by kernel_rfl) rfl rfl rfl hb79 rfl rfl (q_indexAddr rfl rfl rfl Go.Proofs.Tryd.underlying49 sz_9 c2 c84 c85) (by exact hS) ?_
      refine wh_gq 11 rfl (by kernel_rfl) rfl rfl rfl hb79 rfl rfl (q_load rfl rfl Go.Proofs.Tryd.underlying9 rfl (by exact fun _ s => s.2.1)) (by exact hS) ?_
      refine wh_ge 12 rfl (by kernel_rfl) rfl rfl rfl hb79 rfl rfl (e_call (first := []) (vs := [Value.string x82, Value.string x86]) (cap := []) rfl rfl rfl cf_75 (CallsH.mono hD ?_))
      rintro _ hz88 ⟨r89, rfl, hD⟩
      obtain ⟨hk0, hk1, hD⟩ := hD
      refine ⟨⟨hk0, hk1, trivial⟩, ?_⟩
      have hS : cellH hz88 (a1.add (t_1.toNat * 1)) = some (Value.string x82) ∧ cellH hz88 (a1.add (x29.toNat * 1)) = some (Value.string x86) ∧ True := ⟨hk0, hk1, trivial⟩
      refine wh_gq 13 rfl (by kernel_rfl) rfl rfl rfl hb79 rfl rfl (q_un rfl rfl (fun _ => rfl)) (by exact hS) ?_
      refine wh_q 14 rfl (by kernel_rfl) rfl rfl rfl (q_pickT rfl rfl hb79 rfl) (by exact hS) ?_
      refine wh_keep (l' := [(0, Sl.v d_0), (1, Value.int .i64 t_1), (9, Value.int .i64 x29), (10, Value.int .i64 x26), (43, Value.bool (!r89))]) (keep_cons rfl (keep_cons rfl (keep_cons rfl (keep_cons rfl (keep_cons rfl keep_nil))))) (wh_done (by kernel_rfl) ?_)
      exact ⟨_, (keep_cons rfl (keep_cons rfl (keep_cons rfl (keep_cons rfl (keep_cons rfl keep_nil))))), hD⟩
    · have hD := ifF hb79 hD
      refine cw_draw (fun h => True) 15 wide ?_
      have hS : True := trivial
      refine wh_q 0 rfl (by kernel_rfl) rfl rfl rfl (q_move rfl rfl) (by exact hS) ?_
      refine wh_q 1 rfl (by kernel_rfl) rfl rfl rfl (q_move rfl rfl) (by exact hS) ?_
      refine wh_q 2 rfl (by kernel_rfl) rfl rfl rfl (q_bin rfl rfl rfl (fun _ _ => rfl)) (by exact hS) ?_
      refine wh_q 3 rfl (by kernel_rfl) rfl rfl rfl (q_move rfl rfl) (by exact hS) ?_
      refine wh_gn 4 rfl (by kernel_rfl) rfl rfl rfl hb79 rfl rfl (by exact hS) ?_
      refine wh_gn 5 rfl (by kernel_rfl) rfl rfl rfl hb79 rfl rfl (by exact hS) ?_
      refine wh_gn 6 rfl (by kernel_rfl) rfl rfl rfl hb79 rfl rfl (by exact hS) ?_
      refine wh_gn 7 rfl (by kernel_rfl) rfl rfl rfl hb79 rfl rfl (by exact hS) ?_
      refine wh_gn 8 rfl (by kernel_rfl) rfl rfl rfl hb79 rfl rfl (by exact hS) ?_
      refine wh_gn 9 rfl (by kernel_rfl) rfl rfl rfl hb79 rfl rfl (by exact hS) ?_
      refine wh_gn 10 rfl (by kernel_rfl) rfl rfl rfl hb79 rfl rfl (by exact hS) ?_
      refine wh_gn 11 rfl (by kernel_rfl) rfl rfl rfl hb79 rfl rfl (by exact hS) ?_
      refine wh_gn 12 rfl (by kernel_rfl) rfl rfl rfl hb79 rfl rfl (by exact hS) ?_
      refine wh_gn 13 rfl (by kernel_rfl) rfl rfl rfl hb79 rfl rfl (by exact hS) ?_
      refine wh_q 14 rfl (by kernel_rfl) rfl rfl rfl (q_pickF rfl rfl hb79 rfl) (by exact hS) ?_
      refine wh_keep (l' := [(0, Sl.v d_0), (1, Value.int .i64 t_1), (9, Value.int .i64 x29), (10, Value.int .i64 x26), (43, Value.bool false)]) (keep_cons rfl (keep_cons rfl (keep_cons rfl (keep_cons rfl (keep_cons rfl keep_nil))))) (wh_done (by kernel_rfl) ?_)
      exact ⟨_, (keep_cons rfl (keep_cons rfl (keep_cons rfl (keep_cons rfl (keep_cons rfl keep_nil))))), hD⟩
  · rintro l91 hz33 ⟨x32, hk90, hD⟩
    refine cw_keep hk90 ?_
    unfold D_slices_partitionEqualOrdered_string_j3 at hD
    refine cw_cond rfl (fun hb34 => ?_) (fun hb34 => ?_)
    · have hD := ifT hb34 hD
      refine cw_skip ?_
      refine cw_block ?_
      refine cw_region ?_
      refine wl_q rfl rfl rfl (q_move rfl rfl) ?_
      refine wl_q rfl rfl rfl (q_bin rfl rfl rfl (fun _ _ => rfl)) ?_
      refine wl_q rfl rfl rfl (q_assign rfl rfl) ?_
      refine wl_keep (l' := [(0, Sl.v d_0), (1, Value.int .i64 t_1), (9, Value.int .i64 (IntKind.i64.wrap (x29 + 1))), (10, Value.int .i64 x26)]) (keep_cons rfl (keep_cons rfl (keep_cons rfl (keep_cons rfl keep_nil)))) (wl_nil ?_)
      rw [hC31] at hD
      exact ⟨(IntKind.i64.wrap (x29 + 1)), (keep_cons rfl (keep_cons rfl (keep_cons rfl (keep_cons rfl keep_nil)))), hD⟩
    · have hD := ifF hb34 hD
      refine cw_exit ?_
      refine xput_same ?_
      refine cw_seq ?_
      refine cw_block ?_
      obtain ⟨I, μ, hI77, hL78⟩ := hD
      refine cw_loops (σ := Int) (fun s => [(0, Sl.v d_0), (1, Value.int .i64 t_1), (9, Value.int .i64 x29), (10, Value.int .i64 s)]) (x26) (fun s h => I s h) (fun s h => μ s h) (keep_cons rfl (keep_cons rfl (keep_cons rfl (keep_cons rfl keep_nil)))) hI77 ?_
      rintro x35 hz36 hI
      have hD := hL78 x35 hz36 hI
      obtain ⟨C37, hC37⟩ : ∃ c : Int → Hp → Prop, c = (fun x35' h' => I x35' h' ∧ μ x35' h' < μ x35 hz36) := ⟨_, rfl⟩
      rw [← hC37] at hD
      unfold D_slices_partitionEqualOrdered_string_l2 at hD
      show cw _ _ _ [(0, Sl.v d_0), (1, Value.int .i64 t_1), (9, Value.int .i64 x29), (10, Value.int .i64 x35)] _ _ _ _
      refine cw_seq ?_
      refine cw_cut (fun l h => ∃ (x38 : Bool), Keep l [(0, Sl.v d_0), (1, Value.int .i64 t_1), (9, Value.int .i64 x29), (10, Value.int .i64 x35), (59, Value.bool x38)] ∧ D_slices_partitionEqualOrdered_string_j1 d_0 K a1 C28 x29 x35 C37 x38 h) ?_ ?_
      · rcases bool_or (decide (x29 ≤ x35)) with hb64 | hb64
        · have hD := ifT hb64 hD
          obtain ⟨c65, c66, hD⟩ := hD
          obtain ⟨x67, c68, hD⟩ := hD
          obtain ⟨c69, c70, hD⟩ := hD
          obtain ⟨x71, c72, hD⟩ := hD
          refine cw_draw (fun h => cellH h (a1.add (t_1.toNat * 1)) = some (Value.string x67) ∧ cellH h (a1.add (x35.toNat * 1)) = some (Value.string x71) ∧ True) 14 wide ?_
          have hS : cellH hz36 (a1.add (t_1.toNat * 1)) = some (Value.string x67) ∧ cellH hz36 (a1.add (x35.toNat * 1)) = some (Value.string x71) ∧ True := ⟨c68, c72, trivial⟩
          refine wh_q 0 rfl (by kernel_rfl) rfl rfl rfl (q_move rfl rfl) (by exact hS) ?_
          refine wh_q 1 rfl (by kernel_rfl) rfl rfl rfl (q_move rfl rfl) (by exact hS) ?_
          refine wh_q 2 rfl (by kernel_rfl) rfl rfl rfl (q_bin rfl rfl rfl (fun _ _ => rfl)) (by exact hS) ?_
          refine wh_q 3 rfl (by kernel_rfl) rfl rfl rfl (q_move rfl rfl) (by exact hS) ?_
          refine wh_gq 4 rfl (by kernel_rfl) rfl rfl rfl hb64 rfl rfl (q_move rfl rfl) (by exact hS) ?_
          refine wh_gq 5 rfl (by kernel_rfl) rfl rfl rfl hb64 rfl rfl (q_move rfl rfl) (by exact hS) ?_
          refine wh_gq 6 rfl (by kernel_rfl) rfl rfl rfl hb64 rfl rfl (q_indexAddr rfl rfl rfl Go.Proofs.Tryd.underlying49 sz_9 c2 c65 c66) (by exact hS) ?_
          refine wh_gq 7 rfl (by kernel_rfl) rfl rfl rfl hb64 rfl rfl (q_load rfl rfl Go.Proofs.Tryd.underlying9 rfl (by exact fun _ s => s.1)) (by exact hS) ?_
          refine wh_gq 8 rfl (by kernel_rfl) rfl rfl rfl hb64 rfl rfl (q_move rfl rfl) (by exact hS) ?_
          refine wh_gq 9 rfl (by kernel_rfl) rfl rfl rfl hb64 rfl rfl (q_move rfl rfl) (by exact hS) ?_
          refine wh_gq 10 rfl (by kernel_rfl) rfl rfl rfl hb64 rfl rfl (q_indexAddr rfl rfl rfl Go.Proofs.Tryd.underlying49 sz_9 c2 c69 c70) (by exact hS) ?_
          refine wh_gq 11 rfl (by kernel_rfl) rfl rfl rfl hb64 rfl rfl (q_load rfl rfl Go.Proofs.Tryd.underlying9 rfl (by exact fun _ s => s.2.1)) (by exact hS) ?_
          refine wh_ge 12 rfl (by kernel_rfl) rfl rfl rfl hb64 rfl rfl (e_call (first := []) (vs := [Value.string x67, Value.string x71]) (cap := []) rfl rfl rfl cf_75 (CallsH.mono hD ?_))
          rintro _ hz73 ⟨r74, rfl, hD⟩
          obtain ⟨hk0, hk1, hD⟩ := hD
          refine ⟨⟨hk0, hk1, trivial⟩, ?_⟩
          have hS : cellH hz73 (a1.add (t_1.toNat * 1)) = some (Value.string x67) ∧ cellH hz73 (a1.add (x35.toNat * 1)) = some (Value.string x71) ∧ True := ⟨hk0, hk1, trivial⟩
          refine wh_q 13 rfl (by kernel_rfl) rfl rfl rfl (q_pickT rfl rfl hb64 rfl) (by exact hS) ?_
          refine wh_keep (l' := [(0, Sl.v d_0), (1, Value.int .i64 t_1), (9, Value.int .i64 x29), (10, Value.int .i64 x35), (59, Value.bool r74)]) (keep_cons rfl (keep_cons rfl (keep_cons rfl (keep_cons rfl (keep_cons rfl keep_nil))))) (wh_done (by kernel_rfl) ?_)
          exact ⟨_, (keep_cons rfl (keep_cons rfl (keep_cons rfl (keep_cons rfl (keep_cons rfl keep_nil))))), hD⟩
        · have hD := ifF hb64 hD
          refine cw_draw (fun h => True) 14 wide ?_
          have hS : True := trivial
          refine wh_q 0 rfl (by kernel_rfl) rfl rfl rfl (q_move rfl rfl) (by exact hS) ?_
          refine wh_q 1 rfl (by kernel_rfl) rfl rfl rfl (q_move rfl rfl) (by exact hS) ?_
          refine wh_q 2 rfl (by kernel_rfl) rfl rfl rfl (q_bin rfl rfl rfl (fun _ _ => rfl)) (by exact hS) ?_
          refine wh_q 3 rfl (by kernel_rfl) rfl rfl rfl (q_move rfl rfl) (by exact hS) ?_
          refine wh_gn 4 rfl (by kernel_rfl) rfl rfl rfl hb64 rfl rfl (by exact hS) ?_
          refine wh_gn 5 rfl (by kernel_rfl) rfl rfl rfl hb64 rfl rfl (by exact hS) ?_
          refine wh_gn 6 rfl (by kernel_rfl) rfl rfl rfl hb64 rfl rfl (by exact hS) ?_
          refine wh_gn 7 rfl (by kernel_rfl) rfl rfl rfl hb64 rfl rfl (by exact hS) ?_
          refine wh_gn 8 rfl (by kernel_rfl) rfl rfl rfl hb64 rfl rfl (by exact hS) ?_
          refine wh_gn 9 rfl (by kernel_rfl) rfl rfl rfl hb64 rfl rfl (by exact hS) ?_
          refine wh_gn 10 rfl (by kernel_rfl) rfl rfl rfl hb64 rfl rfl (by exact hS) ?_
          refine wh_gn 11 rfl (by kernel_rfl) rfl rfl rfl hb64 rfl rfl (by exact hS) ?_
          refine wh_gn 12 rfl (by kernel_rfl) rfl rfl rfl hb64 rfl rfl (by exact hS) ?_
          refine wh_q 13 rfl (by kernel_rfl) rfl rfl rfl (q_pickF rfl rfl hb64 rfl) (by exact hS) ?_
          refine wh_keep (l' := [(0, Sl.v d_0), (1, Value.int .i64 t_1), (9, Value.int .i64 x29), (10, Value.int .i64 x35), (59, Value.bool false)]) (keep_cons rfl (keep_cons rfl (keep_cons rfl (keep_cons rfl (keep_cons rfl keep_nil))))) (wh_done (by kernel_rfl) ?_)
          exact ⟨_, (keep_cons rfl (keep_cons rfl (keep_cons rfl (keep_cons rfl (keep_cons rfl keep_nil))))), hD⟩
      · rintro l76 hz39 ⟨x38, hk75, hD⟩
        refine cw_keep hk75 ?_
        unfold D_slices_partitionEqualOrdered_string_j1 at hD
        refine cw_cond rfl (fun hb40 => ?_) (fun hb40 => ?_)
        · have hD := ifT hb40 hD
          refine cw_skip ?_
          refine cw_block ?_
          refine cw_region ?_
          refine wl_q rfl rfl rfl (q_move rfl rfl) ?_
          refine wl_q rfl rfl rfl (q_bin rfl rfl rfl (fun _ _ => rfl)) ?_
          refine wl_q rfl rfl rfl (q_assign rfl rfl) ?_
          refine wl_keep (l' := [(0, Sl.v d_0), (1, Value.int .i64 t_1), (9, Value.int .i64 x29), (10, Value.int .i64 (IntKind.i64.wrap (x35 - 1)))]) (keep_cons rfl (keep_cons rfl (keep_cons rfl (keep_cons rfl keep_nil)))) (wl_nil ?_)
          rw [hC37] at hD
          exact ⟨(IntKind.i64.wrap (x35 - 1)), (keep_cons rfl (keep_cons rfl (keep_cons rfl (keep_cons rfl keep_nil)))), hD⟩
        · have hD := ifF hb40 hD
          refine cw_exit ?_
          refine xput_same ?_
          refine cw_seq ?_
          refine cw_seq ?_
          refine cw_region ?_
          refine wl_q rfl rfl rfl (q_move rfl rfl) ?_
          refine wl_q rfl rfl rfl (q_move rfl rfl) ?_
          refine wl_q rfl rfl rfl (q_bin rfl rfl rfl (fun _ _ => rfl)) ?_
          refine wl_keep (l' := [(0, Sl.v d_0), (1, Value.int .i64 t_1), (9, Value.int .i64 x29), (10, Value.int .i64 x35), (64, Value.bool (decide (x29 > x35)))]) (keep_cons rfl (keep_cons rfl (keep_cons rfl (keep_cons rfl (keep_cons rfl keep_nil))))) (wl_nil ?_)
          refine cw_cond rfl (fun hb41 => ?_) (fun hb41 => ?_)
          · have hD := ifT hb41 hD
            refine cw_exit ?_
            refine xput_other rfl ?_
            refine xput_same ?_
            refine cw_seq ?_
            refine cw_region ?_
            refine wl_q rfl rfl rfl (q_move rfl rfl) ?_
            refine wl_q rfl rfl rfl (q_assign rfl rfl) ?_
            refine wl_keep (l' := [(8, Value.int .i64 x29)]) (keep_cons rfl keep_nil) (wl_nil ?_)
            refine cw_ret ?_
            exact ⟨_, resq1 rfl rfl, _, rfl, hD⟩
          · have hD := ifF hb41 hD
            refine cw_skip ?_
            refine cw_seq ?_
            obtain ⟨c42, c43, hD⟩ := hD
            obtain ⟨x44, c45, hD⟩ := hD
            obtain ⟨c46, c47, hD⟩ := hD
            obtain ⟨x48, c49, hD⟩ := hD
            obtain ⟨c50, c51, hD⟩ := hD
            refine cw_draw (fun h => cellH h (a1.add (x35.toNat * 1)) = some (Value.string x44) ∧ cellH h (a1.add (x29.toNat * 1)) = some (Value.string x48) ∧ True) 15 wide ?_
            have hS : cellH hz39 (a1.add (x35.toNat * 1)) = some (Value.string x44) ∧ cellH hz39 (a1.add (x29.toNat * 1)) = some (Value.string x48) ∧ True := ⟨c45, c49, trivial⟩
            refine wh_q 0 rfl (by kernel_rfl) rfl rfl rfl (q_move rfl rfl) (by exact hS) ?_
            refine wh_q 1 rfl (by kernel_rfl) rfl rfl rfl (q_move rfl rfl) (by exact hS) ?_
            refine wh_q 2 rfl (by kernel_rfl) rfl rfl rfl (q_move rfl rfl) (by exact hS) ?_
            refine wh_q 3 rfl (by kernel_rfl) rfl rfl rfl (q_move rfl rfl) (by exact hS) ?_
            refine wh_q 4 rfl (by kernel_rfl) rfl rfl rfl (q_move rfl rfl) (by exact hS) ?_
            refine wh_q 5 rfl (by kernel_rfl) rfl rfl rfl (q_move rfl rfl) (by exact hS) ?_
            refine wh_q 6 rfl (by kernel_rfl) rfl rfl rfl (q_indexAddr rfl rfl rfl Go.Proofs.Tryd.underlying49 sz_9 c2 c42 c43) (by exact hS) ?_
            refine wh_q 7 rfl (by kernel_rfl) rfl rfl rfl (q_load rfl rfl Go.Proofs.Tryd.underlying9 rfl (by exact fun _ s => s.1)) (by exact hS) ?_
            refine wh_q 8 rfl (by kernel_rfl) rfl rfl rfl (q_move rfl rfl) (by exact hS) ?_
            refine wh_q 9 rfl (by kernel_rfl) rfl rfl rfl (q_move rfl rfl) (by exact hS) ?_
            refine wh_q 10 rfl (by kernel_rfl) rfl rfl rfl (q_indexAddr rfl rfl rfl Go.Proofs.Tryd.underlying49 sz_9 c2 c46 c47) (by exact hS) ?_
            refine wh_q 11 rfl (by kernel_rfl) rfl rfl rfl (q_load rfl rfl Go.Proofs.Tryd.underlying9 rfl (by exact fun _ s => s.2.1)) (by exact hS) ?_
            refine wh_q 12 rfl (by kernel_rfl) rfl rfl rfl (q_indexAddr rfl rfl rfl Go.Proofs.Tryd.underlying49 sz_9 c2 c50 c51) (by exact hS) ?_
            obtain ⟨u53, c54, c55, hD⟩ := hD
            refine wh_e0 13 rfl (by kernel_rfl) rfl rfl (e_store rfl rfl rfl sz_9 trivial c54 c55 ?_)
            intro hz52 e56
            have hD := hD hz52 e56
            obtain ⟨hk0, hk1, hD⟩ := hD
            refine ⟨⟨hk0, hk1, trivial⟩, ?_⟩
            have hS : cellH hz52 (a1.add (x35.toNat * 1)) = some (Value.string x44) ∧ cellH hz52 (a1.add (x29.toNat * 1)) = some (Value.string x48) ∧ True := ⟨hk0, hk1, trivial⟩
            obtain ⟨c57, c58, hD⟩ := hD
            refine wh_q 14 rfl (by kernel_rfl) rfl rfl rfl (q_indexAddr rfl rfl rfl Go.Proofs.Tryd.underlying49 sz_9 c2 c57 c58) (by exact hS) ?_
            obtain ⟨u60, c61, c62, hD⟩ := hD
            refine wh_last 15 rfl (by kernel_rfl) rfl rfl rfl (e_store rfl rfl rfl sz_9 trivial c61 c62 ?_)
            intro hz59 e63
            have hD := hD hz59 e63
            refine wh_keep (l' := [(0, Sl.v d_0), (1, Value.int .i64 t_1), (9, Value.int .i64 x29), (10, Value.int .i64 x35)]) (keep_cons rfl (keep_cons rfl (keep_cons rfl (keep_cons rfl keep_nil)))) (wh_done (by kernel_rfl) ?_)
            refine cw_seq ?_
            refine cw_region ?_
            refine wl_q rfl rfl rfl (q_move rfl rfl) ?_
            refine wl_q rfl rfl rfl (q_bin rfl rfl rfl (fun _ _ => rfl)) ?_
            refine wl_q rfl rfl rfl (q_assign rfl rfl) ?_
            refine wl_keep (l' := [(0, Sl.v d_0), (1, Value.int .i64 t_1), (9, Value.int .i64 (IntKind.i64.wrap (x29 + 1))), (10, Value.int .i64 x35)]) (keep_cons rfl (keep_cons rfl (keep_cons rfl (keep_cons rfl keep_nil)))) (wl_nil ?_)
            refine cw_region ?_
            refine wl_q rfl rfl rfl (q_move rfl rfl) ?_
            refine wl_q rfl rfl rfl (q_bin rfl rfl rfl (fun _ _ => rfl)) ?_
            refine wl_q rfl rfl rfl (q_assign rfl rfl) ?_
            refine wl_keep (l' := [(0, Sl.v d_0), (1, Value.int .i64 t_1), (9, Value.int .i64 (IntKind.i64.wrap (x29 + 1))), (10, Value.int .i64 (IntKind.i64.wrap (x35 - 1)))]) (keep_cons rfl (keep_cons rfl (keep_cons rfl (keep_cons rfl keep_nil)))) (wl_nil ?_)
            rw [hC28] at hD
            exact ⟨(IntKind.i64.wrap (x29 + 1), IntKind.i64.wrap (x35 - 1)), (keep_cons rfl (keep_cons rfl (keep_cons rfl (keep_cons rfl keep_nil)))), hD⟩
end Go.Proofs.YtgdmjdacmebfjaaDoor.D

namespace Go.Proofs.YtgdmjdacmebfjaaDoor.D
open Go
set_option maxRecDepth 100000
theorem S_slices_partitionOrdered_string {d_0 : Sl} {t_1 : Int} {p_2 : Int} {p_3 : Int} {h0 : Hp} {K : Int → Bool → Hp → Prop} (hD : D_slices_partitionOrdered_string d_0 t_1 p_2 p_3 h0 K) : C_slices_partitionOrdered_string d_0 t_1 p_2 p_3 h0 K := by
  unfold D_slices_partitionOrdered_string at hD
  refine calls_cw (args := [Sl.v d_0, Value.int .i64 t_1, Value.int .i64 p_2, Value.int .i64 p_3]) Go.Proofs.Tryd.func77 rfl ?_
  show cw _ 168 _ [(0, Sl.v d_0), (1, Value.int .i64 t_1), (2, Value.int .i64 p_2), (3, Value.int .i64 p_3)] _ _ _ _
  refine cw_seq ?_
  refine cw_region ?_
  refine wl_q rfl rfl rfl (q_assign rfl rfl) ?_
  refine wl_q rfl rfl rfl (q_assign rfl rfl) ?_
  refine wl_keep (l' := [(0, Sl.v d_0), (1, Value.int .i64 t_1), (2, Value.int .i64 p_2), (3, Value.int .i64 p_3)]) (keep_cons rfl (keep_cons rfl (keep_cons rfl (keep_cons rfl keep_nil)))) (wl_nil ?_)
  refine cw_seq ?_
  obtain ⟨a1, c2, c3, c4, hD⟩ := hD
  obtain ⟨x5, c6, hD⟩ := hD
  obtain ⟨c7, c8, hD⟩ := hD
  obtain ⟨x9, c10, hD⟩ := hD
  obtain ⟨c11, c12, hD⟩ := hD
  refine cw_draw (fun h => cellH h (a1.add (p_3.toNat * 1)) = some (Value.string x5) ∧ cellH h (a1.add (t_1.toNat * 1)) = some (Value.string x9) ∧ True) 15 wide ?_
  have hS : cellH h0 (a1.add (p_3.toNat * 1)) = some (Value.string x5) ∧ cellH h0 (a1.add (t_1.toNat * 1)) = some (Value.string x9) ∧ True := ⟨c6, c10, trivial⟩
  refine wh_q 0 rfl (by kernel_rfl) rfl rfl rfl (q_move rfl rfl) (by exact hS) ?_
  refine wh_q 1 rfl (by kernel_rfl) rfl rfl rfl (q_move rfl rfl) (by exact hS) ?_
  refine wh_q 2 rfl (by kernel_rfl) rfl rfl rfl (q_move rfl rfl) (by exact hS) ?_
  refine wh_q 3 rfl (by kernel_rfl) rfl rfl rfl (q_move rfl rfl) (by exact hS) ?_
  refine wh_q 4 rfl (by kernel_rfl) rfl rfl rfl (q_move rfl rfl) (by exact hS) ?_
  refine wh_q 5 rfl (by kernel_rfl) rfl rfl rfl (q_move rfl rfl) (by exact hS) ?_
  refine wh_q 6 rfl (by kernel_rfl) rfl rfl rfl (q_indexAddr rfl rfl rfl Go.Proofs.Tryd.underlying49 sz_9 c2 c3 c4) (by exact hS) ?_
  refine wh_q 7 rfl (by kernel_rfl) rfl rfl rfl (q_load rfl rfl Go.Proofs.Tryd.underlying9 rfl (by exact fun _ s => s.1)) (by exact hS) ?_
  refine wh_q 8 rfl (by kernel_rfl) rfl rfl rfl (q_move rfl rfl) (by exact hS) ?_
  refine wh_q 9 rfl (by kernel_rfl) rfl rfl rfl (q_move rfl rfl) (by exact hS) ?_
  refine wh_q 10 rfl (by kernel_rfl) rfl rfl rfl (q_indexAddr rfl rfl rfl Go.Proofs.Tryd.underlying49 sz_9 c2 c7 c8) (by exact hS) ?_
  refine wh_q 11 rfl (by kernel_rfl) rfl rfl rfl (q_load rfl rfl Go.Proofs.Tryd.underlying9 rfl (by exact fun _ s => s.2.1)) (by exact hS) ?_
  refine wh_q 12 rfl (by kernel_rfl) rfl rfl rfl (q_indexAddr rfl rfl rfl Go.Proofs.Tryd.underlying49 sz_9 c2 c11 c12) (by exact hS) ?_
  obtain ⟨u14, c15, c16, hD⟩ := hD
  refine wh_e0 13 rfl (by kernel_rfl) rfl rfl (e_store rfl rfl rfl sz_9 trivial c15 c16 ?_)
  intro hz13 e17
  have hD := hD hz13 e17
  obtain ⟨hk0, hk1, hD⟩ := hD
  refine ⟨⟨hk0, hk1, trivial⟩, ?_⟩
  have hS : cellH hz13 (a1.add (p_3.toNat * 1)) = some (Value.string x5) ∧ cellH hz13 (a1.add (t_1.toNat * 1)) = some (Value.string x9) ∧ True := ⟨hk0, hk1, trivial⟩
  obtain ⟨c18, c19, hD⟩ := hD
  refine wh_q 14 rfl (by kernel_rfl) rfl rfl rfl (q_indexAddr rfl rfl rfl Go.Proofs.Tryd.underlying49 sz_9 c2 c18 c19) (by exact hS) ?_
  obtain ⟨u21, c22, c23, hD⟩ := hD
  refine wh_last 15 rfl (by kernel_rfl) rfl rfl rfl (e_store rfl rfl rfl sz_9 trivial c22 c23 ?_)
  intro hz20 e24
  have hD := hD hz20 e24
  refine wh_keep (l' := [(0, Sl.v d_0), (1, Value.int .i64 t_1), (2, Value.int .i64 p_2)]) (keep_cons rfl (keep_cons rfl (keep_cons rfl keep_nil))) (wh_done (by kernel_rfl) ?_)
  refine cw_seq ?_
  refine cw_region ?_
  refine wl_q rfl rfl rfl (q_move rfl rfl) ?_
  refine wl_q rfl rfl rfl (q_bin rfl rfl rfl (fun _ _ => rfl)) ?_
  refine wl_q rfl rfl rfl (q_move rfl rfl) ?_
  refine wl_q rfl rfl rfl (q_bin rfl rfl rfl (fun _ _ => rfl)) ?_
  refine wl_q rfl rfl rfl (q_assign rfl rfl) ?_
  refine wl_q rfl rfl rfl (q_assign rfl rfl) ?_
  refine wl_keep (l' := [(0, Sl.v d_0), (1, Value.int .i64 t_1), (10, Value.int .i64 (IntKind.i64.wrap (t_1 + 1))), (11, Value.int .i64 (IntKind.i64.wrap (p_2 - 1)))]) (keep_cons rfl (keep_cons rfl (keep_cons rfl (keep_cons rfl keep_nil)))) (wl_nil ?_)
  refine cw_seq ?_
  refine cw_block ?_
  obtain ⟨I, μ, hI203, hL204⟩ := hD
  refine cw_loops (σ := Int) (fun s => [(0, Sl.v d_0), (1, Value.int .i64 t_1), (10, Value.int .i64 s), (11, Value.int .i64 (IntKind.i64.wrap (p_2 - 1)))]) (IntKind.i64.wrap (t_1 + 1)) (fun s h => I s h) (fun s h => μ s h) (keep_cons rfl (keep_cons rfl (keep_cons rfl (keep_cons rfl keep_nil)))) hI203 ?_
  rintro x25 hz26 hI
  have hD := hL204 x25 hz26 hI
  obtain ⟨C27, hC27⟩ : ∃ c : Int → Hp → Prop, c = (fun x25' h' => I x25' h' ∧ μ x25' h' < μ x25 hz26) := ⟨_, rfl⟩
  rw [← hC27] at hD
  unfold D_slices_partitionOrdered_string_l9 at hD
  show cw _ _ _ [(0, Sl.v d_0), (1, Value.int .i64 t_1), (10, Value.int .i64 x25), (11, Value.int .i64 (IntKind.i64.wrap (p_2 - 1)))] _ _ _ _
  refine cw_seq ?_
  refine cw_cut (fun l h => ∃ (x28 : Bool), Keep l [(0, Sl.v d_0), (1, Value.int .i64 t_1), (10, Value.int .i64 x25), (11, Value.int .i64 (IntKind.i64.wrap (p_2 - 1))), (43, Value.bool x28)] ∧ D_slices_partitionOrdered_string_j8 d_0 t_1 p_2 K a1 x25 C27 x28 h) ?_ ?_
  · rcases bool_or (decide (x25 ≤ (IntKind.i64.wrap (p_2 - 1)))) with hb190 | hb190
    · have hD := ifT hb190 hD
      obtain ⟨c191, c192, hD⟩ := hD
      obtain ⟨x193, c194, hD⟩ := hD
      obtain ⟨c195, c196, hD⟩ := hD
      obtain ⟨x197, c198, hD⟩ := hD
      refine cw_draw (fun h => cellH h (a1.add (x25.toNat * 1)) = some (Value.string x193) ∧ cellH h (a1.add (t_1.toNat * 1)) = some (Value.string x197) ∧ True) 14 wide ?_
      have hS : cellH hz26 (a1.add (x25.toNat * 1)) = some (Value.string x193) ∧ cellH hz26 (a1.add (t_1.toNat * 1)) = some (Value.string x197) ∧ True := ⟨c194, c198, trivial⟩
      refine wh_q 0 rfl (by kernel_rfl) rfl rfl rfl (q_move rfl rfl) (by exact hS) ?_
      refine wh_q 1 rfl (by kernel_rfl) rfl rfl rfl (q_move rfl rfl) (by exact hS) ?_
      refine wh_q 2 rfl (by kernel_rfl) rfl rfl rfl (q_bin rfl rfl rfl (fun _ _ => rfl)) (by exact hS) ?_
      refine wh_q 3 rfl (by kernel_rfl) rfl rfl rfl (q_move rfl rfl) (by exact hS) ?_
      refine wh_gq 4 rfl (by kernel_rfl) rfl rfl rfl hb190 rfl rfl (q_move rfl rfl) (by exact hS) ?_
      refine wh_gq 5 rfl (by kernel_rfl) rfl rfl rfl hb190 rfl rfl (q_move rfl rfl) (by exact hS) ?_
      refine wh_gq 6 rfl (by kernel_rfl) rfl rfl rfl hb190 rfl rfl (q_indexAddr rfl rfl rfl Go.Proofs.Tryd.underlying49 sz_9 c2 c191 c192) (by exact hS) ?_
      refine wh_gq 7 rfl (by kernel_rfl) rfl rfl rfl hb190 rfl rfl (q_load rfl rfl Go.Proofs.Tryd.underlying9 rfl (by exact fun _ s => s.1)) (by exact hS) ?_
      refine wh_gq 8 rfl (by kernel_rfl) rfl rfl rfl hb190 rfl rfl (q_move rfl rfl) (by exact hS) ?_
      refine wh_gq 9 rfl (by kernel_rfl) rfl rfl rfl hb190 rfl rfl (q_move rfl rfl) (by exact hS) ?_
      refine wh_gq 10 rfl (by kernel_rfl) rfl rfl rfl hb190 rfl rfl (q_indexAddr rfl rfl rfl Go.Proofs.Tryd.underlying49 sz_9 c2 c195 c196) (by exact hS) ?_
      refine wh_gq 11 rfl (by kernel_rfl) rfl rfl rfl hb190 rfl rfl (q_load rfl rfl Go.Proofs.Tryd.underlying9 rfl (by exact fun _ s => s.2.1)) (by exact hS) ?_
      refine wh_ge 12 rfl (by kernel_rfl) rfl rfl rfl hb190 rfl rfl (e_call (first := []) (vs := [Value.string x193, Value.string x197]) (cap := []) rfl rfl rfl cf_75 (CallsH.mono hD ?_))
      rintro _ hz199 ⟨r200, rfl, hD⟩
      obtain ⟨hk0, hk1, hD⟩ := hD
      refine ⟨⟨hk0, hk1, trivial⟩, ?_⟩
      have hS : cellH hz199 (a1.add (x25.toNat * 1)) = some (Value.string x193) ∧ cellH hz199 (a1.add (t_1.toNat * 1)) = some (Value.string x197) ∧ True := ⟨hk0, hk1, trivial⟩
      refine wh_q 13 rfl (by kernel_rfl) rfl rfl rfl (q_pickT rfl rfl hb190 rfl) (by exact hS) ?_
      refine wh_keep (l' := [(0, Sl.v d_0), (1, Value.int .i64 t_1), (10, Value.int .i64 x25), (11, Value.int .i64 (IntKind.i64.wrap (p_2 - 1))), (43, Value.bool r200)]) (keep_cons rfl (keep_cons rfl (keep_cons rfl (keep_cons rfl (keep_cons rfl keep_nil))))) (wh_done (by kernel_rfl) ?_)
      exact ⟨_, (keep_cons rfl (keep_cons rfl (keep_cons rfl (keep_cons rfl (keep_cons rfl keep_nil))))), hD⟩
    · have hD := ifF hb190 hD
      refine cw_draw (fun h => True) 14 wide ?_
      have hS : True := trivial
      refine wh_q 0 rfl (by kernel_rfl) rfl rfl rfl (q_move rfl rfl) (by exact hS) ?_
      refine wh_q 1 rfl (by kernel_rfl) rfl rfl rfl (q_move rfl rfl) (by exact hS) ?_
      refine wh_q 2 rfl (by kernel_rfl) rfl rfl rfl (q_bin rfl rfl rfl (fun _ _ => rfl)) (by exact hS) ?_
      refine wh_q 3 rfl (by kernel_rfl) rfl rfl rfl (q_move rfl rfl) (by exact hS) ?_
      refine wh_gn 4 rfl (by kernel_rfl) rfl rfl rfl hb190 rfl rfl (by exact hS) ?_
      refine wh_gn 5 rfl (by kernel_rfl) rfl rfl rfl hb190 rfl rfl (by exact hS) ?_
      refine wh_gn 6 rfl (by kernel_rfl) rfl rfl rfl hb190 rfl rfl (by exact hS) ?_
      refine wh_gn 7 rfl (by kernel_rfl) rfl rfl rfl hb190 rfl rfl (by exact hS) ?_
      refine wh_gn 8 rfl (by kernel_rfl) rfl rfl rfl hb190 rfl rfl (by exact hS) ?_
      refine wh_gn 9 rfl (by kernel_rfl) rfl rfl rfl hb190 rfl rfl (by exact hS) ?_
      refine wh_gn 10 rfl (by kernel_rfl) rfl rfl rfl hb190 rfl rfl (by exact hS) ?_
      refine wh_gn 11 rfl (by kernel_rfl) rfl rfl rfl hb190 rfl rfl (by exact hS) ?_
      refine wh_gn 12 rfl (by kernel_rfl) rfl rfl rfl hb190 rfl rfl (by exact hS) ?_
      refine wh_q 13 rfl (by kernel_rfl) rfl rfl rfl (q_pickF rfl rfl hb190 rfl) (by exact hS) ?_
      refine wh_keep (l' := [(0, Sl.v d_0), (1, Value.int .i64 t_1), (10, Value.int .i64 x25), (11, Value.int .i64 (IntKind.i64.wrap (p_2 - 1))), (43, Value.bool false)]) (keep_cons rfl (keep_cons rfl (keep_cons rfl (keep_cons rfl (keep_cons rfl keep_nil))))) (wh_done (by kernel_rfl) ?_)
      exact ⟨_, (keep_cons rfl (keep_cons rfl (keep_cons rfl (keep_cons rfl (keep_cons rfl keep_nil))))), hD⟩
  · rintro l202 hz29 ⟨x28, hk201, hD⟩
    refine cw_keep hk201 ?_
    unfold D_slices_partitionOrdered_string_j8 at hD
    refine cw_cond rfl (fun hb30 => ?_) (fun hb30 => ?_)
    · have hD := ifT hb30 hD
      refine cw_skip ?_
      refine cw_block ?_
      refine cw_region ?_
      refine wl_q rfl rfl rfl (q_move rfl rfl) ?_
      refine wl_q rfl rfl rfl (q_bin rfl rfl rfl (fun _ _ => rfl)) ?_
      refine wl_q rfl rfl rfl (q_assign rfl rfl) ?_
      refine wl_keep (l' := [(0, Sl.v d_0), (1, Value.int .i64 t_1), (10, Value.int .i64 (IntKind.i64.wrap (x25 + 1))), (11, Value.int .i64 (IntKind.i64.wrap (p_2 - 1)))]) (keep_cons rfl (keep_cons rfl (keep_cons rfl (keep_cons rfl keep_nil)))) (wl_nil ?_)
      rw [hC27] at hD
      exact ⟨(IntKind.i64.wrap (x25 + 1)), (keep_cons rfl (keep_cons rfl (keep_cons rfl (keep_cons rfl keep_nil)))), hD⟩
    · have hD := ifF hb30 hD
      refine cw_exit ?_
      refine xput_same ?_
      refine cw_seq ?_
      refine cw_block ?_
      obtain ⟨I, μ, hI188, hL189⟩ := hD
      refine cw_loops (σ := Int) (fun s => [(0, Sl.v d_0), (1, Value.int .i64 t_1), (10, Value.int .i64 x25), (11, Value.int .i64 s)]) (IntKind.i64.wrap (p_2 - 1)) (fun s h => I s h) (fun s h => μ s h) (keep_cons rfl (keep_cons rfl (keep_cons rfl (keep_cons rfl keep_nil)))) hI188 ?_
      rintro x31 hz32 hI
      have hD := hL189 x31 hz32 hI
      obtain ⟨C33, hC33⟩ : ∃ c : Int → Hp → Prop, c = (fun x31' h' => I x31' h' ∧ μ x31' h' < μ x31 hz32) := ⟨_, rfl⟩
      rw [← hC33] at hD
      unfold D_slices_partitionOrdered_string_l7 at hD
      show cw _ _ _ [(0, Sl.v d_0), (1, Value.int .i64 t_1), (10, Value.int .i64 x25), (11, Value.int .i64 x31)] _ _ _ _
      refine cw_seq ?_
      refine cw_cut (fun l h => ∃ (x34 : Bool), Keep l [(0, Sl.v d_0), (1, Value.int .i64 t_1), (10, Value.int .i64 x25), (11, Value.int .i64 x31), (60, Value.bool x34)] ∧ D_slices_partitionOrdered_string_j6 d_0 t_1 K a1 x25 x31 C33 x34 h) ?_ ?_
      · rcases bool_or (decide (x25 ≤ x31)) with hb175 | hb175
        · have hD := ifT hb175 hD
          obtain ⟨c176, c177, hD⟩ := hD
          obtain ⟨x178, c179, hD⟩ := hD
          obtain ⟨c180, c181, hD⟩ := hD
          obtain ⟨x182, c183, hD⟩ := hD
          refine cw_draw (fun h => cellH h (a1.add (x31.toNat * 1)) = some (Value.string x178) ∧ cellH h (a1.add (t_1.toNat * 1)) = some (Value.string x182) ∧ True) 15 wide ?_
          have hS : cellH hz32 (a1.add (x31.toNat * 1)) = some (Value.string x178) ∧ cellH hz32 (a1.add (t_1.toNat * 1)) = some (Value.string x182) ∧ True := ⟨c179, c183, trivial⟩
          refine wh_q 0 rfl (by kernel_rfl) rfl rfl rfl (q_move rfl rfl) (by exact hS) ?_
          refine wh_q 1 rfl (by kernel_rfl) rfl rfl rfl (q_move rfl rfl) (by exact hS) ?_
          refine wh_q 2 rfl (by kernel_rfl) rfl rfl rfl (q_bin rfl rfl rfl (fun _ _ => rfl)) (by exact hS) ?_
          refine wh_q 3 rfl (by kernel_rfl) rfl rfl rfl (q_move rfl rfl) (by exact hS) ?_
          refine wh_gq 4 rfl (by kernel_rfl) rfl rfl rfl hb175 rfl rfl (q_move rfl rfl) (by exact hS) ?_
          refine wh_gq 5 rfl (by kernel_rfl) rfl rfl rfl hb175 rfl rfl (q_move rfl rfl) (by exact hS) ?_
          refine wh_gq 6 rfl (by kernel_rfl) rfl rfl rfl hb175 rfl rfl (q_indexAddr rfl rfl rfl Go.Proofs.Tryd.underlying49 sz_9 c2 c176 c177) (by exact hS) ?_
          refine wh_gq 7 rfl (by kernel_rfl) rfl rfl rfl hb175 rfl rfl (q_load rfl rfl Go.Proofs.Tryd.underlying9 rfl (by exact fun _ s => s.1)) (by exact hS) ?_
          refine wh_gq 8 rfl (by kernel_rfl) rfl rfl rfl hb175 rfl rfl (q_move rfl rfl) (by exact hS) ?_
          refine wh_gq 9 rfl (by kernel_rfl) rfl rfl rfl hb175 rfl rfl (q_move rfl rfl) (by exact hS) ?_
          refine wh_gq 10 rfl (by kernel_rfl) rfl rfl rfl hb175 rfl rfl (q_indexAddr rfl rfl rfl Go.Proofs.Tryd.underlying49 sz_9 c2 c180 c181) (by exact hS) ?_
          refine wh_gq 11 rfl (by kernel_rfl) rfl rfl rfl hb175 rfl rfl (q_load rfl rfl Go.Proofs.Tryd.underlying9 rfl (by exact fun _ s => s.2.1)) (by exact hS) ?_
          refine wh_ge 12 rfl (by kernel_rfl) rfl rfl rfl hb175 rfl rfl (e_call (first := []) (vs := [Value.string x178, Value.string x182]) (cap := []) rfl rfl rfl cf_75 (CallsH.mono hD ?_))
          rintro _ hz184 ⟨r185, rfl, hD⟩
          obtain ⟨hk0, hk1, hD⟩ := hD
          refine ⟨⟨hk0, hk1, trivial⟩, ?_⟩
          have hS : cellH hz184 (a1.add (x31.toNat * 1)) = some (Value.string x178) ∧ cellH hz184 (a1.add (t_1.toNat * 1)) = some (Value.string x182) ∧ True := ⟨hk0, hk1, trivial⟩
          refine wh_gq 13 rfl (by kernel_rfl) rfl rfl rfl hb175 rfl rfl (q_un rfl rfl (fun _ => rfl)) (by exact hS) ?_
          refine wh_q 14 rfl (by kernel_rfl) rfl rfl rfl (q_pickT rfl rfl hb175 rfl) (by exact hS) ?_
          refine wh_keep (l' := [(0, Sl.v d_0), (1, Value.int .i64 t_1), (10, Value.int .i64 x25), (11, Value.int .i64 x31), (60, Value.bool (!r185))]) (keep_cons rfl (keep_cons rfl (keep_cons rfl (keep_cons rfl (keep_cons rfl keep_nil))))) (wh_done (by kernel_rfl) ?_)
          exact ⟨_, (keep_cons rfl (keep_cons rfl (keep_cons rfl (keep_cons rfl (keep_cons rfl keep_nil))))), hD⟩
        · have hD := ifF hb175 hD
          refine cw_draw (fun h => True) 15 wide ?_
          have hS : True := trivial
          refine wh_q 0 rfl (by kernel_rfl) rfl rfl rfl (q_move rfl rfl) (by exact hS) ?_
          refine wh_q 1 rfl (by kernel_rfl) rfl rfl rfl (q_move rfl rfl) (by exact hS) ?_
          refine wh_q 2 rfl (by kernel_rfl) rfl rfl rfl (q_bin rfl rfl rfl (fun _ _ => rfl)) (by exact hS) ?_
          refine wh_q 3 rfl (by kernel_rfl) rfl rfl rfl (q_move rfl rfl) (by exact hS) ?_
          refine wh_gn 4 rfl (by kernel_rfl) rfl rfl rfl hb175 rfl rfl (by exact hS) ?_
          refine wh_gn 5 rfl (by kernel_rfl) rfl rfl rfl hb175 rfl rfl (by exact hS) ?_
          refine wh_gn 6 rfl (by kernel_rfl) rfl rfl rfl hb175 rfl rfl (by exact hS) ?_
          refine wh_gn 7 rfl (by kernel_rfl) rfl rfl rfl hb175 rfl rfl (by exact hS) ?_
          refine wh_gn 8 rfl (by kernel_rfl) rfl rfl rfl hb175 rfl rfl (by exact hS) ?_
          refine wh_gn 9 rfl (by kernel_rfl) rfl rfl rfl hb175 rfl rfl (by exact hS) ?_
          refine wh_gn 10 rfl (by kernel_rfl) rfl rfl rfl hb175 rfl rfl (by exact hS) ?_
          refine wh_gn 11 rfl (by kernel_rfl) rfl rfl rfl hb175 rfl rfl (by exact hS) ?_
          refine wh_gn 12 rfl (by kernel_rfl) rfl rfl rfl hb175 rfl rfl (by exact hS) ?_
          refine wh_gn 13 rfl (by kernel_rfl) rfl rfl rfl hb175 rfl rfl (by exact hS) ?_
          refine wh_q 14 rfl (by kernel_rfl) rfl rfl rfl (q_pickF rfl rfl hb175 rfl) (by exact hS) ?_
          refine wh_keep (l' := [(0, Sl.v d_0), (1, Value.int .i64 t_1), (10, Value.int .i64 x25), (11, Value.int .i64 x31), (60, Value.bool false)]) (keep_cons rfl (keep_cons rfl (keep_cons rfl (keep_cons rfl (keep_cons rfl keep_nil))))) (wh_done (by kernel_rfl) ?_)
          exact ⟨_, (keep_cons rfl (keep_cons rfl (keep_cons rfl (keep_cons rfl (keep_cons rfl keep_nil))))), hD⟩
      · rintro l187 hz35 ⟨x34, hk186, hD⟩
        refine cw_keep hk186 ?_
        unfold D_slices_partitionOrdered_string_j6 at hD
        refine cw_cond rfl (fun hb36 => ?_) (fun hb36 => ?_)
        · have hD := ifT hb36 hD
          refine cw_skip ?_
          refine cw_block ?_
          refine cw_region ?_
          refine wl_q rfl rfl rfl (q_move rfl rfl) ?_
          refine wl_q rfl rfl rfl (q_bin rfl rfl rfl (fun _ _ => rfl)) ?_
          refine wl_q rfl rfl rfl (q_assign rfl rfl) ?_
          refine wl_keep (l' := [(0, Sl.v d_0), (1, Value.int .i64 t_1), (10, Value.int .i64 x25), (11, Value.int .i64 (IntKind.i64.wrap (x31 - 1)))]) (keep_cons rfl (keep_cons rfl (keep_cons rfl (keep_cons rfl keep_nil)))) (wl_nil ?_)
          rw [hC33] at hD
          exact ⟨(IntKind.i64.wrap (x31 - 1)), (keep_cons rfl (keep_cons rfl (keep_cons rfl (keep_cons rfl keep_nil)))), hD⟩
        · have hD := ifF hb36 hD
          refine cw_exit ?_
          refine xput_same ?_
          refine cw_seq ?_
          refine cw_seq ?_
          refine cw_region ?_
          refine wl_q rfl rfl rfl (q_move rfl rfl) ?_
          refine wl_q rfl rfl rfl (q_move rfl rfl) ?_
          refine wl_q rfl rfl rfl (q_bin rfl rfl rfl (fun _ _ => rfl)) ?_
          refine wl_keep (l' := [(0, Sl.v d_0), (1, Value.int .i64 t_1), (10, Value.int .i64 x25), (11, Value.int .i64 x31), (65, Value.bool (decide (x25 > x31)))]) (keep_cons rfl (keep_cons rfl (keep_cons rfl (keep_cons rfl (keep_cons rfl keep_nil))))) (wl_nil ?_)
          refine cw_cond rfl (fun hb37 => ?_) (fun hb37 => ?_)
          · have hD := ifT hb37 hD
            refine cw_seq ?_
            obtain ⟨c38, c39, hD⟩ := hD
            obtain ⟨x40, c41, hD⟩ := hD
            obtain ⟨c42, c43, hD⟩ := hD
            obtain ⟨x44, c45, hD⟩ := hD
            obtain ⟨c46, c47, hD⟩ := hD
            refine cw_draw (fun h => cellH h (a1.add (t_1.toNat * 1)) = some (Value.string x40) ∧ cellH h (a1.add (x31.toNat * 1)) = some (Value.string x44) ∧ True) 15 wide ?_
            have hS : cellH hz35 (a1.add (t_1.toNat * 1)) = some (Value.string x40) ∧ cellH hz35 (a1.add (x31.toNat * 1)) = some (Value.string x44) ∧ True := ⟨c41, c45, trivial⟩
            refine wh_q 0 rfl (by kernel_rfl) rfl rfl rfl (q_move rfl rfl) (by exact hS) ?_
            refine wh_q 1 rfl (by kernel_rfl) rfl rfl rfl (q_move rfl rfl) (by exact hS) ?_
            refine wh_q 2 rfl (by kernel_rfl) rfl rfl rfl (q_move rfl rfl) (by exact hS) ?_
            refine wh_q 3 rfl (by kernel_rfl) rfl rfl rfl (q_move rfl rfl) (by exact hS) ?_
            refine wh_q 4 rfl (by kernel_rfl) rfl rfl rfl (q_move rfl rfl) (by exact hS) ?_
            refine wh_q 5 rfl (by kernel_rfl) rfl rfl rfl (q_move rfl rfl) (by exact hS) ?_
            refine wh_q 6 rfl (by kernel_rfl) rfl rfl rfl (q_indexAddr rfl rfl rfl Go.Proofs.Tryd.underlying49 sz_9 c2 c38 c39) (by exact hS) ?_
            refine wh_q 7 rfl (by kernel_rfl) rfl rfl rfl (q_load rfl rfl Go.Proofs.Tryd.underlying9 rfl (by exact fun _ s => s.1)) (by exact hS) ?_
            refine wh_q 8 rfl (by kernel_rfl) rfl rfl rfl (q_move rfl rfl) (by exact hS) ?_
            refine wh_q 9 rfl (by kernel_rfl) rfl rfl rfl (q_move rfl rfl) (by exact hS) ?_
            refine wh_q 10 rfl (by kernel_rfl) rfl rfl rfl (q_indexAddr rfl rfl rfl Go.Proofs.Tryd.underlying49 sz_9 c2 c42 c43) (by exact hS) ?_
            refine wh_q 11 rfl (by kernel_rfl) rfl rfl rfl (q_load rfl rfl Go.Proofs.Tryd.underlying9 rfl (by exact fun _ s => s.2.1)) (by exact hS) ?_
            refine wh_q 12 rfl (by kernel_rfl) rfl rfl rfl (q_indexAddr rfl rfl rfl Go.Proofs.Tryd.underlying49 sz_9 c2 c46 c47) (by exact hS) ?_
            obtain ⟨u49, c50, c51, hD⟩ := hD
            refine wh_e0 13 rfl (by kernel_rfl) rfl rfl (e_store rfl rfl rfl sz_9 trivial c50 c51 ?_)
            intro hz48 e52
            have hD := hD hz48 e52
            obtain ⟨hk0, hk1, hD⟩ := hD
            refine ⟨⟨hk0, hk1, trivial⟩, ?_⟩
            have hS : cellH hz48 (a1.add (t_1.toNat * 1)) = some (Value.string x40) ∧ cellH hz48 (a1.add (x31.toNat * 1)) = some (Value.string x44) ∧ True := ⟨hk0, hk1, trivial⟩
            obtain ⟨c53, c54, hD⟩ := hD
            refine wh_q 14 rfl (by kernel_rfl) rfl rfl rfl (q_indexAddr rfl rfl rfl Go.Proofs.Tryd.underlying49 sz_9 c2 c53 c54) (by exact hS) ?_
            obtain ⟨u56, c57, c58, hD⟩ := hD
            refine wh_last 15 rfl (by kernel_rfl) rfl rfl rfl (e_store rfl rfl rfl sz_9 trivial c57 c58 ?_)
            intro hz55 e59
            have hD := hD hz55 e59
            refine wh_keep (l' := [(11, Value.int .i64 x31)]) (keep_cons rfl keep_nil) (wh_done (by kernel_rfl) ?_)
            refine cw_seq ?_
            refine cw_region ?_
            refine wl_q rfl rfl rfl (q_move rfl rfl) ?_
            refine wl_q rfl rfl rfl (q_assign rfl rfl) ?_
            refine wl_q rfl rfl rfl (q_assign rfl rfl) ?_
            refine wl_keep (l' := [(8, Value.int .i64 x31), (9, Value.bool true)]) (keep_cons rfl (keep_cons rfl keep_nil)) (wl_nil ?_)
            refine cw_ret ?_
            exact ⟨_, resq2 rfl rfl rfl, _, _, rfl, hD⟩
          · have hD := ifF hb37 hD
            refine cw_skip ?_
            refine cw_seq ?_
            obtain ⟨c60, c61, hD⟩ := hD
            obtain ⟨x62, c63, hD⟩ := hD
            obtain ⟨c64, c65, hD⟩ := hD
            obtain ⟨x66, c67, hD⟩ := hD
            obtain ⟨c68, c69, hD⟩ := hD
            refine cw_draw (fun h => cellH h (a1.add (x31.toNat * 1)) = some (Value.string x62) ∧ cellH h (a1.add (x25.toNat * 1)) = some (Value.string x66) ∧ True) 15 wide ?_
            have hS : cellH hz35 (a1.add (x31.toNat * 1)) = some (Value.string x62) ∧ cellH hz35 (a1.add (x25.toNat * 1)) = some (Value.string x66) ∧ True := ⟨c63, c67, trivial⟩
            refine wh_q 0 rfl (by kernel_rfl) rfl rfl rfl (q_move rfl rfl) (by exact hS) ?_
            refine wh_q 1 rfl (by kernel_rfl) rfl rfl rfl (q_move rfl rfl) (by exact hS) ?_
            refine wh_q 2 rfl (by kernel_rfl) rfl rfl rfl (q_move rfl rfl) (by exact hS) ?_
            refine wh_q 3 rfl (by kernel_rfl) rfl rfl rfl (q_move rfl rfl) (by exact hS) ?_
            refine wh_q 4 rfl (by kernel_rfl) rfl rfl rfl (q_move rfl rfl) (by exact hS) ?_
            refine wh_q 5 rfl (by kernel_rfl) rfl rfl rfl (q_move rfl rfl) (by exact hS) ?_
            refine wh_q 6 rfl (by kernel_rfl) rfl rfl rfl (q_indexAddr rfl rfl rfl Go.Proofs.Tryd.underlying49 sz_9 c2 c60 c61) (by exact hS) ?_
            refine wh_q 7 rfl (by kernel_rfl) rfl rfl rfl (q_load rfl rfl Go.Proofs.Tryd.underlying9 rfl (by exact fun _ s => s.1)) (by exact hS) ?_
            refine wh_q 8 rfl (by kernel_rfl) rfl rfl rfl (q_move rfl rfl) (by exact hS) ?_
            refine wh_q 9 rfl (by kernel_rfl) rfl rfl rfl (q_move rfl rfl) (by exact hS) ?_
            refine wh_q 10 rfl (by kernel_rfl) rfl rfl rfl (q_indexAddr rfl rfl rfl Go.Proofs.Tryd.underlying49 sz_9 c2 c64 c65) (by exact hS) ?_
            refine wh_q 11 rfl (by kernel_rfl) rfl rfl rfl (q_load rfl rfl Go.Proofs.Tryd.underlying9 rfl (by exact fun _ s => s.2.1)) (by exact hS) ?_
            refine wh_q 12 rfl (by kernel_rfl) rfl rfl rfl (q_indexAddr rfl rfl rfl Go.Proofs.Tryd.underlying49 sz_9 c2 c68 c69) (by exact hS) ?_
            obtain ⟨u71, c72, c73, hD⟩ := hD
            refine wh_e0 13 rfl (by kernel_rfl) rfl rfl (e_store rfl rfl rfl sz_9 trivial c72 c73 ?_)
            intro hz70 e74
            have hD := hD hz70 e74
            obtain ⟨hk0, hk1, hD⟩ := hD
            refine ⟨⟨hk0, hk1, trivial⟩, ?_⟩
            have hS : cellH hz70 (a1.add (x31.toNat * 1)) = some (Value.string x62) ∧ cellH hz70 (a1.add (x25.toNat * 1)) = some (Value.string x66) ∧ True := ⟨hk0, hk1, trivial⟩
            obtain ⟨c75, c76, hD⟩ := hD
            refine wh_q 14 rfl (by kernel_rfl) rfl rfl rfl (q_indexAddr rfl rfl rfl Go.Proofs.Tryd.underlying49 sz_9 c2 c75 c76) (by exact hS) ?_
            obtain ⟨u78, c79, c80, hD⟩ := hD
            refine wh_last 15 rfl (by kernel_rfl) rfl rfl rfl (e_store rfl rfl rfl sz_9 trivial c79 c80 ?_)
            intro hz77 e81
            have hD := hD hz77 e81
            refine wh_keep (l' := [(0, Sl.v d_0), (1, Value.int .i64 t_1), (10, Value.int .i64 x25), (11, Value.int .i64 x31)]) (keep_cons rfl (keep_cons rfl (keep_cons rfl (keep_cons rfl keep_nil)))) (wh_done (by kernel_rfl) ?_)
            refine cw_seq ?_
            refine cw_region ?_
            refine wl_q rfl rfl rfl (q_move rfl rfl) ?_
            refine wl_q rfl rfl rfl (q_bin rfl rfl rfl (fun _ _ => rfl)) ?_
            refine wl_q rfl rfl rfl (q_assign rfl rfl) ?_
            refine wl_keep (l' := [(0, Sl.v d_0), (1, Value.int .i64 t_1), (10, Value.int .i64 (IntKind.i64.wrap (x25 + 1))), (11, Value.int .i64 x31)]) (keep_cons rfl (keep_cons rfl (keep_cons rfl (keep_cons rfl keep_nil)))) (wl_nil ?_)
            refine cw_seq ?_
            refine cw_region ?_
            refine wl_q rfl rfl rfl (q_move rfl rfl) ?_
            refine wl_q rfl rfl rfl (q_bin rfl rfl rfl (fun _ _ => rfl)) ?_
            refine wl_q rfl rfl rfl (q_assign rfl rfl) ?_
            refine wl_keep (l' := [(0, Sl.v d_0), (1, Value.int .i64 t_1), (10, Value.int .i64 (IntKind.i64.wrap (x25 + 1))), (11, Value.int .i64 (IntKind.i64.wrap (x31 - 1)))]) (keep_cons rfl (keep_cons rfl (keep_cons rfl (keep_cons rfl keep_nil)))) (wl_nil ?_)
            refine cw_seq ?_
            refine cw_block ?_
            obtain ⟨I, μ, hI173, hL174⟩ := hD
            refine cw_loops (σ := Int × Int) (fun s => [(0, Sl.v d_0), (1, Value.int .i64 t_1), (10, Value.int .i64 s.1), (11, Value.int .i64 s.2)]) (IntKind.i64.wrap (x25 + 1), IntKind.i64.wrap (x31 - 1)) (fun s h => I s.1 s.2 h) (fun s h => μ s.1 s.2 h) (keep_cons rfl (keep_cons rfl (keep_cons rfl (keep_cons rfl keep_nil)))) hI173 ?_
            rintro ⟨x82, x83⟩ hz84 hI
            have hD := hL174 x82 x83 hz84 hI
            obtain ⟨C85, hC85⟩ : ∃ c : Int → Int → Hp → Prop, c = (fun x82' x83' h' => I x82' x83' h' ∧ μ x82' x83' h' < μ x82 x83 hz84) := ⟨_, rfl⟩
            rw [← hC85] at hD
            unfold D_slices_partitionOrdered_string_l5 at hD
            show cw _ _ _ [(0, Sl.v d_0), (1, Value.int .i64 t_1), (10, Value.int .i64 x82), (11, Value.int .i64 x83)] _ _ _ _
            refine cw_block ?_
            refine cw_seq ?_
            refine cw_block ?_
            obtain ⟨I, μ, hI171, hL172⟩ := hD
            refine cw_loops (σ := Int) (fun s => [(0, Sl.v d_0), (1, Value.int .i64 t_1), (10, Value.int .i64 s), (11, Value.int .i64 x83)]) (x82) (fun s h => I s h) (fun s h => μ s h) (keep_cons rfl (keep_cons rfl (keep_cons rfl (keep_cons rfl keep_nil)))) hI171 ?_
            rintro x86 hz87 hI
            have hD := hL172 x86 hz87 hI
            obtain ⟨C88, hC88⟩ : ∃ c : Int → Hp → Prop, c = (fun x86' h' => I x86' h' ∧ μ x86' h' < μ x86 hz87) := ⟨_, rfl⟩
            rw [← hC88] at hD
            unfold D_slices_partitionOrdered_string_l4 at hD
            show cw _ _ _ [(0, Sl.v d_0), (1, Value.int .i64 t_1), (10, Value.int .i64 x86), (11, Value.int .i64 x83)] _ _ _ _
            refine cw_seq ?_
            refine cw_cut (fun l h => ∃ (x89 : Bool), Keep l [(0, Sl.v d_0), (1, Value.int .i64 t_1), (10, Value.int .i64 x86), (11, Value.int .i64 x83), (112, Value.bool x89)] ∧ D_slices_partitionOrdered_string_j3 d_0 t_1 K a1 x83 C85 x86 C88 x89 h) ?_ ?_
            · rcases bool_or (decide (x86 ≤ x83)) with hb158 | hb158
              · have hD := ifT hb158 hD
                obtain ⟨c159, c160, hD⟩ := hD
                obtain ⟨x161, c162, hD⟩ := hD
                obtain ⟨c163, c164, hD⟩ := hD
                obtain ⟨x165, c166, hD⟩ := hD
                refine cw_draw (fun h => cellH h (a1.add (x86.toNat * 1)) = some (Value.string x161) ∧ cellH h (a1.add (t_1.toNat * 1)) = some (Value.string x165) ∧ True) 14 wide ?_
                have hS : cellH hz87 (a1.add (x86.toNat * 1)) = some (Value.string x161) ∧ cellH hz87 (a1.add (t_1.toNat * 1)) = some (Value.string x165) ∧ True := ⟨c162, c166, trivial⟩
                refine wh_q 0 rfl (by kernel_rfl) rfl rfl rfl (q_move rfl rfl) (by exact hS) ?_
                refine wh_q 1 rfl (by kernel_rfl) rfl rfl rfl (q_move rfl rfl) (by exact hS) ?_
                refine wh_q 2 rfl (by kernel_rfl) rfl rfl rfl (q_bin rfl rfl rfl (fun _ _ => rfl)) (by exact hS) ?_
                refine wh_q 3 rfl (by kernel_rfl) rfl rfl rfl (q_move rfl rfl) (by exact hS) ?_
                refine wh_gq 4 rfl (by kernel_rfl) rfl rfl rfl hb158 rfl rfl (q_move rfl rfl) (by exact hS) ?_
                refine wh_gq 5 rfl (by kernel_rfl) rfl rfl rfl hb158 rfl rfl (q_move rfl rfl) (by exact hS) ?_
                refine wh_gq 6 rfl (by kernel_rfl) rfl rfl rfl hb158 rfl rfl (q_indexAddr rfl rfl rfl Go.Proofs.Tryd.underlying49 sz_9 c2 c159 c160) (by exact hS) ?_
                refine wh_gq 7 rfl (by kernel_rfl) rfl rfl rfl hb158 rfl rfl (q_load rfl rfl Go.Proofs.Tryd.underlying9 rfl (by exact fun _ s => s.1)) (by exact hS) ?_
                refine wh_gq 8 rfl (by kernel_rfl) rfl rfl rfl hb158 rfl rfl (q_move rfl rfl) (by exact hS) ?_
                refine wh_gq 9 rfl (by kernel_rfl) rfl rfl rfl hb158 rfl rfl (q_move rfl rfl) (by exact hS) ?_
                refine wh_gq 10 rfl (by kernel_rfl) rfl rfl rfl hb158 rfl rfl (q_indexAddr rfl rfl rfl Go.Proofs.Tryd.underlying49 sz_9 c2 c163 c164) (by exact hS) ?_
                refine wh_gq 11 rfl (by kernel_rfl) rfl rfl rfl hb158 rfl rfl (q_load rfl rfl Go.Proofs.Tryd.underlying9 rfl (by exact fun _ s => s.2.1)) (by exact hS) ?_
                refine wh_ge 12 rfl (by kernel_rfl) rfl rfl rfl hb158 rfl rfl (e_call (first := []) (vs := [Value.string x161, Value.string x165]) (cap := []) rfl rfl rfl cf_75 (CallsH.mono hD ?_))
                rintro _ hz167 ⟨r168, rfl, hD⟩
                obtain ⟨hk0, hk1, hD⟩ := hD
                refine ⟨⟨hk0, hk1, trivial⟩, ?_⟩
                have hS : cellH hz167 (a1.add (x86.toNat * 1)) = some (Value.string x161) ∧ cellH hz167 (a1.add (t_1.toNat * 1)) = some (Value.string x165) ∧ True := ⟨hk0, hk1, trivial⟩
                refine wh_q 13 rfl (by kernel_rfl) rfl rfl rfl (q_pickT rfl rfl hb158 rfl) (by exact hS) ?_
                refine wh_keep (l' := [(0, Sl.v d_0), (1, Value.int .i64 t_1), (10, Value.int .i64 x86), (11, Value.int .i64 x83), (112, Value.bool r168)]) (keep_cons rfl (keep_cons rfl (keep_cons rfl (keep_cons rfl (keep_cons rfl keep_nil))))) (wh_done (by kernel_rfl) ?_)
                exact ⟨_, (keep_cons rfl (keep_cons rfl (keep_cons rfl (keep_cons rfl (keep_cons rfl keep_nil))))), hD⟩
              · have hD := ifF hb158 hD
                refine cw_draw (fun h => True) 14 wide ?_
                have hS : True := trivial
                refine wh_q 0 rfl (by kernel_rfl) rfl rfl rfl (q_move rfl rfl) (by exact hS) ?_
                refine wh_q 1 rfl (by kernel_rfl) rfl rfl rfl (q_move rfl rfl) (by exact hS) ?_
                refine wh_q 2 rfl (by kernel_rfl) rfl rfl rfl (q_bin rfl rfl rfl (fun _ _ => rfl)) (by exact hS) ?_
                refine wh_q 3 rfl (by kernel_rfl) rfl rfl rfl (q_move rfl rfl) (by exact hS) ?_
                refine wh_gn 4 rfl (by kernel_rfl) rfl rfl rfl hb158 rfl rfl (by exact hS) ?_
                refine wh_gn 5 rfl (by kernel_rfl) rfl rfl rfl hb158 rfl rfl (by exact hS) ?_
                refine wh_gn 6 rfl (by kernel_rfl) rfl rfl rfl hb158 rfl rfl (by exact hS) ?_
                refine wh_gn 7 rfl (by kernel_rfl) rfl rfl rfl hb158 rfl rfl (by exact hS) ?_
                refine wh_gn 8 rfl (by kernel_rfl) rfl rfl rfl hb158 rfl rfl (by exact hS) ?_
                refine wh_gn 9 rfl (by kernel_rfl) rfl rfl rfl hb158 rfl rfl (by exact hS) ?_
                refine wh_gn 10 rfl (by kernel_rfl) rfl rfl rfl hb158 rfl rfl (by exact hS) ?_
                refine wh_gn 11 rfl (by kernel_rfl) rfl rfl rfl hb158 rfl rfl (by exact hS) ?_
                refine wh_gn 12 rfl (by kernel_rfl) rfl rfl rfl hb158 rfl rfl (by exact hS) ?_
                refine wh_q 13 rfl (by kernel_rfl) rfl rfl rfl (q_pickF rfl rfl hb158 rfl) (by exact hS) ?_
                refine wh_keep (l' := [(0, Sl.v d_0), (1, Value.int .i64 t_1), (10, Value.int .i64 x86), (11, Value.int .i64 x83), (112, Value.bool false)]) (keep_cons rfl (keep_cons rfl (keep_cons rfl (keep_cons rfl (keep_cons rfl keep_nil))))) (wh_done (by kernel_rfl) ?_)
                exact ⟨_, (keep_cons rfl (keep_cons rfl (keep_cons rfl (keep_cons rfl (keep_cons rfl keep_nil))))), hD⟩
            · rintro l170 hz90 ⟨x89, hk169, hD⟩
              refine cw_keep hk169 ?_
              unfold D_slices_partitionOrdered_string_j3 at hD
              refine cw_cond rfl (fun hb91 => ?_) (fun hb91 => ?_)
              · have hD := ifT hb91 hD
                refine cw_skip ?_
                refine cw_block ?_
                refine cw_region ?_
                refine wl_q rfl rfl rfl (q_move rfl rfl) ?_
                refine wl_q rfl rfl rfl (q_bin rfl rfl rfl (fun _ _ => rfl)) ?_
                refine wl_q rfl rfl rfl (q_assign rfl rfl) ?_
                refine wl_keep (l' := [(0, Sl.v d_0), (1, Value.int .i64 t_1), (10, Value.int .i64 (IntKind.i64.wrap (x86 + 1))), (11, Value.int .i64 x83)]) (keep_cons rfl (keep_cons rfl (keep_cons rfl (keep_cons rfl keep_nil)))) (wl_nil ?_)
                rw [hC88] at hD
                exact ⟨(IntKind.i64.wrap (x86 + 1)), (keep_cons rfl (keep_cons rfl (keep_cons rfl (keep_cons rfl keep_nil)))), hD⟩
              · have hD := ifF hb91 hD
                refine cw_exit ?_
                refine xput_same ?_
                refine cw_seq ?_
                refine cw_block ?_
                obtain ⟨I, μ, hI156, hL157⟩ := hD
                refine cw_loops (σ := Int) (fun s => [(0, Sl.v d_0), (1, Value.int .i64 t_1), (10, Value.int .i64 x86), (11, Value.int .i64 s)]) (x83) (fun s h => I s h) (fun s h => μ s h) (keep_cons rfl (keep_cons rfl (keep_cons rfl (keep_cons rfl keep_nil)))) hI156 ?_
                rintro x92 hz93 hI
                have hD := hL157 x92 hz93 hI
                obtain ⟨C94, hC94⟩ : ∃ c : Int → Hp → Prop, c = (fun x92' h' => I x92' h' ∧ μ x92' h' < μ x92 hz93) := ⟨_, rfl⟩
                rw [← hC94] at hD
                unfold D_slices_partitionOrdered_string_l2 at hD
                show cw _ _ _ [(0, Sl.v d_0), (1, Value.int .i64 t_1), (10, Value.int .i64 x86), (11, Value.int .i64 x92)] _ _ _ _
                refine cw_seq ?_
                refine cw_cut (fun l h => ∃ (x95 : Bool), Keep l [(0, Sl.v d_0), (1, Value.int .i64 t_1), (10, Value.int .i64 x86), (11, Value.int .i64 x92), (129, Value.bool x95)] ∧ D_slices_partitionOrdered_string_j1 d_0 t_1 K a1 C85 x86 x92 C94 x95 h) ?_ ?_
                · rcases bool_or (decide (x86 ≤ x92)) with hb143 | hb143
                  · have hD := ifT hb143 hD
                    obtain ⟨c144, c145, hD⟩ := hD
                    obtain ⟨x146, c147, hD⟩ := hD
                    obtain ⟨c148, c149, hD⟩ := hD
                    obtain ⟨x150, c151, hD⟩ := hD
                    refine cw_draw (fun h => cellH h (a1.add (x92.toNat * 1)) = some (Value.string x146) ∧ cellH h (a1.add (t_1.toNat * 1)) = some (Value.string x150) ∧ True) 15 wide ?_
                    have hS : cellH hz93 (a1.add (x92.toNat * 1)) = some (Value.string x146) ∧ cellH hz93 (a1.add (t_1.toNat * 1)) = some (Value.string x150) ∧ True := ⟨c147, c151, trivial⟩
                    refine wh_q 0 rfl (by kernel_rfl) rfl rfl rfl (q_move rfl rfl) (by exact hS) ?_
                    refine wh_q 1 rfl (by kernel_rfl) rfl rfl rfl (q_move rfl rfl) (by exact hS) ?_
                    refine wh_q 2 rfl (by kernel_rfl) rfl rfl rfl (q_bin rfl rfl rfl (fun _ _ => rfl)) (by exact hS) ?_
                    refine wh_q 3 rfl (by kernel_rfl) rfl rfl rfl (q_move rfl rfl) (by exact hS) ?_
                    refine wh_gq 4 rfl (by kernel_rfl) rfl rfl rfl hb143 rfl rfl (q_move rfl rfl) (by exact hS) ?_
                    refine wh_gq 5 rfl (by kernel_rfl) rfl rfl rfl hb143 rfl rfl (q_move rfl rfl) (by exact hS) ?_
                    refine wh_gq 6 rfl (by kernel_rfl) rfl rfl rfl hb143 rfl rfl (q_indexAddr rfl rfl rfl Go.Proofs.Tryd.underlying49 sz_9 c2 c144 c145) (by exact hS) ?_
                    refine wh_gq 7 rfl (by kernel_rfl) rfl rfl rfl hb143 rfl rfl (q_load rfl rfl Go.Proofs.Tryd.underlying9 rfl (by exact fun _ s => s.1)) (by exact hS) ?_
                    refine wh_gq 8 rfl (by kernel_rfl) rfl rfl rfl hb143 rfl rfl (q_move rfl rfl) (by exact hS) ?_
                    refine wh_gq 9 rfl (by kernel_rfl) rfl rfl rfl hb143 rfl rfl (q_move rfl rfl) (by exact hS) ?_
                    refine wh_gq 10 rfl (by kernel_rfl) rfl rfl rfl hb143 rfl rfl (q_indexAddr rfl rfl rfl Go.Proofs.Tryd.underlying49 sz_9 c2 c148 c149) (by exact hS) ?_
                    refine wh_gq 11 rfl (by kernel_rfl) rfl rfl rfl hb143 rfl rfl (q_load rfl rfl Go.Proofs.Tryd.underlying9 rfl (by exact fun _ s => s.2.1)) (by exact hS) ?_
                    refine wh_ge 12 rfl (by kernel_rfl) rfl rfl rfl hb143 rfl rfl (e_call (first := []) (vs := [Value.string x146, Value.string x150]) (cap := []) rfl rfl rfl cf_75 (CallsH.mono hD ?_))
                    rintro _ hz152 ⟨r153, rfl, hD⟩
                    obtain ⟨hk0, hk1, hD⟩ := hD
                    refine ⟨⟨hk0, hk1, trivial⟩, ?_⟩
                    have hS : cellH hz152 (a1.add (x92.toNat * 1)) = some (Value.string x146) ∧ cellH hz152 (a1.add (t_1.toNat * 1)) = some (Value.string x150) ∧ True := ⟨hk0, hk1, trivial⟩
                    refine wh_gq 13 rfl (by kernel_rfl) rfl rfl rfl hb143 rfl rfl (q_un rfl rfl (fun _ => rfl)) (by exact hS) ?_
                    refine wh_q 14 rfl (by kernel_rfl) rfl rfl rfl (q_pickT rfl rfl hb143 rfl) (by exact hS) ?_
                    refine wh_keep (l' := [(0, Sl.v d_0), (1, Value.int .i64 t_1), (10, Value.int .i64 x86), (11, Value.int .i64 x92), (129, Value.bool (!r153))]) (keep_cons rfl (keep_cons rfl (keep_cons rfl (keep_cons rfl (keep_cons rfl keep_nil))))) (wh_done (by kernel_rfl) ?_)
                    exact ⟨_, (keep_cons rfl (keep_cons rfl (keep_cons rfl (keep_cons rfl (keep_cons rfl keep_nil))))), hD⟩
                  · have hD := ifF hb143 hD
                    refine cw_draw (fun h => True) 15 wide ?_
                    have hS : True := trivial
                    refine wh_q 0 rfl (by kernel_rfl) rfl rfl rfl (q_move rfl rfl) (by exact hS) ?_
                    refine wh_q 1 rfl (by kernel_rfl) rfl rfl rfl (q_move rfl rfl) (by exact hS) ?_
                    refine wh_q 2 rfl (by kernel_rfl) rfl rfl rfl (q_bin rfl rfl rfl (fun _ _ => rfl)) (by exact hS) ?_
                    refine wh_q 3 rfl (by kernel_rfl) rfl rfl rfl (q_move rfl rfl) (by exact hS) ?_
                    refine wh_gn 4 rfl (by kernel_rfl) rfl rfl rfl hb143 rfl rfl (by exact hS) ?_
                    refine wh_gn 5 rfl (by kernel_rfl) rfl rfl rfl hb143 rfl rfl (by exact hS) ?_
                    refine wh_gn 6 rfl (by kernel_rfl) rfl rfl rfl hb143 rfl rfl (by exact hS) ?_
                    refine wh_gn 7 rfl (by kernel_rfl) rfl rfl rfl hb143 rfl rfl (by exact hS) ?_
                    refine wh_gn 8 rfl (by kernel_rfl) rfl rfl rfl hb143 rfl rfl (by exact hS) ?_
                    refine wh_gn 9 rfl (by kernel_rfl) rfl rfl rfl hb143 rfl rfl (by exact hS) ?_
                    refine wh_gn 10 rfl (by kernel_rfl) rfl rfl rfl hb143 rfl rfl (by exact hS) ?_
                    refine wh_gn 11 rfl (by kernel_rfl) rfl rfl rfl hb143 rfl rfl (by exact hS) ?_
                    refine wh_gn 12 rfl (by kernel_rfl) rfl rfl rfl hb143 rfl rfl (by exact hS) ?_
                    refine wh_gn 13 rfl (by kernel_rfl) rfl rfl rfl hb143 rfl rfl (by exact hS) ?_
                    refine wh_q 14 rfl (by kernel_rfl) rfl rfl rfl (q_pickF rfl rfl hb143 rfl) (by exact hS) ?_
                    refine wh_keep (l' := [(0, Sl.v d_0), (1, Value.int .i64 t_1), (10, Value.int .i64 x86), (11, Value.int .i64 x92), (129, Value.bool false)]) (keep_cons rfl (keep_cons rfl (keep_cons rfl (keep_cons rfl (keep_cons rfl keep_nil))))) (wh_done (by kernel_rfl) ?_)
                    exact ⟨_, (keep_cons rfl (keep_cons rfl (keep_cons rfl (keep_cons rfl (keep_cons rfl keep_nil))))), hD⟩
                · rintro l155 hz96 ⟨x95, hk154, hD⟩
                  refine cw_keep hk154 ?_
                  unfold D_slices_partitionOrdered_string_j1 at hD
                  refine cw_cond rfl (fun hb97 => ?_) (fun hb97 => ?_)
                  · have hD := ifT hb97 hD
                    refine cw_skip ?_
                    refine cw_block ?_
                    refine cw_region ?_
                    refine wl_q rfl rfl rfl (q_move rfl rfl) ?_
                    refine wl_q rfl rfl rfl (q_bin rfl rfl rfl (fun _ _ => rfl)) ?_
                    refine wl_q rfl rfl rfl (q_assign rfl rfl) ?_
                    refine wl_keep (l' := [(0, Sl.v d_0), (1, Value.int .i64 t_1), (10, Value.int .i64 x86), (11, Value.int .i64 (IntKind.i64.wrap (x92 - 1)))]) (keep_cons rfl (keep_cons rfl (keep_cons rfl (keep_cons rfl keep_nil)))) (wl_nil ?_)
                    rw [hC94] at hD
                    exact ⟨(IntKind.i64.wrap (x92 - 1)), (keep_cons rfl (keep_cons rfl (keep_cons rfl (keep_cons rfl keep_nil)))), hD⟩
                  · have hD := ifF hb97 hD
                    refine cw_exit ?_
                    refine xput_same ?_
                    refine cw_seq ?_
                    refine cw_seq ?_
                    refine cw_region ?_
                    refine wl_q rfl rfl rfl (q_move rfl rfl) ?_
                    refine wl_q rfl rfl rfl (q_move rfl rfl) ?_
                    refine wl_q rfl rfl rfl (q_bin rfl rfl rfl (fun _ _ => rfl)) ?_
                    refine wl_keep (l' := [(0, Sl.v d_0), (1, Value.int .i64 t_1), (10, Value.int .i64 x86), (11, Value.int .i64 x92), (134, Value.bool (decide (x86 > x92)))]) (keep_cons rfl (keep_cons rfl (keep_cons rfl (keep_cons rfl (keep_cons rfl keep_nil))))) (wl_nil ?_)
                    refine cw_cond rfl (fun hb98 => ?_) (fun hb98 => ?_)
                    · have hD := ifT hb98 hD
                      refine cw_exit ?_
                      refine xput_other rfl ?_
                      refine xput_same ?_
                      refine cw_seq ?_
                      obtain ⟨c99, c100, hD⟩ := hD
                      obtain ⟨x101, c102, hD⟩ := hD
                      obtain ⟨c103, c104, hD⟩ := hD
                      obtain ⟨x105, c106, hD⟩ := hD
                      obtain ⟨c107, c108, hD⟩ := hD
                      refine cw_draw (fun h => cellH h (a1.add (t_1.toNat * 1)) = some (Value.string x101) ∧ cellH h (a1.add (x92.toNat * 1)) = some (Value.string x105) ∧ True) 15 wide ?_
                      have hS : cellH hz96 (a1.add (t_1.toNat * 1)) = some (Value.string x101) ∧ cellH hz96 (a1.add (x92.toNat * 1)) = some (Value.string x105) ∧ True := ⟨c102, c106, trivial⟩
                      refine wh_q 0 rfl (by kernel_rfl) rfl rfl rfl (q_move rfl rfl) (by exact hS) ?_
                      refine wh_q 1 rfl (by kernel_rfl) rfl rfl rfl (q_move rfl rfl) (by exact hS) ?_
                      refine wh_q 2 rfl (by kernel_rfl) rfl rfl rfl (q_move rfl rfl) (by exact hS) ?_
                      refine wh_q 3 rfl (by kernel_rfl) rfl rfl rfl (q_move rfl rfl) (by exact hS) ?_
                      refine wh_q 4 rfl (by kernel_rfl) rfl rfl rfl (q_move rfl rfl) (by exact hS) ?_
                      refine wh_q 5 rfl (by kernel_rfl) rfl rfl rfl (q_move rfl rfl) (by exact hS) ?_
                      refine wh_q 6 rfl (by kernel_rfl) rfl rfl rfl (q_indexAddr rfl rfl rfl Go.Proofs.Tryd.underlying49 sz_9 c2 c99 c100) (by exact hS) ?_
                      refine wh_q 7 rfl (by kernel_rfl) rfl rfl rfl (q_load rfl rfl Go.Proofs.Tryd.underlying9 rfl (by exact fun _ s => s.1)) (by exact hS) ?_
                      refine wh_q 8 rfl (by kernel_rfl) rfl rfl rfl (q_move rfl rfl) (by exact hS) ?_
                      refine wh_q 9 rfl (by kernel_rfl) rfl rfl rfl (q_move rfl rfl) (by exact hS) ?_
                      refine wh_q 10 rfl (by kernel_rfl) rfl rfl rfl (q_indexAddr rfl rfl rfl Go.Proofs.Tryd.underlying49 sz_9 c2 c103 c104) (by exact hS) ?_
                      refine wh_q 11 rfl (by kernel_rfl) rfl rfl rfl (q_load rfl rfl Go.Proofs.Tryd.underlying9 rfl (by exact fun _ s => s.2.1)) (by exact hS) ?_
                      refine wh_q 12 rfl (by kernel_rfl) rfl rfl rfl (q_indexAddr rfl rfl rfl Go.Proofs.Tryd.underlying49 sz_9 c2 c107 c108) (by exact hS) ?_
                      obtain ⟨u110, c111, c112, hD⟩ := hD
                      refine wh_e0 13 rfl (by kernel_rfl) rfl rfl (e_store rfl rfl rfl sz_9 trivial c111 c112 ?_)
                      intro hz109 e113
                      have hD := hD hz109 e113
                      obtain ⟨hk0, hk1, hD⟩ := hD
                      refine ⟨⟨hk0, hk1, trivial⟩, ?_⟩
                      have hS : cellH hz109 (a1.add (t_1.toNat * 1)) = some (Value.string x101) ∧ cellH hz109 (a1.add (x92.toNat * 1)) = some (Value.string x105) ∧ True := ⟨hk0, hk1, trivial⟩
                      obtain ⟨c114, c115, hD⟩ := hD
                      refine wh_q 14 rfl (by kernel_rfl) rfl rfl rfl (q_indexAddr rfl rfl rfl Go.Proofs.Tryd.underlying49 sz_9 c2 c114 c115) (by exact hS) ?_
                      obtain ⟨u117, c118, c119, hD⟩ := hD
                      refine wh_last 15 rfl (by kernel_rfl) rfl rfl rfl (e_store rfl rfl rfl sz_9 trivial c118 c119 ?_)
                      intro hz116 e120
                      have hD := hD hz116 e120
                      refine wh_keep (l' := [(11, Value.int .i64 x92)]) (keep_cons rfl keep_nil) (wh_done (by kernel_rfl) ?_)
                      refine cw_seq ?_
                      refine cw_region ?_
                      refine wl_q rfl rfl rfl (q_move rfl rfl) ?_
                      refine wl_q rfl rfl rfl (q_assign rfl rfl) ?_
                      refine wl_q rfl rfl rfl (q_assign rfl rfl) ?_
                      refine wl_keep (l' := [(8, Value.int .i64 x92), (9, Value.bool false)]) (keep_cons rfl (keep_cons rfl keep_nil)) (wl_nil ?_)
                      refine cw_ret ?_
                      exact ⟨_, resq2 rfl rfl rfl, _, _, rfl, hD⟩
                    · have hD := ifF hb98 hD
                      refine cw_skip ?_
                      refine cw_seq ?_
                      obtain ⟨c121, c122, hD⟩ := hD
                      obtain ⟨x123, c124, hD⟩ := hD
                      obtain ⟨c125, c126, hD⟩ := hD
                      obtain ⟨x127, c128, hD⟩ := hD
                      obtain ⟨c129, c130, hD⟩ := hD
                      refine cw_draw (fun h => cellH h (a1.add (x92.toNat * 1)) = some (Value.string x123) ∧ cellH h (a1.add (x86.toNat * 1)) = some (Value.string x127) ∧ True) 15 wide ?_
                      have hS : cellH hz96 (a1.add (x92.toNat * 1)) = some (Value.string x123) ∧ cellH hz96 (a1.add (x86.toNat * 1)) = some (Value.string x127) ∧ True := ⟨c124, c128, trivial⟩
                      refine wh_q 0 rfl (by kernel_rfl) rfl rfl rfl (q_move rfl rfl) (by exact hS) ?_
                      refine wh_q 1 rfl (by kernel_rfl) rfl rfl rfl (q_move rfl rfl) (by exact hS) ?_
                      refine wh_q 2 rfl (by kernel_rfl) rfl rfl rfl (q_move rfl rfl) (by exact hS) ?_
                      refine wh_q 3 rfl (by kernel_rfl) rfl rfl rfl (q_move rfl rfl) (by exact hS) ?_
                      refine wh_q 4 rfl (by kernel_rfl) rfl rfl rfl (q_move rfl rfl) (by exact hS) ?_
                      refine wh_q 5 rfl (by kernel_rfl) rfl rfl rfl (q_move rfl rfl) (by exact hS) ?_
                      refine wh_q 6 rfl (by kernel_rfl) rfl rfl rfl (q_indexAddr rfl rfl rfl Go.Proofs.Tryd.underlying49 sz_9 c2 c121 c122) (by exact hS) ?_
                      refine wh_q 7 rfl (by kernel_rfl) rfl rfl rfl (q_load rfl rfl Go.Proofs.Tryd.underlying9 rfl (by exact fun _ s => s.1)) (by exact hS) ?_
                      refine wh_q 8 rfl (by kernel_rfl) rfl rfl rfl (q_move rfl rfl) (by exact hS) ?_
                      refine wh_q 9 rfl (by kernel_rfl) rfl rfl rfl (q_move rfl rfl) (by exact hS) ?_
                      refine wh_q 10 rfl (by kernel_rfl) rfl rfl rfl (q_indexAddr rfl rfl rfl Go.Proofs.Tryd.underlying49 sz_9 c2 c125 c126) (by exact hS) ?_
                      refine wh_q 11 rfl (by kernel_rfl) rfl rfl rfl (q_load rfl rfl Go.Proofs.Tryd.underlying9 rfl (by exact fun _ s => s.2.1)) (by exact hS) ?_
                      refine wh_q 12 rfl (by kernel_rfl) rfl rfl rfl (q_indexAddr rfl rfl rfl Go.Proofs.Tryd.underlying49 sz_9 c2 c129 c130) (by exact hS) ?_
                      obtain ⟨u132, c133, c134, hD⟩ := hD
                      refine wh_e0 13 rfl (by kernel_rfl) rfl rfl (e_store rfl rfl rfl sz_9 trivial c133 c134 ?_)
                      intro hz131 e135
                      have hD := hD hz131 e135
                      obtain ⟨hk0, hk1, hD⟩ := hD
                      refine ⟨⟨hk0, hk1, trivial⟩, ?_⟩
                      have hS : cellH hz131 (a1.add (x92.toNat * 1)) = some (Value.string x123) ∧ cellH hz131 (a1.add (x86.toNat * 1)) = some (Value.string x127) ∧ True := ⟨hk0, hk1, trivial⟩
                      obtain ⟨c136, c137, hD⟩ := hD
                      refine wh_q 14 rfl (by kernel_rfl) rfl rfl rfl (q_indexAddr rfl rfl rfl Go.Proofs.Tryd.underlying49 sz_9 c2 c136 c137) (by exact hS) ?_
                      obtain ⟨u139, c140, c141, hD⟩ := hD
                      refine wh_last 15 rfl (by kernel_rfl) rfl rfl rfl (e_store rfl rfl rfl sz_9 trivial c140 c141 ?_)
                      intro hz138 e142
                      have hD := hD hz138 e142
                      refine wh_keep (l' := [(0, Sl.v d_0), (1, Value.int .i64 t_1), (10, Value.int .i64 x86), (11, Value.int .i64 x92)]) (keep_cons rfl (keep_cons rfl (keep_cons rfl (keep_cons rfl keep_nil)))) (wh_done (by kernel_rfl) ?_)
                      refine cw_seq ?_
                      refine cw_region ?_
                      refine wl_q rfl rfl rfl (q_move rfl rfl) ?_
                      refine wl_q rfl rfl rfl (q_bin rfl rfl rfl (fun _ _ => rfl)) ?_
                      refine wl_q rfl rfl rfl (q_assign rfl rfl) ?_
                      refine wl_keep (l' := [(0, Sl.v d_0), (1, Value.int .i64 t_1), (10, Value.int .i64 (IntKind.i64.wrap (x86 + 1))), (11, Value.int .i64 x92)]) (keep_cons rfl (keep_cons rfl (keep_cons rfl (keep_cons rfl keep_nil)))) (wl_nil ?_)
                      refine cw_region ?_
                      refine wl_q rfl rfl rfl (q_move rfl rfl) ?_
                      refine wl_q rfl rfl rfl (q_bin rfl rfl rfl (fun _ _ => rfl)) ?_
                      refine wl_q rfl rfl rfl (q_assign rfl rfl) ?_
                      refine wl_keep (l' := [(0, Sl.v d_0), (1, Value.int .i64 t_1), (10, Value.int .i64 (IntKind.i64.wrap (x86 + 1))), (11, Value.int .i64 (IntKind.i64.wrap (x92 - 1)))]) (keep_cons rfl (keep_cons rfl (keep_cons rfl (keep_cons rfl keep_nil)))) (wl_nil ?_)
                      rw [hC85] at hD
                      exact ⟨(IntKind.i64.wrap (x86 + 1), IntKind.i64.wrap (x92 - 1)), (keep_cons rfl (keep_cons rfl (keep_cons rfl (keep_cons rfl keep_nil)))), hD⟩
end Go.Proofs.YtgdmjdacmebfjaaDoor.D

namespace Go.Proofs.YtgdmjdacmebfjaaDoor.D
open Go
set_option maxRecDepth 100000
theorem S_strings_asciiSet_contains {as_0 : Option Addr} {c_1 : Int} {h0 : Hp} {K : Bool → Hp → Prop} (hD : D_strings_asciiSet_contains as_0 c_1 h0 K) : C_strings_asciiSet_contains as_0 c_1 h0 K := by
  unfold D_strings_asciiSet_contains at hD
  refine calls_cw (args := [Value.pointer as_0, Value.int .u8 c_1]) Go.Proofs.Tryd.func80 rfl ?_
  show cw _ 10 _ [(0, Value.pointer as_0), (1, Value.int .u8 c_1)] _ _ _ _
  refine cw_seq ?_
  refine cw_region ?_
  refine wl_q rfl rfl rfl (q_assign rfl rfl) ?_
  refine wl_keep (l' := [(0, Value.pointer as_0), (1, Value.int .u8 c_1)]) (keep_cons rfl (keep_cons rfl keep_nil)) (wl_nil ?_)
  refine cw_seq ?_
  refine cw_region ?_
  refine wl_q rfl rfl rfl (q_move rfl rfl) ?_
  refine wl_q rfl rfl rfl (q_move rfl rfl) ?_
  obtain ⟨a1, c2, hD⟩ := hD
  refine wl_q rfl rfl rfl (q_nil rfl rfl c2) ?_
  obtain ⟨c3, c4, hD⟩ := hD
  refine wl_q rfl rfl rfl (q_indexAddr_array rfl rfl rfl Go.Proofs.Tryd.underlying106 sz_4 c3 c4) ?_
  obtain ⟨x5, c6, hD⟩ := hD
  refine wl_q rfl rfl rfl (q_load rfl rfl Go.Proofs.Tryd.underlying4 rfl (At.cell c6)) ?_
  refine wl_q rfl rfl rfl (q_assign rfl rfl) ?_
  refine wl_keep (l' := [(4, Value.bool x5)]) (keep_cons rfl keep_nil) (wl_nil ?_)
  refine cw_ret ?_
  exact ⟨_, resq1 rfl rfl, _, rfl, hD⟩
end Go.Proofs.YtgdmjdacmebfjaaDoor.D

namespace Go.Proofs.YtgdmjdacmebfjaaDoor.D
open Go
set_option maxRecDepth 100000
theorem S_utf8_DecodeRuneInString {s_0 : ByteArray} {h0 : Hp} {K : Int → Int → Hp → Prop} (hD : D_utf8_DecodeRuneInString s_0 h0 K) : C_utf8_DecodeRuneInString s_0 h0 K := by
  unfold D_utf8_DecodeRuneInString at hD
  refine calls_cw (args := [Value.string s_0]) Go.Proofs.Tryd.func81 rfl ?_
  show cw _ 19 _ [(0, Value.string s_0)] _ _ _ _
  refine cw_seq ?_
  refine cw_region ?_
  refine wl_q rfl rfl rfl (q_assign rfl rfl) ?_
  refine wl_q rfl rfl rfl (q_assign rfl rfl) ?_
  refine wl_keep (l' := [(0, Value.string s_0)]) (keep_cons rfl keep_nil) (wl_nil ?_)
  refine cw_seq ?_
  refine cw_cut (fun l h => ∃ (x1 : Bool), Keep l [(0, Value.string s_0), (10, Value.bool x1)] ∧ D_utf8_DecodeRuneInString_j1 s_0 K x1 h) ?_ ?_
  · refine cw_region ?_
    refine wl_q rfl rfl rfl (q_move rfl rfl) ?_
    refine wl_q rfl rfl rfl (q_bin rfl rfl rfl (fun _ _ => rfl)) ?_
    refine wl_q rfl rfl rfl (q_move rfl rfl) ?_
    rcases bool_or (!(s_0.toList == (ByteArray.mk #[]).toList)) with hb9 | hb9
    · have hD := ifT hb9 hD
      refine wl_gq rfl rfl rfl hb9 rfl rfl (q_move rfl rfl) ?_
      obtain ⟨c10, c11, hD⟩ := hD
      refine wl_gq rfl rfl rfl hb9 rfl rfl (q_index_string rfl rfl rfl Go.Proofs.Tryd.underlying9 c10 c11) ?_
      refine wl_gq rfl rfl rfl hb9 rfl rfl (q_bin rfl rfl rfl (fun _ _ => rfl)) ?_
      refine wl_q rfl rfl rfl (q_pickT rfl rfl hb9 rfl) ?_
      refine wl_keep (l' := [(0, Value.string s_0), (10, Value.bool (decide ((bt s_0 0) < (128 : Int))))]) (keep_cons rfl (keep_cons rfl keep_nil)) (wl_nil ?_)
      exact ⟨_, (keep_cons rfl (keep_cons rfl keep_nil)), hD⟩
    · have hD := ifF hb9 hD
      refine wl_gn rfl rfl rfl hb9 rfl rfl ?_
      refine wl_gn rfl rfl rfl hb9 rfl rfl ?_
      refine wl_gn rfl rfl rfl hb9 rfl rfl ?_
      refine wl_q rfl rfl rfl (q_pickF rfl rfl hb9 rfl) ?_
      refine wl_keep (l' := [(0, Value.string s_0), (10, Value.bool false)]) (keep_cons rfl (keep_cons rfl keep_nil)) (wl_nil ?_)
      exact ⟨_, (keep_cons rfl (keep_cons rfl keep_nil)), hD⟩
  · rintro l13 hz2 ⟨x1, hk12, hD⟩
    refine cw_keep hk12 ?_
    unfold D_utf8_DecodeRuneInString_j1 at hD
    refine cw_cond rfl (fun hb3 => ?_) (fun hb3 => ?_)
    · have hD := ifT hb3 hD
      refine cw_seq ?_
      refine cw_region ?_
      refine wl_q rfl rfl rfl (q_move rfl rfl) ?_
      obtain ⟨c4, c5, hD⟩ := hD
      refine wl_q rfl rfl rfl (q_index_string rfl rfl rfl Go.Proofs.Tryd.underlying9 c4 c5) ?_
      refine wl_q rfl rfl rfl (q_conv_int rfl rfl Go.Proofs.Tryd.underlying5 Go.Proofs.Tryd.underlying21) ?_
      refine wl_q rfl rfl rfl (q_assign rfl rfl) ?_
      refine wl_q rfl rfl rfl (q_assign rfl rfl) ?_
      refine wl_keep (l' := [(2, Value.int .i32 (IntKind.i32.wrap (bt s_0 0))), (3, Value.int .i64 1)]) (keep_cons rfl (keep_cons rfl keep_nil)) (wl_nil ?_)
      refine cw_ret ?_
      exact ⟨_, resq2 rfl rfl rfl, _, _, rfl, hD⟩
    · have hD := ifF hb3 hD
      refine cw_region ?_
      refine wl_q rfl rfl rfl (q_move rfl rfl) ?_
      refine wl_e rfl rfl rfl (e_call (first := []) (vs := [Value.string s_0]) (cap := []) rfl rfl rfl cf_90 (CallsH.mono hD ?_))
      rintro _ hz6 ⟨r7, r8, rfl, hD⟩
      refine wl_q rfl rfl rfl (q_move rfl rfl) ?_
      refine wl_q rfl rfl rfl (q_extract rfl rfl rfl) ?_
      refine wl_q rfl rfl rfl (q_extract rfl rfl rfl) ?_
      refine wl_q rfl rfl rfl (q_assign rfl rfl) ?_
      refine wl_q rfl rfl rfl (q_assign rfl rfl) ?_
      refine wl_keep (l' := [(2, Value.int .i32 r7), (3, Value.int .i64 r8)]) (keep_cons rfl (keep_cons rfl keep_nil)) (wl_nil ?_)
      refine cw_ret ?_
      exact ⟨_, resq2 rfl rfl rfl, _, _, rfl, hD⟩
end Go.Proofs.YtgdmjdacmebfjaaDoor.D

namespace Go.Proofs.YtgdmjdacmebfjaaDoor.D
open Go
set_option maxRecDepth 100000
theorem S_strings_ContainsRune {s_0 : ByteArray} {r_1 : Int} {h0 : Hp} {K : Bool → Hp → Prop} (hD : D_strings_ContainsRune s_0 r_1 h0 K) : C_strings_ContainsRune s_0 r_1 h0 K := by
  unfold D_strings_ContainsRune at hD
  refine calls_cw (args := [Value.string s_0, Value.int .i32 r_1]) Go.Proofs.Tryd.func82 rfl ?_
  show cw _ 9 _ [(0, Value.string s_0), (1, Value.int .i32 r_1)] _ _ _ _
  refine cw_seq ?_
  refine cw_region ?_
  refine wl_q rfl rfl rfl (q_assign rfl rfl) ?_
  refine wl_keep (l' := [(0, Value.string s_0), (1, Value.int .i32 r_1)]) (keep_cons rfl (keep_cons rfl keep_nil)) (wl_nil ?_)
  refine cw_seq ?_
  refine cw_region ?_
  refine wl_q rfl rfl rfl (q_move rfl rfl) ?_
  refine wl_q rfl rfl rfl (q_move rfl rfl) ?_
  refine wl_e rfl rfl rfl (e_call (first := []) (vs := [Value.string s_0, Value.int .i32 r_1]) (cap := []) rfl rfl rfl cf_91 (CallsH.mono hD ?_))
  rintro _ hz1 ⟨r2, rfl, hD⟩
  refine wl_q rfl rfl rfl (q_bin rfl rfl rfl (fun _ _ => rfl)) ?_
  refine wl_q rfl rfl rfl (q_assign rfl rfl) ?_
  refine wl_keep (l' := [(4, Value.bool (decide (r2 ≥ (0 : Int))))]) (keep_cons rfl keep_nil) (wl_nil ?_)
  refine cw_ret ?_
  exact ⟨_, resq1 rfl rfl, _, rfl, hD⟩
end Go.Proofs.YtgdmjdacmebfjaaDoor.D

namespace Go.Proofs.YtgdmjdacmebfjaaDoor.D
open Go
set_option maxRecDepth 100000
theorem S_utf8_DecodeLastRuneInString {s_0 : ByteArray} {h0 : Hp} {K : Int → Int → Hp → Prop} (hD : D_utf8_DecodeLastRuneInString s_0 h0 K) : C_utf8_DecodeLastRuneInString s_0 h0 K := by
  unfold D_utf8_DecodeLastRuneInString at hD
  refine calls_cw (args := [Value.string s_0]) Go.Proofs.Tryd.func83 rfl ?_
  show cw _ 51 _ [(0, Value.string s_0)] _ _ _ _
  refine cw_seq ?_
  refine cw_region ?_
  refine wl_q rfl rfl rfl (q_assign rfl rfl) ?_
  refine wl_q rfl rfl rfl (q_assign rfl rfl) ?_
  refine wl_keep (l' := [(0, Value.string s_0)]) (keep_cons rfl keep_nil) (wl_nil ?_)
  refine cw_seq ?_
  refine cw_region ?_
  refine wl_q rfl rfl rfl (q_move rfl rfl) ?_
  refine wl_q rfl rfl rfl (q_len_string rfl rfl Go.Proofs.Tryd.underlying9 rfl) ?_
  refine wl_q rfl rfl rfl (q_assign rfl rfl) ?_
  refine wl_keep (l' := [(0, Value.string s_0), (4, Value.int .i64 (s_0.size : Int))]) (keep_cons rfl (keep_cons rfl keep_nil)) (wl_nil ?_)
  refine cw_seq ?_
  refine cw_seq ?_
  refine cw_region ?_
  refine wl_q rfl rfl rfl (q_move rfl rfl) ?_
  refine wl_q rfl rfl rfl (q_bin rfl rfl rfl (fun _ _ => rfl)) ?_
  refine wl_keep (l' := [(0, Value.string s_0), (4, Value.int .i64 (s_0.size : Int)), (10, Value.bool ((s_0.size : Int) == (0 : Int)))]) (keep_cons rfl (keep_cons rfl (keep_cons rfl keep_nil))) (wl_nil ?_)
  refine cw_cond rfl (fun hb1 => ?_) (fun hb1 => ?_)
  · have hD := ifT hb1 hD
    refine cw_seq ?_
    refine cw_region ?_
    refine wl_q rfl rfl rfl (q_assign rfl rfl) ?_
    refine wl_q rfl rfl rfl (q_assign rfl rfl) ?_
    refine wl_keep (l' := [(2, Value.int .i32 65533), (3, Value.int .i64 0)]) (keep_cons rfl (keep_cons rfl keep_nil)) (wl_nil ?_)
    refine cw_ret ?_
    exact ⟨_, resq2 rfl rfl rfl, _, _, rfl, hD⟩
  · have hD := ifF hb1 hD
    refine cw_skip ?_
    refine cw_seq ?_
    refine cw_region ?_
    refine wl_q rfl rfl rfl (q_move rfl rfl) ?_
    refine wl_q rfl rfl rfl (q_bin rfl rfl rfl (fun _ _ => rfl)) ?_
    refine wl_q rfl rfl rfl (q_assign rfl rfl) ?_
    refine wl_keep (l' := [(0, Value.string s_0), (4, Value.int .i64 (s_0.size : Int)), (5, Value.int .i64 (IntKind.i64.wrap ((s_0.size : Int) - 1)))]) (keep_cons rfl (keep_cons rfl (keep_cons rfl keep_nil))) (wl_nil ?_)
    refine cw_seq ?_
    refine cw_region ?_
    refine wl_q rfl rfl rfl (q_move rfl rfl) ?_
    refine wl_q rfl rfl rfl (q_move rfl rfl) ?_
    obtain ⟨c2, c3, hD⟩ := hD
    refine wl_q rfl rfl rfl (q_index_string rfl rfl rfl Go.Proofs.Tryd.underlying9 c2 c3) ?_
    refine wl_q rfl rfl rfl (q_conv_int rfl rfl Go.Proofs.Tryd.underlying5 Go.Proofs.Tryd.underlying21) ?_
    refine wl_q rfl rfl rfl (q_assign rfl rfl) ?_
    refine wl_keep (l' := [(0, Value.string s_0), (2, Value.int .i32 (IntKind.i32.wrap (bt s_0 (IntKind.i64.wrap ((s_0.size : Int) - 1))))), (4, Value.int .i64 (s_0.size : Int)), (5, Value.int .i64 (IntKind.i64.wrap ((s_0.size : Int) - 1)))]) (keep_cons rfl (keep_cons rfl (keep_cons rfl (keep_cons rfl keep_nil)))) (wl_nil ?_)
    refine cw_seq ?_
    refine cw_seq ?_
    refine cw_region ?_
    refine wl_q rfl rfl rfl (q_move rfl rfl) ?_
    refine wl_q rfl rfl rfl (q_bin rfl rfl rfl (fun _ _ => rfl)) ?_
    refine wl_keep (l' := [(0, Value.string s_0), (2, Value.int .i32 (IntKind.i32.wrap (bt s_0 (IntKind.i64.wrap ((s_0.size : Int) - 1))))), (4, Value.int .i64 (s_0.size : Int)), (5, Value.int .i64 (IntKind.i64.wrap ((s_0.size : Int) - 1))), (18, Value.bool (decide ((IntKind.i32.wrap (bt s_0 (IntKind.i64.wrap ((s_0.size : Int) - 1)))) < (128 : Int))))]) (keep_cons rfl (keep_cons rfl (keep_cons rfl (keep_cons rfl (keep_cons rfl keep_nil))))) (wl_nil ?_)
    refine cw_cond rfl (fun hb4 => ?_) (fun hb4 => ?_)
    · have hD := ifT hb4 hD
      refine cw_seq ?_
      refine cw_region ?_
      refine wl_q rfl rfl rfl (q_move rfl rfl) ?_
      refine wl_q rfl rfl rfl (q_assign rfl rfl) ?_
      refine wl_q rfl rfl rfl (q_assign rfl rfl) ?_
      refine wl_keep (l' := [(2, Value.int .i32 (IntKind.i32.wrap (bt s_0 (IntKind.i64.wrap ((s_0.size : Int) - 1))))), (3, Value.int .i64 1)]) (keep_cons rfl (keep_cons rfl keep_nil)) (wl_nil ?_)
      refine cw_ret ?_
      exact ⟨_, resq2 rfl rfl rfl, _, _, rfl, hD⟩
    · have hD := ifF hb4 hD
      refine cw_skip ?_
      refine cw_seq ?_
      refine cw_region ?_
      refine wl_q rfl rfl rfl (q_move rfl rfl) ?_
      refine wl_q rfl rfl rfl (q_bin rfl rfl rfl (fun _ _ => rfl)) ?_
      refine wl_q rfl rfl rfl (q_max rfl rfl rfl rfl) ?_
      refine wl_q rfl rfl rfl (q_assign rfl rfl) ?_
      refine wl_keep (l' := [(0, Value.string s_0), (4, Value.int .i64 (s_0.size : Int)), (5, Value.int .i64 (IntKind.i64.wrap ((s_0.size : Int) - 1))), (6, Value.int .i64 (maxI (IntKind.i64.wrap ((s_0.size : Int) - 4)) 0))]) (keep_cons rfl (keep_cons rfl (keep_cons rfl (keep_cons rfl keep_nil)))) (wl_nil ?_)
      refine cw_cut (fun l h => ∃ (start5 : Int), Keep l [(0, Value.string s_0), (4, Value.int .i64 (s_0.size : Int)), (5, Value.int .i64 start5)] ∧ D_utf8_DecodeLastRuneInString_j2 s_0 K start5 h) ?_ ?_
      · refine cw_seq ?_
        refine cw_region ?_
        refine wl_q rfl rfl rfl (q_move rfl rfl) ?_
        refine wl_q rfl rfl rfl (q_bin rfl rfl rfl (fun _ _ => rfl)) ?_
        refine wl_q rfl rfl rfl (q_assign rfl rfl) ?_
        refine wl_keep (l' := [(0, Value.string s_0), (4, Value.int .i64 (s_0.size : Int)), (5, Value.int .i64 (IntKind.i64.wrap ((IntKind.i64.wrap ((s_0.size : Int) - 1)) - 1))), (6, Value.int .i64 (maxI (IntKind.i64.wrap ((s_0.size : Int) - 4)) 0))]) (keep_cons rfl (keep_cons rfl (keep_cons rfl (keep_cons rfl keep_nil)))) (wl_nil ?_)
        refine cw_block ?_
        obtain ⟨I, μ, hI31, hL32⟩ := hD
        refine cw_loops (σ := Int) (fun s => [(0, Value.string s_0), (4, Value.int .i64 (s_0.size : Int)), (5, Value.int .i64 s), (6, Value.int .i64 (maxI (IntKind.i64.wrap ((s_0.size : Int) - 4)) 0))]) (IntKind.i64.wrap ((IntKind.i64.wrap ((s_0.size : Int) - 1)) - 1)) (fun s h => I s h) (fun s h => μ s h) (keep_cons rfl (keep_cons rfl (keep_cons rfl (keep_cons rfl keep_nil)))) hI31 ?_
        rintro start22 hz23 hI
        have hD := hL32 start22 hz23 hI
        obtain ⟨C24, hC24⟩ : ∃ c : Int → Hp → Prop, c = (fun start22' h' => I start22' h' ∧ μ start22' h' < μ start22 hz23) := ⟨_, rfl⟩
        rw [← hC24] at hD
        unfold D_utf8_DecodeLastRuneInString_l3 at hD
        show cw _ _ _ [(0, Value.string s_0), (4, Value.int .i64 (s_0.size : Int)), (5, Value.int .i64 start22), (6, Value.int .i64 (maxI (IntKind.i64.wrap ((s_0.size : Int) - 4)) 0))] _ _ _ _
        refine cw_seq ?_
        refine cw_seq ?_
        refine cw_region ?_
        refine wl_q rfl rfl rfl (q_move rfl rfl) ?_
        refine wl_q rfl rfl rfl (q_move rfl rfl) ?_
        refine wl_q rfl rfl rfl (q_bin rfl rfl rfl (fun _ _ => rfl)) ?_
        refine wl_keep (l' := [(0, Value.string s_0), (4, Value.int .i64 (s_0.size : Int)), (5, Value.int .i64 start22), (6, Value.int .i64 (maxI (IntKind.i64.wrap ((s_0.size : Int) - 4)) 0)), (27, Value.bool (decide (start22 ≥ (maxI (IntKind.i64.wrap ((s_0.size : Int) - 4)) 0))))]) (keep_cons rfl (keep_cons rfl (keep_cons rfl (keep_cons rfl (keep_cons rfl keep_nil))))) (wl_nil ?_)
        refine cw_cond rfl (fun hb25 => ?_) (fun hb25 => ?_)
        · have hD := ifT hb25 hD
          refine cw_skip ?_
          refine cw_seq ?_
          refine cw_block ?_
          refine cw_seq ?_
          refine cw_region ?_
          refine wl_q rfl rfl rfl (q_move rfl rfl) ?_
          refine wl_q rfl rfl rfl (q_move rfl rfl) ?_
          obtain ⟨c26, c27, hD⟩ := hD
          refine wl_q rfl rfl rfl (q_index_string rfl rfl rfl Go.Proofs.Tryd.underlying9 c26 c27) ?_
          refine wl_e rfl rfl rfl (e_call (first := []) (vs := [Value.int .u8 (bt s_0 start22)]) (cap := []) rfl rfl rfl cf_92 (CallsH.mono hD ?_))
          rintro _ hz28 ⟨r29, rfl, hD⟩
          refine wl_keep (l' := [(0, Value.string s_0), (4, Value.int .i64 (s_0.size : Int)), (5, Value.int .i64 start22), (6, Value.int .i64 (maxI (IntKind.i64.wrap ((s_0.size : Int) - 4)) 0)), (33, Value.bool r29)]) (keep_cons rfl (keep_cons rfl (keep_cons rfl (keep_cons rfl (keep_cons rfl keep_nil))))) (wl_nil ?_)
          refine cw_cond rfl (fun hb30 => ?_) (fun hb30 => ?_)
          · have hD := ifT hb30 hD
            refine cw_exit ?_
            refine xput_other rfl ?_
            refine xput_same ?_
            exact ⟨_, (keep_cons rfl (keep_cons rfl (keep_cons rfl keep_nil))), hD⟩
          · have hD := ifF hb30 hD
            refine cw_skip ?_
            refine cw_region ?_
            refine wl_q rfl rfl rfl (q_move rfl rfl) ?_
            refine wl_q rfl rfl rfl (q_bin rfl rfl rfl (fun _ _ => rfl)) ?_
            refine wl_q rfl rfl rfl (q_assign rfl rfl) ?_
            refine wl_keep (l' := [(0, Value.string s_0), (4, Value.int .i64 (s_0.size : Int)), (5, Value.int .i64 (IntKind.i64.wrap (start22 - 1))), (6, Value.int .i64 (maxI (IntKind.i64.wrap ((s_0.size : Int) - 4)) 0))]) (keep_cons rfl (keep_cons rfl (keep_cons rfl (keep_cons rfl keep_nil)))) (wl_nil ?_)
            rw [hC24] at hD
            exact ⟨(IntKind.i64.wrap (start22 - 1)), (keep_cons rfl (keep_cons rfl (keep_cons rfl (keep_cons rfl keep_nil)))), hD⟩
        · have hD := ifF hb25 hD
          refine cw_exit ?_
          refine xput_same ?_
          exact ⟨_, (keep_cons rfl (keep_cons rfl (keep_cons rfl keep_nil))), hD⟩
      · rintro l34 hz6 ⟨start5, hk33, hD⟩
        refine cw_keep hk33 ?_
        unfold D_utf8_DecodeLastRuneInString_j2 at hD
        refine cw_cut (fun l h => ∃ (start7 : Int), Keep l [(0, Value.string s_0), (4, Value.int .i64 (s_0.size : Int)), (5, Value.int .i64 start7)] ∧ D_utf8_DecodeLastRuneInString_j1 s_0 K start7 h) ?_ ?_
        · refine cw_seq ?_
          refine cw_region ?_
          refine wl_q rfl rfl rfl (q_move rfl rfl) ?_
          refine wl_q rfl rfl rfl (q_bin rfl rfl rfl (fun _ _ => rfl)) ?_
          refine wl_keep (l' := [(0, Value.string s_0), (4, Value.int .i64 (s_0.size : Int)), (5, Value.int .i64 start5), (35, Value.bool (decide (start5 < (0 : Int))))]) (keep_cons rfl (keep_cons rfl (keep_cons rfl (keep_cons rfl keep_nil)))) (wl_nil ?_)
          refine cw_cond rfl (fun hb19 => ?_) (fun hb19 => ?_)
          · have hD := ifT hb19 hD
            refine cw_region ?_
            refine wl_q rfl rfl rfl (q_assign rfl rfl) ?_
            refine wl_keep (l' := [(0, Value.string s_0), (4, Value.int .i64 (s_0.size : Int)), (5, Value.int .i64 0)]) (keep_cons rfl (keep_cons rfl (keep_cons rfl keep_nil))) (wl_nil ?_)
            exact ⟨_, (keep_cons rfl (keep_cons rfl (keep_cons rfl keep_nil))), hD⟩
          · have hD := ifF hb19 hD
            refine cw_skip ?_
            exact ⟨_, (keep_cons rfl (keep_cons rfl (keep_cons rfl keep_nil))), hD⟩
        · rintro l21 hz8 ⟨start7, hk20, hD⟩
          refine cw_keep hk20 ?_
          unfold D_utf8_DecodeLastRuneInString_j1 at hD
          refine cw_seq ?_
          refine cw_region ?_
          refine wl_q rfl rfl rfl (q_move rfl rfl) ?_
          refine wl_q rfl rfl rfl (q_move rfl rfl) ?_
          refine wl_q rfl rfl rfl (q_move rfl rfl) ?_
          obtain ⟨n9, c10, n11, c12, c13, c14, hD⟩ := hD
          refine wl_q rfl rfl rfl (q_slice_string rfl rfl Go.Proofs.Tryd.underlying9 ⟨_, _, rfl, c10⟩ ⟨_, _, rfl, c12⟩ c13 c14) ?_
          refine wl_e rfl rfl rfl (e_call (first := []) (vs := [Value.string (s_0.extract n9 n11)]) (cap := []) rfl rfl rfl cf_81 (CallsH.mono hD ?_))
          rintro _ hz15 ⟨r16, r17, rfl, hD⟩
          refine wl_q rfl rfl rfl (q_move rfl rfl) ?_
          refine wl_q rfl rfl rfl (q_extract rfl rfl rfl) ?_
          refine wl_q rfl rfl rfl (q_extract rfl rfl rfl) ?_
          refine wl_q rfl rfl rfl (q_assign rfl rfl) ?_
          refine wl_q rfl rfl rfl (q_assign rfl rfl) ?_
          refine wl_keep (l' := [(2, Value.int .i32 r16), (3, Value.int .i64 r17), (4, Value.int .i64 (s_0.size : Int)), (5, Value.int .i64 start7)]) (keep_cons rfl (keep_cons rfl (keep_cons rfl (keep_cons rfl keep_nil)))) (wl_nil ?_)
          refine cw_seq ?_
          refine cw_seq ?_
          refine cw_region ?_
          refine wl_q rfl rfl rfl (q_move rfl rfl) ?_
          refine wl_q rfl rfl rfl (q_move rfl rfl) ?_
          refine wl_q rfl rfl rfl (q_bin rfl rfl rfl (fun _ _ => rfl)) ?_
          refine wl_q rfl rfl rfl (q_move rfl rfl) ?_
          refine wl_q rfl rfl rfl (q_bin rfl rfl rfl (fun _ _ => rfl)) ?_
          refine wl_keep (l' := [(2, Value.int .i32 r16), (3, Value.int .i64 r17), (48, Value.bool ((IntKind.i64.wrap (start7 + r17)) != (s_0.size : Int)))]) (keep_cons rfl (keep_cons rfl (keep_cons rfl keep_nil))) (wl_nil ?_)
          refine cw_cond rfl (fun hb18 => ?_) (fun hb18 => ?_)
          · have hD := ifT hb18 hD
            refine cw_seq ?_
            refine cw_region ?_
            refine wl_q rfl rfl rfl (q_assign rfl rfl) ?_
            refine wl_q rfl rfl rfl (q_assign rfl rfl) ?_
            refine wl_keep (l' := [(2, Value.int .i32 65533), (3, Value.int .i64 1)]) (keep_cons rfl (keep_cons rfl keep_nil)) (wl_nil ?_)
            refine cw_ret ?_
            exact ⟨_, resq2 rfl rfl rfl, _, _, rfl, hD⟩
          · have hD := ifF hb18 hD
            refine cw_skip ?_
            refine cw_seq ?_
            refine cw_region ?_
            refine wl_q rfl rfl rfl (q_move rfl rfl) ?_
            refine wl_q rfl rfl rfl (q_move rfl rfl) ?_
            refine wl_q rfl rfl rfl (q_assign rfl rfl) ?_
            refine wl_q rfl rfl rfl (q_assign rfl rfl) ?_
            refine wl_keep (l' := [(2, Value.int .i32 r16), (3, Value.int .i64 r17)]) (keep_cons rfl (keep_cons rfl keep_nil)) (wl_nil ?_)
            refine cw_ret ?_
            exact ⟨_, resq2 rfl rfl rfl, _, _, rfl, hD⟩
end Go.Proofs.YtgdmjdacmebfjaaDoor.D

namespace Go.Proofs.YtgdmjdacmebfjaaDoor.D
open Go
set_option maxRecDepth 100000
theorem S_slices_siftDownOrdered_string {d_0 : Sl} {t_1 : Int} {p_2 : Int} {p_3 : Int} {h0 : Hp} {K : Hp → Prop} (hD : D_slices_siftDownOrdered_string d_0 t_1 p_2 p_3 h0 K) : C_slices_siftDownOrdered_string d_0 t_1 p_2 p_3 h0 K := by
  unfold D_slices_siftDownOrdered_string at hD
  refine calls_cw (args := [Sl.v d_0, Value.int .i64 t_1, Value.int .i64 p_2, Value.int .i64 p_3]) Go.Proofs.Tryd.func84 rfl ?_
  show cw _ 76 _ [(0, Sl.v d_0), (1, Value.int .i64 t_1), (2, Value.int .i64 p_2), (3, Value.int .i64 p_3)] _ _ _ _
  refine cw_seq ?_
  refine cw_region ?_
  refine wl_q rfl rfl rfl (q_move rfl rfl) ?_
  refine wl_q rfl rfl rfl (q_assign rfl rfl) ?_
  refine wl_keep (l' := [(0, Sl.v d_0), (2, Value.int .i64 p_2), (3, Value.int .i64 p_3), (8, Value.int .i64 t_1)]) (keep_cons rfl (keep_cons rfl (keep_cons rfl (keep_cons rfl keep_nil)))) (wl_nil ?_)
  refine cw_block ?_
  obtain ⟨I, μ, hI62, hL63⟩ := hD
  refine cw_loops (σ := Int) (fun s => [(0, Sl.v d_0), (2, Value.int .i64 p_2), (3, Value.int .i64 p_3), (8, Value.int .i64 s)]) (t_1) (fun s h => I s h) (fun s h => μ s h) (keep_cons rfl (keep_cons rfl (keep_cons rfl (keep_cons rfl keep_nil)))) hI62 ?_
  rintro x1 hz2 hI
  have hD := hL63 x1 hz2 hI
  obtain ⟨C3, hC3⟩ : ∃ c : Int → Hp → Prop, c = (fun x1' h' => I x1' h' ∧ μ x1' h' < μ x1 hz2) := ⟨_, rfl⟩
  rw [← hC3] at hD
  unfold D_slices_siftDownOrdered_string_l3 at hD
  show cw _ _ _ [(0, Sl.v d_0), (2, Value.int .i64 p_2), (3, Value.int .i64 p_3), (8, Value.int .i64 x1)] _ _ _ _
  refine cw_block ?_
  refine cw_seq ?_
  refine cw_region ?_
  refine wl_q rfl rfl rfl (q_move rfl rfl) ?_
  refine wl_q rfl rfl rfl (q_bin rfl rfl rfl (fun _ _ => rfl)) ?_
  refine wl_q rfl rfl rfl (q_bin rfl rfl rfl (fun _ _ => rfl)) ?_
  refine wl_q rfl rfl rfl (q_assign rfl rfl) ?_
  refine wl_keep (l' := [(0, Sl.v d_0), (2, Value.int .i64 p_2), (3, Value.int .i64 p_3), (8, Value.int .i64 x1), (9, Value.int .i64 (IntKind.i64.wrap ((IntKind.i64.wrap (2 * x1)) + 1)))]) (keep_cons rfl (keep_cons rfl (keep_cons rfl (keep_cons rfl (keep_cons rfl keep_nil))))) (wl_nil ?_)
  refine cw_seq ?_
  refine cw_seq ?_
  refine cw_region ?_
  refine wl_q rfl rfl rfl (q_move rfl rfl) ?_
  refine wl_q rfl rfl rfl (q_move rfl rfl) ?_
  refine wl_q rfl rfl rfl (q_bin rfl rfl rfl (fun _ _ => rfl)) ?_
  refine wl_keep (l' := [(0, Sl.v d_0), (2, Value.int .i64 p_2), (3, Value.int .i64 p_3), (8, Value.int .i64 x1), (9, Value.int .i64 (IntKind.i64.wrap ((IntKind.i64.wrap (2 * x1)) + 1))), (16, Value.bool (decide ((IntKind.i64.wrap ((IntKind.i64.wrap (2 * x1)) + 1)) ≥ p_2)))]) (keep_cons rfl (keep_cons rfl (keep_cons rfl (keep_cons rfl (keep_cons rfl (keep_cons rfl keep_nil)))))) (wl_nil ?_)
  refine cw_cond rfl (fun hb4 => ?_) (fun hb4 => ?_)
  · have hD := ifT hb4 hD
    refine cw_exit ?_
    refine xput_other rfl ?_
    refine xput_same ?_
    exact ⟨_, resq0 rfl, rfl, hD⟩
  · have hD := ifF hb4 hD
    refine cw_skip ?_
    refine cw_cut (fun l h => ∃ (x5 : Int), Keep l [(0, Sl.v d_0), (2, Value.int .i64 p_2), (3, Value.int .i64 p_3), (8, Value.int .i64 x1), (9, Value.int .i64 x5)] ∧ D_slices_siftDownOrdered_string_j1 d_0 p_3 K x1 C3 x5 h) ?_ ?_
    · refine cw_cut (fun l h => ∃ (x42 : Bool), Keep l [(0, Sl.v d_0), (2, Value.int .i64 p_2), (3, Value.int .i64 p_3), (8, Value.int .i64 x1), (9, Value.int .i64 (IntKind.i64.wrap ((IntKind.i64.wrap (2 * x1)) + 1))), (36, Value.bool x42)] ∧ D_slices_siftDownOrdered_string_j2 d_0 p_3 K x1 C3 x42 h) ?_ ?_
      · rcases bool_or (decide ((IntKind.i64.wrap ((IntKind.i64.wrap ((IntKind.i64.wrap (2 * x1)) + 1)) + 1)) < p_2)) with hb45 | hb45
        · have hD := ifT hb45 hD
          obtain ⟨a46, c47, c48, c49, hD⟩ := hD
          obtain ⟨x50, c51, hD⟩ := hD
          obtain ⟨c52, c53, hD⟩ := hD
          obtain ⟨x54, c55, hD⟩ := hD
          refine cw_draw (fun h => cellH h (a46.add ((IntKind.i64.wrap (p_3 + (IntKind.i64.wrap ((IntKind.i64.wrap (2 * x1)) + 1)))).toNat * 1)) = some (Value.string x50) ∧ cellH h (a46.add ((IntKind.i64.wrap ((IntKind.i64.wrap (p_3 + (IntKind.i64.wrap ((IntKind.i64.wrap (2 * x1)) + 1)))) + 1)).toNat * 1)) = some (Value.string x54) ∧ True) 20 wide ?_
          have hS : cellH hz2 (a46.add ((IntKind.i64.wrap (p_3 + (IntKind.i64.wrap ((IntKind.i64.wrap (2 * x1)) + 1)))).toNat * 1)) = some (Value.string x50) ∧ cellH hz2 (a46.add ((IntKind.i64.wrap ((IntKind.i64.wrap (p_3 + (IntKind.i64.wrap ((IntKind.i64.wrap (2 * x1)) + 1)))) + 1)).toNat * 1)) = some (Value.string x54) ∧ True := ⟨c51, c55, trivial⟩
          refine wh_q 0 rfl (by kernel_rfl) rfl rfl rfl (q_move rfl rfl) (by exact hS) ?_
          refine wh_q 1 rfl (by kernel_rfl) rfl rfl rfl (q_bin rfl rfl rfl (fun _ _ => rfl)) (by exact hS) ?_
          refine wh_q 2 rfl (by kernel_rfl) rfl rfl rfl (q_move rfl rfl) (by exact hS) ?_
          refine wh_q 3 rfl (by kernel_rfl) rfl rfl rfl (q_bin rfl rfl rfl (fun _ _ => rfl)) (by exact hS) ?_
          refine wh_q 4 rfl (by kernel_rfl) rfl rfl rfl (q_move rfl rfl) (by exact hS) ?_
          refine wh_gq 5 rfl (by kernel_rfl) rfl rfl rfl hb45 rfl rfl (q_move rfl rfl) (by exact hS) ?_
          refine wh_gq 6 rfl (by kernel_rfl) rfl rfl rfl hb45 rfl rfl (q_move rfl rfl) (by exact hS) ?_
          refine wh_gq 7 rfl (by kernel_rfl) rfl rfl rfl hb45 rfl rfl (q_move rfl rfl) (by exact hS) ?_
          refine wh_gq 8 rfl (by kernel_rfl) rfl rfl rfl hb45 rfl rfl (q_bin rfl rfl rfl (fun _ _ => rfl)) (by exact hS) ?_
          refine wh_gq 9 rfl (by kernel_rfl) rfl rfl rfl hb45 rfl rfl (q_indexAddr rfl rfl rfl Go.Proofs.Tryd.underlying49 sz_9 c47 c48 c49) (by exact hS) ?_
          refine wh_gq 10 rfl (by kernel_rfl) rfl rfl rfl hb45 rfl rfl (q_load rfl rfl Go.Proofs.Tryd.underlying9 rfl (by exact fun _ s => s.1)) (by exact hS) ?_
          refine wh_gq 11 rfl (by kernel_rfl) rfl rfl rfl hb45 rfl rfl (q_move rfl rfl) (by exact hS) ?_
          refine wh_gq 12 rfl (by kernel_rfl) rfl rfl rfl hb45 rfl rfl (q_move rfl rfl) (by exact hS) ?_
          refine wh_gq 13 rfl (by kernel_rfl) rfl rfl rfl hb45 rfl rfl (q_move rfl rfl) (by exact hS) ?_
          refine wh_gq 14 rfl (by kernel_rfl) rfl rfl rfl hb45 rfl rfl (q_bin rfl rfl rfl (fun _ _ => rfl)) (by exact hS) ?_
          refine wh_gq 15 rfl (by kernel_rfl) rfl rfl rfl hb45 rfl rfl (q_bin rfl rfl rfl (fun _ _ => rfl)) (by exact hS) ?_
          refine wh_gq 16 rfl (by kernel_rfl) rfl rfl rfl hb45 rfl rfl (q_indexAddr rfl rfl rfl Go.Proofs.Tryd.underlying49 sz_9 c47 c52 c53) (by exact hS) ?_
          refine wh_gq 17 rfl (by kernel_rfl) rfl rfl rfl hb45 rfl rfl (q_load rfl rfl Go.Proofs.Tryd.underlying9 rfl (by exact fun _ s => s.2.1)) (by exact hS) ?_
          refine wh_ge 18 rfl (by kernel_rfl) rfl rfl rfl hb45 rfl rfl (e_call (first := []) (vs := [Value.string x50, Value.string x54]) (cap := []) rfl rfl rfl cf_75 (CallsH.mono hD ?_))
          rintro _ hz56 ⟨r57, rfl, hD⟩
          obtain ⟨hk0, hk1, hD⟩ := hD
          refine ⟨⟨hk0, hk1, trivial⟩, ?_⟩
          have hS : cellH hz56 (a46.add ((IntKind.i64.wrap (p_3 + (IntKind.i64.wrap ((IntKind.i64.wrap (2 * x1)) + 1)))).toNat * 1)) = some (Value.string x50) ∧ cellH hz56 (a46.add ((IntKind.i64.wrap ((IntKind.i64.wrap (p_3 + (IntKind.i64.wrap ((IntKind.i64.wrap (2 * x1)) + 1)))) + 1)).toNat * 1)) = some (Value.string x54) ∧ True := ⟨hk0, hk1, trivial⟩
          refine wh_q 19 rfl (by kernel_rfl) rfl rfl rfl (q_pickT rfl rfl hb45 rfl) (by exact hS) ?_
          refine wh_keep (l' := [(0, Sl.v d_0), (2, Value.int .i64 p_2), (3, Value.int .i64 p_3), (8, Value.int .i64 x1), (9, Value.int .i64 (IntKind.i64.wrap ((IntKind.i64.wrap (2 * x1)) + 1))), (36, Value.bool r57)]) (keep_cons rfl (keep_cons rfl (keep_cons rfl (keep_cons rfl (keep_cons rfl (keep_cons rfl keep_nil)))))) (wh_done (by kernel_rfl) ?_)
          exact ⟨_, (keep_cons rfl (keep_cons rfl (keep_cons rfl (keep_cons rfl (keep_cons rfl (keep_cons rfl keep_nil)))))), hD⟩
        · have hD := ifF hb45 hD
          refine cw_draw (fun h => True) 20 wide ?_
          have hS : True := trivial
          refine wh_q 0 rfl (by kernel_rfl) rfl rfl rfl (q_move rfl rfl) (by exact hS) ?_
          refine wh_q 1 rfl (by kernel_rfl) rfl rfl rfl (q_bin rfl rfl rfl (fun _ _ => rfl)) (by exact hS) ?_
          refine wh_q 2 rfl (by kernel_rfl) rfl rfl rfl (q_move rfl rfl) (by exact hS) ?_
          refine wh_q 3 rfl (by kernel_rfl) rfl rfl rfl (q_bin rfl rfl rfl (fun _ _ => rfl)) (by exact hS) ?_
          refine wh_q 4 rfl (by kernel_rfl) rfl rfl rfl (q_move rfl rfl) (by exact hS) ?_
          refine wh_gn 5 rfl (by kernel_rfl) rfl rfl rfl hb45 rfl rfl (by exact hS) ?_
          refine wh_gn 6 rfl (by kernel_rfl) rfl rfl rfl hb45 rfl rfl (by exact hS) ?_
          refine wh_gn 7 rfl (by kernel_rfl) rfl rfl rfl hb45 rfl rfl (by exact hS) ?_
          refine wh_gn 8 rfl (by kernel_rfl) rfl rfl rfl hb45 rfl rfl (by exact hS) ?_
          refine wh_gn 9 rfl (by kernel_rfl) rfl rfl rfl hb45 rfl rfl (by exact hS) ?_
          refine wh_gn 10 rfl (by kernel_rfl) rfl rfl rfl hb45 rfl rfl (by exact hS) ?_
          refine wh_gn 11 rfl (by kernel_rfl) rfl rfl rfl hb45 rfl rfl (by exact hS) ?_
          refine wh_gn 12 rfl (by kernel_rfl) rfl rfl rfl hb45 rfl rfl (by exact hS) ?_
          refine wh_gn 13 rfl (by kernel_rfl) rfl rfl rfl hb45 rfl rfl (by exact hS) ?_
          refine wh_gn 14 rfl (by kernel_rfl) rfl rfl rfl hb45 rfl rfl (by exact hS) ?_
          refine wh_gn 15 rfl (by kernel_rfl) rfl rfl rfl hb45 rfl rfl (by exact hS) ?_
          refine wh_gn 16 rfl (by kernel_rfl) rfl rfl rfl hb45 rfl rfl (by exact hS) ?_
          refine wh_gn 17 rfl (by kernel_rfl) rfl rfl rfl hb45 rfl rfl (by exact hS) ?_
          refine wh_gn 18 rfl (by kernel_rfl) rfl rfl rfl hb45 rfl rfl (by exact hS) ?_
          refine wh_q 19 rfl (by kernel_rfl) rfl rfl rfl (q_pickF rfl rfl hb45 rfl) (by exact hS) ?_
          refine wh_keep (l' := [(0, Sl.v d_0), (2, Value.int .i64 p_2), (3, Value.int .i64 p_3), (8, Value.int .i64 x1), (9, Value.int .i64 (IntKind.i64.wrap ((IntKind.i64.wrap (2 * x1)) + 1))), (36, Value.bool false)]) (keep_cons rfl (keep_cons rfl (keep_cons rfl (keep_cons rfl (keep_cons rfl (keep_cons rfl keep_nil)))))) (wh_done (by kernel_rfl) ?_)
          exact ⟨_, (keep_cons rfl (keep_cons rfl (keep_cons rfl (keep_cons rfl (keep_cons rfl (keep_cons rfl keep_nil)))))), hD⟩
      · rintro l59 hz43 ⟨x42, hk58, hD⟩
        refine cw_keep hk58 ?_
        unfold D_slices_siftDownOrdered_string_j2 at hD
        refine cw_cond rfl (fun hb44 => ?_) (fun hb44 => ?_)
        · have hD := ifT hb44 hD
          refine cw_region ?_
          refine wl_q rfl rfl rfl (q_move rfl rfl) ?_
          refine wl_q rfl rfl rfl (q_bin rfl rfl rfl (fun _ _ => rfl)) ?_
          refine wl_q rfl rfl rfl (q_assign rfl rfl) ?_
          refine wl_keep (l' := [(0, Sl.v d_0), (2, Value.int .i64 p_2), (3, Value.int .i64 p_3), (8, Value.int .i64 x1), (9, Value.int .i64 (IntKind.i64.wrap ((IntKind.i64.wrap ((IntKind.i64.wrap (2 * x1)) + 1)) + 1)))]) (keep_cons rfl (keep_cons rfl (keep_cons rfl (keep_cons rfl (keep_cons rfl keep_nil))))) (wl_nil ?_)
          exact ⟨_, (keep_cons rfl (keep_cons rfl (keep_cons rfl (keep_cons rfl (keep_cons rfl keep_nil))))), hD⟩
        · have hD := ifF hb44 hD
          refine cw_skip ?_
          exact ⟨_, (keep_cons rfl (keep_cons rfl (keep_cons rfl (keep_cons rfl (keep_cons rfl keep_nil))))), hD⟩
    · rintro l61 hz6 ⟨x5, hk60, hD⟩
      refine cw_keep hk60 ?_
      unfold D_slices_siftDownOrdered_string_j1 at hD
      refine cw_seq ?_
      refine cw_seq ?_
      obtain ⟨a7, c8, c9, c10, hD⟩ := hD
      obtain ⟨x11, c12, hD⟩ := hD
      obtain ⟨c13, c14, hD⟩ := hD
      obtain ⟨x15, c16, hD⟩ := hD
      refine cw_draw (fun h => cellH h (a7.add ((IntKind.i64.wrap (p_3 + x1)).toNat * 1)) = some (Value.string x11) ∧ cellH h (a7.add ((IntKind.i64.wrap (p_3 + x5)).toNat * 1)) = some (Value.string x15) ∧ True) 14 wide ?_
      have hS : cellH hz6 (a7.add ((IntKind.i64.wrap (p_3 + x1)).toNat * 1)) = some (Value.string x11) ∧ cellH hz6 (a7.add ((IntKind.i64.wrap (p_3 + x5)).toNat * 1)) = some (Value.string x15) ∧ True := ⟨c12, c16, trivial⟩
      refine wh_q 0 rfl (by kernel_rfl) rfl rfl rfl (q_move rfl rfl) (by exact hS) ?_
      refine wh_q 1 rfl (by kernel_rfl) rfl rfl rfl (q_move rfl rfl) (by exact hS) ?_
      refine wh_q 2 rfl (by kernel_rfl) rfl rfl rfl (q_move rfl rfl) (by exact hS) ?_
      refine wh_q 3 rfl (by kernel_rfl) rfl rfl rfl (q_bin rfl rfl rfl (fun _ _ => rfl)) (by exact hS) ?_
      refine wh_q 4 rfl (by kernel_rfl) rfl rfl rfl (q_indexAddr rfl rfl rfl Go.Proofs.Tryd.underlying49 sz_9 c8 c9 c10) (by exact hS) ?_
      refine wh_q 5 rfl (by kernel_rfl) rfl rfl rfl (q_load rfl rfl Go.Proofs.Tryd.underlying9 rfl (by exact fun _ s => s.1)) (by exact hS) ?_
      refine wh_q 6 rfl (by kernel_rfl) rfl rfl rfl (q_move rfl rfl) (by exact hS) ?_
      refine wh_q 7 rfl (by kernel_rfl) rfl rfl rfl (q_move rfl rfl) (by exact hS) ?_
      refine wh_q 8 rfl (by kernel_rfl) rfl rfl rfl (q_move rfl rfl) (by exact hS) ?_
      refine wh_q 9 rfl (by kernel_rfl) rfl rfl rfl (q_bin rfl rfl rfl (fun _ _ => rfl)) (by exact hS) ?_
      refine wh_q 10 rfl (by kernel_rfl) rfl rfl rfl (q_indexAddr rfl rfl rfl Go.Proofs.Tryd.underlying49 sz_9 c8 c13 c14) (by exact hS) ?_
      refine wh_q 11 rfl (by kernel_rfl) rfl rfl rfl (q_load rfl rfl Go.Proofs.Tryd.underlying9 rfl (by exact fun _ s => s.2.1)) (by exact hS) ?_
      refine wh_e 12 rfl (by kernel_rfl) rfl rfl rfl (e_call (first := []) (vs := [Value.string x11, Value.string x15]) (cap := []) rfl rfl rfl cf_75 (CallsH.mono hD ?_))
      rintro _ hz17 ⟨r18, rfl, hD⟩
      obtain ⟨hk0, hk1, hD⟩ := hD
      refine ⟨⟨hk0, hk1, trivial⟩, ?_⟩
      have hS : cellH hz17 (a7.add ((IntKind.i64.wrap (p_3 + x1)).toNat * 1)) = some (Value.string x11) ∧ cellH hz17 (a7.add ((IntKind.i64.wrap (p_3 + x5)).toNat * 1)) = some (Value.string x15) ∧ True := ⟨hk0, hk1, trivial⟩
      refine wh_q 13 rfl (by kernel_rfl) rfl rfl rfl (q_un rfl rfl (fun _ => rfl)) (by exact hS) ?_
      refine wh_keep (l' := [(0, Sl.v d_0), (2, Value.int .i64 p_2), (3, Value.int .i64 p_3), (8, Value.int .i64 x1), (9, Value.int .i64 x5), (52, Value.bool (!r18))]) (keep_cons rfl (keep_cons rfl (keep_cons rfl (keep_cons rfl (keep_cons rfl (keep_cons rfl keep_nil)))))) (wh_done (by kernel_rfl) ?_)
      refine cw_cond rfl (fun hb19 => ?_) (fun hb19 => ?_)
      · have hD := ifT hb19 hD
        refine cw_ret ?_
        exact ⟨_, resq0 rfl, rfl, hD⟩
      · have hD := ifF hb19 hD
        refine cw_skip ?_
        refine cw_seq ?_
        obtain ⟨c20, c21, hD⟩ := hD
        obtain ⟨x22, c23, hD⟩ := hD
        obtain ⟨c24, c25, hD⟩ := hD
        obtain ⟨x26, c27, hD⟩ := hD
        obtain ⟨c28, c29, hD⟩ := hD
        refine cw_draw (fun h => cellH h (a7.add ((IntKind.i64.wrap (p_3 + x5)).toNat * 1)) = some (Value.string x22) ∧ cellH h (a7.add ((IntKind.i64.wrap (p_3 + x1)).toNat * 1)) = some (Value.string x26) ∧ True) 23 wide ?_
        have hS : cellH hz17 (a7.add ((IntKind.i64.wrap (p_3 + x5)).toNat * 1)) = some (Value.string x22) ∧ cellH hz17 (a7.add ((IntKind.i64.wrap (p_3 + x1)).toNat * 1)) = some (Value.string x26) ∧ True := ⟨c23, c27, trivial⟩
        refine wh_q 0 rfl (by kernel_rfl) rfl rfl rfl (q_move rfl rfl) (by exact hS) ?_
        refine wh_q 1 rfl (by kernel_rfl) rfl rfl rfl (q_move rfl rfl) (by exact hS) ?_
        refine wh_q 2 rfl (by kernel_rfl) rfl rfl rfl (q_move rfl rfl) (by exact hS) ?_
        refine wh_q 3 rfl (by kernel_rfl) rfl rfl rfl (q_bin rfl rfl rfl (fun _ _ => rfl)) (by exact hS) ?_
        refine wh_q 4 rfl (by kernel_rfl) rfl rfl rfl (q_move rfl rfl) (by exact hS) ?_
        refine wh_q 5 rfl (by kernel_rfl) rfl rfl rfl (q_move rfl rfl) (by exact hS) ?_
        refine wh_q 6 rfl (by kernel_rfl) rfl rfl rfl (q_move rfl rfl) (by exact hS) ?_
        refine wh_q 7 rfl (by kernel_rfl) rfl rfl rfl (q_bin rfl rfl rfl (fun _ _ => rfl)) (by exact hS) ?_
        refine wh_q 8 rfl (by kernel_rfl) rfl rfl rfl (q_move rfl rfl) (by exact hS) ?_
        refine wh_q 9 rfl (by kernel_rfl) rfl rfl rfl (q_move rfl rfl) (by exact hS) ?_
        refine wh_q 10 rfl (by kernel_rfl) rfl rfl rfl (q_move rfl rfl) (by exact hS) ?_
        refine wh_q 11 rfl (by kernel_rfl) rfl rfl rfl (q_bin rfl rfl rfl (fun _ _ => rfl)) (by exact hS) ?_
        refine wh_q 12 rfl (by kernel_rfl) rfl rfl rfl (q_indexAddr rfl rfl rfl Go.Proofs.Tryd.underlying49 sz_9 c8 c20 c21) (by exact hS) ?_
        refine wh_q 13 rfl (by kernel_rfl) rfl rfl rfl (q_load rfl rfl Go.Proofs.Tryd.underlying9 rfl (by exact fun _ s => s.1)) (by exact hS) ?_
        refine wh_q 14 rfl (by kernel_rfl) rfl rfl rfl (q_move rfl rfl) (by exact hS) ?_
        refine wh_q 15 rfl (by kernel_rfl) rfl rfl rfl (q_move rfl rfl) (by exact hS) ?_
        refine wh_q 16 rfl (by kernel_rfl) rfl rfl rfl (q_move rfl rfl) (by exact hS) ?_
        refine wh_q 17 rfl (by kernel_rfl) rfl rfl rfl (q_bin rfl rfl rfl (fun _ _ => rfl)) (by exact hS) ?_
        refine wh_q 18 rfl (by kernel_rfl) rfl rfl rfl (q_indexAddr rfl rfl rfl Go.Proofs.Tryd.underlying49 sz_9 c8 c24 c25) (by exact hS) ?_
        refine wh_q 19 rfl (by kernel_rfl) rfl rfl rfl (q_load rfl rfl Go.Proofs.Tryd.underlying9 rfl (by exact fun _ s => s.2.1)) (by exact hS) ?_
        refine wh_q 20 rfl (by kernel_rfl) rfl rfl rfl (q_indexAddr rfl rfl rfl Go.Proofs.Tryd.underlying49 sz_9 c8 c28 c29) (by exact hS) ?_
        obtain ⟨u31, c32, c33, hD⟩ := hD
        refine wh_e0 21 rfl (by kernel_rfl) rfl rfl (e_store rfl rfl rfl sz_9 trivial c32 c33 ?_)
        intro hz30 e34
        have hD := hD hz30 e34
        obtain ⟨hk0, hk1, hD⟩ := hD
        refine ⟨⟨hk0, hk1, trivial⟩, ?_⟩
        have hS : cellH hz30 (a7.add ((IntKind.i64.wrap (p_3 + x5)).toNat * 1)) = some (Value.string x22) ∧ cellH hz30 (a7.add ((IntKind.i64.wrap (p_3 + x1)).toNat * 1)) = some (Value.string x26) ∧ True := ⟨hk0, hk1, trivial⟩
        obtain ⟨c35, c36, hD⟩ := hD
        refine wh_q 22 rfl (by kernel_rfl) rfl rfl rfl (q_indexAddr rfl rfl rfl Go.Proofs.Tryd.underlying49 sz_9 c8 c35 c36) (by exact hS) ?_
        obtain ⟨u38, c39, c40, hD⟩ := hD
        refine wh_last 23 rfl (by kernel_rfl) rfl rfl rfl (e_store rfl rfl rfl sz_9 trivial c39 c40 ?_)
        intro hz37 e41
        have hD := hD hz37 e41
        refine wh_keep (l' := [(0, Sl.v d_0), (2, Value.int .i64 p_2), (3, Value.int .i64 p_3), (9, Value.int .i64 x5)]) (keep_cons rfl (keep_cons rfl (keep_cons rfl (keep_cons rfl keep_nil)))) (wh_done (by kernel_rfl) ?_)
        refine cw_region ?_
        refine wl_q rfl rfl rfl (q_move rfl rfl) ?_
        refine wl_q rfl rfl rfl (q_assign rfl rfl) ?_
        refine wl_keep (l' := [(0, Sl.v d_0), (2, Value.int .i64 p_2), (3, Value.int .i64 p_3), (8, Value.int .i64 x5)]) (keep_cons rfl (keep_cons rfl (keep_cons rfl (keep_cons rfl keep_nil)))) (wl_nil ?_)
        rw [hC3] at hD
        exact ⟨(x5), (keep_cons rfl (keep_cons rfl (keep_cons rfl (keep_cons rfl keep_nil)))), hD⟩
end Go.Proofs.YtgdmjdacmebfjaaDoor.D

namespace Go.Proofs.YtgdmjdacmebfjaaDoor.D
open Go
set_option maxRecDepth 100000
theorem S_slices_nextPowerOfTwo {length_0 : Int} {h0 : Hp} {K : Int → Hp → Prop} (hD : D_slices_nextPowerOfTwo length_0 h0 K) : C_slices_nextPowerOfTwo length_0 h0 K := by
  unfold D_slices_nextPowerOfTwo at hD
  refine calls_cw (args := [Value.int .i64 length_0]) Go.Proofs.Tryd.func85 rfl ?_
  show cw _ 7 _ [(0, Value.int .i64 length_0)] _ _ _ _
  refine cw_seq ?_
  refine cw_region ?_
  refine wl_q rfl rfl rfl (q_assign rfl rfl) ?_
  refine wl_keep (l' := [(0, Value.int .i64 length_0)]) (keep_cons rfl keep_nil) (wl_nil ?_)
  refine cw_seq ?_
  refine cw_region ?_
  refine wl_q rfl rfl rfl (q_move rfl rfl) ?_
  refine wl_q rfl rfl rfl (q_conv_int rfl rfl Go.Proofs.Tryd.underlying3 Go.Proofs.Tryd.underlying92) ?_
  refine wl_e rfl rfl rfl (e_call (first := []) (vs := [Value.int .u64 (IntKind.u64.wrap length_0)]) (cap := []) rfl rfl rfl cf_59 (CallsH.mono hD ?_))
  rintro _ hz1 ⟨r2, rfl, hD⟩
  obtain ⟨c3, hD⟩ := hD
  refine wl_q rfl rfl rfl (q_shl rfl rfl rfl c3) ?_
  refine wl_q rfl rfl rfl (q_assign rfl rfl) ?_
  refine wl_keep (l' := [(2, Value.int .u64 (IntKind.u64.wrap (1 * 2 ^ (min (Int.toNat r2) 64))))]) (keep_cons rfl keep_nil) (wl_nil ?_)
  refine cw_ret ?_
  exact ⟨_, resq1 rfl rfl, _, rfl, hD⟩
end Go.Proofs.YtgdmjdacmebfjaaDoor.D

namespace Go.Proofs.YtgdmjdacmebfjaaDoor.D
open Go
set_option maxRecDepth 100000
theorem S_slices_xorshift_Next {r_0 : Option Addr} {h0 : Hp} {K : Int → Hp → Prop} (hD : D_slices_xorshift_Next r_0 h0 K) : C_slices_xorshift_Next r_0 h0 K := by
  unfold D_slices_xorshift_Next at hD
  refine calls_cw (args := [Value.pointer r_0]) Go.Proofs.Tryd.func86 rfl ?_
  show cw _ 33 _ [(0, Value.pointer r_0)] _ _ _ _
  refine cw_seq ?_
  refine cw_region ?_
  refine wl_q rfl rfl rfl (q_assign rfl rfl) ?_
  refine wl_keep (l' := [(0, Value.pointer r_0)]) (keep_cons rfl keep_nil) (wl_nil ?_)
  refine cw_seq ?_
  obtain ⟨a1, c2, hD⟩ := hD
  obtain ⟨x3, c4, hD⟩ := hD
  obtain ⟨x5, c6, hD⟩ := hD
  refine cw_draw (fun h => cellH h a1 = some (Value.int .u64 x3) ∧ cellH h a1 = some (Value.int .u64 x5) ∧ True) 9 wide ?_
  have hS : cellH h0 a1 = some (Value.int .u64 x3) ∧ cellH h0 a1 = some (Value.int .u64 x5) ∧ True := ⟨c4, c6, trivial⟩
  refine wh_q 0 rfl (by kernel_rfl) rfl rfl rfl (q_move rfl rfl) (by exact hS) ?_
  refine wh_q 1 rfl (by kernel_rfl) rfl rfl rfl (q_nil rfl rfl c2) (by exact hS) ?_
  refine wh_q 2 rfl (by kernel_rfl) rfl rfl rfl (q_load rfl rfl Go.Proofs.Tryd.underlying127 rfl (by exact fun _ s => s.1)) (by exact hS) ?_
  refine wh_q 3 rfl (by kernel_rfl) rfl rfl rfl (q_move rfl rfl) (by exact hS) ?_
  refine wh_q 4 rfl (by kernel_rfl) rfl rfl rfl (q_nil rfl rfl c2) (by exact hS) ?_
  refine wh_q 5 rfl (by kernel_rfl) rfl rfl rfl (q_load rfl rfl Go.Proofs.Tryd.underlying127 rfl (by exact fun _ s => s.2.1)) (by exact hS) ?_
  refine wh_q 6 rfl (by kernel_rfl) rfl rfl rfl (q_shl rfl rfl rfl (by decide)) (by exact hS) ?_
  refine wh_q 7 rfl (by kernel_rfl) rfl rfl rfl (q_bin rfl rfl rfl (fun _ _ => rfl)) (by exact hS) ?_
  refine wh_q 8 rfl (by kernel_rfl) rfl rfl rfl (q_nil rfl rfl c2) (by exact hS) ?_
  obtain ⟨u8, c9, c10, hD⟩ := hD
  refine wh_last 9 rfl (by kernel_rfl) rfl rfl rfl (e_store rfl rfl rfl sz_127 trivial c9 c10 ?_)
  intro hz7 e11
  have hD := hD hz7 e11
  refine wh_keep (l' := [(0, Value.pointer r_0)]) (keep_cons rfl keep_nil) (wh_done (by kernel_rfl) ?_)
  refine cw_seq ?_
  obtain ⟨x12, c13, hD⟩ := hD
  obtain ⟨x14, c15, hD⟩ := hD
  refine cw_draw (fun h => cellH h a1 = some (Value.int .u64 x12) ∧ cellH h a1 = some (Value.int .u64 x14) ∧ True) 9 wide ?_
  have hS : cellH hz7 a1 = some (Value.int .u64 x12) ∧ cellH hz7 a1 = some (Value.int .u64 x14) ∧ True := ⟨c13, c15, trivial⟩
  refine wh_q 0 rfl (by kernel_rfl) rfl rfl rfl (q_move rfl rfl) (by exact hS) ?_
  refine wh_q 1 rfl (by kernel_rfl) rfl rfl rfl (q_nil rfl rfl c2) (by exact hS) ?_
  refine wh_q 2 rfl (by kernel_rfl) rfl rfl rfl (q_load rfl rfl Go.Proofs.Tryd.underlying127 rfl (by exact fun _ s => s.1)) (by exact hS) ?_
  refine wh_q 3 rfl (by kernel_rfl) rfl rfl rfl (q_move rfl rfl) (by exact hS) ?_
  refine wh_q 4 rfl (by kernel_rfl) rfl rfl rfl (q_nil rfl rfl c2) (by exact hS) ?_
  refine wh_q 5 rfl (by kernel_rfl) rfl rfl rfl (q_load rfl rfl Go.Proofs.Tryd.underlying127 rfl (by exact fun _ s => s.2.1)) (by exact hS) ?_
  refine wh_q 6 rfl (by kernel_rfl) rfl rfl rfl (q_shr rfl rfl rfl (by decide)) (by exact hS) ?_
  refine wh_q 7 rfl (by kernel_rfl) rfl rfl rfl (q_bin rfl rfl rfl (fun _ _ => rfl)) (by exact hS) ?_
  refine wh_q 8 rfl (by kernel_rfl) rfl rfl rfl (q_nil rfl rfl c2) (by exact hS) ?_
  obtain ⟨u17, c18, c19, hD⟩ := hD
  refine wh_last 9 rfl (by kernel_rfl) rfl rfl rfl (e_store rfl rfl rfl sz_127 trivial c18 c19 ?_)
  intro hz16 e20
  have hD := hD hz16 e20
  refine wh_keep (l' := [(0, Value.pointer r_0)]) (keep_cons rfl keep_nil) (wh_done (by kernel_rfl) ?_)
  refine cw_seq ?_
  obtain ⟨x21, c22, hD⟩ := hD
  obtain ⟨x23, c24, hD⟩ := hD
  refine cw_draw (fun h => cellH h a1 = some (Value.int .u64 x21) ∧ cellH h a1 = some (Value.int .u64 x23) ∧ True) 9 wide ?_
  have hS : cellH hz16 a1 = some (Value.int .u64 x21) ∧ cellH hz16 a1 = some (Value.int .u64 x23) ∧ True := ⟨c22, c24, trivial⟩
  refine wh_q 0 rfl (by kernel_rfl) rfl rfl rfl (q_move rfl rfl) (by exact hS) ?_
  refine wh_q 1 rfl (by kernel_rfl) rfl rfl rfl (q_nil rfl rfl c2) (by exact hS) ?_
  refine wh_q 2 rfl (by kernel_rfl) rfl rfl rfl (q_load rfl rfl Go.Proofs.Tryd.underlying127 rfl (by exact fun _ s => s.1)) (by exact hS) ?_
  refine wh_q 3 rfl (by kernel_rfl) rfl rfl rfl (q_move rfl rfl) (by exact hS) ?_
  refine wh_q 4 rfl (by kernel_rfl) rfl rfl rfl (q_nil rfl rfl c2) (by exact hS) ?_
  refine wh_q 5 rfl (by kernel_rfl) rfl rfl rfl (q_load rfl rfl Go.Proofs.Tryd.underlying127 rfl (by exact fun _ s => s.2.1)) (by exact hS) ?_
  refine wh_q 6 rfl (by kernel_rfl) rfl rfl rfl (q_shl rfl rfl rfl (by decide)) (by exact hS) ?_
  refine wh_q 7 rfl (by kernel_rfl) rfl rfl rfl (q_bin rfl rfl rfl (fun _ _ => rfl)) (by exact hS) ?_
  refine wh_q 8 rfl (by kernel_rfl) rfl rfl rfl (q_nil rfl rfl c2) (by exact hS) ?_
  obtain ⟨u26, c27, c28, hD⟩ := hD
  refine wh_last 9 rfl (by kernel_rfl) rfl rfl rfl (e_store rfl rfl rfl sz_127 trivial c27 c28 ?_)
  intro hz25 e29
  have hD := hD hz25 e29
  refine wh_keep (l' := [(0, Value.pointer r_0)]) (keep_cons rfl keep_nil) (wh_done (by kernel_rfl) ?_)
  refine cw_seq ?_
  refine cw_region ?_
  refine wl_q rfl rfl rfl (q_move rfl rfl) ?_
  refine wl_q rfl rfl rfl (q_nil rfl rfl c2) ?_
  obtain ⟨x30, c31, hD⟩ := hD
  refine wl_q rfl rfl rfl (q_load rfl rfl Go.Proofs.Tryd.underlying127 rfl (At.cell c31)) ?_
  refine wl_q rfl rfl rfl (q_assign rfl rfl) ?_
  refine wl_keep (l' := [(2, Value.int .u64 x30)]) (keep_cons rfl keep_nil) (wl_nil ?_)
  refine cw_ret ?_
  exact ⟨_, resq1 rfl rfl, _, rfl, hD⟩
end Go.Proofs.YtgdmjdacmebfjaaDoor.D

namespace Go.Proofs.YtgdmjdacmebfjaaDoor.D
open Go
set_option maxRecDepth 100000
theorem S_slices_medianAdjacentOrdered_string {data_0 : Sl} {a_1 : Int} {swaps_2 : Option Addr} {h0 : Hp} {K : Int → Hp → Prop} (hD : D_slices_medianAdjacentOrdered_string data_0 a_1 swaps_2 h0 K) : C_slices_medianAdjacentOrdered_string data_0 a_1 swaps_2 h0 K := by
  unfold D_slices_medianAdjacentOrdered_string at hD
  refine calls_cw (args := [Sl.v data_0, Value.int .i64 a_1, Value.pointer swaps_2]) Go.Proofs.Tryd.func87 rfl ?_
  show cw _ 15 _ [(0, Sl.v data_0), (1, Value.int .i64 a_1), (2, Value.pointer swaps_2)] _ _ _ _
  refine cw_seq ?_
  refine cw_region ?_
  refine wl_q rfl rfl rfl (q_assign rfl rfl) ?_
  refine wl_keep (l' := [(0, Sl.v data_0), (1, Value.int .i64 a_1), (2, Value.pointer swaps_2)]) (keep_cons rfl (keep_cons rfl (keep_cons rfl keep_nil))) (wl_nil ?_)
  refine cw_seq ?_
  refine cw_region ?_
  refine wl_q rfl rfl rfl (q_move rfl rfl) ?_
  refine wl_q rfl rfl rfl (q_move rfl rfl) ?_
  refine wl_q rfl rfl rfl (q_bin rfl rfl rfl (fun _ _ => rfl)) ?_
  refine wl_q rfl rfl rfl (q_move rfl rfl) ?_
  refine wl_q rfl rfl rfl (q_move rfl rfl) ?_
  refine wl_q rfl rfl rfl (q_bin rfl rfl rfl (fun _ _ => rfl)) ?_
  refine wl_q rfl rfl rfl (q_move rfl rfl) ?_
  refine wl_e rfl rfl rfl (e_call (first := []) (vs := [Sl.v data_0, Value.int .i64 (IntKind.i64.wrap (a_1 - 1)), Value.int .i64 a_1, Value.int .i64 (IntKind.i64.wrap (a_1 + 1)), Value.pointer swaps_2]) (cap := []) rfl rfl rfl cf_88 (CallsH.mono hD ?_))
  rintro _ hz1 ⟨r2, rfl, hD⟩
  refine wl_q rfl rfl rfl (q_assign rfl rfl) ?_
  refine wl_keep (l' := [(6, Value.int .i64 r2)]) (keep_cons rfl keep_nil) (wl_nil ?_)
  refine cw_ret ?_
  exact ⟨_, resq1 rfl rfl, _, rfl, hD⟩
end Go.Proofs.YtgdmjdacmebfjaaDoor.D

namespace Go.Proofs.YtgdmjdacmebfjaaDoor.D
open Go
set_option maxRecDepth 100000
theorem S_slices_medianOrdered_string {data_0 : Sl} {a_1 : Int} {b_2 : Int} {c_3 : Int} {swaps_4 : Option Addr} {h0 : Hp} {K : Int → Hp → Prop} (hD : D_slices_medianOrdered_string data_0 a_1 b_2 c_3 swaps_4 h0 K) : C_slices_medianOrdered_string data_0 a_1 b_2 c_3 swaps_4 h0 K := by
  unfold D_slices_medianOrdered_string at hD
  refine calls_cw (args := [Sl.v data_0, Value.int .i64 a_1, Value.int .i64 b_2, Value.int .i64 c_3, Value.pointer swaps_4]) Go.Proofs.Tryd.func88 rfl ?_
  show cw _ 36 _ [(0, Sl.v data_0), (1, Value.int .i64 a_1), (2, Value.int .i64 b_2), (3, Value.int .i64 c_3), (4, Value.pointer swaps_4)] _ _ _ _
  refine cw_seq ?_
  refine cw_region ?_
  refine wl_q rfl rfl rfl (q_assign rfl rfl) ?_
  refine wl_keep (l' := [(0, Sl.v data_0), (1, Value.int .i64 a_1), (2, Value.int .i64 b_2), (3, Value.int .i64 c_3), (4, Value.pointer swaps_4)]) (keep_cons rfl (keep_cons rfl (keep_cons rfl (keep_cons rfl (keep_cons rfl keep_nil))))) (wl_nil ?_)
  refine cw_seq ?_
  refine cw_region ?_
  refine wl_q rfl rfl rfl (q_move rfl rfl) ?_
  refine wl_q rfl rfl rfl (q_move rfl rfl) ?_
  refine wl_q rfl rfl rfl (q_move rfl rfl) ?_
  refine wl_q rfl rfl rfl (q_move rfl rfl) ?_
  refine wl_e rfl rfl rfl (e_call (first := []) (vs := [Sl.v data_0, Value.int .i64 a_1, Value.int .i64 b_2, Value.pointer swaps_4]) (cap := []) rfl rfl rfl cf_93 (CallsH.mono hD ?_))
  rintro _ hz1 ⟨r2, r3, rfl, hD⟩
  refine wl_q rfl rfl rfl (q_move rfl rfl) ?_
  refine wl_q rfl rfl rfl (q_extract rfl rfl rfl) ?_
  refine wl_q rfl rfl rfl (q_extract rfl rfl rfl) ?_
  refine wl_q rfl rfl rfl (q_assign rfl rfl) ?_
  refine wl_q rfl rfl rfl (q_assign rfl rfl) ?_
  refine wl_keep (l' := [(0, Sl.v data_0), (1, Value.int .i64 r2), (2, Value.int .i64 r3), (3, Value.int .i64 c_3), (4, Value.pointer swaps_4)]) (keep_cons rfl (keep_cons rfl (keep_cons rfl (keep_cons rfl (keep_cons rfl keep_nil))))) (wl_nil ?_)
  refine cw_seq ?_
  refine cw_region ?_
  refine wl_q rfl rfl rfl (q_move rfl rfl) ?_
  refine wl_q rfl rfl rfl (q_move rfl rfl) ?_
  refine wl_q rfl rfl rfl (q_move rfl rfl) ?_
  refine wl_q rfl rfl rfl (q_move rfl rfl) ?_
  refine wl_e rfl rfl rfl (e_call (first := []) (vs := [Sl.v data_0, Value.int .i64 r3, Value.int .i64 c_3, Value.pointer swaps_4]) (cap := []) rfl rfl rfl cf_93 (CallsH.mono hD ?_))
  rintro _ hz4 ⟨r5, r6, rfl, hD⟩
  refine wl_q rfl rfl rfl (q_move rfl rfl) ?_
  refine wl_q rfl rfl rfl (q_extract rfl rfl rfl) ?_
  refine wl_q rfl rfl rfl (q_extract rfl rfl rfl) ?_
  refine wl_q rfl rfl rfl (q_assign rfl rfl) ?_
  refine wl_q rfl rfl rfl (q_assign rfl rfl) ?_
  refine wl_keep (l' := [(0, Sl.v data_0), (1, Value.int .i64 r2), (2, Value.int .i64 r5), (4, Value.pointer swaps_4)]) (keep_cons rfl (keep_cons rfl (keep_cons rfl (keep_cons rfl keep_nil)))) (wl_nil ?_)
  refine cw_seq ?_
  refine cw_region ?_
  refine wl_q rfl rfl rfl (q_move rfl rfl) ?_
  refine wl_q rfl rfl rfl (q_move rfl rfl) ?_
  refine wl_q rfl rfl rfl (q_move rfl rfl) ?_
  refine wl_q rfl rfl rfl (q_move rfl rfl) ?_
  refine wl_e rfl rfl rfl (e_call (first := []) (vs := [Sl.v data_0, Value.int .i64 r2, Value.int .i64 r5, Value.pointer swaps_4]) (cap := []) rfl rfl rfl cf_93 (CallsH.mono hD ?_))
  rintro _ hz7 ⟨r8, r9, rfl, hD⟩
  refine wl_q rfl rfl rfl (q_move rfl rfl) ?_
  refine wl_q rfl rfl rfl (q_extract rfl rfl rfl) ?_
  refine wl_q rfl rfl rfl (q_extract rfl rfl rfl) ?_
  refine wl_q rfl rfl rfl (q_assign rfl rfl) ?_
  refine wl_q rfl rfl rfl (q_assign rfl rfl) ?_
  refine wl_keep (l' := [(2, Value.int .i64 r9)]) (keep_cons rfl keep_nil) (wl_nil ?_)
  refine cw_seq ?_
  refine cw_region ?_
  refine wl_q rfl rfl rfl (q_move rfl rfl) ?_
  refine wl_q rfl rfl rfl (q_assign rfl rfl) ?_
  refine wl_keep (l' := [(10, Value.int .i64 r9)]) (keep_cons rfl keep_nil) (wl_nil ?_)
  refine cw_ret ?_
  exact ⟨_, resq1 rfl rfl, _, rfl, hD⟩
end Go.Proofs.YtgdmjdacmebfjaaDoor.D

namespace Go.Proofs.YtgdmjdacmebfjaaDoor.D
open Go
set_option maxRecDepth 100000
theorem S_cmp_isNaN_string {x_0 : ByteArray} {h0 : Hp} {K : Bool → Hp → Prop} (hD : D_cmp_isNaN_string x_0 h0 K) : C_cmp_isNaN_string x_0 h0 K := by
  unfold D_cmp_isNaN_string at hD
  refine calls_cw (args := [Value.string x_0]) Go.Proofs.Tryd.func89 rfl ?_
  show cw _ 6 _ [(0, Value.string x_0)] _ _ _ _
  refine cw_seq ?_
  refine cw_region ?_
  refine wl_q rfl rfl rfl (q_assign rfl rfl) ?_
  refine wl_keep (l' := [(0, Value.string x_0)]) (keep_cons rfl keep_nil) (wl_nil ?_)
  refine cw_seq ?_
  refine cw_region ?_
  refine wl_q rfl rfl rfl (q_move rfl rfl) ?_
  refine wl_q rfl rfl rfl (q_move rfl rfl) ?_
  refine wl_q rfl rfl rfl (q_bin rfl rfl rfl (fun _ _ => rfl)) ?_
  refine wl_q rfl rfl rfl (q_assign rfl rfl) ?_
  refine wl_keep (l' := [(2, Value.bool (!(x_0.toList == x_0.toList)))]) (keep_cons rfl keep_nil) (wl_nil ?_)
  refine cw_ret ?_
  exact ⟨_, resq1 rfl rfl, _, rfl, hD⟩
end Go.Proofs.YtgdmjdacmebfjaaDoor.D

namespace Go.Proofs.YtgdmjdacmebfjaaDoor.D
open Go
set_option maxRecDepth 100000
theorem S_utf8_RuneStart {b_0 : Int} {h0 : Hp} {K : Bool → Hp → Prop} (hD : D_utf8_RuneStart b_0 h0 K) : C_utf8_RuneStart b_0 h0 K := by
  unfold D_utf8_RuneStart at hD
  refine calls_cw (args := [Value.int .u8 b_0]) Go.Proofs.Tryd.func92 rfl ?_
  show cw _ 6 _ [(0, Value.int .u8 b_0)] _ _ _ _
  refine cw_seq ?_
  refine cw_region ?_
  refine wl_q rfl rfl rfl (q_assign rfl rfl) ?_
  refine wl_keep (l' := [(0, Value.int .u8 b_0)]) (keep_cons rfl keep_nil) (wl_nil ?_)
  refine cw_seq ?_
  refine cw_region ?_
  refine wl_q rfl rfl rfl (q_move rfl rfl) ?_
  refine wl_q rfl rfl rfl (q_bin rfl rfl rfl (fun _ _ => rfl)) ?_
  refine wl_q rfl rfl rfl (q_bin rfl rfl rfl (fun _ _ => rfl)) ?_
  refine wl_q rfl rfl rfl (q_assign rfl rfl) ?_
  refine wl_keep (l' := [(2, Value.bool ((bitsI .and .u8 b_0 192) != (128 : Int)))]) (keep_cons rfl keep_nil) (wl_nil ?_)
  refine cw_ret ?_
  exact ⟨_, resq1 rfl rfl, _, rfl, hD⟩
end Go.Proofs.YtgdmjdacmebfjaaDoor.D

namespace Go.Proofs.YtgdmjdacmebfjaaDoor.D
open Go
set_option maxRecDepth 100000
theorem S_slices_order2Ordered_string {data_0 : Sl} {a_1 : Int} {b_2 : Int} {swaps_3 : Option Addr} {h0 : Hp} {K : Int → Int → Hp → Prop} (hD : D_slices_order2Ordered_string data_0 a_1 b_2 swaps_3 h0 K) : C_slices_order2Ordered_string data_0 a_1 b_2 swaps_3 h0 K := by
  unfold D_slices_order2Ordered_string at hD
  refine calls_cw (args := [Sl.v data_0, Value.int .i64 a_1, Value.int .i64 b_2, Value.pointer swaps_3]) Go.Proofs.Tryd.func93 rfl ?_
  show cw _ 28 _ [(0, Sl.v data_0), (1, Value.int .i64 a_1), (2, Value.int .i64 b_2), (3, Value.pointer swaps_3)] _ _ _ _
  refine cw_seq ?_
  refine cw_region ?_
  refine wl_q rfl rfl rfl (q_assign rfl rfl) ?_
  refine wl_q rfl rfl rfl (q_assign rfl rfl) ?_
  refine wl_keep (l' := [(0, Sl.v data_0), (1, Value.int .i64 a_1), (2, Value.int .i64 b_2), (3, Value.pointer swaps_3)]) (keep_cons rfl (keep_cons rfl (keep_cons rfl (keep_cons rfl keep_nil)))) (wl_nil ?_)
  refine cw_seq ?_
  refine cw_seq ?_
  obtain ⟨a1, c2, c3, c4, hD⟩ := hD
  obtain ⟨x5, c6, hD⟩ := hD
  obtain ⟨c7, c8, hD⟩ := hD
  obtain ⟨x9, c10, hD⟩ := hD
  refine cw_draw (fun h => cellH h (a1.add (b_2.toNat * 1)) = some (Value.string x5) ∧ cellH h (a1.add (a_1.toNat * 1)) = some (Value.string x9) ∧ True) 9 wide ?_
  have hS : cellH h0 (a1.add (b_2.toNat * 1)) = some (Value.string x5) ∧ cellH h0 (a1.add (a_1.toNat * 1)) = some (Value.string x9) ∧ True := ⟨c6, c10, trivial⟩
  refine wh_q 0 rfl (by kernel_rfl) rfl rfl rfl (q_move rfl rfl) (by exact hS) ?_
  refine wh_q 1 rfl (by kernel_rfl) rfl rfl rfl (q_move rfl rfl) (by exact hS) ?_
  refine wh_q 2 rfl (by kernel_rfl) rfl rfl rfl (q_indexAddr rfl rfl rfl Go.Proofs.Tryd.underlying49 sz_9 c2 c3 c4) (by exact hS) ?_
  refine wh_q 3 rfl (by kernel_rfl) rfl rfl rfl (q_load rfl rfl Go.Proofs.Tryd.underlying9 rfl (by exact fun _ s => s.1)) (by exact hS) ?_
  refine wh_q 4 rfl (by kernel_rfl) rfl rfl rfl (q_move rfl rfl) (by exact hS) ?_
  refine wh_q 5 rfl (by kernel_rfl) rfl rfl rfl (q_move rfl rfl) (by exact hS) ?_
  refine wh_q 6 rfl (by kernel_rfl) rfl rfl rfl (q_indexAddr rfl rfl rfl Go.Proofs.Tryd.underlying49 sz_9 c2 c7 c8) (by exact hS) ?_
  refine wh_q 7 rfl (by kernel_rfl) rfl rfl rfl (q_load rfl rfl Go.Proofs.Tryd.underlying9 rfl (by exact fun _ s => s.2.1)) (by exact hS) ?_
  refine wh_e 8 rfl (by kernel_rfl) rfl rfl rfl (e_call (first := []) (vs := [Value.string x5, Value.string x9]) (cap := []) rfl rfl rfl cf_75 (CallsH.mono hD ?_))
  rintro _ hz11 ⟨r12, rfl, hD⟩
  obtain ⟨hk0, hk1, hD⟩ := hD
  refine ⟨⟨hk0, hk1, trivial⟩, ?_⟩
  have hS : cellH hz11 (a1.add (b_2.toNat * 1)) = some (Value.string x5) ∧ cellH hz11 (a1.add (a_1.toNat * 1)) = some (Value.string x9) ∧ True := ⟨hk0, hk1, trivial⟩
  refine wh_keep (l' := [(1, Value.int .i64 a_1), (2, Value.int .i64 b_2), (3, Value.pointer swaps_3), (18, Value.bool r12)]) (keep_cons rfl (keep_cons rfl (keep_cons rfl (keep_cons rfl keep_nil)))) (wh_done (by kernel_rfl) ?_)
  refine cw_cond rfl (fun hb13 => ?_) (fun hb13 => ?_)
  · have hD := ifT hb13 hD
    refine cw_seq ?_
    refine cw_region ?_
    refine wl_q rfl rfl rfl (q_move rfl rfl) ?_
    obtain ⟨a14, c15, hD⟩ := hD
    refine wl_q rfl rfl rfl (q_nil rfl rfl c15) ?_
    obtain ⟨x16, c17, hD⟩ := hD
    refine wl_q rfl rfl rfl (q_load rfl rfl Go.Proofs.Tryd.underlying3 rfl (At.cell c17)) ?_
    refine wl_q rfl rfl rfl (q_bin rfl rfl rfl (fun _ _ => rfl)) ?_
    refine wl_q rfl rfl rfl (q_nil rfl rfl c15) ?_
    obtain ⟨u19, c20, c21, hD⟩ := hD
    refine wl_e0 rfl rfl (e_store rfl rfl rfl sz_3 trivial c20 c21 ?_)
    intro hz18 e22
    have hD := hD hz18 e22
    refine wl_keep (l' := [(1, Value.int .i64 a_1), (2, Value.int .i64 b_2)]) (keep_cons rfl (keep_cons rfl keep_nil)) (wl_nil ?_)
    refine cw_seq ?_
    refine cw_region ?_
    refine wl_q rfl rfl rfl (q_move rfl rfl) ?_
    refine wl_q rfl rfl rfl (q_move rfl rfl) ?_
    refine wl_q rfl rfl rfl (q_assign rfl rfl) ?_
    refine wl_q rfl rfl rfl (q_assign rfl rfl) ?_
    refine wl_keep (l' := [(8, Value.int .i64 b_2), (9, Value.int .i64 a_1)]) (keep_cons rfl (keep_cons rfl keep_nil)) (wl_nil ?_)
    refine cw_ret ?_
    exact ⟨_, resq2 rfl rfl rfl, _, _, rfl, hD⟩
  · have hD := ifF hb13 hD
    refine cw_skip ?_
    refine cw_seq ?_
    refine cw_region ?_
    refine wl_q rfl rfl rfl (q_move rfl rfl) ?_
    refine wl_q rfl rfl rfl (q_move rfl rfl) ?_
    refine wl_q rfl rfl rfl (q_assign rfl rfl) ?_
    refine wl_q rfl rfl rfl (q_assign rfl rfl) ?_
    refine wl_keep (l' := [(8, Value.int .i64 a_1), (9, Value.int .i64 b_2)]) (keep_cons rfl (keep_cons rfl keep_nil)) (wl_nil ?_)
    refine cw_ret ?_
    exact ⟨_, resq2 rfl rfl rfl, _, _, rfl, hD⟩
end Go.Proofs.YtgdmjdacmebfjaaDoor.D
