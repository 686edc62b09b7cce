/-
  The code of each function does what its plain text says (written by a program). No conditions.
-/
import Derived.Test.YtgdmjdacmebfjaaGreatDoorMb
namespace Go.Proofs.YtgdmjdacmebfjaaGreatDoor.D
open Go
set_option maxRecDepth 100000
theorem S_barographlaw05_WalCuts {d_0 : Int} {t_1 : Int} {p_2 : Sl} {h0 : Hp} {K : Bool → Hp → Prop} (hD : D_barographlaw05_WalCuts d_0 t_1 p_2 h0 K) : C_barographlaw05_WalCuts d_0 t_1 p_2 h0 K := by
  unfold D_barographlaw05_WalCuts at hD
  refine calls_cw (args := [Value.int .i64 d_0, Value.int .i64 t_1, Sl.v p_2]) Go.Proofs.Tryz.func3 rfl ?_
  show cw _ 124 _ [(0, Value.int .i64 d_0), (1, Value.int .i64 t_1), (2, Sl.v p_2)] _ _ _ _
  refine cw_seq ?_
  refine cw_region ?_
  refine wl_q rfl rfl rfl (q_assign rfl rfl) ?_
  refine wl_keep (l' := [(0, Value.int .i64 d_0), (1, Value.int .i64 t_1), (2, Sl.v p_2)]) (keep_cons rfl (keep_cons rfl (keep_cons rfl keep_nil))) (wl_nil ?_)
  refine cw_seq ?_
  refine cw_seq ?_
  refine cw_region ?_
  refine wl_e rfl rfl rfl (e_call (first := []) (vs := []) (cap := []) rfl rfl rfl cf_4 (CallsH.mono hD ?_))
  rintro _ hz1 ⟨r2, rfl, hD⟩
  refine wl_q rfl rfl rfl (q_un rfl rfl (fun _ => rfl)) ?_
  refine wl_keep (l' := [(0, Value.int .i64 d_0), (1, Value.int .i64 t_1), (2, Sl.v p_2), (17, Value.bool (!r2))]) (keep_cons rfl (keep_cons rfl (keep_cons rfl (keep_cons rfl keep_nil)))) (wl_nil ?_)
  refine cw_cond rfl (fun hb3 => ?_) (fun hb3 => ?_)
  · have hD := ifT hb3 hD
    refine cw_seq ?_
    refine cw_region ?_
    refine wl_q rfl rfl rfl (q_assign rfl rfl) ?_
    refine wl_keep (l' := [(6, Value.bool false)]) (keep_cons rfl keep_nil) (wl_nil ?_)
    refine cw_ret ?_
    exact ⟨_, resq1 rfl rfl, _, rfl, hD⟩
  · have hD := ifF hb3 hD
    refine cw_skip ?_
    refine cw_seq ?_
    refine cw_region ?_
    refine wl_q rfl rfl rfl (q_move rfl rfl) ?_
    refine wl_q rfl rfl rfl (q_conv_int rfl rfl Go.Proofs.Tryz.underlying3 Go.Proofs.Tryz.underlying24) ?_
    refine wl_q rfl rfl rfl (q_rem rfl rfl rfl (by decide)) ?_
    refine wl_q rfl rfl rfl (q_conv_int rfl rfl Go.Proofs.Tryz.underlying24 Go.Proofs.Tryz.underlying3) ?_
    refine wl_q rfl rfl rfl (q_bin rfl rfl rfl (fun _ _ => rfl)) ?_
    refine wl_q rfl rfl rfl (q_assign rfl rfl) ?_
    refine wl_keep (l' := [(0, Value.int .i64 (IntKind.i64.wrap (1 + (IntKind.i64.wrap (Int.tmod (IntKind.u64.wrap d_0) 50))))), (1, Value.int .i64 t_1), (2, Sl.v p_2)]) (keep_cons rfl (keep_cons rfl (keep_cons rfl keep_nil))) (wl_nil ?_)
    refine cw_seq ?_
    refine cw_region ?_
    refine wl_q rfl rfl rfl (q_move rfl rfl) ?_
    refine wl_q rfl rfl rfl (q_conv_int rfl rfl Go.Proofs.Tryz.underlying3 Go.Proofs.Tryz.underlying24) ?_
    refine wl_q rfl rfl rfl (q_move rfl rfl) ?_
    refine wl_q rfl rfl rfl (q_bin rfl rfl rfl (fun _ _ => rfl)) ?_
    refine wl_q rfl rfl rfl (q_conv_int rfl rfl Go.Proofs.Tryz.underlying3 Go.Proofs.Tryz.underlying24) ?_
    obtain ⟨c4, hD⟩ := hD
    refine wl_q rfl rfl rfl (q_rem rfl rfl rfl c4) ?_
    refine wl_q rfl rfl rfl (q_conv_int rfl rfl Go.Proofs.Tryz.underlying24 Go.Proofs.Tryz.underlying3) ?_
    refine wl_q rfl rfl rfl (q_assign rfl rfl) ?_
    refine wl_keep (l' := [(0, Value.int .i64 (IntKind.i64.wrap (1 + (IntKind.i64.wrap (Int.tmod (IntKind.u64.wrap d_0) 50))))), (1, Value.int .i64 (IntKind.i64.wrap (Int.tmod (IntKind.u64.wrap t_1) (IntKind.u64.wrap (IntKind.i64.wrap ((IntKind.i64.wrap (1 + (IntKind.i64.wrap (Int.tmod (IntKind.u64.wrap d_0) 50)))) + 1)))))), (2, Sl.v p_2)]) (keep_cons rfl (keep_cons rfl (keep_cons rfl keep_nil))) (wl_nil ?_)
    refine cw_seq ?_
    refine cw_region ?_
    refine wl_e rfl rfl rfl (e_call (first := []) (vs := [Value.int .i64 1048576]) (cap := []) rfl rfl rfl cf_5 (CallsH.mono hD ?_))
    rintro _ hz5 ⟨r6, rfl, hD⟩
    refine wl_q rfl rfl rfl (q_assign rfl rfl) ?_
    refine wl_keep (l' := [(0, Value.int .i64 (IntKind.i64.wrap (1 + (IntKind.i64.wrap (Int.tmod (IntKind.u64.wrap d_0) 50))))), (1, Value.int .i64 (IntKind.i64.wrap (Int.tmod (IntKind.u64.wrap t_1) (IntKind.u64.wrap (IntKind.i64.wrap ((IntKind.i64.wrap (1 + (IntKind.i64.wrap (Int.tmod (IntKind.u64.wrap d_0) 50)))) + 1)))))), (2, Sl.v p_2), (7, Value.pointer r6)]) (keep_cons rfl (keep_cons rfl (keep_cons rfl (keep_cons rfl keep_nil)))) (wl_nil ?_)
    refine cw_seq ?_
    refine cw_region ?_
    refine wl_q rfl rfl rfl (q_move rfl rfl) ?_
    refine wl_e rfl rfl rfl (e_call (first := []) (vs := [Value.pointer r6, Value.int .i64 0]) (cap := []) rfl rfl rfl cf_6 (CallsH.mono hD ?_))
    rintro _ hz7 ⟨r8, r9, rfl, hD⟩
    refine wl_q rfl rfl rfl (q_move rfl rfl) ?_
    refine wl_q rfl rfl rfl (q_extract rfl rfl rfl) ?_
    refine wl_q rfl rfl rfl (q_extract rfl rfl rfl) ?_
    refine wl_q rfl rfl rfl (q_assign rfl rfl) ?_
    refine wl_q rfl rfl rfl (q_assign rfl rfl) ?_
    refine wl_keep (l' := [(0, Value.int .i64 (IntKind.i64.wrap (1 + (IntKind.i64.wrap (Int.tmod (IntKind.u64.wrap d_0) 50))))), (1, Value.int .i64 (IntKind.i64.wrap (Int.tmod (IntKind.u64.wrap t_1) (IntKind.u64.wrap (IntKind.i64.wrap ((IntKind.i64.wrap (1 + (IntKind.i64.wrap (Int.tmod (IntKind.u64.wrap d_0) 50)))) + 1)))))), (2, Sl.v p_2), (7, Value.pointer r6), (8, Value.pointer r8), (9, Value.int .i64 r9)]) (keep_cons rfl (keep_cons rfl (keep_cons rfl (keep_cons rfl (keep_cons rfl (keep_cons rfl keep_nil)))))) (wl_nil ?_)
    refine cw_seq ?_
    refine cw_cut (fun l h => ∃ (x10 : Bool), Keep l [(0, Value.int .i64 (IntKind.i64.wrap (1 + (IntKind.i64.wrap (Int.tmod (IntKind.u64.wrap d_0) 50))))), (1, Value.int .i64 (IntKind.i64.wrap (Int.tmod (IntKind.u64.wrap t_1) (IntKind.u64.wrap (IntKind.i64.wrap ((IntKind.i64.wrap (1 + (IntKind.i64.wrap (Int.tmod (IntKind.u64.wrap d_0) 50)))) + 1)))))), (2, Sl.v p_2), (7, Value.pointer r6), (8, Value.pointer r8), (41, Value.bool x10)] ∧ D_barographlaw05_WalCuts_j7 d_0 t_1 p_2 K r6 r8 x10 h) ?_ ?_
    · refine cw_region ?_
      refine wl_q rfl rfl rfl (q_move rfl rfl) ?_
      refine wl_q rfl rfl rfl (q_bin rfl rfl rfl (fun _ _ => rfl)) ?_
      refine wl_q rfl rfl rfl (q_move rfl rfl) ?_
      rcases bool_or (r9 != (0 : Int)) with hb87 | hb87
      · have hD := ifT hb87 hD
        refine wl_gn rfl rfl rfl hb87 rfl rfl ?_
        refine wl_gn rfl rfl rfl hb87 rfl rfl ?_
        refine wl_q rfl rfl rfl (q_pickT rfl rfl hb87 rfl) ?_
        refine wl_keep (l' := [(0, Value.int .i64 (IntKind.i64.wrap (1 + (IntKind.i64.wrap (Int.tmod (IntKind.u64.wrap d_0) 50))))), (1, Value.int .i64 (IntKind.i64.wrap (Int.tmod (IntKind.u64.wrap t_1) (IntKind.u64.wrap (IntKind.i64.wrap ((IntKind.i64.wrap (1 + (IntKind.i64.wrap (Int.tmod (IntKind.u64.wrap d_0) 50)))) + 1)))))), (2, Sl.v p_2), (7, Value.pointer r6), (8, Value.pointer r8), (41, Value.bool true)]) (keep_cons rfl (keep_cons rfl (keep_cons rfl (keep_cons rfl (keep_cons rfl (keep_cons rfl keep_nil)))))) (wl_nil ?_)
        exact ⟨_, (keep_cons rfl (keep_cons rfl (keep_cons rfl (keep_cons rfl (keep_cons rfl (keep_cons rfl keep_nil)))))), hD⟩
      · have hD := ifF hb87 hD
        refine wl_gq rfl rfl rfl hb87 rfl rfl (q_move rfl rfl) ?_
        refine wl_gq rfl rfl rfl hb87 rfl rfl (q_bin rfl rfl rfl (fun _ _ => sem_eq_ptr_nil Go.Proofs.Tryz.underlying27)) ?_
        refine wl_q rfl rfl rfl (q_pickF rfl rfl hb87 rfl) ?_
        refine wl_keep (l' := [(0, Value.int .i64 (IntKind.i64.wrap (1 + (IntKind.i64.wrap (Int.tmod (IntKind.u64.wrap d_0) 50))))), (1, Value.int .i64 (IntKind.i64.wrap (Int.tmod (IntKind.u64.wrap t_1) (IntKind.u64.wrap (IntKind.i64.wrap ((IntKind.i64.wrap (1 + (IntKind.i64.wrap (Int.tmod (IntKind.u64.wrap d_0) 50)))) + 1)))))), (2, Sl.v p_2), (7, Value.pointer r6), (8, Value.pointer r8), (41, Value.bool r8.isNone)]) (keep_cons rfl (keep_cons rfl (keep_cons rfl (keep_cons rfl (keep_cons rfl (keep_cons rfl keep_nil)))))) (wl_nil ?_)
        exact ⟨_, (keep_cons rfl (keep_cons rfl (keep_cons rfl (keep_cons rfl (keep_cons rfl (keep_cons rfl keep_nil)))))), hD⟩
    · rintro l89 hz11 ⟨x10, hk88, hD⟩
      refine cw_keep hk88 ?_
      unfold D_barographlaw05_WalCuts_j7 at hD
      refine cw_cond rfl (fun hb12 => ?_) (fun hb12 => ?_)
      · have hD := ifT hb12 hD
        refine cw_seq ?_
        refine cw_region ?_
        refine wl_q rfl rfl rfl (q_assign rfl rfl) ?_
        refine wl_keep (l' := [(6, Value.bool false)]) (keep_cons rfl keep_nil) (wl_nil ?_)
        refine cw_ret ?_
        exact ⟨_, resq1 rfl rfl, _, rfl, hD⟩
      · have hD := ifF hb12 hD
        refine cw_skip ?_
        refine cw_seq ?_
        refine cw_seq ?_
        refine cw_region ?_
        refine wl_q rfl rfl rfl (q_assign rfl rfl) ?_
        refine wl_keep (l' := [(0, Value.int .i64 (IntKind.i64.wrap (1 + (IntKind.i64.wrap (Int.tmod (IntKind.u64.wrap d_0) 50))))), (1, Value.int .i64 (IntKind.i64.wrap (Int.tmod (IntKind.u64.wrap t_1) (IntKind.u64.wrap (IntKind.i64.wrap ((IntKind.i64.wrap (1 + (IntKind.i64.wrap (Int.tmod (IntKind.u64.wrap d_0) 50)))) + 1)))))), (2, Sl.v p_2), (7, Value.pointer r6), (8, Value.pointer r8), (10, Value.int .i64 1)]) (keep_cons rfl (keep_cons rfl (keep_cons rfl (keep_cons rfl (keep_cons rfl (keep_cons rfl keep_nil)))))) (wl_nil ?_)
        refine cw_block ?_
        obtain ⟨I, μ, hI85, hL86⟩ := hD
        refine cw_loops (σ := Int) (fun s => [(0, Value.int .i64 (IntKind.i64.wrap (1 + (IntKind.i64.wrap (Int.tmod (IntKind.u64.wrap d_0) 50))))), (1, Value.int .i64 (IntKind.i64.wrap (Int.tmod (IntKind.u64.wrap t_1) (IntKind.u64.wrap (IntKind.i64.wrap ((IntKind.i64.wrap (1 + (IntKind.i64.wrap (Int.tmod (IntKind.u64.wrap d_0) 50)))) + 1)))))), (2, Sl.v p_2), (7, Value.pointer r6), (8, Value.pointer r8), (10, Value.int .i64 s)]) (1) (fun s h => I s h) (fun s h => μ s h) (keep_cons rfl (keep_cons rfl (keep_cons rfl (keep_cons rfl (keep_cons rfl (keep_cons rfl keep_nil)))))) hI85 ?_
        rintro x13 hz14 hI
        have hD := hL86 x13 hz14 hI
        obtain ⟨C15, hC15⟩ : ∃ c : Int → Hp → Prop, c = (fun x13' h' => I x13' h' ∧ μ x13' h' < μ x13 hz14) := ⟨_, rfl⟩
        rw [← hC15] at hD
        unfold D_barographlaw05_WalCuts_l6 at hD
        show cw _ _ _ [(0, Value.int .i64 (IntKind.i64.wrap (1 + (IntKind.i64.wrap (Int.tmod (IntKind.u64.wrap d_0) 50))))), (1, Value.int .i64 (IntKind.i64.wrap (Int.tmod (IntKind.u64.wrap t_1) (IntKind.u64.wrap (IntKind.i64.wrap ((IntKind.i64.wrap (1 + (IntKind.i64.wrap (Int.tmod (IntKind.u64.wrap d_0) 50)))) + 1)))))), (2, Sl.v p_2), (7, Value.pointer r6), (8, Value.pointer r8), (10, Value.int .i64 x13)] _ _ _ _
        refine cw_seq ?_
        refine cw_seq ?_
        refine cw_region ?_
        refine wl_q rfl rfl rfl (q_move rfl rfl) ?_
        refine wl_q rfl rfl rfl (q_move rfl rfl) ?_
        refine wl_q rfl rfl rfl (q_bin rfl rfl rfl (fun _ _ => rfl)) ?_
        refine wl_keep (l' := [(0, Value.int .i64 (IntKind.i64.wrap (1 + (IntKind.i64.wrap (Int.tmod (IntKind.u64.wrap d_0) 50))))), (1, Value.int .i64 (IntKind.i64.wrap (Int.tmod (IntKind.u64.wrap t_1) (IntKind.u64.wrap (IntKind.i64.wrap ((IntKind.i64.wrap (1 + (IntKind.i64.wrap (Int.tmod (IntKind.u64.wrap d_0) 50)))) + 1)))))), (2, Sl.v p_2), (7, Value.pointer r6), (8, Value.pointer r8), (10, Value.int .i64 x13), (44, Value.bool (decide (x13 ≤ (IntKind.i64.wrap (1 + (IntKind.i64.wrap (Int.tmod (IntKind.u64.wrap d_0) 50)))))))]) (keep_cons rfl (keep_cons rfl (keep_cons rfl (keep_cons rfl (keep_cons rfl (keep_cons rfl (keep_cons rfl keep_nil))))))) (wl_nil ?_)
        refine cw_cond rfl (fun hb16 => ?_) (fun hb16 => ?_)
        · have hD := ifT hb16 hD
          refine cw_skip ?_
          refine cw_seq ?_
          refine cw_block ?_
          refine cw_region ?_
          refine wl_q rfl rfl rfl (q_move rfl rfl) ?_
          refine wl_q rfl rfl rfl (q_move rfl rfl) ?_
          refine wl_q rfl rfl rfl (q_conv_int rfl rfl Go.Proofs.Tryz.underlying3 Go.Proofs.Tryz.underlying5) ?_
          refine wl_e rfl rfl rfl (e_buildSlice (cs := #[Value.int .u8 (IntKind.u8.wrap x13)]) rfl rfl Go.Proofs.Tryz.underlying33 sz_5 zr_5 (by decide) (by kernel_rfl) ?_)
          intro hz17 e18
          have hD := hD hz17 e18
          obtain ⟨x19, c20, hD⟩ := hD
          refine wl_q rfl rfl rfl (q_conv_b rfl rfl Go.Proofs.Tryz.underlying33 Go.Proofs.Tryz.underlying9 Go.Proofs.Tryz.underlying5 (At.bytes c20)) ?_
          refine wl_e rfl rfl rfl (e_call (first := []) (vs := [Value.pointer r8, Value.string x19]) (cap := []) rfl rfl rfl cf_7 (CallsH.mono hD ?_))
          rintro _ hz21 ⟨r22, r23, rfl, hD⟩
          refine wl_keep (l' := [(0, Value.int .i64 (IntKind.i64.wrap (1 + (IntKind.i64.wrap (Int.tmod (IntKind.u64.wrap d_0) 50))))), (1, Value.int .i64 (IntKind.i64.wrap (Int.tmod (IntKind.u64.wrap t_1) (IntKind.u64.wrap (IntKind.i64.wrap ((IntKind.i64.wrap (1 + (IntKind.i64.wrap (Int.tmod (IntKind.u64.wrap d_0) 50)))) + 1)))))), (2, Sl.v p_2), (7, Value.pointer r6), (8, Value.pointer r8), (10, Value.int .i64 x13)]) (keep_cons rfl (keep_cons rfl (keep_cons rfl (keep_cons rfl (keep_cons rfl (keep_cons rfl keep_nil)))))) (wl_nil ?_)
          refine cw_region ?_
          refine wl_q rfl rfl rfl (q_move rfl rfl) ?_
          refine wl_q rfl rfl rfl (q_bin rfl rfl rfl (fun _ _ => rfl)) ?_
          refine wl_q rfl rfl rfl (q_assign rfl rfl) ?_
          refine wl_keep (l' := [(0, Value.int .i64 (IntKind.i64.wrap (1 + (IntKind.i64.wrap (Int.tmod (IntKind.u64.wrap d_0) 50))))), (1, Value.int .i64 (IntKind.i64.wrap (Int.tmod (IntKind.u64.wrap t_1) (IntKind.u64.wrap (IntKind.i64.wrap ((IntKind.i64.wrap (1 + (IntKind.i64.wrap (Int.tmod (IntKind.u64.wrap d_0) 50)))) + 1)))))), (2, Sl.v p_2), (7, Value.pointer r6), (8, Value.pointer r8), (10, Value.int .i64 (IntKind.i64.wrap (x13 + 1)))]) (keep_cons rfl (keep_cons rfl (keep_cons rfl (keep_cons rfl (keep_cons rfl (keep_cons rfl keep_nil)))))) (wl_nil ?_)
          rw [hC15] at hD
          exact ⟨(IntKind.i64.wrap (x13 + 1)), (keep_cons rfl (keep_cons rfl (keep_cons rfl (keep_cons rfl (keep_cons rfl (keep_cons rfl keep_nil)))))), hD⟩
        · have hD := ifF hb16 hD
          refine cw_exit ?_
          refine xput_same ?_
          refine cw_seq ?_
          refine cw_cut (fun l h => ∃ (x24 : Bool), Keep l [(1, Value.int .i64 (IntKind.i64.wrap (Int.tmod (IntKind.u64.wrap t_1) (IntKind.u64.wrap (IntKind.i64.wrap ((IntKind.i64.wrap (1 + (IntKind.i64.wrap (Int.tmod (IntKind.u64.wrap d_0) 50)))) + 1)))))), (2, Sl.v p_2), (7, Value.pointer r6), (67, Value.bool x24)] ∧ D_barographlaw05_WalCuts_j5 d_0 t_1 p_2 K r6 x24 h) ?_ ?_
          · refine cw_region ?_
            refine wl_q rfl rfl rfl (q_move rfl rfl) ?_
            refine wl_e rfl rfl rfl (e_call (first := []) (vs := [Value.pointer r8]) (cap := []) rfl rfl rfl cf_8 (CallsH.mono hD ?_))
            rintro _ hz75 ⟨r76, rfl, hD⟩
            refine wl_q rfl rfl rfl (q_bin rfl rfl rfl (fun _ _ => rfl)) ?_
            refine wl_q rfl rfl rfl (q_move rfl rfl) ?_
            rcases bool_or (r76 != (0 : Int)) with hb77 | hb77
            · have hD := ifT hb77 hD
              refine wl_gn rfl rfl rfl hb77 rfl rfl ?_
              refine wl_gn rfl rfl rfl hb77 rfl rfl ?_
              refine wl_gn rfl rfl rfl hb77 rfl rfl ?_
              refine wl_gn rfl rfl rfl hb77 rfl rfl ?_
              refine wl_q rfl rfl rfl (q_pickT rfl rfl hb77 rfl) ?_
              refine wl_q rfl rfl rfl (q_move rfl rfl) ?_
              refine wl_gn rfl rfl rfl rfl rfl rfl ?_
              refine wl_gn rfl rfl rfl rfl rfl rfl ?_
              refine wl_gn rfl rfl rfl rfl rfl rfl ?_
              refine wl_gn rfl rfl rfl rfl rfl rfl ?_
              refine wl_q rfl rfl rfl (q_pickT rfl rfl rfl rfl) ?_
              refine wl_keep (l' := [(1, Value.int .i64 (IntKind.i64.wrap (Int.tmod (IntKind.u64.wrap t_1) (IntKind.u64.wrap (IntKind.i64.wrap ((IntKind.i64.wrap (1 + (IntKind.i64.wrap (Int.tmod (IntKind.u64.wrap d_0) 50)))) + 1)))))), (2, Sl.v p_2), (7, Value.pointer r6), (67, Value.bool true)]) (keep_cons rfl (keep_cons rfl (keep_cons rfl (keep_cons rfl keep_nil)))) (wl_nil ?_)
              exact ⟨_, (keep_cons rfl (keep_cons rfl (keep_cons rfl (keep_cons rfl keep_nil)))), hD⟩
            · have hD := ifF hb77 hD
              refine wl_gq rfl rfl rfl hb77 rfl rfl (q_move rfl rfl) ?_
              refine wl_gq rfl rfl rfl hb77 rfl rfl (q_move rfl rfl) ?_
              refine wl_ge rfl rfl rfl hb77 rfl rfl (e_call (first := []) (vs := [Value.pointer r8, Value.int .i64 (IntKind.i64.wrap (Int.tmod (IntKind.u64.wrap t_1) (IntKind.u64.wrap (IntKind.i64.wrap ((IntKind.i64.wrap (1 + (IntKind.i64.wrap (Int.tmod (IntKind.u64.wrap d_0) 50)))) + 1)))))]) (cap := []) rfl rfl rfl cf_9 (CallsH.mono hD ?_))
              rintro _ hz78 ⟨r79, rfl, hD⟩
              refine wl_gq rfl rfl rfl hb77 rfl rfl (q_bin rfl rfl rfl (fun _ _ => rfl)) ?_
              refine wl_q rfl rfl rfl (q_pickF rfl rfl hb77 rfl) ?_
              refine wl_q rfl rfl rfl (q_move rfl rfl) ?_
              rcases bool_or (r79 != (0 : Int)) with hb80 | hb80
              · have hD := ifT hb80 hD
                refine wl_gn rfl rfl rfl hb80 rfl rfl ?_
                refine wl_gn rfl rfl rfl hb80 rfl rfl ?_
                refine wl_gn rfl rfl rfl hb80 rfl rfl ?_
                refine wl_gn rfl rfl rfl hb80 rfl rfl ?_
                refine wl_q rfl rfl rfl (q_pickT rfl rfl hb80 rfl) ?_
                refine wl_keep (l' := [(1, Value.int .i64 (IntKind.i64.wrap (Int.tmod (IntKind.u64.wrap t_1) (IntKind.u64.wrap (IntKind.i64.wrap ((IntKind.i64.wrap (1 + (IntKind.i64.wrap (Int.tmod (IntKind.u64.wrap d_0) 50)))) + 1)))))), (2, Sl.v p_2), (7, Value.pointer r6), (67, Value.bool true)]) (keep_cons rfl (keep_cons rfl (keep_cons rfl (keep_cons rfl keep_nil)))) (wl_nil ?_)
                exact ⟨_, (keep_cons rfl (keep_cons rfl (keep_cons rfl (keep_cons rfl keep_nil)))), hD⟩
              · have hD := ifF hb80 hD
                refine wl_gq rfl rfl rfl hb80 rfl rfl (q_move rfl rfl) ?_
                refine wl_ge rfl rfl rfl hb80 rfl rfl (e_call (first := []) (vs := [Value.pointer r8]) (cap := []) rfl rfl rfl cf_10 (CallsH.mono hD ?_))
                rintro _ hz81 ⟨r82, rfl, hD⟩
                refine wl_gq rfl rfl rfl hb80 rfl rfl (q_move rfl rfl) ?_
                refine wl_gq rfl rfl rfl hb80 rfl rfl (q_bin rfl rfl rfl (fun _ _ => rfl)) ?_
                refine wl_q rfl rfl rfl (q_pickF rfl rfl hb80 rfl) ?_
                refine wl_keep (l' := [(1, Value.int .i64 (IntKind.i64.wrap (Int.tmod (IntKind.u64.wrap t_1) (IntKind.u64.wrap (IntKind.i64.wrap ((IntKind.i64.wrap (1 + (IntKind.i64.wrap (Int.tmod (IntKind.u64.wrap d_0) 50)))) + 1)))))), (2, Sl.v p_2), (7, Value.pointer r6), (67, Value.bool (r82 != (IntKind.i64.wrap (Int.tmod (IntKind.u64.wrap t_1) (IntKind.u64.wrap (IntKind.i64.wrap ((IntKind.i64.wrap (1 + (IntKind.i64.wrap (Int.tmod (IntKind.u64.wrap d_0) 50)))) + 1)))))))]) (keep_cons rfl (keep_cons rfl (keep_cons rfl (keep_cons rfl keep_nil)))) (wl_nil ?_)
                exact ⟨_, (keep_cons rfl (keep_cons rfl (keep_cons rfl (keep_cons rfl keep_nil)))), hD⟩
          · rintro l84 hz25 ⟨x24, hk83, hD⟩
            refine cw_keep hk83 ?_
            unfold D_barographlaw05_WalCuts_j5 at hD
            refine cw_cond rfl (fun hb26 => ?_) (fun hb26 => ?_)
            · have hD := ifT hb26 hD
              refine cw_seq ?_
              refine cw_region ?_
              refine wl_q rfl rfl rfl (q_assign rfl rfl) ?_
              refine wl_keep (l' := [(6, Value.bool false)]) (keep_cons rfl keep_nil) (wl_nil ?_)
              refine cw_ret ?_
              exact ⟨_, resq1 rfl rfl, _, rfl, hD⟩
            · have hD := ifF hb26 hD
              refine cw_skip ?_
              refine cw_seq ?_
              refine cw_region ?_
              refine wl_q rfl rfl rfl (q_move rfl rfl) ?_
              refine wl_e rfl rfl rfl (e_buildSlice (cs := #[]) rfl rfl Go.Proofs.Tryz.underlying22 sz_3 zr_3 (by decide) (by kernel_rfl) ?_)
              intro hz27 e28
              have hD := hD hz27 e28
              refine wl_q rfl rfl rfl (q_move rfl rfl) ?_
              obtain ⟨news31, c32, c33, hD⟩ := hD
              refine wl_e rfl rfl rfl (e_append (s := (Sl.mk (some (blk hz25.size)) 0 0)) (news := news31) rfl rfl rfl rfl Go.Proofs.Tryz.underlying22 Go.Proofs.Tryz.underlying22 sz_3 by_3 zr_3 c32 c33 (apd_mono hD ?_))
              intro s30 hz29 hD
              refine wl_e rfl rfl rfl (e_call (first := []) (vs := [Value.pointer r6, Sl.v s30]) (cap := []) rfl rfl rfl cf_11 (CallsH.mono hD ?_))
              rintro _ hz34 ⟨rfl, hD⟩
              refine wl_keep (l' := [(1, Value.int .i64 (IntKind.i64.wrap (Int.tmod (IntKind.u64.wrap t_1) (IntKind.u64.wrap (IntKind.i64.wrap ((IntKind.i64.wrap (1 + (IntKind.i64.wrap (Int.tmod (IntKind.u64.wrap d_0) 50)))) + 1)))))), (7, Value.pointer r6)]) (keep_cons rfl (keep_cons rfl keep_nil)) (wl_nil ?_)
              refine cw_seq ?_
              refine cw_region ?_
              refine wl_q rfl rfl rfl (q_move rfl rfl) ?_
              refine wl_e rfl rfl rfl (e_call (first := []) (vs := [Value.pointer r6, Value.int .i64 0]) (cap := []) rfl rfl rfl cf_6 (CallsH.mono hD ?_))
              rintro _ hz35 ⟨r36, r37, rfl, hD⟩
              refine wl_q rfl rfl rfl (q_move rfl rfl) ?_
              refine wl_q rfl rfl rfl (q_extract rfl rfl rfl) ?_
              refine wl_q rfl rfl rfl (q_extract rfl rfl rfl) ?_
              refine wl_q rfl rfl rfl (q_assign rfl rfl) ?_
              refine wl_q rfl rfl rfl (q_assign rfl rfl) ?_
              refine wl_keep (l' := [(1, Value.int .i64 (IntKind.i64.wrap (Int.tmod (IntKind.u64.wrap t_1) (IntKind.u64.wrap (IntKind.i64.wrap ((IntKind.i64.wrap (1 + (IntKind.i64.wrap (Int.tmod (IntKind.u64.wrap d_0) 50)))) + 1)))))), (8, Value.pointer r36), (9, Value.int .i64 r37)]) (keep_cons rfl (keep_cons rfl (keep_cons rfl keep_nil))) (wl_nil ?_)
              refine cw_seq ?_
              refine cw_cut (fun l h => ∃ (x38 : Bool), Keep l [(1, Value.int .i64 (IntKind.i64.wrap (Int.tmod (IntKind.u64.wrap t_1) (IntKind.u64.wrap (IntKind.i64.wrap ((IntKind.i64.wrap (1 + (IntKind.i64.wrap (Int.tmod (IntKind.u64.wrap d_0) 50)))) + 1)))))), (8, Value.pointer r36), (89, Value.bool x38)] ∧ D_barographlaw05_WalCuts_j4 d_0 t_1 K r36 x38 h) ?_ ?_
              · refine cw_region ?_
                refine wl_q rfl rfl rfl (q_move rfl rfl) ?_
                refine wl_q rfl rfl rfl (q_bin rfl rfl rfl (fun _ _ => rfl)) ?_
                refine wl_q rfl rfl rfl (q_move rfl rfl) ?_
                rcases bool_or (r37 != (0 : Int)) with hb69 | hb69
                · have hD := ifT hb69 hD
                  refine wl_gn rfl rfl rfl hb69 rfl rfl ?_
                  refine wl_gn rfl rfl rfl hb69 rfl rfl ?_
                  refine wl_q rfl rfl rfl (q_pickT rfl rfl hb69 rfl) ?_
                  refine wl_q rfl rfl rfl (q_move rfl rfl) ?_
                  refine wl_gn rfl rfl rfl rfl rfl rfl ?_
                  refine wl_gn rfl rfl rfl rfl rfl rfl ?_
                  refine wl_gn rfl rfl rfl rfl rfl rfl ?_
                  refine wl_gn rfl rfl rfl rfl rfl rfl ?_
                  refine wl_q rfl rfl rfl (q_pickT rfl rfl rfl rfl) ?_
                  refine wl_keep (l' := [(1, Value.int .i64 (IntKind.i64.wrap (Int.tmod (IntKind.u64.wrap t_1) (IntKind.u64.wrap (IntKind.i64.wrap ((IntKind.i64.wrap (1 + (IntKind.i64.wrap (Int.tmod (IntKind.u64.wrap d_0) 50)))) + 1)))))), (8, Value.pointer r36), (89, Value.bool true)]) (keep_cons rfl (keep_cons rfl (keep_cons rfl keep_nil))) (wl_nil ?_)
                  exact ⟨_, (keep_cons rfl (keep_cons rfl (keep_cons rfl keep_nil))), hD⟩
                · have hD := ifF hb69 hD
                  refine wl_gq rfl rfl rfl hb69 rfl rfl (q_move rfl rfl) ?_
                  refine wl_gq rfl rfl rfl hb69 rfl rfl (q_bin rfl rfl rfl (fun _ _ => sem_eq_ptr_nil Go.Proofs.Tryz.underlying27)) ?_
                  refine wl_q rfl rfl rfl (q_pickF rfl rfl hb69 rfl) ?_
                  refine wl_q rfl rfl rfl (q_move rfl rfl) ?_
                  rcases bool_or r36.isNone with hb70 | hb70
                  · have hD := ifT hb70 hD
                    refine wl_gn rfl rfl rfl hb70 rfl rfl ?_
                    refine wl_gn rfl rfl rfl hb70 rfl rfl ?_
                    refine wl_gn rfl rfl rfl hb70 rfl rfl ?_
                    refine wl_gn rfl rfl rfl hb70 rfl rfl ?_
                    refine wl_q rfl rfl rfl (q_pickT rfl rfl hb70 rfl) ?_
                    refine wl_keep (l' := [(1, Value.int .i64 (IntKind.i64.wrap (Int.tmod (IntKind.u64.wrap t_1) (IntKind.u64.wrap (IntKind.i64.wrap ((IntKind.i64.wrap (1 + (IntKind.i64.wrap (Int.tmod (IntKind.u64.wrap d_0) 50)))) + 1)))))), (8, Value.pointer r36), (89, Value.bool true)]) (keep_cons rfl (keep_cons rfl (keep_cons rfl keep_nil))) (wl_nil ?_)
                    exact ⟨_, (keep_cons rfl (keep_cons rfl (keep_cons rfl keep_nil))), hD⟩
                  · have hD := ifF hb70 hD
                    refine wl_gq rfl rfl rfl hb70 rfl rfl (q_move rfl rfl) ?_
                    refine wl_ge rfl rfl rfl hb70 rfl rfl (e_call (first := []) (vs := [Value.pointer r36]) (cap := []) rfl rfl rfl cf_10 (CallsH.mono hD ?_))
                    rintro _ hz71 ⟨r72, rfl, hD⟩
                    refine wl_gq rfl rfl rfl hb70 rfl rfl (q_move rfl rfl) ?_
                    refine wl_gq rfl rfl rfl hb70 rfl rfl (q_bin rfl rfl rfl (fun _ _ => rfl)) ?_
                    refine wl_q rfl rfl rfl (q_pickF rfl rfl hb70 rfl) ?_
                    refine wl_keep (l' := [(1, Value.int .i64 (IntKind.i64.wrap (Int.tmod (IntKind.u64.wrap t_1) (IntKind.u64.wrap (IntKind.i64.wrap ((IntKind.i64.wrap (1 + (IntKind.i64.wrap (Int.tmod (IntKind.u64.wrap d_0) 50)))) + 1)))))), (8, Value.pointer r36), (89, Value.bool (r72 != (IntKind.i64.wrap (Int.tmod (IntKind.u64.wrap t_1) (IntKind.u64.wrap (IntKind.i64.wrap ((IntKind.i64.wrap (1 + (IntKind.i64.wrap (Int.tmod (IntKind.u64.wrap d_0) 50)))) + 1)))))))]) (keep_cons rfl (keep_cons rfl (keep_cons rfl keep_nil))) (wl_nil ?_)
                    exact ⟨_, (keep_cons rfl (keep_cons rfl (keep_cons rfl keep_nil))), hD⟩
              · rintro l74 hz39 ⟨x38, hk73, hD⟩
                refine cw_keep hk73 ?_
                unfold D_barographlaw05_WalCuts_j4 at hD
                refine cw_cond rfl (fun hb40 => ?_) (fun hb40 => ?_)
                · have hD := ifT hb40 hD
                  refine cw_seq ?_
                  refine cw_region ?_
                  refine wl_q rfl rfl rfl (q_assign rfl rfl) ?_
                  refine wl_keep (l' := [(6, Value.bool false)]) (keep_cons rfl keep_nil) (wl_nil ?_)
                  refine cw_ret ?_
                  exact ⟨_, resq1 rfl rfl, _, rfl, hD⟩
                · have hD := ifF hb40 hD
                  refine cw_skip ?_
                  refine cw_seq ?_
                  refine cw_region ?_
                  refine wl_q rfl rfl rfl (q_move rfl rfl) ?_
                  refine wl_e rfl rfl rfl (e_call (first := []) (vs := [Value.pointer r36, Value.string (ByteArray.mk #[110, 101, 120, 116])]) (cap := []) rfl rfl rfl cf_7 (CallsH.mono hD ?_))
                  rintro _ hz41 ⟨r42, r43, rfl, hD⟩
                  refine wl_q rfl rfl rfl (q_move rfl rfl) ?_
                  refine wl_q rfl rfl rfl (q_extract rfl rfl rfl) ?_
                  refine wl_q rfl rfl rfl (q_extract rfl rfl rfl) ?_
                  refine wl_q rfl rfl rfl (q_assign rfl rfl) ?_
                  refine wl_q rfl rfl rfl (q_assign rfl rfl) ?_
                  refine wl_keep (l' := [(1, Value.int .i64 (IntKind.i64.wrap (Int.tmod (IntKind.u64.wrap t_1) (IntKind.u64.wrap (IntKind.i64.wrap ((IntKind.i64.wrap (1 + (IntKind.i64.wrap (Int.tmod (IntKind.u64.wrap d_0) 50)))) + 1)))))), (8, Value.pointer r36), (11, Value.int .i64 r42), (12, Value.int .i64 r43)]) (keep_cons rfl (keep_cons rfl (keep_cons rfl (keep_cons rfl keep_nil)))) (wl_nil ?_)
                  refine cw_seq ?_
                  refine cw_cut (fun l h => ∃ (x44 : Bool), Keep l [(1, Value.int .i64 (IntKind.i64.wrap (Int.tmod (IntKind.u64.wrap t_1) (IntKind.u64.wrap (IntKind.i64.wrap ((IntKind.i64.wrap (1 + (IntKind.i64.wrap (Int.tmod (IntKind.u64.wrap d_0) 50)))) + 1)))))), (8, Value.pointer r36), (102, Value.bool x44)] ∧ D_barographlaw05_WalCuts_j3 d_0 t_1 K r36 x44 h) ?_ ?_
                  · refine cw_region ?_
                    refine wl_q rfl rfl rfl (q_move rfl rfl) ?_
                    refine wl_q rfl rfl rfl (q_move rfl rfl) ?_
                    refine wl_q rfl rfl rfl (q_bin rfl rfl rfl (fun _ _ => rfl)) ?_
                    refine wl_q rfl rfl rfl (q_bin rfl rfl rfl (fun _ _ => rfl)) ?_
                    refine wl_q rfl rfl rfl (q_move rfl rfl) ?_
                    rcases bool_or (r42 != (IntKind.i64.wrap ((IntKind.i64.wrap (Int.tmod (IntKind.u64.wrap t_1) (IntKind.u64.wrap (IntKind.i64.wrap ((IntKind.i64.wrap (1 + (IntKind.i64.wrap (Int.tmod (IntKind.u64.wrap d_0) 50)))) + 1))))) + 1))) with hb66 | hb66
                    · have hD := ifT hb66 hD
                      refine wl_gn rfl rfl rfl hb66 rfl rfl ?_
                      refine wl_gn rfl rfl rfl hb66 rfl rfl ?_
                      refine wl_q rfl rfl rfl (q_pickT rfl rfl hb66 rfl) ?_
                      refine wl_keep (l' := [(1, Value.int .i64 (IntKind.i64.wrap (Int.tmod (IntKind.u64.wrap t_1) (IntKind.u64.wrap (IntKind.i64.wrap ((IntKind.i64.wrap (1 + (IntKind.i64.wrap (Int.tmod (IntKind.u64.wrap d_0) 50)))) + 1)))))), (8, Value.pointer r36), (102, Value.bool true)]) (keep_cons rfl (keep_cons rfl (keep_cons rfl keep_nil))) (wl_nil ?_)
                      exact ⟨_, (keep_cons rfl (keep_cons rfl (keep_cons rfl keep_nil))), hD⟩
                    · have hD := ifF hb66 hD
                      refine wl_gq rfl rfl rfl hb66 rfl rfl (q_move rfl rfl) ?_
                      refine wl_gq rfl rfl rfl hb66 rfl rfl (q_bin rfl rfl rfl (fun _ _ => rfl)) ?_
                      refine wl_q rfl rfl rfl (q_pickF rfl rfl hb66 rfl) ?_
                      refine wl_keep (l' := [(1, Value.int .i64 (IntKind.i64.wrap (Int.tmod (IntKind.u64.wrap t_1) (IntKind.u64.wrap (IntKind.i64.wrap ((IntKind.i64.wrap (1 + (IntKind.i64.wrap (Int.tmod (IntKind.u64.wrap d_0) 50)))) + 1)))))), (8, Value.pointer r36), (102, Value.bool (r43 != (0 : Int)))]) (keep_cons rfl (keep_cons rfl (keep_cons rfl keep_nil))) (wl_nil ?_)
                      exact ⟨_, (keep_cons rfl (keep_cons rfl (keep_cons rfl keep_nil))), hD⟩
                  · rintro l68 hz45 ⟨x44, hk67, hD⟩
                    refine cw_keep hk67 ?_
                    unfold D_barographlaw05_WalCuts_j3 at hD
                    refine cw_cond rfl (fun hb46 => ?_) (fun hb46 => ?_)
                    · have hD := ifT hb46 hD
                      refine cw_seq ?_
                      refine cw_region ?_
                      refine wl_q rfl rfl rfl (q_assign rfl rfl) ?_
                      refine wl_keep (l' := [(6, Value.bool false)]) (keep_cons rfl keep_nil) (wl_nil ?_)
                      refine cw_ret ?_
                      exact ⟨_, resq1 rfl rfl, _, rfl, hD⟩
                    · have hD := ifF hb46 hD
                      refine cw_skip ?_
                      refine cw_seq ?_
                      refine cw_seq ?_
                      refine cw_region ?_
                      refine wl_q rfl rfl rfl (q_assign rfl rfl) ?_
                      refine wl_keep (l' := [(1, Value.int .i64 (IntKind.i64.wrap (Int.tmod (IntKind.u64.wrap t_1) (IntKind.u64.wrap (IntKind.i64.wrap ((IntKind.i64.wrap (1 + (IntKind.i64.wrap (Int.tmod (IntKind.u64.wrap d_0) 50)))) + 1)))))), (8, Value.pointer r36), (13, Value.int .i64 1)]) (keep_cons rfl (keep_cons rfl (keep_cons rfl keep_nil))) (wl_nil ?_)
                      refine cw_block ?_
                      obtain ⟨I, μ, hI64, hL65⟩ := hD
                      refine cw_loops (σ := Int) (fun s => [(1, Value.int .i64 (IntKind.i64.wrap (Int.tmod (IntKind.u64.wrap t_1) (IntKind.u64.wrap (IntKind.i64.wrap ((IntKind.i64.wrap (1 + (IntKind.i64.wrap (Int.tmod (IntKind.u64.wrap d_0) 50)))) + 1)))))), (8, Value.pointer r36), (13, Value.int .i64 s)]) (1) (fun s h => I s h) (fun s h => μ s h) (keep_cons rfl (keep_cons rfl (keep_cons rfl keep_nil))) hI64 ?_
                      rintro x47 hz48 hI
                      have hD := hL65 x47 hz48 hI
                      obtain ⟨C49, hC49⟩ : ∃ c : Int → Hp → Prop, c = (fun x47' h' => I x47' h' ∧ μ x47' h' < μ x47 hz48) := ⟨_, rfl⟩
                      rw [← hC49] at hD
                      unfold D_barographlaw05_WalCuts_l2 at hD
                      show cw _ _ _ [(1, Value.int .i64 (IntKind.i64.wrap (Int.tmod (IntKind.u64.wrap t_1) (IntKind.u64.wrap (IntKind.i64.wrap ((IntKind.i64.wrap (1 + (IntKind.i64.wrap (Int.tmod (IntKind.u64.wrap d_0) 50)))) + 1)))))), (8, Value.pointer r36), (13, Value.int .i64 x47)] _ _ _ _
                      refine cw_seq ?_
                      refine cw_seq ?_
                      refine cw_region ?_
                      refine wl_q rfl rfl rfl (q_move rfl rfl) ?_
                      refine wl_q rfl rfl rfl (q_move rfl rfl) ?_
                      refine wl_q rfl rfl rfl (q_bin rfl rfl rfl (fun _ _ => rfl)) ?_
                      refine wl_keep (l' := [(1, Value.int .i64 (IntKind.i64.wrap (Int.tmod (IntKind.u64.wrap t_1) (IntKind.u64.wrap (IntKind.i64.wrap ((IntKind.i64.wrap (1 + (IntKind.i64.wrap (Int.tmod (IntKind.u64.wrap d_0) 50)))) + 1)))))), (8, Value.pointer r36), (13, Value.int .i64 x47), (105, Value.bool (decide (x47 ≤ (IntKind.i64.wrap (Int.tmod (IntKind.u64.wrap t_1) (IntKind.u64.wrap (IntKind.i64.wrap ((IntKind.i64.wrap (1 + (IntKind.i64.wrap (Int.tmod (IntKind.u64.wrap d_0) 50)))) + 1))))))))]) (keep_cons rfl (keep_cons rfl (keep_cons rfl (keep_cons rfl keep_nil)))) (wl_nil ?_)
                      refine cw_cond rfl (fun hb50 => ?_) (fun hb50 => ?_)
                      · have hD := ifT hb50 hD
                        refine cw_skip ?_
                        refine cw_seq ?_
                        refine cw_block ?_
                        refine cw_seq ?_
                        refine cw_region ?_
                        refine wl_q rfl rfl rfl (q_move rfl rfl) ?_
                        refine wl_q rfl rfl rfl (q_move rfl rfl) ?_
                        refine wl_e rfl rfl rfl (e_call (first := []) (vs := [Value.pointer r36, Value.int .i64 x47]) (cap := []) rfl rfl rfl cf_12 (CallsH.mono hD ?_))
                        rintro _ hz51 ⟨r52, r53, rfl, hD⟩
                        refine wl_q rfl rfl rfl (q_move rfl rfl) ?_
                        refine wl_q rfl rfl rfl (q_extract rfl rfl rfl) ?_
                        refine wl_q rfl rfl rfl (q_extract rfl rfl rfl) ?_
                        refine wl_q rfl rfl rfl (q_assign rfl rfl) ?_
                        refine wl_q rfl rfl rfl (q_assign rfl rfl) ?_
                        refine wl_keep (l' := [(1, Value.int .i64 (IntKind.i64.wrap (Int.tmod (IntKind.u64.wrap t_1) (IntKind.u64.wrap (IntKind.i64.wrap ((IntKind.i64.wrap (1 + (IntKind.i64.wrap (Int.tmod (IntKind.u64.wrap d_0) 50)))) + 1)))))), (8, Value.pointer r36), (13, Value.int .i64 x47), (14, Value.string r52), (15, Value.int .i64 r53)]) (keep_cons rfl (keep_cons rfl (keep_cons rfl (keep_cons rfl (keep_cons rfl keep_nil))))) (wl_nil ?_)
                        refine cw_cut (fun l h => ∃ (x54 : Bool), Keep l [(1, Value.int .i64 (IntKind.i64.wrap (Int.tmod (IntKind.u64.wrap t_1) (IntKind.u64.wrap (IntKind.i64.wrap ((IntKind.i64.wrap (1 + (IntKind.i64.wrap (Int.tmod (IntKind.u64.wrap d_0) 50)))) + 1)))))), (8, Value.pointer r36), (13, Value.int .i64 x47), (123, Value.bool x54)] ∧ D_barographlaw05_WalCuts_j1 K x47 C49 x54 h) ?_ ?_
                        · refine cw_region ?_
                          refine wl_q rfl rfl rfl (q_move rfl rfl) ?_
                          refine wl_q rfl rfl rfl (q_bin rfl rfl rfl (fun _ _ => rfl)) ?_
                          refine wl_q rfl rfl rfl (q_move rfl rfl) ?_
                          rcases bool_or (r53 != (0 : Int)) with hb57 | hb57
                          · have hD := ifT hb57 hD
                            refine wl_gn rfl rfl rfl hb57 rfl rfl ?_
                            refine wl_gn rfl rfl rfl hb57 rfl rfl ?_
                            refine wl_gn rfl rfl rfl hb57 rfl rfl ?_
                            refine wl_gn rfl rfl rfl hb57 rfl rfl ?_
                            refine wl_gn rfl rfl rfl hb57 rfl rfl ?_
                            refine wl_gn rfl rfl rfl hb57 rfl rfl ?_
                            refine wl_q rfl rfl rfl (q_pickT rfl rfl hb57 rfl) ?_
                            refine wl_keep (l' := [(1, Value.int .i64 (IntKind.i64.wrap (Int.tmod (IntKind.u64.wrap t_1) (IntKind.u64.wrap (IntKind.i64.wrap ((IntKind.i64.wrap (1 + (IntKind.i64.wrap (Int.tmod (IntKind.u64.wrap d_0) 50)))) + 1)))))), (8, Value.pointer r36), (13, Value.int .i64 x47), (123, Value.bool true)]) (keep_cons rfl (keep_cons rfl (keep_cons rfl (keep_cons rfl keep_nil)))) (wl_nil ?_)
                            exact ⟨_, (keep_cons rfl (keep_cons rfl (keep_cons rfl (keep_cons rfl keep_nil)))), hD⟩
                          · have hD := ifF hb57 hD
                            refine wl_gq rfl rfl rfl hb57 rfl rfl (q_move rfl rfl) ?_
                            refine wl_gq rfl rfl rfl hb57 rfl rfl (q_move rfl rfl) ?_
                            refine wl_gq rfl rfl rfl hb57 rfl rfl (q_conv_int rfl rfl Go.Proofs.Tryz.underlying3 Go.Proofs.Tryz.underlying5) ?_
                            refine wl_ge rfl rfl rfl hb57 rfl rfl (e_buildSlice (cs := #[Value.int .u8 (IntKind.u8.wrap x47)]) rfl rfl Go.Proofs.Tryz.underlying33 sz_5 zr_5 (by decide) (by kernel_rfl) ?_)
                            intro hz58 e59
                            have hD := hD hz58 e59
                            obtain ⟨x60, c61, hD⟩ := hD
                            refine wl_gq rfl rfl rfl hb57 rfl rfl (q_conv_b rfl rfl Go.Proofs.Tryz.underlying33 Go.Proofs.Tryz.underlying9 Go.Proofs.Tryz.underlying5 (At.bytes c61)) ?_
                            refine wl_gq rfl rfl rfl hb57 rfl rfl (q_bin rfl rfl rfl (fun _ _ => rfl)) ?_
                            refine wl_q rfl rfl rfl (q_pickF rfl rfl hb57 rfl) ?_
                            refine wl_keep (l' := [(1, Value.int .i64 (IntKind.i64.wrap (Int.tmod (IntKind.u64.wrap t_1) (IntKind.u64.wrap (IntKind.i64.wrap ((IntKind.i64.wrap (1 + (IntKind.i64.wrap (Int.tmod (IntKind.u64.wrap d_0) 50)))) + 1)))))), (8, Value.pointer r36), (13, Value.int .i64 x47), (123, Value.bool (!(r52.toList == x60.toList)))]) (keep_cons rfl (keep_cons rfl (keep_cons rfl (keep_cons rfl keep_nil)))) (wl_nil ?_)
                            exact ⟨_, (keep_cons rfl (keep_cons rfl (keep_cons rfl (keep_cons rfl keep_nil)))), hD⟩
                        · rintro l63 hz55 ⟨x54, hk62, hD⟩
                          refine cw_keep hk62 ?_
                          unfold D_barographlaw05_WalCuts_j1 at hD
                          refine cw_cond rfl (fun hb56 => ?_) (fun hb56 => ?_)
                          · have hD := ifT hb56 hD
                            refine cw_seq ?_
                            refine cw_region ?_
                            refine wl_q rfl rfl rfl (q_assign rfl rfl) ?_
                            refine wl_keep (l' := [(6, Value.bool false)]) (keep_cons rfl keep_nil) (wl_nil ?_)
                            refine cw_ret ?_
                            exact ⟨_, resq1 rfl rfl, _, rfl, hD⟩
                          · have hD := ifF hb56 hD
                            refine cw_skip ?_
                            refine cw_region ?_
                            refine wl_q rfl rfl rfl (q_move rfl rfl) ?_
                            refine wl_q rfl rfl rfl (q_bin rfl rfl rfl (fun _ _ => rfl)) ?_
                            refine wl_q rfl rfl rfl (q_assign rfl rfl) ?_
                            refine wl_keep (l' := [(1, Value.int .i64 (IntKind.i64.wrap (Int.tmod (IntKind.u64.wrap t_1) (IntKind.u64.wrap (IntKind.i64.wrap ((IntKind.i64.wrap (1 + (IntKind.i64.wrap (Int.tmod (IntKind.u64.wrap d_0) 50)))) + 1)))))), (8, Value.pointer r36), (13, Value.int .i64 (IntKind.i64.wrap (x47 + 1)))]) (keep_cons rfl (keep_cons rfl (keep_cons rfl keep_nil))) (wl_nil ?_)
                            rw [hC49] at hD
                            exact ⟨(IntKind.i64.wrap (x47 + 1)), (keep_cons rfl (keep_cons rfl (keep_cons rfl keep_nil))), hD⟩
                      · have hD := ifF hb50 hD
                        refine cw_exit ?_
                        refine xput_same ?_
                        refine cw_seq ?_
                        refine cw_region ?_
                        refine wl_q rfl rfl rfl (q_assign rfl rfl) ?_
                        refine wl_keep (l' := [(6, Value.bool true)]) (keep_cons rfl keep_nil) (wl_nil ?_)
                        refine cw_ret ?_
                        exact ⟨_, resq1 rfl rfl, _, rfl, hD⟩
end Go.Proofs.YtgdmjdacmebfjaaGreatDoor.D

namespace Go.Proofs.YtgdmjdacmebfjaaGreatDoor.D
open Go
set_option maxRecDepth 100000
theorem S_barographlaw05_works {h0 : Hp} {K : Bool → Hp → Prop} (hD : D_barographlaw05_works h0 K) : C_barographlaw05_works h0 K := by
  unfold D_barographlaw05_works at hD
  refine calls_cw (args := []) Go.Proofs.Tryz.func4 rfl ?_
  show cw _ 69 _ [] _ _ _ _
  refine cw_seq ?_
  refine cw_region ?_
  refine wl_q rfl rfl rfl (q_assign rfl rfl) ?_
  refine wl_keep (l' := []) keep_nil (wl_nil ?_)
  refine cw_seq ?_
  refine cw_region ?_
  refine wl_e rfl rfl rfl (e_call (first := []) (vs := [Value.int .i64 1000]) (cap := []) rfl rfl rfl cf_5 (CallsH.mono hD ?_))
  rintro _ hz1 ⟨r2, rfl, hD⟩
  refine wl_q rfl rfl rfl (q_assign rfl rfl) ?_
  refine wl_keep (l' := [(1, Value.pointer r2)]) (keep_cons rfl keep_nil) (wl_nil ?_)
  refine cw_seq ?_
  refine cw_region ?_
  refine wl_q rfl rfl rfl (q_move rfl rfl) ?_
  refine wl_e rfl rfl rfl (e_call (first := []) (vs := [Value.pointer r2, Value.int .i64 0]) (cap := []) rfl rfl rfl cf_6 (CallsH.mono hD ?_))
  rintro _ hz3 ⟨r4, r5, rfl, hD⟩
  refine wl_q rfl rfl rfl (q_move rfl rfl) ?_
  refine wl_q rfl rfl rfl (q_extract rfl rfl rfl) ?_
  refine wl_q rfl rfl rfl (q_extract rfl rfl rfl) ?_
  refine wl_q rfl rfl rfl (q_assign rfl rfl) ?_
  refine wl_q rfl rfl rfl (q_assign rfl rfl) ?_
  refine wl_keep (l' := [(1, Value.pointer r2), (2, Value.pointer r4), (3, Value.int .i64 r5)]) (keep_cons rfl (keep_cons rfl (keep_cons rfl keep_nil))) (wl_nil ?_)
  refine cw_seq ?_
  refine cw_cut (fun l h => ∃ (x6 : Bool), Keep l [(1, Value.pointer r2), (2, Value.pointer r4), (20, Value.bool x6)] ∧ D_barographlaw05_works_j3 K r2 r4 x6 h) ?_ ?_
  · refine cw_region ?_
    refine wl_q rfl rfl rfl (q_move rfl rfl) ?_
    refine wl_q rfl rfl rfl (q_bin rfl rfl rfl (fun _ _ => rfl)) ?_
    refine wl_q rfl rfl rfl (q_move rfl rfl) ?_
    rcases bool_or (r5 != (0 : Int)) with hb43 | hb43
    · have hD := ifT hb43 hD
      refine wl_gn rfl rfl rfl hb43 rfl rfl ?_
      refine wl_gn rfl rfl rfl hb43 rfl rfl ?_
      refine wl_q rfl rfl rfl (q_pickT rfl rfl hb43 rfl) ?_
      refine wl_keep (l' := [(1, Value.pointer r2), (2, Value.pointer r4), (20, Value.bool true)]) (keep_cons rfl (keep_cons rfl (keep_cons rfl keep_nil))) (wl_nil ?_)
      exact ⟨_, (keep_cons rfl (keep_cons rfl (keep_cons rfl keep_nil))), hD⟩
    · have hD := ifF hb43 hD
      refine wl_gq rfl rfl rfl hb43 rfl rfl (q_move rfl rfl) ?_
      refine wl_gq rfl rfl rfl hb43 rfl rfl (q_bin rfl rfl rfl (fun _ _ => sem_eq_ptr_nil Go.Proofs.Tryz.underlying27)) ?_
      refine wl_q rfl rfl rfl (q_pickF rfl rfl hb43 rfl) ?_
      refine wl_keep (l' := [(1, Value.pointer r2), (2, Value.pointer r4), (20, Value.bool r4.isNone)]) (keep_cons rfl (keep_cons rfl (keep_cons rfl keep_nil))) (wl_nil ?_)
      exact ⟨_, (keep_cons rfl (keep_cons rfl (keep_cons rfl keep_nil))), hD⟩
  · rintro l45 hz7 ⟨x6, hk44, hD⟩
    refine cw_keep hk44 ?_
    unfold D_barographlaw05_works_j3 at hD
    refine cw_cond rfl (fun hb8 => ?_) (fun hb8 => ?_)
    · have hD := ifT hb8 hD
      refine cw_seq ?_
      refine cw_region ?_
      refine wl_q rfl rfl rfl (q_assign rfl rfl) ?_
      refine wl_keep (l' := [(0, Value.bool false)]) (keep_cons rfl keep_nil) (wl_nil ?_)
      refine cw_ret ?_
      exact ⟨_, resq1 rfl rfl, _, rfl, hD⟩
    · have hD := ifF hb8 hD
      refine cw_skip ?_
      refine cw_seq ?_
      refine cw_region ?_
      refine wl_q rfl rfl rfl (q_move rfl rfl) ?_
      refine wl_e rfl rfl rfl (e_call (first := []) (vs := [Value.pointer r4, Value.string (ByteArray.mk #[97])]) (cap := []) rfl rfl rfl cf_7 (CallsH.mono hD ?_))
      rintro _ hz9 ⟨r10, r11, rfl, hD⟩
      refine wl_keep (l' := [(1, Value.pointer r2), (2, Value.pointer r4)]) (keep_cons rfl (keep_cons rfl keep_nil)) (wl_nil ?_)
      refine cw_seq ?_
      refine cw_region ?_
      refine wl_q rfl rfl rfl (q_move rfl rfl) ?_
      refine wl_e rfl rfl rfl (e_call (first := []) (vs := [Value.pointer r4, Value.string (ByteArray.mk #[98])]) (cap := []) rfl rfl rfl cf_7 (CallsH.mono hD ?_))
      rintro _ hz12 ⟨r13, r14, rfl, hD⟩
      refine wl_q rfl rfl rfl (q_move rfl rfl) ?_
      refine wl_q rfl rfl rfl (q_extract rfl rfl rfl) ?_
      refine wl_q rfl rfl rfl (q_extract rfl rfl rfl) ?_
      refine wl_q rfl rfl rfl (q_assign rfl rfl) ?_
      refine wl_q rfl rfl rfl (q_assign rfl rfl) ?_
      refine wl_keep (l' := [(1, Value.pointer r2), (2, Value.pointer r4), (4, Value.int .i64 r13)]) (keep_cons rfl (keep_cons rfl (keep_cons rfl keep_nil))) (wl_nil ?_)
      refine cw_seq ?_
      refine cw_region ?_
      refine wl_q rfl rfl rfl (q_move rfl rfl) ?_
      refine wl_e rfl rfl rfl (e_call (first := []) (vs := [Value.pointer r4]) (cap := []) rfl rfl rfl cf_8 (CallsH.mono hD ?_))
      rintro _ hz15 ⟨r16, rfl, hD⟩
      refine wl_q rfl rfl rfl (q_assign rfl rfl) ?_
      refine wl_keep (l' := [(1, Value.pointer r2), (2, Value.pointer r4), (4, Value.int .i64 r13), (6, Value.int .i64 r16)]) (keep_cons rfl (keep_cons rfl (keep_cons rfl (keep_cons rfl keep_nil)))) (wl_nil ?_)
      refine cw_seq ?_
      refine cw_region ?_
      refine wl_q rfl rfl rfl (q_move rfl rfl) ?_
      refine wl_e rfl rfl rfl (e_call (first := []) (vs := [Value.pointer r4, Value.string (ByteArray.mk #[99])]) (cap := []) rfl rfl rfl cf_7 (CallsH.mono hD ?_))
      rintro _ hz17 ⟨r18, r19, rfl, hD⟩
      refine wl_keep (l' := [(1, Value.pointer r2), (4, Value.int .i64 r13), (6, Value.int .i64 r16)]) (keep_cons rfl (keep_cons rfl (keep_cons rfl keep_nil))) (wl_nil ?_)
      refine cw_seq ?_
      refine cw_region ?_
      refine wl_q rfl rfl rfl (q_move rfl rfl) ?_
      refine wl_e rfl rfl rfl (e_call (first := []) (vs := [Value.pointer r2, Sl.v (Sl.mk none 0 0)]) (cap := []) rfl rfl rfl cf_11 (CallsH.mono hD ?_))
      rintro _ hz20 ⟨rfl, hD⟩
      refine wl_keep (l' := [(1, Value.pointer r2), (4, Value.int .i64 r13), (6, Value.int .i64 r16)]) (keep_cons rfl (keep_cons rfl (keep_cons rfl keep_nil))) (wl_nil ?_)
      refine cw_seq ?_
      refine cw_region ?_
      refine wl_q rfl rfl rfl (q_move rfl rfl) ?_
      refine wl_e rfl rfl rfl (e_call (first := []) (vs := [Value.pointer r2, Value.int .i64 0]) (cap := []) rfl rfl rfl cf_6 (CallsH.mono hD ?_))
      rintro _ hz21 ⟨r22, r23, rfl, hD⟩
      refine wl_q rfl rfl rfl (q_move rfl rfl) ?_
      refine wl_q rfl rfl rfl (q_extract rfl rfl rfl) ?_
      refine wl_q rfl rfl rfl (q_extract rfl rfl rfl) ?_
      refine wl_q rfl rfl rfl (q_assign rfl rfl) ?_
      refine wl_q rfl rfl rfl (q_assign rfl rfl) ?_
      refine wl_keep (l' := [(2, Value.pointer r22), (3, Value.int .i64 r23), (4, Value.int .i64 r13), (6, Value.int .i64 r16)]) (keep_cons rfl (keep_cons rfl (keep_cons rfl (keep_cons rfl keep_nil)))) (wl_nil ?_)
      refine cw_seq ?_
      refine cw_cut (fun l h => ∃ (x24 : Bool), Keep l [(2, Value.pointer r22), (4, Value.int .i64 r13), (6, Value.int .i64 r16), (44, Value.bool x24)] ∧ D_barographlaw05_works_j2 K r13 r16 r22 x24 h) ?_ ?_
      · refine cw_region ?_
        refine wl_q rfl rfl rfl (q_move rfl rfl) ?_
        refine wl_q rfl rfl rfl (q_bin rfl rfl rfl (fun _ _ => rfl)) ?_
        refine wl_q rfl rfl rfl (q_move rfl rfl) ?_
        rcases bool_or (r23 != (0 : Int)) with hb40 | hb40
        · have hD := ifT hb40 hD
          refine wl_gn rfl rfl rfl hb40 rfl rfl ?_
          refine wl_gn rfl rfl rfl hb40 rfl rfl ?_
          refine wl_q rfl rfl rfl (q_pickT rfl rfl hb40 rfl) ?_
          refine wl_keep (l' := [(2, Value.pointer r22), (4, Value.int .i64 r13), (6, Value.int .i64 r16), (44, Value.bool true)]) (keep_cons rfl (keep_cons rfl (keep_cons rfl (keep_cons rfl keep_nil)))) (wl_nil ?_)
          exact ⟨_, (keep_cons rfl (keep_cons rfl (keep_cons rfl (keep_cons rfl keep_nil)))), hD⟩
        · have hD := ifF hb40 hD
          refine wl_gq rfl rfl rfl hb40 rfl rfl (q_move rfl rfl) ?_
          refine wl_gq rfl rfl rfl hb40 rfl rfl (q_bin rfl rfl rfl (fun _ _ => sem_eq_ptr_nil Go.Proofs.Tryz.underlying27)) ?_
          refine wl_q rfl rfl rfl (q_pickF rfl rfl hb40 rfl) ?_
          refine wl_keep (l' := [(2, Value.pointer r22), (4, Value.int .i64 r13), (6, Value.int .i64 r16), (44, Value.bool r22.isNone)]) (keep_cons rfl (keep_cons rfl (keep_cons rfl (keep_cons rfl keep_nil)))) (wl_nil ?_)
          exact ⟨_, (keep_cons rfl (keep_cons rfl (keep_cons rfl (keep_cons rfl keep_nil)))), hD⟩
      · rintro l42 hz25 ⟨x24, hk41, hD⟩
        refine cw_keep hk41 ?_
        unfold D_barographlaw05_works_j2 at hD
        refine cw_cond rfl (fun hb26 => ?_) (fun hb26 => ?_)
        · have hD := ifT hb26 hD
          refine cw_seq ?_
          refine cw_region ?_
          refine wl_q rfl rfl rfl (q_assign rfl rfl) ?_
          refine wl_keep (l' := [(0, Value.bool false)]) (keep_cons rfl keep_nil) (wl_nil ?_)
          refine cw_ret ?_
          exact ⟨_, resq1 rfl rfl, _, rfl, hD⟩
        · have hD := ifF hb26 hD
          refine cw_skip ?_
          refine cw_seq ?_
          refine cw_region ?_
          refine wl_q rfl rfl rfl (q_move rfl rfl) ?_
          refine wl_e rfl rfl rfl (e_call (first := []) (vs := [Value.pointer r22, Value.int .i64 2]) (cap := []) rfl rfl rfl cf_12 (CallsH.mono hD ?_))
          rintro _ hz27 ⟨r28, r29, rfl, hD⟩
          refine wl_q rfl rfl rfl (q_move rfl rfl) ?_
          refine wl_q rfl rfl rfl (q_extract rfl rfl rfl) ?_
          refine wl_q rfl rfl rfl (q_extract rfl rfl rfl) ?_
          refine wl_q rfl rfl rfl (q_assign rfl rfl) ?_
          refine wl_q rfl rfl rfl (q_assign rfl rfl) ?_
          refine wl_keep (l' := [(2, Value.pointer r22), (4, Value.int .i64 r13), (6, Value.int .i64 r16), (7, Value.string r28), (8, Value.int .i64 r29)]) (keep_cons rfl (keep_cons rfl (keep_cons rfl (keep_cons rfl (keep_cons rfl keep_nil))))) (wl_nil ?_)
          refine cw_cut (fun l h => ∃ (d30 : Bool), Keep l [(0, Value.bool d30)] ∧ D_barographlaw05_works_j1 K d30 h) ?_ ?_
          · refine cw_region ?_
            refine wl_q rfl rfl rfl (q_move rfl rfl) ?_
            refine wl_q rfl rfl rfl (q_bin rfl rfl rfl (fun _ _ => rfl)) ?_
            refine wl_q rfl rfl rfl (q_move rfl rfl) ?_
            rcases bool_or (r13 == (2 : Int)) with hb32 | hb32
            · have hD := ifT hb32 hD
              refine wl_gq rfl rfl rfl hb32 rfl rfl (q_move rfl rfl) ?_
              refine wl_gq rfl rfl rfl hb32 rfl rfl (q_bin rfl rfl rfl (fun _ _ => rfl)) ?_
              refine wl_q rfl rfl rfl (q_pickT rfl rfl hb32 rfl) ?_
              refine wl_q rfl rfl rfl (q_move rfl rfl) ?_
              rcases bool_or (r16 == (0 : Int)) with hb33 | hb33
              · have hD := ifT hb33 hD
                refine wl_gq rfl rfl rfl hb33 rfl rfl (q_move rfl rfl) ?_
                refine wl_ge rfl rfl rfl hb33 rfl rfl (e_call (first := []) (vs := [Value.pointer r22]) (cap := []) rfl rfl rfl cf_10 (CallsH.mono hD ?_))
                rintro _ hz34 ⟨r35, rfl, hD⟩
                refine wl_gq rfl rfl rfl hb33 rfl rfl (q_bin rfl rfl rfl (fun _ _ => rfl)) ?_
                refine wl_q rfl rfl rfl (q_pickT rfl rfl hb33 rfl) ?_
                refine wl_q rfl rfl rfl (q_move rfl rfl) ?_
                rcases bool_or (r35 == (2 : Int)) with hb36 | hb36
                · have hD := ifT hb36 hD
                  refine wl_gq rfl rfl rfl hb36 rfl rfl (q_move rfl rfl) ?_
                  refine wl_gq rfl rfl rfl hb36 rfl rfl (q_bin rfl rfl rfl (fun _ _ => rfl)) ?_
                  refine wl_q rfl rfl rfl (q_pickT rfl rfl hb36 rfl) ?_
                  refine wl_q rfl rfl rfl (q_move rfl rfl) ?_
                  rcases bool_or (r28.toList == (ByteArray.mk #[98]).toList) with hb37 | hb37
                  · have hD := ifT hb37 hD
                    refine wl_gq rfl rfl rfl hb37 rfl rfl (q_move rfl rfl) ?_
                    refine wl_gq rfl rfl rfl hb37 rfl rfl (q_bin rfl rfl rfl (fun _ _ => rfl)) ?_
                    refine wl_q rfl rfl rfl (q_pickT rfl rfl hb37 rfl) ?_
                    refine wl_q rfl rfl rfl (q_assign rfl rfl) ?_
                    refine wl_keep (l' := [(0, Value.bool (r29 == (0 : Int)))]) (keep_cons rfl keep_nil) (wl_nil ?_)
                    exact ⟨_, (keep_cons rfl keep_nil), hD⟩
                  · have hD := ifF hb37 hD
                    refine wl_gn rfl rfl rfl hb37 rfl rfl ?_
                    refine wl_gn rfl rfl rfl hb37 rfl rfl ?_
                    refine wl_q rfl rfl rfl (q_pickF rfl rfl hb37 rfl) ?_
                    refine wl_q rfl rfl rfl (q_assign rfl rfl) ?_
                    refine wl_keep (l' := [(0, Value.bool false)]) (keep_cons rfl keep_nil) (wl_nil ?_)
                    exact ⟨_, (keep_cons rfl keep_nil), hD⟩
                · have hD := ifF hb36 hD
                  refine wl_gn rfl rfl rfl hb36 rfl rfl ?_
                  refine wl_gn rfl rfl rfl hb36 rfl rfl ?_
                  refine wl_q rfl rfl rfl (q_pickF rfl rfl hb36 rfl) ?_
                  refine wl_q rfl rfl rfl (q_move rfl rfl) ?_
                  refine wl_gn rfl rfl rfl rfl rfl rfl ?_
                  refine wl_gn rfl rfl rfl rfl rfl rfl ?_
                  refine wl_q rfl rfl rfl (q_pickF rfl rfl rfl rfl) ?_
                  refine wl_q rfl rfl rfl (q_assign rfl rfl) ?_
                  refine wl_keep (l' := [(0, Value.bool false)]) (keep_cons rfl keep_nil) (wl_nil ?_)
                  exact ⟨_, (keep_cons rfl keep_nil), hD⟩
              · have hD := ifF hb33 hD
                refine wl_gn rfl rfl rfl hb33 rfl rfl ?_
                refine wl_gn rfl rfl rfl hb33 rfl rfl ?_
                refine wl_gn rfl rfl rfl hb33 rfl rfl ?_
                refine wl_q rfl rfl rfl (q_pickF rfl rfl hb33 rfl) ?_
                refine wl_q rfl rfl rfl (q_move rfl rfl) ?_
                refine wl_gn rfl rfl rfl rfl rfl rfl ?_
                refine wl_gn rfl rfl rfl rfl rfl rfl ?_
                refine wl_q rfl rfl rfl (q_pickF rfl rfl rfl rfl) ?_
                refine wl_q rfl rfl rfl (q_move rfl rfl) ?_
                refine wl_gn rfl rfl rfl rfl rfl rfl ?_
                refine wl_gn rfl rfl rfl rfl rfl rfl ?_
                refine wl_q rfl rfl rfl (q_pickF rfl rfl rfl rfl) ?_
                refine wl_q rfl rfl rfl (q_assign rfl rfl) ?_
                refine wl_keep (l' := [(0, Value.bool false)]) (keep_cons rfl keep_nil) (wl_nil ?_)
                exact ⟨_, (keep_cons rfl keep_nil), hD⟩
            · have hD := ifF hb32 hD
              refine wl_gn rfl rfl rfl hb32 rfl rfl ?_
              refine wl_gn rfl rfl rfl hb32 rfl rfl ?_
              refine wl_q rfl rfl rfl (q_pickF rfl rfl hb32 rfl) ?_
              refine wl_q rfl rfl rfl (q_move rfl rfl) ?_
              refine wl_gn rfl rfl rfl rfl rfl rfl ?_
              refine wl_gn rfl rfl rfl rfl rfl rfl ?_
              refine wl_gn rfl rfl rfl rfl rfl rfl ?_
              refine wl_q rfl rfl rfl (q_pickF rfl rfl rfl rfl) ?_
              refine wl_q rfl rfl rfl (q_move rfl rfl) ?_
              refine wl_gn rfl rfl rfl rfl rfl rfl ?_
              refine wl_gn rfl rfl rfl rfl rfl rfl ?_
              refine wl_q rfl rfl rfl (q_pickF rfl rfl rfl rfl) ?_
              refine wl_q rfl rfl rfl (q_move rfl rfl) ?_
              refine wl_gn rfl rfl rfl rfl rfl rfl ?_
              refine wl_gn rfl rfl rfl rfl rfl rfl ?_
              refine wl_q rfl rfl rfl (q_pickF rfl rfl rfl rfl) ?_
              refine wl_q rfl rfl rfl (q_assign rfl rfl) ?_
              refine wl_keep (l' := [(0, Value.bool false)]) (keep_cons rfl keep_nil) (wl_nil ?_)
              exact ⟨_, (keep_cons rfl keep_nil), hD⟩
          · rintro l39 hz31 ⟨d30, hk38, hD⟩
            refine cw_keep hk38 ?_
            unfold D_barographlaw05_works_j1 at hD
            refine cw_ret ?_
            exact ⟨_, resq1 rfl rfl, _, rfl, hD⟩
end Go.Proofs.YtgdmjdacmebfjaaGreatDoor.D

namespace Go.Proofs.YtgdmjdacmebfjaaGreatDoor.D
open Go
set_option maxRecDepth 100000
theorem S_disk_New {room_0 : Int} {h0 : Hp} {K : Option Addr → Hp → Prop} (hD : D_disk_New room_0 h0 K) : C_disk_New room_0 h0 K := by
  unfold D_disk_New at hD
  refine calls_cw (args := [Value.int .i64 room_0]) Go.Proofs.Tryz.func5 rfl ?_
  show cw _ 8 _ [(0, Value.int .i64 room_0)] _ _ _ _
  refine cw_seq ?_
  refine cw_region ?_
  refine wl_q rfl rfl rfl (q_assign rfl rfl) ?_
  refine wl_keep (l' := [(0, Value.int .i64 room_0)]) (keep_cons rfl keep_nil) (wl_nil ?_)
  refine cw_seq ?_
  refine cw_region ?_
  refine wl_q rfl rfl rfl (q_move rfl rfl) ?_
  refine wl_e rfl rfl rfl (e_makeMap rfl ?_)
  intro hz1 e2
  have hD := hD hz1 e2
  refine wl_e rfl rfl rfl (e_makeMap rfl ?_)
  intro hz3 e4
  have hD := hD hz3 e4
  refine wl_q rfl rfl rfl (q_build (v := Value.agg #[Value.int .i64 room_0, Value.map (some h0.size), Value.map (some hz1.size), Sl.v (Sl.mk none 0 0), Value.bool false, Value.int .i64 (-1)]) rfl rfl (fun _ _ => by kernel_rfl)) ?_
  refine wl_e rfl rfl rfl (e_box rfl rfl ?_)
  intro hz5 e6
  have hD := hD hz5 e6
  refine wl_q rfl rfl rfl (q_assign rfl rfl) ?_
  refine wl_keep (l' := [(2, Value.pointer (some (blk hz3.size)))]) (keep_cons rfl keep_nil) (wl_nil ?_)
  refine cw_ret ?_
  exact ⟨_, resq1 rfl rfl, _, rfl, hD⟩
end Go.Proofs.YtgdmjdacmebfjaaGreatDoor.D

namespace Go.Proofs.YtgdmjdacmebfjaaGreatDoor.D
open Go
set_option maxRecDepth 100000
theorem S_wal_Open {d_0 : Option Addr} {t_1 : Int} {h0 : Hp} {K : Option Addr → Int → Hp → Prop} (hD : D_wal_Open d_0 t_1 h0 K) : C_wal_Open d_0 t_1 h0 K := by
  unfold D_wal_Open at hD
  refine calls_cw (args := [Value.pointer d_0, Value.int .i64 t_1]) Go.Proofs.Tryz.func6 rfl ?_
  show cw _ 97 _ [(0, Value.pointer d_0), (1, Value.int .i64 t_1)] _ _ _ _
  refine cw_seq ?_
  refine cw_region ?_
  refine wl_q rfl rfl rfl (q_assign rfl rfl) ?_
  refine wl_q rfl rfl rfl (q_assign rfl rfl) ?_
  refine wl_keep (l' := [(0, Value.pointer d_0), (1, Value.int .i64 t_1)]) (keep_cons rfl (keep_cons rfl keep_nil)) (wl_nil ?_)
  refine cw_seq ?_
  refine cw_block ?_
  refine cw_cut (fun l h => ∃ (x1 : Bool), Keep l [(0, Value.pointer d_0), (1, Value.int .i64 t_1), (14, Value.bool x1)] ∧ D_wal_Open_j4 d_0 t_1 K x1 h) ?_ ?_
  · refine cw_region ?_
    refine wl_q rfl rfl rfl (q_move rfl rfl) ?_
    refine wl_q rfl rfl rfl (q_bin rfl rfl rfl (fun _ _ => rfl)) ?_
    refine wl_q rfl rfl rfl (q_move rfl rfl) ?_
    rcases bool_or (decide (t_1 < (0 : Int))) with hb83 | hb83
    · have hD := ifT hb83 hD
      refine wl_gn rfl rfl rfl hb83 rfl rfl ?_
      refine wl_gn rfl rfl rfl hb83 rfl rfl ?_
      refine wl_q rfl rfl rfl (q_pickT rfl rfl hb83 rfl) ?_
      refine wl_q rfl rfl rfl (q_assign rfl rfl) ?_
      refine wl_keep (l' := [(0, Value.pointer d_0), (1, Value.int .i64 t_1), (14, Value.bool true)]) (keep_cons rfl (keep_cons rfl (keep_cons rfl keep_nil))) (wl_nil ?_)
      exact ⟨_, (keep_cons rfl (keep_cons rfl (keep_cons rfl keep_nil))), hD⟩
    · have hD := ifF hb83 hD
      refine wl_gq rfl rfl rfl hb83 rfl rfl (q_move rfl rfl) ?_
      refine wl_gq rfl rfl rfl hb83 rfl rfl (q_bin rfl rfl rfl (fun _ _ => rfl)) ?_
      refine wl_q rfl rfl rfl (q_pickF rfl rfl hb83 rfl) ?_
      refine wl_q rfl rfl rfl (q_assign rfl rfl) ?_
      refine wl_keep (l' := [(0, Value.pointer d_0), (1, Value.int .i64 t_1), (14, Value.bool (decide (t_1 ≥ (99999999 : Int))))]) (keep_cons rfl (keep_cons rfl (keep_cons rfl keep_nil))) (wl_nil ?_)
      exact ⟨_, (keep_cons rfl (keep_cons rfl (keep_cons rfl keep_nil))), hD⟩
  · rintro l85 hz2 ⟨x1, hk84, hD⟩
    refine cw_keep hk84 ?_
    unfold D_wal_Open_j4 at hD
    refine cw_cond rfl (fun hb3 => ?_) (fun hb3 => ?_)
    · have hD := ifT hb3 hD
      refine cw_seq ?_
      refine cw_region ?_
      refine wl_q rfl rfl rfl (q_assign rfl rfl) ?_
      refine wl_q rfl rfl rfl (q_assign rfl rfl) ?_
      refine wl_keep (l' := [(4, Value.pointer none), (5, Value.int .i64 2)]) (keep_cons rfl (keep_cons rfl keep_nil)) (wl_nil ?_)
      refine cw_ret ?_
      exact ⟨_, resq2 rfl rfl rfl, _, _, rfl, hD⟩
    · have hD := ifF hb3 hD
      refine cw_seq ?_
      refine cw_region ?_
      refine wl_q rfl rfl rfl (q_move rfl rfl) ?_
      refine wl_e rfl rfl rfl (e_call (first := []) (vs := [Value.pointer d_0]) (cap := []) rfl rfl rfl cf_13 (CallsH.mono hD ?_))
      rintro _ hz4 ⟨r5, rfl, hD⟩
      refine wl_q rfl rfl rfl (q_un rfl rfl (fun _ => rfl)) ?_
      refine wl_q rfl rfl rfl (q_assign rfl rfl) ?_
      refine wl_keep (l' := [(0, Value.pointer d_0), (1, Value.int .i64 t_1), (21, Value.bool (!r5))]) (keep_cons rfl (keep_cons rfl (keep_cons rfl keep_nil))) (wl_nil ?_)
      refine cw_cond rfl (fun hb6 => ?_) (fun hb6 => ?_)
      · have hD := ifT hb6 hD
        refine cw_seq ?_
        refine cw_region ?_
        refine wl_q rfl rfl rfl (q_assign rfl rfl) ?_
        refine wl_q rfl rfl rfl (q_assign rfl rfl) ?_
        refine wl_keep (l' := [(4, Value.pointer none), (5, Value.int .i64 11)]) (keep_cons rfl (keep_cons rfl keep_nil)) (wl_nil ?_)
        refine cw_ret ?_
        exact ⟨_, resq2 rfl rfl rfl, _, _, rfl, hD⟩
      · have hD := ifF hb6 hD
        refine cw_skip ?_
        refine cw_seq ?_
        refine cw_region ?_
        refine wl_q rfl rfl rfl (q_move rfl rfl) ?_
        refine wl_q rfl rfl rfl (q_build (v := Value.agg #[Value.pointer d_0, Sl.v (Sl.mk none 0 0), Value.pointer none, Value.bool false, Value.int .i64 0, Value.int .i64 0]) rfl rfl (fun _ _ => by kernel_rfl)) ?_
        refine wl_e rfl rfl rfl (e_box rfl rfl ?_)
        intro hz7 e8
        have hD := hD hz7 e8
        refine wl_q rfl rfl rfl (q_assign rfl rfl) ?_
        refine wl_keep (l' := [(0, Value.pointer d_0), (1, Value.int .i64 t_1), (6, Value.pointer (some (blk hz4.size)))]) (keep_cons rfl (keep_cons rfl (keep_cons rfl keep_nil))) (wl_nil ?_)
        refine cw_seq ?_
        refine cw_region ?_
        refine wl_q rfl rfl rfl (q_move rfl rfl) ?_
        refine wl_e rfl rfl rfl (e_call (first := []) (vs := [Value.pointer d_0]) (cap := []) rfl rfl rfl cf_15 (CallsH.mono hD ?_))
        rintro _ hz9 ⟨r10, rfl, hD⟩
        refine wl_e rfl rfl rfl (e_call (first := []) (vs := [Sl.v r10, Value.func (.func 16) #[] #[]]) (cap := []) rfl rfl rfl cf_14 (CallsH.mono hD ?_))
        rintro _ hz11 ⟨r12, rfl, hD⟩
        refine wl_q rfl rfl rfl (q_assign rfl rfl) ?_
        refine wl_keep (l' := [(0, Value.pointer d_0), (1, Value.int .i64 t_1), (6, Value.pointer (some (blk hz4.size))), (7, Sl.v r12)]) (keep_cons rfl (keep_cons rfl (keep_cons rfl (keep_cons rfl keep_nil)))) (wl_nil ?_)
        refine cw_cut (fun l h => Keep l [(1, Value.int .i64 t_1), (6, Value.pointer (some (blk hz4.size))), (7, Sl.v r12)] ∧ D_wal_Open_j2 t_1 K hz4 r12 h) ?_ ?_
        · refine cw_seq ?_
          refine cw_region ?_
          refine wl_q rfl rfl rfl (q_move rfl rfl) ?_
          refine wl_q rfl rfl rfl (q_len_slice rfl rfl Go.Proofs.Tryz.underlying50 rfl) ?_
          refine wl_q rfl rfl rfl (q_move rfl rfl) ?_
          refine wl_keep (l' := [(0, Value.pointer d_0), (1, Value.int .i64 t_1), (6, Value.pointer (some (blk hz4.size))), (7, Sl.v r12), (31, Sl.v r12), (32, Value.int .i64 (r12.len : Int)), (33, Value.int .i64 0)]) (keep_cons rfl (keep_cons rfl (keep_cons rfl (keep_cons rfl (keep_cons rfl (keep_cons rfl (keep_cons rfl keep_nil))))))) (wl_nil ?_)
          refine cw_block ?_
          obtain ⟨I, μ, hI79, hL80⟩ := hD
          refine cw_loops (σ := Int) (fun s => [(0, Value.pointer d_0), (1, Value.int .i64 t_1), (6, Value.pointer (some (blk hz4.size))), (7, Sl.v r12), (31, Sl.v r12), (32, Value.int .i64 (r12.len : Int)), (33, Value.int .i64 s)]) (0) (fun s h => I s h) (fun s h => μ s h) (keep_cons rfl (keep_cons rfl (keep_cons rfl (keep_cons rfl (keep_cons rfl (keep_cons rfl (keep_cons rfl keep_nil))))))) hI79 ?_
          rintro x48 hz49 hI
          have hD := hL80 x48 hz49 hI
          obtain ⟨C50, hC50⟩ : ∃ c : Int → Hp → Prop, c = (fun x48' h' => I x48' h' ∧ μ x48' h' < μ x48 hz49) := ⟨_, rfl⟩
          rw [← hC50] at hD
          unfold D_wal_Open_l3 at hD
          show cw _ _ _ [(0, Value.pointer d_0), (1, Value.int .i64 t_1), (6, Value.pointer (some (blk hz4.size))), (7, Sl.v r12), (31, Sl.v r12), (32, Value.int .i64 (r12.len : Int)), (33, Value.int .i64 x48)] _ _ _ _
          refine cw_seq ?_
          refine cw_region ?_
          refine wl_q rfl rfl rfl (q_bin rfl rfl rfl (fun _ _ => rfl)) ?_
          refine wl_keep (l' := [(0, Value.pointer d_0), (1, Value.int .i64 t_1), (6, Value.pointer (some (blk hz4.size))), (7, Sl.v r12), (31, Sl.v r12), (32, Value.int .i64 (r12.len : Int)), (33, Value.int .i64 x48), (34, Value.bool (decide (x48 < (r12.len : Int))))]) (keep_cons rfl (keep_cons rfl (keep_cons rfl (keep_cons rfl (keep_cons rfl (keep_cons rfl (keep_cons rfl (keep_cons rfl keep_nil)))))))) (wl_nil ?_)
          refine cw_seq ?_
          refine cw_cond rfl (fun hb51 => ?_) (fun hb51 => ?_)
          · have hD := ifT hb51 hD
            refine cw_skip ?_
            refine cw_seq ?_
            refine cw_block ?_
            refine cw_seq ?_
            refine cw_region ?_
            obtain ⟨a52, c53, c54, c55, hD⟩ := hD
            refine wl_q rfl rfl rfl (q_indexAddr rfl rfl rfl Go.Proofs.Tryz.underlying50 sz_9 c53 c54 c55) ?_
            obtain ⟨x56, c57, hD⟩ := hD
            refine wl_q rfl rfl rfl (q_load rfl rfl Go.Proofs.Tryz.underlying9 rfl (At.cell c57)) ?_
            refine wl_q rfl rfl rfl (q_assign rfl rfl) ?_
            refine wl_keep (l' := [(0, Value.pointer d_0), (1, Value.int .i64 t_1), (6, Value.pointer (some (blk hz4.size))), (7, Sl.v r12), (9, Value.string x56), (31, Sl.v r12), (32, Value.int .i64 (r12.len : Int)), (33, Value.int .i64 x48)]) (keep_cons rfl (keep_cons rfl (keep_cons rfl (keep_cons rfl (keep_cons rfl (keep_cons rfl (keep_cons rfl (keep_cons rfl keep_nil)))))))) (wl_nil ?_)
            refine cw_seq ?_
            refine cw_region ?_
            refine wl_q rfl rfl rfl (q_move rfl rfl) ?_
            refine wl_q rfl rfl rfl (q_move rfl rfl) ?_
            refine wl_e rfl rfl rfl (e_call (first := []) (vs := [Value.pointer d_0, Value.string x56]) (cap := []) rfl rfl rfl cf_18 (CallsH.mono hD ?_))
            rintro _ hz58 ⟨r59, r60, rfl, hD⟩
            refine wl_q rfl rfl rfl (q_move rfl rfl) ?_
            refine wl_q rfl rfl rfl (q_extract rfl rfl rfl) ?_
            refine wl_q rfl rfl rfl (q_extract rfl rfl rfl) ?_
            refine wl_q rfl rfl rfl (q_assign rfl rfl) ?_
            refine wl_q rfl rfl rfl (q_assign rfl rfl) ?_
            refine wl_keep (l' := [(0, Value.pointer d_0), (1, Value.int .i64 t_1), (6, Value.pointer (some (blk hz4.size))), (7, Sl.v r12), (9, Value.string x56), (10, Value.string r59), (31, Sl.v r12), (32, Value.int .i64 (r12.len : Int)), (33, Value.int .i64 x48)]) (keep_cons rfl (keep_cons rfl (keep_cons rfl (keep_cons rfl (keep_cons rfl (keep_cons rfl (keep_cons rfl (keep_cons rfl (keep_cons rfl keep_nil))))))))) (wl_nil ?_)
            refine cw_seq ?_
            refine cw_region ?_
            refine wl_q rfl rfl rfl (q_move rfl rfl) ?_
            refine wl_e rfl rfl rfl (e_call (first := []) (vs := [Value.string x56]) (cap := []) rfl rfl rfl cf_17 (CallsH.mono hD ?_))
            rintro _ hz61 ⟨r62, rfl, hD⟩
            refine wl_q rfl rfl rfl (q_move rfl rfl) ?_
            refine wl_e rfl rfl rfl (e_call (first := []) (vs := [Value.int .i64 r62, Value.string r59]) (cap := []) rfl rfl rfl cf_19 (CallsH.mono hD ?_))
            rintro _ hz63 ⟨r64, rfl, hD⟩
            refine wl_q rfl rfl rfl (q_assign rfl rfl) ?_
            refine wl_keep (l' := [(0, Value.pointer d_0), (1, Value.int .i64 t_1), (6, Value.pointer (some (blk hz4.size))), (7, Sl.v r12), (12, Value.pointer r64), (31, Sl.v r12), (32, Value.int .i64 (r12.len : Int)), (33, Value.int .i64 x48)]) (keep_cons rfl (keep_cons rfl (keep_cons rfl (keep_cons rfl (keep_cons rfl (keep_cons rfl (keep_cons rfl (keep_cons rfl keep_nil)))))))) (wl_nil ?_)
            refine cw_seq ?_
            refine cw_seq ?_
            refine cw_region ?_
            refine wl_q rfl rfl rfl (q_move rfl rfl) ?_
            refine wl_q rfl rfl rfl (q_move rfl rfl) ?_
            refine wl_q rfl rfl rfl (q_move rfl rfl) ?_
            refine wl_e rfl rfl rfl (e_call (first := []) (vs := [Value.pointer (some (blk hz4.size)), Value.pointer r64, Value.int .i64 t_1]) (cap := []) rfl rfl rfl cf_20 (CallsH.mono hD ?_))
            rintro _ hz65 ⟨r66, rfl, hD⟩
            refine wl_q rfl rfl rfl (q_un rfl rfl (fun _ => rfl)) ?_
            refine wl_keep (l' := [(0, Value.pointer d_0), (1, Value.int .i64 t_1), (6, Value.pointer (some (blk hz4.size))), (7, Sl.v r12), (12, Value.pointer r64), (31, Sl.v r12), (32, Value.int .i64 (r12.len : Int)), (33, Value.int .i64 x48), (51, Value.bool (!r66))]) (keep_cons rfl (keep_cons rfl (keep_cons rfl (keep_cons rfl (keep_cons rfl (keep_cons rfl (keep_cons rfl (keep_cons rfl (keep_cons rfl keep_nil))))))))) (wl_nil ?_)
            refine cw_cond rfl (fun hb67 => ?_) (fun hb67 => ?_)
            · have hD := ifT hb67 hD
              refine cw_exit ?_
              refine xput_other rfl ?_
              refine xput_same ?_
              exact ⟨(keep_cons rfl (keep_cons rfl (keep_cons rfl keep_nil))), hD⟩
            · have hD := ifF hb67 hD
              refine cw_skip ?_
              refine cw_region ?_
              refine wl_q rfl rfl rfl (q_move rfl rfl) ?_
              refine wl_q rfl rfl rfl (q_move rfl rfl) ?_
              refine wl_q rfl rfl rfl (q_nil rfl rfl rfl) ?_
              refine wl_q rfl rfl rfl (q_fieldAddr rfl rfl fo_49_1) ?_
              obtain ⟨x68, c69, hD⟩ := hD
              refine wl_q rfl rfl rfl (q_load rfl rfl Go.Proofs.Tryz.underlying46 rfl (At.cell c69)) ?_
              refine wl_q rfl rfl rfl (q_move rfl rfl) ?_
              refine wl_e rfl rfl rfl (e_buildSlice (cs := #[Value.pointer r64]) rfl rfl Go.Proofs.Tryz.underlying46 sz_47 zr_47 (by decide) (by kernel_rfl) ?_)
              intro hz70 e71
              have hD := hD hz70 e71
              refine wl_e rfl rfl rfl (e_append (s := x68) (news := [Value.pointer r64]) rfl rfl rfl rfl Go.Proofs.Tryz.underlying46 Go.Proofs.Tryz.underlying46 sz_47 by_47 zr_47 rfl (srcAt_new e71) (apd_mono hD ?_))
              intro s73 hz72 hD
              refine wl_q rfl rfl rfl (q_nil rfl rfl rfl) ?_
              refine wl_q rfl rfl rfl (q_fieldAddr rfl rfl fo_49_1) ?_
              obtain ⟨u75, c76, c77, hD⟩ := hD
              refine wl_e0 rfl rfl (e_store rfl rfl rfl sz_46 trivial c76 c77 ?_)
              intro hz74 e78
              have hD := hD hz74 e78
              refine wl_keep (l' := [(0, Value.pointer d_0), (1, Value.int .i64 t_1), (6, Value.pointer (some (blk hz4.size))), (7, Sl.v r12), (31, Sl.v r12), (32, Value.int .i64 (r12.len : Int)), (33, Value.int .i64 x48)]) (keep_cons rfl (keep_cons rfl (keep_cons rfl (keep_cons rfl (keep_cons rfl (keep_cons rfl (keep_cons rfl keep_nil))))))) (wl_nil ?_)
              refine cw_region ?_
              refine wl_q rfl rfl rfl (q_bin rfl rfl rfl (fun _ _ => rfl)) ?_
              refine wl_q rfl rfl rfl (q_move rfl rfl) ?_
              refine wl_keep (l' := [(0, Value.pointer d_0), (1, Value.int .i64 t_1), (6, Value.pointer (some (blk hz4.size))), (7, Sl.v r12), (31, Sl.v r12), (32, Value.int .i64 (r12.len : Int)), (33, Value.int .i64 (IntKind.i64.wrap (x48 + 1)))]) (keep_cons rfl (keep_cons rfl (keep_cons rfl (keep_cons rfl (keep_cons rfl (keep_cons rfl (keep_cons rfl keep_nil))))))) (wl_nil ?_)
              rw [hC50] at hD
              exact ⟨(IntKind.i64.wrap (x48 + 1)), (keep_cons rfl (keep_cons rfl (keep_cons rfl (keep_cons rfl (keep_cons rfl (keep_cons rfl (keep_cons rfl keep_nil))))))), hD⟩
          · have hD := ifF hb51 hD
            refine cw_exit ?_
            refine xput_same ?_
            exact ⟨(keep_cons rfl (keep_cons rfl (keep_cons rfl keep_nil))), hD⟩
        · rintro l82 hz13 ⟨hk81, hD⟩
          refine cw_keep hk81 ?_
          unfold D_wal_Open_j2 at hD
          refine cw_cut (fun l h => Keep l [(1, Value.int .i64 t_1), (6, Value.pointer (some (blk hz4.size))), (7, Sl.v r12)] ∧ D_wal_Open_j1 t_1 K hz4 r12 h) ?_ ?_
          · refine cw_seq ?_
            refine cw_region ?_
            refine wl_q rfl rfl rfl (q_move rfl rfl) ?_
            refine wl_e rfl rfl rfl (e_call (first := []) (vs := [Value.pointer (some (blk hz4.size))]) (cap := []) rfl rfl rfl cf_21 (CallsH.mono hD ?_))
            rintro _ hz38 ⟨r39, rfl, hD⟩
            refine wl_q rfl rfl rfl (q_move rfl rfl) ?_
            refine wl_q rfl rfl rfl (q_bin rfl rfl rfl (fun _ _ => rfl)) ?_
            refine wl_keep (l' := [(1, Value.int .i64 t_1), (6, Value.pointer (some (blk hz4.size))), (7, Sl.v r12), (66, Value.bool (decide (r39 < t_1)))]) (keep_cons rfl (keep_cons rfl (keep_cons rfl (keep_cons rfl keep_nil)))) (wl_nil ?_)
            refine cw_cond rfl (fun hb40 => ?_) (fun hb40 => ?_)
            · have hD := ifT hb40 hD
              refine cw_region ?_
              refine wl_q rfl rfl rfl (q_move rfl rfl) ?_
              refine wl_q rfl rfl rfl (q_nil rfl rfl rfl) ?_
              refine wl_q rfl rfl rfl (q_fieldAddr rfl rfl fo_49_1) ?_
              obtain ⟨u42, c43, c44, hD⟩ := hD
              refine wl_e0 rfl rfl (e_store rfl rfl rfl sz_46 trivial c43 c44 ?_)
              intro hz41 e45
              have hD := hD hz41 e45
              refine wl_keep (l' := [(1, Value.int .i64 t_1), (6, Value.pointer (some (blk hz4.size))), (7, Sl.v r12)]) (keep_cons rfl (keep_cons rfl (keep_cons rfl keep_nil))) (wl_nil ?_)
              exact ⟨(keep_cons rfl (keep_cons rfl (keep_cons rfl keep_nil))), hD⟩
            · have hD := ifF hb40 hD
              refine cw_skip ?_
              exact ⟨(keep_cons rfl (keep_cons rfl (keep_cons rfl keep_nil))), hD⟩
          · rintro l47 hz14 ⟨hk46, hD⟩
            refine cw_keep hk46 ?_
            unfold D_wal_Open_j1 at hD
            refine cw_seq ?_
            refine cw_seq ?_
            refine cw_region ?_
            refine wl_q rfl rfl rfl (q_move rfl rfl) ?_
            refine wl_q rfl rfl rfl (q_move rfl rfl) ?_
            refine wl_q rfl rfl rfl (q_move rfl rfl) ?_
            refine wl_q rfl rfl rfl (q_nil rfl rfl rfl) ?_
            refine wl_q rfl rfl rfl (q_fieldAddr rfl rfl fo_49_1) ?_
            obtain ⟨x15, c16, hD⟩ := hD
            refine wl_q rfl rfl rfl (q_load rfl rfl Go.Proofs.Tryz.underlying46 rfl (At.cell c16)) ?_
            refine wl_q rfl rfl rfl (q_len_slice rfl rfl Go.Proofs.Tryz.underlying46 rfl) ?_
            obtain ⟨n17, c18, c19, c20, hD⟩ := hD
            refine wl_q rfl rfl rfl (q_slice (i := n17) (j := r12.len) rfl rfl Go.Proofs.Tryz.underlying50 sz_9 ⟨_, _, rfl, c18⟩ rfl c19 c20) ?_
            refine wl_e rfl rfl rfl (e_call (first := []) (vs := [Value.pointer (some (blk hz4.size)), Sl.v (slCut r12 n17 r12.len 1)]) (cap := []) rfl rfl rfl cf_22 (CallsH.mono hD ?_))
            rintro _ hz21 ⟨r22, rfl, hD⟩
            refine wl_q rfl rfl rfl (q_assign rfl rfl) ?_
            refine wl_keep (l' := [(1, Value.int .i64 t_1), (6, Value.pointer (some (blk hz4.size))), (13, Value.int .i64 r22)]) (keep_cons rfl (keep_cons rfl (keep_cons rfl keep_nil))) (wl_nil ?_)
            refine cw_seq ?_
            refine cw_region ?_
            refine wl_q rfl rfl rfl (q_move rfl rfl) ?_
            refine wl_q rfl rfl rfl (q_bin rfl rfl rfl (fun _ _ => rfl)) ?_
            refine wl_keep (l' := [(1, Value.int .i64 t_1), (6, Value.pointer (some (blk hz4.size))), (13, Value.int .i64 r22), (80, Value.bool (r22 != (0 : Int)))]) (keep_cons rfl (keep_cons rfl (keep_cons rfl (keep_cons rfl keep_nil)))) (wl_nil ?_)
            refine cw_cond rfl (fun hb23 => ?_) (fun hb23 => ?_)
            · have hD := ifT hb23 hD
              refine cw_seq ?_
              refine cw_region ?_
              refine wl_q rfl rfl rfl (q_move rfl rfl) ?_
              refine wl_q rfl rfl rfl (q_assign rfl rfl) ?_
              refine wl_q rfl rfl rfl (q_assign rfl rfl) ?_
              refine wl_keep (l' := [(4, Value.pointer none), (5, Value.int .i64 r22)]) (keep_cons rfl (keep_cons rfl keep_nil)) (wl_nil ?_)
              refine cw_ret ?_
              exact ⟨_, resq2 rfl rfl rfl, _, _, rfl, hD⟩
            · have hD := ifF hb23 hD
              refine cw_skip ?_
              refine cw_seq ?_
              refine cw_region ?_
              refine wl_q rfl rfl rfl (q_move rfl rfl) ?_
              refine wl_q rfl rfl rfl (q_move rfl rfl) ?_
              refine wl_q rfl rfl rfl (q_move rfl rfl) ?_
              refine wl_e rfl rfl rfl (e_call (first := []) (vs := [Value.pointer (some (blk hz4.size))]) (cap := []) rfl rfl rfl cf_21 (CallsH.mono hD ?_))
              rintro _ hz24 ⟨r25, rfl, hD⟩
              refine wl_q rfl rfl rfl (q_max rfl rfl rfl rfl) ?_
              refine wl_q rfl rfl rfl (q_nil rfl rfl rfl) ?_
              refine wl_q rfl rfl rfl (q_fieldAddr rfl rfl fo_49_4) ?_
              obtain ⟨u27, c28, c29, hD⟩ := hD
              refine wl_e0 rfl rfl (e_store rfl rfl rfl sz_3 trivial c28 c29 ?_)
              intro hz26 e30
              have hD := hD hz26 e30
              refine wl_keep (l' := [(6, Value.pointer (some (blk hz4.size)))]) (keep_cons rfl keep_nil) (wl_nil ?_)
              refine cw_seq ?_
              refine cw_region ?_
              refine wl_q rfl rfl rfl (q_move rfl rfl) ?_
              refine wl_q rfl rfl rfl (q_move rfl rfl) ?_
              refine wl_q rfl rfl rfl (q_nil rfl rfl rfl) ?_
              refine wl_q rfl rfl rfl (q_fieldAddr rfl rfl fo_49_4) ?_
              obtain ⟨x31, c32, hD⟩ := hD
              refine wl_q rfl rfl rfl (q_load rfl rfl Go.Proofs.Tryz.underlying3 rfl (At.cell c32)) ?_
              refine wl_q rfl rfl rfl (q_nil rfl rfl rfl) ?_
              refine wl_q rfl rfl rfl (q_fieldAddr rfl rfl fo_49_5) ?_
              obtain ⟨u34, c35, c36, hD⟩ := hD
              refine wl_e0 rfl rfl (e_store rfl rfl rfl sz_3 trivial c35 c36 ?_)
              intro hz33 e37
              have hD := hD hz33 e37
              refine wl_keep (l' := [(6, Value.pointer (some (blk hz4.size)))]) (keep_cons rfl keep_nil) (wl_nil ?_)
              refine cw_seq ?_
              refine cw_region ?_
              refine wl_q rfl rfl rfl (q_move rfl rfl) ?_
              refine wl_q rfl rfl rfl (q_assign rfl rfl) ?_
              refine wl_q rfl rfl rfl (q_assign rfl rfl) ?_
              refine wl_keep (l' := [(4, Value.pointer (some (blk hz4.size))), (5, Value.int .i64 0)]) (keep_cons rfl (keep_cons rfl keep_nil)) (wl_nil ?_)
              refine cw_ret ?_
              exact ⟨_, resq2 rfl rfl rfl, _, _, rfl, hD⟩
end Go.Proofs.YtgdmjdacmebfjaaGreatDoor.D

namespace Go.Proofs.YtgdmjdacmebfjaaGreatDoor.D
open Go
set_option maxRecDepth 100000
theorem S_wal_Log_Append {d_0 : Option Addr} {t_1 : ByteArray} {h0 : Hp} {K : Int → Int → Hp → Prop} (hD : D_wal_Log_Append d_0 t_1 h0 K) : C_wal_Log_Append d_0 t_1 h0 K := by
  unfold D_wal_Log_Append at hD
  refine calls_cw (args := [Value.pointer d_0, Value.string t_1]) Go.Proofs.Tryz.func7 rfl ?_
  show cw _ 120 _ [(0, Value.pointer d_0), (1, Value.string t_1)] _ _ _ _
  refine cw_seq ?_
  refine cw_region ?_
  refine wl_q rfl rfl rfl (q_assign rfl rfl) ?_
  refine wl_q rfl rfl rfl (q_assign rfl rfl) ?_
  refine wl_keep (l' := [(0, Value.pointer d_0), (1, Value.string t_1)]) (keep_cons rfl (keep_cons rfl keep_nil)) (wl_nil ?_)
  refine cw_seq ?_
  refine cw_region ?_
  refine wl_q rfl rfl rfl (q_move rfl rfl) ?_
  refine wl_q rfl rfl rfl (q_build (v := Value.agg #[Value.int .i64 1, Value.string t_1]) rfl rfl (fun _ _ => by kernel_rfl)) ?_
  refine wl_e rfl rfl rfl (e_call (first := []) (vs := [Value.agg #[Value.int .i64 1, Value.string t_1]]) (cap := []) rfl rfl rfl cf_23 (CallsH.mono hD ?_))
  rintro _ hz1 ⟨r2, r3, rfl, hD⟩
  refine wl_q rfl rfl rfl (q_move rfl rfl) ?_
  refine wl_q rfl rfl rfl (q_extract rfl rfl rfl) ?_
  refine wl_q rfl rfl rfl (q_extract rfl rfl rfl) ?_
  refine wl_q rfl rfl rfl (q_assign rfl rfl) ?_
  refine wl_q rfl rfl rfl (q_assign rfl rfl) ?_
  refine wl_keep (l' := [(0, Value.pointer d_0), (6, Value.string r2), (7, Value.int .i64 r3)]) (keep_cons rfl (keep_cons rfl (keep_cons rfl keep_nil))) (wl_nil ?_)
  refine cw_seq ?_
  refine cw_block ?_
  refine cw_seq ?_
  refine cw_region ?_
  refine wl_q rfl rfl rfl (q_move rfl rfl) ?_
  refine wl_q rfl rfl rfl (q_bin rfl rfl rfl (fun _ _ => rfl)) ?_
  refine wl_q rfl rfl rfl (q_assign rfl rfl) ?_
  refine wl_keep (l' := [(0, Value.pointer d_0), (6, Value.string r2), (7, Value.int .i64 r3), (16, Value.bool (r3 != (0 : Int)))]) (keep_cons rfl (keep_cons rfl (keep_cons rfl (keep_cons rfl keep_nil)))) (wl_nil ?_)
  refine cw_cond rfl (fun hb4 => ?_) (fun hb4 => ?_)
  · have hD := ifT hb4 hD
    refine cw_seq ?_
    refine cw_region ?_
    refine wl_q rfl rfl rfl (q_move rfl rfl) ?_
    refine wl_q rfl rfl rfl (q_assign rfl rfl) ?_
    refine wl_q rfl rfl rfl (q_assign rfl rfl) ?_
    refine wl_keep (l' := [(4, Value.int .i64 0), (5, Value.int .i64 r3)]) (keep_cons rfl (keep_cons rfl keep_nil)) (wl_nil ?_)
    refine cw_ret ?_
    exact ⟨_, resq2 rfl rfl rfl, _, _, rfl, hD⟩
  · have hD := ifF hb4 hD
    refine cw_seq ?_
    refine cw_region ?_
    refine wl_q rfl rfl rfl (q_move rfl rfl) ?_
    obtain ⟨a5, c6, hD⟩ := hD
    refine wl_q rfl rfl rfl (q_nil rfl rfl c6) ?_
    refine wl_q rfl rfl rfl (q_fieldAddr rfl rfl fo_49_4) ?_
    obtain ⟨x7, c8, hD⟩ := hD
    refine wl_q rfl rfl rfl (q_load rfl rfl Go.Proofs.Tryz.underlying3 rfl (At.cell c8)) ?_
    refine wl_q rfl rfl rfl (q_bin rfl rfl rfl (fun _ _ => rfl)) ?_
    refine wl_q rfl rfl rfl (q_assign rfl rfl) ?_
    refine wl_keep (l' := [(0, Value.pointer d_0), (6, Value.string r2), (20, Value.bool (decide (x7 ≥ (99999999 : Int))))]) (keep_cons rfl (keep_cons rfl (keep_cons rfl keep_nil))) (wl_nil ?_)
    refine cw_cond rfl (fun hb9 => ?_) (fun hb9 => ?_)
    · have hD := ifT hb9 hD
      refine cw_seq ?_
      refine cw_region ?_
      refine wl_q rfl rfl rfl (q_assign rfl rfl) ?_
      refine wl_q rfl rfl rfl (q_assign rfl rfl) ?_
      refine wl_keep (l' := [(4, Value.int .i64 0), (5, Value.int .i64 4)]) (keep_cons rfl (keep_cons rfl keep_nil)) (wl_nil ?_)
      refine cw_ret ?_
      exact ⟨_, resq2 rfl rfl rfl, _, _, rfl, hD⟩
    · have hD := ifF hb9 hD
      refine cw_skip ?_
      refine cw_seq ?_
      refine cw_region ?_
      refine wl_q rfl rfl rfl (q_move rfl rfl) ?_
      refine wl_q rfl rfl rfl (q_nil rfl rfl c6) ?_
      refine wl_q rfl rfl rfl (q_fieldAddr rfl rfl fo_49_2) ?_
      obtain ⟨x10, c11, hD⟩ := hD
      refine wl_q rfl rfl rfl (q_load rfl rfl Go.Proofs.Tryz.underlying47 rfl (At.cell c11)) ?_
      refine wl_q rfl rfl rfl (q_assign rfl rfl) ?_
      refine wl_keep (l' := [(0, Value.pointer d_0), (6, Value.string r2), (8, Value.pointer x10)]) (keep_cons rfl (keep_cons rfl (keep_cons rfl keep_nil))) (wl_nil ?_)
      refine cw_cut (fun l h => ∃ (x12 : Option Addr), Keep l [(0, Value.pointer d_0), (6, Value.string r2), (8, Value.pointer x12)] ∧ D_wal_Log_Append_j2 K r2 a5 x12 h) ?_ ?_
      · refine cw_cut (fun l h => ∃ (x86 : Bool), Keep l [(0, Value.pointer d_0), (6, Value.string r2), (8, Value.pointer x10), (39, Value.bool x86)] ∧ D_wal_Log_Append_j3 K r2 a5 x10 x86 h) ?_ ?_
        · refine cw_region ?_
          refine wl_q rfl rfl rfl (q_move rfl rfl) ?_
          refine wl_q rfl rfl rfl (q_bin rfl rfl rfl (fun _ _ => sem_eq_ptr_nil Go.Proofs.Tryz.underlying47)) ?_
          refine wl_q rfl rfl rfl (q_move rfl rfl) ?_
          rcases bool_or x10.isNone with hb93 | hb93
          · have hD := ifT hb93 hD
            refine wl_gn rfl rfl rfl hb93 rfl rfl ?_
            refine wl_gn rfl rfl rfl hb93 rfl rfl ?_
            refine wl_gn rfl rfl rfl hb93 rfl rfl ?_
            refine wl_gn rfl rfl rfl hb93 rfl rfl ?_
            refine wl_gn rfl rfl rfl hb93 rfl rfl ?_
            refine wl_gn rfl rfl rfl hb93 rfl rfl ?_
            refine wl_q rfl rfl rfl (q_pickT rfl rfl hb93 rfl) ?_
            refine wl_keep (l' := [(0, Value.pointer d_0), (6, Value.string r2), (8, Value.pointer x10), (39, Value.bool true)]) (keep_cons rfl (keep_cons rfl (keep_cons rfl (keep_cons rfl keep_nil)))) (wl_nil ?_)
            exact ⟨_, (keep_cons rfl (keep_cons rfl (keep_cons rfl (keep_cons rfl keep_nil)))), hD⟩
          · have hD := ifF hb93 hD
            refine wl_gq rfl rfl rfl hb93 rfl rfl (q_move rfl rfl) ?_
            obtain ⟨a94, c95, hD⟩ := hD
            refine wl_gq rfl rfl rfl hb93 rfl rfl (q_nil rfl rfl c95) ?_
            refine wl_gq rfl rfl rfl hb93 rfl rfl (q_fieldAddr rfl rfl fo_63_1) ?_
            obtain ⟨x96, c97, hD⟩ := hD
            refine wl_gq rfl rfl rfl hb93 rfl rfl (q_load rfl rfl Go.Proofs.Tryz.underlying22 rfl (At.cell c97)) ?_
            refine wl_gq rfl rfl rfl hb93 rfl rfl (q_len_slice rfl rfl Go.Proofs.Tryz.underlying22 rfl) ?_
            refine wl_gq rfl rfl rfl hb93 rfl rfl (q_bin rfl rfl rfl (fun _ _ => rfl)) ?_
            refine wl_q rfl rfl rfl (q_pickF rfl rfl hb93 rfl) ?_
            refine wl_keep (l' := [(0, Value.pointer d_0), (6, Value.string r2), (8, Value.pointer x10), (39, Value.bool (decide ((x96.len : Int) ≥ (16 : Int))))]) (keep_cons rfl (keep_cons rfl (keep_cons rfl (keep_cons rfl keep_nil)))) (wl_nil ?_)
            exact ⟨_, (keep_cons rfl (keep_cons rfl (keep_cons rfl (keep_cons rfl keep_nil)))), hD⟩
        · rintro l99 hz87 ⟨x86, hk98, hD⟩
          refine cw_keep hk98 ?_
          unfold D_wal_Log_Append_j3 at hD
          refine cw_cond rfl (fun hb88 => ?_) (fun hb88 => ?_)
          · have hD := ifT hb88 hD
            refine cw_region ?_
            refine wl_q rfl rfl rfl (q_move rfl rfl) ?_
            refine wl_q rfl rfl rfl (q_nil rfl rfl c6) ?_
            refine wl_q rfl rfl rfl (q_fieldAddr rfl rfl fo_49_4) ?_
            obtain ⟨x89, c90, hD⟩ := hD
            refine wl_q rfl rfl rfl (q_load rfl rfl Go.Proofs.Tryz.underlying3 rfl (At.cell c90)) ?_
            refine wl_q rfl rfl rfl (q_bin rfl rfl rfl (fun _ _ => rfl)) ?_
            refine wl_q rfl rfl rfl (q_build (v := Value.agg #[Value.int .i64 (IntKind.i64.wrap (x89 + 1)), Sl.v (Sl.mk none 0 0), Value.int .i64 0, Value.bool false]) rfl rfl (fun _ _ => by kernel_rfl)) ?_
            refine wl_e rfl rfl rfl (e_box rfl rfl ?_)
            intro hz91 e92
            have hD := hD hz91 e92
            refine wl_q rfl rfl rfl (q_assign rfl rfl) ?_
            refine wl_keep (l' := [(0, Value.pointer d_0), (6, Value.string r2), (8, Value.pointer (some (blk hz87.size)))]) (keep_cons rfl (keep_cons rfl (keep_cons rfl keep_nil))) (wl_nil ?_)
            exact ⟨_, (keep_cons rfl (keep_cons rfl (keep_cons rfl keep_nil))), hD⟩
          · have hD := ifF hb88 hD
            refine cw_skip ?_
            exact ⟨_, (keep_cons rfl (keep_cons rfl (keep_cons rfl keep_nil))), hD⟩
      · rintro l101 hz13 ⟨x12, hk100, hD⟩
        refine cw_keep hk100 ?_
        unfold D_wal_Log_Append_j2 at hD
        refine cw_seq ?_
        refine cw_seq ?_
        obtain ⟨x14, c15, hD⟩ := hD
        obtain ⟨a16, c17, hD⟩ := hD
        obtain ⟨x18, c19, hD⟩ := hD
        refine cw_draw (fun h => cellH h (a5.add 0) = some (Value.pointer x14) ∧ cellH h (a16.add 0) = some (Value.int .i64 x18) ∧ True) 12 wide ?_
        have hS : cellH hz13 (a5.add 0) = some (Value.pointer x14) ∧ cellH hz13 (a16.add 0) = some (Value.int .i64 x18) ∧ True := ⟨c15, c19, trivial⟩
        refine wh_q 0 rfl (by kernel_rfl) rfl rfl rfl (q_move rfl rfl) (by exact hS) ?_
        refine wh_q 1 rfl (by kernel_rfl) rfl rfl rfl (q_nil rfl rfl c6) (by exact hS) ?_
        refine wh_q 2 rfl (by kernel_rfl) rfl rfl rfl (q_fieldAddr rfl rfl fo_49_0) (by exact hS) ?_
        refine wh_q 3 rfl (by kernel_rfl) rfl rfl rfl (q_load rfl rfl Go.Proofs.Tryz.underlying25 rfl (by exact fun _ s => s.1)) (by exact hS) ?_
        refine wh_q 4 rfl (by kernel_rfl) rfl rfl rfl (q_move rfl rfl) (by exact hS) ?_
        refine wh_q 5 rfl (by kernel_rfl) rfl rfl rfl (q_nil rfl rfl c17) (by exact hS) ?_
        refine wh_q 6 rfl (by kernel_rfl) rfl rfl rfl (q_fieldAddr rfl rfl fo_63_0) (by exact hS) ?_
        refine wh_q 7 rfl (by kernel_rfl) rfl rfl rfl (q_load rfl rfl Go.Proofs.Tryz.underlying3 rfl (by exact fun _ s => s.2.1)) (by exact hS) ?_
        refine wh_q 9 rfl (by kernel_rfl) rfl rfl rfl (q_move rfl rfl) (by exact hS) ?_
        refine wh_e 8 rfl (by kernel_rfl) rfl rfl rfl (e_call (first := []) (vs := [Value.int .i64 x18]) (cap := []) rfl rfl rfl cf_25 (CallsH.mono hD ?_))
        rintro _ hz20 ⟨r21, rfl, hD⟩
        obtain ⟨hk0, hk1, hD⟩ := hD
        refine ⟨⟨hk0, hk1, trivial⟩, ?_⟩
        have hS : cellH hz20 (a5.add 0) = some (Value.pointer x14) ∧ cellH hz20 (a16.add 0) = some (Value.int .i64 x18) ∧ True := ⟨hk0, hk1, trivial⟩
        refine wh_e 10 rfl (by kernel_rfl) rfl rfl rfl (e_call (first := []) (vs := [Value.pointer x14, Value.string r21, Value.string r2]) (cap := []) rfl rfl rfl cf_24 (CallsH.mono hD ?_))
        rintro _ hz22 ⟨r23, rfl, hD⟩
        obtain ⟨hk0, hk1, hD⟩ := hD
        refine ⟨⟨hk0, hk1, trivial⟩, ?_⟩
        have hS : cellH hz22 (a5.add 0) = some (Value.pointer x14) ∧ cellH hz22 (a16.add 0) = some (Value.int .i64 x18) ∧ True := ⟨hk0, hk1, trivial⟩
        refine wh_q 11 rfl (by kernel_rfl) rfl rfl rfl (q_assign rfl rfl) (by exact hS) ?_
        refine wh_keep (l' := [(0, Value.pointer d_0), (6, Value.string r2), (8, Value.pointer x12), (9, Value.int .i64 r23)]) (keep_cons rfl (keep_cons rfl (keep_cons rfl (keep_cons rfl keep_nil)))) (wh_done (by kernel_rfl) ?_)
        refine cw_seq ?_
        refine cw_region ?_
        refine wl_q rfl rfl rfl (q_move rfl rfl) ?_
        refine wl_q rfl rfl rfl (q_bin rfl rfl rfl (fun _ _ => rfl)) ?_
        refine wl_keep (l' := [(0, Value.pointer d_0), (6, Value.string r2), (8, Value.pointer x12), (9, Value.int .i64 r23), (59, Value.bool (r23 != (0 : Int)))]) (keep_cons rfl (keep_cons rfl (keep_cons rfl (keep_cons rfl (keep_cons rfl keep_nil))))) (wl_nil ?_)
        refine cw_cond rfl (fun hb24 => ?_) (fun hb24 => ?_)
        · have hD := ifT hb24 hD
          refine cw_seq ?_
          refine cw_region ?_
          refine wl_q rfl rfl rfl (q_move rfl rfl) ?_
          refine wl_q rfl rfl rfl (q_assign rfl rfl) ?_
          refine wl_q rfl rfl rfl (q_assign rfl rfl) ?_
          refine wl_keep (l' := [(4, Value.int .i64 0), (5, Value.int .i64 r23)]) (keep_cons rfl (keep_cons rfl keep_nil)) (wl_nil ?_)
          refine cw_ret ?_
          exact ⟨_, resq2 rfl rfl rfl, _, _, rfl, hD⟩
        · have hD := ifF hb24 hD
          refine cw_skip ?_
          refine cw_cut (fun l h => Keep l [(0, Value.pointer d_0), (6, Value.string r2), (8, Value.pointer x12)] ∧ D_wal_Log_Append_j1 K r2 a5 x12 a16 h) ?_ ?_
          · refine cw_seq ?_
            refine cw_region ?_
            refine wl_q rfl rfl rfl (q_move rfl rfl) ?_
            refine wl_q rfl rfl rfl (q_nil rfl rfl c17) ?_
            refine wl_q rfl rfl rfl (q_fieldAddr rfl rfl fo_63_1) ?_
            obtain ⟨x65, c66, hD⟩ := hD
            refine wl_q rfl rfl rfl (q_load rfl rfl Go.Proofs.Tryz.underlying22 rfl (At.cell c66)) ?_
            refine wl_q rfl rfl rfl (q_len_slice rfl rfl Go.Proofs.Tryz.underlying22 rfl) ?_
            refine wl_q rfl rfl rfl (q_bin rfl rfl rfl (fun _ _ => rfl)) ?_
            refine wl_keep (l' := [(0, Value.pointer d_0), (6, Value.string r2), (8, Value.pointer x12), (66, Value.bool ((x65.len : Int) == (0 : Int)))]) (keep_cons rfl (keep_cons rfl (keep_cons rfl (keep_cons rfl keep_nil)))) (wl_nil ?_)
            refine cw_cond rfl (fun hb67 => ?_) (fun hb67 => ?_)
            · have hD := ifT hb67 hD
              refine cw_seq ?_
              refine cw_region ?_
              refine wl_q rfl rfl rfl (q_move rfl rfl) ?_
              refine wl_q rfl rfl rfl (q_move rfl rfl) ?_
              refine wl_q rfl rfl rfl (q_nil rfl rfl c6) ?_
              refine wl_q rfl rfl rfl (q_fieldAddr rfl rfl fo_49_1) ?_
              obtain ⟨x68, c69, hD⟩ := hD
              refine wl_q rfl rfl rfl (q_load rfl rfl Go.Proofs.Tryz.underlying46 rfl (At.cell c69)) ?_
              refine wl_q rfl rfl rfl (q_move rfl rfl) ?_
              refine wl_e rfl rfl rfl (e_buildSlice (cs := #[Value.pointer x12]) rfl rfl Go.Proofs.Tryz.underlying46 sz_47 zr_47 (by decide) (by kernel_rfl) ?_)
              intro hz70 e71
              have hD := hD hz70 e71
              refine wl_e rfl rfl rfl (e_append (s := x68) (news := [Value.pointer x12]) rfl rfl rfl rfl Go.Proofs.Tryz.underlying46 Go.Proofs.Tryz.underlying46 sz_47 by_47 zr_47 rfl (srcAt_new e71) (apd_mono hD ?_))
              intro s73 hz72 hD
              refine wl_q rfl rfl rfl (q_nil rfl rfl c6) ?_
              refine wl_q rfl rfl rfl (q_fieldAddr rfl rfl fo_49_1) ?_
              obtain ⟨u75, c76, c77, hD⟩ := hD
              refine wl_e0 rfl rfl (e_store rfl rfl rfl sz_46 trivial c76 c77 ?_)
              intro hz74 e78
              have hD := hD hz74 e78
              refine wl_keep (l' := [(0, Value.pointer d_0), (6, Value.string r2), (8, Value.pointer x12)]) (keep_cons rfl (keep_cons rfl (keep_cons rfl keep_nil))) (wl_nil ?_)
              refine cw_region ?_
              refine wl_q rfl rfl rfl (q_move rfl rfl) ?_
              refine wl_q rfl rfl rfl (q_nil rfl rfl c6) ?_
              refine wl_q rfl rfl rfl (q_fieldAddr rfl rfl fo_49_3) ?_
              obtain ⟨u80, c81, c82, hD⟩ := hD
              refine wl_e0 rfl rfl (e_store rfl rfl rfl sz_4 trivial c81 c82 ?_)
              intro hz79 e83
              have hD := hD hz79 e83
              refine wl_keep (l' := [(0, Value.pointer d_0), (6, Value.string r2), (8, Value.pointer x12)]) (keep_cons rfl (keep_cons rfl (keep_cons rfl keep_nil))) (wl_nil ?_)
              exact ⟨(keep_cons rfl (keep_cons rfl (keep_cons rfl keep_nil))), hD⟩
            · have hD := ifF hb67 hD
              refine cw_skip ?_
              exact ⟨(keep_cons rfl (keep_cons rfl (keep_cons rfl keep_nil))), hD⟩
          · rintro l85 hz25 ⟨hk84, hD⟩
            refine cw_keep hk84 ?_
            unfold D_wal_Log_Append_j1 at hD
            refine cw_seq ?_
            obtain ⟨x26, c27, hD⟩ := hD
            obtain ⟨x28, c29, hD⟩ := hD
            refine cw_draw (fun h => cellH h (a16.add 1) = some (Sl.v x26) ∧ cellH h (a16.add 2) = some (Value.int .i64 x28) ∧ True) 13 wide ?_
            have hS : cellH hz25 (a16.add 1) = some (Sl.v x26) ∧ cellH hz25 (a16.add 2) = some (Value.int .i64 x28) ∧ True := ⟨c27, c29, trivial⟩
            refine wh_q 0 rfl (by kernel_rfl) rfl rfl rfl (q_move rfl rfl) (by exact hS) ?_
            refine wh_q 1 rfl (by kernel_rfl) rfl rfl rfl (q_move rfl rfl) (by exact hS) ?_
            refine wh_q 2 rfl (by kernel_rfl) rfl rfl rfl (q_nil rfl rfl c17) (by exact hS) ?_
            refine wh_q 3 rfl (by kernel_rfl) rfl rfl rfl (q_fieldAddr rfl rfl fo_63_1) (by exact hS) ?_
            refine wh_q 4 rfl (by kernel_rfl) rfl rfl rfl (q_load rfl rfl Go.Proofs.Tryz.underlying22 rfl (by exact fun _ s => s.1)) (by exact hS) ?_
            refine wh_q 5 rfl (by kernel_rfl) rfl rfl rfl (q_move rfl rfl) (by exact hS) ?_
            refine wh_q 6 rfl (by kernel_rfl) rfl rfl rfl (q_nil rfl rfl c17) (by exact hS) ?_
            refine wh_q 7 rfl (by kernel_rfl) rfl rfl rfl (q_fieldAddr rfl rfl fo_63_2) (by exact hS) ?_
            refine wh_q 8 rfl (by kernel_rfl) rfl rfl rfl (q_load rfl rfl Go.Proofs.Tryz.underlying3 rfl (by exact fun _ s => s.2.1)) (by exact hS) ?_
            refine wh_e 9 rfl (by kernel_rfl) rfl rfl rfl (e_buildSlice (cs := #[Value.int .i64 x28]) rfl rfl Go.Proofs.Tryz.underlying22 sz_3 zr_3 (by decide) (by kernel_rfl) ?_)
            intro hz30 e31
            have hD := hD hz30 e31
            obtain ⟨hk0, hk1, hD⟩ := hD
            refine ⟨⟨hk0, hk1, trivial⟩, ?_⟩
            have hS : cellH hz30 (a16.add 1) = some (Sl.v x26) ∧ cellH hz30 (a16.add 2) = some (Value.int .i64 x28) ∧ True := ⟨hk0, hk1, trivial⟩
            refine wh_e 10 rfl (by kernel_rfl) rfl rfl rfl (e_append (s := x26) (news := [Value.int .i64 x28]) rfl rfl rfl rfl Go.Proofs.Tryz.underlying22 Go.Proofs.Tryz.underlying22 sz_3 by_3 zr_3 rfl (srcAt_new e31) (apd_mono hD ?_))
            intro s33 hz32 hD
            obtain ⟨hk0, hk1, hD⟩ := hD
            refine ⟨⟨hk0, hk1, trivial⟩, ?_⟩
            have hS : cellH hz32 (a16.add 1) = some (Sl.v x26) ∧ cellH hz32 (a16.add 2) = some (Value.int .i64 x28) ∧ True := ⟨hk0, hk1, trivial⟩
            refine wh_q 11 rfl (by kernel_rfl) rfl rfl rfl (q_nil rfl rfl c17) (by exact hS) ?_
            refine wh_q 12 rfl (by kernel_rfl) rfl rfl rfl (q_fieldAddr rfl rfl fo_63_1) (by exact hS) ?_
            obtain ⟨u35, c36, c37, hD⟩ := hD
            refine wh_last 13 rfl (by kernel_rfl) rfl rfl rfl (e_store rfl rfl rfl sz_22 trivial c36 c37 ?_)
            intro hz34 e38
            have hD := hD hz34 e38
            refine wh_keep (l' := [(0, Value.pointer d_0), (6, Value.string r2), (8, Value.pointer x12)]) (keep_cons rfl (keep_cons rfl (keep_cons rfl keep_nil))) (wh_done (by kernel_rfl) ?_)
            refine cw_seq ?_
            refine cw_region ?_
            refine wl_q rfl rfl rfl (q_move rfl rfl) ?_
            refine wl_q rfl rfl rfl (q_nil rfl rfl c17) ?_
            refine wl_q rfl rfl rfl (q_fieldAddr rfl rfl fo_63_2) ?_
            obtain ⟨x39, c40, hD⟩ := hD
            refine wl_q rfl rfl rfl (q_load rfl rfl Go.Proofs.Tryz.underlying3 rfl (At.cell c40)) ?_
            refine wl_q rfl rfl rfl (q_move rfl rfl) ?_
            refine wl_q rfl rfl rfl (q_len_string rfl rfl Go.Proofs.Tryz.underlying9 rfl) ?_
            refine wl_q rfl rfl rfl (q_bin rfl rfl rfl (fun _ _ => rfl)) ?_
            refine wl_q rfl rfl rfl (q_nil rfl rfl c17) ?_
            refine wl_q rfl rfl rfl (q_fieldAddr rfl rfl fo_63_2) ?_
            obtain ⟨u42, c43, c44, hD⟩ := hD
            refine wl_e0 rfl rfl (e_store rfl rfl rfl sz_3 trivial c43 c44 ?_)
            intro hz41 e45
            have hD := hD hz41 e45
            refine wl_keep (l' := [(0, Value.pointer d_0), (8, Value.pointer x12)]) (keep_cons rfl (keep_cons rfl keep_nil)) (wl_nil ?_)
            refine cw_seq ?_
            refine cw_region ?_
            refine wl_q rfl rfl rfl (q_move rfl rfl) ?_
            refine wl_q rfl rfl rfl (q_move rfl rfl) ?_
            refine wl_q rfl rfl rfl (q_move rfl rfl) ?_
            refine wl_q rfl rfl rfl (q_nil rfl rfl c17) ?_
            refine wl_q rfl rfl rfl (q_fieldAddr rfl rfl fo_63_3) ?_
            obtain ⟨u47, c48, c49, hD⟩ := hD
            refine wl_e0 rfl rfl (e_store rfl rfl rfl sz_4 trivial c48 c49 ?_)
            intro hz46 e50
            have hD := hD hz46 e50
            refine wl_q rfl rfl rfl (q_nil rfl rfl c6) ?_
            refine wl_q rfl rfl rfl (q_fieldAddr rfl rfl fo_49_2) ?_
            obtain ⟨u52, c53, c54, hD⟩ := hD
            refine wl_e0 rfl rfl (e_store rfl rfl rfl sz_47 trivial c53 c54 ?_)
            intro hz51 e55
            have hD := hD hz51 e55
            refine wl_keep (l' := [(0, Value.pointer d_0)]) (keep_cons rfl keep_nil) (wl_nil ?_)
            refine cw_seq ?_
            refine cw_region ?_
            refine wl_q rfl rfl rfl (q_move rfl rfl) ?_
            refine wl_q rfl rfl rfl (q_nil rfl rfl c6) ?_
            refine wl_q rfl rfl rfl (q_fieldAddr rfl rfl fo_49_4) ?_
            obtain ⟨x56, c57, hD⟩ := hD
            refine wl_q rfl rfl rfl (q_load rfl rfl Go.Proofs.Tryz.underlying3 rfl (At.cell c57)) ?_
            refine wl_q rfl rfl rfl (q_bin rfl rfl rfl (fun _ _ => rfl)) ?_
            refine wl_q rfl rfl rfl (q_nil rfl rfl c6) ?_
            refine wl_q rfl rfl rfl (q_fieldAddr rfl rfl fo_49_4) ?_
            obtain ⟨u59, c60, c61, hD⟩ := hD
            refine wl_e0 rfl rfl (e_store rfl rfl rfl sz_3 trivial c60 c61 ?_)
            intro hz58 e62
            have hD := hD hz58 e62
            refine wl_keep (l' := [(0, Value.pointer d_0)]) (keep_cons rfl keep_nil) (wl_nil ?_)
            refine cw_seq ?_
            refine cw_region ?_
            refine wl_q rfl rfl rfl (q_move rfl rfl) ?_
            refine wl_q rfl rfl rfl (q_nil rfl rfl c6) ?_
            refine wl_q rfl rfl rfl (q_fieldAddr rfl rfl fo_49_4) ?_
            obtain ⟨x63, c64, hD⟩ := hD
            refine wl_q rfl rfl rfl (q_load rfl rfl Go.Proofs.Tryz.underlying3 rfl (At.cell c64)) ?_
            refine wl_q rfl rfl rfl (q_assign rfl rfl) ?_
            refine wl_q rfl rfl rfl (q_assign rfl rfl) ?_
            refine wl_keep (l' := [(4, Value.int .i64 x63), (5, Value.int .i64 0)]) (keep_cons rfl (keep_cons rfl keep_nil)) (wl_nil ?_)
            refine cw_ret ?_
            exact ⟨_, resq2 rfl rfl rfl, _, _, rfl, hD⟩
end Go.Proofs.YtgdmjdacmebfjaaGreatDoor.D

namespace Go.Proofs.YtgdmjdacmebfjaaGreatDoor.D
open Go
set_option maxRecDepth 100000
theorem S_wal_Log_Sync {l_0 : Option Addr} {h0 : Hp} {K : Int → Hp → Prop} (hD : D_wal_Log_Sync l_0 h0 K) : C_wal_Log_Sync l_0 h0 K := by
  unfold D_wal_Log_Sync at hD
  refine calls_cw (args := [Value.pointer l_0]) Go.Proofs.Tryz.func8 rfl ?_
  show cw _ 60 _ [(0, Value.pointer l_0)] _ _ _ _
  refine cw_seq ?_
  refine cw_region ?_
  refine wl_q rfl rfl rfl (q_assign rfl rfl) ?_
  refine wl_keep (l' := [(0, Value.pointer l_0)]) (keep_cons rfl keep_nil) (wl_nil ?_)
  refine cw_seq ?_
  refine cw_seq ?_
  refine cw_region ?_
  refine wl_q rfl rfl rfl (q_move rfl rfl) ?_
  obtain ⟨a1, c2, hD⟩ := hD
  refine wl_q rfl rfl rfl (q_nil rfl rfl c2) ?_
  refine wl_q rfl rfl rfl (q_fieldAddr rfl rfl fo_49_1) ?_
  obtain ⟨x3, c4, hD⟩ := hD
  refine wl_q rfl rfl rfl (q_load rfl rfl Go.Proofs.Tryz.underlying46 rfl (At.cell c4)) ?_
  refine wl_q rfl rfl rfl (q_len_slice rfl rfl Go.Proofs.Tryz.underlying46 rfl) ?_
  refine wl_q rfl rfl rfl (q_move rfl rfl) ?_
  refine wl_keep (l' := [(0, Value.pointer l_0), (10, Sl.v x3), (11, Value.int .i64 (x3.len : Int)), (12, Value.int .i64 0)]) (keep_cons rfl (keep_cons rfl (keep_cons rfl (keep_cons rfl keep_nil)))) (wl_nil ?_)
  refine cw_block ?_
  obtain ⟨I, μ, hI60, hL61⟩ := hD
  refine cw_loops (σ := Int) (fun s => [(0, Value.pointer l_0), (10, Sl.v x3), (11, Value.int .i64 (x3.len : Int)), (12, Value.int .i64 s)]) (0) (fun s h => I s h) (fun s h => μ s h) (keep_cons rfl (keep_cons rfl (keep_cons rfl (keep_cons rfl keep_nil)))) hI60 ?_
  rintro x5 hz6 hI
  have hD := hL61 x5 hz6 hI
  obtain ⟨C7, hC7⟩ : ∃ c : Int → Hp → Prop, c = (fun x5' h' => I x5' h' ∧ μ x5' h' < μ x5 hz6) := ⟨_, rfl⟩
  rw [← hC7] at hD
  unfold D_wal_Log_Sync_l3 at hD
  show cw _ _ _ [(0, Value.pointer l_0), (10, Sl.v x3), (11, Value.int .i64 (x3.len : Int)), (12, Value.int .i64 x5)] _ _ _ _
  refine cw_seq ?_
  refine cw_region ?_
  refine wl_q rfl rfl rfl (q_bin rfl rfl rfl (fun _ _ => rfl)) ?_
  refine wl_keep (l' := [(0, Value.pointer l_0), (10, Sl.v x3), (11, Value.int .i64 (x3.len : Int)), (12, Value.int .i64 x5), (13, Value.bool (decide (x5 < (x3.len : Int))))]) (keep_cons rfl (keep_cons rfl (keep_cons rfl (keep_cons rfl (keep_cons rfl keep_nil))))) (wl_nil ?_)
  refine cw_seq ?_
  refine cw_cond rfl (fun hb8 => ?_) (fun hb8 => ?_)
  · have hD := ifT hb8 hD
    refine cw_skip ?_
    refine cw_cut (fun l h => Keep l [(0, Value.pointer l_0), (10, Sl.v x3), (11, Value.int .i64 (x3.len : Int)), (12, Value.int .i64 x5)] ∧ D_wal_Log_Sync_j1 x5 C7 h) ?_ ?_
    · refine cw_block ?_
      refine cw_seq ?_
      refine cw_region ?_
      obtain ⟨a10, c11, c12, c13, hD⟩ := hD
      refine wl_q rfl rfl rfl (q_indexAddr rfl rfl rfl Go.Proofs.Tryz.underlying46 sz_47 c11 c12 c13) ?_
      obtain ⟨x14, c15, hD⟩ := hD
      refine wl_q rfl rfl rfl (q_load rfl rfl Go.Proofs.Tryz.underlying47 rfl (At.cell c15)) ?_
      refine wl_q rfl rfl rfl (q_assign rfl rfl) ?_
      refine wl_keep (l' := [(0, Value.pointer l_0), (4, Value.pointer x14), (10, Sl.v x3), (11, Value.int .i64 (x3.len : Int)), (12, Value.int .i64 x5)]) (keep_cons rfl (keep_cons rfl (keep_cons rfl (keep_cons rfl (keep_cons rfl keep_nil))))) (wl_nil ?_)
      refine cw_seq ?_
      refine cw_seq ?_
      refine cw_region ?_
      refine wl_q rfl rfl rfl (q_move rfl rfl) ?_
      obtain ⟨a16, c17, hD⟩ := hD
      refine wl_q rfl rfl rfl (q_nil rfl rfl c17) ?_
      refine wl_q rfl rfl rfl (q_fieldAddr rfl rfl fo_63_3) ?_
      obtain ⟨x18, c19, hD⟩ := hD
      refine wl_q rfl rfl rfl (q_load rfl rfl Go.Proofs.Tryz.underlying4 rfl (At.cell c19)) ?_
      refine wl_q rfl rfl rfl (q_un rfl rfl (fun _ => rfl)) ?_
      refine wl_keep (l' := [(0, Value.pointer l_0), (4, Value.pointer x14), (10, Sl.v x3), (11, Value.int .i64 (x3.len : Int)), (12, Value.int .i64 x5), (20, Value.bool (!x18))]) (keep_cons rfl (keep_cons rfl (keep_cons rfl (keep_cons rfl (keep_cons rfl (keep_cons rfl keep_nil)))))) (wl_nil ?_)
      refine cw_cond rfl (fun hb20 => ?_) (fun hb20 => ?_)
      · have hD := ifT hb20 hD
        refine cw_exit ?_
        refine xput_same ?_
        exact ⟨(keep_cons rfl (keep_cons rfl (keep_cons rfl (keep_cons rfl keep_nil)))), hD⟩
      · have hD := ifF hb20 hD
        refine cw_skip ?_
        refine cw_seq ?_
        refine cw_seq ?_
        obtain ⟨x21, c22, hD⟩ := hD
        obtain ⟨x23, c24, hD⟩ := hD
        refine cw_draw (fun h => cellH h (a1.add 0) = some (Value.pointer x21) ∧ cellH h (a16.add 0) = some (Value.int .i64 x23) ∧ True) 11 wide ?_
        have hS : cellH hz6 (a1.add 0) = some (Value.pointer x21) ∧ cellH hz6 (a16.add 0) = some (Value.int .i64 x23) ∧ True := ⟨c22, c24, trivial⟩
        refine wh_q 0 rfl (by kernel_rfl) rfl rfl rfl (q_move rfl rfl) (by exact hS) ?_
        refine wh_q 1 rfl (by kernel_rfl) rfl rfl rfl (q_nil rfl rfl c2) (by exact hS) ?_
        refine wh_q 2 rfl (by kernel_rfl) rfl rfl rfl (q_fieldAddr rfl rfl fo_49_0) (by exact hS) ?_
        refine wh_q 3 rfl (by kernel_rfl) rfl rfl rfl (q_load rfl rfl Go.Proofs.Tryz.underlying25 rfl (by exact fun _ s => s.1)) (by exact hS) ?_
        refine wh_q 4 rfl (by kernel_rfl) rfl rfl rfl (q_move rfl rfl) (by exact hS) ?_
        refine wh_q 5 rfl (by kernel_rfl) rfl rfl rfl (q_nil rfl rfl c17) (by exact hS) ?_
        refine wh_q 6 rfl (by kernel_rfl) rfl rfl rfl (q_fieldAddr rfl rfl fo_63_0) (by exact hS) ?_
        refine wh_q 7 rfl (by kernel_rfl) rfl rfl rfl (q_load rfl rfl Go.Proofs.Tryz.underlying3 rfl (by exact fun _ s => s.2.1)) (by exact hS) ?_
        refine wh_e 8 rfl (by kernel_rfl) rfl rfl rfl (e_call (first := []) (vs := [Value.int .i64 x23]) (cap := []) rfl rfl rfl cf_25 (CallsH.mono hD ?_))
        rintro _ hz25 ⟨r26, rfl, hD⟩
        obtain ⟨hk0, hk1, hD⟩ := hD
        refine ⟨⟨hk0, hk1, trivial⟩, ?_⟩
        have hS : cellH hz25 (a1.add 0) = some (Value.pointer x21) ∧ cellH hz25 (a16.add 0) = some (Value.int .i64 x23) ∧ True := ⟨hk0, hk1, trivial⟩
        refine wh_e 9 rfl (by kernel_rfl) rfl rfl rfl (e_call (first := []) (vs := [Value.pointer x21, Value.string r26]) (cap := []) rfl rfl rfl cf_26 (CallsH.mono hD ?_))
        rintro _ hz27 ⟨r28, rfl, hD⟩
        obtain ⟨hk0, hk1, hD⟩ := hD
        refine ⟨⟨hk0, hk1, trivial⟩, ?_⟩
        have hS : cellH hz27 (a1.add 0) = some (Value.pointer x21) ∧ cellH hz27 (a16.add 0) = some (Value.int .i64 x23) ∧ True := ⟨hk0, hk1, trivial⟩
        refine wh_q 10 rfl (by kernel_rfl) rfl rfl rfl (q_assign rfl rfl) (by exact hS) ?_
        refine wh_keep (l' := [(0, Value.pointer l_0), (4, Value.pointer x14), (5, Value.int .i64 r28), (10, Sl.v x3), (11, Value.int .i64 (x3.len : Int)), (12, Value.int .i64 x5)]) (keep_cons rfl (keep_cons rfl (keep_cons rfl (keep_cons rfl (keep_cons rfl (keep_cons rfl keep_nil)))))) (wh_done (by kernel_rfl) ?_)
        refine cw_seq ?_
        refine cw_region ?_
        refine wl_q rfl rfl rfl (q_move rfl rfl) ?_
        refine wl_q rfl rfl rfl (q_bin rfl rfl rfl (fun _ _ => rfl)) ?_
        refine wl_keep (l' := [(0, Value.pointer l_0), (4, Value.pointer x14), (5, Value.int .i64 r28), (10, Sl.v x3), (11, Value.int .i64 (x3.len : Int)), (12, Value.int .i64 x5), (32, Value.bool (r28 != (0 : Int)))]) (keep_cons rfl (keep_cons rfl (keep_cons rfl (keep_cons rfl (keep_cons rfl (keep_cons rfl (keep_cons rfl keep_nil))))))) (wl_nil ?_)
        refine cw_cond rfl (fun hb29 => ?_) (fun hb29 => ?_)
        · have hD := ifT hb29 hD
          refine cw_seq ?_
          refine cw_region ?_
          refine wl_q rfl rfl rfl (q_move rfl rfl) ?_
          refine wl_q rfl rfl rfl (q_assign rfl rfl) ?_
          refine wl_keep (l' := [(2, Value.int .i64 r28)]) (keep_cons rfl keep_nil) (wl_nil ?_)
          refine cw_ret ?_
          exact ⟨_, resq1 rfl rfl, _, rfl, hD⟩
        · have hD := ifF hb29 hD
          refine cw_skip ?_
          refine cw_region ?_
          refine wl_q rfl rfl rfl (q_move rfl rfl) ?_
          refine wl_q rfl rfl rfl (q_nil rfl rfl c17) ?_
          refine wl_q rfl rfl rfl (q_fieldAddr rfl rfl fo_63_3) ?_
          obtain ⟨u31, c32, c33, hD⟩ := hD
          refine wl_e0 rfl rfl (e_store rfl rfl rfl sz_4 trivial c32 c33 ?_)
          intro hz30 e34
          have hD := hD hz30 e34
          refine wl_keep (l' := [(0, Value.pointer l_0), (10, Sl.v x3), (11, Value.int .i64 (x3.len : Int)), (12, Value.int .i64 x5)]) (keep_cons rfl (keep_cons rfl (keep_cons rfl (keep_cons rfl keep_nil)))) (wl_nil ?_)
          exact ⟨(keep_cons rfl (keep_cons rfl (keep_cons rfl (keep_cons rfl keep_nil)))), hD⟩
    · rintro l36 hz9 ⟨hk35, hD⟩
      refine cw_keep hk35 ?_
      unfold D_wal_Log_Sync_j1 at hD
      refine cw_region ?_
      refine wl_q rfl rfl rfl (q_bin rfl rfl rfl (fun _ _ => rfl)) ?_
      refine wl_q rfl rfl rfl (q_move rfl rfl) ?_
      refine wl_keep (l' := [(0, Value.pointer l_0), (10, Sl.v x3), (11, Value.int .i64 (x3.len : Int)), (12, Value.int .i64 (IntKind.i64.wrap (x5 + 1)))]) (keep_cons rfl (keep_cons rfl (keep_cons rfl (keep_cons rfl keep_nil)))) (wl_nil ?_)
      rw [hC7] at hD
      exact ⟨(IntKind.i64.wrap (x5 + 1)), (keep_cons rfl (keep_cons rfl (keep_cons rfl (keep_cons rfl keep_nil)))), hD⟩
  · have hD := ifF hb8 hD
    refine cw_exit ?_
    refine xput_same ?_
    refine cw_cut (fun l h => Keep l [(0, Value.pointer l_0)] ∧ D_wal_Log_Sync_j2 K a1 h) ?_ ?_
    · refine cw_seq ?_
      refine cw_region ?_
      refine wl_q rfl rfl rfl (q_move rfl rfl) ?_
      refine wl_q rfl rfl rfl (q_nil rfl rfl c2) ?_
      refine wl_q rfl rfl rfl (q_fieldAddr rfl rfl fo_49_3) ?_
      obtain ⟨x45, c46, hD⟩ := hD
      refine wl_q rfl rfl rfl (q_load rfl rfl Go.Proofs.Tryz.underlying4 rfl (At.cell c46)) ?_
      refine wl_keep (l' := [(0, Value.pointer l_0), (41, Value.bool x45)]) (keep_cons rfl (keep_cons rfl keep_nil)) (wl_nil ?_)
      refine cw_cond rfl (fun hb47 => ?_) (fun hb47 => ?_)
      · have hD := ifT hb47 hD
        refine cw_seq ?_
        refine cw_seq ?_
        refine cw_region ?_
        refine wl_q rfl rfl rfl (q_move rfl rfl) ?_
        refine wl_q rfl rfl rfl (q_nil rfl rfl c2) ?_
        refine wl_q rfl rfl rfl (q_fieldAddr rfl rfl fo_49_0) ?_
        obtain ⟨x48, c49, hD⟩ := hD
        refine wl_q rfl rfl rfl (q_load rfl rfl Go.Proofs.Tryz.underlying25 rfl (At.cell c49)) ?_
        refine wl_e rfl rfl rfl (e_call (first := []) (vs := [Value.pointer x48]) (cap := []) rfl rfl rfl cf_27 (CallsH.mono hD ?_))
        rintro _ hz50 ⟨r51, rfl, hD⟩
        refine wl_q rfl rfl rfl (q_assign rfl rfl) ?_
        refine wl_keep (l' := [(0, Value.pointer l_0), (6, Value.int .i64 r51)]) (keep_cons rfl (keep_cons rfl keep_nil)) (wl_nil ?_)
        refine cw_seq ?_
        refine cw_region ?_
        refine wl_q rfl rfl rfl (q_move rfl rfl) ?_
        refine wl_q rfl rfl rfl (q_bin rfl rfl rfl (fun _ _ => rfl)) ?_
        refine wl_keep (l' := [(0, Value.pointer l_0), (6, Value.int .i64 r51), (48, Value.bool (r51 != (0 : Int)))]) (keep_cons rfl (keep_cons rfl (keep_cons rfl keep_nil))) (wl_nil ?_)
        refine cw_cond rfl (fun hb52 => ?_) (fun hb52 => ?_)
        · have hD := ifT hb52 hD
          refine cw_seq ?_
          refine cw_region ?_
          refine wl_q rfl rfl rfl (q_move rfl rfl) ?_
          refine wl_q rfl rfl rfl (q_assign rfl rfl) ?_
          refine wl_keep (l' := [(2, Value.int .i64 r51)]) (keep_cons rfl keep_nil) (wl_nil ?_)
          refine cw_ret ?_
          exact ⟨_, resq1 rfl rfl, _, rfl, hD⟩
        · have hD := ifF hb52 hD
          refine cw_skip ?_
          refine cw_region ?_
          refine wl_q rfl rfl rfl (q_move rfl rfl) ?_
          refine wl_q rfl rfl rfl (q_nil rfl rfl c2) ?_
          refine wl_q rfl rfl rfl (q_fieldAddr rfl rfl fo_49_3) ?_
          obtain ⟨u54, c55, c56, hD⟩ := hD
          refine wl_e0 rfl rfl (e_store rfl rfl rfl sz_4 trivial c55 c56 ?_)
          intro hz53 e57
          have hD := hD hz53 e57
          refine wl_keep (l' := [(0, Value.pointer l_0)]) (keep_cons rfl keep_nil) (wl_nil ?_)
          exact ⟨(keep_cons rfl keep_nil), hD⟩
      · have hD := ifF hb47 hD
        refine cw_skip ?_
        exact ⟨(keep_cons rfl keep_nil), hD⟩
    · rintro l59 hz37 ⟨hk58, hD⟩
      refine cw_keep hk58 ?_
      unfold D_wal_Log_Sync_j2 at hD
      refine cw_seq ?_
      refine cw_region ?_
      refine wl_q rfl rfl rfl (q_move rfl rfl) ?_
      refine wl_q rfl rfl rfl (q_move rfl rfl) ?_
      refine wl_q rfl rfl rfl (q_nil rfl rfl c2) ?_
      refine wl_q rfl rfl rfl (q_fieldAddr rfl rfl fo_49_4) ?_
      obtain ⟨x38, c39, hD⟩ := hD
      refine wl_q rfl rfl rfl (q_load rfl rfl Go.Proofs.Tryz.underlying3 rfl (At.cell c39)) ?_
      refine wl_q rfl rfl rfl (q_nil rfl rfl c2) ?_
      refine wl_q rfl rfl rfl (q_fieldAddr rfl rfl fo_49_5) ?_
      obtain ⟨u41, c42, c43, hD⟩ := hD
      refine wl_e0 rfl rfl (e_store rfl rfl rfl sz_3 trivial c42 c43 ?_)
      intro hz40 e44
      have hD := hD hz40 e44
      refine wl_keep (l' := []) keep_nil (wl_nil ?_)
      refine cw_seq ?_
      refine cw_region ?_
      refine wl_q rfl rfl rfl (q_assign rfl rfl) ?_
      refine wl_keep (l' := [(2, Value.int .i64 0)]) (keep_cons rfl keep_nil) (wl_nil ?_)
      refine cw_ret ?_
      exact ⟨_, resq1 rfl rfl, _, rfl, hD⟩
end Go.Proofs.YtgdmjdacmebfjaaGreatDoor.D

namespace Go.Proofs.YtgdmjdacmebfjaaGreatDoor.D
open Go
set_option maxRecDepth 100000
theorem S_wal_Log_CutAfter {d_0 : Option Addr} {t_1 : Int} {h0 : Hp} {K : Int → Hp → Prop} (hD : D_wal_Log_CutAfter d_0 t_1 h0 K) : C_wal_Log_CutAfter d_0 t_1 h0 K := by
  unfold D_wal_Log_CutAfter at hD
  refine calls_cw (args := [Value.pointer d_0, Value.int .i64 t_1]) Go.Proofs.Tryz.func9 rfl ?_
  show cw _ 114 _ [(0, Value.pointer d_0), (1, Value.int .i64 t_1)] _ _ _ _
  refine cw_seq ?_
  refine cw_region ?_
  refine wl_q rfl rfl rfl (q_assign rfl rfl) ?_
  refine wl_keep (l' := [(0, Value.pointer d_0), (1, Value.int .i64 t_1)]) (keep_cons rfl (keep_cons rfl keep_nil)) (wl_nil ?_)
  refine cw_seq ?_
  refine cw_cut (fun l h => ∃ (x1 : Bool), Keep l [(0, Value.pointer d_0), (1, Value.int .i64 t_1), (20, Value.bool x1)] ∧ D_wal_Log_CutAfter_j4 d_0 t_1 K x1 h) ?_ ?_
  · refine cw_region ?_
    refine wl_q rfl rfl rfl (q_move rfl rfl) ?_
    refine wl_q rfl rfl rfl (q_move rfl rfl) ?_
    refine wl_e rfl rfl rfl (e_call (first := []) (vs := [Value.pointer d_0]) (cap := []) rfl rfl rfl cf_28 (CallsH.mono hD ?_))
    rintro _ hz93 ⟨r94, rfl, hD⟩
    refine wl_q rfl rfl rfl (q_bin rfl rfl rfl (fun _ _ => rfl)) ?_
    refine wl_q rfl rfl rfl (q_bin rfl rfl rfl (fun _ _ => rfl)) ?_
    refine wl_q rfl rfl rfl (q_move rfl rfl) ?_
    rcases bool_or (decide (t_1 < (IntKind.i64.wrap (r94 - 1)))) with hb95 | hb95
    · have hD := ifT hb95 hD
      refine wl_gn rfl rfl rfl hb95 rfl rfl ?_
      refine wl_gn rfl rfl rfl hb95 rfl rfl ?_
      refine wl_gn rfl rfl rfl hb95 rfl rfl ?_
      refine wl_gn rfl rfl rfl hb95 rfl rfl ?_
      refine wl_gn rfl rfl rfl hb95 rfl rfl ?_
      refine wl_gn rfl rfl rfl hb95 rfl rfl ?_
      refine wl_q rfl rfl rfl (q_pickT rfl rfl hb95 rfl) ?_
      refine wl_keep (l' := [(0, Value.pointer d_0), (1, Value.int .i64 t_1), (20, Value.bool true)]) (keep_cons rfl (keep_cons rfl (keep_cons rfl keep_nil))) (wl_nil ?_)
      exact ⟨_, (keep_cons rfl (keep_cons rfl (keep_cons rfl keep_nil))), hD⟩
    · have hD := ifF hb95 hD
      refine wl_gq rfl rfl rfl hb95 rfl rfl (q_move rfl rfl) ?_
      refine wl_gq rfl rfl rfl hb95 rfl rfl (q_move rfl rfl) ?_
      obtain ⟨a96, c97, hD⟩ := hD
      refine wl_gq rfl rfl rfl hb95 rfl rfl (q_nil rfl rfl c97) ?_
      refine wl_gq rfl rfl rfl hb95 rfl rfl (q_fieldAddr rfl rfl fo_49_4) ?_
      obtain ⟨x98, c99, hD⟩ := hD
      refine wl_gq rfl rfl rfl hb95 rfl rfl (q_load rfl rfl Go.Proofs.Tryz.underlying3 rfl (At.cell c99)) ?_
      refine wl_gq rfl rfl rfl hb95 rfl rfl (q_bin rfl rfl rfl (fun _ _ => rfl)) ?_
      refine wl_q rfl rfl rfl (q_pickF rfl rfl hb95 rfl) ?_
      refine wl_keep (l' := [(0, Value.pointer d_0), (1, Value.int .i64 t_1), (20, Value.bool (decide (t_1 > x98)))]) (keep_cons rfl (keep_cons rfl (keep_cons rfl keep_nil))) (wl_nil ?_)
      exact ⟨_, (keep_cons rfl (keep_cons rfl (keep_cons rfl keep_nil))), hD⟩
  · rintro l101 hz2 ⟨x1, hk100, hD⟩
    refine cw_keep hk100 ?_
    unfold D_wal_Log_CutAfter_j4 at hD
    refine cw_cond rfl (fun hb3 => ?_) (fun hb3 => ?_)
    · have hD := ifT hb3 hD
      refine cw_seq ?_
      refine cw_region ?_
      refine wl_q rfl rfl rfl (q_assign rfl rfl) ?_
      refine wl_keep (l' := [(4, Value.int .i64 2)]) (keep_cons rfl keep_nil) (wl_nil ?_)
      refine cw_ret ?_
      exact ⟨_, resq1 rfl rfl, _, rfl, hD⟩
    · have hD := ifF hb3 hD
      refine cw_skip ?_
      refine cw_seq ?_
      refine cw_region ?_
      refine wl_q rfl rfl rfl (q_move rfl rfl) ?_
      obtain ⟨a4, c5, hD⟩ := hD
      refine wl_q rfl rfl rfl (q_nil rfl rfl c5) ?_
      refine wl_q rfl rfl rfl (q_fieldAddr rfl rfl fo_49_2) ?_
      obtain ⟨u7, c8, c9, hD⟩ := hD
      refine wl_e0 rfl rfl (e_store rfl rfl rfl sz_47 trivial c8 c9 ?_)
      intro hz6 e10
      have hD := hD hz6 e10
      refine wl_keep (l' := [(0, Value.pointer d_0), (1, Value.int .i64 t_1)]) (keep_cons rfl (keep_cons rfl keep_nil)) (wl_nil ?_)
      refine cw_seq ?_
      refine cw_seq ?_
      refine cw_region ?_
      refine wl_q rfl rfl rfl (q_move rfl rfl) ?_
      refine wl_q rfl rfl rfl (q_move rfl rfl) ?_
      refine wl_q rfl rfl rfl (q_nil rfl rfl c5) ?_
      refine wl_q rfl rfl rfl (q_fieldAddr rfl rfl fo_49_4) ?_
      obtain ⟨x11, c12, hD⟩ := hD
      refine wl_q rfl rfl rfl (q_load rfl rfl Go.Proofs.Tryz.underlying3 rfl (At.cell c12)) ?_
      refine wl_q rfl rfl rfl (q_bin rfl rfl rfl (fun _ _ => rfl)) ?_
      refine wl_keep (l' := [(0, Value.pointer d_0), (1, Value.int .i64 t_1), (29, Value.bool (t_1 == x11))]) (keep_cons rfl (keep_cons rfl (keep_cons rfl keep_nil))) (wl_nil ?_)
      refine cw_cond rfl (fun hb13 => ?_) (fun hb13 => ?_)
      · have hD := ifT hb13 hD
        refine cw_seq ?_
        refine cw_region ?_
        refine wl_q rfl rfl rfl (q_assign rfl rfl) ?_
        refine wl_keep (l' := [(4, Value.int .i64 0)]) (keep_cons rfl keep_nil) (wl_nil ?_)
        refine cw_ret ?_
        exact ⟨_, resq1 rfl rfl, _, rfl, hD⟩
      · have hD := ifF hb13 hD
        refine cw_skip ?_
        refine cw_seq ?_
        refine cw_block ?_
        obtain ⟨I, μ, hI91, hL92⟩ := hD
        refine cw_loops (σ := Unit) (fun s => [(0, Value.pointer d_0), (1, Value.int .i64 t_1)]) () (fun s h => I h) (fun s h => μ h) (keep_cons rfl (keep_cons rfl keep_nil)) hI91 ?_
        rintro ⟨⟩ hz14 hI
        have hD := hL92 hz14 hI
        obtain ⟨C15, hC15⟩ : ∃ c : Hp → Prop, c = (fun  h' => I  h' ∧ μ  h' < μ hz14) := ⟨_, rfl⟩
        rw [← hC15] at hD
        unfold D_wal_Log_CutAfter_l3 at hD
        show cw _ _ _ [(0, Value.pointer d_0), (1, Value.int .i64 t_1)] _ _ _ _
        refine cw_seq ?_
        refine cw_cut (fun l h => ∃ (x16 : Bool), Keep l [(0, Value.pointer d_0), (1, Value.int .i64 t_1), (54, Value.bool x16)] ∧ D_wal_Log_CutAfter_j2 d_0 t_1 K a4 C15 x16 h) ?_ ?_
        · obtain ⟨x72, c73, hD⟩ := hD
          rcases bool_or (decide ((x72.len : Int) > (0 : Int))) with hb74 | hb74
          · have hD := ifT hb74 hD
            obtain ⟨x75, c76, hD⟩ := hD
            obtain ⟨x77, c78, hD⟩ := hD
            obtain ⟨a79, c80, c81, c82, hD⟩ := hD
            obtain ⟨x83, c84, hD⟩ := hD
            obtain ⟨a85, c86, hD⟩ := hD
            obtain ⟨x87, c88, hD⟩ := hD
            refine cw_draw (fun h => cellH h (a4.add 1) = some (Sl.v x72) ∧ cellH h (a4.add 1) = some (Sl.v x75) ∧ cellH h (a4.add 1) = some (Sl.v x77) ∧ cellH h (a79.add ((IntKind.i64.wrap ((x77.len : Int) - 1)).toNat * 1)) = some (Value.pointer x83) ∧ cellH h (a85.add 0) = some (Value.int .i64 x87) ∧ True) 25 wide ?_
            have hS : cellH hz14 (a4.add 1) = some (Sl.v x72) ∧ cellH hz14 (a4.add 1) = some (Sl.v x75) ∧ cellH hz14 (a4.add 1) = some (Sl.v x77) ∧ cellH hz14 (a79.add ((IntKind.i64.wrap ((x77.len : Int) - 1)).toNat * 1)) = some (Value.pointer x83) ∧ cellH hz14 (a85.add 0) = some (Value.int .i64 x87) ∧ True := ⟨c73, c76, c78, c84, c88, trivial⟩
            refine wh_q 0 rfl (by kernel_rfl) rfl rfl rfl (q_move rfl rfl) (by exact hS) ?_
            refine wh_q 1 rfl (by kernel_rfl) rfl rfl rfl (q_nil rfl rfl c5) (by exact hS) ?_
            refine wh_q 2 rfl (by kernel_rfl) rfl rfl rfl (q_fieldAddr rfl rfl fo_49_1) (by exact hS) ?_
            refine wh_q 3 rfl (by kernel_rfl) rfl rfl rfl (q_load rfl rfl Go.Proofs.Tryz.underlying46 rfl (by exact fun _ s => s.1)) (by exact hS) ?_
            refine wh_q 4 rfl (by kernel_rfl) rfl rfl rfl (q_len_slice rfl rfl Go.Proofs.Tryz.underlying46 rfl) (by exact hS) ?_
            refine wh_q 5 rfl (by kernel_rfl) rfl rfl rfl (q_bin rfl rfl rfl (fun _ _ => rfl)) (by exact hS) ?_
            refine wh_q 6 rfl (by kernel_rfl) rfl rfl rfl (q_move rfl rfl) (by exact hS) ?_
            refine wh_gq 7 rfl (by kernel_rfl) rfl rfl rfl hb74 rfl rfl (q_move rfl rfl) (by exact hS) ?_
            refine wh_gq 8 rfl (by kernel_rfl) rfl rfl rfl hb74 rfl rfl (q_nil rfl rfl c5) (by exact hS) ?_
            refine wh_gq 9 rfl (by kernel_rfl) rfl rfl rfl hb74 rfl rfl (q_fieldAddr rfl rfl fo_49_1) (by exact hS) ?_
            refine wh_gq 10 rfl (by kernel_rfl) rfl rfl rfl hb74 rfl rfl (q_load rfl rfl Go.Proofs.Tryz.underlying46 rfl (by exact fun _ s => s.2.1)) (by exact hS) ?_
            refine wh_gq 11 rfl (by kernel_rfl) rfl rfl rfl hb74 rfl rfl (q_move rfl rfl) (by exact hS) ?_
            refine wh_gq 12 rfl (by kernel_rfl) rfl rfl rfl hb74 rfl rfl (q_nil rfl rfl c5) (by exact hS) ?_
            refine wh_gq 13 rfl (by kernel_rfl) rfl rfl rfl hb74 rfl rfl (q_fieldAddr rfl rfl fo_49_1) (by exact hS) ?_
            refine wh_gq 14 rfl (by kernel_rfl) rfl rfl rfl hb74 rfl rfl (q_load rfl rfl Go.Proofs.Tryz.underlying46 rfl (by exact fun _ s => s.2.2.1)) (by exact hS) ?_
            refine wh_gq 15 rfl (by kernel_rfl) rfl rfl rfl hb74 rfl rfl (q_len_slice rfl rfl Go.Proofs.Tryz.underlying46 rfl) (by exact hS) ?_
            refine wh_gq 16 rfl (by kernel_rfl) rfl rfl rfl hb74 rfl rfl (q_bin rfl rfl rfl (fun _ _ => rfl)) (by exact hS) ?_
            refine wh_gq 17 rfl (by kernel_rfl) rfl rfl rfl hb74 rfl rfl (q_indexAddr rfl rfl rfl Go.Proofs.Tryz.underlying46 sz_47 c80 c81 c82) (by exact hS) ?_
            refine wh_gq 18 rfl (by kernel_rfl) rfl rfl rfl hb74 rfl rfl (q_load rfl rfl Go.Proofs.Tryz.underlying47 rfl (by exact fun _ s => s.2.2.2.1)) (by exact hS) ?_
            refine wh_gq 19 rfl (by kernel_rfl) rfl rfl rfl hb74 rfl rfl (q_nil rfl rfl c86) (by exact hS) ?_
            refine wh_gq 20 rfl (by kernel_rfl) rfl rfl rfl hb74 rfl rfl (q_fieldAddr rfl rfl fo_63_0) (by exact hS) ?_
            refine wh_gq 21 rfl (by kernel_rfl) rfl rfl rfl hb74 rfl rfl (q_load rfl rfl Go.Proofs.Tryz.underlying3 rfl (by exact fun _ s => s.2.2.2.2.1)) (by exact hS) ?_
            refine wh_gq 22 rfl (by kernel_rfl) rfl rfl rfl hb74 rfl rfl (q_move rfl rfl) (by exact hS) ?_
            refine wh_gq 23 rfl (by kernel_rfl) rfl rfl rfl hb74 rfl rfl (q_bin rfl rfl rfl (fun _ _ => rfl)) (by exact hS) ?_
            refine wh_q 24 rfl (by kernel_rfl) rfl rfl rfl (q_pickT rfl rfl hb74 rfl) (by exact hS) ?_
            refine wh_keep (l' := [(0, Value.pointer d_0), (1, Value.int .i64 t_1), (54, Value.bool (decide (x87 > t_1)))]) (keep_cons rfl (keep_cons rfl (keep_cons rfl keep_nil))) (wh_done (by kernel_rfl) ?_)
            exact ⟨_, (keep_cons rfl (keep_cons rfl (keep_cons rfl keep_nil))), hD⟩
          · have hD := ifF hb74 hD
            refine cw_draw (fun h => cellH h (a4.add 1) = some (Sl.v x72) ∧ True) 25 wide ?_
            have hS : cellH hz14 (a4.add 1) = some (Sl.v x72) ∧ True := ⟨c73, trivial⟩
            refine wh_q 0 rfl (by kernel_rfl) rfl rfl rfl (q_move rfl rfl) (by exact hS) ?_
            refine wh_q 1 rfl (by kernel_rfl) rfl rfl rfl (q_nil rfl rfl c5) (by exact hS) ?_
            refine wh_q 2 rfl (by kernel_rfl) rfl rfl rfl (q_fieldAddr rfl rfl fo_49_1) (by exact hS) ?_
            refine wh_q 3 rfl (by kernel_rfl) rfl rfl rfl (q_load rfl rfl Go.Proofs.Tryz.underlying46 rfl (by exact fun _ s => s.1)) (by exact hS) ?_
            refine wh_q 4 rfl (by kernel_rfl) rfl rfl rfl (q_len_slice rfl rfl Go.Proofs.Tryz.underlying46 rfl) (by exact hS) ?_
            refine wh_q 5 rfl (by kernel_rfl) rfl rfl rfl (q_bin rfl rfl rfl (fun _ _ => rfl)) (by exact hS) ?_
            refine wh_q 6 rfl (by kernel_rfl) rfl rfl rfl (q_move rfl rfl) (by exact hS) ?_
            refine wh_gn 7 rfl (by kernel_rfl) rfl rfl rfl hb74 rfl rfl (by exact hS) ?_
            refine wh_gn 8 rfl (by kernel_rfl) rfl rfl rfl hb74 rfl rfl (by exact hS) ?_
            refine wh_gn 9 rfl (by kernel_rfl) rfl rfl rfl hb74 rfl rfl (by exact hS) ?_
            refine wh_gn 10 rfl (by kernel_rfl) rfl rfl rfl hb74 rfl rfl (by exact hS) ?_
            refine wh_gn 11 rfl (by kernel_rfl) rfl rfl rfl hb74 rfl rfl (by exact hS) ?_
            refine wh_gn 12 rfl (by kernel_rfl) rfl rfl rfl hb74 rfl rfl (by exact hS) ?_
            refine wh_gn 13 rfl (by kernel_rfl) rfl rfl rfl hb74 rfl rfl (by exact hS) ?_
            refine wh_gn 14 rfl (by kernel_rfl) rfl rfl rfl hb74 rfl rfl (by exact hS) ?_
            refine wh_gn 15 rfl (by kernel_rfl) rfl rfl rfl hb74 rfl rfl (by exact hS) ?_
            refine wh_gn 16 rfl (by kernel_rfl) rfl rfl rfl hb74 rfl rfl (by exact hS) ?_
            refine wh_gn 17 rfl (by kernel_rfl) rfl rfl rfl hb74 rfl rfl (by exact hS) ?_
            refine wh_gn 18 rfl (by kernel_rfl) rfl rfl rfl hb74 rfl rfl (by exact hS) ?_
            refine wh_gn 19 rfl (by kernel_rfl) rfl rfl rfl hb74 rfl rfl (by exact hS) ?_
            refine wh_gn 20 rfl (by kernel_rfl) rfl rfl rfl hb74 rfl rfl (by exact hS) ?_
            refine wh_gn 21 rfl (by kernel_rfl) rfl rfl rfl hb74 rfl rfl (by exact hS) ?_
            refine wh_gn 22 rfl (by kernel_rfl) rfl rfl rfl hb74 rfl rfl (by exact hS) ?_
            refine wh_gn 23 rfl (by kernel_rfl) rfl rfl rfl hb74 rfl rfl (by exact hS) ?_
            refine wh_q 24 rfl (by kernel_rfl) rfl rfl rfl (q_pickF rfl rfl hb74 rfl) (by exact hS) ?_
            refine wh_keep (l' := [(0, Value.pointer d_0), (1, Value.int .i64 t_1), (54, Value.bool false)]) (keep_cons rfl (keep_cons rfl (keep_cons rfl keep_nil))) (wh_done (by kernel_rfl) ?_)
            exact ⟨_, (keep_cons rfl (keep_cons rfl (keep_cons rfl keep_nil))), hD⟩
        · rintro l90 hz17 ⟨x16, hk89, hD⟩
          refine cw_keep hk89 ?_
          unfold D_wal_Log_CutAfter_j2 at hD
          refine cw_cond rfl (fun hb18 => ?_) (fun hb18 => ?_)
          · have hD := ifT hb18 hD
            refine cw_skip ?_
            refine cw_block ?_
            refine cw_seq ?_
            refine cw_region ?_
            refine wl_q rfl rfl rfl (q_move rfl rfl) ?_
            refine wl_q rfl rfl rfl (q_nil rfl rfl c5) ?_
            refine wl_q rfl rfl rfl (q_fieldAddr rfl rfl fo_49_1) ?_
            obtain ⟨x19, c20, hD⟩ := hD
            refine wl_q rfl rfl rfl (q_load rfl rfl Go.Proofs.Tryz.underlying46 rfl (At.cell c20)) ?_
            refine wl_q rfl rfl rfl (q_len_slice rfl rfl Go.Proofs.Tryz.underlying46 rfl) ?_
            refine wl_q rfl rfl rfl (q_bin rfl rfl rfl (fun _ _ => rfl)) ?_
            refine wl_q rfl rfl rfl (q_assign rfl rfl) ?_
            refine wl_keep (l' := [(0, Value.pointer d_0), (1, Value.int .i64 t_1), (5, Value.int .i64 (IntKind.i64.wrap ((x19.len : Int) - 1)))]) (keep_cons rfl (keep_cons rfl (keep_cons rfl keep_nil))) (wl_nil ?_)
            refine cw_seq ?_
            refine cw_seq ?_
            obtain ⟨x21, c22, hD⟩ := hD
            obtain ⟨x23, c24, hD⟩ := hD
            obtain ⟨a25, c26, c27, c28, hD⟩ := hD
            obtain ⟨x29, c30, hD⟩ := hD
            obtain ⟨a31, c32, hD⟩ := hD
            obtain ⟨x33, c34, hD⟩ := hD
            refine cw_draw (fun h => cellH h (a4.add 0) = some (Value.pointer x21) ∧ cellH h (a4.add 1) = some (Sl.v x23) ∧ cellH h (a25.add ((IntKind.i64.wrap ((x19.len : Int) - 1)).toNat * 1)) = some (Value.pointer x29) ∧ cellH h (a31.add 0) = some (Value.int .i64 x33) ∧ True) 17 wide ?_
            have hS : cellH hz17 (a4.add 0) = some (Value.pointer x21) ∧ cellH hz17 (a4.add 1) = some (Sl.v x23) ∧ cellH hz17 (a25.add ((IntKind.i64.wrap ((x19.len : Int) - 1)).toNat * 1)) = some (Value.pointer x29) ∧ cellH hz17 (a31.add 0) = some (Value.int .i64 x33) ∧ True := ⟨c22, c24, c30, c34, trivial⟩
            refine wh_q 0 rfl (by kernel_rfl) rfl rfl rfl (q_move rfl rfl) (by exact hS) ?_
            refine wh_q 1 rfl (by kernel_rfl) rfl rfl rfl (q_nil rfl rfl c5) (by exact hS) ?_
            refine wh_q 2 rfl (by kernel_rfl) rfl rfl rfl (q_fieldAddr rfl rfl fo_49_0) (by exact hS) ?_
            refine wh_q 3 rfl (by kernel_rfl) rfl rfl rfl (q_load rfl rfl Go.Proofs.Tryz.underlying25 rfl (by exact fun _ s => s.1)) (by exact hS) ?_
            refine wh_q 4 rfl (by kernel_rfl) rfl rfl rfl (q_move rfl rfl) (by exact hS) ?_
            refine wh_q 5 rfl (by kernel_rfl) rfl rfl rfl (q_nil rfl rfl c5) (by exact hS) ?_
            refine wh_q 6 rfl (by kernel_rfl) rfl rfl rfl (q_fieldAddr rfl rfl fo_49_1) (by exact hS) ?_
            refine wh_q 7 rfl (by kernel_rfl) rfl rfl rfl (q_load rfl rfl Go.Proofs.Tryz.underlying46 rfl (by exact fun _ s => s.2.1)) (by exact hS) ?_
            refine wh_q 8 rfl (by kernel_rfl) rfl rfl rfl (q_move rfl rfl) (by exact hS) ?_
            refine wh_q 9 rfl (by kernel_rfl) rfl rfl rfl (q_indexAddr rfl rfl rfl Go.Proofs.Tryz.underlying46 sz_47 c26 c27 c28) (by exact hS) ?_
            refine wh_q 10 rfl (by kernel_rfl) rfl rfl rfl (q_load rfl rfl Go.Proofs.Tryz.underlying47 rfl (by exact fun _ s => s.2.2.1)) (by exact hS) ?_
            refine wh_q 11 rfl (by kernel_rfl) rfl rfl rfl (q_nil rfl rfl c32) (by exact hS) ?_
            refine wh_q 12 rfl (by kernel_rfl) rfl rfl rfl (q_fieldAddr rfl rfl fo_63_0) (by exact hS) ?_
            refine wh_q 13 rfl (by kernel_rfl) rfl rfl rfl (q_load rfl rfl Go.Proofs.Tryz.underlying3 rfl (by exact fun _ s => s.2.2.2.1)) (by exact hS) ?_
            refine wh_e 14 rfl (by kernel_rfl) rfl rfl rfl (e_call (first := []) (vs := [Value.int .i64 x33]) (cap := []) rfl rfl rfl cf_25 (CallsH.mono hD ?_))
            rintro _ hz35 ⟨r36, rfl, hD⟩
            obtain ⟨hk0, hk1, hk2, hk3, hD⟩ := hD
            refine ⟨⟨hk0, hk1, hk2, hk3, trivial⟩, ?_⟩
            have hS : cellH hz35 (a4.add 0) = some (Value.pointer x21) ∧ cellH hz35 (a4.add 1) = some (Sl.v x23) ∧ cellH hz35 (a25.add ((IntKind.i64.wrap ((x19.len : Int) - 1)).toNat * 1)) = some (Value.pointer x29) ∧ cellH hz35 (a31.add 0) = some (Value.int .i64 x33) ∧ True := ⟨hk0, hk1, hk2, hk3, trivial⟩
            refine wh_e 15 rfl (by kernel_rfl) rfl rfl rfl (e_call (first := []) (vs := [Value.pointer x21, Value.string r36]) (cap := []) rfl rfl rfl cf_29 (CallsH.mono hD ?_))
            rintro _ hz37 ⟨r38, rfl, hD⟩
            obtain ⟨hk0, hk1, hk2, hk3, hD⟩ := hD
            refine ⟨⟨hk0, hk1, hk2, hk3, trivial⟩, ?_⟩
            have hS : cellH hz37 (a4.add 0) = some (Value.pointer x21) ∧ cellH hz37 (a4.add 1) = some (Sl.v x23) ∧ cellH hz37 (a25.add ((IntKind.i64.wrap ((x19.len : Int) - 1)).toNat * 1)) = some (Value.pointer x29) ∧ cellH hz37 (a31.add 0) = some (Value.int .i64 x33) ∧ True := ⟨hk0, hk1, hk2, hk3, trivial⟩
            refine wh_q 16 rfl (by kernel_rfl) rfl rfl rfl (q_assign rfl rfl) (by exact hS) ?_
            refine wh_keep (l' := [(0, Value.pointer d_0), (1, Value.int .i64 t_1), (5, Value.int .i64 (IntKind.i64.wrap ((x19.len : Int) - 1))), (6, Value.int .i64 r38)]) (keep_cons rfl (keep_cons rfl (keep_cons rfl (keep_cons rfl keep_nil)))) (wh_done (by kernel_rfl) ?_)
            refine cw_seq ?_
            refine cw_region ?_
            refine wl_q rfl rfl rfl (q_move rfl rfl) ?_
            refine wl_q rfl rfl rfl (q_bin rfl rfl rfl (fun _ _ => rfl)) ?_
            refine wl_keep (l' := [(0, Value.pointer d_0), (1, Value.int .i64 t_1), (5, Value.int .i64 (IntKind.i64.wrap ((x19.len : Int) - 1))), (6, Value.int .i64 r38), (78, Value.bool (r38 != (0 : Int)))]) (keep_cons rfl (keep_cons rfl (keep_cons rfl (keep_cons rfl (keep_cons rfl keep_nil))))) (wl_nil ?_)
            refine cw_cond rfl (fun hb39 => ?_) (fun hb39 => ?_)
            · have hD := ifT hb39 hD
              refine cw_seq ?_
              refine cw_region ?_
              refine wl_q rfl rfl rfl (q_move rfl rfl) ?_
              refine wl_q rfl rfl rfl (q_assign rfl rfl) ?_
              refine wl_keep (l' := [(4, Value.int .i64 r38)]) (keep_cons rfl keep_nil) (wl_nil ?_)
              refine cw_ret ?_
              exact ⟨_, resq1 rfl rfl, _, rfl, hD⟩
            · have hD := ifF hb39 hD
              refine cw_skip ?_
              refine cw_region ?_
              refine wl_q rfl rfl rfl (q_move rfl rfl) ?_
              refine wl_q rfl rfl rfl (q_move rfl rfl) ?_
              refine wl_q rfl rfl rfl (q_nil rfl rfl c5) ?_
              refine wl_q rfl rfl rfl (q_fieldAddr rfl rfl fo_49_1) ?_
              obtain ⟨x40, c41, hD⟩ := hD
              refine wl_q rfl rfl rfl (q_load rfl rfl Go.Proofs.Tryz.underlying46 rfl (At.cell c41)) ?_
              refine wl_q rfl rfl rfl (q_move rfl rfl) ?_
              obtain ⟨n42, c43, c44, c45, hD⟩ := hD
              refine wl_q rfl rfl rfl (q_slice (i := 0) (j := n42) rfl rfl Go.Proofs.Tryz.underlying46 sz_47 rfl ⟨_, _, rfl, c43⟩ c44 c45) ?_
              refine wl_q rfl rfl rfl (q_nil rfl rfl c5) ?_
              refine wl_q rfl rfl rfl (q_fieldAddr rfl rfl fo_49_1) ?_
              obtain ⟨u47, c48, c49, hD⟩ := hD
              refine wl_e0 rfl rfl (e_store rfl rfl rfl sz_46 trivial c48 c49 ?_)
              intro hz46 e50
              have hD := hD hz46 e50
              refine wl_keep (l' := [(0, Value.pointer d_0), (1, Value.int .i64 t_1)]) (keep_cons rfl (keep_cons rfl keep_nil)) (wl_nil ?_)
              rw [hC15] at hD
              exact ⟨(), (keep_cons rfl (keep_cons rfl keep_nil)), hD⟩
          · have hD := ifF hb18 hD
            refine cw_exit ?_
            refine xput_same ?_
            refine cw_cut (fun l h => Keep l [(0, Value.pointer d_0), (1, Value.int .i64 t_1)] ∧ D_wal_Log_CutAfter_j1 d_0 t_1 K h) ?_ ?_
            · refine cw_seq ?_
              refine cw_region ?_
              refine wl_q rfl rfl rfl (q_move rfl rfl) ?_
              refine wl_e rfl rfl rfl (e_call (first := []) (vs := [Value.pointer d_0]) (cap := []) rfl rfl rfl cf_21 (CallsH.mono hD ?_))
              rintro _ hz54 ⟨r55, rfl, hD⟩
              refine wl_q rfl rfl rfl (q_move rfl rfl) ?_
              refine wl_q rfl rfl rfl (q_bin rfl rfl rfl (fun _ _ => rfl)) ?_
              refine wl_keep (l' := [(0, Value.pointer d_0), (1, Value.int .i64 t_1), (92, Value.bool (decide (r55 > t_1)))]) (keep_cons rfl (keep_cons rfl (keep_cons rfl keep_nil))) (wl_nil ?_)
              refine cw_cond rfl (fun hb56 => ?_) (fun hb56 => ?_)
              · have hD := ifT hb56 hD
                refine cw_seq ?_
                obtain ⟨x57, c58, hD⟩ := hD
                obtain ⟨x59, c60, hD⟩ := hD
                obtain ⟨a61, c62, c63, c64, hD⟩ := hD
                obtain ⟨x65, c66, hD⟩ := hD
                refine cw_draw (fun h => cellH h (a4.add 1) = some (Sl.v x57) ∧ cellH h (a4.add 1) = some (Sl.v x59) ∧ cellH h (a61.add ((IntKind.i64.wrap ((x59.len : Int) - 1)).toNat * 1)) = some (Value.pointer x65) ∧ True) 16 wide ?_
                have hS : cellH hz54 (a4.add 1) = some (Sl.v x57) ∧ cellH hz54 (a4.add 1) = some (Sl.v x59) ∧ cellH hz54 (a61.add ((IntKind.i64.wrap ((x59.len : Int) - 1)).toNat * 1)) = some (Value.pointer x65) ∧ True := ⟨c58, c60, c66, trivial⟩
                refine wh_q 0 rfl (by kernel_rfl) rfl rfl rfl (q_move rfl rfl) (by exact hS) ?_
                refine wh_q 1 rfl (by kernel_rfl) rfl rfl rfl (q_move rfl rfl) (by exact hS) ?_
                refine wh_q 2 rfl (by kernel_rfl) rfl rfl rfl (q_nil rfl rfl c5) (by exact hS) ?_
                refine wh_q 3 rfl (by kernel_rfl) rfl rfl rfl (q_fieldAddr rfl rfl fo_49_1) (by exact hS) ?_
                refine wh_q 4 rfl (by kernel_rfl) rfl rfl rfl (q_load rfl rfl Go.Proofs.Tryz.underlying46 rfl (by exact fun _ s => s.1)) (by exact hS) ?_
                refine wh_q 5 rfl (by kernel_rfl) rfl rfl rfl (q_move rfl rfl) (by exact hS) ?_
                refine wh_q 6 rfl (by kernel_rfl) rfl rfl rfl (q_nil rfl rfl c5) (by exact hS) ?_
                refine wh_q 7 rfl (by kernel_rfl) rfl rfl rfl (q_fieldAddr rfl rfl fo_49_1) (by exact hS) ?_
                refine wh_q 8 rfl (by kernel_rfl) rfl rfl rfl (q_load rfl rfl Go.Proofs.Tryz.underlying46 rfl (by exact fun _ s => s.2.1)) (by exact hS) ?_
                refine wh_q 9 rfl (by kernel_rfl) rfl rfl rfl (q_len_slice rfl rfl Go.Proofs.Tryz.underlying46 rfl) (by exact hS) ?_
                refine wh_q 10 rfl (by kernel_rfl) rfl rfl rfl (q_bin rfl rfl rfl (fun _ _ => rfl)) (by exact hS) ?_
                refine wh_q 11 rfl (by kernel_rfl) rfl rfl rfl (q_indexAddr rfl rfl rfl Go.Proofs.Tryz.underlying46 sz_47 c62 c63 c64) (by exact hS) ?_
                refine wh_q 12 rfl (by kernel_rfl) rfl rfl rfl (q_load rfl rfl Go.Proofs.Tryz.underlying47 rfl (by exact fun _ s => s.2.2.1)) (by exact hS) ?_
                refine wh_q 13 rfl (by kernel_rfl) rfl rfl rfl (q_move rfl rfl) (by exact hS) ?_
                refine wh_e 14 rfl (by kernel_rfl) rfl rfl rfl (e_call (first := []) (vs := [Value.pointer d_0, Value.pointer x65, Value.int .i64 t_1]) (cap := []) rfl rfl rfl cf_30 (CallsH.mono hD ?_))
                rintro _ hz67 ⟨r68, rfl, hD⟩
                obtain ⟨hk0, hk1, hk2, hD⟩ := hD
                refine ⟨⟨hk0, hk1, hk2, trivial⟩, ?_⟩
                have hS : cellH hz67 (a4.add 1) = some (Sl.v x57) ∧ cellH hz67 (a4.add 1) = some (Sl.v x59) ∧ cellH hz67 (a61.add ((IntKind.i64.wrap ((x59.len : Int) - 1)).toNat * 1)) = some (Value.pointer x65) ∧ True := ⟨hk0, hk1, hk2, trivial⟩
                refine wh_q 15 rfl (by kernel_rfl) rfl rfl rfl (q_assign rfl rfl) (by exact hS) ?_
                refine wh_keep (l' := [(0, Value.pointer d_0), (1, Value.int .i64 t_1), (7, Value.int .i64 r68)]) (keep_cons rfl (keep_cons rfl (keep_cons rfl keep_nil))) (wh_done (by kernel_rfl) ?_)
                refine cw_seq ?_
                refine cw_region ?_
                refine wl_q rfl rfl rfl (q_move rfl rfl) ?_
                refine wl_q rfl rfl rfl (q_bin rfl rfl rfl (fun _ _ => rfl)) ?_
                refine wl_keep (l' := [(0, Value.pointer d_0), (1, Value.int .i64 t_1), (7, Value.int .i64 r68), (109, Value.bool (r68 != (0 : Int)))]) (keep_cons rfl (keep_cons rfl (keep_cons rfl (keep_cons rfl keep_nil)))) (wl_nil ?_)
                refine cw_cond rfl (fun hb69 => ?_) (fun hb69 => ?_)
                · have hD := ifT hb69 hD
                  refine cw_seq ?_
                  refine cw_region ?_
                  refine wl_q rfl rfl rfl (q_move rfl rfl) ?_
                  refine wl_q rfl rfl rfl (q_assign rfl rfl) ?_
                  refine wl_keep (l' := [(4, Value.int .i64 r68)]) (keep_cons rfl keep_nil) (wl_nil ?_)
                  refine cw_ret ?_
                  exact ⟨_, resq1 rfl rfl, _, rfl, hD⟩
                · have hD := ifF hb69 hD
                  refine cw_skip ?_
                  exact ⟨(keep_cons rfl (keep_cons rfl keep_nil)), hD⟩
              · have hD := ifF hb56 hD
                refine cw_skip ?_
                exact ⟨(keep_cons rfl (keep_cons rfl keep_nil)), hD⟩
            · rintro l71 hz51 ⟨hk70, hD⟩
              refine cw_keep hk70 ?_
              unfold D_wal_Log_CutAfter_j1 at hD
              refine cw_seq ?_
              refine cw_region ?_
              refine wl_q rfl rfl rfl (q_move rfl rfl) ?_
              refine wl_q rfl rfl rfl (q_move rfl rfl) ?_
              refine wl_e rfl rfl rfl (e_call (first := []) (vs := [Value.pointer d_0, Value.int .i64 t_1]) (cap := []) rfl rfl rfl cf_31 (CallsH.mono hD ?_))
              rintro _ hz52 ⟨r53, rfl, hD⟩
              refine wl_q rfl rfl rfl (q_assign rfl rfl) ?_
              refine wl_keep (l' := [(4, Value.int .i64 r53)]) (keep_cons rfl keep_nil) (wl_nil ?_)
              refine cw_ret ?_
              exact ⟨_, resq1 rfl rfl, _, rfl, hD⟩
end Go.Proofs.YtgdmjdacmebfjaaGreatDoor.D

namespace Go.Proofs.YtgdmjdacmebfjaaGreatDoor.D
open Go
set_option maxRecDepth 100000
theorem S_wal_Log_Last {l_0 : Option Addr} {h0 : Hp} {K : Int → Hp → Prop} (hD : D_wal_Log_Last l_0 h0 K) : C_wal_Log_Last l_0 h0 K := by
  unfold D_wal_Log_Last at hD
  refine calls_cw (args := [Value.pointer l_0]) Go.Proofs.Tryz.func10 rfl ?_
  show cw _ 7 _ [(0, Value.pointer l_0)] _ _ _ _
  refine cw_seq ?_
  refine cw_region ?_
  refine wl_q rfl rfl rfl (q_assign rfl rfl) ?_
  refine wl_keep (l' := [(0, Value.pointer l_0)]) (keep_cons rfl keep_nil) (wl_nil ?_)
  refine cw_seq ?_
  refine cw_region ?_
  refine wl_q rfl rfl rfl (q_move rfl rfl) ?_
  obtain ⟨a1, c2, hD⟩ := hD
  refine wl_q rfl rfl rfl (q_nil rfl rfl c2) ?_
  refine wl_q rfl rfl rfl (q_fieldAddr rfl rfl fo_49_4) ?_
  obtain ⟨x3, c4, hD⟩ := hD
  refine wl_q rfl rfl rfl (q_load rfl rfl Go.Proofs.Tryz.underlying3 rfl (At.cell c4)) ?_
  refine wl_q rfl rfl rfl (q_assign rfl rfl) ?_
  refine wl_keep (l' := [(2, Value.int .i64 x3)]) (keep_cons rfl keep_nil) (wl_nil ?_)
  refine cw_ret ?_
  exact ⟨_, resq1 rfl rfl, _, rfl, hD⟩
end Go.Proofs.YtgdmjdacmebfjaaGreatDoor.D

namespace Go.Proofs.YtgdmjdacmebfjaaGreatDoor.D
open Go
set_option maxRecDepth 100000
theorem S_disk_Disk_Crash {d_0 : Option Addr} {t_1 : Sl} {h0 : Hp} {K : Hp → Prop} (hD : D_disk_Disk_Crash d_0 t_1 h0 K) : C_disk_Disk_Crash d_0 t_1 h0 K := by
  unfold D_disk_Disk_Crash at hD
  refine calls_cw (args := [Value.pointer d_0, Sl.v t_1]) Go.Proofs.Tryz.func11 rfl ?_
  show cw _ 90 _ [(0, Value.pointer d_0), (1, Sl.v t_1)] _ _ _ _
  refine cw_seq ?_
  refine cw_region ?_
  refine wl_e rfl rfl rfl (e_box rfl rfl ?_)
  intro hz1 e2
  have hD := hD hz1 e2
  refine wl_keep (l' := [(0, Value.pointer d_0), (3, Value.pointer (some (blk h0.size)))]) (keep_cons rfl (keep_cons rfl keep_nil)) (wl_nil ?_)
  refine cw_seq ?_
  refine cw_region ?_
  refine wl_q rfl rfl rfl (q_makeFunc (xs := []) (ys := [.tmp 3]) rfl rfl rfl) ?_
  refine wl_q rfl rfl rfl (q_assign rfl rfl) ?_
  refine wl_keep (l' := [(0, Value.pointer d_0), (4, Value.func (.func F_disk_Disk_Crash_1) #[] #[Value.pointer (some (blk h0.size))])]) (keep_cons rfl (keep_cons rfl keep_nil)) (wl_nil ?_)
  refine cw_seq ?_
  refine cw_region ?_
  refine wl_q rfl rfl rfl (q_move rfl rfl) ?_
  obtain ⟨a3, c4, hD⟩ := hD
  refine wl_q rfl rfl rfl (q_nil rfl rfl c4) ?_
  refine wl_q rfl rfl rfl (q_fieldAddr rfl rfl fo_45_2) ?_
  obtain ⟨x5, c6, hD⟩ := hD
  refine wl_q rfl rfl rfl (q_load rfl rfl Go.Proofs.Tryz.underlying42 rfl (At.cell c6)) ?_
  refine wl_q rfl rfl rfl (q_assign rfl rfl) ?_
  refine wl_keep (l' := [(0, Value.pointer d_0), (4, Value.func (.func F_disk_Disk_Crash_1) #[] #[Value.pointer (some (blk h0.size))]), (5, Value.map x5)]) (keep_cons rfl (keep_cons rfl (keep_cons rfl keep_nil))) (wl_nil ?_)
  refine cw_seq ?_
  refine cw_seq ?_
  obtain ⟨x7, c8, hD⟩ := hD
  obtain ⟨x9, c10, hD⟩ := hD
  refine cw_draw (fun h => cellH h (a3.add 3) = some (Sl.v x7) ∧ cellH h (a3.add 3) = some (Sl.v x9) ∧ True) 14 wide ?_
  have hS : cellH hz1 (a3.add 3) = some (Sl.v x7) ∧ cellH hz1 (a3.add 3) = some (Sl.v x9) ∧ True := ⟨c8, c10, trivial⟩
  refine wh_q 0 rfl (by kernel_rfl) rfl rfl rfl (q_move rfl rfl) (by exact hS) ?_
  refine wh_q 1 rfl (by kernel_rfl) rfl rfl rfl (q_nil rfl rfl c4) (by exact hS) ?_
  refine wh_q 2 rfl (by kernel_rfl) rfl rfl rfl (q_fieldAddr rfl rfl fo_45_3) (by exact hS) ?_
  refine wh_q 3 rfl (by kernel_rfl) rfl rfl rfl (q_load rfl rfl Go.Proofs.Tryz.underlying43 rfl (by exact fun _ s => s.1)) (by exact hS) ?_
  refine wh_q 4 rfl (by kernel_rfl) rfl rfl rfl (q_move rfl rfl) (by exact hS) ?_
  refine wh_q 5 rfl (by kernel_rfl) rfl rfl rfl (q_move rfl rfl) (by exact hS) ?_
  refine wh_q 6 rfl (by kernel_rfl) rfl rfl rfl (q_nil rfl rfl c4) (by exact hS) ?_
  refine wh_q 7 rfl (by kernel_rfl) rfl rfl rfl (q_fieldAddr rfl rfl fo_45_3) (by exact hS) ?_
  refine wh_q 8 rfl (by kernel_rfl) rfl rfl rfl (q_load rfl rfl Go.Proofs.Tryz.underlying43 rfl (by exact fun _ s => s.2.1)) (by exact hS) ?_
  refine wh_q 9 rfl (by kernel_rfl) rfl rfl rfl (q_len_slice rfl rfl Go.Proofs.Tryz.underlying43 rfl) (by exact hS) ?_
  refine wh_q 13 rfl (by kernel_rfl) rfl rfl rfl (q_move rfl rfl) (by exact hS) ?_
  refine wh_e 10 rfl (by kernel_rfl) rfl rfl rfl (e_call (first := []) (vs := [Value.int .i64 (x9.len : Int)]) (cap := [Value.pointer (some (blk h0.size))]) rfl rfl rfl cf_32 (CallsH.mono hD ?_))
  rintro _ hz11 ⟨r12, rfl, hD⟩
  obtain ⟨hk0, hk1, hD⟩ := hD
  refine ⟨⟨hk0, hk1, trivial⟩, ?_⟩
  have hS : cellH hz11 (a3.add 3) = some (Sl.v x7) ∧ cellH hz11 (a3.add 3) = some (Sl.v x9) ∧ True := ⟨hk0, hk1, trivial⟩
  obtain ⟨n13, c14, c15, c16, hD⟩ := hD
  refine wh_q 11 rfl (by kernel_rfl) rfl rfl rfl (q_slice (i := 0) (j := n13) rfl rfl Go.Proofs.Tryz.underlying43 sz_69 rfl ⟨_, _, rfl, c14⟩ c15 c16) (by exact hS) ?_
  refine wh_q 12 rfl (by kernel_rfl) rfl rfl rfl (q_len_slice rfl rfl Go.Proofs.Tryz.underlying43 rfl) (by exact hS) ?_
  refine wh_keep (l' := [(0, Value.pointer d_0), (4, Value.func (.func F_disk_Disk_Crash_1) #[] #[Value.pointer (some (blk h0.size))]), (5, Value.map x5), (27, Sl.v (slCut x7 0 n13 1)), (28, Value.int .i64 ((slCut x7 0 n13 1).len : Int)), (29, Value.int .i64 0)]) (keep_cons rfl (keep_cons rfl (keep_cons rfl (keep_cons rfl (keep_cons rfl (keep_cons rfl keep_nil)))))) (wh_done (by kernel_rfl) ?_)
  refine cw_block ?_
  obtain ⟨I, μ, hI89, hL90⟩ := hD
  refine cw_loops (σ := Int) (fun s => [(0, Value.pointer d_0), (4, Value.func (.func F_disk_Disk_Crash_1) #[] #[Value.pointer (some (blk h0.size))]), (5, Value.map x5), (27, Sl.v (slCut x7 0 n13 1)), (28, Value.int .i64 ((slCut x7 0 n13 1).len : Int)), (29, Value.int .i64 s)]) (0) (fun s h => I s h) (fun s h => μ s h) (keep_cons rfl (keep_cons rfl (keep_cons rfl (keep_cons rfl (keep_cons rfl (keep_cons rfl keep_nil)))))) hI89 ?_
  rintro x17 hz18 hI
  have hD := hL90 x17 hz18 hI
  obtain ⟨C19, hC19⟩ : ∃ c : Int → Hp → Prop, c = (fun x17' h' => I x17' h' ∧ μ x17' h' < μ x17 hz18) := ⟨_, rfl⟩
  rw [← hC19] at hD
  unfold D_disk_Disk_Crash_l2 at hD
  show cw _ _ _ [(0, Value.pointer d_0), (4, Value.func (.func F_disk_Disk_Crash_1) #[] #[Value.pointer (some (blk h0.size))]), (5, Value.map x5), (27, Sl.v (slCut x7 0 n13 1)), (28, Value.int .i64 ((slCut x7 0 n13 1).len : Int)), (29, Value.int .i64 x17)] _ _ _ _
  refine cw_seq ?_
  refine cw_region ?_
  refine wl_q rfl rfl rfl (q_bin rfl rfl rfl (fun _ _ => rfl)) ?_
  refine wl_keep (l' := [(0, Value.pointer d_0), (4, Value.func (.func F_disk_Disk_Crash_1) #[] #[Value.pointer (some (blk h0.size))]), (5, Value.map x5), (27, Sl.v (slCut x7 0 n13 1)), (28, Value.int .i64 ((slCut x7 0 n13 1).len : Int)), (29, Value.int .i64 x17), (30, Value.bool (decide (x17 < ((slCut x7 0 n13 1).len : Int))))]) (keep_cons rfl (keep_cons rfl (keep_cons rfl (keep_cons rfl (keep_cons rfl (keep_cons rfl (keep_cons rfl keep_nil))))))) (wl_nil ?_)
  refine cw_seq ?_
  refine cw_cond rfl (fun hb20 => ?_) (fun hb20 => ?_)
  · have hD := ifT hb20 hD
    refine cw_skip ?_
    refine cw_seq ?_
    refine cw_block ?_
    refine cw_seq ?_
    refine cw_region ?_
    obtain ⟨a21, c22, c23, c24, hD⟩ := hD
    refine wl_q rfl rfl rfl (q_indexAddr rfl rfl rfl Go.Proofs.Tryz.underlying43 sz_69 c22 c23 c24) ?_
    obtain ⟨x25, c26, hD⟩ := hD
    refine wl_q rfl rfl rfl (q_load rfl rfl Go.Proofs.Tryz.underlying69 rfl (At.cell c26)) ?_
    refine wl_q rfl rfl rfl (q_assign rfl rfl) ?_
    refine wl_keep (l' := [(0, Value.pointer d_0), (4, Value.func (.func F_disk_Disk_Crash_1) #[] #[Value.pointer (some (blk h0.size))]), (5, Value.map x5), (7, x25), (27, Sl.v (slCut x7 0 n13 1)), (28, Value.int .i64 ((slCut x7 0 n13 1).len : Int)), (29, Value.int .i64 x17)]) (keep_cons rfl (keep_cons rfl (keep_cons rfl (keep_cons rfl (keep_cons rfl (keep_cons rfl (keep_cons rfl keep_nil))))))) (wl_nil ?_)
    refine cw_region ?_
    refine wl_q rfl rfl rfl (q_move rfl rfl) ?_
    refine wl_q rfl rfl rfl (q_move rfl rfl) ?_
    obtain ⟨g28, fi29, ca30, c31, c32, hD⟩ := hD
    refine wl_e rfl rfl rfl (e_call (first := fi29) (vs := [Value.map x5]) (cap := ca30) rfl (by rw [← c31]; rfl) rfl c32 (CallsH.mono hD ?_))
    rintro _ hz27 ⟨rfl, hD⟩
    refine wl_keep (l' := [(0, Value.pointer d_0), (4, Value.func (.func F_disk_Disk_Crash_1) #[] #[Value.pointer (some (blk h0.size))]), (5, Value.map x5), (27, Sl.v (slCut x7 0 n13 1)), (28, Value.int .i64 ((slCut x7 0 n13 1).len : Int)), (29, Value.int .i64 x17)]) (keep_cons rfl (keep_cons rfl (keep_cons rfl (keep_cons rfl (keep_cons rfl (keep_cons rfl keep_nil)))))) (wl_nil ?_)
    refine cw_region ?_
    refine wl_q rfl rfl rfl (q_bin rfl rfl rfl (fun _ _ => rfl)) ?_
    refine wl_q rfl rfl rfl (q_move rfl rfl) ?_
    refine wl_keep (l' := [(0, Value.pointer d_0), (4, Value.func (.func F_disk_Disk_Crash_1) #[] #[Value.pointer (some (blk h0.size))]), (5, Value.map x5), (27, Sl.v (slCut x7 0 n13 1)), (28, Value.int .i64 ((slCut x7 0 n13 1).len : Int)), (29, Value.int .i64 (IntKind.i64.wrap (x17 + 1)))]) (keep_cons rfl (keep_cons rfl (keep_cons rfl (keep_cons rfl (keep_cons rfl (keep_cons rfl keep_nil)))))) (wl_nil ?_)
    rw [hC19] at hD
    exact ⟨(IntKind.i64.wrap (x17 + 1)), (keep_cons rfl (keep_cons rfl (keep_cons rfl (keep_cons rfl (keep_cons rfl (keep_cons rfl keep_nil)))))), hD⟩
  · have hD := ifF hb20 hD
    refine cw_exit ?_
    refine xput_same ?_
    refine cw_seq ?_
    refine cw_seq ?_
    refine cw_region ?_
    refine wl_q rfl rfl rfl (q_move rfl rfl) ?_
    refine wl_e rfl rfl rfl (e_call (first := []) (vs := [Value.map x5]) (cap := []) rfl rfl rfl cf_34 (CallsH.mono hD ?_))
    rintro r34 hz33 ⟨_, rfl, hD⟩
    refine wl_e rfl rfl rfl (e_call (first := []) (vs := [r34]) (cap := []) rfl rfl rfl cf_33 (CallsH.mono hD ?_))
    rintro _ hz35 ⟨r36, rfl, hD⟩
    refine wl_q rfl rfl rfl (q_len_slice rfl rfl Go.Proofs.Tryz.underlying50 rfl) ?_
    refine wl_q rfl rfl rfl (q_move rfl rfl) ?_
    refine wl_keep (l' := [(0, Value.pointer d_0), (4, Value.func (.func F_disk_Disk_Crash_1) #[] #[Value.pointer (some (blk h0.size))]), (5, Value.map x5), (39, Sl.v r36), (40, Value.int .i64 (r36.len : Int)), (41, Value.int .i64 0)]) (keep_cons rfl (keep_cons rfl (keep_cons rfl (keep_cons rfl (keep_cons rfl (keep_cons rfl keep_nil)))))) (wl_nil ?_)
    refine cw_block ?_
    obtain ⟨I, μ, hI87, hL88⟩ := hD
    refine cw_loops (σ := Int) (fun s => [(0, Value.pointer d_0), (4, Value.func (.func F_disk_Disk_Crash_1) #[] #[Value.pointer (some (blk h0.size))]), (5, Value.map x5), (39, Sl.v r36), (40, Value.int .i64 (r36.len : Int)), (41, Value.int .i64 s)]) (0) (fun s h => I s h) (fun s h => μ s h) (keep_cons rfl (keep_cons rfl (keep_cons rfl (keep_cons rfl (keep_cons rfl (keep_cons rfl keep_nil)))))) hI87 ?_
    rintro x37 hz38 hI
    have hD := hL88 x37 hz38 hI
    obtain ⟨C39, hC39⟩ : ∃ c : Int → Hp → Prop, c = (fun x37' h' => I x37' h' ∧ μ x37' h' < μ x37 hz38) := ⟨_, rfl⟩
    rw [← hC39] at hD
    unfold D_disk_Disk_Crash_l1 at hD
    show cw _ _ _ [(0, Value.pointer d_0), (4, Value.func (.func F_disk_Disk_Crash_1) #[] #[Value.pointer (some (blk h0.size))]), (5, Value.map x5), (39, Sl.v r36), (40, Value.int .i64 (r36.len : Int)), (41, Value.int .i64 x37)] _ _ _ _
    refine cw_seq ?_
    refine cw_region ?_
    refine wl_q rfl rfl rfl (q_bin rfl rfl rfl (fun _ _ => rfl)) ?_
    refine wl_keep (l' := [(0, Value.pointer d_0), (4, Value.func (.func F_disk_Disk_Crash_1) #[] #[Value.pointer (some (blk h0.size))]), (5, Value.map x5), (39, Sl.v r36), (40, Value.int .i64 (r36.len : Int)), (41, Value.int .i64 x37), (42, Value.bool (decide (x37 < (r36.len : Int))))]) (keep_cons rfl (keep_cons rfl (keep_cons rfl (keep_cons rfl (keep_cons rfl (keep_cons rfl (keep_cons rfl keep_nil))))))) (wl_nil ?_)
    refine cw_seq ?_
    refine cw_cond rfl (fun hb40 => ?_) (fun hb40 => ?_)
    · have hD := ifT hb40 hD
      refine cw_skip ?_
      refine cw_seq ?_
      refine cw_block ?_
      refine cw_seq ?_
      refine cw_region ?_
      obtain ⟨a41, c42, c43, c44, hD⟩ := hD
      refine wl_q rfl rfl rfl (q_indexAddr rfl rfl rfl Go.Proofs.Tryz.underlying50 sz_9 c42 c43 c44) ?_
      obtain ⟨x45, c46, hD⟩ := hD
      refine wl_q rfl rfl rfl (q_load rfl rfl Go.Proofs.Tryz.underlying9 rfl (At.cell c46)) ?_
      refine wl_q rfl rfl rfl (q_assign rfl rfl) ?_
      refine wl_keep (l' := [(0, Value.pointer d_0), (4, Value.func (.func F_disk_Disk_Crash_1) #[] #[Value.pointer (some (blk h0.size))]), (5, Value.map x5), (9, Value.string x45), (39, Sl.v r36), (40, Value.int .i64 (r36.len : Int)), (41, Value.int .i64 x37)]) (keep_cons rfl (keep_cons rfl (keep_cons rfl (keep_cons rfl (keep_cons rfl (keep_cons rfl (keep_cons rfl keep_nil))))))) (wl_nil ?_)
      refine cw_seq ?_
      refine cw_region ?_
      refine wl_q rfl rfl rfl (q_move rfl rfl) ?_
      refine wl_q rfl rfl rfl (q_move rfl rfl) ?_
      obtain ⟨es47, c48, c49, v50, c51, hD⟩ := hD
      refine wl_q rfl rfl rfl (q_lookup1 rfl rfl rfl Go.Proofs.Tryz.underlying42 Go.Proofs.Tryz.underlying9 zr_74 c49 (At.mapEs c48) c51) ?_
      refine wl_q rfl rfl rfl (q_assign rfl rfl) ?_
      refine wl_keep (l' := [(0, Value.pointer d_0), (4, Value.func (.func F_disk_Disk_Crash_1) #[] #[Value.pointer (some (blk h0.size))]), (5, Value.map x5), (10, Value.pointer v50), (39, Sl.v r36), (40, Value.int .i64 (r36.len : Int)), (41, Value.int .i64 x37)]) (keep_cons rfl (keep_cons rfl (keep_cons rfl (keep_cons rfl (keep_cons rfl (keep_cons rfl (keep_cons rfl keep_nil))))))) (wl_nil ?_)
      refine cw_seq ?_
      obtain ⟨a52, c53, hD⟩ := hD
      obtain ⟨x54, c55, hD⟩ := hD
      obtain ⟨x56, c57, hD⟩ := hD
      obtain ⟨x58, c59, hD⟩ := hD
      refine cw_draw (fun h => cellH h (a52.add 1) = some (Value.int .i64 x54) ∧ cellH h (a52.add 0) = some (Value.string x56) ∧ cellH h (a52.add 1) = some (Value.int .i64 x58) ∧ True) 19 wide ?_
      have hS : cellH hz38 (a52.add 1) = some (Value.int .i64 x54) ∧ cellH hz38 (a52.add 0) = some (Value.string x56) ∧ cellH hz38 (a52.add 1) = some (Value.int .i64 x58) ∧ True := ⟨c55, c57, c59, trivial⟩
      refine wh_q 0 rfl (by kernel_rfl) rfl rfl rfl (q_move rfl rfl) (by exact hS) ?_
      refine wh_q 1 rfl (by kernel_rfl) rfl rfl rfl (q_nil rfl rfl c53) (by exact hS) ?_
      refine wh_q 2 rfl (by kernel_rfl) rfl rfl rfl (q_fieldAddr rfl rfl fo_76_1) (by exact hS) ?_
      refine wh_q 3 rfl (by kernel_rfl) rfl rfl rfl (q_load rfl rfl Go.Proofs.Tryz.underlying3 rfl (by exact fun _ s => s.1)) (by exact hS) ?_
      refine wh_q 4 rfl (by kernel_rfl) rfl rfl rfl (q_move rfl rfl) (by exact hS) ?_
      refine wh_q 5 rfl (by kernel_rfl) rfl rfl rfl (q_move rfl rfl) (by exact hS) ?_
      refine wh_q 6 rfl (by kernel_rfl) rfl rfl rfl (q_nil rfl rfl c53) (by exact hS) ?_
      refine wh_q 7 rfl (by kernel_rfl) rfl rfl rfl (q_fieldAddr rfl rfl fo_76_0) (by exact hS) ?_
      refine wh_q 8 rfl (by kernel_rfl) rfl rfl rfl (q_load rfl rfl Go.Proofs.Tryz.underlying9 rfl (by exact fun _ s => s.2.1)) (by exact hS) ?_
      refine wh_q 9 rfl (by kernel_rfl) rfl rfl rfl (q_len_string rfl rfl Go.Proofs.Tryz.underlying9 rfl) (by exact hS) ?_
      refine wh_q 10 rfl (by kernel_rfl) rfl rfl rfl (q_move rfl rfl) (by exact hS) ?_
      refine wh_q 11 rfl (by kernel_rfl) rfl rfl rfl (q_nil rfl rfl c53) (by exact hS) ?_
      refine wh_q 12 rfl (by kernel_rfl) rfl rfl rfl (q_fieldAddr rfl rfl fo_76_1) (by exact hS) ?_
      refine wh_q 13 rfl (by kernel_rfl) rfl rfl rfl (q_load rfl rfl Go.Proofs.Tryz.underlying3 rfl (by exact fun _ s => s.2.2.1)) (by exact hS) ?_
      refine wh_q 14 rfl (by kernel_rfl) rfl rfl rfl (q_bin rfl rfl rfl (fun _ _ => rfl)) (by exact hS) ?_
      refine wh_e 15 rfl (by kernel_rfl) rfl rfl rfl (e_call (first := []) (vs := [Value.int .i64 (IntKind.i64.wrap ((x56.size : Int) - x58))]) (cap := [Value.pointer (some (blk h0.size))]) rfl rfl rfl cf_32 (CallsH.mono hD ?_))
      rintro _ hz60 ⟨r61, rfl, hD⟩
      obtain ⟨hk0, hk1, hk2, hD⟩ := hD
      refine ⟨⟨hk0, hk1, hk2, trivial⟩, ?_⟩
      have hS : cellH hz60 (a52.add 1) = some (Value.int .i64 x54) ∧ cellH hz60 (a52.add 0) = some (Value.string x56) ∧ cellH hz60 (a52.add 1) = some (Value.int .i64 x58) ∧ True := ⟨hk0, hk1, hk2, trivial⟩
      refine wh_q 16 rfl (by kernel_rfl) rfl rfl rfl (q_bin rfl rfl rfl (fun _ _ => rfl)) (by exact hS) ?_
      refine wh_q 17 rfl (by kernel_rfl) rfl rfl rfl (q_nil rfl rfl c53) (by exact hS) ?_
      refine wh_q 18 rfl (by kernel_rfl) rfl rfl rfl (q_fieldAddr rfl rfl fo_76_1) (by exact hS) ?_
      obtain ⟨u63, c64, c65, hD⟩ := hD
      refine wh_last 19 rfl (by kernel_rfl) rfl rfl rfl (e_store rfl rfl rfl sz_3 trivial c64 c65 ?_)
      intro hz62 e66
      have hD := hD hz62 e66
      refine wh_keep (l' := [(0, Value.pointer d_0), (4, Value.func (.func F_disk_Disk_Crash_1) #[] #[Value.pointer (some (blk h0.size))]), (5, Value.map x5), (10, Value.pointer v50), (39, Sl.v r36), (40, Value.int .i64 (r36.len : Int)), (41, Value.int .i64 x37)]) (keep_cons rfl (keep_cons rfl (keep_cons rfl (keep_cons rfl (keep_cons rfl (keep_cons rfl (keep_cons rfl keep_nil))))))) (wh_done (by kernel_rfl) ?_)
      obtain ⟨x67, c68, hD⟩ := hD
      obtain ⟨x69, c70, hD⟩ := hD
      obtain ⟨n71, c72, c73, c74, hD⟩ := hD
      refine cw_draw (fun h => cellH h (a52.add 0) = some (Value.string x67) ∧ cellH h (a52.add 1) = some (Value.int .i64 x69) ∧ True) 12 wide ?_
      have hS : cellH hz62 (a52.add 0) = some (Value.string x67) ∧ cellH hz62 (a52.add 1) = some (Value.int .i64 x69) ∧ True := ⟨c68, c70, trivial⟩
      refine wh_q 0 rfl (by kernel_rfl) rfl rfl rfl (q_move rfl rfl) (by exact hS) ?_
      refine wh_q 1 rfl (by kernel_rfl) rfl rfl rfl (q_move rfl rfl) (by exact hS) ?_
      refine wh_q 2 rfl (by kernel_rfl) rfl rfl rfl (q_nil rfl rfl c53) (by exact hS) ?_
      refine wh_q 3 rfl (by kernel_rfl) rfl rfl rfl (q_fieldAddr rfl rfl fo_76_0) (by exact hS) ?_
      refine wh_q 4 rfl (by kernel_rfl) rfl rfl rfl (q_load rfl rfl Go.Proofs.Tryz.underlying9 rfl (by exact fun _ s => s.1)) (by exact hS) ?_
      refine wh_q 5 rfl (by kernel_rfl) rfl rfl rfl (q_move rfl rfl) (by exact hS) ?_
      refine wh_q 6 rfl (by kernel_rfl) rfl rfl rfl (q_nil rfl rfl c53) (by exact hS) ?_
      refine wh_q 7 rfl (by kernel_rfl) rfl rfl rfl (q_fieldAddr rfl rfl fo_76_1) (by exact hS) ?_
      refine wh_q 8 rfl (by kernel_rfl) rfl rfl rfl (q_load rfl rfl Go.Proofs.Tryz.underlying3 rfl (by exact fun _ s => s.2.1)) (by exact hS) ?_
      refine wh_q 9 rfl (by kernel_rfl) rfl rfl rfl (q_slice_string rfl rfl Go.Proofs.Tryz.underlying9 rfl ⟨_, _, rfl, c72⟩ c73 c74) (by exact hS) ?_
      refine wh_q 10 rfl (by kernel_rfl) rfl rfl rfl (q_nil rfl rfl c53) (by exact hS) ?_
      refine wh_q 11 rfl (by kernel_rfl) rfl rfl rfl (q_fieldAddr rfl rfl fo_76_0) (by exact hS) ?_
      obtain ⟨u76, c77, c78, hD⟩ := hD
      refine wh_last 12 rfl (by kernel_rfl) rfl rfl rfl (e_store rfl rfl rfl sz_9 trivial c77 c78 ?_)
      intro hz75 e79
      have hD := hD hz75 e79
      refine wh_keep (l' := [(0, Value.pointer d_0), (4, Value.func (.func F_disk_Disk_Crash_1) #[] #[Value.pointer (some (blk h0.size))]), (5, Value.map x5), (39, Sl.v r36), (40, Value.int .i64 (r36.len : Int)), (41, Value.int .i64 x37)]) (keep_cons rfl (keep_cons rfl (keep_cons rfl (keep_cons rfl (keep_cons rfl (keep_cons rfl keep_nil)))))) (wh_done (by kernel_rfl) ?_)
      refine cw_region ?_
      refine wl_q rfl rfl rfl (q_bin rfl rfl rfl (fun _ _ => rfl)) ?_
      refine wl_q rfl rfl rfl (q_move rfl rfl) ?_
      refine wl_keep (l' := [(0, Value.pointer d_0), (4, Value.func (.func F_disk_Disk_Crash_1) #[] #[Value.pointer (some (blk h0.size))]), (5, Value.map x5), (39, Sl.v r36), (40, Value.int .i64 (r36.len : Int)), (41, Value.int .i64 (IntKind.i64.wrap (x37 + 1)))]) (keep_cons rfl (keep_cons rfl (keep_cons rfl (keep_cons rfl (keep_cons rfl (keep_cons rfl keep_nil)))))) (wl_nil ?_)
      rw [hC39] at hD
      exact ⟨(IntKind.i64.wrap (x37 + 1)), (keep_cons rfl (keep_cons rfl (keep_cons rfl (keep_cons rfl (keep_cons rfl (keep_cons rfl keep_nil)))))), hD⟩
    · have hD := ifF hb40 hD
      refine cw_exit ?_
      refine xput_same ?_
      obtain ⟨x80, c81, hD⟩ := hD
      refine cw_draw (fun h => cellH h (a3.add 0) = some (Value.int .i64 x80) ∧ True) 10 wide ?_
      have hS : cellH hz38 (a3.add 0) = some (Value.int .i64 x80) ∧ True := ⟨c81, trivial⟩
      refine wh_q 0 rfl (by kernel_rfl) rfl rfl rfl (q_move rfl rfl) (by exact hS) ?_
      refine wh_q 1 rfl (by kernel_rfl) rfl rfl rfl (q_move rfl rfl) (by exact hS) ?_
      refine wh_q 2 rfl (by kernel_rfl) rfl rfl rfl (q_nil rfl rfl c4) (by exact hS) ?_
      refine wh_q 3 rfl (by kernel_rfl) rfl rfl rfl (q_fieldAddr rfl rfl fo_45_0) (by exact hS) ?_
      refine wh_q 4 rfl (by kernel_rfl) rfl rfl rfl (q_load rfl rfl Go.Proofs.Tryz.underlying3 rfl (by exact fun _ s => s.1)) (by exact hS) ?_
      refine wh_q 5 rfl (by kernel_rfl) rfl rfl rfl (q_move rfl rfl) (by exact hS) ?_
      refine wh_q 6 rfl (by kernel_rfl) rfl rfl rfl (q_move rfl rfl) (by exact hS) ?_
      refine wh_e 7 rfl (by kernel_rfl) rfl rfl rfl (e_call (first := []) (vs := [Value.map x5]) (cap := []) rfl rfl rfl cf_35 (CallsH.mono hD ?_))
      rintro _ hz82 ⟨r83, rfl, hD⟩
      obtain ⟨hk0, hD⟩ := hD
      refine ⟨⟨hk0, trivial⟩, ?_⟩
      have hS : cellH hz82 (a3.add 0) = some (Value.int .i64 x80) ∧ True := ⟨hk0, trivial⟩
      refine wh_q 8 rfl (by kernel_rfl) rfl rfl rfl (q_build (v := Value.agg #[Value.int .i64 x80, Value.map x5, Value.map r83, Sl.v (Sl.mk none 0 0), Value.bool false, Value.int .i64 (-1)]) rfl rfl (fun _ _ => by kernel_rfl)) (by exact hS) ?_
      refine wh_q 9 rfl (by kernel_rfl) rfl rfl rfl (q_nil rfl rfl c4) (by exact hS) ?_
      obtain ⟨c85, hD⟩ := hD
      refine wh_last 10 rfl (by kernel_rfl) rfl rfl rfl (e_stores (vs := [Value.int .i64 x80, Value.map x5, Value.map r83, Sl.v (Sl.mk none 0 0), Value.bool false, Value.int .i64 (-1)]) rfl rfl rfl sz_45 c85 ?_)
      intro hz84 e86
      have hD := hD hz84 e86
      refine wh_keep (l' := []) keep_nil (wh_done (by kernel_rfl) ?_)
      exact ⟨_, resq0 rfl, rfl, hD⟩
end Go.Proofs.YtgdmjdacmebfjaaGreatDoor.D

namespace Go.Proofs.YtgdmjdacmebfjaaGreatDoor.D
open Go
set_option maxRecDepth 100000
theorem S_wal_Log_Read {d_0 : Option Addr} {t_1 : Int} {h0 : Hp} {K : ByteArray → Int → Hp → Prop} (hD : D_wal_Log_Read d_0 t_1 h0 K) : C_wal_Log_Read d_0 t_1 h0 K := by
  unfold D_wal_Log_Read at hD
  refine calls_cw (args := [Value.pointer d_0, Value.int .i64 t_1]) Go.Proofs.Tryz.func12 rfl ?_
  show cw _ 72 _ [(0, Value.pointer d_0), (1, Value.int .i64 t_1)] _ _ _ _
  refine cw_seq ?_
  refine cw_region ?_
  refine wl_q rfl rfl rfl (q_assign rfl rfl) ?_
  refine wl_q rfl rfl rfl (q_assign rfl rfl) ?_
  refine wl_keep (l' := [(0, Value.pointer d_0), (1, Value.int .i64 t_1)]) (keep_cons rfl (keep_cons rfl keep_nil)) (wl_nil ?_)
  refine cw_seq ?_
  refine cw_seq ?_
  refine cw_region ?_
  refine wl_q rfl rfl rfl (q_move rfl rfl) ?_
  obtain ⟨a1, c2, hD⟩ := hD
  refine wl_q rfl rfl rfl (q_nil rfl rfl c2) ?_
  refine wl_q rfl rfl rfl (q_fieldAddr rfl rfl fo_49_1) ?_
  obtain ⟨x3, c4, hD⟩ := hD
  refine wl_q rfl rfl rfl (q_load rfl rfl Go.Proofs.Tryz.underlying46 rfl (At.cell c4)) ?_
  refine wl_q rfl rfl rfl (q_len_slice rfl rfl Go.Proofs.Tryz.underlying46 rfl) ?_
  refine wl_q rfl rfl rfl (q_move rfl rfl) ?_
  refine wl_keep (l' := [(0, Value.pointer d_0), (1, Value.int .i64 t_1), (15, Sl.v x3), (16, Value.int .i64 (x3.len : Int)), (17, Value.int .i64 0)]) (keep_cons rfl (keep_cons rfl (keep_cons rfl (keep_cons rfl (keep_cons rfl keep_nil))))) (wl_nil ?_)
  refine cw_block ?_
  obtain ⟨I, μ, hI77, hL78⟩ := hD
  refine cw_loops (σ := Int) (fun s => [(0, Value.pointer d_0), (1, Value.int .i64 t_1), (15, Sl.v x3), (16, Value.int .i64 (x3.len : Int)), (17, Value.int .i64 s)]) (0) (fun s h => I s h) (fun s h => μ s h) (keep_cons rfl (keep_cons rfl (keep_cons rfl (keep_cons rfl (keep_cons rfl keep_nil))))) hI77 ?_
  rintro x5 hz6 hI
  have hD := hL78 x5 hz6 hI
  obtain ⟨C7, hC7⟩ : ∃ c : Int → Hp → Prop, c = (fun x5' h' => I x5' h' ∧ μ x5' h' < μ x5 hz6) := ⟨_, rfl⟩
  rw [← hC7] at hD
  unfold D_wal_Log_Read_l2 at hD
  show cw _ _ _ [(0, Value.pointer d_0), (1, Value.int .i64 t_1), (15, Sl.v x3), (16, Value.int .i64 (x3.len : Int)), (17, Value.int .i64 x5)] _ _ _ _
  refine cw_seq ?_
  refine cw_region ?_
  refine wl_q rfl rfl rfl (q_bin rfl rfl rfl (fun _ _ => rfl)) ?_
  refine wl_keep (l' := [(0, Value.pointer d_0), (1, Value.int .i64 t_1), (15, Sl.v x3), (16, Value.int .i64 (x3.len : Int)), (17, Value.int .i64 x5), (18, Value.bool (decide (x5 < (x3.len : Int))))]) (keep_cons rfl (keep_cons rfl (keep_cons rfl (keep_cons rfl (keep_cons rfl (keep_cons rfl keep_nil)))))) (wl_nil ?_)
  refine cw_seq ?_
  refine cw_cond rfl (fun hb8 => ?_) (fun hb8 => ?_)
  · have hD := ifT hb8 hD
    refine cw_skip ?_
    refine cw_seq ?_
    refine cw_block ?_
    refine cw_seq ?_
    refine cw_region ?_
    obtain ⟨a9, c10, c11, c12, hD⟩ := hD
    refine wl_q rfl rfl rfl (q_indexAddr rfl rfl rfl Go.Proofs.Tryz.underlying46 sz_47 c10 c11 c12) ?_
    obtain ⟨x13, c14, hD⟩ := hD
    refine wl_q rfl rfl rfl (q_load rfl rfl Go.Proofs.Tryz.underlying47 rfl (At.cell c14)) ?_
    refine wl_q rfl rfl rfl (q_assign rfl rfl) ?_
    refine wl_keep (l' := [(0, Value.pointer d_0), (1, Value.int .i64 t_1), (7, Value.pointer x13), (15, Sl.v x3), (16, Value.int .i64 (x3.len : Int)), (17, Value.int .i64 x5)]) (keep_cons rfl (keep_cons rfl (keep_cons rfl (keep_cons rfl (keep_cons rfl (keep_cons rfl keep_nil)))))) (wl_nil ?_)
    refine cw_seq ?_
    refine cw_cut (fun l h => ∃ (x15 : Bool), Keep l [(0, Value.pointer d_0), (1, Value.int .i64 t_1), (7, Value.pointer x13), (15, Sl.v x3), (16, Value.int .i64 (x3.len : Int)), (17, Value.int .i64 x5), (32, Value.bool x15)] ∧ D_wal_Log_Read_j1 t_1 K a1 x5 C7 x13 x15 h) ?_ ?_
    · refine cw_region ?_
      refine wl_q rfl rfl rfl (q_move rfl rfl) ?_
      refine wl_q rfl rfl rfl (q_move rfl rfl) ?_
      obtain ⟨a68, c69, hD⟩ := hD
      refine wl_q rfl rfl rfl (q_nil rfl rfl c69) ?_
      refine wl_q rfl rfl rfl (q_fieldAddr rfl rfl fo_63_0) ?_
      obtain ⟨x70, c71, hD⟩ := hD
      refine wl_q rfl rfl rfl (q_load rfl rfl Go.Proofs.Tryz.underlying3 rfl (At.cell c71)) ?_
      refine wl_q rfl rfl rfl (q_bin rfl rfl rfl (fun _ _ => rfl)) ?_
      refine wl_q rfl rfl rfl (q_move rfl rfl) ?_
      rcases bool_or (decide (t_1 < x70)) with hb72 | hb72
      · have hD := ifT hb72 hD
        refine wl_gn rfl rfl rfl hb72 rfl rfl ?_
        refine wl_gn rfl rfl rfl hb72 rfl rfl ?_
        refine wl_gn rfl rfl rfl hb72 rfl rfl ?_
        refine wl_gn rfl rfl rfl hb72 rfl rfl ?_
        refine wl_q rfl rfl rfl (q_pickT rfl rfl hb72 rfl) ?_
        refine wl_keep (l' := [(0, Value.pointer d_0), (1, Value.int .i64 t_1), (7, Value.pointer x13), (15, Sl.v x3), (16, Value.int .i64 (x3.len : Int)), (17, Value.int .i64 x5), (32, Value.bool true)]) (keep_cons rfl (keep_cons rfl (keep_cons rfl (keep_cons rfl (keep_cons rfl (keep_cons rfl (keep_cons rfl keep_nil))))))) (wl_nil ?_)
        exact ⟨_, (keep_cons rfl (keep_cons rfl (keep_cons rfl (keep_cons rfl (keep_cons rfl (keep_cons rfl (keep_cons rfl keep_nil))))))), hD⟩
      · have hD := ifF hb72 hD
        refine wl_gq rfl rfl rfl hb72 rfl rfl (q_move rfl rfl) ?_
        refine wl_gq rfl rfl rfl hb72 rfl rfl (q_move rfl rfl) ?_
        refine wl_ge rfl rfl rfl hb72 rfl rfl (e_call (first := []) (vs := [Value.pointer x13]) (cap := []) rfl rfl rfl cf_36 (CallsH.mono hD ?_))
        rintro _ hz73 ⟨r74, rfl, hD⟩
        refine wl_gq rfl rfl rfl hb72 rfl rfl (q_bin rfl rfl rfl (fun _ _ => rfl)) ?_
        refine wl_q rfl rfl rfl (q_pickF rfl rfl hb72 rfl) ?_
        refine wl_keep (l' := [(0, Value.pointer d_0), (1, Value.int .i64 t_1), (7, Value.pointer x13), (15, Sl.v x3), (16, Value.int .i64 (x3.len : Int)), (17, Value.int .i64 x5), (32, Value.bool (decide (t_1 > r74)))]) (keep_cons rfl (keep_cons rfl (keep_cons rfl (keep_cons rfl (keep_cons rfl (keep_cons rfl (keep_cons rfl keep_nil))))))) (wl_nil ?_)
        exact ⟨_, (keep_cons rfl (keep_cons rfl (keep_cons rfl (keep_cons rfl (keep_cons rfl (keep_cons rfl (keep_cons rfl keep_nil))))))), hD⟩
    · rintro l76 hz16 ⟨x15, hk75, hD⟩
      refine cw_keep hk75 ?_
      unfold D_wal_Log_Read_j1 at hD
      refine cw_cond rfl (fun hb17 => ?_) (fun hb17 => ?_)
      · have hD := ifT hb17 hD
        refine cw_exit ?_
        refine xput_same ?_
        refine cw_region ?_
        refine wl_q rfl rfl rfl (q_bin rfl rfl rfl (fun _ _ => rfl)) ?_
        refine wl_q rfl rfl rfl (q_move rfl rfl) ?_
        refine wl_keep (l' := [(0, Value.pointer d_0), (1, Value.int .i64 t_1), (15, Sl.v x3), (16, Value.int .i64 (x3.len : Int)), (17, Value.int .i64 (IntKind.i64.wrap (x5 + 1)))]) (keep_cons rfl (keep_cons rfl (keep_cons rfl (keep_cons rfl (keep_cons rfl keep_nil))))) (wl_nil ?_)
        rw [hC7] at hD
        exact ⟨(IntKind.i64.wrap (x5 + 1)), (keep_cons rfl (keep_cons rfl (keep_cons rfl (keep_cons rfl (keep_cons rfl keep_nil))))), hD⟩
      · have hD := ifF hb17 hD
        refine cw_skip ?_
        refine cw_seq ?_
        obtain ⟨x18, c19, hD⟩ := hD
        obtain ⟨a20, c21, hD⟩ := hD
        obtain ⟨x22, c23, hD⟩ := hD
        refine cw_draw (fun h => cellH h (a1.add 0) = some (Value.pointer x18) ∧ cellH h (a20.add 0) = some (Value.int .i64 x22) ∧ True) 15 wide ?_
        have hS : cellH hz16 (a1.add 0) = some (Value.pointer x18) ∧ cellH hz16 (a20.add 0) = some (Value.int .i64 x22) ∧ True := ⟨c19, c23, trivial⟩
        refine wh_q 0 rfl (by kernel_rfl) rfl rfl rfl (q_move rfl rfl) (by exact hS) ?_
        refine wh_q 1 rfl (by kernel_rfl) rfl rfl rfl (q_nil rfl rfl c2) (by exact hS) ?_
        refine wh_q 2 rfl (by kernel_rfl) rfl rfl rfl (q_fieldAddr rfl rfl fo_49_0) (by exact hS) ?_
        refine wh_q 3 rfl (by kernel_rfl) rfl rfl rfl (q_load rfl rfl Go.Proofs.Tryz.underlying25 rfl (by exact fun _ s => s.1)) (by exact hS) ?_
        refine wh_q 4 rfl (by kernel_rfl) rfl rfl rfl (q_move rfl rfl) (by exact hS) ?_
        refine wh_q 5 rfl (by kernel_rfl) rfl rfl rfl (q_nil rfl rfl c21) (by exact hS) ?_
        refine wh_q 6 rfl (by kernel_rfl) rfl rfl rfl (q_fieldAddr rfl rfl fo_63_0) (by exact hS) ?_
        refine wh_q 7 rfl (by kernel_rfl) rfl rfl rfl (q_load rfl rfl Go.Proofs.Tryz.underlying3 rfl (by exact fun _ s => s.2.1)) (by exact hS) ?_
        refine wh_e 8 rfl (by kernel_rfl) rfl rfl rfl (e_call (first := []) (vs := [Value.int .i64 x22]) (cap := []) rfl rfl rfl cf_25 (CallsH.mono hD ?_))
        rintro _ hz24 ⟨r25, rfl, hD⟩
        obtain ⟨hk0, hk1, hD⟩ := hD
        refine ⟨⟨hk0, hk1, trivial⟩, ?_⟩
        have hS : cellH hz24 (a1.add 0) = some (Value.pointer x18) ∧ cellH hz24 (a20.add 0) = some (Value.int .i64 x22) ∧ True := ⟨hk0, hk1, trivial⟩
        refine wh_e 9 rfl (by kernel_rfl) rfl rfl rfl (e_call (first := []) (vs := [Value.pointer x18, Value.string r25]) (cap := []) rfl rfl rfl cf_18 (CallsH.mono hD ?_))
        rintro _ hz26 ⟨r27, r28, rfl, hD⟩
        obtain ⟨hk0, hk1, hD⟩ := hD
        refine ⟨⟨hk0, hk1, trivial⟩, ?_⟩
        have hS : cellH hz26 (a1.add 0) = some (Value.pointer x18) ∧ cellH hz26 (a20.add 0) = some (Value.int .i64 x22) ∧ True := ⟨hk0, hk1, trivial⟩
        refine wh_q 10 rfl (by kernel_rfl) rfl rfl rfl (q_move rfl rfl) (by exact hS) ?_
        refine wh_q 11 rfl (by kernel_rfl) rfl rfl rfl (q_extract rfl rfl rfl) (by exact hS) ?_
        refine wh_q 12 rfl (by kernel_rfl) rfl rfl rfl (q_extract rfl rfl rfl) (by exact hS) ?_
        refine wh_q 13 rfl (by kernel_rfl) rfl rfl rfl (q_assign rfl rfl) (by exact hS) ?_
        refine wh_q 14 rfl (by kernel_rfl) rfl rfl rfl (q_assign rfl rfl) (by exact hS) ?_
        refine wh_keep (l' := [(1, Value.int .i64 t_1), (7, Value.pointer x13), (8, Value.string r27), (9, Value.int .i64 r28)]) (keep_cons rfl (keep_cons rfl (keep_cons rfl (keep_cons rfl keep_nil)))) (wh_done (by kernel_rfl) ?_)
        refine cw_seq ?_
        refine cw_seq ?_
        refine cw_region ?_
        refine wl_q rfl rfl rfl (q_move rfl rfl) ?_
        refine wl_q rfl rfl rfl (q_bin rfl rfl rfl (fun _ _ => rfl)) ?_
        refine wl_keep (l' := [(1, Value.int .i64 t_1), (7, Value.pointer x13), (8, Value.string r27), (9, Value.int .i64 r28), (47, Value.bool (r28 != (0 : Int)))]) (keep_cons rfl (keep_cons rfl (keep_cons rfl (keep_cons rfl (keep_cons rfl keep_nil))))) (wl_nil ?_)
        refine cw_cond rfl (fun hb29 => ?_) (fun hb29 => ?_)
        · have hD := ifT hb29 hD
          refine cw_seq ?_
          refine cw_region ?_
          refine wl_q rfl rfl rfl (q_move rfl rfl) ?_
          refine wl_q rfl rfl rfl (q_assign rfl rfl) ?_
          refine wl_q rfl rfl rfl (q_assign rfl rfl) ?_
          refine wl_keep (l' := [(4, Value.string (ByteArray.mk #[])), (5, Value.int .i64 r28)]) (keep_cons rfl (keep_cons rfl keep_nil)) (wl_nil ?_)
          refine cw_ret ?_
          exact ⟨_, resq2 rfl rfl rfl, _, _, rfl, hD⟩
        · have hD := ifF hb29 hD
          refine cw_skip ?_
          refine cw_seq ?_
          obtain ⟨x30, c31, hD⟩ := hD
          obtain ⟨x32, c33, hD⟩ := hD
          obtain ⟨a34, c35, c36, c37, hD⟩ := hD
          obtain ⟨x38, c39, hD⟩ := hD
          obtain ⟨n40, c41, c42, c43, hD⟩ := hD
          refine cw_draw (fun h => cellH h (a20.add 1) = some (Sl.v x30) ∧ cellH h (a20.add 0) = some (Value.int .i64 x32) ∧ cellH h (a34.add ((IntKind.i64.wrap (t_1 - x32)).toNat * 1)) = some (Value.int .i64 x38) ∧ True) 23 wide ?_
          have hS : cellH hz26 (a20.add 1) = some (Sl.v x30) ∧ cellH hz26 (a20.add 0) = some (Value.int .i64 x32) ∧ cellH hz26 (a34.add ((IntKind.i64.wrap (t_1 - x32)).toNat * 1)) = some (Value.int .i64 x38) ∧ True := ⟨c31, c33, c39, trivial⟩
          refine wh_q 0 rfl (by kernel_rfl) rfl rfl rfl (q_move rfl rfl) (by exact hS) ?_
          refine wh_q 1 rfl (by kernel_rfl) rfl rfl rfl (q_move rfl rfl) (by exact hS) ?_
          refine wh_q 2 rfl (by kernel_rfl) rfl rfl rfl (q_nil rfl rfl c21) (by exact hS) ?_
          refine wh_q 3 rfl (by kernel_rfl) rfl rfl rfl (q_fieldAddr rfl rfl fo_63_1) (by exact hS) ?_
          refine wh_q 4 rfl (by kernel_rfl) rfl rfl rfl (q_load rfl rfl Go.Proofs.Tryz.underlying22 rfl (by exact fun _ s => s.1)) (by exact hS) ?_
          refine wh_q 5 rfl (by kernel_rfl) rfl rfl rfl (q_move rfl rfl) (by exact hS) ?_
          refine wh_q 6 rfl (by kernel_rfl) rfl rfl rfl (q_move rfl rfl) (by exact hS) ?_
          refine wh_q 7 rfl (by kernel_rfl) rfl rfl rfl (q_nil rfl rfl c21) (by exact hS) ?_
          refine wh_q 8 rfl (by kernel_rfl) rfl rfl rfl (q_fieldAddr rfl rfl fo_63_0) (by exact hS) ?_
          refine wh_q 9 rfl (by kernel_rfl) rfl rfl rfl (q_load rfl rfl Go.Proofs.Tryz.underlying3 rfl (by exact fun _ s => s.2.1)) (by exact hS) ?_
          refine wh_q 10 rfl (by kernel_rfl) rfl rfl rfl (q_bin rfl rfl rfl (fun _ _ => rfl)) (by exact hS) ?_
          refine wh_q 11 rfl (by kernel_rfl) rfl rfl rfl (q_indexAddr rfl rfl rfl Go.Proofs.Tryz.underlying22 sz_3 c35 c36 c37) (by exact hS) ?_
          refine wh_q 12 rfl (by kernel_rfl) rfl rfl rfl (q_load rfl rfl Go.Proofs.Tryz.underlying3 rfl (by exact fun _ s => s.2.2.1)) (by exact hS) ?_
          refine wh_q 13 rfl (by kernel_rfl) rfl rfl rfl (q_slice_string rfl rfl Go.Proofs.Tryz.underlying9 ⟨_, _, rfl, c41⟩ rfl c42 c43) (by exact hS) ?_
          refine wh_e2 14 19 (by kernel_rfl) rfl rfl rfl rfl rfl rfl rfl rfl ?_ ?_
          · have hD := hD.1
            refine e_call (first := []) (vs := [Value.string (r27.extract n40 r27.size)]) (cap := []) rfl rfl rfl cf_37 (CallsH.mono hD ?_)
            rintro _ hz44 ⟨r45, r46, r47, r48, rfl, hD⟩
            obtain ⟨hk0, hk1, hk2, hD⟩ := hD
            refine ⟨⟨hk0, hk1, hk2, trivial⟩, ?_⟩
            have hS : cellH hz44 (a20.add 1) = some (Sl.v x30) ∧ cellH hz44 (a20.add 0) = some (Value.int .i64 x32) ∧ cellH hz44 (a34.add ((IntKind.i64.wrap (t_1 - x32)).toNat * 1)) = some (Value.int .i64 x38) ∧ True := ⟨hk0, hk1, hk2, trivial⟩
            refine wh_q 15 rfl (by kernel_rfl) rfl rfl rfl (q_move rfl rfl) (by exact hS) ?_
            refine wh_q 16 rfl (by kernel_rfl) rfl rfl rfl (q_extract rfl rfl rfl) (by exact hS) ?_
            refine wh_q 17 rfl (by kernel_rfl) rfl rfl rfl (q_extract rfl rfl rfl) (by exact hS) ?_
            refine wh_q 18 rfl (by kernel_rfl) rfl rfl rfl (q_extract rfl rfl rfl) (by exact hS) ?_
            refine wh_e 19 rfl (by kernel_rfl) rfl rfl rfl (e_alloc rfl zr_61 ?_)
            intro hz49 e50
            have hD := hD hz49 e50
            obtain ⟨hk0, hk1, hk2, hD⟩ := hD
            refine ⟨⟨hk0, hk1, hk2, trivial⟩, ?_⟩
            have hS : cellH hz49 (a20.add 1) = some (Sl.v x30) ∧ cellH hz49 (a20.add 0) = some (Value.int .i64 x32) ∧ cellH hz49 (a34.add ((IntKind.i64.wrap (t_1 - x32)).toNat * 1)) = some (Value.int .i64 x38) ∧ True := ⟨hk0, hk1, hk2, trivial⟩
            obtain ⟨c52, hD⟩ := hD
            refine wh_e0 20 rfl (by kernel_rfl) rfl rfl (e_stores (vs := [Value.int .i64 r45, Value.string r46]) rfl rfl rfl sz_61 c52 ?_)
            intro hz51 e53
            have hD := hD hz51 e53
            obtain ⟨hk0, hk1, hk2, hD⟩ := hD
            refine ⟨⟨hk0, hk1, hk2, trivial⟩, ?_⟩
            have hS : cellH hz51 (a20.add 1) = some (Sl.v x30) ∧ cellH hz51 (a20.add 0) = some (Value.int .i64 x32) ∧ cellH hz51 (a34.add ((IntKind.i64.wrap (t_1 - x32)).toNat * 1)) = some (Value.int .i64 x38) ∧ True := ⟨hk0, hk1, hk2, trivial⟩
            refine wh_q 21 rfl (by kernel_rfl) rfl rfl rfl (q_assign rfl rfl) (by exact hS) ?_
            refine wh_q 22 rfl (by kernel_rfl) rfl rfl rfl (q_assign rfl rfl) (by exact hS) ?_
            refine wh_keep (l' := [(9, Value.int .i64 r48), (10, Value.pointer (some (blk hz44.size)))]) (keep_cons rfl (keep_cons rfl keep_nil)) (wh_done (by kernel_rfl) ?_)
            refine cw_seq ?_
            refine cw_region ?_
            refine wl_q rfl rfl rfl (q_fieldAddr rfl rfl fo_61_1) ?_
            obtain ⟨x54, c55, hD⟩ := hD
            refine wl_q rfl rfl rfl (q_load rfl rfl Go.Proofs.Tryz.underlying9 rfl (At.cell c55)) ?_
            refine wl_q rfl rfl rfl (q_move rfl rfl) ?_
            refine wl_q rfl rfl rfl (q_assign rfl rfl) ?_
            refine wl_q rfl rfl rfl (q_assign rfl rfl) ?_
            refine wl_keep (l' := [(4, Value.string x54), (5, Value.int .i64 r48)]) (keep_cons rfl (keep_cons rfl keep_nil)) (wl_nil ?_)
            refine cw_ret ?_
            exact ⟨_, resq2 rfl rfl rfl, _, _, rfl, hD⟩
          · have hD := hD.2
            refine e_alloc rfl zr_61 ?_
            intro hz56 e57
            have hD := hD hz56 e57
            obtain ⟨hk0, hk1, hk2, hD⟩ := hD
            refine ⟨⟨hk0, hk1, hk2, trivial⟩, ?_⟩
            have hS : cellH hz56 (a20.add 1) = some (Sl.v x30) ∧ cellH hz56 (a20.add 0) = some (Value.int .i64 x32) ∧ cellH hz56 (a34.add ((IntKind.i64.wrap (t_1 - x32)).toNat * 1)) = some (Value.int .i64 x38) ∧ True := ⟨hk0, hk1, hk2, trivial⟩
            refine wh_e 14 rfl (by kernel_rfl) rfl rfl rfl (e_call (first := []) (vs := [Value.string (r27.extract n40 r27.size)]) (cap := []) rfl rfl rfl cf_37 (CallsH.mono hD ?_))
            rintro _ hz58 ⟨r59, r60, r61, r62, rfl, hD⟩
            obtain ⟨hk0, hk1, hk2, hD⟩ := hD
            refine ⟨⟨hk0, hk1, hk2, trivial⟩, ?_⟩
            have hS : cellH hz58 (a20.add 1) = some (Sl.v x30) ∧ cellH hz58 (a20.add 0) = some (Value.int .i64 x32) ∧ cellH hz58 (a34.add ((IntKind.i64.wrap (t_1 - x32)).toNat * 1)) = some (Value.int .i64 x38) ∧ True := ⟨hk0, hk1, hk2, trivial⟩
            refine wh_q 15 rfl (by kernel_rfl) rfl rfl rfl (q_move rfl rfl) (by exact hS) ?_
            refine wh_q 16 rfl (by kernel_rfl) rfl rfl rfl (q_extract rfl rfl rfl) (by exact hS) ?_
            refine wh_q 17 rfl (by kernel_rfl) rfl rfl rfl (q_extract rfl rfl rfl) (by exact hS) ?_
            refine wh_q 18 rfl (by kernel_rfl) rfl rfl rfl (q_extract rfl rfl rfl) (by exact hS) ?_
            obtain ⟨c64, hD⟩ := hD
            refine wh_e0 20 rfl (by kernel_rfl) rfl rfl (e_stores (vs := [Value.int .i64 r59, Value.string r60]) rfl rfl rfl sz_61 c64 ?_)
            intro hz63 e65
            have hD := hD hz63 e65
            obtain ⟨hk0, hk1, hk2, hD⟩ := hD
            refine ⟨⟨hk0, hk1, hk2, trivial⟩, ?_⟩
            have hS : cellH hz63 (a20.add 1) = some (Sl.v x30) ∧ cellH hz63 (a20.add 0) = some (Value.int .i64 x32) ∧ cellH hz63 (a34.add ((IntKind.i64.wrap (t_1 - x32)).toNat * 1)) = some (Value.int .i64 x38) ∧ True := ⟨hk0, hk1, hk2, trivial⟩
            refine wh_q 21 rfl (by kernel_rfl) rfl rfl rfl (q_assign rfl rfl) (by exact hS) ?_
            refine wh_q 22 rfl (by kernel_rfl) rfl rfl rfl (q_assign rfl rfl) (by exact hS) ?_
            refine wh_keep (l' := [(9, Value.int .i64 r62), (10, Value.pointer (some (blk hz26.size)))]) (keep_cons rfl (keep_cons rfl keep_nil)) (wh_done (by kernel_rfl) ?_)
            refine cw_seq ?_
            refine cw_region ?_
            refine wl_q rfl rfl rfl (q_fieldAddr rfl rfl fo_61_1) ?_
            obtain ⟨x66, c67, hD⟩ := hD
            refine wl_q rfl rfl rfl (q_load rfl rfl Go.Proofs.Tryz.underlying9 rfl (At.cell c67)) ?_
            refine wl_q rfl rfl rfl (q_move rfl rfl) ?_
            refine wl_q rfl rfl rfl (q_assign rfl rfl) ?_
            refine wl_q rfl rfl rfl (q_assign rfl rfl) ?_
            refine wl_keep (l' := [(4, Value.string x66), (5, Value.int .i64 r62)]) (keep_cons rfl (keep_cons rfl keep_nil)) (wl_nil ?_)
            refine cw_ret ?_
            exact ⟨_, resq2 rfl rfl rfl, _, _, rfl, hD⟩
  · have hD := ifF hb8 hD
    refine cw_exit ?_
    refine xput_same ?_
    refine cw_seq ?_
    refine cw_region ?_
    refine wl_q rfl rfl rfl (q_assign rfl rfl) ?_
    refine wl_q rfl rfl rfl (q_assign rfl rfl) ?_
    refine wl_keep (l' := [(4, Value.string (ByteArray.mk #[])), (5, Value.int .i64 12)]) (keep_cons rfl (keep_cons rfl keep_nil)) (wl_nil ?_)
    refine cw_ret ?_
    exact ⟨_, resq2 rfl rfl rfl, _, _, rfl, hD⟩
end Go.Proofs.YtgdmjdacmebfjaaGreatDoor.D

namespace Go.Proofs.YtgdmjdacmebfjaaGreatDoor.D
open Go
set_option maxRecDepth 100000
theorem S_disk_Disk_Up {d_0 : Option Addr} {h0 : Hp} {K : Bool → Hp → Prop} (hD : D_disk_Disk_Up d_0 h0 K) : C_disk_Disk_Up d_0 h0 K := by
  unfold D_disk_Disk_Up at hD
  refine calls_cw (args := [Value.pointer d_0]) Go.Proofs.Tryz.func13 rfl ?_
  show cw _ 8 _ [(0, Value.pointer d_0)] _ _ _ _
  refine cw_seq ?_
  refine cw_region ?_
  refine wl_q rfl rfl rfl (q_assign rfl rfl) ?_
  refine wl_keep (l' := [(0, Value.pointer d_0)]) (keep_cons rfl keep_nil) (wl_nil ?_)
  refine cw_seq ?_
  refine cw_region ?_
  refine wl_q rfl rfl rfl (q_move rfl rfl) ?_
  obtain ⟨a1, c2, hD⟩ := hD
  refine wl_q rfl rfl rfl (q_nil rfl rfl c2) ?_
  refine wl_q rfl rfl rfl (q_fieldAddr rfl rfl fo_45_4) ?_
  obtain ⟨x3, c4, hD⟩ := hD
  refine wl_q rfl rfl rfl (q_load rfl rfl Go.Proofs.Tryz.underlying4 rfl (At.cell c4)) ?_
  refine wl_q rfl rfl rfl (q_un rfl rfl (fun _ => rfl)) ?_
  refine wl_q rfl rfl rfl (q_assign rfl rfl) ?_
  refine wl_keep (l' := [(2, Value.bool (!x3))]) (keep_cons rfl keep_nil) (wl_nil ?_)
  refine cw_ret ?_
  exact ⟨_, resq1 rfl rfl, _, rfl, hD⟩
end Go.Proofs.YtgdmjdacmebfjaaGreatDoor.D

namespace Go.Proofs.YtgdmjdacmebfjaaGreatDoor.D
open Go
set_option maxRecDepth 100000
theorem S_slices_DeleteFunc_string_string {s_0 : Sl} {del_1 : Value} {h0 : Hp} {K : Sl → Hp → Prop} (hD : D_slices_DeleteFunc_string_string s_0 del_1 h0 K) : C_slices_DeleteFunc_string_string s_0 del_1 h0 K := by
  unfold D_slices_DeleteFunc_string_string at hD
  refine calls_cw (args := [Sl.v s_0, del_1]) Go.Proofs.Tryz.func14 rfl ?_
  show cw _ 42 _ [(0, Sl.v s_0), (1, del_1)] _ _ _ _
  refine cw_seq ?_
  refine cw_region ?_
  refine wl_q rfl rfl rfl (q_assign rfl rfl) ?_
  refine wl_keep (l' := [(0, Sl.v s_0), (1, del_1)]) (keep_cons rfl (keep_cons rfl keep_nil)) (wl_nil ?_)
  refine cw_seq ?_
  refine cw_region ?_
  refine wl_q rfl rfl rfl (q_move rfl rfl) ?_
  refine wl_q rfl rfl rfl (q_move rfl rfl) ?_
  refine wl_e rfl rfl rfl (e_call (first := []) (vs := [Sl.v s_0, del_1]) (cap := []) rfl rfl rfl cf_38 (CallsH.mono hD ?_))
  rintro _ hz1 ⟨r2, rfl, hD⟩
  refine wl_q rfl rfl rfl (q_assign rfl rfl) ?_
  refine wl_keep (l' := [(0, Sl.v s_0), (1, del_1), (5, Value.int .i64 r2)]) (keep_cons rfl (keep_cons rfl (keep_cons rfl keep_nil))) (wl_nil ?_)
  refine cw_seq ?_
  refine cw_seq ?_
  refine cw_region ?_
  refine wl_q rfl rfl rfl (q_move rfl rfl) ?_
  refine wl_q rfl rfl rfl (q_bin rfl rfl rfl (fun _ _ => rfl)) ?_
  refine wl_keep (l' := [(0, Sl.v s_0), (1, del_1), (5, Value.int .i64 r2), (12, Value.bool (r2 == ((-1) : Int)))]) (keep_cons rfl (keep_cons rfl (keep_cons rfl (keep_cons rfl keep_nil)))) (wl_nil ?_)
  refine cw_cond rfl (fun hb3 => ?_) (fun hb3 => ?_)
  · have hD := ifT hb3 hD
    refine cw_seq ?_
    refine cw_region ?_
    refine wl_q rfl rfl rfl (q_move rfl rfl) ?_
    refine wl_q rfl rfl rfl (q_assign rfl rfl) ?_
    refine wl_keep (l' := [(4, Sl.v s_0)]) (keep_cons rfl keep_nil) (wl_nil ?_)
    refine cw_ret ?_
    exact ⟨_, resq1 rfl rfl, _, rfl, hD⟩
  · have hD := ifF hb3 hD
    refine cw_skip ?_
    refine cw_seq ?_
    refine cw_seq ?_
    refine cw_region ?_
    refine wl_q rfl rfl rfl (q_move rfl rfl) ?_
    refine wl_q rfl rfl rfl (q_bin rfl rfl rfl (fun _ _ => rfl)) ?_
    refine wl_q rfl rfl rfl (q_assign rfl rfl) ?_
    refine wl_keep (l' := [(0, Sl.v s_0), (1, del_1), (5, Value.int .i64 r2), (6, Value.int .i64 (IntKind.i64.wrap (r2 + 1)))]) (keep_cons rfl (keep_cons rfl (keep_cons rfl (keep_cons rfl keep_nil)))) (wl_nil ?_)
    refine cw_block ?_
    obtain ⟨I, μ, hI45, hL46⟩ := hD
    refine cw_loops (σ := Int × Int) (fun s => [(0, Sl.v s_0), (1, del_1), (5, Value.int .i64 s.1), (6, Value.int .i64 s.2)]) (r2, IntKind.i64.wrap (r2 + 1)) (fun s h => I s.1 s.2 h) (fun s h => μ s.1 s.2 h) (keep_cons rfl (keep_cons rfl (keep_cons rfl (keep_cons rfl keep_nil)))) hI45 ?_
    rintro ⟨i4, j5⟩ hz6 hI
    have hD := hL46 i4 j5 hz6 hI
    obtain ⟨C7, hC7⟩ : ∃ c : Int → Int → Hp → Prop, c = (fun i4' j5' h' => I i4' j5' h' ∧ μ i4' j5' h' < μ i4 j5 hz6) := ⟨_, rfl⟩
    rw [← hC7] at hD
    unfold D_slices_DeleteFunc_string_string_l2 at hD
    show cw _ _ _ [(0, Sl.v s_0), (1, del_1), (5, Value.int .i64 i4), (6, Value.int .i64 j5)] _ _ _ _
    refine cw_seq ?_
    refine cw_seq ?_
    refine cw_region ?_
    refine wl_q rfl rfl rfl (q_move rfl rfl) ?_
    refine wl_q rfl rfl rfl (q_move rfl rfl) ?_
    refine wl_q rfl rfl rfl (q_len_slice rfl rfl Go.Proofs.Tryz.underlying50 rfl) ?_
    refine wl_q rfl rfl rfl (q_bin rfl rfl rfl (fun _ _ => rfl)) ?_
    refine wl_keep (l' := [(0, Sl.v s_0), (1, del_1), (5, Value.int .i64 i4), (6, Value.int .i64 j5), (19, Value.bool (decide (j5 < (s_0.len : Int))))]) (keep_cons rfl (keep_cons rfl (keep_cons rfl (keep_cons rfl (keep_cons rfl keep_nil))))) (wl_nil ?_)
    refine cw_cond rfl (fun hb8 => ?_) (fun hb8 => ?_)
    · have hD := ifT hb8 hD
      refine cw_skip ?_
      refine cw_cut (fun l h => ∃ (i9 : Int), Keep l [(0, Sl.v s_0), (1, del_1), (5, Value.int .i64 i9), (6, Value.int .i64 j5)] ∧ D_slices_DeleteFunc_string_string_j1 j5 C7 i9 h) ?_ ?_
      · refine cw_block ?_
        refine cw_seq ?_
        refine cw_region ?_
        refine wl_q rfl rfl rfl (q_move rfl rfl) ?_
        refine wl_q rfl rfl rfl (q_move rfl rfl) ?_
        obtain ⟨a11, c12, c13, c14, hD⟩ := hD
        refine wl_q rfl rfl rfl (q_indexAddr rfl rfl rfl Go.Proofs.Tryz.underlying50 sz_9 c12 c13 c14) ?_
        obtain ⟨x15, c16, hD⟩ := hD
        refine wl_q rfl rfl rfl (q_load rfl rfl Go.Proofs.Tryz.underlying9 rfl (At.cell c16)) ?_
        refine wl_q rfl rfl rfl (q_assign rfl rfl) ?_
        refine wl_keep (l' := [(0, Sl.v s_0), (1, del_1), (5, Value.int .i64 i4), (6, Value.int .i64 j5), (7, Value.string x15)]) (keep_cons rfl (keep_cons rfl (keep_cons rfl (keep_cons rfl (keep_cons rfl keep_nil))))) (wl_nil ?_)
        refine cw_seq ?_
        refine cw_region ?_
        refine wl_q rfl rfl rfl (q_move rfl rfl) ?_
        refine wl_q rfl rfl rfl (q_move rfl rfl) ?_
        obtain ⟨g27, fi28, ca29, c30, c31, hD⟩ := hD
        refine wl_e rfl rfl rfl (e_call (first := fi28) (vs := [Value.string x15]) (cap := ca29) rfl (by rw [← c30]; rfl) rfl c31 (CallsH.mono hD ?_))
        rintro _ hz17 ⟨r18, rfl, hD⟩
        refine wl_q rfl rfl rfl (q_un rfl rfl (fun _ => rfl)) ?_
        refine wl_keep (l' := [(0, Sl.v s_0), (1, del_1), (5, Value.int .i64 i4), (6, Value.int .i64 j5), (7, Value.string x15), (29, Value.bool (!r18))]) (keep_cons rfl (keep_cons rfl (keep_cons rfl (keep_cons rfl (keep_cons rfl (keep_cons rfl keep_nil)))))) (wl_nil ?_)
        refine cw_cond rfl (fun hb19 => ?_) (fun hb19 => ?_)
        · have hD := ifT hb19 hD
          refine cw_seq ?_
          refine cw_region ?_
          refine wl_q rfl rfl rfl (q_move rfl rfl) ?_
          refine wl_q rfl rfl rfl (q_move rfl rfl) ?_
          refine wl_q rfl rfl rfl (q_move rfl rfl) ?_
          obtain ⟨c20, c21, hD⟩ := hD
          refine wl_q rfl rfl rfl (q_indexAddr rfl rfl rfl Go.Proofs.Tryz.underlying50 sz_9 c12 c20 c21) ?_
          obtain ⟨u23, c24, c25, hD⟩ := hD
          refine wl_e0 rfl rfl (e_store rfl rfl rfl sz_9 trivial c24 c25 ?_)
          intro hz22 e26
          have hD := hD hz22 e26
          refine wl_keep (l' := [(0, Sl.v s_0), (1, del_1), (5, Value.int .i64 i4), (6, Value.int .i64 j5)]) (keep_cons rfl (keep_cons rfl (keep_cons rfl (keep_cons rfl keep_nil)))) (wl_nil ?_)
          refine cw_region ?_
          refine wl_q rfl rfl rfl (q_move rfl rfl) ?_
          refine wl_q rfl rfl rfl (q_bin rfl rfl rfl (fun _ _ => rfl)) ?_
          refine wl_q rfl rfl rfl (q_assign rfl rfl) ?_
          refine wl_keep (l' := [(0, Sl.v s_0), (1, del_1), (5, Value.int .i64 (IntKind.i64.wrap (i4 + 1))), (6, Value.int .i64 j5)]) (keep_cons rfl (keep_cons rfl (keep_cons rfl (keep_cons rfl keep_nil)))) (wl_nil ?_)
          exact ⟨_, (keep_cons rfl (keep_cons rfl (keep_cons rfl (keep_cons rfl keep_nil)))), hD⟩
        · have hD := ifF hb19 hD
          refine cw_skip ?_
          exact ⟨_, (keep_cons rfl (keep_cons rfl (keep_cons rfl (keep_cons rfl keep_nil)))), hD⟩
      · rintro l33 hz10 ⟨i9, hk32, hD⟩
        refine cw_keep hk32 ?_
        unfold D_slices_DeleteFunc_string_string_j1 at hD
        refine cw_region ?_
        refine wl_q rfl rfl rfl (q_move rfl rfl) ?_
        refine wl_q rfl rfl rfl (q_bin rfl rfl rfl (fun _ _ => rfl)) ?_
        refine wl_q rfl rfl rfl (q_assign rfl rfl) ?_
        refine wl_keep (l' := [(0, Sl.v s_0), (1, del_1), (5, Value.int .i64 i9), (6, Value.int .i64 (IntKind.i64.wrap (j5 + 1)))]) (keep_cons rfl (keep_cons rfl (keep_cons rfl (keep_cons rfl keep_nil)))) (wl_nil ?_)
        rw [hC7] at hD
        exact ⟨(i9, IntKind.i64.wrap (j5 + 1)), (keep_cons rfl (keep_cons rfl (keep_cons rfl (keep_cons rfl keep_nil)))), hD⟩
    · have hD := ifF hb8 hD
      refine cw_exit ?_
      refine xput_same ?_
      refine cw_seq ?_
      refine cw_region ?_
      refine wl_q rfl rfl rfl (q_move rfl rfl) ?_
      refine wl_q rfl rfl rfl (q_move rfl rfl) ?_
      obtain ⟨n34, c35, c36, c37, hD⟩ := hD
      refine wl_q rfl rfl rfl (q_slice (i := n34) (j := s_0.len) rfl rfl Go.Proofs.Tryz.underlying50 sz_9 ⟨_, _, rfl, c35⟩ rfl c36 c37) ?_
      obtain ⟨c39, hD⟩ := hD
      refine wl_e0 rfl rfl (e_clear (s := slCut s_0 n34 s_0.len 1) rfl rfl Go.Proofs.Tryz.underlying50 zr_9 c39 ?_)
      intro hz38 e40
      have hD := hD hz38 e40
      refine wl_keep (l' := [(0, Sl.v s_0), (5, Value.int .i64 i4)]) (keep_cons rfl (keep_cons rfl keep_nil)) (wl_nil ?_)
      refine cw_seq ?_
      refine cw_region ?_
      refine wl_q rfl rfl rfl (q_move rfl rfl) ?_
      refine wl_q rfl rfl rfl (q_move rfl rfl) ?_
      obtain ⟨n41, c42, c43, c44, hD⟩ := hD
      refine wl_q rfl rfl rfl (q_slice (i := 0) (j := n41) rfl rfl Go.Proofs.Tryz.underlying50 sz_9 rfl ⟨_, _, rfl, c42⟩ c43 c44) ?_
      refine wl_q rfl rfl rfl (q_assign rfl rfl) ?_
      refine wl_keep (l' := [(4, Sl.v (slCut s_0 0 n41 1))]) (keep_cons rfl keep_nil) (wl_nil ?_)
      refine cw_ret ?_
      exact ⟨_, resq1 rfl rfl, _, rfl, hD⟩
end Go.Proofs.YtgdmjdacmebfjaaGreatDoor.D

namespace Go.Proofs.YtgdmjdacmebfjaaGreatDoor.D
open Go
set_option maxRecDepth 100000
theorem S_disk_Disk_Names {d_0 : Option Addr} {h0 : Hp} {K : Sl → Hp → Prop} (hD : D_disk_Disk_Names d_0 h0 K) : C_disk_Disk_Names d_0 h0 K := by
  unfold D_disk_Disk_Names at hD
  refine calls_cw (args := [Value.pointer d_0]) Go.Proofs.Tryz.func15 rfl ?_
  show cw _ 13 _ [(0, Value.pointer d_0)] _ _ _ _
  refine cw_seq ?_
  refine cw_region ?_
  refine wl_q rfl rfl rfl (q_assign rfl rfl) ?_
  refine wl_keep (l' := [(0, Value.pointer d_0)]) (keep_cons rfl keep_nil) (wl_nil ?_)
  refine cw_seq ?_
  refine cw_seq ?_
  refine cw_region ?_
  refine wl_q rfl rfl rfl (q_move rfl rfl) ?_
  obtain ⟨a1, c2, hD⟩ := hD
  refine wl_q rfl rfl rfl (q_nil rfl rfl c2) ?_
  refine wl_q rfl rfl rfl (q_fieldAddr rfl rfl fo_45_4) ?_
  obtain ⟨x3, c4, hD⟩ := hD
  refine wl_q rfl rfl rfl (q_load rfl rfl Go.Proofs.Tryz.underlying4 rfl (At.cell c4)) ?_
  refine wl_keep (l' := [(0, Value.pointer d_0), (6, Value.bool x3)]) (keep_cons rfl (keep_cons rfl keep_nil)) (wl_nil ?_)
  refine cw_cond rfl (fun hb5 => ?_) (fun hb5 => ?_)
  · have hD := ifT hb5 hD
    refine cw_seq ?_
    refine cw_region ?_
    refine wl_q rfl rfl rfl (q_assign rfl rfl) ?_
    refine wl_keep (l' := [(2, Sl.v (Sl.mk none 0 0))]) (keep_cons rfl keep_nil) (wl_nil ?_)
    refine cw_ret ?_
    exact ⟨_, resq1 rfl rfl, _, rfl, hD⟩
  · have hD := ifF hb5 hD
    refine cw_skip ?_
    refine cw_seq ?_
    refine cw_region ?_
    refine wl_q rfl rfl rfl (q_move rfl rfl) ?_
    refine wl_q rfl rfl rfl (q_nil rfl rfl c2) ?_
    refine wl_q rfl rfl rfl (q_fieldAddr rfl rfl fo_45_1) ?_
    obtain ⟨x6, c7, hD⟩ := hD
    refine wl_q rfl rfl rfl (q_load rfl rfl Go.Proofs.Tryz.underlying42 rfl (At.cell c7)) ?_
    refine wl_e rfl rfl rfl (e_call (first := []) (vs := [Value.map x6]) (cap := []) rfl rfl rfl cf_34 (CallsH.mono hD ?_))
    rintro r9 hz8 ⟨_, rfl, hD⟩
    refine wl_e rfl rfl rfl (e_call (first := []) (vs := [r9]) (cap := []) rfl rfl rfl cf_33 (CallsH.mono hD ?_))
    rintro _ hz10 ⟨r11, rfl, hD⟩
    refine wl_q rfl rfl rfl (q_assign rfl rfl) ?_
    refine wl_keep (l' := [(2, Sl.v r11)]) (keep_cons rfl keep_nil) (wl_nil ?_)
    refine cw_ret ?_
    exact ⟨_, resq1 rfl rfl, _, rfl, hD⟩
end Go.Proofs.YtgdmjdacmebfjaaGreatDoor.D

namespace Go.Proofs.YtgdmjdacmebfjaaGreatDoor.D
open Go
set_option maxRecDepth 100000
theorem S_wal_Open_1 {s_0 : ByteArray} {h0 : Hp} {K : Bool → Hp → Prop} (hD : D_wal_Open_1 s_0 h0 K) : C_wal_Open_1 s_0 h0 K := by
  unfold D_wal_Open_1 at hD
  refine calls_cw (args := [Value.string s_0]) Go.Proofs.Tryz.func16 rfl ?_
  show cw _ 6 _ [(0, Value.string s_0)] _ _ _ _
  refine cw_seq ?_
  refine cw_region ?_
  refine wl_q rfl rfl rfl (q_assign rfl rfl) ?_
  refine wl_keep (l' := [(0, Value.string s_0)]) (keep_cons rfl keep_nil) (wl_nil ?_)
  refine cw_seq ?_
  refine cw_region ?_
  refine wl_q rfl rfl rfl (q_move rfl rfl) ?_
  refine wl_e rfl rfl rfl (e_call (first := []) (vs := [Value.string s_0]) (cap := []) rfl rfl rfl cf_17 (CallsH.mono hD ?_))
  rintro _ hz1 ⟨r2, rfl, hD⟩
  refine wl_q rfl rfl rfl (q_bin rfl rfl rfl (fun _ _ => rfl)) ?_
  refine wl_q rfl rfl rfl (q_assign rfl rfl) ?_
  refine wl_keep (l' := [(2, Value.bool (r2 == (0 : Int)))]) (keep_cons rfl keep_nil) (wl_nil ?_)
  refine cw_ret ?_
  exact ⟨_, resq1 rfl rfl, _, rfl, hD⟩
end Go.Proofs.YtgdmjdacmebfjaaGreatDoor.D

namespace Go.Proofs.YtgdmjdacmebfjaaGreatDoor.D
open Go
set_option maxRecDepth 100000
theorem S_wal_number {s_0 : ByteArray} {h0 : Hp} {K : Int → Hp → Prop} (hD : D_wal_number s_0 h0 K) : C_wal_number s_0 h0 K := by
  unfold D_wal_number at hD
  refine calls_cw (args := [Value.string s_0]) Go.Proofs.Tryz.func17 rfl ?_
  show cw _ 36 _ [(0, Value.string s_0)] _ _ _ _
  refine cw_seq ?_
  refine cw_region ?_
  refine wl_q rfl rfl rfl (q_assign rfl rfl) ?_
  refine wl_keep (l' := [(0, Value.string s_0)]) (keep_cons rfl keep_nil) (wl_nil ?_)
  refine cw_seq ?_
  refine cw_cut (fun l h => ∃ (x1 : Bool), Keep l [(0, Value.string s_0), (13, Value.bool x1)] ∧ D_wal_number_j3 s_0 K x1 h) ?_ ?_
  · refine cw_region ?_
    refine wl_q rfl rfl rfl (q_move rfl rfl) ?_
    refine wl_q rfl rfl rfl (q_len_string rfl rfl Go.Proofs.Tryz.underlying9 rfl) ?_
    refine wl_q rfl rfl rfl (q_bin rfl rfl rfl (fun _ _ => rfl)) ?_
    refine wl_q rfl rfl rfl (q_move rfl rfl) ?_
    rcases bool_or ((s_0.size : Int) != (9 : Int)) with hb29 | hb29
    · have hD := ifT hb29 hD
      refine wl_gn rfl rfl rfl hb29 rfl rfl ?_
      refine wl_gn rfl rfl rfl hb29 rfl rfl ?_
      refine wl_gn rfl rfl rfl hb29 rfl rfl ?_
      refine wl_q rfl rfl rfl (q_pickT rfl rfl hb29 rfl) ?_
      refine wl_keep (l' := [(0, Value.string s_0), (13, Value.bool true)]) (keep_cons rfl (keep_cons rfl keep_nil)) (wl_nil ?_)
      exact ⟨_, (keep_cons rfl (keep_cons rfl keep_nil)), hD⟩
    · have hD := ifF hb29 hD
      refine wl_gq rfl rfl rfl hb29 rfl rfl (q_move rfl rfl) ?_
      obtain ⟨c30, c31, hD⟩ := hD
      refine wl_gq rfl rfl rfl hb29 rfl rfl (q_index_string rfl rfl rfl Go.Proofs.Tryz.underlying9 c30 c31) ?_
      refine wl_gq rfl rfl rfl hb29 rfl rfl (q_bin rfl rfl rfl (fun _ _ => rfl)) ?_
      refine wl_q rfl rfl rfl (q_pickF rfl rfl hb29 rfl) ?_
      refine wl_keep (l' := [(0, Value.string s_0), (13, Value.bool ((bt s_0 0) != (119 : Int)))]) (keep_cons rfl (keep_cons rfl keep_nil)) (wl_nil ?_)
      exact ⟨_, (keep_cons rfl (keep_cons rfl keep_nil)), hD⟩
  · rintro l33 hz2 ⟨x1, hk32, hD⟩
    refine cw_keep hk32 ?_
    unfold D_wal_number_j3 at hD
    refine cw_cond rfl (fun hb3 => ?_) (fun hb3 => ?_)
    · have hD := ifT hb3 hD
      refine cw_seq ?_
      refine cw_region ?_
      refine wl_q rfl rfl rfl (q_assign rfl rfl) ?_
      refine wl_keep (l' := [(2, Value.int .i64 0)]) (keep_cons rfl keep_nil) (wl_nil ?_)
      refine cw_ret ?_
      exact ⟨_, resq1 rfl rfl, _, rfl, hD⟩
    · have hD := ifF hb3 hD
      refine cw_skip ?_
      refine cw_seq ?_
      refine cw_region ?_
      refine wl_q rfl rfl rfl (q_assign rfl rfl) ?_
      refine wl_keep (l' := [(0, Value.string s_0), (3, Value.int .i64 0)]) (keep_cons rfl (keep_cons rfl keep_nil)) (wl_nil ?_)
      refine cw_seq ?_
      refine cw_seq ?_
      refine cw_region ?_
      refine wl_q rfl rfl rfl (q_move rfl rfl) ?_
      obtain ⟨c4, c5, hD⟩ := hD
      refine wl_q rfl rfl rfl (q_slice_string rfl rfl Go.Proofs.Tryz.underlying9 ⟨_, _, rfl, rfl⟩ rfl c4 c5) ?_
      refine wl_e rfl rfl rfl (e_conv_to_bytes rfl rfl Go.Proofs.Tryz.underlying9 Go.Proofs.Tryz.underlying33 Go.Proofs.Tryz.underlying5 ?_)
      intro c7 hz6 c8 e9
      have hD := hD c7 hz6 c8 e9
      refine wl_q rfl rfl rfl (q_len_slice rfl rfl Go.Proofs.Tryz.underlying33 rfl) ?_
      refine wl_q rfl rfl rfl (q_move rfl rfl) ?_
      refine wl_keep (l' := [(3, Value.int .i64 0), (16, Sl.v (Sl.mk (some (blk hz2.size)) (s_0.extract 1 s_0.size).size c7)), (17, Value.int .i64 ((Sl.mk (some (blk hz2.size)) (s_0.extract 1 s_0.size).size c7).len : Int)), (18, Value.int .i64 0)]) (keep_cons rfl (keep_cons rfl (keep_cons rfl (keep_cons rfl keep_nil)))) (wl_nil ?_)
      refine cw_block ?_
      obtain ⟨I, μ, hI27, hL28⟩ := hD
      refine cw_loops (σ := Int × Int) (fun s => [(3, Value.int .i64 s.1), (16, Sl.v (Sl.mk (some (blk hz2.size)) (s_0.extract 1 s_0.size).size c7)), (17, Value.int .i64 ((Sl.mk (some (blk hz2.size)) (s_0.extract 1 s_0.size).size c7).len : Int)), (18, Value.int .i64 s.2)]) (0, 0) (fun s h => I s.1 s.2 h) (fun s h => μ s.1 s.2 h) (keep_cons rfl (keep_cons rfl (keep_cons rfl (keep_cons rfl keep_nil)))) hI27 ?_
      rintro ⟨n10, x11⟩ hz12 hI
      have hD := hL28 n10 x11 hz12 hI
      obtain ⟨C13, hC13⟩ : ∃ c : Int → Int → Hp → Prop, c = (fun n10' x11' h' => I n10' x11' h' ∧ μ n10' x11' h' < μ n10 x11 hz12) := ⟨_, rfl⟩
      rw [← hC13] at hD
      unfold D_wal_number_l2 at hD
      show cw _ _ _ [(3, Value.int .i64 n10), (16, Sl.v (Sl.mk (some (blk hz2.size)) (s_0.extract 1 s_0.size).size c7)), (17, Value.int .i64 ((Sl.mk (some (blk hz2.size)) (s_0.extract 1 s_0.size).size c7).len : Int)), (18, Value.int .i64 x11)] _ _ _ _
      refine cw_seq ?_
      refine cw_region ?_
      refine wl_q rfl rfl rfl (q_bin rfl rfl rfl (fun _ _ => rfl)) ?_
      refine wl_keep (l' := [(3, Value.int .i64 n10), (16, Sl.v (Sl.mk (some (blk hz2.size)) (s_0.extract 1 s_0.size).size c7)), (17, Value.int .i64 ((Sl.mk (some (blk hz2.size)) (s_0.extract 1 s_0.size).size c7).len : Int)), (18, Value.int .i64 x11), (19, Value.bool (decide (x11 < ((Sl.mk (some (blk hz2.size)) (s_0.extract 1 s_0.size).size c7).len : Int))))]) (keep_cons rfl (keep_cons rfl (keep_cons rfl (keep_cons rfl (keep_cons rfl keep_nil))))) (wl_nil ?_)
      refine cw_seq ?_
      refine cw_cond rfl (fun hb14 => ?_) (fun hb14 => ?_)
      · have hD := ifT hb14 hD
        refine cw_skip ?_
        refine cw_seq ?_
        refine cw_block ?_
        refine cw_seq ?_
        refine cw_region ?_
        obtain ⟨a15, c16, c17, c18, hD⟩ := hD
        refine wl_q rfl rfl rfl (q_indexAddr rfl rfl rfl Go.Proofs.Tryz.underlying33 sz_5 c16 c17 c18) ?_
        obtain ⟨x19, c20, hD⟩ := hD
        refine wl_q rfl rfl rfl (q_load rfl rfl Go.Proofs.Tryz.underlying5 rfl (At.cell c20)) ?_
        refine wl_q rfl rfl rfl (q_assign rfl rfl) ?_
        refine wl_keep (l' := [(3, Value.int .i64 n10), (5, Value.int .u8 x19), (16, Sl.v (Sl.mk (some (blk hz2.size)) (s_0.extract 1 s_0.size).size c7)), (17, Value.int .i64 ((Sl.mk (some (blk hz2.size)) (s_0.extract 1 s_0.size).size c7).len : Int)), (18, Value.int .i64 x11)]) (keep_cons rfl (keep_cons rfl (keep_cons rfl (keep_cons rfl (keep_cons rfl keep_nil))))) (wl_nil ?_)
        refine cw_seq ?_
        refine cw_cut (fun l h => ∃ (x21 : Bool), Keep l [(3, Value.int .i64 n10), (5, Value.int .u8 x19), (16, Sl.v (Sl.mk (some (blk hz2.size)) (s_0.extract 1 s_0.size).size c7)), (17, Value.int .i64 ((Sl.mk (some (blk hz2.size)) (s_0.extract 1 s_0.size).size c7).len : Int)), (18, Value.int .i64 x11), (27, Value.bool x21)] ∧ D_wal_number_j1 K n10 x11 C13 x19 x21 h) ?_ ?_
        · refine cw_region ?_
          refine wl_q rfl rfl rfl (q_move rfl rfl) ?_
          refine wl_q rfl rfl rfl (q_bin rfl rfl rfl (fun _ _ => rfl)) ?_
          refine wl_q rfl rfl rfl (q_move rfl rfl) ?_
          rcases bool_or (decide (x19 < (48 : Int))) with hb24 | hb24
          · have hD := ifT hb24 hD
            refine wl_gn rfl rfl rfl hb24 rfl rfl ?_
            refine wl_gn rfl rfl rfl hb24 rfl rfl ?_
            refine wl_q rfl rfl rfl (q_pickT rfl rfl hb24 rfl) ?_
            refine wl_keep (l' := [(3, Value.int .i64 n10), (5, Value.int .u8 x19), (16, Sl.v (Sl.mk (some (blk hz2.size)) (s_0.extract 1 s_0.size).size c7)), (17, Value.int .i64 ((Sl.mk (some (blk hz2.size)) (s_0.extract 1 s_0.size).size c7).len : Int)), (18, Value.int .i64 x11), (27, Value.bool true)]) (keep_cons rfl (keep_cons rfl (keep_cons rfl (keep_cons rfl (keep_cons rfl (keep_cons rfl keep_nil)))))) (wl_nil ?_)
            exact ⟨_, (keep_cons rfl (keep_cons rfl (keep_cons rfl (keep_cons rfl (keep_cons rfl (keep_cons rfl keep_nil)))))), hD⟩
          · have hD := ifF hb24 hD
            refine wl_gq rfl rfl rfl hb24 rfl rfl (q_move rfl rfl) ?_
            refine wl_gq rfl rfl rfl hb24 rfl rfl (q_bin rfl rfl rfl (fun _ _ => rfl)) ?_
            refine wl_q rfl rfl rfl (q_pickF rfl rfl hb24 rfl) ?_
            refine wl_keep (l' := [(3, Value.int .i64 n10), (5, Value.int .u8 x19), (16, Sl.v (Sl.mk (some (blk hz2.size)) (s_0.extract 1 s_0.size).size c7)), (17, Value.int .i64 ((Sl.mk (some (blk hz2.size)) (s_0.extract 1 s_0.size).size c7).len : Int)), (18, Value.int .i64 x11), (27, Value.bool (decide (x19 > (57 : Int))))]) (keep_cons rfl (keep_cons rfl (keep_cons rfl (keep_cons rfl (keep_cons rfl (keep_cons rfl keep_nil)))))) (wl_nil ?_)
            exact ⟨_, (keep_cons rfl (keep_cons rfl (keep_cons rfl (keep_cons rfl (keep_cons rfl (keep_cons rfl keep_nil)))))), hD⟩
        · rintro l26 hz22 ⟨x21, hk25, hD⟩
          refine cw_keep hk25 ?_
          unfold D_wal_number_j1 at hD
          refine cw_cond rfl (fun hb23 => ?_) (fun hb23 => ?_)
          · have hD := ifT hb23 hD
            refine cw_seq ?_
            refine cw_region ?_
            refine wl_q rfl rfl rfl (q_assign rfl rfl) ?_
            refine wl_keep (l' := [(2, Value.int .i64 0)]) (keep_cons rfl keep_nil) (wl_nil ?_)
            refine cw_ret ?_
            exact ⟨_, resq1 rfl rfl, _, rfl, hD⟩
          · have hD := ifF hb23 hD
            refine cw_skip ?_
            refine cw_region ?_
            refine wl_q rfl rfl rfl (q_move rfl rfl) ?_
            refine wl_q rfl rfl rfl (q_bin rfl rfl rfl (fun _ _ => rfl)) ?_
            refine wl_q rfl rfl rfl (q_move rfl rfl) ?_
            refine wl_q rfl rfl rfl (q_bin rfl rfl rfl (fun _ _ => rfl)) ?_
            refine wl_q rfl rfl rfl (q_conv_int rfl rfl Go.Proofs.Tryz.underlying5 Go.Proofs.Tryz.underlying3) ?_
            refine wl_q rfl rfl rfl (q_bin rfl rfl rfl (fun _ _ => rfl)) ?_
            refine wl_q rfl rfl rfl (q_assign rfl rfl) ?_
            refine wl_keep (l' := [(3, Value.int .i64 (IntKind.i64.wrap ((IntKind.i64.wrap (10 * n10)) + (IntKind.i64.wrap (IntKind.u8.wrap (x19 - 48)))))), (16, Sl.v (Sl.mk (some (blk hz2.size)) (s_0.extract 1 s_0.size).size c7)), (17, Value.int .i64 ((Sl.mk (some (blk hz2.size)) (s_0.extract 1 s_0.size).size c7).len : Int)), (18, Value.int .i64 x11)]) (keep_cons rfl (keep_cons rfl (keep_cons rfl (keep_cons rfl keep_nil)))) (wl_nil ?_)
            refine cw_region ?_
            refine wl_q rfl rfl rfl (q_bin rfl rfl rfl (fun _ _ => rfl)) ?_
            refine wl_q rfl rfl rfl (q_move rfl rfl) ?_
            refine wl_keep (l' := [(3, Value.int .i64 (IntKind.i64.wrap ((IntKind.i64.wrap (10 * n10)) + (IntKind.i64.wrap (IntKind.u8.wrap (x19 - 48)))))), (16, Sl.v (Sl.mk (some (blk hz2.size)) (s_0.extract 1 s_0.size).size c7)), (17, Value.int .i64 ((Sl.mk (some (blk hz2.size)) (s_0.extract 1 s_0.size).size c7).len : Int)), (18, Value.int .i64 (IntKind.i64.wrap (x11 + 1)))]) (keep_cons rfl (keep_cons rfl (keep_cons rfl (keep_cons rfl keep_nil)))) (wl_nil ?_)
            rw [hC13] at hD
            exact ⟨(IntKind.i64.wrap ((IntKind.i64.wrap (10 * n10)) + (IntKind.i64.wrap (IntKind.u8.wrap (x19 - 48)))), IntKind.i64.wrap (x11 + 1)), (keep_cons rfl (keep_cons rfl (keep_cons rfl (keep_cons rfl keep_nil)))), hD⟩
      · have hD := ifF hb14 hD
        refine cw_exit ?_
        refine xput_same ?_
        refine cw_seq ?_
        refine cw_region ?_
        refine wl_q rfl rfl rfl (q_move rfl rfl) ?_
        refine wl_q rfl rfl rfl (q_assign rfl rfl) ?_
        refine wl_keep (l' := [(2, Value.int .i64 n10)]) (keep_cons rfl keep_nil) (wl_nil ?_)
        refine cw_ret ?_
        exact ⟨_, resq1 rfl rfl, _, rfl, hD⟩
end Go.Proofs.YtgdmjdacmebfjaaGreatDoor.D

namespace Go.Proofs.YtgdmjdacmebfjaaGreatDoor.D
open Go
set_option maxRecDepth 100000
theorem S_disk_Disk_Read {d_0 : Option Addr} {name_1 : ByteArray} {h0 : Hp} {K : ByteArray → Int → Hp → Prop} (hD : D_disk_Disk_Read d_0 name_1 h0 K) : C_disk_Disk_Read d_0 name_1 h0 K := by
  unfold D_disk_Disk_Read at hD
  refine calls_cw (args := [Value.pointer d_0, Value.string name_1]) Go.Proofs.Tryz.func18 rfl ?_
  show cw _ 25 _ [(0, Value.pointer d_0), (1, Value.string name_1)] _ _ _ _
  refine cw_seq ?_
  refine cw_region ?_
  refine wl_q rfl rfl rfl (q_assign rfl rfl) ?_
  refine wl_q rfl rfl rfl (q_assign rfl rfl) ?_
  refine wl_keep (l' := [(0, Value.pointer d_0), (1, Value.string name_1)]) (keep_cons rfl (keep_cons rfl keep_nil)) (wl_nil ?_)
  refine cw_seq ?_
  refine cw_region ?_
  refine wl_q rfl rfl rfl (q_move rfl rfl) ?_
  obtain ⟨a1, c2, hD⟩ := hD
  refine wl_q rfl rfl rfl (q_nil rfl rfl c2) ?_
  refine wl_q rfl rfl rfl (q_fieldAddr rfl rfl fo_45_1) ?_
  obtain ⟨x3, c4, hD⟩ := hD
  refine wl_q rfl rfl rfl (q_load rfl rfl Go.Proofs.Tryz.underlying42 rfl (At.cell c4)) ?_
  refine wl_q rfl rfl rfl (q_move rfl rfl) ?_
  obtain ⟨es5, c6, c7, v8, c9, hD⟩ := hD
  refine wl_q rfl rfl rfl (q_lookup1 rfl rfl rfl Go.Proofs.Tryz.underlying42 Go.Proofs.Tryz.underlying9 zr_74 c7 (At.mapEs c6) c9) ?_
  refine wl_q rfl rfl rfl (q_assign rfl rfl) ?_
  refine wl_keep (l' := [(0, Value.pointer d_0), (6, Value.pointer v8)]) (keep_cons rfl (keep_cons rfl keep_nil)) (wl_nil ?_)
  refine cw_seq ?_
  refine cw_block ?_
  refine cw_seq ?_
  refine cw_region ?_
  refine wl_q rfl rfl rfl (q_move rfl rfl) ?_
  refine wl_q rfl rfl rfl (q_nil rfl rfl c2) ?_
  refine wl_q rfl rfl rfl (q_fieldAddr rfl rfl fo_45_4) ?_
  obtain ⟨x10, c11, hD⟩ := hD
  refine wl_q rfl rfl rfl (q_load rfl rfl Go.Proofs.Tryz.underlying4 rfl (At.cell c11)) ?_
  refine wl_q rfl rfl rfl (q_assign rfl rfl) ?_
  refine wl_keep (l' := [(6, Value.pointer v8), (13, Value.bool x10)]) (keep_cons rfl (keep_cons rfl keep_nil)) (wl_nil ?_)
  refine cw_cond rfl (fun hb12 => ?_) (fun hb12 => ?_)
  · have hD := ifT hb12 hD
    refine cw_seq ?_
    refine cw_region ?_
    refine wl_q rfl rfl rfl (q_assign rfl rfl) ?_
    refine wl_q rfl rfl rfl (q_assign rfl rfl) ?_
    refine wl_keep (l' := [(4, Value.string (ByteArray.mk #[])), (5, Value.int .i64 11)]) (keep_cons rfl (keep_cons rfl keep_nil)) (wl_nil ?_)
    refine cw_ret ?_
    exact ⟨_, resq2 rfl rfl rfl, _, _, rfl, hD⟩
  · have hD := ifF hb12 hD
    refine cw_seq ?_
    refine cw_region ?_
    refine wl_q rfl rfl rfl (q_move rfl rfl) ?_
    refine wl_q rfl rfl rfl (q_bin rfl rfl rfl (fun _ _ => sem_eq_ptr_nil Go.Proofs.Tryz.underlying74)) ?_
    refine wl_q rfl rfl rfl (q_assign rfl rfl) ?_
    refine wl_keep (l' := [(6, Value.pointer v8), (18, Value.bool v8.isNone)]) (keep_cons rfl (keep_cons rfl keep_nil)) (wl_nil ?_)
    refine cw_cond rfl (fun hb13 => ?_) (fun hb13 => ?_)
    · have hD := ifT hb13 hD
      refine cw_seq ?_
      refine cw_region ?_
      refine wl_q rfl rfl rfl (q_assign rfl rfl) ?_
      refine wl_q rfl rfl rfl (q_assign rfl rfl) ?_
      refine wl_keep (l' := [(4, Value.string (ByteArray.mk #[])), (5, Value.int .i64 12)]) (keep_cons rfl (keep_cons rfl keep_nil)) (wl_nil ?_)
      refine cw_ret ?_
      exact ⟨_, resq2 rfl rfl rfl, _, _, rfl, hD⟩
    · have hD := ifF hb13 hD
      refine cw_skip ?_
      refine cw_seq ?_
      refine cw_region ?_
      refine wl_q rfl rfl rfl (q_move rfl rfl) ?_
      obtain ⟨a14, c15, hD⟩ := hD
      refine wl_q rfl rfl rfl (q_nil rfl rfl c15) ?_
      refine wl_q rfl rfl rfl (q_fieldAddr rfl rfl fo_76_0) ?_
      obtain ⟨x16, c17, hD⟩ := hD
      refine wl_q rfl rfl rfl (q_load rfl rfl Go.Proofs.Tryz.underlying9 rfl (At.cell c17)) ?_
      refine wl_q rfl rfl rfl (q_assign rfl rfl) ?_
      refine wl_q rfl rfl rfl (q_assign rfl rfl) ?_
      refine wl_keep (l' := [(4, Value.string x16), (5, Value.int .i64 0)]) (keep_cons rfl (keep_cons rfl keep_nil)) (wl_nil ?_)
      refine cw_ret ?_
      exact ⟨_, resq2 rfl rfl rfl, _, _, rfl, hD⟩
end Go.Proofs.YtgdmjdacmebfjaaGreatDoor.D

namespace Go.Proofs.YtgdmjdacmebfjaaGreatDoor.D
open Go
set_option maxRecDepth 100000
theorem S_wal_parse {first_0 : Int} {s_1 : ByteArray} {h0 : Hp} {K : Option Addr → Hp → Prop} (hD : D_wal_parse first_0 s_1 h0 K) : C_wal_parse first_0 s_1 h0 K := by
  unfold D_wal_parse at hD
  refine calls_cw (args := [Value.int .i64 first_0, Value.string s_1]) Go.Proofs.Tryz.func19 rfl ?_
  show cw _ 59 _ [(0, Value.int .i64 first_0), (1, Value.string s_1)] _ _ _ _
  refine cw_seq ?_
  refine cw_region ?_
  refine wl_q rfl rfl rfl (q_assign rfl rfl) ?_
  refine wl_keep (l' := [(0, Value.int .i64 first_0), (1, Value.string s_1)]) (keep_cons rfl (keep_cons rfl keep_nil)) (wl_nil ?_)
  refine cw_seq ?_
  refine cw_region ?_
  refine wl_q rfl rfl rfl (q_move rfl rfl) ?_
  refine wl_q rfl rfl rfl (q_build (v := Value.agg #[Value.int .i64 first_0, Sl.v (Sl.mk none 0 0), Value.int .i64 0, Value.bool false]) rfl rfl (fun _ _ => by kernel_rfl)) ?_
  refine wl_e rfl rfl rfl (e_box rfl rfl ?_)
  intro hz1 e2
  have hD := hD hz1 e2
  refine wl_q rfl rfl rfl (q_assign rfl rfl) ?_
  refine wl_keep (l' := [(1, Value.string s_1), (5, Value.pointer (some (blk h0.size)))]) (keep_cons rfl (keep_cons rfl keep_nil)) (wl_nil ?_)
  refine cw_cut (fun l h => Keep l [(5, Value.pointer (some (blk h0.size)))] ∧ D_wal_parse_j1 h0 K h) ?_ ?_
  · refine cw_block ?_
    obtain ⟨I, μ, hI53, hL54⟩ := hD
    refine cw_loops (σ := Unit) (fun s => [(1, Value.string s_1), (5, Value.pointer (some (blk h0.size)))]) () (fun s h => I h) (fun s h => μ h) (keep_cons rfl (keep_cons rfl keep_nil)) hI53 ?_
    rintro ⟨⟩ hz4 hI
    have hD := hL54 hz4 hI
    obtain ⟨C5, hC5⟩ : ∃ c : Hp → Prop, c = (fun  h' => I  h' ∧ μ  h' < μ hz4) := ⟨_, rfl⟩
    rw [← hC5] at hD
    unfold D_wal_parse_l3 at hD
    show cw _ _ _ [(1, Value.string s_1), (5, Value.pointer (some (blk h0.size)))] _ _ _ _
    refine cw_seq ?_
    refine cw_seq ?_
    refine cw_region ?_
    refine wl_q rfl rfl rfl (q_move rfl rfl) ?_
    refine wl_q rfl rfl rfl (q_nil rfl rfl rfl) ?_
    refine wl_q rfl rfl rfl (q_fieldAddr rfl rfl fo_63_2) ?_
    obtain ⟨x6, c7, hD⟩ := hD
    refine wl_q rfl rfl rfl (q_load rfl rfl Go.Proofs.Tryz.underlying3 rfl (At.cell c7)) ?_
    refine wl_q rfl rfl rfl (q_move rfl rfl) ?_
    refine wl_q rfl rfl rfl (q_len_string rfl rfl Go.Proofs.Tryz.underlying9 rfl) ?_
    refine wl_q rfl rfl rfl (q_bin rfl rfl rfl (fun _ _ => rfl)) ?_
    refine wl_keep (l' := [(1, Value.string s_1), (5, Value.pointer (some (blk h0.size))), (18, Value.bool (decide (x6 < (s_1.size : Int))))]) (keep_cons rfl (keep_cons rfl (keep_cons rfl keep_nil))) (wl_nil ?_)
    refine cw_cond rfl (fun hb8 => ?_) (fun hb8 => ?_)
    · have hD := ifT hb8 hD
      refine cw_skip ?_
      refine cw_block ?_
      refine cw_seq ?_
      refine cw_region ?_
      refine wl_q rfl rfl rfl (q_move rfl rfl) ?_
      refine wl_q rfl rfl rfl (q_move rfl rfl) ?_
      refine wl_q rfl rfl rfl (q_nil rfl rfl rfl) ?_
      refine wl_q rfl rfl rfl (q_fieldAddr rfl rfl fo_63_2) ?_
      obtain ⟨x9, c10, hD⟩ := hD
      refine wl_q rfl rfl rfl (q_load rfl rfl Go.Proofs.Tryz.underlying3 rfl (At.cell c10)) ?_
      obtain ⟨n11, c12, c13, c14, hD⟩ := hD
      refine wl_q rfl rfl rfl (q_slice_string rfl rfl Go.Proofs.Tryz.underlying9 ⟨_, _, rfl, c12⟩ rfl c13 c14) ?_
      refine wl_e rfl rfl rfl (e_call (first := []) (vs := [Value.string (s_1.extract n11 s_1.size)]) (cap := []) rfl rfl rfl cf_37 (CallsH.mono hD ?_))
      rintro _ hz15 ⟨r16, r17, r18, r19, rfl, hD⟩
      refine wl_q rfl rfl rfl (q_move rfl rfl) ?_
      refine wl_q rfl rfl rfl (q_extract rfl rfl rfl) ?_
      refine wl_q rfl rfl rfl (q_extract rfl rfl rfl) ?_
      refine wl_q rfl rfl rfl (q_extract rfl rfl rfl) ?_
      refine wl_e rfl rfl rfl (e_alloc rfl zr_61 ?_)
      intro hz20 e21
      have hD := hD hz20 e21
      obtain ⟨c23, hD⟩ := hD
      refine wl_e0 rfl rfl (e_stores (vs := [Value.int .i64 r16, Value.string r17]) rfl rfl rfl sz_61 c23 ?_)
      intro hz22 e24
      have hD := hD hz22 e24
      refine wl_q rfl rfl rfl (q_assign rfl rfl) ?_
      refine wl_q rfl rfl rfl (q_assign rfl rfl) ?_
      refine wl_keep (l' := [(1, Value.string s_1), (5, Value.pointer (some (blk h0.size))), (6, Value.pointer (some (blk hz15.size))), (7, Value.int .i64 r18), (8, Value.int .i64 r19)]) (keep_cons rfl (keep_cons rfl (keep_cons rfl (keep_cons rfl (keep_cons rfl keep_nil))))) (wl_nil ?_)
      refine cw_seq ?_
      refine cw_cut (fun l h => ∃ (x25 : Bool), Keep l [(1, Value.string s_1), (5, Value.pointer (some (blk h0.size))), (7, Value.int .i64 r18), (36, Value.bool x25)] ∧ D_wal_parse_j2 h0 K C5 r18 x25 h) ?_ ?_
      · refine cw_region ?_
        refine wl_q rfl rfl rfl (q_move rfl rfl) ?_
        refine wl_q rfl rfl rfl (q_bin rfl rfl rfl (fun _ _ => rfl)) ?_
        refine wl_q rfl rfl rfl (q_move rfl rfl) ?_
        rcases bool_or (r19 != (0 : Int)) with hb48 | hb48
        · have hD := ifT hb48 hD
          refine wl_gn rfl rfl rfl hb48 rfl rfl ?_
          refine wl_gn rfl rfl rfl hb48 rfl rfl ?_
          refine wl_gn rfl rfl rfl hb48 rfl rfl ?_
          refine wl_q rfl rfl rfl (q_pickT rfl rfl hb48 rfl) ?_
          refine wl_keep (l' := [(1, Value.string s_1), (5, Value.pointer (some (blk h0.size))), (7, Value.int .i64 r18), (36, Value.bool true)]) (keep_cons rfl (keep_cons rfl (keep_cons rfl (keep_cons rfl keep_nil)))) (wl_nil ?_)
          exact ⟨_, (keep_cons rfl (keep_cons rfl (keep_cons rfl (keep_cons rfl keep_nil)))), hD⟩
        · have hD := ifF hb48 hD
          refine wl_gq rfl rfl rfl hb48 rfl rfl (q_fieldAddr rfl rfl fo_61_0) ?_
          obtain ⟨x49, c50, hD⟩ := hD
          refine wl_gq rfl rfl rfl hb48 rfl rfl (q_load rfl rfl Go.Proofs.Tryz.underlying3 rfl (At.cell c50)) ?_
          refine wl_gq rfl rfl rfl hb48 rfl rfl (q_bin rfl rfl rfl (fun _ _ => rfl)) ?_
          refine wl_q rfl rfl rfl (q_pickF rfl rfl hb48 rfl) ?_
          refine wl_keep (l' := [(1, Value.string s_1), (5, Value.pointer (some (blk h0.size))), (7, Value.int .i64 r18), (36, Value.bool (x49 != (1 : Int)))]) (keep_cons rfl (keep_cons rfl (keep_cons rfl (keep_cons rfl keep_nil)))) (wl_nil ?_)
          exact ⟨_, (keep_cons rfl (keep_cons rfl (keep_cons rfl (keep_cons rfl keep_nil)))), hD⟩
      · rintro l52 hz26 ⟨x25, hk51, hD⟩
        refine cw_keep hk51 ?_
        unfold D_wal_parse_j2 at hD
        refine cw_cond rfl (fun hb27 => ?_) (fun hb27 => ?_)
        · have hD := ifT hb27 hD
          refine cw_exit ?_
          refine xput_other rfl ?_
          refine xput_same ?_
          exact ⟨(keep_cons rfl keep_nil), hD⟩
        · have hD := ifF hb27 hD
          refine cw_skip ?_
          refine cw_seq ?_
          obtain ⟨x28, c29, hD⟩ := hD
          obtain ⟨x30, c31, hD⟩ := hD
          refine cw_draw (fun h => cellH h ((blk h0.size).add 1) = some (Sl.v x28) ∧ cellH h ((blk h0.size).add 2) = some (Value.int .i64 x30) ∧ True) 13 wide ?_
          have hS : cellH hz26 ((blk h0.size).add 1) = some (Sl.v x28) ∧ cellH hz26 ((blk h0.size).add 2) = some (Value.int .i64 x30) ∧ True := ⟨c29, c31, trivial⟩
          refine wh_q 0 rfl (by kernel_rfl) rfl rfl rfl (q_move rfl rfl) (by exact hS) ?_
          refine wh_q 1 rfl (by kernel_rfl) rfl rfl rfl (q_move rfl rfl) (by exact hS) ?_
          refine wh_q 2 rfl (by kernel_rfl) rfl rfl rfl (q_nil rfl rfl rfl) (by exact hS) ?_
          refine wh_q 3 rfl (by kernel_rfl) rfl rfl rfl (q_fieldAddr rfl rfl fo_63_1) (by exact hS) ?_
          refine wh_q 4 rfl (by kernel_rfl) rfl rfl rfl (q_load rfl rfl Go.Proofs.Tryz.underlying22 rfl (by exact fun _ s => s.1)) (by exact hS) ?_
          refine wh_q 5 rfl (by kernel_rfl) rfl rfl rfl (q_move rfl rfl) (by exact hS) ?_
          refine wh_q 6 rfl (by kernel_rfl) rfl rfl rfl (q_nil rfl rfl rfl) (by exact hS) ?_
          refine wh_q 7 rfl (by kernel_rfl) rfl rfl rfl (q_fieldAddr rfl rfl fo_63_2) (by exact hS) ?_
          refine wh_q 8 rfl (by kernel_rfl) rfl rfl rfl (q_load rfl rfl Go.Proofs.Tryz.underlying3 rfl (by exact fun _ s => s.2.1)) (by exact hS) ?_
          refine wh_e 9 rfl (by kernel_rfl) rfl rfl rfl (e_buildSlice (cs := #[Value.int .i64 x30]) rfl rfl Go.Proofs.Tryz.underlying22 sz_3 zr_3 (by decide) (by kernel_rfl) ?_)
          intro hz32 e33
          have hD := hD hz32 e33
          obtain ⟨hk0, hk1, hD⟩ := hD
          refine ⟨⟨hk0, hk1, trivial⟩, ?_⟩
          have hS : cellH hz32 ((blk h0.size).add 1) = some (Sl.v x28) ∧ cellH hz32 ((blk h0.size).add 2) = some (Value.int .i64 x30) ∧ True := ⟨hk0, hk1, trivial⟩
          refine wh_e 10 rfl (by kernel_rfl) rfl rfl rfl (e_append (s := x28) (news := [Value.int .i64 x30]) rfl rfl rfl rfl Go.Proofs.Tryz.underlying22 Go.Proofs.Tryz.underlying22 sz_3 by_3 zr_3 rfl (srcAt_new e33) (apd_mono hD ?_))
          intro s35 hz34 hD
          obtain ⟨hk0, hk1, hD⟩ := hD
          refine ⟨⟨hk0, hk1, trivial⟩, ?_⟩
          have hS : cellH hz34 ((blk h0.size).add 1) = some (Sl.v x28) ∧ cellH hz34 ((blk h0.size).add 2) = some (Value.int .i64 x30) ∧ True := ⟨hk0, hk1, trivial⟩
          refine wh_q 11 rfl (by kernel_rfl) rfl rfl rfl (q_nil rfl rfl rfl) (by exact hS) ?_
          refine wh_q 12 rfl (by kernel_rfl) rfl rfl rfl (q_fieldAddr rfl rfl fo_63_1) (by exact hS) ?_
          obtain ⟨u37, c38, c39, hD⟩ := hD
          refine wh_last 13 rfl (by kernel_rfl) rfl rfl rfl (e_store rfl rfl rfl sz_22 trivial c38 c39 ?_)
          intro hz36 e40
          have hD := hD hz36 e40
          refine wh_keep (l' := [(1, Value.string s_1), (5, Value.pointer (some (blk h0.size))), (7, Value.int .i64 r18)]) (keep_cons rfl (keep_cons rfl (keep_cons rfl keep_nil))) (wh_done (by kernel_rfl) ?_)
          refine cw_region ?_
          refine wl_q rfl rfl rfl (q_move rfl rfl) ?_
          refine wl_q rfl rfl rfl (q_nil rfl rfl rfl) ?_
          refine wl_q rfl rfl rfl (q_fieldAddr rfl rfl fo_63_2) ?_
          obtain ⟨x41, c42, hD⟩ := hD
          refine wl_q rfl rfl rfl (q_load rfl rfl Go.Proofs.Tryz.underlying3 rfl (At.cell c42)) ?_
          refine wl_q rfl rfl rfl (q_move rfl rfl) ?_
          refine wl_q rfl rfl rfl (q_bin rfl rfl rfl (fun _ _ => rfl)) ?_
          refine wl_q rfl rfl rfl (q_nil rfl rfl rfl) ?_
          refine wl_q rfl rfl rfl (q_fieldAddr rfl rfl fo_63_2) ?_
          obtain ⟨u44, c45, c46, hD⟩ := hD
          refine wl_e0 rfl rfl (e_store rfl rfl rfl sz_3 trivial c45 c46 ?_)
          intro hz43 e47
          have hD := hD hz43 e47
          refine wl_keep (l' := [(1, Value.string s_1), (5, Value.pointer (some (blk h0.size)))]) (keep_cons rfl (keep_cons rfl keep_nil)) (wl_nil ?_)
          rw [hC5] at hD
          exact ⟨(), (keep_cons rfl (keep_cons rfl keep_nil)), hD⟩
    · have hD := ifF hb8 hD
      refine cw_exit ?_
      refine xput_same ?_
      exact ⟨(keep_cons rfl keep_nil), hD⟩
  · rintro l56 hz3 ⟨hk55, hD⟩
    refine cw_keep hk55 ?_
    unfold D_wal_parse_j1 at hD
    refine cw_seq ?_
    refine cw_region ?_
    refine wl_q rfl rfl rfl (q_move rfl rfl) ?_
    refine wl_q rfl rfl rfl (q_assign rfl rfl) ?_
    refine wl_keep (l' := [(4, Value.pointer (some (blk h0.size)))]) (keep_cons rfl keep_nil) (wl_nil ?_)
    refine cw_ret ?_
    exact ⟨_, resq1 rfl rfl, _, rfl, hD⟩
end Go.Proofs.YtgdmjdacmebfjaaGreatDoor.D

namespace Go.Proofs.YtgdmjdacmebfjaaGreatDoor.D
open Go
set_option maxRecDepth 100000
theorem S_wal_Log_fits {l_0 : Option Addr} {x_1 : Option Addr} {base_2 : Int} {h0 : Hp} {K : Bool → Hp → Prop} (hD : D_wal_Log_fits l_0 x_1 base_2 h0 K) : C_wal_Log_fits l_0 x_1 base_2 h0 K := by
  unfold D_wal_Log_fits at hD
  refine calls_cw (args := [Value.pointer l_0, Value.pointer x_1, Value.int .i64 base_2]) Go.Proofs.Tryz.func20 rfl ?_
  show cw _ 34 _ [(0, Value.pointer l_0), (1, Value.pointer x_1), (2, Value.int .i64 base_2)] _ _ _ _
  refine cw_seq ?_
  refine cw_region ?_
  refine wl_q rfl rfl rfl (q_assign rfl rfl) ?_
  refine wl_keep (l' := [(0, Value.pointer l_0), (1, Value.pointer x_1), (2, Value.int .i64 base_2)]) (keep_cons rfl (keep_cons rfl (keep_cons rfl keep_nil))) (wl_nil ?_)
  refine cw_seq ?_
  refine cw_seq ?_
  refine cw_region ?_
  refine wl_q rfl rfl rfl (q_move rfl rfl) ?_
  obtain ⟨a1, c2, hD⟩ := hD
  refine wl_q rfl rfl rfl (q_nil rfl rfl c2) ?_
  refine wl_q rfl rfl rfl (q_fieldAddr rfl rfl fo_63_1) ?_
  obtain ⟨x3, c4, hD⟩ := hD
  refine wl_q rfl rfl rfl (q_load rfl rfl Go.Proofs.Tryz.underlying22 rfl (At.cell c4)) ?_
  refine wl_q rfl rfl rfl (q_len_slice rfl rfl Go.Proofs.Tryz.underlying22 rfl) ?_
  refine wl_q rfl rfl rfl (q_bin rfl rfl rfl (fun _ _ => rfl)) ?_
  refine wl_keep (l' := [(0, Value.pointer l_0), (1, Value.pointer x_1), (2, Value.int .i64 base_2), (12, Value.bool ((x3.len : Int) == (0 : Int)))]) (keep_cons rfl (keep_cons rfl (keep_cons rfl (keep_cons rfl keep_nil)))) (wl_nil ?_)
  refine cw_cond rfl (fun hb5 => ?_) (fun hb5 => ?_)
  · have hD := ifT hb5 hD
    refine cw_seq ?_
    refine cw_region ?_
    refine wl_q rfl rfl rfl (q_assign rfl rfl) ?_
    refine wl_keep (l' := [(6, Value.bool false)]) (keep_cons rfl keep_nil) (wl_nil ?_)
    refine cw_ret ?_
    exact ⟨_, resq1 rfl rfl, _, rfl, hD⟩
  · have hD := ifF hb5 hD
    refine cw_skip ?_
    refine cw_seq ?_
    refine cw_seq ?_
    refine cw_region ?_
    refine wl_q rfl rfl rfl (q_move rfl rfl) ?_
    obtain ⟨a6, c7, hD⟩ := hD
    refine wl_q rfl rfl rfl (q_nil rfl rfl c7) ?_
    refine wl_q rfl rfl rfl (q_fieldAddr rfl rfl fo_49_1) ?_
    obtain ⟨x8, c9, hD⟩ := hD
    refine wl_q rfl rfl rfl (q_load rfl rfl Go.Proofs.Tryz.underlying46 rfl (At.cell c9)) ?_
    refine wl_q rfl rfl rfl (q_len_slice rfl rfl Go.Proofs.Tryz.underlying46 rfl) ?_
    refine wl_q rfl rfl rfl (q_bin rfl rfl rfl (fun _ _ => rfl)) ?_
    refine wl_keep (l' := [(0, Value.pointer l_0), (1, Value.pointer x_1), (2, Value.int .i64 base_2), (18, Value.bool ((x8.len : Int) == (0 : Int)))]) (keep_cons rfl (keep_cons rfl (keep_cons rfl (keep_cons rfl keep_nil)))) (wl_nil ?_)
    refine cw_cond rfl (fun hb10 => ?_) (fun hb10 => ?_)
    · have hD := ifT hb10 hD
      refine cw_seq ?_
      refine cw_region ?_
      refine wl_q rfl rfl rfl (q_move rfl rfl) ?_
      refine wl_q rfl rfl rfl (q_nil rfl rfl c2) ?_
      refine wl_q rfl rfl rfl (q_fieldAddr rfl rfl fo_63_0) ?_
      obtain ⟨x11, c12, hD⟩ := hD
      refine wl_q rfl rfl rfl (q_load rfl rfl Go.Proofs.Tryz.underlying3 rfl (At.cell c12)) ?_
      refine wl_q rfl rfl rfl (q_move rfl rfl) ?_
      refine wl_q rfl rfl rfl (q_bin rfl rfl rfl (fun _ _ => rfl)) ?_
      refine wl_q rfl rfl rfl (q_bin rfl rfl rfl (fun _ _ => rfl)) ?_
      refine wl_q rfl rfl rfl (q_assign rfl rfl) ?_
      refine wl_keep (l' := [(6, Value.bool (decide (x11 ≤ (IntKind.i64.wrap (base_2 + 1)))))]) (keep_cons rfl keep_nil) (wl_nil ?_)
      refine cw_ret ?_
      exact ⟨_, resq1 rfl rfl, _, rfl, hD⟩
    · have hD := ifF hb10 hD
      refine cw_skip ?_
      refine cw_seq ?_
      obtain ⟨x13, c14, hD⟩ := hD
      refine cw_draw (fun h => cellH h (a1.add 0) = some (Value.int .i64 x13) ∧ True) 9 wide ?_
      have hS : cellH h0 (a1.add 0) = some (Value.int .i64 x13) ∧ True := ⟨c14, trivial⟩
      refine wh_q 0 rfl (by kernel_rfl) rfl rfl rfl (q_move rfl rfl) (by exact hS) ?_
      refine wh_q 1 rfl (by kernel_rfl) rfl rfl rfl (q_nil rfl rfl c2) (by exact hS) ?_
      refine wh_q 2 rfl (by kernel_rfl) rfl rfl rfl (q_fieldAddr rfl rfl fo_63_0) (by exact hS) ?_
      refine wh_q 3 rfl (by kernel_rfl) rfl rfl rfl (q_load rfl rfl Go.Proofs.Tryz.underlying3 rfl (by exact fun _ s => s.1)) (by exact hS) ?_
      refine wh_q 4 rfl (by kernel_rfl) rfl rfl rfl (q_move rfl rfl) (by exact hS) ?_
      refine wh_e 5 rfl (by kernel_rfl) rfl rfl rfl (e_call (first := []) (vs := [Value.pointer l_0]) (cap := []) rfl rfl rfl cf_21 (CallsH.mono hD ?_))
      rintro _ hz15 ⟨r16, rfl, hD⟩
      obtain ⟨hk0, hD⟩ := hD
      refine ⟨⟨hk0, trivial⟩, ?_⟩
      have hS : cellH hz15 (a1.add 0) = some (Value.int .i64 x13) ∧ True := ⟨hk0, trivial⟩
      refine wh_q 6 rfl (by kernel_rfl) rfl rfl rfl (q_bin rfl rfl rfl (fun _ _ => rfl)) (by exact hS) ?_
      refine wh_q 7 rfl (by kernel_rfl) rfl rfl rfl (q_bin rfl rfl rfl (fun _ _ => rfl)) (by exact hS) ?_
      refine wh_q 8 rfl (by kernel_rfl) rfl rfl rfl (q_assign rfl rfl) (by exact hS) ?_
      refine wh_keep (l' := [(6, Value.bool (x13 == (IntKind.i64.wrap (r16 + 1))))]) (keep_cons rfl keep_nil) (wh_done (by kernel_rfl) ?_)
      refine cw_ret ?_
      exact ⟨_, resq1 rfl rfl, _, rfl, hD⟩
end Go.Proofs.YtgdmjdacmebfjaaGreatDoor.D

namespace Go.Proofs.YtgdmjdacmebfjaaGreatDoor.D
open Go
set_option maxRecDepth 100000
theorem S_wal_Log_end {l_0 : Option Addr} {h0 : Hp} {K : Int → Hp → Prop} (hD : D_wal_Log_end l_0 h0 K) : C_wal_Log_end l_0 h0 K := by
  unfold D_wal_Log_end at hD
  refine calls_cw (args := [Value.pointer l_0]) Go.Proofs.Tryz.func21 rfl ?_
  show cw _ 22 _ [(0, Value.pointer l_0)] _ _ _ _
  refine cw_seq ?_
  refine cw_region ?_
  refine wl_q rfl rfl rfl (q_assign rfl rfl) ?_
  refine wl_keep (l' := [(0, Value.pointer l_0)]) (keep_cons rfl keep_nil) (wl_nil ?_)
  refine cw_seq ?_
  refine cw_seq ?_
  refine cw_region ?_
  refine wl_q rfl rfl rfl (q_move rfl rfl) ?_
  obtain ⟨a1, c2, hD⟩ := hD
  refine wl_q rfl rfl rfl (q_nil rfl rfl c2) ?_
  refine wl_q rfl rfl rfl (q_fieldAddr rfl rfl fo_49_1) ?_
  obtain ⟨x3, c4, hD⟩ := hD
  refine wl_q rfl rfl rfl (q_load rfl rfl Go.Proofs.Tryz.underlying46 rfl (At.cell c4)) ?_
  refine wl_q rfl rfl rfl (q_len_slice rfl rfl Go.Proofs.Tryz.underlying46 rfl) ?_
  refine wl_q rfl rfl rfl (q_bin rfl rfl rfl (fun _ _ => rfl)) ?_
  refine wl_keep (l' := [(0, Value.pointer l_0), (8, Value.bool ((x3.len : Int) == (0 : Int)))]) (keep_cons rfl (keep_cons rfl keep_nil)) (wl_nil ?_)
  refine cw_cond rfl (fun hb5 => ?_) (fun hb5 => ?_)
  · have hD := ifT hb5 hD
    refine cw_seq ?_
    refine cw_region ?_
    refine wl_q rfl rfl rfl (q_assign rfl rfl) ?_
    refine wl_keep (l' := [(2, Value.int .i64 0)]) (keep_cons rfl keep_nil) (wl_nil ?_)
    refine cw_ret ?_
    exact ⟨_, resq1 rfl rfl, _, rfl, hD⟩
  · have hD := ifF hb5 hD
    refine cw_skip ?_
    refine cw_seq ?_
    obtain ⟨x6, c7, hD⟩ := hD
    obtain ⟨x8, c9, hD⟩ := hD
    obtain ⟨a10, c11, c12, c13, hD⟩ := hD
    obtain ⟨x14, c15, hD⟩ := hD
    refine cw_draw (fun h => cellH h (a1.add 1) = some (Sl.v x6) ∧ cellH h (a1.add 1) = some (Sl.v x8) ∧ cellH h (a10.add ((IntKind.i64.wrap ((x8.len : Int) - 1)).toNat * 1)) = some (Value.pointer x14) ∧ True) 14 wide ?_
    have hS : cellH h0 (a1.add 1) = some (Sl.v x6) ∧ cellH h0 (a1.add 1) = some (Sl.v x8) ∧ cellH h0 (a10.add ((IntKind.i64.wrap ((x8.len : Int) - 1)).toNat * 1)) = some (Value.pointer x14) ∧ True := ⟨c7, c9, c15, trivial⟩
    refine wh_q 0 rfl (by kernel_rfl) rfl rfl rfl (q_move rfl rfl) (by exact hS) ?_
    refine wh_q 1 rfl (by kernel_rfl) rfl rfl rfl (q_nil rfl rfl c2) (by exact hS) ?_
    refine wh_q 2 rfl (by kernel_rfl) rfl rfl rfl (q_fieldAddr rfl rfl fo_49_1) (by exact hS) ?_
    refine wh_q 3 rfl (by kernel_rfl) rfl rfl rfl (q_load rfl rfl Go.Proofs.Tryz.underlying46 rfl (by exact fun _ s => s.1)) (by exact hS) ?_
    refine wh_q 4 rfl (by kernel_rfl) rfl rfl rfl (q_move rfl rfl) (by exact hS) ?_
    refine wh_q 5 rfl (by kernel_rfl) rfl rfl rfl (q_nil rfl rfl c2) (by exact hS) ?_
    refine wh_q 6 rfl (by kernel_rfl) rfl rfl rfl (q_fieldAddr rfl rfl fo_49_1) (by exact hS) ?_
    refine wh_q 7 rfl (by kernel_rfl) rfl rfl rfl (q_load rfl rfl Go.Proofs.Tryz.underlying46 rfl (by exact fun _ s => s.2.1)) (by exact hS) ?_
    refine wh_q 8 rfl (by kernel_rfl) rfl rfl rfl (q_len_slice rfl rfl Go.Proofs.Tryz.underlying46 rfl) (by exact hS) ?_
    refine wh_q 9 rfl (by kernel_rfl) rfl rfl rfl (q_bin rfl rfl rfl (fun _ _ => rfl)) (by exact hS) ?_
    refine wh_q 10 rfl (by kernel_rfl) rfl rfl rfl (q_indexAddr rfl rfl rfl Go.Proofs.Tryz.underlying46 sz_47 c11 c12 c13) (by exact hS) ?_
    refine wh_q 11 rfl (by kernel_rfl) rfl rfl rfl (q_load rfl rfl Go.Proofs.Tryz.underlying47 rfl (by exact fun _ s => s.2.2.1)) (by exact hS) ?_
    refine wh_e 12 rfl (by kernel_rfl) rfl rfl rfl (e_call (first := []) (vs := [Value.pointer x14]) (cap := []) rfl rfl rfl cf_36 (CallsH.mono hD ?_))
    rintro _ hz16 ⟨r17, rfl, hD⟩
    obtain ⟨hk0, hk1, hk2, hD⟩ := hD
    refine ⟨⟨hk0, hk1, hk2, trivial⟩, ?_⟩
    have hS : cellH hz16 (a1.add 1) = some (Sl.v x6) ∧ cellH hz16 (a1.add 1) = some (Sl.v x8) ∧ cellH hz16 (a10.add ((IntKind.i64.wrap ((x8.len : Int) - 1)).toNat * 1)) = some (Value.pointer x14) ∧ True := ⟨hk0, hk1, hk2, trivial⟩
    refine wh_q 13 rfl (by kernel_rfl) rfl rfl rfl (q_assign rfl rfl) (by exact hS) ?_
    refine wh_keep (l' := [(2, Value.int .i64 r17)]) (keep_cons rfl keep_nil) (wh_done (by kernel_rfl) ?_)
    refine cw_ret ?_
    exact ⟨_, resq1 rfl rfl, _, rfl, hD⟩
end Go.Proofs.YtgdmjdacmebfjaaGreatDoor.D

namespace Go.Proofs.YtgdmjdacmebfjaaGreatDoor.D
open Go
set_option maxRecDepth 100000
theorem S_wal_Log_remove {l_0 : Option Addr} {files_1 : Sl} {h0 : Hp} {K : Int → Hp → Prop} (hD : D_wal_Log_remove l_0 files_1 h0 K) : C_wal_Log_remove l_0 files_1 h0 K := by
  unfold D_wal_Log_remove at hD
  refine calls_cw (args := [Value.pointer l_0, Sl.v files_1]) Go.Proofs.Tryz.func22 rfl ?_
  show cw _ 32 _ [(0, Value.pointer l_0), (1, Sl.v files_1)] _ _ _ _
  refine cw_seq ?_
  refine cw_region ?_
  refine wl_q rfl rfl rfl (q_assign rfl rfl) ?_
  refine wl_keep (l' := [(0, Value.pointer l_0), (1, Sl.v files_1)]) (keep_cons rfl (keep_cons rfl keep_nil)) (wl_nil ?_)
  refine cw_seq ?_
  refine cw_seq ?_
  refine cw_region ?_
  refine wl_q rfl rfl rfl (q_move rfl rfl) ?_
  refine wl_q rfl rfl rfl (q_len_slice rfl rfl Go.Proofs.Tryz.underlying50 rfl) ?_
  refine wl_q rfl rfl rfl (q_move rfl rfl) ?_
  refine wl_keep (l' := [(0, Value.pointer l_0), (1, Sl.v files_1), (8, Sl.v files_1), (9, Value.int .i64 (files_1.len : Int)), (10, Value.int .i64 0)]) (keep_cons rfl (keep_cons rfl (keep_cons rfl (keep_cons rfl (keep_cons rfl keep_nil))))) (wl_nil ?_)
  refine cw_block ?_
  obtain ⟨I, μ, hI25, hL26⟩ := hD
  refine cw_loops (σ := Int) (fun s => [(0, Value.pointer l_0), (1, Sl.v files_1), (8, Sl.v files_1), (9, Value.int .i64 (files_1.len : Int)), (10, Value.int .i64 s)]) (0) (fun s h => I s h) (fun s h => μ s h) (keep_cons rfl (keep_cons rfl (keep_cons rfl (keep_cons rfl (keep_cons rfl keep_nil))))) hI25 ?_
  rintro x1 hz2 hI
  have hD := hL26 x1 hz2 hI
  obtain ⟨C3, hC3⟩ : ∃ c : Int → Hp → Prop, c = (fun x1' h' => I x1' h' ∧ μ x1' h' < μ x1 hz2) := ⟨_, rfl⟩
  rw [← hC3] at hD
  unfold D_wal_Log_remove_l1 at hD
  show cw _ _ _ [(0, Value.pointer l_0), (1, Sl.v files_1), (8, Sl.v files_1), (9, Value.int .i64 (files_1.len : Int)), (10, Value.int .i64 x1)] _ _ _ _
  refine cw_seq ?_
  refine cw_region ?_
  refine wl_q rfl rfl rfl (q_bin rfl rfl rfl (fun _ _ => rfl)) ?_
  refine wl_keep (l' := [(0, Value.pointer l_0), (1, Sl.v files_1), (8, Sl.v files_1), (9, Value.int .i64 (files_1.len : Int)), (10, Value.int .i64 x1), (11, Value.bool (decide (x1 < (files_1.len : Int))))]) (keep_cons rfl (keep_cons rfl (keep_cons rfl (keep_cons rfl (keep_cons rfl (keep_cons rfl keep_nil)))))) (wl_nil ?_)
  refine cw_seq ?_
  refine cw_cond rfl (fun hb4 => ?_) (fun hb4 => ?_)
  · have hD := ifT hb4 hD
    refine cw_skip ?_
    refine cw_seq ?_
    refine cw_block ?_
    refine cw_seq ?_
    refine cw_region ?_
    obtain ⟨a5, c6, c7, c8, hD⟩ := hD
    refine wl_q rfl rfl rfl (q_indexAddr rfl rfl rfl Go.Proofs.Tryz.underlying50 sz_9 c6 c7 c8) ?_
    obtain ⟨x9, c10, hD⟩ := hD
    refine wl_q rfl rfl rfl (q_load rfl rfl Go.Proofs.Tryz.underlying9 rfl (At.cell c10)) ?_
    refine wl_q rfl rfl rfl (q_assign rfl rfl) ?_
    refine wl_keep (l' := [(0, Value.pointer l_0), (1, Sl.v files_1), (6, Value.string x9), (8, Sl.v files_1), (9, Value.int .i64 (files_1.len : Int)), (10, Value.int .i64 x1)]) (keep_cons rfl (keep_cons rfl (keep_cons rfl (keep_cons rfl (keep_cons rfl (keep_cons rfl keep_nil)))))) (wl_nil ?_)
    refine cw_seq ?_
    refine cw_region ?_
    refine wl_q rfl rfl rfl (q_move rfl rfl) ?_
    obtain ⟨a11, c12, hD⟩ := hD
    refine wl_q rfl rfl rfl (q_nil rfl rfl c12) ?_
    refine wl_q rfl rfl rfl (q_fieldAddr rfl rfl fo_49_0) ?_
    obtain ⟨x13, c14, hD⟩ := hD
    refine wl_q rfl rfl rfl (q_load rfl rfl Go.Proofs.Tryz.underlying25 rfl (At.cell c14)) ?_
    refine wl_q rfl rfl rfl (q_move rfl rfl) ?_
    refine wl_e rfl rfl rfl (e_call (first := []) (vs := [Value.pointer x13, Value.string x9]) (cap := []) rfl rfl rfl cf_29 (CallsH.mono hD ?_))
    rintro _ hz15 ⟨r16, rfl, hD⟩
    refine wl_q rfl rfl rfl (q_assign rfl rfl) ?_
    refine wl_keep (l' := [(0, Value.pointer l_0), (1, Sl.v files_1), (7, Value.int .i64 r16), (8, Sl.v files_1), (9, Value.int .i64 (files_1.len : Int)), (10, Value.int .i64 x1)]) (keep_cons rfl (keep_cons rfl (keep_cons rfl (keep_cons rfl (keep_cons rfl (keep_cons rfl keep_nil)))))) (wl_nil ?_)
    refine cw_seq ?_
    refine cw_region ?_
    refine wl_q rfl rfl rfl (q_move rfl rfl) ?_
    refine wl_q rfl rfl rfl (q_bin rfl rfl rfl (fun _ _ => rfl)) ?_
    refine wl_keep (l' := [(0, Value.pointer l_0), (1, Sl.v files_1), (7, Value.int .i64 r16), (8, Sl.v files_1), (9, Value.int .i64 (files_1.len : Int)), (10, Value.int .i64 x1), (21, Value.bool (r16 != (0 : Int)))]) (keep_cons rfl (keep_cons rfl (keep_cons rfl (keep_cons rfl (keep_cons rfl (keep_cons rfl (keep_cons rfl keep_nil))))))) (wl_nil ?_)
    refine cw_cond rfl (fun hb17 => ?_) (fun hb17 => ?_)
    · have hD := ifT hb17 hD
      refine cw_seq ?_
      refine cw_region ?_
      refine wl_q rfl rfl rfl (q_move rfl rfl) ?_
      refine wl_q rfl rfl rfl (q_assign rfl rfl) ?_
      refine wl_keep (l' := [(4, Value.int .i64 r16)]) (keep_cons rfl keep_nil) (wl_nil ?_)
      refine cw_ret ?_
      exact ⟨_, resq1 rfl rfl, _, rfl, hD⟩
    · have hD := ifF hb17 hD
      refine cw_skip ?_
      refine cw_region ?_
      refine wl_q rfl rfl rfl (q_bin rfl rfl rfl (fun _ _ => rfl)) ?_
      refine wl_q rfl rfl rfl (q_move rfl rfl) ?_
      refine wl_keep (l' := [(0, Value.pointer l_0), (1, Sl.v files_1), (8, Sl.v files_1), (9, Value.int .i64 (files_1.len : Int)), (10, Value.int .i64 (IntKind.i64.wrap (x1 + 1)))]) (keep_cons rfl (keep_cons rfl (keep_cons rfl (keep_cons rfl (keep_cons rfl keep_nil))))) (wl_nil ?_)
      rw [hC3] at hD
      exact ⟨(IntKind.i64.wrap (x1 + 1)), (keep_cons rfl (keep_cons rfl (keep_cons rfl (keep_cons rfl (keep_cons rfl keep_nil))))), hD⟩
  · have hD := ifF hb4 hD
    refine cw_exit ?_
    refine xput_same ?_
    refine cw_seq ?_
    refine cw_seq ?_
    refine cw_region ?_
    refine wl_q rfl rfl rfl (q_move rfl rfl) ?_
    refine wl_q rfl rfl rfl (q_len_slice rfl rfl Go.Proofs.Tryz.underlying50 rfl) ?_
    refine wl_q rfl rfl rfl (q_bin rfl rfl rfl (fun _ _ => rfl)) ?_
    refine wl_keep (l' := [(0, Value.pointer l_0), (26, Value.bool ((files_1.len : Int) == (0 : Int)))]) (keep_cons rfl (keep_cons rfl keep_nil)) (wl_nil ?_)
    refine cw_cond rfl (fun hb18 => ?_) (fun hb18 => ?_)
    · have hD := ifT hb18 hD
      refine cw_seq ?_
      refine cw_region ?_
      refine wl_q rfl rfl rfl (q_assign rfl rfl) ?_
      refine wl_keep (l' := [(4, Value.int .i64 0)]) (keep_cons rfl keep_nil) (wl_nil ?_)
      refine cw_ret ?_
      exact ⟨_, resq1 rfl rfl, _, rfl, hD⟩
    · have hD := ifF hb18 hD
      refine cw_skip ?_
      refine cw_seq ?_
      refine cw_region ?_
      refine wl_q rfl rfl rfl (q_move rfl rfl) ?_
      obtain ⟨a19, c20, hD⟩ := hD
      refine wl_q rfl rfl rfl (q_nil rfl rfl c20) ?_
      refine wl_q rfl rfl rfl (q_fieldAddr rfl rfl fo_49_0) ?_
      obtain ⟨x21, c22, hD⟩ := hD
      refine wl_q rfl rfl rfl (q_load rfl rfl Go.Proofs.Tryz.underlying25 rfl (At.cell c22)) ?_
      refine wl_e rfl rfl rfl (e_call (first := []) (vs := [Value.pointer x21]) (cap := []) rfl rfl rfl cf_27 (CallsH.mono hD ?_))
      rintro _ hz23 ⟨r24, rfl, hD⟩
      refine wl_q rfl rfl rfl (q_assign rfl rfl) ?_
      refine wl_keep (l' := [(4, Value.int .i64 r24)]) (keep_cons rfl keep_nil) (wl_nil ?_)
      refine cw_ret ?_
      exact ⟨_, resq1 rfl rfl, _, rfl, hD⟩
end Go.Proofs.YtgdmjdacmebfjaaGreatDoor.D

namespace Go.Proofs.YtgdmjdacmebfjaaGreatDoor.D
open Go
set_option maxRecDepth 100000
theorem S_frame_Put {f_0_0 : Int} {f_1_0 : ByteArray} {h0 : Hp} {K : ByteArray → Int → Hp → Prop} (hD : D_frame_Put f_0_0 f_1_0 h0 K) : C_frame_Put f_0_0 f_1_0 h0 K := by
  unfold D_frame_Put at hD
  refine calls_cw (args := [Value.agg #[Value.int .i64 f_0_0, Value.string f_1_0]]) Go.Proofs.Tryz.func23 rfl ?_
  show cw _ 33 _ [(0, Value.agg #[Value.int .i64 f_0_0, Value.string f_1_0])] _ _ _ _
  refine cw_seq ?_
  refine cw_region ?_
  refine wl_e rfl rfl rfl (e_box rfl rfl ?_)
  intro hz1 e2
  have hD := hD hz1 e2
  refine wl_q rfl rfl rfl (q_assign rfl rfl) ?_
  refine wl_q rfl rfl rfl (q_assign rfl rfl) ?_
  refine wl_keep (l' := [(1, Value.pointer (some (blk h0.size)))]) (keep_cons rfl keep_nil) (wl_nil ?_)
  refine cw_seq ?_
  refine cw_block ?_
  refine cw_cut (fun l h => ∃ (x3 : Bool), Keep l [(1, Value.pointer (some (blk h0.size))), (5, Value.bool x3)] ∧ D_frame_Put_j1 h0 K x3 h) ?_ ?_
  · refine cw_region ?_
    refine wl_q rfl rfl rfl (q_fieldAddr rfl rfl fo_61_0) ?_
    obtain ⟨x37, c38, hD⟩ := hD
    refine wl_q rfl rfl rfl (q_load rfl rfl Go.Proofs.Tryz.underlying3 rfl (At.cell c38)) ?_
    refine wl_q rfl rfl rfl (q_bin rfl rfl rfl (fun _ _ => rfl)) ?_
    refine wl_q rfl rfl rfl (q_move rfl rfl) ?_
    rcases bool_or (decide (x37 < (1 : Int))) with hb39 | hb39
    · have hD := ifT hb39 hD
      refine wl_gn rfl rfl rfl hb39 rfl rfl ?_
      refine wl_gn rfl rfl rfl hb39 rfl rfl ?_
      refine wl_gn rfl rfl rfl hb39 rfl rfl ?_
      refine wl_q rfl rfl rfl (q_pickT rfl rfl hb39 rfl) ?_
      refine wl_q rfl rfl rfl (q_assign rfl rfl) ?_
      refine wl_keep (l' := [(1, Value.pointer (some (blk h0.size))), (5, Value.bool true)]) (keep_cons rfl (keep_cons rfl keep_nil)) (wl_nil ?_)
      exact ⟨_, (keep_cons rfl (keep_cons rfl keep_nil)), hD⟩
    · have hD := ifF hb39 hD
      refine wl_gq rfl rfl rfl hb39 rfl rfl (q_fieldAddr rfl rfl fo_61_0) ?_
      obtain ⟨x40, c41, hD⟩ := hD
      refine wl_gq rfl rfl rfl hb39 rfl rfl (q_load rfl rfl Go.Proofs.Tryz.underlying3 rfl (At.cell c41)) ?_
      refine wl_gq rfl rfl rfl hb39 rfl rfl (q_bin rfl rfl rfl (fun _ _ => rfl)) ?_
      refine wl_q rfl rfl rfl (q_pickF rfl rfl hb39 rfl) ?_
      refine wl_q rfl rfl rfl (q_assign rfl rfl) ?_
      refine wl_keep (l' := [(1, Value.pointer (some (blk h0.size))), (5, Value.bool (decide (x40 > (255 : Int))))]) (keep_cons rfl (keep_cons rfl keep_nil)) (wl_nil ?_)
      exact ⟨_, (keep_cons rfl (keep_cons rfl keep_nil)), hD⟩
  · rintro l43 hz4 ⟨x3, hk42, hD⟩
    refine cw_keep hk42 ?_
    unfold D_frame_Put_j1 at hD
    refine cw_cond rfl (fun hb5 => ?_) (fun hb5 => ?_)
    · have hD := ifT hb5 hD
      refine cw_seq ?_
      refine cw_region ?_
      refine wl_q rfl rfl rfl (q_assign rfl rfl) ?_
      refine wl_q rfl rfl rfl (q_assign rfl rfl) ?_
      refine wl_keep (l' := [(2, Value.string (ByteArray.mk #[])), (3, Value.int .i64 5)]) (keep_cons rfl (keep_cons rfl keep_nil)) (wl_nil ?_)
      refine cw_ret ?_
      exact ⟨_, resq2 rfl rfl rfl, _, _, rfl, hD⟩
    · have hD := ifF hb5 hD
      refine cw_seq ?_
      refine cw_region ?_
      refine wl_q rfl rfl rfl (q_fieldAddr rfl rfl fo_61_1) ?_
      obtain ⟨x6, c7, hD⟩ := hD
      refine wl_q rfl rfl rfl (q_load rfl rfl Go.Proofs.Tryz.underlying9 rfl (At.cell c7)) ?_
      refine wl_q rfl rfl rfl (q_len_string rfl rfl Go.Proofs.Tryz.underlying9 rfl) ?_
      refine wl_q rfl rfl rfl (q_bin rfl rfl rfl (fun _ _ => rfl)) ?_
      refine wl_q rfl rfl rfl (q_assign rfl rfl) ?_
      refine wl_keep (l' := [(1, Value.pointer (some (blk h0.size))), (14, Value.bool (decide ((x6.size : Int) > (65536 : Int))))]) (keep_cons rfl (keep_cons rfl keep_nil)) (wl_nil ?_)
      refine cw_cond rfl (fun hb8 => ?_) (fun hb8 => ?_)
      · have hD := ifT hb8 hD
        refine cw_seq ?_
        refine cw_region ?_
        refine wl_q rfl rfl rfl (q_assign rfl rfl) ?_
        refine wl_q rfl rfl rfl (q_assign rfl rfl) ?_
        refine wl_keep (l' := [(2, Value.string (ByteArray.mk #[])), (3, Value.int .i64 8)]) (keep_cons rfl (keep_cons rfl keep_nil)) (wl_nil ?_)
        refine cw_ret ?_
        exact ⟨_, resq2 rfl rfl rfl, _, _, rfl, hD⟩
      · have hD := ifF hb8 hD
        refine cw_skip ?_
        refine cw_seq ?_
        obtain ⟨x9, c10, hD⟩ := hD
        obtain ⟨x11, c12, hD⟩ := hD
        refine cw_draw (fun h => cellH h ((blk h0.size).add 0) = some (Value.int .i64 x9) ∧ cellH h ((blk h0.size).add 1) = some (Value.string x11) ∧ True) 10 wide ?_
        have hS : cellH hz4 ((blk h0.size).add 0) = some (Value.int .i64 x9) ∧ cellH hz4 ((blk h0.size).add 1) = some (Value.string x11) ∧ True := ⟨c10, c12, trivial⟩
        refine wh_q 0 rfl (by kernel_rfl) rfl rfl rfl (q_fieldAddr rfl rfl fo_61_0) (by exact hS) ?_
        refine wh_q 1 rfl (by kernel_rfl) rfl rfl rfl (q_load rfl rfl Go.Proofs.Tryz.underlying3 rfl (by exact fun _ s => s.1)) (by exact hS) ?_
        refine wh_q 2 rfl (by kernel_rfl) rfl rfl rfl (q_conv_int rfl rfl Go.Proofs.Tryz.underlying3 Go.Proofs.Tryz.underlying5) (by exact hS) ?_
        refine wh_q 5 rfl (by kernel_rfl) rfl rfl rfl (q_fieldAddr rfl rfl fo_61_1) (by exact hS) ?_
        refine wh_q 6 rfl (by kernel_rfl) rfl rfl rfl (q_load rfl rfl Go.Proofs.Tryz.underlying9 rfl (by exact fun _ s => s.2.1)) (by exact hS) ?_
        refine wh_e2 3 7 (by kernel_rfl) rfl rfl rfl rfl rfl rfl rfl rfl ?_ ?_
        · have hD := hD.1
          refine e_buildSlice (cs := #[Value.int .u8 (IntKind.u8.wrap x9)]) rfl rfl Go.Proofs.Tryz.underlying33 sz_5 zr_5 (by decide) (by kernel_rfl) ?_
          intro hz13 e14
          have hD := hD hz13 e14
          obtain ⟨hk0, hk1, hD⟩ := hD
          refine ⟨⟨hk0, hk1, trivial⟩, ?_⟩
          have hS : cellH hz13 ((blk h0.size).add 0) = some (Value.int .i64 x9) ∧ cellH hz13 ((blk h0.size).add 1) = some (Value.string x11) ∧ True := ⟨hk0, hk1, trivial⟩
          obtain ⟨x15, c16, hD⟩ := hD
          refine wh_more (fun h => bytesAt h (Sl.mk (some (blk hz4.size)) 1 1) x15 ∧ True) ?_
          have hS := And.intro hS (show bytesAt hz13 (Sl.mk (some (blk hz4.size)) 1 1) x15 ∧ True from ⟨c16, trivial⟩)
          refine wh_q 4 rfl (by kernel_rfl) rfl rfl rfl (q_conv_b rfl rfl Go.Proofs.Tryz.underlying33 Go.Proofs.Tryz.underlying9 Go.Proofs.Tryz.underlying5 (by exact fun _ s => s.2.1)) (by exact hS) ?_
          refine wh_e 7 rfl (by kernel_rfl) rfl rfl rfl (e_call (first := []) (vs := [Value.string x11]) (cap := []) rfl rfl rfl cf_39 (CallsH.mono hD ?_))
          rintro _ hz17 ⟨r18, rfl, hD⟩
          obtain ⟨hk0, hk1, hk2, hD⟩ := hD
          refine ⟨⟨⟨hk0, hk1, trivial⟩, ⟨hk2, trivial⟩⟩, ?_⟩
          have hS : (cellH hz17 ((blk h0.size).add 0) = some (Value.int .i64 x9) ∧ cellH hz17 ((blk h0.size).add 1) = some (Value.string x11) ∧ True) ∧ (bytesAt hz17 (Sl.mk (some (blk hz4.size)) 1 1) x15 ∧ True) := ⟨⟨hk0, hk1, trivial⟩, ⟨hk2, trivial⟩⟩
          obtain ⟨c19, hD⟩ := hD
          refine wh_q 8 rfl (by kernel_rfl) rfl rfl rfl (q_cat rfl rfl rfl c19) (by exact hS) ?_
          refine wh_q 9 rfl (by kernel_rfl) rfl rfl rfl (q_assign rfl rfl) (by exact hS) ?_
          refine wh_keep (l' := [(4, Value.string (x15 ++ r18))]) (keep_cons rfl keep_nil) (wh_done (by kernel_rfl) ?_)
          refine cw_seq ?_
          refine cw_region ?_
          refine wl_q rfl rfl rfl (q_move rfl rfl) ?_
          refine wl_q rfl rfl rfl (q_move rfl rfl) ?_
          refine wl_e rfl rfl rfl (e_call (first := []) (vs := [Value.string (x15 ++ r18)]) (cap := []) rfl rfl rfl cf_41 (CallsH.mono hD ?_))
          rintro _ hz20 ⟨r21, rfl, hD⟩
          refine wl_e rfl rfl rfl (e_call (first := []) (vs := [Value.int .u32 r21]) (cap := []) rfl rfl rfl cf_40 (CallsH.mono hD ?_))
          rintro _ hz22 ⟨r23, rfl, hD⟩
          obtain ⟨c24, hD⟩ := hD
          refine wl_q rfl rfl rfl (q_cat rfl rfl rfl c24) ?_
          refine wl_q rfl rfl rfl (q_assign rfl rfl) ?_
          refine wl_q rfl rfl rfl (q_assign rfl rfl) ?_
          refine wl_keep (l' := [(2, Value.string ((x15 ++ r18) ++ r23)), (3, Value.int .i64 0)]) (keep_cons rfl (keep_cons rfl keep_nil)) (wl_nil ?_)
          refine cw_ret ?_
          exact ⟨_, resq2 rfl rfl rfl, _, _, rfl, hD⟩
        · have hD := hD.2
          refine e_call (first := []) (vs := [Value.string x11]) (cap := []) rfl rfl rfl cf_39 (CallsH.mono hD ?_)
          rintro _ hz25 ⟨r26, rfl, hD⟩
          obtain ⟨hk0, hk1, hD⟩ := hD
          refine ⟨⟨hk0, hk1, trivial⟩, ?_⟩
          have hS : cellH hz25 ((blk h0.size).add 0) = some (Value.int .i64 x9) ∧ cellH hz25 ((blk h0.size).add 1) = some (Value.string x11) ∧ True := ⟨hk0, hk1, trivial⟩
          refine wh_e 3 rfl (by kernel_rfl) rfl rfl rfl (e_buildSlice (cs := #[Value.int .u8 (IntKind.u8.wrap x9)]) rfl rfl Go.Proofs.Tryz.underlying33 sz_5 zr_5 (by decide) (by kernel_rfl) ?_)
          intro hz27 e28
          have hD := hD hz27 e28
          obtain ⟨hk0, hk1, hD⟩ := hD
          refine ⟨⟨hk0, hk1, trivial⟩, ?_⟩
          have hS : cellH hz27 ((blk h0.size).add 0) = some (Value.int .i64 x9) ∧ cellH hz27 ((blk h0.size).add 1) = some (Value.string x11) ∧ True := ⟨hk0, hk1, trivial⟩
          obtain ⟨x29, c30, hD⟩ := hD
          obtain ⟨c31, hD⟩ := hD
          refine wh_more (fun h => bytesAt h (Sl.mk (some (blk hz25.size)) 1 1) x29 ∧ True) ?_
          have hS := And.intro hS (show bytesAt hz27 (Sl.mk (some (blk hz25.size)) 1 1) x29 ∧ True from ⟨c30, trivial⟩)
          refine wh_q 4 rfl (by kernel_rfl) rfl rfl rfl (q_conv_b rfl rfl Go.Proofs.Tryz.underlying33 Go.Proofs.Tryz.underlying9 Go.Proofs.Tryz.underlying5 (by exact fun _ s => s.2.1)) (by exact hS) ?_
          refine wh_q 8 rfl (by kernel_rfl) rfl rfl rfl (q_cat rfl rfl rfl c31) (by exact hS) ?_
          refine wh_q 9 rfl (by kernel_rfl) rfl rfl rfl (q_assign rfl rfl) (by exact hS) ?_
          refine wh_keep (l' := [(4, Value.string (x29 ++ r26))]) (keep_cons rfl keep_nil) (wh_done (by kernel_rfl) ?_)
          refine cw_seq ?_
          refine cw_region ?_
          refine wl_q rfl rfl rfl (q_move rfl rfl) ?_
          refine wl_q rfl rfl rfl (q_move rfl rfl) ?_
          refine wl_e rfl rfl rfl (e_call (first := []) (vs := [Value.string (x29 ++ r26)]) (cap := []) rfl rfl rfl cf_41 (CallsH.mono hD ?_))
          rintro _ hz32 ⟨r33, rfl, hD⟩
          refine wl_e rfl rfl rfl (e_call (first := []) (vs := [Value.int .u32 r33]) (cap := []) rfl rfl rfl cf_40 (CallsH.mono hD ?_))
          rintro _ hz34 ⟨r35, rfl, hD⟩
          obtain ⟨c36, hD⟩ := hD
          refine wl_q rfl rfl rfl (q_cat rfl rfl rfl c36) ?_
          refine wl_q rfl rfl rfl (q_assign rfl rfl) ?_
          refine wl_q rfl rfl rfl (q_assign rfl rfl) ?_
          refine wl_keep (l' := [(2, Value.string ((x29 ++ r26) ++ r35)), (3, Value.int .i64 0)]) (keep_cons rfl (keep_cons rfl keep_nil)) (wl_nil ?_)
          refine cw_ret ?_
          exact ⟨_, resq2 rfl rfl rfl, _, _, rfl, hD⟩
end Go.Proofs.YtgdmjdacmebfjaaGreatDoor.D

namespace Go.Proofs.YtgdmjdacmebfjaaGreatDoor.D
open Go
set_option maxRecDepth 100000
theorem S_disk_Disk_Append {d_0 : Option Addr} {name_1 : ByteArray} {s_2 : ByteArray} {h0 : Hp} {K : Int → Hp → Prop} (hD : D_disk_Disk_Append d_0 name_1 s_2 h0 K) : C_disk_Disk_Append d_0 name_1 s_2 h0 K := by
  unfold D_disk_Disk_Append at hD
  refine calls_cw (args := [Value.pointer d_0, Value.string name_1, Value.string s_2]) Go.Proofs.Tryz.func24 rfl ?_
  show cw _ 59 _ [(0, Value.pointer d_0), (1, Value.string name_1), (2, Value.string s_2)] _ _ _ _
  refine cw_seq ?_
  refine cw_region ?_
  refine wl_e rfl rfl rfl (e_box rfl rfl ?_)
  intro hz1 e2
  have hD := hD hz1 e2
  refine wl_q rfl rfl rfl (q_assign rfl rfl) ?_
  refine wl_keep (l' := [(0, Value.pointer d_0), (2, Value.string s_2), (4, Value.pointer (some (blk h0.size)))]) (keep_cons rfl (keep_cons rfl (keep_cons rfl keep_nil))) (wl_nil ?_)
  refine cw_seq ?_
  refine cw_seq ?_
  refine cw_region ?_
  refine wl_q rfl rfl rfl (q_move rfl rfl) ?_
  refine wl_e rfl rfl rfl (e_call (first := []) (vs := [Value.pointer d_0]) (cap := []) rfl rfl rfl cf_42 (CallsH.mono hD ?_))
  rintro _ hz3 ⟨r4, rfl, hD⟩
  refine wl_q rfl rfl rfl (q_un rfl rfl (fun _ => rfl)) ?_
  refine wl_keep (l' := [(0, Value.pointer d_0), (2, Value.string s_2), (4, Value.pointer (some (blk h0.size))), (10, Value.bool (!r4))]) (keep_cons rfl (keep_cons rfl (keep_cons rfl (keep_cons rfl keep_nil)))) (wl_nil ?_)
  refine cw_cond rfl (fun hb5 => ?_) (fun hb5 => ?_)
  · have hD := ifT hb5 hD
    refine cw_seq ?_
    refine cw_region ?_
    refine wl_q rfl rfl rfl (q_assign rfl rfl) ?_
    refine wl_keep (l' := [(6, Value.int .i64 11)]) (keep_cons rfl keep_nil) (wl_nil ?_)
    refine cw_ret ?_
    exact ⟨_, resq1 rfl rfl, _, rfl, hD⟩
  · have hD := ifF hb5 hD
    refine cw_skip ?_
    refine cw_seq ?_
    obtain ⟨a6, c7, hD⟩ := hD
    obtain ⟨x8, c9, hD⟩ := hD
    obtain ⟨x10, c11, hD⟩ := hD
    obtain ⟨es12, c13, c14, v15, c16, hD⟩ := hD
    refine cw_draw (fun h => cellH h (a6.add 1) = some (Value.map x8) ∧ cellH h (blk h0.size) = some (Value.string x10) ∧ mapEs h x8 = some es12 ∧ True) 7 wide ?_
    have hS : cellH hz3 (a6.add 1) = some (Value.map x8) ∧ cellH hz3 (blk h0.size) = some (Value.string x10) ∧ mapEs hz3 x8 = some es12 ∧ True := ⟨c9, c11, c13, trivial⟩
    refine wh_q 0 rfl (by kernel_rfl) rfl rfl rfl (q_move rfl rfl) (by exact hS) ?_
    refine wh_q 1 rfl (by kernel_rfl) rfl rfl rfl (q_nil rfl rfl c7) (by exact hS) ?_
    refine wh_q 2 rfl (by kernel_rfl) rfl rfl rfl (q_fieldAddr rfl rfl fo_45_1) (by exact hS) ?_
    refine wh_q 3 rfl (by kernel_rfl) rfl rfl rfl (q_load rfl rfl Go.Proofs.Tryz.underlying42 rfl (by exact fun _ s => s.1)) (by exact hS) ?_
    refine wh_q 4 rfl (by kernel_rfl) rfl rfl rfl (q_load rfl rfl Go.Proofs.Tryz.underlying9 rfl (by exact fun _ s => s.2.1)) (by exact hS) ?_
    refine wh_q 5 rfl (by kernel_rfl) rfl rfl rfl (q_lookup1 rfl rfl rfl Go.Proofs.Tryz.underlying42 Go.Proofs.Tryz.underlying9 zr_74 c14 (by exact fun _ s => s.2.2.1) c16) (by exact hS) ?_
    refine wh_e 6 rfl (by kernel_rfl) rfl rfl rfl (e_alloc rfl zr_74 ?_)
    intro hz17 e18
    have hD := hD hz17 e18
    obtain ⟨hk0, hk1, hk2, hD⟩ := hD
    refine ⟨⟨hk0, hk1, hk2, trivial⟩, ?_⟩
    have hS : cellH hz17 (a6.add 1) = some (Value.map x8) ∧ cellH hz17 (blk h0.size) = some (Value.string x10) ∧ mapEs hz17 x8 = some es12 ∧ True := ⟨hk0, hk1, hk2, trivial⟩
    obtain ⟨u20, c21, c22, hD⟩ := hD
    refine wh_last 7 rfl (by kernel_rfl) rfl rfl rfl (e_store rfl rfl rfl sz_74 trivial c21 c22 ?_)
    intro hz19 e23
    have hD := hD hz19 e23
    refine wh_keep (l' := [(0, Value.pointer d_0), (2, Value.string s_2), (4, Value.pointer (some (blk h0.size))), (7, Value.pointer (some (blk hz3.size)))]) (keep_cons rfl (keep_cons rfl (keep_cons rfl (keep_cons rfl keep_nil)))) (wh_done (by kernel_rfl) ?_)
    refine cw_seq ?_
    refine cw_block ?_
    refine cw_seq ?_
    refine cw_region ?_
    obtain ⟨x24, c25, hD⟩ := hD
    refine wl_q rfl rfl rfl (q_load rfl rfl Go.Proofs.Tryz.underlying9 rfl (At.cell c25)) ?_
    refine wl_e rfl rfl rfl (e_call (first := []) (vs := [Value.string x24]) (cap := []) rfl rfl rfl cf_43 (CallsH.mono hD ?_))
    rintro _ hz26 ⟨r27, rfl, hD⟩
    refine wl_q rfl rfl rfl (q_un rfl rfl (fun _ => rfl)) ?_
    refine wl_q rfl rfl rfl (q_assign rfl rfl) ?_
    refine wl_keep (l' := [(0, Value.pointer d_0), (2, Value.string s_2), (4, Value.pointer (some (blk h0.size))), (7, Value.pointer (some (blk hz3.size))), (17, Value.bool (!r27))]) (keep_cons rfl (keep_cons rfl (keep_cons rfl (keep_cons rfl (keep_cons rfl keep_nil))))) (wl_nil ?_)
    refine cw_cond rfl (fun hb28 => ?_) (fun hb28 => ?_)
    · have hD := ifT hb28 hD
      refine cw_seq ?_
      refine cw_region ?_
      refine wl_q rfl rfl rfl (q_assign rfl rfl) ?_
      refine wl_keep (l' := [(6, Value.int .i64 3)]) (keep_cons rfl keep_nil) (wl_nil ?_)
      refine cw_ret ?_
      exact ⟨_, resq1 rfl rfl, _, rfl, hD⟩
    · have hD := ifF hb28 hD
      refine cw_cut (fun l h => ∃ (x29 : Bool), Keep l [(0, Value.pointer d_0), (2, Value.string s_2), (4, Value.pointer (some (blk h0.size))), (7, Value.pointer (some (blk hz3.size))), (21, Value.bool x29)] ∧ D_disk_Disk_Append_j2 d_0 s_2 h0 K hz3 x29 h) ?_ ?_
      · obtain ⟨x58, c59, hD⟩ := hD
        refine cw_draw (fun h => cellH h (a6.add 0) = some (Value.int .i64 x58) ∧ True) 23 wide ?_
        have hS : cellH hz26 (a6.add 0) = some (Value.int .i64 x58) ∧ True := ⟨c59, trivial⟩
        refine wh_q 0 rfl (by kernel_rfl) rfl rfl rfl (q_move rfl rfl) (by exact hS) ?_
        refine wh_q 1 rfl (by kernel_rfl) rfl rfl rfl (q_len_string rfl rfl Go.Proofs.Tryz.underlying9 rfl) (by exact hS) ?_
        refine wh_q 2 rfl (by kernel_rfl) rfl rfl rfl (q_move rfl rfl) (by exact hS) ?_
        refine wh_q 3 rfl (by kernel_rfl) rfl rfl rfl (q_nil rfl rfl c7) (by exact hS) ?_
        refine wh_q 4 rfl (by kernel_rfl) rfl rfl rfl (q_fieldAddr rfl rfl fo_45_0) (by exact hS) ?_
        refine wh_q 5 rfl (by kernel_rfl) rfl rfl rfl (q_load rfl rfl Go.Proofs.Tryz.underlying3 rfl (by exact fun _ s => s.1)) (by exact hS) ?_
        refine wh_q 6 rfl (by kernel_rfl) rfl rfl rfl (q_move rfl rfl) (by exact hS) ?_
        refine wh_e 7 rfl (by kernel_rfl) rfl rfl rfl (e_call (first := []) (vs := [Value.pointer d_0]) (cap := []) rfl rfl rfl cf_44 (CallsH.mono hD ?_))
        rintro _ hz60 ⟨r61, rfl, hD⟩
        obtain ⟨hk0, hD⟩ := hD
        refine ⟨⟨hk0, trivial⟩, ?_⟩
        have hS : cellH hz60 (a6.add 0) = some (Value.int .i64 x58) ∧ True := ⟨hk0, trivial⟩
        rcases bool_or (decide ((s_2.size : Int) > (IntKind.i64.wrap (x58 - r61)))) with hb62 | hb62
        · have hD := ifT hb62 hD
          refine wh_q 8 rfl (by kernel_rfl) rfl rfl rfl (q_bin rfl rfl rfl (fun _ _ => rfl)) (by exact hS) ?_
          refine wh_q 9 rfl (by kernel_rfl) rfl rfl rfl (q_bin rfl rfl rfl (fun _ _ => rfl)) (by exact hS) ?_
          refine wh_q 10 rfl (by kernel_rfl) rfl rfl rfl (q_move rfl rfl) (by exact hS) ?_
          refine wh_gn 11 rfl (by kernel_rfl) rfl rfl rfl hb62 rfl rfl (by exact hS) ?_
          refine wh_gn 12 rfl (by kernel_rfl) rfl rfl rfl hb62 rfl rfl (by exact hS) ?_
          refine wh_gn 13 rfl (by kernel_rfl) rfl rfl rfl hb62 rfl rfl (by exact hS) ?_
          refine wh_gu 14 rfl (by kernel_rfl) rfl rfl rfl rfl rfl (by exact hS) ?_
          refine wh_gu 15 rfl (by kernel_rfl) rfl rfl rfl rfl rfl (by exact hS) ?_
          refine wh_gu 16 rfl (by kernel_rfl) rfl rfl rfl rfl rfl (by exact hS) ?_
          refine wh_gu 17 rfl (by kernel_rfl) rfl rfl rfl rfl rfl (by exact hS) ?_
          refine wh_gu 18 rfl (by kernel_rfl) rfl rfl rfl rfl rfl (by exact hS) ?_
          refine wh_gu 19 rfl (by kernel_rfl) rfl rfl rfl rfl rfl (by exact hS) ?_
          refine wh_gn 20 rfl (by kernel_rfl) rfl rfl rfl hb62 rfl rfl (by exact hS) ?_
          refine wh_q 21 rfl (by kernel_rfl) rfl rfl rfl (q_pickT rfl rfl hb62 rfl) (by exact hS) ?_
          refine wh_q 22 rfl (by kernel_rfl) rfl rfl rfl (q_assign rfl rfl) (by exact hS) ?_
          refine wh_keep (l' := [(0, Value.pointer d_0), (2, Value.string s_2), (4, Value.pointer (some (blk h0.size))), (7, Value.pointer (some (blk hz3.size))), (21, Value.bool true)]) (keep_cons rfl (keep_cons rfl (keep_cons rfl (keep_cons rfl (keep_cons rfl keep_nil))))) (wh_done (by kernel_rfl) ?_)
          exact ⟨_, (keep_cons rfl (keep_cons rfl (keep_cons rfl (keep_cons rfl (keep_cons rfl keep_nil))))), hD⟩
        · have hD := ifF hb62 hD
          obtain ⟨x63, c64, hD⟩ := hD
          rcases bool_or x63.isNone with hb65 | hb65
          · have hD := ifT hb65 hD
            obtain ⟨x66, c67, hD⟩ := hD
            obtain ⟨n68, c69, hD⟩ := hD
            refine wh_more (fun h => cellH h (blk hz3.size) = some (Value.pointer x63) ∧ cellH h (a6.add 1) = some (Value.map x66) ∧ lenMap h x66 = some n68 ∧ True) ?_
            have hS := And.intro hS (show cellH hz60 (blk hz3.size) = some (Value.pointer x63) ∧ cellH hz60 (a6.add 1) = some (Value.map x66) ∧ lenMap hz60 x66 = some n68 ∧ True from ⟨c64, c67, c69, trivial⟩)
            refine wh_q 8 rfl (by kernel_rfl) rfl rfl rfl (q_bin rfl rfl rfl (fun _ _ => rfl)) (by exact hS) ?_
            refine wh_q 9 rfl (by kernel_rfl) rfl rfl rfl (q_bin rfl rfl rfl (fun _ _ => rfl)) (by exact hS) ?_
            refine wh_q 10 rfl (by kernel_rfl) rfl rfl rfl (q_move rfl rfl) (by exact hS) ?_
            refine wh_gq 11 rfl (by kernel_rfl) rfl rfl rfl hb62 rfl rfl (q_load rfl rfl Go.Proofs.Tryz.underlying74 rfl (by exact fun _ s => s.2.1)) (by exact hS) ?_
            refine wh_gq 12 rfl (by kernel_rfl) rfl rfl rfl hb62 rfl rfl (q_bin rfl rfl rfl (fun _ _ => sem_eq_ptr_nil Go.Proofs.Tryz.underlying74)) (by exact hS) ?_
            refine wh_gq 13 rfl (by kernel_rfl) rfl rfl rfl hb62 rfl rfl (q_move rfl rfl) (by exact hS) ?_
            refine wh_gq 14 rfl (by kernel_rfl) rfl rfl rfl hb65 rfl rfl (q_move rfl rfl) (by exact hS) ?_
            refine wh_gq 15 rfl (by kernel_rfl) rfl rfl rfl hb65 rfl rfl (q_nil rfl rfl c7) (by exact hS) ?_
            refine wh_gq 16 rfl (by kernel_rfl) rfl rfl rfl hb65 rfl rfl (q_fieldAddr rfl rfl fo_45_1) (by exact hS) ?_
            refine wh_gq 17 rfl (by kernel_rfl) rfl rfl rfl hb65 rfl rfl (q_load rfl rfl Go.Proofs.Tryz.underlying42 rfl (by exact fun _ s => s.2.2.1)) (by exact hS) ?_
            refine wh_gq 18 rfl (by kernel_rfl) rfl rfl rfl hb65 rfl rfl (q_len_map rfl rfl Go.Proofs.Tryz.underlying42 (by exact fun _ s => s.2.2.2.1)) (by exact hS) ?_
            refine wh_gq 19 rfl (by kernel_rfl) rfl rfl rfl hb65 rfl rfl (q_bin rfl rfl rfl (fun _ _ => rfl)) (by exact hS) ?_
            refine wh_gq 20 rfl (by kernel_rfl) rfl rfl rfl hb62 rfl rfl (q_pickT rfl rfl hb65 rfl) (by exact hS) ?_
            refine wh_q 21 rfl (by kernel_rfl) rfl rfl rfl (q_pickF rfl rfl hb62 rfl) (by exact hS) ?_
            refine wh_q 22 rfl (by kernel_rfl) rfl rfl rfl (q_assign rfl rfl) (by exact hS) ?_
            refine wh_keep (l' := [(0, Value.pointer d_0), (2, Value.string s_2), (4, Value.pointer (some (blk h0.size))), (7, Value.pointer (some (blk hz3.size))), (21, Value.bool ((n68 : Int) == (64 : Int)))]) (keep_cons rfl (keep_cons rfl (keep_cons rfl (keep_cons rfl (keep_cons rfl keep_nil))))) (wh_done (by kernel_rfl) ?_)
            exact ⟨_, (keep_cons rfl (keep_cons rfl (keep_cons rfl (keep_cons rfl (keep_cons rfl keep_nil))))), hD⟩
          · have hD := ifF hb65 hD
            refine wh_more (fun h => cellH h (blk hz3.size) = some (Value.pointer x63) ∧ True) ?_
            have hS := And.intro hS (show cellH hz60 (blk hz3.size) = some (Value.pointer x63) ∧ True from ⟨c64, trivial⟩)
            refine wh_q 8 rfl (by kernel_rfl) rfl rfl rfl (q_bin rfl rfl rfl (fun _ _ => rfl)) (by exact hS) ?_
            refine wh_q 9 rfl (by kernel_rfl) rfl rfl rfl (q_bin rfl rfl rfl (fun _ _ => rfl)) (by exact hS) ?_
            refine wh_q 10 rfl (by kernel_rfl) rfl rfl rfl (q_move rfl rfl) (by exact hS) ?_
            refine wh_gq 11 rfl (by kernel_rfl) rfl rfl rfl hb62 rfl rfl (q_load rfl rfl Go.Proofs.Tryz.underlying74 rfl (by exact fun _ s => s.2.1)) (by exact hS) ?_
            refine wh_gq 12 rfl (by kernel_rfl) rfl rfl rfl hb62 rfl rfl (q_bin rfl rfl rfl (fun _ _ => sem_eq_ptr_nil Go.Proofs.Tryz.underlying74)) (by exact hS) ?_
            refine wh_gq 13 rfl (by kernel_rfl) rfl rfl rfl hb62 rfl rfl (q_move rfl rfl) (by exact hS) ?_
            refine wh_gn 14 rfl (by kernel_rfl) rfl rfl rfl hb65 rfl rfl (by exact hS) ?_
            refine wh_gn 15 rfl (by kernel_rfl) rfl rfl rfl hb65 rfl rfl (by exact hS) ?_
            refine wh_gn 16 rfl (by kernel_rfl) rfl rfl rfl hb65 rfl rfl (by exact hS) ?_
            refine wh_gn 17 rfl (by kernel_rfl) rfl rfl rfl hb65 rfl rfl (by exact hS) ?_
            refine wh_gn 18 rfl (by kernel_rfl) rfl rfl rfl hb65 rfl rfl (by exact hS) ?_
            refine wh_gn 19 rfl (by kernel_rfl) rfl rfl rfl hb65 rfl rfl (by exact hS) ?_
            refine wh_gq 20 rfl (by kernel_rfl) rfl rfl rfl hb62 rfl rfl (q_pickF rfl rfl hb65 rfl) (by exact hS) ?_
            refine wh_q 21 rfl (by kernel_rfl) rfl rfl rfl (q_pickF rfl rfl hb62 rfl) (by exact hS) ?_
            refine wh_q 22 rfl (by kernel_rfl) rfl rfl rfl (q_assign rfl rfl) (by exact hS) ?_
            refine wh_keep (l' := [(0, Value.pointer d_0), (2, Value.string s_2), (4, Value.pointer (some (blk h0.size))), (7, Value.pointer (some (blk hz3.size))), (21, Value.bool false)]) (keep_cons rfl (keep_cons rfl (keep_cons rfl (keep_cons rfl (keep_cons rfl keep_nil))))) (wh_done (by kernel_rfl) ?_)
            exact ⟨_, (keep_cons rfl (keep_cons rfl (keep_cons rfl (keep_cons rfl (keep_cons rfl keep_nil))))), hD⟩
      · rintro l71 hz30 ⟨x29, hk70, hD⟩
        refine cw_keep hk70 ?_
        unfold D_disk_Disk_Append_j2 at hD
        refine cw_cond rfl (fun hb31 => ?_) (fun hb31 => ?_)
        · have hD := ifT hb31 hD
          refine cw_seq ?_
          refine cw_region ?_
          refine wl_q rfl rfl rfl (q_assign rfl rfl) ?_
          refine wl_keep (l' := [(6, Value.int .i64 4)]) (keep_cons rfl keep_nil) (wl_nil ?_)
          refine cw_ret ?_
          exact ⟨_, resq1 rfl rfl, _, rfl, hD⟩
        · have hD := ifF hb31 hD
          refine cw_skip ?_
          refine cw_cut (fun l h => Keep l [(2, Value.string s_2), (7, Value.pointer (some (blk hz3.size)))] ∧ D_disk_Disk_Append_j1 s_2 K hz3 h) ?_ ?_
          · refine cw_seq ?_
            refine cw_region ?_
            obtain ⟨x45, c46, hD⟩ := hD
            refine wl_q rfl rfl rfl (q_load rfl rfl Go.Proofs.Tryz.underlying74 rfl (At.cell c46)) ?_
            refine wl_q rfl rfl rfl (q_bin rfl rfl rfl (fun _ _ => sem_eq_ptr_nil Go.Proofs.Tryz.underlying74)) ?_
            refine wl_keep (l' := [(0, Value.pointer d_0), (2, Value.string s_2), (4, Value.pointer (some (blk h0.size))), (7, Value.pointer (some (blk hz3.size))), (45, Value.bool x45.isNone)]) (keep_cons rfl (keep_cons rfl (keep_cons rfl (keep_cons rfl (keep_cons rfl keep_nil))))) (wl_nil ?_)
            refine cw_cond rfl (fun hb47 => ?_) (fun hb47 => ?_)
            · have hD := ifT hb47 hD
              refine cw_seq ?_
              refine cw_region ?_
              refine wl_q rfl rfl rfl (q_build (v := Value.agg #[Value.string ByteArray.empty, Value.int .i64 0]) rfl rfl (fun _ _ => by kernel_rfl)) ?_
              refine wl_e rfl rfl rfl (e_box rfl rfl ?_)
              intro hz48 e49
              have hD := hD hz48 e49
              obtain ⟨u51, c52, c53, hD⟩ := hD
              refine wl_e0 rfl rfl (e_store rfl rfl rfl sz_74 trivial c52 c53 ?_)
              intro hz50 e54
              have hD := hD hz50 e54
              refine wl_keep (l' := [(0, Value.pointer d_0), (2, Value.string s_2), (4, Value.pointer (some (blk h0.size))), (7, Value.pointer (some (blk hz3.size)))]) (keep_cons rfl (keep_cons rfl (keep_cons rfl (keep_cons rfl keep_nil)))) (wl_nil ?_)
              refine cw_region ?_
              refine wl_q rfl rfl rfl (q_move rfl rfl) ?_
              refine wl_q rfl rfl rfl (q_makeFunc (xs := []) (ys := [.tmp 7, .tmp 4]) rfl rfl rfl) ?_
              refine wl_e rfl rfl rfl (e_call (first := []) (vs := [Value.pointer d_0, Value.func (.func F_disk_Disk_Append_1) #[] #[Value.pointer (some (blk hz3.size)), Value.pointer (some (blk h0.size))]]) (cap := []) rfl rfl rfl cf_45 (CallsH.mono hD ?_))
              rintro _ hz55 ⟨rfl, hD⟩
              refine wl_keep (l' := [(2, Value.string s_2), (7, Value.pointer (some (blk hz3.size)))]) (keep_cons rfl (keep_cons rfl keep_nil)) (wl_nil ?_)
              exact ⟨(keep_cons rfl (keep_cons rfl keep_nil)), hD⟩
            · have hD := ifF hb47 hD
              refine cw_skip ?_
              exact ⟨(keep_cons rfl (keep_cons rfl keep_nil)), hD⟩
          · rintro l57 hz32 ⟨hk56, hD⟩
            refine cw_keep hk56 ?_
            unfold D_disk_Disk_Append_j1 at hD
            refine cw_seq ?_
            refine cw_region ?_
            obtain ⟨x33, c34, hD⟩ := hD
            refine wl_q rfl rfl rfl (q_load rfl rfl Go.Proofs.Tryz.underlying74 rfl (At.cell c34)) ?_
            obtain ⟨a35, c36, hD⟩ := hD
            refine wl_q rfl rfl rfl (q_nil rfl rfl c36) ?_
            refine wl_q rfl rfl rfl (q_fieldAddr rfl rfl fo_76_0) ?_
            obtain ⟨x37, c38, hD⟩ := hD
            refine wl_q rfl rfl rfl (q_load rfl rfl Go.Proofs.Tryz.underlying9 rfl (At.cell c38)) ?_
            refine wl_q rfl rfl rfl (q_move rfl rfl) ?_
            obtain ⟨c39, hD⟩ := hD
            refine wl_q rfl rfl rfl (q_cat rfl rfl rfl c39) ?_
            refine wl_q rfl rfl rfl (q_nil rfl rfl c36) ?_
            refine wl_q rfl rfl rfl (q_fieldAddr rfl rfl fo_76_0) ?_
            obtain ⟨u41, c42, c43, hD⟩ := hD
            refine wl_e0 rfl rfl (e_store rfl rfl rfl sz_9 trivial c42 c43 ?_)
            intro hz40 e44
            have hD := hD hz40 e44
            refine wl_keep (l' := []) keep_nil (wl_nil ?_)
            refine cw_seq ?_
            refine cw_region ?_
            refine wl_q rfl rfl rfl (q_assign rfl rfl) ?_
            refine wl_keep (l' := [(6, Value.int .i64 0)]) (keep_cons rfl keep_nil) (wl_nil ?_)
            refine cw_ret ?_
            exact ⟨_, resq1 rfl rfl, _, rfl, hD⟩
end Go.Proofs.YtgdmjdacmebfjaaGreatDoor.D
