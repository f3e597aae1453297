/- Walks: impl.ReadPart, spec.ReadPart (printed by vmgen.py). A part that is read, in two cases. Walks: impl.heldAt$1, slices.IndexFunc[[]impl.Held,impl.Held]#2, impl.heldAt (printed by vmgen.py). Walks: slices.Index[[]bool,bool], slices.Contains[[]bool,bool] (printed by vmgen.py). Walks: impl.heldOk (printed by vmgen.py). Walks: impl.ShelfOk (printed by vmgen.py). Walks: slices.Delete[[]impl.Held,impl.Held] (printed by vmgen.py). Walks: impl.AddPart (printed by vmgen.py). Walks: spec.l20Held, spec.l20All (printed by vmgen.py). -/
import Derived.Test.YthjohfhnpeiheaaAddB
import Derived.Test.YthjohfhnpeiheaaAddC
set_option linter.all false
namespace Go.Vm.S
open Go Go.Vm
set_option maxRecDepth 100000
set_option linter.unusedVariables false
set_option maxHeartbeats 4000000
theorem at13 : FnAt Pg 13 Go.Proofs.Try.f13 := ⟨by kernel_rfl, rfl, by decide⟩
theorem c_impl_ReadPart (t : ByteArray) :
    Ctr Pg ty 13 [sv t] [] (Gives (rpT t) [] []) := by
  refine ctr at13 rfl (nsK_gives (rpT_ns t) trivial trivial) (Nat.le_of_ble_eq_true rfl) fun w0 S0 L0 Z => ?_
  refine vc_seq fun K1 hK1 => ?_
  refine vc_region ?_
  refine vl_q (q_assign rfl) (dk rfl) ?_
  refine vl_q (q_assign rfl) (dk rfl) ?_
  refine vl_q (q_assign rfl) (dk rfl) ?_
  refine vl_q (q_assign rfl) (dk rfl) ?_
  refine vl_q (q_assign rfl) (dk rfl) ?_
  refine vl_nil ?_
  refine hK1 _ ?_
  refine vc_seq fun K2 hK2 => ?_
  refine vc_seq fun K3 hK3 => ?_
  refine vc_region_any mixed (fun n => false) true rfl rfl (fun _ hU4 => hU4) fun w1 S1 L1 Z1 H1 => ?_
  refine va_q 0 rfl (by kernel_rfl) (by kernel_rfl) (by kernel_rfl) (q_move rfl) (dk rfl) ?_
  refine va_q 1 rfl (by kernel_rfl) (by kernel_rfl) (by kernel_rfl) (q_len_str rfl rfl rfl) (dk rfl) ?_
  refine va_two 2 (x := fun b => vv (.bool b)) _ rfl (by kernel_rfl) (by kernel_rfl) (by kernel_rfl) (q_cmp rfl rfl rfl rfl) (dk rfl) (fun h9 => ?_) (fun h9 => ?_)
  · replace h9 := lss_of h9
    refine va_q 3 rfl (by kernel_rfl) (by kernel_rfl) (by kernel_rfl) (q_move rfl) (dk rfl) ?_
    refine va_goff 4 rfl rfl rfl rfl (by decide) (by kernel_rfl) (by kernel_rfl) (by kernel_rfl) (dk rfl) ?_
    refine va_goff 5 rfl rfl rfl rfl (by decide) (by kernel_rfl) (by kernel_rfl) (by kernel_rfl) (dk rfl) ?_
    refine va_goff 6 rfl rfl rfl rfl (by decide) (by kernel_rfl) (by kernel_rfl) (by kernel_rfl) (dk rfl) ?_
    refine va_goff 7 rfl rfl rfl rfl (by decide) (by kernel_rfl) (by kernel_rfl) (by kernel_rfl) (dk rfl) ?_
    refine va_goff 8 rfl rfl rfl rfl (by decide) (by kernel_rfl) (by kernel_rfl) (by kernel_rfl) (dk rfl) ?_
    refine va_q 9 rfl (by kernel_rfl) (by kernel_rfl) (by kernel_rfl) (q_pick_true rfl rfl) (dk rfl) ?_
    refine va_q 10 rfl (by kernel_rfl) (by kernel_rfl) (by kernel_rfl) (q_move rfl) (dk rfl) ?_
    refine va_goff 11 rfl rfl rfl rfl (by decide) (by kernel_rfl) (by kernel_rfl) (by kernel_rfl) (dk rfl) ?_
    refine va_goff 12 rfl rfl rfl rfl (by decide) (by kernel_rfl) (by kernel_rfl) (by kernel_rfl) (dk rfl) ?_
    refine va_goff 13 rfl rfl rfl rfl (by decide) (by kernel_rfl) (by kernel_rfl) (by kernel_rfl) (dk rfl) ?_
    refine va_goff 14 rfl rfl rfl rfl (by decide) (by kernel_rfl) (by kernel_rfl) (by kernel_rfl) (dk rfl) ?_
    refine va_goff 15 rfl rfl rfl rfl (by decide) (by kernel_rfl) (by kernel_rfl) (by kernel_rfl) (dk rfl) ?_
    refine va_q 16 rfl (by kernel_rfl) (by kernel_rfl) (by kernel_rfl) (q_pick_true rfl rfl) (dk rfl) ?_
    refine va_done (by kernel_rfl) ?_
    refine hK3 _ ?_
    refine vc_cond_true rfl ?_
    refine vc_seq fun K5 hK5 => ?_
    refine vc_region ?_
    refine vl_q (q_assign rfl) (dk rfl) ?_
    refine vl_q (q_assign rfl) (dk rfl) ?_
    refine vl_q (q_assign rfl) (dk rfl) ?_
    refine vl_q (q_assign rfl) (dk rfl) ?_
    refine vl_q (q_assign rfl) (dk rfl) ?_
    refine vl_nil ?_
    refine hK5 _ ?_
    refine vc_ret ?_
    refine ret_p rfl (.cons (res_tmp rfl) (.cons (res_tmp rfl) (.cons (res_tmp rfl) (.cons (res_tmp rfl) (.cons (res_tmp rfl) .nil))))) (rpT_bel t) ?_
    try simp only [show Int.toNat 0 = 0 from rfl, show Int.toNat 1 = 1 from rfl, show Int.toNat 2 = 2 from rfl] at *
    first | (rw [rpT_t (by omega) h14 (by omega)]; rfl) | (rw [rpT_f (by first | exact .inl (by omega) | exact .inr (.inl h14) | exact .inr (.inr (by omega)))]; rfl)
  · replace h9 := lss_nof h9
    refine va_q 3 rfl (by kernel_rfl) (by kernel_rfl) (by kernel_rfl) (q_move rfl) (dk rfl) ?_
    refine va_qg 4 rfl rfl rfl rfl (by kernel_rfl) (by kernel_rfl) (by kernel_rfl) (q_move rfl) (dk rfl) ?_
    refine va_qg 5 rfl rfl rfl rfl (by kernel_rfl) (by kernel_rfl) (by kernel_rfl) (q_index_str rfl rfl rfl rfl (by omega) (by omega)) (dk rfl) ?_
    refine va_qg 6 rfl rfl rfl rfl (by kernel_rfl) (by kernel_rfl) (by kernel_rfl) (q_convInt rfl rfl rfl rfl (IntWalk.i64_in _ (by have := byteAt_lt t (Int.toNat 2); omega))) (dk rfl) ?_
    refine va_all [7] (by kernel_rfl) (by simp) ⟨⟨_, rfl, ?_⟩, trivial⟩
    refine vl_guard_on rfl rfl rfl ?_
    refine vl_callP (c_impl_within (byteAt t 2) 1 15) rfl rfl ⟨XOk.val _, XOk.val _, XOk.val _, trivial⟩ rfl (.inr rfl) (dk rfl) ?_
    refine vl_bool 14 rfl (fun h14 => ?_) (fun h14 => ?_)
    · refine vl_nil ?_
      refine va_qg 8 rfl rfl rfl rfl (by kernel_rfl) (by kernel_rfl) (by kernel_rfl) (q_not rfl) (dk rfl) ?_
      refine va_q 9 rfl (by kernel_rfl) (by kernel_rfl) (by kernel_rfl) (q_pick_false rfl rfl) (dk rfl) ?_
      refine va_q 10 rfl (by kernel_rfl) (by kernel_rfl) (by kernel_rfl) (q_move rfl) (dk rfl) ?_
      refine va_qg 11 rfl rfl rfl rfl (by kernel_rfl) (by kernel_rfl) (by kernel_rfl) (q_move rfl) (dk rfl) ?_
      refine va_qg 12 rfl rfl rfl rfl (by kernel_rfl) (by kernel_rfl) (by kernel_rfl) (q_index_str rfl rfl rfl rfl (by omega) (by omega)) (dk rfl) ?_
      refine va_qg 13 rfl rfl rfl rfl (by kernel_rfl) (by kernel_rfl) (by kernel_rfl) (q_move rfl) (dk rfl) ?_
      refine va_qg 14 rfl rfl rfl rfl (by kernel_rfl) (by kernel_rfl) (by kernel_rfl) (q_index_str rfl rfl rfl rfl (by omega) (by omega)) (dk rfl) ?_
      refine va_twog 15 (x := fun b => vv (.bool b)) _ rfl rfl rfl rfl (by kernel_rfl) (by kernel_rfl) (by kernel_rfl) (q_cmp rfl rfl rfl rfl) (dk rfl) (fun h22 => ?_) (fun h22 => ?_)
      · replace h22 := geq_of h22
        refine va_q 16 rfl (by kernel_rfl) (by kernel_rfl) (by kernel_rfl) (q_pick_false rfl rfl) (dk rfl) ?_
        refine va_done (by kernel_rfl) ?_
        refine hK3 _ ?_
        refine vc_cond_true rfl ?_
        refine vc_seq fun K6 hK6 => ?_
        refine vc_region ?_
        refine vl_q (q_assign rfl) (dk rfl) ?_
        refine vl_q (q_assign rfl) (dk rfl) ?_
        refine vl_q (q_assign rfl) (dk rfl) ?_
        refine vl_q (q_assign rfl) (dk rfl) ?_
        refine vl_q (q_assign rfl) (dk rfl) ?_
        refine vl_nil ?_
        refine hK6 _ ?_
        refine vc_ret ?_
        refine ret_p rfl (.cons (res_tmp rfl) (.cons (res_tmp rfl) (.cons (res_tmp rfl) (.cons (res_tmp rfl) (.cons (res_tmp rfl) .nil))))) (rpT_bel t) ?_
        try simp only [show Int.toNat 0 = 0 from rfl, show Int.toNat 1 = 1 from rfl, show Int.toNat 2 = 2 from rfl] at *
        first | (rw [rpT_t (by omega) h14 (by omega)]; rfl) | (rw [rpT_f (by first | exact .inl (by omega) | exact .inr (.inl h14) | exact .inr (.inr (by omega)))]; rfl)
      · replace h22 := geq_nof h22
        refine va_q 16 rfl (by kernel_rfl) (by kernel_rfl) (by kernel_rfl) (q_pick_false rfl rfl) (dk rfl) ?_
        refine va_done (by kernel_rfl) ?_
        refine hK3 _ ?_
        refine vc_cond_false rfl ?_
        refine vc_skip ?_
        refine hK2 _ ?_
        refine vc_seq fun K7 hK7 => ?_
        refine vc_region_any mixed (fun n => false) true rfl rfl (fun _ hU8 => hU8) fun w1 S1 L1 Z1 H1 => ?_
        refine va_q 0 rfl (by kernel_rfl) (by kernel_rfl) (by kernel_rfl) (q_move rfl) (dk rfl) ?_
        refine va_q 1 rfl (by kernel_rfl) (by kernel_rfl) (by kernel_rfl) (q_index_str rfl rfl rfl rfl (by omega) (by omega)) (dk rfl) ?_
        refine va_q 2 rfl (by kernel_rfl) (by kernel_rfl) (by kernel_rfl) (q_convInt rfl rfl rfl rfl (IntWalk.i64_in _ (by have := byteAt_lt t (Int.toNat 0); omega))) (dk rfl) ?_
        refine va_q 3 rfl (by kernel_rfl) (by kernel_rfl) (by kernel_rfl) (q_move rfl) (dk rfl) ?_
        refine va_q 4 rfl (by kernel_rfl) (by kernel_rfl) (by kernel_rfl) (q_index_str rfl rfl rfl rfl (by omega) (by omega)) (dk rfl) ?_
        refine va_q 5 rfl (by kernel_rfl) (by kernel_rfl) (by kernel_rfl) (q_convInt rfl rfl rfl rfl (IntWalk.i64_in _ (by have := byteAt_lt t (Int.toNat 1); omega))) (dk rfl) ?_
        refine va_q 6 rfl (by kernel_rfl) (by kernel_rfl) (by kernel_rfl) (q_move rfl) (dk rfl) ?_
        refine va_q 7 rfl (by kernel_rfl) (by kernel_rfl) (by kernel_rfl) (q_index_str rfl rfl rfl rfl (by omega) (by omega)) (dk rfl) ?_
        refine va_q 8 rfl (by kernel_rfl) (by kernel_rfl) (by kernel_rfl) (q_convInt rfl rfl rfl rfl (IntWalk.i64_in _ (by have := byteAt_lt t (Int.toNat 2); omega))) (dk rfl) ?_
        refine va_q 9 rfl (by kernel_rfl) (by kernel_rfl) (by kernel_rfl) (q_move rfl) (dk rfl) ?_
        refine va_q 10 rfl (by kernel_rfl) (by kernel_rfl) (by kernel_rfl) (q_slice_str rfl rfl rfl rfl rfl (by omega) (by omega) (by omega)) (dk rfl) ?_
        refine va_q 11 rfl (by kernel_rfl) (by kernel_rfl) (by kernel_rfl) (q_assign rfl) (dk rfl) ?_
        refine va_q 12 rfl (by kernel_rfl) (by kernel_rfl) (by kernel_rfl) (q_assign rfl) (dk rfl) ?_
        refine va_q 13 rfl (by kernel_rfl) (by kernel_rfl) (by kernel_rfl) (q_assign rfl) (dk rfl) ?_
        refine va_q 14 rfl (by kernel_rfl) (by kernel_rfl) (by kernel_rfl) (q_assign rfl) (dk rfl) ?_
        refine va_q 15 rfl (by kernel_rfl) (by kernel_rfl) (by kernel_rfl) (q_assign rfl) (dk rfl) ?_
        refine va_done (by kernel_rfl) ?_
        refine hK7 _ ?_
        refine vc_ret ?_
        refine ret_p rfl (.cons (res_tmp rfl) (.cons (res_tmp rfl) (.cons (res_tmp rfl) (.cons (res_tmp rfl) (.cons (res_tmp rfl) .nil))))) (rpT_bel t) ?_
        try simp only [show Int.toNat 0 = 0 from rfl, show Int.toNat 1 = 1 from rfl, show Int.toNat 2 = 2 from rfl] at *
        first | (rw [rpT_t (by omega) h14 (by omega)]; rfl) | (rw [rpT_f (by first | exact .inl (by omega) | exact .inr (.inl h14) | exact .inr (.inr (by omega)))]; rfl)
    · refine vl_nil ?_
      refine va_qg 8 rfl rfl rfl rfl (by kernel_rfl) (by kernel_rfl) (by kernel_rfl) (q_not rfl) (dk rfl) ?_
      refine va_q 9 rfl (by kernel_rfl) (by kernel_rfl) (by kernel_rfl) (q_pick_false rfl rfl) (dk rfl) ?_
      refine va_q 10 rfl (by kernel_rfl) (by kernel_rfl) (by kernel_rfl) (q_move rfl) (dk rfl) ?_
      refine va_goff 11 rfl rfl rfl rfl (by decide) (by kernel_rfl) (by kernel_rfl) (by kernel_rfl) (dk rfl) ?_
      refine va_goff 12 rfl rfl rfl rfl (by decide) (by kernel_rfl) (by kernel_rfl) (by kernel_rfl) (dk rfl) ?_
      refine va_goff 13 rfl rfl rfl rfl (by decide) (by kernel_rfl) (by kernel_rfl) (by kernel_rfl) (dk rfl) ?_
      refine va_goff 14 rfl rfl rfl rfl (by decide) (by kernel_rfl) (by kernel_rfl) (by kernel_rfl) (dk rfl) ?_
      refine va_goff 15 rfl rfl rfl rfl (by decide) (by kernel_rfl) (by kernel_rfl) (by kernel_rfl) (dk rfl) ?_
      refine va_q 16 rfl (by kernel_rfl) (by kernel_rfl) (by kernel_rfl) (q_pick_true rfl rfl) (dk rfl) ?_
      refine va_done (by kernel_rfl) ?_
      refine hK3 _ ?_
      refine vc_cond_true rfl ?_
      refine vc_seq fun K9 hK9 => ?_
      refine vc_region ?_
      refine vl_q (q_assign rfl) (dk rfl) ?_
      refine vl_q (q_assign rfl) (dk rfl) ?_
      refine vl_q (q_assign rfl) (dk rfl) ?_
      refine vl_q (q_assign rfl) (dk rfl) ?_
      refine vl_q (q_assign rfl) (dk rfl) ?_
      refine vl_nil ?_
      refine hK9 _ ?_
      refine vc_ret ?_
      refine ret_p rfl (.cons (res_tmp rfl) (.cons (res_tmp rfl) (.cons (res_tmp rfl) (.cons (res_tmp rfl) (.cons (res_tmp rfl) .nil))))) (rpT_bel t) ?_
      try simp only [show Int.toNat 0 = 0 from rfl, show Int.toNat 1 = 1 from rfl, show Int.toNat 2 = 2 from rfl] at *
      first | (rw [rpT_t (by omega) h14 (by omega)]; rfl) | (rw [rpT_f (by first | exact .inl (by omega) | exact .inr (.inl h14) | exact .inr (.inr (by omega)))]; rfl)
theorem at49 : FnAt Pg 49 Go.Proofs.Try.f49 := ⟨by kernel_rfl, rfl, by decide⟩
theorem c_spec_ReadPart (t : ByteArray) :
    Ctr Pg ty 49 [sv t] [] (Gives (rpT t) [] []) := by
  refine ctr at49 rfl (nsK_gives (rpT_ns t) trivial trivial) (Nat.le_of_ble_eq_true rfl) fun w0 S0 L0 Z => ?_
  refine vc_seq fun K1 hK1 => ?_
  refine vc_region ?_
  refine vl_q (q_assign rfl) (dk rfl) ?_
  refine vl_q (q_assign rfl) (dk rfl) ?_
  refine vl_q (q_assign rfl) (dk rfl) ?_
  refine vl_q (q_assign rfl) (dk rfl) ?_
  refine vl_q (q_assign rfl) (dk rfl) ?_
  refine vl_nil ?_
  refine hK1 _ ?_
  refine vc_seq fun K2 hK2 => ?_
  refine vc_seq fun K3 hK3 => ?_
  refine vc_region_any mixed (fun n => false) true rfl rfl (fun _ hU4 => hU4) fun w1 S1 L1 Z1 H1 => ?_
  refine va_q 0 rfl (by kernel_rfl) (by kernel_rfl) (by kernel_rfl) (q_move rfl) (dk rfl) ?_
  refine va_q 1 rfl (by kernel_rfl) (by kernel_rfl) (by kernel_rfl) (q_len_str rfl rfl rfl) (dk rfl) ?_
  refine va_two 2 (x := fun b => vv (.bool b)) _ rfl (by kernel_rfl) (by kernel_rfl) (by kernel_rfl) (q_cmp rfl rfl rfl rfl) (dk rfl) (fun h9 => ?_) (fun h9 => ?_)
  · replace h9 := lss_of h9
    refine va_q 3 rfl (by kernel_rfl) (by kernel_rfl) (by kernel_rfl) (q_move rfl) (dk rfl) ?_
    refine va_goff 4 rfl rfl rfl rfl (by decide) (by kernel_rfl) (by kernel_rfl) (by kernel_rfl) (dk rfl) ?_
    refine va_goff 5 rfl rfl rfl rfl (by decide) (by kernel_rfl) (by kernel_rfl) (by kernel_rfl) (dk rfl) ?_
    refine va_goff 6 rfl rfl rfl rfl (by decide) (by kernel_rfl) (by kernel_rfl) (by kernel_rfl) (dk rfl) ?_
    refine va_goff 7 rfl rfl rfl rfl (by decide) (by kernel_rfl) (by kernel_rfl) (by kernel_rfl) (dk rfl) ?_
    refine va_goff 8 rfl rfl rfl rfl (by decide) (by kernel_rfl) (by kernel_rfl) (by kernel_rfl) (dk rfl) ?_
    refine va_q 9 rfl (by kernel_rfl) (by kernel_rfl) (by kernel_rfl) (q_pick_true rfl rfl) (dk rfl) ?_
    refine va_q 10 rfl (by kernel_rfl) (by kernel_rfl) (by kernel_rfl) (q_move rfl) (dk rfl) ?_
    refine va_goff 11 rfl rfl rfl rfl (by decide) (by kernel_rfl) (by kernel_rfl) (by kernel_rfl) (dk rfl) ?_
    refine va_goff 12 rfl rfl rfl rfl (by decide) (by kernel_rfl) (by kernel_rfl) (by kernel_rfl) (dk rfl) ?_
    refine va_goff 13 rfl rfl rfl rfl (by decide) (by kernel_rfl) (by kernel_rfl) (by kernel_rfl) (dk rfl) ?_
    refine va_goff 14 rfl rfl rfl rfl (by decide) (by kernel_rfl) (by kernel_rfl) (by kernel_rfl) (dk rfl) ?_
    refine va_goff 15 rfl rfl rfl rfl (by decide) (by kernel_rfl) (by kernel_rfl) (by kernel_rfl) (dk rfl) ?_
    refine va_q 16 rfl (by kernel_rfl) (by kernel_rfl) (by kernel_rfl) (q_pick_true rfl rfl) (dk rfl) ?_
    refine va_done (by kernel_rfl) ?_
    refine hK3 _ ?_
    refine vc_cond_true rfl ?_
    refine vc_seq fun K5 hK5 => ?_
    refine vc_region ?_
    refine vl_q (q_assign rfl) (dk rfl) ?_
    refine vl_q (q_assign rfl) (dk rfl) ?_
    refine vl_q (q_assign rfl) (dk rfl) ?_
    refine vl_q (q_assign rfl) (dk rfl) ?_
    refine vl_q (q_assign rfl) (dk rfl) ?_
    refine vl_nil ?_
    refine hK5 _ ?_
    refine vc_ret ?_
    refine ret_p rfl (.cons (res_tmp rfl) (.cons (res_tmp rfl) (.cons (res_tmp rfl) (.cons (res_tmp rfl) (.cons (res_tmp rfl) .nil))))) (rpT_bel t) ?_
    try simp only [show Int.toNat 0 = 0 from rfl, show Int.toNat 1 = 1 from rfl, show Int.toNat 2 = 2 from rfl] at *
    first | (rw [rpT_t (by omega) h14 (by omega)]; rfl) | (rw [rpT_f (by first | exact .inl (by omega) | exact .inr (.inl h14) | exact .inr (.inr (by omega)))]; rfl)
  · replace h9 := lss_nof h9
    refine va_q 3 rfl (by kernel_rfl) (by kernel_rfl) (by kernel_rfl) (q_move rfl) (dk rfl) ?_
    refine va_qg 4 rfl rfl rfl rfl (by kernel_rfl) (by kernel_rfl) (by kernel_rfl) (q_move rfl) (dk rfl) ?_
    refine va_qg 5 rfl rfl rfl rfl (by kernel_rfl) (by kernel_rfl) (by kernel_rfl) (q_index_str rfl rfl rfl rfl (by omega) (by omega)) (dk rfl) ?_
    refine va_qg 6 rfl rfl rfl rfl (by kernel_rfl) (by kernel_rfl) (by kernel_rfl) (q_convInt rfl rfl rfl rfl (IntWalk.i64_in _ (by have := byteAt_lt t (Int.toNat 2); omega))) (dk rfl) ?_
    refine va_all [7] (by kernel_rfl) (by simp) ⟨⟨_, rfl, ?_⟩, trivial⟩
    refine vl_guard_on rfl rfl rfl ?_
    refine vl_callP (c_spec_l01In (byteAt t 2) 1 15) rfl rfl ⟨XOk.val _, XOk.val _, XOk.val _, trivial⟩ rfl (.inr rfl) (dk rfl) ?_
    refine vl_bool 14 rfl (fun h14 => ?_) (fun h14 => ?_)
    · refine vl_nil ?_
      refine va_qg 8 rfl rfl rfl rfl (by kernel_rfl) (by kernel_rfl) (by kernel_rfl) (q_not rfl) (dk rfl) ?_
      refine va_q 9 rfl (by kernel_rfl) (by kernel_rfl) (by kernel_rfl) (q_pick_false rfl rfl) (dk rfl) ?_
      refine va_q 10 rfl (by kernel_rfl) (by kernel_rfl) (by kernel_rfl) (q_move rfl) (dk rfl) ?_
      refine va_qg 11 rfl rfl rfl rfl (by kernel_rfl) (by kernel_rfl) (by kernel_rfl) (q_move rfl) (dk rfl) ?_
      refine va_qg 12 rfl rfl rfl rfl (by kernel_rfl) (by kernel_rfl) (by kernel_rfl) (q_index_str rfl rfl rfl rfl (by omega) (by omega)) (dk rfl) ?_
      refine va_qg 13 rfl rfl rfl rfl (by kernel_rfl) (by kernel_rfl) (by kernel_rfl) (q_move rfl) (dk rfl) ?_
      refine va_qg 14 rfl rfl rfl rfl (by kernel_rfl) (by kernel_rfl) (by kernel_rfl) (q_index_str rfl rfl rfl rfl (by omega) (by omega)) (dk rfl) ?_
      refine va_twog 15 (x := fun b => vv (.bool b)) _ rfl rfl rfl rfl (by kernel_rfl) (by kernel_rfl) (by kernel_rfl) (q_cmp rfl rfl rfl rfl) (dk rfl) (fun h22 => ?_) (fun h22 => ?_)
      · replace h22 := geq_of h22
        refine va_q 16 rfl (by kernel_rfl) (by kernel_rfl) (by kernel_rfl) (q_pick_false rfl rfl) (dk rfl) ?_
        refine va_done (by kernel_rfl) ?_
        refine hK3 _ ?_
        refine vc_cond_true rfl ?_
        refine vc_seq fun K6 hK6 => ?_
        refine vc_region ?_
        refine vl_q (q_assign rfl) (dk rfl) ?_
        refine vl_q (q_assign rfl) (dk rfl) ?_
        refine vl_q (q_assign rfl) (dk rfl) ?_
        refine vl_q (q_assign rfl) (dk rfl) ?_
        refine vl_q (q_assign rfl) (dk rfl) ?_
        refine vl_nil ?_
        refine hK6 _ ?_
        refine vc_ret ?_
        refine ret_p rfl (.cons (res_tmp rfl) (.cons (res_tmp rfl) (.cons (res_tmp rfl) (.cons (res_tmp rfl) (.cons (res_tmp rfl) .nil))))) (rpT_bel t) ?_
        try simp only [show Int.toNat 0 = 0 from rfl, show Int.toNat 1 = 1 from rfl, show Int.toNat 2 = 2 from rfl] at *
        first | (rw [rpT_t (by omega) h14 (by omega)]; rfl) | (rw [rpT_f (by first | exact .inl (by omega) | exact .inr (.inl h14) | exact .inr (.inr (by omega)))]; rfl)
      · replace h22 := geq_nof h22
        refine va_q 16 rfl (by kernel_rfl) (by kernel_rfl) (by kernel_rfl) (q_pick_false rfl rfl) (dk rfl) ?_
        refine va_done (by kernel_rfl) ?_
        refine hK3 _ ?_
        refine vc_cond_false rfl ?_
        refine vc_skip ?_
        refine hK2 _ ?_
        refine vc_seq fun K7 hK7 => ?_
        refine vc_region_any mixed (fun n => false) true rfl rfl (fun _ hU8 => hU8) fun w1 S1 L1 Z1 H1 => ?_
        refine va_q 0 rfl (by kernel_rfl) (by kernel_rfl) (by kernel_rfl) (q_move rfl) (dk rfl) ?_
        refine va_q 1 rfl (by kernel_rfl) (by kernel_rfl) (by kernel_rfl) (q_index_str rfl rfl rfl rfl (by omega) (by omega)) (dk rfl) ?_
        refine va_q 2 rfl (by kernel_rfl) (by kernel_rfl) (by kernel_rfl) (q_convInt rfl rfl rfl rfl (IntWalk.i64_in _ (by have := byteAt_lt t (Int.toNat 0); omega))) (dk rfl) ?_
        refine va_q 3 rfl (by kernel_rfl) (by kernel_rfl) (by kernel_rfl) (q_move rfl) (dk rfl) ?_
        refine va_q 4 rfl (by kernel_rfl) (by kernel_rfl) (by kernel_rfl) (q_index_str rfl rfl rfl rfl (by omega) (by omega)) (dk rfl) ?_
        refine va_q 5 rfl (by kernel_rfl) (by kernel_rfl) (by kernel_rfl) (q_convInt rfl rfl rfl rfl (IntWalk.i64_in _ (by have := byteAt_lt t (Int.toNat 1); omega))) (dk rfl) ?_
        refine va_q 6 rfl (by kernel_rfl) (by kernel_rfl) (by kernel_rfl) (q_move rfl) (dk rfl) ?_
        refine va_q 7 rfl (by kernel_rfl) (by kernel_rfl) (by kernel_rfl) (q_index_str rfl rfl rfl rfl (by omega) (by omega)) (dk rfl) ?_
        refine va_q 8 rfl (by kernel_rfl) (by kernel_rfl) (by kernel_rfl) (q_convInt rfl rfl rfl rfl (IntWalk.i64_in _ (by have := byteAt_lt t (Int.toNat 2); omega))) (dk rfl) ?_
        refine va_q 9 rfl (by kernel_rfl) (by kernel_rfl) (by kernel_rfl) (q_move rfl) (dk rfl) ?_
        refine va_q 10 rfl (by kernel_rfl) (by kernel_rfl) (by kernel_rfl) (q_slice_str rfl rfl rfl rfl rfl (by omega) (by omega) (by omega)) (dk rfl) ?_
        refine va_q 11 rfl (by kernel_rfl) (by kernel_rfl) (by kernel_rfl) (q_assign rfl) (dk rfl) ?_
        refine va_q 12 rfl (by kernel_rfl) (by kernel_rfl) (by kernel_rfl) (q_assign rfl) (dk rfl) ?_
        refine va_q 13 rfl (by kernel_rfl) (by kernel_rfl) (by kernel_rfl) (q_assign rfl) (dk rfl) ?_
        refine va_q 14 rfl (by kernel_rfl) (by kernel_rfl) (by kernel_rfl) (q_assign rfl) (dk rfl) ?_
        refine va_q 15 rfl (by kernel_rfl) (by kernel_rfl) (by kernel_rfl) (q_assign rfl) (dk rfl) ?_
        refine va_done (by kernel_rfl) ?_
        refine hK7 _ ?_
        refine vc_ret ?_
        refine ret_p rfl (.cons (res_tmp rfl) (.cons (res_tmp rfl) (.cons (res_tmp rfl) (.cons (res_tmp rfl) (.cons (res_tmp rfl) .nil))))) (rpT_bel t) ?_
        try simp only [show Int.toNat 0 = 0 from rfl, show Int.toNat 1 = 1 from rfl, show Int.toNat 2 = 2 from rfl] at *
        first | (rw [rpT_t (by omega) h14 (by omega)]; rfl) | (rw [rpT_f (by first | exact .inl (by omega) | exact .inr (.inl h14) | exact .inr (.inr (by omega)))]; rfl)
    · refine vl_nil ?_
      refine va_qg 8 rfl rfl rfl rfl (by kernel_rfl) (by kernel_rfl) (by kernel_rfl) (q_not rfl) (dk rfl) ?_
      refine va_q 9 rfl (by kernel_rfl) (by kernel_rfl) (by kernel_rfl) (q_pick_false rfl rfl) (dk rfl) ?_
      refine va_q 10 rfl (by kernel_rfl) (by kernel_rfl) (by kernel_rfl) (q_move rfl) (dk rfl) ?_
      refine va_goff 11 rfl rfl rfl rfl (by decide) (by kernel_rfl) (by kernel_rfl) (by kernel_rfl) (dk rfl) ?_
      refine va_goff 12 rfl rfl rfl rfl (by decide) (by kernel_rfl) (by kernel_rfl) (by kernel_rfl) (dk rfl) ?_
      refine va_goff 13 rfl rfl rfl rfl (by decide) (by kernel_rfl) (by kernel_rfl) (by kernel_rfl) (dk rfl) ?_
      refine va_goff 14 rfl rfl rfl rfl (by decide) (by kernel_rfl) (by kernel_rfl) (by kernel_rfl) (dk rfl) ?_
      refine va_goff 15 rfl rfl rfl rfl (by decide) (by kernel_rfl) (by kernel_rfl) (by kernel_rfl) (dk rfl) ?_
      refine va_q 16 rfl (by kernel_rfl) (by kernel_rfl) (by kernel_rfl) (q_pick_true rfl rfl) (dk rfl) ?_
      refine va_done (by kernel_rfl) ?_
      refine hK3 _ ?_
      refine vc_cond_true rfl ?_
      refine vc_seq fun K9 hK9 => ?_
      refine vc_region ?_
      refine vl_q (q_assign rfl) (dk rfl) ?_
      refine vl_q (q_assign rfl) (dk rfl) ?_
      refine vl_q (q_assign rfl) (dk rfl) ?_
      refine vl_q (q_assign rfl) (dk rfl) ?_
      refine vl_q (q_assign rfl) (dk rfl) ?_
      refine vl_nil ?_
      refine hK9 _ ?_
      refine vc_ret ?_
      refine ret_p rfl (.cons (res_tmp rfl) (.cons (res_tmp rfl) (.cons (res_tmp rfl) (.cons (res_tmp rfl) (.cons (res_tmp rfl) .nil))))) (rpT_bel t) ?_
      try simp only [show Int.toNat 0 = 0 from rfl, show Int.toNat 1 = 1 from rfl, show Int.toNat 2 = 2 from rfl] at *
      first | (rw [rpT_t (by omega) h14 (by omega)]; rfl) | (rw [rpT_f (by first | exact .inl (by omega) | exact .inr (.inl h14) | exact .inr (.inr (by omega)))]; rfl)
end Go.Vm.S
namespace Go.Vm.S
open Go Go.Vm
theorem c_ReadPart_t (t : ByteArray) (h : rpOk t = true) : Ctr Pg ty 13 [sv t] [] (Gives (.tup [iv (byteAt t 0), iv (byteAt t 1), iv (byteAt t 2), sv (part t), bv true]) [] []) := by
  have := c_impl_ReadPart t; unfold rpT at this; rwa [if_pos h] at this
theorem c_ReadPart_f (t : ByteArray) (h : rpOk t = false) : Ctr Pg ty 13 [sv t] [] (Gives (.tup [iv 0, iv 0, iv 0, sv ⟨#[]⟩, bv false]) [] []) := by
  have := c_impl_ReadPart t; unfold rpT at this; rwa [if_neg (by rw [h]; simp)] at this
theorem c_sReadPart_t (t : ByteArray) (h : rpOk t = true) : Ctr Pg ty 49 [sv t] [] (Gives (.tup [iv (byteAt t 0), iv (byteAt t 1), iv (byteAt t 2), sv (part t), bv true]) [] []) := by
  have := c_spec_ReadPart t; unfold rpT at this; rwa [if_pos h] at this
theorem c_sReadPart_f (t : ByteArray) (h : rpOk t = false) : Ctr Pg ty 49 [sv t] [] (Gives (.tup [iv 0, iv 0, iv 0, sv ⟨#[]⟩, bv false]) [] []) := by
  have := c_spec_ReadPart t; unfold rpT at this; rwa [if_neg (by rw [h]; simp)] at this
end Go.Vm.S
namespace Go.Vm.S
open Go Go.Vm
set_option maxRecDepth 100000
set_option linter.unusedVariables false
set_option maxHeartbeats 4000000
theorem at57 : FnAt Pg 57 Go.Proofs.Try.f57 := ⟨by kernel_rfl, rfl, by decide⟩
theorem c_heldAt1 (fr id f0 i0 : Int) :
    Ctr Pg ty 57 [.agg [.c (.val (.int .i64 fr)), .c (.val (.int .i64 id)), .c .any, .c .any, .c .any, .c .any], .one (.ptr 0 0 0), .one (.ptr 1 0 0)] [⟨1, clo [[.val (.int .i64 f0)]]⟩, ⟨1, clo [[.val (.int .i64 i0)]]⟩] (Gives (vv (.bool (decide (fr = f0) && decide (id = i0)))) [] [⟨1, clo [[.val (.int .i64 f0)]]⟩, ⟨1, clo [[.val (.int .i64 i0)]]⟩]) := by
  refine ctr at57 rfl (nsK_gives rfl trivial ⟨nsN_clo (by simp [C.noSh_val]), nsN_clo (by simp [C.noSh_val]), trivial⟩) (Nat.le_of_ble_eq_true rfl) fun w0 S0 L0 Z => ?_
  refine vc_seq fun K1 hK1 => ?_
  refine vc_region ?_
  refine vl_box rfl (dk rfl) ?_
  refine vl_q (q_assign rfl) (dk rfl) ?_
  refine vl_nil ?_
  refine hK1 _ ?_
  refine vc_seq fun K2 hK2 => ?_
  refine vc_region ?_
  refine vl_q (q_fieldAddr 0 rfl rfl rfl rfl (by decide) rfl rfl) (dk rfl) ?_
  refine vl_load rfl rfl rfl rfl rfl rfl rfl (by decide) (dk rfl) ?_
  refine vl_load rfl rfl rfl rfl rfl rfl rfl (by decide) (dk rfl) ?_
  refine vl_two (x := fun b => vv (.bool b)) _ (q_cmp rfl rfl rfl rfl) (dk rfl) (fun h8 => ?_) (fun h8 => ?_)
  · replace h8 := eql_of h8
    refine vl_q (q_move rfl) (dk rfl) ?_
    refine vl_guard_on rfl rfl rfl ?_
    refine vl_q (q_fieldAddr 1 rfl rfl rfl rfl (by decide) rfl rfl) (dk rfl) ?_
    refine vl_guard_on rfl rfl rfl ?_
    refine vl_load rfl rfl rfl rfl rfl rfl rfl (by decide) (dk rfl) ?_
    refine vl_guard_on rfl rfl rfl ?_
    refine vl_load rfl rfl rfl rfl rfl rfl rfl (by decide) (dk rfl) ?_
    refine vl_guard_on rfl rfl rfl ?_
    refine vl_two (x := fun b => vv (.bool b)) _ (q_cmp rfl rfl rfl rfl) (dk rfl) (fun h13 => ?_) (fun h13 => ?_)
    · replace h13 := eql_of h13
      refine vl_q (q_pick_true rfl rfl) (dk rfl) ?_
      refine vl_q (q_assign rfl) (dk rfl) ?_
      refine vl_nil ?_
      refine hK2 _ ?_
      refine vc_ret ?_
      refine ret_g [] rfl (.cons (res_tmp rfl) .nil) (by simp_all; rfl) rfl (nodupB_ok rfl) trivial trivial ⟨⟨_, rfl, NR.clo _ _ _ _⟩, ⟨_, rfl, NR.clo _ _ _ _⟩, trivial⟩ (Nat.le_of_ble_eq_true rfl)
    · replace h13 := eql_nof h13
      refine vl_q (q_pick_true rfl rfl) (dk rfl) ?_
      refine vl_q (q_assign rfl) (dk rfl) ?_
      refine vl_nil ?_
      refine hK2 _ ?_
      refine vc_ret ?_
      refine ret_g [] rfl (.cons (res_tmp rfl) .nil) (by simp_all; rfl) rfl (nodupB_ok rfl) trivial trivial ⟨⟨_, rfl, NR.clo _ _ _ _⟩, ⟨_, rfl, NR.clo _ _ _ _⟩, trivial⟩ (Nat.le_of_ble_eq_true rfl)
  · replace h8 := eql_nof h8
    refine vl_q (q_move rfl) (dk rfl) ?_
    refine vl_goff rfl rfl rfl (by decide) (dk rfl) ?_
    refine vl_goff rfl rfl rfl (by decide) (dk rfl) ?_
    refine vl_goff rfl rfl rfl (by decide) (dk rfl) ?_
    refine vl_goff rfl rfl rfl (by decide) (dk rfl) ?_
    refine vl_q (q_pick_false rfl rfl) (dk rfl) ?_
    refine vl_q (q_assign rfl) (dk rfl) ?_
    refine vl_nil ?_
    refine hK2 _ ?_
    refine vc_ret ?_
    refine ret_g [] rfl (.cons (res_tmp rfl) .nil) (by simp_all; rfl) rfl (nodupB_ok rfl) trivial trivial ⟨⟨_, rfl, NR.clo _ _ _ _⟩, ⟨_, rfl, NR.clo _ _ _ _⟩, trivial⟩ (Nat.le_of_ble_eq_true rfl)
theorem at56 : FnAt Pg 56 Go.Proofs.Try.f56 := ⟨by kernel_rfl, rfl, by decide⟩
theorem c_IndexFunc2 (l : List Held) (f0 i0 : Int) :
    Ctr Pg ty 56 [shv 6 (l.map heldC), .one (.fn 57 [(0, 0, 0), (1, 0, 0)])] [⟨1, clo [[.val (.int .i64 f0)]]⟩, ⟨1, clo [[.val (.int .i64 i0)]]⟩] (Gives (vv (.int .i64 (fIdx (sameK f0 i0) l))) [] [⟨1, clo [[.val (.int .i64 f0)]]⟩, ⟨1, clo [[.val (.int .i64 i0)]]⟩]) := by
  refine ctr at56 rfl (nsK_gives rfl trivial ⟨nsN_clo (by simp [C.noSh_val]), nsN_clo (by simp [C.noSh_val]), trivial⟩) (Nat.le_of_ble_eq_true rfl) fun w0 S0 L0 Z => ?_
  refine vc_seq fun K1 hK1 => ?_
  refine vc_region ?_
  refine vl_q (q_assign rfl) (dk rfl) ?_
  refine vl_nil ?_
  refine hK1 _ ?_
  refine vc_seq fun K2 hK2 => ?_
  refine vc_seq fun K3 hK3 => ?_
  refine vc_fact (fun a w g => good_lim (x := .tmp 0) rfl g) fun hlen => ?_
  rw [List.length_map] at hlen
  refine vc_region ?_
  refine vl_q (q_move rfl) (dk rfl) ?_
  refine vl_q (q_len_sh rfl rfl rfl) (dk rfl) ?_
  simp only [List.length_map]
  refine vl_q (q_move rfl) (dk rfl) ?_
  refine vl_nil ?_
  refine hK3 _ ?_
  refine vc_block ?_
  refine vc_loop (fun mz st => ∃ i : Nat, (i ≤ l.length ∧ ∀ j (hj : j < l.length), j < i → sameK f0 i0 l[j] = false) ∧ mz = l.length - i ∧ st = mkSt [(0, .v (shv 6 (l.map heldC))), (1, .v (.one (.fn 57 [(0, 0, 0), (1, 0, 0)]))), (7, .v (iv l.length)), (8, .v (iv i))] [(0, ⟨1, clo [[.val (.int .i64 f0)]]⟩), (1, ⟨1, clo [[.val (.int .i64 i0)]]⟩)] 16) ⟨_, _, ⟨0, ⟨by omega, fun j hj h => absurd h (by omega)⟩, rfl, rfl⟩, (Weak.cut _ _ _ (Nat.le_of_ble_eq_true rfl) ⟨⟨rfl, rfl⟩, ⟨rfl, rfl⟩, ⟨rfl, rfl⟩, ⟨rfl, rfl⟩, trivial⟩ ⟨⟨Nat.le_of_ble_eq_true rfl, rfl, belN_clo _ _ _⟩, ⟨Nat.le_of_ble_eq_true rfl, rfl, belN_clo _ _ _⟩, trivial⟩ rfl)⟩ (fun mz st hI => ?_)
  obtain ⟨i, ⟨hi, hb⟩, hmz, rfl⟩ := hI
  refine vc_seq fun K4 hK4 => ?_
  refine vc_region ?_
  refine vl_two (x := fun b => vv (.bool b)) _ (q_cmp rfl rfl rfl rfl) (dk rfl) (fun h9 => ?_) (fun h9 => ?_)
  · replace h9 := lss_of h9
    refine vl_nil ?_
    refine hK4 _ ?_
    refine vc_seq fun K5 hK5 => ?_
    refine vc_cond_true rfl ?_
    refine vc_skip ?_
    refine hK5 _ ?_
    refine vc_seq fun K6 hK6 => ?_
    refine vc_block ?_
    refine vc_seq fun K7 hK7 => ?_
    have hil : i < l.length := by omega
    refine vc_region ?_
    refine vl_q (q_move rfl) (dk rfl) ?_
    refine vl_q (q_assign rfl) (dk rfl) ?_
    refine vl_nil ?_
    refine hK7 _ ?_
    refine vc_seq fun K8 hK8 => ?_
    refine vc_region ?_
    refine vl_q (q_move rfl) (dk rfl) ?_
    refine vl_q (q_move rfl) (dk rfl) ?_
    refine vl_q (q_move rfl) (dk rfl) ?_
    refine vl_q (q_indexAddr_sh rfl rfl rfl rfl rfl rfl (by decide) (by omega) (get_map (i := i) hil)) (dk rfl) ?_
    refine vl_load_sp rfl rfl rfl rfl (by decide) (dk rfl) ?_
    refine vl_callG [0, 1] (vv (.bool (sameK f0 i0 l[i]))) (c_heldAt1 l[i].fr l[i].id f0 i0) rfl rfl ⟨VOk.agg ⟨XOk.val _, XOk.val _, XOk.any' _, XOk.any' _, XOk.any' _, XOk.any' _, trivial⟩, XOk.ptr rfl (by decide) _ _, XOk.ptr rfl (by decide) _ _, trivial⟩ ⟨⟨_, rfl, NR.clo _ _ _ _⟩, ⟨_, rfl, NR.clo _ _ _ _⟩, trivial⟩ rfl (by decide) trivial ⟨fix_clo _ _, fix_clo _ _, trivial⟩ rfl (.inl rfl) (dk rfl) ?_
    refine vl_bool 16 rfl (fun h16 => ?_) (fun h16 => ?_)
    · refine vl_nil ?_
      refine hK8 _ ?_
      refine vc_cond_true rfl ?_
      refine vc_seq fun K9 hK9 => ?_
      refine vc_region ?_
      refine vl_q (q_move rfl) (dk rfl) ?_
      refine vl_q (q_assign rfl) (dk rfl) ?_
      refine vl_nil ?_
      refine hK9 _ ?_
      refine vc_ret ?_
      refine ret_g [] rfl (.cons (res_tmp rfl) .nil) (by rw [fIdx_at hil hb h16]; rfl) rfl (nodupB_ok rfl) trivial trivial ⟨⟨_, rfl, NR.clo _ _ _ _⟩, ⟨_, rfl, NR.clo _ _ _ _⟩, trivial⟩ (Nat.le_of_ble_eq_true rfl)
    · refine vl_nil ?_
      refine hK8 _ ?_
      refine vc_cond_false rfl ?_
      refine vc_skip ?_
      refine hK6 _ ?_
      refine vc_region ?_
      refine vl_q (q_add rfl rfl (IntWalk.i64_in _ (by omega))) (dk rfl) ?_
      refine vl_q (q_move rfl) (dk rfl) ?_
      refine vl_nil ?_
      refine ⟨_, _, ?_, ⟨i + 1, ⟨by omega, fun j hj h => by by_cases e : j = i; (subst e; exact h16); exact hb j hj (by omega)⟩, rfl, rfl⟩, (Weak.cut _ _ _ (Nat.le_of_ble_eq_true rfl) ⟨⟨rfl, rfl⟩, ⟨rfl, rfl⟩, ⟨rfl, rfl⟩, ⟨rfl, rfl⟩, trivial⟩ ⟨⟨Nat.le_of_ble_eq_true rfl, rfl, belN_clo _ _ _⟩, ⟨Nat.le_of_ble_eq_true rfl, rfl, belN_clo _ _ _⟩, trivial⟩ rfl)⟩
      omega
  · replace h9 := lss_nof h9
    refine vl_nil ?_
    refine hK4 _ ?_
    refine vc_seq fun K10 hK10 => ?_
    refine vc_cond_false rfl ?_
    refine vc_exit ?_
    refine hK2 _ ?_
    refine vc_seq fun K11 hK11 => ?_
    refine vc_region ?_
    refine vl_q (q_assign rfl) (dk rfl) ?_
    refine vl_nil ?_
    refine hK11 _ ?_
    refine vc_ret ?_
    refine ret_g [] rfl (.cons (res_tmp rfl) .nil) (by rw [fIdx_none (fun j hj => hb j hj (by omega))]; rfl) rfl (nodupB_ok rfl) trivial trivial ⟨⟨_, rfl, NR.clo _ _ _ _⟩, ⟨_, rfl, NR.clo _ _ _ _⟩, trivial⟩ (Nat.le_of_ble_eq_true rfl)
theorem at35 : FnAt Pg 35 Go.Proofs.Try.f35 := ⟨by kernel_rfl, rfl, by decide⟩
theorem c_impl_heldAt (l : List Held) (f0 i0 : Int) :
    Ctr Pg ty 35 [.agg ((shelfC l).map X.c), iv f0, iv i0] [] (Gives (vv (.int .i64 (fIdx (sameK f0 i0) l))) [] []) := by
  refine ctr at35 rfl (nsK_gives rfl trivial trivial) (Nat.le_of_ble_eq_true rfl) fun w0 S0 L0 Z => ?_
  refine vc_seq fun K1 hK1 => ?_
  refine vc_region ?_
  refine vl_box rfl (dk rfl) ?_
  refine vl_box rfl (dk rfl) ?_
  refine vl_box rfl (dk rfl) ?_
  refine vl_q (q_assign rfl) (dk rfl) ?_
  refine vl_nil ?_
  refine hK1 _ ?_
  refine vc_seq fun K2 hK2 => ?_
  refine vc_region ?_
  refine vl_q (q_fieldAddr 0 rfl rfl rfl rfl (by decide) rfl rfl) (dk rfl) ?_
  refine vl_load rfl rfl rfl rfl rfl rfl rfl (by decide) (dk rfl) ?_
  refine vl_q (q_makeFunc rfl) (dk rfl) ?_
  refine vl_callG [17, 18] (vv (.int .i64 (fIdx (sameK f0 i0) l))) (c_IndexFunc2 l f0 i0) rfl rfl ⟨XOk.shc _ _, XOk.fn (by decide) rfl (by decide), trivial⟩ ⟨⟨_, rfl, NR.clo _ _ _ _⟩, ⟨_, rfl, NR.clo _ _ _ _⟩, trivial⟩ rfl (by decide) trivial ⟨fix_clo _ _, fix_clo _ _, trivial⟩ rfl (.inl rfl) (dk rfl) ?_
  refine vl_q (q_assign rfl) (dk rfl) ?_
  refine vl_nil ?_
  refine hK2 _ ?_
  refine vc_ret ?_
  refine ret_p rfl (.cons (res_tmp rfl) .nil) rfl ?_
  rfl
end Go.Vm.S
namespace Go.Vm.S
open Go Go.Vm
set_option maxRecDepth 100000
set_option linter.unusedVariables false
set_option maxHeartbeats 4000000
theorem at58 : FnAt Pg 58 Go.Proofs.Try.f58 := ⟨by kernel_rfl, rfl, by decide⟩
theorem c_Index_bool (l : List Bool) (b : Bool) :
    Ctr Pg ty 58 [shv 1 (l.map boolC), bv b] [] (Gives (vv (.int .i64 (bIdx b l))) [] []) := by
  refine ctr at58 rfl (nsK_gives rfl trivial trivial) (Nat.le_of_ble_eq_true rfl) fun w0 S0 L0 Z => ?_
  refine vc_seq fun K1 hK1 => ?_
  refine vc_region ?_
  refine vl_q (q_assign rfl) (dk rfl) ?_
  refine vl_nil ?_
  refine hK1 _ ?_
  refine vc_seq fun K2 hK2 => ?_
  refine vc_seq fun K3 hK3 => ?_
  refine vc_fact (fun a w g => good_lim (x := .tmp 0) rfl g) fun hla => ?_
  rw [List.length_map] at hla
  refine vc_region ?_
  refine vl_q (q_move rfl) (dk rfl) ?_
  refine vl_q (q_len_sh rfl rfl rfl) (dk rfl) ?_
  simp only [List.length_map]
  refine vl_q (q_move rfl) (dk rfl) ?_
  refine vl_nil ?_
  refine hK3 _ ?_
  refine vc_block ?_
  refine vc_loop (fun mz st => ∃ i : Nat, (i ≤ l.length ∧ ∀ j (hj : j < l.length), j < i → (l[j] == b) = false) ∧ mz = l.length - i ∧ st = mkSt [(0, .v (shv 1 (l.map boolC))), (1, .v (bv b)), (7, .v (iv l.length)), (8, .v (iv i))] [] 16) ⟨_, _, ⟨0, ⟨by omega, fun j hj h => absurd h (by omega)⟩, rfl, rfl⟩, (Weak.cut _ _ _ (Nat.le_of_ble_eq_true rfl) ⟨⟨rfl, rfl⟩, ⟨rfl, rfl⟩, ⟨rfl, rfl⟩, ⟨rfl, rfl⟩, trivial⟩ trivial rfl)⟩ (fun mz st hI => ?_)
  obtain ⟨i, ⟨hi, hb⟩, hmz, rfl⟩ := hI
  refine vc_seq fun K4 hK4 => ?_
  refine vc_region ?_
  refine vl_two (x := fun b => vv (.bool b)) _ (q_cmp rfl rfl rfl rfl) (dk rfl) (fun h9 => ?_) (fun h9 => ?_)
  · replace h9 := lss_of h9
    refine vl_nil ?_
    refine hK4 _ ?_
    refine vc_seq fun K5 hK5 => ?_
    refine vc_cond_true rfl ?_
    refine vc_skip ?_
    refine hK5 _ ?_
    refine vc_seq fun K6 hK6 => ?_
    refine vc_block ?_
    refine vc_seq fun K7 hK7 => ?_
    have hil : i < l.length := by omega
    refine vc_region ?_
    refine vl_q (q_move rfl) (dk rfl) ?_
    refine vl_q (q_assign rfl) (dk rfl) ?_
    refine vl_nil ?_
    refine hK7 _ ?_
    refine vc_seq fun K8 hK8 => ?_
    refine vc_region ?_
    refine vl_q (q_move rfl) (dk rfl) ?_
    refine vl_q (q_move rfl) (dk rfl) ?_
    refine vl_q (q_move rfl) (dk rfl) ?_
    refine vl_q (q_indexAddr_sh rfl rfl rfl rfl rfl rfl (by decide) (by omega) (get_map (i := i) hil)) (dk rfl) ?_
    refine vl_load_sp rfl rfl rfl rfl (by decide) (dk rfl) ?_
    refine vl_two (x := fun b => vv (.bool b)) _ (q_cmpB rfl rfl rfl rfl (.inl rfl) rfl) (dk rfl) (fun h16 => ?_) (fun h16 => ?_)
    · replace h16 := eqlB_of h16
      refine vl_nil ?_
      refine hK8 _ ?_
      refine vc_cond_true rfl ?_
      refine vc_seq fun K9 hK9 => ?_
      refine vc_region ?_
      refine vl_q (q_move rfl) (dk rfl) ?_
      refine vl_q (q_assign rfl) (dk rfl) ?_
      refine vl_nil ?_
      refine hK9 _ ?_
      refine vc_ret ?_
      refine ret_p rfl (.cons (res_tmp rfl) .nil) rfl ?_
      rw [bIdx, fIdx_at hil hb (by simp [h16])]; rfl
    · replace h16 := eqlB_nof h16
      refine vl_nil ?_
      refine hK8 _ ?_
      refine vc_cond_false rfl ?_
      refine vc_skip ?_
      refine hK6 _ ?_
      refine vc_region ?_
      refine vl_q (q_add rfl rfl (IntWalk.i64_in _ (by omega))) (dk rfl) ?_
      refine vl_q (q_move rfl) (dk rfl) ?_
      refine vl_nil ?_
      refine ⟨_, _, ?_, ⟨i + 1, ⟨by omega, fun j hj h => by by_cases e : j = i; (subst e; simp; exact fun e => h16 e.symm); exact hb j hj (by omega)⟩, rfl, rfl⟩, (Weak.cut _ _ _ (Nat.le_of_ble_eq_true rfl) ⟨⟨rfl, rfl⟩, ⟨rfl, rfl⟩, ⟨rfl, rfl⟩, ⟨rfl, rfl⟩, trivial⟩ trivial rfl)⟩
      omega
  · replace h9 := lss_nof h9
    refine vl_nil ?_
    refine hK4 _ ?_
    refine vc_seq fun K10 hK10 => ?_
    refine vc_cond_false rfl ?_
    refine vc_exit ?_
    refine hK2 _ ?_
    refine vc_seq fun K11 hK11 => ?_
    refine vc_region ?_
    refine vl_q (q_assign rfl) (dk rfl) ?_
    refine vl_nil ?_
    refine hK11 _ ?_
    refine vc_ret ?_
    refine ret_p rfl (.cons (res_tmp rfl) .nil) rfl ?_
    rw [bIdx, fIdx_none (fun j hj => hb j hj (by omega))]; rfl
theorem at37 : FnAt Pg 37 Go.Proofs.Try.f37 := ⟨by kernel_rfl, rfl, by decide⟩
theorem c_Contains_bool (l : List Bool) (b : Bool) :
    Ctr Pg ty 37 [shv 1 (l.map boolC), bv b] [] (Gives (vv (.bool (decide (b ∈ l)))) [] []) := by
  refine ctr at37 rfl (nsK_gives rfl trivial trivial) (Nat.le_of_ble_eq_true rfl) fun w0 S0 L0 Z => ?_
  refine vc_seq fun K1 hK1 => ?_
  refine vc_region ?_
  refine vl_q (q_assign rfl) (dk rfl) ?_
  refine vl_nil ?_
  refine hK1 _ ?_
  refine vc_seq fun K2 hK2 => ?_
  refine vc_region ?_
  refine vl_q (q_move rfl) (dk rfl) ?_
  refine vl_q (q_move rfl) (dk rfl) ?_
  refine vl_callP (c_Index_bool _ _) rfl rfl ⟨XOk.shc _ _, XOk.val _, trivial⟩ rfl (.inl rfl) (dk rfl) ?_
  refine vl_q (q_cmp rfl rfl rfl rfl) (dk rfl) ?_
  refine vl_q (q_assign rfl) (dk rfl) ?_
  refine vl_nil ?_
  refine hK2 _ ?_
  refine vc_ret ?_
  refine ret_p rfl (.cons (res_tmp rfl) .nil) rfl ?_
  rw [← bIdx_nneg]; rfl
end Go.Vm.S
namespace Go.Vm.S
open Go Go.Vm
set_option maxRecDepth 100000
set_option linter.unusedVariables false
set_option maxHeartbeats 4000000
theorem at39 : FnAt Pg 39 Go.Proofs.Try.f39 := ⟨by kernel_rfl, rfl, by decide⟩
theorem c_impl_heldOk (x : Held) :
    Ctr Pg ty 39 [.agg ((heldC x).map X.c)] [] (Gives (vv (.bool (heldB x))) [] []) := by
  refine ctr at39 rfl (nsK_gives rfl trivial trivial) (Nat.le_of_ble_eq_true rfl) fun w0 S0 L0 Z => ?_
  refine vc_seq fun K1 hK1 => ?_
  refine vc_region ?_
  refine vl_box rfl (dk rfl) ?_
  refine vl_q (q_assign rfl) (dk rfl) ?_
  refine vl_nil ?_
  refine hK1 _ ?_
  refine vc_seq fun K2 hK2 => ?_
  refine vc_seq fun K3 hK3 => ?_
  refine vc_region ?_
  refine vl_q (q_fieldAddr 0 rfl rfl rfl rfl (by decide) rfl rfl) (dk rfl) ?_
  refine vl_load rfl rfl rfl rfl rfl rfl rfl (by decide) (dk rfl) ?_
  refine vl_callP (c_impl_isId _) rfl rfl ⟨XOk.val _, trivial⟩ rfl (.inl rfl) (dk rfl) ?_
  refine vl_bool 8 rfl (fun h8 => ?_) (fun h8 => ?_)
  · refine vl_q (q_not rfl) (dk rfl) ?_
    refine vl_q (q_move rfl) (dk rfl) ?_
    refine vl_guard_on rfl rfl rfl ?_
    refine vl_q (q_fieldAddr 1 rfl rfl rfl rfl (by decide) rfl rfl) (dk rfl) ?_
    refine vl_guard_on rfl rfl rfl ?_
    refine vl_load rfl rfl rfl rfl rfl rfl rfl (by decide) (dk rfl) ?_
    refine vl_guard_on rfl rfl rfl ?_
    refine vl_callP (c_impl_within _ _ _) rfl rfl ⟨XOk.val _, XOk.val _, XOk.val _, trivial⟩ rfl (.inl rfl) (dk rfl) ?_
    refine vl_bool 13 rfl (fun h13 => ?_) (fun h13 => ?_)
    · refine vl_guard_on rfl rfl rfl ?_
      refine vl_q (q_not rfl) (dk rfl) ?_
      refine vl_q (q_pick_false rfl rfl) (dk rfl) ?_
      refine vl_q (q_move rfl) (dk rfl) ?_
      refine vl_guard_on rfl rfl rfl ?_
      refine vl_q (q_fieldAddr 2 rfl rfl rfl rfl (by decide) rfl rfl) (dk rfl) ?_
      refine vl_guard_on rfl rfl rfl ?_
      refine vl_load rfl rfl rfl rfl rfl rfl rfl (by decide) (dk rfl) ?_
      refine vl_guard_on rfl rfl rfl ?_
      refine vl_callP (c_impl_within _ _ _) rfl rfl ⟨XOk.val _, XOk.val _, XOk.val _, trivial⟩ rfl (.inl rfl) (dk rfl) ?_
      refine vl_bool 19 rfl (fun h19 => ?_) (fun h19 => ?_)
      · refine vl_guard_on rfl rfl rfl ?_
        refine vl_q (q_not rfl) (dk rfl) ?_
        refine vl_q (q_pick_false rfl rfl) (dk rfl) ?_
        refine vl_q (q_move rfl) (dk rfl) ?_
        refine vl_guard_on rfl rfl rfl ?_
        refine vl_q (q_fieldAddr 3 rfl rfl rfl rfl (by decide) rfl rfl) (dk rfl) ?_
        refine vl_guard_on rfl rfl rfl ?_
        refine vl_load rfl rfl rfl rfl rfl rfl rfl (by decide) (dk rfl) ?_
        refine vl_guard_on rfl rfl rfl ?_
        refine vl_q (q_len_sh rfl rfl rfl) (dk rfl) ?_
        refine vl_guard_on rfl rfl rfl ?_
        refine vl_q (q_fieldAddr 2 rfl rfl rfl rfl (by decide) rfl rfl) (dk rfl) ?_
        refine vl_guard_on rfl rfl rfl ?_
        refine vl_load rfl rfl rfl rfl rfl rfl rfl (by decide) (dk rfl) ?_
        refine vl_guard_on rfl rfl rfl ?_
        refine vl_two (x := fun b => vv (.bool b)) _ (q_cmp rfl rfl rfl rfl) (dk rfl) (fun h28 => ?_) (fun h28 => ?_)
        · replace h28 := neq_of h28
          refine vl_q (q_pick_false rfl rfl) (dk rfl) ?_
          refine vl_q (q_move rfl) (dk rfl) ?_
          refine vl_goff rfl rfl rfl (by decide) (dk rfl) ?_
          refine vl_goff rfl rfl rfl (by decide) (dk rfl) ?_
          refine vl_goff rfl rfl rfl (by decide) (dk rfl) ?_
          refine vl_goff rfl rfl rfl (by decide) (dk rfl) ?_
          refine vl_goff rfl rfl rfl (by decide) (dk rfl) ?_
          refine vl_goff rfl rfl rfl (by decide) (dk rfl) ?_
          refine vl_q (q_pick_true rfl rfl) (dk rfl) ?_
          refine vl_nil ?_
          refine hK3 _ ?_
          refine vc_cond_true rfl ?_
          refine vc_seq fun K4 hK4 => ?_
          refine vc_region ?_
          refine vl_q (q_assign rfl) (dk rfl) ?_
          refine vl_nil ?_
          refine hK4 _ ?_
          refine vc_ret ?_
          refine ret_p rfl (.cons (res_tmp rfl) .nil) rfl ?_
          try simp only [List.length_map] at *
          first
            | (rw [heldB_f (fun g => Bool.noConfusion (‹within x.fr 1 99 = false›.symm.trans g.fr))]; rfl)
            | (rw [heldB_f (fun g => Bool.noConfusion (‹within x.id 0 255 = false›.symm.trans g.id))]; rfl)
            | (rw [heldB_f (fun g => Bool.noConfusion (‹within x.cnt 2 15 = false›.symm.trans g.cnt))]; rfl)
            | (rw [heldB_f (fun g => Bool.noConfusion (‹within x.til 0 1000000000 = false›.symm.trans g.til))]; rfl)
            | (rw [heldB_f (fun g => absurd g.parts ‹(x.parts.length : Int) ≠ x.cnt›)]; rfl)
            | (rw [heldB_f (fun g => absurd g.hav ‹(x.hav.length : Int) ≠ x.cnt›)]; rfl)
            | (rw [heldB_f (not_row hxh hxp (rowOk_big (by omega)))]; rfl)
            | (rw [heldB_f (not_row hxh hxp (rowOk_junk hbf ‹_ ≠ _›))]; rfl)
            | (rw [heldB_f (fun g => by have g1 := g.have1; have g2 := g.have2; have := within_nof ‹within (haveN x.hav x.hav.length : Nat) 1 (x.cnt - 1) = false›; omega)]; rfl)
            | (rw [heldB_f (fun g => by have g1 := g.have1; have g2 := g.have2; omega)]; rfl)
            | (rw [heldB_t ⟨‹_›, ‹_›, ‹_›, by omega, by omega, hr, by have := within_of ‹within (haveN x.hav x.hav.length : Nat) 1 (x.cnt - 1) = true›; omega, by have := within_of ‹within (haveN x.hav x.hav.length : Nat) 1 (x.cnt - 1) = true›; omega, ‹_›⟩]; rfl)
            | (rw [heldB_t ⟨‹_›, ‹_›, ‹_›, by omega, by omega, hr, by omega, by omega, ‹_›⟩]; rfl)
        · replace h28 := neq_nof h28
          refine vl_q (q_pick_false rfl rfl) (dk rfl) ?_
          refine vl_q (q_move rfl) (dk rfl) ?_
          refine vl_guard_on rfl rfl rfl ?_
          refine vl_q (q_fieldAddr 4 rfl rfl rfl rfl (by decide) rfl rfl) (dk rfl) ?_
          refine vl_guard_on rfl rfl rfl ?_
          refine vl_load rfl rfl rfl rfl rfl rfl rfl (by decide) (dk rfl) ?_
          refine vl_guard_on rfl rfl rfl ?_
          refine vl_q (q_len_sh rfl rfl rfl) (dk rfl) ?_
          refine vl_guard_on rfl rfl rfl ?_
          refine vl_q (q_fieldAddr 2 rfl rfl rfl rfl (by decide) rfl rfl) (dk rfl) ?_
          refine vl_guard_on rfl rfl rfl ?_
          refine vl_load rfl rfl rfl rfl rfl rfl rfl (by decide) (dk rfl) ?_
          refine vl_guard_on rfl rfl rfl ?_
          refine vl_two (x := fun b => vv (.bool b)) _ (q_cmp rfl rfl rfl rfl) (dk rfl) (fun h36 => ?_) (fun h36 => ?_)
          · replace h36 := neq_of h36
            refine vl_q (q_pick_false rfl rfl) (dk rfl) ?_
            refine vl_nil ?_
            refine hK3 _ ?_
            refine vc_cond_true rfl ?_
            refine vc_seq fun K5 hK5 => ?_
            refine vc_region ?_
            refine vl_q (q_assign rfl) (dk rfl) ?_
            refine vl_nil ?_
            refine hK5 _ ?_
            refine vc_ret ?_
            refine ret_p rfl (.cons (res_tmp rfl) .nil) rfl ?_
            try simp only [List.length_map] at *
            first
              | (rw [heldB_f (fun g => Bool.noConfusion (‹within x.fr 1 99 = false›.symm.trans g.fr))]; rfl)
              | (rw [heldB_f (fun g => Bool.noConfusion (‹within x.id 0 255 = false›.symm.trans g.id))]; rfl)
              | (rw [heldB_f (fun g => Bool.noConfusion (‹within x.cnt 2 15 = false›.symm.trans g.cnt))]; rfl)
              | (rw [heldB_f (fun g => Bool.noConfusion (‹within x.til 0 1000000000 = false›.symm.trans g.til))]; rfl)
              | (rw [heldB_f (fun g => absurd g.parts ‹(x.parts.length : Int) ≠ x.cnt›)]; rfl)
              | (rw [heldB_f (fun g => absurd g.hav ‹(x.hav.length : Int) ≠ x.cnt›)]; rfl)
              | (rw [heldB_f (not_row hxh hxp (rowOk_big (by omega)))]; rfl)
              | (rw [heldB_f (not_row hxh hxp (rowOk_junk hbf ‹_ ≠ _›))]; rfl)
              | (rw [heldB_f (fun g => by have g1 := g.have1; have g2 := g.have2; have := within_nof ‹within (haveN x.hav x.hav.length : Nat) 1 (x.cnt - 1) = false›; omega)]; rfl)
              | (rw [heldB_f (fun g => by have g1 := g.have1; have g2 := g.have2; omega)]; rfl)
              | (rw [heldB_t ⟨‹_›, ‹_›, ‹_›, by omega, by omega, hr, by have := within_of ‹within (haveN x.hav x.hav.length : Nat) 1 (x.cnt - 1) = true›; omega, by have := within_of ‹within (haveN x.hav x.hav.length : Nat) 1 (x.cnt - 1) = true›; omega, ‹_›⟩]; rfl)
              | (rw [heldB_t ⟨‹_›, ‹_›, ‹_›, by omega, by omega, hr, by omega, by omega, ‹_›⟩]; rfl)
          · replace h36 := neq_nof h36
            refine vl_q (q_pick_false rfl rfl) (dk rfl) ?_
            refine vl_nil ?_
            refine hK3 _ ?_
            refine vc_cond_false rfl ?_
            refine vc_skip ?_
            refine hK2 _ ?_
            refine vc_seq fun K6 hK6 => ?_
            refine vc_region ?_
            refine vl_q (q_assign rfl) (dk rfl) ?_
            refine vl_nil ?_
            refine hK6 _ ?_
            refine vc_seq fun K7 hK7 => ?_
            refine vc_seq fun K8 hK8 => ?_
            have hw := within_of h19
            simp only [List.length_map] at h28 h36
            refine vc_region ?_
            refine vl_q (q_fieldAddr 4 rfl rfl rfl rfl (by decide) rfl rfl) (dk rfl) ?_
            refine vl_load rfl rfl rfl rfl rfl rfl rfl (by decide) (dk rfl) ?_
            refine vl_q (q_len_sh rfl rfl rfl) (dk rfl) ?_
            simp only [List.length_map]
            refine vl_q (q_move rfl) (dk rfl) ?_
            refine vl_nil ?_
            refine hK8 _ ?_
            refine vc_block ?_
            refine vc_loop (fun mz st => ∃ i : Nat, (i ≤ x.hav.length ∧ rowsOk x i) ∧ mz = x.hav.length - i ∧ st = mkSt [(1, .v (.one (.ptr 16 0 0))), (3, .v (iv (haveN x.hav i : Nat))), (39, .v (shv 1 (x.hav.map boolC))), (40, .v (iv x.hav.length)), (41, .v (iv i))] [(16, ⟨6, [(heldC x).map X.c]⟩)] 17) ⟨_, _, ⟨0, ⟨by omega, rowsOk_zero x⟩, rfl, rfl⟩, (Weak.cut _ _ _ (Nat.le_of_ble_eq_true rfl) ⟨⟨rfl, rfl⟩, ⟨rfl, rfl⟩, ⟨rfl, rfl⟩, ⟨rfl, rfl⟩, ⟨rfl, rfl⟩, trivial⟩ ⟨⟨Nat.le_of_ble_eq_true rfl, rfl, belN_all rfl⟩, trivial⟩ rfl)⟩ (fun mz st hI => ?_)
            obtain ⟨i, ⟨hi, hr⟩, hmz, rfl⟩ := hI
            refine vc_seq fun K9 hK9 => ?_
            refine vc_region ?_
            refine vl_two (x := fun b => vv (.bool b)) _ (q_cmp rfl rfl rfl rfl) (dk rfl) (fun h42 => ?_) (fun h42 => ?_)
            · replace h42 := lss_of h42
              refine vl_nil ?_
              refine hK9 _ ?_
              refine vc_seq fun K10 hK10 => ?_
              refine vc_cond_true rfl ?_
              refine vc_skip ?_
              refine hK10 _ ?_
              refine vc_seq fun K11 hK11 => ?_
              refine vc_block ?_
              refine vc_seq fun K12 hK12 => ?_
              have hxh : i < x.hav.length := by omega
              have hxp : i < x.parts.length := by omega
              refine vc_region ?_
              refine vl_q (q_move rfl) (dk rfl) ?_
              refine vl_q (q_indexAddr_sh rfl rfl rfl rfl rfl rfl (by decide) (by omega) (get_map (i := i) hxh)) (dk rfl) ?_
              refine vl_load_sp rfl rfl rfl rfl (by decide) (dk rfl) ?_
              refine vl_bool 45 rfl (fun h45 => ?_) (fun h45 => ?_)
              · have hbt : x.hav[i] = true := h45
                have hn := haveN_t hxh hbt
                refine vl_q (q_assign rfl) (dk rfl) ?_
                refine vl_q (q_assign rfl) (dk rfl) ?_
                refine vl_nil ?_
                refine hK12 _ ?_
                refine vc_seq fun K13 hK13 => ?_
                refine vc_seq fun K14 hK14 => ?_
                refine vc_region ?_
                refine vl_q (q_move rfl) (dk rfl) ?_
                refine vl_nil ?_
                refine hK14 _ ?_
                refine vc_cond_true rfl ?_
                have hlh := haveN_le x.hav i
                refine vc_region ?_
                refine vl_q (q_move rfl) (dk rfl) ?_
                refine vl_q (q_add rfl rfl (IntWalk.i64_in _ (by omega))) (dk rfl) ?_
                refine vl_q (q_assign rfl) (dk rfl) ?_
                refine vl_nil ?_
                refine hK13 _ ?_
                refine vc_seq fun K15 hK15 => ?_
                refine vc_region ?_
                refine vl_q (q_fieldAddr 3 rfl rfl rfl rfl (by decide) rfl rfl) (dk rfl) ?_
                refine vl_load rfl rfl rfl rfl rfl rfl rfl (by decide) (dk rfl) ?_
                refine vl_q (q_move rfl) (dk rfl) ?_
                refine vl_q (q_indexAddr_sh rfl rfl rfl rfl rfl rfl (by decide) (by omega) (get_map (i := i) hxp)) (dk rfl) ?_
                refine vl_load_sp rfl rfl rfl rfl (by decide) (dk rfl) ?_
                refine vl_q (q_len_str rfl rfl rfl) (dk rfl) ?_
                refine vl_two (x := fun b => vv (.bool b)) _ (q_cmp rfl rfl rfl rfl) (dk rfl) (fun h55 => ?_) (fun h55 => ?_)
                · replace h55 := gtr_of h55
                  refine vl_q (q_move rfl) (dk rfl) ?_
                  refine vl_goff rfl rfl rfl (by decide) (dk rfl) ?_
                  refine vl_goff rfl rfl rfl (by decide) (dk rfl) ?_
                  refine vl_goff rfl rfl rfl (by decide) (dk rfl) ?_
                  refine vl_goffU rfl rfl rfl (dk rfl) ?_
                  refine vl_goffU rfl rfl rfl (dk rfl) ?_
                  refine vl_goffU rfl rfl rfl (dk rfl) ?_
                  refine vl_goffU rfl rfl rfl (dk rfl) ?_
                  refine vl_goffU rfl rfl rfl (dk rfl) ?_
                  refine vl_goffU rfl rfl rfl (dk rfl) ?_
                  refine vl_goff rfl rfl rfl (by decide) (dk rfl) ?_
                  refine vl_q (q_pick_true rfl rfl) (dk rfl) ?_
                  refine vl_nil ?_
                  refine hK15 _ ?_
                  refine vc_cond_true rfl ?_
                  refine vc_seq fun K16 hK16 => ?_
                  refine vc_region ?_
                  refine vl_q (q_assign rfl) (dk rfl) ?_
                  refine vl_nil ?_
                  refine hK16 _ ?_
                  refine vc_ret ?_
                  refine ret_p rfl (.cons (res_tmp rfl) .nil) rfl ?_
                  try simp only [List.length_map] at *
                  first
                    | (rw [heldB_f (fun g => Bool.noConfusion (‹within x.fr 1 99 = false›.symm.trans g.fr))]; rfl)
                    | (rw [heldB_f (fun g => Bool.noConfusion (‹within x.id 0 255 = false›.symm.trans g.id))]; rfl)
                    | (rw [heldB_f (fun g => Bool.noConfusion (‹within x.cnt 2 15 = false›.symm.trans g.cnt))]; rfl)
                    | (rw [heldB_f (fun g => Bool.noConfusion (‹within x.til 0 1000000000 = false›.symm.trans g.til))]; rfl)
                    | (rw [heldB_f (fun g => absurd g.parts ‹(x.parts.length : Int) ≠ x.cnt›)]; rfl)
                    | (rw [heldB_f (fun g => absurd g.hav ‹(x.hav.length : Int) ≠ x.cnt›)]; rfl)
                    | (rw [heldB_f (not_row hxh hxp (rowOk_big (by omega)))]; rfl)
                    | (rw [heldB_f (not_row hxh hxp (rowOk_junk hbf ‹_ ≠ _›))]; rfl)
                    | (rw [heldB_f (fun g => by have g1 := g.have1; have g2 := g.have2; have := within_nof ‹within (haveN x.hav x.hav.length : Nat) 1 (x.cnt - 1) = false›; omega)]; rfl)
                    | (rw [heldB_f (fun g => by have g1 := g.have1; have g2 := g.have2; omega)]; rfl)
                    | (rw [heldB_t ⟨‹_›, ‹_›, ‹_›, by omega, by omega, hr, by have := within_of ‹within (haveN x.hav x.hav.length : Nat) 1 (x.cnt - 1) = true›; omega, by have := within_of ‹within (haveN x.hav x.hav.length : Nat) 1 (x.cnt - 1) = true›; omega, ‹_›⟩]; rfl)
                    | (rw [heldB_t ⟨‹_›, ‹_›, ‹_›, by omega, by omega, hr, by omega, by omega, ‹_›⟩]; rfl)
                · replace h55 := gtr_nof h55
                  refine vl_q (q_move rfl) (dk rfl) ?_
                  refine vl_guard_on rfl rfl rfl ?_
                  refine vl_q (q_move rfl) (dk rfl) ?_
                  refine vl_guard_on rfl rfl rfl ?_
                  refine vl_q (q_not rfl) (dk rfl) ?_
                  refine vl_guard_on rfl rfl rfl ?_
                  refine vl_q (q_move rfl) (dk rfl) ?_
                  refine vl_goff rfl rfl rfl (by decide) (dk rfl) ?_
                  refine vl_goff rfl rfl rfl (by decide) (dk rfl) ?_
                  refine vl_goff rfl rfl rfl (by decide) (dk rfl) ?_
                  refine vl_goff rfl rfl rfl (by decide) (dk rfl) ?_
                  refine vl_goff rfl rfl rfl (by decide) (dk rfl) ?_
                  refine vl_goff rfl rfl rfl (by decide) (dk rfl) ?_
                  refine vl_guard_on rfl rfl rfl ?_
                  refine vl_q (q_pick_false rfl rfl) (dk rfl) ?_
                  refine vl_q (q_pick_false rfl rfl) (dk rfl) ?_
                  refine vl_nil ?_
                  refine hK15 _ ?_
                  refine vc_cond_false rfl ?_
                  refine vc_skip ?_
                  refine hK11 _ ?_
                  refine vc_region ?_
                  refine vl_q (q_add rfl rfl (IntWalk.i64_in _ (by omega))) (dk rfl) ?_
                  refine vl_q (q_move rfl) (dk rfl) ?_
                  refine vl_nil ?_
                  refine ⟨_, _, ?_, ⟨i + 1, ⟨by omega, rowsOk_succ hr hxh hxp (rowOk_t (by omega) (by first | exact .inl hbt | exact .inr h65))⟩, rfl, rfl⟩, (Weak.cut _ _ _ (Nat.le_of_ble_eq_true rfl) ⟨⟨rfl, rfl⟩, ⟨iv_eq (by omega), rfl⟩, ⟨rfl, rfl⟩, ⟨rfl, rfl⟩, ⟨rfl, rfl⟩, trivial⟩ ⟨⟨Nat.le_of_ble_eq_true rfl, rfl, belN_all rfl⟩, trivial⟩ rfl)⟩
                  omega
              · have hbf : x.hav[i] = false := h45
                have hn := haveN_f hxh hbf
                refine vl_q (q_assign rfl) (dk rfl) ?_
                refine vl_q (q_assign rfl) (dk rfl) ?_
                refine vl_nil ?_
                refine hK12 _ ?_
                refine vc_seq fun K17 hK17 => ?_
                refine vc_seq fun K18 hK18 => ?_
                refine vc_region ?_
                refine vl_q (q_move rfl) (dk rfl) ?_
                refine vl_nil ?_
                refine hK18 _ ?_
                refine vc_cond_false rfl ?_
                refine vc_skip ?_
                refine hK17 _ ?_
                refine vc_seq fun K19 hK19 => ?_
                refine vc_region ?_
                refine vl_q (q_fieldAddr 3 rfl rfl rfl rfl (by decide) rfl rfl) (dk rfl) ?_
                refine vl_load rfl rfl rfl rfl rfl rfl rfl (by decide) (dk rfl) ?_
                refine vl_q (q_move rfl) (dk rfl) ?_
                refine vl_q (q_indexAddr_sh rfl rfl rfl rfl rfl rfl (by decide) (by omega) (get_map (i := i) hxp)) (dk rfl) ?_
                refine vl_load_sp rfl rfl rfl rfl (by decide) (dk rfl) ?_
                refine vl_q (q_len_str rfl rfl rfl) (dk rfl) ?_
                refine vl_two (x := fun b => vv (.bool b)) _ (q_cmp rfl rfl rfl rfl) (dk rfl) (fun h55 => ?_) (fun h55 => ?_)
                · replace h55 := gtr_of h55
                  refine vl_q (q_move rfl) (dk rfl) ?_
                  refine vl_goff rfl rfl rfl (by decide) (dk rfl) ?_
                  refine vl_goff rfl rfl rfl (by decide) (dk rfl) ?_
                  refine vl_goff rfl rfl rfl (by decide) (dk rfl) ?_
                  refine vl_goffU rfl rfl rfl (dk rfl) ?_
                  refine vl_goffU rfl rfl rfl (dk rfl) ?_
                  refine vl_goffU rfl rfl rfl (dk rfl) ?_
                  refine vl_goffU rfl rfl rfl (dk rfl) ?_
                  refine vl_goffU rfl rfl rfl (dk rfl) ?_
                  refine vl_goffU rfl rfl rfl (dk rfl) ?_
                  refine vl_goff rfl rfl rfl (by decide) (dk rfl) ?_
                  refine vl_q (q_pick_true rfl rfl) (dk rfl) ?_
                  refine vl_nil ?_
                  refine hK19 _ ?_
                  refine vc_cond_true rfl ?_
                  refine vc_seq fun K20 hK20 => ?_
                  refine vc_region ?_
                  refine vl_q (q_assign rfl) (dk rfl) ?_
                  refine vl_nil ?_
                  refine hK20 _ ?_
                  refine vc_ret ?_
                  refine ret_p rfl (.cons (res_tmp rfl) .nil) rfl ?_
                  try simp only [List.length_map] at *
                  first
                    | (rw [heldB_f (fun g => Bool.noConfusion (‹within x.fr 1 99 = false›.symm.trans g.fr))]; rfl)
                    | (rw [heldB_f (fun g => Bool.noConfusion (‹within x.id 0 255 = false›.symm.trans g.id))]; rfl)
                    | (rw [heldB_f (fun g => Bool.noConfusion (‹within x.cnt 2 15 = false›.symm.trans g.cnt))]; rfl)
                    | (rw [heldB_f (fun g => Bool.noConfusion (‹within x.til 0 1000000000 = false›.symm.trans g.til))]; rfl)
                    | (rw [heldB_f (fun g => absurd g.parts ‹(x.parts.length : Int) ≠ x.cnt›)]; rfl)
                    | (rw [heldB_f (fun g => absurd g.hav ‹(x.hav.length : Int) ≠ x.cnt›)]; rfl)
                    | (rw [heldB_f (not_row hxh hxp (rowOk_big (by omega)))]; rfl)
                    | (rw [heldB_f (not_row hxh hxp (rowOk_junk hbf ‹_ ≠ _›))]; rfl)
                    | (rw [heldB_f (fun g => by have g1 := g.have1; have g2 := g.have2; have := within_nof ‹within (haveN x.hav x.hav.length : Nat) 1 (x.cnt - 1) = false›; omega)]; rfl)
                    | (rw [heldB_f (fun g => by have g1 := g.have1; have g2 := g.have2; omega)]; rfl)
                    | (rw [heldB_t ⟨‹_›, ‹_›, ‹_›, by omega, by omega, hr, by have := within_of ‹within (haveN x.hav x.hav.length : Nat) 1 (x.cnt - 1) = true›; omega, by have := within_of ‹within (haveN x.hav x.hav.length : Nat) 1 (x.cnt - 1) = true›; omega, ‹_›⟩]; rfl)
                    | (rw [heldB_t ⟨‹_›, ‹_›, ‹_›, by omega, by omega, hr, by omega, by omega, ‹_›⟩]; rfl)
                · replace h55 := gtr_nof h55
                  refine vl_q (q_move rfl) (dk rfl) ?_
                  refine vl_guard_on rfl rfl rfl ?_
                  refine vl_q (q_move rfl) (dk rfl) ?_
                  refine vl_guard_on rfl rfl rfl ?_
                  refine vl_q (q_not rfl) (dk rfl) ?_
                  refine vl_guard_on rfl rfl rfl ?_
                  refine vl_q (q_move rfl) (dk rfl) ?_
                  refine vl_guard_on rfl rfl rfl ?_
                  refine vl_q (q_fieldAddr 3 rfl rfl rfl rfl (by decide) rfl rfl) (dk rfl) ?_
                  refine vl_guard_on rfl rfl rfl ?_
                  refine vl_load rfl rfl rfl rfl rfl rfl rfl (by decide) (dk rfl) ?_
                  refine vl_guard_on rfl rfl rfl ?_
                  refine vl_q (q_move rfl) (dk rfl) ?_
                  refine vl_guard_on rfl rfl rfl ?_
                  refine vl_q (q_indexAddr_sh rfl rfl rfl rfl rfl rfl (by decide) (by omega) (get_map (i := i) hxp)) (dk rfl) ?_
                  refine vl_guard_on rfl rfl rfl ?_
                  refine vl_load_sp rfl rfl rfl rfl (by decide) (dk rfl) ?_
                  refine vl_guard_on rfl rfl rfl ?_
                  refine vl_two (x := fun b => vv (.bool b)) _ (q_cmpS rfl rfl (.inr rfl) rfl) (dk rfl) (fun h65 => ?_) (fun h65 => ?_)
                  · replace h65 := neqS_of h65
                    refine vl_guard_on rfl rfl rfl ?_
                    refine vl_q (q_pick_true rfl rfl) (dk rfl) ?_
                    refine vl_q (q_pick_false rfl rfl) (dk rfl) ?_
                    refine vl_nil ?_
                    refine hK19 _ ?_
                    refine vc_cond_true rfl ?_
                    refine vc_seq fun K21 hK21 => ?_
                    refine vc_region ?_
                    refine vl_q (q_assign rfl) (dk rfl) ?_
                    refine vl_nil ?_
                    refine hK21 _ ?_
                    refine vc_ret ?_
                    refine ret_p rfl (.cons (res_tmp rfl) .nil) rfl ?_
                    try simp only [List.length_map] at *
                    first
                      | (rw [heldB_f (fun g => Bool.noConfusion (‹within x.fr 1 99 = false›.symm.trans g.fr))]; rfl)
                      | (rw [heldB_f (fun g => Bool.noConfusion (‹within x.id 0 255 = false›.symm.trans g.id))]; rfl)
                      | (rw [heldB_f (fun g => Bool.noConfusion (‹within x.cnt 2 15 = false›.symm.trans g.cnt))]; rfl)
                      | (rw [heldB_f (fun g => Bool.noConfusion (‹within x.til 0 1000000000 = false›.symm.trans g.til))]; rfl)
                      | (rw [heldB_f (fun g => absurd g.parts ‹(x.parts.length : Int) ≠ x.cnt›)]; rfl)
                      | (rw [heldB_f (fun g => absurd g.hav ‹(x.hav.length : Int) ≠ x.cnt›)]; rfl)
                      | (rw [heldB_f (not_row hxh hxp (rowOk_big (by omega)))]; rfl)
                      | (rw [heldB_f (not_row hxh hxp (rowOk_junk hbf ‹_ ≠ _›))]; rfl)
                      | (rw [heldB_f (fun g => by have g1 := g.have1; have g2 := g.have2; have := within_nof ‹within (haveN x.hav x.hav.length : Nat) 1 (x.cnt - 1) = false›; omega)]; rfl)
                      | (rw [heldB_f (fun g => by have g1 := g.have1; have g2 := g.have2; omega)]; rfl)
                      | (rw [heldB_t ⟨‹_›, ‹_›, ‹_›, by omega, by omega, hr, by have := within_of ‹within (haveN x.hav x.hav.length : Nat) 1 (x.cnt - 1) = true›; omega, by have := within_of ‹within (haveN x.hav x.hav.length : Nat) 1 (x.cnt - 1) = true›; omega, ‹_›⟩]; rfl)
                      | (rw [heldB_t ⟨‹_›, ‹_›, ‹_›, by omega, by omega, hr, by omega, by omega, ‹_›⟩]; rfl)
                  · replace h65 := neqS_nof h65
                    refine vl_guard_on rfl rfl rfl ?_
                    refine vl_q (q_pick_true rfl rfl) (dk rfl) ?_
                    refine vl_q (q_pick_false rfl rfl) (dk rfl) ?_
                    refine vl_nil ?_
                    refine hK19 _ ?_
                    refine vc_cond_false rfl ?_
                    refine vc_skip ?_
                    refine hK11 _ ?_
                    refine vc_region ?_
                    refine vl_q (q_add rfl rfl (IntWalk.i64_in _ (by omega))) (dk rfl) ?_
                    refine vl_q (q_move rfl) (dk rfl) ?_
                    refine vl_nil ?_
                    refine ⟨_, _, ?_, ⟨i + 1, ⟨by omega, rowsOk_succ hr hxh hxp (rowOk_t (by omega) (by first | exact .inl hbt | exact .inr h65))⟩, rfl, rfl⟩, (Weak.cut _ _ _ (Nat.le_of_ble_eq_true rfl) ⟨⟨rfl, rfl⟩, ⟨iv_eq (by omega), rfl⟩, ⟨rfl, rfl⟩, ⟨rfl, rfl⟩, ⟨rfl, rfl⟩, trivial⟩ ⟨⟨Nat.le_of_ble_eq_true rfl, rfl, belN_all rfl⟩, trivial⟩ rfl)⟩
                    omega
            · replace h42 := lss_nof h42
              refine vl_nil ?_
              refine hK9 _ ?_
              refine vc_seq fun K22 hK22 => ?_
              refine vc_cond_false rfl ?_
              refine vc_exit ?_
              refine hK7 _ ?_
              refine vc_seq fun K23 hK23 => ?_
              obtain rfl : i = x.hav.length := by omega
              have hlh := haveN_le x.hav x.hav.length
              refine vc_region ?_
              refine vl_q (q_move rfl) (dk rfl) ?_
              refine vl_q (q_fieldAddr 2 rfl rfl rfl rfl (by decide) rfl rfl) (dk rfl) ?_
              refine vl_load rfl rfl rfl rfl rfl rfl rfl (by decide) (dk rfl) ?_
              refine vl_q (q_sub rfl rfl (IntWalk.i64_in _ (by omega))) (dk rfl) ?_
              refine vl_callP (c_impl_within _ _ _) rfl rfl ⟨XOk.val _, XOk.val _, XOk.val _, trivial⟩ rfl (.inl rfl) (dk rfl) ?_
              refine vl_bool 73 rfl (fun h73 => ?_) (fun h73 => ?_)
              · refine vl_q (q_move rfl) (dk rfl) ?_
                refine vl_guard_on rfl rfl rfl ?_
                refine vl_q (q_fieldAddr 5 rfl rfl rfl rfl (by decide) rfl rfl) (dk rfl) ?_
                refine vl_guard_on rfl rfl rfl ?_
                refine vl_load rfl rfl rfl rfl rfl rfl rfl (by decide) (dk rfl) ?_
                refine vl_guard_on rfl rfl rfl ?_
                refine vl_callP (c_impl_within _ _ _) rfl rfl ⟨XOk.val _, XOk.val _, XOk.val _, trivial⟩ rfl (.inl rfl) (dk rfl) ?_
                refine vl_bool 77 rfl (fun h77 => ?_) (fun h77 => ?_)
                · refine vl_q (q_pick_true rfl rfl) (dk rfl) ?_
                  refine vl_q (q_assign rfl) (dk rfl) ?_
                  refine vl_nil ?_
                  refine hK23 _ ?_
                  refine vc_ret ?_
                  refine ret_p rfl (.cons (res_tmp rfl) .nil) rfl ?_
                  try simp only [List.length_map] at *
                  first
                    | (rw [heldB_f (fun g => Bool.noConfusion (‹within x.fr 1 99 = false›.symm.trans g.fr))]; rfl)
                    | (rw [heldB_f (fun g => Bool.noConfusion (‹within x.id 0 255 = false›.symm.trans g.id))]; rfl)
                    | (rw [heldB_f (fun g => Bool.noConfusion (‹within x.cnt 2 15 = false›.symm.trans g.cnt))]; rfl)
                    | (rw [heldB_f (fun g => Bool.noConfusion (‹within x.til 0 1000000000 = false›.symm.trans g.til))]; rfl)
                    | (rw [heldB_f (fun g => absurd g.parts ‹(x.parts.length : Int) ≠ x.cnt›)]; rfl)
                    | (rw [heldB_f (fun g => absurd g.hav ‹(x.hav.length : Int) ≠ x.cnt›)]; rfl)
                    | (rw [heldB_f (not_row hxh hxp (rowOk_big (by omega)))]; rfl)
                    | (rw [heldB_f (not_row hxh hxp (rowOk_junk hbf ‹_ ≠ _›))]; rfl)
                    | (rw [heldB_f (fun g => by have g1 := g.have1; have g2 := g.have2; have := within_nof ‹within (haveN x.hav x.hav.length : Nat) 1 (x.cnt - 1) = false›; omega)]; rfl)
                    | (rw [heldB_f (fun g => by have g1 := g.have1; have g2 := g.have2; omega)]; rfl)
                    | (rw [heldB_t ⟨‹_›, ‹_›, ‹_›, by omega, by omega, hr, by have := within_of ‹within (haveN x.hav x.hav.length : Nat) 1 (x.cnt - 1) = true›; omega, by have := within_of ‹within (haveN x.hav x.hav.length : Nat) 1 (x.cnt - 1) = true›; omega, ‹_›⟩]; rfl)
                    | (rw [heldB_t ⟨‹_›, ‹_›, ‹_›, by omega, by omega, hr, by omega, by omega, ‹_›⟩]; rfl)
                · refine vl_q (q_pick_true rfl rfl) (dk rfl) ?_
                  refine vl_q (q_assign rfl) (dk rfl) ?_
                  refine vl_nil ?_
                  refine hK23 _ ?_
                  refine vc_ret ?_
                  refine ret_p rfl (.cons (res_tmp rfl) .nil) rfl ?_
                  try simp only [List.length_map] at *
                  first
                    | (rw [heldB_f (fun g => Bool.noConfusion (‹within x.fr 1 99 = false›.symm.trans g.fr))]; rfl)
                    | (rw [heldB_f (fun g => Bool.noConfusion (‹within x.id 0 255 = false›.symm.trans g.id))]; rfl)
                    | (rw [heldB_f (fun g => Bool.noConfusion (‹within x.cnt 2 15 = false›.symm.trans g.cnt))]; rfl)
                    | (rw [heldB_f (fun g => Bool.noConfusion (‹within x.til 0 1000000000 = false›.symm.trans g.til))]; rfl)
                    | (rw [heldB_f (fun g => absurd g.parts ‹(x.parts.length : Int) ≠ x.cnt›)]; rfl)
                    | (rw [heldB_f (fun g => absurd g.hav ‹(x.hav.length : Int) ≠ x.cnt›)]; rfl)
                    | (rw [heldB_f (not_row hxh hxp (rowOk_big (by omega)))]; rfl)
                    | (rw [heldB_f (not_row hxh hxp (rowOk_junk hbf ‹_ ≠ _›))]; rfl)
                    | (rw [heldB_f (fun g => by have g1 := g.have1; have g2 := g.have2; have := within_nof ‹within (haveN x.hav x.hav.length : Nat) 1 (x.cnt - 1) = false›; omega)]; rfl)
                    | (rw [heldB_f (fun g => by have g1 := g.have1; have g2 := g.have2; omega)]; rfl)
                    | (rw [heldB_t ⟨‹_›, ‹_›, ‹_›, by omega, by omega, hr, by have := within_of ‹within (haveN x.hav x.hav.length : Nat) 1 (x.cnt - 1) = true›; omega, by have := within_of ‹within (haveN x.hav x.hav.length : Nat) 1 (x.cnt - 1) = true›; omega, ‹_›⟩]; rfl)
                    | (rw [heldB_t ⟨‹_›, ‹_›, ‹_›, by omega, by omega, hr, by omega, by omega, ‹_›⟩]; rfl)
              · refine vl_q (q_move rfl) (dk rfl) ?_
                refine vl_goff rfl rfl rfl (by decide) (dk rfl) ?_
                refine vl_goff rfl rfl rfl (by decide) (dk rfl) ?_
                refine vl_goff rfl rfl rfl (by decide) (dk rfl) ?_
                refine vl_q (q_pick_false rfl rfl) (dk rfl) ?_
                refine vl_q (q_assign rfl) (dk rfl) ?_
                refine vl_nil ?_
                refine hK23 _ ?_
                refine vc_ret ?_
                refine ret_p rfl (.cons (res_tmp rfl) .nil) rfl ?_
                try simp only [List.length_map] at *
                first
                  | (rw [heldB_f (fun g => Bool.noConfusion (‹within x.fr 1 99 = false›.symm.trans g.fr))]; rfl)
                  | (rw [heldB_f (fun g => Bool.noConfusion (‹within x.id 0 255 = false›.symm.trans g.id))]; rfl)
                  | (rw [heldB_f (fun g => Bool.noConfusion (‹within x.cnt 2 15 = false›.symm.trans g.cnt))]; rfl)
                  | (rw [heldB_f (fun g => Bool.noConfusion (‹within x.til 0 1000000000 = false›.symm.trans g.til))]; rfl)
                  | (rw [heldB_f (fun g => absurd g.parts ‹(x.parts.length : Int) ≠ x.cnt›)]; rfl)
                  | (rw [heldB_f (fun g => absurd g.hav ‹(x.hav.length : Int) ≠ x.cnt›)]; rfl)
                  | (rw [heldB_f (not_row hxh hxp (rowOk_big (by omega)))]; rfl)
                  | (rw [heldB_f (not_row hxh hxp (rowOk_junk hbf ‹_ ≠ _›))]; rfl)
                  | (rw [heldB_f (fun g => by have g1 := g.have1; have g2 := g.have2; have := within_nof ‹within (haveN x.hav x.hav.length : Nat) 1 (x.cnt - 1) = false›; omega)]; rfl)
                  | (rw [heldB_f (fun g => by have g1 := g.have1; have g2 := g.have2; omega)]; rfl)
                  | (rw [heldB_t ⟨‹_›, ‹_›, ‹_›, by omega, by omega, hr, by have := within_of ‹within (haveN x.hav x.hav.length : Nat) 1 (x.cnt - 1) = true›; omega, by have := within_of ‹within (haveN x.hav x.hav.length : Nat) 1 (x.cnt - 1) = true›; omega, ‹_›⟩]; rfl)
                  | (rw [heldB_t ⟨‹_›, ‹_›, ‹_›, by omega, by omega, hr, by omega, by omega, ‹_›⟩]; rfl)
      · refine vl_guard_on rfl rfl rfl ?_
        refine vl_q (q_not rfl) (dk rfl) ?_
        refine vl_q (q_pick_false rfl rfl) (dk rfl) ?_
        refine vl_q (q_move rfl) (dk rfl) ?_
        refine vl_goff rfl rfl rfl (by decide) (dk rfl) ?_
        refine vl_goff rfl rfl rfl (by decide) (dk rfl) ?_
        refine vl_goff rfl rfl rfl (by decide) (dk rfl) ?_
        refine vl_goff rfl rfl rfl (by decide) (dk rfl) ?_
        refine vl_goff rfl rfl rfl (by decide) (dk rfl) ?_
        refine vl_goff rfl rfl rfl (by decide) (dk rfl) ?_
        refine vl_q (q_pick_true rfl rfl) (dk rfl) ?_
        refine vl_q (q_move rfl) (dk rfl) ?_
        refine vl_goff rfl rfl rfl (by decide) (dk rfl) ?_
        refine vl_goff rfl rfl rfl (by decide) (dk rfl) ?_
        refine vl_goff rfl rfl rfl (by decide) (dk rfl) ?_
        refine vl_goff rfl rfl rfl (by decide) (dk rfl) ?_
        refine vl_goff rfl rfl rfl (by decide) (dk rfl) ?_
        refine vl_goff rfl rfl rfl (by decide) (dk rfl) ?_
        refine vl_q (q_pick_true rfl rfl) (dk rfl) ?_
        refine vl_nil ?_
        refine hK3 _ ?_
        refine vc_cond_true rfl ?_
        refine vc_seq fun K24 hK24 => ?_
        refine vc_region ?_
        refine vl_q (q_assign rfl) (dk rfl) ?_
        refine vl_nil ?_
        refine hK24 _ ?_
        refine vc_ret ?_
        refine ret_p rfl (.cons (res_tmp rfl) .nil) rfl ?_
        try simp only [List.length_map] at *
        first
          | (rw [heldB_f (fun g => Bool.noConfusion (‹within x.fr 1 99 = false›.symm.trans g.fr))]; rfl)
          | (rw [heldB_f (fun g => Bool.noConfusion (‹within x.id 0 255 = false›.symm.trans g.id))]; rfl)
          | (rw [heldB_f (fun g => Bool.noConfusion (‹within x.cnt 2 15 = false›.symm.trans g.cnt))]; rfl)
          | (rw [heldB_f (fun g => Bool.noConfusion (‹within x.til 0 1000000000 = false›.symm.trans g.til))]; rfl)
          | (rw [heldB_f (fun g => absurd g.parts ‹(x.parts.length : Int) ≠ x.cnt›)]; rfl)
          | (rw [heldB_f (fun g => absurd g.hav ‹(x.hav.length : Int) ≠ x.cnt›)]; rfl)
          | (rw [heldB_f (not_row hxh hxp (rowOk_big (by omega)))]; rfl)
          | (rw [heldB_f (not_row hxh hxp (rowOk_junk hbf ‹_ ≠ _›))]; rfl)
          | (rw [heldB_f (fun g => by have g1 := g.have1; have g2 := g.have2; have := within_nof ‹within (haveN x.hav x.hav.length : Nat) 1 (x.cnt - 1) = false›; omega)]; rfl)
          | (rw [heldB_f (fun g => by have g1 := g.have1; have g2 := g.have2; omega)]; rfl)
          | (rw [heldB_t ⟨‹_›, ‹_›, ‹_›, by omega, by omega, hr, by have := within_of ‹within (haveN x.hav x.hav.length : Nat) 1 (x.cnt - 1) = true›; omega, by have := within_of ‹within (haveN x.hav x.hav.length : Nat) 1 (x.cnt - 1) = true›; omega, ‹_›⟩]; rfl)
          | (rw [heldB_t ⟨‹_›, ‹_›, ‹_›, by omega, by omega, hr, by omega, by omega, ‹_›⟩]; rfl)
    · refine vl_guard_on rfl rfl rfl ?_
      refine vl_q (q_not rfl) (dk rfl) ?_
      refine vl_q (q_pick_false rfl rfl) (dk rfl) ?_
      refine vl_q (q_move rfl) (dk rfl) ?_
      refine vl_goff rfl rfl rfl (by decide) (dk rfl) ?_
      refine vl_goff rfl rfl rfl (by decide) (dk rfl) ?_
      refine vl_goff rfl rfl rfl (by decide) (dk rfl) ?_
      refine vl_goff rfl rfl rfl (by decide) (dk rfl) ?_
      refine vl_q (q_pick_true rfl rfl) (dk rfl) ?_
      refine vl_q (q_move rfl) (dk rfl) ?_
      refine vl_goff rfl rfl rfl (by decide) (dk rfl) ?_
      refine vl_goff rfl rfl rfl (by decide) (dk rfl) ?_
      refine vl_goff rfl rfl rfl (by decide) (dk rfl) ?_
      refine vl_goff rfl rfl rfl (by decide) (dk rfl) ?_
      refine vl_goff rfl rfl rfl (by decide) (dk rfl) ?_
      refine vl_goff rfl rfl rfl (by decide) (dk rfl) ?_
      refine vl_q (q_pick_true rfl rfl) (dk rfl) ?_
      refine vl_q (q_move rfl) (dk rfl) ?_
      refine vl_goff rfl rfl rfl (by decide) (dk rfl) ?_
      refine vl_goff rfl rfl rfl (by decide) (dk rfl) ?_
      refine vl_goff rfl rfl rfl (by decide) (dk rfl) ?_
      refine vl_goff rfl rfl rfl (by decide) (dk rfl) ?_
      refine vl_goff rfl rfl rfl (by decide) (dk rfl) ?_
      refine vl_goff rfl rfl rfl (by decide) (dk rfl) ?_
      refine vl_q (q_pick_true rfl rfl) (dk rfl) ?_
      refine vl_nil ?_
      refine hK3 _ ?_
      refine vc_cond_true rfl ?_
      refine vc_seq fun K25 hK25 => ?_
      refine vc_region ?_
      refine vl_q (q_assign rfl) (dk rfl) ?_
      refine vl_nil ?_
      refine hK25 _ ?_
      refine vc_ret ?_
      refine ret_p rfl (.cons (res_tmp rfl) .nil) rfl ?_
      try simp only [List.length_map] at *
      first
        | (rw [heldB_f (fun g => Bool.noConfusion (‹within x.fr 1 99 = false›.symm.trans g.fr))]; rfl)
        | (rw [heldB_f (fun g => Bool.noConfusion (‹within x.id 0 255 = false›.symm.trans g.id))]; rfl)
        | (rw [heldB_f (fun g => Bool.noConfusion (‹within x.cnt 2 15 = false›.symm.trans g.cnt))]; rfl)
        | (rw [heldB_f (fun g => Bool.noConfusion (‹within x.til 0 1000000000 = false›.symm.trans g.til))]; rfl)
        | (rw [heldB_f (fun g => absurd g.parts ‹(x.parts.length : Int) ≠ x.cnt›)]; rfl)
        | (rw [heldB_f (fun g => absurd g.hav ‹(x.hav.length : Int) ≠ x.cnt›)]; rfl)
        | (rw [heldB_f (not_row hxh hxp (rowOk_big (by omega)))]; rfl)
        | (rw [heldB_f (not_row hxh hxp (rowOk_junk hbf ‹_ ≠ _›))]; rfl)
        | (rw [heldB_f (fun g => by have g1 := g.have1; have g2 := g.have2; have := within_nof ‹within (haveN x.hav x.hav.length : Nat) 1 (x.cnt - 1) = false›; omega)]; rfl)
        | (rw [heldB_f (fun g => by have g1 := g.have1; have g2 := g.have2; omega)]; rfl)
        | (rw [heldB_t ⟨‹_›, ‹_›, ‹_›, by omega, by omega, hr, by have := within_of ‹within (haveN x.hav x.hav.length : Nat) 1 (x.cnt - 1) = true›; omega, by have := within_of ‹within (haveN x.hav x.hav.length : Nat) 1 (x.cnt - 1) = true›; omega, ‹_›⟩]; rfl)
        | (rw [heldB_t ⟨‹_›, ‹_›, ‹_›, by omega, by omega, hr, by omega, by omega, ‹_›⟩]; rfl)
  · refine vl_q (q_not rfl) (dk rfl) ?_
    refine vl_q (q_move rfl) (dk rfl) ?_
    refine vl_goff rfl rfl rfl (by decide) (dk rfl) ?_
    refine vl_goff rfl rfl rfl (by decide) (dk rfl) ?_
    refine vl_goff rfl rfl rfl (by decide) (dk rfl) ?_
    refine vl_goff rfl rfl rfl (by decide) (dk rfl) ?_
    refine vl_q (q_pick_true rfl rfl) (dk rfl) ?_
    refine vl_q (q_move rfl) (dk rfl) ?_
    refine vl_goff rfl rfl rfl (by decide) (dk rfl) ?_
    refine vl_goff rfl rfl rfl (by decide) (dk rfl) ?_
    refine vl_goff rfl rfl rfl (by decide) (dk rfl) ?_
    refine vl_goff rfl rfl rfl (by decide) (dk rfl) ?_
    refine vl_q (q_pick_true rfl rfl) (dk rfl) ?_
    refine vl_q (q_move rfl) (dk rfl) ?_
    refine vl_goff rfl rfl rfl (by decide) (dk rfl) ?_
    refine vl_goff rfl rfl rfl (by decide) (dk rfl) ?_
    refine vl_goff rfl rfl rfl (by decide) (dk rfl) ?_
    refine vl_goff rfl rfl rfl (by decide) (dk rfl) ?_
    refine vl_goff rfl rfl rfl (by decide) (dk rfl) ?_
    refine vl_goff rfl rfl rfl (by decide) (dk rfl) ?_
    refine vl_q (q_pick_true rfl rfl) (dk rfl) ?_
    refine vl_q (q_move rfl) (dk rfl) ?_
    refine vl_goff rfl rfl rfl (by decide) (dk rfl) ?_
    refine vl_goff rfl rfl rfl (by decide) (dk rfl) ?_
    refine vl_goff rfl rfl rfl (by decide) (dk rfl) ?_
    refine vl_goff rfl rfl rfl (by decide) (dk rfl) ?_
    refine vl_goff rfl rfl rfl (by decide) (dk rfl) ?_
    refine vl_goff rfl rfl rfl (by decide) (dk rfl) ?_
    refine vl_q (q_pick_true rfl rfl) (dk rfl) ?_
    refine vl_nil ?_
    refine hK3 _ ?_
    refine vc_cond_true rfl ?_
    refine vc_seq fun K26 hK26 => ?_
    refine vc_region ?_
    refine vl_q (q_assign rfl) (dk rfl) ?_
    refine vl_nil ?_
    refine hK26 _ ?_
    refine vc_ret ?_
    refine ret_p rfl (.cons (res_tmp rfl) .nil) rfl ?_
    try simp only [List.length_map] at *
    first
      | (rw [heldB_f (fun g => Bool.noConfusion (‹within x.fr 1 99 = false›.symm.trans g.fr))]; rfl)
      | (rw [heldB_f (fun g => Bool.noConfusion (‹within x.id 0 255 = false›.symm.trans g.id))]; rfl)
      | (rw [heldB_f (fun g => Bool.noConfusion (‹within x.cnt 2 15 = false›.symm.trans g.cnt))]; rfl)
      | (rw [heldB_f (fun g => Bool.noConfusion (‹within x.til 0 1000000000 = false›.symm.trans g.til))]; rfl)
      | (rw [heldB_f (fun g => absurd g.parts ‹(x.parts.length : Int) ≠ x.cnt›)]; rfl)
      | (rw [heldB_f (fun g => absurd g.hav ‹(x.hav.length : Int) ≠ x.cnt›)]; rfl)
      | (rw [heldB_f (not_row hxh hxp (rowOk_big (by omega)))]; rfl)
      | (rw [heldB_f (not_row hxh hxp (rowOk_junk hbf ‹_ ≠ _›))]; rfl)
      | (rw [heldB_f (fun g => by have g1 := g.have1; have g2 := g.have2; have := within_nof ‹within (haveN x.hav x.hav.length : Nat) 1 (x.cnt - 1) = false›; omega)]; rfl)
      | (rw [heldB_f (fun g => by have g1 := g.have1; have g2 := g.have2; omega)]; rfl)
      | (rw [heldB_t ⟨‹_›, ‹_›, ‹_›, by omega, by omega, hr, by have := within_of ‹within (haveN x.hav x.hav.length : Nat) 1 (x.cnt - 1) = true›; omega, by have := within_of ‹within (haveN x.hav x.hav.length : Nat) 1 (x.cnt - 1) = true›; omega, ‹_›⟩]; rfl)
      | (rw [heldB_t ⟨‹_›, ‹_›, ‹_›, by omega, by omega, hr, by omega, by omega, ‹_›⟩]; rfl)
end Go.Vm.S
namespace Go.Vm.S
open Go Go.Vm
set_option maxRecDepth 100000
set_option linter.unusedVariables false
set_option maxHeartbeats 4000000
theorem at15 : FnAt Pg 15 Go.Proofs.Try.f15 := ⟨by kernel_rfl, rfl, by decide⟩
theorem c_impl_ShelfOk (l : List Held) :
    Ctr Pg ty 15 [.agg ((shelfC l).map X.c)] [] (Gives (vv (.bool (shelfB l))) [] []) := by
  refine ctr at15 rfl (nsK_gives rfl trivial trivial) (Nat.le_of_ble_eq_true rfl) fun w0 S0 L0 Z => ?_
  refine vc_seq fun K1 hK1 => ?_
  refine vc_region ?_
  refine vl_box rfl (dk rfl) ?_
  refine vl_q (q_assign rfl) (dk rfl) ?_
  refine vl_nil ?_
  refine hK1 _ ?_
  refine vc_seq fun K2 hK2 => ?_
  refine vc_seq fun K3 hK3 => ?_
  refine vc_region ?_
  refine vl_q (q_fieldAddr 0 rfl rfl rfl rfl (by decide) rfl rfl) (dk rfl) ?_
  refine vl_load rfl rfl rfl rfl rfl rfl rfl (by decide) (dk rfl) ?_
  refine vl_fact (fun a w g => good_lim (x := .tmp 6) rfl g) fun hlen => ?_
  rw [List.length_map] at hlen
  refine vl_q (q_len_sh rfl rfl rfl) (dk rfl) ?_
  simp only [List.length_map]
  refine vl_q (q_move rfl) (dk rfl) ?_
  refine vl_nil ?_
  refine hK3 _ ?_
  refine vc_block ?_
  refine vc_loop (fun mz st => ∃ i : Nat, (i ≤ l.length ∧ goodTo l i) ∧ mz = l.length - i ∧ st = mkSt [(1, .v (.one (.ptr 16 0 0))), (6, .v (shv 6 (l.map heldC))), (7, .v (iv l.length)), (8, .v (iv i))] [(16, ⟨1, [(shelfC l).map X.c]⟩)] 17) ⟨_, _, ⟨0, ⟨by omega, fun j _ h => absurd h (by omega)⟩, rfl, rfl⟩, (Weak.cut _ _ _ (Nat.le_of_ble_eq_true rfl) ⟨⟨rfl, rfl⟩, ⟨rfl, rfl⟩, ⟨rfl, rfl⟩, ⟨rfl, rfl⟩, trivial⟩ ⟨⟨Nat.le_of_ble_eq_true rfl, rfl, belN_all rfl⟩, trivial⟩ rfl)⟩ (fun mz st hI => ?_)
  obtain ⟨i, ⟨hi, hg⟩, hmz, rfl⟩ := hI
  refine vc_seq fun K4 hK4 => ?_
  refine vc_region ?_
  refine vl_two (x := fun b => vv (.bool b)) _ (q_cmp rfl rfl rfl rfl) (dk rfl) (fun h9 => ?_) (fun h9 => ?_)
  · replace h9 := lss_of h9
    refine vl_nil ?_
    refine hK4 _ ?_
    refine vc_seq fun K5 hK5 => ?_
    refine vc_cond_true rfl ?_
    refine vc_skip ?_
    refine hK5 _ ?_
    refine vc_seq fun K6 hK6 => ?_
    refine vc_block ?_
    refine vc_seq fun K7 hK7 => ?_
    have hil : i < l.length := by omega
    refine vc_region ?_
    refine vl_q (q_move rfl) (dk rfl) ?_
    refine vl_q (q_indexAddr_sh rfl rfl rfl rfl rfl rfl (by decide) (by omega) (get_map (i := i) hil)) (dk rfl) ?_
    refine vl_load_sp rfl rfl rfl rfl (by decide) (dk rfl) ?_
    refine vl_alloc rfl (dk rfl) ?_
    refine vl_q (q_assign rfl) (dk rfl) ?_
    refine vl_store rfl rfl rfl rfl rfl rfl (Nat.le_of_ble_eq_true rfl) trivial ?_
    refine vl_nil ?_
    refine hK7 _ ?_
    refine vc_seq fun K8 hK8 => ?_
    refine vc_region ?_
    refine vl_load rfl rfl rfl rfl rfl rfl rfl (by decide) (dk rfl) ?_
    refine vl_callP (c_impl_heldOk l[i]) rfl rfl ⟨VOk.agg ⟨XOk.val _, XOk.val _, XOk.val _, XOk.shc _ _, XOk.shc _ _, XOk.val _, trivial⟩, trivial⟩ rfl (.inl rfl) (dk rfl) ?_
    refine vl_bool 14 rfl (fun h14 => ?_) (fun h14 => ?_)
    · have hgr : HeldGood l[i] := of_decide_eq_true h14
      refine vl_q (q_not rfl) (dk rfl) ?_
      refine vl_q (q_move rfl) (dk rfl) ?_
      refine vl_guard_on rfl rfl rfl ?_
      refine vl_load rfl rfl rfl rfl rfl rfl rfl (by decide) (dk rfl) ?_
      refine vl_guard_on rfl rfl rfl ?_
      refine vl_q (q_fieldAddr 0 rfl rfl rfl rfl (by decide) rfl rfl) (dk rfl) ?_
      refine vl_guard_on rfl rfl rfl ?_
      refine vl_load rfl rfl rfl rfl rfl rfl rfl (by decide) (dk rfl) ?_
      refine vl_guard_on rfl rfl rfl ?_
      refine vl_q (q_fieldAddr 1 rfl rfl rfl rfl (by decide) rfl rfl) (dk rfl) ?_
      refine vl_guard_on rfl rfl rfl ?_
      refine vl_load rfl rfl rfl rfl rfl rfl rfl (by decide) (dk rfl) ?_
      refine vl_guard_on rfl rfl rfl ?_
      refine vl_callP (c_impl_heldAt l l[i].fr l[i].id) rfl rfl ⟨VOk.agg ⟨XOk.shc _ _, trivial⟩, XOk.val _, XOk.val _, trivial⟩ rfl (.inl rfl) (dk rfl) ?_
      refine vl_guard_on rfl rfl rfl ?_
      refine vl_q (q_move rfl) (dk rfl) ?_
      refine vl_guard_on rfl rfl rfl ?_
      refine vl_two (x := fun b => vv (.bool b)) _ (q_cmp rfl rfl rfl rfl) (dk rfl) (fun h24 => ?_) (fun h24 => ?_)
      · replace h24 := neq_of h24
        have hkey := h24
        refine vl_q (q_pick_false rfl rfl) (dk rfl) ?_
        refine vl_nil ?_
        refine hK8 _ ?_
        refine vc_cond_true rfl ?_
        refine vc_seq fun K9 hK9 => ?_
        refine vc_region ?_
        refine vl_q (q_assign rfl) (dk rfl) ?_
        refine vl_nil ?_
        refine hK9 _ ?_
        refine vc_ret ?_
        refine ret_p rfl (.cons (res_tmp rfl) .nil) rfl ?_
        first
          | (rw [shelfB_f (not_good_row hil (fun g => by rw [heldB_t g] at hgr; cases hgr))]; rfl)
          | (rw [shelfB_f (fun g => hkey ((fIdx_self hil).2 (g.rows i hil hil).2))]; rfl)
          | (rw [shelfB_f (not_good_key hil hkl (by omega) (sameK_t h36 h50))]; rfl)
          | (rw [shelfB_t ⟨hg, by omega⟩]; rfl)
          | (rw [shelfB_f (fun g => absurd g.len (by omega))]; rfl)
      · replace h24 := neq_nof h24
        have hkey := (fIdx_self hil).1 h24
        refine vl_q (q_pick_false rfl rfl) (dk rfl) ?_
        refine vl_nil ?_
        refine hK8 _ ?_
        refine vc_cond_false rfl ?_
        refine vc_skip ?_
        refine hK6 _ ?_
        refine vc_region ?_
        refine vl_q (q_add rfl rfl (IntWalk.i64_in _ (by omega))) (dk rfl) ?_
        refine vl_q (q_move rfl) (dk rfl) ?_
        refine vl_nil ?_
        refine ⟨_, _, ?_, ⟨i + 1, ⟨by omega, goodTo_succ hg hil hgr hkey⟩, rfl, rfl⟩, (Weak.cut _ _ _ (Nat.le_of_ble_eq_true rfl) ⟨⟨rfl, rfl⟩, ⟨rfl, rfl⟩, ⟨rfl, rfl⟩, ⟨rfl, rfl⟩, trivial⟩ ⟨⟨Nat.le_of_ble_eq_true rfl, rfl, belN_all rfl⟩, trivial⟩ rfl)⟩
        omega
    · have hgr : heldB l[i] = false := h14
      refine vl_q (q_not rfl) (dk rfl) ?_
      refine vl_q (q_move rfl) (dk rfl) ?_
      refine vl_goff rfl rfl rfl (by decide) (dk rfl) ?_
      refine vl_goff rfl rfl rfl (by decide) (dk rfl) ?_
      refine vl_goff rfl rfl rfl (by decide) (dk rfl) ?_
      refine vl_goff rfl rfl rfl (by decide) (dk rfl) ?_
      refine vl_goff rfl rfl rfl (by decide) (dk rfl) ?_
      refine vl_goff rfl rfl rfl (by decide) (dk rfl) ?_
      refine vl_goff rfl rfl rfl (by decide) (dk rfl) ?_
      refine vl_goff rfl rfl rfl (by decide) (dk rfl) ?_
      refine vl_q (q_pick_true rfl rfl) (dk rfl) ?_
      refine vl_nil ?_
      refine hK8 _ ?_
      refine vc_cond_true rfl ?_
      refine vc_seq fun K10 hK10 => ?_
      refine vc_region ?_
      refine vl_q (q_assign rfl) (dk rfl) ?_
      refine vl_nil ?_
      refine hK10 _ ?_
      refine vc_ret ?_
      refine ret_p rfl (.cons (res_tmp rfl) .nil) rfl ?_
      first
        | (rw [shelfB_f (not_good_row hil (fun g => by rw [heldB_t g] at hgr; cases hgr))]; rfl)
        | (rw [shelfB_f (fun g => hkey ((fIdx_self hil).2 (g.rows i hil hil).2))]; rfl)
        | (rw [shelfB_f (not_good_key hil hkl (by omega) (sameK_t h36 h50))]; rfl)
        | (rw [shelfB_t ⟨hg, by omega⟩]; rfl)
        | (rw [shelfB_f (fun g => absurd g.len (by omega))]; rfl)
  · replace h9 := lss_nof h9
    refine vl_nil ?_
    refine hK4 _ ?_
    refine vc_seq fun K11 hK11 => ?_
    refine vc_cond_false rfl ?_
    refine vc_exit ?_
    refine hK2 _ ?_
    refine vc_seq fun K12 hK12 => ?_
    obtain rfl : i = l.length := by omega
    refine vc_region ?_
    refine vl_q (q_fieldAddr 0 rfl rfl rfl rfl (by decide) rfl rfl) (dk rfl) ?_
    refine vl_load rfl rfl rfl rfl rfl rfl rfl (by decide) (dk rfl) ?_
    refine vl_q (q_len_sh rfl rfl rfl) (dk rfl) ?_
    simp only [List.length_map]
    refine vl_two (x := fun b => vv (.bool b)) _ (q_cmp rfl rfl rfl rfl) (dk rfl) (fun h30 => ?_) (fun h30 => ?_)
    · replace h30 := leq_of h30
      refine vl_q (q_assign rfl) (dk rfl) ?_
      refine vl_nil ?_
      refine hK12 _ ?_
      refine vc_ret ?_
      refine ret_p rfl (.cons (res_tmp rfl) .nil) rfl ?_
      first
        | (rw [shelfB_f (not_good_row hil (fun g => by rw [heldB_t g] at hgr; cases hgr))]; rfl)
        | (rw [shelfB_f (fun g => hkey ((fIdx_self hil).2 (g.rows i hil hil).2))]; rfl)
        | (rw [shelfB_f (not_good_key hil hkl (by omega) (sameK_t h36 h50))]; rfl)
        | (rw [shelfB_t ⟨hg, by omega⟩]; rfl)
        | (rw [shelfB_f (fun g => absurd g.len (by omega))]; rfl)
    · replace h30 := leq_nof h30
      refine vl_q (q_assign rfl) (dk rfl) ?_
      refine vl_nil ?_
      refine hK12 _ ?_
      refine vc_ret ?_
      refine ret_p rfl (.cons (res_tmp rfl) .nil) rfl ?_
      first
        | (rw [shelfB_f (not_good_row hil (fun g => by rw [heldB_t g] at hgr; cases hgr))]; rfl)
        | (rw [shelfB_f (fun g => hkey ((fIdx_self hil).2 (g.rows i hil hil).2))]; rfl)
        | (rw [shelfB_f (not_good_key hil hkl (by omega) (sameK_t h36 h50))]; rfl)
        | (rw [shelfB_t ⟨hg, by omega⟩]; rfl)
        | (rw [shelfB_f (fun g => absurd g.len (by omega))]; rfl)
end Go.Vm.S
namespace Go.Vm.S
open Go Go.Vm
set_option maxRecDepth 100000
set_option linter.unusedVariables false
set_option maxHeartbeats 4000000
theorem at36 : FnAt Pg 36 Go.Proofs.Try.f36 := ⟨by kernel_rfl, rfl, by decide⟩
theorem c_Delete (l : List Held) (i : Nat) (hi : i < l.length) (hlim : l.length ≤ 4194304) :
    Ctr Pg ty 36 [.one (.hdr 0 0 l.length), iv i, iv (i + 1 : Nat)] [⟨6, clo (l.map heldO)⟩] (Gives (.v (.one (.hdr 16 0 (l.length - 1)))) [⟨6, clo ((l.eraseIdx i).map heldO)⟩] []) := by
  refine ctr at36 rfl (nsK_gives rfl ⟨nsN_map heldO_noSh, trivial⟩ trivial) (Nat.le_of_ble_eq_true rfl) fun w0 S0 L0 Z => ?_
  refine vc_seq fun K1 hK1 => ?_
  refine vc_region ?_
  refine vl_q (q_assign rfl) (dk rfl) ?_
  refine vl_nil ?_
  refine hK1 _ ?_
  refine vc_seq fun K2 hK2 => ?_
  refine vc_region ?_
  refine vl_q (q_move rfl) (dk rfl) ?_
  refine vl_q (q_move rfl) (dk rfl) ?_
  refine vl_q (q_move rfl) (dk rfl) ?_
  refine vl_q (q_move rfl) (dk rfl) ?_
  refine vl_q (q_len_hdr rfl rfl rfl) (dk rfl) ?_
  refine vl_q (q_slice3 rfl rfl rfl rfl rfl rfl rfl (by omega) (by omega) (by omega) (by omega)) (dk rfl) ?_
  refine vl_nil ?_
  refine hK2 _ ?_
  refine vc_seq fun K3 hK3 => ?_
  refine vc_seq fun K4 hK4 => ?_
  refine vc_region ?_
  refine vl_q (q_move rfl) (dk rfl) ?_
  refine vl_q (q_move rfl) (dk rfl) ?_
  refine vl_two (x := fun b => vv (.bool b)) _ (q_cmp rfl rfl rfl rfl) (dk rfl) (fun h16 => ?_) (fun h16 => ?_)
  · replace h16 := eql_of h16
    omega
  · replace h16 := eql_nof h16
    refine vl_nil ?_
    refine hK4 _ ?_
    refine vc_cond_false rfl ?_
    refine vc_skip ?_
    refine hK3 _ ?_
    refine vc_seq fun K5 hK5 => ?_
    refine vc_region ?_
    refine vl_q (q_move rfl) (dk rfl) ?_
    refine vl_q (q_len_hdr rfl rfl rfl) (dk rfl) ?_
    refine vl_q (q_assign rfl) (dk rfl) ?_
    refine vl_nil ?_
    refine hK5 _ ?_
    refine vc_seq fun K6 hK6 => ?_
    refine vc_region_any mixed (fun n => false) true rfl rfl (fun _ hU7 => hU7) fun w1 S1 L1 Z1 H1 => ?_
    refine va_q 0 rfl (by kernel_rfl) (by kernel_rfl) (by kernel_rfl) (q_move rfl) (dk rfl) ?_
    refine va_q 1 rfl (by kernel_rfl) (by kernel_rfl) (by kernel_rfl) (q_move rfl) (dk rfl) ?_
    refine va_q 2 rfl (by kernel_rfl) (by kernel_rfl) (by kernel_rfl) (q_slice_hdr rfl rfl rfl rfl rfl rfl rfl rfl (by omega) (by omega) (.inl (by omega))) (dk rfl) ?_
    refine va_q 3 rfl (by kernel_rfl) (by kernel_rfl) (by kernel_rfl) (q_move rfl) (dk rfl) ?_
    refine va_q 4 rfl (by kernel_rfl) (by kernel_rfl) (by kernel_rfl) (q_move rfl) (dk rfl) ?_
    refine va_q 5 rfl (by kernel_rfl) (by kernel_rfl) (by kernel_rfl) (q_slice_hdr rfl rfl rfl rfl rfl rfl rfl rfl (by omega) (by omega) (.inl (by omega))) (dk rfl) ?_
    refine va_all [6] (by kernel_rfl) (by simp) ⟨⟨_, rfl, ?_⟩, trivial⟩
    refine vl_shift (n := i) (lo2 := i + 1) (n2 := l.length - (i + 1)) rfl rfl rfl rfl (fun _ h => TypeDesc.noConfusion h) rfl rfl rfl rfl (by omega) (by simp [clo_len]; omega) (dk rfl) ?_
    refine vl_nil ?_
    refine va_q 7 rfl (by kernel_rfl) (by kernel_rfl) (by kernel_rfl) (q_assign rfl) (dk rfl) ?_
    refine va_done (by kernel_rfl) ?_
    refine hK6 _ ?_
    refine vc_seq fun K8 hK8 => ?_
    refine vc_region ?_
    refine vl_q (q_move rfl) (dk rfl) ?_
    refine vl_q (q_move rfl) (dk rfl) ?_
    refine vl_q (q_len_hdr rfl rfl rfl) (dk rfl) ?_
    refine vl_q (q_move rfl) (dk rfl) ?_
    refine vl_q (q_slice_hdr rfl rfl rfl rfl rfl rfl rfl rfl (by omega) (by omega) (.inr (by simp [clo_len]; omega))) (dk rfl) ?_
    refine vl_weak (Weak.trunc (m := 16) (n := l.length - 1) rfl) ?_
    refine vl_weak (Weak.node (m := 16) (nd' := ⟨6, clo ((l.eraseIdx i).map heldO)⟩) rfl (congrArg (Vm.Node.mk 6) (erase_rows hi))) ?_
    refine vl_clear rfl rfl rfl rfl rfl rfl (by simp only [clo_len, List.length_map, List.length_eraseIdx]; rw [if_pos hi]; show _ ≤ i + (l.length - (i + 1)) + 0; omega) ?_
    refine vl_nil ?_
    refine hK8 _ ?_
    refine vc_seq fun K9 hK9 => ?_
    refine vc_region ?_
    refine vl_q (q_move rfl) (dk rfl) ?_
    refine vl_q (q_assign rfl) (dk rfl) ?_
    refine vl_nil ?_
    refine hK9 _ ?_
    refine vc_ret ?_
    refine ret_g [16] rfl (.cons (res_tmp rfl) .nil) (by rw [show l.length - 1 = i + (l.length - (i + 1)) by omega]; rfl) rfl (nodupB_ok rfl) ⟨Nat.le_refl _, trivial⟩ ⟨⟨_, rfl, NR.clo _ _ _ _⟩, trivial⟩ trivial (Nat.zero_le _)
end Go.Vm.S
namespace Go.Vm.S
open Go Go.Vm
set_option maxRecDepth 100000
set_option linter.unusedVariables false
set_option maxHeartbeats 4000000
theorem at14 : FnAt Pg 14 Go.Proofs.Try.f14 := ⟨by kernel_rfl, rfl, by decide⟩
theorem c_impl_AddPart (l : List Held) (fr : Int) (t : ByteArray) (now : Int) (hb : szHelds l ≤ 4194304) :
    Ctr Pg ty 14 [.agg ((shelfC l).map X.c), iv fr, sv t, iv now] [] (Gives (.tup [.agg [.hdr 16 0 (addP l fr t now).1.length], sv (addP l fr t now).2.1, bv (addP l fr t now).2.2]) [⟨6, clo ((addP l fr t now).1.map heldO)⟩] []) := by
  refine ctr at14 rfl (nsK_gives rfl ⟨nsN_map heldO_noSh, trivial⟩ trivial) (Nat.le_of_ble_eq_true rfl) fun w0 S0 L0 Z => ?_
  refine vc_seq fun K1 hK1 => ?_
  refine vc_region ?_
  refine vl_box rfl (dk rfl) ?_
  refine vl_alloc rfl (dk rfl) ?_
  refine vl_q (q_assign rfl) (dk rfl) ?_
  refine vl_q (q_assign rfl) (dk rfl) ?_
  refine vl_nil ?_
  refine hK1 _ ?_
  refine vc_seq fun K2 hK2 => ?_
  refine vc_region ?_
  refine vl_load rfl rfl rfl rfl rfl rfl rfl (by decide) (dk rfl) ?_
  refine vl_callG [] (.v (.agg [.hdr 18 0 _])) (c_impl_copyShelf l hb) rfl rfl ⟨VOk.agg ⟨XOk.shc _ _, trivial⟩, trivial⟩ trivial rfl (by decide) ⟨fix_clo _ _, trivial⟩ trivial rfl (.inl rfl) (dk rfl) ?_
  refine vl_alloc rfl (dk rfl) ?_
  refine vl_store rfl rfl rfl rfl rfl rfl (Nat.le_of_ble_eq_true rfl) trivial ?_
  refine vl_nil ?_
  refine hK2 _ ?_
  refine vc_seq fun K3 hK3 => ?_
  refine vc_region ?_
  refine vl_q (q_move rfl) (dk rfl) ?_
  rcases Bool.eq_false_or_eq_true (rpOk t) with hrp | hrp
  · refine vl_callP (c_ReadPart_t t hrp) rfl rfl ⟨XOk.val _, trivial⟩ rfl (.inl rfl) (dk rfl) ?_
    refine vl_q (q_move rfl) (dk rfl) ?_
    refine vl_q (q_extract rfl rfl) (dk rfl) ?_
    refine vl_q (q_extract rfl rfl) (dk rfl) ?_
    refine vl_q (q_extract rfl rfl) (dk rfl) ?_
    refine vl_q (q_extract rfl rfl) (dk rfl) ?_
    refine vl_q (q_extract rfl rfl) (dk rfl) ?_
    refine vl_q (q_assign rfl) (dk rfl) ?_
    refine vl_q (q_assign rfl) (dk rfl) ?_
    refine vl_q (q_assign rfl) (dk rfl) ?_
    refine vl_q (q_assign rfl) (dk rfl) ?_
    refine vl_q (q_assign rfl) (dk rfl) ?_
    refine vl_nil ?_
    refine hK3 _ ?_
    refine vc_seq fun K4 hK4 => ?_
    refine vc_seq fun K5 hK5 => ?_
    refine vc_region ?_
    refine vl_load rfl rfl rfl rfl rfl rfl rfl (by decide) (dk rfl) ?_
    refine vl_callP (c_impl_ShelfOk l) rfl rfl ⟨VOk.agg ⟨XOk.shc _ _, trivial⟩, trivial⟩ rfl (.inl rfl) (dk rfl) ?_
    refine vl_bool 31 rfl (fun h31 => ?_) (fun h31 => ?_)
    · have hsg : ShelfGood l := of_decide_eq_true h31
      have hlen3 := hsg.len
      refine vl_q (q_not rfl) (dk rfl) ?_
      refine vl_q (q_move rfl) (dk rfl) ?_
      refine vl_guard_on rfl rfl rfl ?_
      refine vl_q (q_move rfl) (dk rfl) ?_
      refine vl_guard_on rfl rfl rfl ?_
      refine vl_callP (c_impl_isId _) rfl rfl ⟨XOk.val _, trivial⟩ rfl (.inl rfl) (dk rfl) ?_
      refine vl_bool 35 rfl (fun h35 => ?_) (fun h35 => ?_)
      · refine vl_guard_on rfl rfl rfl ?_
        refine vl_q (q_not rfl) (dk rfl) ?_
        refine vl_q (q_pick_false rfl rfl) (dk rfl) ?_
        refine vl_q (q_move rfl) (dk rfl) ?_
        refine vl_guard_on rfl rfl rfl ?_
        refine vl_q (q_move rfl) (dk rfl) ?_
        refine vl_guard_on rfl rfl rfl ?_
        refine vl_q (q_not rfl) (dk rfl) ?_
        refine vl_q (q_pick_false rfl rfl) (dk rfl) ?_
        refine vl_q (q_move rfl) (dk rfl) ?_
        refine vl_guard_on rfl rfl rfl ?_
        refine vl_q (q_move rfl) (dk rfl) ?_
        refine vl_guard_on rfl rfl rfl ?_
        refine vl_q (q_len_str rfl rfl rfl) (dk rfl) ?_
        refine vl_guard_on rfl rfl rfl ?_
        refine vl_two (x := fun b => vv (.bool b)) _ (q_cmp rfl rfl rfl rfl) (dk rfl) (fun h45 => ?_) (fun h45 => ?_)
        · replace h45 := gtr_of h45
          refine vl_q (q_pick_false rfl rfl) (dk rfl) ?_
          refine vl_q (q_move rfl) (dk rfl) ?_
          refine vl_goff rfl rfl rfl (by decide) (dk rfl) ?_
          refine vl_goff rfl rfl rfl (by decide) (dk rfl) ?_
          refine vl_goff rfl rfl rfl (by decide) (dk rfl) ?_
          refine vl_q (q_pick_true rfl rfl) (dk rfl) ?_
          refine vl_nil ?_
          refine hK5 _ ?_
          refine vc_cond_true rfl ?_
          refine vc_seq fun K6 hK6 => ?_
          refine vc_region ?_
          refine vl_load rfl rfl rfl rfl rfl rfl rfl (by decide) (dk rfl) ?_
          refine vl_store rfl rfl rfl rfl rfl rfl (Nat.le_of_ble_eq_true rfl) trivial ?_
          refine vl_q (q_assign rfl) (dk rfl) ?_
          refine vl_q (q_assign rfl) (dk rfl) ?_
          refine vl_nil ?_
          refine hK6 _ ?_
          refine vc_ret ?_
          have e : addP l fr t now = (l, ⟨#[]⟩, false) := addP_bad (addOk_f (by first | exact .inl ‹_› | exact .inr (.inl ‹_›) | exact .inr (.inr (.inl ‹_›)) | exact .inr (.inr (.inr (.inl (by omega)))) | exact .inr (.inr (.inr (.inr ‹_›)))))
          refine ret_g [18] rfl (.cons (res_cell rfl rfl rfl rfl rfl rfl rfl (by decide)) (.cons (res_tmp rfl) (.cons (res_tmp rfl) .nil))) (by rw [e]; first | rfl | (simp only [List.length_set]; rfl) | (simp only [List.length_eraseIdx, if_pos hal, hy]; rfl)) rfl (nodupB_ok rfl) ⟨by decide, trivial⟩ ⟨⟨⟨6, clo ((addP l fr t now).1.map heldO)⟩, some_node (by rw [e]), NR.clo _ _ _ _⟩, trivial⟩ trivial (Nat.zero_le _)
        · replace h45 := gtr_nof h45
          refine vl_q (q_pick_false rfl rfl) (dk rfl) ?_
          refine vl_q (q_move rfl) (dk rfl) ?_
          refine vl_guard_on rfl rfl rfl ?_
          refine vl_q (q_move rfl) (dk rfl) ?_
          refine vl_guard_on rfl rfl rfl ?_
          refine vl_callP (c_impl_within _ _ _) rfl rfl ⟨XOk.val _, XOk.val _, XOk.val _, trivial⟩ rfl (.inl rfl) (dk rfl) ?_
          refine vl_bool 49 rfl (fun h49 => ?_) (fun h49 => ?_)
          · refine vl_guard_on rfl rfl rfl ?_
            refine vl_q (q_not rfl) (dk rfl) ?_
            refine vl_q (q_pick_false rfl rfl) (dk rfl) ?_
            refine vl_nil ?_
            refine hK5 _ ?_
            refine vc_cond_false rfl ?_
            refine vc_skip ?_
            refine hK4 _ ?_
            refine vc_seq fun K7 hK7 => ?_
            refine vc_seq fun K8 hK8 => ?_
            have hok : addOk l fr t now = true := addOk_t h31 h35 hrp (by omega) h49
            have hrpp := rp_parts hrp
            have hnow := within_of h49
            refine vc_region ?_
            refine vl_q (q_move rfl) (dk rfl) ?_
            refine vl_two (x := fun b => vv (.bool b)) _ (q_cmp rfl rfl rfl rfl) (dk rfl) (fun h54 => ?_) (fun h54 => ?_)
            · replace h54 := eql_of h54
              have h1 : byteAt t 2 = 1 := by omega
              refine vl_nil ?_
              refine hK8 _ ?_
              refine vc_cond_true rfl ?_
              refine vc_seq fun K9 hK9 => ?_
              refine vc_region ?_
              refine vl_load rfl rfl rfl rfl rfl rfl rfl (by decide) (dk rfl) ?_
              refine vl_q (q_move rfl) (dk rfl) ?_
              refine vl_store rfl rfl rfl rfl rfl rfl (Nat.le_of_ble_eq_true rfl) trivial ?_
              refine vl_q (q_assign rfl) (dk rfl) ?_
              refine vl_q (q_assign rfl) (dk rfl) ?_
              refine vl_nil ?_
              refine hK9 _ ?_
              refine vc_ret ?_
              have e : addP l fr t now = (l, part t, true) := addP_one hok h1
              refine ret_g [18] rfl (.cons (res_cell rfl rfl rfl rfl rfl rfl rfl (by decide)) (.cons (res_tmp rfl) (.cons (res_tmp rfl) .nil))) (by rw [e]; first | rfl | (simp only [List.length_set]; rfl) | (simp only [List.length_eraseIdx, if_pos hal, hy]; rfl)) rfl (nodupB_ok rfl) ⟨by decide, trivial⟩ ⟨⟨⟨6, clo ((addP l fr t now).1.map heldO)⟩, some_node (by rw [e]), NR.clo _ _ _ _⟩, trivial⟩ trivial (Nat.zero_le _)
            · replace h54 := eql_nof h54
              have h1 : byteAt t 2 ≠ 1 := by omega
              refine vl_nil ?_
              refine hK8 _ ?_
              refine vc_cond_false rfl ?_
              refine vc_skip ?_
              refine hK7 _ ?_
              refine vc_seq fun K10 hK10 => ?_
              refine vc_region ?_
              refine vl_load rfl rfl rfl rfl rfl rfl rfl (by decide) (dk rfl) ?_
              refine vl_q (q_move rfl) (dk rfl) ?_
              refine vl_q (q_move rfl) (dk rfl) ?_
              refine vl_callP (c_impl_heldAt l fr (byteAt t 0)) rfl rfl ⟨VOk.agg ⟨XOk.snapH rfl (by decide) (by simp [markHs_len]) (map_wid heldO_len) (heldsO_shr _), trivial⟩, XOk.val _, XOk.val _, trivial⟩ rfl (.inl rfl) (dk rfl) ?_
              refine vl_q (q_assign rfl) (dk rfl) ?_
              refine vl_nil ?_
              refine hK10 _ ?_
              refine vc_join (fun st => ∃ l1 : List Held, ∃ at1 : Int, (((at1 = -1 ∧ l1 = l.eraseIdx (kIdx l fr t) ∧ ∀ (hil : kIdx l fr t < l.length), l[kIdx l fr t].cnt ≠ byteAt t 2) ∨ (∃ (i : Nat) (hil : i < l.length), at1 = i ∧ l1 = l ∧ kIdx l fr t = i ∧ l[i].cnt = byteAt t 2)) ∧ l1.length ≤ 3) ∧ st = mkSt [(1, .v (iv fr)), (3, .v (iv now)), (8, .v (.one (.ptr 17 0 0))), (11, .v (.one (.ptr 19 0 0))), (12, .v (iv (byteAt t 0))), (13, .v (iv (byteAt t 1))), (14, .v (iv (byteAt t 2))), (15, .v (sv (part t))), (17, .v (iv at1))] [(17, ⟨1, [[.c (.val (.slice none 0 0))]]⟩), (19, ⟨1, [[.c (.own 6 (l1.map heldO))]]⟩)] 20) (fun K11 hK11 => ?_) (fun st hI => ?_)
              · refine vc_seq fun K12 hK12 => ?_
                refine vc_region ?_
                refine vl_q (q_move rfl) (dk rfl) ?_
                refine vl_two (x := fun b => vv (.bool b)) _ (q_cmp rfl rfl rfl rfl) (dk rfl) (fun h62 => ?_) (fun h62 => ?_)
                · replace h62 := geq_of h62
                  obtain ⟨i, hil, hfi, hki⟩ : ∃ (i : Nat) (h : i < l.length), fIdx (sameK fr (byteAt t 0)) l = i ∧ sameK fr (byteAt t 0) l[i] = true := by
                    rcases fIdx_cases (sameK fr (byteAt t 0)) l with ⟨h1, _⟩ | ⟨i, hi, h1, h2, _⟩
                    · omega
                    · exact ⟨i, hi, h1, h2⟩
                  have hix := kIdx_is hsg hil hki
                  refine vl_weak (Weak.lit (d := 17) (y := vv (.int .i64 ((i : Nat) : Int))) rfl (by rw [hfi])) ?_
                  refine vl_q (q_move rfl) (dk rfl) ?_
                  refine vl_guard_on rfl rfl rfl ?_
                  refine vl_q (q_fieldAddr 0 rfl rfl rfl rfl (by decide) rfl rfl) (dk rfl) ?_
                  refine vl_guard_on rfl rfl rfl ?_
                  refine vl_load rfl rfl rfl rfl rfl rfl rfl (by decide) (dk rfl) ?_
                  refine vl_guard_on rfl rfl rfl ?_
                  refine vl_q (q_move rfl) (dk rfl) ?_
                  refine vl_guard_on rfl rfl rfl ?_
                  refine vl_q (q_indexAddr rfl rfl rfl rfl rfl rfl rfl (by omega) (by omega)) (dk rfl) ?_
                  try simp only [List.set_set, List.length_map, Int.toNat_natCast, Nat.add_zero]
                  refine vl_guard_on rfl rfl rfl ?_
                  refine vl_q (q_fieldAddr 2 rfl rfl rfl rfl (by decide) rfl rfl) (dk rfl) ?_
                  refine vl_guard_on rfl rfl rfl ?_
                  refine vl_load rfl rfl rfl (clo_get hil) rfl rfl rfl (by decide) (dk rfl) ?_
                  refine vl_guard_on rfl rfl rfl ?_
                  refine vl_q (q_move rfl) (dk rfl) ?_
                  refine vl_guard_on rfl rfl rfl ?_
                  refine vl_two (x := fun b => vv (.bool b)) _ (q_cmp rfl rfl rfl rfl) (dk rfl) (fun h71 => ?_) (fun h71 => ?_)
                  · replace h71 := neq_of h71
                    refine vl_q (q_pick_true rfl rfl) (dk rfl) ?_
                    refine vl_nil ?_
                    refine hK12 _ ?_
                    refine vc_cond_true rfl ?_
                    refine vc_seq fun K13 hK13 => ?_
                    refine vc_region ?_
                    refine vl_q (q_fieldAddr 0 rfl rfl rfl rfl (by decide) rfl rfl) (dk rfl) ?_
                    refine vl_load rfl rfl rfl rfl rfl rfl rfl (by decide) (dk rfl) ?_
                    refine vl_q (q_move rfl) (dk rfl) ?_
                    refine vl_q (q_move rfl) (dk rfl) ?_
                    refine vl_q (q_add rfl rfl (IntWalk.i64_in _ (by omega))) (dk rfl) ?_
                    refine vl_weak (Weak.lit (d := 77) (y := vv (.int .i64 ((i + 1 : Nat) : Int))) rfl rfl) ?_
                    have hcd := c_Delete l i hil (by omega)
                    refine vl_callG [18] (.v (.one (.hdr 20 0 (l.length - 1)))) hcd rfl rfl ⟨XOk.hdr rfl (by decide) _ _, XOk.val _, XOk.val _, trivial⟩ ⟨⟨_, rfl, NR.clo _ _ _ _⟩, trivial⟩ rfl (by decide) ⟨fix_clo _ _, trivial⟩ trivial rfl (.inl rfl) (dk rfl) ?_
                    refine vl_q (q_fieldAddr 0 rfl rfl rfl rfl (by decide) rfl rfl) (dk rfl) ?_
                    refine vl_store rfl rfl rfl rfl rfl rfl (Nat.le_of_ble_eq_true rfl) trivial ?_
                    refine vl_nil ?_
                    refine hK13 _ ?_
                    refine vc_region ?_
                    refine vl_q (q_assign rfl) (dk rfl) ?_
                    refine vl_nil ?_
                    refine hK11 _ ?_
                    refine wk_weak (Weak.close1 (nm := 19) (i := 0) (j := 0) (m := 20) (es := (l.eraseIdx i).map heldO) rfl rfl rfl rfl (by simp [List.length_eraseIdx, hil]) (by decide)) ?_
                    exact ⟨_, ⟨l.eraseIdx i, -1, ⟨.inl ⟨rfl, by rw [hix], fun h => by simp only [hix]; exact h71⟩, by rw [List.length_eraseIdx]; split <;> omega⟩, rfl⟩, (Weak.cut _ _ _ (Nat.le_of_ble_eq_true rfl) ⟨⟨rfl, rfl⟩, ⟨rfl, rfl⟩, ⟨rfl, rfl⟩, ⟨rfl, rfl⟩, ⟨rfl, rfl⟩, ⟨rfl, rfl⟩, ⟨rfl, rfl⟩, ⟨rfl, rfl⟩, ⟨rfl, rfl⟩, trivial⟩ ⟨⟨Nat.le_of_ble_eq_true rfl, rfl, belN_all rfl⟩, ⟨Nat.le_of_ble_eq_true rfl, rfl, belN_all rfl⟩, trivial⟩ rfl)⟩
                  · replace h71 := neq_nof h71
                    refine vl_q (q_pick_true rfl rfl) (dk rfl) ?_
                    refine vl_nil ?_
                    refine hK12 _ ?_
                    refine vc_cond_false rfl ?_
                    refine vc_skip ?_
                    refine hK11 _ ?_
                    refine wk_weak (Weak.close1 (nm := 19) (i := 0) (j := 0) (m := 18) (es := (l).map heldO) rfl rfl rfl rfl (by simp) (by decide)) ?_
                    exact ⟨_, ⟨l, (i : Nat), ⟨.inr ⟨i, hil, rfl, rfl, hix, h71⟩, hlen3⟩, rfl⟩, (Weak.cut _ _ _ (Nat.le_of_ble_eq_true rfl) ⟨⟨rfl, rfl⟩, ⟨rfl, rfl⟩, ⟨rfl, rfl⟩, ⟨rfl, rfl⟩, ⟨rfl, rfl⟩, ⟨rfl, rfl⟩, ⟨rfl, rfl⟩, ⟨rfl, rfl⟩, ⟨rfl, rfl⟩, trivial⟩ ⟨⟨Nat.le_of_ble_eq_true rfl, rfl, belN_all rfl⟩, ⟨Nat.le_of_ble_eq_true rfl, rfl, belN_all rfl⟩, trivial⟩ rfl)⟩
                · replace h62 := geq_nof h62
                  obtain ⟨hfi, hno⟩ : fIdx (sameK fr (byteAt t 0)) l = -1 ∧ ∀ x, x ∈ l → sameK fr (byteAt t 0) x = false := by
                    rcases fIdx_cases (sameK fr (byteAt t 0)) l with h1 | ⟨i, hi, h1, h2, _⟩
                    · exact h1
                    · omega
                  have hix := kIdx_none hno
                  refine vl_weak (Weak.lit (d := 17) (y := vv (.int .i64 (-1))) rfl (by rw [hfi])) ?_
                  refine vl_q (q_move rfl) (dk rfl) ?_
                  refine vl_goff rfl rfl rfl (by decide) (dk rfl) ?_
                  refine vl_goff rfl rfl rfl (by decide) (dk rfl) ?_
                  refine vl_goff rfl rfl rfl (by decide) (dk rfl) ?_
                  refine vl_goff rfl rfl rfl (by decide) (dk rfl) ?_
                  try simp only [List.set_set, List.length_map, Int.toNat_natCast, Nat.add_zero]
                  refine vl_goff rfl rfl rfl (by decide) (dk rfl) ?_
                  refine vl_goff rfl rfl rfl (by decide) (dk rfl) ?_
                  refine vl_goff rfl rfl rfl (by decide) (dk rfl) ?_
                  refine vl_goff rfl rfl rfl (by decide) (dk rfl) ?_
                  refine vl_q (q_pick_false rfl rfl) (dk rfl) ?_
                  refine vl_nil ?_
                  refine hK12 _ ?_
                  refine vc_cond_false rfl ?_
                  refine vc_skip ?_
                  refine hK11 _ ?_
                  refine wk_weak (Weak.close1 (nm := 19) (i := 0) (j := 0) (m := 18) (es := (l).map heldO) rfl rfl rfl rfl (by simp) (by decide)) ?_
                  exact ⟨_, ⟨l, -1, ⟨.inl ⟨rfl, by rw [hix, List.eraseIdx_of_length_le (Nat.le_refl _)], fun h => absurd h (by omega)⟩, hlen3⟩, rfl⟩, (Weak.cut _ _ _ (Nat.le_of_ble_eq_true rfl) ⟨⟨rfl, rfl⟩, ⟨rfl, rfl⟩, ⟨rfl, rfl⟩, ⟨rfl, rfl⟩, ⟨rfl, rfl⟩, ⟨rfl, rfl⟩, ⟨rfl, rfl⟩, ⟨rfl, rfl⟩, ⟨rfl, rfl⟩, trivial⟩ ⟨⟨Nat.le_of_ble_eq_true rfl, rfl, belN_all rfl⟩, ⟨Nat.le_of_ble_eq_true rfl, rfl, belN_all rfl⟩, trivial⟩ rfl)⟩
              obtain ⟨l1, at1, ⟨hc, hl13⟩, rfl⟩ := hI
              refine vc_join (fun st => ∃ l3 : List Held, ∃ a : Nat, (a < l3.length ∧ l3.length ≤ 3 ∧ FillP l fr t now l3 a) ∧ st = mkSt [(1, .v (iv fr)), (3, .v (iv now)), (8, .v (.one (.ptr 17 0 0))), (11, .v (.one (.ptr 19 0 0))), (12, .v (iv (byteAt t 0))), (13, .v (iv (byteAt t 1))), (14, .v (iv (byteAt t 2))), (15, .v (sv (part t))), (17, .v (iv (a : Nat)))] [(17, ⟨1, [[.c (.val (.slice none 0 0))]]⟩), (19, ⟨1, [[.c (.own 6 (l3.map heldO))]]⟩)] 20) (fun K14 hK14 => ?_) (fun st hI => ?_)
              · refine vc_seq fun K15 hK15 => ?_
                refine vc_region ?_
                refine vl_q (q_move rfl) (dk rfl) ?_
                refine vl_two (x := fun b => vv (.bool b)) _ (q_cmp rfl rfl rfl rfl) (dk rfl) (fun h81 => ?_) (fun h81 => ?_)
                · replace h81 := lss_of h81
                  obtain ⟨hl1, hnew⟩ : l1 = l.eraseIdx (kIdx l fr t) ∧ ∀ (hil : kIdx l fr t < l.length), l[kIdx l fr t].cnt ≠ byteAt t 2 := by
                    rcases hc with ⟨_, h1, h2⟩ | ⟨i, _, h1, _⟩
                    · exact ⟨h1, h2⟩
                    · omega
                  refine vl_nil ?_
                  refine hK15 _ ?_
                  refine vc_cond_true rfl ?_
                  refine vc_join (fun st => ∃ r : List Held, (r = three (l.eraseIdx (kIdx l fr t)) ∧ r.length ≤ 2 ∧ ∀ (hil : kIdx l fr t < l.length), l[kIdx l fr t].cnt ≠ byteAt t 2) ∧ st = mkSt [(1, .v (iv fr)), (3, .v (iv now)), (8, .v (.one (.ptr 17 0 0))), (11, .v (.one (.ptr 19 0 0))), (12, .v (iv (byteAt t 0))), (13, .v (iv (byteAt t 1))), (14, .v (iv (byteAt t 2))), (15, .v (sv (part t)))] [(17, ⟨1, [[.c (.val (.slice none 0 0))]]⟩), (19, ⟨1, [[.c (.own 6 (r.map heldO))]]⟩)] 20) (fun K16 hK16 => ?_) (fun st hI => ?_)
                  · refine vc_seq fun K17 hK17 => ?_
                    refine vc_region ?_
                    refine vl_q (q_fieldAddr 0 rfl rfl rfl rfl (by decide) rfl rfl) (dk rfl) ?_
                    refine vl_open (nm := 19) (i := 0) (j := 0) rfl rfl rfl rfl rfl rfl ?_
                    simp only [List.set_set, List.length_map, Int.toNat_natCast, Nat.add_zero]
                    refine vl_load rfl rfl rfl rfl rfl rfl rfl (by decide) (dk rfl) ?_
                    refine vl_q (q_len_hdr rfl rfl rfl) (dk rfl) ?_
                    refine vl_two (x := fun b => vv (.bool b)) _ (q_cmp rfl rfl rfl rfl) (dk rfl) (fun h85 => ?_) (fun h85 => ?_)
                    · replace h85 := eql_of h85
                      refine vl_nil ?_
                      refine hK17 _ ?_
                      refine vc_cond_true rfl ?_
                      refine vc_region ?_
                      refine vl_q (q_fieldAddr 0 rfl rfl rfl rfl (by decide) rfl rfl) (dk rfl) ?_
                      refine vl_load rfl rfl rfl rfl rfl rfl rfl (by decide) (dk rfl) ?_
                      refine vl_q (q_slice_hdr rfl rfl rfl rfl rfl rfl rfl rfl (by omega) (by omega) (.inl (by omega))) (dk rfl) ?_
                      refine vl_q (q_fieldAddr 0 rfl rfl rfl rfl (by decide) rfl rfl) (dk rfl) ?_
                      refine vl_store rfl rfl rfl rfl rfl rfl (Nat.le_of_ble_eq_true rfl) trivial ?_
                      refine vl_nil ?_
                      refine hK16 _ ?_
                      refine wk_weak (Weak.rebase (nm := 19) (i := 0) (j := 0) (m := 20) (lo := 1) (n := l1.length - 1) rfl rfl rfl rfl (by simp [clo_len]; omega) (by decide)) ?_
                      refine wk_weak (Weak.node (m := 21) (nd' := ⟨6, clo ((l1.drop 1).map heldO)⟩) rfl (congrArg (Vm.Node.mk 6) (by show List.take _ (List.drop 1 (clo (l1.map heldO))) = _; rw [clo_drop, List.take_of_length_le (by simp [clo_len])]))) ?_
                      refine wk_weak (Weak.close1 (nm := 19) (i := 0) (j := 0) (m := 21) (es := (l1.drop 1).map heldO) rfl rfl rfl rfl (by simp) (by decide)) ?_
                      exact ⟨_, ⟨l1.drop 1, ⟨by rw [← hl1, three_t (by omega)], by rw [List.length_drop]; omega, hnew⟩, rfl⟩, (Weak.cut _ _ _ (Nat.le_of_ble_eq_true rfl) ⟨⟨rfl, rfl⟩, ⟨rfl, rfl⟩, ⟨rfl, rfl⟩, ⟨rfl, rfl⟩, ⟨rfl, rfl⟩, ⟨rfl, rfl⟩, ⟨rfl, rfl⟩, ⟨rfl, rfl⟩, trivial⟩ ⟨⟨Nat.le_of_ble_eq_true rfl, rfl, belN_all rfl⟩, ⟨Nat.le_of_ble_eq_true rfl, rfl, belN_all rfl⟩, trivial⟩ rfl)⟩
                    · replace h85 := eql_nof h85
                      refine vl_nil ?_
                      refine hK17 _ ?_
                      refine vc_cond_false rfl ?_
                      refine vc_skip ?_
                      refine hK16 _ ?_
                      refine wk_weak (Weak.close1 (nm := 19) (i := 0) (j := 0) (m := 20) (es := (l1).map heldO) rfl rfl rfl rfl (by simp) (by decide)) ?_
                      exact ⟨_, ⟨l1, ⟨by rw [← hl1, three_f (by omega)], by omega, hnew⟩, rfl⟩, (Weak.cut _ _ _ (Nat.le_of_ble_eq_true rfl) ⟨⟨rfl, rfl⟩, ⟨rfl, rfl⟩, ⟨rfl, rfl⟩, ⟨rfl, rfl⟩, ⟨rfl, rfl⟩, ⟨rfl, rfl⟩, ⟨rfl, rfl⟩, ⟨rfl, rfl⟩, trivial⟩ ⟨⟨Nat.le_of_ble_eq_true rfl, rfl, belN_all rfl⟩, ⟨Nat.le_of_ble_eq_true rfl, rfl, belN_all rfl⟩, trivial⟩ rfl)⟩
                  obtain ⟨r, ⟨hr, hr2, hnew⟩, rfl⟩ := hI
                  refine vc_seq fun K18 hK18 => ?_
                  refine vc_region ?_
                  refine vl_q (q_fieldAddr 0 rfl rfl rfl rfl (by decide) rfl rfl) (dk rfl) ?_
                  refine vl_open (nm := 19) (i := 0) (j := 0) rfl rfl rfl rfl rfl rfl ?_
                  simp only [List.set_set, List.length_map, Int.toNat_natCast, Nat.add_zero]
                  refine vl_load rfl rfl rfl rfl rfl rfl rfl (by decide) (dk rfl) ?_
                  refine vl_q (q_len_hdr rfl rfl rfl) (dk rfl) ?_
                  refine vl_q (q_assign rfl) (dk rfl) ?_
                  refine vl_nil ?_
                  refine hK18 _ ?_
                  refine vc_region_any mixed (fun n => false) true rfl rfl (fun _ hU19 => hU19) fun w1 S1 L1 Z1 H1 => ?_
                  refine va_q 0 rfl (by kernel_rfl) (by kernel_rfl) (by kernel_rfl) (q_fieldAddr 0 rfl rfl rfl rfl (by decide) rfl rfl) (dk rfl) ?_
                  refine va_q 2 rfl (by kernel_rfl) (by kernel_rfl) (by kernel_rfl) (q_move rfl) (dk rfl) ?_
                  refine va_q 3 rfl (by kernel_rfl) (by kernel_rfl) (by kernel_rfl) (q_move rfl) (dk rfl) ?_
                  refine va_q 4 rfl (by kernel_rfl) (by kernel_rfl) (by kernel_rfl) (q_move rfl) (dk rfl) ?_
                  refine va_q 5 rfl (by kernel_rfl) (by kernel_rfl) (by kernel_rfl) (q_move rfl) (dk rfl) ?_
                  refine va_q 7 rfl (by kernel_rfl) (by kernel_rfl) (by kernel_rfl) (q_move rfl) (dk rfl) ?_
                  refine va_q 9 rfl (by kernel_rfl) (by kernel_rfl) (by kernel_rfl) (q_move rfl) (dk rfl) ?_
                  refine va_q 10 rfl (by kernel_rfl) (by kernel_rfl) (by kernel_rfl) (q_add rfl rfl (IntWalk.i64_in _ (by omega))) (dk rfl) ?_
                  refine va_all [1, 6, 8] (by kernel_rfl) (by simp) ⟨⟨_, rfl, ?_⟩, ⟨_, rfl, ?_⟩, ⟨_, rfl, ?_⟩, trivial⟩
                  · refine vl_load rfl rfl rfl rfl rfl rfl rfl (by decide) (dk rfl) ?_
                    refine vl_nil ?_
                    refine va_all [6, 8] (by kernel_rfl) (by simp) ⟨⟨_, rfl, ?_⟩, ⟨_, rfl, ?_⟩, trivial⟩
                    · refine vl_makeSlice rfl rfl rfl rfl rfl (by omega) (by omega) (by show ((16 : Nat) : Int) * _ ≤ _; omega) (by decide) (dk rfl) ?_
                      refine vl_nil ?_
                      refine va_all [8] (by kernel_rfl) (by simp) ⟨⟨_, rfl, ?_⟩, trivial⟩
                      refine vl_makeSlice rfl rfl rfl rfl rfl (by omega) (by omega) (by show ((1 : Nat) : Int) * _ ≤ _; omega) (by decide) (dk rfl) ?_
                      refine vl_nil ?_
                      refine va_q 11 rfl (by kernel_rfl) (by kernel_rfl) (by kernel_rfl) (q_build rfl rfl rfl rfl rfl) (dk rfl) ?_
                      refine va_all [12] (by kernel_rfl) (by simp) ⟨⟨_, rfl, ?_⟩, trivial⟩
                      refine vl_bslice rfl rfl rfl rfl rfl rfl ⟨rfl, trivial⟩ (by decide) (by decide) (dk rfl) ?_
                      refine vl_nil ?_
                      refine va_all [13] (by kernel_rfl) (by simp) ⟨⟨_, rfl, ?_⟩, trivial⟩
                      refine vl_append rfl rfl rfl rfl (fun _ h => TypeDesc.noConfusion h) rfl rfl rfl (by rw [Nat.zero_add]; exact Nat.le_of_eq (by simp [clo_len])) (src_row rfl rfl rfl rfl) (by show (r.length + 1) * 80 ≤ _; omega) (by show r.length + 1 < _; omega) (dk rfl) ?_
                      refine vl_nil ?_
                      refine va_q 14 rfl (by kernel_rfl) (by kernel_rfl) (by kernel_rfl) (q_fieldAddr 0 rfl rfl rfl rfl (by decide) rfl rfl) (dk rfl) ?_
                      refine va_all [15] (by kernel_rfl) (by simp) ⟨⟨_, rfl, ?_⟩, trivial⟩
                      refine vl_store rfl rfl rfl rfl rfl rfl (Nat.le_of_ble_eq_true rfl) trivial ?_
                      refine vl_nil ?_
                      refine va_done (by kernel_rfl) ?_
                      refine hK14 _ ?_
                      refine wk_weak (Weak.node (m := 24) rfl (congrArg (Vm.Node.mk 6) (app_take (by simp)))) ?_
                      refine wk_weak (Weak.node (m := 21) (nd' := ⟨1, clo ((List.replicate (byteAt t 2) (⟨#[]⟩ : ByteArray)).map strC)⟩) rfl (congrArg (Vm.Node.mk 1) (rep_clo (f := strC) (x := ⟨#[]⟩) (n := byteAt t 2)))) ?_
                      refine wk_weak (Weak.node (m := 22) (nd' := ⟨1, clo ((List.replicate (byteAt t 2) false).map boolC)⟩) rfl (congrArg (Vm.Node.mk 1) (rep_clo (f := boolC) (x := false) (n := byteAt t 2)))) ?_
                      refine wk_weak (Weak.close1 (nm := 24) (i := r.length) (j := 3) (m := 21) (es := (List.replicate (byteAt t 2) (⟨#[]⟩ : ByteArray)).map strC) rfl (app_get (by simp)) rfl rfl (by simp) (by decide)) ?_
                      refine wk_weak (Weak.close1 (nm := 24) (i := r.length) (j := 4) (m := 22) (es := (List.replicate (byteAt t 2) false).map boolC) rfl (set_get (app_lt (by simp))) rfl rfl (by simp) (by decide)) ?_
                      refine wk_weak (Weak.node (m := 24) (nd' := ⟨6, clo ((r ++ [fresh fr t now]).map heldO)⟩) rfl (congrArg (Vm.Node.mk 6) ((List.set_set _).trans ((app_set (by simp)).trans (clo_one (x := fresh fr t now)))))) ?_
                      refine wk_weak (Weak.close1 (nm := 19) (i := 0) (j := 0) (m := 24) (es := (r ++ [fresh fr t now]).map heldO) rfl rfl rfl rfl (by simp) (by decide)) ?_
                      exact ⟨_, ⟨r ++ [fresh fr t now], r.length, ⟨by simp, by simp; omega, .inl ⟨by rw [hr], by rw [hr], hnew⟩⟩, rfl⟩, (Weak.cut _ _ _ (Nat.le_of_ble_eq_true rfl) ⟨⟨rfl, rfl⟩, ⟨rfl, rfl⟩, ⟨rfl, rfl⟩, ⟨rfl, rfl⟩, ⟨rfl, rfl⟩, ⟨rfl, rfl⟩, ⟨rfl, rfl⟩, ⟨rfl, rfl⟩, ⟨rfl, rfl⟩, trivial⟩ ⟨⟨Nat.le_of_ble_eq_true rfl, rfl, belN_all rfl⟩, ⟨Nat.le_of_ble_eq_true rfl, rfl, belN_all rfl⟩, trivial⟩ rfl)⟩
                    · refine vl_makeSlice rfl rfl rfl rfl rfl (by omega) (by omega) (by show ((1 : Nat) : Int) * _ ≤ _; omega) (by decide) (dk rfl) ?_
                      refine vl_nil ?_
                      refine va_all [6] (by kernel_rfl) (by simp) ⟨⟨_, rfl, ?_⟩, trivial⟩
                      refine vl_makeSlice rfl rfl rfl rfl rfl (by omega) (by omega) (by show ((16 : Nat) : Int) * _ ≤ _; omega) (by decide) (dk rfl) ?_
                      refine vl_nil ?_
                      refine va_q 11 rfl (by kernel_rfl) (by kernel_rfl) (by kernel_rfl) (q_build rfl rfl rfl rfl rfl) (dk rfl) ?_
                      refine va_all [12] (by kernel_rfl) (by simp) ⟨⟨_, rfl, ?_⟩, trivial⟩
                      refine vl_bslice rfl rfl rfl rfl rfl rfl ⟨rfl, trivial⟩ (by decide) (by decide) (dk rfl) ?_
                      refine vl_nil ?_
                      refine va_all [13] (by kernel_rfl) (by simp) ⟨⟨_, rfl, ?_⟩, trivial⟩
                      refine vl_append rfl rfl rfl rfl (fun _ h => TypeDesc.noConfusion h) rfl rfl rfl (by rw [Nat.zero_add]; exact Nat.le_of_eq (by simp [clo_len])) (src_row rfl rfl rfl rfl) (by show (r.length + 1) * 80 ≤ _; omega) (by show r.length + 1 < _; omega) (dk rfl) ?_
                      refine vl_nil ?_
                      refine va_q 14 rfl (by kernel_rfl) (by kernel_rfl) (by kernel_rfl) (q_fieldAddr 0 rfl rfl rfl rfl (by decide) rfl rfl) (dk rfl) ?_
                      refine va_all [15] (by kernel_rfl) (by simp) ⟨⟨_, rfl, ?_⟩, trivial⟩
                      refine vl_store rfl rfl rfl rfl rfl rfl (Nat.le_of_ble_eq_true rfl) trivial ?_
                      refine vl_nil ?_
                      refine va_done (by kernel_rfl) ?_
                      refine hK14 _ ?_
                      refine wk_weak (Weak.node (m := 24) rfl (congrArg (Vm.Node.mk 6) (app_take (by simp)))) ?_
                      refine wk_weak (Weak.node (m := 22) (nd' := ⟨1, clo ((List.replicate (byteAt t 2) (⟨#[]⟩ : ByteArray)).map strC)⟩) rfl (congrArg (Vm.Node.mk 1) (rep_clo (f := strC) (x := ⟨#[]⟩) (n := byteAt t 2)))) ?_
                      refine wk_weak (Weak.node (m := 21) (nd' := ⟨1, clo ((List.replicate (byteAt t 2) false).map boolC)⟩) rfl (congrArg (Vm.Node.mk 1) (rep_clo (f := boolC) (x := false) (n := byteAt t 2)))) ?_
                      refine wk_weak (Weak.close1 (nm := 24) (i := r.length) (j := 3) (m := 22) (es := (List.replicate (byteAt t 2) (⟨#[]⟩ : ByteArray)).map strC) rfl (app_get (by simp)) rfl rfl (by simp) (by decide)) ?_
                      refine wk_weak (Weak.close1 (nm := 24) (i := r.length) (j := 4) (m := 21) (es := (List.replicate (byteAt t 2) false).map boolC) rfl (set_get (app_lt (by simp))) rfl rfl (by simp) (by decide)) ?_
                      refine wk_weak (Weak.node (m := 24) (nd' := ⟨6, clo ((r ++ [fresh fr t now]).map heldO)⟩) rfl (congrArg (Vm.Node.mk 6) ((List.set_set _).trans ((app_set (by simp)).trans (clo_one (x := fresh fr t now)))))) ?_
                      refine wk_weak (Weak.close1 (nm := 19) (i := 0) (j := 0) (m := 24) (es := (r ++ [fresh fr t now]).map heldO) rfl rfl rfl rfl (by simp) (by decide)) ?_
                      exact ⟨_, ⟨r ++ [fresh fr t now], r.length, ⟨by simp, by simp; omega, .inl ⟨by rw [hr], by rw [hr], hnew⟩⟩, rfl⟩, (Weak.cut _ _ _ (Nat.le_of_ble_eq_true rfl) ⟨⟨rfl, rfl⟩, ⟨rfl, rfl⟩, ⟨rfl, rfl⟩, ⟨rfl, rfl⟩, ⟨rfl, rfl⟩, ⟨rfl, rfl⟩, ⟨rfl, rfl⟩, ⟨rfl, rfl⟩, ⟨rfl, rfl⟩, trivial⟩ ⟨⟨Nat.le_of_ble_eq_true rfl, rfl, belN_all rfl⟩, ⟨Nat.le_of_ble_eq_true rfl, rfl, belN_all rfl⟩, trivial⟩ rfl)⟩
                  · refine vl_makeSlice rfl rfl rfl rfl rfl (by omega) (by omega) (by show ((16 : Nat) : Int) * _ ≤ _; omega) (by decide) (dk rfl) ?_
                    refine vl_nil ?_
                    refine va_all [1, 8] (by kernel_rfl) (by simp) ⟨⟨_, rfl, ?_⟩, ⟨_, rfl, ?_⟩, trivial⟩
                    · refine vl_load rfl rfl rfl rfl rfl rfl rfl (by decide) (dk rfl) ?_
                      refine vl_nil ?_
                      refine va_all [8] (by kernel_rfl) (by simp) ⟨⟨_, rfl, ?_⟩, trivial⟩
                      refine vl_makeSlice rfl rfl rfl rfl rfl (by omega) (by omega) (by show ((1 : Nat) : Int) * _ ≤ _; omega) (by decide) (dk rfl) ?_
                      refine vl_nil ?_
                      refine va_q 11 rfl (by kernel_rfl) (by kernel_rfl) (by kernel_rfl) (q_build rfl rfl rfl rfl rfl) (dk rfl) ?_
                      refine va_all [12] (by kernel_rfl) (by simp) ⟨⟨_, rfl, ?_⟩, trivial⟩
                      refine vl_bslice rfl rfl rfl rfl rfl rfl ⟨rfl, trivial⟩ (by decide) (by decide) (dk rfl) ?_
                      refine vl_nil ?_
                      refine va_all [13] (by kernel_rfl) (by simp) ⟨⟨_, rfl, ?_⟩, trivial⟩
                      refine vl_append rfl rfl rfl rfl (fun _ h => TypeDesc.noConfusion h) rfl rfl rfl (by rw [Nat.zero_add]; exact Nat.le_of_eq (by simp [clo_len])) (src_row rfl rfl rfl rfl) (by show (r.length + 1) * 80 ≤ _; omega) (by show r.length + 1 < _; omega) (dk rfl) ?_
                      refine vl_nil ?_
                      refine va_q 14 rfl (by kernel_rfl) (by kernel_rfl) (by kernel_rfl) (q_fieldAddr 0 rfl rfl rfl rfl (by decide) rfl rfl) (dk rfl) ?_
                      refine va_all [15] (by kernel_rfl) (by simp) ⟨⟨_, rfl, ?_⟩, trivial⟩
                      refine vl_store rfl rfl rfl rfl rfl rfl (Nat.le_of_ble_eq_true rfl) trivial ?_
                      refine vl_nil ?_
                      refine va_done (by kernel_rfl) ?_
                      refine hK14 _ ?_
                      refine wk_weak (Weak.node (m := 24) rfl (congrArg (Vm.Node.mk 6) (app_take (by simp)))) ?_
                      refine wk_weak (Weak.node (m := 21) (nd' := ⟨1, clo ((List.replicate (byteAt t 2) (⟨#[]⟩ : ByteArray)).map strC)⟩) rfl (congrArg (Vm.Node.mk 1) (rep_clo (f := strC) (x := ⟨#[]⟩) (n := byteAt t 2)))) ?_
                      refine wk_weak (Weak.node (m := 22) (nd' := ⟨1, clo ((List.replicate (byteAt t 2) false).map boolC)⟩) rfl (congrArg (Vm.Node.mk 1) (rep_clo (f := boolC) (x := false) (n := byteAt t 2)))) ?_
                      refine wk_weak (Weak.close1 (nm := 24) (i := r.length) (j := 3) (m := 21) (es := (List.replicate (byteAt t 2) (⟨#[]⟩ : ByteArray)).map strC) rfl (app_get (by simp)) rfl rfl (by simp) (by decide)) ?_
                      refine wk_weak (Weak.close1 (nm := 24) (i := r.length) (j := 4) (m := 22) (es := (List.replicate (byteAt t 2) false).map boolC) rfl (set_get (app_lt (by simp))) rfl rfl (by simp) (by decide)) ?_
                      refine wk_weak (Weak.node (m := 24) (nd' := ⟨6, clo ((r ++ [fresh fr t now]).map heldO)⟩) rfl (congrArg (Vm.Node.mk 6) ((List.set_set _).trans ((app_set (by simp)).trans (clo_one (x := fresh fr t now)))))) ?_
                      refine wk_weak (Weak.close1 (nm := 19) (i := 0) (j := 0) (m := 24) (es := (r ++ [fresh fr t now]).map heldO) rfl rfl rfl rfl (by simp) (by decide)) ?_
                      exact ⟨_, ⟨r ++ [fresh fr t now], r.length, ⟨by simp, by simp; omega, .inl ⟨by rw [hr], by rw [hr], hnew⟩⟩, rfl⟩, (Weak.cut _ _ _ (Nat.le_of_ble_eq_true rfl) ⟨⟨rfl, rfl⟩, ⟨rfl, rfl⟩, ⟨rfl, rfl⟩, ⟨rfl, rfl⟩, ⟨rfl, rfl⟩, ⟨rfl, rfl⟩, ⟨rfl, rfl⟩, ⟨rfl, rfl⟩, ⟨rfl, rfl⟩, trivial⟩ ⟨⟨Nat.le_of_ble_eq_true rfl, rfl, belN_all rfl⟩, ⟨Nat.le_of_ble_eq_true rfl, rfl, belN_all rfl⟩, trivial⟩ rfl)⟩
                    · refine vl_makeSlice rfl rfl rfl rfl rfl (by omega) (by omega) (by show ((1 : Nat) : Int) * _ ≤ _; omega) (by decide) (dk rfl) ?_
                      refine vl_nil ?_
                      refine va_q 11 rfl (by kernel_rfl) (by kernel_rfl) (by kernel_rfl) (q_build rfl rfl rfl rfl rfl) (dk rfl) ?_
                      refine va_all [1, 12] (by kernel_rfl) (by simp) ⟨⟨_, rfl, ?_⟩, ⟨_, rfl, ?_⟩, trivial⟩
                      · refine vl_load rfl rfl rfl rfl rfl rfl rfl (by decide) (dk rfl) ?_
                        refine vl_nil ?_
                        refine va_all [12] (by kernel_rfl) (by simp) ⟨⟨_, rfl, ?_⟩, trivial⟩
                        refine vl_bslice rfl rfl rfl rfl rfl rfl ⟨rfl, trivial⟩ (by decide) (by decide) (dk rfl) ?_
                        refine vl_nil ?_
                        refine va_all [13] (by kernel_rfl) (by simp) ⟨⟨_, rfl, ?_⟩, trivial⟩
                        refine vl_append rfl rfl rfl rfl (fun _ h => TypeDesc.noConfusion h) rfl rfl rfl (by rw [Nat.zero_add]; exact Nat.le_of_eq (by simp [clo_len])) (src_row rfl rfl rfl rfl) (by show (r.length + 1) * 80 ≤ _; omega) (by show r.length + 1 < _; omega) (dk rfl) ?_
                        refine vl_nil ?_
                        refine va_q 14 rfl (by kernel_rfl) (by kernel_rfl) (by kernel_rfl) (q_fieldAddr 0 rfl rfl rfl rfl (by decide) rfl rfl) (dk rfl) ?_
                        refine va_all [15] (by kernel_rfl) (by simp) ⟨⟨_, rfl, ?_⟩, trivial⟩
                        refine vl_store rfl rfl rfl rfl rfl rfl (Nat.le_of_ble_eq_true rfl) trivial ?_
                        refine vl_nil ?_
                        refine va_done (by kernel_rfl) ?_
                        refine hK14 _ ?_
                        refine wk_weak (Weak.node (m := 24) rfl (congrArg (Vm.Node.mk 6) (app_take (by simp)))) ?_
                        refine wk_weak (Weak.node (m := 21) (nd' := ⟨1, clo ((List.replicate (byteAt t 2) (⟨#[]⟩ : ByteArray)).map strC)⟩) rfl (congrArg (Vm.Node.mk 1) (rep_clo (f := strC) (x := ⟨#[]⟩) (n := byteAt t 2)))) ?_
                        refine wk_weak (Weak.node (m := 22) (nd' := ⟨1, clo ((List.replicate (byteAt t 2) false).map boolC)⟩) rfl (congrArg (Vm.Node.mk 1) (rep_clo (f := boolC) (x := false) (n := byteAt t 2)))) ?_
                        refine wk_weak (Weak.close1 (nm := 24) (i := r.length) (j := 3) (m := 21) (es := (List.replicate (byteAt t 2) (⟨#[]⟩ : ByteArray)).map strC) rfl (app_get (by simp)) rfl rfl (by simp) (by decide)) ?_
                        refine wk_weak (Weak.close1 (nm := 24) (i := r.length) (j := 4) (m := 22) (es := (List.replicate (byteAt t 2) false).map boolC) rfl (set_get (app_lt (by simp))) rfl rfl (by simp) (by decide)) ?_
                        refine wk_weak (Weak.node (m := 24) (nd' := ⟨6, clo ((r ++ [fresh fr t now]).map heldO)⟩) rfl (congrArg (Vm.Node.mk 6) ((List.set_set _).trans ((app_set (by simp)).trans (clo_one (x := fresh fr t now)))))) ?_
                        refine wk_weak (Weak.close1 (nm := 19) (i := 0) (j := 0) (m := 24) (es := (r ++ [fresh fr t now]).map heldO) rfl rfl rfl rfl (by simp) (by decide)) ?_
                        exact ⟨_, ⟨r ++ [fresh fr t now], r.length, ⟨by simp, by simp; omega, .inl ⟨by rw [hr], by rw [hr], hnew⟩⟩, rfl⟩, (Weak.cut _ _ _ (Nat.le_of_ble_eq_true rfl) ⟨⟨rfl, rfl⟩, ⟨rfl, rfl⟩, ⟨rfl, rfl⟩, ⟨rfl, rfl⟩, ⟨rfl, rfl⟩, ⟨rfl, rfl⟩, ⟨rfl, rfl⟩, ⟨rfl, rfl⟩, ⟨rfl, rfl⟩, trivial⟩ ⟨⟨Nat.le_of_ble_eq_true rfl, rfl, belN_all rfl⟩, ⟨Nat.le_of_ble_eq_true rfl, rfl, belN_all rfl⟩, trivial⟩ rfl)⟩
                      · refine vl_bslice rfl rfl rfl rfl rfl rfl ⟨rfl, trivial⟩ (by decide) (by decide) (dk rfl) ?_
                        refine vl_nil ?_
                        refine va_all [1] (by kernel_rfl) (by simp) ⟨⟨_, rfl, ?_⟩, trivial⟩
                        refine vl_load rfl rfl rfl rfl rfl rfl rfl (by decide) (dk rfl) ?_
                        refine vl_nil ?_
                        refine va_all [13] (by kernel_rfl) (by simp) ⟨⟨_, rfl, ?_⟩, trivial⟩
                        refine vl_append rfl rfl rfl rfl (fun _ h => TypeDesc.noConfusion h) rfl rfl rfl (by rw [Nat.zero_add]; exact Nat.le_of_eq (by simp [clo_len])) (src_row rfl rfl rfl rfl) (by show (r.length + 1) * 80 ≤ _; omega) (by show r.length + 1 < _; omega) (dk rfl) ?_
                        refine vl_nil ?_
                        refine va_q 14 rfl (by kernel_rfl) (by kernel_rfl) (by kernel_rfl) (q_fieldAddr 0 rfl rfl rfl rfl (by decide) rfl rfl) (dk rfl) ?_
                        refine va_all [15] (by kernel_rfl) (by simp) ⟨⟨_, rfl, ?_⟩, trivial⟩
                        refine vl_store rfl rfl rfl rfl rfl rfl (Nat.le_of_ble_eq_true rfl) trivial ?_
                        refine vl_nil ?_
                        refine va_done (by kernel_rfl) ?_
                        refine hK14 _ ?_
                        refine wk_weak (Weak.node (m := 24) rfl (congrArg (Vm.Node.mk 6) (app_take (by simp)))) ?_
                        refine wk_weak (Weak.node (m := 21) (nd' := ⟨1, clo ((List.replicate (byteAt t 2) (⟨#[]⟩ : ByteArray)).map strC)⟩) rfl (congrArg (Vm.Node.mk 1) (rep_clo (f := strC) (x := ⟨#[]⟩) (n := byteAt t 2)))) ?_
                        refine wk_weak (Weak.node (m := 22) (nd' := ⟨1, clo ((List.replicate (byteAt t 2) false).map boolC)⟩) rfl (congrArg (Vm.Node.mk 1) (rep_clo (f := boolC) (x := false) (n := byteAt t 2)))) ?_
                        refine wk_weak (Weak.close1 (nm := 24) (i := r.length) (j := 3) (m := 21) (es := (List.replicate (byteAt t 2) (⟨#[]⟩ : ByteArray)).map strC) rfl (app_get (by simp)) rfl rfl (by simp) (by decide)) ?_
                        refine wk_weak (Weak.close1 (nm := 24) (i := r.length) (j := 4) (m := 22) (es := (List.replicate (byteAt t 2) false).map boolC) rfl (set_get (app_lt (by simp))) rfl rfl (by simp) (by decide)) ?_
                        refine wk_weak (Weak.node (m := 24) (nd' := ⟨6, clo ((r ++ [fresh fr t now]).map heldO)⟩) rfl (congrArg (Vm.Node.mk 6) ((List.set_set _).trans ((app_set (by simp)).trans (clo_one (x := fresh fr t now)))))) ?_
                        refine wk_weak (Weak.close1 (nm := 19) (i := 0) (j := 0) (m := 24) (es := (r ++ [fresh fr t now]).map heldO) rfl rfl rfl rfl (by simp) (by decide)) ?_
                        exact ⟨_, ⟨r ++ [fresh fr t now], r.length, ⟨by simp, by simp; omega, .inl ⟨by rw [hr], by rw [hr], hnew⟩⟩, rfl⟩, (Weak.cut _ _ _ (Nat.le_of_ble_eq_true rfl) ⟨⟨rfl, rfl⟩, ⟨rfl, rfl⟩, ⟨rfl, rfl⟩, ⟨rfl, rfl⟩, ⟨rfl, rfl⟩, ⟨rfl, rfl⟩, ⟨rfl, rfl⟩, ⟨rfl, rfl⟩, ⟨rfl, rfl⟩, trivial⟩ ⟨⟨Nat.le_of_ble_eq_true rfl, rfl, belN_all rfl⟩, ⟨Nat.le_of_ble_eq_true rfl, rfl, belN_all rfl⟩, trivial⟩ rfl)⟩
                  · refine vl_makeSlice rfl rfl rfl rfl rfl (by omega) (by omega) (by show ((1 : Nat) : Int) * _ ≤ _; omega) (by decide) (dk rfl) ?_
                    refine vl_nil ?_
                    refine va_all [1, 6] (by kernel_rfl) (by simp) ⟨⟨_, rfl, ?_⟩, ⟨_, rfl, ?_⟩, trivial⟩
                    · refine vl_load rfl rfl rfl rfl rfl rfl rfl (by decide) (dk rfl) ?_
                      refine vl_nil ?_
                      refine va_all [6] (by kernel_rfl) (by simp) ⟨⟨_, rfl, ?_⟩, trivial⟩
                      refine vl_makeSlice rfl rfl rfl rfl rfl (by omega) (by omega) (by show ((16 : Nat) : Int) * _ ≤ _; omega) (by decide) (dk rfl) ?_
                      refine vl_nil ?_
                      refine va_q 11 rfl (by kernel_rfl) (by kernel_rfl) (by kernel_rfl) (q_build rfl rfl rfl rfl rfl) (dk rfl) ?_
                      refine va_all [12] (by kernel_rfl) (by simp) ⟨⟨_, rfl, ?_⟩, trivial⟩
                      refine vl_bslice rfl rfl rfl rfl rfl rfl ⟨rfl, trivial⟩ (by decide) (by decide) (dk rfl) ?_
                      refine vl_nil ?_
                      refine va_all [13] (by kernel_rfl) (by simp) ⟨⟨_, rfl, ?_⟩, trivial⟩
                      refine vl_append rfl rfl rfl rfl (fun _ h => TypeDesc.noConfusion h) rfl rfl rfl (by rw [Nat.zero_add]; exact Nat.le_of_eq (by simp [clo_len])) (src_row rfl rfl rfl rfl) (by show (r.length + 1) * 80 ≤ _; omega) (by show r.length + 1 < _; omega) (dk rfl) ?_
                      refine vl_nil ?_
                      refine va_q 14 rfl (by kernel_rfl) (by kernel_rfl) (by kernel_rfl) (q_fieldAddr 0 rfl rfl rfl rfl (by decide) rfl rfl) (dk rfl) ?_
                      refine va_all [15] (by kernel_rfl) (by simp) ⟨⟨_, rfl, ?_⟩, trivial⟩
                      refine vl_store rfl rfl rfl rfl rfl rfl (Nat.le_of_ble_eq_true rfl) trivial ?_
                      refine vl_nil ?_
                      refine va_done (by kernel_rfl) ?_
                      refine hK14 _ ?_
                      refine wk_weak (Weak.node (m := 24) rfl (congrArg (Vm.Node.mk 6) (app_take (by simp)))) ?_
                      refine wk_weak (Weak.node (m := 22) (nd' := ⟨1, clo ((List.replicate (byteAt t 2) (⟨#[]⟩ : ByteArray)).map strC)⟩) rfl (congrArg (Vm.Node.mk 1) (rep_clo (f := strC) (x := ⟨#[]⟩) (n := byteAt t 2)))) ?_
                      refine wk_weak (Weak.node (m := 21) (nd' := ⟨1, clo ((List.replicate (byteAt t 2) false).map boolC)⟩) rfl (congrArg (Vm.Node.mk 1) (rep_clo (f := boolC) (x := false) (n := byteAt t 2)))) ?_
                      refine wk_weak (Weak.close1 (nm := 24) (i := r.length) (j := 3) (m := 22) (es := (List.replicate (byteAt t 2) (⟨#[]⟩ : ByteArray)).map strC) rfl (app_get (by simp)) rfl rfl (by simp) (by decide)) ?_
                      refine wk_weak (Weak.close1 (nm := 24) (i := r.length) (j := 4) (m := 21) (es := (List.replicate (byteAt t 2) false).map boolC) rfl (set_get (app_lt (by simp))) rfl rfl (by simp) (by decide)) ?_
                      refine wk_weak (Weak.node (m := 24) (nd' := ⟨6, clo ((r ++ [fresh fr t now]).map heldO)⟩) rfl (congrArg (Vm.Node.mk 6) ((List.set_set _).trans ((app_set (by simp)).trans (clo_one (x := fresh fr t now)))))) ?_
                      refine wk_weak (Weak.close1 (nm := 19) (i := 0) (j := 0) (m := 24) (es := (r ++ [fresh fr t now]).map heldO) rfl rfl rfl rfl (by simp) (by decide)) ?_
                      exact ⟨_, ⟨r ++ [fresh fr t now], r.length, ⟨by simp, by simp; omega, .inl ⟨by rw [hr], by rw [hr], hnew⟩⟩, rfl⟩, (Weak.cut _ _ _ (Nat.le_of_ble_eq_true rfl) ⟨⟨rfl, rfl⟩, ⟨rfl, rfl⟩, ⟨rfl, rfl⟩, ⟨rfl, rfl⟩, ⟨rfl, rfl⟩, ⟨rfl, rfl⟩, ⟨rfl, rfl⟩, ⟨rfl, rfl⟩, ⟨rfl, rfl⟩, trivial⟩ ⟨⟨Nat.le_of_ble_eq_true rfl, rfl, belN_all rfl⟩, ⟨Nat.le_of_ble_eq_true rfl, rfl, belN_all rfl⟩, trivial⟩ rfl)⟩
                    · refine vl_makeSlice rfl rfl rfl rfl rfl (by omega) (by omega) (by show ((16 : Nat) : Int) * _ ≤ _; omega) (by decide) (dk rfl) ?_
                      refine vl_nil ?_
                      refine va_q 11 rfl (by kernel_rfl) (by kernel_rfl) (by kernel_rfl) (q_build rfl rfl rfl rfl rfl) (dk rfl) ?_
                      refine va_all [1, 12] (by kernel_rfl) (by simp) ⟨⟨_, rfl, ?_⟩, ⟨_, rfl, ?_⟩, trivial⟩
                      · refine vl_load rfl rfl rfl rfl rfl rfl rfl (by decide) (dk rfl) ?_
                        refine vl_nil ?_
                        refine va_all [12] (by kernel_rfl) (by simp) ⟨⟨_, rfl, ?_⟩, trivial⟩
                        refine vl_bslice rfl rfl rfl rfl rfl rfl ⟨rfl, trivial⟩ (by decide) (by decide) (dk rfl) ?_
                        refine vl_nil ?_
                        refine va_all [13] (by kernel_rfl) (by simp) ⟨⟨_, rfl, ?_⟩, trivial⟩
                        refine vl_append rfl rfl rfl rfl (fun _ h => TypeDesc.noConfusion h) rfl rfl rfl (by rw [Nat.zero_add]; exact Nat.le_of_eq (by simp [clo_len])) (src_row rfl rfl rfl rfl) (by show (r.length + 1) * 80 ≤ _; omega) (by show r.length + 1 < _; omega) (dk rfl) ?_
                        refine vl_nil ?_
                        refine va_q 14 rfl (by kernel_rfl) (by kernel_rfl) (by kernel_rfl) (q_fieldAddr 0 rfl rfl rfl rfl (by decide) rfl rfl) (dk rfl) ?_
                        refine va_all [15] (by kernel_rfl) (by simp) ⟨⟨_, rfl, ?_⟩, trivial⟩
                        refine vl_store rfl rfl rfl rfl rfl rfl (Nat.le_of_ble_eq_true rfl) trivial ?_
                        refine vl_nil ?_
                        refine va_done (by kernel_rfl) ?_
                        refine hK14 _ ?_
                        refine wk_weak (Weak.node (m := 24) rfl (congrArg (Vm.Node.mk 6) (app_take (by simp)))) ?_
                        refine wk_weak (Weak.node (m := 22) (nd' := ⟨1, clo ((List.replicate (byteAt t 2) (⟨#[]⟩ : ByteArray)).map strC)⟩) rfl (congrArg (Vm.Node.mk 1) (rep_clo (f := strC) (x := ⟨#[]⟩) (n := byteAt t 2)))) ?_
                        refine wk_weak (Weak.node (m := 21) (nd' := ⟨1, clo ((List.replicate (byteAt t 2) false).map boolC)⟩) rfl (congrArg (Vm.Node.mk 1) (rep_clo (f := boolC) (x := false) (n := byteAt t 2)))) ?_
                        refine wk_weak (Weak.close1 (nm := 24) (i := r.length) (j := 3) (m := 22) (es := (List.replicate (byteAt t 2) (⟨#[]⟩ : ByteArray)).map strC) rfl (app_get (by simp)) rfl rfl (by simp) (by decide)) ?_
                        refine wk_weak (Weak.close1 (nm := 24) (i := r.length) (j := 4) (m := 21) (es := (List.replicate (byteAt t 2) false).map boolC) rfl (set_get (app_lt (by simp))) rfl rfl (by simp) (by decide)) ?_
                        refine wk_weak (Weak.node (m := 24) (nd' := ⟨6, clo ((r ++ [fresh fr t now]).map heldO)⟩) rfl (congrArg (Vm.Node.mk 6) ((List.set_set _).trans ((app_set (by simp)).trans (clo_one (x := fresh fr t now)))))) ?_
                        refine wk_weak (Weak.close1 (nm := 19) (i := 0) (j := 0) (m := 24) (es := (r ++ [fresh fr t now]).map heldO) rfl rfl rfl rfl (by simp) (by decide)) ?_
                        exact ⟨_, ⟨r ++ [fresh fr t now], r.length, ⟨by simp, by simp; omega, .inl ⟨by rw [hr], by rw [hr], hnew⟩⟩, rfl⟩, (Weak.cut _ _ _ (Nat.le_of_ble_eq_true rfl) ⟨⟨rfl, rfl⟩, ⟨rfl, rfl⟩, ⟨rfl, rfl⟩, ⟨rfl, rfl⟩, ⟨rfl, rfl⟩, ⟨rfl, rfl⟩, ⟨rfl, rfl⟩, ⟨rfl, rfl⟩, ⟨rfl, rfl⟩, trivial⟩ ⟨⟨Nat.le_of_ble_eq_true rfl, rfl, belN_all rfl⟩, ⟨Nat.le_of_ble_eq_true rfl, rfl, belN_all rfl⟩, trivial⟩ rfl)⟩
                      · refine vl_bslice rfl rfl rfl rfl rfl rfl ⟨rfl, trivial⟩ (by decide) (by decide) (dk rfl) ?_
                        refine vl_nil ?_
                        refine va_all [1] (by kernel_rfl) (by simp) ⟨⟨_, rfl, ?_⟩, trivial⟩
                        refine vl_load rfl rfl rfl rfl rfl rfl rfl (by decide) (dk rfl) ?_
                        refine vl_nil ?_
                        refine va_all [13] (by kernel_rfl) (by simp) ⟨⟨_, rfl, ?_⟩, trivial⟩
                        refine vl_append rfl rfl rfl rfl (fun _ h => TypeDesc.noConfusion h) rfl rfl rfl (by rw [Nat.zero_add]; exact Nat.le_of_eq (by simp [clo_len])) (src_row rfl rfl rfl rfl) (by show (r.length + 1) * 80 ≤ _; omega) (by show r.length + 1 < _; omega) (dk rfl) ?_
                        refine vl_nil ?_
                        refine va_q 14 rfl (by kernel_rfl) (by kernel_rfl) (by kernel_rfl) (q_fieldAddr 0 rfl rfl rfl rfl (by decide) rfl rfl) (dk rfl) ?_
                        refine va_all [15] (by kernel_rfl) (by simp) ⟨⟨_, rfl, ?_⟩, trivial⟩
                        refine vl_store rfl rfl rfl rfl rfl rfl (Nat.le_of_ble_eq_true rfl) trivial ?_
                        refine vl_nil ?_
                        refine va_done (by kernel_rfl) ?_
                        refine hK14 _ ?_
                        refine wk_weak (Weak.node (m := 24) rfl (congrArg (Vm.Node.mk 6) (app_take (by simp)))) ?_
                        refine wk_weak (Weak.node (m := 22) (nd' := ⟨1, clo ((List.replicate (byteAt t 2) (⟨#[]⟩ : ByteArray)).map strC)⟩) rfl (congrArg (Vm.Node.mk 1) (rep_clo (f := strC) (x := ⟨#[]⟩) (n := byteAt t 2)))) ?_
                        refine wk_weak (Weak.node (m := 21) (nd' := ⟨1, clo ((List.replicate (byteAt t 2) false).map boolC)⟩) rfl (congrArg (Vm.Node.mk 1) (rep_clo (f := boolC) (x := false) (n := byteAt t 2)))) ?_
                        refine wk_weak (Weak.close1 (nm := 24) (i := r.length) (j := 3) (m := 22) (es := (List.replicate (byteAt t 2) (⟨#[]⟩ : ByteArray)).map strC) rfl (app_get (by simp)) rfl rfl (by simp) (by decide)) ?_
                        refine wk_weak (Weak.close1 (nm := 24) (i := r.length) (j := 4) (m := 21) (es := (List.replicate (byteAt t 2) false).map boolC) rfl (set_get (app_lt (by simp))) rfl rfl (by simp) (by decide)) ?_
                        refine wk_weak (Weak.node (m := 24) (nd' := ⟨6, clo ((r ++ [fresh fr t now]).map heldO)⟩) rfl (congrArg (Vm.Node.mk 6) ((List.set_set _).trans ((app_set (by simp)).trans (clo_one (x := fresh fr t now)))))) ?_
                        refine wk_weak (Weak.close1 (nm := 19) (i := 0) (j := 0) (m := 24) (es := (r ++ [fresh fr t now]).map heldO) rfl rfl rfl rfl (by simp) (by decide)) ?_
                        exact ⟨_, ⟨r ++ [fresh fr t now], r.length, ⟨by simp, by simp; omega, .inl ⟨by rw [hr], by rw [hr], hnew⟩⟩, rfl⟩, (Weak.cut _ _ _ (Nat.le_of_ble_eq_true rfl) ⟨⟨rfl, rfl⟩, ⟨rfl, rfl⟩, ⟨rfl, rfl⟩, ⟨rfl, rfl⟩, ⟨rfl, rfl⟩, ⟨rfl, rfl⟩, ⟨rfl, rfl⟩, ⟨rfl, rfl⟩, ⟨rfl, rfl⟩, trivial⟩ ⟨⟨Nat.le_of_ble_eq_true rfl, rfl, belN_all rfl⟩, ⟨Nat.le_of_ble_eq_true rfl, rfl, belN_all rfl⟩, trivial⟩ rfl)⟩
                · replace h81 := lss_nof h81
                  obtain ⟨i, hil, rfl, rfl, hix, hct⟩ := hc.resolve_left (fun h => by omega)
                  refine vl_nil ?_
                  refine hK15 _ ?_
                  refine vc_cond_false rfl ?_
                  refine vc_skip ?_
                  refine hK14 _ ?_
                  exact ⟨_, ⟨l1, i, ⟨hil, hl13, .inr ⟨rfl, hix, fun _ => hct⟩⟩, rfl⟩, (Weak.cut _ _ _ (Nat.le_of_ble_eq_true rfl) ⟨⟨rfl, rfl⟩, ⟨rfl, rfl⟩, ⟨rfl, rfl⟩, ⟨rfl, rfl⟩, ⟨rfl, rfl⟩, ⟨rfl, rfl⟩, ⟨rfl, rfl⟩, ⟨rfl, rfl⟩, ⟨rfl, rfl⟩, trivial⟩ ⟨⟨Nat.le_of_ble_eq_true rfl, rfl, belN_all rfl⟩, ⟨Nat.le_of_ble_eq_true rfl, rfl, belN_all rfl⟩, trivial⟩ rfl)⟩
              obtain ⟨l3, a, ⟨hal, hl33, hfl⟩, rfl⟩ := hI
              refine vc_seq fun K20 hK20 => ?_
              have hac : a < (clo (l3.map heldO)).length := by simp [clo_len]; exact hal
              obtain ⟨hhl, hpl⟩ := fill_len hsg hfl hal
              have hph : byteAt t 1 < l3[a].hav.length := by omega
              have hpp : byteAt t 1 < l3[a].parts.length := by omega
              refine vc_region ?_
              refine vl_q (q_fieldAddr 0 rfl rfl rfl rfl (by decide) rfl rfl) (dk rfl) ?_
              refine vl_open (nm := 19) (i := 0) (j := 0) rfl rfl rfl rfl rfl rfl ?_
              simp only [List.set_set, List.length_map, Int.toNat_natCast, Nat.add_zero]
              refine vl_load rfl rfl rfl rfl rfl rfl rfl (by decide) (dk rfl) ?_
              refine vl_q (q_move rfl) (dk rfl) ?_
              refine vl_q (q_indexAddr rfl rfl rfl rfl rfl rfl rfl (by omega) (by omega)) (dk rfl) ?_
              try simp only [List.set_set, List.length_map, Int.toNat_natCast, Nat.add_zero]
              refine vl_q (q_assign rfl) (dk rfl) ?_
              refine vl_nil ?_
              refine hK20 _ ?_
              refine vc_seq fun K21 hK21 => ?_
              refine vc_seq fun K22 hK22 => ?_
              refine vc_region ?_
              refine vl_q (q_move rfl) (dk rfl) ?_
              refine vl_q (q_nilCheck rfl rfl) (dk rfl) ?_
              refine vl_q (q_fieldAddr 4 rfl rfl rfl rfl (by decide) rfl rfl) (dk rfl) ?_
              refine vl_open (nm := 20) (i := a) (j := 4) rfl rfl rfl (clo_get hal) rfl rfl ?_
              simp only [List.set_set, List.length_map, Int.toNat_natCast, Nat.add_zero]
              refine vl_load rfl rfl rfl (set_get hac) rfl rfl rfl (by decide) (dk rfl) ?_
              refine vl_q (q_move rfl) (dk rfl) ?_
              refine vl_q (q_indexAddr rfl rfl rfl rfl rfl rfl rfl (by omega) (by omega)) (dk rfl) ?_
              try simp only [List.set_set, List.length_map, Int.toNat_natCast, Nat.add_zero]
              refine vl_load rfl rfl rfl (clo_get hph) rfl rfl rfl (by decide) (dk rfl) ?_
              refine vl_bool 118 rfl (fun h118 => ?_) (fun h118 => ?_)
              · have hbt : l3[a].hav[byteAt t 1] = true := h118
                refine vl_q (q_not rfl) (dk rfl) ?_
                refine vl_nil ?_
                refine hK22 _ ?_
                refine vc_cond_false rfl ?_
                refine vc_skip ?_
                refine hK21 _ ?_
                refine vc_seq fun K23 hK23 => ?_
                refine vc_seq fun K24 hK24 => ?_
                have hy := put_t (s := part t) hph hbt
                refine vc_region ?_
                refine vl_q (q_move rfl) (dk rfl) ?_
                refine vl_q (q_nilCheck rfl rfl) (dk rfl) ?_
                refine vl_q (q_fieldAddr 4 rfl rfl rfl rfl (by decide) rfl rfl) (dk rfl) ?_
                refine vl_load rfl rfl rfl (set_get hac) rfl rfl rfl (by decide) (dk rfl) ?_
                refine vl_callP (c_Contains_bool l3[a].hav false) rfl rfl ⟨XOk.snapH rfl (by simp) (by simp) (map_wid fun _ => rfl) (boolsC_shr _), XOk.val _, trivial⟩ rfl (.inl rfl) (dk rfl) ?_
                refine vl_bool 137 rfl (fun h137 => ?_) (fun h137 => ?_)
                · have hnf : (putPart l3[a] (byteAt t 1) (part t)).hav.all id = false := by rw [hy]; exact mem_all h137
                  refine vl_nil ?_
                  refine hK24 _ ?_
                  refine vc_cond_true rfl ?_
                  refine vc_seq fun K25 hK25 => ?_
                  refine vc_weak (Weak.close1 (nm := 20) (i := a) (j := 4) (m := 21) (es := l3[a].hav.map boolC) rfl (set_get hac) rfl rfl (by simp) (by decide)) ?_
                  try simp only [List.set_set, List.length_map, Int.toNat_natCast, Nat.add_zero]
                  refine vc_weak (Weak.node (m := 20) (nd' := ⟨6, clo ((l3.set a (putPart l3[a] (byteAt t 1) (part t))).map heldO)⟩) rfl (congrArg (Vm.Node.mk 6) (by rw [hy, ← clo_set]; rfl))) ?_
                  refine vc_region ?_
                  refine vl_load rfl rfl rfl rfl rfl rfl rfl (by decide) (dk rfl) ?_
                  refine vl_store rfl rfl rfl rfl rfl rfl (Nat.le_of_ble_eq_true rfl) trivial ?_
                  refine vl_q (q_assign rfl) (dk rfl) ?_
                  refine vl_q (q_assign rfl) (dk rfl) ?_
                  refine vl_nil ?_
                  refine hK25 _ ?_
                  refine vc_ret ?_
                  have e : addP l fr t now = (l3.set a (putPart l3[a] (byteAt t 1) (part t)), ⟨#[]⟩, false) := fill_out hok h1 hfl hal hnf
                  refine ret_g [20] rfl (.cons (res_cell rfl rfl rfl rfl rfl rfl rfl (by decide)) (.cons (res_tmp rfl) (.cons (res_tmp rfl) .nil))) (by rw [e]; first | rfl | (simp only [List.length_set]; rfl) | (simp only [List.length_eraseIdx, if_pos hal, hy]; rfl)) rfl (nodupB_ok rfl) ⟨by decide, trivial⟩ ⟨⟨⟨6, clo ((addP l fr t now).1.map heldO)⟩, some_node (by rw [e]), NR.clo _ _ _ _⟩, trivial⟩ trivial (Nat.zero_le _)
                · have hfu : (putPart l3[a] (byteAt t 1) (part t)).hav.all id = true := by rw [hy]; exact nmem_all h137
                  refine vl_nil ?_
                  refine hK24 _ ?_
                  refine vc_cond_false rfl ?_
                  refine vc_skip ?_
                  refine hK23 _ ?_
                  refine vc_seq fun K26 hK26 => ?_
                  have hsz := fill_sz hsg hfl hal hrp (by omega)
                  rw [hy] at hsz
                  try simp only at hsz
                  refine vc_region ?_
                  refine vl_q (q_move rfl) (dk rfl) ?_
                  refine vl_q (q_nilCheck rfl rfl) (dk rfl) ?_
                  refine vl_q (q_fieldAddr 3 rfl rfl rfl rfl (by decide) rfl rfl) (dk rfl) ?_
                  refine vl_open (nm := 20) (i := a) (j := 3) rfl rfl rfl (set_get hac) rfl rfl ?_
                  simp only [List.set_set, List.length_map, Int.toNat_natCast, Nat.add_zero]
                  refine vl_load rfl rfl rfl (set_get hac) rfl rfl rfl (by decide) (dk rfl) ?_
                  refine vl_callP (c_Join l3[a].parts (by first | omega | (rw [List.length_set]; omega)) (by omega)) rfl rfl ⟨XOk.snapH rfl (by simp) (by simp) (map_wid fun _ => rfl) (strsC_shr _), XOk.val _, trivial⟩ rfl (.inl rfl) (dk rfl) ?_
                  refine vl_q (q_assign rfl) (dk rfl) ?_
                  refine vl_nil ?_
                  refine hK26 _ ?_
                  refine vc_seq fun K27 hK27 => ?_
                  refine vc_weak (Weak.close1 (nm := 20) (i := a) (j := 4) (m := 21) (es := l3[a].hav.map boolC) rfl (set_get hac) rfl rfl (by simp) (by decide)) ?_
                  try simp only [List.set_set, List.length_map, Int.toNat_natCast, Nat.add_zero]
                  refine vc_weak (Weak.close1 (nm := 20) (i := a) (j := 3) (m := 22) (es := l3[a].parts.map strC) rfl (set_get hac) rfl rfl (by simp) (by decide)) ?_
                  try simp only [List.set_set, List.length_map, Int.toNat_natCast, Nat.add_zero]
                  refine vc_weak (Weak.node (m := 20) (nd' := ⟨6, clo ((l3.set a (putPart l3[a] (byteAt t 1) (part t))).map heldO)⟩) rfl (congrArg (Vm.Node.mk 6) (by rw [hy, ← clo_set]; rfl))) ?_
                  refine vc_region ?_
                  refine vl_q (q_fieldAddr 0 rfl rfl rfl rfl (by decide) rfl rfl) (dk rfl) ?_
                  refine vl_load rfl rfl rfl rfl rfl rfl rfl (by decide) (dk rfl) ?_
                  refine vl_q (q_move rfl) (dk rfl) ?_
                  refine vl_q (q_move rfl) (dk rfl) ?_
                  refine vl_q (q_add rfl rfl (IntWalk.i64_in _ (by omega))) (dk rfl) ?_
                  refine vl_weak (Weak.lit (d := 148) (y := vv (.int .i64 ((a + 1 : Nat) : Int))) rfl rfl) ?_
                  have hcd := c_Delete (l3.set a (putPart l3[a] (byteAt t 1) (part t))) a (by rw [List.length_set]; exact hal) (by rw [List.length_set]; omega)
                  rw [List.length_set, List.eraseIdx_set_eq] at hcd
                  refine vl_callG [20] (.v (.one (.hdr 23 0 (l3.length - 1)))) hcd rfl rfl ⟨XOk.hdr rfl (by decide) _ _, XOk.val _, XOk.val _, trivial⟩ ⟨⟨_, rfl, NR.clo _ _ _ _⟩, trivial⟩ rfl (by decide) ⟨fix_clo _ _, trivial⟩ trivial rfl (.inl rfl) (dk rfl) ?_
                  refine vl_q (q_fieldAddr 0 rfl rfl rfl rfl (by decide) rfl rfl) (dk rfl) ?_
                  refine vl_store rfl rfl rfl rfl rfl rfl (Nat.le_of_ble_eq_true rfl) trivial ?_
                  refine vl_nil ?_
                  refine hK27 _ ?_
                  refine vc_seq fun K28 hK28 => ?_
                  refine vc_region ?_
                  refine vl_load rfl rfl rfl rfl rfl rfl rfl (by decide) (dk rfl) ?_
                  refine vl_q (q_move rfl) (dk rfl) ?_
                  refine vl_store rfl rfl rfl rfl rfl rfl (Nat.le_of_ble_eq_true rfl) trivial ?_
                  refine vl_q (q_assign rfl) (dk rfl) ?_
                  refine vl_q (q_assign rfl) (dk rfl) ?_
                  refine vl_nil ?_
                  refine hK28 _ ?_
                  refine vc_ret ?_
                  have e : addP l fr t now = (l3.eraseIdx a, catS (putPart l3[a] (byteAt t 1) (part t)).parts, true) := fill_full hok hrp h1 hfl hal hfu
                  refine ret_g [23] rfl (.cons (res_cell rfl rfl rfl rfl rfl rfl rfl (by decide)) (.cons (res_tmp rfl) (.cons (res_tmp rfl) .nil))) (by rw [e]; first | rfl | (simp only [List.length_set]; rfl) | (simp only [List.length_eraseIdx, if_pos hal, hy]; rfl)) rfl (nodupB_ok rfl) ⟨by decide, trivial⟩ ⟨⟨⟨6, clo ((addP l fr t now).1.map heldO)⟩, some_node (by rw [e]), NR.clo _ _ _ _⟩, trivial⟩ trivial (Nat.zero_le _)
              · have hbf : l3[a].hav[byteAt t 1] = false := h118
                refine vl_q (q_not rfl) (dk rfl) ?_
                refine vl_nil ?_
                refine hK22 _ ?_
                refine vc_cond_true rfl ?_
                refine vc_weak (Weak.open1 (nm := 20) (i := a) (j := 3) rfl (set_get hac) rfl) ?_
                simp only [List.set_set, List.length_map, Int.toNat_natCast, Nat.add_zero]
                refine vc_region_any mixed (fun n => Nat.beq n 20) true rfl rfl (fun _ hU29 => hU29) fun w1 S1 L1 Z1 H1 => ?_
                refine va_q 0 rfl (by kernel_rfl) (by kernel_rfl) (by kernel_rfl) (q_move rfl) (dk rfl) ?_
                refine va_q 1 rfl (by kernel_rfl) (by kernel_rfl) (by kernel_rfl) (q_nilCheck rfl rfl) (dk rfl) ?_
                refine va_q 2 rfl (by kernel_rfl) (by kernel_rfl) (by kernel_rfl) (q_fieldAddr 4 rfl rfl rfl rfl (by decide) rfl rfl) (dk rfl) ?_
                refine va_q 3 rfl (by kernel_rfl) (by kernel_rfl) (by kernel_rfl) (q_load rfl rfl rfl (set_get hac) rfl rfl rfl (by decide)) (dk rfl) ?_
                refine va_q 4 rfl (by kernel_rfl) (by kernel_rfl) (by kernel_rfl) (q_move rfl) (dk rfl) ?_
                refine va_q 5 rfl (by kernel_rfl) (by kernel_rfl) (by kernel_rfl) (q_move rfl) (dk rfl) ?_
                refine va_q 6 rfl (by kernel_rfl) (by kernel_rfl) (by kernel_rfl) (q_nilCheck rfl rfl) (dk rfl) ?_
                refine va_q 7 rfl (by kernel_rfl) (by kernel_rfl) (by kernel_rfl) (q_fieldAddr 3 rfl rfl rfl rfl (by decide) rfl rfl) (dk rfl) ?_
                refine va_q 8 rfl (by kernel_rfl) (by kernel_rfl) (by kernel_rfl) (q_load rfl rfl rfl (set_get hac) rfl rfl rfl (by decide)) (dk rfl) ?_
                refine va_q 9 rfl (by kernel_rfl) (by kernel_rfl) (by kernel_rfl) (q_move rfl) (dk rfl) ?_
                refine va_q 10 rfl (by kernel_rfl) (by kernel_rfl) (by kernel_rfl) (q_move rfl) (dk rfl) ?_
                refine va_q 11 rfl (by kernel_rfl) (by kernel_rfl) (by kernel_rfl) (q_indexAddr rfl rfl rfl rfl rfl rfl rfl (by omega) (by omega)) (dk rfl) ?_
                refine va_all [12] (by kernel_rfl) (by simp) ⟨⟨_, rfl, ?_⟩, trivial⟩
                try simp only [List.set_set, List.length_map, Int.toNat_natCast, Nat.add_zero]
                refine vl_store rfl rfl rfl rfl (clo_get hph) rfl (Nat.le_of_ble_eq_true rfl) trivial ?_
                refine vl_nil ?_
                refine va_q 13 rfl (by kernel_rfl) (by kernel_rfl) (by kernel_rfl) (q_indexAddr rfl rfl rfl rfl rfl rfl rfl (by omega) (by omega)) (dk rfl) ?_
                refine va_all [14] (by kernel_rfl) (by simp) ⟨⟨_, rfl, ?_⟩, trivial⟩
                try simp only [List.set_set, List.length_map, Int.toNat_natCast, Nat.add_zero]
                refine vl_store rfl rfl rfl rfl (clo_get hpp) rfl (Nat.le_of_ble_eq_true rfl) trivial ?_
                refine vl_nil ?_
                refine va_done (by kernel_rfl) ?_
                refine hK21 _ ?_
                refine vc_seq fun K30 hK30 => ?_
                refine vc_seq fun K31 hK31 => ?_
                have hy := put_f (s := part t) hph hbf
                refine vc_weak (Weak.node (m := 21) (nd' := ⟨1, clo ((l3[a].hav.set (byteAt t 1) true).map boolC)⟩) rfl (congrArg (Vm.Node.mk 1) (clo_set (f := boolC)))) ?_
                refine vc_weak (Weak.node (m := 22) (nd' := ⟨1, clo ((l3[a].parts.set (byteAt t 1) (part t)).map strC)⟩) rfl (congrArg (Vm.Node.mk 1) (clo_set (f := strC)))) ?_
                refine vc_region ?_
                refine vl_q (q_move rfl) (dk rfl) ?_
                refine vl_q (q_nilCheck rfl rfl) (dk rfl) ?_
                refine vl_q (q_fieldAddr 4 rfl rfl rfl rfl (by decide) rfl rfl) (dk rfl) ?_
                refine vl_load rfl rfl rfl (set_get hac) rfl rfl rfl (by decide) (dk rfl) ?_
                refine vl_callP (c_Contains_bool (l3[a].hav.set (byteAt t 1) true) false) rfl rfl ⟨XOk.snapH rfl (by simp) (by simp) (map_wid fun _ => rfl) (boolsC_shr _), XOk.val _, trivial⟩ rfl (.inl rfl) (dk rfl) ?_
                refine vl_bool 137 rfl (fun h137 => ?_) (fun h137 => ?_)
                · have hnf : (putPart l3[a] (byteAt t 1) (part t)).hav.all id = false := by rw [hy]; exact mem_all h137
                  refine vl_nil ?_
                  refine hK31 _ ?_
                  refine vc_cond_true rfl ?_
                  refine vc_seq fun K32 hK32 => ?_
                  refine vc_weak (Weak.close1 (nm := 20) (i := a) (j := 4) (m := 21) (es := (l3[a].hav.set (byteAt t 1) true).map boolC) rfl (set_get hac) rfl rfl (by simp) (by decide)) ?_
                  try simp only [List.set_set, List.length_map, Int.toNat_natCast, Nat.add_zero]
                  refine vc_weak (Weak.close1 (nm := 20) (i := a) (j := 3) (m := 22) (es := (l3[a].parts.set (byteAt t 1) (part t)).map strC) rfl (set_get hac) rfl rfl (by simp) (by decide)) ?_
                  try simp only [List.set_set, List.length_map, Int.toNat_natCast, Nat.add_zero]
                  refine vc_weak (Weak.node (m := 20) (nd' := ⟨6, clo ((l3.set a (putPart l3[a] (byteAt t 1) (part t))).map heldO)⟩) rfl (congrArg (Vm.Node.mk 6) (by rw [hy, ← clo_set]; rfl))) ?_
                  refine vc_region ?_
                  refine vl_load rfl rfl rfl rfl rfl rfl rfl (by decide) (dk rfl) ?_
                  refine vl_store rfl rfl rfl rfl rfl rfl (Nat.le_of_ble_eq_true rfl) trivial ?_
                  refine vl_q (q_assign rfl) (dk rfl) ?_
                  refine vl_q (q_assign rfl) (dk rfl) ?_
                  refine vl_nil ?_
                  refine hK32 _ ?_
                  refine vc_ret ?_
                  have e : addP l fr t now = (l3.set a (putPart l3[a] (byteAt t 1) (part t)), ⟨#[]⟩, false) := fill_out hok h1 hfl hal hnf
                  refine ret_g [20] rfl (.cons (res_cell rfl rfl rfl rfl rfl rfl rfl (by decide)) (.cons (res_tmp rfl) (.cons (res_tmp rfl) .nil))) (by rw [e]; first | rfl | (simp only [List.length_set]; rfl) | (simp only [List.length_eraseIdx, if_pos hal, hy]; rfl)) rfl (nodupB_ok rfl) ⟨by decide, trivial⟩ ⟨⟨⟨6, clo ((addP l fr t now).1.map heldO)⟩, some_node (by rw [e]), NR.clo _ _ _ _⟩, trivial⟩ trivial (Nat.zero_le _)
                · have hfu : (putPart l3[a] (byteAt t 1) (part t)).hav.all id = true := by rw [hy]; exact nmem_all h137
                  refine vl_nil ?_
                  refine hK31 _ ?_
                  refine vc_cond_false rfl ?_
                  refine vc_skip ?_
                  refine hK30 _ ?_
                  refine vc_seq fun K33 hK33 => ?_
                  have hsz := fill_sz hsg hfl hal hrp (by omega)
                  rw [hy] at hsz
                  try simp only at hsz
                  refine vc_region ?_
                  refine vl_q (q_move rfl) (dk rfl) ?_
                  refine vl_q (q_nilCheck rfl rfl) (dk rfl) ?_
                  refine vl_q (q_fieldAddr 3 rfl rfl rfl rfl (by decide) rfl rfl) (dk rfl) ?_
                  refine vl_load rfl rfl rfl (set_get hac) rfl rfl rfl (by decide) (dk rfl) ?_
                  refine vl_callP (c_Join (l3[a].parts.set (byteAt t 1) (part t)) (by first | omega | (rw [List.length_set]; omega)) (by omega)) rfl rfl ⟨XOk.snapH rfl (by simp) (by simp) (map_wid fun _ => rfl) (strsC_shr _), XOk.val _, trivial⟩ rfl (.inl rfl) (dk rfl) ?_
                  refine vl_q (q_assign rfl) (dk rfl) ?_
                  refine vl_nil ?_
                  refine hK33 _ ?_
                  refine vc_seq fun K34 hK34 => ?_
                  refine vc_weak (Weak.close1 (nm := 20) (i := a) (j := 4) (m := 21) (es := (l3[a].hav.set (byteAt t 1) true).map boolC) rfl (set_get hac) rfl rfl (by simp) (by decide)) ?_
                  try simp only [List.set_set, List.length_map, Int.toNat_natCast, Nat.add_zero]
                  refine vc_weak (Weak.close1 (nm := 20) (i := a) (j := 3) (m := 22) (es := (l3[a].parts.set (byteAt t 1) (part t)).map strC) rfl (set_get hac) rfl rfl (by simp) (by decide)) ?_
                  try simp only [List.set_set, List.length_map, Int.toNat_natCast, Nat.add_zero]
                  refine vc_weak (Weak.node (m := 20) (nd' := ⟨6, clo ((l3.set a (putPart l3[a] (byteAt t 1) (part t))).map heldO)⟩) rfl (congrArg (Vm.Node.mk 6) (by rw [hy, ← clo_set]; rfl))) ?_
                  refine vc_region ?_
                  refine vl_q (q_fieldAddr 0 rfl rfl rfl rfl (by decide) rfl rfl) (dk rfl) ?_
                  refine vl_load rfl rfl rfl rfl rfl rfl rfl (by decide) (dk rfl) ?_
                  refine vl_q (q_move rfl) (dk rfl) ?_
                  refine vl_q (q_move rfl) (dk rfl) ?_
                  refine vl_q (q_add rfl rfl (IntWalk.i64_in _ (by omega))) (dk rfl) ?_
                  refine vl_weak (Weak.lit (d := 148) (y := vv (.int .i64 ((a + 1 : Nat) : Int))) rfl rfl) ?_
                  have hcd := c_Delete (l3.set a (putPart l3[a] (byteAt t 1) (part t))) a (by rw [List.length_set]; exact hal) (by rw [List.length_set]; omega)
                  rw [List.length_set, List.eraseIdx_set_eq] at hcd
                  refine vl_callG [20] (.v (.one (.hdr 23 0 (l3.length - 1)))) hcd rfl rfl ⟨XOk.hdr rfl (by decide) _ _, XOk.val _, XOk.val _, trivial⟩ ⟨⟨_, rfl, NR.clo _ _ _ _⟩, trivial⟩ rfl (by decide) ⟨fix_clo _ _, trivial⟩ trivial rfl (.inl rfl) (dk rfl) ?_
                  refine vl_q (q_fieldAddr 0 rfl rfl rfl rfl (by decide) rfl rfl) (dk rfl) ?_
                  refine vl_store rfl rfl rfl rfl rfl rfl (Nat.le_of_ble_eq_true rfl) trivial ?_
                  refine vl_nil ?_
                  refine hK34 _ ?_
                  refine vc_seq fun K35 hK35 => ?_
                  refine vc_region ?_
                  refine vl_load rfl rfl rfl rfl rfl rfl rfl (by decide) (dk rfl) ?_
                  refine vl_q (q_move rfl) (dk rfl) ?_
                  refine vl_store rfl rfl rfl rfl rfl rfl (Nat.le_of_ble_eq_true rfl) trivial ?_
                  refine vl_q (q_assign rfl) (dk rfl) ?_
                  refine vl_q (q_assign rfl) (dk rfl) ?_
                  refine vl_nil ?_
                  refine hK35 _ ?_
                  refine vc_ret ?_
                  have e : addP l fr t now = (l3.eraseIdx a, catS (putPart l3[a] (byteAt t 1) (part t)).parts, true) := fill_full hok hrp h1 hfl hal hfu
                  refine ret_g [23] rfl (.cons (res_cell rfl rfl rfl rfl rfl rfl rfl (by decide)) (.cons (res_tmp rfl) (.cons (res_tmp rfl) .nil))) (by rw [e]; first | rfl | (simp only [List.length_set]; rfl) | (simp only [List.length_eraseIdx, if_pos hal, hy]; rfl)) rfl (nodupB_ok rfl) ⟨by decide, trivial⟩ ⟨⟨⟨6, clo ((addP l fr t now).1.map heldO)⟩, some_node (by rw [e]), NR.clo _ _ _ _⟩, trivial⟩ trivial (Nat.zero_le _)
          · refine vl_guard_on rfl rfl rfl ?_
            refine vl_q (q_not rfl) (dk rfl) ?_
            refine vl_q (q_pick_false rfl rfl) (dk rfl) ?_
            refine vl_nil ?_
            refine hK5 _ ?_
            refine vc_cond_true rfl ?_
            refine vc_seq fun K36 hK36 => ?_
            refine vc_region ?_
            refine vl_load rfl rfl rfl rfl rfl rfl rfl (by decide) (dk rfl) ?_
            refine vl_store rfl rfl rfl rfl rfl rfl (Nat.le_of_ble_eq_true rfl) trivial ?_
            refine vl_q (q_assign rfl) (dk rfl) ?_
            refine vl_q (q_assign rfl) (dk rfl) ?_
            refine vl_nil ?_
            refine hK36 _ ?_
            refine vc_ret ?_
            have e : addP l fr t now = (l, ⟨#[]⟩, false) := addP_bad (addOk_f (by first | exact .inl ‹_› | exact .inr (.inl ‹_›) | exact .inr (.inr (.inl ‹_›)) | exact .inr (.inr (.inr (.inl (by omega)))) | exact .inr (.inr (.inr (.inr ‹_›)))))
            refine ret_g [18] rfl (.cons (res_cell rfl rfl rfl rfl rfl rfl rfl (by decide)) (.cons (res_tmp rfl) (.cons (res_tmp rfl) .nil))) (by rw [e]; first | rfl | (simp only [List.length_set]; rfl) | (simp only [List.length_eraseIdx, if_pos hal, hy]; rfl)) rfl (nodupB_ok rfl) ⟨by decide, trivial⟩ ⟨⟨⟨6, clo ((addP l fr t now).1.map heldO)⟩, some_node (by rw [e]), NR.clo _ _ _ _⟩, trivial⟩ trivial (Nat.zero_le _)
      · refine vl_guard_on rfl rfl rfl ?_
        refine vl_q (q_not rfl) (dk rfl) ?_
        refine vl_q (q_pick_false rfl rfl) (dk rfl) ?_
        refine vl_q (q_move rfl) (dk rfl) ?_
        refine vl_goff rfl rfl rfl (by decide) (dk rfl) ?_
        refine vl_goff rfl rfl rfl (by decide) (dk rfl) ?_
        refine vl_q (q_pick_true rfl rfl) (dk rfl) ?_
        refine vl_q (q_move rfl) (dk rfl) ?_
        refine vl_goff rfl rfl rfl (by decide) (dk rfl) ?_
        refine vl_goff rfl rfl rfl (by decide) (dk rfl) ?_
        refine vl_goff rfl rfl rfl (by decide) (dk rfl) ?_
        refine vl_q (q_pick_true rfl rfl) (dk rfl) ?_
        refine vl_q (q_move rfl) (dk rfl) ?_
        refine vl_goff rfl rfl rfl (by decide) (dk rfl) ?_
        refine vl_goff rfl rfl rfl (by decide) (dk rfl) ?_
        refine vl_goff rfl rfl rfl (by decide) (dk rfl) ?_
        refine vl_q (q_pick_true rfl rfl) (dk rfl) ?_
        refine vl_nil ?_
        refine hK5 _ ?_
        refine vc_cond_true rfl ?_
        refine vc_seq fun K37 hK37 => ?_
        refine vc_region ?_
        refine vl_load rfl rfl rfl rfl rfl rfl rfl (by decide) (dk rfl) ?_
        refine vl_store rfl rfl rfl rfl rfl rfl (Nat.le_of_ble_eq_true rfl) trivial ?_
        refine vl_q (q_assign rfl) (dk rfl) ?_
        refine vl_q (q_assign rfl) (dk rfl) ?_
        refine vl_nil ?_
        refine hK37 _ ?_
        refine vc_ret ?_
        have e : addP l fr t now = (l, ⟨#[]⟩, false) := addP_bad (addOk_f (by first | exact .inl ‹_› | exact .inr (.inl ‹_›) | exact .inr (.inr (.inl ‹_›)) | exact .inr (.inr (.inr (.inl (by omega)))) | exact .inr (.inr (.inr (.inr ‹_›)))))
        refine ret_g [18] rfl (.cons (res_cell rfl rfl rfl rfl rfl rfl rfl (by decide)) (.cons (res_tmp rfl) (.cons (res_tmp rfl) .nil))) (by rw [e]; first | rfl | (simp only [List.length_set]; rfl) | (simp only [List.length_eraseIdx, if_pos hal, hy]; rfl)) rfl (nodupB_ok rfl) ⟨by decide, trivial⟩ ⟨⟨⟨6, clo ((addP l fr t now).1.map heldO)⟩, some_node (by rw [e]), NR.clo _ _ _ _⟩, trivial⟩ trivial (Nat.zero_le _)
    · refine vl_q (q_not rfl) (dk rfl) ?_
      refine vl_q (q_move rfl) (dk rfl) ?_
      refine vl_goff rfl rfl rfl (by decide) (dk rfl) ?_
      refine vl_goff rfl rfl rfl (by decide) (dk rfl) ?_
      refine vl_goff rfl rfl rfl (by decide) (dk rfl) ?_
      refine vl_q (q_pick_true rfl rfl) (dk rfl) ?_
      refine vl_q (q_move rfl) (dk rfl) ?_
      refine vl_goff rfl rfl rfl (by decide) (dk rfl) ?_
      refine vl_goff rfl rfl rfl (by decide) (dk rfl) ?_
      refine vl_q (q_pick_true rfl rfl) (dk rfl) ?_
      refine vl_q (q_move rfl) (dk rfl) ?_
      refine vl_goff rfl rfl rfl (by decide) (dk rfl) ?_
      refine vl_goff rfl rfl rfl (by decide) (dk rfl) ?_
      refine vl_goff rfl rfl rfl (by decide) (dk rfl) ?_
      refine vl_q (q_pick_true rfl rfl) (dk rfl) ?_
      refine vl_q (q_move rfl) (dk rfl) ?_
      refine vl_goff rfl rfl rfl (by decide) (dk rfl) ?_
      refine vl_goff rfl rfl rfl (by decide) (dk rfl) ?_
      refine vl_goff rfl rfl rfl (by decide) (dk rfl) ?_
      refine vl_q (q_pick_true rfl rfl) (dk rfl) ?_
      refine vl_nil ?_
      refine hK5 _ ?_
      refine vc_cond_true rfl ?_
      refine vc_seq fun K38 hK38 => ?_
      refine vc_region ?_
      refine vl_load rfl rfl rfl rfl rfl rfl rfl (by decide) (dk rfl) ?_
      refine vl_store rfl rfl rfl rfl rfl rfl (Nat.le_of_ble_eq_true rfl) trivial ?_
      refine vl_q (q_assign rfl) (dk rfl) ?_
      refine vl_q (q_assign rfl) (dk rfl) ?_
      refine vl_nil ?_
      refine hK38 _ ?_
      refine vc_ret ?_
      have e : addP l fr t now = (l, ⟨#[]⟩, false) := addP_bad (addOk_f (by first | exact .inl ‹_› | exact .inr (.inl ‹_›) | exact .inr (.inr (.inl ‹_›)) | exact .inr (.inr (.inr (.inl (by omega)))) | exact .inr (.inr (.inr (.inr ‹_›)))))
      refine ret_g [18] rfl (.cons (res_cell rfl rfl rfl rfl rfl rfl rfl (by decide)) (.cons (res_tmp rfl) (.cons (res_tmp rfl) .nil))) (by rw [e]; first | rfl | (simp only [List.length_set]; rfl) | (simp only [List.length_eraseIdx, if_pos hal, hy]; rfl)) rfl (nodupB_ok rfl) ⟨by decide, trivial⟩ ⟨⟨⟨6, clo ((addP l fr t now).1.map heldO)⟩, some_node (by rw [e]), NR.clo _ _ _ _⟩, trivial⟩ trivial (Nat.zero_le _)
  · refine vl_callP (c_ReadPart_f t hrp) rfl rfl ⟨XOk.val _, trivial⟩ rfl (.inl rfl) (dk rfl) ?_
    refine vl_q (q_move rfl) (dk rfl) ?_
    refine vl_q (q_extract rfl rfl) (dk rfl) ?_
    refine vl_q (q_extract rfl rfl) (dk rfl) ?_
    refine vl_q (q_extract rfl rfl) (dk rfl) ?_
    refine vl_q (q_extract rfl rfl) (dk rfl) ?_
    refine vl_q (q_extract rfl rfl) (dk rfl) ?_
    refine vl_q (q_assign rfl) (dk rfl) ?_
    refine vl_q (q_assign rfl) (dk rfl) ?_
    refine vl_q (q_assign rfl) (dk rfl) ?_
    refine vl_q (q_assign rfl) (dk rfl) ?_
    refine vl_q (q_assign rfl) (dk rfl) ?_
    refine vl_nil ?_
    refine hK3 _ ?_
    refine vc_seq fun K39 hK39 => ?_
    refine vc_seq fun K40 hK40 => ?_
    refine vc_region ?_
    refine vl_load rfl rfl rfl rfl rfl rfl rfl (by decide) (dk rfl) ?_
    refine vl_callP (c_impl_ShelfOk l) rfl rfl ⟨VOk.agg ⟨XOk.shc _ _, trivial⟩, trivial⟩ rfl (.inl rfl) (dk rfl) ?_
    refine vl_bool 31 rfl (fun h31 => ?_) (fun h31 => ?_)
    · have hsg : ShelfGood l := of_decide_eq_true h31
      have hlen3 := hsg.len
      refine vl_q (q_not rfl) (dk rfl) ?_
      refine vl_q (q_move rfl) (dk rfl) ?_
      refine vl_guard_on rfl rfl rfl ?_
      refine vl_q (q_move rfl) (dk rfl) ?_
      refine vl_guard_on rfl rfl rfl ?_
      refine vl_callP (c_impl_isId _) rfl rfl ⟨XOk.val _, trivial⟩ rfl (.inl rfl) (dk rfl) ?_
      refine vl_bool 35 rfl (fun h35 => ?_) (fun h35 => ?_)
      · refine vl_guard_on rfl rfl rfl ?_
        refine vl_q (q_not rfl) (dk rfl) ?_
        refine vl_q (q_pick_false rfl rfl) (dk rfl) ?_
        refine vl_q (q_move rfl) (dk rfl) ?_
        refine vl_guard_on rfl rfl rfl ?_
        refine vl_q (q_move rfl) (dk rfl) ?_
        refine vl_guard_on rfl rfl rfl ?_
        refine vl_q (q_not rfl) (dk rfl) ?_
        refine vl_q (q_pick_false rfl rfl) (dk rfl) ?_
        refine vl_q (q_move rfl) (dk rfl) ?_
        refine vl_goff rfl rfl rfl (by decide) (dk rfl) ?_
        refine vl_goff rfl rfl rfl (by decide) (dk rfl) ?_
        refine vl_goff rfl rfl rfl (by decide) (dk rfl) ?_
        refine vl_q (q_pick_true rfl rfl) (dk rfl) ?_
        refine vl_q (q_move rfl) (dk rfl) ?_
        refine vl_goff rfl rfl rfl (by decide) (dk rfl) ?_
        refine vl_goff rfl rfl rfl (by decide) (dk rfl) ?_
        refine vl_goff rfl rfl rfl (by decide) (dk rfl) ?_
        refine vl_q (q_pick_true rfl rfl) (dk rfl) ?_
        refine vl_nil ?_
        refine hK40 _ ?_
        refine vc_cond_true rfl ?_
        refine vc_seq fun K41 hK41 => ?_
        refine vc_region ?_
        refine vl_load rfl rfl rfl rfl rfl rfl rfl (by decide) (dk rfl) ?_
        refine vl_store rfl rfl rfl rfl rfl rfl (Nat.le_of_ble_eq_true rfl) trivial ?_
        refine vl_q (q_assign rfl) (dk rfl) ?_
        refine vl_q (q_assign rfl) (dk rfl) ?_
        refine vl_nil ?_
        refine hK41 _ ?_
        refine vc_ret ?_
        have e : addP l fr t now = (l, ⟨#[]⟩, false) := addP_bad (addOk_f (by first | exact .inl ‹_› | exact .inr (.inl ‹_›) | exact .inr (.inr (.inl ‹_›)) | exact .inr (.inr (.inr (.inl (by omega)))) | exact .inr (.inr (.inr (.inr ‹_›)))))
        refine ret_g [18] rfl (.cons (res_cell rfl rfl rfl rfl rfl rfl rfl (by decide)) (.cons (res_tmp rfl) (.cons (res_tmp rfl) .nil))) (by rw [e]; first | rfl | (simp only [List.length_set]; rfl) | (simp only [List.length_eraseIdx, if_pos hal, hy]; rfl)) rfl (nodupB_ok rfl) ⟨by decide, trivial⟩ ⟨⟨⟨6, clo ((addP l fr t now).1.map heldO)⟩, some_node (by rw [e]), NR.clo _ _ _ _⟩, trivial⟩ trivial (Nat.zero_le _)
      · refine vl_guard_on rfl rfl rfl ?_
        refine vl_q (q_not rfl) (dk rfl) ?_
        refine vl_q (q_pick_false rfl rfl) (dk rfl) ?_
        refine vl_q (q_move rfl) (dk rfl) ?_
        refine vl_goff rfl rfl rfl (by decide) (dk rfl) ?_
        refine vl_goff rfl rfl rfl (by decide) (dk rfl) ?_
        refine vl_q (q_pick_true rfl rfl) (dk rfl) ?_
        refine vl_q (q_move rfl) (dk rfl) ?_
        refine vl_goff rfl rfl rfl (by decide) (dk rfl) ?_
        refine vl_goff rfl rfl rfl (by decide) (dk rfl) ?_
        refine vl_goff rfl rfl rfl (by decide) (dk rfl) ?_
        refine vl_q (q_pick_true rfl rfl) (dk rfl) ?_
        refine vl_q (q_move rfl) (dk rfl) ?_
        refine vl_goff rfl rfl rfl (by decide) (dk rfl) ?_
        refine vl_goff rfl rfl rfl (by decide) (dk rfl) ?_
        refine vl_goff rfl rfl rfl (by decide) (dk rfl) ?_
        refine vl_q (q_pick_true rfl rfl) (dk rfl) ?_
        refine vl_nil ?_
        refine hK40 _ ?_
        refine vc_cond_true rfl ?_
        refine vc_seq fun K42 hK42 => ?_
        refine vc_region ?_
        refine vl_load rfl rfl rfl rfl rfl rfl rfl (by decide) (dk rfl) ?_
        refine vl_store rfl rfl rfl rfl rfl rfl (Nat.le_of_ble_eq_true rfl) trivial ?_
        refine vl_q (q_assign rfl) (dk rfl) ?_
        refine vl_q (q_assign rfl) (dk rfl) ?_
        refine vl_nil ?_
        refine hK42 _ ?_
        refine vc_ret ?_
        have e : addP l fr t now = (l, ⟨#[]⟩, false) := addP_bad (addOk_f (by first | exact .inl ‹_› | exact .inr (.inl ‹_›) | exact .inr (.inr (.inl ‹_›)) | exact .inr (.inr (.inr (.inl (by omega)))) | exact .inr (.inr (.inr (.inr ‹_›)))))
        refine ret_g [18] rfl (.cons (res_cell rfl rfl rfl rfl rfl rfl rfl (by decide)) (.cons (res_tmp rfl) (.cons (res_tmp rfl) .nil))) (by rw [e]; first | rfl | (simp only [List.length_set]; rfl) | (simp only [List.length_eraseIdx, if_pos hal, hy]; rfl)) rfl (nodupB_ok rfl) ⟨by decide, trivial⟩ ⟨⟨⟨6, clo ((addP l fr t now).1.map heldO)⟩, some_node (by rw [e]), NR.clo _ _ _ _⟩, trivial⟩ trivial (Nat.zero_le _)
    · refine vl_q (q_not rfl) (dk rfl) ?_
      refine vl_q (q_move rfl) (dk rfl) ?_
      refine vl_goff rfl rfl rfl (by decide) (dk rfl) ?_
      refine vl_goff rfl rfl rfl (by decide) (dk rfl) ?_
      refine vl_goff rfl rfl rfl (by decide) (dk rfl) ?_
      refine vl_q (q_pick_true rfl rfl) (dk rfl) ?_
      refine vl_q (q_move rfl) (dk rfl) ?_
      refine vl_goff rfl rfl rfl (by decide) (dk rfl) ?_
      refine vl_goff rfl rfl rfl (by decide) (dk rfl) ?_
      refine vl_q (q_pick_true rfl rfl) (dk rfl) ?_
      refine vl_q (q_move rfl) (dk rfl) ?_
      refine vl_goff rfl rfl rfl (by decide) (dk rfl) ?_
      refine vl_goff rfl rfl rfl (by decide) (dk rfl) ?_
      refine vl_goff rfl rfl rfl (by decide) (dk rfl) ?_
      refine vl_q (q_pick_true rfl rfl) (dk rfl) ?_
      refine vl_q (q_move rfl) (dk rfl) ?_
      refine vl_goff rfl rfl rfl (by decide) (dk rfl) ?_
      refine vl_goff rfl rfl rfl (by decide) (dk rfl) ?_
      refine vl_goff rfl rfl rfl (by decide) (dk rfl) ?_
      refine vl_q (q_pick_true rfl rfl) (dk rfl) ?_
      refine vl_nil ?_
      refine hK40 _ ?_
      refine vc_cond_true rfl ?_
      refine vc_seq fun K43 hK43 => ?_
      refine vc_region ?_
      refine vl_load rfl rfl rfl rfl rfl rfl rfl (by decide) (dk rfl) ?_
      refine vl_store rfl rfl rfl rfl rfl rfl (Nat.le_of_ble_eq_true rfl) trivial ?_
      refine vl_q (q_assign rfl) (dk rfl) ?_
      refine vl_q (q_assign rfl) (dk rfl) ?_
      refine vl_nil ?_
      refine hK43 _ ?_
      refine vc_ret ?_
      have e : addP l fr t now = (l, ⟨#[]⟩, false) := addP_bad (addOk_f (by first | exact .inl ‹_› | exact .inr (.inl ‹_›) | exact .inr (.inr (.inl ‹_›)) | exact .inr (.inr (.inr (.inl (by omega)))) | exact .inr (.inr (.inr (.inr ‹_›)))))
      refine ret_g [18] rfl (.cons (res_cell rfl rfl rfl rfl rfl rfl rfl (by decide)) (.cons (res_tmp rfl) (.cons (res_tmp rfl) .nil))) (by rw [e]; first | rfl | (simp only [List.length_set]; rfl) | (simp only [List.length_eraseIdx, if_pos hal, hy]; rfl)) rfl (nodupB_ok rfl) ⟨by decide, trivial⟩ ⟨⟨⟨6, clo ((addP l fr t now).1.map heldO)⟩, some_node (by rw [e]), NR.clo _ _ _ _⟩, trivial⟩ trivial (Nat.zero_le _)
end Go.Vm.S
namespace Go.Vm.S
open Go Go.Vm
set_option maxRecDepth 100000
set_option linter.unusedVariables false
set_option maxHeartbeats 4000000
theorem at69 : FnAt Pg 69 Go.Proofs.Try.f69 := ⟨by kernel_rfl, rfl, by decide⟩
theorem c_spec_l20Held (x : Held) :
    Ctr Pg ty 69 [.agg ((heldC x).map X.c)] [] (Gives (vv (.bool (heldB x))) [] []) := by
  refine ctr at69 rfl (nsK_gives rfl trivial trivial) (Nat.le_of_ble_eq_true rfl) fun w0 S0 L0 Z => ?_
  refine vc_seq fun K1 hK1 => ?_
  refine vc_region ?_
  refine vl_box rfl (dk rfl) ?_
  refine vl_q (q_assign rfl) (dk rfl) ?_
  refine vl_nil ?_
  refine hK1 _ ?_
  refine vc_seq fun K2 hK2 => ?_
  refine vc_seq fun K3 hK3 => ?_
  refine vc_region ?_
  refine vl_q (q_fieldAddr 0 rfl rfl rfl rfl (by decide) rfl rfl) (dk rfl) ?_
  refine vl_load rfl rfl rfl rfl rfl rfl rfl (by decide) (dk rfl) ?_
  refine vl_callP (c_spec_l01In _ _ _) rfl rfl ⟨XOk.val _, XOk.val _, XOk.val _, trivial⟩ rfl (.inl rfl) (dk rfl) ?_
  refine vl_bool 7 rfl (fun h7 => ?_) (fun h7 => ?_)
  · refine vl_q (q_not rfl) (dk rfl) ?_
    refine vl_q (q_move rfl) (dk rfl) ?_
    refine vl_guard_on rfl rfl rfl ?_
    refine vl_q (q_fieldAddr 1 rfl rfl rfl rfl (by decide) rfl rfl) (dk rfl) ?_
    refine vl_guard_on rfl rfl rfl ?_
    refine vl_load rfl rfl rfl rfl rfl rfl rfl (by decide) (dk rfl) ?_
    refine vl_guard_on rfl rfl rfl ?_
    refine vl_callP (c_spec_l01In _ _ _) rfl rfl ⟨XOk.val _, XOk.val _, XOk.val _, trivial⟩ rfl (.inl rfl) (dk rfl) ?_
    refine vl_bool 12 rfl (fun h12 => ?_) (fun h12 => ?_)
    · refine vl_guard_on rfl rfl rfl ?_
      refine vl_q (q_not rfl) (dk rfl) ?_
      refine vl_q (q_pick_false rfl rfl) (dk rfl) ?_
      refine vl_q (q_move rfl) (dk rfl) ?_
      refine vl_guard_on rfl rfl rfl ?_
      refine vl_q (q_fieldAddr 2 rfl rfl rfl rfl (by decide) rfl rfl) (dk rfl) ?_
      refine vl_guard_on rfl rfl rfl ?_
      refine vl_load rfl rfl rfl rfl rfl rfl rfl (by decide) (dk rfl) ?_
      refine vl_guard_on rfl rfl rfl ?_
      refine vl_callP (c_spec_l01In _ _ _) rfl rfl ⟨XOk.val _, XOk.val _, XOk.val _, trivial⟩ rfl (.inl rfl) (dk rfl) ?_
      refine vl_bool 18 rfl (fun h18 => ?_) (fun h18 => ?_)
      · refine vl_guard_on rfl rfl rfl ?_
        refine vl_q (q_not rfl) (dk rfl) ?_
        refine vl_q (q_pick_false rfl rfl) (dk rfl) ?_
        refine vl_q (q_move rfl) (dk rfl) ?_
        refine vl_guard_on rfl rfl rfl ?_
        refine vl_q (q_fieldAddr 3 rfl rfl rfl rfl (by decide) rfl rfl) (dk rfl) ?_
        refine vl_guard_on rfl rfl rfl ?_
        refine vl_load rfl rfl rfl rfl rfl rfl rfl (by decide) (dk rfl) ?_
        refine vl_guard_on rfl rfl rfl ?_
        refine vl_q (q_len_sh rfl rfl rfl) (dk rfl) ?_
        refine vl_guard_on rfl rfl rfl ?_
        refine vl_q (q_fieldAddr 2 rfl rfl rfl rfl (by decide) rfl rfl) (dk rfl) ?_
        refine vl_guard_on rfl rfl rfl ?_
        refine vl_load rfl rfl rfl rfl rfl rfl rfl (by decide) (dk rfl) ?_
        refine vl_guard_on rfl rfl rfl ?_
        refine vl_two (x := fun b => vv (.bool b)) _ (q_cmp rfl rfl rfl rfl) (dk rfl) (fun h27 => ?_) (fun h27 => ?_)
        · replace h27 := neq_of h27
          refine vl_q (q_pick_false rfl rfl) (dk rfl) ?_
          refine vl_q (q_move rfl) (dk rfl) ?_
          refine vl_goff rfl rfl rfl (by decide) (dk rfl) ?_
          refine vl_goff rfl rfl rfl (by decide) (dk rfl) ?_
          refine vl_goff rfl rfl rfl (by decide) (dk rfl) ?_
          refine vl_goff rfl rfl rfl (by decide) (dk rfl) ?_
          refine vl_goff rfl rfl rfl (by decide) (dk rfl) ?_
          refine vl_goff rfl rfl rfl (by decide) (dk rfl) ?_
          refine vl_q (q_pick_true rfl rfl) (dk rfl) ?_
          refine vl_q (q_move rfl) (dk rfl) ?_
          refine vl_goff rfl rfl rfl (by decide) (dk rfl) ?_
          refine vl_goff rfl rfl rfl (by decide) (dk rfl) ?_
          refine vl_goff rfl rfl rfl (by decide) (dk rfl) ?_
          refine vl_goff rfl rfl rfl (by decide) (dk rfl) ?_
          refine vl_q (q_pick_true rfl rfl) (dk rfl) ?_
          refine vl_nil ?_
          refine hK3 _ ?_
          refine vc_cond_true rfl ?_
          refine vc_seq fun K4 hK4 => ?_
          refine vc_region ?_
          refine vl_q (q_assign rfl) (dk rfl) ?_
          refine vl_nil ?_
          refine hK4 _ ?_
          refine vc_ret ?_
          refine ret_p rfl (.cons (res_tmp rfl) .nil) rfl ?_
          try simp only [List.length_map] at *
          first
            | (rw [heldB_f (fun g => Bool.noConfusion (‹within x.fr 1 99 = false›.symm.trans g.fr))]; rfl)
            | (rw [heldB_f (fun g => Bool.noConfusion (‹within x.id 0 255 = false›.symm.trans g.id))]; rfl)
            | (rw [heldB_f (fun g => Bool.noConfusion (‹within x.cnt 2 15 = false›.symm.trans g.cnt))]; rfl)
            | (rw [heldB_f (fun g => Bool.noConfusion (‹within x.til 0 1000000000 = false›.symm.trans g.til))]; rfl)
            | (rw [heldB_f (fun g => absurd g.parts ‹(x.parts.length : Int) ≠ x.cnt›)]; rfl)
            | (rw [heldB_f (fun g => absurd g.hav ‹(x.hav.length : Int) ≠ x.cnt›)]; rfl)
            | (rw [heldB_f (not_row hxh hxp (rowOk_big (by omega)))]; rfl)
            | (rw [heldB_f (not_row hxh hxp (rowOk_junk hbf ‹_ ≠ _›))]; rfl)
            | (rw [heldB_f (fun g => by have g1 := g.have1; have g2 := g.have2; have := within_nof ‹within (haveN x.hav x.hav.length : Nat) 1 (x.cnt - 1) = false›; omega)]; rfl)
            | (rw [heldB_f (fun g => by have g1 := g.have1; have g2 := g.have2; omega)]; rfl)
            | (rw [heldB_t ⟨‹_›, ‹_›, ‹_›, by omega, by omega, hr, by have := within_of ‹within (haveN x.hav x.hav.length : Nat) 1 (x.cnt - 1) = true›; omega, by have := within_of ‹within (haveN x.hav x.hav.length : Nat) 1 (x.cnt - 1) = true›; omega, ‹_›⟩]; rfl)
            | (rw [heldB_t ⟨‹_›, ‹_›, ‹_›, by omega, by omega, hr, by omega, by omega, ‹_›⟩]; rfl)
        · replace h27 := neq_nof h27
          refine vl_q (q_pick_false rfl rfl) (dk rfl) ?_
          refine vl_q (q_move rfl) (dk rfl) ?_
          refine vl_guard_on rfl rfl rfl ?_
          refine vl_q (q_fieldAddr 4 rfl rfl rfl rfl (by decide) rfl rfl) (dk rfl) ?_
          refine vl_guard_on rfl rfl rfl ?_
          refine vl_load rfl rfl rfl rfl rfl rfl rfl (by decide) (dk rfl) ?_
          refine vl_guard_on rfl rfl rfl ?_
          refine vl_q (q_len_sh rfl rfl rfl) (dk rfl) ?_
          refine vl_guard_on rfl rfl rfl ?_
          refine vl_q (q_fieldAddr 2 rfl rfl rfl rfl (by decide) rfl rfl) (dk rfl) ?_
          refine vl_guard_on rfl rfl rfl ?_
          refine vl_load rfl rfl rfl rfl rfl rfl rfl (by decide) (dk rfl) ?_
          refine vl_guard_on rfl rfl rfl ?_
          refine vl_two (x := fun b => vv (.bool b)) _ (q_cmp rfl rfl rfl rfl) (dk rfl) (fun h35 => ?_) (fun h35 => ?_)
          · replace h35 := neq_of h35
            refine vl_q (q_pick_false rfl rfl) (dk rfl) ?_
            refine vl_q (q_move rfl) (dk rfl) ?_
            refine vl_goff rfl rfl rfl (by decide) (dk rfl) ?_
            refine vl_goff rfl rfl rfl (by decide) (dk rfl) ?_
            refine vl_goff rfl rfl rfl (by decide) (dk rfl) ?_
            refine vl_goff rfl rfl rfl (by decide) (dk rfl) ?_
            refine vl_q (q_pick_true rfl rfl) (dk rfl) ?_
            refine vl_nil ?_
            refine hK3 _ ?_
            refine vc_cond_true rfl ?_
            refine vc_seq fun K5 hK5 => ?_
            refine vc_region ?_
            refine vl_q (q_assign rfl) (dk rfl) ?_
            refine vl_nil ?_
            refine hK5 _ ?_
            refine vc_ret ?_
            refine ret_p rfl (.cons (res_tmp rfl) .nil) rfl ?_
            try simp only [List.length_map] at *
            first
              | (rw [heldB_f (fun g => Bool.noConfusion (‹within x.fr 1 99 = false›.symm.trans g.fr))]; rfl)
              | (rw [heldB_f (fun g => Bool.noConfusion (‹within x.id 0 255 = false›.symm.trans g.id))]; rfl)
              | (rw [heldB_f (fun g => Bool.noConfusion (‹within x.cnt 2 15 = false›.symm.trans g.cnt))]; rfl)
              | (rw [heldB_f (fun g => Bool.noConfusion (‹within x.til 0 1000000000 = false›.symm.trans g.til))]; rfl)
              | (rw [heldB_f (fun g => absurd g.parts ‹(x.parts.length : Int) ≠ x.cnt›)]; rfl)
              | (rw [heldB_f (fun g => absurd g.hav ‹(x.hav.length : Int) ≠ x.cnt›)]; rfl)
              | (rw [heldB_f (not_row hxh hxp (rowOk_big (by omega)))]; rfl)
              | (rw [heldB_f (not_row hxh hxp (rowOk_junk hbf ‹_ ≠ _›))]; rfl)
              | (rw [heldB_f (fun g => by have g1 := g.have1; have g2 := g.have2; have := within_nof ‹within (haveN x.hav x.hav.length : Nat) 1 (x.cnt - 1) = false›; omega)]; rfl)
              | (rw [heldB_f (fun g => by have g1 := g.have1; have g2 := g.have2; omega)]; rfl)
              | (rw [heldB_t ⟨‹_›, ‹_›, ‹_›, by omega, by omega, hr, by have := within_of ‹within (haveN x.hav x.hav.length : Nat) 1 (x.cnt - 1) = true›; omega, by have := within_of ‹within (haveN x.hav x.hav.length : Nat) 1 (x.cnt - 1) = true›; omega, ‹_›⟩]; rfl)
              | (rw [heldB_t ⟨‹_›, ‹_›, ‹_›, by omega, by omega, hr, by omega, by omega, ‹_›⟩]; rfl)
          · replace h35 := neq_nof h35
            refine vl_q (q_pick_false rfl rfl) (dk rfl) ?_
            refine vl_q (q_move rfl) (dk rfl) ?_
            refine vl_guard_on rfl rfl rfl ?_
            refine vl_q (q_fieldAddr 5 rfl rfl rfl rfl (by decide) rfl rfl) (dk rfl) ?_
            refine vl_guard_on rfl rfl rfl ?_
            refine vl_load rfl rfl rfl rfl rfl rfl rfl (by decide) (dk rfl) ?_
            refine vl_guard_on rfl rfl rfl ?_
            refine vl_callP (c_spec_l01In _ _ _) rfl rfl ⟨XOk.val _, XOk.val _, XOk.val _, trivial⟩ rfl (.inl rfl) (dk rfl) ?_
            refine vl_bool 40 rfl (fun h40 => ?_) (fun h40 => ?_)
            · refine vl_guard_on rfl rfl rfl ?_
              refine vl_q (q_not rfl) (dk rfl) ?_
              refine vl_q (q_pick_false rfl rfl) (dk rfl) ?_
              refine vl_nil ?_
              refine hK3 _ ?_
              refine vc_cond_false rfl ?_
              refine vc_skip ?_
              refine hK2 _ ?_
              refine vc_seq fun K6 hK6 => ?_
              have hw := within_of h18
              simp only [List.length_map] at h27 h35
              refine vc_region ?_
              refine vl_q (q_assign rfl) (dk rfl) ?_
              refine vl_nil ?_
              refine hK6 _ ?_
              refine vc_seq fun K7 hK7 => ?_
              refine vc_seq fun K8 hK8 => ?_
              refine vc_region ?_
              refine vl_q (q_assign rfl) (dk rfl) ?_
              refine vl_nil ?_
              refine hK8 _ ?_
              refine vc_block ?_
              refine vc_loop (fun mz st => ∃ i : Nat, (i ≤ x.hav.length ∧ rowsOk x i) ∧ mz = x.hav.length - i ∧ st = mkSt [(1, .v (.one (.ptr 16 0 0))), (3, .v (iv (haveN x.hav i : Nat))), (4, .v (iv i))] [(16, ⟨6, [(heldC x).map X.c]⟩)] 17) ⟨_, _, ⟨0, ⟨by omega, rowsOk_zero x⟩, rfl, rfl⟩, (Weak.cut _ _ _ (Nat.le_of_ble_eq_true rfl) ⟨⟨rfl, rfl⟩, ⟨rfl, rfl⟩, ⟨rfl, rfl⟩, trivial⟩ ⟨⟨Nat.le_of_ble_eq_true rfl, rfl, belN_all rfl⟩, trivial⟩ rfl)⟩ (fun mz st hI => ?_)
              obtain ⟨i, ⟨hi, hr⟩, hmz, rfl⟩ := hI
              refine vc_seq fun K9 hK9 => ?_
              refine vc_seq fun K10 hK10 => ?_
              refine vc_region ?_
              refine vl_q (q_move rfl) (dk rfl) ?_
              refine vl_q (q_fieldAddr 2 rfl rfl rfl rfl (by decide) rfl rfl) (dk rfl) ?_
              refine vl_load rfl rfl rfl rfl rfl rfl rfl (by decide) (dk rfl) ?_
              refine vl_two (x := fun b => vv (.bool b)) _ (q_cmp rfl rfl rfl rfl) (dk rfl) (fun h46 => ?_) (fun h46 => ?_)
              · replace h46 := lss_of h46
                refine vl_nil ?_
                refine hK10 _ ?_
                refine vc_cond_true rfl ?_
                refine vc_skip ?_
                refine hK9 _ ?_
                refine vc_seq fun K11 hK11 => ?_
                refine vc_block ?_
                refine vc_seq fun K12 hK12 => ?_
                refine vc_seq fun K13 hK13 => ?_
                have hxh : i < x.hav.length := by omega
                have hxp : i < x.parts.length := by omega
                refine vc_region ?_
                refine vl_q (q_fieldAddr 4 rfl rfl rfl rfl (by decide) rfl rfl) (dk rfl) ?_
                refine vl_load rfl rfl rfl rfl rfl rfl rfl (by decide) (dk rfl) ?_
                refine vl_q (q_move rfl) (dk rfl) ?_
                refine vl_q (q_indexAddr_sh rfl rfl rfl rfl rfl rfl (by decide) (by omega) (get_map (i := i) hxh)) (dk rfl) ?_
                refine vl_load_sp rfl rfl rfl rfl (by decide) (dk rfl) ?_
                refine vl_bool 53 rfl (fun h53 => ?_) (fun h53 => ?_)
                · have hbt : x.hav[i] = true := h53
                  have hbb := hbt
                  have hn := haveN_t hxh hbt
                  refine vl_nil ?_
                  refine hK13 _ ?_
                  refine vc_cond_true rfl ?_
                  have hlh := haveN_le x.hav i
                  refine vc_region ?_
                  refine vl_q (q_move rfl) (dk rfl) ?_
                  refine vl_q (q_add rfl rfl (IntWalk.i64_in _ (by omega))) (dk rfl) ?_
                  refine vl_q (q_assign rfl) (dk rfl) ?_
                  refine vl_nil ?_
                  refine hK12 _ ?_
                  refine vc_seq fun K14 hK14 => ?_
                  refine vc_region ?_
                  refine vl_q (q_fieldAddr 4 rfl rfl rfl rfl (by decide) rfl rfl) (dk rfl) ?_
                  refine vl_load rfl rfl rfl rfl rfl rfl rfl (by decide) (dk rfl) ?_
                  refine vl_q (q_move rfl) (dk rfl) ?_
                  refine vl_q (q_indexAddr_sh rfl rfl rfl rfl rfl rfl (by decide) (by omega) (get_map (i := i) hxh)) (dk rfl) ?_
                  refine vl_load_sp rfl rfl rfl rfl (by decide) (dk rfl) ?_
                  refine vl_weak (Weak.lit (d := 60) (y := vv (.bool true)) rfl (by rw [← hbb]; rfl)) ?_
                  refine vl_q (q_not rfl) (dk rfl) ?_
                  refine vl_q (q_move rfl) (dk rfl) ?_
                  refine vl_goff rfl rfl rfl (by decide) (dk rfl) ?_
                  refine vl_goff rfl rfl rfl (by decide) (dk rfl) ?_
                  refine vl_goff rfl rfl rfl (by decide) (dk rfl) ?_
                  refine vl_goff rfl rfl rfl (by decide) (dk rfl) ?_
                  refine vl_goff rfl rfl rfl (by decide) (dk rfl) ?_
                  refine vl_goff rfl rfl rfl (by decide) (dk rfl) ?_
                  refine vl_q (q_pick_false rfl rfl) (dk rfl) ?_
                  refine vl_q (q_move rfl) (dk rfl) ?_
                  refine vl_guard_on rfl rfl rfl ?_
                  refine vl_q (q_fieldAddr 3 rfl rfl rfl rfl (by decide) rfl rfl) (dk rfl) ?_
                  refine vl_guard_on rfl rfl rfl ?_
                  refine vl_load rfl rfl rfl rfl rfl rfl rfl (by decide) (dk rfl) ?_
                  refine vl_guard_on rfl rfl rfl ?_
                  refine vl_q (q_move rfl) (dk rfl) ?_
                  refine vl_guard_on rfl rfl rfl ?_
                  refine vl_q (q_indexAddr_sh rfl rfl rfl rfl rfl rfl (by decide) (by omega) (get_map (i := i) hxp)) (dk rfl) ?_
                  refine vl_guard_on rfl rfl rfl ?_
                  refine vl_load_sp rfl rfl rfl rfl (by decide) (dk rfl) ?_
                  refine vl_guard_on rfl rfl rfl ?_
                  refine vl_q (q_len_str rfl rfl rfl) (dk rfl) ?_
                  refine vl_guard_on rfl rfl rfl ?_
                  refine vl_two (x := fun b => vv (.bool b)) _ (q_cmp rfl rfl rfl rfl) (dk rfl) (fun h77 => ?_) (fun h77 => ?_)
                  · replace h77 := gtr_of h77
                    refine vl_q (q_pick_false rfl rfl) (dk rfl) ?_
                    refine vl_nil ?_
                    refine hK14 _ ?_
                    refine vc_cond_true rfl ?_
                    refine vc_seq fun K15 hK15 => ?_
                    refine vc_region ?_
                    refine vl_q (q_assign rfl) (dk rfl) ?_
                    refine vl_nil ?_
                    refine hK15 _ ?_
                    refine vc_ret ?_
                    refine ret_p rfl (.cons (res_tmp rfl) .nil) rfl ?_
                    try simp only [List.length_map] at *
                    first
                      | (rw [heldB_f (fun g => Bool.noConfusion (‹within x.fr 1 99 = false›.symm.trans g.fr))]; rfl)
                      | (rw [heldB_f (fun g => Bool.noConfusion (‹within x.id 0 255 = false›.symm.trans g.id))]; rfl)
                      | (rw [heldB_f (fun g => Bool.noConfusion (‹within x.cnt 2 15 = false›.symm.trans g.cnt))]; rfl)
                      | (rw [heldB_f (fun g => Bool.noConfusion (‹within x.til 0 1000000000 = false›.symm.trans g.til))]; rfl)
                      | (rw [heldB_f (fun g => absurd g.parts ‹(x.parts.length : Int) ≠ x.cnt›)]; rfl)
                      | (rw [heldB_f (fun g => absurd g.hav ‹(x.hav.length : Int) ≠ x.cnt›)]; rfl)
                      | (rw [heldB_f (not_row hxh hxp (rowOk_big (by omega)))]; rfl)
                      | (rw [heldB_f (not_row hxh hxp (rowOk_junk hbf ‹_ ≠ _›))]; rfl)
                      | (rw [heldB_f (fun g => by have g1 := g.have1; have g2 := g.have2; have := within_nof ‹within (haveN x.hav x.hav.length : Nat) 1 (x.cnt - 1) = false›; omega)]; rfl)
                      | (rw [heldB_f (fun g => by have g1 := g.have1; have g2 := g.have2; omega)]; rfl)
                      | (rw [heldB_t ⟨‹_›, ‹_›, ‹_›, by omega, by omega, hr, by have := within_of ‹within (haveN x.hav x.hav.length : Nat) 1 (x.cnt - 1) = true›; omega, by have := within_of ‹within (haveN x.hav x.hav.length : Nat) 1 (x.cnt - 1) = true›; omega, ‹_›⟩]; rfl)
                      | (rw [heldB_t ⟨‹_›, ‹_›, ‹_›, by omega, by omega, hr, by omega, by omega, ‹_›⟩]; rfl)
                  · replace h77 := gtr_nof h77
                    refine vl_q (q_pick_false rfl rfl) (dk rfl) ?_
                    refine vl_nil ?_
                    refine hK14 _ ?_
                    refine vc_cond_false rfl ?_
                    refine vc_skip ?_
                    refine hK11 _ ?_
                    refine vc_region ?_
                    refine vl_q (q_move rfl) (dk rfl) ?_
                    refine vl_q (q_add rfl rfl (IntWalk.i64_in _ (by omega))) (dk rfl) ?_
                    refine vl_q (q_assign rfl) (dk rfl) ?_
                    refine vl_nil ?_
                    refine ⟨_, _, ?_, ⟨i + 1, ⟨by omega, rowsOk_succ hr hxh hxp (rowOk_t (by omega) (by first | exact .inl hbt | exact .inr h68))⟩, rfl, rfl⟩, (Weak.cut _ _ _ (Nat.le_of_ble_eq_true rfl) ⟨⟨rfl, rfl⟩, ⟨iv_eq (by omega), rfl⟩, ⟨rfl, rfl⟩, trivial⟩ ⟨⟨Nat.le_of_ble_eq_true rfl, rfl, belN_all rfl⟩, trivial⟩ rfl)⟩
                    omega
                · have hbf : x.hav[i] = false := h53
                  have hbb := hbf
                  have hn := haveN_f hxh hbf
                  refine vl_nil ?_
                  refine hK13 _ ?_
                  refine vc_cond_false rfl ?_
                  refine vc_skip ?_
                  refine hK12 _ ?_
                  refine vc_seq fun K16 hK16 => ?_
                  refine vc_region ?_
                  refine vl_q (q_fieldAddr 4 rfl rfl rfl rfl (by decide) rfl rfl) (dk rfl) ?_
                  refine vl_load rfl rfl rfl rfl rfl rfl rfl (by decide) (dk rfl) ?_
                  refine vl_q (q_move rfl) (dk rfl) ?_
                  refine vl_q (q_indexAddr_sh rfl rfl rfl rfl rfl rfl (by decide) (by omega) (get_map (i := i) hxh)) (dk rfl) ?_
                  refine vl_load_sp rfl rfl rfl rfl (by decide) (dk rfl) ?_
                  refine vl_weak (Weak.lit (d := 60) (y := vv (.bool false)) rfl (by rw [← hbb]; rfl)) ?_
                  refine vl_q (q_not rfl) (dk rfl) ?_
                  refine vl_q (q_move rfl) (dk rfl) ?_
                  refine vl_guard_on rfl rfl rfl ?_
                  refine vl_q (q_fieldAddr 3 rfl rfl rfl rfl (by decide) rfl rfl) (dk rfl) ?_
                  refine vl_guard_on rfl rfl rfl ?_
                  refine vl_load rfl rfl rfl rfl rfl rfl rfl (by decide) (dk rfl) ?_
                  refine vl_guard_on rfl rfl rfl ?_
                  refine vl_q (q_move rfl) (dk rfl) ?_
                  refine vl_guard_on rfl rfl rfl ?_
                  refine vl_q (q_indexAddr_sh rfl rfl rfl rfl rfl rfl (by decide) (by omega) (get_map (i := i) hxp)) (dk rfl) ?_
                  refine vl_guard_on rfl rfl rfl ?_
                  refine vl_load_sp rfl rfl rfl rfl (by decide) (dk rfl) ?_
                  refine vl_guard_on rfl rfl rfl ?_
                  refine vl_two (x := fun b => vv (.bool b)) _ (q_cmpS rfl rfl (.inr rfl) rfl) (dk rfl) (fun h68 => ?_) (fun h68 => ?_)
                  · replace h68 := neqS_of h68
                    refine vl_q (q_pick_true rfl rfl) (dk rfl) ?_
                    refine vl_q (q_move rfl) (dk rfl) ?_
                    refine vl_goff rfl rfl rfl (by decide) (dk rfl) ?_
                    refine vl_goff rfl rfl rfl (by decide) (dk rfl) ?_
                    refine vl_goff rfl rfl rfl (by decide) (dk rfl) ?_
                    refine vl_goff rfl rfl rfl (by decide) (dk rfl) ?_
                    refine vl_goff rfl rfl rfl (by decide) (dk rfl) ?_
                    refine vl_goff rfl rfl rfl (by decide) (dk rfl) ?_
                    refine vl_goff rfl rfl rfl (by decide) (dk rfl) ?_
                    refine vl_q (q_pick_true rfl rfl) (dk rfl) ?_
                    refine vl_nil ?_
                    refine hK16 _ ?_
                    refine vc_cond_true rfl ?_
                    refine vc_seq fun K17 hK17 => ?_
                    refine vc_region ?_
                    refine vl_q (q_assign rfl) (dk rfl) ?_
                    refine vl_nil ?_
                    refine hK17 _ ?_
                    refine vc_ret ?_
                    refine ret_p rfl (.cons (res_tmp rfl) .nil) rfl ?_
                    try simp only [List.length_map] at *
                    first
                      | (rw [heldB_f (fun g => Bool.noConfusion (‹within x.fr 1 99 = false›.symm.trans g.fr))]; rfl)
                      | (rw [heldB_f (fun g => Bool.noConfusion (‹within x.id 0 255 = false›.symm.trans g.id))]; rfl)
                      | (rw [heldB_f (fun g => Bool.noConfusion (‹within x.cnt 2 15 = false›.symm.trans g.cnt))]; rfl)
                      | (rw [heldB_f (fun g => Bool.noConfusion (‹within x.til 0 1000000000 = false›.symm.trans g.til))]; rfl)
                      | (rw [heldB_f (fun g => absurd g.parts ‹(x.parts.length : Int) ≠ x.cnt›)]; rfl)
                      | (rw [heldB_f (fun g => absurd g.hav ‹(x.hav.length : Int) ≠ x.cnt›)]; rfl)
                      | (rw [heldB_f (not_row hxh hxp (rowOk_big (by omega)))]; rfl)
                      | (rw [heldB_f (not_row hxh hxp (rowOk_junk hbf ‹_ ≠ _›))]; rfl)
                      | (rw [heldB_f (fun g => by have g1 := g.have1; have g2 := g.have2; have := within_nof ‹within (haveN x.hav x.hav.length : Nat) 1 (x.cnt - 1) = false›; omega)]; rfl)
                      | (rw [heldB_f (fun g => by have g1 := g.have1; have g2 := g.have2; omega)]; rfl)
                      | (rw [heldB_t ⟨‹_›, ‹_›, ‹_›, by omega, by omega, hr, by have := within_of ‹within (haveN x.hav x.hav.length : Nat) 1 (x.cnt - 1) = true›; omega, by have := within_of ‹within (haveN x.hav x.hav.length : Nat) 1 (x.cnt - 1) = true›; omega, ‹_›⟩]; rfl)
                      | (rw [heldB_t ⟨‹_›, ‹_›, ‹_›, by omega, by omega, hr, by omega, by omega, ‹_›⟩]; rfl)
                  · replace h68 := neqS_nof h68
                    refine vl_q (q_pick_true rfl rfl) (dk rfl) ?_
                    refine vl_q (q_move rfl) (dk rfl) ?_
                    refine vl_guard_on rfl rfl rfl ?_
                    refine vl_q (q_fieldAddr 3 rfl rfl rfl rfl (by decide) rfl rfl) (dk rfl) ?_
                    refine vl_guard_on rfl rfl rfl ?_
                    refine vl_load rfl rfl rfl rfl rfl rfl rfl (by decide) (dk rfl) ?_
                    refine vl_guard_on rfl rfl rfl ?_
                    refine vl_q (q_move rfl) (dk rfl) ?_
                    refine vl_guard_on rfl rfl rfl ?_
                    refine vl_q (q_indexAddr_sh rfl rfl rfl rfl rfl rfl (by decide) (by omega) (get_map (i := i) hxp)) (dk rfl) ?_
                    refine vl_guard_on rfl rfl rfl ?_
                    refine vl_load_sp rfl rfl rfl rfl (by decide) (dk rfl) ?_
                    refine vl_guard_on rfl rfl rfl ?_
                    refine vl_q (q_len_str rfl rfl rfl) (dk rfl) ?_
                    refine vl_guard_on rfl rfl rfl ?_
                    refine vl_two (x := fun b => vv (.bool b)) _ (q_cmp rfl rfl rfl rfl) (dk rfl) (fun h77 => ?_) (fun h77 => ?_)
                    · replace h77 := gtr_of h77
                      refine vl_q (q_pick_false rfl rfl) (dk rfl) ?_
                      refine vl_nil ?_
                      refine hK16 _ ?_
                      refine vc_cond_true rfl ?_
                      refine vc_seq fun K18 hK18 => ?_
                      refine vc_region ?_
                      refine vl_q (q_assign rfl) (dk rfl) ?_
                      refine vl_nil ?_
                      refine hK18 _ ?_
                      refine vc_ret ?_
                      refine ret_p rfl (.cons (res_tmp rfl) .nil) rfl ?_
                      try simp only [List.length_map] at *
                      first
                        | (rw [heldB_f (fun g => Bool.noConfusion (‹within x.fr 1 99 = false›.symm.trans g.fr))]; rfl)
                        | (rw [heldB_f (fun g => Bool.noConfusion (‹within x.id 0 255 = false›.symm.trans g.id))]; rfl)
                        | (rw [heldB_f (fun g => Bool.noConfusion (‹within x.cnt 2 15 = false›.symm.trans g.cnt))]; rfl)
                        | (rw [heldB_f (fun g => Bool.noConfusion (‹within x.til 0 1000000000 = false›.symm.trans g.til))]; rfl)
                        | (rw [heldB_f (fun g => absurd g.parts ‹(x.parts.length : Int) ≠ x.cnt›)]; rfl)
                        | (rw [heldB_f (fun g => absurd g.hav ‹(x.hav.length : Int) ≠ x.cnt›)]; rfl)
                        | (rw [heldB_f (not_row hxh hxp (rowOk_big (by omega)))]; rfl)
                        | (rw [heldB_f (not_row hxh hxp (rowOk_junk hbf ‹_ ≠ _›))]; rfl)
                        | (rw [heldB_f (fun g => by have g1 := g.have1; have g2 := g.have2; have := within_nof ‹within (haveN x.hav x.hav.length : Nat) 1 (x.cnt - 1) = false›; omega)]; rfl)
                        | (rw [heldB_f (fun g => by have g1 := g.have1; have g2 := g.have2; omega)]; rfl)
                        | (rw [heldB_t ⟨‹_›, ‹_›, ‹_›, by omega, by omega, hr, by have := within_of ‹within (haveN x.hav x.hav.length : Nat) 1 (x.cnt - 1) = true›; omega, by have := within_of ‹within (haveN x.hav x.hav.length : Nat) 1 (x.cnt - 1) = true›; omega, ‹_›⟩]; rfl)
                        | (rw [heldB_t ⟨‹_›, ‹_›, ‹_›, by omega, by omega, hr, by omega, by omega, ‹_›⟩]; rfl)
                    · replace h77 := gtr_nof h77
                      refine vl_q (q_pick_false rfl rfl) (dk rfl) ?_
                      refine vl_nil ?_
                      refine hK16 _ ?_
                      refine vc_cond_false rfl ?_
                      refine vc_skip ?_
                      refine hK11 _ ?_
                      refine vc_region ?_
                      refine vl_q (q_move rfl) (dk rfl) ?_
                      refine vl_q (q_add rfl rfl (IntWalk.i64_in _ (by omega))) (dk rfl) ?_
                      refine vl_q (q_assign rfl) (dk rfl) ?_
                      refine vl_nil ?_
                      refine ⟨_, _, ?_, ⟨i + 1, ⟨by omega, rowsOk_succ hr hxh hxp (rowOk_t (by omega) (by first | exact .inl hbt | exact .inr h68))⟩, rfl, rfl⟩, (Weak.cut _ _ _ (Nat.le_of_ble_eq_true rfl) ⟨⟨rfl, rfl⟩, ⟨iv_eq (by omega), rfl⟩, ⟨rfl, rfl⟩, trivial⟩ ⟨⟨Nat.le_of_ble_eq_true rfl, rfl, belN_all rfl⟩, trivial⟩ rfl)⟩
                      omega
              · replace h46 := lss_nof h46
                refine vl_nil ?_
                refine hK10 _ ?_
                refine vc_cond_false rfl ?_
                refine vc_exit ?_
                refine hK7 _ ?_
                refine vc_seq fun K19 hK19 => ?_
                obtain rfl : i = x.hav.length := by omega
                have hlh := haveN_le x.hav x.hav.length
                refine vc_region ?_
                refine vl_q (q_move rfl) (dk rfl) ?_
                refine vl_two (x := fun b => vv (.bool b)) _ (q_cmp rfl rfl rfl rfl) (dk rfl) (fun h80 => ?_) (fun h80 => ?_)
                · replace h80 := geq_of h80
                  refine vl_q (q_move rfl) (dk rfl) ?_
                  refine vl_guard_on rfl rfl rfl ?_
                  refine vl_q (q_move rfl) (dk rfl) ?_
                  refine vl_guard_on rfl rfl rfl ?_
                  refine vl_q (q_fieldAddr 2 rfl rfl rfl rfl (by decide) rfl rfl) (dk rfl) ?_
                  refine vl_guard_on rfl rfl rfl ?_
                  refine vl_load rfl rfl rfl rfl rfl rfl rfl (by decide) (dk rfl) ?_
                  refine vl_guard_on rfl rfl rfl ?_
                  refine vl_two (x := fun b => vv (.bool b)) _ (q_cmp rfl rfl rfl rfl) (dk rfl) (fun h85 => ?_) (fun h85 => ?_)
                  · replace h85 := lss_of h85
                    refine vl_q (q_pick_true rfl rfl) (dk rfl) ?_
                    refine vl_q (q_assign rfl) (dk rfl) ?_
                    refine vl_nil ?_
                    refine hK19 _ ?_
                    refine vc_ret ?_
                    refine ret_p rfl (.cons (res_tmp rfl) .nil) rfl ?_
                    try simp only [List.length_map] at *
                    first
                      | (rw [heldB_f (fun g => Bool.noConfusion (‹within x.fr 1 99 = false›.symm.trans g.fr))]; rfl)
                      | (rw [heldB_f (fun g => Bool.noConfusion (‹within x.id 0 255 = false›.symm.trans g.id))]; rfl)
                      | (rw [heldB_f (fun g => Bool.noConfusion (‹within x.cnt 2 15 = false›.symm.trans g.cnt))]; rfl)
                      | (rw [heldB_f (fun g => Bool.noConfusion (‹within x.til 0 1000000000 = false›.symm.trans g.til))]; rfl)
                      | (rw [heldB_f (fun g => absurd g.parts ‹(x.parts.length : Int) ≠ x.cnt›)]; rfl)
                      | (rw [heldB_f (fun g => absurd g.hav ‹(x.hav.length : Int) ≠ x.cnt›)]; rfl)
                      | (rw [heldB_f (not_row hxh hxp (rowOk_big (by omega)))]; rfl)
                      | (rw [heldB_f (not_row hxh hxp (rowOk_junk hbf ‹_ ≠ _›))]; rfl)
                      | (rw [heldB_f (fun g => by have g1 := g.have1; have g2 := g.have2; have := within_nof ‹within (haveN x.hav x.hav.length : Nat) 1 (x.cnt - 1) = false›; omega)]; rfl)
                      | (rw [heldB_f (fun g => by have g1 := g.have1; have g2 := g.have2; omega)]; rfl)
                      | (rw [heldB_t ⟨‹_›, ‹_›, ‹_›, by omega, by omega, hr, by have := within_of ‹within (haveN x.hav x.hav.length : Nat) 1 (x.cnt - 1) = true›; omega, by have := within_of ‹within (haveN x.hav x.hav.length : Nat) 1 (x.cnt - 1) = true›; omega, ‹_›⟩]; rfl)
                      | (rw [heldB_t ⟨‹_›, ‹_›, ‹_›, by omega, by omega, hr, by omega, by omega, ‹_›⟩]; rfl)
                  · replace h85 := lss_nof h85
                    refine vl_q (q_pick_true rfl rfl) (dk rfl) ?_
                    refine vl_q (q_assign rfl) (dk rfl) ?_
                    refine vl_nil ?_
                    refine hK19 _ ?_
                    refine vc_ret ?_
                    refine ret_p rfl (.cons (res_tmp rfl) .nil) rfl ?_
                    try simp only [List.length_map] at *
                    first
                      | (rw [heldB_f (fun g => Bool.noConfusion (‹within x.fr 1 99 = false›.symm.trans g.fr))]; rfl)
                      | (rw [heldB_f (fun g => Bool.noConfusion (‹within x.id 0 255 = false›.symm.trans g.id))]; rfl)
                      | (rw [heldB_f (fun g => Bool.noConfusion (‹within x.cnt 2 15 = false›.symm.trans g.cnt))]; rfl)
                      | (rw [heldB_f (fun g => Bool.noConfusion (‹within x.til 0 1000000000 = false›.symm.trans g.til))]; rfl)
                      | (rw [heldB_f (fun g => absurd g.parts ‹(x.parts.length : Int) ≠ x.cnt›)]; rfl)
                      | (rw [heldB_f (fun g => absurd g.hav ‹(x.hav.length : Int) ≠ x.cnt›)]; rfl)
                      | (rw [heldB_f (not_row hxh hxp (rowOk_big (by omega)))]; rfl)
                      | (rw [heldB_f (not_row hxh hxp (rowOk_junk hbf ‹_ ≠ _›))]; rfl)
                      | (rw [heldB_f (fun g => by have g1 := g.have1; have g2 := g.have2; have := within_nof ‹within (haveN x.hav x.hav.length : Nat) 1 (x.cnt - 1) = false›; omega)]; rfl)
                      | (rw [heldB_f (fun g => by have g1 := g.have1; have g2 := g.have2; omega)]; rfl)
                      | (rw [heldB_t ⟨‹_›, ‹_›, ‹_›, by omega, by omega, hr, by have := within_of ‹within (haveN x.hav x.hav.length : Nat) 1 (x.cnt - 1) = true›; omega, by have := within_of ‹within (haveN x.hav x.hav.length : Nat) 1 (x.cnt - 1) = true›; omega, ‹_›⟩]; rfl)
                      | (rw [heldB_t ⟨‹_›, ‹_›, ‹_›, by omega, by omega, hr, by omega, by omega, ‹_›⟩]; rfl)
                · replace h80 := geq_nof h80
                  refine vl_q (q_move rfl) (dk rfl) ?_
                  refine vl_goff rfl rfl rfl (by decide) (dk rfl) ?_
                  refine vl_goff rfl rfl rfl (by decide) (dk rfl) ?_
                  refine vl_goff rfl rfl rfl (by decide) (dk rfl) ?_
                  refine vl_goff rfl rfl rfl (by decide) (dk rfl) ?_
                  refine vl_q (q_pick_false rfl rfl) (dk rfl) ?_
                  refine vl_q (q_assign rfl) (dk rfl) ?_
                  refine vl_nil ?_
                  refine hK19 _ ?_
                  refine vc_ret ?_
                  refine ret_p rfl (.cons (res_tmp rfl) .nil) rfl ?_
                  try simp only [List.length_map] at *
                  first
                    | (rw [heldB_f (fun g => Bool.noConfusion (‹within x.fr 1 99 = false›.symm.trans g.fr))]; rfl)
                    | (rw [heldB_f (fun g => Bool.noConfusion (‹within x.id 0 255 = false›.symm.trans g.id))]; rfl)
                    | (rw [heldB_f (fun g => Bool.noConfusion (‹within x.cnt 2 15 = false›.symm.trans g.cnt))]; rfl)
                    | (rw [heldB_f (fun g => Bool.noConfusion (‹within x.til 0 1000000000 = false›.symm.trans g.til))]; rfl)
                    | (rw [heldB_f (fun g => absurd g.parts ‹(x.parts.length : Int) ≠ x.cnt›)]; rfl)
                    | (rw [heldB_f (fun g => absurd g.hav ‹(x.hav.length : Int) ≠ x.cnt›)]; rfl)
                    | (rw [heldB_f (not_row hxh hxp (rowOk_big (by omega)))]; rfl)
                    | (rw [heldB_f (not_row hxh hxp (rowOk_junk hbf ‹_ ≠ _›))]; rfl)
                    | (rw [heldB_f (fun g => by have g1 := g.have1; have g2 := g.have2; have := within_nof ‹within (haveN x.hav x.hav.length : Nat) 1 (x.cnt - 1) = false›; omega)]; rfl)
                    | (rw [heldB_f (fun g => by have g1 := g.have1; have g2 := g.have2; omega)]; rfl)
                    | (rw [heldB_t ⟨‹_›, ‹_›, ‹_›, by omega, by omega, hr, by have := within_of ‹within (haveN x.hav x.hav.length : Nat) 1 (x.cnt - 1) = true›; omega, by have := within_of ‹within (haveN x.hav x.hav.length : Nat) 1 (x.cnt - 1) = true›; omega, ‹_›⟩]; rfl)
                    | (rw [heldB_t ⟨‹_›, ‹_›, ‹_›, by omega, by omega, hr, by omega, by omega, ‹_›⟩]; rfl)
            · refine vl_guard_on rfl rfl rfl ?_
              refine vl_q (q_not rfl) (dk rfl) ?_
              refine vl_q (q_pick_false rfl rfl) (dk rfl) ?_
              refine vl_nil ?_
              refine hK3 _ ?_
              refine vc_cond_true rfl ?_
              refine vc_seq fun K20 hK20 => ?_
              refine vc_region ?_
              refine vl_q (q_assign rfl) (dk rfl) ?_
              refine vl_nil ?_
              refine hK20 _ ?_
              refine vc_ret ?_
              refine ret_p rfl (.cons (res_tmp rfl) .nil) rfl ?_
              try simp only [List.length_map] at *
              first
                | (rw [heldB_f (fun g => Bool.noConfusion (‹within x.fr 1 99 = false›.symm.trans g.fr))]; rfl)
                | (rw [heldB_f (fun g => Bool.noConfusion (‹within x.id 0 255 = false›.symm.trans g.id))]; rfl)
                | (rw [heldB_f (fun g => Bool.noConfusion (‹within x.cnt 2 15 = false›.symm.trans g.cnt))]; rfl)
                | (rw [heldB_f (fun g => Bool.noConfusion (‹within x.til 0 1000000000 = false›.symm.trans g.til))]; rfl)
                | (rw [heldB_f (fun g => absurd g.parts ‹(x.parts.length : Int) ≠ x.cnt›)]; rfl)
                | (rw [heldB_f (fun g => absurd g.hav ‹(x.hav.length : Int) ≠ x.cnt›)]; rfl)
                | (rw [heldB_f (not_row hxh hxp (rowOk_big (by omega)))]; rfl)
                | (rw [heldB_f (not_row hxh hxp (rowOk_junk hbf ‹_ ≠ _›))]; rfl)
                | (rw [heldB_f (fun g => by have g1 := g.have1; have g2 := g.have2; have := within_nof ‹within (haveN x.hav x.hav.length : Nat) 1 (x.cnt - 1) = false›; omega)]; rfl)
                | (rw [heldB_f (fun g => by have g1 := g.have1; have g2 := g.have2; omega)]; rfl)
                | (rw [heldB_t ⟨‹_›, ‹_›, ‹_›, by omega, by omega, hr, by have := within_of ‹within (haveN x.hav x.hav.length : Nat) 1 (x.cnt - 1) = true›; omega, by have := within_of ‹within (haveN x.hav x.hav.length : Nat) 1 (x.cnt - 1) = true›; omega, ‹_›⟩]; rfl)
                | (rw [heldB_t ⟨‹_›, ‹_›, ‹_›, by omega, by omega, hr, by omega, by omega, ‹_›⟩]; rfl)
      · refine vl_guard_on rfl rfl rfl ?_
        refine vl_q (q_not rfl) (dk rfl) ?_
        refine vl_q (q_pick_false rfl rfl) (dk rfl) ?_
        refine vl_q (q_move rfl) (dk rfl) ?_
        refine vl_goff rfl rfl rfl (by decide) (dk rfl) ?_
        refine vl_goff rfl rfl rfl (by decide) (dk rfl) ?_
        refine vl_goff rfl rfl rfl (by decide) (dk rfl) ?_
        refine vl_goff rfl rfl rfl (by decide) (dk rfl) ?_
        refine vl_goff rfl rfl rfl (by decide) (dk rfl) ?_
        refine vl_goff rfl rfl rfl (by decide) (dk rfl) ?_
        refine vl_q (q_pick_true rfl rfl) (dk rfl) ?_
        refine vl_q (q_move rfl) (dk rfl) ?_
        refine vl_goff rfl rfl rfl (by decide) (dk rfl) ?_
        refine vl_goff rfl rfl rfl (by decide) (dk rfl) ?_
        refine vl_goff rfl rfl rfl (by decide) (dk rfl) ?_
        refine vl_goff rfl rfl rfl (by decide) (dk rfl) ?_
        refine vl_goff rfl rfl rfl (by decide) (dk rfl) ?_
        refine vl_goff rfl rfl rfl (by decide) (dk rfl) ?_
        refine vl_q (q_pick_true rfl rfl) (dk rfl) ?_
        refine vl_q (q_move rfl) (dk rfl) ?_
        refine vl_goff rfl rfl rfl (by decide) (dk rfl) ?_
        refine vl_goff rfl rfl rfl (by decide) (dk rfl) ?_
        refine vl_goff rfl rfl rfl (by decide) (dk rfl) ?_
        refine vl_goff rfl rfl rfl (by decide) (dk rfl) ?_
        refine vl_q (q_pick_true rfl rfl) (dk rfl) ?_
        refine vl_nil ?_
        refine hK3 _ ?_
        refine vc_cond_true rfl ?_
        refine vc_seq fun K21 hK21 => ?_
        refine vc_region ?_
        refine vl_q (q_assign rfl) (dk rfl) ?_
        refine vl_nil ?_
        refine hK21 _ ?_
        refine vc_ret ?_
        refine ret_p rfl (.cons (res_tmp rfl) .nil) rfl ?_
        try simp only [List.length_map] at *
        first
          | (rw [heldB_f (fun g => Bool.noConfusion (‹within x.fr 1 99 = false›.symm.trans g.fr))]; rfl)
          | (rw [heldB_f (fun g => Bool.noConfusion (‹within x.id 0 255 = false›.symm.trans g.id))]; rfl)
          | (rw [heldB_f (fun g => Bool.noConfusion (‹within x.cnt 2 15 = false›.symm.trans g.cnt))]; rfl)
          | (rw [heldB_f (fun g => Bool.noConfusion (‹within x.til 0 1000000000 = false›.symm.trans g.til))]; rfl)
          | (rw [heldB_f (fun g => absurd g.parts ‹(x.parts.length : Int) ≠ x.cnt›)]; rfl)
          | (rw [heldB_f (fun g => absurd g.hav ‹(x.hav.length : Int) ≠ x.cnt›)]; rfl)
          | (rw [heldB_f (not_row hxh hxp (rowOk_big (by omega)))]; rfl)
          | (rw [heldB_f (not_row hxh hxp (rowOk_junk hbf ‹_ ≠ _›))]; rfl)
          | (rw [heldB_f (fun g => by have g1 := g.have1; have g2 := g.have2; have := within_nof ‹within (haveN x.hav x.hav.length : Nat) 1 (x.cnt - 1) = false›; omega)]; rfl)
          | (rw [heldB_f (fun g => by have g1 := g.have1; have g2 := g.have2; omega)]; rfl)
          | (rw [heldB_t ⟨‹_›, ‹_›, ‹_›, by omega, by omega, hr, by have := within_of ‹within (haveN x.hav x.hav.length : Nat) 1 (x.cnt - 1) = true›; omega, by have := within_of ‹within (haveN x.hav x.hav.length : Nat) 1 (x.cnt - 1) = true›; omega, ‹_›⟩]; rfl)
          | (rw [heldB_t ⟨‹_›, ‹_›, ‹_›, by omega, by omega, hr, by omega, by omega, ‹_›⟩]; rfl)
    · refine vl_guard_on rfl rfl rfl ?_
      refine vl_q (q_not rfl) (dk rfl) ?_
      refine vl_q (q_pick_false rfl rfl) (dk rfl) ?_
      refine vl_q (q_move rfl) (dk rfl) ?_
      refine vl_goff rfl rfl rfl (by decide) (dk rfl) ?_
      refine vl_goff rfl rfl rfl (by decide) (dk rfl) ?_
      refine vl_goff rfl rfl rfl (by decide) (dk rfl) ?_
      refine vl_goff rfl rfl rfl (by decide) (dk rfl) ?_
      refine vl_q (q_pick_true rfl rfl) (dk rfl) ?_
      refine vl_q (q_move rfl) (dk rfl) ?_
      refine vl_goff rfl rfl rfl (by decide) (dk rfl) ?_
      refine vl_goff rfl rfl rfl (by decide) (dk rfl) ?_
      refine vl_goff rfl rfl rfl (by decide) (dk rfl) ?_
      refine vl_goff rfl rfl rfl (by decide) (dk rfl) ?_
      refine vl_goff rfl rfl rfl (by decide) (dk rfl) ?_
      refine vl_goff rfl rfl rfl (by decide) (dk rfl) ?_
      refine vl_q (q_pick_true rfl rfl) (dk rfl) ?_
      refine vl_q (q_move rfl) (dk rfl) ?_
      refine vl_goff rfl rfl rfl (by decide) (dk rfl) ?_
      refine vl_goff rfl rfl rfl (by decide) (dk rfl) ?_
      refine vl_goff rfl rfl rfl (by decide) (dk rfl) ?_
      refine vl_goff rfl rfl rfl (by decide) (dk rfl) ?_
      refine vl_goff rfl rfl rfl (by decide) (dk rfl) ?_
      refine vl_goff rfl rfl rfl (by decide) (dk rfl) ?_
      refine vl_q (q_pick_true rfl rfl) (dk rfl) ?_
      refine vl_q (q_move rfl) (dk rfl) ?_
      refine vl_goff rfl rfl rfl (by decide) (dk rfl) ?_
      refine vl_goff rfl rfl rfl (by decide) (dk rfl) ?_
      refine vl_goff rfl rfl rfl (by decide) (dk rfl) ?_
      refine vl_goff rfl rfl rfl (by decide) (dk rfl) ?_
      refine vl_q (q_pick_true rfl rfl) (dk rfl) ?_
      refine vl_nil ?_
      refine hK3 _ ?_
      refine vc_cond_true rfl ?_
      refine vc_seq fun K22 hK22 => ?_
      refine vc_region ?_
      refine vl_q (q_assign rfl) (dk rfl) ?_
      refine vl_nil ?_
      refine hK22 _ ?_
      refine vc_ret ?_
      refine ret_p rfl (.cons (res_tmp rfl) .nil) rfl ?_
      try simp only [List.length_map] at *
      first
        | (rw [heldB_f (fun g => Bool.noConfusion (‹within x.fr 1 99 = false›.symm.trans g.fr))]; rfl)
        | (rw [heldB_f (fun g => Bool.noConfusion (‹within x.id 0 255 = false›.symm.trans g.id))]; rfl)
        | (rw [heldB_f (fun g => Bool.noConfusion (‹within x.cnt 2 15 = false›.symm.trans g.cnt))]; rfl)
        | (rw [heldB_f (fun g => Bool.noConfusion (‹within x.til 0 1000000000 = false›.symm.trans g.til))]; rfl)
        | (rw [heldB_f (fun g => absurd g.parts ‹(x.parts.length : Int) ≠ x.cnt›)]; rfl)
        | (rw [heldB_f (fun g => absurd g.hav ‹(x.hav.length : Int) ≠ x.cnt›)]; rfl)
        | (rw [heldB_f (not_row hxh hxp (rowOk_big (by omega)))]; rfl)
        | (rw [heldB_f (not_row hxh hxp (rowOk_junk hbf ‹_ ≠ _›))]; rfl)
        | (rw [heldB_f (fun g => by have g1 := g.have1; have g2 := g.have2; have := within_nof ‹within (haveN x.hav x.hav.length : Nat) 1 (x.cnt - 1) = false›; omega)]; rfl)
        | (rw [heldB_f (fun g => by have g1 := g.have1; have g2 := g.have2; omega)]; rfl)
        | (rw [heldB_t ⟨‹_›, ‹_›, ‹_›, by omega, by omega, hr, by have := within_of ‹within (haveN x.hav x.hav.length : Nat) 1 (x.cnt - 1) = true›; omega, by have := within_of ‹within (haveN x.hav x.hav.length : Nat) 1 (x.cnt - 1) = true›; omega, ‹_›⟩]; rfl)
        | (rw [heldB_t ⟨‹_›, ‹_›, ‹_›, by omega, by omega, hr, by omega, by omega, ‹_›⟩]; rfl)
  · refine vl_q (q_not rfl) (dk rfl) ?_
    refine vl_q (q_move rfl) (dk rfl) ?_
    refine vl_goff rfl rfl rfl (by decide) (dk rfl) ?_
    refine vl_goff rfl rfl rfl (by decide) (dk rfl) ?_
    refine vl_goff rfl rfl rfl (by decide) (dk rfl) ?_
    refine vl_goff rfl rfl rfl (by decide) (dk rfl) ?_
    refine vl_q (q_pick_true rfl rfl) (dk rfl) ?_
    refine vl_q (q_move rfl) (dk rfl) ?_
    refine vl_goff rfl rfl rfl (by decide) (dk rfl) ?_
    refine vl_goff rfl rfl rfl (by decide) (dk rfl) ?_
    refine vl_goff rfl rfl rfl (by decide) (dk rfl) ?_
    refine vl_goff rfl rfl rfl (by decide) (dk rfl) ?_
    refine vl_q (q_pick_true rfl rfl) (dk rfl) ?_
    refine vl_q (q_move rfl) (dk rfl) ?_
    refine vl_goff rfl rfl rfl (by decide) (dk rfl) ?_
    refine vl_goff rfl rfl rfl (by decide) (dk rfl) ?_
    refine vl_goff rfl rfl rfl (by decide) (dk rfl) ?_
    refine vl_goff rfl rfl rfl (by decide) (dk rfl) ?_
    refine vl_goff rfl rfl rfl (by decide) (dk rfl) ?_
    refine vl_goff rfl rfl rfl (by decide) (dk rfl) ?_
    refine vl_q (q_pick_true rfl rfl) (dk rfl) ?_
    refine vl_q (q_move rfl) (dk rfl) ?_
    refine vl_goff rfl rfl rfl (by decide) (dk rfl) ?_
    refine vl_goff rfl rfl rfl (by decide) (dk rfl) ?_
    refine vl_goff rfl rfl rfl (by decide) (dk rfl) ?_
    refine vl_goff rfl rfl rfl (by decide) (dk rfl) ?_
    refine vl_goff rfl rfl rfl (by decide) (dk rfl) ?_
    refine vl_goff rfl rfl rfl (by decide) (dk rfl) ?_
    refine vl_q (q_pick_true rfl rfl) (dk rfl) ?_
    refine vl_q (q_move rfl) (dk rfl) ?_
    refine vl_goff rfl rfl rfl (by decide) (dk rfl) ?_
    refine vl_goff rfl rfl rfl (by decide) (dk rfl) ?_
    refine vl_goff rfl rfl rfl (by decide) (dk rfl) ?_
    refine vl_goff rfl rfl rfl (by decide) (dk rfl) ?_
    refine vl_q (q_pick_true rfl rfl) (dk rfl) ?_
    refine vl_nil ?_
    refine hK3 _ ?_
    refine vc_cond_true rfl ?_
    refine vc_seq fun K23 hK23 => ?_
    refine vc_region ?_
    refine vl_q (q_assign rfl) (dk rfl) ?_
    refine vl_nil ?_
    refine hK23 _ ?_
    refine vc_ret ?_
    refine ret_p rfl (.cons (res_tmp rfl) .nil) rfl ?_
    try simp only [List.length_map] at *
    first
      | (rw [heldB_f (fun g => Bool.noConfusion (‹within x.fr 1 99 = false›.symm.trans g.fr))]; rfl)
      | (rw [heldB_f (fun g => Bool.noConfusion (‹within x.id 0 255 = false›.symm.trans g.id))]; rfl)
      | (rw [heldB_f (fun g => Bool.noConfusion (‹within x.cnt 2 15 = false›.symm.trans g.cnt))]; rfl)
      | (rw [heldB_f (fun g => Bool.noConfusion (‹within x.til 0 1000000000 = false›.symm.trans g.til))]; rfl)
      | (rw [heldB_f (fun g => absurd g.parts ‹(x.parts.length : Int) ≠ x.cnt›)]; rfl)
      | (rw [heldB_f (fun g => absurd g.hav ‹(x.hav.length : Int) ≠ x.cnt›)]; rfl)
      | (rw [heldB_f (not_row hxh hxp (rowOk_big (by omega)))]; rfl)
      | (rw [heldB_f (not_row hxh hxp (rowOk_junk hbf ‹_ ≠ _›))]; rfl)
      | (rw [heldB_f (fun g => by have g1 := g.have1; have g2 := g.have2; have := within_nof ‹within (haveN x.hav x.hav.length : Nat) 1 (x.cnt - 1) = false›; omega)]; rfl)
      | (rw [heldB_f (fun g => by have g1 := g.have1; have g2 := g.have2; omega)]; rfl)
      | (rw [heldB_t ⟨‹_›, ‹_›, ‹_›, by omega, by omega, hr, by have := within_of ‹within (haveN x.hav x.hav.length : Nat) 1 (x.cnt - 1) = true›; omega, by have := within_of ‹within (haveN x.hav x.hav.length : Nat) 1 (x.cnt - 1) = true›; omega, ‹_›⟩]; rfl)
      | (rw [heldB_t ⟨‹_›, ‹_›, ‹_›, by omega, by omega, hr, by omega, by omega, ‹_›⟩]; rfl)
theorem at51 : FnAt Pg 51 Go.Proofs.Try.f51 := ⟨by kernel_rfl, rfl, by decide⟩
theorem c_spec_l20All (x : Held) :
    Ctr Pg ty 51 [.agg ((heldC x).map X.c)] [] (Gives (vv (.bool (x.hav.all id))) [] []) := by
  refine ctr at51 rfl (nsK_gives rfl trivial trivial) (Nat.le_of_ble_eq_true rfl) fun w0 S0 L0 Z => ?_
  refine vc_seq fun K1 hK1 => ?_
  refine vc_region ?_
  refine vl_box rfl (dk rfl) ?_
  refine vl_q (q_assign rfl) (dk rfl) ?_
  refine vl_nil ?_
  refine hK1 _ ?_
  refine vc_seq fun K2 hK2 => ?_
  refine vc_seq fun K3 hK3 => ?_
  refine vc_region ?_
  refine vl_q (q_assign rfl) (dk rfl) ?_
  refine vl_nil ?_
  refine hK3 _ ?_
  refine vc_block ?_
  refine vc_loop (fun mz st => ∃ i : Nat, (i ≤ x.hav.length ∧ ∀ j (hj : j < x.hav.length), j < i → x.hav[j] = true) ∧ mz = x.hav.length - i ∧ st = mkSt [(1, .v (.one (.ptr 16 0 0))), (3, .v (iv i))] [(16, ⟨6, [(heldC x).map X.c]⟩)] 17) ⟨_, _, ⟨0, ⟨by omega, fun j _ h => absurd h (by omega)⟩, rfl, rfl⟩, (Weak.cut _ _ _ (Nat.le_of_ble_eq_true rfl) ⟨⟨rfl, rfl⟩, ⟨rfl, rfl⟩, trivial⟩ ⟨⟨Nat.le_of_ble_eq_true rfl, rfl, belN_all rfl⟩, trivial⟩ rfl)⟩ (fun mz st hI => ?_)
  obtain ⟨i, ⟨hi, ha⟩, hmz, rfl⟩ := hI
  refine vc_seq fun K4 hK4 => ?_
  refine vc_seq fun K5 hK5 => ?_
  refine vc_region ?_
  refine vl_q (q_move rfl) (dk rfl) ?_
  refine vl_q (q_fieldAddr 4 rfl rfl rfl rfl (by decide) rfl rfl) (dk rfl) ?_
  refine vl_load rfl rfl rfl rfl rfl rfl rfl (by decide) (dk rfl) ?_
  refine vl_fact (fun a w g => good_lim (x := .tmp 6) rfl g) fun hlen => ?_
  rw [List.length_map] at hlen
  refine vl_q (q_len_sh rfl rfl rfl) (dk rfl) ?_
  simp only [List.length_map]
  refine vl_two (x := fun b => vv (.bool b)) _ (q_cmp rfl rfl rfl rfl) (dk rfl) (fun h8 => ?_) (fun h8 => ?_)
  · replace h8 := lss_of h8
    refine vl_nil ?_
    refine hK5 _ ?_
    refine vc_cond_true rfl ?_
    refine vc_skip ?_
    refine hK4 _ ?_
    refine vc_seq fun K6 hK6 => ?_
    refine vc_block ?_
    refine vc_seq fun K7 hK7 => ?_
    have hxh : i < x.hav.length := by omega
    refine vc_region ?_
    refine vl_q (q_fieldAddr 4 rfl rfl rfl rfl (by decide) rfl rfl) (dk rfl) ?_
    refine vl_load rfl rfl rfl rfl rfl rfl rfl (by decide) (dk rfl) ?_
    refine vl_q (q_move rfl) (dk rfl) ?_
    refine vl_q (q_indexAddr_sh rfl rfl rfl rfl rfl rfl (by decide) (by omega) (get_map (i := i) hxh)) (dk rfl) ?_
    refine vl_load_sp rfl rfl rfl rfl (by decide) (dk rfl) ?_
    refine vl_bool 15 rfl (fun h15 => ?_) (fun h15 => ?_)
    · have hbt : x.hav[i] = true := h15
      refine vl_q (q_not rfl) (dk rfl) ?_
      refine vl_nil ?_
      refine hK7 _ ?_
      refine vc_cond_false rfl ?_
      refine vc_skip ?_
      refine hK6 _ ?_
      refine vc_region ?_
      refine vl_q (q_move rfl) (dk rfl) ?_
      refine vl_q (q_add rfl rfl (IntWalk.i64_in _ (by omega))) (dk rfl) ?_
      refine vl_q (q_assign rfl) (dk rfl) ?_
      refine vl_nil ?_
      refine ⟨_, _, ?_, ⟨i + 1, ⟨by omega, fun j hj h => by by_cases e : j = i; (subst e; exact hbt); exact ha j hj (by omega)⟩, rfl, rfl⟩, (Weak.cut _ _ _ (Nat.le_of_ble_eq_true rfl) ⟨⟨rfl, rfl⟩, ⟨rfl, rfl⟩, trivial⟩ ⟨⟨Nat.le_of_ble_eq_true rfl, rfl, belN_all rfl⟩, trivial⟩ rfl)⟩
      omega
    · have hbf : x.hav[i] = false := h15
      refine vl_q (q_not rfl) (dk rfl) ?_
      refine vl_nil ?_
      refine hK7 _ ?_
      refine vc_cond_true rfl ?_
      refine vc_seq fun K8 hK8 => ?_
      refine vc_region ?_
      refine vl_q (q_assign rfl) (dk rfl) ?_
      refine vl_nil ?_
      refine hK8 _ ?_
      refine vc_ret ?_
      refine ret_p rfl (.cons (res_tmp rfl) .nil) rfl ?_
      rw [all_f hxh hbf]; rfl
  · replace h8 := lss_nof h8
    refine vl_nil ?_
    refine hK5 _ ?_
    refine vc_cond_false rfl ?_
    refine vc_exit ?_
    refine hK2 _ ?_
    refine vc_seq fun K9 hK9 => ?_
    refine vc_region ?_
    refine vl_q (q_assign rfl) (dk rfl) ?_
    refine vl_nil ?_
    refine hK9 _ ?_
    refine vc_ret ?_
    refine ret_p rfl (.cons (res_tmp rfl) .nil) rfl ?_
    rw [all_t (fun j hj => ha j hj (by omega))]; rfl
end Go.Vm.S
