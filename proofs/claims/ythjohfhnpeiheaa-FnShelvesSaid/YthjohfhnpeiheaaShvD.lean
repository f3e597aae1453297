/- Walks: spec.AddPart (printed by vmgen.py). What the drawn shelf calls, at what it gives. Walks: spec.l20Shelf (printed by vmgen.py). Walks: impl.heldAt$1, slices.IndexFunc[[]impl.Held,impl.Held]#2, impl.heldAt (printed by vmgen.py). Walks: impl.heldOk (printed by vmgen.py). Walks: impl.ShelfOk (printed by vmgen.py). Walks: slices.Index[[]bool,bool], slices.Contains[[]bool,bool] (printed by vmgen.py). -/
import Derived.Test.YthjohfhnpeiheaaShvC
import Derived.Test.YthjohfhnpeiheaaShvB
set_option linter.all false
namespace Go.Vm.S
open Go Go.Vm
set_option maxRecDepth 100000
set_option linter.unusedVariables false
set_option maxHeartbeats 4000000
theorem at24 : FnAt Pg 24 Go.Proofs.Try.f24 := ⟨by kernel_rfl, rfl, by decide⟩
theorem c_spec_AddPart (l : List Held) (fr : Int) (t : ByteArray) (now : Int) (hb : szHelds l ≤ 4194304) :
    Ctr Pg ty 24 [.agg ((shelfC l).map X.c), iv fr, sv t, iv now] [] (Gives (.tup [.agg [.hdr 16 0 (addP l fr t now).1.length], sv (addP l fr t now).2.1, bv (addP l fr t now).2.2]) [⟨6, clo ((addP l fr t now).1.map heldO)⟩] []) := by
  refine ctr at24 rfl (nsK_gives rfl ⟨nsN_map heldO_noSh, trivial⟩ trivial) (Nat.le_of_ble_eq_true rfl) fun w0 S0 L0 Z => ?_
  refine vc_seq fun K1 hK1 => ?_
  refine vc_region ?_
  refine vl_box rfl (dk rfl) ?_
  refine vl_alloc rfl (dk rfl) ?_
  refine vl_q (q_assign rfl) (dk rfl) ?_
  refine vl_q (q_assign rfl) (dk rfl) ?_
  refine vl_nil ?_
  refine hK1 _ ?_
  refine vc_seq fun K2 hK2 => ?_
  refine vc_region ?_
  refine vl_q (q_move rfl) (dk rfl) ?_
  rcases Bool.eq_false_or_eq_true (rpOk t) with hrp | hrp
  · refine vl_callP (c_sReadPart_t t hrp) rfl rfl ⟨XOk.val _, trivial⟩ rfl (.inl rfl) (dk rfl) ?_
    refine vl_q (q_move rfl) (dk rfl) ?_
    refine vl_q (q_extract rfl rfl) (dk rfl) ?_
    refine vl_q (q_extract rfl rfl) (dk rfl) ?_
    refine vl_q (q_extract rfl rfl) (dk rfl) ?_
    refine vl_q (q_extract rfl rfl) (dk rfl) ?_
    refine vl_q (q_extract rfl rfl) (dk rfl) ?_
    refine vl_q (q_assign rfl) (dk rfl) ?_
    refine vl_q (q_assign rfl) (dk rfl) ?_
    refine vl_q (q_assign rfl) (dk rfl) ?_
    refine vl_q (q_assign rfl) (dk rfl) ?_
    refine vl_q (q_assign rfl) (dk rfl) ?_
    refine vl_nil ?_
    refine hK2 _ ?_
    refine vc_seq fun K3 hK3 => ?_
    refine vc_region ?_
    refine vl_load rfl rfl rfl rfl rfl rfl rfl (by decide) (dk rfl) ?_
    refine vl_callG [] (.v (.agg [.hdr 18 0 _])) (c_spec_l20Copy l hb) rfl rfl ⟨VOk.agg ⟨XOk.shc _ _, trivial⟩, trivial⟩ trivial rfl (by decide) ⟨fix_clo _ _, trivial⟩ trivial rfl (.inl rfl) (dk rfl) ?_
    refine vl_alloc rfl (dk rfl) ?_
    refine vl_store rfl rfl rfl rfl rfl rfl (Nat.le_of_ble_eq_true rfl) trivial ?_
    refine vl_nil ?_
    refine hK3 _ ?_
    refine vc_seq fun K4 hK4 => ?_
    refine vc_seq fun K5 hK5 => ?_
    refine vc_region ?_
    refine vl_load rfl rfl rfl rfl rfl rfl rfl (by decide) (dk rfl) ?_
    refine vl_callP (c_spec_ShelfOk l) rfl rfl ⟨VOk.agg ⟨XOk.shc _ _, trivial⟩, trivial⟩ rfl (.inl rfl) (dk rfl) ?_
    refine vl_bool 36 rfl (fun h36 => ?_) (fun h36 => ?_)
    · have hsg : ShelfGood l := of_decide_eq_true h36
      have hlen3 := hsg.len
      refine vl_q (q_not rfl) (dk rfl) ?_
      refine vl_q (q_move rfl) (dk rfl) ?_
      refine vl_guard_on rfl rfl rfl ?_
      refine vl_q (q_move rfl) (dk rfl) ?_
      refine vl_guard_on rfl rfl rfl ?_
      refine vl_callP (c_spec_l01In _ _ _) rfl rfl ⟨XOk.val _, XOk.val _, XOk.val _, trivial⟩ rfl (.inl rfl) (dk rfl) ?_
      refine vl_bool 40 rfl (fun h40 => ?_) (fun h40 => ?_)
      · refine vl_guard_on rfl rfl rfl ?_
        refine vl_q (q_not rfl) (dk rfl) ?_
        refine vl_q (q_pick_false rfl rfl) (dk rfl) ?_
        refine vl_q (q_move rfl) (dk rfl) ?_
        refine vl_guard_on rfl rfl rfl ?_
        refine vl_q (q_move rfl) (dk rfl) ?_
        refine vl_guard_on rfl rfl rfl ?_
        refine vl_q (q_not rfl) (dk rfl) ?_
        refine vl_q (q_pick_false rfl rfl) (dk rfl) ?_
        refine vl_q (q_move rfl) (dk rfl) ?_
        refine vl_guard_on rfl rfl rfl ?_
        refine vl_q (q_move rfl) (dk rfl) ?_
        refine vl_guard_on rfl rfl rfl ?_
        refine vl_q (q_len_str rfl rfl rfl) (dk rfl) ?_
        refine vl_guard_on rfl rfl rfl ?_
        refine vl_two (x := fun b => vv (.bool b)) _ (q_cmp rfl rfl rfl rfl) (dk rfl) (fun h50 => ?_) (fun h50 => ?_)
        · replace h50 := gtr_of h50
          refine vl_q (q_pick_false rfl rfl) (dk rfl) ?_
          refine vl_q (q_move rfl) (dk rfl) ?_
          refine vl_goff rfl rfl rfl (by decide) (dk rfl) ?_
          refine vl_goff rfl rfl rfl (by decide) (dk rfl) ?_
          refine vl_goff rfl rfl rfl (by decide) (dk rfl) ?_
          refine vl_q (q_pick_true rfl rfl) (dk rfl) ?_
          refine vl_nil ?_
          refine hK5 _ ?_
          refine vc_cond_true rfl ?_
          refine vc_seq fun K6 hK6 => ?_
          refine vc_region ?_
          refine vl_load rfl rfl rfl rfl rfl rfl rfl (by decide) (dk rfl) ?_
          refine vl_store rfl rfl rfl rfl rfl rfl (Nat.le_of_ble_eq_true rfl) trivial ?_
          refine vl_q (q_assign rfl) (dk rfl) ?_
          refine vl_q (q_assign rfl) (dk rfl) ?_
          refine vl_nil ?_
          refine hK6 _ ?_
          refine vc_ret ?_
          have e : addP l fr t now = (l, ⟨#[]⟩, false) := addP_bad (addOk_f (by first | exact .inl ‹_› | exact .inr (.inl ‹_›) | exact .inr (.inr (.inl ‹_›)) | exact .inr (.inr (.inr (.inl (by omega)))) | exact .inr (.inr (.inr (.inr ‹_›)))))
          refine ret_g [18] rfl (.cons (res_cell rfl rfl rfl rfl rfl rfl rfl (by decide)) (.cons (res_tmp rfl) (.cons (res_tmp rfl) .nil))) (by rw [e]; first | rfl | (simp only [List.length_set]; rfl) | (simp only [List.length_eraseIdx, if_pos hal, hy]; rfl)) rfl (nodupB_ok rfl) ⟨by decide, trivial⟩ ⟨⟨⟨6, clo ((addP l fr t now).1.map heldO)⟩, some_node (by rw [e]), NR.clo _ _ _ _⟩, trivial⟩ trivial (Nat.zero_le _)
        · replace h50 := gtr_nof h50
          refine vl_q (q_pick_false rfl rfl) (dk rfl) ?_
          refine vl_q (q_move rfl) (dk rfl) ?_
          refine vl_guard_on rfl rfl rfl ?_
          refine vl_q (q_move rfl) (dk rfl) ?_
          refine vl_guard_on rfl rfl rfl ?_
          refine vl_callP (c_spec_l01In _ _ _) rfl rfl ⟨XOk.val _, XOk.val _, XOk.val _, trivial⟩ rfl (.inl rfl) (dk rfl) ?_
          refine vl_bool 54 rfl (fun h54 => ?_) (fun h54 => ?_)
          · refine vl_guard_on rfl rfl rfl ?_
            refine vl_q (q_not rfl) (dk rfl) ?_
            refine vl_q (q_pick_false rfl rfl) (dk rfl) ?_
            refine vl_nil ?_
            refine hK5 _ ?_
            refine vc_cond_false rfl ?_
            refine vc_skip ?_
            refine hK4 _ ?_
            refine vc_seq fun K7 hK7 => ?_
            refine vc_seq fun K8 hK8 => ?_
            have hok : addOk l fr t now = true := addOk_t h36 h40 hrp (by omega) h54
            have hrpp := rp_parts hrp
            have hnow := within_of h54
            refine vc_region ?_
            refine vl_q (q_move rfl) (dk rfl) ?_
            refine vl_two (x := fun b => vv (.bool b)) _ (q_cmp rfl rfl rfl rfl) (dk rfl) (fun h59 => ?_) (fun h59 => ?_)
            · replace h59 := eql_of h59
              have h1 : byteAt t 2 = 1 := by omega
              refine vl_nil ?_
              refine hK8 _ ?_
              refine vc_cond_true rfl ?_
              refine vc_seq fun K9 hK9 => ?_
              refine vc_region ?_
              refine vl_load rfl rfl rfl rfl rfl rfl rfl (by decide) (dk rfl) ?_
              refine vl_q (q_move rfl) (dk rfl) ?_
              refine vl_store rfl rfl rfl rfl rfl rfl (Nat.le_of_ble_eq_true rfl) trivial ?_
              refine vl_q (q_assign rfl) (dk rfl) ?_
              refine vl_q (q_assign rfl) (dk rfl) ?_
              refine vl_nil ?_
              refine hK9 _ ?_
              refine vc_ret ?_
              have e : addP l fr t now = (l, part t, true) := addP_one hok h1
              refine ret_g [18] rfl (.cons (res_cell rfl rfl rfl rfl rfl rfl rfl (by decide)) (.cons (res_tmp rfl) (.cons (res_tmp rfl) .nil))) (by rw [e]; first | rfl | (simp only [List.length_set]; rfl) | (simp only [List.length_eraseIdx, if_pos hal, hy]; rfl)) rfl (nodupB_ok rfl) ⟨by decide, trivial⟩ ⟨⟨⟨6, clo ((addP l fr t now).1.map heldO)⟩, some_node (by rw [e]), NR.clo _ _ _ _⟩, trivial⟩ trivial (Nat.zero_le _)
            · replace h59 := eql_nof h59
              have h1 : byteAt t 2 ≠ 1 := by omega
              refine vl_nil ?_
              refine hK8 _ ?_
              refine vc_cond_false rfl ?_
              refine vc_skip ?_
              refine hK7 _ ?_
              refine vc_join (fun st => (True) ∧ st = mkSt [(1, .v (iv fr)), (3, .v (iv now)), (8, .v (.one (.ptr 17 0 0))), (11, .v (iv (byteAt t 0))), (12, .v (iv (byteAt t 1))), (13, .v (iv (byteAt t 2))), (14, .v (sv (part t))), (16, .v (.one (.ptr 19 0 0))), (17, .v (.one (.ptr 20 0 0)))] [(17, ⟨1, [[.c (.val (.slice none 0 0))]]⟩), (18, ⟨6, clo (l.map heldO)⟩), (19, ⟨1, [[.hdr 18 0 l.length]]⟩), (20, ⟨6, clo [heldO (fresh fr t now)]⟩)] 21) (fun K10 hK10 => ?_) (fun st hI => ?_)
              · refine vc_region_any mixed (fun n => false) true rfl rfl (fun _ hU11 => hU11) fun w1 S1 L1 Z1 H1 => ?_
                refine va_q 0 rfl (by kernel_rfl) (by kernel_rfl) (by kernel_rfl) (q_move rfl) (dk rfl) ?_
                refine va_q 1 rfl (by kernel_rfl) (by kernel_rfl) (by kernel_rfl) (q_move rfl) (dk rfl) ?_
                refine va_q 2 rfl (by kernel_rfl) (by kernel_rfl) (by kernel_rfl) (q_move rfl) (dk rfl) ?_
                refine va_q 3 rfl (by kernel_rfl) (by kernel_rfl) (by kernel_rfl) (q_move rfl) (dk rfl) ?_
                refine va_q 5 rfl (by kernel_rfl) (by kernel_rfl) (by kernel_rfl) (q_move rfl) (dk rfl) ?_
                refine va_q 7 rfl (by kernel_rfl) (by kernel_rfl) (by kernel_rfl) (q_move rfl) (dk rfl) ?_
                refine va_q 8 rfl (by kernel_rfl) (by kernel_rfl) (by kernel_rfl) (q_add rfl rfl (IntWalk.i64_in _ (by omega))) (dk rfl) ?_
                refine va_all [4, 6, 10] (by kernel_rfl) (by simp) ⟨⟨_, rfl, ?_⟩, ⟨_, rfl, ?_⟩, ⟨_, rfl, ?_⟩, trivial⟩
                · refine vl_makeSlice rfl rfl rfl rfl rfl (by omega) (by omega) (by show ((16 : Nat) : Int) * _ ≤ _; omega) (by decide) (dk rfl) ?_
                  refine vl_nil ?_
                  refine va_all [6, 10] (by kernel_rfl) (by simp) ⟨⟨_, rfl, ?_⟩, ⟨_, rfl, ?_⟩, trivial⟩
                  · refine vl_makeSlice rfl rfl rfl rfl rfl (by omega) (by omega) (by show ((1 : Nat) : Int) * _ ≤ _; omega) (by decide) (dk rfl) ?_
                    refine vl_nil ?_
                    refine va_q 9 rfl (by kernel_rfl) (by kernel_rfl) (by kernel_rfl) (q_build rfl rfl rfl rfl rfl) (dk rfl) ?_
                    refine va_all [10] (by kernel_rfl) (by simp) ⟨⟨_, rfl, ?_⟩, trivial⟩
                    refine vl_alloc rfl (dk rfl) ?_
                    refine vl_nil ?_
                    refine va_all [11] (by kernel_rfl) (by simp) ⟨⟨_, rfl, ?_⟩, trivial⟩
                    refine vl_store rfl rfl rfl rfl rfl rfl (Nat.le_of_ble_eq_true rfl) trivial ?_
                    refine vl_nil ?_
                    refine va_done (by kernel_rfl) ?_
                    refine hK10 _ ?_
                    refine wk_weak (Weak.node (m := 20) (nd' := ⟨1, clo ((List.replicate (byteAt t 2) (⟨#[]⟩ : ByteArray)).map strC)⟩) rfl (congrArg (Vm.Node.mk 1) (rep_clo (f := strC) (x := ⟨#[]⟩) (n := byteAt t 2)))) ?_
                    refine wk_weak (Weak.node (m := 21) (nd' := ⟨1, clo ((List.replicate (byteAt t 2) false).map boolC)⟩) rfl (congrArg (Vm.Node.mk 1) (rep_clo (f := boolC) (x := false) (n := byteAt t 2)))) ?_
                    refine wk_weak (Weak.close1 (nm := 22) (i := 0) (j := 3) (m := 20) (es := (List.replicate (byteAt t 2) (⟨#[]⟩ : ByteArray)).map strC) rfl rfl rfl rfl (by simp) (by decide)) ?_
                    refine wk_weak (Weak.close1 (nm := 22) (i := 0) (j := 4) (m := 21) (es := (List.replicate (byteAt t 2) false).map boolC) rfl rfl rfl rfl (by simp) (by decide)) ?_
                    refine wk_weak (Weak.node (m := 22) (nd' := ⟨6, clo [heldO (fresh fr t now)]⟩) rfl rfl) ?_
                    exact ⟨_, ⟨trivial, rfl⟩, (Weak.to (fun n => bif Nat.beq n 20 then 22 else n) _ _ _ (Nat.le_of_ble_eq_true rfl) (fun n hn => sgm_lo hn (Nat.le_of_ble_eq_true rfl) (rfl)) ⟨⟨rfl, rfl⟩, ⟨rfl, rfl⟩, ⟨rfl, rfl⟩, ⟨rfl, rfl⟩, ⟨rfl, rfl⟩, ⟨rfl, rfl⟩, ⟨rfl, rfl⟩, ⟨rfl, rfl⟩, ⟨rfl, rfl⟩, trivial⟩ ⟨⟨Nat.le_of_ble_eq_true rfl, _, rfl, ⟨rfl, rfl, belN_all rfl⟩⟩, ⟨Nat.le_of_ble_eq_true rfl, _, rfl, NR.clo _ _ _ _⟩, ⟨Nat.le_of_ble_eq_true rfl, _, rfl, ⟨rfl, rfl, belN_all rfl⟩⟩, ⟨Nat.le_of_ble_eq_true rfl, _, rfl, NR.clo _ _ _ _⟩, trivial⟩ (nodupB_ok rfl))⟩
                  · refine vl_alloc rfl (dk rfl) ?_
                    refine vl_nil ?_
                    refine va_all [6] (by kernel_rfl) (by simp) ⟨⟨_, rfl, ?_⟩, trivial⟩
                    refine vl_makeSlice rfl rfl rfl rfl rfl (by omega) (by omega) (by show ((1 : Nat) : Int) * _ ≤ _; omega) (by decide) (dk rfl) ?_
                    refine vl_nil ?_
                    refine va_q 9 rfl (by kernel_rfl) (by kernel_rfl) (by kernel_rfl) (q_build rfl rfl rfl rfl rfl) (dk rfl) ?_
                    refine va_all [11] (by kernel_rfl) (by simp) ⟨⟨_, rfl, ?_⟩, trivial⟩
                    refine vl_store rfl rfl rfl rfl rfl rfl (Nat.le_of_ble_eq_true rfl) trivial ?_
                    refine vl_nil ?_
                    refine va_done (by kernel_rfl) ?_
                    refine hK10 _ ?_
                    refine wk_weak (Weak.node (m := 20) (nd' := ⟨1, clo ((List.replicate (byteAt t 2) (⟨#[]⟩ : ByteArray)).map strC)⟩) rfl (congrArg (Vm.Node.mk 1) (rep_clo (f := strC) (x := ⟨#[]⟩) (n := byteAt t 2)))) ?_
                    refine wk_weak (Weak.node (m := 22) (nd' := ⟨1, clo ((List.replicate (byteAt t 2) false).map boolC)⟩) rfl (congrArg (Vm.Node.mk 1) (rep_clo (f := boolC) (x := false) (n := byteAt t 2)))) ?_
                    refine wk_weak (Weak.close1 (nm := 21) (i := 0) (j := 3) (m := 20) (es := (List.replicate (byteAt t 2) (⟨#[]⟩ : ByteArray)).map strC) rfl rfl rfl rfl (by simp) (by decide)) ?_
                    refine wk_weak (Weak.close1 (nm := 21) (i := 0) (j := 4) (m := 22) (es := (List.replicate (byteAt t 2) false).map boolC) rfl rfl rfl rfl (by simp) (by decide)) ?_
                    refine wk_weak (Weak.node (m := 21) (nd' := ⟨6, clo [heldO (fresh fr t now)]⟩) rfl rfl) ?_
                    exact ⟨_, ⟨trivial, rfl⟩, (Weak.to (fun n => bif Nat.beq n 20 then 21 else n) _ _ _ (Nat.le_of_ble_eq_true rfl) (fun n hn => sgm_lo hn (Nat.le_of_ble_eq_true rfl) (rfl)) ⟨⟨rfl, rfl⟩, ⟨rfl, rfl⟩, ⟨rfl, rfl⟩, ⟨rfl, rfl⟩, ⟨rfl, rfl⟩, ⟨rfl, rfl⟩, ⟨rfl, rfl⟩, ⟨rfl, rfl⟩, ⟨rfl, rfl⟩, trivial⟩ ⟨⟨Nat.le_of_ble_eq_true rfl, _, rfl, ⟨rfl, rfl, belN_all rfl⟩⟩, ⟨Nat.le_of_ble_eq_true rfl, _, rfl, NR.clo _ _ _ _⟩, ⟨Nat.le_of_ble_eq_true rfl, _, rfl, ⟨rfl, rfl, belN_all rfl⟩⟩, ⟨Nat.le_of_ble_eq_true rfl, _, rfl, NR.clo _ _ _ _⟩, trivial⟩ (nodupB_ok rfl))⟩
                · refine vl_makeSlice rfl rfl rfl rfl rfl (by omega) (by omega) (by show ((1 : Nat) : Int) * _ ≤ _; omega) (by decide) (dk rfl) ?_
                  refine vl_nil ?_
                  refine va_all [4, 10] (by kernel_rfl) (by simp) ⟨⟨_, rfl, ?_⟩, ⟨_, rfl, ?_⟩, trivial⟩
                  · refine vl_makeSlice rfl rfl rfl rfl rfl (by omega) (by omega) (by show ((16 : Nat) : Int) * _ ≤ _; omega) (by decide) (dk rfl) ?_
                    refine vl_nil ?_
                    refine va_q 9 rfl (by kernel_rfl) (by kernel_rfl) (by kernel_rfl) (q_build rfl rfl rfl rfl rfl) (dk rfl) ?_
                    refine va_all [10] (by kernel_rfl) (by simp) ⟨⟨_, rfl, ?_⟩, trivial⟩
                    refine vl_alloc rfl (dk rfl) ?_
                    refine vl_nil ?_
                    refine va_all [11] (by kernel_rfl) (by simp) ⟨⟨_, rfl, ?_⟩, trivial⟩
                    refine vl_store rfl rfl rfl rfl rfl rfl (Nat.le_of_ble_eq_true rfl) trivial ?_
                    refine vl_nil ?_
                    refine va_done (by kernel_rfl) ?_
                    refine hK10 _ ?_
                    refine wk_weak (Weak.node (m := 21) (nd' := ⟨1, clo ((List.replicate (byteAt t 2) (⟨#[]⟩ : ByteArray)).map strC)⟩) rfl (congrArg (Vm.Node.mk 1) (rep_clo (f := strC) (x := ⟨#[]⟩) (n := byteAt t 2)))) ?_
                    refine wk_weak (Weak.node (m := 20) (nd' := ⟨1, clo ((List.replicate (byteAt t 2) false).map boolC)⟩) rfl (congrArg (Vm.Node.mk 1) (rep_clo (f := boolC) (x := false) (n := byteAt t 2)))) ?_
                    refine wk_weak (Weak.close1 (nm := 22) (i := 0) (j := 3) (m := 21) (es := (List.replicate (byteAt t 2) (⟨#[]⟩ : ByteArray)).map strC) rfl rfl rfl rfl (by simp) (by decide)) ?_
                    refine wk_weak (Weak.close1 (nm := 22) (i := 0) (j := 4) (m := 20) (es := (List.replicate (byteAt t 2) false).map boolC) rfl rfl rfl rfl (by simp) (by decide)) ?_
                    refine wk_weak (Weak.node (m := 22) (nd' := ⟨6, clo [heldO (fresh fr t now)]⟩) rfl rfl) ?_
                    exact ⟨_, ⟨trivial, rfl⟩, (Weak.to (fun n => bif Nat.beq n 20 then 22 else n) _ _ _ (Nat.le_of_ble_eq_true rfl) (fun n hn => sgm_lo hn (Nat.le_of_ble_eq_true rfl) (rfl)) ⟨⟨rfl, rfl⟩, ⟨rfl, rfl⟩, ⟨rfl, rfl⟩, ⟨rfl, rfl⟩, ⟨rfl, rfl⟩, ⟨rfl, rfl⟩, ⟨rfl, rfl⟩, ⟨rfl, rfl⟩, ⟨rfl, rfl⟩, trivial⟩ ⟨⟨Nat.le_of_ble_eq_true rfl, _, rfl, ⟨rfl, rfl, belN_all rfl⟩⟩, ⟨Nat.le_of_ble_eq_true rfl, _, rfl, NR.clo _ _ _ _⟩, ⟨Nat.le_of_ble_eq_true rfl, _, rfl, ⟨rfl, rfl, belN_all rfl⟩⟩, ⟨Nat.le_of_ble_eq_true rfl, _, rfl, NR.clo _ _ _ _⟩, trivial⟩ (nodupB_ok rfl))⟩
                  · refine vl_alloc rfl (dk rfl) ?_
                    refine vl_nil ?_
                    refine va_all [4] (by kernel_rfl) (by simp) ⟨⟨_, rfl, ?_⟩, trivial⟩
                    refine vl_makeSlice rfl rfl rfl rfl rfl (by omega) (by omega) (by show ((16 : Nat) : Int) * _ ≤ _; omega) (by decide) (dk rfl) ?_
                    refine vl_nil ?_
                    refine va_q 9 rfl (by kernel_rfl) (by kernel_rfl) (by kernel_rfl) (q_build rfl rfl rfl rfl rfl) (dk rfl) ?_
                    refine va_all [11] (by kernel_rfl) (by simp) ⟨⟨_, rfl, ?_⟩, trivial⟩
                    refine vl_store rfl rfl rfl rfl rfl rfl (Nat.le_of_ble_eq_true rfl) trivial ?_
                    refine vl_nil ?_
                    refine va_done (by kernel_rfl) ?_
                    refine hK10 _ ?_
                    refine wk_weak (Weak.node (m := 22) (nd' := ⟨1, clo ((List.replicate (byteAt t 2) (⟨#[]⟩ : ByteArray)).map strC)⟩) rfl (congrArg (Vm.Node.mk 1) (rep_clo (f := strC) (x := ⟨#[]⟩) (n := byteAt t 2)))) ?_
                    refine wk_weak (Weak.node (m := 20) (nd' := ⟨1, clo ((List.replicate (byteAt t 2) false).map boolC)⟩) rfl (congrArg (Vm.Node.mk 1) (rep_clo (f := boolC) (x := false) (n := byteAt t 2)))) ?_
                    refine wk_weak (Weak.close1 (nm := 21) (i := 0) (j := 3) (m := 22) (es := (List.replicate (byteAt t 2) (⟨#[]⟩ : ByteArray)).map strC) rfl rfl rfl rfl (by simp) (by decide)) ?_
                    refine wk_weak (Weak.close1 (nm := 21) (i := 0) (j := 4) (m := 20) (es := (List.replicate (byteAt t 2) false).map boolC) rfl rfl rfl rfl (by simp) (by decide)) ?_
                    refine wk_weak (Weak.node (m := 21) (nd' := ⟨6, clo [heldO (fresh fr t now)]⟩) rfl rfl) ?_
                    exact ⟨_, ⟨trivial, rfl⟩, (Weak.to (fun n => bif Nat.beq n 20 then 21 else n) _ _ _ (Nat.le_of_ble_eq_true rfl) (fun n hn => sgm_lo hn (Nat.le_of_ble_eq_true rfl) (rfl)) ⟨⟨rfl, rfl⟩, ⟨rfl, rfl⟩, ⟨rfl, rfl⟩, ⟨rfl, rfl⟩, ⟨rfl, rfl⟩, ⟨rfl, rfl⟩, ⟨rfl, rfl⟩, ⟨rfl, rfl⟩, ⟨rfl, rfl⟩, trivial⟩ ⟨⟨Nat.le_of_ble_eq_true rfl, _, rfl, ⟨rfl, rfl, belN_all rfl⟩⟩, ⟨Nat.le_of_ble_eq_true rfl, _, rfl, NR.clo _ _ _ _⟩, ⟨Nat.le_of_ble_eq_true rfl, _, rfl, ⟨rfl, rfl, belN_all rfl⟩⟩, ⟨Nat.le_of_ble_eq_true rfl, _, rfl, NR.clo _ _ _ _⟩, trivial⟩ (nodupB_ok rfl))⟩
                · refine vl_alloc rfl (dk rfl) ?_
                  refine vl_nil ?_
                  refine va_all [4, 6] (by kernel_rfl) (by simp) ⟨⟨_, rfl, ?_⟩, ⟨_, rfl, ?_⟩, trivial⟩
                  · refine vl_makeSlice rfl rfl rfl rfl rfl (by omega) (by omega) (by show ((16 : Nat) : Int) * _ ≤ _; omega) (by decide) (dk rfl) ?_
                    refine vl_nil ?_
                    refine va_all [6] (by kernel_rfl) (by simp) ⟨⟨_, rfl, ?_⟩, trivial⟩
                    refine vl_makeSlice rfl rfl rfl rfl rfl (by omega) (by omega) (by show ((1 : Nat) : Int) * _ ≤ _; omega) (by decide) (dk rfl) ?_
                    refine vl_nil ?_
                    refine va_q 9 rfl (by kernel_rfl) (by kernel_rfl) (by kernel_rfl) (q_build rfl rfl rfl rfl rfl) (dk rfl) ?_
                    refine va_all [11] (by kernel_rfl) (by simp) ⟨⟨_, rfl, ?_⟩, trivial⟩
                    refine vl_store rfl rfl rfl rfl rfl rfl (Nat.le_of_ble_eq_true rfl) trivial ?_
                    refine vl_nil ?_
                    refine va_done (by kernel_rfl) ?_
                    refine hK10 _ ?_
                    refine wk_weak (Weak.node (m := 21) (nd' := ⟨1, clo ((List.replicate (byteAt t 2) (⟨#[]⟩ : ByteArray)).map strC)⟩) rfl (congrArg (Vm.Node.mk 1) (rep_clo (f := strC) (x := ⟨#[]⟩) (n := byteAt t 2)))) ?_
                    refine wk_weak (Weak.node (m := 22) (nd' := ⟨1, clo ((List.replicate (byteAt t 2) false).map boolC)⟩) rfl (congrArg (Vm.Node.mk 1) (rep_clo (f := boolC) (x := false) (n := byteAt t 2)))) ?_
                    refine wk_weak (Weak.close1 (nm := 20) (i := 0) (j := 3) (m := 21) (es := (List.replicate (byteAt t 2) (⟨#[]⟩ : ByteArray)).map strC) rfl rfl rfl rfl (by simp) (by decide)) ?_
                    refine wk_weak (Weak.close1 (nm := 20) (i := 0) (j := 4) (m := 22) (es := (List.replicate (byteAt t 2) false).map boolC) rfl rfl rfl rfl (by simp) (by decide)) ?_
                    refine wk_weak (Weak.node (m := 20) (nd' := ⟨6, clo [heldO (fresh fr t now)]⟩) rfl rfl) ?_
                    exact ⟨_, ⟨trivial, rfl⟩, (Weak.to (fun n => bif Nat.beq n 20 then 20 else n) _ _ _ (Nat.le_of_ble_eq_true rfl) (fun n hn => sgm_lo hn (Nat.le_of_ble_eq_true rfl) (rfl)) ⟨⟨rfl, rfl⟩, ⟨rfl, rfl⟩, ⟨rfl, rfl⟩, ⟨rfl, rfl⟩, ⟨rfl, rfl⟩, ⟨rfl, rfl⟩, ⟨rfl, rfl⟩, ⟨rfl, rfl⟩, ⟨rfl, rfl⟩, trivial⟩ ⟨⟨Nat.le_of_ble_eq_true rfl, _, rfl, ⟨rfl, rfl, belN_all rfl⟩⟩, ⟨Nat.le_of_ble_eq_true rfl, _, rfl, NR.clo _ _ _ _⟩, ⟨Nat.le_of_ble_eq_true rfl, _, rfl, ⟨rfl, rfl, belN_all rfl⟩⟩, ⟨Nat.le_of_ble_eq_true rfl, _, rfl, NR.clo _ _ _ _⟩, trivial⟩ (nodupB_ok rfl))⟩
                  · refine vl_makeSlice rfl rfl rfl rfl rfl (by omega) (by omega) (by show ((1 : Nat) : Int) * _ ≤ _; omega) (by decide) (dk rfl) ?_
                    refine vl_nil ?_
                    refine va_all [4] (by kernel_rfl) (by simp) ⟨⟨_, rfl, ?_⟩, trivial⟩
                    refine vl_makeSlice rfl rfl rfl rfl rfl (by omega) (by omega) (by show ((16 : Nat) : Int) * _ ≤ _; omega) (by decide) (dk rfl) ?_
                    refine vl_nil ?_
                    refine va_q 9 rfl (by kernel_rfl) (by kernel_rfl) (by kernel_rfl) (q_build rfl rfl rfl rfl rfl) (dk rfl) ?_
                    refine va_all [11] (by kernel_rfl) (by simp) ⟨⟨_, rfl, ?_⟩, trivial⟩
                    refine vl_store rfl rfl rfl rfl rfl rfl (Nat.le_of_ble_eq_true rfl) trivial ?_
                    refine vl_nil ?_
                    refine va_done (by kernel_rfl) ?_
                    refine hK10 _ ?_
                    refine wk_weak (Weak.node (m := 22) (nd' := ⟨1, clo ((List.replicate (byteAt t 2) (⟨#[]⟩ : ByteArray)).map strC)⟩) rfl (congrArg (Vm.Node.mk 1) (rep_clo (f := strC) (x := ⟨#[]⟩) (n := byteAt t 2)))) ?_
                    refine wk_weak (Weak.node (m := 21) (nd' := ⟨1, clo ((List.replicate (byteAt t 2) false).map boolC)⟩) rfl (congrArg (Vm.Node.mk 1) (rep_clo (f := boolC) (x := false) (n := byteAt t 2)))) ?_
                    refine wk_weak (Weak.close1 (nm := 20) (i := 0) (j := 3) (m := 22) (es := (List.replicate (byteAt t 2) (⟨#[]⟩ : ByteArray)).map strC) rfl rfl rfl rfl (by simp) (by decide)) ?_
                    refine wk_weak (Weak.close1 (nm := 20) (i := 0) (j := 4) (m := 21) (es := (List.replicate (byteAt t 2) false).map boolC) rfl rfl rfl rfl (by simp) (by decide)) ?_
                    refine wk_weak (Weak.node (m := 20) (nd' := ⟨6, clo [heldO (fresh fr t now)]⟩) rfl rfl) ?_
                    exact ⟨_, ⟨trivial, rfl⟩, (Weak.to (fun n => bif Nat.beq n 20 then 20 else n) _ _ _ (Nat.le_of_ble_eq_true rfl) (fun n hn => sgm_lo hn (Nat.le_of_ble_eq_true rfl) (rfl)) ⟨⟨rfl, rfl⟩, ⟨rfl, rfl⟩, ⟨rfl, rfl⟩, ⟨rfl, rfl⟩, ⟨rfl, rfl⟩, ⟨rfl, rfl⟩, ⟨rfl, rfl⟩, ⟨rfl, rfl⟩, ⟨rfl, rfl⟩, trivial⟩ ⟨⟨Nat.le_of_ble_eq_true rfl, _, rfl, ⟨rfl, rfl, belN_all rfl⟩⟩, ⟨Nat.le_of_ble_eq_true rfl, _, rfl, NR.clo _ _ _ _⟩, ⟨Nat.le_of_ble_eq_true rfl, _, rfl, ⟨rfl, rfl, belN_all rfl⟩⟩, ⟨Nat.le_of_ble_eq_true rfl, _, rfl, NR.clo _ _ _ _⟩, trivial⟩ (nodupB_ok rfl))⟩
              obtain ⟨_, rfl⟩ := hI
              refine vc_seq fun K12 hK12 => ?_
              refine vc_region ?_
              refine vl_bslice rfl rfl rfl rfl rfl rfl trivial (by decide) (by decide) (dk rfl) ?_
              refine vl_q (q_assign rfl) (dk rfl) ?_
              refine vl_nil ?_
              refine hK12 _ ?_
              refine vc_seq fun K13 hK13 => ?_
              refine vc_region ?_
              refine vl_q (q_assign rfl) (dk rfl) ?_
              refine vl_nil ?_
              refine hK13 _ ?_
              refine vc_seq fun K14 hK14 => ?_
              refine vc_seq fun K15 hK15 => ?_
              refine vc_region ?_
              refine vl_q (q_assign rfl) (dk rfl) ?_
              refine vl_nil ?_
              refine hK15 _ ?_
              refine vc_block ?_
              refine vc_weak (Weak.node (m := 18) (nd' := ⟨6, clo (jkR l 0)⟩) rfl (congrArg (fun z => Vm.Node.mk 6 (clo z)) (jkR_zero l).symm)) ?_
              refine vc_weak (Weak.node (m := 21) (nd' := ⟨6, clo ((rst l fr t 0).map heldF)⟩) rfl (by rw [rst_zero]; rfl)) ?_
              refine vc_loop (fun mz st => ∃ i : Nat, ∃ x : Held, ∃ at1 : Int, (i ≤ l.length ∧ XP l fr t now i x at1) ∧ mz = l.length - i ∧ st = mkSt [(1, .v (iv fr)), (3, .v (iv now)), (8, .v (.one (.ptr 17 0 0))), (11, .v (iv (byteAt t 0))), (12, .v (iv (byteAt t 1))), (13, .v (iv (byteAt t 2))), (14, .v (sv (part t))), (16, .v (.one (.ptr 19 0 0))), (17, .v (.one (.ptr 20 0 0))), (18, .v (.one (.hdr 21 0 (rst l fr t i).length))), (19, .v (iv at1)), (20, .v (iv (i : Nat)))] [(17, ⟨1, [[.c (.val (.slice none 0 0))]]⟩), (18, ⟨6, clo (jkR l i)⟩), (19, ⟨1, [[.hdr 18 0 l.length]]⟩), (20, ⟨6, clo [heldO x]⟩), (21, ⟨6, clo ((rst l fr t i).map heldF)⟩)] 22) ⟨_, _, ⟨0, fresh fr t now, -1, ⟨by omega, XP_zero⟩, rfl, rfl⟩, (Weak.cut _ _ _ (Nat.le_of_ble_eq_true rfl) ⟨⟨rfl, rfl⟩, ⟨rfl, rfl⟩, ⟨rfl, rfl⟩, ⟨rfl, rfl⟩, ⟨rfl, rfl⟩, ⟨rfl, rfl⟩, ⟨rfl, rfl⟩, ⟨rfl, rfl⟩, ⟨rfl, rfl⟩, ⟨by rw [rst_zero]; rfl, rfl⟩, ⟨rfl, rfl⟩, ⟨rfl, rfl⟩, trivial⟩ ⟨⟨Nat.le_of_ble_eq_true rfl, rfl, belN_all rfl⟩, ⟨Nat.le_of_ble_eq_true rfl, rfl, belN_clo _ _ _⟩, ⟨Nat.le_of_ble_eq_true rfl, rfl, belN_all rfl⟩, ⟨Nat.le_of_ble_eq_true rfl, rfl, belN_clo _ _ _⟩, ⟨Nat.le_of_ble_eq_true rfl, rfl, belN_clo _ _ _⟩, trivial⟩ rfl)⟩ (fun mz st hI => ?_)
              obtain ⟨i, x, at1, ⟨hi, hx⟩, hmz, rfl⟩ := hI
              refine vc_seq fun K16 hK16 => ?_
              refine vc_seq fun K17 hK17 => ?_
              refine vc_region ?_
              refine vl_q (q_move rfl) (dk rfl) ?_
              refine vl_q (q_fieldAddr 0 rfl rfl rfl rfl (by decide) rfl rfl) (dk rfl) ?_
              refine vl_load rfl rfl rfl rfl rfl rfl rfl (by decide) (dk rfl) ?_
              refine vl_q (q_len_hdr rfl rfl rfl) (dk rfl) ?_
              refine vl_two (x := fun b => vv (.bool b)) _ (q_cmp rfl rfl rfl rfl) (dk rfl) (fun h77 => ?_) (fun h77 => ?_)
              · replace h77 := lss_of h77
                refine vl_nil ?_
                refine hK17 _ ?_
                refine vc_cond_true rfl ?_
                refine vc_skip ?_
                refine hK16 _ ?_
                refine vc_seq fun K18 hK18 => ?_
                refine vc_block ?_
                refine vc_seq fun K19 hK19 => ?_
                have hil : i < l.length := by omega
                have hic : i < (clo (jkR l i)).length := by rw [clo_len, jkR_len hi]; exact hil
                have hwid := clo_wid (jkR_wid l i)
                have hrl := rst_le (l := l) (fr := fr) (t := t) i
                refine vc_region ?_
                refine vl_q (q_fieldAddr 0 rfl rfl rfl rfl (by decide) rfl rfl) (dk rfl) ?_
                refine vl_load rfl rfl rfl rfl rfl rfl rfl (by decide) (dk rfl) ?_
                refine vl_q (q_move rfl) (dk rfl) ?_
                refine vl_q (q_indexAddr rfl rfl rfl rfl rfl rfl rfl (by omega) (by omega)) (dk rfl) ?_
                refine vl_open (nm := 18) (i := i) (j := 3) rfl rfl rfl (jkR_at hil) rfl rfl ?_
                simp only [List.set_set, List.length_map, Int.toNat_natCast, Nat.add_zero]
                refine vl_open (nm := 18) (i := i) (j := 4) rfl rfl rfl (set_get hic) rfl rfl ?_
                simp only [List.set_set, List.length_map, Int.toNat_natCast, Nat.add_zero]
                refine vl_load rfl rfl rfl (set_get hic) rfl rfl rfl (by decide) (dk rfl) ?_
                refine vl_alloc rfl (dk rfl) ?_
                refine vl_store rfl rfl rfl rfl rfl rfl (Nat.le_of_ble_eq_true rfl) trivial ?_
                refine vl_nil ?_
                refine hK19 _ ?_
                refine vc_seq fun K20 hK20 => ?_
                refine vc_seq fun K21 hK21 => ?_
                refine vc_region ?_
                refine vl_q (q_fieldAddr 0 rfl rfl rfl rfl (by decide) rfl rfl) (dk rfl) ?_
                refine vl_load rfl rfl rfl rfl rfl rfl rfl (by decide) (dk rfl) ?_
                refine vl_q (q_move rfl) (dk rfl) ?_
                refine vl_two (x := fun b => vv (.bool b)) _ (q_cmp rfl rfl rfl rfl) (dk rfl) (fun h88 => ?_) (fun h88 => ?_)
                · replace h88 := eql_of h88
                  refine vl_q (q_move rfl) (dk rfl) ?_
                  refine vl_guard_on rfl rfl rfl ?_
                  refine vl_q (q_fieldAddr 1 rfl rfl rfl rfl (by decide) rfl rfl) (dk rfl) ?_
                  refine vl_guard_on rfl rfl rfl ?_
                  refine vl_load rfl rfl rfl rfl rfl rfl rfl (by decide) (dk rfl) ?_
                  refine vl_guard_on rfl rfl rfl ?_
                  refine vl_q (q_move rfl) (dk rfl) ?_
                  refine vl_guard_on rfl rfl rfl ?_
                  refine vl_two (x := fun b => vv (.bool b)) _ (q_cmp rfl rfl rfl rfl) (dk rfl) (fun h93 => ?_) (fun h93 => ?_)
                  · replace h93 := eql_of h93
                    refine vl_q (q_pick_true rfl rfl) (dk rfl) ?_
                    refine vl_nil ?_
                    refine hK21 _ ?_
                    refine vc_cond_true rfl ?_
                    refine vc_seq fun K22 hK22 => ?_
                    refine vc_seq fun K23 hK23 => ?_
                    refine vc_region ?_
                    refine vl_q (q_fieldAddr 2 rfl rfl rfl rfl (by decide) rfl rfl) (dk rfl) ?_
                    refine vl_load rfl rfl rfl rfl rfl rfl rfl (by decide) (dk rfl) ?_
                    refine vl_q (q_move rfl) (dk rfl) ?_
                    refine vl_two (x := fun b => vv (.bool b)) _ (q_cmp rfl rfl rfl rfl) (dk rfl) (fun h98 => ?_) (fun h98 => ?_)
                    · replace h98 := eql_of h98
                      refine vl_nil ?_
                      refine hK23 _ ?_
                      refine vc_cond_true rfl ?_
                      refine vc_seq fun K24 hK24 => ?_
                      refine vc_region ?_
                      refine vl_load rfl rfl rfl rfl rfl rfl rfl (by decide) (dk rfl) ?_
                      refine vl_store rfl rfl rfl rfl rfl rfl (Nat.le_of_ble_eq_true rfl) trivial ?_
                      refine vl_nil ?_
                      refine hK24 _ ?_
                      have hkk0 : kIdx l fr t = i := kIdx_is hsg hil (sameK_t h88 h93)
                      have hra := rst_at hil hkk0
                      refine vc_region ?_
                      refine vl_q (q_move rfl) (dk rfl) ?_
                      refine vl_q (q_len_hdr rfl rfl rfl) (dk rfl) ?_
                      refine vl_q (q_assign rfl) (dk rfl) ?_
                      refine vl_nil ?_
                      refine hK22 _ ?_
                      refine vc_exit ?_
                      refine hK18 _ ?_
                      have hkk : kIdx l fr t = i := kIdx_is hsg hil (sameK_t h88 h93)
                      refine vc_weak (Weak.close1 (nm := 20) (i := 0) (j := 3) (m := 22) (es := l[i].parts.map strC) rfl rfl rfl rfl (by simp) (by decide)) ?_
                      refine vc_weak (Weak.close1 (nm := 20) (i := 0) (j := 4) (m := 23) (es := l[i].hav.map boolC) rfl rfl rfl rfl (by simp) (by decide)) ?_
                      refine vc_weak (Weak.node (m := 20) (nd' := ⟨6, clo [heldO l[i]]⟩) rfl rfl) ?_
                      refine vc_weak (Weak.node (m := 21) (nd' := ⟨6, clo ((rst l fr t (i + 1)).map heldF)⟩) rfl (congrArg (fun z => Vm.Node.mk 6 (clo (List.map heldF z))) (rst_eq hil hkk).symm)) ?_
                      refine vc_weak (Weak.junk (m := 18) (i := i) rfl (set_get hic) rfl (set_wid hwid rfl)) ?_
                      refine vc_weak (Weak.node (m := 18) (nd' := ⟨6, clo (jkR l (i + 1))⟩) rfl (congrArg (Vm.Node.mk 6) ((List.set_set _).trans (jkR_next hil)))) ?_
                      refine vc_region ?_
                      refine vl_q (q_move rfl) (dk rfl) ?_
                      refine vl_q (q_add rfl rfl (IntWalk.i64_in _ (by omega))) (dk rfl) ?_
                      refine vl_q (q_assign rfl) (dk rfl) ?_
                      refine vl_nil ?_
                      refine ⟨_, _, ?_, ⟨i + 1, l[i], (i : Nat), ⟨by omega, XP_yes hil hkk h98⟩, rfl, rfl⟩, (Weak.to (fun n => n) _ _ _ (Nat.le_of_ble_eq_true rfl) (fun n hn => rfl) ⟨⟨rfl, rfl⟩, ⟨rfl, rfl⟩, ⟨rfl, rfl⟩, ⟨rfl, rfl⟩, ⟨rfl, rfl⟩, ⟨rfl, rfl⟩, ⟨rfl, rfl⟩, ⟨rfl, rfl⟩, ⟨rfl, rfl⟩, ⟨by rw [rst_eq hil hkk]; rfl, rfl⟩, ⟨iv_eq (by omega), rfl⟩, ⟨rfl, rfl⟩, trivial⟩ ⟨⟨Nat.le_of_ble_eq_true rfl, _, rfl, ⟨rfl, rfl, belN_all rfl⟩⟩, ⟨Nat.le_of_ble_eq_true rfl, _, rfl, NR.clo _ _ _ _⟩, ⟨Nat.le_of_ble_eq_true rfl, _, rfl, ⟨rfl, rfl, belN_all rfl⟩⟩, ⟨Nat.le_of_ble_eq_true rfl, _, rfl, NR.clo _ _ _ _⟩, ⟨Nat.le_of_ble_eq_true rfl, _, rfl, NR.clo _ _ _ _⟩, trivial⟩ (nodupB_ok rfl))⟩
                      omega
                    · replace h98 := eql_nof h98
                      refine vl_nil ?_
                      refine hK23 _ ?_
                      refine vc_cond_false rfl ?_
                      refine vc_skip ?_
                      refine hK22 _ ?_
                      refine vc_exit ?_
                      refine hK18 _ ?_
                      have hkk : kIdx l fr t = i := kIdx_is hsg hil (sameK_t h88 h93)
                      refine vc_weak (Weak.node (m := 21) (nd' := ⟨6, clo ((rst l fr t (i + 1)).map heldF)⟩) rfl (congrArg (fun z => Vm.Node.mk 6 (clo (List.map heldF z))) (rst_eq hil hkk).symm)) ?_
                      refine vc_weak (Weak.junk (m := 18) (i := i) rfl (set_get hic) rfl (set_wid hwid rfl)) ?_
                      refine vc_weak (Weak.node (m := 18) (nd' := ⟨6, clo (jkR l (i + 1))⟩) rfl (congrArg (Vm.Node.mk 6) ((List.set_set _).trans (jkR_next hil)))) ?_
                      refine vc_region ?_
                      refine vl_q (q_move rfl) (dk rfl) ?_
                      refine vl_q (q_add rfl rfl (IntWalk.i64_in _ (by omega))) (dk rfl) ?_
                      refine vl_q (q_assign rfl) (dk rfl) ?_
                      refine vl_nil ?_
                      refine ⟨_, _, ?_, ⟨i + 1, x, at1, ⟨by omega, XP_no hx hil hkk h98⟩, rfl, rfl⟩, (Weak.to (fun n => n) _ _ _ (Nat.le_of_ble_eq_true rfl) (fun n hn => rfl) ⟨⟨rfl, rfl⟩, ⟨rfl, rfl⟩, ⟨rfl, rfl⟩, ⟨rfl, rfl⟩, ⟨rfl, rfl⟩, ⟨rfl, rfl⟩, ⟨rfl, rfl⟩, ⟨rfl, rfl⟩, ⟨rfl, rfl⟩, ⟨by rw [rst_eq hil hkk]; rfl, rfl⟩, ⟨rfl, rfl⟩, ⟨rfl, rfl⟩, trivial⟩ ⟨⟨Nat.le_of_ble_eq_true rfl, _, rfl, ⟨rfl, rfl, belN_all rfl⟩⟩, ⟨Nat.le_of_ble_eq_true rfl, _, rfl, NR.clo _ _ _ _⟩, ⟨Nat.le_of_ble_eq_true rfl, _, rfl, ⟨rfl, rfl, belN_all rfl⟩⟩, ⟨Nat.le_of_ble_eq_true rfl, _, rfl, NR.clo _ _ _ _⟩, ⟨Nat.le_of_ble_eq_true rfl, _, rfl, NR.clo _ _ _ _⟩, trivial⟩ (nodupB_ok rfl))⟩
                      omega
                  · replace h93 := eql_nof h93
                    have hnk : ¬ (sameK fr (byteAt t 0) l[i] = true) := fun e => by simp only [sameK, Bool.and_eq_true, decide_eq_true_eq] at e; exact h93 e.2
                    refine vl_q (q_pick_true rfl rfl) (dk rfl) ?_
                    refine vl_nil ?_
                    refine hK21 _ ?_
                    refine vc_cond_false rfl ?_
                    refine vc_skip ?_
                    refine hK20 _ ?_
                    refine vc_region ?_
                    refine vl_q (q_move rfl) (dk rfl) ?_
                    refine vl_load rfl rfl rfl rfl rfl rfl rfl (by decide) (dk rfl) ?_
                    refine vl_bslice rfl rfl rfl rfl rfl rfl ⟨rfl, trivial⟩ (by decide) (by decide) (dk rfl) ?_
                    refine vl_append rfl rfl rfl rfl (fun _ h => TypeDesc.noConfusion h) rfl rfl rfl (by rw [Nat.zero_add]; exact Nat.le_of_eq (by simp [clo_len])) (src_row rfl rfl rfl rfl) (by show (_ + 1) * 80 ≤ _; omega) (by show _ + 1 < _; omega) (dk rfl) ?_
                    refine vl_q (q_assign rfl) (dk rfl) ?_
                    refine vl_nil ?_
                    refine hK18 _ ?_
                    have hkn : kIdx l fr t ≠ i := fun e => hnk (key_of hil e)
                    refine vc_weak (Weak.node (m := 26) rfl (congrArg (Vm.Node.mk 6) (app_take (by simp)))) ?_
                    refine vc_weak (Weak.frzC rfl (nm := 26) (i := (rst l fr t i).length) (j := 3) (m := 22) (es := l[i].parts.map strC) (es' := l[i].parts.map strC) rfl (app_get (by simp)) rfl rfl (by simp) (by decide) (strs_frz _ _ (by simp))) ?_
                    refine vc_weak (Weak.frzC rfl (nm := 26) (i := (rst l fr t i).length) (j := 4) (m := 23) (es := l[i].hav.map boolC) (es' := l[i].hav.map boolC) rfl (set_get (app_lt (by simp))) rfl rfl (by simp) (by decide) (bools_frz _ _ (by simp))) ?_
                    refine vc_weak (Weak.node (m := 26) (nd' := ⟨6, clo ((rst l fr t (i + 1)).map heldF)⟩) rfl (congrArg (Vm.Node.mk 6) ((List.set_set _).trans ((app_set (by simp)).trans ((clo_one (f := heldF) (x := l[i])).trans (by rw [rst_ne hil hkn])))))) ?_
                    refine vc_weak (Weak.junk (m := 18) (i := i) rfl (set_get hic) rfl (set_wid hwid rfl)) ?_
                    refine vc_weak (Weak.node (m := 18) (nd' := ⟨6, clo (jkR l (i + 1))⟩) rfl (congrArg (Vm.Node.mk 6) ((List.set_set _).trans (jkR_next hil)))) ?_
                    refine vc_region ?_
                    refine vl_q (q_move rfl) (dk rfl) ?_
                    refine vl_q (q_add rfl rfl (IntWalk.i64_in _ (by omega))) (dk rfl) ?_
                    refine vl_q (q_assign rfl) (dk rfl) ?_
                    refine vl_nil ?_
                    refine ⟨_, _, ?_, ⟨i + 1, x, at1, ⟨by omega, XP_ne hx hkn⟩, rfl, rfl⟩, (Weak.to (fun n => bif Nat.beq n 21 then 26 else n) _ _ _ (Nat.le_of_ble_eq_true rfl) (fun n hn => sgm_lo hn (Nat.le_of_ble_eq_true rfl) (rfl)) ⟨⟨rfl, rfl⟩, ⟨rfl, rfl⟩, ⟨rfl, rfl⟩, ⟨rfl, rfl⟩, ⟨rfl, rfl⟩, ⟨rfl, rfl⟩, ⟨rfl, rfl⟩, ⟨rfl, rfl⟩, ⟨rfl, rfl⟩, ⟨by rw [rst_ne hil hkn, List.length_append]; rfl, rfl⟩, ⟨rfl, rfl⟩, ⟨rfl, rfl⟩, trivial⟩ ⟨⟨Nat.le_of_ble_eq_true rfl, _, rfl, ⟨rfl, rfl, belN_all rfl⟩⟩, ⟨Nat.le_of_ble_eq_true rfl, _, rfl, NR.clo _ _ _ _⟩, ⟨Nat.le_of_ble_eq_true rfl, _, rfl, ⟨rfl, rfl, belN_all rfl⟩⟩, ⟨Nat.le_of_ble_eq_true rfl, _, rfl, NR.clo _ _ _ _⟩, ⟨Nat.le_of_ble_eq_true rfl, _, rfl, NR.clo _ _ _ _⟩, trivial⟩ (nodupB_ok rfl))⟩
                    omega
                · replace h88 := eql_nof h88
                  have hnk : ¬ (sameK fr (byteAt t 0) l[i] = true) := fun e => by simp only [sameK, Bool.and_eq_true, decide_eq_true_eq] at e; exact h88 e.1
                  refine vl_q (q_move rfl) (dk rfl) ?_
                  refine vl_goff rfl rfl rfl (by decide) (dk rfl) ?_
                  refine vl_goff rfl rfl rfl (by decide) (dk rfl) ?_
                  refine vl_goff rfl rfl rfl (by decide) (dk rfl) ?_
                  refine vl_goff rfl rfl rfl (by decide) (dk rfl) ?_
                  refine vl_q (q_pick_false rfl rfl) (dk rfl) ?_
                  refine vl_nil ?_
                  refine hK21 _ ?_
                  refine vc_cond_false rfl ?_
                  refine vc_skip ?_
                  refine hK20 _ ?_
                  refine vc_region ?_
                  refine vl_q (q_move rfl) (dk rfl) ?_
                  refine vl_load rfl rfl rfl rfl rfl rfl rfl (by decide) (dk rfl) ?_
                  refine vl_bslice rfl rfl rfl rfl rfl rfl ⟨rfl, trivial⟩ (by decide) (by decide) (dk rfl) ?_
                  refine vl_append rfl rfl rfl rfl (fun _ h => TypeDesc.noConfusion h) rfl rfl rfl (by rw [Nat.zero_add]; exact Nat.le_of_eq (by simp [clo_len])) (src_row rfl rfl rfl rfl) (by show (_ + 1) * 80 ≤ _; omega) (by show _ + 1 < _; omega) (dk rfl) ?_
                  refine vl_q (q_assign rfl) (dk rfl) ?_
                  refine vl_nil ?_
                  refine hK18 _ ?_
                  have hkn : kIdx l fr t ≠ i := fun e => hnk (key_of hil e)
                  refine vc_weak (Weak.node (m := 26) rfl (congrArg (Vm.Node.mk 6) (app_take (by simp)))) ?_
                  refine vc_weak (Weak.frzC rfl (nm := 26) (i := (rst l fr t i).length) (j := 3) (m := 22) (es := l[i].parts.map strC) (es' := l[i].parts.map strC) rfl (app_get (by simp)) rfl rfl (by simp) (by decide) (strs_frz _ _ (by simp))) ?_
                  refine vc_weak (Weak.frzC rfl (nm := 26) (i := (rst l fr t i).length) (j := 4) (m := 23) (es := l[i].hav.map boolC) (es' := l[i].hav.map boolC) rfl (set_get (app_lt (by simp))) rfl rfl (by simp) (by decide) (bools_frz _ _ (by simp))) ?_
                  refine vc_weak (Weak.node (m := 26) (nd' := ⟨6, clo ((rst l fr t (i + 1)).map heldF)⟩) rfl (congrArg (Vm.Node.mk 6) ((List.set_set _).trans ((app_set (by simp)).trans ((clo_one (f := heldF) (x := l[i])).trans (by rw [rst_ne hil hkn])))))) ?_
                  refine vc_weak (Weak.junk (m := 18) (i := i) rfl (set_get hic) rfl (set_wid hwid rfl)) ?_
                  refine vc_weak (Weak.node (m := 18) (nd' := ⟨6, clo (jkR l (i + 1))⟩) rfl (congrArg (Vm.Node.mk 6) ((List.set_set _).trans (jkR_next hil)))) ?_
                  refine vc_region ?_
                  refine vl_q (q_move rfl) (dk rfl) ?_
                  refine vl_q (q_add rfl rfl (IntWalk.i64_in _ (by omega))) (dk rfl) ?_
                  refine vl_q (q_assign rfl) (dk rfl) ?_
                  refine vl_nil ?_
                  refine ⟨_, _, ?_, ⟨i + 1, x, at1, ⟨by omega, XP_ne hx hkn⟩, rfl, rfl⟩, (Weak.to (fun n => bif Nat.beq n 21 then 26 else n) _ _ _ (Nat.le_of_ble_eq_true rfl) (fun n hn => sgm_lo hn (Nat.le_of_ble_eq_true rfl) (rfl)) ⟨⟨rfl, rfl⟩, ⟨rfl, rfl⟩, ⟨rfl, rfl⟩, ⟨rfl, rfl⟩, ⟨rfl, rfl⟩, ⟨rfl, rfl⟩, ⟨rfl, rfl⟩, ⟨rfl, rfl⟩, ⟨rfl, rfl⟩, ⟨by rw [rst_ne hil hkn, List.length_append]; rfl, rfl⟩, ⟨rfl, rfl⟩, ⟨rfl, rfl⟩, trivial⟩ ⟨⟨Nat.le_of_ble_eq_true rfl, _, rfl, ⟨rfl, rfl, belN_all rfl⟩⟩, ⟨Nat.le_of_ble_eq_true rfl, _, rfl, NR.clo _ _ _ _⟩, ⟨Nat.le_of_ble_eq_true rfl, _, rfl, ⟨rfl, rfl, belN_all rfl⟩⟩, ⟨Nat.le_of_ble_eq_true rfl, _, rfl, NR.clo _ _ _ _⟩, ⟨Nat.le_of_ble_eq_true rfl, _, rfl, NR.clo _ _ _ _⟩, trivial⟩ (nodupB_ok rfl))⟩
                  omega
              · replace h77 := lss_nof h77
                refine vl_nil ?_
                refine hK17 _ ?_
                refine vc_cond_false rfl ?_
                refine vc_exit ?_
                refine hK14 _ ?_
                refine vc_seq fun K25 hK25 => ?_
                refine vc_seq fun K26 hK26 => ?_
                obtain rfl : i = l.length := by omega
                obtain ⟨hxh, hxp⟩ := XP_len hsg hx
                have hph : byteAt t 1 < x.hav.length := by omega
                have hpp : byteAt t 1 < x.parts.length := by omega
                refine vc_weak (Weak.node (m := 21) (nd' := ⟨6, clo ((l.eraseIdx (kIdx l fr t)).map heldF)⟩) rfl (congrArg (fun z => Vm.Node.mk 6 (clo (List.map heldF z))) rst_full)) ?_
                refine vc_weak (Weak.lit (d := 18) (y := .v (.one (.hdr 21 0 (l.eraseIdx (kIdx l fr t)).length))) rfl (by rw [rst_full])) ?_
                refine vc_region ?_
                refine vl_q (q_fieldAddr 4 rfl rfl rfl rfl (by decide) rfl rfl) (dk rfl) ?_
                refine vl_open (nm := 20) (i := 0) (j := 4) rfl rfl rfl rfl rfl rfl ?_
                simp only [List.set_set, List.length_map, Int.toNat_natCast, Nat.add_zero]
                refine vl_load rfl rfl rfl rfl rfl rfl rfl (by decide) (dk rfl) ?_
                refine vl_q (q_move rfl) (dk rfl) ?_
                refine vl_q (q_indexAddr rfl rfl rfl rfl rfl rfl rfl (by omega) (by omega)) (dk rfl) ?_
                try simp only [List.set_set, List.length_map, Int.toNat_natCast, Nat.add_zero]
                refine vl_load rfl rfl rfl (clo_get hph) rfl rfl rfl (by decide) (dk rfl) ?_
                refine vl_bool 110 rfl (fun h110 => ?_) (fun h110 => ?_)
                · have hbt : x.hav[byteAt t 1] = true := h110
                  refine vl_q (q_not rfl) (dk rfl) ?_
                  refine vl_nil ?_
                  refine hK26 _ ?_
                  refine vc_cond_false rfl ?_
                  refine vc_skip ?_
                  refine hK25 _ ?_
                  refine vc_seq fun K27 hK27 => ?_
                  refine vc_seq fun K28 hK28 => ?_
                  have hy := put_t (s := part t) hph hbt
                  refine vc_weak (Weak.open1 (nm := 20) (i := 0) (j := 3) rfl rfl rfl) ?_
                  simp only [List.set_set, List.length_map, Int.toNat_natCast, Nat.add_zero]
                  refine vc_weak (Weak.frzC rfl (nm := 20) (i := 0) (j := 4) (m := 22) (es := x.hav.map boolC) (es' := x.hav.map boolC) rfl rfl rfl rfl (by simp) (by decide) (bools_frz _ _ (by simp))) ?_
                  refine vc_weak (Weak.frzC rfl (nm := 20) (i := 0) (j := 3) (m := 23) (es := x.parts.map strC) (es' := x.parts.map strC) rfl rfl rfl rfl (by simp) (by decide) (strs_frz _ _ (by simp))) ?_
                  obtain ⟨y, hyy⟩ : ∃ y, putPart x (byteAt t 1) (part t) = y := ⟨_, rfl⟩
                  refine vc_weak (Weak.node (m := 20) (nd' := ⟨6, clo [heldF y]⟩) rfl (by rw [← hyy, hy]; rfl)) ?_
                  have hyh : y.hav.length = byteAt t 2 := by rw [← hyy, (put_len _ _ _).2]; exact hxh
                  have hyp : y.parts.length = byteAt t 2 := by rw [← hyy, (put_len _ _ _).1]; exact hxp
                  have hys : sumOf ByteArray.size y.parts ≤ 1800 := by rw [← hyy]; exact XP_sz hsg hx hrp (by omega)
                  have hyz : szHeld y ≤ 2000 := sz_held (by omega) (by omega) hys
                  have hrz : ∀ z, z ∈ l.eraseIdx (kIdx l fr t) → szHeld z ≤ 2000 := fun z hz => sz_good hsg z (List.mem_of_mem_eraseIdx hz)
                  have hrl : (l.eraseIdx (kIdx l fr t)).length ≤ 3 := by rw [List.length_eraseIdx]; split <;> omega
                  refine vc_region ?_
                  refine vl_load rfl rfl rfl rfl rfl rfl rfl (by decide) (dk rfl) ?_
                  refine vl_callP (c_spec_l20All y) rfl rfl ⟨VOk.agg ⟨XOk.val _, XOk.val _, XOk.val _, XOk.fzH (strsC_shr _), XOk.fzH (boolsC_shr _), XOk.val _, trivial⟩, trivial⟩ rfl (.inl rfl) (dk rfl) ?_
                  refine vl_bool 122 rfl (fun h122 => ?_) (fun h122 => ?_)
                  · have e := XP_full hok hrp h1 hx (by rw [hyy]; exact h122)
                    rw [hyy] at e
                    refine vl_nil ?_
                    refine hK28 _ ?_
                    refine vc_cond_true rfl ?_
                    refine vc_seq fun K29 hK29 => ?_
                    refine vc_region ?_
                    refine vl_q (q_assign rfl) (dk rfl) ?_
                    refine vl_nil ?_
                    refine hK29 _ ?_
                    refine vc_seq fun K30 hK30 => ?_
                    refine vc_seq fun K31 hK31 => ?_
                    refine vc_region ?_
                    refine vl_q (q_assign rfl) (dk rfl) ?_
                    refine vl_nil ?_
                    refine hK31 _ ?_
                    refine vc_block ?_
                    refine vc_loop (fun mz st => ∃ k : Nat, (k ≤ y.parts.length) ∧ mz = y.parts.length - k ∧ st = mkSt [(1, .v (iv fr)), (3, .v (iv now)), (8, .v (.one (.ptr 17 0 0))), (11, .v (iv (byteAt t 0))), (12, .v (iv (byteAt t 1))), (13, .v (iv (byteAt t 2))), (14, .v (sv (part t))), (17, .v (.one (.ptr 20 0 0))), (18, .v (.one (.hdr 21 0 (l.eraseIdx (kIdx l fr t)).length))), (22, .v (sv (catS (y.parts.take k)))), (23, .v (iv (k : Nat)))] [(17, ⟨1, [[.c (.val (.slice none 0 0))]]⟩), (20, ⟨6, clo [heldF y]⟩), (21, ⟨6, clo ((l.eraseIdx (kIdx l fr t)).map heldF)⟩)] 22) ⟨_, _, ⟨0, by omega, rfl, rfl⟩, (Weak.cut _ _ _ (Nat.le_of_ble_eq_true rfl) ⟨⟨rfl, rfl⟩, ⟨rfl, rfl⟩, ⟨rfl, rfl⟩, ⟨rfl, rfl⟩, ⟨rfl, rfl⟩, ⟨rfl, rfl⟩, ⟨rfl, rfl⟩, ⟨rfl, rfl⟩, ⟨rfl, rfl⟩, ⟨rfl, rfl⟩, ⟨rfl, rfl⟩, trivial⟩ ⟨⟨Nat.le_of_ble_eq_true rfl, rfl, belN_all rfl⟩, ⟨Nat.le_of_ble_eq_true rfl, rfl, belN_clo _ _ _⟩, ⟨Nat.le_of_ble_eq_true rfl, rfl, belN_clo _ _ _⟩, trivial⟩ rfl)⟩ (fun mz st hI => ?_)
                    obtain ⟨k, hkl, hmz, rfl⟩ := hI
                    refine vc_seq fun K32 hK32 => ?_
                    refine vc_seq fun K33 hK33 => ?_
                    refine vc_region ?_
                    refine vl_q (q_move rfl) (dk rfl) ?_
                    refine vl_q (q_move rfl) (dk rfl) ?_
                    refine vl_two (x := fun b => vv (.bool b)) _ (q_cmp rfl rfl rfl rfl) (dk rfl) (fun h125 => ?_) (fun h125 => ?_)
                    · replace h125 := lss_of h125
                      refine vl_nil ?_
                      refine hK33 _ ?_
                      refine vc_cond_true rfl ?_
                      refine vc_skip ?_
                      refine hK32 _ ?_
                      refine vc_seq fun K34 hK34 => ?_
                      refine vc_block ?_
                      have hkp : k < y.parts.length := by omega
                      have hss := sumTo_succ ByteArray.size y.parts hkp
                      have hsl := sumTo_le ByteArray.size y.parts (k + 1)
                      have hsz : (catS (y.parts.take k)).size = sumTo ByteArray.size y.parts k := catS_size _
                      refine vc_region ?_
                      refine vl_q (q_move rfl) (dk rfl) ?_
                      refine vl_q (q_fieldAddr 3 rfl rfl rfl rfl (by decide) rfl rfl) (dk rfl) ?_
                      refine vl_load rfl rfl rfl rfl rfl rfl rfl (by decide) (dk rfl) ?_
                      refine vl_q (q_move rfl) (dk rfl) ?_
                      refine vl_q (q_indexAddr_fz rfl rfl rfl rfl rfl rfl (by decide) (by omega) (get_map (i := k) hkp)) (dk rfl) ?_
                      refine vl_load_sp rfl rfl rfl rfl (by decide) (dk rfl) ?_
                      refine vl_q (q_cat rfl rfl (by omega)) (dk rfl) ?_
                      refine vl_q (q_assign rfl) (dk rfl) ?_
                      refine vl_nil ?_
                      refine hK34 _ ?_
                      refine vc_region ?_
                      refine vl_q (q_move rfl) (dk rfl) ?_
                      refine vl_q (q_add rfl rfl (IntWalk.i64_in _ (by omega))) (dk rfl) ?_
                      refine vl_q (q_assign rfl) (dk rfl) ?_
                      refine vl_nil ?_
                      refine ⟨_, _, ?_, ⟨k + 1, by omega, rfl, rfl⟩, (Weak.cut _ _ _ (Nat.le_of_ble_eq_true rfl) ⟨⟨rfl, rfl⟩, ⟨rfl, rfl⟩, ⟨rfl, rfl⟩, ⟨rfl, rfl⟩, ⟨rfl, rfl⟩, ⟨rfl, rfl⟩, ⟨rfl, rfl⟩, ⟨rfl, rfl⟩, ⟨rfl, rfl⟩, ⟨sv_eq (by rw [take_snoc hkp, catS_snoc]), rfl⟩, ⟨rfl, rfl⟩, trivial⟩ ⟨⟨Nat.le_of_ble_eq_true rfl, rfl, belN_all rfl⟩, ⟨Nat.le_of_ble_eq_true rfl, rfl, belN_clo _ _ _⟩, ⟨Nat.le_of_ble_eq_true rfl, rfl, belN_clo _ _ _⟩, trivial⟩ rfl)⟩
                      omega
                    · replace h125 := lss_nof h125
                      refine vl_nil ?_
                      refine hK33 _ ?_
                      refine vc_cond_false rfl ?_
                      refine vc_exit ?_
                      refine hK30 _ ?_
                      refine vc_seq fun K35 hK35 => ?_
                      obtain rfl : k = y.parts.length := by omega
                      refine vc_region ?_
                      refine vl_q (q_move rfl) (dk rfl) ?_
                      refine vl_q (q_build rfl rfl rfl rfl rfl) (dk rfl) ?_
                      refine vl_callG [] (.v (.agg [.hdr 22 0 _])) (c_spec_l20Copy (l.eraseIdx (kIdx l fr t)) (by have := sz_small hrz; omega)) rfl rfl ⟨VOk.agg ⟨XOk.snapH rfl (by simp) (by simp [clo_len]) (map_wid heldF_len) (heldsF_shr _), trivial⟩, trivial⟩ trivial rfl (by decide) ⟨fix_clo _ _, trivial⟩ trivial rfl (.inl rfl) (dk rfl) ?_
                      refine vl_q (q_move rfl) (dk rfl) ?_
                      refine vl_store rfl rfl rfl rfl rfl rfl (Nat.le_of_ble_eq_true rfl) trivial ?_
                      refine vl_q (q_assign rfl) (dk rfl) ?_
                      refine vl_q (q_assign rfl) (dk rfl) ?_
                      refine vl_nil ?_
                      refine hK35 _ ?_
                      refine vc_ret ?_
                      refine ret_g [22] rfl (.cons (res_cell rfl rfl rfl rfl rfl rfl rfl (by decide)) (.cons (res_tmp rfl) (.cons (res_tmp rfl) .nil))) (by rw [e, List.take_length]; rfl) rfl (nodupB_ok rfl) ⟨by decide, trivial⟩ ⟨⟨⟨6, clo ((addP l fr t now).1.map heldO)⟩, some_node (by rw [e]), NR.clo _ _ _ _⟩, trivial⟩ trivial (Nat.zero_le _)
                  · refine vl_nil ?_
                    refine hK28 _ ?_
                    refine vc_cond_false rfl ?_
                    refine vc_skip ?_
                    refine hK27 _ ?_
                    refine vc_seq fun K36 hK36 => ?_
                    refine vc_seq fun K37 hK37 => ?_
                    refine vc_region ?_
                    refine vl_q (q_move rfl) (dk rfl) ?_
                    refine vl_two (x := fun b => vv (.bool b)) _ (q_cmp rfl rfl rfl rfl) (dk rfl) (fun h140 => ?_) (fun h140 => ?_)
                    · replace h140 := geq_of h140
                      obtain ⟨k, hk1, hk2, e⟩ := XP_set hok h1 hx h140 (by rw [hyy]; exact h122)
                      rw [hyy] at e
                      subst hk1
                      refine vl_nil ?_
                      refine hK37 _ ?_
                      refine vc_cond_true rfl ?_
                      refine vc_seq fun K38 hK38 => ?_
                      refine vc_region_any mixed (fun n => Nat.beq n 20 || Nat.beq n 21) true rfl rfl (fun _ hU39 => hU39) fun w1 S1 L1 Z1 H1 => ?_
                      refine va_q 1 rfl (by kernel_rfl) (by kernel_rfl) (by kernel_rfl) (q_move rfl) (dk rfl) ?_
                      refine va_q 2 rfl (by kernel_rfl) (by kernel_rfl) (by kernel_rfl) (q_move rfl) (dk rfl) ?_
                      refine va_q 3 rfl (by kernel_rfl) (by kernel_rfl) (by kernel_rfl) (q_slice_hdr rfl rfl rfl rfl rfl rfl rfl rfl (by omega) (by omega) (.inl (by omega))) (dk rfl) ?_
                      refine va_q 5 rfl (by kernel_rfl) (by kernel_rfl) (by kernel_rfl) (q_load rfl rfl rfl rfl rfl rfl rfl (by decide)) (dk rfl) ?_
                      refine va_all [0, 6] (by kernel_rfl) (by simp) ⟨⟨_, rfl, ?_⟩, ⟨_, rfl, ?_⟩, trivial⟩
                      · refine vl_bslice rfl rfl rfl rfl rfl rfl trivial (by decide) (by decide) (dk rfl) ?_
                        refine vl_nil ?_
                        refine va_all [4, 6] (by kernel_rfl) (by simp) ⟨⟨_, rfl, ?_⟩, ⟨_, rfl, ?_⟩, trivial⟩
                        · refine vl_append rfl rfl rfl rfl (fun _ h => TypeDesc.noConfusion h) rfl rfl rfl (Nat.zero_le _) (src_hdr (nd := ⟨6, clo ((l.eraseIdx (kIdx l fr t)).map heldF)⟩) (xs := clo (((l.eraseIdx (kIdx l fr t)).take k).map heldF)) rfl rfl (by simp [clo_len]; omega) (by show List.take k (List.drop 0 (clo ((l.eraseIdx (kIdx l fr t)).map heldF))) = _; rw [List.drop_zero, clo_take]) (plainF _) (widF _)) (by simp only [clo_len, List.length_map, List.length_take]; show (0 + _) * 80 ≤ _; omega) (by simp only [clo_len, List.length_map, List.length_take]; omega) (dk rfl) ?_
                          refine vl_nil ?_
                          refine va_all [6] (by kernel_rfl) (by simp) ⟨⟨_, rfl, ?_⟩, trivial⟩
                          refine vl_bslice rfl rfl rfl rfl rfl rfl ⟨rfl, trivial⟩ (by decide) (by decide) (dk rfl) ?_
                          refine vl_nil ?_
                          refine va_all [7] (by kernel_rfl) (by simp) ⟨⟨_, rfl, ?_⟩, trivial⟩
                          refine vl_append rfl rfl rfl rfl (fun _ h => TypeDesc.noConfusion h) rfl rfl rfl (by rw [Nat.zero_add]; exact Nat.le_of_eq (by simp [clo_len])) (src_row rfl rfl rfl rfl) (by simp only [clo_len, List.length_map, List.length_take]; show (0 + _ + 1) * 80 ≤ _; omega) (by simp only [clo_len, List.length_map, List.length_take, List.length_cons, List.length_nil]; omega) (dk rfl) ?_
                          refine vl_nil ?_
                          refine va_q 8 rfl (by kernel_rfl) (by kernel_rfl) (by kernel_rfl) (q_assign rfl) (dk rfl) ?_
                          refine va_done (by kernel_rfl) ?_
                          refine hK38 _ ?_
                          refine vc_seq fun K40 hK40 => ?_
                          refine vc_region ?_
                          refine vl_q (q_move rfl) (dk rfl) ?_
                          refine vl_q (q_move rfl) (dk rfl) ?_
                          refine vl_q (q_move rfl) (dk rfl) ?_
                          refine vl_q (q_slice_hdr rfl rfl rfl rfl rfl rfl rfl rfl (by omega) (by omega) (.inl (by omega))) (dk rfl) ?_
                          refine vl_append rfl rfl rfl rfl (fun _ h => TypeDesc.noConfusion h) rfl rfl rfl (by rw [Nat.zero_add]; exact Nat.le_of_eq (by simp [clo_len])) (src_hdr (nd := ⟨6, clo ((l.eraseIdx (kIdx l fr t)).map heldF)⟩) (xs := clo (((l.eraseIdx (kIdx l fr t)).drop k).map heldF)) rfl rfl (by simp [clo_len]; omega) (by show List.take ((l.eraseIdx (kIdx l fr t)).length - k) (List.drop k (clo ((l.eraseIdx (kIdx l fr t)).map heldF))) = _; rw [clo_drop, List.take_of_length_le (by simp [clo_len])]) (plainF _) (widF _)) (by simp only [clo_len, List.length_map, List.length_take, List.length_drop, List.length_cons, List.length_nil]; show (0 + _ + 1 + _) * 80 ≤ _; omega) (by simp only [clo_len, List.length_map, List.length_take, List.length_drop, List.length_cons, List.length_nil]; omega) (dk rfl) ?_
                          refine vl_q (q_build rfl rfl rfl rfl rfl) (dk rfl) ?_
                          refine vl_weak (Weak.node (m := 28) (nd' := ⟨6, clo (((l.eraseIdx (kIdx l fr t)).take k ++ [y] ++ (l.eraseIdx (kIdx l fr t)).drop k).map heldF)⟩) rfl (congrArg (Vm.Node.mk 6) (ins_rows hk2 (by simp [clo_len]; omega) (by simp [clo_len]; omega)))) ?_
                          refine vl_callG [] (.v (.agg [.hdr 29 0 _])) (c_spec_l20Copy ((l.eraseIdx (kIdx l fr t)).take k ++ [y] ++ (l.eraseIdx (kIdx l fr t)).drop k) (by have h9 := sz_small (ins_sz hrz hyz (k := k)); have h8 := ins_len (l.eraseIdx (kIdx l fr t)) y hk2; omega)) rfl rfl ⟨VOk.agg ⟨XOk.snapH rfl (by simp) (by simp only [clo_len, List.length_map, List.length_take, List.length_drop, List.length_cons, List.length_nil, List.length_append]; omega) (map_wid heldF_len) (heldsF_shr _), trivial⟩, trivial⟩ trivial rfl (by decide) ⟨fix_clo _ _, trivial⟩ trivial rfl (.inl rfl) (dk rfl) ?_
                          refine vl_store rfl rfl rfl rfl rfl rfl (Nat.le_of_ble_eq_true rfl) trivial ?_
                          refine vl_q (q_assign rfl) (dk rfl) ?_
                          refine vl_q (q_assign rfl) (dk rfl) ?_
                          refine vl_nil ?_
                          refine hK40 _ ?_
                          refine vc_ret ?_
                          refine ret_g [29] rfl (.cons (res_cell rfl rfl rfl rfl rfl rfl rfl (by decide)) (.cons (res_tmp rfl) (.cons (res_tmp rfl) .nil))) (by rw [e]; rfl) rfl (nodupB_ok rfl) ⟨by decide, trivial⟩ ⟨⟨⟨6, clo ((addP l fr t now).1.map heldO)⟩, some_node (by rw [e]), NR.clo _ _ _ _⟩, trivial⟩ trivial (Nat.zero_le _)
                        · refine vl_bslice rfl rfl rfl rfl rfl rfl ⟨rfl, trivial⟩ (by decide) (by decide) (dk rfl) ?_
                          refine vl_nil ?_
                          refine va_all [4] (by kernel_rfl) (by simp) ⟨⟨_, rfl, ?_⟩, trivial⟩
                          refine vl_append rfl rfl rfl rfl (fun _ h => TypeDesc.noConfusion h) rfl rfl rfl (Nat.zero_le _) (src_hdr (nd := ⟨6, clo ((l.eraseIdx (kIdx l fr t)).map heldF)⟩) (xs := clo (((l.eraseIdx (kIdx l fr t)).take k).map heldF)) rfl rfl (by simp [clo_len]; omega) (by show List.take k (List.drop 0 (clo ((l.eraseIdx (kIdx l fr t)).map heldF))) = _; rw [List.drop_zero, clo_take]) (plainF _) (widF _)) (by simp only [clo_len, List.length_map, List.length_take]; show (0 + _) * 80 ≤ _; omega) (by simp only [clo_len, List.length_map, List.length_take]; omega) (dk rfl) ?_
                          refine vl_nil ?_
                          refine va_all [7] (by kernel_rfl) (by simp) ⟨⟨_, rfl, ?_⟩, trivial⟩
                          refine vl_append rfl rfl rfl rfl (fun _ h => TypeDesc.noConfusion h) rfl rfl rfl (by rw [Nat.zero_add]; exact Nat.le_of_eq (by simp [clo_len])) (src_row rfl rfl rfl rfl) (by simp only [clo_len, List.length_map, List.length_take]; show (0 + _ + 1) * 80 ≤ _; omega) (by simp only [clo_len, List.length_map, List.length_take, List.length_cons, List.length_nil]; omega) (dk rfl) ?_
                          refine vl_nil ?_
                          refine va_q 8 rfl (by kernel_rfl) (by kernel_rfl) (by kernel_rfl) (q_assign rfl) (dk rfl) ?_
                          refine va_done (by kernel_rfl) ?_
                          refine hK38 _ ?_
                          refine vc_seq fun K41 hK41 => ?_
                          refine vc_region ?_
                          refine vl_q (q_move rfl) (dk rfl) ?_
                          refine vl_q (q_move rfl) (dk rfl) ?_
                          refine vl_q (q_move rfl) (dk rfl) ?_
                          refine vl_q (q_slice_hdr rfl rfl rfl rfl rfl rfl rfl rfl (by omega) (by omega) (.inl (by omega))) (dk rfl) ?_
                          refine vl_append rfl rfl rfl rfl (fun _ h => TypeDesc.noConfusion h) rfl rfl rfl (by rw [Nat.zero_add]; exact Nat.le_of_eq (by simp [clo_len])) (src_hdr (nd := ⟨6, clo ((l.eraseIdx (kIdx l fr t)).map heldF)⟩) (xs := clo (((l.eraseIdx (kIdx l fr t)).drop k).map heldF)) rfl rfl (by simp [clo_len]; omega) (by show List.take ((l.eraseIdx (kIdx l fr t)).length - k) (List.drop k (clo ((l.eraseIdx (kIdx l fr t)).map heldF))) = _; rw [clo_drop, List.take_of_length_le (by simp [clo_len])]) (plainF _) (widF _)) (by simp only [clo_len, List.length_map, List.length_take, List.length_drop, List.length_cons, List.length_nil]; show (0 + _ + 1 + _) * 80 ≤ _; omega) (by simp only [clo_len, List.length_map, List.length_take, List.length_drop, List.length_cons, List.length_nil]; omega) (dk rfl) ?_
                          refine vl_q (q_build rfl rfl rfl rfl rfl) (dk rfl) ?_
                          refine vl_weak (Weak.node (m := 28) (nd' := ⟨6, clo (((l.eraseIdx (kIdx l fr t)).take k ++ [y] ++ (l.eraseIdx (kIdx l fr t)).drop k).map heldF)⟩) rfl (congrArg (Vm.Node.mk 6) (ins_rows hk2 (by simp [clo_len]; omega) (by simp [clo_len]; omega)))) ?_
                          refine vl_callG [] (.v (.agg [.hdr 29 0 _])) (c_spec_l20Copy ((l.eraseIdx (kIdx l fr t)).take k ++ [y] ++ (l.eraseIdx (kIdx l fr t)).drop k) (by have h9 := sz_small (ins_sz hrz hyz (k := k)); have h8 := ins_len (l.eraseIdx (kIdx l fr t)) y hk2; omega)) rfl rfl ⟨VOk.agg ⟨XOk.snapH rfl (by simp) (by simp only [clo_len, List.length_map, List.length_take, List.length_drop, List.length_cons, List.length_nil, List.length_append]; omega) (map_wid heldF_len) (heldsF_shr _), trivial⟩, trivial⟩ trivial rfl (by decide) ⟨fix_clo _ _, trivial⟩ trivial rfl (.inl rfl) (dk rfl) ?_
                          refine vl_store rfl rfl rfl rfl rfl rfl (Nat.le_of_ble_eq_true rfl) trivial ?_
                          refine vl_q (q_assign rfl) (dk rfl) ?_
                          refine vl_q (q_assign rfl) (dk rfl) ?_
                          refine vl_nil ?_
                          refine hK41 _ ?_
                          refine vc_ret ?_
                          refine ret_g [29] rfl (.cons (res_cell rfl rfl rfl rfl rfl rfl rfl (by decide)) (.cons (res_tmp rfl) (.cons (res_tmp rfl) .nil))) (by rw [e]; rfl) rfl (nodupB_ok rfl) ⟨by decide, trivial⟩ ⟨⟨⟨6, clo ((addP l fr t now).1.map heldO)⟩, some_node (by rw [e]), NR.clo _ _ _ _⟩, trivial⟩ trivial (Nat.zero_le _)
                      · refine vl_bslice rfl rfl rfl rfl rfl rfl ⟨rfl, trivial⟩ (by decide) (by decide) (dk rfl) ?_
                        refine vl_nil ?_
                        refine va_all [0] (by kernel_rfl) (by simp) ⟨⟨_, rfl, ?_⟩, trivial⟩
                        refine vl_bslice rfl rfl rfl rfl rfl rfl trivial (by decide) (by decide) (dk rfl) ?_
                        refine vl_nil ?_
                        refine va_all [4] (by kernel_rfl) (by simp) ⟨⟨_, rfl, ?_⟩, trivial⟩
                        refine vl_append rfl rfl rfl rfl (fun _ h => TypeDesc.noConfusion h) rfl rfl rfl (Nat.zero_le _) (src_hdr (nd := ⟨6, clo ((l.eraseIdx (kIdx l fr t)).map heldF)⟩) (xs := clo (((l.eraseIdx (kIdx l fr t)).take k).map heldF)) rfl rfl (by simp [clo_len]; omega) (by show List.take k (List.drop 0 (clo ((l.eraseIdx (kIdx l fr t)).map heldF))) = _; rw [List.drop_zero, clo_take]) (plainF _) (widF _)) (by simp only [clo_len, List.length_map, List.length_take]; show (0 + _) * 80 ≤ _; omega) (by simp only [clo_len, List.length_map, List.length_take]; omega) (dk rfl) ?_
                        refine vl_nil ?_
                        refine va_all [7] (by kernel_rfl) (by simp) ⟨⟨_, rfl, ?_⟩, trivial⟩
                        refine vl_append rfl rfl rfl rfl (fun _ h => TypeDesc.noConfusion h) rfl rfl rfl (by rw [Nat.zero_add]; exact Nat.le_of_eq (by simp [clo_len])) (src_row rfl rfl rfl rfl) (by simp only [clo_len, List.length_map, List.length_take]; show (0 + _ + 1) * 80 ≤ _; omega) (by simp only [clo_len, List.length_map, List.length_take, List.length_cons, List.length_nil]; omega) (dk rfl) ?_
                        refine vl_nil ?_
                        refine va_q 8 rfl (by kernel_rfl) (by kernel_rfl) (by kernel_rfl) (q_assign rfl) (dk rfl) ?_
                        refine va_done (by kernel_rfl) ?_
                        refine hK38 _ ?_
                        refine vc_seq fun K42 hK42 => ?_
                        refine vc_region ?_
                        refine vl_q (q_move rfl) (dk rfl) ?_
                        refine vl_q (q_move rfl) (dk rfl) ?_
                        refine vl_q (q_move rfl) (dk rfl) ?_
                        refine vl_q (q_slice_hdr rfl rfl rfl rfl rfl rfl rfl rfl (by omega) (by omega) (.inl (by omega))) (dk rfl) ?_
                        refine vl_append rfl rfl rfl rfl (fun _ h => TypeDesc.noConfusion h) rfl rfl rfl (by rw [Nat.zero_add]; exact Nat.le_of_eq (by simp [clo_len])) (src_hdr (nd := ⟨6, clo ((l.eraseIdx (kIdx l fr t)).map heldF)⟩) (xs := clo (((l.eraseIdx (kIdx l fr t)).drop k).map heldF)) rfl rfl (by simp [clo_len]; omega) (by show List.take ((l.eraseIdx (kIdx l fr t)).length - k) (List.drop k (clo ((l.eraseIdx (kIdx l fr t)).map heldF))) = _; rw [clo_drop, List.take_of_length_le (by simp [clo_len])]) (plainF _) (widF _)) (by simp only [clo_len, List.length_map, List.length_take, List.length_drop, List.length_cons, List.length_nil]; show (0 + _ + 1 + _) * 80 ≤ _; omega) (by simp only [clo_len, List.length_map, List.length_take, List.length_drop, List.length_cons, List.length_nil]; omega) (dk rfl) ?_
                        refine vl_q (q_build rfl rfl rfl rfl rfl) (dk rfl) ?_
                        refine vl_weak (Weak.node (m := 28) (nd' := ⟨6, clo (((l.eraseIdx (kIdx l fr t)).take k ++ [y] ++ (l.eraseIdx (kIdx l fr t)).drop k).map heldF)⟩) rfl (congrArg (Vm.Node.mk 6) (ins_rows hk2 (by simp [clo_len]; omega) (by simp [clo_len]; omega)))) ?_
                        refine vl_callG [] (.v (.agg [.hdr 29 0 _])) (c_spec_l20Copy ((l.eraseIdx (kIdx l fr t)).take k ++ [y] ++ (l.eraseIdx (kIdx l fr t)).drop k) (by have h9 := sz_small (ins_sz hrz hyz (k := k)); have h8 := ins_len (l.eraseIdx (kIdx l fr t)) y hk2; omega)) rfl rfl ⟨VOk.agg ⟨XOk.snapH rfl (by simp) (by simp only [clo_len, List.length_map, List.length_take, List.length_drop, List.length_cons, List.length_nil, List.length_append]; omega) (map_wid heldF_len) (heldsF_shr _), trivial⟩, trivial⟩ trivial rfl (by decide) ⟨fix_clo _ _, trivial⟩ trivial rfl (.inl rfl) (dk rfl) ?_
                        refine vl_store rfl rfl rfl rfl rfl rfl (Nat.le_of_ble_eq_true rfl) trivial ?_
                        refine vl_q (q_assign rfl) (dk rfl) ?_
                        refine vl_q (q_assign rfl) (dk rfl) ?_
                        refine vl_nil ?_
                        refine hK42 _ ?_
                        refine vc_ret ?_
                        refine ret_g [29] rfl (.cons (res_cell rfl rfl rfl rfl rfl rfl rfl (by decide)) (.cons (res_tmp rfl) (.cons (res_tmp rfl) .nil))) (by rw [e]; rfl) rfl (nodupB_ok rfl) ⟨by decide, trivial⟩ ⟨⟨⟨6, clo ((addP l fr t now).1.map heldO)⟩, some_node (by rw [e]), NR.clo _ _ _ _⟩, trivial⟩ trivial (Nat.zero_le _)
                    · replace h140 := geq_nof h140
                      have e := XP_new hok h1 hx h140
                      rw [hyy] at e
                      refine vl_nil ?_
                      refine hK37 _ ?_
                      refine vc_cond_false rfl ?_
                      refine vc_skip ?_
                      refine hK36 _ ?_
                      refine vc_seq fun K43 hK43 => ?_
                      refine vc_seq fun K44 hK44 => ?_
                      refine vc_region ?_
                      refine vl_q (q_move rfl) (dk rfl) ?_
                      refine vl_q (q_len_hdr rfl rfl rfl) (dk rfl) ?_
                      refine vl_two (x := fun b => vv (.bool b)) _ (q_cmp rfl rfl rfl rfl) (dk rfl) (fun h158 => ?_) (fun h158 => ?_)
                      · replace h158 := eql_of h158
                        have h158n : (l.eraseIdx (kIdx l fr t)).length = 3 := by omega
                        refine vl_nil ?_
                        refine hK44 _ ?_
                        refine vc_cond_true rfl ?_
                        refine vc_region ?_
                        refine vl_q (q_move rfl) (dk rfl) ?_
                        refine vl_q (q_slice_hdr rfl rfl rfl rfl rfl rfl rfl rfl (by omega) (by omega) (.inl (by omega))) (dk rfl) ?_
                        refine vl_q (q_assign rfl) (dk rfl) ?_
                        refine vl_nil ?_
                        refine hK43 _ ?_
                        refine vc_seq fun K45 hK45 => ?_
                        refine vc_region ?_
                        refine vl_q (q_move rfl) (dk rfl) ?_
                        refine vl_load rfl rfl rfl rfl rfl rfl rfl (by decide) (dk rfl) ?_
                        refine vl_bslice rfl rfl rfl rfl rfl rfl ⟨rfl, trivial⟩ (by decide) (by decide) (dk rfl) ?_
                        refine vl_append rfl rfl rfl rfl (fun _ h => TypeDesc.noConfusion h) rfl rfl rfl (by simp [clo_len] <;> omega) (src_row rfl rfl rfl rfl) (by simp only [List.length_cons, List.length_nil]; show (_ + 1) * 80 ≤ _; omega) (by simp only [List.length_cons, List.length_nil]; omega) (dk rfl) ?_
                        refine vl_q (q_build rfl rfl rfl rfl rfl) (dk rfl) ?_
                        refine vl_weak (Weak.node (m := 25) (nd' := ⟨6, clo ((three (l.eraseIdx (kIdx l fr t)) ++ [y]).map heldF)⟩) rfl (congrArg (Vm.Node.mk 6) (tail_rows h158n (by simp; omega)))) ?_
                        refine vl_callG [] (.v (.agg [.hdr 26 0 _])) (c_spec_l20Copy (three (l.eraseIdx (kIdx l fr t)) ++ [y]) (by have h9 := sz_small (new_sz hrz hyz); have h8 := new_len (l.eraseIdx (kIdx l fr t)) y; omega)) rfl rfl ⟨VOk.agg ⟨XOk.snapH rfl (by simp) (by first | (rw [three_t h158n]; simp only [clo_len, List.length_map, List.length_drop, List.length_cons, List.length_nil, List.length_append]; omega) | (rw [three_f h158n]; simp only [clo_len, List.length_map, List.length_cons, List.length_nil, List.length_append])) (map_wid heldF_len) (heldsF_shr _), trivial⟩, trivial⟩ trivial rfl (by decide) ⟨fix_clo _ _, trivial⟩ trivial rfl (.inl rfl) (dk rfl) ?_
                        refine vl_store rfl rfl rfl rfl rfl rfl (Nat.le_of_ble_eq_true rfl) trivial ?_
                        refine vl_q (q_assign rfl) (dk rfl) ?_
                        refine vl_q (q_assign rfl) (dk rfl) ?_
                        refine vl_nil ?_
                        refine hK45 _ ?_
                        refine vc_ret ?_
                        refine ret_g [26] rfl (.cons (res_cell rfl rfl rfl rfl rfl rfl rfl (by decide)) (.cons (res_tmp rfl) (.cons (res_tmp rfl) .nil))) (by rw [e]; rfl) rfl (nodupB_ok rfl) ⟨by decide, trivial⟩ ⟨⟨⟨6, clo ((addP l fr t now).1.map heldO)⟩, some_node (by rw [e]), NR.clo _ _ _ _⟩, trivial⟩ trivial (Nat.zero_le _)
                      · replace h158 := eql_nof h158
                        have h158n : (l.eraseIdx (kIdx l fr t)).length ≠ 3 := by omega
                        refine vl_nil ?_
                        refine hK44 _ ?_
                        refine vc_cond_false rfl ?_
                        refine vc_skip ?_
                        refine hK43 _ ?_
                        refine vc_seq fun K46 hK46 => ?_
                        refine vc_region ?_
                        refine vl_q (q_move rfl) (dk rfl) ?_
                        refine vl_load rfl rfl rfl rfl rfl rfl rfl (by decide) (dk rfl) ?_
                        refine vl_bslice rfl rfl rfl rfl rfl rfl ⟨rfl, trivial⟩ (by decide) (by decide) (dk rfl) ?_
                        refine vl_append rfl rfl rfl rfl (fun _ h => TypeDesc.noConfusion h) rfl rfl rfl (by simp [clo_len] <;> omega) (src_row rfl rfl rfl rfl) (by simp only [List.length_cons, List.length_nil]; show (_ + 1) * 80 ≤ _; omega) (by simp only [List.length_cons, List.length_nil]; omega) (dk rfl) ?_
                        refine vl_q (q_build rfl rfl rfl rfl rfl) (dk rfl) ?_
                        refine vl_weak (Weak.node (m := 25) (nd' := ⟨6, clo ((three (l.eraseIdx (kIdx l fr t)) ++ [y]).map heldF)⟩) rfl (congrArg (Vm.Node.mk 6) (all_rows h158n rfl))) ?_
                        refine vl_callG [] (.v (.agg [.hdr 26 0 _])) (c_spec_l20Copy (three (l.eraseIdx (kIdx l fr t)) ++ [y]) (by have h9 := sz_small (new_sz hrz hyz); have h8 := new_len (l.eraseIdx (kIdx l fr t)) y; omega)) rfl rfl ⟨VOk.agg ⟨XOk.snapH rfl (by simp) (by first | (rw [three_t h158n]; simp only [clo_len, List.length_map, List.length_drop, List.length_cons, List.length_nil, List.length_append]; omega) | (rw [three_f h158n]; simp only [clo_len, List.length_map, List.length_cons, List.length_nil, List.length_append])) (map_wid heldF_len) (heldsF_shr _), trivial⟩, trivial⟩ trivial rfl (by decide) ⟨fix_clo _ _, trivial⟩ trivial rfl (.inl rfl) (dk rfl) ?_
                        refine vl_store rfl rfl rfl rfl rfl rfl (Nat.le_of_ble_eq_true rfl) trivial ?_
                        refine vl_q (q_assign rfl) (dk rfl) ?_
                        refine vl_q (q_assign rfl) (dk rfl) ?_
                        refine vl_nil ?_
                        refine hK46 _ ?_
                        refine vc_ret ?_
                        refine ret_g [26] rfl (.cons (res_cell rfl rfl rfl rfl rfl rfl rfl (by decide)) (.cons (res_tmp rfl) (.cons (res_tmp rfl) .nil))) (by rw [e]; rfl) rfl (nodupB_ok rfl) ⟨by decide, trivial⟩ ⟨⟨⟨6, clo ((addP l fr t now).1.map heldO)⟩, some_node (by rw [e]), NR.clo _ _ _ _⟩, trivial⟩ trivial (Nat.zero_le _)
                · have hbf : x.hav[byteAt t 1] = false := h110
                  refine vl_q (q_not rfl) (dk rfl) ?_
                  refine vl_nil ?_
                  refine hK26 _ ?_
                  refine vc_cond_true rfl ?_
                  refine vc_seq fun K47 hK47 => ?_
                  refine vc_region ?_
                  refine vl_q (q_fieldAddr 4 rfl rfl rfl rfl (by decide) rfl rfl) (dk rfl) ?_
                  refine vl_load rfl rfl rfl rfl rfl rfl rfl (by decide) (dk rfl) ?_
                  refine vl_q (q_move rfl) (dk rfl) ?_
                  refine vl_q (q_indexAddr rfl rfl rfl rfl rfl rfl rfl (by omega) (by omega)) (dk rfl) ?_
                  try simp only [List.set_set, List.length_map, Int.toNat_natCast, Nat.add_zero]
                  refine vl_store rfl rfl rfl rfl (clo_get hph) rfl (Nat.le_of_ble_eq_true rfl) trivial ?_
                  refine vl_nil ?_
                  refine hK47 _ ?_
                  refine vc_region ?_
                  refine vl_q (q_fieldAddr 3 rfl rfl rfl rfl (by decide) rfl rfl) (dk rfl) ?_
                  refine vl_open (nm := 20) (i := 0) (j := 3) rfl rfl rfl rfl rfl rfl ?_
                  simp only [List.set_set, List.length_map, Int.toNat_natCast, Nat.add_zero]
                  refine vl_load rfl rfl rfl rfl rfl rfl rfl (by decide) (dk rfl) ?_
                  refine vl_q (q_move rfl) (dk rfl) ?_
                  refine vl_q (q_move rfl) (dk rfl) ?_
                  refine vl_q (q_indexAddr rfl rfl rfl rfl rfl rfl rfl (by omega) (by omega)) (dk rfl) ?_
                  try simp only [List.set_set, List.length_map, Int.toNat_natCast, Nat.add_zero]
                  refine vl_store rfl rfl rfl rfl (clo_get hpp) rfl (Nat.le_of_ble_eq_true rfl) trivial ?_
                  refine vl_nil ?_
                  refine hK25 _ ?_
                  refine vc_seq fun K48 hK48 => ?_
                  refine vc_seq fun K49 hK49 => ?_
                  have hy := put_f (s := part t) hph hbf
                  refine vc_weak (Weak.node (m := 22) (nd' := ⟨1, clo ((x.hav.set (byteAt t 1) true).map boolC)⟩) rfl (congrArg (Vm.Node.mk 1) (clo_set (f := boolC)))) ?_
                  refine vc_weak (Weak.node (m := 23) (nd' := ⟨1, clo ((x.parts.set (byteAt t 1) (part t)).map strC)⟩) rfl (congrArg (Vm.Node.mk 1) (clo_set (f := strC)))) ?_
                  refine vc_weak (Weak.frzC rfl (nm := 20) (i := 0) (j := 4) (m := 22) (es := (x.hav.set (byteAt t 1) true).map boolC) (es' := (x.hav.set (byteAt t 1) true).map boolC) rfl rfl rfl rfl (by simp) (by decide) (bools_frz _ _ (by simp))) ?_
                  refine vc_weak (Weak.frzC rfl (nm := 20) (i := 0) (j := 3) (m := 23) (es := (x.parts.set (byteAt t 1) (part t)).map strC) (es' := (x.parts.set (byteAt t 1) (part t)).map strC) rfl rfl rfl rfl (by simp) (by decide) (strs_frz _ _ (by simp))) ?_
                  obtain ⟨y, hyy⟩ : ∃ y, putPart x (byteAt t 1) (part t) = y := ⟨_, rfl⟩
                  refine vc_weak (Weak.node (m := 20) (nd' := ⟨6, clo [heldF y]⟩) rfl (by rw [← hyy, hy]; rfl)) ?_
                  have hyh : y.hav.length = byteAt t 2 := by rw [← hyy, (put_len _ _ _).2]; exact hxh
                  have hyp : y.parts.length = byteAt t 2 := by rw [← hyy, (put_len _ _ _).1]; exact hxp
                  have hys : sumOf ByteArray.size y.parts ≤ 1800 := by rw [← hyy]; exact XP_sz hsg hx hrp (by omega)
                  have hyz : szHeld y ≤ 2000 := sz_held (by omega) (by omega) hys
                  have hrz : ∀ z, z ∈ l.eraseIdx (kIdx l fr t) → szHeld z ≤ 2000 := fun z hz => sz_good hsg z (List.mem_of_mem_eraseIdx hz)
                  have hrl : (l.eraseIdx (kIdx l fr t)).length ≤ 3 := by rw [List.length_eraseIdx]; split <;> omega
                  refine vc_region ?_
                  refine vl_load rfl rfl rfl rfl rfl rfl rfl (by decide) (dk rfl) ?_
                  refine vl_callP (c_spec_l20All y) rfl rfl ⟨VOk.agg ⟨XOk.val _, XOk.val _, XOk.val _, XOk.fzH (strsC_shr _), XOk.fzH (boolsC_shr _), XOk.val _, trivial⟩, trivial⟩ rfl (.inl rfl) (dk rfl) ?_
                  refine vl_bool 122 rfl (fun h122 => ?_) (fun h122 => ?_)
                  · have e := XP_full hok hrp h1 hx (by rw [hyy]; exact h122)
                    rw [hyy] at e
                    refine vl_nil ?_
                    refine hK49 _ ?_
                    refine vc_cond_true rfl ?_
                    refine vc_seq fun K50 hK50 => ?_
                    refine vc_region ?_
                    refine vl_q (q_assign rfl) (dk rfl) ?_
                    refine vl_nil ?_
                    refine hK50 _ ?_
                    refine vc_seq fun K51 hK51 => ?_
                    refine vc_seq fun K52 hK52 => ?_
                    refine vc_region ?_
                    refine vl_q (q_assign rfl) (dk rfl) ?_
                    refine vl_nil ?_
                    refine hK52 _ ?_
                    refine vc_block ?_
                    refine vc_loop (fun mz st => ∃ k : Nat, (k ≤ y.parts.length) ∧ mz = y.parts.length - k ∧ st = mkSt [(1, .v (iv fr)), (3, .v (iv now)), (8, .v (.one (.ptr 17 0 0))), (11, .v (iv (byteAt t 0))), (12, .v (iv (byteAt t 1))), (13, .v (iv (byteAt t 2))), (14, .v (sv (part t))), (17, .v (.one (.ptr 20 0 0))), (18, .v (.one (.hdr 21 0 (l.eraseIdx (kIdx l fr t)).length))), (22, .v (sv (catS (y.parts.take k)))), (23, .v (iv (k : Nat)))] [(17, ⟨1, [[.c (.val (.slice none 0 0))]]⟩), (20, ⟨6, clo [heldF y]⟩), (21, ⟨6, clo ((l.eraseIdx (kIdx l fr t)).map heldF)⟩)] 22) ⟨_, _, ⟨0, by omega, rfl, rfl⟩, (Weak.cut _ _ _ (Nat.le_of_ble_eq_true rfl) ⟨⟨rfl, rfl⟩, ⟨rfl, rfl⟩, ⟨rfl, rfl⟩, ⟨rfl, rfl⟩, ⟨rfl, rfl⟩, ⟨rfl, rfl⟩, ⟨rfl, rfl⟩, ⟨rfl, rfl⟩, ⟨rfl, rfl⟩, ⟨rfl, rfl⟩, ⟨rfl, rfl⟩, trivial⟩ ⟨⟨Nat.le_of_ble_eq_true rfl, rfl, belN_all rfl⟩, ⟨Nat.le_of_ble_eq_true rfl, rfl, belN_clo _ _ _⟩, ⟨Nat.le_of_ble_eq_true rfl, rfl, belN_clo _ _ _⟩, trivial⟩ rfl)⟩ (fun mz st hI => ?_)
                    obtain ⟨k, hkl, hmz, rfl⟩ := hI
                    refine vc_seq fun K53 hK53 => ?_
                    refine vc_seq fun K54 hK54 => ?_
                    refine vc_region ?_
                    refine vl_q (q_move rfl) (dk rfl) ?_
                    refine vl_q (q_move rfl) (dk rfl) ?_
                    refine vl_two (x := fun b => vv (.bool b)) _ (q_cmp rfl rfl rfl rfl) (dk rfl) (fun h125 => ?_) (fun h125 => ?_)
                    · replace h125 := lss_of h125
                      refine vl_nil ?_
                      refine hK54 _ ?_
                      refine vc_cond_true rfl ?_
                      refine vc_skip ?_
                      refine hK53 _ ?_
                      refine vc_seq fun K55 hK55 => ?_
                      refine vc_block ?_
                      have hkp : k < y.parts.length := by omega
                      have hss := sumTo_succ ByteArray.size y.parts hkp
                      have hsl := sumTo_le ByteArray.size y.parts (k + 1)
                      have hsz : (catS (y.parts.take k)).size = sumTo ByteArray.size y.parts k := catS_size _
                      refine vc_region ?_
                      refine vl_q (q_move rfl) (dk rfl) ?_
                      refine vl_q (q_fieldAddr 3 rfl rfl rfl rfl (by decide) rfl rfl) (dk rfl) ?_
                      refine vl_load rfl rfl rfl rfl rfl rfl rfl (by decide) (dk rfl) ?_
                      refine vl_q (q_move rfl) (dk rfl) ?_
                      refine vl_q (q_indexAddr_fz rfl rfl rfl rfl rfl rfl (by decide) (by omega) (get_map (i := k) hkp)) (dk rfl) ?_
                      refine vl_load_sp rfl rfl rfl rfl (by decide) (dk rfl) ?_
                      refine vl_q (q_cat rfl rfl (by omega)) (dk rfl) ?_
                      refine vl_q (q_assign rfl) (dk rfl) ?_
                      refine vl_nil ?_
                      refine hK55 _ ?_
                      refine vc_region ?_
                      refine vl_q (q_move rfl) (dk rfl) ?_
                      refine vl_q (q_add rfl rfl (IntWalk.i64_in _ (by omega))) (dk rfl) ?_
                      refine vl_q (q_assign rfl) (dk rfl) ?_
                      refine vl_nil ?_
                      refine ⟨_, _, ?_, ⟨k + 1, by omega, rfl, rfl⟩, (Weak.cut _ _ _ (Nat.le_of_ble_eq_true rfl) ⟨⟨rfl, rfl⟩, ⟨rfl, rfl⟩, ⟨rfl, rfl⟩, ⟨rfl, rfl⟩, ⟨rfl, rfl⟩, ⟨rfl, rfl⟩, ⟨rfl, rfl⟩, ⟨rfl, rfl⟩, ⟨rfl, rfl⟩, ⟨sv_eq (by rw [take_snoc hkp, catS_snoc]), rfl⟩, ⟨rfl, rfl⟩, trivial⟩ ⟨⟨Nat.le_of_ble_eq_true rfl, rfl, belN_all rfl⟩, ⟨Nat.le_of_ble_eq_true rfl, rfl, belN_clo _ _ _⟩, ⟨Nat.le_of_ble_eq_true rfl, rfl, belN_clo _ _ _⟩, trivial⟩ rfl)⟩
                      omega
                    · replace h125 := lss_nof h125
                      refine vl_nil ?_
                      refine hK54 _ ?_
                      refine vc_cond_false rfl ?_
                      refine vc_exit ?_
                      refine hK51 _ ?_
                      refine vc_seq fun K56 hK56 => ?_
                      obtain rfl : k = y.parts.length := by omega
                      refine vc_region ?_
                      refine vl_q (q_move rfl) (dk rfl) ?_
                      refine vl_q (q_build rfl rfl rfl rfl rfl) (dk rfl) ?_
                      refine vl_callG [] (.v (.agg [.hdr 22 0 _])) (c_spec_l20Copy (l.eraseIdx (kIdx l fr t)) (by have := sz_small hrz; omega)) rfl rfl ⟨VOk.agg ⟨XOk.snapH rfl (by simp) (by simp [clo_len]) (map_wid heldF_len) (heldsF_shr _), trivial⟩, trivial⟩ trivial rfl (by decide) ⟨fix_clo _ _, trivial⟩ trivial rfl (.inl rfl) (dk rfl) ?_
                      refine vl_q (q_move rfl) (dk rfl) ?_
                      refine vl_store rfl rfl rfl rfl rfl rfl (Nat.le_of_ble_eq_true rfl) trivial ?_
                      refine vl_q (q_assign rfl) (dk rfl) ?_
                      refine vl_q (q_assign rfl) (dk rfl) ?_
                      refine vl_nil ?_
                      refine hK56 _ ?_
                      refine vc_ret ?_
                      refine ret_g [22] rfl (.cons (res_cell rfl rfl rfl rfl rfl rfl rfl (by decide)) (.cons (res_tmp rfl) (.cons (res_tmp rfl) .nil))) (by rw [e, List.take_length]; rfl) rfl (nodupB_ok rfl) ⟨by decide, trivial⟩ ⟨⟨⟨6, clo ((addP l fr t now).1.map heldO)⟩, some_node (by rw [e]), NR.clo _ _ _ _⟩, trivial⟩ trivial (Nat.zero_le _)
                  · refine vl_nil ?_
                    refine hK49 _ ?_
                    refine vc_cond_false rfl ?_
                    refine vc_skip ?_
                    refine hK48 _ ?_
                    refine vc_seq fun K57 hK57 => ?_
                    refine vc_seq fun K58 hK58 => ?_
                    refine vc_region ?_
                    refine vl_q (q_move rfl) (dk rfl) ?_
                    refine vl_two (x := fun b => vv (.bool b)) _ (q_cmp rfl rfl rfl rfl) (dk rfl) (fun h140 => ?_) (fun h140 => ?_)
                    · replace h140 := geq_of h140
                      obtain ⟨k, hk1, hk2, e⟩ := XP_set hok h1 hx h140 (by rw [hyy]; exact h122)
                      rw [hyy] at e
                      subst hk1
                      refine vl_nil ?_
                      refine hK58 _ ?_
                      refine vc_cond_true rfl ?_
                      refine vc_seq fun K59 hK59 => ?_
                      refine vc_region_any mixed (fun n => Nat.beq n 20 || Nat.beq n 21) true rfl rfl (fun _ hU60 => hU60) fun w1 S1 L1 Z1 H1 => ?_
                      refine va_q 1 rfl (by kernel_rfl) (by kernel_rfl) (by kernel_rfl) (q_move rfl) (dk rfl) ?_
                      refine va_q 2 rfl (by kernel_rfl) (by kernel_rfl) (by kernel_rfl) (q_move rfl) (dk rfl) ?_
                      refine va_q 3 rfl (by kernel_rfl) (by kernel_rfl) (by kernel_rfl) (q_slice_hdr rfl rfl rfl rfl rfl rfl rfl rfl (by omega) (by omega) (.inl (by omega))) (dk rfl) ?_
                      refine va_q 5 rfl (by kernel_rfl) (by kernel_rfl) (by kernel_rfl) (q_load rfl rfl rfl rfl rfl rfl rfl (by decide)) (dk rfl) ?_
                      refine va_all [0, 6] (by kernel_rfl) (by simp) ⟨⟨_, rfl, ?_⟩, ⟨_, rfl, ?_⟩, trivial⟩
                      · refine vl_bslice rfl rfl rfl rfl rfl rfl trivial (by decide) (by decide) (dk rfl) ?_
                        refine vl_nil ?_
                        refine va_all [4, 6] (by kernel_rfl) (by simp) ⟨⟨_, rfl, ?_⟩, ⟨_, rfl, ?_⟩, trivial⟩
                        · refine vl_append rfl rfl rfl rfl (fun _ h => TypeDesc.noConfusion h) rfl rfl rfl (Nat.zero_le _) (src_hdr (nd := ⟨6, clo ((l.eraseIdx (kIdx l fr t)).map heldF)⟩) (xs := clo (((l.eraseIdx (kIdx l fr t)).take k).map heldF)) rfl rfl (by simp [clo_len]; omega) (by show List.take k (List.drop 0 (clo ((l.eraseIdx (kIdx l fr t)).map heldF))) = _; rw [List.drop_zero, clo_take]) (plainF _) (widF _)) (by simp only [clo_len, List.length_map, List.length_take]; show (0 + _) * 80 ≤ _; omega) (by simp only [clo_len, List.length_map, List.length_take]; omega) (dk rfl) ?_
                          refine vl_nil ?_
                          refine va_all [6] (by kernel_rfl) (by simp) ⟨⟨_, rfl, ?_⟩, trivial⟩
                          refine vl_bslice rfl rfl rfl rfl rfl rfl ⟨rfl, trivial⟩ (by decide) (by decide) (dk rfl) ?_
                          refine vl_nil ?_
                          refine va_all [7] (by kernel_rfl) (by simp) ⟨⟨_, rfl, ?_⟩, trivial⟩
                          refine vl_append rfl rfl rfl rfl (fun _ h => TypeDesc.noConfusion h) rfl rfl rfl (by rw [Nat.zero_add]; exact Nat.le_of_eq (by simp [clo_len])) (src_row rfl rfl rfl rfl) (by simp only [clo_len, List.length_map, List.length_take]; show (0 + _ + 1) * 80 ≤ _; omega) (by simp only [clo_len, List.length_map, List.length_take, List.length_cons, List.length_nil]; omega) (dk rfl) ?_
                          refine vl_nil ?_
                          refine va_q 8 rfl (by kernel_rfl) (by kernel_rfl) (by kernel_rfl) (q_assign rfl) (dk rfl) ?_
                          refine va_done (by kernel_rfl) ?_
                          refine hK59 _ ?_
                          refine vc_seq fun K61 hK61 => ?_
                          refine vc_region ?_
                          refine vl_q (q_move rfl) (dk rfl) ?_
                          refine vl_q (q_move rfl) (dk rfl) ?_
                          refine vl_q (q_move rfl) (dk rfl) ?_
                          refine vl_q (q_slice_hdr rfl rfl rfl rfl rfl rfl rfl rfl (by omega) (by omega) (.inl (by omega))) (dk rfl) ?_
                          refine vl_append rfl rfl rfl rfl (fun _ h => TypeDesc.noConfusion h) rfl rfl rfl (by rw [Nat.zero_add]; exact Nat.le_of_eq (by simp [clo_len])) (src_hdr (nd := ⟨6, clo ((l.eraseIdx (kIdx l fr t)).map heldF)⟩) (xs := clo (((l.eraseIdx (kIdx l fr t)).drop k).map heldF)) rfl rfl (by simp [clo_len]; omega) (by show List.take ((l.eraseIdx (kIdx l fr t)).length - k) (List.drop k (clo ((l.eraseIdx (kIdx l fr t)).map heldF))) = _; rw [clo_drop, List.take_of_length_le (by simp [clo_len])]) (plainF _) (widF _)) (by simp only [clo_len, List.length_map, List.length_take, List.length_drop, List.length_cons, List.length_nil]; show (0 + _ + 1 + _) * 80 ≤ _; omega) (by simp only [clo_len, List.length_map, List.length_take, List.length_drop, List.length_cons, List.length_nil]; omega) (dk rfl) ?_
                          refine vl_q (q_build rfl rfl rfl rfl rfl) (dk rfl) ?_
                          refine vl_weak (Weak.node (m := 28) (nd' := ⟨6, clo (((l.eraseIdx (kIdx l fr t)).take k ++ [y] ++ (l.eraseIdx (kIdx l fr t)).drop k).map heldF)⟩) rfl (congrArg (Vm.Node.mk 6) (ins_rows hk2 (by simp [clo_len]; omega) (by simp [clo_len]; omega)))) ?_
                          refine vl_callG [] (.v (.agg [.hdr 29 0 _])) (c_spec_l20Copy ((l.eraseIdx (kIdx l fr t)).take k ++ [y] ++ (l.eraseIdx (kIdx l fr t)).drop k) (by have h9 := sz_small (ins_sz hrz hyz (k := k)); have h8 := ins_len (l.eraseIdx (kIdx l fr t)) y hk2; omega)) rfl rfl ⟨VOk.agg ⟨XOk.snapH rfl (by simp) (by simp only [clo_len, List.length_map, List.length_take, List.length_drop, List.length_cons, List.length_nil, List.length_append]; omega) (map_wid heldF_len) (heldsF_shr _), trivial⟩, trivial⟩ trivial rfl (by decide) ⟨fix_clo _ _, trivial⟩ trivial rfl (.inl rfl) (dk rfl) ?_
                          refine vl_store rfl rfl rfl rfl rfl rfl (Nat.le_of_ble_eq_true rfl) trivial ?_
                          refine vl_q (q_assign rfl) (dk rfl) ?_
                          refine vl_q (q_assign rfl) (dk rfl) ?_
                          refine vl_nil ?_
                          refine hK61 _ ?_
                          refine vc_ret ?_
                          refine ret_g [29] rfl (.cons (res_cell rfl rfl rfl rfl rfl rfl rfl (by decide)) (.cons (res_tmp rfl) (.cons (res_tmp rfl) .nil))) (by rw [e]; rfl) rfl (nodupB_ok rfl) ⟨by decide, trivial⟩ ⟨⟨⟨6, clo ((addP l fr t now).1.map heldO)⟩, some_node (by rw [e]), NR.clo _ _ _ _⟩, trivial⟩ trivial (Nat.zero_le _)
                        · refine vl_bslice rfl rfl rfl rfl rfl rfl ⟨rfl, trivial⟩ (by decide) (by decide) (dk rfl) ?_
                          refine vl_nil ?_
                          refine va_all [4] (by kernel_rfl) (by simp) ⟨⟨_, rfl, ?_⟩, trivial⟩
                          refine vl_append rfl rfl rfl rfl (fun _ h => TypeDesc.noConfusion h) rfl rfl rfl (Nat.zero_le _) (src_hdr (nd := ⟨6, clo ((l.eraseIdx (kIdx l fr t)).map heldF)⟩) (xs := clo (((l.eraseIdx (kIdx l fr t)).take k).map heldF)) rfl rfl (by simp [clo_len]; omega) (by show List.take k (List.drop 0 (clo ((l.eraseIdx (kIdx l fr t)).map heldF))) = _; rw [List.drop_zero, clo_take]) (plainF _) (widF _)) (by simp only [clo_len, List.length_map, List.length_take]; show (0 + _) * 80 ≤ _; omega) (by simp only [clo_len, List.length_map, List.length_take]; omega) (dk rfl) ?_
                          refine vl_nil ?_
                          refine va_all [7] (by kernel_rfl) (by simp) ⟨⟨_, rfl, ?_⟩, trivial⟩
                          refine vl_append rfl rfl rfl rfl (fun _ h => TypeDesc.noConfusion h) rfl rfl rfl (by rw [Nat.zero_add]; exact Nat.le_of_eq (by simp [clo_len])) (src_row rfl rfl rfl rfl) (by simp only [clo_len, List.length_map, List.length_take]; show (0 + _ + 1) * 80 ≤ _; omega) (by simp only [clo_len, List.length_map, List.length_take, List.length_cons, List.length_nil]; omega) (dk rfl) ?_
                          refine vl_nil ?_
                          refine va_q 8 rfl (by kernel_rfl) (by kernel_rfl) (by kernel_rfl) (q_assign rfl) (dk rfl) ?_
                          refine va_done (by kernel_rfl) ?_
                          refine hK59 _ ?_
                          refine vc_seq fun K62 hK62 => ?_
                          refine vc_region ?_
                          refine vl_q (q_move rfl) (dk rfl) ?_
                          refine vl_q (q_move rfl) (dk rfl) ?_
                          refine vl_q (q_move rfl) (dk rfl) ?_
                          refine vl_q (q_slice_hdr rfl rfl rfl rfl rfl rfl rfl rfl (by omega) (by omega) (.inl (by omega))) (dk rfl) ?_
                          refine vl_append rfl rfl rfl rfl (fun _ h => TypeDesc.noConfusion h) rfl rfl rfl (by rw [Nat.zero_add]; exact Nat.le_of_eq (by simp [clo_len])) (src_hdr (nd := ⟨6, clo ((l.eraseIdx (kIdx l fr t)).map heldF)⟩) (xs := clo (((l.eraseIdx (kIdx l fr t)).drop k).map heldF)) rfl rfl (by simp [clo_len]; omega) (by show List.take ((l.eraseIdx (kIdx l fr t)).length - k) (List.drop k (clo ((l.eraseIdx (kIdx l fr t)).map heldF))) = _; rw [clo_drop, List.take_of_length_le (by simp [clo_len])]) (plainF _) (widF _)) (by simp only [clo_len, List.length_map, List.length_take, List.length_drop, List.length_cons, List.length_nil]; show (0 + _ + 1 + _) * 80 ≤ _; omega) (by simp only [clo_len, List.length_map, List.length_take, List.length_drop, List.length_cons, List.length_nil]; omega) (dk rfl) ?_
                          refine vl_q (q_build rfl rfl rfl rfl rfl) (dk rfl) ?_
                          refine vl_weak (Weak.node (m := 28) (nd' := ⟨6, clo (((l.eraseIdx (kIdx l fr t)).take k ++ [y] ++ (l.eraseIdx (kIdx l fr t)).drop k).map heldF)⟩) rfl (congrArg (Vm.Node.mk 6) (ins_rows hk2 (by simp [clo_len]; omega) (by simp [clo_len]; omega)))) ?_
                          refine vl_callG [] (.v (.agg [.hdr 29 0 _])) (c_spec_l20Copy ((l.eraseIdx (kIdx l fr t)).take k ++ [y] ++ (l.eraseIdx (kIdx l fr t)).drop k) (by have h9 := sz_small (ins_sz hrz hyz (k := k)); have h8 := ins_len (l.eraseIdx (kIdx l fr t)) y hk2; omega)) rfl rfl ⟨VOk.agg ⟨XOk.snapH rfl (by simp) (by simp only [clo_len, List.length_map, List.length_take, List.length_drop, List.length_cons, List.length_nil, List.length_append]; omega) (map_wid heldF_len) (heldsF_shr _), trivial⟩, trivial⟩ trivial rfl (by decide) ⟨fix_clo _ _, trivial⟩ trivial rfl (.inl rfl) (dk rfl) ?_
                          refine vl_store rfl rfl rfl rfl rfl rfl (Nat.le_of_ble_eq_true rfl) trivial ?_
                          refine vl_q (q_assign rfl) (dk rfl) ?_
                          refine vl_q (q_assign rfl) (dk rfl) ?_
                          refine vl_nil ?_
                          refine hK62 _ ?_
                          refine vc_ret ?_
                          refine ret_g [29] rfl (.cons (res_cell rfl rfl rfl rfl rfl rfl rfl (by decide)) (.cons (res_tmp rfl) (.cons (res_tmp rfl) .nil))) (by rw [e]; rfl) rfl (nodupB_ok rfl) ⟨by decide, trivial⟩ ⟨⟨⟨6, clo ((addP l fr t now).1.map heldO)⟩, some_node (by rw [e]), NR.clo _ _ _ _⟩, trivial⟩ trivial (Nat.zero_le _)
                      · refine vl_bslice rfl rfl rfl rfl rfl rfl ⟨rfl, trivial⟩ (by decide) (by decide) (dk rfl) ?_
                        refine vl_nil ?_
                        refine va_all [0] (by kernel_rfl) (by simp) ⟨⟨_, rfl, ?_⟩, trivial⟩
                        refine vl_bslice rfl rfl rfl rfl rfl rfl trivial (by decide) (by decide) (dk rfl) ?_
                        refine vl_nil ?_
                        refine va_all [4] (by kernel_rfl) (by simp) ⟨⟨_, rfl, ?_⟩, trivial⟩
                        refine vl_append rfl rfl rfl rfl (fun _ h => TypeDesc.noConfusion h) rfl rfl rfl (Nat.zero_le _) (src_hdr (nd := ⟨6, clo ((l.eraseIdx (kIdx l fr t)).map heldF)⟩) (xs := clo (((l.eraseIdx (kIdx l fr t)).take k).map heldF)) rfl rfl (by simp [clo_len]; omega) (by show List.take k (List.drop 0 (clo ((l.eraseIdx (kIdx l fr t)).map heldF))) = _; rw [List.drop_zero, clo_take]) (plainF _) (widF _)) (by simp only [clo_len, List.length_map, List.length_take]; show (0 + _) * 80 ≤ _; omega) (by simp only [clo_len, List.length_map, List.length_take]; omega) (dk rfl) ?_
                        refine vl_nil ?_
                        refine va_all [7] (by kernel_rfl) (by simp) ⟨⟨_, rfl, ?_⟩, trivial⟩
                        refine vl_append rfl rfl rfl rfl (fun _ h => TypeDesc.noConfusion h) rfl rfl rfl (by rw [Nat.zero_add]; exact Nat.le_of_eq (by simp [clo_len])) (src_row rfl rfl rfl rfl) (by simp only [clo_len, List.length_map, List.length_take]; show (0 + _ + 1) * 80 ≤ _; omega) (by simp only [clo_len, List.length_map, List.length_take, List.length_cons, List.length_nil]; omega) (dk rfl) ?_
                        refine vl_nil ?_
                        refine va_q 8 rfl (by kernel_rfl) (by kernel_rfl) (by kernel_rfl) (q_assign rfl) (dk rfl) ?_
                        refine va_done (by kernel_rfl) ?_
                        refine hK59 _ ?_
                        refine vc_seq fun K63 hK63 => ?_
                        refine vc_region ?_
                        refine vl_q (q_move rfl) (dk rfl) ?_
                        refine vl_q (q_move rfl) (dk rfl) ?_
                        refine vl_q (q_move rfl) (dk rfl) ?_
                        refine vl_q (q_slice_hdr rfl rfl rfl rfl rfl rfl rfl rfl (by omega) (by omega) (.inl (by omega))) (dk rfl) ?_
                        refine vl_append rfl rfl rfl rfl (fun _ h => TypeDesc.noConfusion h) rfl rfl rfl (by rw [Nat.zero_add]; exact Nat.le_of_eq (by simp [clo_len])) (src_hdr (nd := ⟨6, clo ((l.eraseIdx (kIdx l fr t)).map heldF)⟩) (xs := clo (((l.eraseIdx (kIdx l fr t)).drop k).map heldF)) rfl rfl (by simp [clo_len]; omega) (by show List.take ((l.eraseIdx (kIdx l fr t)).length - k) (List.drop k (clo ((l.eraseIdx (kIdx l fr t)).map heldF))) = _; rw [clo_drop, List.take_of_length_le (by simp [clo_len])]) (plainF _) (widF _)) (by simp only [clo_len, List.length_map, List.length_take, List.length_drop, List.length_cons, List.length_nil]; show (0 + _ + 1 + _) * 80 ≤ _; omega) (by simp only [clo_len, List.length_map, List.length_take, List.length_drop, List.length_cons, List.length_nil]; omega) (dk rfl) ?_
                        refine vl_q (q_build rfl rfl rfl rfl rfl) (dk rfl) ?_
                        refine vl_weak (Weak.node (m := 28) (nd' := ⟨6, clo (((l.eraseIdx (kIdx l fr t)).take k ++ [y] ++ (l.eraseIdx (kIdx l fr t)).drop k).map heldF)⟩) rfl (congrArg (Vm.Node.mk 6) (ins_rows hk2 (by simp [clo_len]; omega) (by simp [clo_len]; omega)))) ?_
                        refine vl_callG [] (.v (.agg [.hdr 29 0 _])) (c_spec_l20Copy ((l.eraseIdx (kIdx l fr t)).take k ++ [y] ++ (l.eraseIdx (kIdx l fr t)).drop k) (by have h9 := sz_small (ins_sz hrz hyz (k := k)); have h8 := ins_len (l.eraseIdx (kIdx l fr t)) y hk2; omega)) rfl rfl ⟨VOk.agg ⟨XOk.snapH rfl (by simp) (by simp only [clo_len, List.length_map, List.length_take, List.length_drop, List.length_cons, List.length_nil, List.length_append]; omega) (map_wid heldF_len) (heldsF_shr _), trivial⟩, trivial⟩ trivial rfl (by decide) ⟨fix_clo _ _, trivial⟩ trivial rfl (.inl rfl) (dk rfl) ?_
                        refine vl_store rfl rfl rfl rfl rfl rfl (Nat.le_of_ble_eq_true rfl) trivial ?_
                        refine vl_q (q_assign rfl) (dk rfl) ?_
                        refine vl_q (q_assign rfl) (dk rfl) ?_
                        refine vl_nil ?_
                        refine hK63 _ ?_
                        refine vc_ret ?_
                        refine ret_g [29] rfl (.cons (res_cell rfl rfl rfl rfl rfl rfl rfl (by decide)) (.cons (res_tmp rfl) (.cons (res_tmp rfl) .nil))) (by rw [e]; rfl) rfl (nodupB_ok rfl) ⟨by decide, trivial⟩ ⟨⟨⟨6, clo ((addP l fr t now).1.map heldO)⟩, some_node (by rw [e]), NR.clo _ _ _ _⟩, trivial⟩ trivial (Nat.zero_le _)
                    · replace h140 := geq_nof h140
                      have e := XP_new hok h1 hx h140
                      rw [hyy] at e
                      refine vl_nil ?_
                      refine hK58 _ ?_
                      refine vc_cond_false rfl ?_
                      refine vc_skip ?_
                      refine hK57 _ ?_
                      refine vc_seq fun K64 hK64 => ?_
                      refine vc_seq fun K65 hK65 => ?_
                      refine vc_region ?_
                      refine vl_q (q_move rfl) (dk rfl) ?_
                      refine vl_q (q_len_hdr rfl rfl rfl) (dk rfl) ?_
                      refine vl_two (x := fun b => vv (.bool b)) _ (q_cmp rfl rfl rfl rfl) (dk rfl) (fun h158 => ?_) (fun h158 => ?_)
                      · replace h158 := eql_of h158
                        have h158n : (l.eraseIdx (kIdx l fr t)).length = 3 := by omega
                        refine vl_nil ?_
                        refine hK65 _ ?_
                        refine vc_cond_true rfl ?_
                        refine vc_region ?_
                        refine vl_q (q_move rfl) (dk rfl) ?_
                        refine vl_q (q_slice_hdr rfl rfl rfl rfl rfl rfl rfl rfl (by omega) (by omega) (.inl (by omega))) (dk rfl) ?_
                        refine vl_q (q_assign rfl) (dk rfl) ?_
                        refine vl_nil ?_
                        refine hK64 _ ?_
                        refine vc_seq fun K66 hK66 => ?_
                        refine vc_region ?_
                        refine vl_q (q_move rfl) (dk rfl) ?_
                        refine vl_load rfl rfl rfl rfl rfl rfl rfl (by decide) (dk rfl) ?_
                        refine vl_bslice rfl rfl rfl rfl rfl rfl ⟨rfl, trivial⟩ (by decide) (by decide) (dk rfl) ?_
                        refine vl_append rfl rfl rfl rfl (fun _ h => TypeDesc.noConfusion h) rfl rfl rfl (by simp [clo_len] <;> omega) (src_row rfl rfl rfl rfl) (by simp only [List.length_cons, List.length_nil]; show (_ + 1) * 80 ≤ _; omega) (by simp only [List.length_cons, List.length_nil]; omega) (dk rfl) ?_
                        refine vl_q (q_build rfl rfl rfl rfl rfl) (dk rfl) ?_
                        refine vl_weak (Weak.node (m := 25) (nd' := ⟨6, clo ((three (l.eraseIdx (kIdx l fr t)) ++ [y]).map heldF)⟩) rfl (congrArg (Vm.Node.mk 6) (tail_rows h158n (by simp; omega)))) ?_
                        refine vl_callG [] (.v (.agg [.hdr 26 0 _])) (c_spec_l20Copy (three (l.eraseIdx (kIdx l fr t)) ++ [y]) (by have h9 := sz_small (new_sz hrz hyz); have h8 := new_len (l.eraseIdx (kIdx l fr t)) y; omega)) rfl rfl ⟨VOk.agg ⟨XOk.snapH rfl (by simp) (by first | (rw [three_t h158n]; simp only [clo_len, List.length_map, List.length_drop, List.length_cons, List.length_nil, List.length_append]; omega) | (rw [three_f h158n]; simp only [clo_len, List.length_map, List.length_cons, List.length_nil, List.length_append])) (map_wid heldF_len) (heldsF_shr _), trivial⟩, trivial⟩ trivial rfl (by decide) ⟨fix_clo _ _, trivial⟩ trivial rfl (.inl rfl) (dk rfl) ?_
                        refine vl_store rfl rfl rfl rfl rfl rfl (Nat.le_of_ble_eq_true rfl) trivial ?_
                        refine vl_q (q_assign rfl) (dk rfl) ?_
                        refine vl_q (q_assign rfl) (dk rfl) ?_
                        refine vl_nil ?_
                        refine hK66 _ ?_
                        refine vc_ret ?_
                        refine ret_g [26] rfl (.cons (res_cell rfl rfl rfl rfl rfl rfl rfl (by decide)) (.cons (res_tmp rfl) (.cons (res_tmp rfl) .nil))) (by rw [e]; rfl) rfl (nodupB_ok rfl) ⟨by decide, trivial⟩ ⟨⟨⟨6, clo ((addP l fr t now).1.map heldO)⟩, some_node (by rw [e]), NR.clo _ _ _ _⟩, trivial⟩ trivial (Nat.zero_le _)
                      · replace h158 := eql_nof h158
                        have h158n : (l.eraseIdx (kIdx l fr t)).length ≠ 3 := by omega
                        refine vl_nil ?_
                        refine hK65 _ ?_
                        refine vc_cond_false rfl ?_
                        refine vc_skip ?_
                        refine hK64 _ ?_
                        refine vc_seq fun K67 hK67 => ?_
                        refine vc_region ?_
                        refine vl_q (q_move rfl) (dk rfl) ?_
                        refine vl_load rfl rfl rfl rfl rfl rfl rfl (by decide) (dk rfl) ?_
                        refine vl_bslice rfl rfl rfl rfl rfl rfl ⟨rfl, trivial⟩ (by decide) (by decide) (dk rfl) ?_
                        refine vl_append rfl rfl rfl rfl (fun _ h => TypeDesc.noConfusion h) rfl rfl rfl (by simp [clo_len] <;> omega) (src_row rfl rfl rfl rfl) (by simp only [List.length_cons, List.length_nil]; show (_ + 1) * 80 ≤ _; omega) (by simp only [List.length_cons, List.length_nil]; omega) (dk rfl) ?_
                        refine vl_q (q_build rfl rfl rfl rfl rfl) (dk rfl) ?_
                        refine vl_weak (Weak.node (m := 25) (nd' := ⟨6, clo ((three (l.eraseIdx (kIdx l fr t)) ++ [y]).map heldF)⟩) rfl (congrArg (Vm.Node.mk 6) (all_rows h158n rfl))) ?_
                        refine vl_callG [] (.v (.agg [.hdr 26 0 _])) (c_spec_l20Copy (three (l.eraseIdx (kIdx l fr t)) ++ [y]) (by have h9 := sz_small (new_sz hrz hyz); have h8 := new_len (l.eraseIdx (kIdx l fr t)) y; omega)) rfl rfl ⟨VOk.agg ⟨XOk.snapH rfl (by simp) (by first | (rw [three_t h158n]; simp only [clo_len, List.length_map, List.length_drop, List.length_cons, List.length_nil, List.length_append]; omega) | (rw [three_f h158n]; simp only [clo_len, List.length_map, List.length_cons, List.length_nil, List.length_append])) (map_wid heldF_len) (heldsF_shr _), trivial⟩, trivial⟩ trivial rfl (by decide) ⟨fix_clo _ _, trivial⟩ trivial rfl (.inl rfl) (dk rfl) ?_
                        refine vl_store rfl rfl rfl rfl rfl rfl (Nat.le_of_ble_eq_true rfl) trivial ?_
                        refine vl_q (q_assign rfl) (dk rfl) ?_
                        refine vl_q (q_assign rfl) (dk rfl) ?_
                        refine vl_nil ?_
                        refine hK67 _ ?_
                        refine vc_ret ?_
                        refine ret_g [26] rfl (.cons (res_cell rfl rfl rfl rfl rfl rfl rfl (by decide)) (.cons (res_tmp rfl) (.cons (res_tmp rfl) .nil))) (by rw [e]; rfl) rfl (nodupB_ok rfl) ⟨by decide, trivial⟩ ⟨⟨⟨6, clo ((addP l fr t now).1.map heldO)⟩, some_node (by rw [e]), NR.clo _ _ _ _⟩, trivial⟩ trivial (Nat.zero_le _)
          · refine vl_guard_on rfl rfl rfl ?_
            refine vl_q (q_not rfl) (dk rfl) ?_
            refine vl_q (q_pick_false rfl rfl) (dk rfl) ?_
            refine vl_nil ?_
            refine hK5 _ ?_
            refine vc_cond_true rfl ?_
            refine vc_seq fun K68 hK68 => ?_
            refine vc_region ?_
            refine vl_load rfl rfl rfl rfl rfl rfl rfl (by decide) (dk rfl) ?_
            refine vl_store rfl rfl rfl rfl rfl rfl (Nat.le_of_ble_eq_true rfl) trivial ?_
            refine vl_q (q_assign rfl) (dk rfl) ?_
            refine vl_q (q_assign rfl) (dk rfl) ?_
            refine vl_nil ?_
            refine hK68 _ ?_
            refine vc_ret ?_
            have e : addP l fr t now = (l, ⟨#[]⟩, false) := addP_bad (addOk_f (by first | exact .inl ‹_› | exact .inr (.inl ‹_›) | exact .inr (.inr (.inl ‹_›)) | exact .inr (.inr (.inr (.inl (by omega)))) | exact .inr (.inr (.inr (.inr ‹_›)))))
            refine ret_g [18] rfl (.cons (res_cell rfl rfl rfl rfl rfl rfl rfl (by decide)) (.cons (res_tmp rfl) (.cons (res_tmp rfl) .nil))) (by rw [e]; first | rfl | (simp only [List.length_set]; rfl) | (simp only [List.length_eraseIdx, if_pos hal, hy]; rfl)) rfl (nodupB_ok rfl) ⟨by decide, trivial⟩ ⟨⟨⟨6, clo ((addP l fr t now).1.map heldO)⟩, some_node (by rw [e]), NR.clo _ _ _ _⟩, trivial⟩ trivial (Nat.zero_le _)
      · refine vl_guard_on rfl rfl rfl ?_
        refine vl_q (q_not rfl) (dk rfl) ?_
        refine vl_q (q_pick_false rfl rfl) (dk rfl) ?_
        refine vl_q (q_move rfl) (dk rfl) ?_
        refine vl_goff rfl rfl rfl (by decide) (dk rfl) ?_
        refine vl_goff rfl rfl rfl (by decide) (dk rfl) ?_
        refine vl_q (q_pick_true rfl rfl) (dk rfl) ?_
        refine vl_q (q_move rfl) (dk rfl) ?_
        refine vl_goff rfl rfl rfl (by decide) (dk rfl) ?_
        refine vl_goff rfl rfl rfl (by decide) (dk rfl) ?_
        refine vl_goff rfl rfl rfl (by decide) (dk rfl) ?_
        refine vl_q (q_pick_true rfl rfl) (dk rfl) ?_
        refine vl_q (q_move rfl) (dk rfl) ?_
        refine vl_goff rfl rfl rfl (by decide) (dk rfl) ?_
        refine vl_goff rfl rfl rfl (by decide) (dk rfl) ?_
        refine vl_goff rfl rfl rfl (by decide) (dk rfl) ?_
        refine vl_q (q_pick_true rfl rfl) (dk rfl) ?_
        refine vl_nil ?_
        refine hK5 _ ?_
        refine vc_cond_true rfl ?_
        refine vc_seq fun K69 hK69 => ?_
        refine vc_region ?_
        refine vl_load rfl rfl rfl rfl rfl rfl rfl (by decide) (dk rfl) ?_
        refine vl_store rfl rfl rfl rfl rfl rfl (Nat.le_of_ble_eq_true rfl) trivial ?_
        refine vl_q (q_assign rfl) (dk rfl) ?_
        refine vl_q (q_assign rfl) (dk rfl) ?_
        refine vl_nil ?_
        refine hK69 _ ?_
        refine vc_ret ?_
        have e : addP l fr t now = (l, ⟨#[]⟩, false) := addP_bad (addOk_f (by first | exact .inl ‹_› | exact .inr (.inl ‹_›) | exact .inr (.inr (.inl ‹_›)) | exact .inr (.inr (.inr (.inl (by omega)))) | exact .inr (.inr (.inr (.inr ‹_›)))))
        refine ret_g [18] rfl (.cons (res_cell rfl rfl rfl rfl rfl rfl rfl (by decide)) (.cons (res_tmp rfl) (.cons (res_tmp rfl) .nil))) (by rw [e]; first | rfl | (simp only [List.length_set]; rfl) | (simp only [List.length_eraseIdx, if_pos hal, hy]; rfl)) rfl (nodupB_ok rfl) ⟨by decide, trivial⟩ ⟨⟨⟨6, clo ((addP l fr t now).1.map heldO)⟩, some_node (by rw [e]), NR.clo _ _ _ _⟩, trivial⟩ trivial (Nat.zero_le _)
    · refine vl_q (q_not rfl) (dk rfl) ?_
      refine vl_q (q_move rfl) (dk rfl) ?_
      refine vl_goff rfl rfl rfl (by decide) (dk rfl) ?_
      refine vl_goff rfl rfl rfl (by decide) (dk rfl) ?_
      refine vl_goff rfl rfl rfl (by decide) (dk rfl) ?_
      refine vl_q (q_pick_true rfl rfl) (dk rfl) ?_
      refine vl_q (q_move rfl) (dk rfl) ?_
      refine vl_goff rfl rfl rfl (by decide) (dk rfl) ?_
      refine vl_goff rfl rfl rfl (by decide) (dk rfl) ?_
      refine vl_q (q_pick_true rfl rfl) (dk rfl) ?_
      refine vl_q (q_move rfl) (dk rfl) ?_
      refine vl_goff rfl rfl rfl (by decide) (dk rfl) ?_
      refine vl_goff rfl rfl rfl (by decide) (dk rfl) ?_
      refine vl_goff rfl rfl rfl (by decide) (dk rfl) ?_
      refine vl_q (q_pick_true rfl rfl) (dk rfl) ?_
      refine vl_q (q_move rfl) (dk rfl) ?_
      refine vl_goff rfl rfl rfl (by decide) (dk rfl) ?_
      refine vl_goff rfl rfl rfl (by decide) (dk rfl) ?_
      refine vl_goff rfl rfl rfl (by decide) (dk rfl) ?_
      refine vl_q (q_pick_true rfl rfl) (dk rfl) ?_
      refine vl_nil ?_
      refine hK5 _ ?_
      refine vc_cond_true rfl ?_
      refine vc_seq fun K70 hK70 => ?_
      refine vc_region ?_
      refine vl_load rfl rfl rfl rfl rfl rfl rfl (by decide) (dk rfl) ?_
      refine vl_store rfl rfl rfl rfl rfl rfl (Nat.le_of_ble_eq_true rfl) trivial ?_
      refine vl_q (q_assign rfl) (dk rfl) ?_
      refine vl_q (q_assign rfl) (dk rfl) ?_
      refine vl_nil ?_
      refine hK70 _ ?_
      refine vc_ret ?_
      have e : addP l fr t now = (l, ⟨#[]⟩, false) := addP_bad (addOk_f (by first | exact .inl ‹_› | exact .inr (.inl ‹_›) | exact .inr (.inr (.inl ‹_›)) | exact .inr (.inr (.inr (.inl (by omega)))) | exact .inr (.inr (.inr (.inr ‹_›)))))
      refine ret_g [18] rfl (.cons (res_cell rfl rfl rfl rfl rfl rfl rfl (by decide)) (.cons (res_tmp rfl) (.cons (res_tmp rfl) .nil))) (by rw [e]; first | rfl | (simp only [List.length_set]; rfl) | (simp only [List.length_eraseIdx, if_pos hal, hy]; rfl)) rfl (nodupB_ok rfl) ⟨by decide, trivial⟩ ⟨⟨⟨6, clo ((addP l fr t now).1.map heldO)⟩, some_node (by rw [e]), NR.clo _ _ _ _⟩, trivial⟩ trivial (Nat.zero_le _)
  · refine vl_callP (c_sReadPart_f t hrp) rfl rfl ⟨XOk.val _, trivial⟩ rfl (.inl rfl) (dk rfl) ?_
    refine vl_q (q_move rfl) (dk rfl) ?_
    refine vl_q (q_extract rfl rfl) (dk rfl) ?_
    refine vl_q (q_extract rfl rfl) (dk rfl) ?_
    refine vl_q (q_extract rfl rfl) (dk rfl) ?_
    refine vl_q (q_extract rfl rfl) (dk rfl) ?_
    refine vl_q (q_extract rfl rfl) (dk rfl) ?_
    refine vl_q (q_assign rfl) (dk rfl) ?_
    refine vl_q (q_assign rfl) (dk rfl) ?_
    refine vl_q (q_assign rfl) (dk rfl) ?_
    refine vl_q (q_assign rfl) (dk rfl) ?_
    refine vl_q (q_assign rfl) (dk rfl) ?_
    refine vl_nil ?_
    refine hK2 _ ?_
    refine vc_seq fun K71 hK71 => ?_
    refine vc_region ?_
    refine vl_load rfl rfl rfl rfl rfl rfl rfl (by decide) (dk rfl) ?_
    refine vl_callG [] (.v (.agg [.hdr 18 0 _])) (c_spec_l20Copy l hb) rfl rfl ⟨VOk.agg ⟨XOk.shc _ _, trivial⟩, trivial⟩ trivial rfl (by decide) ⟨fix_clo _ _, trivial⟩ trivial rfl (.inl rfl) (dk rfl) ?_
    refine vl_alloc rfl (dk rfl) ?_
    refine vl_store rfl rfl rfl rfl rfl rfl (Nat.le_of_ble_eq_true rfl) trivial ?_
    refine vl_nil ?_
    refine hK71 _ ?_
    refine vc_seq fun K72 hK72 => ?_
    refine vc_seq fun K73 hK73 => ?_
    refine vc_region ?_
    refine vl_load rfl rfl rfl rfl rfl rfl rfl (by decide) (dk rfl) ?_
    refine vl_callP (c_spec_ShelfOk l) rfl rfl ⟨VOk.agg ⟨XOk.shc _ _, trivial⟩, trivial⟩ rfl (.inl rfl) (dk rfl) ?_
    refine vl_bool 36 rfl (fun h36 => ?_) (fun h36 => ?_)
    · have hsg : ShelfGood l := of_decide_eq_true h36
      have hlen3 := hsg.len
      refine vl_q (q_not rfl) (dk rfl) ?_
      refine vl_q (q_move rfl) (dk rfl) ?_
      refine vl_guard_on rfl rfl rfl ?_
      refine vl_q (q_move rfl) (dk rfl) ?_
      refine vl_guard_on rfl rfl rfl ?_
      refine vl_callP (c_spec_l01In _ _ _) rfl rfl ⟨XOk.val _, XOk.val _, XOk.val _, trivial⟩ rfl (.inl rfl) (dk rfl) ?_
      refine vl_bool 40 rfl (fun h40 => ?_) (fun h40 => ?_)
      · refine vl_guard_on rfl rfl rfl ?_
        refine vl_q (q_not rfl) (dk rfl) ?_
        refine vl_q (q_pick_false rfl rfl) (dk rfl) ?_
        refine vl_q (q_move rfl) (dk rfl) ?_
        refine vl_guard_on rfl rfl rfl ?_
        refine vl_q (q_move rfl) (dk rfl) ?_
        refine vl_guard_on rfl rfl rfl ?_
        refine vl_q (q_not rfl) (dk rfl) ?_
        refine vl_q (q_pick_false rfl rfl) (dk rfl) ?_
        refine vl_q (q_move rfl) (dk rfl) ?_
        refine vl_goff rfl rfl rfl (by decide) (dk rfl) ?_
        refine vl_goff rfl rfl rfl (by decide) (dk rfl) ?_
        refine vl_goff rfl rfl rfl (by decide) (dk rfl) ?_
        refine vl_q (q_pick_true rfl rfl) (dk rfl) ?_
        refine vl_q (q_move rfl) (dk rfl) ?_
        refine vl_goff rfl rfl rfl (by decide) (dk rfl) ?_
        refine vl_goff rfl rfl rfl (by decide) (dk rfl) ?_
        refine vl_goff rfl rfl rfl (by decide) (dk rfl) ?_
        refine vl_q (q_pick_true rfl rfl) (dk rfl) ?_
        refine vl_nil ?_
        refine hK73 _ ?_
        refine vc_cond_true rfl ?_
        refine vc_seq fun K74 hK74 => ?_
        refine vc_region ?_
        refine vl_load rfl rfl rfl rfl rfl rfl rfl (by decide) (dk rfl) ?_
        refine vl_store rfl rfl rfl rfl rfl rfl (Nat.le_of_ble_eq_true rfl) trivial ?_
        refine vl_q (q_assign rfl) (dk rfl) ?_
        refine vl_q (q_assign rfl) (dk rfl) ?_
        refine vl_nil ?_
        refine hK74 _ ?_
        refine vc_ret ?_
        have e : addP l fr t now = (l, ⟨#[]⟩, false) := addP_bad (addOk_f (by first | exact .inl ‹_› | exact .inr (.inl ‹_›) | exact .inr (.inr (.inl ‹_›)) | exact .inr (.inr (.inr (.inl (by omega)))) | exact .inr (.inr (.inr (.inr ‹_›)))))
        refine ret_g [18] rfl (.cons (res_cell rfl rfl rfl rfl rfl rfl rfl (by decide)) (.cons (res_tmp rfl) (.cons (res_tmp rfl) .nil))) (by rw [e]; first | rfl | (simp only [List.length_set]; rfl) | (simp only [List.length_eraseIdx, if_pos hal, hy]; rfl)) rfl (nodupB_ok rfl) ⟨by decide, trivial⟩ ⟨⟨⟨6, clo ((addP l fr t now).1.map heldO)⟩, some_node (by rw [e]), NR.clo _ _ _ _⟩, trivial⟩ trivial (Nat.zero_le _)
      · refine vl_guard_on rfl rfl rfl ?_
        refine vl_q (q_not rfl) (dk rfl) ?_
        refine vl_q (q_pick_false rfl rfl) (dk rfl) ?_
        refine vl_q (q_move rfl) (dk rfl) ?_
        refine vl_goff rfl rfl rfl (by decide) (dk rfl) ?_
        refine vl_goff rfl rfl rfl (by decide) (dk rfl) ?_
        refine vl_q (q_pick_true rfl rfl) (dk rfl) ?_
        refine vl_q (q_move rfl) (dk rfl) ?_
        refine vl_goff rfl rfl rfl (by decide) (dk rfl) ?_
        refine vl_goff rfl rfl rfl (by decide) (dk rfl) ?_
        refine vl_goff rfl rfl rfl (by decide) (dk rfl) ?_
        refine vl_q (q_pick_true rfl rfl) (dk rfl) ?_
        refine vl_q (q_move rfl) (dk rfl) ?_
        refine vl_goff rfl rfl rfl (by decide) (dk rfl) ?_
        refine vl_goff rfl rfl rfl (by decide) (dk rfl) ?_
        refine vl_goff rfl rfl rfl (by decide) (dk rfl) ?_
        refine vl_q (q_pick_true rfl rfl) (dk rfl) ?_
        refine vl_nil ?_
        refine hK73 _ ?_
        refine vc_cond_true rfl ?_
        refine vc_seq fun K75 hK75 => ?_
        refine vc_region ?_
        refine vl_load rfl rfl rfl rfl rfl rfl rfl (by decide) (dk rfl) ?_
        refine vl_store rfl rfl rfl rfl rfl rfl (Nat.le_of_ble_eq_true rfl) trivial ?_
        refine vl_q (q_assign rfl) (dk rfl) ?_
        refine vl_q (q_assign rfl) (dk rfl) ?_
        refine vl_nil ?_
        refine hK75 _ ?_
        refine vc_ret ?_
        have e : addP l fr t now = (l, ⟨#[]⟩, false) := addP_bad (addOk_f (by first | exact .inl ‹_› | exact .inr (.inl ‹_›) | exact .inr (.inr (.inl ‹_›)) | exact .inr (.inr (.inr (.inl (by omega)))) | exact .inr (.inr (.inr (.inr ‹_›)))))
        refine ret_g [18] rfl (.cons (res_cell rfl rfl rfl rfl rfl rfl rfl (by decide)) (.cons (res_tmp rfl) (.cons (res_tmp rfl) .nil))) (by rw [e]; first | rfl | (simp only [List.length_set]; rfl) | (simp only [List.length_eraseIdx, if_pos hal, hy]; rfl)) rfl (nodupB_ok rfl) ⟨by decide, trivial⟩ ⟨⟨⟨6, clo ((addP l fr t now).1.map heldO)⟩, some_node (by rw [e]), NR.clo _ _ _ _⟩, trivial⟩ trivial (Nat.zero_le _)
    · refine vl_q (q_not rfl) (dk rfl) ?_
      refine vl_q (q_move rfl) (dk rfl) ?_
      refine vl_goff rfl rfl rfl (by decide) (dk rfl) ?_
      refine vl_goff rfl rfl rfl (by decide) (dk rfl) ?_
      refine vl_goff rfl rfl rfl (by decide) (dk rfl) ?_
      refine vl_q (q_pick_true rfl rfl) (dk rfl) ?_
      refine vl_q (q_move rfl) (dk rfl) ?_
      refine vl_goff rfl rfl rfl (by decide) (dk rfl) ?_
      refine vl_goff rfl rfl rfl (by decide) (dk rfl) ?_
      refine vl_q (q_pick_true rfl rfl) (dk rfl) ?_
      refine vl_q (q_move rfl) (dk rfl) ?_
      refine vl_goff rfl rfl rfl (by decide) (dk rfl) ?_
      refine vl_goff rfl rfl rfl (by decide) (dk rfl) ?_
      refine vl_goff rfl rfl rfl (by decide) (dk rfl) ?_
      refine vl_q (q_pick_true rfl rfl) (dk rfl) ?_
      refine vl_q (q_move rfl) (dk rfl) ?_
      refine vl_goff rfl rfl rfl (by decide) (dk rfl) ?_
      refine vl_goff rfl rfl rfl (by decide) (dk rfl) ?_
      refine vl_goff rfl rfl rfl (by decide) (dk rfl) ?_
      refine vl_q (q_pick_true rfl rfl) (dk rfl) ?_
      refine vl_nil ?_
      refine hK73 _ ?_
      refine vc_cond_true rfl ?_
      refine vc_seq fun K76 hK76 => ?_
      refine vc_region ?_
      refine vl_load rfl rfl rfl rfl rfl rfl rfl (by decide) (dk rfl) ?_
      refine vl_store rfl rfl rfl rfl rfl rfl (Nat.le_of_ble_eq_true rfl) trivial ?_
      refine vl_q (q_assign rfl) (dk rfl) ?_
      refine vl_q (q_assign rfl) (dk rfl) ?_
      refine vl_nil ?_
      refine hK76 _ ?_
      refine vc_ret ?_
      have e : addP l fr t now = (l, ⟨#[]⟩, false) := addP_bad (addOk_f (by first | exact .inl ‹_› | exact .inr (.inl ‹_›) | exact .inr (.inr (.inl ‹_›)) | exact .inr (.inr (.inr (.inl (by omega)))) | exact .inr (.inr (.inr (.inr ‹_›)))))
      refine ret_g [18] rfl (.cons (res_cell rfl rfl rfl rfl rfl rfl rfl (by decide)) (.cons (res_tmp rfl) (.cons (res_tmp rfl) .nil))) (by rw [e]; first | rfl | (simp only [List.length_set]; rfl) | (simp only [List.length_eraseIdx, if_pos hal, hy]; rfl)) rfl (nodupB_ok rfl) ⟨by decide, trivial⟩ ⟨⟨⟨6, clo ((addP l fr t now).1.map heldO)⟩, some_node (by rw [e]), NR.clo _ _ _ _⟩, trivial⟩ trivial (Nat.zero_le _)
end Go.Vm.S
namespace Go.Vm.S
open Go Go.Vm
theorem c_stI (d : Dr) : Ctr Pg ty 27 [.one (.ptr 0 0 0), iv 9] [drN d] (Gives (vv (.int .i64 (dBelow d 9).1)) [] [drN (dBelow d 9).2]) := c_spec_l01Below d 9
theorem c_stA (d : Dr) : Ctr Pg ty 27 [.one (.ptr 0 0 0), iv 3] [drN d] (Gives (vv (.int .i64 (stA d).1)) [] [drN (stA d).2]) := c_spec_l01Below d 3
theorem c_stB (d : Dr) : Ctr Pg ty 26 [.one (.ptr 0 0 0)] [drN (stA d).2] (Gives (vv (.string (stB d).1)) [] [drN (stB d).2]) := c_spec_l20Long _
theorem c_stC (d : Dr) : Ctr Pg ty 27 [.one (.ptr 0 0 0), iv 20] [drN (stB d).2] (Gives (vv (.int .i64 (stC d).1)) [] [drN (stC d).2]) := c_spec_l01Below _ 20
theorem c_stE (d : Dr) : Ctr Pg ty 27 [.one (.ptr 0 0 0), iv 2] [drN (stC d).2] (Gives (vv (.int .i64 (stE d).1)) [] [drN (stE d).2]) := c_spec_l01Below _ 2
theorem c_stF (d : Dr) : Ctr Pg ty 27 [.one (.ptr 0 0 0), iv (stN d)] [drN (stE d).2] (Gives (vv (.int .i64 (stF d).1)) [] [drN (stF d).2]) := c_spec_l01Below _ _
theorem c_stG (d : Dr) : Ctr Pg ty 27 [.one (.ptr 0 0 0), iv 20] [drN (stF d).2] (Gives (vv (.int .i64 (stG d).1)) [] [drN (stG d).2]) := c_spec_l01Below _ 20
theorem c_stP (d : Dr) : Ctr Pg ty 10 [iv (stA d).1, sv (stB d).1, iv (stZ d)] [] (Gives (.tup [.one (.hdr 16 0 (stN d)), bv true]) [⟨1, clo ((pcs (stA d).1 (stB d).1 (stZ d) (stN d)).map strC)⟩] []) :=
  c_spec_Split (stA d).1 (stB d).1 (stZ d) (stA_in _) ⟨(stZ_eq _).2.1, by have := (stZ_eq d).2.2; omega⟩ (by have := stB_le d; omega)
theorem st_row (d : Dr) : (clo ((pcs (stA d).1 (stB d).1 (stZ d) (stN d)).map strC))[(stF d).1.toNat]? = some ((strC (piece (stA d).1 (stB d).1 (stZ d) (stN d) (stJ d))).map X.c) := pcs_at (stJ_eq d).2
theorem c_stAdd (d : Dr) (l : List Held) (hg : ShelfGood l) : Ctr Pg ty 24 [.agg ((shelfC l).map X.c), iv (1 + (stE d).1), sv (piece (stA d).1 (stB d).1 (stZ d) (stN d) (stJ d)), iv (stG d).1] []
    (Gives (.tup [.agg [.hdr 16 0 (shStep d l).1.length], sv (addP l (1 + (stE d).1) (piece (stA d).1 (stB d).1 (stZ d) (stN d) (stJ d)) (stG d).1).2.1, bv (addP l (1 + (stE d).1) (piece (stA d).1 (stB d).1 (stZ d) (stN d) (stJ d)) (stG d).1).2.2]) [⟨6, clo ((shStep d l).1.map heldO)⟩] []) :=
  c_spec_AddPart l (1 + (stE d).1) (piece (stA d).1 (stB d).1 (stZ d) (stN d) (stJ d)) (stG d).1 (by have := good_sz hg; omega)
theorem stE_in (d : Dr) : 0 ≤ (stE d).1 ∧ (stE d).1 < 2 := dBelow_lt (stC d).2 (n := 2) (by omega)
theorem stC_in (d : Dr) : 0 ≤ (stC d).1 ∧ (stC d).1 < 20 := dBelow_lt (stB d).2 (n := 20) (by omega)
theorem c_dsNew (bs : List Int) (hb : bs.length ≤ 1048576) : Ctr Pg ty 25 [.one (.c (.fz 1 (bs.map byteC)))] [] (Gives (.v (.one (.ptr 16 0 0))) [drN (dNew bs hb)] []) := c_spec_l01New bs hb
theorem c_dsF (bs : List Int) (hb : bs.length ≤ 1048576) : Ctr Pg ty 27 [.one (.ptr 0 0 0), iv (stN (dsD bs hb))] [drN (stC (dsD bs hb)).2] (Gives (vv (.int .i64 (dBelow (stC (dsD bs hb)).2 (stN (dsD bs hb))).1)) [] [drN (dBelow (stC (dsD bs hb)).2 (stN (dsD bs hb))).2]) := c_spec_l01Below _ _
theorem c_dsNow (bs : List Int) (hb : bs.length ≤ 1048576) : Ctr Pg ty 27 [.one (.ptr 0 0 0), iv 30] [drN (dBelow (stC (dsD bs hb)).2 (stN (dsD bs hb))).2] (Gives (vv (.int .i64 (dsNow bs hb))) [] [drN (dBelow (dBelow (stC (dsD bs hb)).2 (stN (dsD bs hb))).2 30).2]) := c_spec_l01Below _ _
theorem ds_row (bs : List Int) (hb : bs.length ≤ 1048576) : (clo ((pcs (stA (dsD bs hb)).1 (stB (dsD bs hb)).1 (stZ (dsD bs hb)) (stN (dsD bs hb))).map strC))[(dBelow (stC (dsD bs hb)).2 (stN (dsD bs hb))).1.toNat]? = some ((strC (dsT bs hb)).map X.c) := pcs_at (dsJ_eq bs hb).2
end Go.Vm.S
namespace Go.Vm.S
open Go Go.Vm
set_option maxRecDepth 100000
set_option linter.unusedVariables false
set_option maxHeartbeats 1000000
theorem at48 : FnAt Pg 48 Go.Proofs.Try.f48 := ⟨by kernel_rfl, rfl, by decide⟩
theorem c_spec_l20Shelf (d0 : Dr) :
    Ctr Pg ty 48 [.one (.ptr 0 0 0)] [drN d0] (Gives (.v (.agg [.hdr 16 0 (drShelf d0).1.length])) [⟨6, clo ((drShelf d0).1.map heldO)⟩] [drN (drShelf d0).2]) := by
  refine ctr at48 rfl (nsK_gives rfl ⟨nsN_map heldO_noSh, trivial⟩ ⟨drN_ns _, trivial⟩) (Nat.le_of_ble_eq_true rfl) fun w0 S0 L0 Z => ?_
  refine vc_seq fun K1 hK1 => ?_
  refine vc_region ?_
  refine vl_alloc rfl (dk rfl) ?_
  refine vl_nil ?_
  refine hK1 _ ?_
  refine vc_seq fun K2 hK2 => ?_
  refine vc_region ?_
  refine vl_q (q_build rfl rfl rfl rfl rfl) (dk rfl) ?_
  refine vl_alloc rfl (dk rfl) ?_
  refine vl_store rfl rfl rfl rfl rfl rfl (Nat.le_of_ble_eq_true rfl) trivial ?_
  refine vl_nil ?_
  refine hK2 _ ?_
  refine vc_seq fun K3 hK3 => ?_
  refine vc_seq fun K4 hK4 => ?_
  refine vc_region ?_
  refine vl_q (q_assign rfl) (dk rfl) ?_
  refine vl_nil ?_
  refine hK4 _ ?_
  refine vc_block ?_
  refine vc_weak (Weak.tell1 (m := 17) (i := 0) (j := 0) rfl rfl rfl (Imp.nil 6) (one_wid rfl)) ?_
  refine vc_loop (fun mz st => ∃ i : Nat, ∃ d : Dr, ∃ l : List Held, (i ≤ 9 ∧ ShelfGood l ∧ shRun (10 - i) i d l = ((drShelf d0).1, (drShelf d0).2)) ∧ mz = 9 - i ∧ st = mkSt [(0, .v (.one (.ptr 0 0 0))), (2, .v (.one (.ptr 16 0 0))), (3, .v (.one (.ptr 17 0 0))), (4, .v (iv i))] [(0, drN d), (16, ⟨1, [[.c (.val (.slice none 0 0))]]⟩), (17, ⟨1, [[.c (.own 6 (l.map heldO))]]⟩)] 18) ⟨_, _, ⟨0, d0, [], ⟨by omega, good_nil, rfl⟩, rfl, rfl⟩, (Weak.cut _ _ _ (Nat.le_of_ble_eq_true rfl) ⟨⟨rfl, rfl⟩, ⟨rfl, rfl⟩, ⟨rfl, rfl⟩, ⟨rfl, rfl⟩, trivial⟩ ⟨⟨Nat.le_of_ble_eq_true rfl, rfl, belN_clo _ _ _⟩, ⟨Nat.le_of_ble_eq_true rfl, rfl, belN_all rfl⟩, ⟨Nat.le_of_ble_eq_true rfl, rfl, belN_all rfl⟩, trivial⟩ rfl)⟩ (fun mz st hI => ?_)
  obtain ⟨i, d, l, ⟨hi, hg, hr⟩, hmz, rfl⟩ := hI
  refine vc_seq fun K5 hK5 => ?_
  refine vc_seq fun K6 hK6 => ?_
  have hb9 := dBelow_lt d (n := 9) (by omega)
  refine vc_region ?_
  refine vl_q (q_move rfl) (dk rfl) ?_
  refine vl_q (q_move rfl) (dk rfl) ?_
  refine vl_callG [0] (vv (.int .i64 _)) (c_stI d) rfl rfl ⟨XOk.ptr rfl (by decide) _ _, XOk.val _, trivial⟩ ⟨⟨_, rfl, NR.clo _ _ _ _⟩, trivial⟩ rfl (by decide) trivial ⟨fix_clo _ _, trivial⟩ rfl (.inl rfl) (dk rfl) ?_
  refine vl_two (x := fun b => vv (.bool b)) _ (q_cmp rfl rfl rfl rfl) (dk rfl) (fun h11 => ?_) (fun h11 => ?_)
  · replace h11 := lss_of h11
    have hi9 : i < 9 := by omega
    refine vl_nil ?_
    refine hK6 _ ?_
    refine vc_cond_true rfl ?_
    refine vc_skip ?_
    refine hK5 _ ?_
    refine vc_seq fun K7 hK7 => ?_
    refine vc_block ?_
    refine vc_seq fun K8 hK8 => ?_
    have hz := stZ_eq (dBelow d 9).2
    have hj := stJ_eq (dBelow d 9).2
    have hn := stN_in (dBelow d 9).2
    refine vc_region ?_
    refine vl_q (q_move rfl) (dk rfl) ?_
    refine vl_callG [0] (vv (.int .i64 _)) (c_stA (dBelow d 9).2) rfl rfl ⟨XOk.ptr rfl (by decide) _ _, XOk.val _, trivial⟩ ⟨⟨_, rfl, NR.clo _ _ _ _⟩, trivial⟩ rfl (by decide) trivial ⟨fix_clo _ _, trivial⟩ rfl (.inl rfl) (dk rfl) ?_
    refine vl_q (q_move rfl) (dk rfl) ?_
    refine vl_callG [0] (vv (.string _)) (c_stB (dBelow d 9).2) rfl rfl ⟨XOk.ptr rfl (by decide) _ _, trivial⟩ ⟨⟨_, rfl, NR.clo _ _ _ _⟩, trivial⟩ rfl (by decide) trivial ⟨fix_clo _ _, trivial⟩ rfl (.inl rfl) (dk rfl) ?_
    refine vl_q (q_move rfl) (dk rfl) ?_
    refine vl_callG [0] (vv (.int .i64 _)) (c_stC (dBelow d 9).2) rfl rfl ⟨XOk.ptr rfl (by decide) _ _, XOk.val _, trivial⟩ ⟨⟨_, rfl, NR.clo _ _ _ _⟩, trivial⟩ rfl (by decide) trivial ⟨fix_clo _ _, trivial⟩ rfl (.inl rfl) (dk rfl) ?_
    refine vl_q (q_add rfl rfl (IntWalk.i64_in _ (by have := stC_in (dBelow d 9).2; omega))) (dk rfl) ?_
    rw [hz.1]
    refine vl_callG [] (.tup [.one (.hdr 18 0 _), bv true]) (c_stP (dBelow d 9).2) rfl rfl ⟨XOk.val _, XOk.val _, XOk.val _, trivial⟩ trivial rfl (by decide) ⟨fix_clo _ _, trivial⟩ trivial rfl (.inl rfl) (dk rfl) ?_
    refine vl_q (q_move rfl) (dk rfl) ?_
    refine vl_q (q_extract rfl rfl) (dk rfl) ?_
    refine vl_q (q_extract rfl rfl) (dk rfl) ?_
    refine vl_q (q_assign rfl) (dk rfl) ?_
    refine vl_q (q_assign rfl) (dk rfl) ?_
    refine vl_nil ?_
    refine hK8 _ ?_
    refine vc_seq fun K9 hK9 => ?_
    refine vc_region ?_
    refine vl_q (q_move rfl) (dk rfl) ?_
    refine vl_nil ?_
    refine hK9 _ ?_
    refine vc_cond_true rfl ?_
    refine vc_weak (Weak.open1 (nm := 17) (i := 0) (j := 0) rfl rfl rfl) ?_
    simp only [List.length_map]
    refine vc_region_any mixed (fun n => Nat.beq n 18) false rfl rfl (fun _ hU10 => hU10) fun w1 S1 L1 Z1 H1 => ?_
    refine va_q 1 rfl (by kernel_rfl) (by kernel_rfl) (by kernel_rfl) (q_move rfl) (dk rfl) ?_
    refine va_q 4 rfl (by kernel_rfl) (by kernel_rfl) (by kernel_rfl) (q_move rfl) (dk rfl) ?_
    refine va_q 5 rfl (by kernel_rfl) (by kernel_rfl) (by kernel_rfl) (q_move rfl) (dk rfl) ?_
    refine va_q 6 rfl (by kernel_rfl) (by kernel_rfl) (by kernel_rfl) (q_move rfl) (dk rfl) ?_
    refine va_q 7 rfl (by kernel_rfl) (by kernel_rfl) (by kernel_rfl) (q_len_hdr rfl rfl rfl) (dk rfl) ?_
    refine va_q 11 rfl (by kernel_rfl) (by kernel_rfl) (by kernel_rfl) (q_move rfl) (dk rfl) ?_
    refine va_all [0, 2] (by kernel_rfl) (by simp) ⟨⟨_, rfl, ?_⟩, ⟨_, rfl, ?_⟩, trivial⟩
    · refine vl_load rfl rfl rfl rfl rfl rfl rfl (by decide) (dk rfl) ?_
      refine vl_nil ?_
      refine va_all [2] (by kernel_rfl) (by simp) ⟨⟨_, rfl, ?_⟩, trivial⟩
      refine vl_callG [0] (vv (.int .i64 _)) (c_stE (dBelow d 9).2) rfl rfl ⟨XOk.ptr rfl (by decide) _ _, XOk.val _, trivial⟩ ⟨⟨_, rfl, NR.clo _ _ _ _⟩, trivial⟩ rfl (by decide) trivial ⟨fix_clo _ _, trivial⟩ rfl (.inl rfl) (dk rfl) ?_
      refine vl_nil ?_
      refine va_q 3 rfl (by kernel_rfl) (by kernel_rfl) (by kernel_rfl) (q_add rfl rfl (IntWalk.i64_in _ (by have := stE_in (dBelow d 9).2; omega))) (dk rfl) ?_
      refine va_all [8] (by kernel_rfl) (by simp) ⟨⟨_, rfl, ?_⟩, trivial⟩
      refine vl_callG [0] (vv (.int .i64 _)) (c_stF (dBelow d 9).2) rfl rfl ⟨XOk.ptr rfl (by decide) _ _, XOk.val _, trivial⟩ ⟨⟨_, rfl, NR.clo _ _ _ _⟩, trivial⟩ rfl (by decide) trivial ⟨fix_clo _ _, trivial⟩ rfl (.inl rfl) (dk rfl) ?_
      refine vl_nil ?_
      refine va_q 9 rfl (by kernel_rfl) (by kernel_rfl) (by kernel_rfl) (q_indexAddr rfl rfl rfl rfl rfl rfl rfl (by omega) (by omega)) (dk rfl) ?_
      refine va_q 10 rfl (by kernel_rfl) (by kernel_rfl) (by kernel_rfl) (q_load rfl rfl rfl (st_row _) rfl rfl rfl (by decide)) (dk rfl) ?_
      refine va_all [12] (by kernel_rfl) (by simp) ⟨⟨_, rfl, ?_⟩, trivial⟩
      refine vl_callG [0] (vv (.int .i64 _)) (c_stG (dBelow d 9).2) rfl rfl ⟨XOk.ptr rfl (by decide) _ _, XOk.val _, trivial⟩ ⟨⟨_, rfl, NR.clo _ _ _ _⟩, trivial⟩ rfl (by decide) trivial ⟨fix_clo _ _, trivial⟩ rfl (.inl rfl) (dk rfl) ?_
      refine vl_nil ?_
      refine va_all [13] (by kernel_rfl) (by simp) ⟨⟨_, rfl, ?_⟩, trivial⟩
      refine vl_callG [] (_) (c_stAdd (dBelow d 9).2 l hg) rfl rfl ⟨VOk.agg ⟨XOk.snapH rfl (by simp) (by simp [markHs_len]) (map_wid heldO_len) (heldsO_shr _), trivial⟩, XOk.val _, XOk.val _, XOk.val _, trivial⟩ trivial rfl (by decide) ⟨fix_clo _ _, trivial⟩ trivial rfl (.inl rfl) (dk rfl) ?_
      refine vl_nil ?_
      refine va_q 14 rfl (by kernel_rfl) (by kernel_rfl) (by kernel_rfl) (q_move rfl) (dk rfl) ?_
      refine va_q 15 rfl (by kernel_rfl) (by kernel_rfl) (by kernel_rfl) (q_extract rfl rfl) (dk rfl) ?_
      refine va_q 16 rfl (by kernel_rfl) (by kernel_rfl) (by kernel_rfl) (q_extract rfl rfl) (dk rfl) ?_
      refine va_q 17 rfl (by kernel_rfl) (by kernel_rfl) (by kernel_rfl) (q_extract rfl rfl) (dk rfl) ?_
      refine va_all [18] (by kernel_rfl) (by simp) ⟨⟨_, rfl, ?_⟩, trivial⟩
      refine vl_store rfl rfl rfl rfl rfl rfl (Nat.le_of_ble_eq_true rfl) trivial ?_
      refine vl_nil ?_
      refine va_done (by kernel_rfl) ?_
      refine hK7 _ ?_
      refine vc_weak (Weak.close1 (nm := 17) (i := 0) (j := 0) (m := 20) (es := (shStep (dBelow d 9).2 l).1.map heldO) rfl rfl rfl rfl (by simp) (by decide)) ?_
      refine vc_region ?_
      refine vl_q (q_move rfl) (dk rfl) ?_
      refine vl_q (q_add rfl rfl (IntWalk.i64_in _ (by omega))) (dk rfl) ?_
      refine vl_q (q_assign rfl) (dk rfl) ?_
      refine vl_nil ?_
      refine ⟨_, _, ?_, ⟨i + 1, (shStep (dBelow d 9).2 l).2, (shStep (dBelow d 9).2 l).1, ⟨by omega, addP_good hg, shRun_go hi9 h11 hr rfl⟩, rfl, rfl⟩, (Weak.cut _ _ _ (Nat.le_of_ble_eq_true rfl) ⟨⟨rfl, rfl⟩, ⟨rfl, rfl⟩, ⟨rfl, rfl⟩, ⟨rfl, rfl⟩, trivial⟩ ⟨⟨Nat.le_of_ble_eq_true rfl, rfl, belN_clo _ _ _⟩, ⟨Nat.le_of_ble_eq_true rfl, rfl, belN_all rfl⟩, ⟨Nat.le_of_ble_eq_true rfl, rfl, belN_all rfl⟩, trivial⟩ rfl)⟩
      omega
    · refine vl_callG [0] (vv (.int .i64 _)) (c_stE (dBelow d 9).2) rfl rfl ⟨XOk.ptr rfl (by decide) _ _, XOk.val _, trivial⟩ ⟨⟨_, rfl, NR.clo _ _ _ _⟩, trivial⟩ rfl (by decide) trivial ⟨fix_clo _ _, trivial⟩ rfl (.inl rfl) (dk rfl) ?_
      refine vl_nil ?_
      refine va_q 3 rfl (by kernel_rfl) (by kernel_rfl) (by kernel_rfl) (q_add rfl rfl (IntWalk.i64_in _ (by have := stE_in (dBelow d 9).2; omega))) (dk rfl) ?_
      refine va_all [0, 8] (by kernel_rfl) (by simp) ⟨⟨_, rfl, ?_⟩, ⟨_, rfl, ?_⟩, trivial⟩
      · refine vl_load rfl rfl rfl rfl rfl rfl rfl (by decide) (dk rfl) ?_
        refine vl_nil ?_
        refine va_all [8] (by kernel_rfl) (by simp) ⟨⟨_, rfl, ?_⟩, trivial⟩
        refine vl_callG [0] (vv (.int .i64 _)) (c_stF (dBelow d 9).2) rfl rfl ⟨XOk.ptr rfl (by decide) _ _, XOk.val _, trivial⟩ ⟨⟨_, rfl, NR.clo _ _ _ _⟩, trivial⟩ rfl (by decide) trivial ⟨fix_clo _ _, trivial⟩ rfl (.inl rfl) (dk rfl) ?_
        refine vl_nil ?_
        refine va_q 9 rfl (by kernel_rfl) (by kernel_rfl) (by kernel_rfl) (q_indexAddr rfl rfl rfl rfl rfl rfl rfl (by omega) (by omega)) (dk rfl) ?_
        refine va_q 10 rfl (by kernel_rfl) (by kernel_rfl) (by kernel_rfl) (q_load rfl rfl rfl (st_row _) rfl rfl rfl (by decide)) (dk rfl) ?_
        refine va_all [12] (by kernel_rfl) (by simp) ⟨⟨_, rfl, ?_⟩, trivial⟩
        refine vl_callG [0] (vv (.int .i64 _)) (c_stG (dBelow d 9).2) rfl rfl ⟨XOk.ptr rfl (by decide) _ _, XOk.val _, trivial⟩ ⟨⟨_, rfl, NR.clo _ _ _ _⟩, trivial⟩ rfl (by decide) trivial ⟨fix_clo _ _, trivial⟩ rfl (.inl rfl) (dk rfl) ?_
        refine vl_nil ?_
        refine va_all [13] (by kernel_rfl) (by simp) ⟨⟨_, rfl, ?_⟩, trivial⟩
        refine vl_callG [] (_) (c_stAdd (dBelow d 9).2 l hg) rfl rfl ⟨VOk.agg ⟨XOk.snapH rfl (by simp) (by simp [markHs_len]) (map_wid heldO_len) (heldsO_shr _), trivial⟩, XOk.val _, XOk.val _, XOk.val _, trivial⟩ trivial rfl (by decide) ⟨fix_clo _ _, trivial⟩ trivial rfl (.inl rfl) (dk rfl) ?_
        refine vl_nil ?_
        refine va_q 14 rfl (by kernel_rfl) (by kernel_rfl) (by kernel_rfl) (q_move rfl) (dk rfl) ?_
        refine va_q 15 rfl (by kernel_rfl) (by kernel_rfl) (by kernel_rfl) (q_extract rfl rfl) (dk rfl) ?_
        refine va_q 16 rfl (by kernel_rfl) (by kernel_rfl) (by kernel_rfl) (q_extract rfl rfl) (dk rfl) ?_
        refine va_q 17 rfl (by kernel_rfl) (by kernel_rfl) (by kernel_rfl) (q_extract rfl rfl) (dk rfl) ?_
        refine va_all [18] (by kernel_rfl) (by simp) ⟨⟨_, rfl, ?_⟩, trivial⟩
        refine vl_store rfl rfl rfl rfl rfl rfl (Nat.le_of_ble_eq_true rfl) trivial ?_
        refine vl_nil ?_
        refine va_done (by kernel_rfl) ?_
        refine hK7 _ ?_
        refine vc_weak (Weak.close1 (nm := 17) (i := 0) (j := 0) (m := 20) (es := (shStep (dBelow d 9).2 l).1.map heldO) rfl rfl rfl rfl (by simp) (by decide)) ?_
        refine vc_region ?_
        refine vl_q (q_move rfl) (dk rfl) ?_
        refine vl_q (q_add rfl rfl (IntWalk.i64_in _ (by omega))) (dk rfl) ?_
        refine vl_q (q_assign rfl) (dk rfl) ?_
        refine vl_nil ?_
        refine ⟨_, _, ?_, ⟨i + 1, (shStep (dBelow d 9).2 l).2, (shStep (dBelow d 9).2 l).1, ⟨by omega, addP_good hg, shRun_go hi9 h11 hr rfl⟩, rfl, rfl⟩, (Weak.cut _ _ _ (Nat.le_of_ble_eq_true rfl) ⟨⟨rfl, rfl⟩, ⟨rfl, rfl⟩, ⟨rfl, rfl⟩, ⟨rfl, rfl⟩, trivial⟩ ⟨⟨Nat.le_of_ble_eq_true rfl, rfl, belN_clo _ _ _⟩, ⟨Nat.le_of_ble_eq_true rfl, rfl, belN_all rfl⟩, ⟨Nat.le_of_ble_eq_true rfl, rfl, belN_all rfl⟩, trivial⟩ rfl)⟩
        omega
      · refine vl_callG [0] (vv (.int .i64 _)) (c_stF (dBelow d 9).2) rfl rfl ⟨XOk.ptr rfl (by decide) _ _, XOk.val _, trivial⟩ ⟨⟨_, rfl, NR.clo _ _ _ _⟩, trivial⟩ rfl (by decide) trivial ⟨fix_clo _ _, trivial⟩ rfl (.inl rfl) (dk rfl) ?_
        refine vl_nil ?_
        refine va_q 9 rfl (by kernel_rfl) (by kernel_rfl) (by kernel_rfl) (q_indexAddr rfl rfl rfl rfl rfl rfl rfl (by omega) (by omega)) (dk rfl) ?_
        refine va_q 10 rfl (by kernel_rfl) (by kernel_rfl) (by kernel_rfl) (q_load rfl rfl rfl (st_row _) rfl rfl rfl (by decide)) (dk rfl) ?_
        refine va_all [0, 12] (by kernel_rfl) (by simp) ⟨⟨_, rfl, ?_⟩, ⟨_, rfl, ?_⟩, trivial⟩
        · refine vl_load rfl rfl rfl rfl rfl rfl rfl (by decide) (dk rfl) ?_
          refine vl_nil ?_
          refine va_all [12] (by kernel_rfl) (by simp) ⟨⟨_, rfl, ?_⟩, trivial⟩
          refine vl_callG [0] (vv (.int .i64 _)) (c_stG (dBelow d 9).2) rfl rfl ⟨XOk.ptr rfl (by decide) _ _, XOk.val _, trivial⟩ ⟨⟨_, rfl, NR.clo _ _ _ _⟩, trivial⟩ rfl (by decide) trivial ⟨fix_clo _ _, trivial⟩ rfl (.inl rfl) (dk rfl) ?_
          refine vl_nil ?_
          refine va_all [13] (by kernel_rfl) (by simp) ⟨⟨_, rfl, ?_⟩, trivial⟩
          refine vl_callG [] (_) (c_stAdd (dBelow d 9).2 l hg) rfl rfl ⟨VOk.agg ⟨XOk.snapH rfl (by simp) (by simp [markHs_len]) (map_wid heldO_len) (heldsO_shr _), trivial⟩, XOk.val _, XOk.val _, XOk.val _, trivial⟩ trivial rfl (by decide) ⟨fix_clo _ _, trivial⟩ trivial rfl (.inl rfl) (dk rfl) ?_
          refine vl_nil ?_
          refine va_q 14 rfl (by kernel_rfl) (by kernel_rfl) (by kernel_rfl) (q_move rfl) (dk rfl) ?_
          refine va_q 15 rfl (by kernel_rfl) (by kernel_rfl) (by kernel_rfl) (q_extract rfl rfl) (dk rfl) ?_
          refine va_q 16 rfl (by kernel_rfl) (by kernel_rfl) (by kernel_rfl) (q_extract rfl rfl) (dk rfl) ?_
          refine va_q 17 rfl (by kernel_rfl) (by kernel_rfl) (by kernel_rfl) (q_extract rfl rfl) (dk rfl) ?_
          refine va_all [18] (by kernel_rfl) (by simp) ⟨⟨_, rfl, ?_⟩, trivial⟩
          refine vl_store rfl rfl rfl rfl rfl rfl (Nat.le_of_ble_eq_true rfl) trivial ?_
          refine vl_nil ?_
          refine va_done (by kernel_rfl) ?_
          refine hK7 _ ?_
          refine vc_weak (Weak.close1 (nm := 17) (i := 0) (j := 0) (m := 20) (es := (shStep (dBelow d 9).2 l).1.map heldO) rfl rfl rfl rfl (by simp) (by decide)) ?_
          refine vc_region ?_
          refine vl_q (q_move rfl) (dk rfl) ?_
          refine vl_q (q_add rfl rfl (IntWalk.i64_in _ (by omega))) (dk rfl) ?_
          refine vl_q (q_assign rfl) (dk rfl) ?_
          refine vl_nil ?_
          refine ⟨_, _, ?_, ⟨i + 1, (shStep (dBelow d 9).2 l).2, (shStep (dBelow d 9).2 l).1, ⟨by omega, addP_good hg, shRun_go hi9 h11 hr rfl⟩, rfl, rfl⟩, (Weak.cut _ _ _ (Nat.le_of_ble_eq_true rfl) ⟨⟨rfl, rfl⟩, ⟨rfl, rfl⟩, ⟨rfl, rfl⟩, ⟨rfl, rfl⟩, trivial⟩ ⟨⟨Nat.le_of_ble_eq_true rfl, rfl, belN_clo _ _ _⟩, ⟨Nat.le_of_ble_eq_true rfl, rfl, belN_all rfl⟩, ⟨Nat.le_of_ble_eq_true rfl, rfl, belN_all rfl⟩, trivial⟩ rfl)⟩
          omega
        · refine vl_callG [0] (vv (.int .i64 _)) (c_stG (dBelow d 9).2) rfl rfl ⟨XOk.ptr rfl (by decide) _ _, XOk.val _, trivial⟩ ⟨⟨_, rfl, NR.clo _ _ _ _⟩, trivial⟩ rfl (by decide) trivial ⟨fix_clo _ _, trivial⟩ rfl (.inl rfl) (dk rfl) ?_
          refine vl_nil ?_
          refine va_all [0] (by kernel_rfl) (by simp) ⟨⟨_, rfl, ?_⟩, trivial⟩
          refine vl_load rfl rfl rfl rfl rfl rfl rfl (by decide) (dk rfl) ?_
          refine vl_nil ?_
          refine va_all [13] (by kernel_rfl) (by simp) ⟨⟨_, rfl, ?_⟩, trivial⟩
          refine vl_callG [] (_) (c_stAdd (dBelow d 9).2 l hg) rfl rfl ⟨VOk.agg ⟨XOk.snapH rfl (by simp) (by simp [markHs_len]) (map_wid heldO_len) (heldsO_shr _), trivial⟩, XOk.val _, XOk.val _, XOk.val _, trivial⟩ trivial rfl (by decide) ⟨fix_clo _ _, trivial⟩ trivial rfl (.inl rfl) (dk rfl) ?_
          refine vl_nil ?_
          refine va_q 14 rfl (by kernel_rfl) (by kernel_rfl) (by kernel_rfl) (q_move rfl) (dk rfl) ?_
          refine va_q 15 rfl (by kernel_rfl) (by kernel_rfl) (by kernel_rfl) (q_extract rfl rfl) (dk rfl) ?_
          refine va_q 16 rfl (by kernel_rfl) (by kernel_rfl) (by kernel_rfl) (q_extract rfl rfl) (dk rfl) ?_
          refine va_q 17 rfl (by kernel_rfl) (by kernel_rfl) (by kernel_rfl) (q_extract rfl rfl) (dk rfl) ?_
          refine va_all [18] (by kernel_rfl) (by simp) ⟨⟨_, rfl, ?_⟩, trivial⟩
          refine vl_store rfl rfl rfl rfl rfl rfl (Nat.le_of_ble_eq_true rfl) trivial ?_
          refine vl_nil ?_
          refine va_done (by kernel_rfl) ?_
          refine hK7 _ ?_
          refine vc_weak (Weak.close1 (nm := 17) (i := 0) (j := 0) (m := 20) (es := (shStep (dBelow d 9).2 l).1.map heldO) rfl rfl rfl rfl (by simp) (by decide)) ?_
          refine vc_region ?_
          refine vl_q (q_move rfl) (dk rfl) ?_
          refine vl_q (q_add rfl rfl (IntWalk.i64_in _ (by omega))) (dk rfl) ?_
          refine vl_q (q_assign rfl) (dk rfl) ?_
          refine vl_nil ?_
          refine ⟨_, _, ?_, ⟨i + 1, (shStep (dBelow d 9).2 l).2, (shStep (dBelow d 9).2 l).1, ⟨by omega, addP_good hg, shRun_go hi9 h11 hr rfl⟩, rfl, rfl⟩, (Weak.cut _ _ _ (Nat.le_of_ble_eq_true rfl) ⟨⟨rfl, rfl⟩, ⟨rfl, rfl⟩, ⟨rfl, rfl⟩, ⟨rfl, rfl⟩, trivial⟩ ⟨⟨Nat.le_of_ble_eq_true rfl, rfl, belN_clo _ _ _⟩, ⟨Nat.le_of_ble_eq_true rfl, rfl, belN_all rfl⟩, ⟨Nat.le_of_ble_eq_true rfl, rfl, belN_all rfl⟩, trivial⟩ rfl)⟩
          omega
  · replace h11 := lss_nof h11
    refine vl_nil ?_
    refine hK6 _ ?_
    refine vc_cond_false rfl ?_
    refine vc_exit ?_
    refine hK3 _ ?_
    refine vc_seq fun K11 hK11 => ?_
    obtain ⟨he1, he2⟩ := Prod.mk.inj (shRun_end hi (by omega) hr)
    refine vc_region ?_
    refine vl_open (nm := 17) (i := 0) (j := 0) rfl rfl rfl rfl rfl rfl ?_
    simp only [List.length_map]
    refine vl_load rfl rfl rfl rfl rfl rfl rfl (by decide) (dk rfl) ?_
    refine vl_store rfl rfl rfl rfl rfl rfl (Nat.le_of_ble_eq_true rfl) trivial ?_
    refine vl_nil ?_
    refine hK11 _ ?_
    refine vc_ret ?_
    refine ret_g [18] rfl (.cons (res_cell rfl rfl rfl rfl rfl rfl rfl (by decide)) .nil) (by rw [he1]; rfl) rfl (nodupB_ok rfl) ⟨by decide, trivial⟩ ⟨⟨_, by rw [he1]; rfl, NR.clo _ _ _ _⟩, trivial⟩ ⟨⟨_, by rw [he2]; rfl, NR.clo _ _ _ _⟩, trivial⟩ (Nat.le_of_ble_eq_true rfl)
end Go.Vm.S
namespace Go.Vm.S
open Go Go.Vm
set_option maxRecDepth 100000
set_option linter.unusedVariables false
set_option maxHeartbeats 4000000
theorem at57 : FnAt Pg 57 Go.Proofs.Try.f57 := ⟨by kernel_rfl, rfl, by decide⟩
theorem c_heldAt1 (fr id f0 i0 : Int) :
    Ctr Pg ty 57 [.agg [.c (.val (.int .i64 fr)), .c (.val (.int .i64 id)), .c .any, .c .any, .c .any, .c .any], .one (.ptr 0 0 0), .one (.ptr 1 0 0)] [⟨1, clo [[.val (.int .i64 f0)]]⟩, ⟨1, clo [[.val (.int .i64 i0)]]⟩] (Gives (vv (.bool (decide (fr = f0) && decide (id = i0)))) [] [⟨1, clo [[.val (.int .i64 f0)]]⟩, ⟨1, clo [[.val (.int .i64 i0)]]⟩]) := by
  refine ctr at57 rfl (nsK_gives rfl trivial ⟨nsN_clo (by simp [C.noSh_val]), nsN_clo (by simp [C.noSh_val]), trivial⟩) (Nat.le_of_ble_eq_true rfl) fun w0 S0 L0 Z => ?_
  refine vc_seq fun K1 hK1 => ?_
  refine vc_region ?_
  refine vl_box rfl (dk rfl) ?_
  refine vl_q (q_assign rfl) (dk rfl) ?_
  refine vl_nil ?_
  refine hK1 _ ?_
  refine vc_seq fun K2 hK2 => ?_
  refine vc_region ?_
  refine vl_q (q_fieldAddr 0 rfl rfl rfl rfl (by decide) rfl rfl) (dk rfl) ?_
  refine vl_load rfl rfl rfl rfl rfl rfl rfl (by decide) (dk rfl) ?_
  refine vl_load rfl rfl rfl rfl rfl rfl rfl (by decide) (dk rfl) ?_
  refine vl_two (x := fun b => vv (.bool b)) _ (q_cmp rfl rfl rfl rfl) (dk rfl) (fun h8 => ?_) (fun h8 => ?_)
  · replace h8 := eql_of h8
    refine vl_q (q_move rfl) (dk rfl) ?_
    refine vl_guard_on rfl rfl rfl ?_
    refine vl_q (q_fieldAddr 1 rfl rfl rfl rfl (by decide) rfl rfl) (dk rfl) ?_
    refine vl_guard_on rfl rfl rfl ?_
    refine vl_load rfl rfl rfl rfl rfl rfl rfl (by decide) (dk rfl) ?_
    refine vl_guard_on rfl rfl rfl ?_
    refine vl_load rfl rfl rfl rfl rfl rfl rfl (by decide) (dk rfl) ?_
    refine vl_guard_on rfl rfl rfl ?_
    refine vl_two (x := fun b => vv (.bool b)) _ (q_cmp rfl rfl rfl rfl) (dk rfl) (fun h13 => ?_) (fun h13 => ?_)
    · replace h13 := eql_of h13
      refine vl_q (q_pick_true rfl rfl) (dk rfl) ?_
      refine vl_q (q_assign rfl) (dk rfl) ?_
      refine vl_nil ?_
      refine hK2 _ ?_
      refine vc_ret ?_
      refine ret_g [] rfl (.cons (res_tmp rfl) .nil) (by simp_all; rfl) rfl (nodupB_ok rfl) trivial trivial ⟨⟨_, rfl, NR.clo _ _ _ _⟩, ⟨_, rfl, NR.clo _ _ _ _⟩, trivial⟩ (Nat.le_of_ble_eq_true rfl)
    · replace h13 := eql_nof h13
      refine vl_q (q_pick_true rfl rfl) (dk rfl) ?_
      refine vl_q (q_assign rfl) (dk rfl) ?_
      refine vl_nil ?_
      refine hK2 _ ?_
      refine vc_ret ?_
      refine ret_g [] rfl (.cons (res_tmp rfl) .nil) (by simp_all; rfl) rfl (nodupB_ok rfl) trivial trivial ⟨⟨_, rfl, NR.clo _ _ _ _⟩, ⟨_, rfl, NR.clo _ _ _ _⟩, trivial⟩ (Nat.le_of_ble_eq_true rfl)
  · replace h8 := eql_nof h8
    refine vl_q (q_move rfl) (dk rfl) ?_
    refine vl_goff rfl rfl rfl (by decide) (dk rfl) ?_
    refine vl_goff rfl rfl rfl (by decide) (dk rfl) ?_
    refine vl_goff rfl rfl rfl (by decide) (dk rfl) ?_
    refine vl_goff rfl rfl rfl (by decide) (dk rfl) ?_
    refine vl_q (q_pick_false rfl rfl) (dk rfl) ?_
    refine vl_q (q_assign rfl) (dk rfl) ?_
    refine vl_nil ?_
    refine hK2 _ ?_
    refine vc_ret ?_
    refine ret_g [] rfl (.cons (res_tmp rfl) .nil) (by simp_all; rfl) rfl (nodupB_ok rfl) trivial trivial ⟨⟨_, rfl, NR.clo _ _ _ _⟩, ⟨_, rfl, NR.clo _ _ _ _⟩, trivial⟩ (Nat.le_of_ble_eq_true rfl)
theorem at56 : FnAt Pg 56 Go.Proofs.Try.f56 := ⟨by kernel_rfl, rfl, by decide⟩
theorem c_IndexFunc2 (l : List Held) (f0 i0 : Int) :
    Ctr Pg ty 56 [shv 6 (l.map heldC), .one (.fn 57 [(0, 0, 0), (1, 0, 0)])] [⟨1, clo [[.val (.int .i64 f0)]]⟩, ⟨1, clo [[.val (.int .i64 i0)]]⟩] (Gives (vv (.int .i64 (fIdx (sameK f0 i0) l))) [] [⟨1, clo [[.val (.int .i64 f0)]]⟩, ⟨1, clo [[.val (.int .i64 i0)]]⟩]) := by
  refine ctr at56 rfl (nsK_gives rfl trivial ⟨nsN_clo (by simp [C.noSh_val]), nsN_clo (by simp [C.noSh_val]), trivial⟩) (Nat.le_of_ble_eq_true rfl) fun w0 S0 L0 Z => ?_
  refine vc_seq fun K1 hK1 => ?_
  refine vc_region ?_
  refine vl_q (q_assign rfl) (dk rfl) ?_
  refine vl_nil ?_
  refine hK1 _ ?_
  refine vc_seq fun K2 hK2 => ?_
  refine vc_seq fun K3 hK3 => ?_
  refine vc_fact (fun a w g => good_lim (x := .tmp 0) rfl g) fun hlen => ?_
  rw [List.length_map] at hlen
  refine vc_region ?_
  refine vl_q (q_move rfl) (dk rfl) ?_
  refine vl_q (q_len_sh rfl rfl rfl) (dk rfl) ?_
  simp only [List.length_map]
  refine vl_q (q_move rfl) (dk rfl) ?_
  refine vl_nil ?_
  refine hK3 _ ?_
  refine vc_block ?_
  refine vc_loop (fun mz st => ∃ i : Nat, (i ≤ l.length ∧ ∀ j (hj : j < l.length), j < i → sameK f0 i0 l[j] = false) ∧ mz = l.length - i ∧ st = mkSt [(0, .v (shv 6 (l.map heldC))), (1, .v (.one (.fn 57 [(0, 0, 0), (1, 0, 0)]))), (7, .v (iv l.length)), (8, .v (iv i))] [(0, ⟨1, clo [[.val (.int .i64 f0)]]⟩), (1, ⟨1, clo [[.val (.int .i64 i0)]]⟩)] 16) ⟨_, _, ⟨0, ⟨by omega, fun j hj h => absurd h (by omega)⟩, rfl, rfl⟩, (Weak.cut _ _ _ (Nat.le_of_ble_eq_true rfl) ⟨⟨rfl, rfl⟩, ⟨rfl, rfl⟩, ⟨rfl, rfl⟩, ⟨rfl, rfl⟩, trivial⟩ ⟨⟨Nat.le_of_ble_eq_true rfl, rfl, belN_clo _ _ _⟩, ⟨Nat.le_of_ble_eq_true rfl, rfl, belN_clo _ _ _⟩, trivial⟩ rfl)⟩ (fun mz st hI => ?_)
  obtain ⟨i, ⟨hi, hb⟩, hmz, rfl⟩ := hI
  refine vc_seq fun K4 hK4 => ?_
  refine vc_region ?_
  refine vl_two (x := fun b => vv (.bool b)) _ (q_cmp rfl rfl rfl rfl) (dk rfl) (fun h9 => ?_) (fun h9 => ?_)
  · replace h9 := lss_of h9
    refine vl_nil ?_
    refine hK4 _ ?_
    refine vc_seq fun K5 hK5 => ?_
    refine vc_cond_true rfl ?_
    refine vc_skip ?_
    refine hK5 _ ?_
    refine vc_seq fun K6 hK6 => ?_
    refine vc_block ?_
    refine vc_seq fun K7 hK7 => ?_
    have hil : i < l.length := by omega
    refine vc_region ?_
    refine vl_q (q_move rfl) (dk rfl) ?_
    refine vl_q (q_assign rfl) (dk rfl) ?_
    refine vl_nil ?_
    refine hK7 _ ?_
    refine vc_seq fun K8 hK8 => ?_
    refine vc_region ?_
    refine vl_q (q_move rfl) (dk rfl) ?_
    refine vl_q (q_move rfl) (dk rfl) ?_
    refine vl_q (q_move rfl) (dk rfl) ?_
    refine vl_q (q_indexAddr_sh rfl rfl rfl rfl rfl rfl (by decide) (by omega) (get_map (i := i) hil)) (dk rfl) ?_
    refine vl_load_sp rfl rfl rfl rfl (by decide) (dk rfl) ?_
    refine vl_callG [0, 1] (vv (.bool (sameK f0 i0 l[i]))) (c_heldAt1 l[i].fr l[i].id f0 i0) rfl rfl ⟨VOk.agg ⟨XOk.val _, XOk.val _, XOk.any' _, XOk.any' _, XOk.any' _, XOk.any' _, trivial⟩, XOk.ptr rfl (by decide) _ _, XOk.ptr rfl (by decide) _ _, trivial⟩ ⟨⟨_, rfl, NR.clo _ _ _ _⟩, ⟨_, rfl, NR.clo _ _ _ _⟩, trivial⟩ rfl (by decide) trivial ⟨fix_clo _ _, fix_clo _ _, trivial⟩ rfl (.inl rfl) (dk rfl) ?_
    refine vl_bool 16 rfl (fun h16 => ?_) (fun h16 => ?_)
    · refine vl_nil ?_
      refine hK8 _ ?_
      refine vc_cond_true rfl ?_
      refine vc_seq fun K9 hK9 => ?_
      refine vc_region ?_
      refine vl_q (q_move rfl) (dk rfl) ?_
      refine vl_q (q_assign rfl) (dk rfl) ?_
      refine vl_nil ?_
      refine hK9 _ ?_
      refine vc_ret ?_
      refine ret_g [] rfl (.cons (res_tmp rfl) .nil) (by rw [fIdx_at hil hb h16]; rfl) rfl (nodupB_ok rfl) trivial trivial ⟨⟨_, rfl, NR.clo _ _ _ _⟩, ⟨_, rfl, NR.clo _ _ _ _⟩, trivial⟩ (Nat.le_of_ble_eq_true rfl)
    · refine vl_nil ?_
      refine hK8 _ ?_
      refine vc_cond_false rfl ?_
      refine vc_skip ?_
      refine hK6 _ ?_
      refine vc_region ?_
      refine vl_q (q_add rfl rfl (IntWalk.i64_in _ (by omega))) (dk rfl) ?_
      refine vl_q (q_move rfl) (dk rfl) ?_
      refine vl_nil ?_
      refine ⟨_, _, ?_, ⟨i + 1, ⟨by omega, fun j hj h => by by_cases e : j = i; (subst e; exact h16); exact hb j hj (by omega)⟩, rfl, rfl⟩, (Weak.cut _ _ _ (Nat.le_of_ble_eq_true rfl) ⟨⟨rfl, rfl⟩, ⟨rfl, rfl⟩, ⟨rfl, rfl⟩, ⟨rfl, rfl⟩, trivial⟩ ⟨⟨Nat.le_of_ble_eq_true rfl, rfl, belN_clo _ _ _⟩, ⟨Nat.le_of_ble_eq_true rfl, rfl, belN_clo _ _ _⟩, trivial⟩ rfl)⟩
      omega
  · replace h9 := lss_nof h9
    refine vl_nil ?_
    refine hK4 _ ?_
    refine vc_seq fun K10 hK10 => ?_
    refine vc_cond_false rfl ?_
    refine vc_exit ?_
    refine hK2 _ ?_
    refine vc_seq fun K11 hK11 => ?_
    refine vc_region ?_
    refine vl_q (q_assign rfl) (dk rfl) ?_
    refine vl_nil ?_
    refine hK11 _ ?_
    refine vc_ret ?_
    refine ret_g [] rfl (.cons (res_tmp rfl) .nil) (by rw [fIdx_none (fun j hj => hb j hj (by omega))]; rfl) rfl (nodupB_ok rfl) trivial trivial ⟨⟨_, rfl, NR.clo _ _ _ _⟩, ⟨_, rfl, NR.clo _ _ _ _⟩, trivial⟩ (Nat.le_of_ble_eq_true rfl)
theorem at35 : FnAt Pg 35 Go.Proofs.Try.f35 := ⟨by kernel_rfl, rfl, by decide⟩
theorem c_impl_heldAt (l : List Held) (f0 i0 : Int) :
    Ctr Pg ty 35 [.agg ((shelfC l).map X.c), iv f0, iv i0] [] (Gives (vv (.int .i64 (fIdx (sameK f0 i0) l))) [] []) := by
  refine ctr at35 rfl (nsK_gives rfl trivial trivial) (Nat.le_of_ble_eq_true rfl) fun w0 S0 L0 Z => ?_
  refine vc_seq fun K1 hK1 => ?_
  refine vc_region ?_
  refine vl_box rfl (dk rfl) ?_
  refine vl_box rfl (dk rfl) ?_
  refine vl_box rfl (dk rfl) ?_
  refine vl_q (q_assign rfl) (dk rfl) ?_
  refine vl_nil ?_
  refine hK1 _ ?_
  refine vc_seq fun K2 hK2 => ?_
  refine vc_region ?_
  refine vl_q (q_fieldAddr 0 rfl rfl rfl rfl (by decide) rfl rfl) (dk rfl) ?_
  refine vl_load rfl rfl rfl rfl rfl rfl rfl (by decide) (dk rfl) ?_
  refine vl_q (q_makeFunc rfl) (dk rfl) ?_
  refine vl_callG [17, 18] (vv (.int .i64 (fIdx (sameK f0 i0) l))) (c_IndexFunc2 l f0 i0) rfl rfl ⟨XOk.shc _ _, XOk.fn (by decide) rfl (by decide), trivial⟩ ⟨⟨_, rfl, NR.clo _ _ _ _⟩, ⟨_, rfl, NR.clo _ _ _ _⟩, trivial⟩ rfl (by decide) trivial ⟨fix_clo _ _, fix_clo _ _, trivial⟩ rfl (.inl rfl) (dk rfl) ?_
  refine vl_q (q_assign rfl) (dk rfl) ?_
  refine vl_nil ?_
  refine hK2 _ ?_
  refine vc_ret ?_
  refine ret_p rfl (.cons (res_tmp rfl) .nil) rfl ?_
  rfl
end Go.Vm.S
namespace Go.Vm.S
open Go Go.Vm
set_option maxRecDepth 100000
set_option linter.unusedVariables false
set_option maxHeartbeats 4000000
theorem at39 : FnAt Pg 39 Go.Proofs.Try.f39 := ⟨by kernel_rfl, rfl, by decide⟩
theorem c_impl_heldOk (x : Held) :
    Ctr Pg ty 39 [.agg ((heldC x).map X.c)] [] (Gives (vv (.bool (heldB x))) [] []) := by
  refine ctr at39 rfl (nsK_gives rfl trivial trivial) (Nat.le_of_ble_eq_true rfl) fun w0 S0 L0 Z => ?_
  refine vc_seq fun K1 hK1 => ?_
  refine vc_region ?_
  refine vl_box rfl (dk rfl) ?_
  refine vl_q (q_assign rfl) (dk rfl) ?_
  refine vl_nil ?_
  refine hK1 _ ?_
  refine vc_seq fun K2 hK2 => ?_
  refine vc_seq fun K3 hK3 => ?_
  refine vc_region ?_
  refine vl_q (q_fieldAddr 0 rfl rfl rfl rfl (by decide) rfl rfl) (dk rfl) ?_
  refine vl_load rfl rfl rfl rfl rfl rfl rfl (by decide) (dk rfl) ?_
  refine vl_callP (c_impl_isId _) rfl rfl ⟨XOk.val _, trivial⟩ rfl (.inl rfl) (dk rfl) ?_
  refine vl_bool 8 rfl (fun h8 => ?_) (fun h8 => ?_)
  · refine vl_q (q_not rfl) (dk rfl) ?_
    refine vl_q (q_move rfl) (dk rfl) ?_
    refine vl_guard_on rfl rfl rfl ?_
    refine vl_q (q_fieldAddr 1 rfl rfl rfl rfl (by decide) rfl rfl) (dk rfl) ?_
    refine vl_guard_on rfl rfl rfl ?_
    refine vl_load rfl rfl rfl rfl rfl rfl rfl (by decide) (dk rfl) ?_
    refine vl_guard_on rfl rfl rfl ?_
    refine vl_callP (c_impl_within _ _ _) rfl rfl ⟨XOk.val _, XOk.val _, XOk.val _, trivial⟩ rfl (.inl rfl) (dk rfl) ?_
    refine vl_bool 13 rfl (fun h13 => ?_) (fun h13 => ?_)
    · refine vl_guard_on rfl rfl rfl ?_
      refine vl_q (q_not rfl) (dk rfl) ?_
      refine vl_q (q_pick_false rfl rfl) (dk rfl) ?_
      refine vl_q (q_move rfl) (dk rfl) ?_
      refine vl_guard_on rfl rfl rfl ?_
      refine vl_q (q_fieldAddr 2 rfl rfl rfl rfl (by decide) rfl rfl) (dk rfl) ?_
      refine vl_guard_on rfl rfl rfl ?_
      refine vl_load rfl rfl rfl rfl rfl rfl rfl (by decide) (dk rfl) ?_
      refine vl_guard_on rfl rfl rfl ?_
      refine vl_callP (c_impl_within _ _ _) rfl rfl ⟨XOk.val _, XOk.val _, XOk.val _, trivial⟩ rfl (.inl rfl) (dk rfl) ?_
      refine vl_bool 19 rfl (fun h19 => ?_) (fun h19 => ?_)
      · refine vl_guard_on rfl rfl rfl ?_
        refine vl_q (q_not rfl) (dk rfl) ?_
        refine vl_q (q_pick_false rfl rfl) (dk rfl) ?_
        refine vl_q (q_move rfl) (dk rfl) ?_
        refine vl_guard_on rfl rfl rfl ?_
        refine vl_q (q_fieldAddr 3 rfl rfl rfl rfl (by decide) rfl rfl) (dk rfl) ?_
        refine vl_guard_on rfl rfl rfl ?_
        refine vl_load rfl rfl rfl rfl rfl rfl rfl (by decide) (dk rfl) ?_
        refine vl_guard_on rfl rfl rfl ?_
        refine vl_q (q_len_sh rfl rfl rfl) (dk rfl) ?_
        refine vl_guard_on rfl rfl rfl ?_
        refine vl_q (q_fieldAddr 2 rfl rfl rfl rfl (by decide) rfl rfl) (dk rfl) ?_
        refine vl_guard_on rfl rfl rfl ?_
        refine vl_load rfl rfl rfl rfl rfl rfl rfl (by decide) (dk rfl) ?_
        refine vl_guard_on rfl rfl rfl ?_
        refine vl_two (x := fun b => vv (.bool b)) _ (q_cmp rfl rfl rfl rfl) (dk rfl) (fun h28 => ?_) (fun h28 => ?_)
        · replace h28 := neq_of h28
          refine vl_q (q_pick_false rfl rfl) (dk rfl) ?_
          refine vl_q (q_move rfl) (dk rfl) ?_
          refine vl_goff rfl rfl rfl (by decide) (dk rfl) ?_
          refine vl_goff rfl rfl rfl (by decide) (dk rfl) ?_
          refine vl_goff rfl rfl rfl (by decide) (dk rfl) ?_
          refine vl_goff rfl rfl rfl (by decide) (dk rfl) ?_
          refine vl_goff rfl rfl rfl (by decide) (dk rfl) ?_
          refine vl_goff rfl rfl rfl (by decide) (dk rfl) ?_
          refine vl_q (q_pick_true rfl rfl) (dk rfl) ?_
          refine vl_nil ?_
          refine hK3 _ ?_
          refine vc_cond_true rfl ?_
          refine vc_seq fun K4 hK4 => ?_
          refine vc_region ?_
          refine vl_q (q_assign rfl) (dk rfl) ?_
          refine vl_nil ?_
          refine hK4 _ ?_
          refine vc_ret ?_
          refine ret_p rfl (.cons (res_tmp rfl) .nil) rfl ?_
          try simp only [List.length_map] at *
          first
            | (rw [heldB_f (fun g => Bool.noConfusion (‹within x.fr 1 99 = false›.symm.trans g.fr))]; rfl)
            | (rw [heldB_f (fun g => Bool.noConfusion (‹within x.id 0 255 = false›.symm.trans g.id))]; rfl)
            | (rw [heldB_f (fun g => Bool.noConfusion (‹within x.cnt 2 15 = false›.symm.trans g.cnt))]; rfl)
            | (rw [heldB_f (fun g => Bool.noConfusion (‹within x.til 0 1000000000 = false›.symm.trans g.til))]; rfl)
            | (rw [heldB_f (fun g => absurd g.parts ‹(x.parts.length : Int) ≠ x.cnt›)]; rfl)
            | (rw [heldB_f (fun g => absurd g.hav ‹(x.hav.length : Int) ≠ x.cnt›)]; rfl)
            | (rw [heldB_f (not_row hxh hxp (rowOk_big (by omega)))]; rfl)
            | (rw [heldB_f (not_row hxh hxp (rowOk_junk hbf ‹_ ≠ _›))]; rfl)
            | (rw [heldB_f (fun g => by have g1 := g.have1; have g2 := g.have2; have := within_nof ‹within (haveN x.hav x.hav.length : Nat) 1 (x.cnt - 1) = false›; omega)]; rfl)
            | (rw [heldB_f (fun g => by have g1 := g.have1; have g2 := g.have2; omega)]; rfl)
            | (rw [heldB_t ⟨‹_›, ‹_›, ‹_›, by omega, by omega, hr, by have := within_of ‹within (haveN x.hav x.hav.length : Nat) 1 (x.cnt - 1) = true›; omega, by have := within_of ‹within (haveN x.hav x.hav.length : Nat) 1 (x.cnt - 1) = true›; omega, ‹_›⟩]; rfl)
            | (rw [heldB_t ⟨‹_›, ‹_›, ‹_›, by omega, by omega, hr, by omega, by omega, ‹_›⟩]; rfl)
        · replace h28 := neq_nof h28
          refine vl_q (q_pick_false rfl rfl) (dk rfl) ?_
          refine vl_q (q_move rfl) (dk rfl) ?_
          refine vl_guard_on rfl rfl rfl ?_
          refine vl_q (q_fieldAddr 4 rfl rfl rfl rfl (by decide) rfl rfl) (dk rfl) ?_
          refine vl_guard_on rfl rfl rfl ?_
          refine vl_load rfl rfl rfl rfl rfl rfl rfl (by decide) (dk rfl) ?_
          refine vl_guard_on rfl rfl rfl ?_
          refine vl_q (q_len_sh rfl rfl rfl) (dk rfl) ?_
          refine vl_guard_on rfl rfl rfl ?_
          refine vl_q (q_fieldAddr 2 rfl rfl rfl rfl (by decide) rfl rfl) (dk rfl) ?_
          refine vl_guard_on rfl rfl rfl ?_
          refine vl_load rfl rfl rfl rfl rfl rfl rfl (by decide) (dk rfl) ?_
          refine vl_guard_on rfl rfl rfl ?_
          refine vl_two (x := fun b => vv (.bool b)) _ (q_cmp rfl rfl rfl rfl) (dk rfl) (fun h36 => ?_) (fun h36 => ?_)
          · replace h36 := neq_of h36
            refine vl_q (q_pick_false rfl rfl) (dk rfl) ?_
            refine vl_nil ?_
            refine hK3 _ ?_
            refine vc_cond_true rfl ?_
            refine vc_seq fun K5 hK5 => ?_
            refine vc_region ?_
            refine vl_q (q_assign rfl) (dk rfl) ?_
            refine vl_nil ?_
            refine hK5 _ ?_
            refine vc_ret ?_
            refine ret_p rfl (.cons (res_tmp rfl) .nil) rfl ?_
            try simp only [List.length_map] at *
            first
              | (rw [heldB_f (fun g => Bool.noConfusion (‹within x.fr 1 99 = false›.symm.trans g.fr))]; rfl)
              | (rw [heldB_f (fun g => Bool.noConfusion (‹within x.id 0 255 = false›.symm.trans g.id))]; rfl)
              | (rw [heldB_f (fun g => Bool.noConfusion (‹within x.cnt 2 15 = false›.symm.trans g.cnt))]; rfl)
              | (rw [heldB_f (fun g => Bool.noConfusion (‹within x.til 0 1000000000 = false›.symm.trans g.til))]; rfl)
              | (rw [heldB_f (fun g => absurd g.parts ‹(x.parts.length : Int) ≠ x.cnt›)]; rfl)
              | (rw [heldB_f (fun g => absurd g.hav ‹(x.hav.length : Int) ≠ x.cnt›)]; rfl)
              | (rw [heldB_f (not_row hxh hxp (rowOk_big (by omega)))]; rfl)
              | (rw [heldB_f (not_row hxh hxp (rowOk_junk hbf ‹_ ≠ _›))]; rfl)
              | (rw [heldB_f (fun g => by have g1 := g.have1; have g2 := g.have2; have := within_nof ‹within (haveN x.hav x.hav.length : Nat) 1 (x.cnt - 1) = false›; omega)]; rfl)
              | (rw [heldB_f (fun g => by have g1 := g.have1; have g2 := g.have2; omega)]; rfl)
              | (rw [heldB_t ⟨‹_›, ‹_›, ‹_›, by omega, by omega, hr, by have := within_of ‹within (haveN x.hav x.hav.length : Nat) 1 (x.cnt - 1) = true›; omega, by have := within_of ‹within (haveN x.hav x.hav.length : Nat) 1 (x.cnt - 1) = true›; omega, ‹_›⟩]; rfl)
              | (rw [heldB_t ⟨‹_›, ‹_›, ‹_›, by omega, by omega, hr, by omega, by omega, ‹_›⟩]; rfl)
          · replace h36 := neq_nof h36
            refine vl_q (q_pick_false rfl rfl) (dk rfl) ?_
            refine vl_nil ?_
            refine hK3 _ ?_
            refine vc_cond_false rfl ?_
            refine vc_skip ?_
            refine hK2 _ ?_
            refine vc_seq fun K6 hK6 => ?_
            refine vc_region ?_
            refine vl_q (q_assign rfl) (dk rfl) ?_
            refine vl_nil ?_
            refine hK6 _ ?_
            refine vc_seq fun K7 hK7 => ?_
            refine vc_seq fun K8 hK8 => ?_
            have hw := within_of h19
            simp only [List.length_map] at h28 h36
            refine vc_region ?_
            refine vl_q (q_fieldAddr 4 rfl rfl rfl rfl (by decide) rfl rfl) (dk rfl) ?_
            refine vl_load rfl rfl rfl rfl rfl rfl rfl (by decide) (dk rfl) ?_
            refine vl_q (q_len_sh rfl rfl rfl) (dk rfl) ?_
            simp only [List.length_map]
            refine vl_q (q_move rfl) (dk rfl) ?_
            refine vl_nil ?_
            refine hK8 _ ?_
            refine vc_block ?_
            refine vc_loop (fun mz st => ∃ i : Nat, (i ≤ x.hav.length ∧ rowsOk x i) ∧ mz = x.hav.length - i ∧ st = mkSt [(1, .v (.one (.ptr 16 0 0))), (3, .v (iv (haveN x.hav i : Nat))), (39, .v (shv 1 (x.hav.map boolC))), (40, .v (iv x.hav.length)), (41, .v (iv i))] [(16, ⟨6, [(heldC x).map X.c]⟩)] 17) ⟨_, _, ⟨0, ⟨by omega, rowsOk_zero x⟩, rfl, rfl⟩, (Weak.cut _ _ _ (Nat.le_of_ble_eq_true rfl) ⟨⟨rfl, rfl⟩, ⟨rfl, rfl⟩, ⟨rfl, rfl⟩, ⟨rfl, rfl⟩, ⟨rfl, rfl⟩, trivial⟩ ⟨⟨Nat.le_of_ble_eq_true rfl, rfl, belN_all rfl⟩, trivial⟩ rfl)⟩ (fun mz st hI => ?_)
            obtain ⟨i, ⟨hi, hr⟩, hmz, rfl⟩ := hI
            refine vc_seq fun K9 hK9 => ?_
            refine vc_region ?_
            refine vl_two (x := fun b => vv (.bool b)) _ (q_cmp rfl rfl rfl rfl) (dk rfl) (fun h42 => ?_) (fun h42 => ?_)
            · replace h42 := lss_of h42
              refine vl_nil ?_
              refine hK9 _ ?_
              refine vc_seq fun K10 hK10 => ?_
              refine vc_cond_true rfl ?_
              refine vc_skip ?_
              refine hK10 _ ?_
              refine vc_seq fun K11 hK11 => ?_
              refine vc_block ?_
              refine vc_seq fun K12 hK12 => ?_
              have hxh : i < x.hav.length := by omega
              have hxp : i < x.parts.length := by omega
              refine vc_region ?_
              refine vl_q (q_move rfl) (dk rfl) ?_
              refine vl_q (q_indexAddr_sh rfl rfl rfl rfl rfl rfl (by decide) (by omega) (get_map (i := i) hxh)) (dk rfl) ?_
              refine vl_load_sp rfl rfl rfl rfl (by decide) (dk rfl) ?_
              refine vl_bool 45 rfl (fun h45 => ?_) (fun h45 => ?_)
              · have hbt : x.hav[i] = true := h45
                have hn := haveN_t hxh hbt
                refine vl_q (q_assign rfl) (dk rfl) ?_
                refine vl_q (q_assign rfl) (dk rfl) ?_
                refine vl_nil ?_
                refine hK12 _ ?_
                refine vc_seq fun K13 hK13 => ?_
                refine vc_seq fun K14 hK14 => ?_
                refine vc_region ?_
                refine vl_q (q_move rfl) (dk rfl) ?_
                refine vl_nil ?_
                refine hK14 _ ?_
                refine vc_cond_true rfl ?_
                have hlh := haveN_le x.hav i
                refine vc_region ?_
                refine vl_q (q_move rfl) (dk rfl) ?_
                refine vl_q (q_add rfl rfl (IntWalk.i64_in _ (by omega))) (dk rfl) ?_
                refine vl_q (q_assign rfl) (dk rfl) ?_
                refine vl_nil ?_
                refine hK13 _ ?_
                refine vc_seq fun K15 hK15 => ?_
                refine vc_region ?_
                refine vl_q (q_fieldAddr 3 rfl rfl rfl rfl (by decide) rfl rfl) (dk rfl) ?_
                refine vl_load rfl rfl rfl rfl rfl rfl rfl (by decide) (dk rfl) ?_
                refine vl_q (q_move rfl) (dk rfl) ?_
                refine vl_q (q_indexAddr_sh rfl rfl rfl rfl rfl rfl (by decide) (by omega) (get_map (i := i) hxp)) (dk rfl) ?_
                refine vl_load_sp rfl rfl rfl rfl (by decide) (dk rfl) ?_
                refine vl_q (q_len_str rfl rfl rfl) (dk rfl) ?_
                refine vl_two (x := fun b => vv (.bool b)) _ (q_cmp rfl rfl rfl rfl) (dk rfl) (fun h55 => ?_) (fun h55 => ?_)
                · replace h55 := gtr_of h55
                  refine vl_q (q_move rfl) (dk rfl) ?_
                  refine vl_goff rfl rfl rfl (by decide) (dk rfl) ?_
                  refine vl_goff rfl rfl rfl (by decide) (dk rfl) ?_
                  refine vl_goff rfl rfl rfl (by decide) (dk rfl) ?_
                  refine vl_goffU rfl rfl rfl (dk rfl) ?_
                  refine vl_goffU rfl rfl rfl (dk rfl) ?_
                  refine vl_goffU rfl rfl rfl (dk rfl) ?_
                  refine vl_goffU rfl rfl rfl (dk rfl) ?_
                  refine vl_goffU rfl rfl rfl (dk rfl) ?_
                  refine vl_goffU rfl rfl rfl (dk rfl) ?_
                  refine vl_goff rfl rfl rfl (by decide) (dk rfl) ?_
                  refine vl_q (q_pick_true rfl rfl) (dk rfl) ?_
                  refine vl_nil ?_
                  refine hK15 _ ?_
                  refine vc_cond_true rfl ?_
                  refine vc_seq fun K16 hK16 => ?_
                  refine vc_region ?_
                  refine vl_q (q_assign rfl) (dk rfl) ?_
                  refine vl_nil ?_
                  refine hK16 _ ?_
                  refine vc_ret ?_
                  refine ret_p rfl (.cons (res_tmp rfl) .nil) rfl ?_
                  try simp only [List.length_map] at *
                  first
                    | (rw [heldB_f (fun g => Bool.noConfusion (‹within x.fr 1 99 = false›.symm.trans g.fr))]; rfl)
                    | (rw [heldB_f (fun g => Bool.noConfusion (‹within x.id 0 255 = false›.symm.trans g.id))]; rfl)
                    | (rw [heldB_f (fun g => Bool.noConfusion (‹within x.cnt 2 15 = false›.symm.trans g.cnt))]; rfl)
                    | (rw [heldB_f (fun g => Bool.noConfusion (‹within x.til 0 1000000000 = false›.symm.trans g.til))]; rfl)
                    | (rw [heldB_f (fun g => absurd g.parts ‹(x.parts.length : Int) ≠ x.cnt›)]; rfl)
                    | (rw [heldB_f (fun g => absurd g.hav ‹(x.hav.length : Int) ≠ x.cnt›)]; rfl)
                    | (rw [heldB_f (not_row hxh hxp (rowOk_big (by omega)))]; rfl)
                    | (rw [heldB_f (not_row hxh hxp (rowOk_junk hbf ‹_ ≠ _›))]; rfl)
                    | (rw [heldB_f (fun g => by have g1 := g.have1; have g2 := g.have2; have := within_nof ‹within (haveN x.hav x.hav.length : Nat) 1 (x.cnt - 1) = false›; omega)]; rfl)
                    | (rw [heldB_f (fun g => by have g1 := g.have1; have g2 := g.have2; omega)]; rfl)
                    | (rw [heldB_t ⟨‹_›, ‹_›, ‹_›, by omega, by omega, hr, by have := within_of ‹within (haveN x.hav x.hav.length : Nat) 1 (x.cnt - 1) = true›; omega, by have := within_of ‹within (haveN x.hav x.hav.length : Nat) 1 (x.cnt - 1) = true›; omega, ‹_›⟩]; rfl)
                    | (rw [heldB_t ⟨‹_›, ‹_›, ‹_›, by omega, by omega, hr, by omega, by omega, ‹_›⟩]; rfl)
                · replace h55 := gtr_nof h55
                  refine vl_q (q_move rfl) (dk rfl) ?_
                  refine vl_guard_on rfl rfl rfl ?_
                  refine vl_q (q_move rfl) (dk rfl) ?_
                  refine vl_guard_on rfl rfl rfl ?_
                  refine vl_q (q_not rfl) (dk rfl) ?_
                  refine vl_guard_on rfl rfl rfl ?_
                  refine vl_q (q_move rfl) (dk rfl) ?_
                  refine vl_goff rfl rfl rfl (by decide) (dk rfl) ?_
                  refine vl_goff rfl rfl rfl (by decide) (dk rfl) ?_
                  refine vl_goff rfl rfl rfl (by decide) (dk rfl) ?_
                  refine vl_goff rfl rfl rfl (by decide) (dk rfl) ?_
                  refine vl_goff rfl rfl rfl (by decide) (dk rfl) ?_
                  refine vl_goff rfl rfl rfl (by decide) (dk rfl) ?_
                  refine vl_guard_on rfl rfl rfl ?_
                  refine vl_q (q_pick_false rfl rfl) (dk rfl) ?_
                  refine vl_q (q_pick_false rfl rfl) (dk rfl) ?_
                  refine vl_nil ?_
                  refine hK15 _ ?_
                  refine vc_cond_false rfl ?_
                  refine vc_skip ?_
                  refine hK11 _ ?_
                  refine vc_region ?_
                  refine vl_q (q_add rfl rfl (IntWalk.i64_in _ (by omega))) (dk rfl) ?_
                  refine vl_q (q_move rfl) (dk rfl) ?_
                  refine vl_nil ?_
                  refine ⟨_, _, ?_, ⟨i + 1, ⟨by omega, rowsOk_succ hr hxh hxp (rowOk_t (by omega) (by first | exact .inl hbt | exact .inr h65))⟩, rfl, rfl⟩, (Weak.cut _ _ _ (Nat.le_of_ble_eq_true rfl) ⟨⟨rfl, rfl⟩, ⟨iv_eq (by omega), rfl⟩, ⟨rfl, rfl⟩, ⟨rfl, rfl⟩, ⟨rfl, rfl⟩, trivial⟩ ⟨⟨Nat.le_of_ble_eq_true rfl, rfl, belN_all rfl⟩, trivial⟩ rfl)⟩
                  omega
              · have hbf : x.hav[i] = false := h45
                have hn := haveN_f hxh hbf
                refine vl_q (q_assign rfl) (dk rfl) ?_
                refine vl_q (q_assign rfl) (dk rfl) ?_
                refine vl_nil ?_
                refine hK12 _ ?_
                refine vc_seq fun K17 hK17 => ?_
                refine vc_seq fun K18 hK18 => ?_
                refine vc_region ?_
                refine vl_q (q_move rfl) (dk rfl) ?_
                refine vl_nil ?_
                refine hK18 _ ?_
                refine vc_cond_false rfl ?_
                refine vc_skip ?_
                refine hK17 _ ?_
                refine vc_seq fun K19 hK19 => ?_
                refine vc_region ?_
                refine vl_q (q_fieldAddr 3 rfl rfl rfl rfl (by decide) rfl rfl) (dk rfl) ?_
                refine vl_load rfl rfl rfl rfl rfl rfl rfl (by decide) (dk rfl) ?_
                refine vl_q (q_move rfl) (dk rfl) ?_
                refine vl_q (q_indexAddr_sh rfl rfl rfl rfl rfl rfl (by decide) (by omega) (get_map (i := i) hxp)) (dk rfl) ?_
                refine vl_load_sp rfl rfl rfl rfl (by decide) (dk rfl) ?_
                refine vl_q (q_len_str rfl rfl rfl) (dk rfl) ?_
                refine vl_two (x := fun b => vv (.bool b)) _ (q_cmp rfl rfl rfl rfl) (dk rfl) (fun h55 => ?_) (fun h55 => ?_)
                · replace h55 := gtr_of h55
                  refine vl_q (q_move rfl) (dk rfl) ?_
                  refine vl_goff rfl rfl rfl (by decide) (dk rfl) ?_
                  refine vl_goff rfl rfl rfl (by decide) (dk rfl) ?_
                  refine vl_goff rfl rfl rfl (by decide) (dk rfl) ?_
                  refine vl_goffU rfl rfl rfl (dk rfl) ?_
                  refine vl_goffU rfl rfl rfl (dk rfl) ?_
                  refine vl_goffU rfl rfl rfl (dk rfl) ?_
                  refine vl_goffU rfl rfl rfl (dk rfl) ?_
                  refine vl_goffU rfl rfl rfl (dk rfl) ?_
                  refine vl_goffU rfl rfl rfl (dk rfl) ?_
                  refine vl_goff rfl rfl rfl (by decide) (dk rfl) ?_
                  refine vl_q (q_pick_true rfl rfl) (dk rfl) ?_
                  refine vl_nil ?_
                  refine hK19 _ ?_
                  refine vc_cond_true rfl ?_
                  refine vc_seq fun K20 hK20 => ?_
                  refine vc_region ?_
                  refine vl_q (q_assign rfl) (dk rfl) ?_
                  refine vl_nil ?_
                  refine hK20 _ ?_
                  refine vc_ret ?_
                  refine ret_p rfl (.cons (res_tmp rfl) .nil) rfl ?_
                  try simp only [List.length_map] at *
                  first
                    | (rw [heldB_f (fun g => Bool.noConfusion (‹within x.fr 1 99 = false›.symm.trans g.fr))]; rfl)
                    | (rw [heldB_f (fun g => Bool.noConfusion (‹within x.id 0 255 = false›.symm.trans g.id))]; rfl)
                    | (rw [heldB_f (fun g => Bool.noConfusion (‹within x.cnt 2 15 = false›.symm.trans g.cnt))]; rfl)
                    | (rw [heldB_f (fun g => Bool.noConfusion (‹within x.til 0 1000000000 = false›.symm.trans g.til))]; rfl)
                    | (rw [heldB_f (fun g => absurd g.parts ‹(x.parts.length : Int) ≠ x.cnt›)]; rfl)
                    | (rw [heldB_f (fun g => absurd g.hav ‹(x.hav.length : Int) ≠ x.cnt›)]; rfl)
                    | (rw [heldB_f (not_row hxh hxp (rowOk_big (by omega)))]; rfl)
                    | (rw [heldB_f (not_row hxh hxp (rowOk_junk hbf ‹_ ≠ _›))]; rfl)
                    | (rw [heldB_f (fun g => by have g1 := g.have1; have g2 := g.have2; have := within_nof ‹within (haveN x.hav x.hav.length : Nat) 1 (x.cnt - 1) = false›; omega)]; rfl)
                    | (rw [heldB_f (fun g => by have g1 := g.have1; have g2 := g.have2; omega)]; rfl)
                    | (rw [heldB_t ⟨‹_›, ‹_›, ‹_›, by omega, by omega, hr, by have := within_of ‹within (haveN x.hav x.hav.length : Nat) 1 (x.cnt - 1) = true›; omega, by have := within_of ‹within (haveN x.hav x.hav.length : Nat) 1 (x.cnt - 1) = true›; omega, ‹_›⟩]; rfl)
                    | (rw [heldB_t ⟨‹_›, ‹_›, ‹_›, by omega, by omega, hr, by omega, by omega, ‹_›⟩]; rfl)
                · replace h55 := gtr_nof h55
                  refine vl_q (q_move rfl) (dk rfl) ?_
                  refine vl_guard_on rfl rfl rfl ?_
                  refine vl_q (q_move rfl) (dk rfl) ?_
                  refine vl_guard_on rfl rfl rfl ?_
                  refine vl_q (q_not rfl) (dk rfl) ?_
                  refine vl_guard_on rfl rfl rfl ?_
                  refine vl_q (q_move rfl) (dk rfl) ?_
                  refine vl_guard_on rfl rfl rfl ?_
                  refine vl_q (q_fieldAddr 3 rfl rfl rfl rfl (by decide) rfl rfl) (dk rfl) ?_
                  refine vl_guard_on rfl rfl rfl ?_
                  refine vl_load rfl rfl rfl rfl rfl rfl rfl (by decide) (dk rfl) ?_
                  refine vl_guard_on rfl rfl rfl ?_
                  refine vl_q (q_move rfl) (dk rfl) ?_
                  refine vl_guard_on rfl rfl rfl ?_
                  refine vl_q (q_indexAddr_sh rfl rfl rfl rfl rfl rfl (by decide) (by omega) (get_map (i := i) hxp)) (dk rfl) ?_
                  refine vl_guard_on rfl rfl rfl ?_
                  refine vl_load_sp rfl rfl rfl rfl (by decide) (dk rfl) ?_
                  refine vl_guard_on rfl rfl rfl ?_
                  refine vl_two (x := fun b => vv (.bool b)) _ (q_cmpS rfl rfl (.inr rfl) rfl) (dk rfl) (fun h65 => ?_) (fun h65 => ?_)
                  · replace h65 := neqS_of h65
                    refine vl_guard_on rfl rfl rfl ?_
                    refine vl_q (q_pick_true rfl rfl) (dk rfl) ?_
                    refine vl_q (q_pick_false rfl rfl) (dk rfl) ?_
                    refine vl_nil ?_
                    refine hK19 _ ?_
                    refine vc_cond_true rfl ?_
                    refine vc_seq fun K21 hK21 => ?_
                    refine vc_region ?_
                    refine vl_q (q_assign rfl) (dk rfl) ?_
                    refine vl_nil ?_
                    refine hK21 _ ?_
                    refine vc_ret ?_
                    refine ret_p rfl (.cons (res_tmp rfl) .nil) rfl ?_
                    try simp only [List.length_map] at *
                    first
                      | (rw [heldB_f (fun g => Bool.noConfusion (‹within x.fr 1 99 = false›.symm.trans g.fr))]; rfl)
                      | (rw [heldB_f (fun g => Bool.noConfusion (‹within x.id 0 255 = false›.symm.trans g.id))]; rfl)
                      | (rw [heldB_f (fun g => Bool.noConfusion (‹within x.cnt 2 15 = false›.symm.trans g.cnt))]; rfl)
                      | (rw [heldB_f (fun g => Bool.noConfusion (‹within x.til 0 1000000000 = false›.symm.trans g.til))]; rfl)
                      | (rw [heldB_f (fun g => absurd g.parts ‹(x.parts.length : Int) ≠ x.cnt›)]; rfl)
                      | (rw [heldB_f (fun g => absurd g.hav ‹(x.hav.length : Int) ≠ x.cnt›)]; rfl)
                      | (rw [heldB_f (not_row hxh hxp (rowOk_big (by omega)))]; rfl)
                      | (rw [heldB_f (not_row hxh hxp (rowOk_junk hbf ‹_ ≠ _›))]; rfl)
                      | (rw [heldB_f (fun g => by have g1 := g.have1; have g2 := g.have2; have := within_nof ‹within (haveN x.hav x.hav.length : Nat) 1 (x.cnt - 1) = false›; omega)]; rfl)
                      | (rw [heldB_f (fun g => by have g1 := g.have1; have g2 := g.have2; omega)]; rfl)
                      | (rw [heldB_t ⟨‹_›, ‹_›, ‹_›, by omega, by omega, hr, by have := within_of ‹within (haveN x.hav x.hav.length : Nat) 1 (x.cnt - 1) = true›; omega, by have := within_of ‹within (haveN x.hav x.hav.length : Nat) 1 (x.cnt - 1) = true›; omega, ‹_›⟩]; rfl)
                      | (rw [heldB_t ⟨‹_›, ‹_›, ‹_›, by omega, by omega, hr, by omega, by omega, ‹_›⟩]; rfl)
                  · replace h65 := neqS_nof h65
                    refine vl_guard_on rfl rfl rfl ?_
                    refine vl_q (q_pick_true rfl rfl) (dk rfl) ?_
                    refine vl_q (q_pick_false rfl rfl) (dk rfl) ?_
                    refine vl_nil ?_
                    refine hK19 _ ?_
                    refine vc_cond_false rfl ?_
                    refine vc_skip ?_
                    refine hK11 _ ?_
                    refine vc_region ?_
                    refine vl_q (q_add rfl rfl (IntWalk.i64_in _ (by omega))) (dk rfl) ?_
                    refine vl_q (q_move rfl) (dk rfl) ?_
                    refine vl_nil ?_
                    refine ⟨_, _, ?_, ⟨i + 1, ⟨by omega, rowsOk_succ hr hxh hxp (rowOk_t (by omega) (by first | exact .inl hbt | exact .inr h65))⟩, rfl, rfl⟩, (Weak.cut _ _ _ (Nat.le_of_ble_eq_true rfl) ⟨⟨rfl, rfl⟩, ⟨iv_eq (by omega), rfl⟩, ⟨rfl, rfl⟩, ⟨rfl, rfl⟩, ⟨rfl, rfl⟩, trivial⟩ ⟨⟨Nat.le_of_ble_eq_true rfl, rfl, belN_all rfl⟩, trivial⟩ rfl)⟩
                    omega
            · replace h42 := lss_nof h42
              refine vl_nil ?_
              refine hK9 _ ?_
              refine vc_seq fun K22 hK22 => ?_
              refine vc_cond_false rfl ?_
              refine vc_exit ?_
              refine hK7 _ ?_
              refine vc_seq fun K23 hK23 => ?_
              obtain rfl : i = x.hav.length := by omega
              have hlh := haveN_le x.hav x.hav.length
              refine vc_region ?_
              refine vl_q (q_move rfl) (dk rfl) ?_
              refine vl_q (q_fieldAddr 2 rfl rfl rfl rfl (by decide) rfl rfl) (dk rfl) ?_
              refine vl_load rfl rfl rfl rfl rfl rfl rfl (by decide) (dk rfl) ?_
              refine vl_q (q_sub rfl rfl (IntWalk.i64_in _ (by omega))) (dk rfl) ?_
              refine vl_callP (c_impl_within _ _ _) rfl rfl ⟨XOk.val _, XOk.val _, XOk.val _, trivial⟩ rfl (.inl rfl) (dk rfl) ?_
              refine vl_bool 73 rfl (fun h73 => ?_) (fun h73 => ?_)
              · refine vl_q (q_move rfl) (dk rfl) ?_
                refine vl_guard_on rfl rfl rfl ?_
                refine vl_q (q_fieldAddr 5 rfl rfl rfl rfl (by decide) rfl rfl) (dk rfl) ?_
                refine vl_guard_on rfl rfl rfl ?_
                refine vl_load rfl rfl rfl rfl rfl rfl rfl (by decide) (dk rfl) ?_
                refine vl_guard_on rfl rfl rfl ?_
                refine vl_callP (c_impl_within _ _ _) rfl rfl ⟨XOk.val _, XOk.val _, XOk.val _, trivial⟩ rfl (.inl rfl) (dk rfl) ?_
                refine vl_bool 77 rfl (fun h77 => ?_) (fun h77 => ?_)
                · refine vl_q (q_pick_true rfl rfl) (dk rfl) ?_
                  refine vl_q (q_assign rfl) (dk rfl) ?_
                  refine vl_nil ?_
                  refine hK23 _ ?_
                  refine vc_ret ?_
                  refine ret_p rfl (.cons (res_tmp rfl) .nil) rfl ?_
                  try simp only [List.length_map] at *
                  first
                    | (rw [heldB_f (fun g => Bool.noConfusion (‹within x.fr 1 99 = false›.symm.trans g.fr))]; rfl)
                    | (rw [heldB_f (fun g => Bool.noConfusion (‹within x.id 0 255 = false›.symm.trans g.id))]; rfl)
                    | (rw [heldB_f (fun g => Bool.noConfusion (‹within x.cnt 2 15 = false›.symm.trans g.cnt))]; rfl)
                    | (rw [heldB_f (fun g => Bool.noConfusion (‹within x.til 0 1000000000 = false›.symm.trans g.til))]; rfl)
                    | (rw [heldB_f (fun g => absurd g.parts ‹(x.parts.length : Int) ≠ x.cnt›)]; rfl)
                    | (rw [heldB_f (fun g => absurd g.hav ‹(x.hav.length : Int) ≠ x.cnt›)]; rfl)
                    | (rw [heldB_f (not_row hxh hxp (rowOk_big (by omega)))]; rfl)
                    | (rw [heldB_f (not_row hxh hxp (rowOk_junk hbf ‹_ ≠ _›))]; rfl)
                    | (rw [heldB_f (fun g => by have g1 := g.have1; have g2 := g.have2; have := within_nof ‹within (haveN x.hav x.hav.length : Nat) 1 (x.cnt - 1) = false›; omega)]; rfl)
                    | (rw [heldB_f (fun g => by have g1 := g.have1; have g2 := g.have2; omega)]; rfl)
                    | (rw [heldB_t ⟨‹_›, ‹_›, ‹_›, by omega, by omega, hr, by have := within_of ‹within (haveN x.hav x.hav.length : Nat) 1 (x.cnt - 1) = true›; omega, by have := within_of ‹within (haveN x.hav x.hav.length : Nat) 1 (x.cnt - 1) = true›; omega, ‹_›⟩]; rfl)
                    | (rw [heldB_t ⟨‹_›, ‹_›, ‹_›, by omega, by omega, hr, by omega, by omega, ‹_›⟩]; rfl)
                · refine vl_q (q_pick_true rfl rfl) (dk rfl) ?_
                  refine vl_q (q_assign rfl) (dk rfl) ?_
                  refine vl_nil ?_
                  refine hK23 _ ?_
                  refine vc_ret ?_
                  refine ret_p rfl (.cons (res_tmp rfl) .nil) rfl ?_
                  try simp only [List.length_map] at *
                  first
                    | (rw [heldB_f (fun g => Bool.noConfusion (‹within x.fr 1 99 = false›.symm.trans g.fr))]; rfl)
                    | (rw [heldB_f (fun g => Bool.noConfusion (‹within x.id 0 255 = false›.symm.trans g.id))]; rfl)
                    | (rw [heldB_f (fun g => Bool.noConfusion (‹within x.cnt 2 15 = false›.symm.trans g.cnt))]; rfl)
                    | (rw [heldB_f (fun g => Bool.noConfusion (‹within x.til 0 1000000000 = false›.symm.trans g.til))]; rfl)
                    | (rw [heldB_f (fun g => absurd g.parts ‹(x.parts.length : Int) ≠ x.cnt›)]; rfl)
                    | (rw [heldB_f (fun g => absurd g.hav ‹(x.hav.length : Int) ≠ x.cnt›)]; rfl)
                    | (rw [heldB_f (not_row hxh hxp (rowOk_big (by omega)))]; rfl)
                    | (rw [heldB_f (not_row hxh hxp (rowOk_junk hbf ‹_ ≠ _›))]; rfl)
                    | (rw [heldB_f (fun g => by have g1 := g.have1; have g2 := g.have2; have := within_nof ‹within (haveN x.hav x.hav.length : Nat) 1 (x.cnt - 1) = false›; omega)]; rfl)
                    | (rw [heldB_f (fun g => by have g1 := g.have1; have g2 := g.have2; omega)]; rfl)
                    | (rw [heldB_t ⟨‹_›, ‹_›, ‹_›, by omega, by omega, hr, by have := within_of ‹within (haveN x.hav x.hav.length : Nat) 1 (x.cnt - 1) = true›; omega, by have := within_of ‹within (haveN x.hav x.hav.length : Nat) 1 (x.cnt - 1) = true›; omega, ‹_›⟩]; rfl)
                    | (rw [heldB_t ⟨‹_›, ‹_›, ‹_›, by omega, by omega, hr, by omega, by omega, ‹_›⟩]; rfl)
              · refine vl_q (q_move rfl) (dk rfl) ?_
                refine vl_goff rfl rfl rfl (by decide) (dk rfl) ?_
                refine vl_goff rfl rfl rfl (by decide) (dk rfl) ?_
                refine vl_goff rfl rfl rfl (by decide) (dk rfl) ?_
                refine vl_q (q_pick_false rfl rfl) (dk rfl) ?_
                refine vl_q (q_assign rfl) (dk rfl) ?_
                refine vl_nil ?_
                refine hK23 _ ?_
                refine vc_ret ?_
                refine ret_p rfl (.cons (res_tmp rfl) .nil) rfl ?_
                try simp only [List.length_map] at *
                first
                  | (rw [heldB_f (fun g => Bool.noConfusion (‹within x.fr 1 99 = false›.symm.trans g.fr))]; rfl)
                  | (rw [heldB_f (fun g => Bool.noConfusion (‹within x.id 0 255 = false›.symm.trans g.id))]; rfl)
                  | (rw [heldB_f (fun g => Bool.noConfusion (‹within x.cnt 2 15 = false›.symm.trans g.cnt))]; rfl)
                  | (rw [heldB_f (fun g => Bool.noConfusion (‹within x.til 0 1000000000 = false›.symm.trans g.til))]; rfl)
                  | (rw [heldB_f (fun g => absurd g.parts ‹(x.parts.length : Int) ≠ x.cnt›)]; rfl)
                  | (rw [heldB_f (fun g => absurd g.hav ‹(x.hav.length : Int) ≠ x.cnt›)]; rfl)
                  | (rw [heldB_f (not_row hxh hxp (rowOk_big (by omega)))]; rfl)
                  | (rw [heldB_f (not_row hxh hxp (rowOk_junk hbf ‹_ ≠ _›))]; rfl)
                  | (rw [heldB_f (fun g => by have g1 := g.have1; have g2 := g.have2; have := within_nof ‹within (haveN x.hav x.hav.length : Nat) 1 (x.cnt - 1) = false›; omega)]; rfl)
                  | (rw [heldB_f (fun g => by have g1 := g.have1; have g2 := g.have2; omega)]; rfl)
                  | (rw [heldB_t ⟨‹_›, ‹_›, ‹_›, by omega, by omega, hr, by have := within_of ‹within (haveN x.hav x.hav.length : Nat) 1 (x.cnt - 1) = true›; omega, by have := within_of ‹within (haveN x.hav x.hav.length : Nat) 1 (x.cnt - 1) = true›; omega, ‹_›⟩]; rfl)
                  | (rw [heldB_t ⟨‹_›, ‹_›, ‹_›, by omega, by omega, hr, by omega, by omega, ‹_›⟩]; rfl)
      · refine vl_guard_on rfl rfl rfl ?_
        refine vl_q (q_not rfl) (dk rfl) ?_
        refine vl_q (q_pick_false rfl rfl) (dk rfl) ?_
        refine vl_q (q_move rfl) (dk rfl) ?_
        refine vl_goff rfl rfl rfl (by decide) (dk rfl) ?_
        refine vl_goff rfl rfl rfl (by decide) (dk rfl) ?_
        refine vl_goff rfl rfl rfl (by decide) (dk rfl) ?_
        refine vl_goff rfl rfl rfl (by decide) (dk rfl) ?_
        refine vl_goff rfl rfl rfl (by decide) (dk rfl) ?_
        refine vl_goff rfl rfl rfl (by decide) (dk rfl) ?_
        refine vl_q (q_pick_true rfl rfl) (dk rfl) ?_
        refine vl_q (q_move rfl) (dk rfl) ?_
        refine vl_goff rfl rfl rfl (by decide) (dk rfl) ?_
        refine vl_goff rfl rfl rfl (by decide) (dk rfl) ?_
        refine vl_goff rfl rfl rfl (by decide) (dk rfl) ?_
        refine vl_goff rfl rfl rfl (by decide) (dk rfl) ?_
        refine vl_goff rfl rfl rfl (by decide) (dk rfl) ?_
        refine vl_goff rfl rfl rfl (by decide) (dk rfl) ?_
        refine vl_q (q_pick_true rfl rfl) (dk rfl) ?_
        refine vl_nil ?_
        refine hK3 _ ?_
        refine vc_cond_true rfl ?_
        refine vc_seq fun K24 hK24 => ?_
        refine vc_region ?_
        refine vl_q (q_assign rfl) (dk rfl) ?_
        refine vl_nil ?_
        refine hK24 _ ?_
        refine vc_ret ?_
        refine ret_p rfl (.cons (res_tmp rfl) .nil) rfl ?_
        try simp only [List.length_map] at *
        first
          | (rw [heldB_f (fun g => Bool.noConfusion (‹within x.fr 1 99 = false›.symm.trans g.fr))]; rfl)
          | (rw [heldB_f (fun g => Bool.noConfusion (‹within x.id 0 255 = false›.symm.trans g.id))]; rfl)
          | (rw [heldB_f (fun g => Bool.noConfusion (‹within x.cnt 2 15 = false›.symm.trans g.cnt))]; rfl)
          | (rw [heldB_f (fun g => Bool.noConfusion (‹within x.til 0 1000000000 = false›.symm.trans g.til))]; rfl)
          | (rw [heldB_f (fun g => absurd g.parts ‹(x.parts.length : Int) ≠ x.cnt›)]; rfl)
          | (rw [heldB_f (fun g => absurd g.hav ‹(x.hav.length : Int) ≠ x.cnt›)]; rfl)
          | (rw [heldB_f (not_row hxh hxp (rowOk_big (by omega)))]; rfl)
          | (rw [heldB_f (not_row hxh hxp (rowOk_junk hbf ‹_ ≠ _›))]; rfl)
          | (rw [heldB_f (fun g => by have g1 := g.have1; have g2 := g.have2; have := within_nof ‹within (haveN x.hav x.hav.length : Nat) 1 (x.cnt - 1) = false›; omega)]; rfl)
          | (rw [heldB_f (fun g => by have g1 := g.have1; have g2 := g.have2; omega)]; rfl)
          | (rw [heldB_t ⟨‹_›, ‹_›, ‹_›, by omega, by omega, hr, by have := within_of ‹within (haveN x.hav x.hav.length : Nat) 1 (x.cnt - 1) = true›; omega, by have := within_of ‹within (haveN x.hav x.hav.length : Nat) 1 (x.cnt - 1) = true›; omega, ‹_›⟩]; rfl)
          | (rw [heldB_t ⟨‹_›, ‹_›, ‹_›, by omega, by omega, hr, by omega, by omega, ‹_›⟩]; rfl)
    · refine vl_guard_on rfl rfl rfl ?_
      refine vl_q (q_not rfl) (dk rfl) ?_
      refine vl_q (q_pick_false rfl rfl) (dk rfl) ?_
      refine vl_q (q_move rfl) (dk rfl) ?_
      refine vl_goff rfl rfl rfl (by decide) (dk rfl) ?_
      refine vl_goff rfl rfl rfl (by decide) (dk rfl) ?_
      refine vl_goff rfl rfl rfl (by decide) (dk rfl) ?_
      refine vl_goff rfl rfl rfl (by decide) (dk rfl) ?_
      refine vl_q (q_pick_true rfl rfl) (dk rfl) ?_
      refine vl_q (q_move rfl) (dk rfl) ?_
      refine vl_goff rfl rfl rfl (by decide) (dk rfl) ?_
      refine vl_goff rfl rfl rfl (by decide) (dk rfl) ?_
      refine vl_goff rfl rfl rfl (by decide) (dk rfl) ?_
      refine vl_goff rfl rfl rfl (by decide) (dk rfl) ?_
      refine vl_goff rfl rfl rfl (by decide) (dk rfl) ?_
      refine vl_goff rfl rfl rfl (by decide) (dk rfl) ?_
      refine vl_q (q_pick_true rfl rfl) (dk rfl) ?_
      refine vl_q (q_move rfl) (dk rfl) ?_
      refine vl_goff rfl rfl rfl (by decide) (dk rfl) ?_
      refine vl_goff rfl rfl rfl (by decide) (dk rfl) ?_
      refine vl_goff rfl rfl rfl (by decide) (dk rfl) ?_
      refine vl_goff rfl rfl rfl (by decide) (dk rfl) ?_
      refine vl_goff rfl rfl rfl (by decide) (dk rfl) ?_
      refine vl_goff rfl rfl rfl (by decide) (dk rfl) ?_
      refine vl_q (q_pick_true rfl rfl) (dk rfl) ?_
      refine vl_nil ?_
      refine hK3 _ ?_
      refine vc_cond_true rfl ?_
      refine vc_seq fun K25 hK25 => ?_
      refine vc_region ?_
      refine vl_q (q_assign rfl) (dk rfl) ?_
      refine vl_nil ?_
      refine hK25 _ ?_
      refine vc_ret ?_
      refine ret_p rfl (.cons (res_tmp rfl) .nil) rfl ?_
      try simp only [List.length_map] at *
      first
        | (rw [heldB_f (fun g => Bool.noConfusion (‹within x.fr 1 99 = false›.symm.trans g.fr))]; rfl)
        | (rw [heldB_f (fun g => Bool.noConfusion (‹within x.id 0 255 = false›.symm.trans g.id))]; rfl)
        | (rw [heldB_f (fun g => Bool.noConfusion (‹within x.cnt 2 15 = false›.symm.trans g.cnt))]; rfl)
        | (rw [heldB_f (fun g => Bool.noConfusion (‹within x.til 0 1000000000 = false›.symm.trans g.til))]; rfl)
        | (rw [heldB_f (fun g => absurd g.parts ‹(x.parts.length : Int) ≠ x.cnt›)]; rfl)
        | (rw [heldB_f (fun g => absurd g.hav ‹(x.hav.length : Int) ≠ x.cnt›)]; rfl)
        | (rw [heldB_f (not_row hxh hxp (rowOk_big (by omega)))]; rfl)
        | (rw [heldB_f (not_row hxh hxp (rowOk_junk hbf ‹_ ≠ _›))]; rfl)
        | (rw [heldB_f (fun g => by have g1 := g.have1; have g2 := g.have2; have := within_nof ‹within (haveN x.hav x.hav.length : Nat) 1 (x.cnt - 1) = false›; omega)]; rfl)
        | (rw [heldB_f (fun g => by have g1 := g.have1; have g2 := g.have2; omega)]; rfl)
        | (rw [heldB_t ⟨‹_›, ‹_›, ‹_›, by omega, by omega, hr, by have := within_of ‹within (haveN x.hav x.hav.length : Nat) 1 (x.cnt - 1) = true›; omega, by have := within_of ‹within (haveN x.hav x.hav.length : Nat) 1 (x.cnt - 1) = true›; omega, ‹_›⟩]; rfl)
        | (rw [heldB_t ⟨‹_›, ‹_›, ‹_›, by omega, by omega, hr, by omega, by omega, ‹_›⟩]; rfl)
  · refine vl_q (q_not rfl) (dk rfl) ?_
    refine vl_q (q_move rfl) (dk rfl) ?_
    refine vl_goff rfl rfl rfl (by decide) (dk rfl) ?_
    refine vl_goff rfl rfl rfl (by decide) (dk rfl) ?_
    refine vl_goff rfl rfl rfl (by decide) (dk rfl) ?_
    refine vl_goff rfl rfl rfl (by decide) (dk rfl) ?_
    refine vl_q (q_pick_true rfl rfl) (dk rfl) ?_
    refine vl_q (q_move rfl) (dk rfl) ?_
    refine vl_goff rfl rfl rfl (by decide) (dk rfl) ?_
    refine vl_goff rfl rfl rfl (by decide) (dk rfl) ?_
    refine vl_goff rfl rfl rfl (by decide) (dk rfl) ?_
    refine vl_goff rfl rfl rfl (by decide) (dk rfl) ?_
    refine vl_q (q_pick_true rfl rfl) (dk rfl) ?_
    refine vl_q (q_move rfl) (dk rfl) ?_
    refine vl_goff rfl rfl rfl (by decide) (dk rfl) ?_
    refine vl_goff rfl rfl rfl (by decide) (dk rfl) ?_
    refine vl_goff rfl rfl rfl (by decide) (dk rfl) ?_
    refine vl_goff rfl rfl rfl (by decide) (dk rfl) ?_
    refine vl_goff rfl rfl rfl (by decide) (dk rfl) ?_
    refine vl_goff rfl rfl rfl (by decide) (dk rfl) ?_
    refine vl_q (q_pick_true rfl rfl) (dk rfl) ?_
    refine vl_q (q_move rfl) (dk rfl) ?_
    refine vl_goff rfl rfl rfl (by decide) (dk rfl) ?_
    refine vl_goff rfl rfl rfl (by decide) (dk rfl) ?_
    refine vl_goff rfl rfl rfl (by decide) (dk rfl) ?_
    refine vl_goff rfl rfl rfl (by decide) (dk rfl) ?_
    refine vl_goff rfl rfl rfl (by decide) (dk rfl) ?_
    refine vl_goff rfl rfl rfl (by decide) (dk rfl) ?_
    refine vl_q (q_pick_true rfl rfl) (dk rfl) ?_
    refine vl_nil ?_
    refine hK3 _ ?_
    refine vc_cond_true rfl ?_
    refine vc_seq fun K26 hK26 => ?_
    refine vc_region ?_
    refine vl_q (q_assign rfl) (dk rfl) ?_
    refine vl_nil ?_
    refine hK26 _ ?_
    refine vc_ret ?_
    refine ret_p rfl (.cons (res_tmp rfl) .nil) rfl ?_
    try simp only [List.length_map] at *
    first
      | (rw [heldB_f (fun g => Bool.noConfusion (‹within x.fr 1 99 = false›.symm.trans g.fr))]; rfl)
      | (rw [heldB_f (fun g => Bool.noConfusion (‹within x.id 0 255 = false›.symm.trans g.id))]; rfl)
      | (rw [heldB_f (fun g => Bool.noConfusion (‹within x.cnt 2 15 = false›.symm.trans g.cnt))]; rfl)
      | (rw [heldB_f (fun g => Bool.noConfusion (‹within x.til 0 1000000000 = false›.symm.trans g.til))]; rfl)
      | (rw [heldB_f (fun g => absurd g.parts ‹(x.parts.length : Int) ≠ x.cnt›)]; rfl)
      | (rw [heldB_f (fun g => absurd g.hav ‹(x.hav.length : Int) ≠ x.cnt›)]; rfl)
      | (rw [heldB_f (not_row hxh hxp (rowOk_big (by omega)))]; rfl)
      | (rw [heldB_f (not_row hxh hxp (rowOk_junk hbf ‹_ ≠ _›))]; rfl)
      | (rw [heldB_f (fun g => by have g1 := g.have1; have g2 := g.have2; have := within_nof ‹within (haveN x.hav x.hav.length : Nat) 1 (x.cnt - 1) = false›; omega)]; rfl)
      | (rw [heldB_f (fun g => by have g1 := g.have1; have g2 := g.have2; omega)]; rfl)
      | (rw [heldB_t ⟨‹_›, ‹_›, ‹_›, by omega, by omega, hr, by have := within_of ‹within (haveN x.hav x.hav.length : Nat) 1 (x.cnt - 1) = true›; omega, by have := within_of ‹within (haveN x.hav x.hav.length : Nat) 1 (x.cnt - 1) = true›; omega, ‹_›⟩]; rfl)
      | (rw [heldB_t ⟨‹_›, ‹_›, ‹_›, by omega, by omega, hr, by omega, by omega, ‹_›⟩]; rfl)
end Go.Vm.S
namespace Go.Vm.S
open Go Go.Vm
set_option maxRecDepth 100000
set_option linter.unusedVariables false
set_option maxHeartbeats 4000000
theorem at15 : FnAt Pg 15 Go.Proofs.Try.f15 := ⟨by kernel_rfl, rfl, by decide⟩
theorem c_impl_ShelfOk (l : List Held) :
    Ctr Pg ty 15 [.agg ((shelfC l).map X.c)] [] (Gives (vv (.bool (shelfB l))) [] []) := by
  refine ctr at15 rfl (nsK_gives rfl trivial trivial) (Nat.le_of_ble_eq_true rfl) fun w0 S0 L0 Z => ?_
  refine vc_seq fun K1 hK1 => ?_
  refine vc_region ?_
  refine vl_box rfl (dk rfl) ?_
  refine vl_q (q_assign rfl) (dk rfl) ?_
  refine vl_nil ?_
  refine hK1 _ ?_
  refine vc_seq fun K2 hK2 => ?_
  refine vc_seq fun K3 hK3 => ?_
  refine vc_region ?_
  refine vl_q (q_fieldAddr 0 rfl rfl rfl rfl (by decide) rfl rfl) (dk rfl) ?_
  refine vl_load rfl rfl rfl rfl rfl rfl rfl (by decide) (dk rfl) ?_
  refine vl_fact (fun a w g => good_lim (x := .tmp 6) rfl g) fun hlen => ?_
  rw [List.length_map] at hlen
  refine vl_q (q_len_sh rfl rfl rfl) (dk rfl) ?_
  simp only [List.length_map]
  refine vl_q (q_move rfl) (dk rfl) ?_
  refine vl_nil ?_
  refine hK3 _ ?_
  refine vc_block ?_
  refine vc_loop (fun mz st => ∃ i : Nat, (i ≤ l.length ∧ goodTo l i) ∧ mz = l.length - i ∧ st = mkSt [(1, .v (.one (.ptr 16 0 0))), (6, .v (shv 6 (l.map heldC))), (7, .v (iv l.length)), (8, .v (iv i))] [(16, ⟨1, [(shelfC l).map X.c]⟩)] 17) ⟨_, _, ⟨0, ⟨by omega, fun j _ h => absurd h (by omega)⟩, rfl, rfl⟩, (Weak.cut _ _ _ (Nat.le_of_ble_eq_true rfl) ⟨⟨rfl, rfl⟩, ⟨rfl, rfl⟩, ⟨rfl, rfl⟩, ⟨rfl, rfl⟩, trivial⟩ ⟨⟨Nat.le_of_ble_eq_true rfl, rfl, belN_all rfl⟩, trivial⟩ rfl)⟩ (fun mz st hI => ?_)
  obtain ⟨i, ⟨hi, hg⟩, hmz, rfl⟩ := hI
  refine vc_seq fun K4 hK4 => ?_
  refine vc_region ?_
  refine vl_two (x := fun b => vv (.bool b)) _ (q_cmp rfl rfl rfl rfl) (dk rfl) (fun h9 => ?_) (fun h9 => ?_)
  · replace h9 := lss_of h9
    refine vl_nil ?_
    refine hK4 _ ?_
    refine vc_seq fun K5 hK5 => ?_
    refine vc_cond_true rfl ?_
    refine vc_skip ?_
    refine hK5 _ ?_
    refine vc_seq fun K6 hK6 => ?_
    refine vc_block ?_
    refine vc_seq fun K7 hK7 => ?_
    have hil : i < l.length := by omega
    refine vc_region ?_
    refine vl_q (q_move rfl) (dk rfl) ?_
    refine vl_q (q_indexAddr_sh rfl rfl rfl rfl rfl rfl (by decide) (by omega) (get_map (i := i) hil)) (dk rfl) ?_
    refine vl_load_sp rfl rfl rfl rfl (by decide) (dk rfl) ?_
    refine vl_alloc rfl (dk rfl) ?_
    refine vl_q (q_assign rfl) (dk rfl) ?_
    refine vl_store rfl rfl rfl rfl rfl rfl (Nat.le_of_ble_eq_true rfl) trivial ?_
    refine vl_nil ?_
    refine hK7 _ ?_
    refine vc_seq fun K8 hK8 => ?_
    refine vc_region ?_
    refine vl_load rfl rfl rfl rfl rfl rfl rfl (by decide) (dk rfl) ?_
    refine vl_callP (c_impl_heldOk l[i]) rfl rfl ⟨VOk.agg ⟨XOk.val _, XOk.val _, XOk.val _, XOk.shc _ _, XOk.shc _ _, XOk.val _, trivial⟩, trivial⟩ rfl (.inl rfl) (dk rfl) ?_
    refine vl_bool 14 rfl (fun h14 => ?_) (fun h14 => ?_)
    · have hgr : HeldGood l[i] := of_decide_eq_true h14
      refine vl_q (q_not rfl) (dk rfl) ?_
      refine vl_q (q_move rfl) (dk rfl) ?_
      refine vl_guard_on rfl rfl rfl ?_
      refine vl_load rfl rfl rfl rfl rfl rfl rfl (by decide) (dk rfl) ?_
      refine vl_guard_on rfl rfl rfl ?_
      refine vl_q (q_fieldAddr 0 rfl rfl rfl rfl (by decide) rfl rfl) (dk rfl) ?_
      refine vl_guard_on rfl rfl rfl ?_
      refine vl_load rfl rfl rfl rfl rfl rfl rfl (by decide) (dk rfl) ?_
      refine vl_guard_on rfl rfl rfl ?_
      refine vl_q (q_fieldAddr 1 rfl rfl rfl rfl (by decide) rfl rfl) (dk rfl) ?_
      refine vl_guard_on rfl rfl rfl ?_
      refine vl_load rfl rfl rfl rfl rfl rfl rfl (by decide) (dk rfl) ?_
      refine vl_guard_on rfl rfl rfl ?_
      refine vl_callP (c_impl_heldAt l l[i].fr l[i].id) rfl rfl ⟨VOk.agg ⟨XOk.shc _ _, trivial⟩, XOk.val _, XOk.val _, trivial⟩ rfl (.inl rfl) (dk rfl) ?_
      refine vl_guard_on rfl rfl rfl ?_
      refine vl_q (q_move rfl) (dk rfl) ?_
      refine vl_guard_on rfl rfl rfl ?_
      refine vl_two (x := fun b => vv (.bool b)) _ (q_cmp rfl rfl rfl rfl) (dk rfl) (fun h24 => ?_) (fun h24 => ?_)
      · replace h24 := neq_of h24
        have hkey := h24
        refine vl_q (q_pick_false rfl rfl) (dk rfl) ?_
        refine vl_nil ?_
        refine hK8 _ ?_
        refine vc_cond_true rfl ?_
        refine vc_seq fun K9 hK9 => ?_
        refine vc_region ?_
        refine vl_q (q_assign rfl) (dk rfl) ?_
        refine vl_nil ?_
        refine hK9 _ ?_
        refine vc_ret ?_
        refine ret_p rfl (.cons (res_tmp rfl) .nil) rfl ?_
        first
          | (rw [shelfB_f (not_good_row hil (fun g => by rw [heldB_t g] at hgr; cases hgr))]; rfl)
          | (rw [shelfB_f (fun g => hkey ((fIdx_self hil).2 (g.rows i hil hil).2))]; rfl)
          | (rw [shelfB_f (not_good_key hil hkl (by omega) (sameK_t h36 h50))]; rfl)
          | (rw [shelfB_t ⟨hg, by omega⟩]; rfl)
          | (rw [shelfB_f (fun g => absurd g.len (by omega))]; rfl)
      · replace h24 := neq_nof h24
        have hkey := (fIdx_self hil).1 h24
        refine vl_q (q_pick_false rfl rfl) (dk rfl) ?_
        refine vl_nil ?_
        refine hK8 _ ?_
        refine vc_cond_false rfl ?_
        refine vc_skip ?_
        refine hK6 _ ?_
        refine vc_region ?_
        refine vl_q (q_add rfl rfl (IntWalk.i64_in _ (by omega))) (dk rfl) ?_
        refine vl_q (q_move rfl) (dk rfl) ?_
        refine vl_nil ?_
        refine ⟨_, _, ?_, ⟨i + 1, ⟨by omega, goodTo_succ hg hil hgr hkey⟩, rfl, rfl⟩, (Weak.cut _ _ _ (Nat.le_of_ble_eq_true rfl) ⟨⟨rfl, rfl⟩, ⟨rfl, rfl⟩, ⟨rfl, rfl⟩, ⟨rfl, rfl⟩, trivial⟩ ⟨⟨Nat.le_of_ble_eq_true rfl, rfl, belN_all rfl⟩, trivial⟩ rfl)⟩
        omega
    · have hgr : heldB l[i] = false := h14
      refine vl_q (q_not rfl) (dk rfl) ?_
      refine vl_q (q_move rfl) (dk rfl) ?_
      refine vl_goff rfl rfl rfl (by decide) (dk rfl) ?_
      refine vl_goff rfl rfl rfl (by decide) (dk rfl) ?_
      refine vl_goff rfl rfl rfl (by decide) (dk rfl) ?_
      refine vl_goff rfl rfl rfl (by decide) (dk rfl) ?_
      refine vl_goff rfl rfl rfl (by decide) (dk rfl) ?_
      refine vl_goff rfl rfl rfl (by decide) (dk rfl) ?_
      refine vl_goff rfl rfl rfl (by decide) (dk rfl) ?_
      refine vl_goff rfl rfl rfl (by decide) (dk rfl) ?_
      refine vl_q (q_pick_true rfl rfl) (dk rfl) ?_
      refine vl_nil ?_
      refine hK8 _ ?_
      refine vc_cond_true rfl ?_
      refine vc_seq fun K10 hK10 => ?_
      refine vc_region ?_
      refine vl_q (q_assign rfl) (dk rfl) ?_
      refine vl_nil ?_
      refine hK10 _ ?_
      refine vc_ret ?_
      refine ret_p rfl (.cons (res_tmp rfl) .nil) rfl ?_
      first
        | (rw [shelfB_f (not_good_row hil (fun g => by rw [heldB_t g] at hgr; cases hgr))]; rfl)
        | (rw [shelfB_f (fun g => hkey ((fIdx_self hil).2 (g.rows i hil hil).2))]; rfl)
        | (rw [shelfB_f (not_good_key hil hkl (by omega) (sameK_t h36 h50))]; rfl)
        | (rw [shelfB_t ⟨hg, by omega⟩]; rfl)
        | (rw [shelfB_f (fun g => absurd g.len (by omega))]; rfl)
  · replace h9 := lss_nof h9
    refine vl_nil ?_
    refine hK4 _ ?_
    refine vc_seq fun K11 hK11 => ?_
    refine vc_cond_false rfl ?_
    refine vc_exit ?_
    refine hK2 _ ?_
    refine vc_seq fun K12 hK12 => ?_
    obtain rfl : i = l.length := by omega
    refine vc_region ?_
    refine vl_q (q_fieldAddr 0 rfl rfl rfl rfl (by decide) rfl rfl) (dk rfl) ?_
    refine vl_load rfl rfl rfl rfl rfl rfl rfl (by decide) (dk rfl) ?_
    refine vl_q (q_len_sh rfl rfl rfl) (dk rfl) ?_
    simp only [List.length_map]
    refine vl_two (x := fun b => vv (.bool b)) _ (q_cmp rfl rfl rfl rfl) (dk rfl) (fun h30 => ?_) (fun h30 => ?_)
    · replace h30 := leq_of h30
      refine vl_q (q_assign rfl) (dk rfl) ?_
      refine vl_nil ?_
      refine hK12 _ ?_
      refine vc_ret ?_
      refine ret_p rfl (.cons (res_tmp rfl) .nil) rfl ?_
      first
        | (rw [shelfB_f (not_good_row hil (fun g => by rw [heldB_t g] at hgr; cases hgr))]; rfl)
        | (rw [shelfB_f (fun g => hkey ((fIdx_self hil).2 (g.rows i hil hil).2))]; rfl)
        | (rw [shelfB_f (not_good_key hil hkl (by omega) (sameK_t h36 h50))]; rfl)
        | (rw [shelfB_t ⟨hg, by omega⟩]; rfl)
        | (rw [shelfB_f (fun g => absurd g.len (by omega))]; rfl)
    · replace h30 := leq_nof h30
      refine vl_q (q_assign rfl) (dk rfl) ?_
      refine vl_nil ?_
      refine hK12 _ ?_
      refine vc_ret ?_
      refine ret_p rfl (.cons (res_tmp rfl) .nil) rfl ?_
      first
        | (rw [shelfB_f (not_good_row hil (fun g => by rw [heldB_t g] at hgr; cases hgr))]; rfl)
        | (rw [shelfB_f (fun g => hkey ((fIdx_self hil).2 (g.rows i hil hil).2))]; rfl)
        | (rw [shelfB_f (not_good_key hil hkl (by omega) (sameK_t h36 h50))]; rfl)
        | (rw [shelfB_t ⟨hg, by omega⟩]; rfl)
        | (rw [shelfB_f (fun g => absurd g.len (by omega))]; rfl)
end Go.Vm.S
namespace Go.Vm.S
open Go Go.Vm
set_option maxRecDepth 100000
set_option linter.unusedVariables false
set_option maxHeartbeats 4000000
theorem at58 : FnAt Pg 58 Go.Proofs.Try.f58 := ⟨by kernel_rfl, rfl, by decide⟩
theorem c_Index_bool (l : List Bool) (b : Bool) :
    Ctr Pg ty 58 [shv 1 (l.map boolC), bv b] [] (Gives (vv (.int .i64 (bIdx b l))) [] []) := by
  refine ctr at58 rfl (nsK_gives rfl trivial trivial) (Nat.le_of_ble_eq_true rfl) fun w0 S0 L0 Z => ?_
  refine vc_seq fun K1 hK1 => ?_
  refine vc_region ?_
  refine vl_q (q_assign rfl) (dk rfl) ?_
  refine vl_nil ?_
  refine hK1 _ ?_
  refine vc_seq fun K2 hK2 => ?_
  refine vc_seq fun K3 hK3 => ?_
  refine vc_fact (fun a w g => good_lim (x := .tmp 0) rfl g) fun hla => ?_
  rw [List.length_map] at hla
  refine vc_region ?_
  refine vl_q (q_move rfl) (dk rfl) ?_
  refine vl_q (q_len_sh rfl rfl rfl) (dk rfl) ?_
  simp only [List.length_map]
  refine vl_q (q_move rfl) (dk rfl) ?_
  refine vl_nil ?_
  refine hK3 _ ?_
  refine vc_block ?_
  refine vc_loop (fun mz st => ∃ i : Nat, (i ≤ l.length ∧ ∀ j (hj : j < l.length), j < i → (l[j] == b) = false) ∧ mz = l.length - i ∧ st = mkSt [(0, .v (shv 1 (l.map boolC))), (1, .v (bv b)), (7, .v (iv l.length)), (8, .v (iv i))] [] 16) ⟨_, _, ⟨0, ⟨by omega, fun j hj h => absurd h (by omega)⟩, rfl, rfl⟩, (Weak.cut _ _ _ (Nat.le_of_ble_eq_true rfl) ⟨⟨rfl, rfl⟩, ⟨rfl, rfl⟩, ⟨rfl, rfl⟩, ⟨rfl, rfl⟩, trivial⟩ trivial rfl)⟩ (fun mz st hI => ?_)
  obtain ⟨i, ⟨hi, hb⟩, hmz, rfl⟩ := hI
  refine vc_seq fun K4 hK4 => ?_
  refine vc_region ?_
  refine vl_two (x := fun b => vv (.bool b)) _ (q_cmp rfl rfl rfl rfl) (dk rfl) (fun h9 => ?_) (fun h9 => ?_)
  · replace h9 := lss_of h9
    refine vl_nil ?_
    refine hK4 _ ?_
    refine vc_seq fun K5 hK5 => ?_
    refine vc_cond_true rfl ?_
    refine vc_skip ?_
    refine hK5 _ ?_
    refine vc_seq fun K6 hK6 => ?_
    refine vc_block ?_
    refine vc_seq fun K7 hK7 => ?_
    have hil : i < l.length := by omega
    refine vc_region ?_
    refine vl_q (q_move rfl) (dk rfl) ?_
    refine vl_q (q_assign rfl) (dk rfl) ?_
    refine vl_nil ?_
    refine hK7 _ ?_
    refine vc_seq fun K8 hK8 => ?_
    refine vc_region ?_
    refine vl_q (q_move rfl) (dk rfl) ?_
    refine vl_q (q_move rfl) (dk rfl) ?_
    refine vl_q (q_move rfl) (dk rfl) ?_
    refine vl_q (q_indexAddr_sh rfl rfl rfl rfl rfl rfl (by decide) (by omega) (get_map (i := i) hil)) (dk rfl) ?_
    refine vl_load_sp rfl rfl rfl rfl (by decide) (dk rfl) ?_
    refine vl_two (x := fun b => vv (.bool b)) _ (q_cmpB rfl rfl rfl rfl (.inl rfl) rfl) (dk rfl) (fun h16 => ?_) (fun h16 => ?_)
    · replace h16 := eqlB_of h16
      refine vl_nil ?_
      refine hK8 _ ?_
      refine vc_cond_true rfl ?_
      refine vc_seq fun K9 hK9 => ?_
      refine vc_region ?_
      refine vl_q (q_move rfl) (dk rfl) ?_
      refine vl_q (q_assign rfl) (dk rfl) ?_
      refine vl_nil ?_
      refine hK9 _ ?_
      refine vc_ret ?_
      refine ret_p rfl (.cons (res_tmp rfl) .nil) rfl ?_
      rw [bIdx, fIdx_at hil hb (by simp [h16])]; rfl
    · replace h16 := eqlB_nof h16
      refine vl_nil ?_
      refine hK8 _ ?_
      refine vc_cond_false rfl ?_
      refine vc_skip ?_
      refine hK6 _ ?_
      refine vc_region ?_
      refine vl_q (q_add rfl rfl (IntWalk.i64_in _ (by omega))) (dk rfl) ?_
      refine vl_q (q_move rfl) (dk rfl) ?_
      refine vl_nil ?_
      refine ⟨_, _, ?_, ⟨i + 1, ⟨by omega, fun j hj h => by by_cases e : j = i; (subst e; simp; exact fun e => h16 e.symm); exact hb j hj (by omega)⟩, rfl, rfl⟩, (Weak.cut _ _ _ (Nat.le_of_ble_eq_true rfl) ⟨⟨rfl, rfl⟩, ⟨rfl, rfl⟩, ⟨rfl, rfl⟩, ⟨rfl, rfl⟩, trivial⟩ trivial rfl)⟩
      omega
  · replace h9 := lss_nof h9
    refine vl_nil ?_
    refine hK4 _ ?_
    refine vc_seq fun K10 hK10 => ?_
    refine vc_cond_false rfl ?_
    refine vc_exit ?_
    refine hK2 _ ?_
    refine vc_seq fun K11 hK11 => ?_
    refine vc_region ?_
    refine vl_q (q_assign rfl) (dk rfl) ?_
    refine vl_nil ?_
    refine hK11 _ ?_
    refine vc_ret ?_
    refine ret_p rfl (.cons (res_tmp rfl) .nil) rfl ?_
    rw [bIdx, fIdx_none (fun j hj => hb j hj (by omega))]; rfl
theorem at37 : FnAt Pg 37 Go.Proofs.Try.f37 := ⟨by kernel_rfl, rfl, by decide⟩
theorem c_Contains_bool (l : List Bool) (b : Bool) :
    Ctr Pg ty 37 [shv 1 (l.map boolC), bv b] [] (Gives (vv (.bool (decide (b ∈ l)))) [] []) := by
  refine ctr at37 rfl (nsK_gives rfl trivial trivial) (Nat.le_of_ble_eq_true rfl) fun w0 S0 L0 Z => ?_
  refine vc_seq fun K1 hK1 => ?_
  refine vc_region ?_
  refine vl_q (q_assign rfl) (dk rfl) ?_
  refine vl_nil ?_
  refine hK1 _ ?_
  refine vc_seq fun K2 hK2 => ?_
  refine vc_region ?_
  refine vl_q (q_move rfl) (dk rfl) ?_
  refine vl_q (q_move rfl) (dk rfl) ?_
  refine vl_callP (c_Index_bool _ _) rfl rfl ⟨XOk.shc _ _, XOk.val _, trivial⟩ rfl (.inl rfl) (dk rfl) ?_
  refine vl_q (q_cmp rfl rfl rfl rfl) (dk rfl) ?_
  refine vl_q (q_assign rfl) (dk rfl) ?_
  refine vl_nil ?_
  refine hK2 _ ?_
  refine vc_ret ?_
  refine ret_p rfl (.cons (res_tmp rfl) .nil) rfl ?_
  rw [← bIdx_nneg]; rfl
end Go.Vm.S
