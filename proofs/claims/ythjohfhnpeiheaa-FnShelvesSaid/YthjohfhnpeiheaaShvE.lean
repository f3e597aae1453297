/- 'FnShelves' answers true, whatever it is given. No condition. -/
import Derived.Test.YthjohfhnpeiheaaShvD
import Derived.Test.YthjohfhnpeiheaaShvB
import Derived.Test.YthjohfhnpeiheaaShvC
import Derived.Test.YthjohfhnpeiheaaRows
import Derived.Test.YthjohfhnpeiheaaChecked
set_option linter.all false
namespace Go.Vm.S
open Go Go.Vm
set_option maxRecDepth 100000
set_option linter.unusedVariables false
set_option maxHeartbeats 4000000
theorem at55 : FnAt Pg 55 Go.Proofs.Try.f55 := ⟨by kernel_rfl, rfl, by decide⟩
theorem c_impl_copyTexts (l : List ByteArray) (hl : l.length ≤ 4194304) :
    Ctr Pg ty 55 [shv 1 (l.map strC)] [] (Gives (.v (.one (.hdr 16 0 l.length))) [⟨1, clo (l.map strC)⟩] []) := by
  refine ctr at55 rfl (nsK_gives rfl ⟨nsN_map strC_noSh, trivial⟩ trivial) (Nat.le_of_ble_eq_true rfl) fun w0 S0 L0 Z => ?_
  refine vc_seq fun K1 hK1 => ?_
  refine vc_region ?_
  refine vl_q (q_assign rfl) (dk rfl) ?_
  refine vl_nil ?_
  refine hK1 _ ?_
  refine vc_seq fun K2 hK2 => ?_
  refine vc_region ?_
  refine vl_bslice rfl rfl rfl rfl rfl rfl trivial (by decide) (by decide) (dk rfl) ?_
  refine vl_q (q_move rfl) (dk rfl) ?_
  refine vl_append rfl rfl rfl rfl (fun _ h => TypeDesc.noConfusion h) rfl rfl rfl (Nat.le_refl _) (src_sh rfl rfl (map_wid fun _ => rfl)) (by simp only [List.length_map]; show _ * 16 ≤ _; omega) (by simp only [List.length_map]; omega) (dk rfl) ?_
  simp only [List.drop_nil, List.take_nil, List.nil_append, List.length_map, Nat.zero_add]
  refine vl_q (q_assign rfl) (dk rfl) ?_
  refine vl_nil ?_
  refine hK2 _ ?_
  refine vc_ret ?_
  refine ret_g [17] rfl (.cons (res_tmp rfl) .nil) rfl rfl (nodupB_ok rfl) ⟨by decide, trivial⟩ ⟨⟨_, rfl, NR.clo _ _ _ _⟩, trivial⟩ trivial (Nat.zero_le _)
theorem at33 : FnAt Pg 33 Go.Proofs.Try.f33 := ⟨by kernel_rfl, rfl, by decide⟩
theorem c_impl_copyShelf (l : List Held) (hb : szHelds l ≤ 4194304) :
    Ctr Pg ty 33 [.agg ((shelfC l).map X.c)] [] (Gives (.v (.agg [.hdr 16 0 l.length])) [⟨6, clo (l.map heldO)⟩] []) := by
  have hl : l.length ≤ 4194304 := by unfold szHelds at hb; omega
  refine ctr at33 rfl (nsK_gives rfl ⟨nsN_map heldO_noSh, trivial⟩ trivial) (Nat.le_of_ble_eq_true rfl) fun w0 S0 L0 Z => ?_
  refine vc_seq fun K1 hK1 => ?_
  refine vc_region ?_
  refine vl_box rfl (dk rfl) ?_
  refine vl_alloc rfl (dk rfl) ?_
  refine vl_nil ?_
  refine hK1 _ ?_
  refine vc_seq fun K2 hK2 => ?_
  refine vc_region ?_
  refine vl_q (q_build rfl rfl rfl rfl rfl) (dk rfl) ?_
  refine vl_alloc rfl (dk rfl) ?_
  refine vl_store rfl rfl rfl rfl rfl rfl (Nat.le_of_ble_eq_true rfl) trivial ?_
  refine vl_nil ?_
  refine hK2 _ ?_
  refine vc_seq fun K3 hK3 => ?_
  refine vc_seq fun K4 hK4 => ?_
  refine vc_region ?_
  refine vl_q (q_fieldAddr 0 rfl rfl rfl rfl (by decide) rfl rfl) (dk rfl) ?_
  refine vl_load rfl rfl rfl rfl rfl rfl rfl (by decide) (dk rfl) ?_
  refine vl_q (q_len_sh rfl rfl rfl) (dk rfl) ?_
  simp only [List.length_map]
  refine vl_q (q_move rfl) (dk rfl) ?_
  refine vl_nil ?_
  refine hK4 _ ?_
  refine vc_block ?_
  refine vc_weak (Weak.tell1 (m := 18) (i := 0) (j := 0) rfl rfl rfl (Imp.nil 6) (one_wid rfl)) ?_
  refine vc_loop (fun mz st => ∃ i : Nat, (i ≤ l.length) ∧ mz = l.length - i ∧ st = mkSt [(2, .v (.one (.ptr 17 0 0))), (3, .v (.one (.ptr 18 0 0))), (8, .v (shv 6 (l.map heldC))), (9, .v (iv l.length)), (10, .v (iv i))] [(16, ⟨1, [[.c (.sh 6 (l.map heldC))]]⟩), (17, ⟨1, [[.c (.val (.slice none 0 0))]]⟩), (18, ⟨1, [[.c (.own 6 ((l.take i).map heldO))]]⟩)] 19) ⟨_, _, ⟨0, by omega, rfl, rfl⟩, (Weak.cut _ _ _ (Nat.le_of_ble_eq_true rfl) ⟨⟨rfl, rfl⟩, ⟨rfl, rfl⟩, ⟨rfl, rfl⟩, ⟨rfl, rfl⟩, ⟨rfl, rfl⟩, trivial⟩ ⟨⟨Nat.le_of_ble_eq_true rfl, rfl, belN_all rfl⟩, ⟨Nat.le_of_ble_eq_true rfl, rfl, belN_all rfl⟩, ⟨Nat.le_of_ble_eq_true rfl, rfl, belN_all rfl⟩, trivial⟩ rfl)⟩ (fun mz st hI => ?_)
  obtain ⟨i, hi, hmz, rfl⟩ := hI
  refine vc_seq fun K5 hK5 => ?_
  refine vc_region ?_
  refine vl_two (x := fun b => vv (.bool b)) _ (q_cmp rfl rfl rfl rfl) (dk rfl) (fun h11 => ?_) (fun h11 => ?_)
  · replace h11 := lss_of h11
    refine vl_nil ?_
    refine hK5 _ ?_
    refine vc_seq fun K6 hK6 => ?_
    refine vc_cond_true rfl ?_
    refine vc_skip ?_
    refine hK6 _ ?_
    refine vc_seq fun K7 hK7 => ?_
    refine vc_block ?_
    refine vc_seq fun K8 hK8 => ?_
    have hil : i < l.length := by omega
    have hbi : szHeld l[i] ≤ 4194304 := by
      have h1 := sumTo_succ szHeld l hil
      have h2 := sumTo_le szHeld l (i + 1)
      unfold szHelds at hb; omega
    have hp : l[i].parts.length ≤ 4194304 := by unfold szHeld szStrs at hbi; omega
    have hh : l[i].hav.length ≤ 4194304 := by unfold szHeld szStrs at hbi; omega
    refine vc_region ?_
    refine vl_q (q_indexAddr_sh rfl rfl rfl rfl rfl rfl (by decide) (by omega) (get_map (i := i) hil)) (dk rfl) ?_
    refine vl_load_sp rfl rfl rfl rfl (by decide) (dk rfl) ?_
    refine vl_alloc rfl (dk rfl) ?_
    refine vl_store rfl rfl rfl rfl rfl rfl (Nat.le_of_ble_eq_true rfl) trivial ?_
    refine vl_nil ?_
    refine hK8 _ ?_
    refine vc_seq fun K9 hK9 => ?_
    refine vc_region_any mixed (fun n => false) true rfl rfl (fun _ hU10 => hU10) fun w1 S1 L1 Z1 H1 => ?_
    refine va_q 0 rfl (by kernel_rfl) (by kernel_rfl) (by kernel_rfl) (q_fieldAddr 3 rfl rfl rfl rfl (by decide) rfl rfl) (dk rfl) ?_
    refine va_q 4 rfl (by kernel_rfl) (by kernel_rfl) (by kernel_rfl) (q_fieldAddr 4 rfl rfl rfl rfl (by decide) rfl rfl) (dk rfl) ?_
    refine va_all [1, 3, 5] (by kernel_rfl) (by simp) ⟨⟨_, rfl, ?_⟩, ⟨_, rfl, ?_⟩, ⟨_, rfl, ?_⟩, trivial⟩
    · refine vl_load rfl rfl rfl rfl rfl rfl rfl (by decide) (dk rfl) ?_
      refine vl_nil ?_
      refine va_all [2, 3, 5] (by kernel_rfl) (by simp) ⟨⟨_, rfl, ?_⟩, ⟨_, rfl, ?_⟩, ⟨_, rfl, ?_⟩, trivial⟩
      · refine vl_callG [] (.v (.one (.hdr 20 0 _))) (c_impl_copyTexts l[i].parts hp) rfl rfl ⟨XOk.shc _ _, trivial⟩ trivial rfl (by decide) ⟨fix_clo _ _, trivial⟩ trivial rfl (.inr ⟨rfl, ⟨nzN_map strC_noZ, trivial⟩, trivial⟩) (dk rfl) ?_
        refine vl_nil ?_
        refine va_all [3, 5] (by kernel_rfl) (by simp) ⟨⟨_, rfl, ?_⟩, ⟨_, rfl, ?_⟩, trivial⟩
        · refine vl_bslice rfl rfl rfl rfl rfl rfl trivial (by decide) (by decide) (dk rfl) ?_
          refine vl_nil ?_
          refine va_all [5] (by kernel_rfl) (by simp) ⟨⟨_, rfl, ?_⟩, trivial⟩
          refine vl_load rfl rfl rfl rfl rfl rfl rfl (by decide) (dk rfl) ?_
          refine vl_nil ?_
          refine va_q 7 rfl (by kernel_rfl) (by kernel_rfl) (by kernel_rfl) (q_fieldAddr 3 rfl rfl rfl rfl (by decide) rfl rfl) (dk rfl) ?_
          refine va_all [6] (by kernel_rfl) (by simp) ⟨⟨_, rfl, ?_⟩, trivial⟩
          refine vl_append rfl rfl rfl rfl (fun _ h => TypeDesc.noConfusion h) rfl rfl rfl (Nat.le_refl _) (src_sh rfl rfl (map_wid fun _ => rfl)) (by simp only [List.length_map]; show _ * 1 ≤ _; omega) (by simp only [List.length_map]; omega) (dk rfl) ?_
          simp only [List.drop_nil, List.take_nil, List.nil_append, List.length_map, Nat.zero_add]
          refine vl_nil ?_
          refine va_all [8] (by kernel_rfl) (by simp) ⟨⟨_, rfl, ?_⟩, trivial⟩
          refine vl_store rfl rfl rfl rfl rfl rfl (Nat.le_of_ble_eq_true rfl) trivial ?_
          refine vl_nil ?_
          refine va_q 9 rfl (by kernel_rfl) (by kernel_rfl) (by kernel_rfl) (q_fieldAddr 4 rfl rfl rfl rfl (by decide) rfl rfl) (dk rfl) ?_
          refine va_all [10] (by kernel_rfl) (by simp) ⟨⟨_, rfl, ?_⟩, trivial⟩
          refine vl_store rfl rfl rfl rfl rfl rfl (Nat.le_of_ble_eq_true rfl) trivial ?_
          refine vl_nil ?_
          refine va_done (by kernel_rfl) ?_
          refine hK9 _ ?_
          refine vc_region ?_
          refine vl_q (q_fieldAddr 0 rfl rfl rfl rfl (by decide) rfl rfl) (dk rfl) ?_
          refine vl_open (nm := 18) (i := 0) (j := 0) rfl rfl rfl rfl rfl rfl ?_
          simp only [List.length_map, List.length_take, Nat.min_eq_left hi]
          refine vl_load rfl rfl rfl rfl rfl rfl rfl (by decide) (dk rfl) ?_
          refine vl_load rfl rfl rfl rfl rfl rfl rfl (by decide) (dk rfl) ?_
          refine vl_bslice rfl rfl rfl rfl rfl rfl ⟨rfl, trivial⟩ (by decide) (by decide) (dk rfl) ?_
          refine vl_append rfl rfl rfl rfl (fun _ h => TypeDesc.noConfusion h) rfl rfl rfl (by rw [Nat.zero_add]; exact Nat.le_of_eq (by simp; omega)) (src_row rfl rfl rfl rfl) (by show (i + 1) * 80 ≤ _; omega) (by show i + 1 < _; omega) (dk rfl) ?_
          refine vl_q (q_fieldAddr 0 rfl rfl rfl rfl (by decide) rfl rfl) (dk rfl) ?_
          refine vl_store rfl rfl rfl rfl rfl rfl (Nat.le_of_ble_eq_true rfl) trivial ?_
          refine vl_nil ?_
          refine hK7 _ ?_
          refine vc_weak (Weak.node (m := 25) rfl (congrArg (Vm.Node.mk 6) (app_take (take_map_len (f := heldO) hi)))) ?_
          refine vc_weak (Weak.close1 (nm := 25) (i := i) (j := 3) (m := 20) (es := l[i].parts.map strC) rfl (app_get (take_map_len hi)) rfl rfl (by simp) (by decide)) ?_
          refine vc_weak (Weak.close1 (nm := 25) (i := i) (j := 4) (m := 22) (es := l[i].hav.map boolC) rfl (set_get (app_lt (take_map_len hi))) rfl rfl (by simp) (by decide)) ?_
          refine vc_weak (Weak.node (m := 25) (nd' := ⟨6, clo ((l.take (i + 1)).map heldO)⟩) rfl (congrArg (Vm.Node.mk 6) ((List.set_set _).trans ((app_set (take_map_len hi)).trans (clo_snoc.trans (congrArg clo (take_map_snoc (f := heldO) hil))))))) ?_
          refine vc_weak (Weak.close1 (nm := 18) (i := 0) (j := 0) (m := 25) (es := (l.take (i + 1)).map heldO) rfl rfl rfl rfl (by simp; omega) (by decide)) ?_
          refine vc_region ?_
          refine vl_q (q_add rfl rfl (IntWalk.i64_in _ (by omega))) (dk rfl) ?_
          refine vl_q (q_move rfl) (dk rfl) ?_
          refine vl_nil ?_
          refine ⟨_, _, ?_, ⟨i + 1, by omega, rfl, rfl⟩, (Weak.cut _ _ _ (Nat.le_of_ble_eq_true rfl) ⟨⟨rfl, rfl⟩, ⟨rfl, rfl⟩, ⟨rfl, rfl⟩, ⟨rfl, rfl⟩, ⟨rfl, rfl⟩, trivial⟩ ⟨⟨Nat.le_of_ble_eq_true rfl, rfl, belN_all rfl⟩, ⟨Nat.le_of_ble_eq_true rfl, rfl, belN_all rfl⟩, ⟨Nat.le_of_ble_eq_true rfl, rfl, belN_all rfl⟩, trivial⟩ rfl)⟩
          omega
        · refine vl_load rfl rfl rfl rfl rfl rfl rfl (by decide) (dk rfl) ?_
          refine vl_nil ?_
          refine va_q 7 rfl (by kernel_rfl) (by kernel_rfl) (by kernel_rfl) (q_fieldAddr 3 rfl rfl rfl rfl (by decide) rfl rfl) (dk rfl) ?_
          refine va_all [3] (by kernel_rfl) (by simp) ⟨⟨_, rfl, ?_⟩, trivial⟩
          refine vl_bslice rfl rfl rfl rfl rfl rfl trivial (by decide) (by decide) (dk rfl) ?_
          refine vl_nil ?_
          refine va_all [6] (by kernel_rfl) (by simp) ⟨⟨_, rfl, ?_⟩, trivial⟩
          refine vl_append rfl rfl rfl rfl (fun _ h => TypeDesc.noConfusion h) rfl rfl rfl (Nat.le_refl _) (src_sh rfl rfl (map_wid fun _ => rfl)) (by simp only [List.length_map]; show _ * 1 ≤ _; omega) (by simp only [List.length_map]; omega) (dk rfl) ?_
          simp only [List.drop_nil, List.take_nil, List.nil_append, List.length_map, Nat.zero_add]
          refine vl_nil ?_
          refine va_all [8] (by kernel_rfl) (by simp) ⟨⟨_, rfl, ?_⟩, trivial⟩
          refine vl_store rfl rfl rfl rfl rfl rfl (Nat.le_of_ble_eq_true rfl) trivial ?_
          refine vl_nil ?_
          refine va_q 9 rfl (by kernel_rfl) (by kernel_rfl) (by kernel_rfl) (q_fieldAddr 4 rfl rfl rfl rfl (by decide) rfl rfl) (dk rfl) ?_
          refine va_all [10] (by kernel_rfl) (by simp) ⟨⟨_, rfl, ?_⟩, trivial⟩
          refine vl_store rfl rfl rfl rfl rfl rfl (Nat.le_of_ble_eq_true rfl) trivial ?_
          refine vl_nil ?_
          refine va_done (by kernel_rfl) ?_
          refine hK9 _ ?_
          refine vc_region ?_
          refine vl_q (q_fieldAddr 0 rfl rfl rfl rfl (by decide) rfl rfl) (dk rfl) ?_
          refine vl_open (nm := 18) (i := 0) (j := 0) rfl rfl rfl rfl rfl rfl ?_
          simp only [List.length_map, List.length_take, Nat.min_eq_left hi]
          refine vl_load rfl rfl rfl rfl rfl rfl rfl (by decide) (dk rfl) ?_
          refine vl_load rfl rfl rfl rfl rfl rfl rfl (by decide) (dk rfl) ?_
          refine vl_bslice rfl rfl rfl rfl rfl rfl ⟨rfl, trivial⟩ (by decide) (by decide) (dk rfl) ?_
          refine vl_append rfl rfl rfl rfl (fun _ h => TypeDesc.noConfusion h) rfl rfl rfl (by rw [Nat.zero_add]; exact Nat.le_of_eq (by simp; omega)) (src_row rfl rfl rfl rfl) (by show (i + 1) * 80 ≤ _; omega) (by show i + 1 < _; omega) (dk rfl) ?_
          refine vl_q (q_fieldAddr 0 rfl rfl rfl rfl (by decide) rfl rfl) (dk rfl) ?_
          refine vl_store rfl rfl rfl rfl rfl rfl (Nat.le_of_ble_eq_true rfl) trivial ?_
          refine vl_nil ?_
          refine hK7 _ ?_
          refine vc_weak (Weak.node (m := 25) rfl (congrArg (Vm.Node.mk 6) (app_take (take_map_len (f := heldO) hi)))) ?_
          refine vc_weak (Weak.close1 (nm := 25) (i := i) (j := 3) (m := 20) (es := l[i].parts.map strC) rfl (app_get (take_map_len hi)) rfl rfl (by simp) (by decide)) ?_
          refine vc_weak (Weak.close1 (nm := 25) (i := i) (j := 4) (m := 22) (es := l[i].hav.map boolC) rfl (set_get (app_lt (take_map_len hi))) rfl rfl (by simp) (by decide)) ?_
          refine vc_weak (Weak.node (m := 25) (nd' := ⟨6, clo ((l.take (i + 1)).map heldO)⟩) rfl (congrArg (Vm.Node.mk 6) ((List.set_set _).trans ((app_set (take_map_len hi)).trans (clo_snoc.trans (congrArg clo (take_map_snoc (f := heldO) hil))))))) ?_
          refine vc_weak (Weak.close1 (nm := 18) (i := 0) (j := 0) (m := 25) (es := (l.take (i + 1)).map heldO) rfl rfl rfl rfl (by simp; omega) (by decide)) ?_
          refine vc_region ?_
          refine vl_q (q_add rfl rfl (IntWalk.i64_in _ (by omega))) (dk rfl) ?_
          refine vl_q (q_move rfl) (dk rfl) ?_
          refine vl_nil ?_
          refine ⟨_, _, ?_, ⟨i + 1, by omega, rfl, rfl⟩, (Weak.cut _ _ _ (Nat.le_of_ble_eq_true rfl) ⟨⟨rfl, rfl⟩, ⟨rfl, rfl⟩, ⟨rfl, rfl⟩, ⟨rfl, rfl⟩, ⟨rfl, rfl⟩, trivial⟩ ⟨⟨Nat.le_of_ble_eq_true rfl, rfl, belN_all rfl⟩, ⟨Nat.le_of_ble_eq_true rfl, rfl, belN_all rfl⟩, ⟨Nat.le_of_ble_eq_true rfl, rfl, belN_all rfl⟩, trivial⟩ rfl)⟩
          omega
      · refine vl_bslice rfl rfl rfl rfl rfl rfl trivial (by decide) (by decide) (dk rfl) ?_
        refine vl_nil ?_
        refine va_all [2, 5] (by kernel_rfl) (by simp) ⟨⟨_, rfl, ?_⟩, ⟨_, rfl, ?_⟩, trivial⟩
        · refine vl_callG [] (.v (.one (.hdr 21 0 _))) (c_impl_copyTexts l[i].parts hp) rfl rfl ⟨XOk.shc _ _, trivial⟩ trivial rfl (by decide) ⟨fix_clo _ _, trivial⟩ trivial rfl (.inr ⟨rfl, ⟨nzN_map strC_noZ, trivial⟩, trivial⟩) (dk rfl) ?_
          refine vl_nil ?_
          refine va_all [5] (by kernel_rfl) (by simp) ⟨⟨_, rfl, ?_⟩, trivial⟩
          refine vl_load rfl rfl rfl rfl rfl rfl rfl (by decide) (dk rfl) ?_
          refine vl_nil ?_
          refine va_q 7 rfl (by kernel_rfl) (by kernel_rfl) (by kernel_rfl) (q_fieldAddr 3 rfl rfl rfl rfl (by decide) rfl rfl) (dk rfl) ?_
          refine va_all [6] (by kernel_rfl) (by simp) ⟨⟨_, rfl, ?_⟩, trivial⟩
          refine vl_append rfl rfl rfl rfl (fun _ h => TypeDesc.noConfusion h) rfl rfl rfl (Nat.le_refl _) (src_sh rfl rfl (map_wid fun _ => rfl)) (by simp only [List.length_map]; show _ * 1 ≤ _; omega) (by simp only [List.length_map]; omega) (dk rfl) ?_
          simp only [List.drop_nil, List.take_nil, List.nil_append, List.length_map, Nat.zero_add]
          refine vl_nil ?_
          refine va_all [8] (by kernel_rfl) (by simp) ⟨⟨_, rfl, ?_⟩, trivial⟩
          refine vl_store rfl rfl rfl rfl rfl rfl (Nat.le_of_ble_eq_true rfl) trivial ?_
          refine vl_nil ?_
          refine va_q 9 rfl (by kernel_rfl) (by kernel_rfl) (by kernel_rfl) (q_fieldAddr 4 rfl rfl rfl rfl (by decide) rfl rfl) (dk rfl) ?_
          refine va_all [10] (by kernel_rfl) (by simp) ⟨⟨_, rfl, ?_⟩, trivial⟩
          refine vl_store rfl rfl rfl rfl rfl rfl (Nat.le_of_ble_eq_true rfl) trivial ?_
          refine vl_nil ?_
          refine va_done (by kernel_rfl) ?_
          refine hK9 _ ?_
          refine vc_region ?_
          refine vl_q (q_fieldAddr 0 rfl rfl rfl rfl (by decide) rfl rfl) (dk rfl) ?_
          refine vl_open (nm := 18) (i := 0) (j := 0) rfl rfl rfl rfl rfl rfl ?_
          simp only [List.length_map, List.length_take, Nat.min_eq_left hi]
          refine vl_load rfl rfl rfl rfl rfl rfl rfl (by decide) (dk rfl) ?_
          refine vl_load rfl rfl rfl rfl rfl rfl rfl (by decide) (dk rfl) ?_
          refine vl_bslice rfl rfl rfl rfl rfl rfl ⟨rfl, trivial⟩ (by decide) (by decide) (dk rfl) ?_
          refine vl_append rfl rfl rfl rfl (fun _ h => TypeDesc.noConfusion h) rfl rfl rfl (by rw [Nat.zero_add]; exact Nat.le_of_eq (by simp; omega)) (src_row rfl rfl rfl rfl) (by show (i + 1) * 80 ≤ _; omega) (by show i + 1 < _; omega) (dk rfl) ?_
          refine vl_q (q_fieldAddr 0 rfl rfl rfl rfl (by decide) rfl rfl) (dk rfl) ?_
          refine vl_store rfl rfl rfl rfl rfl rfl (Nat.le_of_ble_eq_true rfl) trivial ?_
          refine vl_nil ?_
          refine hK7 _ ?_
          refine vc_weak (Weak.node (m := 25) rfl (congrArg (Vm.Node.mk 6) (app_take (take_map_len (f := heldO) hi)))) ?_
          refine vc_weak (Weak.close1 (nm := 25) (i := i) (j := 3) (m := 21) (es := l[i].parts.map strC) rfl (app_get (take_map_len hi)) rfl rfl (by simp) (by decide)) ?_
          refine vc_weak (Weak.close1 (nm := 25) (i := i) (j := 4) (m := 22) (es := l[i].hav.map boolC) rfl (set_get (app_lt (take_map_len hi))) rfl rfl (by simp) (by decide)) ?_
          refine vc_weak (Weak.node (m := 25) (nd' := ⟨6, clo ((l.take (i + 1)).map heldO)⟩) rfl (congrArg (Vm.Node.mk 6) ((List.set_set _).trans ((app_set (take_map_len hi)).trans (clo_snoc.trans (congrArg clo (take_map_snoc (f := heldO) hil))))))) ?_
          refine vc_weak (Weak.close1 (nm := 18) (i := 0) (j := 0) (m := 25) (es := (l.take (i + 1)).map heldO) rfl rfl rfl rfl (by simp; omega) (by decide)) ?_
          refine vc_region ?_
          refine vl_q (q_add rfl rfl (IntWalk.i64_in _ (by omega))) (dk rfl) ?_
          refine vl_q (q_move rfl) (dk rfl) ?_
          refine vl_nil ?_
          refine ⟨_, _, ?_, ⟨i + 1, by omega, rfl, rfl⟩, (Weak.cut _ _ _ (Nat.le_of_ble_eq_true rfl) ⟨⟨rfl, rfl⟩, ⟨rfl, rfl⟩, ⟨rfl, rfl⟩, ⟨rfl, rfl⟩, ⟨rfl, rfl⟩, trivial⟩ ⟨⟨Nat.le_of_ble_eq_true rfl, rfl, belN_all rfl⟩, ⟨Nat.le_of_ble_eq_true rfl, rfl, belN_all rfl⟩, ⟨Nat.le_of_ble_eq_true rfl, rfl, belN_all rfl⟩, trivial⟩ rfl)⟩
          omega
        · refine vl_load rfl rfl rfl rfl rfl rfl rfl (by decide) (dk rfl) ?_
          refine vl_nil ?_
          refine va_all [2] (by kernel_rfl) (by simp) ⟨⟨_, rfl, ?_⟩, trivial⟩
          refine vl_callG [] (.v (.one (.hdr 21 0 _))) (c_impl_copyTexts l[i].parts hp) rfl rfl ⟨XOk.shc _ _, trivial⟩ trivial rfl (by decide) ⟨fix_clo _ _, trivial⟩ trivial rfl (.inr ⟨rfl, ⟨nzN_map strC_noZ, trivial⟩, trivial⟩) (dk rfl) ?_
          refine vl_nil ?_
          refine va_q 7 rfl (by kernel_rfl) (by kernel_rfl) (by kernel_rfl) (q_fieldAddr 3 rfl rfl rfl rfl (by decide) rfl rfl) (dk rfl) ?_
          refine va_all [6] (by kernel_rfl) (by simp) ⟨⟨_, rfl, ?_⟩, trivial⟩
          refine vl_append rfl rfl rfl rfl (fun _ h => TypeDesc.noConfusion h) rfl rfl rfl (Nat.le_refl _) (src_sh rfl rfl (map_wid fun _ => rfl)) (by simp only [List.length_map]; show _ * 1 ≤ _; omega) (by simp only [List.length_map]; omega) (dk rfl) ?_
          simp only [List.drop_nil, List.take_nil, List.nil_append, List.length_map, Nat.zero_add]
          refine vl_nil ?_
          refine va_all [8] (by kernel_rfl) (by simp) ⟨⟨_, rfl, ?_⟩, trivial⟩
          refine vl_store rfl rfl rfl rfl rfl rfl (Nat.le_of_ble_eq_true rfl) trivial ?_
          refine vl_nil ?_
          refine va_q 9 rfl (by kernel_rfl) (by kernel_rfl) (by kernel_rfl) (q_fieldAddr 4 rfl rfl rfl rfl (by decide) rfl rfl) (dk rfl) ?_
          refine va_all [10] (by kernel_rfl) (by simp) ⟨⟨_, rfl, ?_⟩, trivial⟩
          refine vl_store rfl rfl rfl rfl rfl rfl (Nat.le_of_ble_eq_true rfl) trivial ?_
          refine vl_nil ?_
          refine va_done (by kernel_rfl) ?_
          refine hK9 _ ?_
          refine vc_region ?_
          refine vl_q (q_fieldAddr 0 rfl rfl rfl rfl (by decide) rfl rfl) (dk rfl) ?_
          refine vl_open (nm := 18) (i := 0) (j := 0) rfl rfl rfl rfl rfl rfl ?_
          simp only [List.length_map, List.length_take, Nat.min_eq_left hi]
          refine vl_load rfl rfl rfl rfl rfl rfl rfl (by decide) (dk rfl) ?_
          refine vl_load rfl rfl rfl rfl rfl rfl rfl (by decide) (dk rfl) ?_
          refine vl_bslice rfl rfl rfl rfl rfl rfl ⟨rfl, trivial⟩ (by decide) (by decide) (dk rfl) ?_
          refine vl_append rfl rfl rfl rfl (fun _ h => TypeDesc.noConfusion h) rfl rfl rfl (by rw [Nat.zero_add]; exact Nat.le_of_eq (by simp; omega)) (src_row rfl rfl rfl rfl) (by show (i + 1) * 80 ≤ _; omega) (by show i + 1 < _; omega) (dk rfl) ?_
          refine vl_q (q_fieldAddr 0 rfl rfl rfl rfl (by decide) rfl rfl) (dk rfl) ?_
          refine vl_store rfl rfl rfl rfl rfl rfl (Nat.le_of_ble_eq_true rfl) trivial ?_
          refine vl_nil ?_
          refine hK7 _ ?_
          refine vc_weak (Weak.node (m := 25) rfl (congrArg (Vm.Node.mk 6) (app_take (take_map_len (f := heldO) hi)))) ?_
          refine vc_weak (Weak.close1 (nm := 25) (i := i) (j := 3) (m := 21) (es := l[i].parts.map strC) rfl (app_get (take_map_len hi)) rfl rfl (by simp) (by decide)) ?_
          refine vc_weak (Weak.close1 (nm := 25) (i := i) (j := 4) (m := 22) (es := l[i].hav.map boolC) rfl (set_get (app_lt (take_map_len hi))) rfl rfl (by simp) (by decide)) ?_
          refine vc_weak (Weak.node (m := 25) (nd' := ⟨6, clo ((l.take (i + 1)).map heldO)⟩) rfl (congrArg (Vm.Node.mk 6) ((List.set_set _).trans ((app_set (take_map_len hi)).trans (clo_snoc.trans (congrArg clo (take_map_snoc (f := heldO) hil))))))) ?_
          refine vc_weak (Weak.close1 (nm := 18) (i := 0) (j := 0) (m := 25) (es := (l.take (i + 1)).map heldO) rfl rfl rfl rfl (by simp; omega) (by decide)) ?_
          refine vc_region ?_
          refine vl_q (q_add rfl rfl (IntWalk.i64_in _ (by omega))) (dk rfl) ?_
          refine vl_q (q_move rfl) (dk rfl) ?_
          refine vl_nil ?_
          refine ⟨_, _, ?_, ⟨i + 1, by omega, rfl, rfl⟩, (Weak.cut _ _ _ (Nat.le_of_ble_eq_true rfl) ⟨⟨rfl, rfl⟩, ⟨rfl, rfl⟩, ⟨rfl, rfl⟩, ⟨rfl, rfl⟩, ⟨rfl, rfl⟩, trivial⟩ ⟨⟨Nat.le_of_ble_eq_true rfl, rfl, belN_all rfl⟩, ⟨Nat.le_of_ble_eq_true rfl, rfl, belN_all rfl⟩, ⟨Nat.le_of_ble_eq_true rfl, rfl, belN_all rfl⟩, trivial⟩ rfl)⟩
          omega
      · refine vl_load rfl rfl rfl rfl rfl rfl rfl (by decide) (dk rfl) ?_
        refine vl_nil ?_
        refine va_all [2, 3] (by kernel_rfl) (by simp) ⟨⟨_, rfl, ?_⟩, ⟨_, rfl, ?_⟩, trivial⟩
        · refine vl_callG [] (.v (.one (.hdr 20 0 _))) (c_impl_copyTexts l[i].parts hp) rfl rfl ⟨XOk.shc _ _, trivial⟩ trivial rfl (by decide) ⟨fix_clo _ _, trivial⟩ trivial rfl (.inr ⟨rfl, ⟨nzN_map strC_noZ, trivial⟩, trivial⟩) (dk rfl) ?_
          refine vl_nil ?_
          refine va_q 7 rfl (by kernel_rfl) (by kernel_rfl) (by kernel_rfl) (q_fieldAddr 3 rfl rfl rfl rfl (by decide) rfl rfl) (dk rfl) ?_
          refine va_all [3] (by kernel_rfl) (by simp) ⟨⟨_, rfl, ?_⟩, trivial⟩
          refine vl_bslice rfl rfl rfl rfl rfl rfl trivial (by decide) (by decide) (dk rfl) ?_
          refine vl_nil ?_
          refine va_all [6] (by kernel_rfl) (by simp) ⟨⟨_, rfl, ?_⟩, trivial⟩
          refine vl_append rfl rfl rfl rfl (fun _ h => TypeDesc.noConfusion h) rfl rfl rfl (Nat.le_refl _) (src_sh rfl rfl (map_wid fun _ => rfl)) (by simp only [List.length_map]; show _ * 1 ≤ _; omega) (by simp only [List.length_map]; omega) (dk rfl) ?_
          simp only [List.drop_nil, List.take_nil, List.nil_append, List.length_map, Nat.zero_add]
          refine vl_nil ?_
          refine va_all [8] (by kernel_rfl) (by simp) ⟨⟨_, rfl, ?_⟩, trivial⟩
          refine vl_store rfl rfl rfl rfl rfl rfl (Nat.le_of_ble_eq_true rfl) trivial ?_
          refine vl_nil ?_
          refine va_q 9 rfl (by kernel_rfl) (by kernel_rfl) (by kernel_rfl) (q_fieldAddr 4 rfl rfl rfl rfl (by decide) rfl rfl) (dk rfl) ?_
          refine va_all [10] (by kernel_rfl) (by simp) ⟨⟨_, rfl, ?_⟩, trivial⟩
          refine vl_store rfl rfl rfl rfl rfl rfl (Nat.le_of_ble_eq_true rfl) trivial ?_
          refine vl_nil ?_
          refine va_done (by kernel_rfl) ?_
          refine hK9 _ ?_
          refine vc_region ?_
          refine vl_q (q_fieldAddr 0 rfl rfl rfl rfl (by decide) rfl rfl) (dk rfl) ?_
          refine vl_open (nm := 18) (i := 0) (j := 0) rfl rfl rfl rfl rfl rfl ?_
          simp only [List.length_map, List.length_take, Nat.min_eq_left hi]
          refine vl_load rfl rfl rfl rfl rfl rfl rfl (by decide) (dk rfl) ?_
          refine vl_load rfl rfl rfl rfl rfl rfl rfl (by decide) (dk rfl) ?_
          refine vl_bslice rfl rfl rfl rfl rfl rfl ⟨rfl, trivial⟩ (by decide) (by decide) (dk rfl) ?_
          refine vl_append rfl rfl rfl rfl (fun _ h => TypeDesc.noConfusion h) rfl rfl rfl (by rw [Nat.zero_add]; exact Nat.le_of_eq (by simp; omega)) (src_row rfl rfl rfl rfl) (by show (i + 1) * 80 ≤ _; omega) (by show i + 1 < _; omega) (dk rfl) ?_
          refine vl_q (q_fieldAddr 0 rfl rfl rfl rfl (by decide) rfl rfl) (dk rfl) ?_
          refine vl_store rfl rfl rfl rfl rfl rfl (Nat.le_of_ble_eq_true rfl) trivial ?_
          refine vl_nil ?_
          refine hK7 _ ?_
          refine vc_weak (Weak.node (m := 25) rfl (congrArg (Vm.Node.mk 6) (app_take (take_map_len (f := heldO) hi)))) ?_
          refine vc_weak (Weak.close1 (nm := 25) (i := i) (j := 3) (m := 20) (es := l[i].parts.map strC) rfl (app_get (take_map_len hi)) rfl rfl (by simp) (by decide)) ?_
          refine vc_weak (Weak.close1 (nm := 25) (i := i) (j := 4) (m := 22) (es := l[i].hav.map boolC) rfl (set_get (app_lt (take_map_len hi))) rfl rfl (by simp) (by decide)) ?_
          refine vc_weak (Weak.node (m := 25) (nd' := ⟨6, clo ((l.take (i + 1)).map heldO)⟩) rfl (congrArg (Vm.Node.mk 6) ((List.set_set _).trans ((app_set (take_map_len hi)).trans (clo_snoc.trans (congrArg clo (take_map_snoc (f := heldO) hil))))))) ?_
          refine vc_weak (Weak.close1 (nm := 18) (i := 0) (j := 0) (m := 25) (es := (l.take (i + 1)).map heldO) rfl rfl rfl rfl (by simp; omega) (by decide)) ?_
          refine vc_region ?_
          refine vl_q (q_add rfl rfl (IntWalk.i64_in _ (by omega))) (dk rfl) ?_
          refine vl_q (q_move rfl) (dk rfl) ?_
          refine vl_nil ?_
          refine ⟨_, _, ?_, ⟨i + 1, by omega, rfl, rfl⟩, (Weak.cut _ _ _ (Nat.le_of_ble_eq_true rfl) ⟨⟨rfl, rfl⟩, ⟨rfl, rfl⟩, ⟨rfl, rfl⟩, ⟨rfl, rfl⟩, ⟨rfl, rfl⟩, trivial⟩ ⟨⟨Nat.le_of_ble_eq_true rfl, rfl, belN_all rfl⟩, ⟨Nat.le_of_ble_eq_true rfl, rfl, belN_all rfl⟩, ⟨Nat.le_of_ble_eq_true rfl, rfl, belN_all rfl⟩, trivial⟩ rfl)⟩
          omega
        · refine vl_bslice rfl rfl rfl rfl rfl rfl trivial (by decide) (by decide) (dk rfl) ?_
          refine vl_nil ?_
          refine va_all [2] (by kernel_rfl) (by simp) ⟨⟨_, rfl, ?_⟩, trivial⟩
          refine vl_callG [] (.v (.one (.hdr 21 0 _))) (c_impl_copyTexts l[i].parts hp) rfl rfl ⟨XOk.shc _ _, trivial⟩ trivial rfl (by decide) ⟨fix_clo _ _, trivial⟩ trivial rfl (.inr ⟨rfl, ⟨nzN_map strC_noZ, trivial⟩, trivial⟩) (dk rfl) ?_
          refine vl_nil ?_
          refine va_q 7 rfl (by kernel_rfl) (by kernel_rfl) (by kernel_rfl) (q_fieldAddr 3 rfl rfl rfl rfl (by decide) rfl rfl) (dk rfl) ?_
          refine va_all [6] (by kernel_rfl) (by simp) ⟨⟨_, rfl, ?_⟩, trivial⟩
          refine vl_append rfl rfl rfl rfl (fun _ h => TypeDesc.noConfusion h) rfl rfl rfl (Nat.le_refl _) (src_sh rfl rfl (map_wid fun _ => rfl)) (by simp only [List.length_map]; show _ * 1 ≤ _; omega) (by simp only [List.length_map]; omega) (dk rfl) ?_
          simp only [List.drop_nil, List.take_nil, List.nil_append, List.length_map, Nat.zero_add]
          refine vl_nil ?_
          refine va_all [8] (by kernel_rfl) (by simp) ⟨⟨_, rfl, ?_⟩, trivial⟩
          refine vl_store rfl rfl rfl rfl rfl rfl (Nat.le_of_ble_eq_true rfl) trivial ?_
          refine vl_nil ?_
          refine va_q 9 rfl (by kernel_rfl) (by kernel_rfl) (by kernel_rfl) (q_fieldAddr 4 rfl rfl rfl rfl (by decide) rfl rfl) (dk rfl) ?_
          refine va_all [10] (by kernel_rfl) (by simp) ⟨⟨_, rfl, ?_⟩, trivial⟩
          refine vl_store rfl rfl rfl rfl rfl rfl (Nat.le_of_ble_eq_true rfl) trivial ?_
          refine vl_nil ?_
          refine va_done (by kernel_rfl) ?_
          refine hK9 _ ?_
          refine vc_region ?_
          refine vl_q (q_fieldAddr 0 rfl rfl rfl rfl (by decide) rfl rfl) (dk rfl) ?_
          refine vl_open (nm := 18) (i := 0) (j := 0) rfl rfl rfl rfl rfl rfl ?_
          simp only [List.length_map, List.length_take, Nat.min_eq_left hi]
          refine vl_load rfl rfl rfl rfl rfl rfl rfl (by decide) (dk rfl) ?_
          refine vl_load rfl rfl rfl rfl rfl rfl rfl (by decide) (dk rfl) ?_
          refine vl_bslice rfl rfl rfl rfl rfl rfl ⟨rfl, trivial⟩ (by decide) (by decide) (dk rfl) ?_
          refine vl_append rfl rfl rfl rfl (fun _ h => TypeDesc.noConfusion h) rfl rfl rfl (by rw [Nat.zero_add]; exact Nat.le_of_eq (by simp; omega)) (src_row rfl rfl rfl rfl) (by show (i + 1) * 80 ≤ _; omega) (by show i + 1 < _; omega) (dk rfl) ?_
          refine vl_q (q_fieldAddr 0 rfl rfl rfl rfl (by decide) rfl rfl) (dk rfl) ?_
          refine vl_store rfl rfl rfl rfl rfl rfl (Nat.le_of_ble_eq_true rfl) trivial ?_
          refine vl_nil ?_
          refine hK7 _ ?_
          refine vc_weak (Weak.node (m := 25) rfl (congrArg (Vm.Node.mk 6) (app_take (take_map_len (f := heldO) hi)))) ?_
          refine vc_weak (Weak.close1 (nm := 25) (i := i) (j := 3) (m := 21) (es := l[i].parts.map strC) rfl (app_get (take_map_len hi)) rfl rfl (by simp) (by decide)) ?_
          refine vc_weak (Weak.close1 (nm := 25) (i := i) (j := 4) (m := 22) (es := l[i].hav.map boolC) rfl (set_get (app_lt (take_map_len hi))) rfl rfl (by simp) (by decide)) ?_
          refine vc_weak (Weak.node (m := 25) (nd' := ⟨6, clo ((l.take (i + 1)).map heldO)⟩) rfl (congrArg (Vm.Node.mk 6) ((List.set_set _).trans ((app_set (take_map_len hi)).trans (clo_snoc.trans (congrArg clo (take_map_snoc (f := heldO) hil))))))) ?_
          refine vc_weak (Weak.close1 (nm := 18) (i := 0) (j := 0) (m := 25) (es := (l.take (i + 1)).map heldO) rfl rfl rfl rfl (by simp; omega) (by decide)) ?_
          refine vc_region ?_
          refine vl_q (q_add rfl rfl (IntWalk.i64_in _ (by omega))) (dk rfl) ?_
          refine vl_q (q_move rfl) (dk rfl) ?_
          refine vl_nil ?_
          refine ⟨_, _, ?_, ⟨i + 1, by omega, rfl, rfl⟩, (Weak.cut _ _ _ (Nat.le_of_ble_eq_true rfl) ⟨⟨rfl, rfl⟩, ⟨rfl, rfl⟩, ⟨rfl, rfl⟩, ⟨rfl, rfl⟩, ⟨rfl, rfl⟩, trivial⟩ ⟨⟨Nat.le_of_ble_eq_true rfl, rfl, belN_all rfl⟩, ⟨Nat.le_of_ble_eq_true rfl, rfl, belN_all rfl⟩, ⟨Nat.le_of_ble_eq_true rfl, rfl, belN_all rfl⟩, trivial⟩ rfl)⟩
          omega
    · refine vl_bslice rfl rfl rfl rfl rfl rfl trivial (by decide) (by decide) (dk rfl) ?_
      refine vl_nil ?_
      refine va_all [1, 5] (by kernel_rfl) (by simp) ⟨⟨_, rfl, ?_⟩, ⟨_, rfl, ?_⟩, trivial⟩
      · refine vl_load rfl rfl rfl rfl rfl rfl rfl (by decide) (dk rfl) ?_
        refine vl_nil ?_
        refine va_all [2, 5] (by kernel_rfl) (by simp) ⟨⟨_, rfl, ?_⟩, ⟨_, rfl, ?_⟩, trivial⟩
        · refine vl_callG [] (.v (.one (.hdr 21 0 _))) (c_impl_copyTexts l[i].parts hp) rfl rfl ⟨XOk.shc _ _, trivial⟩ trivial rfl (by decide) ⟨fix_clo _ _, trivial⟩ trivial rfl (.inr ⟨rfl, ⟨nzN_map strC_noZ, trivial⟩, trivial⟩) (dk rfl) ?_
          refine vl_nil ?_
          refine va_all [5] (by kernel_rfl) (by simp) ⟨⟨_, rfl, ?_⟩, trivial⟩
          refine vl_load rfl rfl rfl rfl rfl rfl rfl (by decide) (dk rfl) ?_
          refine vl_nil ?_
          refine va_q 7 rfl (by kernel_rfl) (by kernel_rfl) (by kernel_rfl) (q_fieldAddr 3 rfl rfl rfl rfl (by decide) rfl rfl) (dk rfl) ?_
          refine va_all [6] (by kernel_rfl) (by simp) ⟨⟨_, rfl, ?_⟩, trivial⟩
          refine vl_append rfl rfl rfl rfl (fun _ h => TypeDesc.noConfusion h) rfl rfl rfl (Nat.le_refl _) (src_sh rfl rfl (map_wid fun _ => rfl)) (by simp only [List.length_map]; show _ * 1 ≤ _; omega) (by simp only [List.length_map]; omega) (dk rfl) ?_
          simp only [List.drop_nil, List.take_nil, List.nil_append, List.length_map, Nat.zero_add]
          refine vl_nil ?_
          refine va_all [8] (by kernel_rfl) (by simp) ⟨⟨_, rfl, ?_⟩, trivial⟩
          refine vl_store rfl rfl rfl rfl rfl rfl (Nat.le_of_ble_eq_true rfl) trivial ?_
          refine vl_nil ?_
          refine va_q 9 rfl (by kernel_rfl) (by kernel_rfl) (by kernel_rfl) (q_fieldAddr 4 rfl rfl rfl rfl (by decide) rfl rfl) (dk rfl) ?_
          refine va_all [10] (by kernel_rfl) (by simp) ⟨⟨_, rfl, ?_⟩, trivial⟩
          refine vl_store rfl rfl rfl rfl rfl rfl (Nat.le_of_ble_eq_true rfl) trivial ?_
          refine vl_nil ?_
          refine va_done (by kernel_rfl) ?_
          refine hK9 _ ?_
          refine vc_region ?_
          refine vl_q (q_fieldAddr 0 rfl rfl rfl rfl (by decide) rfl rfl) (dk rfl) ?_
          refine vl_open (nm := 18) (i := 0) (j := 0) rfl rfl rfl rfl rfl rfl ?_
          simp only [List.length_map, List.length_take, Nat.min_eq_left hi]
          refine vl_load rfl rfl rfl rfl rfl rfl rfl (by decide) (dk rfl) ?_
          refine vl_load rfl rfl rfl rfl rfl rfl rfl (by decide) (dk rfl) ?_
          refine vl_bslice rfl rfl rfl rfl rfl rfl ⟨rfl, trivial⟩ (by decide) (by decide) (dk rfl) ?_
          refine vl_append rfl rfl rfl rfl (fun _ h => TypeDesc.noConfusion h) rfl rfl rfl (by rw [Nat.zero_add]; exact Nat.le_of_eq (by simp; omega)) (src_row rfl rfl rfl rfl) (by show (i + 1) * 80 ≤ _; omega) (by show i + 1 < _; omega) (dk rfl) ?_
          refine vl_q (q_fieldAddr 0 rfl rfl rfl rfl (by decide) rfl rfl) (dk rfl) ?_
          refine vl_store rfl rfl rfl rfl rfl rfl (Nat.le_of_ble_eq_true rfl) trivial ?_
          refine vl_nil ?_
          refine hK7 _ ?_
          refine vc_weak (Weak.node (m := 25) rfl (congrArg (Vm.Node.mk 6) (app_take (take_map_len (f := heldO) hi)))) ?_
          refine vc_weak (Weak.close1 (nm := 25) (i := i) (j := 3) (m := 21) (es := l[i].parts.map strC) rfl (app_get (take_map_len hi)) rfl rfl (by simp) (by decide)) ?_
          refine vc_weak (Weak.close1 (nm := 25) (i := i) (j := 4) (m := 22) (es := l[i].hav.map boolC) rfl (set_get (app_lt (take_map_len hi))) rfl rfl (by simp) (by decide)) ?_
          refine vc_weak (Weak.node (m := 25) (nd' := ⟨6, clo ((l.take (i + 1)).map heldO)⟩) rfl (congrArg (Vm.Node.mk 6) ((List.set_set _).trans ((app_set (take_map_len hi)).trans (clo_snoc.trans (congrArg clo (take_map_snoc (f := heldO) hil))))))) ?_
          refine vc_weak (Weak.close1 (nm := 18) (i := 0) (j := 0) (m := 25) (es := (l.take (i + 1)).map heldO) rfl rfl rfl rfl (by simp; omega) (by decide)) ?_
          refine vc_region ?_
          refine vl_q (q_add rfl rfl (IntWalk.i64_in _ (by omega))) (dk rfl) ?_
          refine vl_q (q_move rfl) (dk rfl) ?_
          refine vl_nil ?_
          refine ⟨_, _, ?_, ⟨i + 1, by omega, rfl, rfl⟩, (Weak.cut _ _ _ (Nat.le_of_ble_eq_true rfl) ⟨⟨rfl, rfl⟩, ⟨rfl, rfl⟩, ⟨rfl, rfl⟩, ⟨rfl, rfl⟩, ⟨rfl, rfl⟩, trivial⟩ ⟨⟨Nat.le_of_ble_eq_true rfl, rfl, belN_all rfl⟩, ⟨Nat.le_of_ble_eq_true rfl, rfl, belN_all rfl⟩, ⟨Nat.le_of_ble_eq_true rfl, rfl, belN_all rfl⟩, trivial⟩ rfl)⟩
          omega
        · refine vl_load rfl rfl rfl rfl rfl rfl rfl (by decide) (dk rfl) ?_
          refine vl_nil ?_
          refine va_all [2] (by kernel_rfl) (by simp) ⟨⟨_, rfl, ?_⟩, trivial⟩
          refine vl_callG [] (.v (.one (.hdr 21 0 _))) (c_impl_copyTexts l[i].parts hp) rfl rfl ⟨XOk.shc _ _, trivial⟩ trivial rfl (by decide) ⟨fix_clo _ _, trivial⟩ trivial rfl (.inr ⟨rfl, ⟨nzN_map strC_noZ, trivial⟩, trivial⟩) (dk rfl) ?_
          refine vl_nil ?_
          refine va_q 7 rfl (by kernel_rfl) (by kernel_rfl) (by kernel_rfl) (q_fieldAddr 3 rfl rfl rfl rfl (by decide) rfl rfl) (dk rfl) ?_
          refine va_all [6] (by kernel_rfl) (by simp) ⟨⟨_, rfl, ?_⟩, trivial⟩
          refine vl_append rfl rfl rfl rfl (fun _ h => TypeDesc.noConfusion h) rfl rfl rfl (Nat.le_refl _) (src_sh rfl rfl (map_wid fun _ => rfl)) (by simp only [List.length_map]; show _ * 1 ≤ _; omega) (by simp only [List.length_map]; omega) (dk rfl) ?_
          simp only [List.drop_nil, List.take_nil, List.nil_append, List.length_map, Nat.zero_add]
          refine vl_nil ?_
          refine va_all [8] (by kernel_rfl) (by simp) ⟨⟨_, rfl, ?_⟩, trivial⟩
          refine vl_store rfl rfl rfl rfl rfl rfl (Nat.le_of_ble_eq_true rfl) trivial ?_
          refine vl_nil ?_
          refine va_q 9 rfl (by kernel_rfl) (by kernel_rfl) (by kernel_rfl) (q_fieldAddr 4 rfl rfl rfl rfl (by decide) rfl rfl) (dk rfl) ?_
          refine va_all [10] (by kernel_rfl) (by simp) ⟨⟨_, rfl, ?_⟩, trivial⟩
          refine vl_store rfl rfl rfl rfl rfl rfl (Nat.le_of_ble_eq_true rfl) trivial ?_
          refine vl_nil ?_
          refine va_done (by kernel_rfl) ?_
          refine hK9 _ ?_
          refine vc_region ?_
          refine vl_q (q_fieldAddr 0 rfl rfl rfl rfl (by decide) rfl rfl) (dk rfl) ?_
          refine vl_open (nm := 18) (i := 0) (j := 0) rfl rfl rfl rfl rfl rfl ?_
          simp only [List.length_map, List.length_take, Nat.min_eq_left hi]
          refine vl_load rfl rfl rfl rfl rfl rfl rfl (by decide) (dk rfl) ?_
          refine vl_load rfl rfl rfl rfl rfl rfl rfl (by decide) (dk rfl) ?_
          refine vl_bslice rfl rfl rfl rfl rfl rfl ⟨rfl, trivial⟩ (by decide) (by decide) (dk rfl) ?_
          refine vl_append rfl rfl rfl rfl (fun _ h => TypeDesc.noConfusion h) rfl rfl rfl (by rw [Nat.zero_add]; exact Nat.le_of_eq (by simp; omega)) (src_row rfl rfl rfl rfl) (by show (i + 1) * 80 ≤ _; omega) (by show i + 1 < _; omega) (dk rfl) ?_
          refine vl_q (q_fieldAddr 0 rfl rfl rfl rfl (by decide) rfl rfl) (dk rfl) ?_
          refine vl_store rfl rfl rfl rfl rfl rfl (Nat.le_of_ble_eq_true rfl) trivial ?_
          refine vl_nil ?_
          refine hK7 _ ?_
          refine vc_weak (Weak.node (m := 25) rfl (congrArg (Vm.Node.mk 6) (app_take (take_map_len (f := heldO) hi)))) ?_
          refine vc_weak (Weak.close1 (nm := 25) (i := i) (j := 3) (m := 21) (es := l[i].parts.map strC) rfl (app_get (take_map_len hi)) rfl rfl (by simp) (by decide)) ?_
          refine vc_weak (Weak.close1 (nm := 25) (i := i) (j := 4) (m := 22) (es := l[i].hav.map boolC) rfl (set_get (app_lt (take_map_len hi))) rfl rfl (by simp) (by decide)) ?_
          refine vc_weak (Weak.node (m := 25) (nd' := ⟨6, clo ((l.take (i + 1)).map heldO)⟩) rfl (congrArg (Vm.Node.mk 6) ((List.set_set _).trans ((app_set (take_map_len hi)).trans (clo_snoc.trans (congrArg clo (take_map_snoc (f := heldO) hil))))))) ?_
          refine vc_weak (Weak.close1 (nm := 18) (i := 0) (j := 0) (m := 25) (es := (l.take (i + 1)).map heldO) rfl rfl rfl rfl (by simp; omega) (by decide)) ?_
          refine vc_region ?_
          refine vl_q (q_add rfl rfl (IntWalk.i64_in _ (by omega))) (dk rfl) ?_
          refine vl_q (q_move rfl) (dk rfl) ?_
          refine vl_nil ?_
          refine ⟨_, _, ?_, ⟨i + 1, by omega, rfl, rfl⟩, (Weak.cut _ _ _ (Nat.le_of_ble_eq_true rfl) ⟨⟨rfl, rfl⟩, ⟨rfl, rfl⟩, ⟨rfl, rfl⟩, ⟨rfl, rfl⟩, ⟨rfl, rfl⟩, trivial⟩ ⟨⟨Nat.le_of_ble_eq_true rfl, rfl, belN_all rfl⟩, ⟨Nat.le_of_ble_eq_true rfl, rfl, belN_all rfl⟩, ⟨Nat.le_of_ble_eq_true rfl, rfl, belN_all rfl⟩, trivial⟩ rfl)⟩
          omega
      · refine vl_load rfl rfl rfl rfl rfl rfl rfl (by decide) (dk rfl) ?_
        refine vl_nil ?_
        refine va_all [1] (by kernel_rfl) (by simp) ⟨⟨_, rfl, ?_⟩, trivial⟩
        refine vl_load rfl rfl rfl rfl rfl rfl rfl (by decide) (dk rfl) ?_
        refine vl_nil ?_
        refine va_all [2] (by kernel_rfl) (by simp) ⟨⟨_, rfl, ?_⟩, trivial⟩
        refine vl_callG [] (.v (.one (.hdr 21 0 _))) (c_impl_copyTexts l[i].parts hp) rfl rfl ⟨XOk.shc _ _, trivial⟩ trivial rfl (by decide) ⟨fix_clo _ _, trivial⟩ trivial rfl (.inr ⟨rfl, ⟨nzN_map strC_noZ, trivial⟩, trivial⟩) (dk rfl) ?_
        refine vl_nil ?_
        refine va_q 7 rfl (by kernel_rfl) (by kernel_rfl) (by kernel_rfl) (q_fieldAddr 3 rfl rfl rfl rfl (by decide) rfl rfl) (dk rfl) ?_
        refine va_all [6] (by kernel_rfl) (by simp) ⟨⟨_, rfl, ?_⟩, trivial⟩
        refine vl_append rfl rfl rfl rfl (fun _ h => TypeDesc.noConfusion h) rfl rfl rfl (Nat.le_refl _) (src_sh rfl rfl (map_wid fun _ => rfl)) (by simp only [List.length_map]; show _ * 1 ≤ _; omega) (by simp only [List.length_map]; omega) (dk rfl) ?_
        simp only [List.drop_nil, List.take_nil, List.nil_append, List.length_map, Nat.zero_add]
        refine vl_nil ?_
        refine va_all [8] (by kernel_rfl) (by simp) ⟨⟨_, rfl, ?_⟩, trivial⟩
        refine vl_store rfl rfl rfl rfl rfl rfl (Nat.le_of_ble_eq_true rfl) trivial ?_
        refine vl_nil ?_
        refine va_q 9 rfl (by kernel_rfl) (by kernel_rfl) (by kernel_rfl) (q_fieldAddr 4 rfl rfl rfl rfl (by decide) rfl rfl) (dk rfl) ?_
        refine va_all [10] (by kernel_rfl) (by simp) ⟨⟨_, rfl, ?_⟩, trivial⟩
        refine vl_store rfl rfl rfl rfl rfl rfl (Nat.le_of_ble_eq_true rfl) trivial ?_
        refine vl_nil ?_
        refine va_done (by kernel_rfl) ?_
        refine hK9 _ ?_
        refine vc_region ?_
        refine vl_q (q_fieldAddr 0 rfl rfl rfl rfl (by decide) rfl rfl) (dk rfl) ?_
        refine vl_open (nm := 18) (i := 0) (j := 0) rfl rfl rfl rfl rfl rfl ?_
        simp only [List.length_map, List.length_take, Nat.min_eq_left hi]
        refine vl_load rfl rfl rfl rfl rfl rfl rfl (by decide) (dk rfl) ?_
        refine vl_load rfl rfl rfl rfl rfl rfl rfl (by decide) (dk rfl) ?_
        refine vl_bslice rfl rfl rfl rfl rfl rfl ⟨rfl, trivial⟩ (by decide) (by decide) (dk rfl) ?_
        refine vl_append rfl rfl rfl rfl (fun _ h => TypeDesc.noConfusion h) rfl rfl rfl (by rw [Nat.zero_add]; exact Nat.le_of_eq (by simp; omega)) (src_row rfl rfl rfl rfl) (by show (i + 1) * 80 ≤ _; omega) (by show i + 1 < _; omega) (dk rfl) ?_
        refine vl_q (q_fieldAddr 0 rfl rfl rfl rfl (by decide) rfl rfl) (dk rfl) ?_
        refine vl_store rfl rfl rfl rfl rfl rfl (Nat.le_of_ble_eq_true rfl) trivial ?_
        refine vl_nil ?_
        refine hK7 _ ?_
        refine vc_weak (Weak.node (m := 25) rfl (congrArg (Vm.Node.mk 6) (app_take (take_map_len (f := heldO) hi)))) ?_
        refine vc_weak (Weak.close1 (nm := 25) (i := i) (j := 3) (m := 21) (es := l[i].parts.map strC) rfl (app_get (take_map_len hi)) rfl rfl (by simp) (by decide)) ?_
        refine vc_weak (Weak.close1 (nm := 25) (i := i) (j := 4) (m := 22) (es := l[i].hav.map boolC) rfl (set_get (app_lt (take_map_len hi))) rfl rfl (by simp) (by decide)) ?_
        refine vc_weak (Weak.node (m := 25) (nd' := ⟨6, clo ((l.take (i + 1)).map heldO)⟩) rfl (congrArg (Vm.Node.mk 6) ((List.set_set _).trans ((app_set (take_map_len hi)).trans (clo_snoc.trans (congrArg clo (take_map_snoc (f := heldO) hil))))))) ?_
        refine vc_weak (Weak.close1 (nm := 18) (i := 0) (j := 0) (m := 25) (es := (l.take (i + 1)).map heldO) rfl rfl rfl rfl (by simp; omega) (by decide)) ?_
        refine vc_region ?_
        refine vl_q (q_add rfl rfl (IntWalk.i64_in _ (by omega))) (dk rfl) ?_
        refine vl_q (q_move rfl) (dk rfl) ?_
        refine vl_nil ?_
        refine ⟨_, _, ?_, ⟨i + 1, by omega, rfl, rfl⟩, (Weak.cut _ _ _ (Nat.le_of_ble_eq_true rfl) ⟨⟨rfl, rfl⟩, ⟨rfl, rfl⟩, ⟨rfl, rfl⟩, ⟨rfl, rfl⟩, ⟨rfl, rfl⟩, trivial⟩ ⟨⟨Nat.le_of_ble_eq_true rfl, rfl, belN_all rfl⟩, ⟨Nat.le_of_ble_eq_true rfl, rfl, belN_all rfl⟩, ⟨Nat.le_of_ble_eq_true rfl, rfl, belN_all rfl⟩, trivial⟩ rfl)⟩
        omega
    · refine vl_load rfl rfl rfl rfl rfl rfl rfl (by decide) (dk rfl) ?_
      refine vl_nil ?_
      refine va_all [1, 3] (by kernel_rfl) (by simp) ⟨⟨_, rfl, ?_⟩, ⟨_, rfl, ?_⟩, trivial⟩
      · refine vl_load rfl rfl rfl rfl rfl rfl rfl (by decide) (dk rfl) ?_
        refine vl_nil ?_
        refine va_all [2, 3] (by kernel_rfl) (by simp) ⟨⟨_, rfl, ?_⟩, ⟨_, rfl, ?_⟩, trivial⟩
        · refine vl_callG [] (.v (.one (.hdr 20 0 _))) (c_impl_copyTexts l[i].parts hp) rfl rfl ⟨XOk.shc _ _, trivial⟩ trivial rfl (by decide) ⟨fix_clo _ _, trivial⟩ trivial rfl (.inr ⟨rfl, ⟨nzN_map strC_noZ, trivial⟩, trivial⟩) (dk rfl) ?_
          refine vl_nil ?_
          refine va_q 7 rfl (by kernel_rfl) (by kernel_rfl) (by kernel_rfl) (q_fieldAddr 3 rfl rfl rfl rfl (by decide) rfl rfl) (dk rfl) ?_
          refine va_all [3] (by kernel_rfl) (by simp) ⟨⟨_, rfl, ?_⟩, trivial⟩
          refine vl_bslice rfl rfl rfl rfl rfl rfl trivial (by decide) (by decide) (dk rfl) ?_
          refine vl_nil ?_
          refine va_all [6] (by kernel_rfl) (by simp) ⟨⟨_, rfl, ?_⟩, trivial⟩
          refine vl_append rfl rfl rfl rfl (fun _ h => TypeDesc.noConfusion h) rfl rfl rfl (Nat.le_refl _) (src_sh rfl rfl (map_wid fun _ => rfl)) (by simp only [List.length_map]; show _ * 1 ≤ _; omega) (by simp only [List.length_map]; omega) (dk rfl) ?_
          simp only [List.drop_nil, List.take_nil, List.nil_append, List.length_map, Nat.zero_add]
          refine vl_nil ?_
          refine va_all [8] (by kernel_rfl) (by simp) ⟨⟨_, rfl, ?_⟩, trivial⟩
          refine vl_store rfl rfl rfl rfl rfl rfl (Nat.le_of_ble_eq_true rfl) trivial ?_
          refine vl_nil ?_
          refine va_q 9 rfl (by kernel_rfl) (by kernel_rfl) (by kernel_rfl) (q_fieldAddr 4 rfl rfl rfl rfl (by decide) rfl rfl) (dk rfl) ?_
          refine va_all [10] (by kernel_rfl) (by simp) ⟨⟨_, rfl, ?_⟩, trivial⟩
          refine vl_store rfl rfl rfl rfl rfl rfl (Nat.le_of_ble_eq_true rfl) trivial ?_
          refine vl_nil ?_
          refine va_done (by kernel_rfl) ?_
          refine hK9 _ ?_
          refine vc_region ?_
          refine vl_q (q_fieldAddr 0 rfl rfl rfl rfl (by decide) rfl rfl) (dk rfl) ?_
          refine vl_open (nm := 18) (i := 0) (j := 0) rfl rfl rfl rfl rfl rfl ?_
          simp only [List.length_map, List.length_take, Nat.min_eq_left hi]
          refine vl_load rfl rfl rfl rfl rfl rfl rfl (by decide) (dk rfl) ?_
          refine vl_load rfl rfl rfl rfl rfl rfl rfl (by decide) (dk rfl) ?_
          refine vl_bslice rfl rfl rfl rfl rfl rfl ⟨rfl, trivial⟩ (by decide) (by decide) (dk rfl) ?_
          refine vl_append rfl rfl rfl rfl (fun _ h => TypeDesc.noConfusion h) rfl rfl rfl (by rw [Nat.zero_add]; exact Nat.le_of_eq (by simp; omega)) (src_row rfl rfl rfl rfl) (by show (i + 1) * 80 ≤ _; omega) (by show i + 1 < _; omega) (dk rfl) ?_
          refine vl_q (q_fieldAddr 0 rfl rfl rfl rfl (by decide) rfl rfl) (dk rfl) ?_
          refine vl_store rfl rfl rfl rfl rfl rfl (Nat.le_of_ble_eq_true rfl) trivial ?_
          refine vl_nil ?_
          refine hK7 _ ?_
          refine vc_weak (Weak.node (m := 25) rfl (congrArg (Vm.Node.mk 6) (app_take (take_map_len (f := heldO) hi)))) ?_
          refine vc_weak (Weak.close1 (nm := 25) (i := i) (j := 3) (m := 20) (es := l[i].parts.map strC) rfl (app_get (take_map_len hi)) rfl rfl (by simp) (by decide)) ?_
          refine vc_weak (Weak.close1 (nm := 25) (i := i) (j := 4) (m := 22) (es := l[i].hav.map boolC) rfl (set_get (app_lt (take_map_len hi))) rfl rfl (by simp) (by decide)) ?_
          refine vc_weak (Weak.node (m := 25) (nd' := ⟨6, clo ((l.take (i + 1)).map heldO)⟩) rfl (congrArg (Vm.Node.mk 6) ((List.set_set _).trans ((app_set (take_map_len hi)).trans (clo_snoc.trans (congrArg clo (take_map_snoc (f := heldO) hil))))))) ?_
          refine vc_weak (Weak.close1 (nm := 18) (i := 0) (j := 0) (m := 25) (es := (l.take (i + 1)).map heldO) rfl rfl rfl rfl (by simp; omega) (by decide)) ?_
          refine vc_region ?_
          refine vl_q (q_add rfl rfl (IntWalk.i64_in _ (by omega))) (dk rfl) ?_
          refine vl_q (q_move rfl) (dk rfl) ?_
          refine vl_nil ?_
          refine ⟨_, _, ?_, ⟨i + 1, by omega, rfl, rfl⟩, (Weak.cut _ _ _ (Nat.le_of_ble_eq_true rfl) ⟨⟨rfl, rfl⟩, ⟨rfl, rfl⟩, ⟨rfl, rfl⟩, ⟨rfl, rfl⟩, ⟨rfl, rfl⟩, trivial⟩ ⟨⟨Nat.le_of_ble_eq_true rfl, rfl, belN_all rfl⟩, ⟨Nat.le_of_ble_eq_true rfl, rfl, belN_all rfl⟩, ⟨Nat.le_of_ble_eq_true rfl, rfl, belN_all rfl⟩, trivial⟩ rfl)⟩
          omega
        · refine vl_bslice rfl rfl rfl rfl rfl rfl trivial (by decide) (by decide) (dk rfl) ?_
          refine vl_nil ?_
          refine va_all [2] (by kernel_rfl) (by simp) ⟨⟨_, rfl, ?_⟩, trivial⟩
          refine vl_callG [] (.v (.one (.hdr 21 0 _))) (c_impl_copyTexts l[i].parts hp) rfl rfl ⟨XOk.shc _ _, trivial⟩ trivial rfl (by decide) ⟨fix_clo _ _, trivial⟩ trivial rfl (.inr ⟨rfl, ⟨nzN_map strC_noZ, trivial⟩, trivial⟩) (dk rfl) ?_
          refine vl_nil ?_
          refine va_q 7 rfl (by kernel_rfl) (by kernel_rfl) (by kernel_rfl) (q_fieldAddr 3 rfl rfl rfl rfl (by decide) rfl rfl) (dk rfl) ?_
          refine va_all [6] (by kernel_rfl) (by simp) ⟨⟨_, rfl, ?_⟩, trivial⟩
          refine vl_append rfl rfl rfl rfl (fun _ h => TypeDesc.noConfusion h) rfl rfl rfl (Nat.le_refl _) (src_sh rfl rfl (map_wid fun _ => rfl)) (by simp only [List.length_map]; show _ * 1 ≤ _; omega) (by simp only [List.length_map]; omega) (dk rfl) ?_
          simp only [List.drop_nil, List.take_nil, List.nil_append, List.length_map, Nat.zero_add]
          refine vl_nil ?_
          refine va_all [8] (by kernel_rfl) (by simp) ⟨⟨_, rfl, ?_⟩, trivial⟩
          refine vl_store rfl rfl rfl rfl rfl rfl (Nat.le_of_ble_eq_true rfl) trivial ?_
          refine vl_nil ?_
          refine va_q 9 rfl (by kernel_rfl) (by kernel_rfl) (by kernel_rfl) (q_fieldAddr 4 rfl rfl rfl rfl (by decide) rfl rfl) (dk rfl) ?_
          refine va_all [10] (by kernel_rfl) (by simp) ⟨⟨_, rfl, ?_⟩, trivial⟩
          refine vl_store rfl rfl rfl rfl rfl rfl (Nat.le_of_ble_eq_true rfl) trivial ?_
          refine vl_nil ?_
          refine va_done (by kernel_rfl) ?_
          refine hK9 _ ?_
          refine vc_region ?_
          refine vl_q (q_fieldAddr 0 rfl rfl rfl rfl (by decide) rfl rfl) (dk rfl) ?_
          refine vl_open (nm := 18) (i := 0) (j := 0) rfl rfl rfl rfl rfl rfl ?_
          simp only [List.length_map, List.length_take, Nat.min_eq_left hi]
          refine vl_load rfl rfl rfl rfl rfl rfl rfl (by decide) (dk rfl) ?_
          refine vl_load rfl rfl rfl rfl rfl rfl rfl (by decide) (dk rfl) ?_
          refine vl_bslice rfl rfl rfl rfl rfl rfl ⟨rfl, trivial⟩ (by decide) (by decide) (dk rfl) ?_
          refine vl_append rfl rfl rfl rfl (fun _ h => TypeDesc.noConfusion h) rfl rfl rfl (by rw [Nat.zero_add]; exact Nat.le_of_eq (by simp; omega)) (src_row rfl rfl rfl rfl) (by show (i + 1) * 80 ≤ _; omega) (by show i + 1 < _; omega) (dk rfl) ?_
          refine vl_q (q_fieldAddr 0 rfl rfl rfl rfl (by decide) rfl rfl) (dk rfl) ?_
          refine vl_store rfl rfl rfl rfl rfl rfl (Nat.le_of_ble_eq_true rfl) trivial ?_
          refine vl_nil ?_
          refine hK7 _ ?_
          refine vc_weak (Weak.node (m := 25) rfl (congrArg (Vm.Node.mk 6) (app_take (take_map_len (f := heldO) hi)))) ?_
          refine vc_weak (Weak.close1 (nm := 25) (i := i) (j := 3) (m := 21) (es := l[i].parts.map strC) rfl (app_get (take_map_len hi)) rfl rfl (by simp) (by decide)) ?_
          refine vc_weak (Weak.close1 (nm := 25) (i := i) (j := 4) (m := 22) (es := l[i].hav.map boolC) rfl (set_get (app_lt (take_map_len hi))) rfl rfl (by simp) (by decide)) ?_
          refine vc_weak (Weak.node (m := 25) (nd' := ⟨6, clo ((l.take (i + 1)).map heldO)⟩) rfl (congrArg (Vm.Node.mk 6) ((List.set_set _).trans ((app_set (take_map_len hi)).trans (clo_snoc.trans (congrArg clo (take_map_snoc (f := heldO) hil))))))) ?_
          refine vc_weak (Weak.close1 (nm := 18) (i := 0) (j := 0) (m := 25) (es := (l.take (i + 1)).map heldO) rfl rfl rfl rfl (by simp; omega) (by decide)) ?_
          refine vc_region ?_
          refine vl_q (q_add rfl rfl (IntWalk.i64_in _ (by omega))) (dk rfl) ?_
          refine vl_q (q_move rfl) (dk rfl) ?_
          refine vl_nil ?_
          refine ⟨_, _, ?_, ⟨i + 1, by omega, rfl, rfl⟩, (Weak.cut _ _ _ (Nat.le_of_ble_eq_true rfl) ⟨⟨rfl, rfl⟩, ⟨rfl, rfl⟩, ⟨rfl, rfl⟩, ⟨rfl, rfl⟩, ⟨rfl, rfl⟩, trivial⟩ ⟨⟨Nat.le_of_ble_eq_true rfl, rfl, belN_all rfl⟩, ⟨Nat.le_of_ble_eq_true rfl, rfl, belN_all rfl⟩, ⟨Nat.le_of_ble_eq_true rfl, rfl, belN_all rfl⟩, trivial⟩ rfl)⟩
          omega
      · refine vl_bslice rfl rfl rfl rfl rfl rfl trivial (by decide) (by decide) (dk rfl) ?_
        refine vl_nil ?_
        refine va_all [1] (by kernel_rfl) (by simp) ⟨⟨_, rfl, ?_⟩, trivial⟩
        refine vl_load rfl rfl rfl rfl rfl rfl rfl (by decide) (dk rfl) ?_
        refine vl_nil ?_
        refine va_all [2] (by kernel_rfl) (by simp) ⟨⟨_, rfl, ?_⟩, trivial⟩
        refine vl_callG [] (.v (.one (.hdr 21 0 _))) (c_impl_copyTexts l[i].parts hp) rfl rfl ⟨XOk.shc _ _, trivial⟩ trivial rfl (by decide) ⟨fix_clo _ _, trivial⟩ trivial rfl (.inr ⟨rfl, ⟨nzN_map strC_noZ, trivial⟩, trivial⟩) (dk rfl) ?_
        refine vl_nil ?_
        refine va_q 7 rfl (by kernel_rfl) (by kernel_rfl) (by kernel_rfl) (q_fieldAddr 3 rfl rfl rfl rfl (by decide) rfl rfl) (dk rfl) ?_
        refine va_all [6] (by kernel_rfl) (by simp) ⟨⟨_, rfl, ?_⟩, trivial⟩
        refine vl_append rfl rfl rfl rfl (fun _ h => TypeDesc.noConfusion h) rfl rfl rfl (Nat.le_refl _) (src_sh rfl rfl (map_wid fun _ => rfl)) (by simp only [List.length_map]; show _ * 1 ≤ _; omega) (by simp only [List.length_map]; omega) (dk rfl) ?_
        simp only [List.drop_nil, List.take_nil, List.nil_append, List.length_map, Nat.zero_add]
        refine vl_nil ?_
        refine va_all [8] (by kernel_rfl) (by simp) ⟨⟨_, rfl, ?_⟩, trivial⟩
        refine vl_store rfl rfl rfl rfl rfl rfl (Nat.le_of_ble_eq_true rfl) trivial ?_
        refine vl_nil ?_
        refine va_q 9 rfl (by kernel_rfl) (by kernel_rfl) (by kernel_rfl) (q_fieldAddr 4 rfl rfl rfl rfl (by decide) rfl rfl) (dk rfl) ?_
        refine va_all [10] (by kernel_rfl) (by simp) ⟨⟨_, rfl, ?_⟩, trivial⟩
        refine vl_store rfl rfl rfl rfl rfl rfl (Nat.le_of_ble_eq_true rfl) trivial ?_
        refine vl_nil ?_
        refine va_done (by kernel_rfl) ?_
        refine hK9 _ ?_
        refine vc_region ?_
        refine vl_q (q_fieldAddr 0 rfl rfl rfl rfl (by decide) rfl rfl) (dk rfl) ?_
        refine vl_open (nm := 18) (i := 0) (j := 0) rfl rfl rfl rfl rfl rfl ?_
        simp only [List.length_map, List.length_take, Nat.min_eq_left hi]
        refine vl_load rfl rfl rfl rfl rfl rfl rfl (by decide) (dk rfl) ?_
        refine vl_load rfl rfl rfl rfl rfl rfl rfl (by decide) (dk rfl) ?_
        refine vl_bslice rfl rfl rfl rfl rfl rfl ⟨rfl, trivial⟩ (by decide) (by decide) (dk rfl) ?_
        refine vl_append rfl rfl rfl rfl (fun _ h => TypeDesc.noConfusion h) rfl rfl rfl (by rw [Nat.zero_add]; exact Nat.le_of_eq (by simp; omega)) (src_row rfl rfl rfl rfl) (by show (i + 1) * 80 ≤ _; omega) (by show i + 1 < _; omega) (dk rfl) ?_
        refine vl_q (q_fieldAddr 0 rfl rfl rfl rfl (by decide) rfl rfl) (dk rfl) ?_
        refine vl_store rfl rfl rfl rfl rfl rfl (Nat.le_of_ble_eq_true rfl) trivial ?_
        refine vl_nil ?_
        refine hK7 _ ?_
        refine vc_weak (Weak.node (m := 25) rfl (congrArg (Vm.Node.mk 6) (app_take (take_map_len (f := heldO) hi)))) ?_
        refine vc_weak (Weak.close1 (nm := 25) (i := i) (j := 3) (m := 21) (es := l[i].parts.map strC) rfl (app_get (take_map_len hi)) rfl rfl (by simp) (by decide)) ?_
        refine vc_weak (Weak.close1 (nm := 25) (i := i) (j := 4) (m := 22) (es := l[i].hav.map boolC) rfl (set_get (app_lt (take_map_len hi))) rfl rfl (by simp) (by decide)) ?_
        refine vc_weak (Weak.node (m := 25) (nd' := ⟨6, clo ((l.take (i + 1)).map heldO)⟩) rfl (congrArg (Vm.Node.mk 6) ((List.set_set _).trans ((app_set (take_map_len hi)).trans (clo_snoc.trans (congrArg clo (take_map_snoc (f := heldO) hil))))))) ?_
        refine vc_weak (Weak.close1 (nm := 18) (i := 0) (j := 0) (m := 25) (es := (l.take (i + 1)).map heldO) rfl rfl rfl rfl (by simp; omega) (by decide)) ?_
        refine vc_region ?_
        refine vl_q (q_add rfl rfl (IntWalk.i64_in _ (by omega))) (dk rfl) ?_
        refine vl_q (q_move rfl) (dk rfl) ?_
        refine vl_nil ?_
        refine ⟨_, _, ?_, ⟨i + 1, by omega, rfl, rfl⟩, (Weak.cut _ _ _ (Nat.le_of_ble_eq_true rfl) ⟨⟨rfl, rfl⟩, ⟨rfl, rfl⟩, ⟨rfl, rfl⟩, ⟨rfl, rfl⟩, ⟨rfl, rfl⟩, trivial⟩ ⟨⟨Nat.le_of_ble_eq_true rfl, rfl, belN_all rfl⟩, ⟨Nat.le_of_ble_eq_true rfl, rfl, belN_all rfl⟩, ⟨Nat.le_of_ble_eq_true rfl, rfl, belN_all rfl⟩, trivial⟩ rfl)⟩
        omega
  · replace h11 := lss_nof h11
    refine vl_nil ?_
    refine hK5 _ ?_
    refine vc_seq fun K11 hK11 => ?_
    refine vc_cond_false rfl ?_
    refine vc_exit ?_
    refine hK3 _ ?_
    refine vc_seq fun K12 hK12 => ?_
    obtain rfl : i = l.length := by omega
    refine vc_weak (Weak.node (m := 18) (nd' := ⟨1, [[.c (.own 6 (l.map heldO))]]⟩) rfl (by rw [List.take_length])) ?_
    refine vc_region ?_
    refine vl_open (nm := 18) (i := 0) (j := 0) rfl rfl rfl rfl rfl rfl ?_
    simp only [List.length_map]
    refine vl_load rfl rfl rfl rfl rfl rfl rfl (by decide) (dk rfl) ?_
    refine vl_store rfl rfl rfl rfl rfl rfl (Nat.le_of_ble_eq_true rfl) trivial ?_
    refine vl_nil ?_
    refine hK12 _ ?_
    refine vc_ret ?_
    refine ret_g [19] rfl (.cons (res_cell rfl rfl rfl rfl rfl rfl rfl (by decide)) .nil) rfl rfl (nodupB_ok rfl) ⟨by decide, trivial⟩ ⟨⟨_, rfl, NR.clo _ _ _ _⟩, trivial⟩ trivial (Nat.zero_le _)
end Go.Vm.S
namespace Go.Vm.S
open Go Go.Vm
set_option maxRecDepth 100000
set_option linter.unusedVariables false
set_option maxHeartbeats 4000000
theorem at36 : FnAt Pg 36 Go.Proofs.Try.f36 := ⟨by kernel_rfl, rfl, by decide⟩
theorem c_Delete (l : List Held) (i : Nat) (hi : i < l.length) (hlim : l.length ≤ 4194304) :
    Ctr Pg ty 36 [.one (.hdr 0 0 l.length), iv i, iv (i + 1 : Nat)] [⟨6, clo (l.map heldO)⟩] (Gives (.v (.one (.hdr 16 0 (l.length - 1)))) [⟨6, clo ((l.eraseIdx i).map heldO)⟩] []) := by
  refine ctr at36 rfl (nsK_gives rfl ⟨nsN_map heldO_noSh, trivial⟩ trivial) (Nat.le_of_ble_eq_true rfl) fun w0 S0 L0 Z => ?_
  refine vc_seq fun K1 hK1 => ?_
  refine vc_region ?_
  refine vl_q (q_assign rfl) (dk rfl) ?_
  refine vl_nil ?_
  refine hK1 _ ?_
  refine vc_seq fun K2 hK2 => ?_
  refine vc_region ?_
  refine vl_q (q_move rfl) (dk rfl) ?_
  refine vl_q (q_move rfl) (dk rfl) ?_
  refine vl_q (q_move rfl) (dk rfl) ?_
  refine vl_q (q_move rfl) (dk rfl) ?_
  refine vl_q (q_len_hdr rfl rfl rfl) (dk rfl) ?_
  refine vl_q (q_slice3 rfl rfl rfl rfl rfl rfl rfl (by omega) (by omega) (by omega) (by omega)) (dk rfl) ?_
  refine vl_nil ?_
  refine hK2 _ ?_
  refine vc_seq fun K3 hK3 => ?_
  refine vc_seq fun K4 hK4 => ?_
  refine vc_region ?_
  refine vl_q (q_move rfl) (dk rfl) ?_
  refine vl_q (q_move rfl) (dk rfl) ?_
  refine vl_two (x := fun b => vv (.bool b)) _ (q_cmp rfl rfl rfl rfl) (dk rfl) (fun h16 => ?_) (fun h16 => ?_)
  · replace h16 := eql_of h16
    omega
  · replace h16 := eql_nof h16
    refine vl_nil ?_
    refine hK4 _ ?_
    refine vc_cond_false rfl ?_
    refine vc_skip ?_
    refine hK3 _ ?_
    refine vc_seq fun K5 hK5 => ?_
    refine vc_region ?_
    refine vl_q (q_move rfl) (dk rfl) ?_
    refine vl_q (q_len_hdr rfl rfl rfl) (dk rfl) ?_
    refine vl_q (q_assign rfl) (dk rfl) ?_
    refine vl_nil ?_
    refine hK5 _ ?_
    refine vc_seq fun K6 hK6 => ?_
    refine vc_region_any mixed (fun n => false) true rfl rfl (fun _ hU7 => hU7) fun w1 S1 L1 Z1 H1 => ?_
    refine va_q 0 rfl (by kernel_rfl) (by kernel_rfl) (by kernel_rfl) (q_move rfl) (dk rfl) ?_
    refine va_q 1 rfl (by kernel_rfl) (by kernel_rfl) (by kernel_rfl) (q_move rfl) (dk rfl) ?_
    refine va_q 2 rfl (by kernel_rfl) (by kernel_rfl) (by kernel_rfl) (q_slice_hdr rfl rfl rfl rfl rfl rfl rfl rfl (by omega) (by omega) (.inl (by omega))) (dk rfl) ?_
    refine va_q 3 rfl (by kernel_rfl) (by kernel_rfl) (by kernel_rfl) (q_move rfl) (dk rfl) ?_
    refine va_q 4 rfl (by kernel_rfl) (by kernel_rfl) (by kernel_rfl) (q_move rfl) (dk rfl) ?_
    refine va_q 5 rfl (by kernel_rfl) (by kernel_rfl) (by kernel_rfl) (q_slice_hdr rfl rfl rfl rfl rfl rfl rfl rfl (by omega) (by omega) (.inl (by omega))) (dk rfl) ?_
    refine va_all [6] (by kernel_rfl) (by simp) ⟨⟨_, rfl, ?_⟩, trivial⟩
    refine vl_shift (n := i) (lo2 := i + 1) (n2 := l.length - (i + 1)) rfl rfl rfl rfl (fun _ h => TypeDesc.noConfusion h) rfl rfl rfl rfl (by omega) (by simp [clo_len]; omega) (dk rfl) ?_
    refine vl_nil ?_
    refine va_q 7 rfl (by kernel_rfl) (by kernel_rfl) (by kernel_rfl) (q_assign rfl) (dk rfl) ?_
    refine va_done (by kernel_rfl) ?_
    refine hK6 _ ?_
    refine vc_seq fun K8 hK8 => ?_
    refine vc_region ?_
    refine vl_q (q_move rfl) (dk rfl) ?_
    refine vl_q (q_move rfl) (dk rfl) ?_
    refine vl_q (q_len_hdr rfl rfl rfl) (dk rfl) ?_
    refine vl_q (q_move rfl) (dk rfl) ?_
    refine vl_q (q_slice_hdr rfl rfl rfl rfl rfl rfl rfl rfl (by omega) (by omega) (.inr (by simp [clo_len]; omega))) (dk rfl) ?_
    refine vl_weak (Weak.trunc (m := 16) (n := l.length - 1) rfl) ?_
    refine vl_weak (Weak.node (m := 16) (nd' := ⟨6, clo ((l.eraseIdx i).map heldO)⟩) rfl (congrArg (Vm.Node.mk 6) (erase_rows hi))) ?_
    refine vl_clear rfl rfl rfl rfl rfl rfl (by simp only [clo_len, List.length_map, List.length_eraseIdx]; rw [if_pos hi]; show _ ≤ i + (l.length - (i + 1)) + 0; omega) ?_
    refine vl_nil ?_
    refine hK8 _ ?_
    refine vc_seq fun K9 hK9 => ?_
    refine vc_region ?_
    refine vl_q (q_move rfl) (dk rfl) ?_
    refine vl_q (q_assign rfl) (dk rfl) ?_
    refine vl_nil ?_
    refine hK9 _ ?_
    refine vc_ret ?_
    refine ret_g [16] rfl (.cons (res_tmp rfl) .nil) (by rw [show l.length - 1 = i + (l.length - (i + 1)) by omega]; rfl) rfl (nodupB_ok rfl) ⟨Nat.le_refl _, trivial⟩ ⟨⟨_, rfl, NR.clo _ _ _ _⟩, trivial⟩ trivial (Nat.zero_le _)
end Go.Vm.S
namespace Go.Vm.S
open Go Go.Vm
set_option maxRecDepth 100000
set_option linter.unusedVariables false
set_option maxHeartbeats 4000000
theorem at14 : FnAt Pg 14 Go.Proofs.Try.f14 := ⟨by kernel_rfl, rfl, by decide⟩
theorem c_impl_AddPart (l : List Held) (fr : Int) (t : ByteArray) (now : Int) (hb : szHelds l ≤ 4194304) :
    Ctr Pg ty 14 [.agg ((shelfC l).map X.c), iv fr, sv t, iv now] [] (Gives (.tup [.agg [.hdr 16 0 (addP l fr t now).1.length], sv (addP l fr t now).2.1, bv (addP l fr t now).2.2]) [⟨6, clo ((addP l fr t now).1.map heldO)⟩] []) := by
  refine ctr at14 rfl (nsK_gives rfl ⟨nsN_map heldO_noSh, trivial⟩ trivial) (Nat.le_of_ble_eq_true rfl) fun w0 S0 L0 Z => ?_
  refine vc_seq fun K1 hK1 => ?_
  refine vc_region ?_
  refine vl_box rfl (dk rfl) ?_
  refine vl_alloc rfl (dk rfl) ?_
  refine vl_q (q_assign rfl) (dk rfl) ?_
  refine vl_q (q_assign rfl) (dk rfl) ?_
  refine vl_nil ?_
  refine hK1 _ ?_
  refine vc_seq fun K2 hK2 => ?_
  refine vc_region ?_
  refine vl_load rfl rfl rfl rfl rfl rfl rfl (by decide) (dk rfl) ?_
  refine vl_callG [] (.v (.agg [.hdr 18 0 _])) (c_impl_copyShelf l hb) rfl rfl ⟨VOk.agg ⟨XOk.shc _ _, trivial⟩, trivial⟩ trivial rfl (by decide) ⟨fix_clo _ _, trivial⟩ trivial rfl (.inl rfl) (dk rfl) ?_
  refine vl_alloc rfl (dk rfl) ?_
  refine vl_store rfl rfl rfl rfl rfl rfl (Nat.le_of_ble_eq_true rfl) trivial ?_
  refine vl_nil ?_
  refine hK2 _ ?_
  refine vc_seq fun K3 hK3 => ?_
  refine vc_region ?_
  refine vl_q (q_move rfl) (dk rfl) ?_
  rcases Bool.eq_false_or_eq_true (rpOk t) with hrp | hrp
  · refine vl_callP (c_ReadPart_t t hrp) rfl rfl ⟨XOk.val _, trivial⟩ rfl (.inl rfl) (dk rfl) ?_
    refine vl_q (q_move rfl) (dk rfl) ?_
    refine vl_q (q_extract rfl rfl) (dk rfl) ?_
    refine vl_q (q_extract rfl rfl) (dk rfl) ?_
    refine vl_q (q_extract rfl rfl) (dk rfl) ?_
    refine vl_q (q_extract rfl rfl) (dk rfl) ?_
    refine vl_q (q_extract rfl rfl) (dk rfl) ?_
    refine vl_q (q_assign rfl) (dk rfl) ?_
    refine vl_q (q_assign rfl) (dk rfl) ?_
    refine vl_q (q_assign rfl) (dk rfl) ?_
    refine vl_q (q_assign rfl) (dk rfl) ?_
    refine vl_q (q_assign rfl) (dk rfl) ?_
    refine vl_nil ?_
    refine hK3 _ ?_
    refine vc_seq fun K4 hK4 => ?_
    refine vc_seq fun K5 hK5 => ?_
    refine vc_region ?_
    refine vl_load rfl rfl rfl rfl rfl rfl rfl (by decide) (dk rfl) ?_
    refine vl_callP (c_impl_ShelfOk l) rfl rfl ⟨VOk.agg ⟨XOk.shc _ _, trivial⟩, trivial⟩ rfl (.inl rfl) (dk rfl) ?_
    refine vl_bool 31 rfl (fun h31 => ?_) (fun h31 => ?_)
    · have hsg : ShelfGood l := of_decide_eq_true h31
      have hlen3 := hsg.len
      refine vl_q (q_not rfl) (dk rfl) ?_
      refine vl_q (q_move rfl) (dk rfl) ?_
      refine vl_guard_on rfl rfl rfl ?_
      refine vl_q (q_move rfl) (dk rfl) ?_
      refine vl_guard_on rfl rfl rfl ?_
      refine vl_callP (c_impl_isId _) rfl rfl ⟨XOk.val _, trivial⟩ rfl (.inl rfl) (dk rfl) ?_
      refine vl_bool 35 rfl (fun h35 => ?_) (fun h35 => ?_)
      · refine vl_guard_on rfl rfl rfl ?_
        refine vl_q (q_not rfl) (dk rfl) ?_
        refine vl_q (q_pick_false rfl rfl) (dk rfl) ?_
        refine vl_q (q_move rfl) (dk rfl) ?_
        refine vl_guard_on rfl rfl rfl ?_
        refine vl_q (q_move rfl) (dk rfl) ?_
        refine vl_guard_on rfl rfl rfl ?_
        refine vl_q (q_not rfl) (dk rfl) ?_
        refine vl_q (q_pick_false rfl rfl) (dk rfl) ?_
        refine vl_q (q_move rfl) (dk rfl) ?_
        refine vl_guard_on rfl rfl rfl ?_
        refine vl_q (q_move rfl) (dk rfl) ?_
        refine vl_guard_on rfl rfl rfl ?_
        refine vl_q (q_len_str rfl rfl rfl) (dk rfl) ?_
        refine vl_guard_on rfl rfl rfl ?_
        refine vl_two (x := fun b => vv (.bool b)) _ (q_cmp rfl rfl rfl rfl) (dk rfl) (fun h45 => ?_) (fun h45 => ?_)
        · replace h45 := gtr_of h45
          refine vl_q (q_pick_false rfl rfl) (dk rfl) ?_
          refine vl_q (q_move rfl) (dk rfl) ?_
          refine vl_goff rfl rfl rfl (by decide) (dk rfl) ?_
          refine vl_goff rfl rfl rfl (by decide) (dk rfl) ?_
          refine vl_goff rfl rfl rfl (by decide) (dk rfl) ?_
          refine vl_q (q_pick_true rfl rfl) (dk rfl) ?_
          refine vl_nil ?_
          refine hK5 _ ?_
          refine vc_cond_true rfl ?_
          refine vc_seq fun K6 hK6 => ?_
          refine vc_region ?_
          refine vl_load rfl rfl rfl rfl rfl rfl rfl (by decide) (dk rfl) ?_
          refine vl_store rfl rfl rfl rfl rfl rfl (Nat.le_of_ble_eq_true rfl) trivial ?_
          refine vl_q (q_assign rfl) (dk rfl) ?_
          refine vl_q (q_assign rfl) (dk rfl) ?_
          refine vl_nil ?_
          refine hK6 _ ?_
          refine vc_ret ?_
          have e : addP l fr t now = (l, ⟨#[]⟩, false) := addP_bad (addOk_f (by first | exact .inl ‹_› | exact .inr (.inl ‹_›) | exact .inr (.inr (.inl ‹_›)) | exact .inr (.inr (.inr (.inl (by omega)))) | exact .inr (.inr (.inr (.inr ‹_›)))))
          refine ret_g [18] rfl (.cons (res_cell rfl rfl rfl rfl rfl rfl rfl (by decide)) (.cons (res_tmp rfl) (.cons (res_tmp rfl) .nil))) (by rw [e]; first | rfl | (simp only [List.length_set]; rfl) | (simp only [List.length_eraseIdx, if_pos hal, hy]; rfl)) rfl (nodupB_ok rfl) ⟨by decide, trivial⟩ ⟨⟨⟨6, clo ((addP l fr t now).1.map heldO)⟩, some_node (by rw [e]), NR.clo _ _ _ _⟩, trivial⟩ trivial (Nat.zero_le _)
        · replace h45 := gtr_nof h45
          refine vl_q (q_pick_false rfl rfl) (dk rfl) ?_
          refine vl_q (q_move rfl) (dk rfl) ?_
          refine vl_guard_on rfl rfl rfl ?_
          refine vl_q (q_move rfl) (dk rfl) ?_
          refine vl_guard_on rfl rfl rfl ?_
          refine vl_callP (c_impl_within _ _ _) rfl rfl ⟨XOk.val _, XOk.val _, XOk.val _, trivial⟩ rfl (.inl rfl) (dk rfl) ?_
          refine vl_bool 49 rfl (fun h49 => ?_) (fun h49 => ?_)
          · refine vl_guard_on rfl rfl rfl ?_
            refine vl_q (q_not rfl) (dk rfl) ?_
            refine vl_q (q_pick_false rfl rfl) (dk rfl) ?_
            refine vl_nil ?_
            refine hK5 _ ?_
            refine vc_cond_false rfl ?_
            refine vc_skip ?_
            refine hK4 _ ?_
            refine vc_seq fun K7 hK7 => ?_
            refine vc_seq fun K8 hK8 => ?_
            have hok : addOk l fr t now = true := addOk_t h31 h35 hrp (by omega) h49
            have hrpp := rp_parts hrp
            have hnow := within_of h49
            refine vc_region ?_
            refine vl_q (q_move rfl) (dk rfl) ?_
            refine vl_two (x := fun b => vv (.bool b)) _ (q_cmp rfl rfl rfl rfl) (dk rfl) (fun h54 => ?_) (fun h54 => ?_)
            · replace h54 := eql_of h54
              have h1 : byteAt t 2 = 1 := by omega
              refine vl_nil ?_
              refine hK8 _ ?_
              refine vc_cond_true rfl ?_
              refine vc_seq fun K9 hK9 => ?_
              refine vc_region ?_
              refine vl_load rfl rfl rfl rfl rfl rfl rfl (by decide) (dk rfl) ?_
              refine vl_q (q_move rfl) (dk rfl) ?_
              refine vl_store rfl rfl rfl rfl rfl rfl (Nat.le_of_ble_eq_true rfl) trivial ?_
              refine vl_q (q_assign rfl) (dk rfl) ?_
              refine vl_q (q_assign rfl) (dk rfl) ?_
              refine vl_nil ?_
              refine hK9 _ ?_
              refine vc_ret ?_
              have e : addP l fr t now = (l, part t, true) := addP_one hok h1
              refine ret_g [18] rfl (.cons (res_cell rfl rfl rfl rfl rfl rfl rfl (by decide)) (.cons (res_tmp rfl) (.cons (res_tmp rfl) .nil))) (by rw [e]; first | rfl | (simp only [List.length_set]; rfl) | (simp only [List.length_eraseIdx, if_pos hal, hy]; rfl)) rfl (nodupB_ok rfl) ⟨by decide, trivial⟩ ⟨⟨⟨6, clo ((addP l fr t now).1.map heldO)⟩, some_node (by rw [e]), NR.clo _ _ _ _⟩, trivial⟩ trivial (Nat.zero_le _)
            · replace h54 := eql_nof h54
              have h1 : byteAt t 2 ≠ 1 := by omega
              refine vl_nil ?_
              refine hK8 _ ?_
              refine vc_cond_false rfl ?_
              refine vc_skip ?_
              refine hK7 _ ?_
              refine vc_seq fun K10 hK10 => ?_
              refine vc_region ?_
              refine vl_load rfl rfl rfl rfl rfl rfl rfl (by decide) (dk rfl) ?_
              refine vl_q (q_move rfl) (dk rfl) ?_
              refine vl_q (q_move rfl) (dk rfl) ?_
              refine vl_callP (c_impl_heldAt l fr (byteAt t 0)) rfl rfl ⟨VOk.agg ⟨XOk.snapH rfl (by decide) (by simp [markHs_len]) (map_wid heldO_len) (heldsO_shr _), trivial⟩, XOk.val _, XOk.val _, trivial⟩ rfl (.inl rfl) (dk rfl) ?_
              refine vl_q (q_assign rfl) (dk rfl) ?_
              refine vl_nil ?_
              refine hK10 _ ?_
              refine vc_join (fun st => ∃ l1 : List Held, ∃ at1 : Int, (((at1 = -1 ∧ l1 = l.eraseIdx (kIdx l fr t) ∧ ∀ (hil : kIdx l fr t < l.length), l[kIdx l fr t].cnt ≠ byteAt t 2) ∨ (∃ (i : Nat) (hil : i < l.length), at1 = i ∧ l1 = l ∧ kIdx l fr t = i ∧ l[i].cnt = byteAt t 2)) ∧ l1.length ≤ 3) ∧ st = mkSt [(1, .v (iv fr)), (3, .v (iv now)), (8, .v (.one (.ptr 17 0 0))), (11, .v (.one (.ptr 19 0 0))), (12, .v (iv (byteAt t 0))), (13, .v (iv (byteAt t 1))), (14, .v (iv (byteAt t 2))), (15, .v (sv (part t))), (17, .v (iv at1))] [(17, ⟨1, [[.c (.val (.slice none 0 0))]]⟩), (19, ⟨1, [[.c (.own 6 (l1.map heldO))]]⟩)] 20) (fun K11 hK11 => ?_) (fun st hI => ?_)
              · refine vc_seq fun K12 hK12 => ?_
                refine vc_region ?_
                refine vl_q (q_move rfl) (dk rfl) ?_
                refine vl_two (x := fun b => vv (.bool b)) _ (q_cmp rfl rfl rfl rfl) (dk rfl) (fun h62 => ?_) (fun h62 => ?_)
                · replace h62 := geq_of h62
                  obtain ⟨i, hil, hfi, hki⟩ : ∃ (i : Nat) (h : i < l.length), fIdx (sameK fr (byteAt t 0)) l = i ∧ sameK fr (byteAt t 0) l[i] = true := by
                    rcases fIdx_cases (sameK fr (byteAt t 0)) l with ⟨h1, _⟩ | ⟨i, hi, h1, h2, _⟩
                    · omega
                    · exact ⟨i, hi, h1, h2⟩
                  have hix := kIdx_is hsg hil hki
                  refine vl_weak (Weak.lit (d := 17) (y := vv (.int .i64 ((i : Nat) : Int))) rfl (by rw [hfi])) ?_
                  refine vl_q (q_move rfl) (dk rfl) ?_
                  refine vl_guard_on rfl rfl rfl ?_
                  refine vl_q (q_fieldAddr 0 rfl rfl rfl rfl (by decide) rfl rfl) (dk rfl) ?_
                  refine vl_guard_on rfl rfl rfl ?_
                  refine vl_load rfl rfl rfl rfl rfl rfl rfl (by decide) (dk rfl) ?_
                  refine vl_guard_on rfl rfl rfl ?_
                  refine vl_q (q_move rfl) (dk rfl) ?_
                  refine vl_guard_on rfl rfl rfl ?_
                  refine vl_q (q_indexAddr rfl rfl rfl rfl rfl rfl rfl (by omega) (by omega)) (dk rfl) ?_
                  try simp only [List.set_set, List.length_map, Int.toNat_natCast, Nat.add_zero]
                  refine vl_guard_on rfl rfl rfl ?_
                  refine vl_q (q_fieldAddr 2 rfl rfl rfl rfl (by decide) rfl rfl) (dk rfl) ?_
                  refine vl_guard_on rfl rfl rfl ?_
                  refine vl_load rfl rfl rfl (clo_get hil) rfl rfl rfl (by decide) (dk rfl) ?_
                  refine vl_guard_on rfl rfl rfl ?_
                  refine vl_q (q_move rfl) (dk rfl) ?_
                  refine vl_guard_on rfl rfl rfl ?_
                  refine vl_two (x := fun b => vv (.bool b)) _ (q_cmp rfl rfl rfl rfl) (dk rfl) (fun h71 => ?_) (fun h71 => ?_)
                  · replace h71 := neq_of h71
                    refine vl_q (q_pick_true rfl rfl) (dk rfl) ?_
                    refine vl_nil ?_
                    refine hK12 _ ?_
                    refine vc_cond_true rfl ?_
                    refine vc_seq fun K13 hK13 => ?_
                    refine vc_region ?_
                    refine vl_q (q_fieldAddr 0 rfl rfl rfl rfl (by decide) rfl rfl) (dk rfl) ?_
                    refine vl_load rfl rfl rfl rfl rfl rfl rfl (by decide) (dk rfl) ?_
                    refine vl_q (q_move rfl) (dk rfl) ?_
                    refine vl_q (q_move rfl) (dk rfl) ?_
                    refine vl_q (q_add rfl rfl (IntWalk.i64_in _ (by omega))) (dk rfl) ?_
                    refine vl_weak (Weak.lit (d := 77) (y := vv (.int .i64 ((i + 1 : Nat) : Int))) rfl rfl) ?_
                    have hcd := c_Delete l i hil (by omega)
                    refine vl_callG [18] (.v (.one (.hdr 20 0 (l.length - 1)))) hcd rfl rfl ⟨XOk.hdr rfl (by decide) _ _, XOk.val _, XOk.val _, trivial⟩ ⟨⟨_, rfl, NR.clo _ _ _ _⟩, trivial⟩ rfl (by decide) ⟨fix_clo _ _, trivial⟩ trivial rfl (.inl rfl) (dk rfl) ?_
                    refine vl_q (q_fieldAddr 0 rfl rfl rfl rfl (by decide) rfl rfl) (dk rfl) ?_
                    refine vl_store rfl rfl rfl rfl rfl rfl (Nat.le_of_ble_eq_true rfl) trivial ?_
                    refine vl_nil ?_
                    refine hK13 _ ?_
                    refine vc_region ?_
                    refine vl_q (q_assign rfl) (dk rfl) ?_
                    refine vl_nil ?_
                    refine hK11 _ ?_
                    refine wk_weak (Weak.close1 (nm := 19) (i := 0) (j := 0) (m := 20) (es := (l.eraseIdx i).map heldO) rfl rfl rfl rfl (by simp [List.length_eraseIdx, hil]) (by decide)) ?_
                    exact ⟨_, ⟨l.eraseIdx i, -1, ⟨.inl ⟨rfl, by rw [hix], fun h => by simp only [hix]; exact h71⟩, by rw [List.length_eraseIdx]; split <;> omega⟩, rfl⟩, (Weak.cut _ _ _ (Nat.le_of_ble_eq_true rfl) ⟨⟨rfl, rfl⟩, ⟨rfl, rfl⟩, ⟨rfl, rfl⟩, ⟨rfl, rfl⟩, ⟨rfl, rfl⟩, ⟨rfl, rfl⟩, ⟨rfl, rfl⟩, ⟨rfl, rfl⟩, ⟨rfl, rfl⟩, trivial⟩ ⟨⟨Nat.le_of_ble_eq_true rfl, rfl, belN_all rfl⟩, ⟨Nat.le_of_ble_eq_true rfl, rfl, belN_all rfl⟩, trivial⟩ rfl)⟩
                  · replace h71 := neq_nof h71
                    refine vl_q (q_pick_true rfl rfl) (dk rfl) ?_
                    refine vl_nil ?_
                    refine hK12 _ ?_
                    refine vc_cond_false rfl ?_
                    refine vc_skip ?_
                    refine hK11 _ ?_
                    refine wk_weak (Weak.close1 (nm := 19) (i := 0) (j := 0) (m := 18) (es := (l).map heldO) rfl rfl rfl rfl (by simp) (by decide)) ?_
                    exact ⟨_, ⟨l, (i : Nat), ⟨.inr ⟨i, hil, rfl, rfl, hix, h71⟩, hlen3⟩, rfl⟩, (Weak.cut _ _ _ (Nat.le_of_ble_eq_true rfl) ⟨⟨rfl, rfl⟩, ⟨rfl, rfl⟩, ⟨rfl, rfl⟩, ⟨rfl, rfl⟩, ⟨rfl, rfl⟩, ⟨rfl, rfl⟩, ⟨rfl, rfl⟩, ⟨rfl, rfl⟩, ⟨rfl, rfl⟩, trivial⟩ ⟨⟨Nat.le_of_ble_eq_true rfl, rfl, belN_all rfl⟩, ⟨Nat.le_of_ble_eq_true rfl, rfl, belN_all rfl⟩, trivial⟩ rfl)⟩
                · replace h62 := geq_nof h62
                  obtain ⟨hfi, hno⟩ : fIdx (sameK fr (byteAt t 0)) l = -1 ∧ ∀ x, x ∈ l → sameK fr (byteAt t 0) x = false := by
                    rcases fIdx_cases (sameK fr (byteAt t 0)) l with h1 | ⟨i, hi, h1, h2, _⟩
                    · exact h1
                    · omega
                  have hix := kIdx_none hno
                  refine vl_weak (Weak.lit (d := 17) (y := vv (.int .i64 (-1))) rfl (by rw [hfi])) ?_
                  refine vl_q (q_move rfl) (dk rfl) ?_
                  refine vl_goff rfl rfl rfl (by decide) (dk rfl) ?_
                  refine vl_goff rfl rfl rfl (by decide) (dk rfl) ?_
                  refine vl_goff rfl rfl rfl (by decide) (dk rfl) ?_
                  refine vl_goff rfl rfl rfl (by decide) (dk rfl) ?_
                  try simp only [List.set_set, List.length_map, Int.toNat_natCast, Nat.add_zero]
                  refine vl_goff rfl rfl rfl (by decide) (dk rfl) ?_
                  refine vl_goff rfl rfl rfl (by decide) (dk rfl) ?_
                  refine vl_goff rfl rfl rfl (by decide) (dk rfl) ?_
                  refine vl_goff rfl rfl rfl (by decide) (dk rfl) ?_
                  refine vl_q (q_pick_false rfl rfl) (dk rfl) ?_
                  refine vl_nil ?_
                  refine hK12 _ ?_
                  refine vc_cond_false rfl ?_
                  refine vc_skip ?_
                  refine hK11 _ ?_
                  refine wk_weak (Weak.close1 (nm := 19) (i := 0) (j := 0) (m := 18) (es := (l).map heldO) rfl rfl rfl rfl (by simp) (by decide)) ?_
                  exact ⟨_, ⟨l, -1, ⟨.inl ⟨rfl, by rw [hix, List.eraseIdx_of_length_le (Nat.le_refl _)], fun h => absurd h (by omega)⟩, hlen3⟩, rfl⟩, (Weak.cut _ _ _ (Nat.le_of_ble_eq_true rfl) ⟨⟨rfl, rfl⟩, ⟨rfl, rfl⟩, ⟨rfl, rfl⟩, ⟨rfl, rfl⟩, ⟨rfl, rfl⟩, ⟨rfl, rfl⟩, ⟨rfl, rfl⟩, ⟨rfl, rfl⟩, ⟨rfl, rfl⟩, trivial⟩ ⟨⟨Nat.le_of_ble_eq_true rfl, rfl, belN_all rfl⟩, ⟨Nat.le_of_ble_eq_true rfl, rfl, belN_all rfl⟩, trivial⟩ rfl)⟩
              obtain ⟨l1, at1, ⟨hc, hl13⟩, rfl⟩ := hI
              refine vc_join (fun st => ∃ l3 : List Held, ∃ a : Nat, (a < l3.length ∧ l3.length ≤ 3 ∧ FillP l fr t now l3 a) ∧ st = mkSt [(1, .v (iv fr)), (3, .v (iv now)), (8, .v (.one (.ptr 17 0 0))), (11, .v (.one (.ptr 19 0 0))), (12, .v (iv (byteAt t 0))), (13, .v (iv (byteAt t 1))), (14, .v (iv (byteAt t 2))), (15, .v (sv (part t))), (17, .v (iv (a : Nat)))] [(17, ⟨1, [[.c (.val (.slice none 0 0))]]⟩), (19, ⟨1, [[.c (.own 6 (l3.map heldO))]]⟩)] 20) (fun K14 hK14 => ?_) (fun st hI => ?_)
              · refine vc_seq fun K15 hK15 => ?_
                refine vc_region ?_
                refine vl_q (q_move rfl) (dk rfl) ?_
                refine vl_two (x := fun b => vv (.bool b)) _ (q_cmp rfl rfl rfl rfl) (dk rfl) (fun h81 => ?_) (fun h81 => ?_)
                · replace h81 := lss_of h81
                  obtain ⟨hl1, hnew⟩ : l1 = l.eraseIdx (kIdx l fr t) ∧ ∀ (hil : kIdx l fr t < l.length), l[kIdx l fr t].cnt ≠ byteAt t 2 := by
                    rcases hc with ⟨_, h1, h2⟩ | ⟨i, _, h1, _⟩
                    · exact ⟨h1, h2⟩
                    · omega
                  refine vl_nil ?_
                  refine hK15 _ ?_
                  refine vc_cond_true rfl ?_
                  refine vc_join (fun st => ∃ r : List Held, (r = three (l.eraseIdx (kIdx l fr t)) ∧ r.length ≤ 2 ∧ ∀ (hil : kIdx l fr t < l.length), l[kIdx l fr t].cnt ≠ byteAt t 2) ∧ st = mkSt [(1, .v (iv fr)), (3, .v (iv now)), (8, .v (.one (.ptr 17 0 0))), (11, .v (.one (.ptr 19 0 0))), (12, .v (iv (byteAt t 0))), (13, .v (iv (byteAt t 1))), (14, .v (iv (byteAt t 2))), (15, .v (sv (part t)))] [(17, ⟨1, [[.c (.val (.slice none 0 0))]]⟩), (19, ⟨1, [[.c (.own 6 (r.map heldO))]]⟩)] 20) (fun K16 hK16 => ?_) (fun st hI => ?_)
                  · refine vc_seq fun K17 hK17 => ?_
                    refine vc_region ?_
                    refine vl_q (q_fieldAddr 0 rfl rfl rfl rfl (by decide) rfl rfl) (dk rfl) ?_
                    refine vl_open (nm := 19) (i := 0) (j := 0) rfl rfl rfl rfl rfl rfl ?_
                    simp only [List.set_set, List.length_map, Int.toNat_natCast, Nat.add_zero]
                    refine vl_load rfl rfl rfl rfl rfl rfl rfl (by decide) (dk rfl) ?_
                    refine vl_q (q_len_hdr rfl rfl rfl) (dk rfl) ?_
                    refine vl_two (x := fun b => vv (.bool b)) _ (q_cmp rfl rfl rfl rfl) (dk rfl) (fun h85 => ?_) (fun h85 => ?_)
                    · replace h85 := eql_of h85
                      refine vl_nil ?_
                      refine hK17 _ ?_
                      refine vc_cond_true rfl ?_
                      refine vc_region ?_
                      refine vl_q (q_fieldAddr 0 rfl rfl rfl rfl (by decide) rfl rfl) (dk rfl) ?_
                      refine vl_load rfl rfl rfl rfl rfl rfl rfl (by decide) (dk rfl) ?_
                      refine vl_q (q_slice_hdr rfl rfl rfl rfl rfl rfl rfl rfl (by omega) (by omega) (.inl (by omega))) (dk rfl) ?_
                      refine vl_q (q_fieldAddr 0 rfl rfl rfl rfl (by decide) rfl rfl) (dk rfl) ?_
                      refine vl_store rfl rfl rfl rfl rfl rfl (Nat.le_of_ble_eq_true rfl) trivial ?_
                      refine vl_nil ?_
                      refine hK16 _ ?_
                      refine wk_weak (Weak.rebase (nm := 19) (i := 0) (j := 0) (m := 20) (lo := 1) (n := l1.length - 1) rfl rfl rfl rfl (by simp [clo_len]; omega) (by decide)) ?_
                      refine wk_weak (Weak.node (m := 21) (nd' := ⟨6, clo ((l1.drop 1).map heldO)⟩) rfl (congrArg (Vm.Node.mk 6) (by show List.take _ (List.drop 1 (clo (l1.map heldO))) = _; rw [clo_drop, List.take_of_length_le (by simp [clo_len])]))) ?_
                      refine wk_weak (Weak.close1 (nm := 19) (i := 0) (j := 0) (m := 21) (es := (l1.drop 1).map heldO) rfl rfl rfl rfl (by simp) (by decide)) ?_
                      exact ⟨_, ⟨l1.drop 1, ⟨by rw [← hl1, three_t (by omega)], by rw [List.length_drop]; omega, hnew⟩, rfl⟩, (Weak.cut _ _ _ (Nat.le_of_ble_eq_true rfl) ⟨⟨rfl, rfl⟩, ⟨rfl, rfl⟩, ⟨rfl, rfl⟩, ⟨rfl, rfl⟩, ⟨rfl, rfl⟩, ⟨rfl, rfl⟩, ⟨rfl, rfl⟩, ⟨rfl, rfl⟩, trivial⟩ ⟨⟨Nat.le_of_ble_eq_true rfl, rfl, belN_all rfl⟩, ⟨Nat.le_of_ble_eq_true rfl, rfl, belN_all rfl⟩, trivial⟩ rfl)⟩
                    · replace h85 := eql_nof h85
                      refine vl_nil ?_
                      refine hK17 _ ?_
                      refine vc_cond_false rfl ?_
                      refine vc_skip ?_
                      refine hK16 _ ?_
                      refine wk_weak (Weak.close1 (nm := 19) (i := 0) (j := 0) (m := 20) (es := (l1).map heldO) rfl rfl rfl rfl (by simp) (by decide)) ?_
                      exact ⟨_, ⟨l1, ⟨by rw [← hl1, three_f (by omega)], by omega, hnew⟩, rfl⟩, (Weak.cut _ _ _ (Nat.le_of_ble_eq_true rfl) ⟨⟨rfl, rfl⟩, ⟨rfl, rfl⟩, ⟨rfl, rfl⟩, ⟨rfl, rfl⟩, ⟨rfl, rfl⟩, ⟨rfl, rfl⟩, ⟨rfl, rfl⟩, ⟨rfl, rfl⟩, trivial⟩ ⟨⟨Nat.le_of_ble_eq_true rfl, rfl, belN_all rfl⟩, ⟨Nat.le_of_ble_eq_true rfl, rfl, belN_all rfl⟩, trivial⟩ rfl)⟩
                  obtain ⟨r, ⟨hr, hr2, hnew⟩, rfl⟩ := hI
                  refine vc_seq fun K18 hK18 => ?_
                  refine vc_region ?_
                  refine vl_q (q_fieldAddr 0 rfl rfl rfl rfl (by decide) rfl rfl) (dk rfl) ?_
                  refine vl_open (nm := 19) (i := 0) (j := 0) rfl rfl rfl rfl rfl rfl ?_
                  simp only [List.set_set, List.length_map, Int.toNat_natCast, Nat.add_zero]
                  refine vl_load rfl rfl rfl rfl rfl rfl rfl (by decide) (dk rfl) ?_
                  refine vl_q (q_len_hdr rfl rfl rfl) (dk rfl) ?_
                  refine vl_q (q_assign rfl) (dk rfl) ?_
                  refine vl_nil ?_
                  refine hK18 _ ?_
                  refine vc_region_any mixed (fun n => false) true rfl rfl (fun _ hU19 => hU19) fun w1 S1 L1 Z1 H1 => ?_
                  refine va_q 0 rfl (by kernel_rfl) (by kernel_rfl) (by kernel_rfl) (q_fieldAddr 0 rfl rfl rfl rfl (by decide) rfl rfl) (dk rfl) ?_
                  refine va_q 2 rfl (by kernel_rfl) (by kernel_rfl) (by kernel_rfl) (q_move rfl) (dk rfl) ?_
                  refine va_q 3 rfl (by kernel_rfl) (by kernel_rfl) (by kernel_rfl) (q_move rfl) (dk rfl) ?_
                  refine va_q 4 rfl (by kernel_rfl) (by kernel_rfl) (by kernel_rfl) (q_move rfl) (dk rfl) ?_
                  refine va_q 5 rfl (by kernel_rfl) (by kernel_rfl) (by kernel_rfl) (q_move rfl) (dk rfl) ?_
                  refine va_q 7 rfl (by kernel_rfl) (by kernel_rfl) (by kernel_rfl) (q_move rfl) (dk rfl) ?_
                  refine va_q 9 rfl (by kernel_rfl) (by kernel_rfl) (by kernel_rfl) (q_move rfl) (dk rfl) ?_
                  refine va_q 10 rfl (by kernel_rfl) (by kernel_rfl) (by kernel_rfl) (q_add rfl rfl (IntWalk.i64_in _ (by omega))) (dk rfl) ?_
                  refine va_all [1, 6, 8] (by kernel_rfl) (by simp) ⟨⟨_, rfl, ?_⟩, ⟨_, rfl, ?_⟩, ⟨_, rfl, ?_⟩, trivial⟩
                  · refine vl_load rfl rfl rfl rfl rfl rfl rfl (by decide) (dk rfl) ?_
                    refine vl_nil ?_
                    refine va_all [6, 8] (by kernel_rfl) (by simp) ⟨⟨_, rfl, ?_⟩, ⟨_, rfl, ?_⟩, trivial⟩
                    · refine vl_makeSlice rfl rfl rfl rfl rfl (by omega) (by omega) (by show ((16 : Nat) : Int) * _ ≤ _; omega) (by decide) (dk rfl) ?_
                      refine vl_nil ?_
                      refine va_all [8] (by kernel_rfl) (by simp) ⟨⟨_, rfl, ?_⟩, trivial⟩
                      refine vl_makeSlice rfl rfl rfl rfl rfl (by omega) (by omega) (by show ((1 : Nat) : Int) * _ ≤ _; omega) (by decide) (dk rfl) ?_
                      refine vl_nil ?_
                      refine va_q 11 rfl (by kernel_rfl) (by kernel_rfl) (by kernel_rfl) (q_build rfl rfl rfl rfl rfl) (dk rfl) ?_
                      refine va_all [12] (by kernel_rfl) (by simp) ⟨⟨_, rfl, ?_⟩, trivial⟩
                      refine vl_bslice rfl rfl rfl rfl rfl rfl ⟨rfl, trivial⟩ (by decide) (by decide) (dk rfl) ?_
                      refine vl_nil ?_
                      refine va_all [13] (by kernel_rfl) (by simp) ⟨⟨_, rfl, ?_⟩, trivial⟩
                      refine vl_append rfl rfl rfl rfl (fun _ h => TypeDesc.noConfusion h) rfl rfl rfl (by rw [Nat.zero_add]; exact Nat.le_of_eq (by simp [clo_len])) (src_row rfl rfl rfl rfl) (by show (r.length + 1) * 80 ≤ _; omega) (by show r.length + 1 < _; omega) (dk rfl) ?_
                      refine vl_nil ?_
                      refine va_q 14 rfl (by kernel_rfl) (by kernel_rfl) (by kernel_rfl) (q_fieldAddr 0 rfl rfl rfl rfl (by decide) rfl rfl) (dk rfl) ?_
                      refine va_all [15] (by kernel_rfl) (by simp) ⟨⟨_, rfl, ?_⟩, trivial⟩
                      refine vl_store rfl rfl rfl rfl rfl rfl (Nat.le_of_ble_eq_true rfl) trivial ?_
                      refine vl_nil ?_
                      refine va_done (by kernel_rfl) ?_
                      refine hK14 _ ?_
                      refine wk_weak (Weak.node (m := 24) rfl (congrArg (Vm.Node.mk 6) (app_take (by simp)))) ?_
                      refine wk_weak (Weak.node (m := 21) (nd' := ⟨1, clo ((List.replicate (byteAt t 2) (⟨#[]⟩ : ByteArray)).map strC)⟩) rfl (congrArg (Vm.Node.mk 1) (rep_clo (f := strC) (x := ⟨#[]⟩) (n := byteAt t 2)))) ?_
                      refine wk_weak (Weak.node (m := 22) (nd' := ⟨1, clo ((List.replicate (byteAt t 2) false).map boolC)⟩) rfl (congrArg (Vm.Node.mk 1) (rep_clo (f := boolC) (x := false) (n := byteAt t 2)))) ?_
                      refine wk_weak (Weak.close1 (nm := 24) (i := r.length) (j := 3) (m := 21) (es := (List.replicate (byteAt t 2) (⟨#[]⟩ : ByteArray)).map strC) rfl (app_get (by simp)) rfl rfl (by simp) (by decide)) ?_
                      refine wk_weak (Weak.close1 (nm := 24) (i := r.length) (j := 4) (m := 22) (es := (List.replicate (byteAt t 2) false).map boolC) rfl (set_get (app_lt (by simp))) rfl rfl (by simp) (by decide)) ?_
                      refine wk_weak (Weak.node (m := 24) (nd' := ⟨6, clo ((r ++ [fresh fr t now]).map heldO)⟩) rfl (congrArg (Vm.Node.mk 6) ((List.set_set _).trans ((app_set (by simp)).trans (clo_one (x := fresh fr t now)))))) ?_
                      refine wk_weak (Weak.close1 (nm := 19) (i := 0) (j := 0) (m := 24) (es := (r ++ [fresh fr t now]).map heldO) rfl rfl rfl rfl (by simp) (by decide)) ?_
                      exact ⟨_, ⟨r ++ [fresh fr t now], r.length, ⟨by simp, by simp; omega, .inl ⟨by rw [hr], by rw [hr], hnew⟩⟩, rfl⟩, (Weak.cut _ _ _ (Nat.le_of_ble_eq_true rfl) ⟨⟨rfl, rfl⟩, ⟨rfl, rfl⟩, ⟨rfl, rfl⟩, ⟨rfl, rfl⟩, ⟨rfl, rfl⟩, ⟨rfl, rfl⟩, ⟨rfl, rfl⟩, ⟨rfl, rfl⟩, ⟨rfl, rfl⟩, trivial⟩ ⟨⟨Nat.le_of_ble_eq_true rfl, rfl, belN_all rfl⟩, ⟨Nat.le_of_ble_eq_true rfl, rfl, belN_all rfl⟩, trivial⟩ rfl)⟩
                    · refine vl_makeSlice rfl rfl rfl rfl rfl (by omega) (by omega) (by show ((1 : Nat) : Int) * _ ≤ _; omega) (by decide) (dk rfl) ?_
                      refine vl_nil ?_
                      refine va_all [6] (by kernel_rfl) (by simp) ⟨⟨_, rfl, ?_⟩, trivial⟩
                      refine vl_makeSlice rfl rfl rfl rfl rfl (by omega) (by omega) (by show ((16 : Nat) : Int) * _ ≤ _; omega) (by decide) (dk rfl) ?_
                      refine vl_nil ?_
                      refine va_q 11 rfl (by kernel_rfl) (by kernel_rfl) (by kernel_rfl) (q_build rfl rfl rfl rfl rfl) (dk rfl) ?_
                      refine va_all [12] (by kernel_rfl) (by simp) ⟨⟨_, rfl, ?_⟩, trivial⟩
                      refine vl_bslice rfl rfl rfl rfl rfl rfl ⟨rfl, trivial⟩ (by decide) (by decide) (dk rfl) ?_
                      refine vl_nil ?_
                      refine va_all [13] (by kernel_rfl) (by simp) ⟨⟨_, rfl, ?_⟩, trivial⟩
                      refine vl_append rfl rfl rfl rfl (fun _ h => TypeDesc.noConfusion h) rfl rfl rfl (by rw [Nat.zero_add]; exact Nat.le_of_eq (by simp [clo_len])) (src_row rfl rfl rfl rfl) (by show (r.length + 1) * 80 ≤ _; omega) (by show r.length + 1 < _; omega) (dk rfl) ?_
                      refine vl_nil ?_
                      refine va_q 14 rfl (by kernel_rfl) (by kernel_rfl) (by kernel_rfl) (q_fieldAddr 0 rfl rfl rfl rfl (by decide) rfl rfl) (dk rfl) ?_
                      refine va_all [15] (by kernel_rfl) (by simp) ⟨⟨_, rfl, ?_⟩, trivial⟩
                      refine vl_store rfl rfl rfl rfl rfl rfl (Nat.le_of_ble_eq_true rfl) trivial ?_
                      refine vl_nil ?_
                      refine va_done (by kernel_rfl) ?_
                      refine hK14 _ ?_
                      refine wk_weak (Weak.node (m := 24) rfl (congrArg (Vm.Node.mk 6) (app_take (by simp)))) ?_
                      refine wk_weak (Weak.node (m := 22) (nd' := ⟨1, clo ((List.replicate (byteAt t 2) (⟨#[]⟩ : ByteArray)).map strC)⟩) rfl (congrArg (Vm.Node.mk 1) (rep_clo (f := strC) (x := ⟨#[]⟩) (n := byteAt t 2)))) ?_
                      refine wk_weak (Weak.node (m := 21) (nd' := ⟨1, clo ((List.replicate (byteAt t 2) false).map boolC)⟩) rfl (congrArg (Vm.Node.mk 1) (rep_clo (f := boolC) (x := false) (n := byteAt t 2)))) ?_
                      refine wk_weak (Weak.close1 (nm := 24) (i := r.length) (j := 3) (m := 22) (es := (List.replicate (byteAt t 2) (⟨#[]⟩ : ByteArray)).map strC) rfl (app_get (by simp)) rfl rfl (by simp) (by decide)) ?_
                      refine wk_weak (Weak.close1 (nm := 24) (i := r.length) (j := 4) (m := 21) (es := (List.replicate (byteAt t 2) false).map boolC) rfl (set_get (app_lt (by simp))) rfl rfl (by simp) (by decide)) ?_
                      refine wk_weak (Weak.node (m := 24) (nd' := ⟨6, clo ((r ++ [fresh fr t now]).map heldO)⟩) rfl (congrArg (Vm.Node.mk 6) ((List.set_set _).trans ((app_set (by simp)).trans (clo_one (x := fresh fr t now)))))) ?_
                      refine wk_weak (Weak.close1 (nm := 19) (i := 0) (j := 0) (m := 24) (es := (r ++ [fresh fr t now]).map heldO) rfl rfl rfl rfl (by simp) (by decide)) ?_
                      exact ⟨_, ⟨r ++ [fresh fr t now], r.length, ⟨by simp, by simp; omega, .inl ⟨by rw [hr], by rw [hr], hnew⟩⟩, rfl⟩, (Weak.cut _ _ _ (Nat.le_of_ble_eq_true rfl) ⟨⟨rfl, rfl⟩, ⟨rfl, rfl⟩, ⟨rfl, rfl⟩, ⟨rfl, rfl⟩, ⟨rfl, rfl⟩, ⟨rfl, rfl⟩, ⟨rfl, rfl⟩, ⟨rfl, rfl⟩, ⟨rfl, rfl⟩, trivial⟩ ⟨⟨Nat.le_of_ble_eq_true rfl, rfl, belN_all rfl⟩, ⟨Nat.le_of_ble_eq_true rfl, rfl, belN_all rfl⟩, trivial⟩ rfl)⟩
                  · refine vl_makeSlice rfl rfl rfl rfl rfl (by omega) (by omega) (by show ((16 : Nat) : Int) * _ ≤ _; omega) (by decide) (dk rfl) ?_
                    refine vl_nil ?_
                    refine va_all [1, 8] (by kernel_rfl) (by simp) ⟨⟨_, rfl, ?_⟩, ⟨_, rfl, ?_⟩, trivial⟩
                    · refine vl_load rfl rfl rfl rfl rfl rfl rfl (by decide) (dk rfl) ?_
                      refine vl_nil ?_
                      refine va_all [8] (by kernel_rfl) (by simp) ⟨⟨_, rfl, ?_⟩, trivial⟩
                      refine vl_makeSlice rfl rfl rfl rfl rfl (by omega) (by omega) (by show ((1 : Nat) : Int) * _ ≤ _; omega) (by decide) (dk rfl) ?_
                      refine vl_nil ?_
                      refine va_q 11 rfl (by kernel_rfl) (by kernel_rfl) (by kernel_rfl) (q_build rfl rfl rfl rfl rfl) (dk rfl) ?_
                      refine va_all [12] (by kernel_rfl) (by simp) ⟨⟨_, rfl, ?_⟩, trivial⟩
                      refine vl_bslice rfl rfl rfl rfl rfl rfl ⟨rfl, trivial⟩ (by decide) (by decide) (dk rfl) ?_
                      refine vl_nil ?_
                      refine va_all [13] (by kernel_rfl) (by simp) ⟨⟨_, rfl, ?_⟩, trivial⟩
                      refine vl_append rfl rfl rfl rfl (fun _ h => TypeDesc.noConfusion h) rfl rfl rfl (by rw [Nat.zero_add]; exact Nat.le_of_eq (by simp [clo_len])) (src_row rfl rfl rfl rfl) (by show (r.length + 1) * 80 ≤ _; omega) (by show r.length + 1 < _; omega) (dk rfl) ?_
                      refine vl_nil ?_
                      refine va_q 14 rfl (by kernel_rfl) (by kernel_rfl) (by kernel_rfl) (q_fieldAddr 0 rfl rfl rfl rfl (by decide) rfl rfl) (dk rfl) ?_
                      refine va_all [15] (by kernel_rfl) (by simp) ⟨⟨_, rfl, ?_⟩, trivial⟩
                      refine vl_store rfl rfl rfl rfl rfl rfl (Nat.le_of_ble_eq_true rfl) trivial ?_
                      refine vl_nil ?_
                      refine va_done (by kernel_rfl) ?_
                      refine hK14 _ ?_
                      refine wk_weak (Weak.node (m := 24) rfl (congrArg (Vm.Node.mk 6) (app_take (by simp)))) ?_
                      refine wk_weak (Weak.node (m := 21) (nd' := ⟨1, clo ((List.replicate (byteAt t 2) (⟨#[]⟩ : ByteArray)).map strC)⟩) rfl (congrArg (Vm.Node.mk 1) (rep_clo (f := strC) (x := ⟨#[]⟩) (n := byteAt t 2)))) ?_
                      refine wk_weak (Weak.node (m := 22) (nd' := ⟨1, clo ((List.replicate (byteAt t 2) false).map boolC)⟩) rfl (congrArg (Vm.Node.mk 1) (rep_clo (f := boolC) (x := false) (n := byteAt t 2)))) ?_
                      refine wk_weak (Weak.close1 (nm := 24) (i := r.length) (j := 3) (m := 21) (es := (List.replicate (byteAt t 2) (⟨#[]⟩ : ByteArray)).map strC) rfl (app_get (by simp)) rfl rfl (by simp) (by decide)) ?_
                      refine wk_weak (Weak.close1 (nm := 24) (i := r.length) (j := 4) (m := 22) (es := (List.replicate (byteAt t 2) false).map boolC) rfl (set_get (app_lt (by simp))) rfl rfl (by simp) (by decide)) ?_
                      refine wk_weak (Weak.node (m := 24) (nd' := ⟨6, clo ((r ++ [fresh fr t now]).map heldO)⟩) rfl (congrArg (Vm.Node.mk 6) ((List.set_set _).trans ((app_set (by simp)).trans (clo_one (x := fresh fr t now)))))) ?_
                      refine wk_weak (Weak.close1 (nm := 19) (i := 0) (j := 0) (m := 24) (es := (r ++ [fresh fr t now]).map heldO) rfl rfl rfl rfl (by simp) (by decide)) ?_
                      exact ⟨_, ⟨r ++ [fresh fr t now], r.length, ⟨by simp, by simp; omega, .inl ⟨by rw [hr], by rw [hr], hnew⟩⟩, rfl⟩, (Weak.cut _ _ _ (Nat.le_of_ble_eq_true rfl) ⟨⟨rfl, rfl⟩, ⟨rfl, rfl⟩, ⟨rfl, rfl⟩, ⟨rfl, rfl⟩, ⟨rfl, rfl⟩, ⟨rfl, rfl⟩, ⟨rfl, rfl⟩, ⟨rfl, rfl⟩, ⟨rfl, rfl⟩, trivial⟩ ⟨⟨Nat.le_of_ble_eq_true rfl, rfl, belN_all rfl⟩, ⟨Nat.le_of_ble_eq_true rfl, rfl, belN_all rfl⟩, trivial⟩ rfl)⟩
                    · refine vl_makeSlice rfl rfl rfl rfl rfl (by omega) (by omega) (by show ((1 : Nat) : Int) * _ ≤ _; omega) (by decide) (dk rfl) ?_
                      refine vl_nil ?_
                      refine va_q 11 rfl (by kernel_rfl) (by kernel_rfl) (by kernel_rfl) (q_build rfl rfl rfl rfl rfl) (dk rfl) ?_
                      refine va_all [1, 12] (by kernel_rfl) (by simp) ⟨⟨_, rfl, ?_⟩, ⟨_, rfl, ?_⟩, trivial⟩
                      · refine vl_load rfl rfl rfl rfl rfl rfl rfl (by decide) (dk rfl) ?_
                        refine vl_nil ?_
                        refine va_all [12] (by kernel_rfl) (by simp) ⟨⟨_, rfl, ?_⟩, trivial⟩
                        refine vl_bslice rfl rfl rfl rfl rfl rfl ⟨rfl, trivial⟩ (by decide) (by decide) (dk rfl) ?_
                        refine vl_nil ?_
                        refine va_all [13] (by kernel_rfl) (by simp) ⟨⟨_, rfl, ?_⟩, trivial⟩
                        refine vl_append rfl rfl rfl rfl (fun _ h => TypeDesc.noConfusion h) rfl rfl rfl (by rw [Nat.zero_add]; exact Nat.le_of_eq (by simp [clo_len])) (src_row rfl rfl rfl rfl) (by show (r.length + 1) * 80 ≤ _; omega) (by show r.length + 1 < _; omega) (dk rfl) ?_
                        refine vl_nil ?_
                        refine va_q 14 rfl (by kernel_rfl) (by kernel_rfl) (by kernel_rfl) (q_fieldAddr 0 rfl rfl rfl rfl (by decide) rfl rfl) (dk rfl) ?_
                        refine va_all [15] (by kernel_rfl) (by simp) ⟨⟨_, rfl, ?_⟩, trivial⟩
                        refine vl_store rfl rfl rfl rfl rfl rfl (Nat.le_of_ble_eq_true rfl) trivial ?_
                        refine vl_nil ?_
                        refine va_done (by kernel_rfl) ?_
                        refine hK14 _ ?_
                        refine wk_weak (Weak.node (m := 24) rfl (congrArg (Vm.Node.mk 6) (app_take (by simp)))) ?_
                        refine wk_weak (Weak.node (m := 21) (nd' := ⟨1, clo ((List.replicate (byteAt t 2) (⟨#[]⟩ : ByteArray)).map strC)⟩) rfl (congrArg (Vm.Node.mk 1) (rep_clo (f := strC) (x := ⟨#[]⟩) (n := byteAt t 2)))) ?_
                        refine wk_weak (Weak.node (m := 22) (nd' := ⟨1, clo ((List.replicate (byteAt t 2) false).map boolC)⟩) rfl (congrArg (Vm.Node.mk 1) (rep_clo (f := boolC) (x := false) (n := byteAt t 2)))) ?_
                        refine wk_weak (Weak.close1 (nm := 24) (i := r.length) (j := 3) (m := 21) (es := (List.replicate (byteAt t 2) (⟨#[]⟩ : ByteArray)).map strC) rfl (app_get (by simp)) rfl rfl (by simp) (by decide)) ?_
                        refine wk_weak (Weak.close1 (nm := 24) (i := r.length) (j := 4) (m := 22) (es := (List.replicate (byteAt t 2) false).map boolC) rfl (set_get (app_lt (by simp))) rfl rfl (by simp) (by decide)) ?_
                        refine wk_weak (Weak.node (m := 24) (nd' := ⟨6, clo ((r ++ [fresh fr t now]).map heldO)⟩) rfl (congrArg (Vm.Node.mk 6) ((List.set_set _).trans ((app_set (by simp)).trans (clo_one (x := fresh fr t now)))))) ?_
                        refine wk_weak (Weak.close1 (nm := 19) (i := 0) (j := 0) (m := 24) (es := (r ++ [fresh fr t now]).map heldO) rfl rfl rfl rfl (by simp) (by decide)) ?_
                        exact ⟨_, ⟨r ++ [fresh fr t now], r.length, ⟨by simp, by simp; omega, .inl ⟨by rw [hr], by rw [hr], hnew⟩⟩, rfl⟩, (Weak.cut _ _ _ (Nat.le_of_ble_eq_true rfl) ⟨⟨rfl, rfl⟩, ⟨rfl, rfl⟩, ⟨rfl, rfl⟩, ⟨rfl, rfl⟩, ⟨rfl, rfl⟩, ⟨rfl, rfl⟩, ⟨rfl, rfl⟩, ⟨rfl, rfl⟩, ⟨rfl, rfl⟩, trivial⟩ ⟨⟨Nat.le_of_ble_eq_true rfl, rfl, belN_all rfl⟩, ⟨Nat.le_of_ble_eq_true rfl, rfl, belN_all rfl⟩, trivial⟩ rfl)⟩
                      · refine vl_bslice rfl rfl rfl rfl rfl rfl ⟨rfl, trivial⟩ (by decide) (by decide) (dk rfl) ?_
                        refine vl_nil ?_
                        refine va_all [1] (by kernel_rfl) (by simp) ⟨⟨_, rfl, ?_⟩, trivial⟩
                        refine vl_load rfl rfl rfl rfl rfl rfl rfl (by decide) (dk rfl) ?_
                        refine vl_nil ?_
                        refine va_all [13] (by kernel_rfl) (by simp) ⟨⟨_, rfl, ?_⟩, trivial⟩
                        refine vl_append rfl rfl rfl rfl (fun _ h => TypeDesc.noConfusion h) rfl rfl rfl (by rw [Nat.zero_add]; exact Nat.le_of_eq (by simp [clo_len])) (src_row rfl rfl rfl rfl) (by show (r.length + 1) * 80 ≤ _; omega) (by show r.length + 1 < _; omega) (dk rfl) ?_
                        refine vl_nil ?_
                        refine va_q 14 rfl (by kernel_rfl) (by kernel_rfl) (by kernel_rfl) (q_fieldAddr 0 rfl rfl rfl rfl (by decide) rfl rfl) (dk rfl) ?_
                        refine va_all [15] (by kernel_rfl) (by simp) ⟨⟨_, rfl, ?_⟩, trivial⟩
                        refine vl_store rfl rfl rfl rfl rfl rfl (Nat.le_of_ble_eq_true rfl) trivial ?_
                        refine vl_nil ?_
                        refine va_done (by kernel_rfl) ?_
                        refine hK14 _ ?_
                        refine wk_weak (Weak.node (m := 24) rfl (congrArg (Vm.Node.mk 6) (app_take (by simp)))) ?_
                        refine wk_weak (Weak.node (m := 21) (nd' := ⟨1, clo ((List.replicate (byteAt t 2) (⟨#[]⟩ : ByteArray)).map strC)⟩) rfl (congrArg (Vm.Node.mk 1) (rep_clo (f := strC) (x := ⟨#[]⟩) (n := byteAt t 2)))) ?_
                        refine wk_weak (Weak.node (m := 22) (nd' := ⟨1, clo ((List.replicate (byteAt t 2) false).map boolC)⟩) rfl (congrArg (Vm.Node.mk 1) (rep_clo (f := boolC) (x := false) (n := byteAt t 2)))) ?_
                        refine wk_weak (Weak.close1 (nm := 24) (i := r.length) (j := 3) (m := 21) (es := (List.replicate (byteAt t 2) (⟨#[]⟩ : ByteArray)).map strC) rfl (app_get (by simp)) rfl rfl (by simp) (by decide)) ?_
                        refine wk_weak (Weak.close1 (nm := 24) (i := r.length) (j := 4) (m := 22) (es := (List.replicate (byteAt t 2) false).map boolC) rfl (set_get (app_lt (by simp))) rfl rfl (by simp) (by decide)) ?_
                        refine wk_weak (Weak.node (m := 24) (nd' := ⟨6, clo ((r ++ [fresh fr t now]).map heldO)⟩) rfl (congrArg (Vm.Node.mk 6) ((List.set_set _).trans ((app_set (by simp)).trans (clo_one (x := fresh fr t now)))))) ?_
                        refine wk_weak (Weak.close1 (nm := 19) (i := 0) (j := 0) (m := 24) (es := (r ++ [fresh fr t now]).map heldO) rfl rfl rfl rfl (by simp) (by decide)) ?_
                        exact ⟨_, ⟨r ++ [fresh fr t now], r.length, ⟨by simp, by simp; omega, .inl ⟨by rw [hr], by rw [hr], hnew⟩⟩, rfl⟩, (Weak.cut _ _ _ (Nat.le_of_ble_eq_true rfl) ⟨⟨rfl, rfl⟩, ⟨rfl, rfl⟩, ⟨rfl, rfl⟩, ⟨rfl, rfl⟩, ⟨rfl, rfl⟩, ⟨rfl, rfl⟩, ⟨rfl, rfl⟩, ⟨rfl, rfl⟩, ⟨rfl, rfl⟩, trivial⟩ ⟨⟨Nat.le_of_ble_eq_true rfl, rfl, belN_all rfl⟩, ⟨Nat.le_of_ble_eq_true rfl, rfl, belN_all rfl⟩, trivial⟩ rfl)⟩
                  · refine vl_makeSlice rfl rfl rfl rfl rfl (by omega) (by omega) (by show ((1 : Nat) : Int) * _ ≤ _; omega) (by decide) (dk rfl) ?_
                    refine vl_nil ?_
                    refine va_all [1, 6] (by kernel_rfl) (by simp) ⟨⟨_, rfl, ?_⟩, ⟨_, rfl, ?_⟩, trivial⟩
                    · refine vl_load rfl rfl rfl rfl rfl rfl rfl (by decide) (dk rfl) ?_
                      refine vl_nil ?_
                      refine va_all [6] (by kernel_rfl) (by simp) ⟨⟨_, rfl, ?_⟩, trivial⟩
                      refine vl_makeSlice rfl rfl rfl rfl rfl (by omega) (by omega) (by show ((16 : Nat) : Int) * _ ≤ _; omega) (by decide) (dk rfl) ?_
                      refine vl_nil ?_
                      refine va_q 11 rfl (by kernel_rfl) (by kernel_rfl) (by kernel_rfl) (q_build rfl rfl rfl rfl rfl) (dk rfl) ?_
                      refine va_all [12] (by kernel_rfl) (by simp) ⟨⟨_, rfl, ?_⟩, trivial⟩
                      refine vl_bslice rfl rfl rfl rfl rfl rfl ⟨rfl, trivial⟩ (by decide) (by decide) (dk rfl) ?_
                      refine vl_nil ?_
                      refine va_all [13] (by kernel_rfl) (by simp) ⟨⟨_, rfl, ?_⟩, trivial⟩
                      refine vl_append rfl rfl rfl rfl (fun _ h => TypeDesc.noConfusion h) rfl rfl rfl (by rw [Nat.zero_add]; exact Nat.le_of_eq (by simp [clo_len])) (src_row rfl rfl rfl rfl) (by show (r.length + 1) * 80 ≤ _; omega) (by show r.length + 1 < _; omega) (dk rfl) ?_
                      refine vl_nil ?_
                      refine va_q 14 rfl (by kernel_rfl) (by kernel_rfl) (by kernel_rfl) (q_fieldAddr 0 rfl rfl rfl rfl (by decide) rfl rfl) (dk rfl) ?_
                      refine va_all [15] (by kernel_rfl) (by simp) ⟨⟨_, rfl, ?_⟩, trivial⟩
                      refine vl_store rfl rfl rfl rfl rfl rfl (Nat.le_of_ble_eq_true rfl) trivial ?_
                      refine vl_nil ?_
                      refine va_done (by kernel_rfl) ?_
                      refine hK14 _ ?_
                      refine wk_weak (Weak.node (m := 24) rfl (congrArg (Vm.Node.mk 6) (app_take (by simp)))) ?_
                      refine wk_weak (Weak.node (m := 22) (nd' := ⟨1, clo ((List.replicate (byteAt t 2) (⟨#[]⟩ : ByteArray)).map strC)⟩) rfl (congrArg (Vm.Node.mk 1) (rep_clo (f := strC) (x := ⟨#[]⟩) (n := byteAt t 2)))) ?_
                      refine wk_weak (Weak.node (m := 21) (nd' := ⟨1, clo ((List.replicate (byteAt t 2) false).map boolC)⟩) rfl (congrArg (Vm.Node.mk 1) (rep_clo (f := boolC) (x := false) (n := byteAt t 2)))) ?_
                      refine wk_weak (Weak.close1 (nm := 24) (i := r.length) (j := 3) (m := 22) (es := (List.replicate (byteAt t 2) (⟨#[]⟩ : ByteArray)).map strC) rfl (app_get (by simp)) rfl rfl (by simp) (by decide)) ?_
                      refine wk_weak (Weak.close1 (nm := 24) (i := r.length) (j := 4) (m := 21) (es := (List.replicate (byteAt t 2) false).map boolC) rfl (set_get (app_lt (by simp))) rfl rfl (by simp) (by decide)) ?_
                      refine wk_weak (Weak.node (m := 24) (nd' := ⟨6, clo ((r ++ [fresh fr t now]).map heldO)⟩) rfl (congrArg (Vm.Node.mk 6) ((List.set_set _).trans ((app_set (by simp)).trans (clo_one (x := fresh fr t now)))))) ?_
                      refine wk_weak (Weak.close1 (nm := 19) (i := 0) (j := 0) (m := 24) (es := (r ++ [fresh fr t now]).map heldO) rfl rfl rfl rfl (by simp) (by decide)) ?_
                      exact ⟨_, ⟨r ++ [fresh fr t now], r.length, ⟨by simp, by simp; omega, .inl ⟨by rw [hr], by rw [hr], hnew⟩⟩, rfl⟩, (Weak.cut _ _ _ (Nat.le_of_ble_eq_true rfl) ⟨⟨rfl, rfl⟩, ⟨rfl, rfl⟩, ⟨rfl, rfl⟩, ⟨rfl, rfl⟩, ⟨rfl, rfl⟩, ⟨rfl, rfl⟩, ⟨rfl, rfl⟩, ⟨rfl, rfl⟩, ⟨rfl, rfl⟩, trivial⟩ ⟨⟨Nat.le_of_ble_eq_true rfl, rfl, belN_all rfl⟩, ⟨Nat.le_of_ble_eq_true rfl, rfl, belN_all rfl⟩, trivial⟩ rfl)⟩
                    · refine vl_makeSlice rfl rfl rfl rfl rfl (by omega) (by omega) (by show ((16 : Nat) : Int) * _ ≤ _; omega) (by decide) (dk rfl) ?_
                      refine vl_nil ?_
                      refine va_q 11 rfl (by kernel_rfl) (by kernel_rfl) (by kernel_rfl) (q_build rfl rfl rfl rfl rfl) (dk rfl) ?_
                      refine va_all [1, 12] (by kernel_rfl) (by simp) ⟨⟨_, rfl, ?_⟩, ⟨_, rfl, ?_⟩, trivial⟩
                      · refine vl_load rfl rfl rfl rfl rfl rfl rfl (by decide) (dk rfl) ?_
                        refine vl_nil ?_
                        refine va_all [12] (by kernel_rfl) (by simp) ⟨⟨_, rfl, ?_⟩, trivial⟩
                        refine vl_bslice rfl rfl rfl rfl rfl rfl ⟨rfl, trivial⟩ (by decide) (by decide) (dk rfl) ?_
                        refine vl_nil ?_
                        refine va_all [13] (by kernel_rfl) (by simp) ⟨⟨_, rfl, ?_⟩, trivial⟩
                        refine vl_append rfl rfl rfl rfl (fun _ h => TypeDesc.noConfusion h) rfl rfl rfl (by rw [Nat.zero_add]; exact Nat.le_of_eq (by simp [clo_len])) (src_row rfl rfl rfl rfl) (by show (r.length + 1) * 80 ≤ _; omega) (by show r.length + 1 < _; omega) (dk rfl) ?_
                        refine vl_nil ?_
                        refine va_q 14 rfl (by kernel_rfl) (by kernel_rfl) (by kernel_rfl) (q_fieldAddr 0 rfl rfl rfl rfl (by decide) rfl rfl) (dk rfl) ?_
                        refine va_all [15] (by kernel_rfl) (by simp) ⟨⟨_, rfl, ?_⟩, trivial⟩
                        refine vl_store rfl rfl rfl rfl rfl rfl (Nat.le_of_ble_eq_true rfl) trivial ?_
                        refine vl_nil ?_
                        refine va_done (by kernel_rfl) ?_
                        refine hK14 _ ?_
                        refine wk_weak (Weak.node (m := 24) rfl (congrArg (Vm.Node.mk 6) (app_take (by simp)))) ?_
                        refine wk_weak (Weak.node (m := 22) (nd' := ⟨1, clo ((List.replicate (byteAt t 2) (⟨#[]⟩ : ByteArray)).map strC)⟩) rfl (congrArg (Vm.Node.mk 1) (rep_clo (f := strC) (x := ⟨#[]⟩) (n := byteAt t 2)))) ?_
                        refine wk_weak (Weak.node (m := 21) (nd' := ⟨1, clo ((List.replicate (byteAt t 2) false).map boolC)⟩) rfl (congrArg (Vm.Node.mk 1) (rep_clo (f := boolC) (x := false) (n := byteAt t 2)))) ?_
                        refine wk_weak (Weak.close1 (nm := 24) (i := r.length) (j := 3) (m := 22) (es := (List.replicate (byteAt t 2) (⟨#[]⟩ : ByteArray)).map strC) rfl (app_get (by simp)) rfl rfl (by simp) (by decide)) ?_
                        refine wk_weak (Weak.close1 (nm := 24) (i := r.length) (j := 4) (m := 21) (es := (List.replicate (byteAt t 2) false).map boolC) rfl (set_get (app_lt (by simp))) rfl rfl (by simp) (by decide)) ?_
                        refine wk_weak (Weak.node (m := 24) (nd' := ⟨6, clo ((r ++ [fresh fr t now]).map heldO)⟩) rfl (congrArg (Vm.Node.mk 6) ((List.set_set _).trans ((app_set (by simp)).trans (clo_one (x := fresh fr t now)))))) ?_
                        refine wk_weak (Weak.close1 (nm := 19) (i := 0) (j := 0) (m := 24) (es := (r ++ [fresh fr t now]).map heldO) rfl rfl rfl rfl (by simp) (by decide)) ?_
                        exact ⟨_, ⟨r ++ [fresh fr t now], r.length, ⟨by simp, by simp; omega, .inl ⟨by rw [hr], by rw [hr], hnew⟩⟩, rfl⟩, (Weak.cut _ _ _ (Nat.le_of_ble_eq_true rfl) ⟨⟨rfl, rfl⟩, ⟨rfl, rfl⟩, ⟨rfl, rfl⟩, ⟨rfl, rfl⟩, ⟨rfl, rfl⟩, ⟨rfl, rfl⟩, ⟨rfl, rfl⟩, ⟨rfl, rfl⟩, ⟨rfl, rfl⟩, trivial⟩ ⟨⟨Nat.le_of_ble_eq_true rfl, rfl, belN_all rfl⟩, ⟨Nat.le_of_ble_eq_true rfl, rfl, belN_all rfl⟩, trivial⟩ rfl)⟩
                      · refine vl_bslice rfl rfl rfl rfl rfl rfl ⟨rfl, trivial⟩ (by decide) (by decide) (dk rfl) ?_
                        refine vl_nil ?_
                        refine va_all [1] (by kernel_rfl) (by simp) ⟨⟨_, rfl, ?_⟩, trivial⟩
                        refine vl_load rfl rfl rfl rfl rfl rfl rfl (by decide) (dk rfl) ?_
                        refine vl_nil ?_
                        refine va_all [13] (by kernel_rfl) (by simp) ⟨⟨_, rfl, ?_⟩, trivial⟩
                        refine vl_append rfl rfl rfl rfl (fun _ h => TypeDesc.noConfusion h) rfl rfl rfl (by rw [Nat.zero_add]; exact Nat.le_of_eq (by simp [clo_len])) (src_row rfl rfl rfl rfl) (by show (r.length + 1) * 80 ≤ _; omega) (by show r.length + 1 < _; omega) (dk rfl) ?_
                        refine vl_nil ?_
                        refine va_q 14 rfl (by kernel_rfl) (by kernel_rfl) (by kernel_rfl) (q_fieldAddr 0 rfl rfl rfl rfl (by decide) rfl rfl) (dk rfl) ?_
                        refine va_all [15] (by kernel_rfl) (by simp) ⟨⟨_, rfl, ?_⟩, trivial⟩
                        refine vl_store rfl rfl rfl rfl rfl rfl (Nat.le_of_ble_eq_true rfl) trivial ?_
                        refine vl_nil ?_
                        refine va_done (by kernel_rfl) ?_
                        refine hK14 _ ?_
                        refine wk_weak (Weak.node (m := 24) rfl (congrArg (Vm.Node.mk 6) (app_take (by simp)))) ?_
                        refine wk_weak (Weak.node (m := 22) (nd' := ⟨1, clo ((List.replicate (byteAt t 2) (⟨#[]⟩ : ByteArray)).map strC)⟩) rfl (congrArg (Vm.Node.mk 1) (rep_clo (f := strC) (x := ⟨#[]⟩) (n := byteAt t 2)))) ?_
                        refine wk_weak (Weak.node (m := 21) (nd' := ⟨1, clo ((List.replicate (byteAt t 2) false).map boolC)⟩) rfl (congrArg (Vm.Node.mk 1) (rep_clo (f := boolC) (x := false) (n := byteAt t 2)))) ?_
                        refine wk_weak (Weak.close1 (nm := 24) (i := r.length) (j := 3) (m := 22) (es := (List.replicate (byteAt t 2) (⟨#[]⟩ : ByteArray)).map strC) rfl (app_get (by simp)) rfl rfl (by simp) (by decide)) ?_
                        refine wk_weak (Weak.close1 (nm := 24) (i := r.length) (j := 4) (m := 21) (es := (List.replicate (byteAt t 2) false).map boolC) rfl (set_get (app_lt (by simp))) rfl rfl (by simp) (by decide)) ?_
                        refine wk_weak (Weak.node (m := 24) (nd' := ⟨6, clo ((r ++ [fresh fr t now]).map heldO)⟩) rfl (congrArg (Vm.Node.mk 6) ((List.set_set _).trans ((app_set (by simp)).trans (clo_one (x := fresh fr t now)))))) ?_
                        refine wk_weak (Weak.close1 (nm := 19) (i := 0) (j := 0) (m := 24) (es := (r ++ [fresh fr t now]).map heldO) rfl rfl rfl rfl (by simp) (by decide)) ?_
                        exact ⟨_, ⟨r ++ [fresh fr t now], r.length, ⟨by simp, by simp; omega, .inl ⟨by rw [hr], by rw [hr], hnew⟩⟩, rfl⟩, (Weak.cut _ _ _ (Nat.le_of_ble_eq_true rfl) ⟨⟨rfl, rfl⟩, ⟨rfl, rfl⟩, ⟨rfl, rfl⟩, ⟨rfl, rfl⟩, ⟨rfl, rfl⟩, ⟨rfl, rfl⟩, ⟨rfl, rfl⟩, ⟨rfl, rfl⟩, ⟨rfl, rfl⟩, trivial⟩ ⟨⟨Nat.le_of_ble_eq_true rfl, rfl, belN_all rfl⟩, ⟨Nat.le_of_ble_eq_true rfl, rfl, belN_all rfl⟩, trivial⟩ rfl)⟩
                · replace h81 := lss_nof h81
                  obtain ⟨i, hil, rfl, rfl, hix, hct⟩ := hc.resolve_left (fun h => by omega)
                  refine vl_nil ?_
                  refine hK15 _ ?_
                  refine vc_cond_false rfl ?_
                  refine vc_skip ?_
                  refine hK14 _ ?_
                  exact ⟨_, ⟨l1, i, ⟨hil, hl13, .inr ⟨rfl, hix, fun _ => hct⟩⟩, rfl⟩, (Weak.cut _ _ _ (Nat.le_of_ble_eq_true rfl) ⟨⟨rfl, rfl⟩, ⟨rfl, rfl⟩, ⟨rfl, rfl⟩, ⟨rfl, rfl⟩, ⟨rfl, rfl⟩, ⟨rfl, rfl⟩, ⟨rfl, rfl⟩, ⟨rfl, rfl⟩, ⟨rfl, rfl⟩, trivial⟩ ⟨⟨Nat.le_of_ble_eq_true rfl, rfl, belN_all rfl⟩, ⟨Nat.le_of_ble_eq_true rfl, rfl, belN_all rfl⟩, trivial⟩ rfl)⟩
              obtain ⟨l3, a, ⟨hal, hl33, hfl⟩, rfl⟩ := hI
              refine vc_seq fun K20 hK20 => ?_
              have hac : a < (clo (l3.map heldO)).length := by simp [clo_len]; exact hal
              obtain ⟨hhl, hpl⟩ := fill_len hsg hfl hal
              have hph : byteAt t 1 < l3[a].hav.length := by omega
              have hpp : byteAt t 1 < l3[a].parts.length := by omega
              refine vc_region ?_
              refine vl_q (q_fieldAddr 0 rfl rfl rfl rfl (by decide) rfl rfl) (dk rfl) ?_
              refine vl_open (nm := 19) (i := 0) (j := 0) rfl rfl rfl rfl rfl rfl ?_
              simp only [List.set_set, List.length_map, Int.toNat_natCast, Nat.add_zero]
              refine vl_load rfl rfl rfl rfl rfl rfl rfl (by decide) (dk rfl) ?_
              refine vl_q (q_move rfl) (dk rfl) ?_
              refine vl_q (q_indexAddr rfl rfl rfl rfl rfl rfl rfl (by omega) (by omega)) (dk rfl) ?_
              try simp only [List.set_set, List.length_map, Int.toNat_natCast, Nat.add_zero]
              refine vl_q (q_assign rfl) (dk rfl) ?_
              refine vl_nil ?_
              refine hK20 _ ?_
              refine vc_seq fun K21 hK21 => ?_
              refine vc_seq fun K22 hK22 => ?_
              refine vc_region ?_
              refine vl_q (q_move rfl) (dk rfl) ?_
              refine vl_q (q_nilCheck rfl rfl) (dk rfl) ?_
              refine vl_q (q_fieldAddr 4 rfl rfl rfl rfl (by decide) rfl rfl) (dk rfl) ?_
              refine vl_open (nm := 20) (i := a) (j := 4) rfl rfl rfl (clo_get hal) rfl rfl ?_
              simp only [List.set_set, List.length_map, Int.toNat_natCast, Nat.add_zero]
              refine vl_load rfl rfl rfl (set_get hac) rfl rfl rfl (by decide) (dk rfl) ?_
              refine vl_q (q_move rfl) (dk rfl) ?_
              refine vl_q (q_indexAddr rfl rfl rfl rfl rfl rfl rfl (by omega) (by omega)) (dk rfl) ?_
              try simp only [List.set_set, List.length_map, Int.toNat_natCast, Nat.add_zero]
              refine vl_load rfl rfl rfl (clo_get hph) rfl rfl rfl (by decide) (dk rfl) ?_
              refine vl_bool 118 rfl (fun h118 => ?_) (fun h118 => ?_)
              · have hbt : l3[a].hav[byteAt t 1] = true := h118
                refine vl_q (q_not rfl) (dk rfl) ?_
                refine vl_nil ?_
                refine hK22 _ ?_
                refine vc_cond_false rfl ?_
                refine vc_skip ?_
                refine hK21 _ ?_
                refine vc_seq fun K23 hK23 => ?_
                refine vc_seq fun K24 hK24 => ?_
                have hy := put_t (s := part t) hph hbt
                refine vc_region ?_
                refine vl_q (q_move rfl) (dk rfl) ?_
                refine vl_q (q_nilCheck rfl rfl) (dk rfl) ?_
                refine vl_q (q_fieldAddr 4 rfl rfl rfl rfl (by decide) rfl rfl) (dk rfl) ?_
                refine vl_load rfl rfl rfl (set_get hac) rfl rfl rfl (by decide) (dk rfl) ?_
                refine vl_callP (c_Contains_bool l3[a].hav false) rfl rfl ⟨XOk.snapH rfl (by simp) (by simp) (map_wid fun _ => rfl) (boolsC_shr _), XOk.val _, trivial⟩ rfl (.inl rfl) (dk rfl) ?_
                refine vl_bool 137 rfl (fun h137 => ?_) (fun h137 => ?_)
                · have hnf : (putPart l3[a] (byteAt t 1) (part t)).hav.all id = false := by rw [hy]; exact mem_all h137
                  refine vl_nil ?_
                  refine hK24 _ ?_
                  refine vc_cond_true rfl ?_
                  refine vc_seq fun K25 hK25 => ?_
                  refine vc_weak (Weak.close1 (nm := 20) (i := a) (j := 4) (m := 21) (es := l3[a].hav.map boolC) rfl (set_get hac) rfl rfl (by simp) (by decide)) ?_
                  try simp only [List.set_set, List.length_map, Int.toNat_natCast, Nat.add_zero]
                  refine vc_weak (Weak.node (m := 20) (nd' := ⟨6, clo ((l3.set a (putPart l3[a] (byteAt t 1) (part t))).map heldO)⟩) rfl (congrArg (Vm.Node.mk 6) (by rw [hy, ← clo_set]; rfl))) ?_
                  refine vc_region ?_
                  refine vl_load rfl rfl rfl rfl rfl rfl rfl (by decide) (dk rfl) ?_
                  refine vl_store rfl rfl rfl rfl rfl rfl (Nat.le_of_ble_eq_true rfl) trivial ?_
                  refine vl_q (q_assign rfl) (dk rfl) ?_
                  refine vl_q (q_assign rfl) (dk rfl) ?_
                  refine vl_nil ?_
                  refine hK25 _ ?_
                  refine vc_ret ?_
                  have e : addP l fr t now = (l3.set a (putPart l3[a] (byteAt t 1) (part t)), ⟨#[]⟩, false) := fill_out hok h1 hfl hal hnf
                  refine ret_g [20] rfl (.cons (res_cell rfl rfl rfl rfl rfl rfl rfl (by decide)) (.cons (res_tmp rfl) (.cons (res_tmp rfl) .nil))) (by rw [e]; first | rfl | (simp only [List.length_set]; rfl) | (simp only [List.length_eraseIdx, if_pos hal, hy]; rfl)) rfl (nodupB_ok rfl) ⟨by decide, trivial⟩ ⟨⟨⟨6, clo ((addP l fr t now).1.map heldO)⟩, some_node (by rw [e]), NR.clo _ _ _ _⟩, trivial⟩ trivial (Nat.zero_le _)
                · have hfu : (putPart l3[a] (byteAt t 1) (part t)).hav.all id = true := by rw [hy]; exact nmem_all h137
                  refine vl_nil ?_
                  refine hK24 _ ?_
                  refine vc_cond_false rfl ?_
                  refine vc_skip ?_
                  refine hK23 _ ?_
                  refine vc_seq fun K26 hK26 => ?_
                  have hsz := fill_sz hsg hfl hal hrp (by omega)
                  rw [hy] at hsz
                  try simp only at hsz
                  refine vc_region ?_
                  refine vl_q (q_move rfl) (dk rfl) ?_
                  refine vl_q (q_nilCheck rfl rfl) (dk rfl) ?_
                  refine vl_q (q_fieldAddr 3 rfl rfl rfl rfl (by decide) rfl rfl) (dk rfl) ?_
                  refine vl_open (nm := 20) (i := a) (j := 3) rfl rfl rfl (set_get hac) rfl rfl ?_
                  simp only [List.set_set, List.length_map, Int.toNat_natCast, Nat.add_zero]
                  refine vl_load rfl rfl rfl (set_get hac) rfl rfl rfl (by decide) (dk rfl) ?_
                  refine vl_callP (c_Join l3[a].parts (by first | omega | (rw [List.length_set]; omega)) (by omega)) rfl rfl ⟨XOk.snapH rfl (by simp) (by simp) (map_wid fun _ => rfl) (strsC_shr _), XOk.val _, trivial⟩ rfl (.inl rfl) (dk rfl) ?_
                  refine vl_q (q_assign rfl) (dk rfl) ?_
                  refine vl_nil ?_
                  refine hK26 _ ?_
                  refine vc_seq fun K27 hK27 => ?_
                  refine vc_weak (Weak.close1 (nm := 20) (i := a) (j := 4) (m := 21) (es := l3[a].hav.map boolC) rfl (set_get hac) rfl rfl (by simp) (by decide)) ?_
                  try simp only [List.set_set, List.length_map, Int.toNat_natCast, Nat.add_zero]
                  refine vc_weak (Weak.close1 (nm := 20) (i := a) (j := 3) (m := 22) (es := l3[a].parts.map strC) rfl (set_get hac) rfl rfl (by simp) (by decide)) ?_
                  try simp only [List.set_set, List.length_map, Int.toNat_natCast, Nat.add_zero]
                  refine vc_weak (Weak.node (m := 20) (nd' := ⟨6, clo ((l3.set a (putPart l3[a] (byteAt t 1) (part t))).map heldO)⟩) rfl (congrArg (Vm.Node.mk 6) (by rw [hy, ← clo_set]; rfl))) ?_
                  refine vc_region ?_
                  refine vl_q (q_fieldAddr 0 rfl rfl rfl rfl (by decide) rfl rfl) (dk rfl) ?_
                  refine vl_load rfl rfl rfl rfl rfl rfl rfl (by decide) (dk rfl) ?_
                  refine vl_q (q_move rfl) (dk rfl) ?_
                  refine vl_q (q_move rfl) (dk rfl) ?_
                  refine vl_q (q_add rfl rfl (IntWalk.i64_in _ (by omega))) (dk rfl) ?_
                  refine vl_weak (Weak.lit (d := 148) (y := vv (.int .i64 ((a + 1 : Nat) : Int))) rfl rfl) ?_
                  have hcd := c_Delete (l3.set a (putPart l3[a] (byteAt t 1) (part t))) a (by rw [List.length_set]; exact hal) (by rw [List.length_set]; omega)
                  rw [List.length_set, List.eraseIdx_set_eq] at hcd
                  refine vl_callG [20] (.v (.one (.hdr 23 0 (l3.length - 1)))) hcd rfl rfl ⟨XOk.hdr rfl (by decide) _ _, XOk.val _, XOk.val _, trivial⟩ ⟨⟨_, rfl, NR.clo _ _ _ _⟩, trivial⟩ rfl (by decide) ⟨fix_clo _ _, trivial⟩ trivial rfl (.inl rfl) (dk rfl) ?_
                  refine vl_q (q_fieldAddr 0 rfl rfl rfl rfl (by decide) rfl rfl) (dk rfl) ?_
                  refine vl_store rfl rfl rfl rfl rfl rfl (Nat.le_of_ble_eq_true rfl) trivial ?_
                  refine vl_nil ?_
                  refine hK27 _ ?_
                  refine vc_seq fun K28 hK28 => ?_
                  refine vc_region ?_
                  refine vl_load rfl rfl rfl rfl rfl rfl rfl (by decide) (dk rfl) ?_
                  refine vl_q (q_move rfl) (dk rfl) ?_
                  refine vl_store rfl rfl rfl rfl rfl rfl (Nat.le_of_ble_eq_true rfl) trivial ?_
                  refine vl_q (q_assign rfl) (dk rfl) ?_
                  refine vl_q (q_assign rfl) (dk rfl) ?_
                  refine vl_nil ?_
                  refine hK28 _ ?_
                  refine vc_ret ?_
                  have e : addP l fr t now = (l3.eraseIdx a, catS (putPart l3[a] (byteAt t 1) (part t)).parts, true) := fill_full hok hrp h1 hfl hal hfu
                  refine ret_g [23] rfl (.cons (res_cell rfl rfl rfl rfl rfl rfl rfl (by decide)) (.cons (res_tmp rfl) (.cons (res_tmp rfl) .nil))) (by rw [e]; first | rfl | (simp only [List.length_set]; rfl) | (simp only [List.length_eraseIdx, if_pos hal, hy]; rfl)) rfl (nodupB_ok rfl) ⟨by decide, trivial⟩ ⟨⟨⟨6, clo ((addP l fr t now).1.map heldO)⟩, some_node (by rw [e]), NR.clo _ _ _ _⟩, trivial⟩ trivial (Nat.zero_le _)
              · have hbf : l3[a].hav[byteAt t 1] = false := h118
                refine vl_q (q_not rfl) (dk rfl) ?_
                refine vl_nil ?_
                refine hK22 _ ?_
                refine vc_cond_true rfl ?_
                refine vc_weak (Weak.open1 (nm := 20) (i := a) (j := 3) rfl (set_get hac) rfl) ?_
                simp only [List.set_set, List.length_map, Int.toNat_natCast, Nat.add_zero]
                refine vc_region_any mixed (fun n => Nat.beq n 20) true rfl rfl (fun _ hU29 => hU29) fun w1 S1 L1 Z1 H1 => ?_
                refine va_q 0 rfl (by kernel_rfl) (by kernel_rfl) (by kernel_rfl) (q_move rfl) (dk rfl) ?_
                refine va_q 1 rfl (by kernel_rfl) (by kernel_rfl) (by kernel_rfl) (q_nilCheck rfl rfl) (dk rfl) ?_
                refine va_q 2 rfl (by kernel_rfl) (by kernel_rfl) (by kernel_rfl) (q_fieldAddr 4 rfl rfl rfl rfl (by decide) rfl rfl) (dk rfl) ?_
                refine va_q 3 rfl (by kernel_rfl) (by kernel_rfl) (by kernel_rfl) (q_load rfl rfl rfl (set_get hac) rfl rfl rfl (by decide)) (dk rfl) ?_
                refine va_q 4 rfl (by kernel_rfl) (by kernel_rfl) (by kernel_rfl) (q_move rfl) (dk rfl) ?_
                refine va_q 5 rfl (by kernel_rfl) (by kernel_rfl) (by kernel_rfl) (q_move rfl) (dk rfl) ?_
                refine va_q 6 rfl (by kernel_rfl) (by kernel_rfl) (by kernel_rfl) (q_nilCheck rfl rfl) (dk rfl) ?_
                refine va_q 7 rfl (by kernel_rfl) (by kernel_rfl) (by kernel_rfl) (q_fieldAddr 3 rfl rfl rfl rfl (by decide) rfl rfl) (dk rfl) ?_
                refine va_q 8 rfl (by kernel_rfl) (by kernel_rfl) (by kernel_rfl) (q_load rfl rfl rfl (set_get hac) rfl rfl rfl (by decide)) (dk rfl) ?_
                refine va_q 9 rfl (by kernel_rfl) (by kernel_rfl) (by kernel_rfl) (q_move rfl) (dk rfl) ?_
                refine va_q 10 rfl (by kernel_rfl) (by kernel_rfl) (by kernel_rfl) (q_move rfl) (dk rfl) ?_
                refine va_q 11 rfl (by kernel_rfl) (by kernel_rfl) (by kernel_rfl) (q_indexAddr rfl rfl rfl rfl rfl rfl rfl (by omega) (by omega)) (dk rfl) ?_
                refine va_all [12] (by kernel_rfl) (by simp) ⟨⟨_, rfl, ?_⟩, trivial⟩
                try simp only [List.set_set, List.length_map, Int.toNat_natCast, Nat.add_zero]
                refine vl_store rfl rfl rfl rfl (clo_get hph) rfl (Nat.le_of_ble_eq_true rfl) trivial ?_
                refine vl_nil ?_
                refine va_q 13 rfl (by kernel_rfl) (by kernel_rfl) (by kernel_rfl) (q_indexAddr rfl rfl rfl rfl rfl rfl rfl (by omega) (by omega)) (dk rfl) ?_
                refine va_all [14] (by kernel_rfl) (by simp) ⟨⟨_, rfl, ?_⟩, trivial⟩
                try simp only [List.set_set, List.length_map, Int.toNat_natCast, Nat.add_zero]
                refine vl_store rfl rfl rfl rfl (clo_get hpp) rfl (Nat.le_of_ble_eq_true rfl) trivial ?_
                refine vl_nil ?_
                refine va_done (by kernel_rfl) ?_
                refine hK21 _ ?_
                refine vc_seq fun K30 hK30 => ?_
                refine vc_seq fun K31 hK31 => ?_
                have hy := put_f (s := part t) hph hbf
                refine vc_weak (Weak.node (m := 21) (nd' := ⟨1, clo ((l3[a].hav.set (byteAt t 1) true).map boolC)⟩) rfl (congrArg (Vm.Node.mk 1) (clo_set (f := boolC)))) ?_
                refine vc_weak (Weak.node (m := 22) (nd' := ⟨1, clo ((l3[a].parts.set (byteAt t 1) (part t)).map strC)⟩) rfl (congrArg (Vm.Node.mk 1) (clo_set (f := strC)))) ?_
                refine vc_region ?_
                refine vl_q (q_move rfl) (dk rfl) ?_
                refine vl_q (q_nilCheck rfl rfl) (dk rfl) ?_
                refine vl_q (q_fieldAddr 4 rfl rfl rfl rfl (by decide) rfl rfl) (dk rfl) ?_
                refine vl_load rfl rfl rfl (set_get hac) rfl rfl rfl (by decide) (dk rfl) ?_
                refine vl_callP (c_Contains_bool (l3[a].hav.set (byteAt t 1) true) false) rfl rfl ⟨XOk.snapH rfl (by simp) (by simp) (map_wid fun _ => rfl) (boolsC_shr _), XOk.val _, trivial⟩ rfl (.inl rfl) (dk rfl) ?_
                refine vl_bool 137 rfl (fun h137 => ?_) (fun h137 => ?_)
                · have hnf : (putPart l3[a] (byteAt t 1) (part t)).hav.all id = false := by rw [hy]; exact mem_all h137
                  refine vl_nil ?_
                  refine hK31 _ ?_
                  refine vc_cond_true rfl ?_
                  refine vc_seq fun K32 hK32 => ?_
                  refine vc_weak (Weak.close1 (nm := 20) (i := a) (j := 4) (m := 21) (es := (l3[a].hav.set (byteAt t 1) true).map boolC) rfl (set_get hac) rfl rfl (by simp) (by decide)) ?_
                  try simp only [List.set_set, List.length_map, Int.toNat_natCast, Nat.add_zero]
                  refine vc_weak (Weak.close1 (nm := 20) (i := a) (j := 3) (m := 22) (es := (l3[a].parts.set (byteAt t 1) (part t)).map strC) rfl (set_get hac) rfl rfl (by simp) (by decide)) ?_
                  try simp only [List.set_set, List.length_map, Int.toNat_natCast, Nat.add_zero]
                  refine vc_weak (Weak.node (m := 20) (nd' := ⟨6, clo ((l3.set a (putPart l3[a] (byteAt t 1) (part t))).map heldO)⟩) rfl (congrArg (Vm.Node.mk 6) (by rw [hy, ← clo_set]; rfl))) ?_
                  refine vc_region ?_
                  refine vl_load rfl rfl rfl rfl rfl rfl rfl (by decide) (dk rfl) ?_
                  refine vl_store rfl rfl rfl rfl rfl rfl (Nat.le_of_ble_eq_true rfl) trivial ?_
                  refine vl_q (q_assign rfl) (dk rfl) ?_
                  refine vl_q (q_assign rfl) (dk rfl) ?_
                  refine vl_nil ?_
                  refine hK32 _ ?_
                  refine vc_ret ?_
                  have e : addP l fr t now = (l3.set a (putPart l3[a] (byteAt t 1) (part t)), ⟨#[]⟩, false) := fill_out hok h1 hfl hal hnf
                  refine ret_g [20] rfl (.cons (res_cell rfl rfl rfl rfl rfl rfl rfl (by decide)) (.cons (res_tmp rfl) (.cons (res_tmp rfl) .nil))) (by rw [e]; first | rfl | (simp only [List.length_set]; rfl) | (simp only [List.length_eraseIdx, if_pos hal, hy]; rfl)) rfl (nodupB_ok rfl) ⟨by decide, trivial⟩ ⟨⟨⟨6, clo ((addP l fr t now).1.map heldO)⟩, some_node (by rw [e]), NR.clo _ _ _ _⟩, trivial⟩ trivial (Nat.zero_le _)
                · have hfu : (putPart l3[a] (byteAt t 1) (part t)).hav.all id = true := by rw [hy]; exact nmem_all h137
                  refine vl_nil ?_
                  refine hK31 _ ?_
                  refine vc_cond_false rfl ?_
                  refine vc_skip ?_
                  refine hK30 _ ?_
                  refine vc_seq fun K33 hK33 => ?_
                  have hsz := fill_sz hsg hfl hal hrp (by omega)
                  rw [hy] at hsz
                  try simp only at hsz
                  refine vc_region ?_
                  refine vl_q (q_move rfl) (dk rfl) ?_
                  refine vl_q (q_nilCheck rfl rfl) (dk rfl) ?_
                  refine vl_q (q_fieldAddr 3 rfl rfl rfl rfl (by decide) rfl rfl) (dk rfl) ?_
                  refine vl_load rfl rfl rfl (set_get hac) rfl rfl rfl (by decide) (dk rfl) ?_
                  refine vl_callP (c_Join (l3[a].parts.set (byteAt t 1) (part t)) (by first | omega | (rw [List.length_set]; omega)) (by omega)) rfl rfl ⟨XOk.snapH rfl (by simp) (by simp) (map_wid fun _ => rfl) (strsC_shr _), XOk.val _, trivial⟩ rfl (.inl rfl) (dk rfl) ?_
                  refine vl_q (q_assign rfl) (dk rfl) ?_
                  refine vl_nil ?_
                  refine hK33 _ ?_
                  refine vc_seq fun K34 hK34 => ?_
                  refine vc_weak (Weak.close1 (nm := 20) (i := a) (j := 4) (m := 21) (es := (l3[a].hav.set (byteAt t 1) true).map boolC) rfl (set_get hac) rfl rfl (by simp) (by decide)) ?_
                  try simp only [List.set_set, List.length_map, Int.toNat_natCast, Nat.add_zero]
                  refine vc_weak (Weak.close1 (nm := 20) (i := a) (j := 3) (m := 22) (es := (l3[a].parts.set (byteAt t 1) (part t)).map strC) rfl (set_get hac) rfl rfl (by simp) (by decide)) ?_
                  try simp only [List.set_set, List.length_map, Int.toNat_natCast, Nat.add_zero]
                  refine vc_weak (Weak.node (m := 20) (nd' := ⟨6, clo ((l3.set a (putPart l3[a] (byteAt t 1) (part t))).map heldO)⟩) rfl (congrArg (Vm.Node.mk 6) (by rw [hy, ← clo_set]; rfl))) ?_
                  refine vc_region ?_
                  refine vl_q (q_fieldAddr 0 rfl rfl rfl rfl (by decide) rfl rfl) (dk rfl) ?_
                  refine vl_load rfl rfl rfl rfl rfl rfl rfl (by decide) (dk rfl) ?_
                  refine vl_q (q_move rfl) (dk rfl) ?_
                  refine vl_q (q_move rfl) (dk rfl) ?_
                  refine vl_q (q_add rfl rfl (IntWalk.i64_in _ (by omega))) (dk rfl) ?_
                  refine vl_weak (Weak.lit (d := 148) (y := vv (.int .i64 ((a + 1 : Nat) : Int))) rfl rfl) ?_
                  have hcd := c_Delete (l3.set a (putPart l3[a] (byteAt t 1) (part t))) a (by rw [List.length_set]; exact hal) (by rw [List.length_set]; omega)
                  rw [List.length_set, List.eraseIdx_set_eq] at hcd
                  refine vl_callG [20] (.v (.one (.hdr 23 0 (l3.length - 1)))) hcd rfl rfl ⟨XOk.hdr rfl (by decide) _ _, XOk.val _, XOk.val _, trivial⟩ ⟨⟨_, rfl, NR.clo _ _ _ _⟩, trivial⟩ rfl (by decide) ⟨fix_clo _ _, trivial⟩ trivial rfl (.inl rfl) (dk rfl) ?_
                  refine vl_q (q_fieldAddr 0 rfl rfl rfl rfl (by decide) rfl rfl) (dk rfl) ?_
                  refine vl_store rfl rfl rfl rfl rfl rfl (Nat.le_of_ble_eq_true rfl) trivial ?_
                  refine vl_nil ?_
                  refine hK34 _ ?_
                  refine vc_seq fun K35 hK35 => ?_
                  refine vc_region ?_
                  refine vl_load rfl rfl rfl rfl rfl rfl rfl (by decide) (dk rfl) ?_
                  refine vl_q (q_move rfl) (dk rfl) ?_
                  refine vl_store rfl rfl rfl rfl rfl rfl (Nat.le_of_ble_eq_true rfl) trivial ?_
                  refine vl_q (q_assign rfl) (dk rfl) ?_
                  refine vl_q (q_assign rfl) (dk rfl) ?_
                  refine vl_nil ?_
                  refine hK35 _ ?_
                  refine vc_ret ?_
                  have e : addP l fr t now = (l3.eraseIdx a, catS (putPart l3[a] (byteAt t 1) (part t)).parts, true) := fill_full hok hrp h1 hfl hal hfu
                  refine ret_g [23] rfl (.cons (res_cell rfl rfl rfl rfl rfl rfl rfl (by decide)) (.cons (res_tmp rfl) (.cons (res_tmp rfl) .nil))) (by rw [e]; first | rfl | (simp only [List.length_set]; rfl) | (simp only [List.length_eraseIdx, if_pos hal, hy]; rfl)) rfl (nodupB_ok rfl) ⟨by decide, trivial⟩ ⟨⟨⟨6, clo ((addP l fr t now).1.map heldO)⟩, some_node (by rw [e]), NR.clo _ _ _ _⟩, trivial⟩ trivial (Nat.zero_le _)
          · refine vl_guard_on rfl rfl rfl ?_
            refine vl_q (q_not rfl) (dk rfl) ?_
            refine vl_q (q_pick_false rfl rfl) (dk rfl) ?_
            refine vl_nil ?_
            refine hK5 _ ?_
            refine vc_cond_true rfl ?_
            refine vc_seq fun K36 hK36 => ?_
            refine vc_region ?_
            refine vl_load rfl rfl rfl rfl rfl rfl rfl (by decide) (dk rfl) ?_
            refine vl_store rfl rfl rfl rfl rfl rfl (Nat.le_of_ble_eq_true rfl) trivial ?_
            refine vl_q (q_assign rfl) (dk rfl) ?_
            refine vl_q (q_assign rfl) (dk rfl) ?_
            refine vl_nil ?_
            refine hK36 _ ?_
            refine vc_ret ?_
            have e : addP l fr t now = (l, ⟨#[]⟩, false) := addP_bad (addOk_f (by first | exact .inl ‹_› | exact .inr (.inl ‹_›) | exact .inr (.inr (.inl ‹_›)) | exact .inr (.inr (.inr (.inl (by omega)))) | exact .inr (.inr (.inr (.inr ‹_›)))))
            refine ret_g [18] rfl (.cons (res_cell rfl rfl rfl rfl rfl rfl rfl (by decide)) (.cons (res_tmp rfl) (.cons (res_tmp rfl) .nil))) (by rw [e]; first | rfl | (simp only [List.length_set]; rfl) | (simp only [List.length_eraseIdx, if_pos hal, hy]; rfl)) rfl (nodupB_ok rfl) ⟨by decide, trivial⟩ ⟨⟨⟨6, clo ((addP l fr t now).1.map heldO)⟩, some_node (by rw [e]), NR.clo _ _ _ _⟩, trivial⟩ trivial (Nat.zero_le _)
      · refine vl_guard_on rfl rfl rfl ?_
        refine vl_q (q_not rfl) (dk rfl) ?_
        refine vl_q (q_pick_false rfl rfl) (dk rfl) ?_
        refine vl_q (q_move rfl) (dk rfl) ?_
        refine vl_goff rfl rfl rfl (by decide) (dk rfl) ?_
        refine vl_goff rfl rfl rfl (by decide) (dk rfl) ?_
        refine vl_q (q_pick_true rfl rfl) (dk rfl) ?_
        refine vl_q (q_move rfl) (dk rfl) ?_
        refine vl_goff rfl rfl rfl (by decide) (dk rfl) ?_
        refine vl_goff rfl rfl rfl (by decide) (dk rfl) ?_
        refine vl_goff rfl rfl rfl (by decide) (dk rfl) ?_
        refine vl_q (q_pick_true rfl rfl) (dk rfl) ?_
        refine vl_q (q_move rfl) (dk rfl) ?_
        refine vl_goff rfl rfl rfl (by decide) (dk rfl) ?_
        refine vl_goff rfl rfl rfl (by decide) (dk rfl) ?_
        refine vl_goff rfl rfl rfl (by decide) (dk rfl) ?_
        refine vl_q (q_pick_true rfl rfl) (dk rfl) ?_
        refine vl_nil ?_
        refine hK5 _ ?_
        refine vc_cond_true rfl ?_
        refine vc_seq fun K37 hK37 => ?_
        refine vc_region ?_
        refine vl_load rfl rfl rfl rfl rfl rfl rfl (by decide) (dk rfl) ?_
        refine vl_store rfl rfl rfl rfl rfl rfl (Nat.le_of_ble_eq_true rfl) trivial ?_
        refine vl_q (q_assign rfl) (dk rfl) ?_
        refine vl_q (q_assign rfl) (dk rfl) ?_
        refine vl_nil ?_
        refine hK37 _ ?_
        refine vc_ret ?_
        have e : addP l fr t now = (l, ⟨#[]⟩, false) := addP_bad (addOk_f (by first | exact .inl ‹_› | exact .inr (.inl ‹_›) | exact .inr (.inr (.inl ‹_›)) | exact .inr (.inr (.inr (.inl (by omega)))) | exact .inr (.inr (.inr (.inr ‹_›)))))
        refine ret_g [18] rfl (.cons (res_cell rfl rfl rfl rfl rfl rfl rfl (by decide)) (.cons (res_tmp rfl) (.cons (res_tmp rfl) .nil))) (by rw [e]; first | rfl | (simp only [List.length_set]; rfl) | (simp only [List.length_eraseIdx, if_pos hal, hy]; rfl)) rfl (nodupB_ok rfl) ⟨by decide, trivial⟩ ⟨⟨⟨6, clo ((addP l fr t now).1.map heldO)⟩, some_node (by rw [e]), NR.clo _ _ _ _⟩, trivial⟩ trivial (Nat.zero_le _)
    · refine vl_q (q_not rfl) (dk rfl) ?_
      refine vl_q (q_move rfl) (dk rfl) ?_
      refine vl_goff rfl rfl rfl (by decide) (dk rfl) ?_
      refine vl_goff rfl rfl rfl (by decide) (dk rfl) ?_
      refine vl_goff rfl rfl rfl (by decide) (dk rfl) ?_
      refine vl_q (q_pick_true rfl rfl) (dk rfl) ?_
      refine vl_q (q_move rfl) (dk rfl) ?_
      refine vl_goff rfl rfl rfl (by decide) (dk rfl) ?_
      refine vl_goff rfl rfl rfl (by decide) (dk rfl) ?_
      refine vl_q (q_pick_true rfl rfl) (dk rfl) ?_
      refine vl_q (q_move rfl) (dk rfl) ?_
      refine vl_goff rfl rfl rfl (by decide) (dk rfl) ?_
      refine vl_goff rfl rfl rfl (by decide) (dk rfl) ?_
      refine vl_goff rfl rfl rfl (by decide) (dk rfl) ?_
      refine vl_q (q_pick_true rfl rfl) (dk rfl) ?_
      refine vl_q (q_move rfl) (dk rfl) ?_
      refine vl_goff rfl rfl rfl (by decide) (dk rfl) ?_
      refine vl_goff rfl rfl rfl (by decide) (dk rfl) ?_
      refine vl_goff rfl rfl rfl (by decide) (dk rfl) ?_
      refine vl_q (q_pick_true rfl rfl) (dk rfl) ?_
      refine vl_nil ?_
      refine hK5 _ ?_
      refine vc_cond_true rfl ?_
      refine vc_seq fun K38 hK38 => ?_
      refine vc_region ?_
      refine vl_load rfl rfl rfl rfl rfl rfl rfl (by decide) (dk rfl) ?_
      refine vl_store rfl rfl rfl rfl rfl rfl (Nat.le_of_ble_eq_true rfl) trivial ?_
      refine vl_q (q_assign rfl) (dk rfl) ?_
      refine vl_q (q_assign rfl) (dk rfl) ?_
      refine vl_nil ?_
      refine hK38 _ ?_
      refine vc_ret ?_
      have e : addP l fr t now = (l, ⟨#[]⟩, false) := addP_bad (addOk_f (by first | exact .inl ‹_› | exact .inr (.inl ‹_›) | exact .inr (.inr (.inl ‹_›)) | exact .inr (.inr (.inr (.inl (by omega)))) | exact .inr (.inr (.inr (.inr ‹_›)))))
      refine ret_g [18] rfl (.cons (res_cell rfl rfl rfl rfl rfl rfl rfl (by decide)) (.cons (res_tmp rfl) (.cons (res_tmp rfl) .nil))) (by rw [e]; first | rfl | (simp only [List.length_set]; rfl) | (simp only [List.length_eraseIdx, if_pos hal, hy]; rfl)) rfl (nodupB_ok rfl) ⟨by decide, trivial⟩ ⟨⟨⟨6, clo ((addP l fr t now).1.map heldO)⟩, some_node (by rw [e]), NR.clo _ _ _ _⟩, trivial⟩ trivial (Nat.zero_le _)
  · refine vl_callP (c_ReadPart_f t hrp) rfl rfl ⟨XOk.val _, trivial⟩ rfl (.inl rfl) (dk rfl) ?_
    refine vl_q (q_move rfl) (dk rfl) ?_
    refine vl_q (q_extract rfl rfl) (dk rfl) ?_
    refine vl_q (q_extract rfl rfl) (dk rfl) ?_
    refine vl_q (q_extract rfl rfl) (dk rfl) ?_
    refine vl_q (q_extract rfl rfl) (dk rfl) ?_
    refine vl_q (q_extract rfl rfl) (dk rfl) ?_
    refine vl_q (q_assign rfl) (dk rfl) ?_
    refine vl_q (q_assign rfl) (dk rfl) ?_
    refine vl_q (q_assign rfl) (dk rfl) ?_
    refine vl_q (q_assign rfl) (dk rfl) ?_
    refine vl_q (q_assign rfl) (dk rfl) ?_
    refine vl_nil ?_
    refine hK3 _ ?_
    refine vc_seq fun K39 hK39 => ?_
    refine vc_seq fun K40 hK40 => ?_
    refine vc_region ?_
    refine vl_load rfl rfl rfl rfl rfl rfl rfl (by decide) (dk rfl) ?_
    refine vl_callP (c_impl_ShelfOk l) rfl rfl ⟨VOk.agg ⟨XOk.shc _ _, trivial⟩, trivial⟩ rfl (.inl rfl) (dk rfl) ?_
    refine vl_bool 31 rfl (fun h31 => ?_) (fun h31 => ?_)
    · have hsg : ShelfGood l := of_decide_eq_true h31
      have hlen3 := hsg.len
      refine vl_q (q_not rfl) (dk rfl) ?_
      refine vl_q (q_move rfl) (dk rfl) ?_
      refine vl_guard_on rfl rfl rfl ?_
      refine vl_q (q_move rfl) (dk rfl) ?_
      refine vl_guard_on rfl rfl rfl ?_
      refine vl_callP (c_impl_isId _) rfl rfl ⟨XOk.val _, trivial⟩ rfl (.inl rfl) (dk rfl) ?_
      refine vl_bool 35 rfl (fun h35 => ?_) (fun h35 => ?_)
      · refine vl_guard_on rfl rfl rfl ?_
        refine vl_q (q_not rfl) (dk rfl) ?_
        refine vl_q (q_pick_false rfl rfl) (dk rfl) ?_
        refine vl_q (q_move rfl) (dk rfl) ?_
        refine vl_guard_on rfl rfl rfl ?_
        refine vl_q (q_move rfl) (dk rfl) ?_
        refine vl_guard_on rfl rfl rfl ?_
        refine vl_q (q_not rfl) (dk rfl) ?_
        refine vl_q (q_pick_false rfl rfl) (dk rfl) ?_
        refine vl_q (q_move rfl) (dk rfl) ?_
        refine vl_goff rfl rfl rfl (by decide) (dk rfl) ?_
        refine vl_goff rfl rfl rfl (by decide) (dk rfl) ?_
        refine vl_goff rfl rfl rfl (by decide) (dk rfl) ?_
        refine vl_q (q_pick_true rfl rfl) (dk rfl) ?_
        refine vl_q (q_move rfl) (dk rfl) ?_
        refine vl_goff rfl rfl rfl (by decide) (dk rfl) ?_
        refine vl_goff rfl rfl rfl (by decide) (dk rfl) ?_
        refine vl_goff rfl rfl rfl (by decide) (dk rfl) ?_
        refine vl_q (q_pick_true rfl rfl) (dk rfl) ?_
        refine vl_nil ?_
        refine hK40 _ ?_
        refine vc_cond_true rfl ?_
        refine vc_seq fun K41 hK41 => ?_
        refine vc_region ?_
        refine vl_load rfl rfl rfl rfl rfl rfl rfl (by decide) (dk rfl) ?_
        refine vl_store rfl rfl rfl rfl rfl rfl (Nat.le_of_ble_eq_true rfl) trivial ?_
        refine vl_q (q_assign rfl) (dk rfl) ?_
        refine vl_q (q_assign rfl) (dk rfl) ?_
        refine vl_nil ?_
        refine hK41 _ ?_
        refine vc_ret ?_
        have e : addP l fr t now = (l, ⟨#[]⟩, false) := addP_bad (addOk_f (by first | exact .inl ‹_› | exact .inr (.inl ‹_›) | exact .inr (.inr (.inl ‹_›)) | exact .inr (.inr (.inr (.inl (by omega)))) | exact .inr (.inr (.inr (.inr ‹_›)))))
        refine ret_g [18] rfl (.cons (res_cell rfl rfl rfl rfl rfl rfl rfl (by decide)) (.cons (res_tmp rfl) (.cons (res_tmp rfl) .nil))) (by rw [e]; first | rfl | (simp only [List.length_set]; rfl) | (simp only [List.length_eraseIdx, if_pos hal, hy]; rfl)) rfl (nodupB_ok rfl) ⟨by decide, trivial⟩ ⟨⟨⟨6, clo ((addP l fr t now).1.map heldO)⟩, some_node (by rw [e]), NR.clo _ _ _ _⟩, trivial⟩ trivial (Nat.zero_le _)
      · refine vl_guard_on rfl rfl rfl ?_
        refine vl_q (q_not rfl) (dk rfl) ?_
        refine vl_q (q_pick_false rfl rfl) (dk rfl) ?_
        refine vl_q (q_move rfl) (dk rfl) ?_
        refine vl_goff rfl rfl rfl (by decide) (dk rfl) ?_
        refine vl_goff rfl rfl rfl (by decide) (dk rfl) ?_
        refine vl_q (q_pick_true rfl rfl) (dk rfl) ?_
        refine vl_q (q_move rfl) (dk rfl) ?_
        refine vl_goff rfl rfl rfl (by decide) (dk rfl) ?_
        refine vl_goff rfl rfl rfl (by decide) (dk rfl) ?_
        refine vl_goff rfl rfl rfl (by decide) (dk rfl) ?_
        refine vl_q (q_pick_true rfl rfl) (dk rfl) ?_
        refine vl_q (q_move rfl) (dk rfl) ?_
        refine vl_goff rfl rfl rfl (by decide) (dk rfl) ?_
        refine vl_goff rfl rfl rfl (by decide) (dk rfl) ?_
        refine vl_goff rfl rfl rfl (by decide) (dk rfl) ?_
        refine vl_q (q_pick_true rfl rfl) (dk rfl) ?_
        refine vl_nil ?_
        refine hK40 _ ?_
        refine vc_cond_true rfl ?_
        refine vc_seq fun K42 hK42 => ?_
        refine vc_region ?_
        refine vl_load rfl rfl rfl rfl rfl rfl rfl (by decide) (dk rfl) ?_
        refine vl_store rfl rfl rfl rfl rfl rfl (Nat.le_of_ble_eq_true rfl) trivial ?_
        refine vl_q (q_assign rfl) (dk rfl) ?_
        refine vl_q (q_assign rfl) (dk rfl) ?_
        refine vl_nil ?_
        refine hK42 _ ?_
        refine vc_ret ?_
        have e : addP l fr t now = (l, ⟨#[]⟩, false) := addP_bad (addOk_f (by first | exact .inl ‹_› | exact .inr (.inl ‹_›) | exact .inr (.inr (.inl ‹_›)) | exact .inr (.inr (.inr (.inl (by omega)))) | exact .inr (.inr (.inr (.inr ‹_›)))))
        refine ret_g [18] rfl (.cons (res_cell rfl rfl rfl rfl rfl rfl rfl (by decide)) (.cons (res_tmp rfl) (.cons (res_tmp rfl) .nil))) (by rw [e]; first | rfl | (simp only [List.length_set]; rfl) | (simp only [List.length_eraseIdx, if_pos hal, hy]; rfl)) rfl (nodupB_ok rfl) ⟨by decide, trivial⟩ ⟨⟨⟨6, clo ((addP l fr t now).1.map heldO)⟩, some_node (by rw [e]), NR.clo _ _ _ _⟩, trivial⟩ trivial (Nat.zero_le _)
    · refine vl_q (q_not rfl) (dk rfl) ?_
      refine vl_q (q_move rfl) (dk rfl) ?_
      refine vl_goff rfl rfl rfl (by decide) (dk rfl) ?_
      refine vl_goff rfl rfl rfl (by decide) (dk rfl) ?_
      refine vl_goff rfl rfl rfl (by decide) (dk rfl) ?_
      refine vl_q (q_pick_true rfl rfl) (dk rfl) ?_
      refine vl_q (q_move rfl) (dk rfl) ?_
      refine vl_goff rfl rfl rfl (by decide) (dk rfl) ?_
      refine vl_goff rfl rfl rfl (by decide) (dk rfl) ?_
      refine vl_q (q_pick_true rfl rfl) (dk rfl) ?_
      refine vl_q (q_move rfl) (dk rfl) ?_
      refine vl_goff rfl rfl rfl (by decide) (dk rfl) ?_
      refine vl_goff rfl rfl rfl (by decide) (dk rfl) ?_
      refine vl_goff rfl rfl rfl (by decide) (dk rfl) ?_
      refine vl_q (q_pick_true rfl rfl) (dk rfl) ?_
      refine vl_q (q_move rfl) (dk rfl) ?_
      refine vl_goff rfl rfl rfl (by decide) (dk rfl) ?_
      refine vl_goff rfl rfl rfl (by decide) (dk rfl) ?_
      refine vl_goff rfl rfl rfl (by decide) (dk rfl) ?_
      refine vl_q (q_pick_true rfl rfl) (dk rfl) ?_
      refine vl_nil ?_
      refine hK40 _ ?_
      refine vc_cond_true rfl ?_
      refine vc_seq fun K43 hK43 => ?_
      refine vc_region ?_
      refine vl_load rfl rfl rfl rfl rfl rfl rfl (by decide) (dk rfl) ?_
      refine vl_store rfl rfl rfl rfl rfl rfl (Nat.le_of_ble_eq_true rfl) trivial ?_
      refine vl_q (q_assign rfl) (dk rfl) ?_
      refine vl_q (q_assign rfl) (dk rfl) ?_
      refine vl_nil ?_
      refine hK43 _ ?_
      refine vc_ret ?_
      have e : addP l fr t now = (l, ⟨#[]⟩, false) := addP_bad (addOk_f (by first | exact .inl ‹_› | exact .inr (.inl ‹_›) | exact .inr (.inr (.inl ‹_›)) | exact .inr (.inr (.inr (.inl (by omega)))) | exact .inr (.inr (.inr (.inr ‹_›)))))
      refine ret_g [18] rfl (.cons (res_cell rfl rfl rfl rfl rfl rfl rfl (by decide)) (.cons (res_tmp rfl) (.cons (res_tmp rfl) .nil))) (by rw [e]; first | rfl | (simp only [List.length_set]; rfl) | (simp only [List.length_eraseIdx, if_pos hal, hy]; rfl)) rfl (nodupB_ok rfl) ⟨by decide, trivial⟩ ⟨⟨⟨6, clo ((addP l fr t now).1.map heldO)⟩, some_node (by rw [e]), NR.clo _ _ _ _⟩, trivial⟩ trivial (Nat.zero_le _)
end Go.Vm.S
namespace Go.Vm.S
open Go Go.Vm
set_option maxRecDepth 100000
set_option linter.unusedVariables false
set_option maxHeartbeats 4000000
theorem at44 : FnAt Pg 44 Go.Proofs.Try.f44 := ⟨by kernel_rfl, rfl, by decide⟩
theorem c_impl_TidyShelf_1 (t now : Int) :
    Ctr Pg ty 44 [.agg [.c .any, .c .any, .c .any, .c .any, .c .any, .c (.val (.int .i64 t))], .one (.ptr 0 0 0)] [⟨1, clo [[.val (.int .i64 now)]]⟩] (Gives (vv (.bool (decide (t ≤ now)))) [] [⟨1, clo [[.val (.int .i64 now)]]⟩]) := by
  refine ctr at44 rfl (nsK_gives rfl trivial ⟨nsN_clo (by simp [C.noSh_val]), trivial⟩) (Nat.le_of_ble_eq_true rfl) fun w0 S0 L0 Z => ?_
  refine vc_seq fun K1 hK1 => ?_
  refine vc_region ?_
  refine vl_box rfl (dk rfl) ?_
  refine vl_q (q_assign rfl) (dk rfl) ?_
  refine vl_nil ?_
  refine hK1 _ ?_
  refine vc_seq fun K2 hK2 => ?_
  refine vc_region ?_
  refine vl_q (q_fieldAddr 5 rfl rfl rfl rfl (by decide) rfl rfl) (dk rfl) ?_
  refine vl_load rfl rfl rfl rfl rfl rfl rfl (by decide) (dk rfl) ?_
  refine vl_load rfl rfl rfl rfl rfl rfl rfl (by decide) (dk rfl) ?_
  refine vl_q (q_cmp rfl rfl rfl rfl) (dk rfl) ?_
  refine vl_q (q_assign rfl) (dk rfl) ?_
  refine vl_nil ?_
  refine hK2 _ ?_
  refine vc_ret ?_
  refine ret_g [] rfl (.cons (res_tmp rfl) .nil) rfl rfl (nodupB_ok rfl) trivial trivial ⟨⟨_, rfl, NR.clo _ _ _ _⟩, trivial⟩ (Nat.le_of_ble_eq_true rfl)
end Go.Vm.S
namespace Go.Vm.S
open Go Go.Vm
set_option maxRecDepth 100000
set_option linter.unusedVariables false
set_option maxHeartbeats 4000000
theorem c_IndexFunc (l : List Held) (now : Int) :
    Ctr Pg ty 56 [shv 6 (l.map heldC), .one (.fn 44 [(0, 0, 0)])] [⟨1, clo [[.val (.int .i64 now)]]⟩] (Gives (vv (.int .i64 (dueV now l))) [] [⟨1, clo [[.val (.int .i64 now)]]⟩]) := by
  refine ctr at56 rfl (nsK_gives rfl trivial ⟨nsN_clo (by simp [C.noSh_val]), trivial⟩) (Nat.le_of_ble_eq_true rfl) fun w0 S0 L0 Z => ?_
  refine vc_seq fun K1 hK1 => ?_
  refine vc_region ?_
  refine vl_q (q_assign rfl) (dk rfl) ?_
  refine vl_nil ?_
  refine hK1 _ ?_
  refine vc_seq fun K2 hK2 => ?_
  refine vc_seq fun K3 hK3 => ?_
  refine vc_fact (fun a w g => good_lim (x := .tmp 0) rfl g) fun hlen => ?_
  rw [List.length_map] at hlen
  refine vc_region ?_
  refine vl_q (q_move rfl) (dk rfl) ?_
  refine vl_q (q_len_sh rfl rfl rfl) (dk rfl) ?_
  simp only [List.length_map]
  refine vl_q (q_move rfl) (dk rfl) ?_
  refine vl_nil ?_
  refine hK3 _ ?_
  refine vc_block ?_
  refine vc_loop (fun mz st => ∃ i : Nat, (i ≤ l.length ∧ ∀ j (hj : j < l.length), j < i → now < l[j].til) ∧ mz = l.length - i ∧ st = mkSt [(0, .v (shv 6 (l.map heldC))), (1, .v (.one (.fn 44 [(0, 0, 0)]))), (7, .v (iv l.length)), (8, .v (iv i))] [(0, ⟨1, clo [[.val (.int .i64 now)]]⟩)] 16) ⟨_, _, ⟨0, ⟨by omega, fun j hj h => absurd h (by omega)⟩, rfl, rfl⟩, (Weak.cut _ _ _ (Nat.le_of_ble_eq_true rfl) ⟨⟨rfl, rfl⟩, ⟨rfl, rfl⟩, ⟨rfl, rfl⟩, ⟨rfl, rfl⟩, trivial⟩ ⟨⟨Nat.le_of_ble_eq_true rfl, rfl, belN_clo _ _ _⟩, trivial⟩ rfl)⟩ (fun mz st hI => ?_)
  obtain ⟨i, ⟨hi, hb⟩, hmz, rfl⟩ := hI
  refine vc_seq fun K4 hK4 => ?_
  refine vc_region ?_
  refine vl_two (x := fun b => vv (.bool b)) _ (q_cmp rfl rfl rfl rfl) (dk rfl) (fun h9 => ?_) (fun h9 => ?_)
  · replace h9 := lss_of h9
    refine vl_nil ?_
    refine hK4 _ ?_
    refine vc_seq fun K5 hK5 => ?_
    refine vc_cond_true rfl ?_
    refine vc_skip ?_
    refine hK5 _ ?_
    refine vc_seq fun K6 hK6 => ?_
    refine vc_block ?_
    refine vc_seq fun K7 hK7 => ?_
    have hil : i < l.length := by omega
    refine vc_region ?_
    refine vl_q (q_move rfl) (dk rfl) ?_
    refine vl_q (q_assign rfl) (dk rfl) ?_
    refine vl_nil ?_
    refine hK7 _ ?_
    refine vc_seq fun K8 hK8 => ?_
    refine vc_region ?_
    refine vl_q (q_move rfl) (dk rfl) ?_
    refine vl_q (q_move rfl) (dk rfl) ?_
    refine vl_q (q_move rfl) (dk rfl) ?_
    refine vl_q (q_indexAddr_sh rfl rfl rfl rfl rfl rfl (by decide) (by omega) (get_map (i := i) hil)) (dk rfl) ?_
    refine vl_load_sp rfl rfl rfl rfl (by decide) (dk rfl) ?_
    refine vl_callG [0] (vv (.bool (decide (l[i].til ≤ now)))) (c_impl_TidyShelf_1 l[i].til now) rfl rfl ⟨VOk.agg ⟨XOk.any' _, XOk.any' _, XOk.any' _, XOk.any' _, XOk.any' _, XOk.val _, trivial⟩, XOk.ptr rfl (by decide) _ _, trivial⟩ ⟨⟨_, rfl, NR.clo _ _ _ _⟩, trivial⟩ rfl (by decide) trivial ⟨fix_clo _ _, trivial⟩ rfl (.inl rfl) (dk rfl) ?_
    refine vl_bool 16 rfl (fun h16 => ?_) (fun h16 => ?_)
    · have h16 := of_decide_eq_true h16
      refine vl_nil ?_
      refine hK8 _ ?_
      refine vc_cond_true rfl ?_
      refine vc_seq fun K9 hK9 => ?_
      refine vc_region ?_
      refine vl_q (q_move rfl) (dk rfl) ?_
      refine vl_q (q_assign rfl) (dk rfl) ?_
      refine vl_nil ?_
      refine hK9 _ ?_
      refine vc_ret ?_
      refine ret_g [] rfl (.cons (res_tmp rfl) .nil) (by rw [due_at hil hb h16]; rfl) rfl (nodupB_ok rfl) trivial trivial ⟨⟨_, rfl, NR.clo _ _ _ _⟩, trivial⟩ (Nat.le_of_ble_eq_true rfl)
    · have h16 := of_decide_eq_false h16
      refine vl_nil ?_
      refine hK8 _ ?_
      refine vc_cond_false rfl ?_
      refine vc_skip ?_
      refine hK6 _ ?_
      refine vc_region ?_
      refine vl_q (q_add rfl rfl (IntWalk.i64_in _ (by omega))) (dk rfl) ?_
      refine vl_q (q_move rfl) (dk rfl) ?_
      refine vl_nil ?_
      refine ⟨_, _, ?_, ⟨i + 1, ⟨by omega, fun j hj h => by by_cases e : j = i; (subst e; omega); exact hb j hj (by omega)⟩, rfl, rfl⟩, (Weak.cut _ _ _ (Nat.le_of_ble_eq_true rfl) ⟨⟨rfl, rfl⟩, ⟨rfl, rfl⟩, ⟨rfl, rfl⟩, ⟨rfl, rfl⟩, trivial⟩ ⟨⟨Nat.le_of_ble_eq_true rfl, rfl, belN_clo _ _ _⟩, trivial⟩ rfl)⟩
      omega
  · replace h9 := lss_nof h9
    refine vl_nil ?_
    refine hK4 _ ?_
    refine vc_seq fun K10 hK10 => ?_
    refine vc_cond_false rfl ?_
    refine vc_exit ?_
    refine hK2 _ ?_
    refine vc_seq fun K11 hK11 => ?_
    refine vc_region ?_
    refine vl_q (q_assign rfl) (dk rfl) ?_
    refine vl_nil ?_
    refine hK11 _ ?_
    refine vc_ret ?_
    refine ret_g [] rfl (.cons (res_tmp rfl) .nil) (by rw [due_none (fun j hj => hb j hj (by omega))]; rfl) rfl (nodupB_ok rfl) trivial trivial ⟨⟨_, rfl, NR.clo _ _ _ _⟩, trivial⟩ (Nat.le_of_ble_eq_true rfl)
end Go.Vm.S
namespace Go.Vm.S
open Go Go.Vm
set_option maxRecDepth 100000
set_option linter.unusedVariables false
set_option maxHeartbeats 4000000
theorem at43 : FnAt Pg 43 Go.Proofs.Try.f43 := ⟨by kernel_rfl, rfl, by decide⟩
theorem c_DeleteFunc (l : List Held) (now : Int) (hlim : l.length ≤ 4194304) :
    Ctr Pg ty 43 [.one (.hdr 0 0 l.length), .one (.fn 44 [(1, 0, 0)])] [⟨6, clo (l.map heldO)⟩, ⟨1, clo [[.val (.int .i64 now)]]⟩] (Gives (.v (.one (.hdr 0 0 (kept now l).length))) [] [⟨6, clo ((kept now l).map heldO)⟩, ⟨1, clo [[.val (.int .i64 now)]]⟩]) := by
  refine ctr at43 rfl (nsK_gives rfl trivial ⟨nsN_map heldO_noSh, nsN_clo (by simp [C.noSh_val]), trivial⟩) (Nat.le_of_ble_eq_true rfl) fun w0 S0 L0 Z => ?_
  refine vc_seq fun K1 hK1 => ?_
  refine vc_region ?_
  refine vl_q (q_assign rfl) (dk rfl) ?_
  refine vl_nil ?_
  refine hK1 _ ?_
  refine vc_seq fun K2 hK2 => ?_
  refine vc_fact (fun a w g => (good_lim_hdr (x := .tmp 0) rfl rfl g).2) fun hlen => ?_
  refine vc_region ?_
  refine vl_q (q_move rfl) (dk rfl) ?_
  refine vl_q (q_move rfl) (dk rfl) ?_
  refine vl_callG [1] (vv (.int .i64 (dueV now l))) (c_IndexFunc l now) rfl rfl ⟨XOk.snapH rfl (by decide) (by simp) (map_wid heldO_len) (heldsO_shr l), XOk.fn (by decide) rfl (by decide), trivial⟩ ⟨⟨_, rfl, NR.clo _ _ _ _⟩, trivial⟩ rfl (by decide) trivial ⟨fix_clo _ _, trivial⟩ rfl (.inl rfl) (dk rfl) ?_
  refine vl_q (q_assign rfl) (dk rfl) ?_
  refine vl_nil ?_
  refine hK2 _ ?_
  refine vc_seq fun K3 hK3 => ?_
  refine vc_seq fun K4 hK4 => ?_
  refine vc_region ?_
  refine vl_q (q_move rfl) (dk rfl) ?_
  refine vl_two (x := fun b => vv (.bool b)) _ (q_cmp rfl rfl rfl rfl) (dk rfl) (fun h12 => ?_) (fun h12 => ?_)
  · replace h12 := eql_of h12
    obtain ⟨_, hk⟩ : dueV now l = -1 ∧ kept now l = l := by
      rcases due_cases now l with h | ⟨_, h, _⟩
      · exact h
      · omega
    refine vl_nil ?_
    refine hK4 _ ?_
    refine vc_cond_true rfl ?_
    refine vc_seq fun K5 hK5 => ?_
    refine vc_region ?_
    refine vl_q (q_move rfl) (dk rfl) ?_
    refine vl_q (q_assign rfl) (dk rfl) ?_
    refine vl_nil ?_
    refine hK5 _ ?_
    refine vc_ret ?_
    refine ret_g [] rfl (.cons (res_tmp rfl) .nil) (by rw [hk]; rfl) rfl (nodupB_ok rfl) trivial trivial ⟨⟨⟨6, clo ((kept now l).map heldO)⟩, some_node (by rw [hk]), NR.clo _ _ _ _⟩, ⟨_, rfl, NR.clo _ _ _ _⟩, trivial⟩ (Nat.le_of_ble_eq_true rfl)
  · replace h12 := eql_nof h12
    obtain ⟨hd, hv, ht, hk⟩ : ∃ (h : dueIdx now l < l.length), dueV now l = dueIdx now l ∧ l[dueIdx now l].til ≤ now ∧ kept now (l.take (dueIdx now l)) = l.take (dueIdx now l) := by
      rcases due_cases now l with ⟨h, _⟩ | h
      · omega
      · exact h
    have hks := kept_start hd ht hk
    refine vl_nil ?_
    refine hK4 _ ?_
    refine vc_cond_false rfl ?_
    refine vc_skip ?_
    refine hK3 _ ?_
    refine vc_seq fun K6 hK6 => ?_
    refine vc_seq fun K7 hK7 => ?_
    refine vc_region ?_
    refine vl_q (q_move rfl) (dk rfl) ?_
    refine vl_q (q_add rfl rfl (IntWalk.i64_in _ (by omega))) (dk rfl) ?_
    refine vl_q (q_assign rfl) (dk rfl) ?_
    refine vl_nil ?_
    refine hK7 _ ?_
    refine vc_block ?_
    have hrow : (clo (l.map heldO))[dueIdx now l]? = some ((heldO l[dueIdx now l]).map X.c) := by simp [clo, hd]
    have hdc : dueIdx now l < (clo (l.map heldO)).length := by simp [clo]; exact hd
    refine vc_weak (Weak.open1 (nm := 0) (i := dueIdx now l) (j := 3) rfl hrow rfl) ?_
    simp only [List.set_set, List.length_map, Int.toNat_natCast, Nat.add_zero]
    refine vc_weak (Weak.open1 (nm := 0) (i := dueIdx now l) (j := 4) rfl (set_get hdc) rfl) ?_
    simp only [List.set_set, List.length_map, Int.toNat_natCast, Nat.add_zero]
    refine vc_weak (Weak.junk (m := 0) (i := dueIdx now l) rfl (set_get hdc) rfl (set_wid (clo_wid (map_wid heldO_len)) rfl)) ?_
    refine vc_weak (Weak.node (m := 0) (nd' := ⟨6, clo (djR now l (dueIdx now l + 1))⟩) rfl (congrArg (Vm.Node.mk 6) ((List.set_set _).trans (djR_start hd ht hk)))) ?_
    refine vc_loop (fun mz st => ∃ j : Nat, (j ≤ l.length ∧ (kept now (l.take j)).length < j) ∧ mz = l.length - j ∧ st = mkSt [(0, .v (.one (.hdr 0 0 l.length))), (1, .v (.one (.fn 44 [(1, 0, 0)]))), (5, .v (iv (kept now (l.take j)).length)), (6, .v (iv j))] [(0, ⟨6, clo (djR now l j)⟩), (1, ⟨1, clo [[.val (.int .i64 now)]]⟩)] 16) ⟨_, _, ⟨dueIdx now l + 1, ⟨by omega, by omega⟩, rfl, rfl⟩, (Weak.cut _ _ _ (Nat.le_of_ble_eq_true rfl) ⟨⟨rfl, rfl⟩, ⟨rfl, rfl⟩, ⟨iv_eq (by omega), rfl⟩, ⟨iv_eq (by omega), rfl⟩, trivial⟩ ⟨⟨Nat.le_of_ble_eq_true rfl, rfl, belN_clo _ _ _⟩, ⟨Nat.le_of_ble_eq_true rfl, rfl, belN_clo _ _ _⟩, trivial⟩ rfl)⟩ (fun mz st hI => ?_)
    obtain ⟨j, ⟨hj, hkj⟩, hmz, rfl⟩ := hI
    refine vc_seq fun K8 hK8 => ?_
    refine vc_seq fun K9 hK9 => ?_
    refine vc_region ?_
    refine vl_q (q_move rfl) (dk rfl) ?_
    refine vl_q (q_move rfl) (dk rfl) ?_
    refine vl_q (q_len_hdr rfl rfl rfl) (dk rfl) ?_
    refine vl_two (x := fun b => vv (.bool b)) _ (q_cmp rfl rfl rfl rfl) (dk rfl) (fun h19 => ?_) (fun h19 => ?_)
    · replace h19 := lss_of h19
      refine vl_nil ?_
      refine hK9 _ ?_
      refine vc_cond_true rfl ?_
      refine vc_skip ?_
      refine hK8 _ ?_
      refine vc_seq fun K10 hK10 => ?_
      refine vc_block ?_
      refine vc_seq fun K11 hK11 => ?_
      have hjl : j < l.length := by omega
      have hjc : j < (clo (djR now l j)).length := by rw [clo_len, djR_len now hj]; exact hjl
      have hkc : ∀ R, (kept now (l.take j)).length < ((clo (djR now l j)).set j R).length := fun R => by rw [List.length_set]; omega
      have hwid := clo_wid (djR_wid now l j)
      refine vc_region ?_
      refine vl_q (q_move rfl) (dk rfl) ?_
      refine vl_q (q_move rfl) (dk rfl) ?_
      refine vl_q (q_indexAddr rfl rfl rfl rfl rfl rfl rfl (by omega) (by omega)) (dk rfl) ?_
      refine vl_open (nm := 0) (i := j) (j := 3) rfl rfl rfl (djR_at now hjl) rfl rfl ?_
      simp only [List.set_set, List.length_map, Int.toNat_natCast, Nat.add_zero]
      refine vl_open (nm := 0) (i := j) (j := 4) rfl rfl rfl (set_get hjc) rfl rfl ?_
      simp only [List.set_set, List.length_map, Int.toNat_natCast, Nat.add_zero]
      refine vl_load rfl rfl rfl (set_get hjc) rfl rfl rfl (by decide) (dk rfl) ?_
      refine vl_alloc rfl (dk rfl) ?_
      refine vl_store rfl rfl rfl rfl rfl rfl (Nat.le_of_ble_eq_true rfl) trivial ?_
      refine vl_nil ?_
      refine hK11 _ ?_
      refine vc_seq fun K12 hK12 => ?_
      refine vc_region ?_
      refine vl_q (q_move rfl) (dk rfl) ?_
      refine vl_load rfl rfl rfl rfl rfl rfl rfl (by decide) (dk rfl) ?_
      refine vl_callG [1] (vv (.bool (decide (l[j].til ≤ now)))) (c_impl_TidyShelf_1 l[j].til now) rfl rfl ⟨VOk.agg ⟨XOk.any' _, XOk.any' _, XOk.any' _, XOk.any' _, XOk.any' _, XOk.val _, trivial⟩, XOk.ptr rfl (by decide) _ _, trivial⟩ ⟨⟨_, rfl, NR.clo _ _ _ _⟩, trivial⟩ rfl (by decide) trivial ⟨fix_clo _ _, trivial⟩ rfl (.inl rfl) (dk rfl) ?_
      refine vl_bool 28 rfl (fun h28 => ?_) (fun h28 => ?_)
      · have h28 := of_decide_eq_true h28
        have hks := congrArg List.length (kept_succ_f hjl h28)
        refine vl_q (q_not rfl) (dk rfl) ?_
        refine vl_nil ?_
        refine hK12 _ ?_
        refine vc_cond_false rfl ?_
        refine vc_skip ?_
        refine hK10 _ ?_
        refine vc_weak (Weak.junk (m := 0) (i := j) rfl (set_get hjc) rfl (set_wid hwid rfl)) ?_
        refine vc_weak (Weak.node (m := 0) (nd' := ⟨6, clo (djR now l (j + 1))⟩) rfl (congrArg (Vm.Node.mk 6) ((List.set_set _).trans (djR_drop hjl h28)))) ?_
        refine vc_region ?_
        refine vl_q (q_move rfl) (dk rfl) ?_
        refine vl_q (q_add rfl rfl (IntWalk.i64_in _ (by omega))) (dk rfl) ?_
        refine vl_q (q_assign rfl) (dk rfl) ?_
        refine vl_nil ?_
        refine ⟨_, _, ?_, ⟨j + 1, ⟨by omega, by omega⟩, rfl, rfl⟩, (Weak.cut _ _ _ (Nat.le_of_ble_eq_true rfl) ⟨⟨rfl, rfl⟩, ⟨rfl, rfl⟩, ⟨iv_eq (by omega), rfl⟩, ⟨rfl, rfl⟩, trivial⟩ ⟨⟨Nat.le_of_ble_eq_true rfl, rfl, belN_clo _ _ _⟩, ⟨Nat.le_of_ble_eq_true rfl, rfl, belN_clo _ _ _⟩, trivial⟩ rfl)⟩
        omega
      · have h28 : now < l[j].til := by have := of_decide_eq_false h28; omega
        have hks := congrArg List.length (kept_succ_t hjl h28)
        simp only [List.length_append, List.length_cons, List.length_nil] at hks
        refine vl_q (q_not rfl) (dk rfl) ?_
        refine vl_nil ?_
        refine hK12 _ ?_
        refine vc_cond_true rfl ?_
        refine vc_seq fun K13 hK13 => ?_
        refine vc_region ?_
        refine vl_q (q_move rfl) (dk rfl) ?_
        refine vl_q (q_move rfl) (dk rfl) ?_
        refine vl_load rfl rfl rfl rfl rfl rfl rfl (by decide) (dk rfl) ?_
        refine vl_q (q_indexAddr rfl rfl rfl rfl rfl rfl rfl (by omega) (by omega)) (dk rfl) ?_
        refine vl_store rfl rfl rfl rfl ((List.getElem?_set_ne (Nat.ne_of_gt hkj)).trans (djR_gap hkj)) rfl (Nat.le_of_ble_eq_true rfl) trivial ?_
        refine vl_nil ?_
        refine hK13 _ ?_
        refine vc_region ?_
        refine vl_q (q_move rfl) (dk rfl) ?_
        refine vl_q (q_add rfl rfl (IntWalk.i64_in _ (by omega))) (dk rfl) ?_
        refine vl_q (q_assign rfl) (dk rfl) ?_
        refine vl_nil ?_
        refine hK10 _ ?_
        simp only [List.set_set, List.length_map, Int.toNat_natCast, Nat.add_zero]
        refine vc_weak (Weak.close1 (nm := 0) (i := (kept now (l.take j)).length) (j := 3) (m := 16) (es := l[j].parts.map strC) rfl (set_get (hkc _)) rfl rfl (by simp) (by decide)) ?_
        simp only [List.set_set, List.length_map, Int.toNat_natCast, Nat.add_zero]
        refine vc_weak (Weak.close1 (nm := 0) (i := (kept now (l.take j)).length) (j := 4) (m := 17) (es := l[j].hav.map boolC) rfl (set_get (hkc _)) rfl rfl (by simp) (by decide)) ?_
        simp only [List.set_set, List.length_map, Int.toNat_natCast, Nat.add_zero]
        refine vc_weak (Weak.junk (m := 0) (i := j) rfl (set_get2 hjc (Nat.ne_of_lt hkj)) rfl (set_wid (set_wid hwid rfl) rfl)) ?_
        refine vc_weak (Weak.node (m := 0) (nd' := ⟨6, clo (djR now l (j + 1))⟩) rfl (congrArg (Vm.Node.mk 6) ((set_swap (Nat.ne_of_lt hkj)).trans (djR_keep hjl h28 hkj)))) ?_
        refine vc_region ?_
        refine vl_q (q_move rfl) (dk rfl) ?_
        refine vl_q (q_add rfl rfl (IntWalk.i64_in _ (by omega))) (dk rfl) ?_
        refine vl_q (q_assign rfl) (dk rfl) ?_
        refine vl_nil ?_
        refine ⟨_, _, ?_, ⟨j + 1, ⟨by omega, by omega⟩, rfl, rfl⟩, (Weak.cut _ _ _ (Nat.le_of_ble_eq_true rfl) ⟨⟨rfl, rfl⟩, ⟨rfl, rfl⟩, ⟨iv_eq (by omega), rfl⟩, ⟨rfl, rfl⟩, trivial⟩ ⟨⟨Nat.le_of_ble_eq_true rfl, rfl, belN_clo _ _ _⟩, ⟨Nat.le_of_ble_eq_true rfl, rfl, belN_clo _ _ _⟩, trivial⟩ rfl)⟩
        omega
    · replace h19 := lss_nof h19
      refine vl_nil ?_
      refine hK9 _ ?_
      refine vc_cond_false rfl ?_
      refine vc_exit ?_
      refine hK6 _ ?_
      refine vc_seq fun K14 hK14 => ?_
      obtain rfl : j = l.length := by omega
      refine vc_weak (Weak.trunc (m := 0) (n := (kept now l).length) rfl) ?_
      refine vc_weak (Weak.node (m := 0) (nd' := ⟨6, clo ((kept now l).map heldO)⟩) rfl (congrArg (Vm.Node.mk 6) (djR_end now l))) ?_
      have hkl := kept_len now l l.length
      rw [List.take_length] at hkl
      refine vc_region ?_
      refine vl_q (q_move rfl) (dk rfl) ?_
      refine vl_q (q_move rfl) (dk rfl) ?_
      refine vl_q (q_slice_hdr rfl rfl rfl rfl rfl rfl rfl rfl (by omega) (by omega) (.inl (by omega))) (dk rfl) ?_
      refine vl_clear rfl rfl rfl rfl rfl rfl (by simp [clo_len]) ?_
      refine vl_nil ?_
      refine hK14 _ ?_
      refine vc_seq fun K15 hK15 => ?_
      refine vc_region ?_
      refine vl_q (q_move rfl) (dk rfl) ?_
      refine vl_q (q_move rfl) (dk rfl) ?_
      refine vl_q (q_slice_hdr rfl rfl rfl rfl rfl rfl rfl rfl (by omega) (by omega) (.inl (by omega))) (dk rfl) ?_
      refine vl_q (q_assign rfl) (dk rfl) ?_
      refine vl_nil ?_
      refine hK15 _ ?_
      refine vc_ret ?_
      refine ret_g [] rfl (.cons (res_tmp rfl) .nil) (by rw [List.take_length]; rfl) rfl (nodupB_ok rfl) trivial trivial ⟨⟨_, rfl, NR.clo _ _ _ _⟩, ⟨_, rfl, NR.clo _ _ _ _⟩, trivial⟩ (Nat.le_of_ble_eq_true rfl)
end Go.Vm.S
namespace Go.Vm.S
open Go Go.Vm
set_option maxRecDepth 100000
set_option linter.unusedVariables false
set_option maxHeartbeats 4000000
theorem at19 : FnAt Pg 19 Go.Proofs.Try.f19 := ⟨by kernel_rfl, rfl, by decide⟩
theorem c_impl_TidyShelf (l : List Held) (now : Int) (hb : szHelds l ≤ 4194304) :
    Ctr Pg ty 19 [.agg ((shelfC l).map X.c), iv now] [] (Gives (.v (.agg [.hdr 16 0 (kept now l).length])) [⟨6, clo ((kept now l).map heldO)⟩] []) := by
  have hl : l.length ≤ 4194304 := by unfold szHelds at hb; omega
  refine ctr at19 rfl (nsK_gives rfl ⟨nsN_map heldO_noSh, trivial⟩ trivial) (Nat.le_of_ble_eq_true rfl) fun w0 S0 L0 Z => ?_
  refine vc_seq fun K1 hK1 => ?_
  refine vc_region ?_
  refine vl_box rfl (dk rfl) ?_
  refine vl_box rfl (dk rfl) ?_
  refine vl_alloc rfl (dk rfl) ?_
  refine vl_nil ?_
  refine hK1 _ ?_
  refine vc_seq fun K2 hK2 => ?_
  refine vc_region ?_
  refine vl_load rfl rfl rfl rfl rfl rfl rfl (by decide) (dk rfl) ?_
  refine vl_callG [] (.v (.agg [.hdr 19 0 _])) (c_impl_copyShelf l hb) rfl rfl ⟨VOk.agg ⟨XOk.shc _ _, trivial⟩, trivial⟩ trivial rfl (by decide) ⟨fix_clo _ _, trivial⟩ trivial rfl (.inl rfl) (dk rfl) ?_
  refine vl_alloc rfl (dk rfl) ?_
  refine vl_store rfl rfl rfl rfl rfl rfl (Nat.le_of_ble_eq_true rfl) trivial ?_
  refine vl_nil ?_
  refine hK2 _ ?_
  refine vc_seq fun K3 hK3 => ?_
  refine vc_region ?_
  refine vl_q (q_fieldAddr 0 rfl rfl rfl rfl (by decide) rfl rfl) (dk rfl) ?_
  refine vl_load rfl rfl rfl rfl rfl rfl rfl (by decide) (dk rfl) ?_
  refine vl_q (q_makeFunc rfl) (dk rfl) ?_
  refine vl_callG [19, 17] (.v (.one (.hdr 19 0 (kept now l).length))) (c_DeleteFunc l now hl) rfl rfl ⟨XOk.hdr rfl (by decide) _ _, XOk.fn (by decide) rfl (by decide), trivial⟩ ⟨⟨_, rfl, NR.clo _ _ _ _⟩, ⟨_, rfl, NR.clo _ _ _ _⟩, trivial⟩ rfl (by decide) trivial ⟨fix_clo _ _, fix_clo _ _, trivial⟩ rfl (.inl rfl) (dk rfl) ?_
  refine vl_q (q_fieldAddr 0 rfl rfl rfl rfl (by decide) rfl rfl) (dk rfl) ?_
  refine vl_store rfl rfl rfl rfl rfl rfl (Nat.le_of_ble_eq_true rfl) trivial ?_
  refine vl_nil ?_
  refine hK3 _ ?_
  refine vc_seq fun K4 hK4 => ?_
  refine vc_region ?_
  refine vl_load rfl rfl rfl rfl rfl rfl rfl (by decide) (dk rfl) ?_
  refine vl_store rfl rfl rfl rfl rfl rfl (Nat.le_of_ble_eq_true rfl) trivial ?_
  refine vl_nil ?_
  refine hK4 _ ?_
  refine vc_ret ?_
  refine ret_g [19] rfl (.cons (res_cell rfl rfl rfl rfl rfl rfl rfl (by decide)) .nil) rfl rfl (nodupB_ok rfl) ⟨by decide, trivial⟩ ⟨⟨_, rfl, NR.clo _ _ _ _⟩, trivial⟩ trivial (Nat.zero_le _)
end Go.Vm.S
namespace Go.Vm.S
open Go Go.Vm
theorem c_dsShelf (bs : List Int) (hb : bs.length ≤ 1048576) : Ctr Pg ty 48 [.one (.ptr 0 0 0)] [drN (dNew bs hb)] (Gives (.v (.agg [.hdr 16 0 (dsL bs hb).length])) [⟨6, clo ((dsL bs hb).map heldO)⟩] [drN (dsD bs hb)]) := c_spec_l20Shelf _
theorem c_ShelfOk_t (l : List Held) (g : ShelfGood l) : Ctr Pg ty 15 [.agg ((shelfC l).map X.c)] [] (Gives (vv (.bool true)) [] []) := by
  have h := c_impl_ShelfOk l
  rwa [show shelfB l = true from decide_eq_true g] at h
noncomputable def afL (l : List Held) (t : ByteArray) (now : Int) : List Held := (addP l 1 t now).1
theorem c_afI (l : List Held) (t : ByteArray) (now : Int) (hg : ShelfGood l) : Ctr Pg ty 14 [.agg ((shelfC l).map X.c), iv 1, sv t, iv now] []
    (Gives (.tup [.agg [.hdr 16 0 (afL l t now).length], sv (addP l 1 t now).2.1, bv (addP l 1 t now).2.2]) [⟨6, clo ((afL l t now).map heldO)⟩] []) := c_impl_AddPart l 1 t now (by have := good_sz hg; omega)
theorem c_afS (l : List Held) (t : ByteArray) (now : Int) (hg : ShelfGood l) : Ctr Pg ty 24 [.agg ((shelfC l).map X.c), iv 1, sv t, iv now] []
    (Gives (.tup [.agg [.hdr 16 0 (afL l t now).length], sv (addP l 1 t now).2.1, bv (addP l 1 t now).2.2]) [⟨6, clo ((afL l t now).map heldO)⟩] []) := c_spec_AddPart l 1 t now (by have := good_sz hg; omega)
theorem c_afT (l : List Held) (now : Int) (hg : ShelfGood l) : Ctr Pg ty 19 [.agg ((shelfC l).map X.c), iv now] []
    (Gives (.v (.agg [.hdr 16 0 (kept now l).length])) [⟨6, clo ((kept now l).map heldO)⟩] []) := c_impl_TidyShelf l now (by have := good_sz hg; omega)
end Go.Vm.S
namespace Go.Vm.S
open Go Go.Vm
set_option maxRecDepth 100000
set_option linter.unusedVariables false
set_option maxHeartbeats 1000000
theorem at23 : FnAt Pg 23 Go.Proofs.Try.f23 := ⟨by kernel_rfl, rfl, by decide⟩
theorem c_spec_DrawShelf (bs : List Int) (hb : bs.length ≤ 1048576) :
    Ctr Pg ty 23 [.one (.c (.fz 1 (bs.map byteC)))] [] (Gives (.tup [.agg [.hdr 16 0 (dsL bs hb).length], sv (dsT bs hb), iv (dsNow bs hb)]) [⟨6, clo ((dsL bs hb).map heldO)⟩] []) := by
  refine ctr at23 rfl (nsK_gives rfl ⟨nsN_map heldO_noSh, trivial⟩ trivial) (Nat.le_of_ble_eq_true rfl) fun w0 S0 L0 Z => ?_
  refine vc_seq fun K1 hK1 => ?_
  refine vc_region ?_
  refine vl_alloc rfl (dk rfl) ?_
  refine vl_q (q_assign rfl) (dk rfl) ?_
  refine vl_q (q_assign rfl) (dk rfl) ?_
  refine vl_nil ?_
  refine hK1 _ ?_
  refine vc_seq fun K2 hK2 => ?_
  refine vc_region ?_
  refine vl_q (q_move rfl) (dk rfl) ?_
  refine vl_callG [] (.v (.one (.ptr 17 0 0))) (c_spec_l01New _ hb) rfl rfl ⟨XOk.fzc _ _, trivial⟩ trivial rfl (by decide) ⟨fix_clo _ _, trivial⟩ trivial rfl (.inl rfl) (dk rfl) ?_
  refine vl_q (q_assign rfl) (dk rfl) ?_
  refine vl_nil ?_
  refine hK2 _ ?_
  refine vc_seq fun K3 hK3 => ?_
  refine vc_region ?_
  refine vl_q (q_move rfl) (dk rfl) ?_
  refine vl_callG [17] (.v (.agg [.hdr 18 0 _])) (c_dsShelf bs hb) rfl rfl ⟨XOk.ptr rfl (by decide) _ _, trivial⟩ ⟨⟨_, rfl, NR.clo _ _ _ _⟩, trivial⟩ rfl (by decide) ⟨fix_clo _ _, trivial⟩ ⟨fix_clo _ _, trivial⟩ rfl (.inl rfl) (dk rfl) ?_
  refine vl_alloc rfl (dk rfl) ?_
  refine vl_store rfl rfl rfl rfl rfl rfl (Nat.le_of_ble_eq_true rfl) trivial ?_
  refine vl_nil ?_
  refine hK3 _ ?_
  refine vc_seq fun K4 hK4 => ?_
  have hz := stZ_eq (dsD bs hb)
  have hn := stN_in (dsD bs hb)
  have hj := dsJ_eq bs hb
  refine vc_region ?_
  refine vl_q (q_move rfl) (dk rfl) ?_
  refine vl_callG [17] (vv (.int .i64 _)) (c_stA (dsD bs hb)) rfl rfl ⟨XOk.ptr rfl (by decide) _ _, XOk.val _, trivial⟩ ⟨⟨_, rfl, NR.clo _ _ _ _⟩, trivial⟩ rfl (by decide) trivial ⟨fix_clo _ _, trivial⟩ rfl (.inl rfl) (dk rfl) ?_
  refine vl_q (q_move rfl) (dk rfl) ?_
  refine vl_callG [17] (vv (.string _)) (c_stB (dsD bs hb)) rfl rfl ⟨XOk.ptr rfl (by decide) _ _, trivial⟩ ⟨⟨_, rfl, NR.clo _ _ _ _⟩, trivial⟩ rfl (by decide) trivial ⟨fix_clo _ _, trivial⟩ rfl (.inl rfl) (dk rfl) ?_
  refine vl_q (q_move rfl) (dk rfl) ?_
  refine vl_callG [17] (vv (.int .i64 _)) (c_stC (dsD bs hb)) rfl rfl ⟨XOk.ptr rfl (by decide) _ _, XOk.val _, trivial⟩ ⟨⟨_, rfl, NR.clo _ _ _ _⟩, trivial⟩ rfl (by decide) trivial ⟨fix_clo _ _, trivial⟩ rfl (.inl rfl) (dk rfl) ?_
  refine vl_q (q_add rfl rfl (IntWalk.i64_in _ (by have := stC_in (dsD bs hb); omega))) (dk rfl) ?_
  rw [hz.1]
  refine vl_callG [] (.tup [.one (.hdr 20 0 _), bv true]) (c_stP (dsD bs hb)) rfl rfl ⟨XOk.val _, XOk.val _, XOk.val _, trivial⟩ trivial rfl (by decide) ⟨fix_clo _ _, trivial⟩ trivial rfl (.inl rfl) (dk rfl) ?_
  refine vl_q (q_move rfl) (dk rfl) ?_
  refine vl_q (q_extract rfl rfl) (dk rfl) ?_
  refine vl_q (q_extract rfl rfl) (dk rfl) ?_
  refine vl_q (q_assign rfl) (dk rfl) ?_
  refine vl_q (q_assign rfl) (dk rfl) ?_
  refine vl_nil ?_
  refine hK4 _ ?_
  refine vc_seq fun K5 hK5 => ?_
  refine vc_seq fun K6 hK6 => ?_
  refine vc_region ?_
  refine vl_q (q_move rfl) (dk rfl) ?_
  refine vl_q (q_not rfl) (dk rfl) ?_
  refine vl_nil ?_
  refine hK6 _ ?_
  refine vc_cond_false rfl ?_
  refine vc_skip ?_
  refine hK5 _ ?_
  refine vc_seq fun K7 hK7 => ?_
  refine vc_region_any mixed (fun n => Nat.beq n 19 || Nat.beq n 20) false rfl rfl (fun _ hU8 => hU8) fun w1 S1 L1 Z1 H1 => ?_
  refine va_q 0 rfl (by kernel_rfl) (by kernel_rfl) (by kernel_rfl) (q_load rfl rfl rfl rfl rfl rfl rfl (by decide)) (dk rfl) ?_
  refine va_q 1 rfl (by kernel_rfl) (by kernel_rfl) (by kernel_rfl) (q_move rfl) (dk rfl) ?_
  refine va_q 2 rfl (by kernel_rfl) (by kernel_rfl) (by kernel_rfl) (q_move rfl) (dk rfl) ?_
  refine va_q 3 rfl (by kernel_rfl) (by kernel_rfl) (by kernel_rfl) (q_move rfl) (dk rfl) ?_
  refine va_q 4 rfl (by kernel_rfl) (by kernel_rfl) (by kernel_rfl) (q_len_hdr rfl rfl rfl) (dk rfl) ?_
  refine va_q 8 rfl (by kernel_rfl) (by kernel_rfl) (by kernel_rfl) (q_move rfl) (dk rfl) ?_
  refine va_all [5] (by kernel_rfl) (by simp) ⟨⟨_, rfl, ?_⟩, trivial⟩
  refine vl_callG [17] (vv (.int .i64 _)) (c_dsF bs hb) rfl rfl ⟨XOk.ptr rfl (by decide) _ _, XOk.val _, trivial⟩ ⟨⟨_, rfl, NR.clo _ _ _ _⟩, trivial⟩ rfl (by decide) trivial ⟨fix_clo _ _, trivial⟩ rfl (.inl rfl) (dk rfl) ?_
  refine vl_nil ?_
  refine va_q 6 rfl (by kernel_rfl) (by kernel_rfl) (by kernel_rfl) (q_indexAddr rfl rfl rfl rfl rfl rfl rfl (by omega) (by omega)) (dk rfl) ?_
  refine va_q 7 rfl (by kernel_rfl) (by kernel_rfl) (by kernel_rfl) (q_load rfl rfl rfl (ds_row bs hb) rfl rfl rfl (by decide)) (dk rfl) ?_
  refine va_all [9] (by kernel_rfl) (by simp) ⟨⟨_, rfl, ?_⟩, trivial⟩
  refine vl_callG [17] (vv (.int .i64 _)) (c_dsNow bs hb) rfl rfl ⟨XOk.ptr rfl (by decide) _ _, XOk.val _, trivial⟩ ⟨⟨_, rfl, NR.clo _ _ _ _⟩, trivial⟩ rfl (by decide) trivial ⟨fix_clo _ _, trivial⟩ rfl (.inl rfl) (dk rfl) ?_
  refine vl_nil ?_
  refine va_all [10] (by kernel_rfl) (by simp) ⟨⟨_, rfl, ?_⟩, trivial⟩
  refine vl_store rfl rfl rfl rfl rfl rfl (Nat.le_of_ble_eq_true rfl) trivial ?_
  refine vl_nil ?_
  refine va_q 11 rfl (by kernel_rfl) (by kernel_rfl) (by kernel_rfl) (q_assign rfl) (dk rfl) ?_
  refine va_q 12 rfl (by kernel_rfl) (by kernel_rfl) (by kernel_rfl) (q_assign rfl) (dk rfl) ?_
  refine va_done (by kernel_rfl) ?_
  refine hK7 _ ?_
  refine vc_ret ?_
  refine ret_g [18] rfl (.cons (res_cell rfl rfl rfl rfl rfl rfl rfl (by decide)) (.cons (res_tmp rfl) (.cons (res_tmp rfl) .nil))) rfl rfl (nodupB_ok rfl) ⟨by decide, trivial⟩ ⟨⟨_, rfl, NR.clo _ _ _ _⟩, trivial⟩ trivial (Nat.zero_le _)
end Go.Vm.S
namespace Go.Vm.S
open Go Go.Vm
set_option maxRecDepth 100000
set_option linter.unusedVariables false
set_option maxHeartbeats 1000000
theorem at5 : FnAt Pg 5 Go.Proofs.Try.f5 := ⟨by kernel_rfl, rfl, by decide⟩
theorem c_laws_FnShelves (bs : List Int) :
    Ctr Pg ty 5 [.one (.c (.fz 1 (bs.map byteC)))] [] (Gives (vv (.bool true)) [] []) := by
  refine ctr at5 rfl (nsK_gives rfl trivial trivial) (Nat.le_of_ble_eq_true rfl) fun w0 S0 L0 Z => ?_
  refine vc_seq fun K1 hK1 => ?_
  refine vc_region ?_
  refine vl_q (q_assign rfl) (dk rfl) ?_
  refine vl_nil ?_
  refine hK1 _ ?_
  refine vc_seq fun K2 hK2 => ?_
  refine vc_seq fun K3 hK3 => ?_
  refine vc_region ?_
  refine vl_q (q_move rfl) (dk rfl) ?_
  refine vl_callP (c_laws_big _) rfl rfl ⟨XOk.fzc _ _, trivial⟩ rfl (.inl rfl) (dk rfl) ?_
  refine vl_bool 17 rfl (fun h17 => ?_) (fun h17 => ?_)
  · refine vl_nil ?_
    refine hK3 _ ?_
    refine vc_cond_true rfl ?_
    refine vc_seq fun K4 hK4 => ?_
    refine vc_region ?_
    refine vl_q (q_assign rfl) (dk rfl) ?_
    refine vl_nil ?_
    refine hK4 _ ?_
    refine vc_ret ?_
    refine ret_p rfl (.cons (res_tmp rfl) .nil) rfl ?_
    rfl
  · have hb : bs.length ≤ 1048576 := by have := of_decide_eq_false h17; omega
    refine vl_nil ?_
    refine hK3 _ ?_
    refine vc_cond_false rfl ?_
    refine vc_skip ?_
    refine hK2 _ ?_
    refine vc_seq fun K5 hK5 => ?_
    refine vc_region ?_
    refine vl_q (q_move rfl) (dk rfl) ?_
    refine vl_callG [] (.tup [.agg [.hdr 16 0 _], sv _, iv _]) (c_spec_DrawShelf bs hb) rfl rfl ⟨XOk.fzc _ _, trivial⟩ trivial rfl (by decide) ⟨fix_clo _ _, trivial⟩ trivial rfl (.inl rfl) (dk rfl) ?_
    have hg := dsL_good bs hb
    have hnw := dsNow_in bs hb
    generalize dsL bs hb = l at *
    generalize dsT bs hb = t at *
    generalize dsNow bs hb = now at *
    have hg1 : ShelfGood (afL l t now) := addP_good hg
    have hg2 : ShelfGood (kept (now + 3) (afL l t now)) := good_kept _ hg1
    have hl1 := hg1.len
    have hl2 := hg2.len
    refine vl_q (q_move rfl) (dk rfl) ?_
    refine vl_q (q_extract rfl rfl) (dk rfl) ?_
    refine vl_q (q_extract rfl rfl) (dk rfl) ?_
    refine vl_q (q_extract rfl rfl) (dk rfl) ?_
    refine vl_alloc rfl (dk rfl) ?_
    refine vl_store rfl rfl rfl rfl rfl rfl (Nat.le_of_ble_eq_true rfl) trivial ?_
    refine vl_q (q_assign rfl) (dk rfl) ?_
    refine vl_q (q_assign rfl) (dk rfl) ?_
    refine vl_nil ?_
    refine hK5 _ ?_
    refine vc_seq fun K6 hK6 => ?_
    refine vc_region ?_
    refine vl_load rfl rfl rfl rfl rfl rfl rfl (by decide) (dk rfl) ?_
    refine vl_q (q_move rfl) (dk rfl) ?_
    refine vl_q (q_move rfl) (dk rfl) ?_
    refine vl_callG [] (_) (c_afI l t now hg) rfl rfl ⟨VOk.agg ⟨XOk.snapH rfl (by simp) (by simp [markHs_len]) (map_wid heldO_len) (heldsO_shr _), trivial⟩, XOk.val _, XOk.val _, XOk.val _, trivial⟩ trivial rfl (by decide) ⟨fix_clo _ _, trivial⟩ trivial rfl (.inl rfl) (dk rfl) ?_
    refine vl_q (q_move rfl) (dk rfl) ?_
    refine vl_q (q_extract rfl rfl) (dk rfl) ?_
    refine vl_q (q_extract rfl rfl) (dk rfl) ?_
    refine vl_q (q_extract rfl rfl) (dk rfl) ?_
    refine vl_alloc rfl (dk rfl) ?_
    refine vl_store rfl rfl rfl rfl rfl rfl (Nat.le_of_ble_eq_true rfl) trivial ?_
    refine vl_q (q_assign rfl) (dk rfl) ?_
    refine vl_q (q_assign rfl) (dk rfl) ?_
    refine vl_nil ?_
    refine hK6 _ ?_
    refine vc_seq fun K7 hK7 => ?_
    refine vc_region ?_
    refine vl_load rfl rfl rfl rfl rfl rfl rfl (by decide) (dk rfl) ?_
    refine vl_q (q_move rfl) (dk rfl) ?_
    refine vl_q (q_move rfl) (dk rfl) ?_
    refine vl_callG [] (_) (c_afS l t now hg) rfl rfl ⟨VOk.agg ⟨XOk.snapH rfl (by simp) (by simp [markHs_len]) (map_wid heldO_len) (heldsO_shr _), trivial⟩, XOk.val _, XOk.val _, XOk.val _, trivial⟩ trivial rfl (by decide) ⟨fix_clo _ _, trivial⟩ trivial rfl (.inl rfl) (dk rfl) ?_
    refine vl_q (q_move rfl) (dk rfl) ?_
    refine vl_q (q_extract rfl rfl) (dk rfl) ?_
    refine vl_q (q_extract rfl rfl) (dk rfl) ?_
    refine vl_q (q_extract rfl rfl) (dk rfl) ?_
    refine vl_alloc rfl (dk rfl) ?_
    refine vl_store rfl rfl rfl rfl rfl rfl (Nat.le_of_ble_eq_true rfl) trivial ?_
    refine vl_q (q_assign rfl) (dk rfl) ?_
    refine vl_q (q_assign rfl) (dk rfl) ?_
    refine vl_nil ?_
    refine hK7 _ ?_
    refine vc_seq fun K8 hK8 => ?_
    refine vc_region ?_
    refine vl_load rfl rfl rfl rfl rfl rfl rfl (by decide) (dk rfl) ?_
    refine vl_q (q_move rfl) (dk rfl) ?_
    refine vl_q (q_add rfl rfl (IntWalk.i64_in _ (by omega))) (dk rfl) ?_
    refine vl_callG [] (.v (.agg [.hdr 22 0 _])) (c_afT (afL l t now) (now + 3) hg1) rfl rfl ⟨VOk.agg ⟨XOk.snapH rfl (by simp) (by simp [markHs_len]) (map_wid heldO_len) (heldsO_shr _), trivial⟩, XOk.val _, trivial⟩ trivial rfl (by decide) ⟨fix_clo _ _, trivial⟩ trivial rfl (.inl rfl) (dk rfl) ?_
    refine vl_alloc rfl (dk rfl) ?_
    refine vl_store rfl rfl rfl rfl rfl rfl (Nat.le_of_ble_eq_true rfl) trivial ?_
    refine vl_nil ?_
    refine hK8 _ ?_
    refine vc_seq fun K9 hK9 => ?_
    refine vc_seq fun K10 hK10 => ?_
    refine vc_region ?_
    refine vl_q (q_assign rfl) (dk rfl) ?_
    refine vl_nil ?_
    refine hK10 _ ?_
    refine vc_block ?_
    refine vc_loop (fun mz st => ∃ i : Nat, (i ≤ (kept (now + 3) (afL l t now)).length) ∧ mz = (kept (now + 3) (afL l t now)).length - i ∧ st = mkSt [(3, .v (.one (.ptr 17 0 0))), (5, .v (iv now)), (6, .v (.one (.ptr 19 0 0))), (7, .v (sv (addP l 1 t now).2.1)), (8, .v (bv (addP l 1 t now).2.2)), (10, .v (sv (addP l 1 t now).2.1)), (11, .v (bv (addP l 1 t now).2.2)), (12, .v (.one (.ptr 23 0 0))), (13, .v (iv i))] [(16, ⟨6, clo (l.map heldO)⟩), (17, ⟨1, [[.hdr 16 0 l.length]]⟩), (18, ⟨6, clo ((afL l t now).map heldO)⟩), (19, ⟨1, [[.hdr 18 0 (afL l t now).length]]⟩), (22, ⟨6, clo ((kept (now + 3) (afL l t now)).map heldO)⟩), (23, ⟨1, [[.hdr 22 0 (kept (now + 3) (afL l t now)).length]]⟩)] 24) ⟨_, _, ⟨0, by omega, rfl, rfl⟩, (Weak.cut _ _ _ (Nat.le_of_ble_eq_true rfl) ⟨⟨rfl, rfl⟩, ⟨rfl, rfl⟩, ⟨rfl, rfl⟩, ⟨rfl, rfl⟩, ⟨rfl, rfl⟩, ⟨rfl, rfl⟩, ⟨rfl, rfl⟩, ⟨rfl, rfl⟩, ⟨rfl, rfl⟩, trivial⟩ ⟨⟨Nat.le_of_ble_eq_true rfl, rfl, belN_clo _ _ _⟩, ⟨Nat.le_of_ble_eq_true rfl, rfl, belN_all rfl⟩, ⟨Nat.le_of_ble_eq_true rfl, rfl, belN_clo _ _ _⟩, ⟨Nat.le_of_ble_eq_true rfl, rfl, belN_all rfl⟩, ⟨Nat.le_of_ble_eq_true rfl, rfl, belN_clo _ _ _⟩, ⟨Nat.le_of_ble_eq_true rfl, rfl, belN_all rfl⟩, trivial⟩ rfl)⟩ (fun mz st hI => ?_)
    obtain ⟨i, hi, hmz, rfl⟩ := hI
    refine vc_seq fun K11 hK11 => ?_
    refine vc_seq fun K12 hK12 => ?_
    refine vc_region ?_
    refine vl_q (q_move rfl) (dk rfl) ?_
    refine vl_q (q_fieldAddr 0 rfl rfl rfl rfl (by decide) rfl rfl) (dk rfl) ?_
    refine vl_load rfl rfl rfl rfl rfl rfl rfl (by decide) (dk rfl) ?_
    refine vl_q (q_len_hdr rfl rfl rfl) (dk rfl) ?_
    refine vl_two (x := fun b => vv (.bool b)) _ (q_cmp rfl rfl rfl rfl) (dk rfl) (fun h48 => ?_) (fun h48 => ?_)
    · replace h48 := lss_of h48
      refine vl_nil ?_
      refine hK12 _ ?_
      refine vc_cond_true rfl ?_
      refine vc_skip ?_
      refine hK11 _ ?_
      refine vc_seq fun K13 hK13 => ?_
      refine vc_block ?_
      refine vc_seq fun K14 hK14 => ?_
      have hik : i < (kept (now + 3) (afL l t now)).length := by omega
      refine vc_region ?_
      refine vl_q (q_fieldAddr 0 rfl rfl rfl rfl (by decide) rfl rfl) (dk rfl) ?_
      refine vl_load rfl rfl rfl rfl rfl rfl rfl (by decide) (dk rfl) ?_
      refine vl_q (q_move rfl) (dk rfl) ?_
      refine vl_q (q_indexAddr rfl rfl rfl rfl rfl rfl rfl (by omega) (by omega)) (dk rfl) ?_
      refine vl_q (q_fieldAddr 5 rfl rfl rfl rfl (by decide) rfl rfl) (dk rfl) ?_
      refine vl_load rfl rfl rfl (clo_get (i := i) hik) rfl rfl rfl (by decide) (dk rfl) ?_
      refine vl_q (q_move rfl) (dk rfl) ?_
      refine vl_q (q_add rfl rfl (IntWalk.i64_in _ (by omega))) (dk rfl) ?_
      refine vl_two (x := fun b => vv (.bool b)) _ (q_cmp rfl rfl rfl rfl) (dk rfl) (fun h59 => ?_) (fun h59 => ?_)
      · replace h59 := leq_of h59
        have := kept_til (now := now + 3) (l := (afL l t now)) (i := i) hik
        omega
      · replace h59 := leq_nof h59
        refine vl_nil ?_
        refine hK14 _ ?_
        refine vc_cond_false rfl ?_
        refine vc_skip ?_
        refine hK13 _ ?_
        refine vc_region ?_
        refine vl_q (q_move rfl) (dk rfl) ?_
        refine vl_q (q_add rfl rfl (IntWalk.i64_in _ (by omega))) (dk rfl) ?_
        refine vl_q (q_assign rfl) (dk rfl) ?_
        refine vl_nil ?_
        refine ⟨_, _, ?_, ⟨i + 1, by omega, rfl, rfl⟩, (Weak.cut _ _ _ (Nat.le_of_ble_eq_true rfl) ⟨⟨rfl, rfl⟩, ⟨rfl, rfl⟩, ⟨rfl, rfl⟩, ⟨rfl, rfl⟩, ⟨rfl, rfl⟩, ⟨rfl, rfl⟩, ⟨rfl, rfl⟩, ⟨rfl, rfl⟩, ⟨rfl, rfl⟩, trivial⟩ ⟨⟨Nat.le_of_ble_eq_true rfl, rfl, belN_clo _ _ _⟩, ⟨Nat.le_of_ble_eq_true rfl, rfl, belN_all rfl⟩, ⟨Nat.le_of_ble_eq_true rfl, rfl, belN_clo _ _ _⟩, ⟨Nat.le_of_ble_eq_true rfl, rfl, belN_all rfl⟩, ⟨Nat.le_of_ble_eq_true rfl, rfl, belN_clo _ _ _⟩, ⟨Nat.le_of_ble_eq_true rfl, rfl, belN_all rfl⟩, trivial⟩ rfl)⟩
        omega
    · replace h48 := lss_nof h48
      refine vl_nil ?_
      refine hK12 _ ?_
      refine vc_cond_false rfl ?_
      refine vc_exit ?_
      refine hK9 _ ?_
      refine vc_seq fun K15 hK15 => ?_
      refine vc_region ?_
      refine vl_q (q_assign rfl) (dk rfl) ?_
      refine vl_nil ?_
      refine hK15 _ ?_
      refine vc_seq fun K16 hK16 => ?_
      refine vc_seq fun K17 hK17 => ?_
      refine vc_region ?_
      refine vl_q (q_assign rfl) (dk rfl) ?_
      refine vl_nil ?_
      refine hK17 _ ?_
      refine vc_block ?_
      refine vc_loop (fun mz st => ∃ i : Nat, (i ≤ (afL l t now).length) ∧ mz = (afL l t now).length - i ∧ st = mkSt [(3, .v (.one (.ptr 17 0 0))), (5, .v (iv now)), (6, .v (.one (.ptr 19 0 0))), (7, .v (sv (addP l 1 t now).2.1)), (8, .v (bv (addP l 1 t now).2.2)), (10, .v (sv (addP l 1 t now).2.1)), (11, .v (bv (addP l 1 t now).2.2)), (12, .v (.one (.ptr 23 0 0))), (14, .v (iv (kept (now + 3) ((afL l t now).take i)).length)), (15, .v (iv i))] [(16, ⟨6, clo (l.map heldO)⟩), (17, ⟨1, [[.hdr 16 0 l.length]]⟩), (18, ⟨6, clo ((afL l t now).map heldO)⟩), (19, ⟨1, [[.hdr 18 0 (afL l t now).length]]⟩), (22, ⟨6, clo ((kept (now + 3) (afL l t now)).map heldO)⟩), (23, ⟨1, [[.hdr 22 0 (kept (now + 3) (afL l t now)).length]]⟩)] 24) ⟨_, _, ⟨0, by omega, rfl, rfl⟩, (Weak.cut _ _ _ (Nat.le_of_ble_eq_true rfl) ⟨⟨rfl, rfl⟩, ⟨rfl, rfl⟩, ⟨rfl, rfl⟩, ⟨rfl, rfl⟩, ⟨rfl, rfl⟩, ⟨rfl, rfl⟩, ⟨rfl, rfl⟩, ⟨rfl, rfl⟩, ⟨rfl, rfl⟩, ⟨rfl, rfl⟩, trivial⟩ ⟨⟨Nat.le_of_ble_eq_true rfl, rfl, belN_clo _ _ _⟩, ⟨Nat.le_of_ble_eq_true rfl, rfl, belN_all rfl⟩, ⟨Nat.le_of_ble_eq_true rfl, rfl, belN_clo _ _ _⟩, ⟨Nat.le_of_ble_eq_true rfl, rfl, belN_all rfl⟩, ⟨Nat.le_of_ble_eq_true rfl, rfl, belN_clo _ _ _⟩, ⟨Nat.le_of_ble_eq_true rfl, rfl, belN_all rfl⟩, trivial⟩ rfl)⟩ (fun mz st hI => ?_)
      obtain ⟨i, hi, hmz, rfl⟩ := hI
      refine vc_seq fun K18 hK18 => ?_
      refine vc_seq fun K19 hK19 => ?_
      refine vc_region ?_
      refine vl_q (q_move rfl) (dk rfl) ?_
      refine vl_q (q_fieldAddr 0 rfl rfl rfl rfl (by decide) rfl rfl) (dk rfl) ?_
      refine vl_load rfl rfl rfl rfl rfl rfl rfl (by decide) (dk rfl) ?_
      refine vl_q (q_len_hdr rfl rfl rfl) (dk rfl) ?_
      refine vl_two (x := fun b => vv (.bool b)) _ (q_cmp rfl rfl rfl rfl) (dk rfl) (fun h64 => ?_) (fun h64 => ?_)
      · replace h64 := lss_of h64
        refine vl_nil ?_
        refine hK19 _ ?_
        refine vc_cond_true rfl ?_
        refine vc_skip ?_
        refine hK18 _ ?_
        refine vc_seq fun K20 hK20 => ?_
        refine vc_block ?_
        refine vc_seq fun K21 hK21 => ?_
        have hil : i < (afL l t now).length := by omega
        have hkl := kept_len (now + 3) (afL l t now) i
        refine vc_region ?_
        refine vl_q (q_fieldAddr 0 rfl rfl rfl rfl (by decide) rfl rfl) (dk rfl) ?_
        refine vl_load rfl rfl rfl rfl rfl rfl rfl (by decide) (dk rfl) ?_
        refine vl_q (q_move rfl) (dk rfl) ?_
        refine vl_q (q_indexAddr rfl rfl rfl rfl rfl rfl rfl (by omega) (by omega)) (dk rfl) ?_
        refine vl_q (q_fieldAddr 5 rfl rfl rfl rfl (by decide) rfl rfl) (dk rfl) ?_
        refine vl_load rfl rfl rfl (clo_get (i := i) hil) rfl rfl rfl (by decide) (dk rfl) ?_
        refine vl_q (q_move rfl) (dk rfl) ?_
        refine vl_q (q_add rfl rfl (IntWalk.i64_in _ (by omega))) (dk rfl) ?_
        refine vl_two (x := fun b => vv (.bool b)) _ (q_cmp rfl rfl rfl rfl) (dk rfl) (fun h75 => ?_) (fun h75 => ?_)
        · replace h75 := gtr_of h75
          have hks := congrArg List.length (kept_succ_t (now := now + 3) hil h75)
          simp only [List.length_append, List.length_cons, List.length_nil] at hks
          refine vl_nil ?_
          refine hK21 _ ?_
          refine vc_cond_true rfl ?_
          refine vc_region ?_
          refine vl_q (q_move rfl) (dk rfl) ?_
          refine vl_q (q_add rfl rfl (IntWalk.i64_in _ (by omega))) (dk rfl) ?_
          refine vl_q (q_assign rfl) (dk rfl) ?_
          refine vl_nil ?_
          refine hK20 _ ?_
          refine vc_region ?_
          refine vl_q (q_move rfl) (dk rfl) ?_
          refine vl_q (q_add rfl rfl (IntWalk.i64_in _ (by omega))) (dk rfl) ?_
          refine vl_q (q_assign rfl) (dk rfl) ?_
          refine vl_nil ?_
          refine ⟨_, _, ?_, ⟨i + 1, by omega, rfl, rfl⟩, (Weak.cut _ _ _ (Nat.le_of_ble_eq_true rfl) ⟨⟨rfl, rfl⟩, ⟨rfl, rfl⟩, ⟨rfl, rfl⟩, ⟨rfl, rfl⟩, ⟨rfl, rfl⟩, ⟨rfl, rfl⟩, ⟨rfl, rfl⟩, ⟨rfl, rfl⟩, ⟨(iv_eq (by omega)), rfl⟩, ⟨rfl, rfl⟩, trivial⟩ ⟨⟨Nat.le_of_ble_eq_true rfl, rfl, belN_clo _ _ _⟩, ⟨Nat.le_of_ble_eq_true rfl, rfl, belN_all rfl⟩, ⟨Nat.le_of_ble_eq_true rfl, rfl, belN_clo _ _ _⟩, ⟨Nat.le_of_ble_eq_true rfl, rfl, belN_all rfl⟩, ⟨Nat.le_of_ble_eq_true rfl, rfl, belN_clo _ _ _⟩, ⟨Nat.le_of_ble_eq_true rfl, rfl, belN_all rfl⟩, trivial⟩ rfl)⟩
          omega
        · replace h75 := gtr_nof h75
          have hks := congrArg List.length (kept_succ_f (now := now + 3) hil (by omega))
          refine vl_nil ?_
          refine hK21 _ ?_
          refine vc_cond_false rfl ?_
          refine vc_skip ?_
          refine hK20 _ ?_
          refine vc_region ?_
          refine vl_q (q_move rfl) (dk rfl) ?_
          refine vl_q (q_add rfl rfl (IntWalk.i64_in _ (by omega))) (dk rfl) ?_
          refine vl_q (q_assign rfl) (dk rfl) ?_
          refine vl_nil ?_
          refine ⟨_, _, ?_, ⟨i + 1, by omega, rfl, rfl⟩, (Weak.cut _ _ _ (Nat.le_of_ble_eq_true rfl) ⟨⟨rfl, rfl⟩, ⟨rfl, rfl⟩, ⟨rfl, rfl⟩, ⟨rfl, rfl⟩, ⟨rfl, rfl⟩, ⟨rfl, rfl⟩, ⟨rfl, rfl⟩, ⟨rfl, rfl⟩, ⟨(iv_eq (by omega)), rfl⟩, ⟨rfl, rfl⟩, trivial⟩ ⟨⟨Nat.le_of_ble_eq_true rfl, rfl, belN_clo _ _ _⟩, ⟨Nat.le_of_ble_eq_true rfl, rfl, belN_all rfl⟩, ⟨Nat.le_of_ble_eq_true rfl, rfl, belN_clo _ _ _⟩, ⟨Nat.le_of_ble_eq_true rfl, rfl, belN_all rfl⟩, ⟨Nat.le_of_ble_eq_true rfl, rfl, belN_clo _ _ _⟩, ⟨Nat.le_of_ble_eq_true rfl, rfl, belN_all rfl⟩, trivial⟩ rfl)⟩
          omega
      · replace h64 := lss_nof h64
        refine vl_nil ?_
        refine hK19 _ ?_
        refine vc_cond_false rfl ?_
        refine vc_exit ?_
        refine hK16 _ ?_
        refine vc_seq fun K22 hK22 => ?_
        obtain rfl : i = (afL l t now).length := by omega
        rw [List.take_length]
        refine vc_region ?_
        refine vl_q (q_move rfl) (dk rfl) ?_
        refine vl_q (q_move rfl) (dk rfl) ?_
        refine vl_two (x := fun b => vv (.bool b)) _ (q_cmpB rfl rfl rfl rfl (.inl rfl) rfl) (dk rfl) (fun h80 => ?_) (fun h80 => ?_)
        · replace h80 := eqlB_of h80
          refine vl_q (q_move rfl) (dk rfl) ?_
          refine vl_guard_on rfl rfl rfl ?_
          refine vl_q (q_move rfl) (dk rfl) ?_
          refine vl_guard_on rfl rfl rfl ?_
          refine vl_q (q_move rfl) (dk rfl) ?_
          refine vl_guard_on rfl rfl rfl ?_
          refine vl_two (x := fun b => vv (.bool b)) _ (q_cmpS rfl rfl (.inl rfl) rfl) (dk rfl) (fun h84 => ?_) (fun h84 => ?_)
          · replace h84 := eqlS_of h84
            refine vl_q (q_pick_true rfl rfl) (dk rfl) ?_
            refine vl_q (q_move rfl) (dk rfl) ?_
            refine vl_guard_on rfl rfl rfl ?_
            refine vl_load rfl rfl rfl rfl rfl rfl rfl (by decide) (dk rfl) ?_
            refine vl_guard_on rfl rfl rfl ?_
            refine vl_callP (c_ShelfOk_t l hg) rfl rfl ⟨VOk.agg ⟨XOk.snapH rfl (by simp) (by simp [markHs_len]) (map_wid heldO_len) (heldsO_shr _), trivial⟩, trivial⟩ rfl (.inl rfl) (dk rfl) ?_
            refine vl_q (q_pick_true rfl rfl) (dk rfl) ?_
            refine vl_q (q_move rfl) (dk rfl) ?_
            refine vl_guard_on rfl rfl rfl ?_
            refine vl_load rfl rfl rfl rfl rfl rfl rfl (by decide) (dk rfl) ?_
            refine vl_guard_on rfl rfl rfl ?_
            refine vl_callP (c_ShelfOk_t (afL l t now) hg1) rfl rfl ⟨VOk.agg ⟨XOk.snapH rfl (by simp) (by simp [markHs_len]) (map_wid heldO_len) (heldsO_shr _), trivial⟩, trivial⟩ rfl (.inl rfl) (dk rfl) ?_
            refine vl_q (q_pick_true rfl rfl) (dk rfl) ?_
            refine vl_q (q_move rfl) (dk rfl) ?_
            refine vl_guard_on rfl rfl rfl ?_
            refine vl_load rfl rfl rfl rfl rfl rfl rfl (by decide) (dk rfl) ?_
            refine vl_guard_on rfl rfl rfl ?_
            refine vl_callP (c_ShelfOk_t (kept (now + 3) (afL l t now)) hg2) rfl rfl ⟨VOk.agg ⟨XOk.snapH rfl (by simp) (by simp [markHs_len]) (map_wid heldO_len) (heldsO_shr _), trivial⟩, trivial⟩ rfl (.inl rfl) (dk rfl) ?_
            refine vl_q (q_pick_true rfl rfl) (dk rfl) ?_
            refine vl_q (q_move rfl) (dk rfl) ?_
            refine vl_guard_on rfl rfl rfl ?_
            refine vl_q (q_fieldAddr 0 rfl rfl rfl rfl (by decide) rfl rfl) (dk rfl) ?_
            refine vl_guard_on rfl rfl rfl ?_
            refine vl_load rfl rfl rfl rfl rfl rfl rfl (by decide) (dk rfl) ?_
            refine vl_guard_on rfl rfl rfl ?_
            refine vl_q (q_len_hdr rfl rfl rfl) (dk rfl) ?_
            refine vl_guard_on rfl rfl rfl ?_
            refine vl_q (q_move rfl) (dk rfl) ?_
            refine vl_guard_on rfl rfl rfl ?_
            refine vl_two (x := fun b => vv (.bool b)) _ (q_cmp rfl rfl rfl rfl) (dk rfl) (fun h103 => ?_) (fun h103 => ?_)
            · replace h103 := eql_of h103
              refine vl_q (q_pick_true rfl rfl) (dk rfl) ?_
              refine vl_q (q_assign rfl) (dk rfl) ?_
              refine vl_nil ?_
              refine hK22 _ ?_
              refine vc_ret ?_
              refine ret_p rfl (.cons (res_tmp rfl) .nil) rfl ?_
              rfl
            · replace h103 := eql_nof h103
              exact (h103 rfl).elim
          · replace h84 := eqlS_nof h84
            exact (h84 rfl).elim
        · replace h80 := eqlB_nof h80
          exact (h80 rfl).elim
end Go.Vm.S
namespace Go.Proofs.Ythjohfhnpeiheaa
open Go Go.Vm Go.Vm.S Go.ChangeShapes Go.WideShapes Go.ChangeAt Go.RowKit
theorem Try.own : ownKnob Try.prog.godebug = none := by kernel_rfl
theorem Try.laidOut : laidOutB Try.prog = true := by kernel_rfl
theorem funcAt5 : Try.checked.prog.funcs[5]? = some Try.f5 := by kernel_rfl
set_option maxRecDepth 100000 in
theorem shelves_holds_lifted (os : Os) (started : os.Started) (H : Type) (enc : TypeId × Value → H) :
    ReturnsInHanded {} Try.checked os 5 .any (Rows.fnShelvesSpec.pre6 enc Try.prog Try.f5 Rows.fnShelvesRow.domain false) (Rows.fnShelvesSpec.post enc Try.prog Try.f5 false true false false) := by
  refine returnsInHanded_of_change (C := Try.checked) Try.own started (by kernel_rfl) funcAt5
    (ChangeSpec.witness6 (enc := enc) (C := Try.checked) false ⟨#[], #[.slice none 0 0], []⟩ 8 (by kernel_rfl) (by kernel_rfl) (by kernel_rfl) (by kernel_rfl)) ?_
  intro W base args ds gs before hval0 hW _ _
  have hval : ∀ (j : Nat) t v, Try.f5.params[j]? = some t → args[j]? = some v → Value.okWide Try.prog W .any base t v := hval0
  have hW' := hW
  obtain ⟨p, q, hA0, hV, rfl, hfz, hnd⟩ := hW
  have hA : DataW.TrodAll enc Try.prog W 0 (fun _ => true) true [22] args.toList ds p := hA0
  obtain ⟨v0, vs0, d0, ds0, p0, q0, hargs, rfl, rfl, h0, hR0⟩ := trodAll_cons hA
  obtain ⟨rfl, rfl, rfl⟩ := trodAll_nil hR0
  obtain rfl : args = #[v0] := by cases args; simp_all
  obtain ⟨c0, s0, r0⟩ := trod_one (P := Try.prog) 12 (by kernel_rfl) (tyok 22 _ rfl).1 rfl (hval 0 22 v0 rfl rfl) h0
  obtain ⟨bs, e0⟩ := shp_bytes s0
  cases e0
  exact law_calls (P := Try.prog) (vs := [.one (.c (.fz 1 (bs.map byteC)))]) tyok Try.laidOut rfl rfl (tyok 4 _ rfl).1 (by kernel_rfl) rfl hW' rfl
    (fun j x y hx hy L => by
      match j with
      | 0 => cases hx; cases hy; exact (r0 L 16).iced
      | j + 1 => simp at hx)
    (c_laws_FnShelves bs)
theorem shelves_holds : Rows.FnShelvesSaid :=
  OpenClaim.holds_of_wide 5 Try.f5 rfl rfl rfl rfl rfl rfl rfl ⟨rfl, rfl, rfl, rfl, rfl⟩ rfl rfl rfl rfl rfl (by kernel_rfl) funcAt5 (by kernel_rfl)
    (of_decide_eq_true (by kernel_rfl)) (by unfold Func.isWrapper; first | (rw [if_pos (by decide +kernel)]; kernel_rfl) | (rw [if_neg (by decide +kernel)]; exact ⟨rfl, rfl⟩))
    (fun os started H enc _ => shelves_holds_lifted os started H enc)
#print axioms shelves_holds
end Go.Proofs.Ythjohfhnpeiheaa
