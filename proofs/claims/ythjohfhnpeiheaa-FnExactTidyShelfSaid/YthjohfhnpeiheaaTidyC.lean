/- The law of the tidied shelf holds: 'laws.FnExactTidyShelf' answers true, whatever shelf and hour it is given. No condition. -/
import Derived.Test.YthjohfhnpeiheaaTidyB
import Derived.Test.YthjohfhnpeiheaaRows
import Derived.Test.YthjohfhnpeiheaaChecked
set_option linter.all false
namespace Go.Vm.S
open Go Go.Vm
set_option maxRecDepth 100000
set_option linter.unusedVariables false
theorem at46 : FnAt Pg 46 Go.Proofs.Try.f46 := ⟨by kernel_rfl, rfl, by decide⟩
theorem c_laws_markHeldS (l : List Held) (k : Int) (hk : 0 ≤ k ∧ k + (sumOf wH l : Nat) ≤ 1152921504606846976) :
    Ctr Pg ty 46 [.one (.hdr 0 0 l.length), iv k] [⟨6, clo (l.map heldO)⟩] (Gives (vv (.int .i64 (k + (sumOf wH l : Nat)))) [] [⟨6, clo ((markHs k l).map heldO)⟩]) := by
  refine ctr at46 rfl (nsK_gives rfl trivial ⟨nsN_map heldO_noSh, trivial⟩) (Nat.le_of_ble_eq_true rfl) fun w0 S0 L0 Z => ?_
  refine vc_seq fun K1 hK1 => ?_
  refine vc_region ?_
  refine vl_q (q_assign rfl) (dk rfl) ?_
  refine vl_nil ?_
  refine hK1 _ ?_
  refine vc_seq fun K2 hK2 => ?_
  refine vc_seq fun K3 hK3 => ?_
  refine vc_fact (fun a w g => (good_lim_hdr (x := .tmp 0) rfl rfl g).2) fun hlen => ?_
  refine vc_region ?_
  refine vl_q (q_assign rfl) (dk rfl) ?_
  refine vl_nil ?_
  refine hK3 _ ?_
  refine vc_block ?_
  refine vc_loop (fun mz st => ∃ i : Nat, (i ≤ l.length) ∧ mz = l.length - i ∧ st = mkSt [(0, .v (.one (.hdr 0 0 l.length))), (1, .v (iv (k + (sumTo wH l i : Nat)))), (5, .v (iv i))] [(0, ⟨6, clo ((over (markHs k l) l i).map heldO)⟩)] 16) ⟨_, _, ⟨0, by omega, rfl, rfl⟩, (Weak.cut _ _ _ (Nat.le_of_ble_eq_true rfl) ⟨⟨rfl, rfl⟩, ⟨iv_eq (by rw [sumTo_zero]; omega), rfl⟩, ⟨rfl, rfl⟩, trivial⟩ ⟨⟨Nat.le_of_ble_eq_true rfl, rfl, belN_clo _ _ _⟩, trivial⟩ rfl)⟩ (fun mz st hI => ?_)
  obtain ⟨i, hi, hmz, rfl⟩ := hI
  refine vc_seq fun K4 hK4 => ?_
  refine vc_seq fun K5 hK5 => ?_
  refine vc_region ?_
  refine vl_q (q_move rfl) (dk rfl) ?_
  refine vl_q (q_move rfl) (dk rfl) ?_
  refine vl_q (q_len_hdr rfl rfl rfl) (dk rfl) ?_
  refine vl_two (x := fun b => vv (.bool b)) _ (q_cmp rfl rfl rfl rfl) (dk rfl) (fun h9 => ?_) (fun h9 => ?_)
  · replace h9 := lss_of h9
    refine vl_nil ?_
    refine hK5 _ ?_
    refine vc_cond_true rfl ?_
    refine vc_skip ?_
    refine hK4 _ ?_
    refine vc_seq fun K6 hK6 => ?_
    refine vc_block ?_
    refine vc_seq fun K7 hK7 => ?_
    have hil : i < l.length := by omega
    have hsc := sumTo_succ wH l hil
    have hsl := sumTo_le wH l (i + 1)
    have hw : wH l[i] = 4 + l[i].parts.length + l[i].hav.length := rfl
    have hlc : i < (clo ((over (markHs k l) l i).map heldO)).length := by simp only [clo, List.length_map]; rw [over_len (markHs_len k l)]; exact hil
    refine vc_region ?_
    refine vl_q (q_move rfl) (dk rfl) ?_
    refine vl_q (q_move rfl) (dk rfl) ?_
    refine vl_q (q_move rfl) (dk rfl) ?_
    refine vl_q (q_indexAddr rfl rfl rfl rfl rfl rfl rfl (by omega) (by omega)) (dk rfl) ?_
    refine vl_q (q_fieldAddr 0 rfl rfl rfl rfl (by decide) rfl rfl) (dk rfl) ?_
    refine vl_store rfl rfl rfl rfl (over_get heldO (markHs_len k l) hil) rfl (Nat.le_of_ble_eq_true rfl) trivial ?_
    refine vl_nil ?_
    refine hK7 _ ?_
    refine vc_seq fun K8 hK8 => ?_
    refine vc_region ?_
    refine vl_q (q_move rfl) (dk rfl) ?_
    refine vl_q (q_add rfl rfl (IntWalk.i64_in _ (by omega))) (dk rfl) ?_
    refine vl_q (q_assign rfl) (dk rfl) ?_
    refine vl_nil ?_
    refine hK8 _ ?_
    refine vc_seq fun K9 hK9 => ?_
    refine vc_region ?_
    refine vl_q (q_move rfl) (dk rfl) ?_
    refine vl_q (q_move rfl) (dk rfl) ?_
    refine vl_q (q_move rfl) (dk rfl) ?_
    refine vl_q (q_indexAddr rfl rfl rfl rfl rfl rfl rfl (by omega) (by omega)) (dk rfl) ?_
    refine vl_q (q_fieldAddr 1 rfl rfl rfl rfl (by decide) rfl rfl) (dk rfl) ?_
    refine vl_store rfl rfl rfl rfl (set_get hlc) rfl (Nat.le_of_ble_eq_true rfl) trivial ?_
    refine vl_nil ?_
    refine hK9 _ ?_
    refine vc_seq fun K10 hK10 => ?_
    simp only [List.set_set, Int.toNat_natCast, Nat.add_zero]
    refine vc_region ?_
    refine vl_q (q_move rfl) (dk rfl) ?_
    refine vl_q (q_add rfl rfl (IntWalk.i64_in _ (by omega))) (dk rfl) ?_
    refine vl_q (q_assign rfl) (dk rfl) ?_
    refine vl_nil ?_
    refine hK10 _ ?_
    refine vc_seq fun K11 hK11 => ?_
    refine vc_region ?_
    refine vl_q (q_move rfl) (dk rfl) ?_
    refine vl_q (q_move rfl) (dk rfl) ?_
    refine vl_q (q_move rfl) (dk rfl) ?_
    refine vl_q (q_indexAddr rfl rfl rfl rfl rfl rfl rfl (by omega) (by omega)) (dk rfl) ?_
    refine vl_q (q_fieldAddr 2 rfl rfl rfl rfl (by decide) rfl rfl) (dk rfl) ?_
    refine vl_store rfl rfl rfl rfl (set_get hlc) rfl (Nat.le_of_ble_eq_true rfl) trivial ?_
    refine vl_nil ?_
    refine hK11 _ ?_
    refine vc_seq fun K12 hK12 => ?_
    simp only [List.set_set, Int.toNat_natCast, Nat.add_zero]
    refine vc_region ?_
    refine vl_q (q_move rfl) (dk rfl) ?_
    refine vl_q (q_add rfl rfl (IntWalk.i64_in _ (by omega))) (dk rfl) ?_
    refine vl_q (q_assign rfl) (dk rfl) ?_
    refine vl_nil ?_
    refine hK12 _ ?_
    refine vc_seq fun K13 hK13 => ?_
    refine vc_region ?_
    refine vl_q (q_move rfl) (dk rfl) ?_
    refine vl_q (q_move rfl) (dk rfl) ?_
    refine vl_q (q_indexAddr rfl rfl rfl rfl rfl rfl rfl (by omega) (by omega)) (dk rfl) ?_
    refine vl_q (q_fieldAddr 3 rfl rfl rfl rfl (by decide) rfl rfl) (dk rfl) ?_
    refine vl_open (nm := 0) (i := i) (j := 3) rfl rfl rfl (set_get hlc) rfl rfl ?_
    simp only [List.set_set, List.length_map, Int.toNat_natCast, Nat.add_zero]
    refine vl_load rfl rfl rfl (set_get hlc) rfl rfl rfl (by decide) (dk rfl) ?_
    refine vl_q (q_move rfl) (dk rfl) ?_
    refine vl_callG [16] (vv (.int .i64 _)) (c_laws_markStringS l[i].parts ((k + (sumTo wH l i : Nat)) + 1 + 1 + 1) (by omega)) rfl rfl ⟨XOk.hdr rfl (by decide) _ _, XOk.val _, trivial⟩ ⟨⟨_, rfl, NR.clo _ _ _ _⟩, trivial⟩ rfl (by decide) trivial ⟨fix_clo _ _, trivial⟩ rfl (dk rfl) ?_
    refine vl_q (q_assign rfl) (dk rfl) ?_
    refine vl_nil ?_
    refine hK13 _ ?_
    refine vc_seq fun K14 hK14 => ?_
    refine vc_weak (Weak.close1 (nm := 0) (i := i) (j := 3) (m := 16) (es := (mkS ((k + (sumTo wH l i : Nat)) + 1 + 1 + 1) l[i].parts.length).map strC) rfl (set_get hlc) rfl rfl (by simp [mkS_len]) (by decide)) ?_
    simp only [List.set_set, Int.toNat_natCast, Nat.add_zero]
    refine vc_region ?_
    refine vl_q (q_move rfl) (dk rfl) ?_
    refine vl_q (q_move rfl) (dk rfl) ?_
    refine vl_q (q_indexAddr rfl rfl rfl rfl rfl rfl rfl (by omega) (by omega)) (dk rfl) ?_
    refine vl_q (q_fieldAddr 4 rfl rfl rfl rfl (by decide) rfl rfl) (dk rfl) ?_
    refine vl_open (nm := 0) (i := i) (j := 4) rfl rfl rfl (set_get hlc) rfl rfl ?_
    simp only [List.set_set, List.length_map, Int.toNat_natCast, Nat.add_zero]
    refine vl_load rfl rfl rfl (set_get hlc) rfl rfl rfl (by decide) (dk rfl) ?_
    refine vl_q (q_move rfl) (dk rfl) ?_
    refine vl_callG [17] (vv (.int .i64 _)) (c_laws_markBoolS l[i].hav ((k + (sumTo wH l i : Nat)) + 1 + 1 + 1 + l[i].parts.length) (by omega)) rfl rfl ⟨XOk.hdr rfl (by decide) _ _, XOk.val _, trivial⟩ ⟨⟨_, rfl, NR.clo _ _ _ _⟩, trivial⟩ rfl (by decide) trivial ⟨fix_clo _ _, trivial⟩ rfl (dk rfl) ?_
    refine vl_q (q_assign rfl) (dk rfl) ?_
    refine vl_nil ?_
    refine hK14 _ ?_
    refine vc_seq fun K15 hK15 => ?_
    refine vc_weak (Weak.close1 (nm := 0) (i := i) (j := 4) (m := 17) (es := (mkB ((k + (sumTo wH l i : Nat)) + 1 + 1 + 1 + l[i].parts.length) l[i].hav.length).map boolC) rfl (set_get hlc) rfl rfl (by simp [mkB_len]) (by decide)) ?_
    simp only [List.set_set, Int.toNat_natCast, Nat.add_zero]
    refine vc_region ?_
    refine vl_q (q_move rfl) (dk rfl) ?_
    refine vl_q (q_move rfl) (dk rfl) ?_
    refine vl_q (q_move rfl) (dk rfl) ?_
    refine vl_q (q_indexAddr rfl rfl rfl rfl rfl rfl rfl (by omega) (by omega)) (dk rfl) ?_
    refine vl_q (q_fieldAddr 5 rfl rfl rfl rfl (by decide) rfl rfl) (dk rfl) ?_
    refine vl_store rfl rfl rfl rfl (set_get hlc) rfl (Nat.le_of_ble_eq_true rfl) trivial ?_
    refine vl_nil ?_
    refine hK15 _ ?_
    simp only [List.set_set, Int.toNat_natCast, Nat.add_zero]
    refine vc_region ?_
    refine vl_q (q_move rfl) (dk rfl) ?_
    refine vl_q (q_add rfl rfl (IntWalk.i64_in _ (by omega))) (dk rfl) ?_
    refine vl_q (q_assign rfl) (dk rfl) ?_
    refine vl_nil ?_
    refine hK6 _ ?_
    refine vc_region ?_
    refine vl_q (q_move rfl) (dk rfl) ?_
    refine vl_q (q_add rfl rfl (IntWalk.i64_in _ (by omega))) (dk rfl) ?_
    refine vl_q (q_assign rfl) (dk rfl) ?_
    refine vl_nil ?_
    refine ⟨_, _, ?_, ⟨i + 1, by omega, rfl, rfl⟩, (Weak.cut _ _ _ (Nat.le_of_ble_eq_true rfl) ⟨⟨rfl, rfl⟩, ⟨iv_eq (by omega), rfl⟩, ⟨rfl, rfl⟩, trivial⟩ ⟨⟨Nat.le_of_ble_eq_true rfl, some_node (over_set heldO (markHs_len k l) hil (markHs_at k l hil) rfl), belN_clo _ _ _⟩, trivial⟩ rfl)⟩
    omega
  · replace h9 := lss_nof h9
    refine vl_nil ?_
    refine hK5 _ ?_
    refine vc_cond_false rfl ?_
    refine vc_exit ?_
    refine hK2 _ ?_
    refine vc_seq fun K16 hK16 => ?_
    refine vc_region ?_
    refine vl_q (q_move rfl) (dk rfl) ?_
    refine vl_q (q_assign rfl) (dk rfl) ?_
    refine vl_nil ?_
    refine hK16 _ ?_
    refine vc_ret ?_
    have hf := sumTo_full wH l (i := i) (by omega)
    refine ret_g [] rfl (.cons (res_tmp rfl) .nil) (by rw [hf]; rfl) rfl (nodupB_ok rfl) trivial trivial ⟨⟨_, some_node (congrArg (fun z => clo (List.map heldO z)) (over_full (markHs_len k l) (by omega))), NR.clo _ _ _ _⟩, trivial⟩ (Nat.le_of_ble_eq_true rfl)
theorem at21 : FnAt Pg 21 Go.Proofs.Try.f21 := ⟨by kernel_rfl, rfl, by decide⟩
theorem c_laws_markShelf (l : List Held) (k : Int) (hk : 0 ≤ k ∧ k + (sumOf wH l : Nat) ≤ 1152921504606846976) :
    Ctr Pg ty 21 [.agg [.hdr 0 0 l.length], iv k] [⟨6, clo (l.map heldO)⟩] (Gives (vv (.int .i64 (k + (sumOf wH l : Nat)))) [] [⟨6, clo ((markHs k l).map heldO)⟩]) := by
  refine ctr at21 rfl (nsK_gives rfl trivial ⟨nsN_map heldO_noSh, trivial⟩) (Nat.le_of_ble_eq_true rfl) fun w0 S0 L0 Z => ?_
  refine vc_seq fun K1 hK1 => ?_
  refine vc_region ?_
  refine vl_box rfl (dk rfl) ?_
  refine vl_q (q_assign rfl) (dk rfl) ?_
  refine vl_nil ?_
  refine hK1 _ ?_
  refine vc_seq fun K2 hK2 => ?_
  refine vc_region ?_
  refine vl_q (q_fieldAddr 0 rfl rfl rfl rfl (by decide) rfl rfl) (dk rfl) ?_
  refine vl_load rfl rfl rfl rfl rfl rfl rfl (by decide) (dk rfl) ?_
  refine vl_q (q_move rfl) (dk rfl) ?_
  refine vl_callG [0] (vv (.int .i64 _)) (c_laws_markHeldS l k hk) rfl rfl ⟨XOk.hdr rfl (by decide) _ _, XOk.val _, trivial⟩ ⟨⟨_, rfl, NR.clo _ _ _ _⟩, trivial⟩ rfl (by decide) trivial ⟨fix_clo _ _, trivial⟩ rfl (dk rfl) ?_
  refine vl_q (q_assign rfl) (dk rfl) ?_
  refine vl_nil ?_
  refine hK2 _ ?_
  refine vc_seq fun K3 hK3 => ?_
  refine vc_region ?_
  refine vl_q (q_move rfl) (dk rfl) ?_
  refine vl_q (q_assign rfl) (dk rfl) ?_
  refine vl_nil ?_
  refine hK3 _ ?_
  refine vc_ret ?_
  refine ret_g [] rfl (.cons (res_tmp rfl) .nil) rfl rfl (nodupB_ok rfl) trivial trivial ⟨⟨_, rfl, NR.clo _ _ _ _⟩, trivial⟩ (Nat.le_of_ble_eq_true rfl)
end Go.Vm.S
namespace Go.Vm.S
open Go Go.Vm
set_option maxRecDepth 100000
set_option linter.unusedVariables false
theorem at41 : FnAt Pg 41 Go.Proofs.Try.f41 := ⟨by kernel_rfl, rfl, by decide⟩
theorem c_spec_l20Copy (l : List Held) (hb : szHelds l ≤ 4194304) :
    Ctr Pg ty 41 [.agg ((shelfC l).map X.c)] [] (Gives (.v (.agg [.hdr 16 0 l.length])) [⟨6, clo (l.map heldO)⟩] []) := by
  have hl : l.length ≤ 4194304 := by unfold szHelds at hb; omega
  refine ctr at41 rfl (nsK_gives rfl ⟨nsN_map heldO_noSh, trivial⟩ trivial) (Nat.le_of_ble_eq_true rfl) fun w0 S0 L0 Z => ?_
  refine vc_seq fun K1 hK1 => ?_
  refine vc_region ?_
  refine vl_box rfl (dk rfl) ?_
  refine vl_alloc rfl (dk rfl) ?_
  refine vl_nil ?_
  refine hK1 _ ?_
  refine vc_seq fun K2 hK2 => ?_
  refine vc_region ?_
  refine vl_q (q_build rfl rfl rfl rfl rfl) (dk rfl) ?_
  refine vl_alloc rfl (dk rfl) ?_
  refine vl_store rfl rfl rfl rfl rfl rfl (Nat.le_of_ble_eq_true rfl) trivial ?_
  refine vl_nil ?_
  refine hK2 _ ?_
  refine vc_seq fun K3 hK3 => ?_
  refine vc_seq fun K4 hK4 => ?_
  refine vc_region ?_
  refine vl_q (q_assign rfl) (dk rfl) ?_
  refine vl_nil ?_
  refine hK4 _ ?_
  refine vc_block ?_
  refine vc_weak (Weak.tell1 (m := 18) (i := 0) (j := 0) rfl rfl rfl (Imp.nil 6) (one_wid rfl)) ?_
  refine vc_loop (fun mz st => ∃ i : Nat, (i ≤ l.length) ∧ mz = l.length - i ∧ st = mkSt [(1, .v (.one (.ptr 16 0 0))), (2, .v (.one (.ptr 17 0 0))), (3, .v (.one (.ptr 18 0 0))), (4, .v (iv i))] [(16, ⟨1, [[.c (.sh 6 (l.map heldC))]]⟩), (17, ⟨1, [[.c (.val (.slice none 0 0))]]⟩), (18, ⟨1, [[.c (.own 6 ((l.take i).map heldO))]]⟩)] 19) ⟨_, _, ⟨0, by omega, rfl, rfl⟩, (Weak.cut _ _ _ (Nat.le_of_ble_eq_true rfl) ⟨⟨rfl, rfl⟩, ⟨rfl, rfl⟩, ⟨rfl, rfl⟩, ⟨rfl, rfl⟩, trivial⟩ ⟨⟨Nat.le_of_ble_eq_true rfl, rfl, belN_all rfl⟩, ⟨Nat.le_of_ble_eq_true rfl, rfl, belN_all rfl⟩, ⟨Nat.le_of_ble_eq_true rfl, rfl, belN_all rfl⟩, trivial⟩ rfl)⟩ (fun mz st hI => ?_)
  obtain ⟨i, hi, hmz, rfl⟩ := hI
  refine vc_seq fun K5 hK5 => ?_
  refine vc_seq fun K6 hK6 => ?_
  refine vc_region ?_
  refine vl_q (q_move rfl) (dk rfl) ?_
  refine vl_q (q_fieldAddr 0 rfl rfl rfl rfl (by decide) rfl rfl) (dk rfl) ?_
  refine vl_load rfl rfl rfl rfl rfl rfl rfl (by decide) (dk rfl) ?_
  refine vl_q (q_len_sh rfl rfl rfl) (dk rfl) ?_
  refine vl_two (x := fun b => vv (.bool b)) _ (q_cmp rfl rfl rfl rfl) (dk rfl) (fun h11 => ?_) (fun h11 => ?_)
  · replace h11 := lss_of h11
    simp only [List.length_map] at h11
    refine vl_nil ?_
    refine hK6 _ ?_
    refine vc_cond_true rfl ?_
    refine vc_skip ?_
    refine hK5 _ ?_
    refine vc_seq fun K7 hK7 => ?_
    refine vc_block ?_
    refine vc_seq fun K8 hK8 => ?_
    have hil : i < l.length := by omega
    have hbi : szHeld l[i] ≤ 4194304 := by
      have h1 := sumTo_succ szHeld l hil
      have h2 := sumTo_le szHeld l (i + 1)
      unfold szHelds at hb; omega
    have hp : l[i].parts.length ≤ 4194304 := by unfold szHeld szStrs at hbi; omega
    have hh : l[i].hav.length ≤ 4194304 := by unfold szHeld szStrs at hbi; omega
    refine vc_region ?_
    refine vl_q (q_fieldAddr 0 rfl rfl rfl rfl (by decide) rfl rfl) (dk rfl) ?_
    refine vl_load rfl rfl rfl rfl rfl rfl rfl (by decide) (dk rfl) ?_
    refine vl_q (q_move rfl) (dk rfl) ?_
    refine vl_q (q_indexAddr_sh rfl rfl rfl rfl rfl rfl (by decide) (by omega) (get_map (i := i) hil)) (dk rfl) ?_
    refine vl_q (q_load_sp rfl rfl rfl rfl (by decide)) (dk rfl) ?_
    refine vl_alloc rfl (dk rfl) ?_
    refine vl_store rfl rfl rfl rfl rfl rfl (Nat.le_of_ble_eq_true rfl) trivial ?_
    refine vl_nil ?_
    refine hK8 _ ?_
    refine vc_seq fun K9 hK9 => ?_
    refine vc_region ?_
    refine vl_bslice rfl rfl rfl rfl rfl rfl trivial (by decide) (by decide) (dk rfl) ?_
    refine vl_q (q_fieldAddr 3 rfl rfl rfl rfl (by decide) rfl rfl) (dk rfl) ?_
    refine vl_load rfl rfl rfl rfl rfl rfl rfl (by decide) (dk rfl) ?_
    refine vl_append rfl rfl rfl rfl (fun _ h => TypeDesc.noConfusion h) rfl rfl rfl (Nat.le_refl _) (src_sh rfl rfl (map_wid fun _ => rfl)) (by simp only [List.length_map]; show _ * 16 ≤ _; omega) (by simp only [List.length_map]; omega) (dk rfl) ?_
    simp only [List.drop_nil, List.take_nil, List.nil_append, List.length_map, Nat.zero_add]
    refine vl_q (q_fieldAddr 3 rfl rfl rfl rfl (by decide) rfl rfl) (dk rfl) ?_
    refine vl_store rfl rfl rfl rfl rfl rfl (Nat.le_of_ble_eq_true rfl) trivial ?_
    refine vl_nil ?_
    refine hK9 _ ?_
    refine vc_seq fun K10 hK10 => ?_
    refine vc_region ?_
    refine vl_bslice rfl rfl rfl rfl rfl rfl trivial (by decide) (by decide) (dk rfl) ?_
    refine vl_q (q_fieldAddr 4 rfl rfl rfl rfl (by decide) rfl rfl) (dk rfl) ?_
    refine vl_load rfl rfl rfl rfl rfl rfl rfl (by decide) (dk rfl) ?_
    refine vl_append rfl rfl rfl rfl (fun _ h => TypeDesc.noConfusion h) rfl rfl rfl (Nat.le_refl _) (src_sh rfl rfl (map_wid fun _ => rfl)) (by simp only [List.length_map]; show _ * 1 ≤ _; omega) (by simp only [List.length_map]; omega) (dk rfl) ?_
    simp only [List.drop_nil, List.take_nil, List.nil_append, List.length_map, Nat.zero_add]
    refine vl_q (q_fieldAddr 4 rfl rfl rfl rfl (by decide) rfl rfl) (dk rfl) ?_
    refine vl_store rfl rfl rfl rfl rfl rfl (Nat.le_of_ble_eq_true rfl) trivial ?_
    refine vl_nil ?_
    refine hK10 _ ?_
    refine vc_region ?_
    refine vl_q (q_fieldAddr 0 rfl rfl rfl rfl (by decide) rfl rfl) (dk rfl) ?_
    refine vl_open (nm := 18) (i := 0) (j := 0) rfl rfl rfl rfl rfl rfl ?_
    simp only [List.length_map, List.length_take, Nat.min_eq_left hi]
    refine vl_load rfl rfl rfl rfl rfl rfl rfl (by decide) (dk rfl) ?_
    refine vl_load rfl rfl rfl rfl rfl rfl rfl (by decide) (dk rfl) ?_
    refine vl_bslice rfl rfl rfl rfl rfl rfl ⟨rfl, trivial⟩ (by decide) (by decide) (dk rfl) ?_
    refine vl_append rfl rfl rfl rfl (fun _ h => TypeDesc.noConfusion h) rfl rfl rfl (by rw [Nat.zero_add]; exact Nat.le_of_eq (by simp; omega)) (src_row rfl rfl rfl rfl) (by show (i + 1) * 80 ≤ _; omega) (by show i + 1 < _; omega) (dk rfl) ?_
    refine vl_q (q_fieldAddr 0 rfl rfl rfl rfl (by decide) rfl rfl) (dk rfl) ?_
    refine vl_store rfl rfl rfl rfl rfl rfl (Nat.le_of_ble_eq_true rfl) trivial ?_
    refine vl_nil ?_
    refine hK7 _ ?_
    refine vc_weak (Weak.node (m := 26) rfl (congrArg (Vm.Node.mk 6) (app_take (take_map_len (f := heldO) hi)))) ?_
    refine vc_weak (Weak.close1 (nm := 26) (i := i) (j := 3) (m := 21) (es := l[i].parts.map strC) rfl (app_get (take_map_len hi)) rfl rfl (by simp) (by decide)) ?_
    refine vc_weak (Weak.close1 (nm := 26) (i := i) (j := 4) (m := 23) (es := l[i].hav.map boolC) rfl (set_get (app_lt (take_map_len hi))) rfl rfl (by simp) (by decide)) ?_
    refine vc_weak (Weak.node (m := 26) (nd' := ⟨6, clo ((l.take (i + 1)).map heldO)⟩) rfl (congrArg (Vm.Node.mk 6) ((List.set_set _).trans ((app_set (take_map_len hi)).trans (clo_snoc.trans (congrArg clo (take_map_snoc (f := heldO) hil))))))) ?_
    refine vc_weak (Weak.close1 (nm := 18) (i := 0) (j := 0) (m := 26) (es := (l.take (i + 1)).map heldO) rfl rfl rfl rfl (by simp; omega) (by decide)) ?_
    refine vc_region ?_
    refine vl_q (q_move rfl) (dk rfl) ?_
    refine vl_q (q_add rfl rfl (IntWalk.i64_in _ (by omega))) (dk rfl) ?_
    refine vl_q (q_assign rfl) (dk rfl) ?_
    refine vl_nil ?_
    refine ⟨_, _, ?_, ⟨i + 1, by omega, rfl, rfl⟩, (Weak.cut _ _ _ (Nat.le_of_ble_eq_true rfl) ⟨⟨rfl, rfl⟩, ⟨rfl, rfl⟩, ⟨rfl, rfl⟩, ⟨rfl, rfl⟩, trivial⟩ ⟨⟨Nat.le_of_ble_eq_true rfl, rfl, belN_all rfl⟩, ⟨Nat.le_of_ble_eq_true rfl, rfl, belN_all rfl⟩, ⟨Nat.le_of_ble_eq_true rfl, rfl, belN_all rfl⟩, trivial⟩ rfl)⟩
    omega
  · replace h11 := lss_nof h11
    simp only [List.length_map] at h11
    refine vl_nil ?_
    refine hK6 _ ?_
    refine vc_cond_false rfl ?_
    refine vc_exit ?_
    refine hK3 _ ?_
    refine vc_seq fun K11 hK11 => ?_
    obtain rfl : i = l.length := by omega
    refine vc_weak (Weak.node (m := 18) (nd' := ⟨1, [[.c (.own 6 (l.map heldO))]]⟩) rfl (by rw [List.take_length])) ?_
    refine vc_region ?_
    refine vl_open (nm := 18) (i := 0) (j := 0) rfl rfl rfl rfl rfl rfl ?_
    simp only [List.length_map]
    refine vl_load rfl rfl rfl rfl rfl rfl rfl (by decide) (dk rfl) ?_
    refine vl_store rfl rfl rfl rfl rfl rfl (Nat.le_of_ble_eq_true rfl) trivial ?_
    refine vl_nil ?_
    refine hK11 _ ?_
    refine vc_ret ?_
    refine ret_g [19] rfl (.cons (res_cell rfl rfl rfl rfl rfl rfl rfl (by decide)) .nil) rfl rfl (nodupB_ok rfl) ⟨by decide, trivial⟩ ⟨⟨_, rfl, NR.clo _ _ _ _⟩, trivial⟩ trivial (Nat.zero_le _)
end Go.Vm.S
namespace Go.Vm.S
open Go Go.Vm
set_option maxRecDepth 100000
set_option linter.unusedVariables false
theorem at17 : FnAt Pg 17 Go.Proofs.Try.f17 := ⟨by kernel_rfl, rfl, by decide⟩
theorem c_spec_TidyShelf (l : List Held) (now : Int) (hb : szHelds l ≤ 4194304) (hb2 : szHelds (kept now l) ≤ 4194304) :
    Ctr Pg ty 17 [.agg ((shelfC l).map X.c), iv now] [] (Gives (.v (.agg [.hdr 16 0 (kept now l).length])) [⟨6, clo ((kept now l).map heldO)⟩] []) := by
  have hl : l.length ≤ 4194304 := by unfold szHelds at hb; omega
  refine ctr at17 rfl (nsK_gives rfl ⟨nsN_map heldO_noSh, trivial⟩ trivial) (Nat.le_of_ble_eq_true rfl) fun w0 S0 L0 Z => ?_
  refine vc_seq fun K1 hK1 => ?_
  refine vc_region ?_
  refine vl_box rfl (dk rfl) ?_
  refine vl_alloc rfl (dk rfl) ?_
  refine vl_nil ?_
  refine hK1 _ ?_
  refine vc_seq fun K2 hK2 => ?_
  refine vc_region ?_
  refine vl_q (q_build rfl rfl rfl rfl rfl) (dk rfl) ?_
  refine vl_alloc rfl (dk rfl) ?_
  refine vl_store rfl rfl rfl rfl rfl rfl (Nat.le_of_ble_eq_true rfl) trivial ?_
  refine vl_nil ?_
  refine hK2 _ ?_
  refine vc_seq fun K3 hK3 => ?_
  refine vc_seq fun K4 hK4 => ?_
  refine vc_region ?_
  refine vl_q (q_assign rfl) (dk rfl) ?_
  refine vl_nil ?_
  refine hK4 _ ?_
  refine vc_block ?_
  refine vc_weak (Weak.tell1 (m := 18) (i := 0) (j := 0) rfl rfl rfl (Imp.nil 6) (one_wid rfl)) ?_
  refine vc_loop (fun mz st => ∃ i : Nat, (i ≤ l.length) ∧ mz = l.length - i ∧ st = mkSt [(1, .v (iv now)), (2, .v (.one (.ptr 16 0 0))), (4, .v (.one (.ptr 17 0 0))), (5, .v (.one (.ptr 18 0 0))), (6, .v (iv i))] [(16, ⟨1, [[.c (.sh 6 (l.map heldC))]]⟩), (17, ⟨1, [[.c (.val (.slice none 0 0))]]⟩), (18, ⟨1, [[.c (.own 6 ((kept now (l.take i)).map heldC))]]⟩)] 19) ⟨_, _, ⟨0, by omega, rfl, rfl⟩, (Weak.cut _ _ _ (Nat.le_of_ble_eq_true rfl) ⟨⟨rfl, rfl⟩, ⟨rfl, rfl⟩, ⟨rfl, rfl⟩, ⟨rfl, rfl⟩, ⟨rfl, rfl⟩, trivial⟩ ⟨⟨Nat.le_of_ble_eq_true rfl, rfl, belN_all rfl⟩, ⟨Nat.le_of_ble_eq_true rfl, rfl, belN_all rfl⟩, ⟨Nat.le_of_ble_eq_true rfl, rfl, belN_all rfl⟩, trivial⟩ rfl)⟩ (fun mz st hI => ?_)
  obtain ⟨i, hi, hmz, rfl⟩ := hI
  refine vc_seq fun K5 hK5 => ?_
  refine vc_seq fun K6 hK6 => ?_
  refine vc_region ?_
  refine vl_q (q_move rfl) (dk rfl) ?_
  refine vl_q (q_fieldAddr 0 rfl rfl rfl rfl (by decide) rfl rfl) (dk rfl) ?_
  refine vl_load rfl rfl rfl rfl rfl rfl rfl (by decide) (dk rfl) ?_
  refine vl_q (q_len_sh rfl rfl rfl) (dk rfl) ?_
  refine vl_two (x := fun b => vv (.bool b)) _ (q_cmp rfl rfl rfl rfl) (dk rfl) (fun h12 => ?_) (fun h12 => ?_)
  · replace h12 := lss_of h12
    simp only [List.length_map] at h12
    refine vl_nil ?_
    refine hK6 _ ?_
    refine vc_cond_true rfl ?_
    refine vc_skip ?_
    refine hK5 _ ?_
    refine vc_seq fun K7 hK7 => ?_
    refine vc_block ?_
    refine vc_seq fun K8 hK8 => ?_
    have hil : i < l.length := by omega
    have hkl := kept_len now l i
    refine vc_region ?_
    refine vl_q (q_fieldAddr 0 rfl rfl rfl rfl (by decide) rfl rfl) (dk rfl) ?_
    refine vl_load rfl rfl rfl rfl rfl rfl rfl (by decide) (dk rfl) ?_
    refine vl_q (q_move rfl) (dk rfl) ?_
    refine vl_q (q_indexAddr_sh rfl rfl rfl rfl rfl rfl (by decide) (by omega) (get_map (i := i) hil)) (dk rfl) ?_
    refine vl_q (q_fieldAddr_sp rfl rfl rfl rfl (by decide) rfl) (dk rfl) ?_
    refine vl_q (q_load_sp rfl rfl rfl rfl (by decide)) (dk rfl) ?_
    refine vl_q (q_move rfl) (dk rfl) ?_
    refine vl_two (x := fun b => vv (.bool b)) _ (q_cmp rfl rfl rfl rfl) (dk rfl) (fun h22 => ?_) (fun h22 => ?_)
    · replace h22 := gtr_of h22
      refine vl_nil ?_
      refine hK8 _ ?_
      refine vc_cond_true rfl ?_
      refine vc_weak (Weak.open1 (nm := 18) (i := 0) (j := 0) rfl rfl rfl) ?_
      simp only [List.length_map]
      refine vc_region_any mixed (fun n => Nat.beq n 16) rfl (fun _ hU9 => hU9) fun w1 S1 L1 H1 => ?_
      refine va_q 0 rfl (by kernel_rfl) (by kernel_rfl) (by kernel_rfl) (q_fieldAddr 0 rfl rfl rfl rfl (by decide) rfl rfl) (dk rfl) ?_
      refine va_q 2 rfl (by kernel_rfl) (by kernel_rfl) (by kernel_rfl) (q_fieldAddr 0 rfl rfl rfl rfl (by decide) rfl rfl) (dk rfl) ?_
      refine va_q 3 rfl (by kernel_rfl) (by kernel_rfl) (by kernel_rfl) (q_load rfl rfl rfl rfl rfl rfl rfl (by decide)) (dk rfl) ?_
      refine va_q 4 rfl (by kernel_rfl) (by kernel_rfl) (by kernel_rfl) (q_move rfl) (dk rfl) ?_
      refine va_q 5 rfl (by kernel_rfl) (by kernel_rfl) (by kernel_rfl) (q_indexAddr_sh rfl rfl rfl rfl rfl rfl (by decide) (by omega) (get_map (i := i) hil)) (dk rfl) ?_
      refine va_q 6 rfl (by kernel_rfl) (by kernel_rfl) (by kernel_rfl) (q_load_sp rfl rfl rfl rfl (by decide)) (dk rfl) ?_
      refine va_all [1, 7] (by kernel_rfl) (by simp) ⟨⟨_, rfl, ?_⟩, ⟨_, rfl, ?_⟩, trivial⟩
      · refine vl_load rfl rfl rfl rfl rfl rfl rfl (by decide) (dk rfl) ?_
        refine vl_nil ?_
        refine va_all [7] (by kernel_rfl) (by simp) ⟨⟨_, rfl, ?_⟩, trivial⟩
        refine vl_bslice rfl rfl rfl rfl rfl rfl ⟨rfl, trivial⟩ (by decide) (by decide) (dk rfl) ?_
        refine vl_nil ?_
        refine va_all [8] (by kernel_rfl) (by simp) ⟨⟨_, rfl, ?_⟩, trivial⟩
        refine vl_append rfl rfl rfl rfl (fun _ h => TypeDesc.noConfusion h) rfl rfl rfl (by rw [Nat.zero_add]; exact Nat.le_of_eq (by simp)) (src_row rfl rfl rfl rfl) (by show (_ + 1) * 80 ≤ _; omega) (by show _ + 1 < _; omega) (dk rfl) ?_
        refine vl_nil ?_
        refine va_q 9 rfl (by kernel_rfl) (by kernel_rfl) (by kernel_rfl) (q_fieldAddr 0 rfl rfl rfl rfl (by decide) rfl rfl) (dk rfl) ?_
        refine va_all [10] (by kernel_rfl) (by simp) ⟨⟨_, rfl, ?_⟩, trivial⟩
        refine vl_store rfl rfl rfl rfl rfl rfl (Nat.le_of_ble_eq_true rfl) trivial ?_
        refine vl_nil ?_
        refine va_done (by kernel_rfl) ?_
        refine hK7 _ ?_
        refine vc_weak (Weak.node (m := 21) (nd' := ⟨6, clo ((kept now (l.take (i + 1))).map heldC)⟩) rfl (congrArg (Vm.Node.mk 6) ((app_take (by simp)).trans (clo_snoc.trans (congrArg clo (by rw [kept_succ_t hil h22, List.map_append]; rfl)))))) ?_
        refine vc_weak (Weak.close1 (nm := 18) (i := 0) (j := 0) (m := 21) (es := (kept now (l.take (i + 1))).map heldC) rfl rfl rfl rfl (by rw [kept_succ_t hil h22]; simp) (by decide)) ?_
        refine vc_region ?_
        refine vl_q (q_move rfl) (dk rfl) ?_
        refine vl_q (q_add rfl rfl (IntWalk.i64_in _ (by omega))) (dk rfl) ?_
        refine vl_q (q_assign rfl) (dk rfl) ?_
        refine vl_nil ?_
        refine ⟨_, _, ?_, ⟨i + 1, by omega, rfl, rfl⟩, (Weak.cut _ _ _ (Nat.le_of_ble_eq_true rfl) ⟨⟨rfl, rfl⟩, ⟨rfl, rfl⟩, ⟨rfl, rfl⟩, ⟨rfl, rfl⟩, ⟨rfl, rfl⟩, trivial⟩ ⟨⟨Nat.le_of_ble_eq_true rfl, rfl, belN_all rfl⟩, ⟨Nat.le_of_ble_eq_true rfl, rfl, belN_all rfl⟩, ⟨Nat.le_of_ble_eq_true rfl, rfl, belN_all rfl⟩, trivial⟩ rfl)⟩
        omega
      · refine vl_bslice rfl rfl rfl rfl rfl rfl ⟨rfl, trivial⟩ (by decide) (by decide) (dk rfl) ?_
        refine vl_nil ?_
        refine va_all [1] (by kernel_rfl) (by simp) ⟨⟨_, rfl, ?_⟩, trivial⟩
        refine vl_load rfl rfl rfl rfl rfl rfl rfl (by decide) (dk rfl) ?_
        refine vl_nil ?_
        refine va_all [8] (by kernel_rfl) (by simp) ⟨⟨_, rfl, ?_⟩, trivial⟩
        refine vl_append rfl rfl rfl rfl (fun _ h => TypeDesc.noConfusion h) rfl rfl rfl (by rw [Nat.zero_add]; exact Nat.le_of_eq (by simp)) (src_row rfl rfl rfl rfl) (by show (_ + 1) * 80 ≤ _; omega) (by show _ + 1 < _; omega) (dk rfl) ?_
        refine vl_nil ?_
        refine va_q 9 rfl (by kernel_rfl) (by kernel_rfl) (by kernel_rfl) (q_fieldAddr 0 rfl rfl rfl rfl (by decide) rfl rfl) (dk rfl) ?_
        refine va_all [10] (by kernel_rfl) (by simp) ⟨⟨_, rfl, ?_⟩, trivial⟩
        refine vl_store rfl rfl rfl rfl rfl rfl (Nat.le_of_ble_eq_true rfl) trivial ?_
        refine vl_nil ?_
        refine va_done (by kernel_rfl) ?_
        refine hK7 _ ?_
        refine vc_weak (Weak.node (m := 21) (nd' := ⟨6, clo ((kept now (l.take (i + 1))).map heldC)⟩) rfl (congrArg (Vm.Node.mk 6) ((app_take (by simp)).trans (clo_snoc.trans (congrArg clo (by rw [kept_succ_t hil h22, List.map_append]; rfl)))))) ?_
        refine vc_weak (Weak.close1 (nm := 18) (i := 0) (j := 0) (m := 21) (es := (kept now (l.take (i + 1))).map heldC) rfl rfl rfl rfl (by rw [kept_succ_t hil h22]; simp) (by decide)) ?_
        refine vc_region ?_
        refine vl_q (q_move rfl) (dk rfl) ?_
        refine vl_q (q_add rfl rfl (IntWalk.i64_in _ (by omega))) (dk rfl) ?_
        refine vl_q (q_assign rfl) (dk rfl) ?_
        refine vl_nil ?_
        refine ⟨_, _, ?_, ⟨i + 1, by omega, rfl, rfl⟩, (Weak.cut _ _ _ (Nat.le_of_ble_eq_true rfl) ⟨⟨rfl, rfl⟩, ⟨rfl, rfl⟩, ⟨rfl, rfl⟩, ⟨rfl, rfl⟩, ⟨rfl, rfl⟩, trivial⟩ ⟨⟨Nat.le_of_ble_eq_true rfl, rfl, belN_all rfl⟩, ⟨Nat.le_of_ble_eq_true rfl, rfl, belN_all rfl⟩, ⟨Nat.le_of_ble_eq_true rfl, rfl, belN_all rfl⟩, trivial⟩ rfl)⟩
        omega
    · replace h22 := gtr_nof h22
      refine vl_nil ?_
      refine hK8 _ ?_
      refine vc_cond_false rfl ?_
      refine vc_skip ?_
      refine hK7 _ ?_
      refine vc_weak (Weak.node (m := 18) (nd' := ⟨1, [[.c (.own 6 ((kept now (l.take (i + 1))).map heldC))]]⟩) rfl (by rw [kept_succ_f hil h22])) ?_
      refine vc_region ?_
      refine vl_q (q_move rfl) (dk rfl) ?_
      refine vl_q (q_add rfl rfl (IntWalk.i64_in _ (by omega))) (dk rfl) ?_
      refine vl_q (q_assign rfl) (dk rfl) ?_
      refine vl_nil ?_
      refine ⟨_, _, ?_, ⟨i + 1, by omega, rfl, rfl⟩, (Weak.cut _ _ _ (Nat.le_of_ble_eq_true rfl) ⟨⟨rfl, rfl⟩, ⟨rfl, rfl⟩, ⟨rfl, rfl⟩, ⟨rfl, rfl⟩, ⟨rfl, rfl⟩, trivial⟩ ⟨⟨Nat.le_of_ble_eq_true rfl, rfl, belN_all rfl⟩, ⟨Nat.le_of_ble_eq_true rfl, rfl, belN_all rfl⟩, ⟨Nat.le_of_ble_eq_true rfl, rfl, belN_all rfl⟩, trivial⟩ rfl)⟩
      omega
  · replace h12 := lss_nof h12
    simp only [List.length_map] at h12
    refine vl_nil ?_
    refine hK6 _ ?_
    refine vc_cond_false rfl ?_
    refine vc_exit ?_
    refine hK3 _ ?_
    refine vc_seq fun K10 hK10 => ?_
    obtain rfl : i = l.length := by omega
    refine vc_weak (Weak.node (m := 18) (nd' := ⟨1, [[.c (.own 6 ((kept now l).map heldC))]]⟩) rfl (by rw [List.take_length])) ?_
    refine vc_region ?_
    refine vl_open (nm := 18) (i := 0) (j := 0) rfl rfl rfl rfl rfl rfl ?_
    simp only [List.length_map]
    refine vl_load rfl rfl rfl rfl rfl rfl rfl (by decide) (dk rfl) ?_
    refine vl_callG [] (.v (.agg [.hdr 20 0 _])) (c_spec_l20Copy (kept now l) hb2) rfl rfl ⟨VOk.agg ⟨XOk.snapH rfl (by simp) (by simp) (map_wid fun _ => rfl) (heldsC_shr _), trivial⟩, trivial⟩ trivial rfl (by decide) ⟨fix_clo _ _, trivial⟩ trivial rfl (dk rfl) ?_
    refine vl_store rfl rfl rfl rfl rfl rfl (Nat.le_of_ble_eq_true rfl) trivial ?_
    refine vl_nil ?_
    refine hK10 _ ?_
    refine vc_ret ?_
    refine ret_g [20] rfl (.cons (res_cell rfl rfl rfl rfl rfl rfl rfl (by decide)) .nil) rfl rfl (nodupB_ok rfl) ⟨by decide, trivial⟩ ⟨⟨_, rfl, NR.clo _ _ _ _⟩, trivial⟩ trivial (Nat.zero_le _)
end Go.Vm.S
namespace Go.Vm.S
open Go Go.Vm
set_option maxRecDepth 100000
set_option linter.unusedVariables false
set_option maxHeartbeats 4000000
theorem at55 : FnAt Pg 55 Go.Proofs.Try.f55 := ⟨by kernel_rfl, rfl, by decide⟩
theorem c_impl_copyTexts (l : List ByteArray) (hl : l.length ≤ 4194304) :
    Ctr Pg ty 55 [shv 1 (l.map strC)] [] (Gives (.v (.one (.hdr 16 0 l.length))) [⟨1, clo (l.map strC)⟩] []) := by
  refine ctr at55 rfl (nsK_gives rfl ⟨nsN_map strC_noSh, trivial⟩ trivial) (Nat.le_of_ble_eq_true rfl) fun w0 S0 L0 Z => ?_
  refine vc_seq fun K1 hK1 => ?_
  refine vc_region ?_
  refine vl_q (q_assign rfl) (dk rfl) ?_
  refine vl_nil ?_
  refine hK1 _ ?_
  refine vc_seq fun K2 hK2 => ?_
  refine vc_region ?_
  refine vl_bslice rfl rfl rfl rfl rfl rfl trivial (by decide) (by decide) (dk rfl) ?_
  refine vl_q (q_move rfl) (dk rfl) ?_
  refine vl_append rfl rfl rfl rfl (fun _ h => TypeDesc.noConfusion h) rfl rfl rfl (Nat.le_refl _) (src_sh rfl rfl (map_wid fun _ => rfl)) (by simp only [List.length_map]; show _ * 16 ≤ _; omega) (by simp only [List.length_map]; omega) (dk rfl) ?_
  simp only [List.drop_nil, List.take_nil, List.nil_append, List.length_map, Nat.zero_add]
  refine vl_q (q_assign rfl) (dk rfl) ?_
  refine vl_nil ?_
  refine hK2 _ ?_
  refine vc_ret ?_
  refine ret_g [17] rfl (.cons (res_tmp rfl) .nil) rfl rfl (nodupB_ok rfl) ⟨by decide, trivial⟩ ⟨⟨_, rfl, NR.clo _ _ _ _⟩, trivial⟩ trivial (Nat.zero_le _)
theorem at33 : FnAt Pg 33 Go.Proofs.Try.f33 := ⟨by kernel_rfl, rfl, by decide⟩
theorem c_impl_copyShelf (l : List Held) (hb : szHelds l ≤ 4194304) :
    Ctr Pg ty 33 [.agg ((shelfC l).map X.c)] [] (Gives (.v (.agg [.hdr 16 0 l.length])) [⟨6, clo (l.map heldO)⟩] []) := by
  have hl : l.length ≤ 4194304 := by unfold szHelds at hb; omega
  refine ctr at33 rfl (nsK_gives rfl ⟨nsN_map heldO_noSh, trivial⟩ trivial) (Nat.le_of_ble_eq_true rfl) fun w0 S0 L0 Z => ?_
  refine vc_seq fun K1 hK1 => ?_
  refine vc_region ?_
  refine vl_box rfl (dk rfl) ?_
  refine vl_alloc rfl (dk rfl) ?_
  refine vl_nil ?_
  refine hK1 _ ?_
  refine vc_seq fun K2 hK2 => ?_
  refine vc_region ?_
  refine vl_q (q_build rfl rfl rfl rfl rfl) (dk rfl) ?_
  refine vl_alloc rfl (dk rfl) ?_
  refine vl_store rfl rfl rfl rfl rfl rfl (Nat.le_of_ble_eq_true rfl) trivial ?_
  refine vl_nil ?_
  refine hK2 _ ?_
  refine vc_seq fun K3 hK3 => ?_
  refine vc_seq fun K4 hK4 => ?_
  refine vc_region ?_
  refine vl_q (q_fieldAddr 0 rfl rfl rfl rfl (by decide) rfl rfl) (dk rfl) ?_
  refine vl_load rfl rfl rfl rfl rfl rfl rfl (by decide) (dk rfl) ?_
  refine vl_q (q_len_sh rfl rfl rfl) (dk rfl) ?_
  simp only [List.length_map]
  refine vl_q (q_move rfl) (dk rfl) ?_
  refine vl_nil ?_
  refine hK4 _ ?_
  refine vc_block ?_
  refine vc_weak (Weak.tell1 (m := 18) (i := 0) (j := 0) rfl rfl rfl (Imp.nil 6) (one_wid rfl)) ?_
  refine vc_loop (fun mz st => ∃ i : Nat, (i ≤ l.length) ∧ mz = l.length - i ∧ st = mkSt [(2, .v (.one (.ptr 17 0 0))), (3, .v (.one (.ptr 18 0 0))), (8, .v (shv 6 (l.map heldC))), (9, .v (iv l.length)), (10, .v (iv i))] [(16, ⟨1, [[.c (.sh 6 (l.map heldC))]]⟩), (17, ⟨1, [[.c (.val (.slice none 0 0))]]⟩), (18, ⟨1, [[.c (.own 6 ((l.take i).map heldO))]]⟩)] 19) ⟨_, _, ⟨0, by omega, rfl, rfl⟩, (Weak.cut _ _ _ (Nat.le_of_ble_eq_true rfl) ⟨⟨rfl, rfl⟩, ⟨rfl, rfl⟩, ⟨rfl, rfl⟩, ⟨rfl, rfl⟩, ⟨rfl, rfl⟩, trivial⟩ ⟨⟨Nat.le_of_ble_eq_true rfl, rfl, belN_all rfl⟩, ⟨Nat.le_of_ble_eq_true rfl, rfl, belN_all rfl⟩, ⟨Nat.le_of_ble_eq_true rfl, rfl, belN_all rfl⟩, trivial⟩ rfl)⟩ (fun mz st hI => ?_)
  obtain ⟨i, hi, hmz, rfl⟩ := hI
  refine vc_seq fun K5 hK5 => ?_
  refine vc_region ?_
  refine vl_two (x := fun b => vv (.bool b)) _ (q_cmp rfl rfl rfl rfl) (dk rfl) (fun h11 => ?_) (fun h11 => ?_)
  · replace h11 := lss_of h11
    refine vl_nil ?_
    refine hK5 _ ?_
    refine vc_seq fun K6 hK6 => ?_
    refine vc_cond_true rfl ?_
    refine vc_skip ?_
    refine hK6 _ ?_
    refine vc_seq fun K7 hK7 => ?_
    refine vc_block ?_
    refine vc_seq fun K8 hK8 => ?_
    have hil : i < l.length := by omega
    have hbi : szHeld l[i] ≤ 4194304 := by
      have h1 := sumTo_succ szHeld l hil
      have h2 := sumTo_le szHeld l (i + 1)
      unfold szHelds at hb; omega
    have hp : l[i].parts.length ≤ 4194304 := by unfold szHeld szStrs at hbi; omega
    have hh : l[i].hav.length ≤ 4194304 := by unfold szHeld szStrs at hbi; omega
    refine vc_region ?_
    refine vl_q (q_indexAddr_sh rfl rfl rfl rfl rfl rfl (by decide) (by omega) (get_map (i := i) hil)) (dk rfl) ?_
    refine vl_q (q_load_sp rfl rfl rfl rfl (by decide)) (dk rfl) ?_
    refine vl_alloc rfl (dk rfl) ?_
    refine vl_store rfl rfl rfl rfl rfl rfl (Nat.le_of_ble_eq_true rfl) trivial ?_
    refine vl_nil ?_
    refine hK8 _ ?_
    refine vc_seq fun K9 hK9 => ?_
    refine vc_region_any mixed (fun n => false) rfl (fun _ hU10 => hU10) fun w1 S1 L1 H1 => ?_
    refine va_q 0 rfl (by kernel_rfl) (by kernel_rfl) (by kernel_rfl) (q_fieldAddr 3 rfl rfl rfl rfl (by decide) rfl rfl) (dk rfl) ?_
    refine va_q 4 rfl (by kernel_rfl) (by kernel_rfl) (by kernel_rfl) (q_fieldAddr 4 rfl rfl rfl rfl (by decide) rfl rfl) (dk rfl) ?_
    refine va_all [1, 3, 5] (by kernel_rfl) (by simp) ⟨⟨_, rfl, ?_⟩, ⟨_, rfl, ?_⟩, ⟨_, rfl, ?_⟩, trivial⟩
    · refine vl_load rfl rfl rfl rfl rfl rfl rfl (by decide) (dk rfl) ?_
      refine vl_nil ?_
      refine va_all [2, 3, 5] (by kernel_rfl) (by simp) ⟨⟨_, rfl, ?_⟩, ⟨_, rfl, ?_⟩, ⟨_, rfl, ?_⟩, trivial⟩
      · refine vl_callG [] (.v (.one (.hdr 20 0 _))) (c_impl_copyTexts l[i].parts hp) rfl rfl ⟨XOk.shc _ _, trivial⟩ trivial rfl (by decide) ⟨fix_clo _ _, trivial⟩ trivial rfl (dk rfl) ?_
        refine vl_nil ?_
        refine va_all [3, 5] (by kernel_rfl) (by simp) ⟨⟨_, rfl, ?_⟩, ⟨_, rfl, ?_⟩, trivial⟩
        · refine vl_bslice rfl rfl rfl rfl rfl rfl trivial (by decide) (by decide) (dk rfl) ?_
          refine vl_nil ?_
          refine va_all [5] (by kernel_rfl) (by simp) ⟨⟨_, rfl, ?_⟩, trivial⟩
          refine vl_load rfl rfl rfl rfl rfl rfl rfl (by decide) (dk rfl) ?_
          refine vl_nil ?_
          refine va_q 7 rfl (by kernel_rfl) (by kernel_rfl) (by kernel_rfl) (q_fieldAddr 3 rfl rfl rfl rfl (by decide) rfl rfl) (dk rfl) ?_
          refine va_all [6] (by kernel_rfl) (by simp) ⟨⟨_, rfl, ?_⟩, trivial⟩
          refine vl_append rfl rfl rfl rfl (fun _ h => TypeDesc.noConfusion h) rfl rfl rfl (Nat.le_refl _) (src_sh rfl rfl (map_wid fun _ => rfl)) (by simp only [List.length_map]; show _ * 1 ≤ _; omega) (by simp only [List.length_map]; omega) (dk rfl) ?_
          simp only [List.drop_nil, List.take_nil, List.nil_append, List.length_map, Nat.zero_add]
          refine vl_nil ?_
          refine va_all [8] (by kernel_rfl) (by simp) ⟨⟨_, rfl, ?_⟩, trivial⟩
          refine vl_store rfl rfl rfl rfl rfl rfl (Nat.le_of_ble_eq_true rfl) trivial ?_
          refine vl_nil ?_
          refine va_q 9 rfl (by kernel_rfl) (by kernel_rfl) (by kernel_rfl) (q_fieldAddr 4 rfl rfl rfl rfl (by decide) rfl rfl) (dk rfl) ?_
          refine va_all [10] (by kernel_rfl) (by simp) ⟨⟨_, rfl, ?_⟩, trivial⟩
          refine vl_store rfl rfl rfl rfl rfl rfl (Nat.le_of_ble_eq_true rfl) trivial ?_
          refine vl_nil ?_
          refine va_done (by kernel_rfl) ?_
          refine hK9 _ ?_
          refine vc_region ?_
          refine vl_q (q_fieldAddr 0 rfl rfl rfl rfl (by decide) rfl rfl) (dk rfl) ?_
          refine vl_open (nm := 18) (i := 0) (j := 0) rfl rfl rfl rfl rfl rfl ?_
          simp only [List.length_map, List.length_take, Nat.min_eq_left hi]
          refine vl_load rfl rfl rfl rfl rfl rfl rfl (by decide) (dk rfl) ?_
          refine vl_load rfl rfl rfl rfl rfl rfl rfl (by decide) (dk rfl) ?_
          refine vl_bslice rfl rfl rfl rfl rfl rfl ⟨rfl, trivial⟩ (by decide) (by decide) (dk rfl) ?_
          refine vl_append rfl rfl rfl rfl (fun _ h => TypeDesc.noConfusion h) rfl rfl rfl (by rw [Nat.zero_add]; exact Nat.le_of_eq (by simp; omega)) (src_row rfl rfl rfl rfl) (by show (i + 1) * 80 ≤ _; omega) (by show i + 1 < _; omega) (dk rfl) ?_
          refine vl_q (q_fieldAddr 0 rfl rfl rfl rfl (by decide) rfl rfl) (dk rfl) ?_
          refine vl_store rfl rfl rfl rfl rfl rfl (Nat.le_of_ble_eq_true rfl) trivial ?_
          refine vl_nil ?_
          refine hK7 _ ?_
          refine vc_weak (Weak.node (m := 25) rfl (congrArg (Vm.Node.mk 6) (app_take (take_map_len (f := heldO) hi)))) ?_
          refine vc_weak (Weak.close1 (nm := 25) (i := i) (j := 3) (m := 20) (es := l[i].parts.map strC) rfl (app_get (take_map_len hi)) rfl rfl (by simp) (by decide)) ?_
          refine vc_weak (Weak.close1 (nm := 25) (i := i) (j := 4) (m := 22) (es := l[i].hav.map boolC) rfl (set_get (app_lt (take_map_len hi))) rfl rfl (by simp) (by decide)) ?_
          refine vc_weak (Weak.node (m := 25) (nd' := ⟨6, clo ((l.take (i + 1)).map heldO)⟩) rfl (congrArg (Vm.Node.mk 6) ((List.set_set _).trans ((app_set (take_map_len hi)).trans (clo_snoc.trans (congrArg clo (take_map_snoc (f := heldO) hil))))))) ?_
          refine vc_weak (Weak.close1 (nm := 18) (i := 0) (j := 0) (m := 25) (es := (l.take (i + 1)).map heldO) rfl rfl rfl rfl (by simp; omega) (by decide)) ?_
          refine vc_region ?_
          refine vl_q (q_add rfl rfl (IntWalk.i64_in _ (by omega))) (dk rfl) ?_
          refine vl_q (q_move rfl) (dk rfl) ?_
          refine vl_nil ?_
          refine ⟨_, _, ?_, ⟨i + 1, by omega, rfl, rfl⟩, (Weak.cut _ _ _ (Nat.le_of_ble_eq_true rfl) ⟨⟨rfl, rfl⟩, ⟨rfl, rfl⟩, ⟨rfl, rfl⟩, ⟨rfl, rfl⟩, ⟨rfl, rfl⟩, trivial⟩ ⟨⟨Nat.le_of_ble_eq_true rfl, rfl, belN_all rfl⟩, ⟨Nat.le_of_ble_eq_true rfl, rfl, belN_all rfl⟩, ⟨Nat.le_of_ble_eq_true rfl, rfl, belN_all rfl⟩, trivial⟩ rfl)⟩
          omega
        · refine vl_load rfl rfl rfl rfl rfl rfl rfl (by decide) (dk rfl) ?_
          refine vl_nil ?_
          refine va_q 7 rfl (by kernel_rfl) (by kernel_rfl) (by kernel_rfl) (q_fieldAddr 3 rfl rfl rfl rfl (by decide) rfl rfl) (dk rfl) ?_
          refine va_all [3] (by kernel_rfl) (by simp) ⟨⟨_, rfl, ?_⟩, trivial⟩
          refine vl_bslice rfl rfl rfl rfl rfl rfl trivial (by decide) (by decide) (dk rfl) ?_
          refine vl_nil ?_
          refine va_all [6] (by kernel_rfl) (by simp) ⟨⟨_, rfl, ?_⟩, trivial⟩
          refine vl_append rfl rfl rfl rfl (fun _ h => TypeDesc.noConfusion h) rfl rfl rfl (Nat.le_refl _) (src_sh rfl rfl (map_wid fun _ => rfl)) (by simp only [List.length_map]; show _ * 1 ≤ _; omega) (by simp only [List.length_map]; omega) (dk rfl) ?_
          simp only [List.drop_nil, List.take_nil, List.nil_append, List.length_map, Nat.zero_add]
          refine vl_nil ?_
          refine va_all [8] (by kernel_rfl) (by simp) ⟨⟨_, rfl, ?_⟩, trivial⟩
          refine vl_store rfl rfl rfl rfl rfl rfl (Nat.le_of_ble_eq_true rfl) trivial ?_
          refine vl_nil ?_
          refine va_q 9 rfl (by kernel_rfl) (by kernel_rfl) (by kernel_rfl) (q_fieldAddr 4 rfl rfl rfl rfl (by decide) rfl rfl) (dk rfl) ?_
          refine va_all [10] (by kernel_rfl) (by simp) ⟨⟨_, rfl, ?_⟩, trivial⟩
          refine vl_store rfl rfl rfl rfl rfl rfl (Nat.le_of_ble_eq_true rfl) trivial ?_
          refine vl_nil ?_
          refine va_done (by kernel_rfl) ?_
          refine hK9 _ ?_
          refine vc_region ?_
          refine vl_q (q_fieldAddr 0 rfl rfl rfl rfl (by decide) rfl rfl) (dk rfl) ?_
          refine vl_open (nm := 18) (i := 0) (j := 0) rfl rfl rfl rfl rfl rfl ?_
          simp only [List.length_map, List.length_take, Nat.min_eq_left hi]
          refine vl_load rfl rfl rfl rfl rfl rfl rfl (by decide) (dk rfl) ?_
          refine vl_load rfl rfl rfl rfl rfl rfl rfl (by decide) (dk rfl) ?_
          refine vl_bslice rfl rfl rfl rfl rfl rfl ⟨rfl, trivial⟩ (by decide) (by decide) (dk rfl) ?_
          refine vl_append rfl rfl rfl rfl (fun _ h => TypeDesc.noConfusion h) rfl rfl rfl (by rw [Nat.zero_add]; exact Nat.le_of_eq (by simp; omega)) (src_row rfl rfl rfl rfl) (by show (i + 1) * 80 ≤ _; omega) (by show i + 1 < _; omega) (dk rfl) ?_
          refine vl_q (q_fieldAddr 0 rfl rfl rfl rfl (by decide) rfl rfl) (dk rfl) ?_
          refine vl_store rfl rfl rfl rfl rfl rfl (Nat.le_of_ble_eq_true rfl) trivial ?_
          refine vl_nil ?_
          refine hK7 _ ?_
          refine vc_weak (Weak.node (m := 25) rfl (congrArg (Vm.Node.mk 6) (app_take (take_map_len (f := heldO) hi)))) ?_
          refine vc_weak (Weak.close1 (nm := 25) (i := i) (j := 3) (m := 20) (es := l[i].parts.map strC) rfl (app_get (take_map_len hi)) rfl rfl (by simp) (by decide)) ?_
          refine vc_weak (Weak.close1 (nm := 25) (i := i) (j := 4) (m := 22) (es := l[i].hav.map boolC) rfl (set_get (app_lt (take_map_len hi))) rfl rfl (by simp) (by decide)) ?_
          refine vc_weak (Weak.node (m := 25) (nd' := ⟨6, clo ((l.take (i + 1)).map heldO)⟩) rfl (congrArg (Vm.Node.mk 6) ((List.set_set _).trans ((app_set (take_map_len hi)).trans (clo_snoc.trans (congrArg clo (take_map_snoc (f := heldO) hil))))))) ?_
          refine vc_weak (Weak.close1 (nm := 18) (i := 0) (j := 0) (m := 25) (es := (l.take (i + 1)).map heldO) rfl rfl rfl rfl (by simp; omega) (by decide)) ?_
          refine vc_region ?_
          refine vl_q (q_add rfl rfl (IntWalk.i64_in _ (by omega))) (dk rfl) ?_
          refine vl_q (q_move rfl) (dk rfl) ?_
          refine vl_nil ?_
          refine ⟨_, _, ?_, ⟨i + 1, by omega, rfl, rfl⟩, (Weak.cut _ _ _ (Nat.le_of_ble_eq_true rfl) ⟨⟨rfl, rfl⟩, ⟨rfl, rfl⟩, ⟨rfl, rfl⟩, ⟨rfl, rfl⟩, ⟨rfl, rfl⟩, trivial⟩ ⟨⟨Nat.le_of_ble_eq_true rfl, rfl, belN_all rfl⟩, ⟨Nat.le_of_ble_eq_true rfl, rfl, belN_all rfl⟩, ⟨Nat.le_of_ble_eq_true rfl, rfl, belN_all rfl⟩, trivial⟩ rfl)⟩
          omega
      · refine vl_bslice rfl rfl rfl rfl rfl rfl trivial (by decide) (by decide) (dk rfl) ?_
        refine vl_nil ?_
        refine va_all [2, 5] (by kernel_rfl) (by simp) ⟨⟨_, rfl, ?_⟩, ⟨_, rfl, ?_⟩, trivial⟩
        · refine vl_callG [] (.v (.one (.hdr 21 0 _))) (c_impl_copyTexts l[i].parts hp) rfl rfl ⟨XOk.shc _ _, trivial⟩ trivial rfl (by decide) ⟨fix_clo _ _, trivial⟩ trivial rfl (dk rfl) ?_
          refine vl_nil ?_
          refine va_all [5] (by kernel_rfl) (by simp) ⟨⟨_, rfl, ?_⟩, trivial⟩
          refine vl_load rfl rfl rfl rfl rfl rfl rfl (by decide) (dk rfl) ?_
          refine vl_nil ?_
          refine va_q 7 rfl (by kernel_rfl) (by kernel_rfl) (by kernel_rfl) (q_fieldAddr 3 rfl rfl rfl rfl (by decide) rfl rfl) (dk rfl) ?_
          refine va_all [6] (by kernel_rfl) (by simp) ⟨⟨_, rfl, ?_⟩, trivial⟩
          refine vl_append rfl rfl rfl rfl (fun _ h => TypeDesc.noConfusion h) rfl rfl rfl (Nat.le_refl _) (src_sh rfl rfl (map_wid fun _ => rfl)) (by simp only [List.length_map]; show _ * 1 ≤ _; omega) (by simp only [List.length_map]; omega) (dk rfl) ?_
          simp only [List.drop_nil, List.take_nil, List.nil_append, List.length_map, Nat.zero_add]
          refine vl_nil ?_
          refine va_all [8] (by kernel_rfl) (by simp) ⟨⟨_, rfl, ?_⟩, trivial⟩
          refine vl_store rfl rfl rfl rfl rfl rfl (Nat.le_of_ble_eq_true rfl) trivial ?_
          refine vl_nil ?_
          refine va_q 9 rfl (by kernel_rfl) (by kernel_rfl) (by kernel_rfl) (q_fieldAddr 4 rfl rfl rfl rfl (by decide) rfl rfl) (dk rfl) ?_
          refine va_all [10] (by kernel_rfl) (by simp) ⟨⟨_, rfl, ?_⟩, trivial⟩
          refine vl_store rfl rfl rfl rfl rfl rfl (Nat.le_of_ble_eq_true rfl) trivial ?_
          refine vl_nil ?_
          refine va_done (by kernel_rfl) ?_
          refine hK9 _ ?_
          refine vc_region ?_
          refine vl_q (q_fieldAddr 0 rfl rfl rfl rfl (by decide) rfl rfl) (dk rfl) ?_
          refine vl_open (nm := 18) (i := 0) (j := 0) rfl rfl rfl rfl rfl rfl ?_
          simp only [List.length_map, List.length_take, Nat.min_eq_left hi]
          refine vl_load rfl rfl rfl rfl rfl rfl rfl (by decide) (dk rfl) ?_
          refine vl_load rfl rfl rfl rfl rfl rfl rfl (by decide) (dk rfl) ?_
          refine vl_bslice rfl rfl rfl rfl rfl rfl ⟨rfl, trivial⟩ (by decide) (by decide) (dk rfl) ?_
          refine vl_append rfl rfl rfl rfl (fun _ h => TypeDesc.noConfusion h) rfl rfl rfl (by rw [Nat.zero_add]; exact Nat.le_of_eq (by simp; omega)) (src_row rfl rfl rfl rfl) (by show (i + 1) * 80 ≤ _; omega) (by show i + 1 < _; omega) (dk rfl) ?_
          refine vl_q (q_fieldAddr 0 rfl rfl rfl rfl (by decide) rfl rfl) (dk rfl) ?_
          refine vl_store rfl rfl rfl rfl rfl rfl (Nat.le_of_ble_eq_true rfl) trivial ?_
          refine vl_nil ?_
          refine hK7 _ ?_
          refine vc_weak (Weak.node (m := 25) rfl (congrArg (Vm.Node.mk 6) (app_take (take_map_len (f := heldO) hi)))) ?_
          refine vc_weak (Weak.close1 (nm := 25) (i := i) (j := 3) (m := 21) (es := l[i].parts.map strC) rfl (app_get (take_map_len hi)) rfl rfl (by simp) (by decide)) ?_
          refine vc_weak (Weak.close1 (nm := 25) (i := i) (j := 4) (m := 22) (es := l[i].hav.map boolC) rfl (set_get (app_lt (take_map_len hi))) rfl rfl (by simp) (by decide)) ?_
          refine vc_weak (Weak.node (m := 25) (nd' := ⟨6, clo ((l.take (i + 1)).map heldO)⟩) rfl (congrArg (Vm.Node.mk 6) ((List.set_set _).trans ((app_set (take_map_len hi)).trans (clo_snoc.trans (congrArg clo (take_map_snoc (f := heldO) hil))))))) ?_
          refine vc_weak (Weak.close1 (nm := 18) (i := 0) (j := 0) (m := 25) (es := (l.take (i + 1)).map heldO) rfl rfl rfl rfl (by simp; omega) (by decide)) ?_
          refine vc_region ?_
          refine vl_q (q_add rfl rfl (IntWalk.i64_in _ (by omega))) (dk rfl) ?_
          refine vl_q (q_move rfl) (dk rfl) ?_
          refine vl_nil ?_
          refine ⟨_, _, ?_, ⟨i + 1, by omega, rfl, rfl⟩, (Weak.cut _ _ _ (Nat.le_of_ble_eq_true rfl) ⟨⟨rfl, rfl⟩, ⟨rfl, rfl⟩, ⟨rfl, rfl⟩, ⟨rfl, rfl⟩, ⟨rfl, rfl⟩, trivial⟩ ⟨⟨Nat.le_of_ble_eq_true rfl, rfl, belN_all rfl⟩, ⟨Nat.le_of_ble_eq_true rfl, rfl, belN_all rfl⟩, ⟨Nat.le_of_ble_eq_true rfl, rfl, belN_all rfl⟩, trivial⟩ rfl)⟩
          omega
        · refine vl_load rfl rfl rfl rfl rfl rfl rfl (by decide) (dk rfl) ?_
          refine vl_nil ?_
          refine va_all [2] (by kernel_rfl) (by simp) ⟨⟨_, rfl, ?_⟩, trivial⟩
          refine vl_callG [] (.v (.one (.hdr 21 0 _))) (c_impl_copyTexts l[i].parts hp) rfl rfl ⟨XOk.shc _ _, trivial⟩ trivial rfl (by decide) ⟨fix_clo _ _, trivial⟩ trivial rfl (dk rfl) ?_
          refine vl_nil ?_
          refine va_q 7 rfl (by kernel_rfl) (by kernel_rfl) (by kernel_rfl) (q_fieldAddr 3 rfl rfl rfl rfl (by decide) rfl rfl) (dk rfl) ?_
          refine va_all [6] (by kernel_rfl) (by simp) ⟨⟨_, rfl, ?_⟩, trivial⟩
          refine vl_append rfl rfl rfl rfl (fun _ h => TypeDesc.noConfusion h) rfl rfl rfl (Nat.le_refl _) (src_sh rfl rfl (map_wid fun _ => rfl)) (by simp only [List.length_map]; show _ * 1 ≤ _; omega) (by simp only [List.length_map]; omega) (dk rfl) ?_
          simp only [List.drop_nil, List.take_nil, List.nil_append, List.length_map, Nat.zero_add]
          refine vl_nil ?_
          refine va_all [8] (by kernel_rfl) (by simp) ⟨⟨_, rfl, ?_⟩, trivial⟩
          refine vl_store rfl rfl rfl rfl rfl rfl (Nat.le_of_ble_eq_true rfl) trivial ?_
          refine vl_nil ?_
          refine va_q 9 rfl (by kernel_rfl) (by kernel_rfl) (by kernel_rfl) (q_fieldAddr 4 rfl rfl rfl rfl (by decide) rfl rfl) (dk rfl) ?_
          refine va_all [10] (by kernel_rfl) (by simp) ⟨⟨_, rfl, ?_⟩, trivial⟩
          refine vl_store rfl rfl rfl rfl rfl rfl (Nat.le_of_ble_eq_true rfl) trivial ?_
          refine vl_nil ?_
          refine va_done (by kernel_rfl) ?_
          refine hK9 _ ?_
          refine vc_region ?_
          refine vl_q (q_fieldAddr 0 rfl rfl rfl rfl (by decide) rfl rfl) (dk rfl) ?_
          refine vl_open (nm := 18) (i := 0) (j := 0) rfl rfl rfl rfl rfl rfl ?_
          simp only [List.length_map, List.length_take, Nat.min_eq_left hi]
          refine vl_load rfl rfl rfl rfl rfl rfl rfl (by decide) (dk rfl) ?_
          refine vl_load rfl rfl rfl rfl rfl rfl rfl (by decide) (dk rfl) ?_
          refine vl_bslice rfl rfl rfl rfl rfl rfl ⟨rfl, trivial⟩ (by decide) (by decide) (dk rfl) ?_
          refine vl_append rfl rfl rfl rfl (fun _ h => TypeDesc.noConfusion h) rfl rfl rfl (by rw [Nat.zero_add]; exact Nat.le_of_eq (by simp; omega)) (src_row rfl rfl rfl rfl) (by show (i + 1) * 80 ≤ _; omega) (by show i + 1 < _; omega) (dk rfl) ?_
          refine vl_q (q_fieldAddr 0 rfl rfl rfl rfl (by decide) rfl rfl) (dk rfl) ?_
          refine vl_store rfl rfl rfl rfl rfl rfl (Nat.le_of_ble_eq_true rfl) trivial ?_
          refine vl_nil ?_
          refine hK7 _ ?_
          refine vc_weak (Weak.node (m := 25) rfl (congrArg (Vm.Node.mk 6) (app_take (take_map_len (f := heldO) hi)))) ?_
          refine vc_weak (Weak.close1 (nm := 25) (i := i) (j := 3) (m := 21) (es := l[i].parts.map strC) rfl (app_get (take_map_len hi)) rfl rfl (by simp) (by decide)) ?_
          refine vc_weak (Weak.close1 (nm := 25) (i := i) (j := 4) (m := 22) (es := l[i].hav.map boolC) rfl (set_get (app_lt (take_map_len hi))) rfl rfl (by simp) (by decide)) ?_
          refine vc_weak (Weak.node (m := 25) (nd' := ⟨6, clo ((l.take (i + 1)).map heldO)⟩) rfl (congrArg (Vm.Node.mk 6) ((List.set_set _).trans ((app_set (take_map_len hi)).trans (clo_snoc.trans (congrArg clo (take_map_snoc (f := heldO) hil))))))) ?_
          refine vc_weak (Weak.close1 (nm := 18) (i := 0) (j := 0) (m := 25) (es := (l.take (i + 1)).map heldO) rfl rfl rfl rfl (by simp; omega) (by decide)) ?_
          refine vc_region ?_
          refine vl_q (q_add rfl rfl (IntWalk.i64_in _ (by omega))) (dk rfl) ?_
          refine vl_q (q_move rfl) (dk rfl) ?_
          refine vl_nil ?_
          refine ⟨_, _, ?_, ⟨i + 1, by omega, rfl, rfl⟩, (Weak.cut _ _ _ (Nat.le_of_ble_eq_true rfl) ⟨⟨rfl, rfl⟩, ⟨rfl, rfl⟩, ⟨rfl, rfl⟩, ⟨rfl, rfl⟩, ⟨rfl, rfl⟩, trivial⟩ ⟨⟨Nat.le_of_ble_eq_true rfl, rfl, belN_all rfl⟩, ⟨Nat.le_of_ble_eq_true rfl, rfl, belN_all rfl⟩, ⟨Nat.le_of_ble_eq_true rfl, rfl, belN_all rfl⟩, trivial⟩ rfl)⟩
          omega
      · refine vl_load rfl rfl rfl rfl rfl rfl rfl (by decide) (dk rfl) ?_
        refine vl_nil ?_
        refine va_all [2, 3] (by kernel_rfl) (by simp) ⟨⟨_, rfl, ?_⟩, ⟨_, rfl, ?_⟩, trivial⟩
        · refine vl_callG [] (.v (.one (.hdr 20 0 _))) (c_impl_copyTexts l[i].parts hp) rfl rfl ⟨XOk.shc _ _, trivial⟩ trivial rfl (by decide) ⟨fix_clo _ _, trivial⟩ trivial rfl (dk rfl) ?_
          refine vl_nil ?_
          refine va_q 7 rfl (by kernel_rfl) (by kernel_rfl) (by kernel_rfl) (q_fieldAddr 3 rfl rfl rfl rfl (by decide) rfl rfl) (dk rfl) ?_
          refine va_all [3] (by kernel_rfl) (by simp) ⟨⟨_, rfl, ?_⟩, trivial⟩
          refine vl_bslice rfl rfl rfl rfl rfl rfl trivial (by decide) (by decide) (dk rfl) ?_
          refine vl_nil ?_
          refine va_all [6] (by kernel_rfl) (by simp) ⟨⟨_, rfl, ?_⟩, trivial⟩
          refine vl_append rfl rfl rfl rfl (fun _ h => TypeDesc.noConfusion h) rfl rfl rfl (Nat.le_refl _) (src_sh rfl rfl (map_wid fun _ => rfl)) (by simp only [List.length_map]; show _ * 1 ≤ _; omega) (by simp only [List.length_map]; omega) (dk rfl) ?_
          simp only [List.drop_nil, List.take_nil, List.nil_append, List.length_map, Nat.zero_add]
          refine vl_nil ?_
          refine va_all [8] (by kernel_rfl) (by simp) ⟨⟨_, rfl, ?_⟩, trivial⟩
          refine vl_store rfl rfl rfl rfl rfl rfl (Nat.le_of_ble_eq_true rfl) trivial ?_
          refine vl_nil ?_
          refine va_q 9 rfl (by kernel_rfl) (by kernel_rfl) (by kernel_rfl) (q_fieldAddr 4 rfl rfl rfl rfl (by decide) rfl rfl) (dk rfl) ?_
          refine va_all [10] (by kernel_rfl) (by simp) ⟨⟨_, rfl, ?_⟩, trivial⟩
          refine vl_store rfl rfl rfl rfl rfl rfl (Nat.le_of_ble_eq_true rfl) trivial ?_
          refine vl_nil ?_
          refine va_done (by kernel_rfl) ?_
          refine hK9 _ ?_
          refine vc_region ?_
          refine vl_q (q_fieldAddr 0 rfl rfl rfl rfl (by decide) rfl rfl) (dk rfl) ?_
          refine vl_open (nm := 18) (i := 0) (j := 0) rfl rfl rfl rfl rfl rfl ?_
          simp only [List.length_map, List.length_take, Nat.min_eq_left hi]
          refine vl_load rfl rfl rfl rfl rfl rfl rfl (by decide) (dk rfl) ?_
          refine vl_load rfl rfl rfl rfl rfl rfl rfl (by decide) (dk rfl) ?_
          refine vl_bslice rfl rfl rfl rfl rfl rfl ⟨rfl, trivial⟩ (by decide) (by decide) (dk rfl) ?_
          refine vl_append rfl rfl rfl rfl (fun _ h => TypeDesc.noConfusion h) rfl rfl rfl (by rw [Nat.zero_add]; exact Nat.le_of_eq (by simp; omega)) (src_row rfl rfl rfl rfl) (by show (i + 1) * 80 ≤ _; omega) (by show i + 1 < _; omega) (dk rfl) ?_
          refine vl_q (q_fieldAddr 0 rfl rfl rfl rfl (by decide) rfl rfl) (dk rfl) ?_
          refine vl_store rfl rfl rfl rfl rfl rfl (Nat.le_of_ble_eq_true rfl) trivial ?_
          refine vl_nil ?_
          refine hK7 _ ?_
          refine vc_weak (Weak.node (m := 25) rfl (congrArg (Vm.Node.mk 6) (app_take (take_map_len (f := heldO) hi)))) ?_
          refine vc_weak (Weak.close1 (nm := 25) (i := i) (j := 3) (m := 20) (es := l[i].parts.map strC) rfl (app_get (take_map_len hi)) rfl rfl (by simp) (by decide)) ?_
          refine vc_weak (Weak.close1 (nm := 25) (i := i) (j := 4) (m := 22) (es := l[i].hav.map boolC) rfl (set_get (app_lt (take_map_len hi))) rfl rfl (by simp) (by decide)) ?_
          refine vc_weak (Weak.node (m := 25) (nd' := ⟨6, clo ((l.take (i + 1)).map heldO)⟩) rfl (congrArg (Vm.Node.mk 6) ((List.set_set _).trans ((app_set (take_map_len hi)).trans (clo_snoc.trans (congrArg clo (take_map_snoc (f := heldO) hil))))))) ?_
          refine vc_weak (Weak.close1 (nm := 18) (i := 0) (j := 0) (m := 25) (es := (l.take (i + 1)).map heldO) rfl rfl rfl rfl (by simp; omega) (by decide)) ?_
          refine vc_region ?_
          refine vl_q (q_add rfl rfl (IntWalk.i64_in _ (by omega))) (dk rfl) ?_
          refine vl_q (q_move rfl) (dk rfl) ?_
          refine vl_nil ?_
          refine ⟨_, _, ?_, ⟨i + 1, by omega, rfl, rfl⟩, (Weak.cut _ _ _ (Nat.le_of_ble_eq_true rfl) ⟨⟨rfl, rfl⟩, ⟨rfl, rfl⟩, ⟨rfl, rfl⟩, ⟨rfl, rfl⟩, ⟨rfl, rfl⟩, trivial⟩ ⟨⟨Nat.le_of_ble_eq_true rfl, rfl, belN_all rfl⟩, ⟨Nat.le_of_ble_eq_true rfl, rfl, belN_all rfl⟩, ⟨Nat.le_of_ble_eq_true rfl, rfl, belN_all rfl⟩, trivial⟩ rfl)⟩
          omega
        · refine vl_bslice rfl rfl rfl rfl rfl rfl trivial (by decide) (by decide) (dk rfl) ?_
          refine vl_nil ?_
          refine va_all [2] (by kernel_rfl) (by simp) ⟨⟨_, rfl, ?_⟩, trivial⟩
          refine vl_callG [] (.v (.one (.hdr 21 0 _))) (c_impl_copyTexts l[i].parts hp) rfl rfl ⟨XOk.shc _ _, trivial⟩ trivial rfl (by decide) ⟨fix_clo _ _, trivial⟩ trivial rfl (dk rfl) ?_
          refine vl_nil ?_
          refine va_q 7 rfl (by kernel_rfl) (by kernel_rfl) (by kernel_rfl) (q_fieldAddr 3 rfl rfl rfl rfl (by decide) rfl rfl) (dk rfl) ?_
          refine va_all [6] (by kernel_rfl) (by simp) ⟨⟨_, rfl, ?_⟩, trivial⟩
          refine vl_append rfl rfl rfl rfl (fun _ h => TypeDesc.noConfusion h) rfl rfl rfl (Nat.le_refl _) (src_sh rfl rfl (map_wid fun _ => rfl)) (by simp only [List.length_map]; show _ * 1 ≤ _; omega) (by simp only [List.length_map]; omega) (dk rfl) ?_
          simp only [List.drop_nil, List.take_nil, List.nil_append, List.length_map, Nat.zero_add]
          refine vl_nil ?_
          refine va_all [8] (by kernel_rfl) (by simp) ⟨⟨_, rfl, ?_⟩, trivial⟩
          refine vl_store rfl rfl rfl rfl rfl rfl (Nat.le_of_ble_eq_true rfl) trivial ?_
          refine vl_nil ?_
          refine va_q 9 rfl (by kernel_rfl) (by kernel_rfl) (by kernel_rfl) (q_fieldAddr 4 rfl rfl rfl rfl (by decide) rfl rfl) (dk rfl) ?_
          refine va_all [10] (by kernel_rfl) (by simp) ⟨⟨_, rfl, ?_⟩, trivial⟩
          refine vl_store rfl rfl rfl rfl rfl rfl (Nat.le_of_ble_eq_true rfl) trivial ?_
          refine vl_nil ?_
          refine va_done (by kernel_rfl) ?_
          refine hK9 _ ?_
          refine vc_region ?_
          refine vl_q (q_fieldAddr 0 rfl rfl rfl rfl (by decide) rfl rfl) (dk rfl) ?_
          refine vl_open (nm := 18) (i := 0) (j := 0) rfl rfl rfl rfl rfl rfl ?_
          simp only [List.length_map, List.length_take, Nat.min_eq_left hi]
          refine vl_load rfl rfl rfl rfl rfl rfl rfl (by decide) (dk rfl) ?_
          refine vl_load rfl rfl rfl rfl rfl rfl rfl (by decide) (dk rfl) ?_
          refine vl_bslice rfl rfl rfl rfl rfl rfl ⟨rfl, trivial⟩ (by decide) (by decide) (dk rfl) ?_
          refine vl_append rfl rfl rfl rfl (fun _ h => TypeDesc.noConfusion h) rfl rfl rfl (by rw [Nat.zero_add]; exact Nat.le_of_eq (by simp; omega)) (src_row rfl rfl rfl rfl) (by show (i + 1) * 80 ≤ _; omega) (by show i + 1 < _; omega) (dk rfl) ?_
          refine vl_q (q_fieldAddr 0 rfl rfl rfl rfl (by decide) rfl rfl) (dk rfl) ?_
          refine vl_store rfl rfl rfl rfl rfl rfl (Nat.le_of_ble_eq_true rfl) trivial ?_
          refine vl_nil ?_
          refine hK7 _ ?_
          refine vc_weak (Weak.node (m := 25) rfl (congrArg (Vm.Node.mk 6) (app_take (take_map_len (f := heldO) hi)))) ?_
          refine vc_weak (Weak.close1 (nm := 25) (i := i) (j := 3) (m := 21) (es := l[i].parts.map strC) rfl (app_get (take_map_len hi)) rfl rfl (by simp) (by decide)) ?_
          refine vc_weak (Weak.close1 (nm := 25) (i := i) (j := 4) (m := 22) (es := l[i].hav.map boolC) rfl (set_get (app_lt (take_map_len hi))) rfl rfl (by simp) (by decide)) ?_
          refine vc_weak (Weak.node (m := 25) (nd' := ⟨6, clo ((l.take (i + 1)).map heldO)⟩) rfl (congrArg (Vm.Node.mk 6) ((List.set_set _).trans ((app_set (take_map_len hi)).trans (clo_snoc.trans (congrArg clo (take_map_snoc (f := heldO) hil))))))) ?_
          refine vc_weak (Weak.close1 (nm := 18) (i := 0) (j := 0) (m := 25) (es := (l.take (i + 1)).map heldO) rfl rfl rfl rfl (by simp; omega) (by decide)) ?_
          refine vc_region ?_
          refine vl_q (q_add rfl rfl (IntWalk.i64_in _ (by omega))) (dk rfl) ?_
          refine vl_q (q_move rfl) (dk rfl) ?_
          refine vl_nil ?_
          refine ⟨_, _, ?_, ⟨i + 1, by omega, rfl, rfl⟩, (Weak.cut _ _ _ (Nat.le_of_ble_eq_true rfl) ⟨⟨rfl, rfl⟩, ⟨rfl, rfl⟩, ⟨rfl, rfl⟩, ⟨rfl, rfl⟩, ⟨rfl, rfl⟩, trivial⟩ ⟨⟨Nat.le_of_ble_eq_true rfl, rfl, belN_all rfl⟩, ⟨Nat.le_of_ble_eq_true rfl, rfl, belN_all rfl⟩, ⟨Nat.le_of_ble_eq_true rfl, rfl, belN_all rfl⟩, trivial⟩ rfl)⟩
          omega
    · refine vl_bslice rfl rfl rfl rfl rfl rfl trivial (by decide) (by decide) (dk rfl) ?_
      refine vl_nil ?_
      refine va_all [1, 5] (by kernel_rfl) (by simp) ⟨⟨_, rfl, ?_⟩, ⟨_, rfl, ?_⟩, trivial⟩
      · refine vl_load rfl rfl rfl rfl rfl rfl rfl (by decide) (dk rfl) ?_
        refine vl_nil ?_
        refine va_all [2, 5] (by kernel_rfl) (by simp) ⟨⟨_, rfl, ?_⟩, ⟨_, rfl, ?_⟩, trivial⟩
        · refine vl_callG [] (.v (.one (.hdr 21 0 _))) (c_impl_copyTexts l[i].parts hp) rfl rfl ⟨XOk.shc _ _, trivial⟩ trivial rfl (by decide) ⟨fix_clo _ _, trivial⟩ trivial rfl (dk rfl) ?_
          refine vl_nil ?_
          refine va_all [5] (by kernel_rfl) (by simp) ⟨⟨_, rfl, ?_⟩, trivial⟩
          refine vl_load rfl rfl rfl rfl rfl rfl rfl (by decide) (dk rfl) ?_
          refine vl_nil ?_
          refine va_q 7 rfl (by kernel_rfl) (by kernel_rfl) (by kernel_rfl) (q_fieldAddr 3 rfl rfl rfl rfl (by decide) rfl rfl) (dk rfl) ?_
          refine va_all [6] (by kernel_rfl) (by simp) ⟨⟨_, rfl, ?_⟩, trivial⟩
          refine vl_append rfl rfl rfl rfl (fun _ h => TypeDesc.noConfusion h) rfl rfl rfl (Nat.le_refl _) (src_sh rfl rfl (map_wid fun _ => rfl)) (by simp only [List.length_map]; show _ * 1 ≤ _; omega) (by simp only [List.length_map]; omega) (dk rfl) ?_
          simp only [List.drop_nil, List.take_nil, List.nil_append, List.length_map, Nat.zero_add]
          refine vl_nil ?_
          refine va_all [8] (by kernel_rfl) (by simp) ⟨⟨_, rfl, ?_⟩, trivial⟩
          refine vl_store rfl rfl rfl rfl rfl rfl (Nat.le_of_ble_eq_true rfl) trivial ?_
          refine vl_nil ?_
          refine va_q 9 rfl (by kernel_rfl) (by kernel_rfl) (by kernel_rfl) (q_fieldAddr 4 rfl rfl rfl rfl (by decide) rfl rfl) (dk rfl) ?_
          refine va_all [10] (by kernel_rfl) (by simp) ⟨⟨_, rfl, ?_⟩, trivial⟩
          refine vl_store rfl rfl rfl rfl rfl rfl (Nat.le_of_ble_eq_true rfl) trivial ?_
          refine vl_nil ?_
          refine va_done (by kernel_rfl) ?_
          refine hK9 _ ?_
          refine vc_region ?_
          refine vl_q (q_fieldAddr 0 rfl rfl rfl rfl (by decide) rfl rfl) (dk rfl) ?_
          refine vl_open (nm := 18) (i := 0) (j := 0) rfl rfl rfl rfl rfl rfl ?_
          simp only [List.length_map, List.length_take, Nat.min_eq_left hi]
          refine vl_load rfl rfl rfl rfl rfl rfl rfl (by decide) (dk rfl) ?_
          refine vl_load rfl rfl rfl rfl rfl rfl rfl (by decide) (dk rfl) ?_
          refine vl_bslice rfl rfl rfl rfl rfl rfl ⟨rfl, trivial⟩ (by decide) (by decide) (dk rfl) ?_
          refine vl_append rfl rfl rfl rfl (fun _ h => TypeDesc.noConfusion h) rfl rfl rfl (by rw [Nat.zero_add]; exact Nat.le_of_eq (by simp; omega)) (src_row rfl rfl rfl rfl) (by show (i + 1) * 80 ≤ _; omega) (by show i + 1 < _; omega) (dk rfl) ?_
          refine vl_q (q_fieldAddr 0 rfl rfl rfl rfl (by decide) rfl rfl) (dk rfl) ?_
          refine vl_store rfl rfl rfl rfl rfl rfl (Nat.le_of_ble_eq_true rfl) trivial ?_
          refine vl_nil ?_
          refine hK7 _ ?_
          refine vc_weak (Weak.node (m := 25) rfl (congrArg (Vm.Node.mk 6) (app_take (take_map_len (f := heldO) hi)))) ?_
          refine vc_weak (Weak.close1 (nm := 25) (i := i) (j := 3) (m := 21) (es := l[i].parts.map strC) rfl (app_get (take_map_len hi)) rfl rfl (by simp) (by decide)) ?_
          refine vc_weak (Weak.close1 (nm := 25) (i := i) (j := 4) (m := 22) (es := l[i].hav.map boolC) rfl (set_get (app_lt (take_map_len hi))) rfl rfl (by simp) (by decide)) ?_
          refine vc_weak (Weak.node (m := 25) (nd' := ⟨6, clo ((l.take (i + 1)).map heldO)⟩) rfl (congrArg (Vm.Node.mk 6) ((List.set_set _).trans ((app_set (take_map_len hi)).trans (clo_snoc.trans (congrArg clo (take_map_snoc (f := heldO) hil))))))) ?_
          refine vc_weak (Weak.close1 (nm := 18) (i := 0) (j := 0) (m := 25) (es := (l.take (i + 1)).map heldO) rfl rfl rfl rfl (by simp; omega) (by decide)) ?_
          refine vc_region ?_
          refine vl_q (q_add rfl rfl (IntWalk.i64_in _ (by omega))) (dk rfl) ?_
          refine vl_q (q_move rfl) (dk rfl) ?_
          refine vl_nil ?_
          refine ⟨_, _, ?_, ⟨i + 1, by omega, rfl, rfl⟩, (Weak.cut _ _ _ (Nat.le_of_ble_eq_true rfl) ⟨⟨rfl, rfl⟩, ⟨rfl, rfl⟩, ⟨rfl, rfl⟩, ⟨rfl, rfl⟩, ⟨rfl, rfl⟩, trivial⟩ ⟨⟨Nat.le_of_ble_eq_true rfl, rfl, belN_all rfl⟩, ⟨Nat.le_of_ble_eq_true rfl, rfl, belN_all rfl⟩, ⟨Nat.le_of_ble_eq_true rfl, rfl, belN_all rfl⟩, trivial⟩ rfl)⟩
          omega
        · refine vl_load rfl rfl rfl rfl rfl rfl rfl (by decide) (dk rfl) ?_
          refine vl_nil ?_
          refine va_all [2] (by kernel_rfl) (by simp) ⟨⟨_, rfl, ?_⟩, trivial⟩
          refine vl_callG [] (.v (.one (.hdr 21 0 _))) (c_impl_copyTexts l[i].parts hp) rfl rfl ⟨XOk.shc _ _, trivial⟩ trivial rfl (by decide) ⟨fix_clo _ _, trivial⟩ trivial rfl (dk rfl) ?_
          refine vl_nil ?_
          refine va_q 7 rfl (by kernel_rfl) (by kernel_rfl) (by kernel_rfl) (q_fieldAddr 3 rfl rfl rfl rfl (by decide) rfl rfl) (dk rfl) ?_
          refine va_all [6] (by kernel_rfl) (by simp) ⟨⟨_, rfl, ?_⟩, trivial⟩
          refine vl_append rfl rfl rfl rfl (fun _ h => TypeDesc.noConfusion h) rfl rfl rfl (Nat.le_refl _) (src_sh rfl rfl (map_wid fun _ => rfl)) (by simp only [List.length_map]; show _ * 1 ≤ _; omega) (by simp only [List.length_map]; omega) (dk rfl) ?_
          simp only [List.drop_nil, List.take_nil, List.nil_append, List.length_map, Nat.zero_add]
          refine vl_nil ?_
          refine va_all [8] (by kernel_rfl) (by simp) ⟨⟨_, rfl, ?_⟩, trivial⟩
          refine vl_store rfl rfl rfl rfl rfl rfl (Nat.le_of_ble_eq_true rfl) trivial ?_
          refine vl_nil ?_
          refine va_q 9 rfl (by kernel_rfl) (by kernel_rfl) (by kernel_rfl) (q_fieldAddr 4 rfl rfl rfl rfl (by decide) rfl rfl) (dk rfl) ?_
          refine va_all [10] (by kernel_rfl) (by simp) ⟨⟨_, rfl, ?_⟩, trivial⟩
          refine vl_store rfl rfl rfl rfl rfl rfl (Nat.le_of_ble_eq_true rfl) trivial ?_
          refine vl_nil ?_
          refine va_done (by kernel_rfl) ?_
          refine hK9 _ ?_
          refine vc_region ?_
          refine vl_q (q_fieldAddr 0 rfl rfl rfl rfl (by decide) rfl rfl) (dk rfl) ?_
          refine vl_open (nm := 18) (i := 0) (j := 0) rfl rfl rfl rfl rfl rfl ?_
          simp only [List.length_map, List.length_take, Nat.min_eq_left hi]
          refine vl_load rfl rfl rfl rfl rfl rfl rfl (by decide) (dk rfl) ?_
          refine vl_load rfl rfl rfl rfl rfl rfl rfl (by decide) (dk rfl) ?_
          refine vl_bslice rfl rfl rfl rfl rfl rfl ⟨rfl, trivial⟩ (by decide) (by decide) (dk rfl) ?_
          refine vl_append rfl rfl rfl rfl (fun _ h => TypeDesc.noConfusion h) rfl rfl rfl (by rw [Nat.zero_add]; exact Nat.le_of_eq (by simp; omega)) (src_row rfl rfl rfl rfl) (by show (i + 1) * 80 ≤ _; omega) (by show i + 1 < _; omega) (dk rfl) ?_
          refine vl_q (q_fieldAddr 0 rfl rfl rfl rfl (by decide) rfl rfl) (dk rfl) ?_
          refine vl_store rfl rfl rfl rfl rfl rfl (Nat.le_of_ble_eq_true rfl) trivial ?_
          refine vl_nil ?_
          refine hK7 _ ?_
          refine vc_weak (Weak.node (m := 25) rfl (congrArg (Vm.Node.mk 6) (app_take (take_map_len (f := heldO) hi)))) ?_
          refine vc_weak (Weak.close1 (nm := 25) (i := i) (j := 3) (m := 21) (es := l[i].parts.map strC) rfl (app_get (take_map_len hi)) rfl rfl (by simp) (by decide)) ?_
          refine vc_weak (Weak.close1 (nm := 25) (i := i) (j := 4) (m := 22) (es := l[i].hav.map boolC) rfl (set_get (app_lt (take_map_len hi))) rfl rfl (by simp) (by decide)) ?_
          refine vc_weak (Weak.node (m := 25) (nd' := ⟨6, clo ((l.take (i + 1)).map heldO)⟩) rfl (congrArg (Vm.Node.mk 6) ((List.set_set _).trans ((app_set (take_map_len hi)).trans (clo_snoc.trans (congrArg clo (take_map_snoc (f := heldO) hil))))))) ?_
          refine vc_weak (Weak.close1 (nm := 18) (i := 0) (j := 0) (m := 25) (es := (l.take (i + 1)).map heldO) rfl rfl rfl rfl (by simp; omega) (by decide)) ?_
          refine vc_region ?_
          refine vl_q (q_add rfl rfl (IntWalk.i64_in _ (by omega))) (dk rfl) ?_
          refine vl_q (q_move rfl) (dk rfl) ?_
          refine vl_nil ?_
          refine ⟨_, _, ?_, ⟨i + 1, by omega, rfl, rfl⟩, (Weak.cut _ _ _ (Nat.le_of_ble_eq_true rfl) ⟨⟨rfl, rfl⟩, ⟨rfl, rfl⟩, ⟨rfl, rfl⟩, ⟨rfl, rfl⟩, ⟨rfl, rfl⟩, trivial⟩ ⟨⟨Nat.le_of_ble_eq_true rfl, rfl, belN_all rfl⟩, ⟨Nat.le_of_ble_eq_true rfl, rfl, belN_all rfl⟩, ⟨Nat.le_of_ble_eq_true rfl, rfl, belN_all rfl⟩, trivial⟩ rfl)⟩
          omega
      · refine vl_load rfl rfl rfl rfl rfl rfl rfl (by decide) (dk rfl) ?_
        refine vl_nil ?_
        refine va_all [1] (by kernel_rfl) (by simp) ⟨⟨_, rfl, ?_⟩, trivial⟩
        refine vl_load rfl rfl rfl rfl rfl rfl rfl (by decide) (dk rfl) ?_
        refine vl_nil ?_
        refine va_all [2] (by kernel_rfl) (by simp) ⟨⟨_, rfl, ?_⟩, trivial⟩
        refine vl_callG [] (.v (.one (.hdr 21 0 _))) (c_impl_copyTexts l[i].parts hp) rfl rfl ⟨XOk.shc _ _, trivial⟩ trivial rfl (by decide) ⟨fix_clo _ _, trivial⟩ trivial rfl (dk rfl) ?_
        refine vl_nil ?_
        refine va_q 7 rfl (by kernel_rfl) (by kernel_rfl) (by kernel_rfl) (q_fieldAddr 3 rfl rfl rfl rfl (by decide) rfl rfl) (dk rfl) ?_
        refine va_all [6] (by kernel_rfl) (by simp) ⟨⟨_, rfl, ?_⟩, trivial⟩
        refine vl_append rfl rfl rfl rfl (fun _ h => TypeDesc.noConfusion h) rfl rfl rfl (Nat.le_refl _) (src_sh rfl rfl (map_wid fun _ => rfl)) (by simp only [List.length_map]; show _ * 1 ≤ _; omega) (by simp only [List.length_map]; omega) (dk rfl) ?_
        simp only [List.drop_nil, List.take_nil, List.nil_append, List.length_map, Nat.zero_add]
        refine vl_nil ?_
        refine va_all [8] (by kernel_rfl) (by simp) ⟨⟨_, rfl, ?_⟩, trivial⟩
        refine vl_store rfl rfl rfl rfl rfl rfl (Nat.le_of_ble_eq_true rfl) trivial ?_
        refine vl_nil ?_
        refine va_q 9 rfl (by kernel_rfl) (by kernel_rfl) (by kernel_rfl) (q_fieldAddr 4 rfl rfl rfl rfl (by decide) rfl rfl) (dk rfl) ?_
        refine va_all [10] (by kernel_rfl) (by simp) ⟨⟨_, rfl, ?_⟩, trivial⟩
        refine vl_store rfl rfl rfl rfl rfl rfl (Nat.le_of_ble_eq_true rfl) trivial ?_
        refine vl_nil ?_
        refine va_done (by kernel_rfl) ?_
        refine hK9 _ ?_
        refine vc_region ?_
        refine vl_q (q_fieldAddr 0 rfl rfl rfl rfl (by decide) rfl rfl) (dk rfl) ?_
        refine vl_open (nm := 18) (i := 0) (j := 0) rfl rfl rfl rfl rfl rfl ?_
        simp only [List.length_map, List.length_take, Nat.min_eq_left hi]
        refine vl_load rfl rfl rfl rfl rfl rfl rfl (by decide) (dk rfl) ?_
        refine vl_load rfl rfl rfl rfl rfl rfl rfl (by decide) (dk rfl) ?_
        refine vl_bslice rfl rfl rfl rfl rfl rfl ⟨rfl, trivial⟩ (by decide) (by decide) (dk rfl) ?_
        refine vl_append rfl rfl rfl rfl (fun _ h => TypeDesc.noConfusion h) rfl rfl rfl (by rw [Nat.zero_add]; exact Nat.le_of_eq (by simp; omega)) (src_row rfl rfl rfl rfl) (by show (i + 1) * 80 ≤ _; omega) (by show i + 1 < _; omega) (dk rfl) ?_
        refine vl_q (q_fieldAddr 0 rfl rfl rfl rfl (by decide) rfl rfl) (dk rfl) ?_
        refine vl_store rfl rfl rfl rfl rfl rfl (Nat.le_of_ble_eq_true rfl) trivial ?_
        refine vl_nil ?_
        refine hK7 _ ?_
        refine vc_weak (Weak.node (m := 25) rfl (congrArg (Vm.Node.mk 6) (app_take (take_map_len (f := heldO) hi)))) ?_
        refine vc_weak (Weak.close1 (nm := 25) (i := i) (j := 3) (m := 21) (es := l[i].parts.map strC) rfl (app_get (take_map_len hi)) rfl rfl (by simp) (by decide)) ?_
        refine vc_weak (Weak.close1 (nm := 25) (i := i) (j := 4) (m := 22) (es := l[i].hav.map boolC) rfl (set_get (app_lt (take_map_len hi))) rfl rfl (by simp) (by decide)) ?_
        refine vc_weak (Weak.node (m := 25) (nd' := ⟨6, clo ((l.take (i + 1)).map heldO)⟩) rfl (congrArg (Vm.Node.mk 6) ((List.set_set _).trans ((app_set (take_map_len hi)).trans (clo_snoc.trans (congrArg clo (take_map_snoc (f := heldO) hil))))))) ?_
        refine vc_weak (Weak.close1 (nm := 18) (i := 0) (j := 0) (m := 25) (es := (l.take (i + 1)).map heldO) rfl rfl rfl rfl (by simp; omega) (by decide)) ?_
        refine vc_region ?_
        refine vl_q (q_add rfl rfl (IntWalk.i64_in _ (by omega))) (dk rfl) ?_
        refine vl_q (q_move rfl) (dk rfl) ?_
        refine vl_nil ?_
        refine ⟨_, _, ?_, ⟨i + 1, by omega, rfl, rfl⟩, (Weak.cut _ _ _ (Nat.le_of_ble_eq_true rfl) ⟨⟨rfl, rfl⟩, ⟨rfl, rfl⟩, ⟨rfl, rfl⟩, ⟨rfl, rfl⟩, ⟨rfl, rfl⟩, trivial⟩ ⟨⟨Nat.le_of_ble_eq_true rfl, rfl, belN_all rfl⟩, ⟨Nat.le_of_ble_eq_true rfl, rfl, belN_all rfl⟩, ⟨Nat.le_of_ble_eq_true rfl, rfl, belN_all rfl⟩, trivial⟩ rfl)⟩
        omega
    · refine vl_load rfl rfl rfl rfl rfl rfl rfl (by decide) (dk rfl) ?_
      refine vl_nil ?_
      refine va_all [1, 3] (by kernel_rfl) (by simp) ⟨⟨_, rfl, ?_⟩, ⟨_, rfl, ?_⟩, trivial⟩
      · refine vl_load rfl rfl rfl rfl rfl rfl rfl (by decide) (dk rfl) ?_
        refine vl_nil ?_
        refine va_all [2, 3] (by kernel_rfl) (by simp) ⟨⟨_, rfl, ?_⟩, ⟨_, rfl, ?_⟩, trivial⟩
        · refine vl_callG [] (.v (.one (.hdr 20 0 _))) (c_impl_copyTexts l[i].parts hp) rfl rfl ⟨XOk.shc _ _, trivial⟩ trivial rfl (by decide) ⟨fix_clo _ _, trivial⟩ trivial rfl (dk rfl) ?_
          refine vl_nil ?_
          refine va_q 7 rfl (by kernel_rfl) (by kernel_rfl) (by kernel_rfl) (q_fieldAddr 3 rfl rfl rfl rfl (by decide) rfl rfl) (dk rfl) ?_
          refine va_all [3] (by kernel_rfl) (by simp) ⟨⟨_, rfl, ?_⟩, trivial⟩
          refine vl_bslice rfl rfl rfl rfl rfl rfl trivial (by decide) (by decide) (dk rfl) ?_
          refine vl_nil ?_
          refine va_all [6] (by kernel_rfl) (by simp) ⟨⟨_, rfl, ?_⟩, trivial⟩
          refine vl_append rfl rfl rfl rfl (fun _ h => TypeDesc.noConfusion h) rfl rfl rfl (Nat.le_refl _) (src_sh rfl rfl (map_wid fun _ => rfl)) (by simp only [List.length_map]; show _ * 1 ≤ _; omega) (by simp only [List.length_map]; omega) (dk rfl) ?_
          simp only [List.drop_nil, List.take_nil, List.nil_append, List.length_map, Nat.zero_add]
          refine vl_nil ?_
          refine va_all [8] (by kernel_rfl) (by simp) ⟨⟨_, rfl, ?_⟩, trivial⟩
          refine vl_store rfl rfl rfl rfl rfl rfl (Nat.le_of_ble_eq_true rfl) trivial ?_
          refine vl_nil ?_
          refine va_q 9 rfl (by kernel_rfl) (by kernel_rfl) (by kernel_rfl) (q_fieldAddr 4 rfl rfl rfl rfl (by decide) rfl rfl) (dk rfl) ?_
          refine va_all [10] (by kernel_rfl) (by simp) ⟨⟨_, rfl, ?_⟩, trivial⟩
          refine vl_store rfl rfl rfl rfl rfl rfl (Nat.le_of_ble_eq_true rfl) trivial ?_
          refine vl_nil ?_
          refine va_done (by kernel_rfl) ?_
          refine hK9 _ ?_
          refine vc_region ?_
          refine vl_q (q_fieldAddr 0 rfl rfl rfl rfl (by decide) rfl rfl) (dk rfl) ?_
          refine vl_open (nm := 18) (i := 0) (j := 0) rfl rfl rfl rfl rfl rfl ?_
          simp only [List.length_map, List.length_take, Nat.min_eq_left hi]
          refine vl_load rfl rfl rfl rfl rfl rfl rfl (by decide) (dk rfl) ?_
          refine vl_load rfl rfl rfl rfl rfl rfl rfl (by decide) (dk rfl) ?_
          refine vl_bslice rfl rfl rfl rfl rfl rfl ⟨rfl, trivial⟩ (by decide) (by decide) (dk rfl) ?_
          refine vl_append rfl rfl rfl rfl (fun _ h => TypeDesc.noConfusion h) rfl rfl rfl (by rw [Nat.zero_add]; exact Nat.le_of_eq (by simp; omega)) (src_row rfl rfl rfl rfl) (by show (i + 1) * 80 ≤ _; omega) (by show i + 1 < _; omega) (dk rfl) ?_
          refine vl_q (q_fieldAddr 0 rfl rfl rfl rfl (by decide) rfl rfl) (dk rfl) ?_
          refine vl_store rfl rfl rfl rfl rfl rfl (Nat.le_of_ble_eq_true rfl) trivial ?_
          refine vl_nil ?_
          refine hK7 _ ?_
          refine vc_weak (Weak.node (m := 25) rfl (congrArg (Vm.Node.mk 6) (app_take (take_map_len (f := heldO) hi)))) ?_
          refine vc_weak (Weak.close1 (nm := 25) (i := i) (j := 3) (m := 20) (es := l[i].parts.map strC) rfl (app_get (take_map_len hi)) rfl rfl (by simp) (by decide)) ?_
          refine vc_weak (Weak.close1 (nm := 25) (i := i) (j := 4) (m := 22) (es := l[i].hav.map boolC) rfl (set_get (app_lt (take_map_len hi))) rfl rfl (by simp) (by decide)) ?_
          refine vc_weak (Weak.node (m := 25) (nd' := ⟨6, clo ((l.take (i + 1)).map heldO)⟩) rfl (congrArg (Vm.Node.mk 6) ((List.set_set _).trans ((app_set (take_map_len hi)).trans (clo_snoc.trans (congrArg clo (take_map_snoc (f := heldO) hil))))))) ?_
          refine vc_weak (Weak.close1 (nm := 18) (i := 0) (j := 0) (m := 25) (es := (l.take (i + 1)).map heldO) rfl rfl rfl rfl (by simp; omega) (by decide)) ?_
          refine vc_region ?_
          refine vl_q (q_add rfl rfl (IntWalk.i64_in _ (by omega))) (dk rfl) ?_
          refine vl_q (q_move rfl) (dk rfl) ?_
          refine vl_nil ?_
          refine ⟨_, _, ?_, ⟨i + 1, by omega, rfl, rfl⟩, (Weak.cut _ _ _ (Nat.le_of_ble_eq_true rfl) ⟨⟨rfl, rfl⟩, ⟨rfl, rfl⟩, ⟨rfl, rfl⟩, ⟨rfl, rfl⟩, ⟨rfl, rfl⟩, trivial⟩ ⟨⟨Nat.le_of_ble_eq_true rfl, rfl, belN_all rfl⟩, ⟨Nat.le_of_ble_eq_true rfl, rfl, belN_all rfl⟩, ⟨Nat.le_of_ble_eq_true rfl, rfl, belN_all rfl⟩, trivial⟩ rfl)⟩
          omega
        · refine vl_bslice rfl rfl rfl rfl rfl rfl trivial (by decide) (by decide) (dk rfl) ?_
          refine vl_nil ?_
          refine va_all [2] (by kernel_rfl) (by simp) ⟨⟨_, rfl, ?_⟩, trivial⟩
          refine vl_callG [] (.v (.one (.hdr 21 0 _))) (c_impl_copyTexts l[i].parts hp) rfl rfl ⟨XOk.shc _ _, trivial⟩ trivial rfl (by decide) ⟨fix_clo _ _, trivial⟩ trivial rfl (dk rfl) ?_
          refine vl_nil ?_
          refine va_q 7 rfl (by kernel_rfl) (by kernel_rfl) (by kernel_rfl) (q_fieldAddr 3 rfl rfl rfl rfl (by decide) rfl rfl) (dk rfl) ?_
          refine va_all [6] (by kernel_rfl) (by simp) ⟨⟨_, rfl, ?_⟩, trivial⟩
          refine vl_append rfl rfl rfl rfl (fun _ h => TypeDesc.noConfusion h) rfl rfl rfl (Nat.le_refl _) (src_sh rfl rfl (map_wid fun _ => rfl)) (by simp only [List.length_map]; show _ * 1 ≤ _; omega) (by simp only [List.length_map]; omega) (dk rfl) ?_
          simp only [List.drop_nil, List.take_nil, List.nil_append, List.length_map, Nat.zero_add]
          refine vl_nil ?_
          refine va_all [8] (by kernel_rfl) (by simp) ⟨⟨_, rfl, ?_⟩, trivial⟩
          refine vl_store rfl rfl rfl rfl rfl rfl (Nat.le_of_ble_eq_true rfl) trivial ?_
          refine vl_nil ?_
          refine va_q 9 rfl (by kernel_rfl) (by kernel_rfl) (by kernel_rfl) (q_fieldAddr 4 rfl rfl rfl rfl (by decide) rfl rfl) (dk rfl) ?_
          refine va_all [10] (by kernel_rfl) (by simp) ⟨⟨_, rfl, ?_⟩, trivial⟩
          refine vl_store rfl rfl rfl rfl rfl rfl (Nat.le_of_ble_eq_true rfl) trivial ?_
          refine vl_nil ?_
          refine va_done (by kernel_rfl) ?_
          refine hK9 _ ?_
          refine vc_region ?_
          refine vl_q (q_fieldAddr 0 rfl rfl rfl rfl (by decide) rfl rfl) (dk rfl) ?_
          refine vl_open (nm := 18) (i := 0) (j := 0) rfl rfl rfl rfl rfl rfl ?_
          simp only [List.length_map, List.length_take, Nat.min_eq_left hi]
          refine vl_load rfl rfl rfl rfl rfl rfl rfl (by decide) (dk rfl) ?_
          refine vl_load rfl rfl rfl rfl rfl rfl rfl (by decide) (dk rfl) ?_
          refine vl_bslice rfl rfl rfl rfl rfl rfl ⟨rfl, trivial⟩ (by decide) (by decide) (dk rfl) ?_
          refine vl_append rfl rfl rfl rfl (fun _ h => TypeDesc.noConfusion h) rfl rfl rfl (by rw [Nat.zero_add]; exact Nat.le_of_eq (by simp; omega)) (src_row rfl rfl rfl rfl) (by show (i + 1) * 80 ≤ _; omega) (by show i + 1 < _; omega) (dk rfl) ?_
          refine vl_q (q_fieldAddr 0 rfl rfl rfl rfl (by decide) rfl rfl) (dk rfl) ?_
          refine vl_store rfl rfl rfl rfl rfl rfl (Nat.le_of_ble_eq_true rfl) trivial ?_
          refine vl_nil ?_
          refine hK7 _ ?_
          refine vc_weak (Weak.node (m := 25) rfl (congrArg (Vm.Node.mk 6) (app_take (take_map_len (f := heldO) hi)))) ?_
          refine vc_weak (Weak.close1 (nm := 25) (i := i) (j := 3) (m := 21) (es := l[i].parts.map strC) rfl (app_get (take_map_len hi)) rfl rfl (by simp) (by decide)) ?_
          refine vc_weak (Weak.close1 (nm := 25) (i := i) (j := 4) (m := 22) (es := l[i].hav.map boolC) rfl (set_get (app_lt (take_map_len hi))) rfl rfl (by simp) (by decide)) ?_
          refine vc_weak (Weak.node (m := 25) (nd' := ⟨6, clo ((l.take (i + 1)).map heldO)⟩) rfl (congrArg (Vm.Node.mk 6) ((List.set_set _).trans ((app_set (take_map_len hi)).trans (clo_snoc.trans (congrArg clo (take_map_snoc (f := heldO) hil))))))) ?_
          refine vc_weak (Weak.close1 (nm := 18) (i := 0) (j := 0) (m := 25) (es := (l.take (i + 1)).map heldO) rfl rfl rfl rfl (by simp; omega) (by decide)) ?_
          refine vc_region ?_
          refine vl_q (q_add rfl rfl (IntWalk.i64_in _ (by omega))) (dk rfl) ?_
          refine vl_q (q_move rfl) (dk rfl) ?_
          refine vl_nil ?_
          refine ⟨_, _, ?_, ⟨i + 1, by omega, rfl, rfl⟩, (Weak.cut _ _ _ (Nat.le_of_ble_eq_true rfl) ⟨⟨rfl, rfl⟩, ⟨rfl, rfl⟩, ⟨rfl, rfl⟩, ⟨rfl, rfl⟩, ⟨rfl, rfl⟩, trivial⟩ ⟨⟨Nat.le_of_ble_eq_true rfl, rfl, belN_all rfl⟩, ⟨Nat.le_of_ble_eq_true rfl, rfl, belN_all rfl⟩, ⟨Nat.le_of_ble_eq_true rfl, rfl, belN_all rfl⟩, trivial⟩ rfl)⟩
          omega
      · refine vl_bslice rfl rfl rfl rfl rfl rfl trivial (by decide) (by decide) (dk rfl) ?_
        refine vl_nil ?_
        refine va_all [1] (by kernel_rfl) (by simp) ⟨⟨_, rfl, ?_⟩, trivial⟩
        refine vl_load rfl rfl rfl rfl rfl rfl rfl (by decide) (dk rfl) ?_
        refine vl_nil ?_
        refine va_all [2] (by kernel_rfl) (by simp) ⟨⟨_, rfl, ?_⟩, trivial⟩
        refine vl_callG [] (.v (.one (.hdr 21 0 _))) (c_impl_copyTexts l[i].parts hp) rfl rfl ⟨XOk.shc _ _, trivial⟩ trivial rfl (by decide) ⟨fix_clo _ _, trivial⟩ trivial rfl (dk rfl) ?_
        refine vl_nil ?_
        refine va_q 7 rfl (by kernel_rfl) (by kernel_rfl) (by kernel_rfl) (q_fieldAddr 3 rfl rfl rfl rfl (by decide) rfl rfl) (dk rfl) ?_
        refine va_all [6] (by kernel_rfl) (by simp) ⟨⟨_, rfl, ?_⟩, trivial⟩
        refine vl_append rfl rfl rfl rfl (fun _ h => TypeDesc.noConfusion h) rfl rfl rfl (Nat.le_refl _) (src_sh rfl rfl (map_wid fun _ => rfl)) (by simp only [List.length_map]; show _ * 1 ≤ _; omega) (by simp only [List.length_map]; omega) (dk rfl) ?_
        simp only [List.drop_nil, List.take_nil, List.nil_append, List.length_map, Nat.zero_add]
        refine vl_nil ?_
        refine va_all [8] (by kernel_rfl) (by simp) ⟨⟨_, rfl, ?_⟩, trivial⟩
        refine vl_store rfl rfl rfl rfl rfl rfl (Nat.le_of_ble_eq_true rfl) trivial ?_
        refine vl_nil ?_
        refine va_q 9 rfl (by kernel_rfl) (by kernel_rfl) (by kernel_rfl) (q_fieldAddr 4 rfl rfl rfl rfl (by decide) rfl rfl) (dk rfl) ?_
        refine va_all [10] (by kernel_rfl) (by simp) ⟨⟨_, rfl, ?_⟩, trivial⟩
        refine vl_store rfl rfl rfl rfl rfl rfl (Nat.le_of_ble_eq_true rfl) trivial ?_
        refine vl_nil ?_
        refine va_done (by kernel_rfl) ?_
        refine hK9 _ ?_
        refine vc_region ?_
        refine vl_q (q_fieldAddr 0 rfl rfl rfl rfl (by decide) rfl rfl) (dk rfl) ?_
        refine vl_open (nm := 18) (i := 0) (j := 0) rfl rfl rfl rfl rfl rfl ?_
        simp only [List.length_map, List.length_take, Nat.min_eq_left hi]
        refine vl_load rfl rfl rfl rfl rfl rfl rfl (by decide) (dk rfl) ?_
        refine vl_load rfl rfl rfl rfl rfl rfl rfl (by decide) (dk rfl) ?_
        refine vl_bslice rfl rfl rfl rfl rfl rfl ⟨rfl, trivial⟩ (by decide) (by decide) (dk rfl) ?_
        refine vl_append rfl rfl rfl rfl (fun _ h => TypeDesc.noConfusion h) rfl rfl rfl (by rw [Nat.zero_add]; exact Nat.le_of_eq (by simp; omega)) (src_row rfl rfl rfl rfl) (by show (i + 1) * 80 ≤ _; omega) (by show i + 1 < _; omega) (dk rfl) ?_
        refine vl_q (q_fieldAddr 0 rfl rfl rfl rfl (by decide) rfl rfl) (dk rfl) ?_
        refine vl_store rfl rfl rfl rfl rfl rfl (Nat.le_of_ble_eq_true rfl) trivial ?_
        refine vl_nil ?_
        refine hK7 _ ?_
        refine vc_weak (Weak.node (m := 25) rfl (congrArg (Vm.Node.mk 6) (app_take (take_map_len (f := heldO) hi)))) ?_
        refine vc_weak (Weak.close1 (nm := 25) (i := i) (j := 3) (m := 21) (es := l[i].parts.map strC) rfl (app_get (take_map_len hi)) rfl rfl (by simp) (by decide)) ?_
        refine vc_weak (Weak.close1 (nm := 25) (i := i) (j := 4) (m := 22) (es := l[i].hav.map boolC) rfl (set_get (app_lt (take_map_len hi))) rfl rfl (by simp) (by decide)) ?_
        refine vc_weak (Weak.node (m := 25) (nd' := ⟨6, clo ((l.take (i + 1)).map heldO)⟩) rfl (congrArg (Vm.Node.mk 6) ((List.set_set _).trans ((app_set (take_map_len hi)).trans (clo_snoc.trans (congrArg clo (take_map_snoc (f := heldO) hil))))))) ?_
        refine vc_weak (Weak.close1 (nm := 18) (i := 0) (j := 0) (m := 25) (es := (l.take (i + 1)).map heldO) rfl rfl rfl rfl (by simp; omega) (by decide)) ?_
        refine vc_region ?_
        refine vl_q (q_add rfl rfl (IntWalk.i64_in _ (by omega))) (dk rfl) ?_
        refine vl_q (q_move rfl) (dk rfl) ?_
        refine vl_nil ?_
        refine ⟨_, _, ?_, ⟨i + 1, by omega, rfl, rfl⟩, (Weak.cut _ _ _ (Nat.le_of_ble_eq_true rfl) ⟨⟨rfl, rfl⟩, ⟨rfl, rfl⟩, ⟨rfl, rfl⟩, ⟨rfl, rfl⟩, ⟨rfl, rfl⟩, trivial⟩ ⟨⟨Nat.le_of_ble_eq_true rfl, rfl, belN_all rfl⟩, ⟨Nat.le_of_ble_eq_true rfl, rfl, belN_all rfl⟩, ⟨Nat.le_of_ble_eq_true rfl, rfl, belN_all rfl⟩, trivial⟩ rfl)⟩
        omega
  · replace h11 := lss_nof h11
    refine vl_nil ?_
    refine hK5 _ ?_
    refine vc_seq fun K11 hK11 => ?_
    refine vc_cond_false rfl ?_
    refine vc_exit ?_
    refine hK3 _ ?_
    refine vc_seq fun K12 hK12 => ?_
    obtain rfl : i = l.length := by omega
    refine vc_weak (Weak.node (m := 18) (nd' := ⟨1, [[.c (.own 6 (l.map heldO))]]⟩) rfl (by rw [List.take_length])) ?_
    refine vc_region ?_
    refine vl_open (nm := 18) (i := 0) (j := 0) rfl rfl rfl rfl rfl rfl ?_
    simp only [List.length_map]
    refine vl_load rfl rfl rfl rfl rfl rfl rfl (by decide) (dk rfl) ?_
    refine vl_store rfl rfl rfl rfl rfl rfl (Nat.le_of_ble_eq_true rfl) trivial ?_
    refine vl_nil ?_
    refine hK12 _ ?_
    refine vc_ret ?_
    refine ret_g [19] rfl (.cons (res_cell rfl rfl rfl rfl rfl rfl rfl (by decide)) .nil) rfl rfl (nodupB_ok rfl) ⟨by decide, trivial⟩ ⟨⟨_, rfl, NR.clo _ _ _ _⟩, trivial⟩ trivial (Nat.zero_le _)
end Go.Vm.S
namespace Go.Vm.S
open Go Go.Vm
set_option maxRecDepth 100000
set_option linter.unusedVariables false
set_option maxHeartbeats 4000000
theorem at44 : FnAt Pg 44 Go.Proofs.Try.f44 := ⟨by kernel_rfl, rfl, by decide⟩
theorem c_impl_TidyShelf_1 (t now : Int) :
    Ctr Pg ty 44 [.agg [.c .any, .c .any, .c .any, .c .any, .c .any, .c (.val (.int .i64 t))], .one (.ptr 0 0 0)] [⟨1, clo [[.val (.int .i64 now)]]⟩] (Gives (vv (.bool (decide (t ≤ now)))) [] [⟨1, clo [[.val (.int .i64 now)]]⟩]) := by
  refine ctr at44 rfl (nsK_gives rfl trivial ⟨nsN_clo (by simp [C.noSh_val]), trivial⟩) (Nat.le_of_ble_eq_true rfl) fun w0 S0 L0 Z => ?_
  refine vc_seq fun K1 hK1 => ?_
  refine vc_region ?_
  refine vl_box rfl (dk rfl) ?_
  refine vl_q (q_assign rfl) (dk rfl) ?_
  refine vl_nil ?_
  refine hK1 _ ?_
  refine vc_seq fun K2 hK2 => ?_
  refine vc_region ?_
  refine vl_q (q_fieldAddr 5 rfl rfl rfl rfl (by decide) rfl rfl) (dk rfl) ?_
  refine vl_load rfl rfl rfl rfl rfl rfl rfl (by decide) (dk rfl) ?_
  refine vl_load rfl rfl rfl rfl rfl rfl rfl (by decide) (dk rfl) ?_
  refine vl_q (q_cmp rfl rfl rfl rfl) (dk rfl) ?_
  refine vl_q (q_assign rfl) (dk rfl) ?_
  refine vl_nil ?_
  refine hK2 _ ?_
  refine vc_ret ?_
  refine ret_g [] rfl (.cons (res_tmp rfl) .nil) rfl rfl (nodupB_ok rfl) trivial trivial ⟨⟨_, rfl, NR.clo _ _ _ _⟩, trivial⟩ (Nat.le_of_ble_eq_true rfl)
end Go.Vm.S
namespace Go.Vm.S
open Go Go.Vm
set_option maxRecDepth 100000
set_option linter.unusedVariables false
set_option maxHeartbeats 4000000
theorem at56 : FnAt Pg 56 Go.Proofs.Try.f56 := ⟨by kernel_rfl, rfl, by decide⟩
theorem c_IndexFunc (l : List Held) (now : Int) :
    Ctr Pg ty 56 [shv 6 (l.map heldC), .one (.fn 44 [(0, 0, 0)])] [⟨1, clo [[.val (.int .i64 now)]]⟩] (Gives (vv (.int .i64 (dueV now l))) [] [⟨1, clo [[.val (.int .i64 now)]]⟩]) := by
  refine ctr at56 rfl (nsK_gives rfl trivial ⟨nsN_clo (by simp [C.noSh_val]), trivial⟩) (Nat.le_of_ble_eq_true rfl) fun w0 S0 L0 Z => ?_
  refine vc_seq fun K1 hK1 => ?_
  refine vc_region ?_
  refine vl_q (q_assign rfl) (dk rfl) ?_
  refine vl_nil ?_
  refine hK1 _ ?_
  refine vc_seq fun K2 hK2 => ?_
  refine vc_seq fun K3 hK3 => ?_
  refine vc_fact (fun a w g => good_lim (x := .tmp 0) rfl g) fun hlen => ?_
  rw [List.length_map] at hlen
  refine vc_region ?_
  refine vl_q (q_move rfl) (dk rfl) ?_
  refine vl_q (q_len_sh rfl rfl rfl) (dk rfl) ?_
  simp only [List.length_map]
  refine vl_q (q_move rfl) (dk rfl) ?_
  refine vl_nil ?_
  refine hK3 _ ?_
  refine vc_block ?_
  refine vc_loop (fun mz st => ∃ i : Nat, (i ≤ l.length ∧ ∀ j (hj : j < l.length), j < i → now < l[j].til) ∧ mz = l.length - i ∧ st = mkSt [(0, .v (shv 6 (l.map heldC))), (1, .v (.one (.fn 44 [(0, 0, 0)]))), (7, .v (iv l.length)), (8, .v (iv i))] [(0, ⟨1, clo [[.val (.int .i64 now)]]⟩)] 16) ⟨_, _, ⟨0, ⟨by omega, fun j hj h => absurd h (by omega)⟩, rfl, rfl⟩, (Weak.cut _ _ _ (Nat.le_of_ble_eq_true rfl) ⟨⟨rfl, rfl⟩, ⟨rfl, rfl⟩, ⟨rfl, rfl⟩, ⟨rfl, rfl⟩, trivial⟩ ⟨⟨Nat.le_of_ble_eq_true rfl, rfl, belN_clo _ _ _⟩, trivial⟩ rfl)⟩ (fun mz st hI => ?_)
  obtain ⟨i, ⟨hi, hb⟩, hmz, rfl⟩ := hI
  refine vc_seq fun K4 hK4 => ?_
  refine vc_region ?_
  refine vl_two (x := fun b => vv (.bool b)) _ (q_cmp rfl rfl rfl rfl) (dk rfl) (fun h9 => ?_) (fun h9 => ?_)
  · replace h9 := lss_of h9
    refine vl_nil ?_
    refine hK4 _ ?_
    refine vc_seq fun K5 hK5 => ?_
    refine vc_cond_true rfl ?_
    refine vc_skip ?_
    refine hK5 _ ?_
    refine vc_seq fun K6 hK6 => ?_
    refine vc_block ?_
    refine vc_seq fun K7 hK7 => ?_
    have hil : i < l.length := by omega
    refine vc_region ?_
    refine vl_q (q_move rfl) (dk rfl) ?_
    refine vl_q (q_assign rfl) (dk rfl) ?_
    refine vl_nil ?_
    refine hK7 _ ?_
    refine vc_seq fun K8 hK8 => ?_
    refine vc_region ?_
    refine vl_q (q_move rfl) (dk rfl) ?_
    refine vl_q (q_move rfl) (dk rfl) ?_
    refine vl_q (q_move rfl) (dk rfl) ?_
    refine vl_q (q_indexAddr_sh rfl rfl rfl rfl rfl rfl (by decide) (by omega) (get_map (i := i) hil)) (dk rfl) ?_
    refine vl_q (q_load_sp rfl rfl rfl rfl (by decide)) (dk rfl) ?_
    refine vl_callG [0] (vv (.bool (decide (l[i].til ≤ now)))) (c_impl_TidyShelf_1 l[i].til now) rfl rfl ⟨VOk.agg ⟨XOk.any' _, XOk.any' _, XOk.any' _, XOk.any' _, XOk.any' _, XOk.val _, trivial⟩, XOk.ptr rfl (by decide) _ _, trivial⟩ ⟨⟨_, rfl, NR.clo _ _ _ _⟩, trivial⟩ rfl (by decide) trivial ⟨fix_clo _ _, trivial⟩ rfl (dk rfl) ?_
    refine vl_bool 16 rfl (fun h16 => ?_) (fun h16 => ?_)
    · have h16 := of_decide_eq_true h16
      refine vl_nil ?_
      refine hK8 _ ?_
      refine vc_cond_true rfl ?_
      refine vc_seq fun K9 hK9 => ?_
      refine vc_region ?_
      refine vl_q (q_move rfl) (dk rfl) ?_
      refine vl_q (q_assign rfl) (dk rfl) ?_
      refine vl_nil ?_
      refine hK9 _ ?_
      refine vc_ret ?_
      refine ret_g [] rfl (.cons (res_tmp rfl) .nil) (by rw [due_at hil hb h16]; rfl) rfl (nodupB_ok rfl) trivial trivial ⟨⟨_, rfl, NR.clo _ _ _ _⟩, trivial⟩ (Nat.le_of_ble_eq_true rfl)
    · have h16 := of_decide_eq_false h16
      refine vl_nil ?_
      refine hK8 _ ?_
      refine vc_cond_false rfl ?_
      refine vc_skip ?_
      refine hK6 _ ?_
      refine vc_region ?_
      refine vl_q (q_add rfl rfl (IntWalk.i64_in _ (by omega))) (dk rfl) ?_
      refine vl_q (q_move rfl) (dk rfl) ?_
      refine vl_nil ?_
      refine ⟨_, _, ?_, ⟨i + 1, ⟨by omega, fun j hj h => by by_cases e : j = i; (subst e; omega); exact hb j hj (by omega)⟩, rfl, rfl⟩, (Weak.cut _ _ _ (Nat.le_of_ble_eq_true rfl) ⟨⟨rfl, rfl⟩, ⟨rfl, rfl⟩, ⟨rfl, rfl⟩, ⟨rfl, rfl⟩, trivial⟩ ⟨⟨Nat.le_of_ble_eq_true rfl, rfl, belN_clo _ _ _⟩, trivial⟩ rfl)⟩
      omega
  · replace h9 := lss_nof h9
    refine vl_nil ?_
    refine hK4 _ ?_
    refine vc_seq fun K10 hK10 => ?_
    refine vc_cond_false rfl ?_
    refine vc_exit ?_
    refine hK2 _ ?_
    refine vc_seq fun K11 hK11 => ?_
    refine vc_region ?_
    refine vl_q (q_assign rfl) (dk rfl) ?_
    refine vl_nil ?_
    refine hK11 _ ?_
    refine vc_ret ?_
    refine ret_g [] rfl (.cons (res_tmp rfl) .nil) (by rw [due_none (fun j hj => hb j hj (by omega))]; rfl) rfl (nodupB_ok rfl) trivial trivial ⟨⟨_, rfl, NR.clo _ _ _ _⟩, trivial⟩ (Nat.le_of_ble_eq_true rfl)
end Go.Vm.S
namespace Go.Vm.S
open Go Go.Vm
set_option maxRecDepth 100000
set_option linter.unusedVariables false
set_option maxHeartbeats 4000000
theorem at43 : FnAt Pg 43 Go.Proofs.Try.f43 := ⟨by kernel_rfl, rfl, by decide⟩
theorem c_DeleteFunc (l : List Held) (now : Int) (hlim : l.length ≤ 4194304) :
    Ctr Pg ty 43 [.one (.hdr 0 0 l.length), .one (.fn 44 [(1, 0, 0)])] [⟨6, clo (l.map heldO)⟩, ⟨1, clo [[.val (.int .i64 now)]]⟩] (Gives (.v (.one (.hdr 0 0 (kept now l).length))) [] [⟨6, clo ((kept now l).map heldO)⟩, ⟨1, clo [[.val (.int .i64 now)]]⟩]) := by
  refine ctr at43 rfl (nsK_gives rfl trivial ⟨nsN_map heldO_noSh, nsN_clo (by simp [C.noSh_val]), trivial⟩) (Nat.le_of_ble_eq_true rfl) fun w0 S0 L0 Z => ?_
  refine vc_seq fun K1 hK1 => ?_
  refine vc_region ?_
  refine vl_q (q_assign rfl) (dk rfl) ?_
  refine vl_nil ?_
  refine hK1 _ ?_
  refine vc_seq fun K2 hK2 => ?_
  refine vc_fact (fun a w g => (good_lim_hdr (x := .tmp 0) rfl rfl g).2) fun hlen => ?_
  refine vc_region ?_
  refine vl_q (q_move rfl) (dk rfl) ?_
  refine vl_q (q_move rfl) (dk rfl) ?_
  refine vl_callG [1] (vv (.int .i64 (dueV now l))) (c_IndexFunc l now) rfl rfl ⟨XOk.snapH rfl (by decide) (by simp) (map_wid heldO_len) (heldsO_shr l), XOk.fn (by decide) rfl (by decide), trivial⟩ ⟨⟨_, rfl, NR.clo _ _ _ _⟩, trivial⟩ rfl (by decide) trivial ⟨fix_clo _ _, trivial⟩ rfl (dk rfl) ?_
  refine vl_q (q_assign rfl) (dk rfl) ?_
  refine vl_nil ?_
  refine hK2 _ ?_
  refine vc_seq fun K3 hK3 => ?_
  refine vc_seq fun K4 hK4 => ?_
  refine vc_region ?_
  refine vl_q (q_move rfl) (dk rfl) ?_
  refine vl_two (x := fun b => vv (.bool b)) _ (q_cmp rfl rfl rfl rfl) (dk rfl) (fun h12 => ?_) (fun h12 => ?_)
  · replace h12 := eql_of h12
    obtain ⟨_, hk⟩ : dueV now l = -1 ∧ kept now l = l := by
      rcases due_cases now l with h | ⟨_, h, _⟩
      · exact h
      · omega
    refine vl_nil ?_
    refine hK4 _ ?_
    refine vc_cond_true rfl ?_
    refine vc_seq fun K5 hK5 => ?_
    refine vc_region ?_
    refine vl_q (q_move rfl) (dk rfl) ?_
    refine vl_q (q_assign rfl) (dk rfl) ?_
    refine vl_nil ?_
    refine hK5 _ ?_
    refine vc_ret ?_
    refine ret_g [] rfl (.cons (res_tmp rfl) .nil) (by rw [hk]; rfl) rfl (nodupB_ok rfl) trivial trivial ⟨⟨⟨6, clo ((kept now l).map heldO)⟩, some_node (by rw [hk]), NR.clo _ _ _ _⟩, ⟨_, rfl, NR.clo _ _ _ _⟩, trivial⟩ (Nat.le_of_ble_eq_true rfl)
  · replace h12 := eql_nof h12
    obtain ⟨hd, hv, ht, hk⟩ : ∃ (h : dueIdx now l < l.length), dueV now l = dueIdx now l ∧ l[dueIdx now l].til ≤ now ∧ kept now (l.take (dueIdx now l)) = l.take (dueIdx now l) := by
      rcases due_cases now l with ⟨h, _⟩ | h
      · omega
      · exact h
    have hks := kept_start hd ht hk
    refine vl_nil ?_
    refine hK4 _ ?_
    refine vc_cond_false rfl ?_
    refine vc_skip ?_
    refine hK3 _ ?_
    refine vc_seq fun K6 hK6 => ?_
    refine vc_seq fun K7 hK7 => ?_
    refine vc_region ?_
    refine vl_q (q_move rfl) (dk rfl) ?_
    refine vl_q (q_add rfl rfl (IntWalk.i64_in _ (by omega))) (dk rfl) ?_
    refine vl_q (q_assign rfl) (dk rfl) ?_
    refine vl_nil ?_
    refine hK7 _ ?_
    refine vc_block ?_
    have hrow : (clo (l.map heldO))[dueIdx now l]? = some ((heldO l[dueIdx now l]).map X.c) := by simp [clo, hd]
    have hdc : dueIdx now l < (clo (l.map heldO)).length := by simp [clo]; exact hd
    refine vc_weak (Weak.open1 (nm := 0) (i := dueIdx now l) (j := 3) rfl hrow rfl) ?_
    simp only [List.set_set, List.length_map, Int.toNat_natCast, Nat.add_zero]
    refine vc_weak (Weak.open1 (nm := 0) (i := dueIdx now l) (j := 4) rfl (set_get hdc) rfl) ?_
    simp only [List.set_set, List.length_map, Int.toNat_natCast, Nat.add_zero]
    refine vc_weak (Weak.junk (m := 0) (i := dueIdx now l) rfl (set_get hdc) rfl (set_wid (clo_wid (map_wid heldO_len)) rfl)) ?_
    refine vc_weak (Weak.node (m := 0) (nd' := ⟨6, clo (djR now l (dueIdx now l + 1))⟩) rfl (congrArg (Vm.Node.mk 6) ((List.set_set _).trans (djR_start hd ht hk)))) ?_
    refine vc_loop (fun mz st => ∃ j : Nat, (j ≤ l.length ∧ (kept now (l.take j)).length < j) ∧ mz = l.length - j ∧ st = mkSt [(0, .v (.one (.hdr 0 0 l.length))), (1, .v (.one (.fn 44 [(1, 0, 0)]))), (5, .v (iv (kept now (l.take j)).length)), (6, .v (iv j))] [(0, ⟨6, clo (djR now l j)⟩), (1, ⟨1, clo [[.val (.int .i64 now)]]⟩)] 16) ⟨_, _, ⟨dueIdx now l + 1, ⟨by omega, by omega⟩, rfl, rfl⟩, (Weak.cut _ _ _ (Nat.le_of_ble_eq_true rfl) ⟨⟨rfl, rfl⟩, ⟨rfl, rfl⟩, ⟨iv_eq (by omega), rfl⟩, ⟨iv_eq (by omega), rfl⟩, trivial⟩ ⟨⟨Nat.le_of_ble_eq_true rfl, rfl, belN_clo _ _ _⟩, ⟨Nat.le_of_ble_eq_true rfl, rfl, belN_clo _ _ _⟩, trivial⟩ rfl)⟩ (fun mz st hI => ?_)
    obtain ⟨j, ⟨hj, hkj⟩, hmz, rfl⟩ := hI
    refine vc_seq fun K8 hK8 => ?_
    refine vc_seq fun K9 hK9 => ?_
    refine vc_region ?_
    refine vl_q (q_move rfl) (dk rfl) ?_
    refine vl_q (q_move rfl) (dk rfl) ?_
    refine vl_q (q_len_hdr rfl rfl rfl) (dk rfl) ?_
    refine vl_two (x := fun b => vv (.bool b)) _ (q_cmp rfl rfl rfl rfl) (dk rfl) (fun h19 => ?_) (fun h19 => ?_)
    · replace h19 := lss_of h19
      refine vl_nil ?_
      refine hK9 _ ?_
      refine vc_cond_true rfl ?_
      refine vc_skip ?_
      refine hK8 _ ?_
      refine vc_seq fun K10 hK10 => ?_
      refine vc_block ?_
      refine vc_seq fun K11 hK11 => ?_
      have hjl : j < l.length := by omega
      have hjc : j < (clo (djR now l j)).length := by rw [clo_len, djR_len now hj]; exact hjl
      have hkc : ∀ R, (kept now (l.take j)).length < ((clo (djR now l j)).set j R).length := fun R => by rw [List.length_set]; omega
      have hwid := clo_wid (djR_wid now l j)
      refine vc_region ?_
      refine vl_q (q_move rfl) (dk rfl) ?_
      refine vl_q (q_move rfl) (dk rfl) ?_
      refine vl_q (q_indexAddr rfl rfl rfl rfl rfl rfl rfl (by omega) (by omega)) (dk rfl) ?_
      refine vl_open (nm := 0) (i := j) (j := 3) rfl rfl rfl (djR_at now hjl) rfl rfl ?_
      simp only [List.set_set, List.length_map, Int.toNat_natCast, Nat.add_zero]
      refine vl_open (nm := 0) (i := j) (j := 4) rfl rfl rfl (set_get hjc) rfl rfl ?_
      simp only [List.set_set, List.length_map, Int.toNat_natCast, Nat.add_zero]
      refine vl_load rfl rfl rfl (set_get hjc) rfl rfl rfl (by decide) (dk rfl) ?_
      refine vl_alloc rfl (dk rfl) ?_
      refine vl_store rfl rfl rfl rfl rfl rfl (Nat.le_of_ble_eq_true rfl) trivial ?_
      refine vl_nil ?_
      refine hK11 _ ?_
      refine vc_seq fun K12 hK12 => ?_
      refine vc_region ?_
      refine vl_q (q_move rfl) (dk rfl) ?_
      refine vl_load rfl rfl rfl rfl rfl rfl rfl (by decide) (dk rfl) ?_
      refine vl_callG [1] (vv (.bool (decide (l[j].til ≤ now)))) (c_impl_TidyShelf_1 l[j].til now) rfl rfl ⟨VOk.agg ⟨XOk.any' _, XOk.any' _, XOk.any' _, XOk.any' _, XOk.any' _, XOk.val _, trivial⟩, XOk.ptr rfl (by decide) _ _, trivial⟩ ⟨⟨_, rfl, NR.clo _ _ _ _⟩, trivial⟩ rfl (by decide) trivial ⟨fix_clo _ _, trivial⟩ rfl (dk rfl) ?_
      refine vl_bool 28 rfl (fun h28 => ?_) (fun h28 => ?_)
      · have h28 := of_decide_eq_true h28
        have hks := congrArg List.length (kept_succ_f hjl h28)
        refine vl_q (q_not rfl) (dk rfl) ?_
        refine vl_nil ?_
        refine hK12 _ ?_
        refine vc_cond_false rfl ?_
        refine vc_skip ?_
        refine hK10 _ ?_
        refine vc_weak (Weak.junk (m := 0) (i := j) rfl (set_get hjc) rfl (set_wid hwid rfl)) ?_
        refine vc_weak (Weak.node (m := 0) (nd' := ⟨6, clo (djR now l (j + 1))⟩) rfl (congrArg (Vm.Node.mk 6) ((List.set_set _).trans (djR_drop hjl h28)))) ?_
        refine vc_region ?_
        refine vl_q (q_move rfl) (dk rfl) ?_
        refine vl_q (q_add rfl rfl (IntWalk.i64_in _ (by omega))) (dk rfl) ?_
        refine vl_q (q_assign rfl) (dk rfl) ?_
        refine vl_nil ?_
        refine ⟨_, _, ?_, ⟨j + 1, ⟨by omega, by omega⟩, rfl, rfl⟩, (Weak.cut _ _ _ (Nat.le_of_ble_eq_true rfl) ⟨⟨rfl, rfl⟩, ⟨rfl, rfl⟩, ⟨iv_eq (by omega), rfl⟩, ⟨rfl, rfl⟩, trivial⟩ ⟨⟨Nat.le_of_ble_eq_true rfl, rfl, belN_clo _ _ _⟩, ⟨Nat.le_of_ble_eq_true rfl, rfl, belN_clo _ _ _⟩, trivial⟩ rfl)⟩
        omega
      · have h28 : now < l[j].til := by have := of_decide_eq_false h28; omega
        have hks := congrArg List.length (kept_succ_t hjl h28)
        simp only [List.length_append, List.length_cons, List.length_nil] at hks
        refine vl_q (q_not rfl) (dk rfl) ?_
        refine vl_nil ?_
        refine hK12 _ ?_
        refine vc_cond_true rfl ?_
        refine vc_seq fun K13 hK13 => ?_
        refine vc_region ?_
        refine vl_q (q_move rfl) (dk rfl) ?_
        refine vl_q (q_move rfl) (dk rfl) ?_
        refine vl_load rfl rfl rfl rfl rfl rfl rfl (by decide) (dk rfl) ?_
        refine vl_q (q_indexAddr rfl rfl rfl rfl rfl rfl rfl (by omega) (by omega)) (dk rfl) ?_
        refine vl_store rfl rfl rfl rfl ((List.getElem?_set_ne (Nat.ne_of_gt hkj)).trans (djR_gap hkj)) rfl (Nat.le_of_ble_eq_true rfl) trivial ?_
        refine vl_nil ?_
        refine hK13 _ ?_
        refine vc_region ?_
        refine vl_q (q_move rfl) (dk rfl) ?_
        refine vl_q (q_add rfl rfl (IntWalk.i64_in _ (by omega))) (dk rfl) ?_
        refine vl_q (q_assign rfl) (dk rfl) ?_
        refine vl_nil ?_
        refine hK10 _ ?_
        simp only [List.set_set, List.length_map, Int.toNat_natCast, Nat.add_zero]
        refine vc_weak (Weak.close1 (nm := 0) (i := (kept now (l.take j)).length) (j := 3) (m := 16) (es := l[j].parts.map strC) rfl (set_get (hkc _)) rfl rfl (by simp) (by decide)) ?_
        simp only [List.set_set, List.length_map, Int.toNat_natCast, Nat.add_zero]
        refine vc_weak (Weak.close1 (nm := 0) (i := (kept now (l.take j)).length) (j := 4) (m := 17) (es := l[j].hav.map boolC) rfl (set_get (hkc _)) rfl rfl (by simp) (by decide)) ?_
        simp only [List.set_set, List.length_map, Int.toNat_natCast, Nat.add_zero]
        refine vc_weak (Weak.junk (m := 0) (i := j) rfl (set_get2 hjc (Nat.ne_of_lt hkj)) rfl (set_wid (set_wid hwid rfl) rfl)) ?_
        refine vc_weak (Weak.node (m := 0) (nd' := ⟨6, clo (djR now l (j + 1))⟩) rfl (congrArg (Vm.Node.mk 6) ((set_swap (Nat.ne_of_lt hkj)).trans (djR_keep hjl h28 hkj)))) ?_
        refine vc_region ?_
        refine vl_q (q_move rfl) (dk rfl) ?_
        refine vl_q (q_add rfl rfl (IntWalk.i64_in _ (by omega))) (dk rfl) ?_
        refine vl_q (q_assign rfl) (dk rfl) ?_
        refine vl_nil ?_
        refine ⟨_, _, ?_, ⟨j + 1, ⟨by omega, by omega⟩, rfl, rfl⟩, (Weak.cut _ _ _ (Nat.le_of_ble_eq_true rfl) ⟨⟨rfl, rfl⟩, ⟨rfl, rfl⟩, ⟨iv_eq (by omega), rfl⟩, ⟨rfl, rfl⟩, trivial⟩ ⟨⟨Nat.le_of_ble_eq_true rfl, rfl, belN_clo _ _ _⟩, ⟨Nat.le_of_ble_eq_true rfl, rfl, belN_clo _ _ _⟩, trivial⟩ rfl)⟩
        omega
    · replace h19 := lss_nof h19
      refine vl_nil ?_
      refine hK9 _ ?_
      refine vc_cond_false rfl ?_
      refine vc_exit ?_
      refine hK6 _ ?_
      refine vc_seq fun K14 hK14 => ?_
      obtain rfl : j = l.length := by omega
      refine vc_weak (Weak.trunc (m := 0) (n := (kept now l).length) rfl) ?_
      refine vc_weak (Weak.node (m := 0) (nd' := ⟨6, clo ((kept now l).map heldO)⟩) rfl (congrArg (Vm.Node.mk 6) (djR_end now l))) ?_
      have hkl := kept_len now l l.length
      rw [List.take_length] at hkl
      refine vc_region ?_
      refine vl_q (q_move rfl) (dk rfl) ?_
      refine vl_q (q_move rfl) (dk rfl) ?_
      refine vl_q (q_slice_hdr rfl rfl rfl rfl rfl rfl rfl rfl (by omega) (by omega) (.inl (by omega))) (dk rfl) ?_
      refine vl_clear rfl rfl rfl rfl rfl rfl (by simp [clo_len]) ?_
      refine vl_nil ?_
      refine hK14 _ ?_
      refine vc_seq fun K15 hK15 => ?_
      refine vc_region ?_
      refine vl_q (q_move rfl) (dk rfl) ?_
      refine vl_q (q_move rfl) (dk rfl) ?_
      refine vl_q (q_slice_hdr rfl rfl rfl rfl rfl rfl rfl rfl (by omega) (by omega) (.inl (by omega))) (dk rfl) ?_
      refine vl_q (q_assign rfl) (dk rfl) ?_
      refine vl_nil ?_
      refine hK15 _ ?_
      refine vc_ret ?_
      refine ret_g [] rfl (.cons (res_tmp rfl) .nil) (by rw [List.take_length]; rfl) rfl (nodupB_ok rfl) trivial trivial ⟨⟨_, rfl, NR.clo _ _ _ _⟩, ⟨_, rfl, NR.clo _ _ _ _⟩, trivial⟩ (Nat.le_of_ble_eq_true rfl)
end Go.Vm.S
namespace Go.Vm.S
open Go Go.Vm
set_option maxRecDepth 100000
set_option linter.unusedVariables false
set_option maxHeartbeats 4000000
theorem at19 : FnAt Pg 19 Go.Proofs.Try.f19 := ⟨by kernel_rfl, rfl, by decide⟩
theorem c_impl_TidyShelf (l : List Held) (now : Int) (hb : szHelds l ≤ 4194304) :
    Ctr Pg ty 19 [.agg ((shelfC l).map X.c), iv now] [] (Gives (.v (.agg [.hdr 16 0 (kept now l).length])) [⟨6, clo ((kept now l).map heldO)⟩] []) := by
  have hl : l.length ≤ 4194304 := by unfold szHelds at hb; omega
  refine ctr at19 rfl (nsK_gives rfl ⟨nsN_map heldO_noSh, trivial⟩ trivial) (Nat.le_of_ble_eq_true rfl) fun w0 S0 L0 Z => ?_
  refine vc_seq fun K1 hK1 => ?_
  refine vc_region ?_
  refine vl_box rfl (dk rfl) ?_
  refine vl_box rfl (dk rfl) ?_
  refine vl_alloc rfl (dk rfl) ?_
  refine vl_nil ?_
  refine hK1 _ ?_
  refine vc_seq fun K2 hK2 => ?_
  refine vc_region ?_
  refine vl_load rfl rfl rfl rfl rfl rfl rfl (by decide) (dk rfl) ?_
  refine vl_callG [] (.v (.agg [.hdr 19 0 _])) (c_impl_copyShelf l hb) rfl rfl ⟨VOk.agg ⟨XOk.shc _ _, trivial⟩, trivial⟩ trivial rfl (by decide) ⟨fix_clo _ _, trivial⟩ trivial rfl (dk rfl) ?_
  refine vl_alloc rfl (dk rfl) ?_
  refine vl_store rfl rfl rfl rfl rfl rfl (Nat.le_of_ble_eq_true rfl) trivial ?_
  refine vl_nil ?_
  refine hK2 _ ?_
  refine vc_seq fun K3 hK3 => ?_
  refine vc_region ?_
  refine vl_q (q_fieldAddr 0 rfl rfl rfl rfl (by decide) rfl rfl) (dk rfl) ?_
  refine vl_load rfl rfl rfl rfl rfl rfl rfl (by decide) (dk rfl) ?_
  refine vl_q (q_makeFunc rfl) (dk rfl) ?_
  refine vl_callG [19, 17] (.v (.one (.hdr 19 0 (kept now l).length))) (c_DeleteFunc l now hl) rfl rfl ⟨XOk.hdr rfl (by decide) _ _, XOk.fn (by decide) rfl (by decide), trivial⟩ ⟨⟨_, rfl, NR.clo _ _ _ _⟩, ⟨_, rfl, NR.clo _ _ _ _⟩, trivial⟩ rfl (by decide) trivial ⟨fix_clo _ _, fix_clo _ _, trivial⟩ rfl (dk rfl) ?_
  refine vl_q (q_fieldAddr 0 rfl rfl rfl rfl (by decide) rfl rfl) (dk rfl) ?_
  refine vl_store rfl rfl rfl rfl rfl rfl (Nat.le_of_ble_eq_true rfl) trivial ?_
  refine vl_nil ?_
  refine hK3 _ ?_
  refine vc_seq fun K4 hK4 => ?_
  refine vc_region ?_
  refine vl_load rfl rfl rfl rfl rfl rfl rfl (by decide) (dk rfl) ?_
  refine vl_store rfl rfl rfl rfl rfl rfl (Nat.le_of_ble_eq_true rfl) trivial ?_
  refine vl_nil ?_
  refine hK4 _ ?_
  refine vc_ret ?_
  refine ret_g [19] rfl (.cons (res_cell rfl rfl rfl rfl rfl rfl rfl (by decide)) .nil) rfl rfl (nodupB_ok rfl) ⟨by decide, trivial⟩ ⟨⟨_, rfl, NR.clo _ _ _ _⟩, trivial⟩ trivial (Nat.zero_le _)
end Go.Vm.S
namespace Go.Vm.S
open Go Go.Vm
theorem c_eqShelf_self (l : List Held) : Ctr Pg ty 20 [.agg ((shelfC l).map X.c), .agg ((shelfC l).map X.c)] [] (Gives (vv (.bool true)) [] []) := by
  have h := c_laws_eqShelf l l
  rwa [decide_eq_true rfl] at h
theorem c_heldShelf_marked (l : List Held) (k : Int) (hk : 0 ≤ k ∧ k + (sumOf wH l : Nat) ≤ 1152921504606846976) :
    Ctr Pg ty 22 [.agg ((shelfC (markHs k l)).map X.c), iv k] [] (Gives (vv (.int .i64 (k + (sumOf wH l : Nat)))) [] []) := by
  have h := c_laws_heldShelf (markHs k l) k (by rw [markHs_w]; exact hk)
  rwa [markHs_idem, heldv_t (decide_eq_true rfl), markHs_w] at h
end Go.Vm.S
namespace Go.Vm.S
open Go Go.Vm
set_option maxRecDepth 100000
set_option linter.unusedVariables false
set_option maxHeartbeats 4000000
theorem at4 : FnAt Pg 4 Go.Proofs.Try.f4 := ⟨by kernel_rfl, rfl, by decide⟩
theorem c_laws_FnExactTidyShelf (l : List Held) (now : Int) (hok : heldsOk l) :
    Ctr Pg ty 4 [.agg ((shelfC l).map X.c), iv now] [] (Gives (vv (.bool true)) [] []) := by
  refine ctr at4 rfl (nsK_gives rfl trivial trivial) (Nat.le_of_ble_eq_true rfl) fun w0 S0 L0 Z => ?_
  refine vc_seq fun K1 hK1 => ?_
  refine vc_region ?_
  refine vl_box rfl (dk rfl) ?_
  refine vl_q (q_assign rfl) (dk rfl) ?_
  refine vl_nil ?_
  refine hK1 _ ?_
  refine vc_seq fun K2 hK2 => ?_
  refine vc_region ?_
  refine vl_q (q_assign rfl) (dk rfl) ?_
  refine vl_nil ?_
  refine hK2 _ ?_
  refine vc_seq fun K3 hK3 => ?_
  refine vc_region ?_
  refine vl_load rfl rfl rfl rfl rfl rfl rfl (by decide) (dk rfl) ?_
  refine vl_q (q_move rfl) (dk rfl) ?_
  refine vl_callP (c_laws_szShelf l 1048576 (by omega) hok) rfl rfl ⟨VOk.agg ⟨XOk.shc _ _, trivial⟩, XOk.val _, trivial⟩ rfl (dk rfl) ?_
  refine vl_q (q_assign rfl) (dk rfl) ?_
  refine vl_nil ?_
  refine hK3 _ ?_
  refine vc_seq fun K4 hK4 => ?_
  refine vc_seq fun K5 hK5 => ?_
  refine vc_region ?_
  refine vl_q (q_move rfl) (dk rfl) ?_
  refine vl_two (x := fun b => vv (.bool b)) _ (q_cmp rfl rfl rfl rfl) (dk rfl) (fun h17 => ?_) (fun h17 => ?_)
  · replace h17 := lss_of h17
    have h17 := szv_neg h17 (by omega)
    refine vl_nil ?_
    refine hK5 _ ?_
    refine vc_cond_true rfl ?_
    refine vc_seq fun K6 hK6 => ?_
    refine vc_region ?_
    refine vl_q (q_assign rfl) (dk rfl) ?_
    refine vl_nil ?_
    refine hK6 _ ?_
    refine vc_ret ?_
    refine ret_p rfl (.cons (res_tmp rfl) .nil) rfl ?_
    rfl
  · replace h17 := lss_nof h17
    have h17 := szv_nneg h17
    have hb : szHelds l ≤ 1048576 := by omega
    have hk1 := kept_sz now l
    have hk2 := wH_sum_le l
    have hk3 := wH_sum_le (kept now l)
    refine vl_nil ?_
    refine hK5 _ ?_
    refine vc_cond_false rfl ?_
    refine vc_skip ?_
    refine hK4 _ ?_
    refine vc_seq fun K7 hK7 => ?_
    refine vc_region ?_
    refine vl_load rfl rfl rfl rfl rfl rfl rfl (by decide) (dk rfl) ?_
    refine vl_callG [] (.v (.agg [.hdr 17 0 _])) (c_laws_toShelf _ (by omega)) rfl rfl ⟨VOk.agg ⟨XOk.shc _ _, trivial⟩, trivial⟩ trivial rfl (by decide) ⟨fix_clo _ _, trivial⟩ trivial rfl (dk rfl) ?_
    refine vl_q (q_move rfl) (dk rfl) ?_
    refine vl_callG [] (.v (.agg [.hdr 18 0 _])) (c_spec_TidyShelf _ _ (by omega) (by omega)) rfl rfl ⟨VOk.agg ⟨XOk.snapH rfl (by decide) (by simp [markHs_len]) (map_wid heldO_len) (heldsO_shr _), trivial⟩, XOk.val _, trivial⟩ trivial rfl (by decide) ⟨fix_clo _ _, trivial⟩ trivial rfl (dk rfl) ?_
    refine vl_alloc rfl (dk rfl) ?_
    refine vl_store rfl rfl rfl rfl rfl rfl (Nat.le_of_ble_eq_true rfl) trivial ?_
    refine vl_nil ?_
    refine hK7 _ ?_
    refine vc_seq fun K8 hK8 => ?_
    refine vc_region ?_
    refine vl_load rfl rfl rfl rfl rfl rfl rfl (by decide) (dk rfl) ?_
    refine vl_callG [] (.v (.agg [.hdr 20 0 _])) (c_laws_toShelf _ (by omega)) rfl rfl ⟨VOk.agg ⟨XOk.shc _ _, trivial⟩, trivial⟩ trivial rfl (by decide) ⟨fix_clo _ _, trivial⟩ trivial rfl (dk rfl) ?_
    refine vl_alloc rfl (dk rfl) ?_
    refine vl_store rfl rfl rfl rfl rfl rfl (Nat.le_of_ble_eq_true rfl) trivial ?_
    refine vl_nil ?_
    refine hK8 _ ?_
    refine vc_seq fun K9 hK9 => ?_
    refine vc_region ?_
    refine vl_load rfl rfl rfl rfl rfl rfl rfl (by decide) (dk rfl) ?_
    refine vl_q (q_move rfl) (dk rfl) ?_
    refine vl_callG [] (.v (.agg [.hdr 22 0 _])) (c_impl_TidyShelf _ _ (by omega)) rfl rfl ⟨VOk.agg ⟨XOk.snapH rfl (by decide) (by simp [markHs_len]) (map_wid heldO_len) (heldsO_shr _), trivial⟩, XOk.val _, trivial⟩ trivial rfl (by decide) ⟨fix_clo _ _, trivial⟩ trivial rfl (dk rfl) ?_
    refine vl_alloc rfl (dk rfl) ?_
    refine vl_store rfl rfl rfl rfl rfl rfl (Nat.le_of_ble_eq_true rfl) trivial ?_
    refine vl_nil ?_
    refine hK9 _ ?_
    refine vc_seq fun K10 hK10 => ?_
    refine vc_seq fun K11 hK11 => ?_
    refine vc_region ?_
    refine vl_load rfl rfl rfl rfl rfl rfl rfl (by decide) (dk rfl) ?_
    refine vl_load rfl rfl rfl rfl rfl rfl rfl (by decide) (dk rfl) ?_
    refine vl_callP (c_eqShelf_self (kept now l)) rfl rfl ⟨VOk.agg ⟨XOk.snapH rfl (by decide) (by simp [markHs_len]) (map_wid heldO_len) (heldsO_shr _), trivial⟩, VOk.agg ⟨XOk.snapH rfl (by decide) (by simp [markHs_len]) (map_wid heldO_len) (heldsO_shr _), trivial⟩, trivial⟩ rfl (dk rfl) ?_
    refine vl_q (q_not rfl) (dk rfl) ?_
    refine vl_nil ?_
    refine hK11 _ ?_
    refine vc_cond_false rfl ?_
    refine vc_skip ?_
    refine hK10 _ ?_
    refine vc_seq fun K12 hK12 => ?_
    refine vc_seq fun K13 hK13 => ?_
    refine vc_region_any mixed (fun n => Nat.beq n 18 || Nat.beq n 16) rfl (fun _ hU14 => hU14) fun w1 S1 L1 H1 => ?_
    refine va_q 1 rfl (by kernel_rfl) (by kernel_rfl) (by kernel_rfl) (q_load rfl rfl rfl rfl rfl rfl rfl (by decide)) (dk rfl) ?_
    refine va_all [0, 2] (by kernel_rfl) (by simp) ⟨⟨_, rfl, ?_⟩, ⟨_, rfl, ?_⟩, trivial⟩
    · refine vl_load rfl rfl rfl rfl rfl rfl rfl (by decide) (dk rfl) ?_
      refine vl_nil ?_
      refine va_all [2] (by kernel_rfl) (by simp) ⟨⟨_, rfl, ?_⟩, trivial⟩
      refine vl_callG [] (.v (.agg [.hdr 24 0 _])) (c_laws_toShelf _ (by omega)) rfl rfl ⟨VOk.agg ⟨XOk.shc _ _, trivial⟩, trivial⟩ trivial rfl (by decide) ⟨fix_clo _ _, trivial⟩ trivial rfl (dk rfl) ?_
      refine vl_nil ?_
      refine va_all [3] (by kernel_rfl) (by simp) ⟨⟨_, rfl, ?_⟩, trivial⟩
      refine vl_callP (c_eqShelf_self l) rfl rfl ⟨VOk.agg ⟨XOk.snapH rfl (by decide) (by simp [markHs_len]) (map_wid heldO_len) (heldsO_shr _), trivial⟩, VOk.agg ⟨XOk.snapH rfl (by decide) (by simp [markHs_len]) (map_wid heldO_len) (heldsO_shr _), trivial⟩, trivial⟩ rfl (dk rfl) ?_
      refine vl_nil ?_
      refine va_q 4 rfl (by kernel_rfl) (by kernel_rfl) (by kernel_rfl) (q_not rfl) (dk rfl) ?_
      refine va_done (by kernel_rfl) ?_
      refine hK13 _ ?_
      refine vc_cond_false rfl ?_
      refine vc_skip ?_
      refine hK12 _ ?_
      refine vc_seq fun K15 hK15 => ?_
      refine vc_region ?_
      refine vl_q (q_assign rfl) (dk rfl) ?_
      refine vl_nil ?_
      refine hK15 _ ?_
      refine vc_seq fun K16 hK16 => ?_
      refine vc_region ?_
      refine vl_load rfl rfl rfl rfl rfl rfl rfl (by decide) (dk rfl) ?_
      refine vl_q (q_move rfl) (dk rfl) ?_
      refine vl_callG [20] (vv (.int .i64 _)) (c_laws_markShelf l 1 (by omega)) rfl rfl ⟨VOk.agg ⟨XOk.hdr rfl (by decide) _ _, trivial⟩, XOk.val _, trivial⟩ ⟨⟨_, rfl, NR.clo _ _ _ _⟩, trivial⟩ rfl (by decide) trivial ⟨fix_clo _ _, trivial⟩ rfl (dk rfl) ?_
      refine vl_q (q_assign rfl) (dk rfl) ?_
      refine vl_nil ?_
      refine hK16 _ ?_
      refine vc_seq fun K17 hK17 => ?_
      refine vc_seq fun K18 hK18 => ?_
      refine vc_region ?_
      refine vl_q (q_move rfl) (dk rfl) ?_
      refine vl_two (x := fun b => vv (.bool b)) _ (q_cmp rfl rfl rfl rfl) (dk rfl) (fun h40 => ?_) (fun h40 => ?_)
      · replace h40 := lss_of h40
        omega
      · replace h40 := lss_nof h40
        refine vl_q (q_move rfl) (dk rfl) ?_
        refine vl_guard_on rfl rfl rfl ?_
        refine vl_load rfl rfl rfl rfl rfl rfl rfl (by decide) (dk rfl) ?_
        refine vl_guard_on rfl rfl rfl ?_
        refine vl_load rfl rfl rfl rfl rfl rfl rfl (by decide) (dk rfl) ?_
        refine vl_guard_on rfl rfl rfl ?_
        refine vl_callP (c_eqShelf_self (kept now l)) rfl rfl ⟨VOk.agg ⟨XOk.snapH rfl (by decide) (by simp [markHs_len]) (map_wid heldO_len) (heldsO_shr _), trivial⟩, VOk.agg ⟨XOk.snapH rfl (by decide) (by simp [markHs_len]) (map_wid heldO_len) (heldsO_shr _), trivial⟩, trivial⟩ rfl (dk rfl) ?_
        refine vl_guard_on rfl rfl rfl ?_
        refine vl_q (q_not rfl) (dk rfl) ?_
        refine vl_q (q_pick_false rfl rfl) (dk rfl) ?_
        refine vl_nil ?_
        refine hK18 _ ?_
        refine vc_cond_false rfl ?_
        refine vc_skip ?_
        refine hK17 _ ?_
        refine vc_seq fun K19 hK19 => ?_
        refine vc_region ?_
        refine vl_q (q_assign rfl) (dk rfl) ?_
        refine vl_nil ?_
        refine hK19 _ ?_
        refine vc_seq fun K20 hK20 => ?_
        refine vc_region ?_
        refine vl_load rfl rfl rfl rfl rfl rfl rfl (by decide) (dk rfl) ?_
        refine vl_q (q_move rfl) (dk rfl) ?_
        refine vl_callG [22] (vv (.int .i64 _)) (c_laws_markShelf (kept now l) 1 (by omega)) rfl rfl ⟨VOk.agg ⟨XOk.hdr rfl (by decide) _ _, trivial⟩, XOk.val _, trivial⟩ ⟨⟨_, rfl, NR.clo _ _ _ _⟩, trivial⟩ rfl (by decide) trivial ⟨fix_clo _ _, trivial⟩ rfl (dk rfl) ?_
        refine vl_q (q_assign rfl) (dk rfl) ?_
        refine vl_nil ?_
        refine hK20 _ ?_
        refine vc_seq fun K21 hK21 => ?_
        refine vc_region ?_
        refine vl_q (q_assign rfl) (dk rfl) ?_
        refine vl_nil ?_
        refine hK21 _ ?_
        refine vc_seq fun K22 hK22 => ?_
        refine vc_region ?_
        refine vl_load rfl rfl rfl rfl rfl rfl rfl (by decide) (dk rfl) ?_
        refine vl_q (q_move rfl) (dk rfl) ?_
        refine vl_callP (c_heldShelf_marked (kept now l) 1 (by omega)) rfl rfl ⟨VOk.agg ⟨XOk.snapH rfl (by decide) (by simp [markHs_len]) (map_wid heldO_len) (heldsO_shr _), trivial⟩, XOk.val _, trivial⟩ rfl (dk rfl) ?_
        refine vl_q (q_assign rfl) (dk rfl) ?_
        refine vl_nil ?_
        refine hK22 _ ?_
        refine vc_seq fun K23 hK23 => ?_
        refine vc_seq fun K24 hK24 => ?_
        refine vc_region ?_
        refine vl_q (q_move rfl) (dk rfl) ?_
        refine vl_two (x := fun b => vv (.bool b)) _ (q_cmp rfl rfl rfl rfl) (dk rfl) (fun h54 => ?_) (fun h54 => ?_)
        · replace h54 := lss_of h54
          omega
        · replace h54 := lss_nof h54
          refine vl_nil ?_
          refine hK24 _ ?_
          refine vc_cond_false rfl ?_
          refine vc_skip ?_
          refine hK23 _ ?_
          refine vc_seq fun K25 hK25 => ?_
          refine vc_seq fun K26 hK26 => ?_
          refine vc_region ?_
          refine vl_q (q_move rfl) (dk rfl) ?_
          refine vl_q (q_move rfl) (dk rfl) ?_
          refine vl_two (x := fun b => vv (.bool b)) _ (q_cmp rfl rfl rfl rfl) (dk rfl) (fun h57 => ?_) (fun h57 => ?_)
          · replace h57 := neq_of h57
            exact (h57 rfl).elim
          · replace h57 := neq_nof h57
            refine vl_nil ?_
            refine hK26 _ ?_
            refine vc_cond_false rfl ?_
            refine vc_skip ?_
            refine hK25 _ ?_
            refine vc_seq fun K27 hK27 => ?_
            refine vc_region ?_
            refine vl_load rfl rfl rfl rfl rfl rfl rfl (by decide) (dk rfl) ?_
            refine vl_callG [] (.v (.agg [.hdr 25 0 _])) (c_laws_toShelf _ (by omega)) rfl rfl ⟨VOk.agg ⟨XOk.shc _ _, trivial⟩, trivial⟩ trivial rfl (by decide) ⟨fix_clo _ _, trivial⟩ trivial rfl (dk rfl) ?_
            refine vl_q (q_move rfl) (dk rfl) ?_
            refine vl_callG [] (.v (.agg [.hdr 26 0 _])) (c_impl_TidyShelf _ _ (by omega)) rfl rfl ⟨VOk.agg ⟨XOk.snapH rfl (by decide) (by simp [markHs_len]) (map_wid heldO_len) (heldsO_shr _), trivial⟩, XOk.val _, trivial⟩ trivial rfl (by decide) ⟨fix_clo _ _, trivial⟩ trivial rfl (dk rfl) ?_
            refine vl_alloc rfl (dk rfl) ?_
            refine vl_store rfl rfl rfl rfl rfl rfl (Nat.le_of_ble_eq_true rfl) trivial ?_
            refine vl_nil ?_
            refine hK27 _ ?_
            refine vc_seq fun K28 hK28 => ?_
            refine vc_seq fun K29 hK29 => ?_
            refine vc_region ?_
            refine vl_load rfl rfl rfl rfl rfl rfl rfl (by decide) (dk rfl) ?_
            refine vl_load rfl rfl rfl rfl rfl rfl rfl (by decide) (dk rfl) ?_
            refine vl_callP (c_eqShelf_self (kept now l)) rfl rfl ⟨VOk.agg ⟨XOk.snapH rfl (by decide) (by simp [markHs_len]) (map_wid heldO_len) (heldsO_shr _), trivial⟩, VOk.agg ⟨XOk.snapH rfl (by decide) (by simp [markHs_len]) (map_wid heldO_len) (heldsO_shr _), trivial⟩, trivial⟩ rfl (dk rfl) ?_
            refine vl_q (q_not rfl) (dk rfl) ?_
            refine vl_nil ?_
            refine hK29 _ ?_
            refine vc_cond_false rfl ?_
            refine vc_skip ?_
            refine hK28 _ ?_
            refine vc_seq fun K30 hK30 => ?_
            refine vc_region ?_
            refine vl_q (q_assign rfl) (dk rfl) ?_
            refine vl_nil ?_
            refine hK30 _ ?_
            refine vc_seq fun K31 hK31 => ?_
            refine vc_region ?_
            refine vl_load rfl rfl rfl rfl rfl rfl rfl (by decide) (dk rfl) ?_
            refine vl_q (q_move rfl) (dk rfl) ?_
            refine vl_callP (c_heldShelf_marked (kept now l) 1 (by omega)) rfl rfl ⟨VOk.agg ⟨XOk.snapH rfl (by decide) (by simp [markHs_len]) (map_wid heldO_len) (heldsO_shr _), trivial⟩, XOk.val _, trivial⟩ rfl (dk rfl) ?_
            refine vl_q (q_assign rfl) (dk rfl) ?_
            refine vl_nil ?_
            refine hK31 _ ?_
            refine vc_seq fun K32 hK32 => ?_
            refine vc_seq fun K33 hK33 => ?_
            refine vc_region ?_
            refine vl_q (q_move rfl) (dk rfl) ?_
            refine vl_two (x := fun b => vv (.bool b)) _ (q_cmp rfl rfl rfl rfl) (dk rfl) (fun h70 => ?_) (fun h70 => ?_)
            · replace h70 := lss_of h70
              omega
            · replace h70 := lss_nof h70
              refine vl_nil ?_
              refine hK33 _ ?_
              refine vc_cond_false rfl ?_
              refine vc_skip ?_
              refine hK32 _ ?_
              refine vc_seq fun K34 hK34 => ?_
              refine vc_seq fun K35 hK35 => ?_
              refine vc_region ?_
              refine vl_q (q_move rfl) (dk rfl) ?_
              refine vl_q (q_move rfl) (dk rfl) ?_
              refine vl_two (x := fun b => vv (.bool b)) _ (q_cmp rfl rfl rfl rfl) (dk rfl) (fun h73 => ?_) (fun h73 => ?_)
              · replace h73 := neq_of h73
                exact (h73 rfl).elim
              · replace h73 := neq_nof h73
                refine vl_nil ?_
                refine hK35 _ ?_
                refine vc_cond_false rfl ?_
                refine vc_skip ?_
                refine hK34 _ ?_
                refine vc_seq fun K36 hK36 => ?_
                refine vc_region ?_
                refine vl_q (q_assign rfl) (dk rfl) ?_
                refine vl_nil ?_
                refine hK36 _ ?_
                refine vc_ret ?_
                refine ret_p rfl (.cons (res_tmp rfl) .nil) rfl ?_
                rfl
    · refine vl_callG [] (.v (.agg [.hdr 24 0 _])) (c_laws_toShelf _ (by omega)) rfl rfl ⟨VOk.agg ⟨XOk.shc _ _, trivial⟩, trivial⟩ trivial rfl (by decide) ⟨fix_clo _ _, trivial⟩ trivial rfl (dk rfl) ?_
      refine vl_nil ?_
      refine va_all [0] (by kernel_rfl) (by simp) ⟨⟨_, rfl, ?_⟩, trivial⟩
      refine vl_load rfl rfl rfl rfl rfl rfl rfl (by decide) (dk rfl) ?_
      refine vl_nil ?_
      refine va_all [3] (by kernel_rfl) (by simp) ⟨⟨_, rfl, ?_⟩, trivial⟩
      refine vl_callP (c_eqShelf_self l) rfl rfl ⟨VOk.agg ⟨XOk.snapH rfl (by decide) (by simp [markHs_len]) (map_wid heldO_len) (heldsO_shr _), trivial⟩, VOk.agg ⟨XOk.snapH rfl (by decide) (by simp [markHs_len]) (map_wid heldO_len) (heldsO_shr _), trivial⟩, trivial⟩ rfl (dk rfl) ?_
      refine vl_nil ?_
      refine va_q 4 rfl (by kernel_rfl) (by kernel_rfl) (by kernel_rfl) (q_not rfl) (dk rfl) ?_
      refine va_done (by kernel_rfl) ?_
      refine hK13 _ ?_
      refine vc_cond_false rfl ?_
      refine vc_skip ?_
      refine hK12 _ ?_
      refine vc_seq fun K37 hK37 => ?_
      refine vc_region ?_
      refine vl_q (q_assign rfl) (dk rfl) ?_
      refine vl_nil ?_
      refine hK37 _ ?_
      refine vc_seq fun K38 hK38 => ?_
      refine vc_region ?_
      refine vl_load rfl rfl rfl rfl rfl rfl rfl (by decide) (dk rfl) ?_
      refine vl_q (q_move rfl) (dk rfl) ?_
      refine vl_callG [20] (vv (.int .i64 _)) (c_laws_markShelf l 1 (by omega)) rfl rfl ⟨VOk.agg ⟨XOk.hdr rfl (by decide) _ _, trivial⟩, XOk.val _, trivial⟩ ⟨⟨_, rfl, NR.clo _ _ _ _⟩, trivial⟩ rfl (by decide) trivial ⟨fix_clo _ _, trivial⟩ rfl (dk rfl) ?_
      refine vl_q (q_assign rfl) (dk rfl) ?_
      refine vl_nil ?_
      refine hK38 _ ?_
      refine vc_seq fun K39 hK39 => ?_
      refine vc_seq fun K40 hK40 => ?_
      refine vc_region ?_
      refine vl_q (q_move rfl) (dk rfl) ?_
      refine vl_two (x := fun b => vv (.bool b)) _ (q_cmp rfl rfl rfl rfl) (dk rfl) (fun h40 => ?_) (fun h40 => ?_)
      · replace h40 := lss_of h40
        omega
      · replace h40 := lss_nof h40
        refine vl_q (q_move rfl) (dk rfl) ?_
        refine vl_guard_on rfl rfl rfl ?_
        refine vl_load rfl rfl rfl rfl rfl rfl rfl (by decide) (dk rfl) ?_
        refine vl_guard_on rfl rfl rfl ?_
        refine vl_load rfl rfl rfl rfl rfl rfl rfl (by decide) (dk rfl) ?_
        refine vl_guard_on rfl rfl rfl ?_
        refine vl_callP (c_eqShelf_self (kept now l)) rfl rfl ⟨VOk.agg ⟨XOk.snapH rfl (by decide) (by simp [markHs_len]) (map_wid heldO_len) (heldsO_shr _), trivial⟩, VOk.agg ⟨XOk.snapH rfl (by decide) (by simp [markHs_len]) (map_wid heldO_len) (heldsO_shr _), trivial⟩, trivial⟩ rfl (dk rfl) ?_
        refine vl_guard_on rfl rfl rfl ?_
        refine vl_q (q_not rfl) (dk rfl) ?_
        refine vl_q (q_pick_false rfl rfl) (dk rfl) ?_
        refine vl_nil ?_
        refine hK40 _ ?_
        refine vc_cond_false rfl ?_
        refine vc_skip ?_
        refine hK39 _ ?_
        refine vc_seq fun K41 hK41 => ?_
        refine vc_region ?_
        refine vl_q (q_assign rfl) (dk rfl) ?_
        refine vl_nil ?_
        refine hK41 _ ?_
        refine vc_seq fun K42 hK42 => ?_
        refine vc_region ?_
        refine vl_load rfl rfl rfl rfl rfl rfl rfl (by decide) (dk rfl) ?_
        refine vl_q (q_move rfl) (dk rfl) ?_
        refine vl_callG [22] (vv (.int .i64 _)) (c_laws_markShelf (kept now l) 1 (by omega)) rfl rfl ⟨VOk.agg ⟨XOk.hdr rfl (by decide) _ _, trivial⟩, XOk.val _, trivial⟩ ⟨⟨_, rfl, NR.clo _ _ _ _⟩, trivial⟩ rfl (by decide) trivial ⟨fix_clo _ _, trivial⟩ rfl (dk rfl) ?_
        refine vl_q (q_assign rfl) (dk rfl) ?_
        refine vl_nil ?_
        refine hK42 _ ?_
        refine vc_seq fun K43 hK43 => ?_
        refine vc_region ?_
        refine vl_q (q_assign rfl) (dk rfl) ?_
        refine vl_nil ?_
        refine hK43 _ ?_
        refine vc_seq fun K44 hK44 => ?_
        refine vc_region ?_
        refine vl_load rfl rfl rfl rfl rfl rfl rfl (by decide) (dk rfl) ?_
        refine vl_q (q_move rfl) (dk rfl) ?_
        refine vl_callP (c_heldShelf_marked (kept now l) 1 (by omega)) rfl rfl ⟨VOk.agg ⟨XOk.snapH rfl (by decide) (by simp [markHs_len]) (map_wid heldO_len) (heldsO_shr _), trivial⟩, XOk.val _, trivial⟩ rfl (dk rfl) ?_
        refine vl_q (q_assign rfl) (dk rfl) ?_
        refine vl_nil ?_
        refine hK44 _ ?_
        refine vc_seq fun K45 hK45 => ?_
        refine vc_seq fun K46 hK46 => ?_
        refine vc_region ?_
        refine vl_q (q_move rfl) (dk rfl) ?_
        refine vl_two (x := fun b => vv (.bool b)) _ (q_cmp rfl rfl rfl rfl) (dk rfl) (fun h54 => ?_) (fun h54 => ?_)
        · replace h54 := lss_of h54
          omega
        · replace h54 := lss_nof h54
          refine vl_nil ?_
          refine hK46 _ ?_
          refine vc_cond_false rfl ?_
          refine vc_skip ?_
          refine hK45 _ ?_
          refine vc_seq fun K47 hK47 => ?_
          refine vc_seq fun K48 hK48 => ?_
          refine vc_region ?_
          refine vl_q (q_move rfl) (dk rfl) ?_
          refine vl_q (q_move rfl) (dk rfl) ?_
          refine vl_two (x := fun b => vv (.bool b)) _ (q_cmp rfl rfl rfl rfl) (dk rfl) (fun h57 => ?_) (fun h57 => ?_)
          · replace h57 := neq_of h57
            exact (h57 rfl).elim
          · replace h57 := neq_nof h57
            refine vl_nil ?_
            refine hK48 _ ?_
            refine vc_cond_false rfl ?_
            refine vc_skip ?_
            refine hK47 _ ?_
            refine vc_seq fun K49 hK49 => ?_
            refine vc_region ?_
            refine vl_load rfl rfl rfl rfl rfl rfl rfl (by decide) (dk rfl) ?_
            refine vl_callG [] (.v (.agg [.hdr 25 0 _])) (c_laws_toShelf _ (by omega)) rfl rfl ⟨VOk.agg ⟨XOk.shc _ _, trivial⟩, trivial⟩ trivial rfl (by decide) ⟨fix_clo _ _, trivial⟩ trivial rfl (dk rfl) ?_
            refine vl_q (q_move rfl) (dk rfl) ?_
            refine vl_callG [] (.v (.agg [.hdr 26 0 _])) (c_impl_TidyShelf _ _ (by omega)) rfl rfl ⟨VOk.agg ⟨XOk.snapH rfl (by decide) (by simp [markHs_len]) (map_wid heldO_len) (heldsO_shr _), trivial⟩, XOk.val _, trivial⟩ trivial rfl (by decide) ⟨fix_clo _ _, trivial⟩ trivial rfl (dk rfl) ?_
            refine vl_alloc rfl (dk rfl) ?_
            refine vl_store rfl rfl rfl rfl rfl rfl (Nat.le_of_ble_eq_true rfl) trivial ?_
            refine vl_nil ?_
            refine hK49 _ ?_
            refine vc_seq fun K50 hK50 => ?_
            refine vc_seq fun K51 hK51 => ?_
            refine vc_region ?_
            refine vl_load rfl rfl rfl rfl rfl rfl rfl (by decide) (dk rfl) ?_
            refine vl_load rfl rfl rfl rfl rfl rfl rfl (by decide) (dk rfl) ?_
            refine vl_callP (c_eqShelf_self (kept now l)) rfl rfl ⟨VOk.agg ⟨XOk.snapH rfl (by decide) (by simp [markHs_len]) (map_wid heldO_len) (heldsO_shr _), trivial⟩, VOk.agg ⟨XOk.snapH rfl (by decide) (by simp [markHs_len]) (map_wid heldO_len) (heldsO_shr _), trivial⟩, trivial⟩ rfl (dk rfl) ?_
            refine vl_q (q_not rfl) (dk rfl) ?_
            refine vl_nil ?_
            refine hK51 _ ?_
            refine vc_cond_false rfl ?_
            refine vc_skip ?_
            refine hK50 _ ?_
            refine vc_seq fun K52 hK52 => ?_
            refine vc_region ?_
            refine vl_q (q_assign rfl) (dk rfl) ?_
            refine vl_nil ?_
            refine hK52 _ ?_
            refine vc_seq fun K53 hK53 => ?_
            refine vc_region ?_
            refine vl_load rfl rfl rfl rfl rfl rfl rfl (by decide) (dk rfl) ?_
            refine vl_q (q_move rfl) (dk rfl) ?_
            refine vl_callP (c_heldShelf_marked (kept now l) 1 (by omega)) rfl rfl ⟨VOk.agg ⟨XOk.snapH rfl (by decide) (by simp [markHs_len]) (map_wid heldO_len) (heldsO_shr _), trivial⟩, XOk.val _, trivial⟩ rfl (dk rfl) ?_
            refine vl_q (q_assign rfl) (dk rfl) ?_
            refine vl_nil ?_
            refine hK53 _ ?_
            refine vc_seq fun K54 hK54 => ?_
            refine vc_seq fun K55 hK55 => ?_
            refine vc_region ?_
            refine vl_q (q_move rfl) (dk rfl) ?_
            refine vl_two (x := fun b => vv (.bool b)) _ (q_cmp rfl rfl rfl rfl) (dk rfl) (fun h70 => ?_) (fun h70 => ?_)
            · replace h70 := lss_of h70
              omega
            · replace h70 := lss_nof h70
              refine vl_nil ?_
              refine hK55 _ ?_
              refine vc_cond_false rfl ?_
              refine vc_skip ?_
              refine hK54 _ ?_
              refine vc_seq fun K56 hK56 => ?_
              refine vc_seq fun K57 hK57 => ?_
              refine vc_region ?_
              refine vl_q (q_move rfl) (dk rfl) ?_
              refine vl_q (q_move rfl) (dk rfl) ?_
              refine vl_two (x := fun b => vv (.bool b)) _ (q_cmp rfl rfl rfl rfl) (dk rfl) (fun h73 => ?_) (fun h73 => ?_)
              · replace h73 := neq_of h73
                exact (h73 rfl).elim
              · replace h73 := neq_nof h73
                refine vl_nil ?_
                refine hK57 _ ?_
                refine vc_cond_false rfl ?_
                refine vc_skip ?_
                refine hK56 _ ?_
                refine vc_seq fun K58 hK58 => ?_
                refine vc_region ?_
                refine vl_q (q_assign rfl) (dk rfl) ?_
                refine vl_nil ?_
                refine hK58 _ ?_
                refine vc_ret ?_
                refine ret_p rfl (.cons (res_tmp rfl) .nil) rfl ?_
                rfl
end Go.Vm.S
namespace Go.Proofs.Ythjohfhnpeiheaa
open Go Go.Vm Go.Vm.S Go.ChangeShapes Go.WideShapes Go.ChangeAt Go.RowKit

theorem Try.own : ownKnob Try.prog.godebug = none := by kernel_rfl
theorem Try.laidOut : laidOutB Try.prog = true := by kernel_rfl
theorem func4 : Try.checked.prog.funcs[4]? = some Try.f4 := by kernel_rfl

set_option maxRecDepth 100000 in
theorem tidy_lifted (os : Os) (started : os.Started) (H : Type) (enc : TypeId × Value → H) :
    ReturnsInHanded {} Try.checked os 4 .any (Rows.fnExactTidyShelfSpec.pre6 enc Try.prog Try.f4 Rows.fnExactTidyShelfRow.domain false) (Rows.fnExactTidyShelfSpec.post enc Try.prog Try.f4 false true false false) := by
  refine returnsInHanded_of_change (C := Try.checked) Try.own started (by kernel_rfl) func4
    (ChangeSpec.witness6 (enc := enc) (C := Try.checked) false ⟨#[], #[.agg #[.slice none 0 0], .int .i64 0], []⟩ 8 (by kernel_rfl) (by kernel_rfl) (by kernel_rfl) (by kernel_rfl)) ?_
  intro W base args ds gs before hval0 hW _ _
  have hval : ∀ (j : Nat) t v, Try.f4.params[j]? = some t → args[j]? = some v → Value.okWide Try.prog W .any base t v := hval0
  have hW' := hW
  obtain ⟨p, q, hA0, hV, rfl, hfz, hnd⟩ := hW
  have hA : DataW.TrodAll enc Try.prog W 0 (fun _ => true) true [42, 3] args.toList ds p := hA0
  obtain ⟨v0, v1, d0, d1, p0, p1, rfl, rfl, rfl, h0, h1⟩ := trodAll_two hA
  obtain ⟨c0, s0, r0⟩ := trod_agg (P := Try.prog) 12 (by kernel_rfl) (tyok 42 _ rfl).1 (hval 0 42 v0 rfl rfl) h0
  obtain ⟨c1, s1, r1⟩ := trod_one (P := Try.prog) 12 (by kernel_rfl) (tyok 3 _ rfl).1 rfl (hval 1 3 v1 rfl rfl) h1
  obtain ⟨l, rfl, hok⟩ := shp_shelf s0
  obtain ⟨n, e1, _⟩ := s1.int_inv (tyok 3 _ rfl).1
  cases e1
  exact law_calls (P := Try.prog) (vs := [.agg ((shelfC l).map X.c), iv n]) tyok Try.laidOut rfl rfl (tyok 4 _ rfl).1 (by kernel_rfl) rfl hW' rfl
    (fun j x y hx hy L => by
      match j with
      | 0 => cases hx; cases hy; exact r0 L 16
      | 1 => cases hx; cases hy; exact r1 L 16
      | j + 2 => simp at hx)
    (c_laws_FnExactTidyShelf l n hok)

theorem tidy_holds : Rows.FnExactTidyShelfSaid :=
  OpenClaim.holds_of_wide 4 Try.f4 rfl rfl rfl rfl rfl rfl rfl ⟨rfl, rfl, rfl, rfl, rfl⟩ rfl rfl rfl rfl rfl (by kernel_rfl) func4 (by kernel_rfl)
    (of_decide_eq_true (by kernel_rfl)) (by unfold Func.isWrapper; first | (rw [if_pos (by decide +kernel)]; kernel_rfl) | (rw [if_neg (by decide +kernel)]; exact ⟨rfl, rfl⟩))
    (fun os started H enc _ => tidy_lifted os started H enc)
#print axioms tidy_holds
end Go.Proofs.Ythjohfhnpeiheaa
